/- A small machine over the translated code, and the proof that what it computes the code does. Conditions: none. -/
import Derived.KernelRfl
import Derived.Calls
import Derived.Tactics
import Derived.LoopN
import Derived.Maps.AppendAt
import Derived.Laws.Cells
import Derived.Laws.Rows
import Derived.WalkKit
import Derived.Laws.Tables
import Derived.Great.BuildSlice
import Derived.Laws.MakeOwn
import Derived.Deep.AppendSrc
import Derived.Deep.Upon
import Derived.Laws.CopyRow
set_option linter.all false
noncomputable section
namespace Go.DM
def aR {α:Sort _}{a b:α}:cond false a b=b:=rfl
def aO {α:Sort _}{a b:α}:cond true a b=a:=rfl
inductive L where
 | hole
 | int (n:Int)
 | bool (b:Bool)
 | str (s:ByteArray)
 | sl (xs:List (List L))
abbrev aq:=List (List L)
abbrev av:=ByteArray
def L.toInt:L->Int | .int n=>n | _=>0
def L.toBool:L->Bool | .bool b=>b | _=>false
def L.toStr:L->av | .str s=>s | _=>⟨#[]⟩
def L.dz:L->aq | .sl xs=>xs | _=>[]
inductive K where
 | int (k:IntKind)
 | bool
 | str
 | sl (e:Nat)
 deriving DecidableEq
def iW:IntKind->IntKind->Bool
 | .i8,.i8=>true | .i16,.i16=>true | .i32,.i32=>true | .i64,.i64=>true
 | .u8,.u8=>true | .u16,.u16=>true | .u32,.u32=>true | .u64,.u64=>true
 | _,_=>false
def K.beq:K->K->Bool
 | .int a,.int b=>iW a b
 | .bool,.bool=>true
 | .str,.str=>true
 | .sl a,.sl b=>Nat.beq a b
 | _,_=>false
inductive V where
 | undef
 | dead
 | int (k:IntKind) (n:Int)
 | bool (b:Bool)
 | str (s:av)
 | nil
 | sl (dep:Option Nat) (e:Nat) (xs:aq)
 | own (r:Nat)
 | lit (r:Nat) (n:Nat) (e:Nat)
 | bP (r:Nat) (off:Nat)
 | fM (r:Nat) (sz:Nat) (i:Nat) (off:Nat)
 | cS (dep:Option Nat) (es:List K) (cells:List L) (off:Nat)
 | gm (r:Nat) (sz:Nat) (i:Nat) (off:Nat) (e:Nat)
 | fn (f:FuncId) (caps:List V)
 | agg (cs:List V)
 | gW (vs:List V)
inductive aK where
 | dead
 | box (cells:List V)
 | row (e:Nat) (xs:aq)
 | qt (e:Nat) (xs:aq) (j:Nat) (cs:List L)
 | xW (e:Nat) (xs:aq) (i o:Nat)
 | vw (e:Nat) (xs:aq)
structure St where
 sl:Nat->V
 hp:Nat->aK
 nx:Nat
 fr:List V:=[]
structure TI where
 cells:List K
 agg:Bool
 fields:List (Nat×Nat)
 bytes:Nat
 eqv:Bool
def TI.el (i:TI):Option Nat:=bif i.agg then none else match i.cells with
 | [.sl e]=>some e
 | _=>none
inductive fF where
 | rd (k:K)
 | agg (ks:List K)
 | ptr (ks:List K)
 | fn (f:FuncId) (caps:List (List K))
 | nil
inductive Lf where
 | fr (e:Nat)
 | rd (k:K)
inductive RP where
 | one (l:Lf)
 | agg (ls:List Lf)
 | gW (ps:List (Bool×List Lf))
 | zj (es:List Nat)
 | zc (e:Nat) (ps:List (Bool×List Lf))
 | cur (ks:List K) (ps:List (Bool×List Lf))
 | uq (ks:List K)
structure gj where
 args:List fF
 res:RP
 sem:List L->Option (List L)
structure mB where
 args:List (Bool×List K)
 sem:List L->Option (List L)
abbrev aD:=Option (List L)
structure gA where
 run:List V->St->(V->St->aD)->aD
 late:Bool:=false
 keep:Bool:=false
def TI.isStr:Option TI->Bool
 | some i=>!i.agg&&(match i.cells with | [.str]=>true | _=>false)
 | none=>false
def TI.isBool:Option TI->Bool
 | some i=>!i.agg&&(match i.cells with | [.bool]=>true | _=>false)
 | none=>false
structure Env where
 T:Nat->Option TI
 G:FuncId->List gj
 nt:Nat
 M:FuncId->List mB:=fun _=>[]
 np:Nat:=0
 mt:Bool:=false
 I:FuncId->List gA:=fun _=>[]
 J:List Nat:=[]
def Env.bytes (E:Env)(t:Nat):Nat:=match E.T t with | some i=>i.bytes | none=>0
def Env.cells (E:Env)(t:Nat):List K:=match E.T t with | some i=>i.cells | none=>[]
def upd {α:Type}(f:Nat->α)(d:Nat)(v:α):Nat->α:=fun i=>bif Nat.beq i d then v else f i
def St.put (s:St)(d:Option Nat)(v:V):St:=
 match d with
 | none=>s
 | some d=>{ s with sl:=upd s.sl d v }
def dH (hp:Nat->aK)(nx:Nat):List aK->Nat->aK
 | []=>hp
 | r::rs=>dH (upd hp nx r) (nx+1) rs
def V.leaf:V->Bool
 | .int .. | .bool _ | .str _ | .nil | .sl .. | .own _ | .lit ..=>true
 | _=>false
def mX:Value->V
 | .int k n=>.int k n
 | .bool b=>.bool b
 | .string s=>.str s
 | .slice none 0 0=>.nil
 | _=>.dead
def yx:Value->V
 | .agg cs=>bif cs.toList.all (fun c=>(mX c).leaf) then .agg (cs.toList.map mX) else .dead
 | v=>mX v
def look (nt:Nat)(sl:Nat->V)(t:Nat):V:=bif Nat.blt t nt then sl t else .undef
def cV (nt:Nat)(sl:Nat->V):Operand->V
 | .tmp t=>look nt sl t
 | .const v=>yx v
 | .func f=>.fn f []
 | .global _=>.dead
def xZ (dep:Option Nat)(k:K)(l:L):V:=
 match k with
 | .int ik=>.int ik l.toInt
 | .bool=>.bool l.toBool
 | .str=>.str l.toStr
 | .sl e=>.sl dep e l.dz
def kr (dep:Option Nat):List K->List L->List V
 | [],_=>[]
 | k::ks,ls=>xZ dep k (ls.headD .hole)::kr dep ks ls.tail
def za:K->L
 | .int _=>.int 0
 | .bool=>.bool false
 | .str=>.str ⟨#[]⟩
 | .sl _=>.sl []
def zeroV:K->V
 | .int k=>.int k 0
 | .bool=>.bool false
 | .str=>.str ⟨#[]⟩
 | .sl _=>.nil
def cut {α:Type}(xs:List α)(off n:Nat):List α:=(xs.drop off).take n
def mkVar (agg:Bool)(cs:List V):V:=bif agg then .agg cs else cs.headD .dead
def oC (v:V)(k:List V->aD):aD:=
 match v with
 | .agg cs=>k cs
 | v=>bif v.leaf then k [v] else none
def vQ (ik:IntKind)(a b:Int):Int:=ik.wrap ((BitVec.ofInt ik.bits a&&& BitVec.ofInt ik.bits b).toNat:Int)
def Fg (ik:IntKind)(a b:Int):Int:=ik.wrap ((BitVec.ofInt ik.bits a||| BitVec.ofInt ik.bits b).toNat:Int)
def nA (ik:IntKind)(a b:Int):Int:=ik.wrap ((BitVec.ofInt ik.bits a ^^^ BitVec.ofInt ik.bits b).toNat:Int)
def AE (ik:IntKind)(a b:Int)(k:V->aD):aD:=bif decide (b<0) then none else k (.int ik (ik.wrap (a*2^(min b.toNat ik.bits))))
def AO (ik:IntKind)(a b:Int)(k:V->aD):aD:=bif decide (b<0) then none else k (.int ik (a.fdiv (2^(min b.toNat ik.bits))))
def oc (op:BinOp)(ik:IntKind)(a b:Int)(k:V->aD):aD:=
 match op with
 | .add=>k (.int ik (ik.wrap (a+b)))
 | .sub=>k (.int ik (ik.wrap (a - b)))
 | .mul=>k (.int ik (ik.wrap (a*b)))
 | .quo=>bif decide (b=0) then none else k (.int ik (ik.wrap (a.tdiv b)))
 | .rem=>bif decide (b=0) then none else k (.int ik (a.tmod b))
 | .eql=>k (.bool (a==b))
 | .neq=>k (.bool (a != b))
 | .lss=>k (.bool (decide (a<b)))
 | .leq=>k (.bool (decide (a<=b)))
 | .gtr=>k (.bool (decide (a>b)))
 | .geq=>k (.bool (decide (a>=b)))
 | .and=>k (.int ik (vQ ik a b))
 | .or=>k (.int ik (Fg ik a b))
 | .xor=>k (.int ik (nA ik a b))
 | _=>none
def fU:List V->List V->(Bool->aD)->aD
 | [],[],k=>k true
 | .int ik a::cs,.int jk b::ds,k=>bif iW ik jk then fU cs ds fun r=>k ((a==b)&&r) else none
 | .bool a::cs,.bool b::ds,k=>fU cs ds fun r=>k ((a==b)&&r)
 | .str a::cs,.str b::ds,k=>fU cs ds fun r=>k ((a==b)&&r)
 | _,_,_=>none
def qh:List K->List V->Bool
 | [],[]=>true
 | .int ik::ks,.int jk _::vs=>iW ik jk&&qh ks vs
 | .bool::ks,.bool _::vs=>qh ks vs
 | .str::ks,.str _::vs=>qh ks vs
 | _,_=>false
def TI.Ek:Option TI->Bool
 | some i=>i.agg&&i.eqv
 | none=>false
def binOp (E:Env)(op:BinOp)(t:Nat)(x y:V)(k:V->aD):aD:=
 match x with
 | .int ik a=>match y with
  | .int jk b=>match op with
   | .shl=>AE ik a b k
   | .shr=>AO ik a b k
   | op=>bif iW ik jk then oc op ik a b k else none
  | _=>none
 | .bool a=>match y with
  | .bool b=>bif TI.isBool (E.T t) then (match op with
   | .eql=>k (.bool (a==b))
   | .neq=>k (.bool (!(a==b)))
   | _=>none) else none
  | _=>none
 | .str a=>match y with
  | .str b=>match op with
   | .eql=>k (.bool (a==b))
   | .neq=>k (.bool (!(a==b)))
   | .lss=>k (.bool (Op.bytesLess a.toList b.toList))
   | .leq=>k (.bool (Op.bytesLess a.toList b.toList||a.toList==b.toList))
   | .gtr=>k (.bool (!(Op.bytesLess a.toList b.toList||a.toList==b.toList)))
   | .geq=>k (.bool (!(Op.bytesLess a.toList b.toList)))
   | .add=>bif decide (((a.size+b.size:Nat):Int)>9223372036854775807) then none else k (.str (a++b))
   | _=>none
  | _=>none
 | .agg cs=>match y with
  | .agg ds=>bif TI.Ek (E.T t)&&qh (E.cells t) cs then (match op with
   | .eql=>fU cs ds fun r=>k (.bool r)
   | .neq=>fU cs ds fun r=>k (.bool (!r))
   | _=>none) else none
  | _=>none
 | _=>none
def jw (hp:Nat->aK)(v:V)(k:L->aD):aD:=
 match v with
 | .int _ n=>k (.int n)
 | .bool b=>k (.bool b)
 | .str s=>k (.str s)
 | .nil=>k (.sl [])
 | .sl _ _ xs=>k (.sl xs)
 | .own r=>match hp r with
  | .row _ xs=>k (.sl xs)
  | .vw _ xs=>k (.sl xs)
  | _=>none
 | _=>none
def fits (hp:Nat->aK)(k:K)(v:V):Bool:=
 match k with
 | .int ik=>match v with | .int jk _=>iW ik jk | _=>false
 | .bool=>match v with | .bool _=>true | _=>false
 | .str=>match v with | .str _=>true | _=>false
 | .sl e=>match v with
  | .nil=>true
  | .sl _ e' _=>Nat.beq e e'
  | .own r=>match hp r with | .row e' _=>Nat.beq e e' | .vw e' _=>Nat.beq e e' | _=>false
  | _=>false
def gh (hp:Nat->aK):List K->List V->(List L->aD)->aD
 | [],[],k=>k []
 | kk::ks,v::vs,k=>bif fits hp kk v then jw hp v fun l=>gh hp ks vs fun ls=>k (l::ls) else none
 | _,_,_=>none
def tW (hp:Nat->aK)(ks:List K):Nat->List V->(aq->aD)->aD
 | 0,_,k=>k []
 | n+1,cs,k=>gh hp ks (cs.take ks.length) fun l=>tW hp ks n (cs.drop ks.length) fun ls=>k (l::ls)
def cN:V->Bool
 | .int .. | .bool _ | .str _ | .nil=>true
 | .sl none _ _=>true
 | _=>false
def bA:Nat->List L->List L
 | 0,l=>l
 | n+1,l=>bA n l.tail
def xh:List K->Nat->Option Nat
 | [],_=>none
 | k::ks,o=>match o with
  | 0=>(match k with | .sl e=>some e | _=>none)
  | o+1=>xh ks o
def gF (E:Env)(hp:Nat->aK)(v:V)(k:Option Nat->Nat->aq->aD):aD:=
 match v with
 | .sl d e xs=>k d e xs
 | .own r=>match hp r with
  | .row e xs=>k (some r) e xs
  | .vw e xs=>k none e xs
  | _=>none
 | .lit r n e=>match hp r with
  | .box cs=>bif Nat.ble n 16777216&&cs.all cN then tW hp (E.cells e) n cs fun xs=>k (some r) e xs else none
  | _=>none
 | .gm r sz i o e=>match hp r with
  | .row er xs=>bif Nat.beq sz (E.cells er).length then (match xh (E.cells er) o with
   | some e2=>bif Nat.beq e e2 then k (some r) e ((bA o (xs.getD i [])).headD .hole).dz else none
   | none=>none) else none
  | _=>none
 | _=>none
def DA:K->L->L
 | .int _,l=>.int l.toInt
 | .bool,l=>.bool l.toBool
 | .str,l=>.str l.toStr
 | .sl _,l=>.sl l.dz
def ke:List K->List L->List L
 | [],_=>[]
 | k::ks,l=>DA k (l.headD .hole)::ke ks l.tail
def iY (s:av):aq:=s.data.toList.map fun b=>[.int b.toNat]
def De (xs:aq):av:=⟨(xs.map fun r=>UInt8.ofNat (r.headD .hole).toInt.toNat).toArray⟩
def ck:Nat->List L->List L
 | 0,_=>[]
 | n+1,l=>l.headD .hole::ck n l.tail
def rZ:List K->List K->Bool
 | [],[]=>true
 | a::as,b::bs=>K.beq a b&&rZ as bs
 | _,_=>false
def rJ (hp:Nat->aK)(ks:List K)(v:V)(k:List L->aD):aD:=
 match v with
 | .bP r o=>bif Nat.beq o 0 then (match hp r with
  | .box cs=>gh hp ks cs k
  | _=>none) else none
 | .cS _ es cells o=>bif Nat.beq o 0&&rZ es ks then k (ck ks.length cells) else none
 | _=>none
def qU (hp:Nat->aK):List (List K)->List V->(List L->aD)->aD
 | [],[],k=>k []
 | q::qs,v::vs,k=>rJ hp q v fun a=>qU hp qs vs fun b=>k (a++b)
 | _,_,_=>none
def nT (E:Env)(hp:Nat->aK)(p:fF)(v:V)(k:List L->aD):aD:=
 match p with
 | .rd kk=>match v with
  | .lit r n e=>match hp r with
   | .box cs=>bif K.beq kk (.sl e)&&Nat.ble n 16777216 then tW hp (E.cells e) n cs fun xs=>k [.sl xs] else none
   | _=>none
  | v=>gh hp [kk] [v] k
 | .agg ks=>match v with
  | .agg cs=>gh hp ks cs k
  | _=>none
 | .ptr ks=>rJ hp ks v k
 | .fn f qs=>match v with
  | .fn g caps=>bif Nat.beq f g then qU hp qs caps k else none
  | _=>none
 | .nil=>match v with
  | .nil=>k []
  | _=>none
def nW (E:Env)(hp:Nat->aK):List fF->List V->(List L->aD)->aD
 | [],[],k=>k []
 | p::ps,v::vs,k=>nT E hp p v fun a=>nW E hp ps vs fun b=>k (a++b)
 | _,_,_=>none
def BA (l:Lf)(x:L)(nx:Nat)(k:V->List aK->aD):aD:=
 match l with
 | .fr e=>k (.own nx) [.row e x.dz]
 | .rd kk=>k (xZ none kk x) []
def sZ:List Lf->List L->Nat->(List V->List aK->List L->aD)->aD
 | [],ls,_,k=>k [] [] ls
 | p::ps,ls,nx,k=>BA p (ls.headD .hole) nx fun v rs=>sZ ps ls.tail (nx+rs.length) fun vs rs' ls=>k (v::vs) (rs++rs') ls
def vo:List (Bool×List Lf)->List L->Nat->(List V->List aK->aD)->aD
 | [],_,_,k=>k [] []
 | (a,q)::ps,ls,nx,k=>sZ q ls nx fun cs rs ls=>vo ps ls (nx+rs.length) fun vs rs'=>k (mkVar a cs::vs) (rs++rs')
def Ap (p:RP)(ls:List L)(nx:Nat)(k:V->List aK->aD):aD:=
 match p with
 | .one l=>BA l (ls.headD .hole) nx k
 | .agg q=>sZ q ls nx fun cs rs _=>k (.agg cs) rs
 | .gW ps=>vo ps ls nx fun vs rs=>k (.gW vs) rs
 | .zj _=>k .dead []
 | .zc _ _=>k .dead []
 | .cur _ _=>k .dead []
 | .uq _=>k .dead []
def vA (l:Lf)(x:L)(nx:Nat):V:=match l with | .fr _=>.own nx | .rd k=>xZ none k x
def wj (l:Lf)(x:L):List aK:=match l with | .fr e=>[.row e x.dz] | .rd _=>[]
def jN:List Lf->List L->Nat->List V
 | [],_,_=>[]
 | p::ps,ls,nx=>vA p (ls.headD .hole) nx::jN ps ls.tail (nx+(wj p (ls.headD .hole)).length)
def iK:List Lf->List L->List aK
 | [],_=>[]
 | p::ps,ls=>wj p (ls.headD .hole)++iK ps ls.tail
def jI:List (Bool×List Lf)->List L->Nat->List V
 | [],_,_=>[]
 | (a,q)::ps,ls,nx=>mkVar a (jN q ls nx)::jI ps (ls.drop q.length) (nx+(iK q ls).length)
def kU:List (Bool×List Lf)->List L->List aK
 | [],_=>[]
 | (_,q)::ps,ls=>iK q ls++kU ps (ls.drop q.length)
def RP.V (p:RP)(ls:List L)(nx:Nat):V:=
 match p with
 | .one l=>vA l (ls.headD .hole) nx
 | .agg q=>.agg (jN q ls nx)
 | .gW ps=>.gW (jI ps ls nx)
 | .zj _=>.dead
 | .zc _ _=>.dead
 | .cur _ _=>.dead
 | .uq _=>.dead
def RP.R (p:RP)(ls:List L):List aK:=
 match p with
 | .one l=>wj l (ls.headD .hole)
 | .agg q=>iK q ls
 | .gW ps=>kU ps ls
 | .zj _=>[]
 | .zc _ _=>[]
 | .cur _ _=>[]
 | .uq _=>[]
def RP.ok:RP->Bool
 | .gW ps=>ps.all fun p=>p.1||Nat.beq p.2.length 1
 | .zj _=>false
 | .zc _ _=>false
 | .cur _ _=>false
 | .uq _=>false
 | _=>true
def pR:List fF->List V->Bool
 | [],[]=>true
 | .fn f _::ps,.fn g _::vs=>Nat.beq f g&&pR ps vs
 | _::ps,_::vs=>pR ps vs
 | _,_=>false
def Lf.view:Lf->Bool
 | .rd (.sl _)=>true
 | _=>false
def RP.view:RP->Bool
 | .one l=>l.view
 | .agg q=>q.any Lf.view
 | .gW ps=>ps.any fun p=>p.2.any Lf.view
 | .zj _=>true
 | .zc _ _=>true
 | .cur _ _=>true
 | .uq _=>true
def jq:V->Bool
 | .cS none _ _ _=>true
 | _=>false
def gR:V->Bool
 | .agg cs=>cs.all cN
 | .cS none _ _ _=>true
 | .fn _ cs=>cs.all jq
 | v=>cN v
def nU (E:Env)(hp:Nat->aK)(nx:Nat)(vs:List V)(k:V->List aK->aD):List gj->aD
 | []=>none
 | c::cs=>bif pR c.args vs then
   (bif c.res.view&&!vs.all gR then none else nW E hp c.args vs fun ls=>(c.sem ls).bind fun r=>Ap c.res r nx k)
  else nU E hp nx vs k cs
def splice {α:Type}(cs:List α)(off:Nat)(new:List α):List α:=cs.take off++(new++cs.drop (off+new.length))
def ku (E:Env)(fs:List (Nat×Nat))(ρ:Operand->V):List (Nat×Operand)->List V->(List V->aD)->aD
 | [],cs,k=>k cs
 | p::ps,cs,k=>match fs[p.1]? with
  | none=>none
  | some f=>oC (ρ p.2) fun new=>bif Nat.beq new.length (E.cells f.2).length&&Nat.ble (f.1+new.length) cs.length then ku E fs ρ ps (splice cs f.1 new) k else none
def rO (E:Env)(e:Nat)(ρ:Operand->V):List (Nat×Operand)->Nat->(List V->aD)->aD
 | [],_,k=>k []
 | p::ps,j,k=>bif Nat.beq p.1 j then (oC (ρ p.2) fun new=>bif Nat.beq new.length (E.cells e).length then rO E e ρ ps (j+1) fun cs=>k (new++cs) else none) else none
def AF:V->Bool
 | .bP .. | .cS ..=>true
 | _=>false
def tY (E:Env)(hp:Nat->aK)(u:Nat)(v:V)(k:V->List aK->aD):aD:=
 match v with
 | .str s=>bif TI.isStr (E.T u) then k (.int .i64 s.size) [] else none
 | v=>match (E.T u).bind TI.el with
  | none=>none
  | some _=>match v with
   | .nil=>k (.int .i64 0) []
   | .lit _ n _=>k (.int .i64 n) []
   | v=>gF E hp v fun _ _ xs=>k (.int .i64 xs.length) []
def gG (ρ:Operand->V)(o:Option Operand)(d:Int)(k:Int->aD):aD:=
 match o with
 | none=>k d
 | some x=>match ρ x with
  | .int _ n=>k n
  | _=>none
def lZ (ρ:Operand->V)(el:Nat)(lo hi mx:Option Operand)(k:V->List aK->aD)(d:Option Nat)(e:Nat)(xs:aq):aD:=
 bif Nat.beq e el then (match mx with
  | none=>gG ρ lo 0 fun l=>gG ρ hi xs.length fun h=>
   bif decide (0<=l) then (cond (decide (l<=h)) (cond (decide (h<=(xs.length:Int))) (k (.sl d e ((xs.drop l.toNat).take (h - l).toNat)) []) none) none) else none
  | some m=>match lo with
   | some _=>none
   | none=>match hi with
    | none=>none
    | some h=>gG ρ (some h) 0 fun h=>gG ρ (some m) 0 fun m=>bif decide (h=0) then (cond (decide (m=0)) (k .nil []) none) else none) else none
def gS (E:Env)(hp:Nat->aK)(t:Nat)(ρ:Operand->V)(x:Operand)(lo hi mx:Option Operand)(k:V->List aK->aD):aD:=
 match ρ x with
 | .str s=>bif TI.isStr (E.T t) then (match mx with
  | none=>gG ρ lo 0 fun l=>gG ρ hi s.size fun h=>
    bif decide (0<=l) then (cond (decide (l<=h)) (cond (decide (h<=(s.size:Int))) (k (.str (s.extract l.toNat h.toNat)) []) none) none) else none
  | some _=>none) else none
 | .nil=>match (E.T t).bind TI.el with
  | some _=>(match mx with
   | none=>gG ρ lo 0 fun l=>gG ρ hi 0 fun h=>bif decide (l=0) then (cond (decide (h=0)) (k .nil []) none) else none
   | some m=>match lo with
    | some _=>none
    | none=>match hi with
     | none=>none
     | some h=>gG ρ (some h) 0 fun h=>gG ρ (some m) 0 fun m=>bif decide (h=0) then (cond (decide (m=0)) (k .nil []) none) else none)
  | none=>none
 | v=>match (E.T t).bind TI.el with
  | some el=>gF E hp v (lZ ρ el lo hi mx k)
  | none=>none
def Av:Option TI->Bool
 | some i=>!i.agg&&(match i.cells with | [.int .u8]=>true | _=>false)
 | none=>false
def lH (E:Env)(hp:Nat->aK)(src dst:Nat)(v:V)(k:V->List aK->aD):aD:=
 match v with
 | .int _ n=>match E.T src with
  | some _=>match E.T dst with
   | some i=>bif i.agg then none else (match i.cells with
    | [.int ik]=>k (.int ik (ik.wrap n)) []
    | _=>none)
   | none=>none
  | none=>none
 | .str s=>bif TI.isStr (E.T src) then (bif TI.isStr (E.T dst) then k (.str s) [] else (match (E.T dst).bind TI.el with
  | some el=>bif Av (E.T el)&&decide ((s.size:Int)<=140737488355328) then k (.sl none el (iY s)) [] else none
  | none=>none)) else none
 | v=>match (E.T src).bind TI.el with
  | some el=>bif Av (E.T el)&&TI.isStr (E.T dst) then (match v with
   | .nil=>k (.str ⟨#[]⟩) []
   | v=>gF E hp v fun _ e xs=>bif Nat.beq e el then k (.str (De xs)) [] else none) else none
  | none=>none
def dS:List K->Bool
 | []=>true
 | .sl _::_=>false
 | _::ks=>dS ks
def eK (n:Int):Bool:=@decide (n<=140737488355328) (Classical.propDecidable _)
def vh {n:Int}:eK n=true↔n<=140737488355328:=by unfold eK;exact @decide_eq_true_iff _ (Classical.propDecidable _)
def gC {n:Int}(h:n<=140737488355328):eK n=true:=vh.2 h
def wM {n:Int}(h:¬n<=140737488355328):eK n=false:=by
 cases hl:eK n with
 | true=>exact (h (vh.1 hl)).elim
 | false=>rfl
def aZ (E:Env)(o:Op)(ρ:Operand->V)(hp:Nat->aK)(nx:Nat)(k:V->List aK->aD):aD:=
 match o with
 | .move x=>k (ρ x) []
 | .assign x=>k (ρ x) []
 | .nilCheck x=>match ρ x with
  | .bP r o=>k (.bP r o) []
  | .fM r sz i o=>k (.fM r sz i o) []
  | .cS d es cs o=>k (.cS d es cs o) []
  | _=>none
 | .pick c a b=>match ρ c with
  | .bool t=>bif t then k (ρ a) [] else k (ρ b) []
  | _=>none
 | .unOp op _ x=>match op with
  | .not=>match ρ x with
   | .bool b=>k (.bool (!b)) []
   | _=>none
  | .neg=>match ρ x with
   | .int ik n=>k (.int ik (ik.wrap (0 - n))) []
   | _=>none
  | _=>none
 | .binOp op t x y _=>binOp E op t (ρ x) (ρ y) fun v=>k v []
 | .alloc t=>match E.T t with
  | some i=>k (.bP nx 0) [.box (i.cells.map zeroV)]
  | none=>none
 | .box t x=>match E.T t with
  | some _=>oC (ρ x) fun cs=>k (.bP nx 0) [.box cs]
  | none=>none
 | .fieldAddr t x f=>match E.T t with
  | none=>none
  | some i=>match i.fields[f]? with
   | none=>none
   | some p=>match ρ x with
    | .bP r o=>k (.bP r (o+p.1)) []
    | .fM r sz j o=>k (.fM r sz j (o+p.1)) []
    | .cS d es cs o=>k (.cS d es cs (o+p.1)) []
    | _=>none
 | .field t x f=>match E.T t with
  | none=>none
  | some i=>match i.fields[f]? with
   | none=>none
   | some p=>match ρ x with
    | .agg cs=>match E.T p.2 with
     | some fi=>bif Nat.ble (p.1+fi.cells.length) cs.length then k (mkVar fi.agg (cut cs p.1 fi.cells.length)) [] else none
     | none=>none
    | _=>none
 | .load t x=>match E.T t with
  | none=>none
  | some i=>match ρ x with
   | .bP r o=>match hp r with
    | .box cs=>bif Nat.ble (o+i.cells.length) cs.length then k (mkVar i.agg (cut cs o i.cells.length)) [] else none
    | _=>none
   | .fM r sz j o=>match hp r with
    | .row e xs=>bif Nat.beq sz (E.cells e).length&&Nat.ble (o+i.cells.length) sz then
      (bif E.mt&&!dS (cut (E.cells e) o i.cells.length) then (match cut (E.cells e) o i.cells.length with
       | [.sl e']=>bif i.agg then none else k (.gm r sz j o e') []
       | _=>none) else k (mkVar i.agg (kr (some r) (cut (E.cells e) o i.cells.length) (bA o (xs.getD j [])))) []) else none
    | .qt e _ j0 cs=>bif Nat.beq j j0&&(Nat.beq sz (E.cells e).length&&Nat.ble (o+i.cells.length) sz) then
      (bif !dS (cut (E.cells e) o i.cells.length) then (match cut (E.cells e) o i.cells.length with
       | [.sl e']=>bif i.agg then none else k (.gm r sz j o e') []
       | _=>none) else k (mkVar i.agg (kr (some r) (cut (E.cells e) o i.cells.length) (bA o cs))) []) else none
    | _=>none
   | .cS d es cs o=>bif Nat.ble (o+i.cells.length) es.length then
     k (mkVar i.agg (kr d (cut es o i.cells.length) (bA o cs))) [] else none
   | _=>none
 | .indexAddr t x i=>match (E.T t).bind TI.el with
  | none=>none
  | some el=>match ρ i with
   | .int _ n=>match ρ x with
    | .own r=>match hp r with
     | .row e xs=>bif Nat.beq e el then (cond (decide (0<=n)) (cond (decide (n<(xs.length:Int))) (k (.fM r (E.cells e).length n.toNat 0) []) none) none) else none
     | .qt e xs _ _=>bif Nat.beq e el then (cond (decide (0<=n)) (cond (decide (n<(xs.length:Int))) (k (.fM r (E.cells e).length n.toNat 0) []) none) none) else none
     | .xW e xs _ _=>bif Nat.beq e el then (cond (decide (0<=n)) (cond (decide (n<(xs.length:Int))) (k (.fM r (E.cells e).length n.toNat 0) []) none) none) else none
     | .vw e xs=>bif Nat.beq e el then (cond (decide (0<=n)) (cond (decide (n<(xs.length:Int))) (k (.cS none (E.cells e) (xs.getD n.toNat []) 0) []) none) none) else none
     | _=>none
    | v=>gF E hp v fun d e xs=>bif Nat.beq e el then (cond (decide (0<=n)) (cond (decide (n<(xs.length:Int))) (k (.cS d (E.cells e) (xs.getD n.toNat []) 0) []) none) none) else none
   | _=>none
 | .index t x i=>bif !TI.isStr (E.T t) then none else match ρ i with
  | .int _ n=>match ρ x with
   | .str s=>bif decide (0<=n) then (cond (decide (n<(s.size:Int))) (k (.int .u8 (s.data.toList.getD n.toNat 0).toNat) []) none) else none
   | _=>none
  | _=>none
 | .extract x i=>match ρ x with
  | .gW vs=>match vs[i]? with
   | some v=>k v []
   | none=>none
  | _=>none
 | .build t ps=>match E.T t with
  | some i=>bif i.agg then ku E i.fields ρ ps.toList (i.cells.map zeroV) fun cs=>k (.agg cs) [] else none
  | none=>none
 | .buildSlice t n ps=>match (E.T t).bind TI.el with
  | some el=>bif Nat.beq n ps.size then (match n with
   | 0=>k .nil []
   | _=>rO E el ρ ps.toList 0 fun cs=>bif Nat.ble cs.length 16777216 then
     (cond (dS (E.cells el)) (tW hp (E.cells el) n cs fun xs=>k (.own nx) [.row el xs]) (k (.lit nx n el) [.box cs])) else none) else none
  | none=>none
 | .makeSlice t a b=>match (E.T t).bind TI.el with
  | some el=>match ρ a with
   | .int .i64 n=>match ρ b with
    | .int .i64 m=>bif decide (0<=n) then (bif decide (n<=m) then (bif decide (m*E.bytes el<=140737488355328) then
      k (.own nx) [.row el (List.replicate n.toNat ((E.cells el).map za))] else none) else none) else none
    | _=>none
   | _=>none
  | none=>none
 | .slice t x lo hi mx=>gS E hp t ρ x lo hi mx k
 | .convert src dst x=>lH E hp src dst (ρ x) k
 | .makeFunc (.func f) b caps=>bif b.isEmpty&&(caps.toList.map ρ).all AF then k (.fn f (caps.toList.map ρ)) [] else none
 | .call { callee:=.builtin .len,args,argTypes }=>match args.toList with
  | [x]=>match argTypes.toList with
   | [u]=>tY E hp u (ρ x) k
   | _=>none
  | _=>none
 | .call { callee:=.builtin .append,args,argTypes }=>match args.toList with
  | [x,y]=>match argTypes.toList with
   | [t,u]=>bif Nat.beq t u then (match (E.T t).bind TI.el with
    | some el=>bif dS (E.cells el) then (match ρ x with
     | .nil=>match ρ y with
      | .nil=>k (.own nx) [.row el []]
      | v=>gF E hp v fun _ e ys=>bif Nat.beq e el&&eK ((ys.length:Int)*E.bytes el) then k (.own nx) [.row el ys] else none
     | _=>none) else none
    | none=>none) else none
   | _=>none
  | _=>none
 | .call { callee:=.builtin .max,args,.. }=>match args.toList with
  | [x,y]=>match ρ x with
   | .int .i64 a=>match ρ y with
    | .int .i64 b=>k (.int .i64 (cond (decide (a<b)) b a)) []
    | _=>none
   | _=>none
  | _=>none
 | .call { callee:=.builtin .min,args,.. }=>match args.toList with
  | [x,y]=>match ρ x with
   | .int .i64 a=>match ρ y with
    | .int .i64 b=>k (.int .i64 (cond (decide (b<a)) b a)) []
    | _=>none
   | _=>none
  | _=>none
 | .call { callee:=.value f,args,.. }=>match ρ f with
  | .fn g caps=>nU E hp nx (args.toList.map ρ++caps) k (E.G g)
  | _=>none
 | _=>none
def nw (hp hp':Nat->aK)(r:Option Nat)(m:Nat)(v:V):V:=
 match v with
 | .own q=>match hp' q with
  | .dead=>match hp q with
   | .row e xs=>.sl (some m) e xs
   | _=>v
  | _=>v
 | .sl (some q) e xs=>bif (match r with | some r=>Nat.beq q r | none=>false) then .dead else match hp' q with
  | .dead=>.sl (some m) e xs
  | _=>v
 | .gm q _ _ _ _=>bif (match r with | some r=>Nat.beq q r | none=>false) then .dead else match hp' q with
  | .dead=>.dead
  | _=>v
 | .cS (some q) a b c=>bif (match r with | some r=>Nat.beq q r | none=>false) then .dead else match hp' q with
  | .dead=>.cS (some m) a b c
  | _=>v
 | v=>v
def AI (hp hp':Nat->aK)(r:Option Nat)(m:Nat)(v:V):V:=
 match v with
 | .agg cs=>.agg (cs.map (nw hp hp' r m))
 | .gW _=>.dead
 | .fn f cs=>.fn f (cs.map (nw hp hp' r m))
 | v=>nw hp hp' r m v
def uk (hp hp':Nat->aK)(r:Option Nat)(m:Nat)(o:aK):aK:=
 match o with
 | .box cs=>.box (cs.map (nw hp hp' r m))
 | o=>o
def St.iX (s:St)(hp':Nat->aK)(r:Option Nat)(m nx:Nat):St:=
  { sl:=fun i=>AI s.hp hp' r m (s.sl i),hp:=fun i=>uk s.hp hp' r m (hp' i),nx:=nx,fr:=s.fr.map (AI s.hp hp' r m) }
def qj (hp:Nat->aK)(k:K)(v:V)(kk:L->Option Nat->aD):aD:=
 match k with
 | .int ik=>match v with | .int jk n=>bif iW ik jk then kk (.int n) none else none | _=>none
 | .bool=>match v with | .bool b=>kk (.bool b) none | _=>none
 | .str=>match v with | .str s=>kk (.str s) none | _=>none
 | .sl e=>match v with
  | .nil=>kk (.sl []) none
  | .own r=>match hp r with
   | .row e' xs=>bif Nat.beq e e' then kk (.sl xs) (some r) else none
   | _=>none
  | _=>none
def yY (hp:Nat->aK)(r:Option Nat):Nat->aK:=match r with | none=>hp | some r=>upd hp r .dead
def mH (hp:Nat->aK):List K->List V->(List L->(Nat->aK)->aD)->aD
 | [],[],k=>k [] hp
 | kk::ks,v::vs,k=>qj hp kk v fun l r=>mH (yY hp r) ks vs fun ls hp=>k (l::ls) hp
 | _,_,_=>none
def kN (ks:List K):Nat->(Nat->aK)->List V->(aq->(Nat->aK)->aD)->aD
 | 0,hp,cs,k=>bif cs.isEmpty then k [] hp else none
 | n+1,hp,cs,k=>mH hp ks (cs.take ks.length) fun l hp=>kN ks n hp (cs.drop ks.length) fun ls hp=>k (l::ls) hp
def lS (E:Env)(hp:Nat->aK)(e:Nat)(v:V)(k:aq->(Nat->aK)->aD):aD:=
 match v with
 | .nil=>k [] hp
 | .lit r n e'=>bif Nat.beq e e' then (match hp r with
  | .box cs=>kN (E.cells e) n (upd hp r .dead) cs k
  | _=>none) else none
 | .own r=>match hp r with
  | .row e' ys=>bif Nat.beq e e' then (cond (dS (E.cells e)) (k ys hp) (k ys (upd hp r .dead))) else none
  | _=>none
 | .sl _ e' ys=>bif Nat.beq e e'&&dS (E.cells e) then k ys hp else none
 | _=>none
def either (a b:aD):aD:=open Classical in if a=b then a else none
def vD (hp:Nat->aK)(v:V)(yes no:aD):aD:=
 match v with
 | .nil=>either yes no
 | .sl _ _ xs=>bif xs.isEmpty then either yes no else no
 | .own r=>match hp r with
  | .row _ xs=>bif xs.isEmpty then either yes no else no
  | _=>none
 | _=>none
def qA:Operand->Bool
 | .const (.slice none 0 0)=>true
 | _=>false
inductive eT where
 | none
 | own (r:Nat)
 | gm (r i o:Nat)
def eT.root:eT->List Nat
 | .none=>[]
 | .own r=>[r]
 | .gm r _ _=>[r]
def rj (E:Env)(hp:Nat->aK)(k:K)(v:V)(kk:L->List eT->aD):aD:=
 match k with
 | .int ik=>match v with | .int jk n=>bif iW ik jk then kk (.int n) [] else none | _=>none
 | .bool=>match v with | .bool b=>kk (.bool b) [] | _=>none
 | .str=>match v with | .str s=>kk (.str s) [] | _=>none
 | .sl e=>match v with
  | .nil=>kk (.sl []) [.none]
  | .own r=>match hp r with
   | .row e' xs=>bif Nat.beq e e' then kk (.sl xs) [.own r] else none
   | _=>none
  | .gm r sz i o e'=>match hp r with
   | .row er xs=>bif Nat.beq e e'&&Nat.beq sz (E.cells er).length then (match xh (E.cells er) o with
    | some e2=>bif Nat.beq e e2 then kk (.sl ((bA o (xs.getD i [])).headD .hole).dz) [.gm r i o] else none
    | none=>none) else none
   | .qt er _ j0 cs=>bif Nat.beq i j0&&(Nat.beq e e'&&Nat.beq sz (E.cells er).length) then (match xh (E.cells er) o with
    | some e2=>bif Nat.beq e e2 then kk (.sl ((bA o cs).headD .hole).dz) [.gm r i o] else none
    | none=>none) else none
   | _=>none
  | _=>none
def lV (E:Env)(hp:Nat->aK):List K->List V->(List L->List eT->aD)->aD
 | [],[],kk=>kk [] []
 | k::ks,v::vs,kk=>rj E hp k v fun l t=>lV E hp ks vs fun ls ts=>kk (l::ls) (t++ts)
 | _,_,_=>none
def ur (E:Env)(hp:Nat->aK):List (Bool×List K)->List V->(List L->List eT->aD)->aD
 | [],[],kk=>kk [] []
 | p::ps,v::vs,kk=>bif p.1 then (match v with
   | .agg cs=>lV E hp p.2 cs fun a t=>ur E hp ps vs fun b u=>kk (a++b) (t++u)
   | _=>none) else lV E hp p.2 [v] fun a t=>ur E hp ps vs fun b u=>kk (a++b) (t++u)
 | _,_,_=>none
def kA:List Nat->Nat->Bool
 | [],_=>false
 | r::rs,q=>Nat.beq q r||kA rs q
def roots:List eT->List Nat
 | []=>[]
 | t::ts=>t.root++roots ts
def distinct:List Nat->Bool
 | []=>true
 | r::rs=>!kA rs r&&distinct rs
def setAt {α:Type}:List α->Nat->α->List α
 | [],_,_=>[]
 | x::xs,n,y=>match n with | 0=>y::xs | n+1=>x::setAt xs n y
def sx (E:Env)(hp:Nat->aK)(t:eT)(l:L)(o:Nat->aK):Nat->aK:=
 match t with
 | .none=>o
 | .own r=>match hp r with
  | .row e _=>upd o r (.row e l.dz)
  | _=>o
 | .gm r i p=>match hp r with
  | .row e xs=>upd o r (.qt e xs i (setAt (ke (E.cells e) (xs.getD i [])) p (.sl l.dz)))
  | .qt e xs j cs=>upd o r (.qt e xs j (setAt (ke (E.cells e) cs) p (.sl l.dz)))
  | _=>o
def pM (E:Env)(hp:Nat->aK):List eT->List L->(Nat->aK)->Nat->aK
 | [],_,o=>o
 | t::ts,ls,o=>pM E hp ts ls.tail (sx E hp t (ls.headD .hole) o)
def iU (rs:List Nat)(v:V):V:=
 match v with
 | .sl (some q) _ _=>bif kA rs q then .dead else v
 | .cS (some q) _ _ _=>bif kA rs q then .dead else v
 | .gm q _ _ _ _=>bif kA rs q then .dead else v
 | v=>v
def eN (rs:List Nat)(v:V):V:=
 match v with
 | .agg cs=>.agg (cs.map (iU rs))
 | .gW _=>.dead
 | .fn f cs=>.fn f (cs.map (iU rs))
 | v=>iU rs v
def jF (rs:List Nat)(o:aK):aK:=
 match o with
 | .box cs=>.box (cs.map (iU rs))
 | o=>o
def St.marked (E:Env)(s:St)(ts:List eT)(ls:List L):St:=
  { sl:=fun i=>eN (roots ts) (s.sl i),hp:=fun q=>jF (roots ts) (pM E s.hp ts ls s.hp q),nx:=s.nx,fr:=s.fr.map (eN (roots ts)) }
def tv (E:Env)(o:Op)(s:St)(k:V->St->aD):aD:=
 match o with
 | .call { callee:=.value (.func g),args,.. }=>match E.M g with
  | c::_=>ur E s.hp c.args (args.toList.map (cV E.nt s.sl)) fun ls ts=>bif distinct (roots ts) then
    ((c.sem ls).bind fun r=>k (.int .i64 (r.headD .hole).toInt) (s.marked E ts r.tail)) else none
  | []=>none
 | _=>none
def BR (E:Env)(o:Op):Bool:=
 match o with
 | .call { callee:=.value (.func g),.. }=>!(E.M g).isEmpty
 | _=>false
def dK (sl:Nat->V)(i:Nat):Nat->List V
 | 0=>[]
 | n+1=>sl i::dK sl (i+1) n
def iQ:List V->Nat->V
 | [],_=>.undef
 | v::vs,i=>match i with | 0=>v | i+1=>iQ vs i
def C5 (E:Env)(s:St)(el:Nat)(x h:Operand)(k:V->St->aD):aD:=
 match cV E.nt s.sl x with
 | .own r=>match s.hp r with
  | .row e xs=>bif Nat.beq e el then (match cV E.nt s.sl h with
   | .int _ n=>bif decide (0<=n) then (bif decide (n<=(xs.length:Int)) then
     k (.own s.nx) (s.iX (upd (upd s.hp r .dead) s.nx (.row el (xs.take n.toNat))) none s.nx (s.nx+1)) else none) else none
   | _=>none) else none
  | _=>none
 | _=>none
def lK (E:Env)(o:Op)(s:St)(k:V->St->aD):aD:=
 match o with
 | .slice t x none (some h) none=>match (E.T t).bind TI.el with
  | some el=>C5 E s el x h k
  | none=>none
 | .call { callee:=.value (.func g),args,.. }=>match E.I g with
  | c::_=>c.run (args.toList.map (cV E.nt s.sl)) { s with fr:=dK s.sl 0 E.nt++s.fr } fun v s'=>k v { s' with sl:=iQ s'.fr,fr:=s'.fr.drop E.nt }
  | []=>none
 | .call { callee:=.value (.tmp t),args,.. }=>match cV E.nt s.sl (.tmp t) with
  | .fn g caps=>match E.I g with
   | c::_=>c.run (args.toList.map (cV E.nt s.sl)++caps) { s with fr:=dK s.sl 0 E.nt++s.fr } fun v s'=>k v { s' with sl:=iQ s'.fr,fr:=s'.fr.drop E.nt }
   | []=>none
  | _=>none
 | _=>none
def xX (E:Env)(o:Op):Bool:=
 match o with
 | .slice _ _ none (some _) none=>E.mt
 | .call { callee:=.value (.func g),.. }=>!(E.I g).isEmpty
 | .call { callee:=.value (.tmp t),.. }=>kA E.J t
 | _=>false
def jW (rs:List Nat)(hp:Nat->aK)(p:Nat):aK:=bif kA rs p then .dead else jF rs (hp p)
def St.split (s:St)(r er:Nat)(xs:aq)(i o e:Nat)(ys:aq):St:=
  { sl:=fun j=>eN [r] (s.sl j),hp:=fun q=>jF [r] (upd (upd s.hp r (.xW er xs i o)) s.nx (.row e ys) q),nx:=s.nx+1,fr:=s.fr.map (eN [r]) }
def Df (E:Env)(s:St)(r e:Nat)(xs:aq)(y:Operand)(k:V->St->aD):aD:=
 lS E (upd s.hp r .dead) e (cV E.nt s.sl y) fun ys hp=>
  bif eK (((xs.length:Int)+ys.length)*E.bytes e) then
   k (.own s.nx) (s.iX (upd hp s.nx (.row e (xs++ys))) (some r) s.nx (s.nx+1)) else none
def Br (v:V)(r:Nat):Bool:=match v with
 | .own q=>Nat.beq q r
 | _=>false
def jG (E:Env)(o:Op)(s:St)(k:V->St->aD):aD:=
 match o with
 | .store t x y=>match E.T t with
  | none=>none
  | some i=>oC (cV E.nt s.sl y) fun new=>bif Nat.beq new.length i.cells.length then (match cV E.nt s.sl x with
   | .bP r o=>match s.hp r with
    | .box cs=>bif Nat.ble (o+new.length) cs.length then
      k .undef (s.iX (upd s.hp r (.box (splice cs o new))) (some r) r s.nx) else none
    | _=>none
   | .fM r sz j o=>match s.hp r with
    | .row e xs=>bif Nat.beq sz (E.cells e).length&&Nat.ble (o+new.length) sz then
      mH (upd s.hp r .dead) (cut (E.cells e) o new.length) new fun ls hp=>
       k .undef (s.iX (upd hp r (cond E.mt (.qt e xs j (splice (ke (E.cells e) (xs.getD j [])) o ls)) (.row e (xs.set j (splice (ke (E.cells e) (xs.getD j [])) o ls))))) (some r) r s.nx) else none
    | .qt e xs j0 cs=>bif Nat.beq j j0&&(Nat.beq sz (E.cells e).length&&Nat.ble (o+new.length) sz) then
      mH (upd s.hp r .dead) (cut (E.cells e) o new.length) new fun ls hp=>
       k .undef (s.iX (upd hp r (.qt e xs j (splice (ke (E.cells e) cs) o ls))) (some r) r s.nx) else none
    | .xW e xs i0 o0=>bif Nat.beq j i0&&(Nat.beq o o0&&(Nat.beq new.length 1&&(Nat.beq sz (E.cells e).length&&Nat.ble (o+new.length) sz))) then
      mH (upd s.hp r .dead) (cut (E.cells e) o new.length) new fun ls hp=>
       k .undef (s.iX (upd hp r (.row e (xs.set j (splice (ke (E.cells e) (xs.getD j [])) o ls)))) (some r) r s.nx) else none
    | _=>none
   | _=>none) else none
 | .call { callee:=.builtin .append,args,argTypes }=>match args.toList with
  | [x,y]=>match argTypes.toList with
   | [t,u]=>bif Nat.beq t u then (match (E.T t).bind TI.el with
    | some el=>match cV E.nt s.sl x with
     | .nil=>lS E s.hp el (cV E.nt s.sl y) fun ys hp=>
       bif eK ((ys.length:Int)*E.bytes el) then
        k (.own s.nx) (s.iX (upd hp s.nx (.row el ys)) none s.nx (s.nx+1)) else none
     | .own r=>match s.hp r with
      | .row e xs=>bif Nat.beq e el then (bif Br (cV E.nt s.sl y) r&&dS (E.cells e) then
        (bif eK (((xs.length:Int)+xs.length)*E.bytes el) then
         k (.own s.nx) (s.iX (upd (upd s.hp r .dead) s.nx (.row e (xs++xs))) (some r) s.nx (s.nx+1)) else none)
        else lS E (upd s.hp r .dead) e (cV E.nt s.sl y) fun ys hp=>
         bif eK (((xs.length:Int)+ys.length)*E.bytes el) then
          k (.own s.nx) (s.iX (upd hp s.nx (.row e (xs++ys))) (some r) s.nx (s.nx+1)) else none) else none
      | _=>none
     | .lit r n e=>match s.hp r with
      | .box cs=>bif Nat.beq e el then kN (E.cells e) n (upd s.hp r .dead) cs fun xs hp=>lS E hp e (cV E.nt s.sl y) fun ys hp=>
        bif eK (((xs.length:Int)+ys.length)*E.bytes el) then
         k (.own s.nx) (s.iX (upd hp s.nx (.row e (xs++ys))) (some r) s.nx (s.nx+1)) else none else none
      | _=>none
     | .gm r sz i o e=>match s.hp r with
      | .row er rs=>bif Nat.beq e el&&Nat.beq sz (E.cells er).length then (match xh (E.cells er) o with
       | some e2=>bif Nat.beq e e2 then Df E (s.split r er rs i o e ((bA o (rs.getD i [])).headD .hole).dz) s.nx e ((bA o (rs.getD i [])).headD .hole).dz y k else none
       | none=>none) else none
      | _=>none
     | _=>none
    | none=>none) else none
   | _=>none
  | _=>none
 | .binOp op t x y _=>bif qA y then (match (E.T t).bind TI.el with
  | some _=>match op with
   | .eql=>vD s.hp (cV E.nt s.sl x) (k (.bool true) s) (k (.bool false) s)
   | .neq=>vD s.hp (cV E.nt s.sl x) (k (.bool false) s) (k (.bool true) s)
   | _=>none
  | none=>none) else none
 | _=>none
end Go.DM
namespace Go.DM
def AT:Op->Bool
 | .store ..=>true
 | .call { callee:=.builtin .append,.. }=>true
 | .binOp _ _ _ y _=>qA y
 | _=>false
def DB (all:List Oper):Operand->Bool
 | .const (.slice none 0 0)=>true
 | .tmp t=>all.any fun o=>(match o.dst with | some d=>Nat.beq d t | none=>false)&&(match o.op with | .buildSlice _ 0 _=>true | _=>false)
 | _=>false
def wB (all:List Oper):Op->Bool
 | .call { callee:=.builtin .append,args,.. }=>match args.toList with
  | x::_=>DB all x
  | []=>false
 | _=>false
def St.vi (s:St)(rs:List aK):St:={ s with hp:=dH s.hp s.nx rs,nx:=s.nx+rs.length }
def gH (E:Env)(o:Op)(s:St)(k:V->St->aD):aD:=
 bif AT o then jG E o s k else bif BR E o then tv E o s k else bif xX E o then lK E o s k else aZ E o (cV E.nt s.sl) s.hp s.nx fun v rs=>k v (s.vi rs)
def guarded (nt:Nat)(all:List Oper)(sl:Nat->V)(g:Option (Nat×Bool))(k:Bool->Option (Nat×Nat×Bool)->aD):aD:=
 match g with
 | none=>k true none
 | some (j,b)=>match all[j]? with
  | none=>none
  | some o=>match o.dst with
   | none=>none
   | some d=>match look nt sl d with
    | .bool t=>bif t then k b (some (j,d,true)) else k (!b) (some (j,d,false))
    | .undef=>k false none
    | _=>none
def St.nV (s:St)(kn:Option (Nat×Nat×Bool)):St:=match kn with
 | none=>s
 | some (_,d,t)=>{ s with sl:=upd s.sl d (.bool t) }
def St.vI (s:St)(c:Operand)(t:Bool):St:=match c with
 | .tmp d=>{ s with sl:=upd s.sl d (.bool t) }
 | _=>s
def iz (E:Env)(all:List Oper):List Oper->St->(St->aD)->aD
 | [],s,k=>k s
 | o::os,s,k=>guarded E.nt all s.sl o.guard fun go kn=>
   bif go then gH E o.op (s.nV kn) fun v s=>iz E all os (s.put o.dst v) k
   else iz E all os ((s.nV kn).put o.dst .undef) k
structure Out where
 v:V
 rs:List aK
def BP:List Out->V
 | []=>.dead
 | u::_=>u.v
def zS:List aK->Nat->aK
 | [],_=>.dead
 | r::rs,i=>match i with | 0=>r | i+1=>zS rs i
def yF:List Out->Nat->Nat->aK
 | [],_,_=>.dead
 | u::us,i,l=>match i with | 0=>zS u.rs l | i+1=>yF us i l
def jx (sl:Nat->V)(D:Nat->Bool):List Oper->List Out->Nat->Nat->V
 | [],_,_,t=>sl t
 | o::os,us,j,t=>match o.dst with
  | some d=>bif Nat.beq t d then (cond (D j) (BP us) .dead) else jx sl D os us.tail (j+1) t
  | none=>jx sl D os us.tail (j+1) t
def ng (hp:Nat->aK)(nx:Nat)(D:Nat->Bool)(us:List Out)(r:Nat):aK:=
 bif Nat.blt r nx then hp r else bif D ((r - nx) / 64) then yF us ((r - nx) / 64) ((r - nx) % 64) else .dead
def gV (E:Env)(all:List Oper):List Oper->Nat
 | []=>0
 | o::os=>bif (AT o.op&&!wB all o.op)||(BR E o.op||xX E o.op) then 0 else gV E all os+1
def jA (bs:List Nat):List Edge->Nat
 | []=>0
 | e::es=>bif Region.binds .any e then jA bs es||| (2^e.on||| bs.getD e.on 0) else jA bs es
def masks:List Oper->List Nat->List Nat
 | [],bs=>bs
 | o::os,bs=>masks os (bs++[jA bs o.after.toList])
def kK:List Oper->Nat->Bool
 | [],_=>true
 | o::os,i=>(o.after.toList.all fun e=>!Region.binds .any e||Nat.blt e.on i)&&kK os (i+1)
def qY:List Nat->Nat->Bool
 | [],_=>true
 | b::bs,i=>Nat.beq b (2^i - 1)&&qY bs (i+1)
def eE:List Nat->Bool
 | []=>true
 | a::as=>as.all (fun b=>!Nat.beq a b)&&eE as
def iL:List Oper->List Nat
 | []=>[]
 | o::os=>match o.dst with | some d=>d::iL os | none=>iL os
def BL:List Out->Nat->V->List Out
 | [],_,_=>[]
 | u::us,j,v=>match j with | 0=>⟨v,u.rs⟩::us | j+1=>u::BL us j v
def qJ (us:List Out)(kn:Option (Nat×Nat×Bool)):List Out:=match kn with
 | none=>us
 | some (j,_,t)=>BL us j (.bool t)
def lO (E:Env)(all hs:List Oper)(bs:List Nat)(sl:Nat->V)(hp:Nat->aK)(nx:Nat):List Oper->Nat->List Out->(List Out->aD)->aD
 | [],_,us,k=>k us
 | o::os,i,us,k=>
  guarded E.nt all (jx sl (bs.getD i 0).testBit hs us 0) o.guard fun go kn=>
   bif go then aZ E o.op (cV E.nt (jx sl (bs.getD i 0).testBit hs (qJ us kn) 0)) (ng hp nx (bs.getD i 0).testBit (qJ us kn)) (nx+64*i) fun v rs=>
    bif Nat.ble rs.length 64 then lO E all hs bs sl hp nx os (i+1) (qJ us kn++[⟨v,rs⟩]) k else none
   else lO E all hs bs sl hp nx os (i+1) (qJ us kn++[⟨.undef,[]⟩]) k
def always (_:Nat):Bool:=true
def fJ (o:Operand)(d:Nat):Bool:=match o with | .tmp t=>Nat.beq t d | _=>false
def oR (nt:Nat)(ρ:Nat->V)(r0:Nat)(x y:Operand)(o:Oper):Bool:=
 match o.guard with
 | some _=>false
 | none=>match o.dst with
  | none=>false
  | some d=>!fJ x d&&(!fJ y d&&(match o.op with
   | .extract _ _=>true
   | .fieldAddr _ _ _=>true
   | .move _=>true
   | .slice _ z _ _ none=>(match cV nt ρ z with
    | .sl _ _ _=>true
    | .own _=>true
    | _=>false)
   | .load _ z=>(match cV nt ρ z with
    | .bP r _=>!Nat.beq r r0
    | .cS none _ _ _=>true
    | _=>false)
   | _=>false))
def rT (nt:Nat)(hs:List Oper)(bs:List Nat)(sl:Nat->V)(us:List Out)(r0:Nat)(x y:Operand)(m:Nat):List Oper->Nat->Bool
 | [],_=>true
 | o::os,i=>(m.testBit i||oR nt (jx sl (bs.getD i 0).testBit hs (us.take i) 0) r0 x y o)&&rT nt hs bs sl us r0 x y m os (i+1)
def wY (nt:Nat)(hs:List Oper)(bs:List Nat)(sl:Nat->V)(hp:Nat->aK)(nx:Nat)(us:List Out)(h:Nat)(o:Oper):Bool:=
 match o.guard with
 | some _=>false
 | none=>match o.dst with
  | some _=>false
  | none=>match o.op with
   | .store _ x y=>(match cV nt (jx sl (bs.getD h 0).testBit hs us 0) x with
    | .bP r0 _=>(match ng hp nx (bs.getD h 0).testBit us r0 with
     | .box _=>rT nt hs bs sl us r0 x y (bs.getD h 0) hs 0
     | _=>false)
    | _=>false)
   | _=>false
def EI {α:Type}:Nat->List α->List α
 | 0,a::b::l=>b::a::l
 | n+1,a::l=>a::EI n l
 | _,l=>l
def Eo (h j:Nat):Nat:=bif Nat.beq j h then h+1 else bif Nat.beq j (h+1) then h else j
def swpG (h:Nat)(g:Option (Nat×Bool)):Option (Nat×Bool):=match g with
 | none=>none
 | some p=>some (Eo h p.1,p.2)
def lateI (E:Env)(ρ:Operand->V)(d:Nat)(o:Op):Bool:=
 match o with
 | .call { callee:=.value f,args,.. }=>args.toList.all (fun x=>!fJ x d)&&(match ρ f with
  | .fn g _=>(match E.I g with | c::_=>c.late | []=>false)
  | _=>false)
 | _=>false
def lT (bs:List Nat):Nat->Nat
 | 0=>0
 | n+1=>bif Nat.beq (bs.getD n 0) (2^n - 1) then lT bs n else n+1
def eD:Op->Option (List Operand)
 | .alloc _=>some []
 | .move x=>some [x]
 | .assign x=>some [x]
 | .box _ x=>some [x]
 | .pick c a b=>some [c,a,b]
 | .load _ x=>some [x]
 | .unOp _ _ x=>some [x]
 | .convert _ _ x=>some [x]
 | .fieldAddr _ x _=>some [x]
 | .field _ x _=>some [x]
 | .extract x _=>some [x]
 | .nilCheck x=>some [x]
 | .build _ ps=>some (ps.toList.map (·.2))
 | .buildSlice _ _ ps=>some (ps.toList.map (·.2))
 | .store _ a v=>some [a,v]
 | .binOp _ _ a v _=>some [a,v]
 | .makeSlice _ a v=>some [a,v]
 | .indexAddr _ a v=>some [a,v]
 | .index _ a v=>some [a,v]
 | .slice _ x l h m=>some (x::(l.toList++(h.toList++m.toList)))
 | .call { callee:=.value f,args,.. }=>some (f::args.toList)
 | .call { callee:=.builtin _,args,.. }=>some args.toList
 | _=>none
def rC (us:List Operand)(m:Nat):List Oper->Nat->Bool
 | [],_=>true
 | o::os,j=>(match o.dst with | some d=>m.testBit j||us.all fun x=>!fJ x d | none=>true)&&rC us m os (j+1)
def gn (o:Oper):Bool:=match o.guard with
 | some _=>false
 | none=>match o.dst with
  | none=>false
  | some _=>match o.op with
   | .load _ (.tmp _)=>true
   | .fieldAddr _ (.tmp _) _=>true
   | _=>false
def zw:BinOp->Bool
 | .add=>true | .sub=>true | .mul=>true
 | _=>false
def qp (o:Oper):Bool:=match o.guard with
 | some _=>false
 | none=>match o.dst with
  | none=>false
  | some _=>match o.op with
   | .move (.tmp _)=>true
   | .extract (.tmp _) _=>true
   | .binOp op _ _ y _=>zw op&&!qA y
   | _=>false
def iC (o:Oper):Bool:=gn o||qp o
def Da:Operand->Bool
 | .const _=>true
 | _=>false
def Ab (R:Nat)(v:V)(r:aK):Bool:=match v with
 | .bP q o=>Nat.beq q R&&(Nat.beq o 0&&(match r with | .box zs=>zs.all cN | _=>false))
 | .own q=>Nat.beq q R&&(match r with | .row _ _=>true | _=>false)
 | _=>false
def Ct (rs:List aK)(k:aK->aD):aD:=match rs with
 | [r]=>k r
 | _=>none
def iM (o:Oper):Bool:=match o.guard with
 | some _=>false
 | none=>match o.dst with
  | none=>false
  | some _=>match o.op with
   | .alloc _=>true
   | .buildSlice _ n ps=>!Nat.beq n 0&&ps.toList.all fun p=>Da p.2
   | _=>false
def Dp (bs:List Nat):List Oper->Nat->Nat->List Nat×Nat
 | [],_,dm=>([],dm)
 | o::os,i,dm=>bif iC o&&(!dm.testBit i&&Nat.beq (Nat.land (bs.getD i 0) dm) (bs.getD i 0)) then
   (match Dp bs os (i+1) (dm||| 2^i) with | (l,dm)=>(i::l,dm)) else Dp bs os (i+1) dm
def zh (m:Nat):List Oper->Nat->Nat->List Nat×Nat
 | [],_,dm=>([],dm)
 | o::os,i,dm=>bif iM o&&(m.testBit i&&!dm.testBit i) then (match zh m os (i+1) (dm||| 2^i) with | (l,dm)=>(i::l,dm)) else zh m os (i+1) dm
def BC:List Oper->Nat->Nat->Option Nat
 | [],_,_=>none
 | o::os,i,dm=>bif (iC o||iM o)||dm.testBit i then BC os (i+1) dm else some i
def vm (all:List Oper)(bs:List Nat):Nat->Nat->List Nat
 | 0,_=>[]
 | n+1,dm=>match Dp bs all 0 dm with
  | (l,dm)=>match BC all 0 dm with
   | none=>l++(zh (2^all.length - 1) all 0 dm).1
   | some i=>match zh (bs.getD i 0) all 0 dm with
    | (l2,dm)=>l++(l2++i::vm all bs n (dm||| 2^i))
def mA (p:Oper->Bool)(all:List Oper)(i:Nat):Bool:=match all[i]? with | some o=>p o | none=>false
def oF (all:List Oper):List Nat->Option Nat
 | []=>none
 | i::is=>bif mA iM all i then oF all is else some i
def xy (E:Env)(g:FuncId):Bool:=match E.I g with | c::_=>c.keep | []=>false
def CV (E:Env)(g:FuncId):Bool:=match E.I g with | c::_=>c.late | []=>false
def jE (E:Env)(o:Op):Bool:=!AT o&&(!BR E o&&(!xX E o||(match o with | .call { callee:=.value (.func g),.. }=>CV E g | _=>false)))
def zX (all:List Oper)(o:Oper):Bool:=match o.op with
 | .move (.tmp z)=>all.all fun o'=>!gn o'||(match o'.dst with | some d=>!Nat.beq d z | none=>true)
 | .extract (.tmp z) _=>all.all fun o'=>!gn o'||(match o'.dst with | some d=>!Nat.beq d z | none=>true)
 | _=>true
def vV (E:Env)(base:Nat)(all:List Oper)(bs:List Nat):List Nat->Nat->Bool
 | [],_=>true
 | i::is,dm=>(match all[i]? with
  | none=>false
  | some o=>!dm.testBit i&&(Nat.beq (Nat.land (bs.getD i 0) dm) (bs.getD i 0)&&
    ((bif iM o then ((aZ E o.op (cV E.nt fun _=>.dead) (fun _=>.dead) (base+i) fun v rs=>Ct rs fun r=>bif Ab (base+i) v r then some [] else none).isSome&&(match o.dst with | some d=>Nat.blt d E.nt | none=>false))&&(match oF all is with | none=>true | some x=>(bs.getD x 0).testBit i&&!mA iC all x)
     else iC o&&zX all o||!iC o&&(is.all (fun x=>mA iM all x||(bs.getD x 0).testBit i)&&(!is.any (mA iM all)||jE E o.op)))&&
    ((match eD o.op with | none=>false | some us=>rC us (bs.getD i 0) all 0)&&(match o.guard with | none=>true | some g=>(bs.getD i 0).testBit g.1)))))&&vV E base all bs is (dm||| 2^i)
def sA (r:Nat):V->Bool
 | .bP q _=>!Nat.beq q r
 | .fn _ cs=>cs.all fun v=>match v with | .bP q _=>!Nat.beq q r | _=>true
 | _=>true
def lG (E:Env)(s:St)(o:Op)(f:Oper):Bool:=
 match f.op with
  | .load t (.tmp z)=>(match f.dst with | some d=>Nat.blt d E.nt | none=>false)&&(!AT o&&(!BR E o&&(match look E.nt s.sl z with
   | .bP r _=>bif xX E o then (match o with
    | .call { callee:=.value (.func g),args,.. }=>xy E g&&(args.toList.all (fun x=>sA r (cV E.nt s.sl x))&&(match E.T t with
     | none=>false
     | some i=>i.agg||(match f.dst with | none=>false | some d=>(s.sl d).leaf)))
    | _=>false) else true
   | _=>false)))
  | .fieldAddr _ (.tmp z) _=>(match f.dst with | some d=>Nat.blt d E.nt | none=>false)&&(!AT o&&(!BR E o&&(match look E.nt s.sl z with
   | .bP _ _=>!xX E o||(match o with | .call { callee:=.value (.func g),.. }=>xy E g | _=>false)
   | .fM _ _ _ _=>!xX E o||(match o with | .call { callee:=.value (.func g),.. }=>xy E g | _=>false)
   | _=>false)))
  | _=>true
def vX (E:Env)(all:List Oper)(m:Nat)(s:St)(o:Op):List Nat->Bool
 | []=>true
 | j::js=>(m.testBit j||(match all[j]? with | none=>false | some f=>!iC f||lG E s o f))&&vX E all m s o js
def oG (E:Env)(s:St):Op->Bool
 | .binOp _ _ x y _=>(match cV E.nt s.sl x with
  | .int _ _=>(match cV E.nt s.sl y with
   | .int _ _=>true
   | _=>false)
  | _=>false)
 | _=>true
def lq (E:Env)(all:List Oper)(bs:List Nat)(base:Nat):List Nat->List Nat->St->(St->aD)->aD
 | _,[],s,k=>k s
 | done,i::is,s,k=>match all[i]? with
  | none=>none
  | some o=>bif iM o then (aZ E o.op (cV E.nt fun _=>.dead) (fun _=>.dead) (base+i) fun v rs=>Ct rs fun r=>
     lq E all bs base (i::done) is (St.put { s with hp:=upd s.hp (base+i) r } o.dst v) k)
   else bif (cond (iC o) (oG E s o.op) (vX E all (bs.getD i 0) s o.op done)) then
    (guarded E.nt all s.sl o.guard fun go kn=>
     bif go then gH E o.op (s.nV kn) fun v s=>lq E all bs base (i::done) is (s.put o.dst v) k
     else lq E all bs base (i::done) is ((s.nV kn).put o.dst .undef) k) else none
def ry (o:Oper):Bool:=match o.guard with
 | some _=>false
 | none=>match o.dst with
  | some _=>false
  | none=>match o.op with
   | .store _ _ _=>true
   | _=>false
def vF (E:Env)(ops:Array Oper)(s:St)(k:St->aD):aD:=
 let all:=ops.toList
 let bs:=masks all []
 let h:=gV E all all
 let c:=lT bs h
 bif kK all 0&&(qY (bs.drop c) c&&eE (iL (all.take c))) then
  lO E all (all.take c) bs s.sl s.hp s.nx (all.take c) 0 [] fun us=>
   iz E all (all.drop c) { sl:=jx s.sl always (all.take c) us 0,hp:=ng s.hp s.nx always us,nx:=s.nx+64*c,fr:=s.fr } k
 else bif kK all 0&&(qY (bs.drop (h+1)) (h+1)&&(eE (iL (all.take h))&&mA ry all h)) then (match all[h]? with
  | none=>none
  | some o=>lO E all (all.take h) bs s.sl s.hp s.nx (all.take h) 0 [] fun us=>bif wY E.nt (all.take h) bs s.sl s.hp s.nx us h o then
   iz E all (all.drop h) { sl:=jx s.sl always (all.take h) us 0,hp:=ng s.hp s.nx always us,nx:=s.nx+64*h,fr:=s.fr } k else none)
 else
  let od:=vm all bs all.length 0
  bif kK all 0&&(eE (iL all)&&(Nat.beq od.length all.length&&vV E s.nx all bs od 0)) then lq E all bs s.nx [] od { s with nx:=s.nx+all.length } k else none
inductive Ex where
 | normal | ret | exit (id:Nat)
def idx (r:Nat):List Nat->Nat->Option Nat
 | [],_=>none
 | a::m,j=>bif Nat.beq a r then some j else idx r m (j+1)
def lY (r:Nat)(m:List Nat)(k:Nat->List Nat->aD):aD:=
 match idx r m 0 with
 | some j=>k j m
 | none=>k m.length (m++[r])
def vG (v:V)(m:List Nat)(k:V->List Nat->aD):aD:=
 match v with
 | .own r=>lY r m fun j m=>k (.own j) m
 | .sl (some r) a b=>lY r m fun j m=>k (.sl (some j) a b) m
 | .lit r a b=>lY r m fun j m=>k (.lit j a b) m
 | .bP r o=>lY r m fun j m=>k (.bP j o) m
 | .fM r a i o=>lY r m fun j m=>k (.fM j a i o) m
 | .gm r a i o e=>lY r m fun j m=>k (.gm j a i o e) m
 | .cS (some r) a b c=>lY r m fun j m=>k (.cS (some j) a b c) m
 | v=>k v m
def nK:List V->List Nat->(List V->List Nat->aD)->aD
 | [],m,k=>k [] m
 | v::vs,m,k=>vG v m fun v m=>nK vs m fun vs m=>k (v::vs) m
def AM (v:V)(m:List Nat)(k:V->List Nat->aD):aD:=
 match v with
 | .agg cs=>nK cs m fun cs m=>k (.agg cs) m
 | .fn f cs=>nK cs m fun cs m=>k (.fn f cs) m
 | .gW _=>k .dead m
 | v=>vG v m k
abbrev Live:=List (Nat×Option Nat)
def mM (hp:Nat->aK)(r:Nat)(v:V):V:=
 match v with
 | .own q=>bif Nat.beq q r then (match hp r with | .row e xs=>.sl none e xs | _=>v) else v
 | .sl (some q) e xs=>bif Nat.beq q r then .sl none e xs else v
 | .cS (some q) a b c=>bif Nat.beq q r then .cS none a b c else v
 | .gm q _ _ _ _=>bif Nat.beq q r then .dead else v
 | v=>v
def Bx (hp:Nat->aK)(r:Nat)(v:V):V:=
 match v with
 | .agg cs=>.agg (cs.map (mM hp r))
 | .gW _=>.dead
 | .fn f cs=>.fn f (cs.map (mM hp r))
 | v=>mM hp r v
def zm (hp:Nat->aK)(r:Nat)(o:aK):aK:=
 match o with
 | .box cs=>.box (cs.map (mM hp r))
 | o=>o
def St.nZ (s:St)(r:Nat):St:=
  { sl:=fun i=>Bx s.hp r (s.sl i),hp:=fun q=>bif Nat.beq q r then .dead else zm s.hp r (s.hp q),nx:=s.nx,fr:=s.fr.map (Bx s.hp r) }
def fV (s:St):List V->St
 | []=>s
 | .own r::cs=>match s.hp r with
  | .row _ _=>fV (s.nZ r) cs
  | _=>fV s cs
 | .sl (some r) _ _::cs=>match s.hp r with
  | .row _ _=>fV (s.nZ r) cs
  | _=>fV s cs
 | _::cs=>fV s cs
def Bk (s:St)(t e:Nat)(k:St->aD):aD:=
 match s.sl t with
 | .nil=>k { s with sl:=upd s.sl t (.sl none e []) }
 | .own r=>match s.hp r with
  | .row _ _=>k (s.nZ r)
  | _=>none
 | .sl (some r) _ _=>match s.hp r with
  | .row _ _=>k (s.nZ r)
  | _=>k s
 | .agg cs=>k (fV s cs)
 | .bP r _=>match s.hp r with
  | .box cs=>k (fV s cs)
  | _=>k s
 | _=>k s
def oJ (E:Env)(s:St)(r n e:Nat)(k:St->aD):aD:=bif Nat.ble n 16777216 then (match s.hp r with
 | .box cs=>kN (E.cells e) n (upd s.hp r .dead) cs fun xs hp=>k (s.iX (upd hp s.nx (.row e xs)) (some r) s.nx (s.nx+1))
 | _=>none) else none
def coerce (E:Env)(s:St)(t:Nat)(e:Option Nat)(k:St->aD):aD:=
 match e with
 | none=>k s
 | some e=>bif Nat.ble 1099511627776 e then Bk s t (e - 1099511627776) k else match s.sl t with
  | .nil=>k { s with sl:=upd s.sl t (.own s.nx),hp:=upd s.hp s.nx (.row e []),nx:=s.nx+1 }
  | .lit r n e'=>bif Nat.beq e e'&&Nat.ble n 16777216 then (match s.hp r with
   | .box cs=>kN (E.cells e) n (upd s.hp r .dead) cs fun xs hp=>
     let s':=s.iX (upd hp s.nx (.row e xs)) (some r) s.nx (s.nx+1)
     k { s' with sl:=upd s'.sl t (.own s.nx) }
   | _=>none) else none
  | .bP r _=>match s.hp r with
   | .box cs=>match iQ cs (e / 1048576) with
    | .nil=>k { s with hp:=upd (upd s.hp r (.box (setAt cs (e / 1048576) (.own s.nx)))) s.nx (.row (e % 1048576) []),nx:=s.nx+1 }
    | .lit q n e'=>bif Nat.beq (e % 1048576) e' then oJ E s q n e' fun s'=>(match s'.hp r with
     | .box cs=>k { s' with hp:=upd s'.hp r (.box (setAt cs (e / 1048576) (.own s.nx))) }
     | _=>none) else none
    | _=>k s
   | _=>k s
  | .agg cs=>match iQ cs (e / 1048576) with
   | .lit q n e'=>bif Nat.beq (e % 1048576) e' then oJ E s q n e' fun s'=>(match s'.sl t with
     | .agg cs=>k { s' with sl:=upd s'.sl t (.agg (setAt cs (e / 1048576) (.own s.nx))) }
     | _=>none) else none
   | _=>k s
  | _=>k s
def gU (E:Env):Live->St->(St->aD)->aD
 | [],s,k=>k s
 | (t,e)::l,s,k=>coerce E s t e fun s=>gU E l s k
def rV:List V->List Nat->(List V->List Nat->aD)->aD
 | [],m,k=>k [] m
 | v::vs,m,k=>AM v m fun v m=>rV vs m fun vs m=>k (v::vs) m
def yN:aK->aK
 | .qt e xs j cs=>.row e (xs.set j cs)
 | o=>o
def qw (hp:Nat->aK):Nat->Nat->List Nat->(List aK->aD)->aD
 | 0,_,_,_=>none
 | n+1,j,m,k=>match m[j]? with
  | none=>k []
  | some r=>match hp r with
   | .box cs=>nK cs m fun cs m=>qw hp n (j+1) m fun h=>k (.box cs::h)
   | o=>qw hp n (j+1) m fun h=>k (yN o::h)
def uQ:Live->List V->Nat->V
 | (a,_)::as,v::vs,i=>bif Nat.beq i a then v else uQ as vs i
 | _,_,_=>.dead
def iq:List aK->Nat->aK
 | [],_=>.dead
 | r::rs,i=>match i with | 0=>r | i+1=>iq rs i
def upTo:Nat->List Nat
 | 0=>[]
 | n+1=>upTo n++[n]
def canon (E:Env)(live:Live)(s:St)(k:List V->List aK->aD):aD:=
 bif s.fr.isEmpty then gU E live s fun s=>rV (live.map fun x=>s.sl x.1) (upTo E.np) fun vs m=>qw s.hp 60 0 m fun h=>k vs h else none
def iT (live:Live)(vs:List V)(h:List aK):St:={ sl:=uQ live vs,hp:=iq h,nx:=h.length }
def dF:Code->Nat
 | .region i _ _=>i
 | .seq a _=>dF a
 | .block _ a=>dF a
 | .cond _ a _=>dF a
 | .loop a=>dF a
 | .scope a=>dF a
 | _=>0
abbrev Cont:=Ex->St->aD
abbrev dD:=Nat->List V->List aK->aD
def AD (f:St->aD)(k:Cont):Cont:=fun e s=>match e with
 | .normal=>f s
 | .ret=>k .ret s
 | .exit j=>k (.exit j) s
def vO (id:Nat)(k:Cont):Cont:=fun e s=>match e with
 | .exit j=>bif Nat.beq j id then k .normal s else k (.exit j) s
 | .normal=>k .normal s
 | .ret=>k .ret s
def gO (E:Env)(live:Nat->Live)(I:dD):Code->St->Cont->aD
 | .skip,s,k=>k .normal s
 | .region _ ops d,s,k=>bif d then vF E ops s fun s=>k .normal s else iz E ops.toList ops.toList s fun s=>k .normal s
 | .seq a b,s,k=>gO E live I a s (AD (fun s=>gO E live I b s k) k)
 | .cond c a b,s,k=>match cV E.nt s.sl c with
  | .bool t=>bif t then gO E live I a (s.vI c true) k else gO E live I b (s.vI c false) k
  | _=>none
 | .block id b,s,k=>gO E live I b s (vO id k)
 | .loop b,s,_=>canon E (live (dF b)) s fun vs h=>I (dF b) vs h
 | .exit id,s,k=>k (.exit id) s
 | .ret,s,k=>k .ret s
 | .scope a,s,k=>gO E live I a s k
 | .label _,s,k=>k .normal s
 | _,_,_=>none
def dW (id:Nat):Code->Bool
 | .seq a b=>dW id a||dW id b
 | .cond _ a b=>dW id a||dW id b
 | .block _ b=>dW id b
 | .loop b=>Nat.beq (dF b) id||dW id b
 | .scope a=>dW id a
 | _=>false
def dU (E:Env)(live:Nat->Live)(I:dD)(id:Nat):Code->St->Cont->aD
 | .seq a b,s,k=>bif dW id a then dU E live I id a s (AD (fun s=>gO E live I b s k) k) else dU E live I id b s k
 | .cond _ a b,s,k=>bif dW id a then dU E live I id a s k else dU E live I id b s k
 | .block j b,s,k=>dU E live I id b s (vO j k)
 | .loop b,s,k=>
  bif Nat.beq (dF b) id then gO E live I b s (AD (fun s=>canon E (live id) s fun vs h=>I id vs h) k)
  else dU E live I id b s (AD (fun s=>canon E (live (dF b)) s fun vs h=>I (dF b) vs h) k)
 | .scope a,s,k=>dU E live I id a s k
 | _,_,_=>none
def tO (nf:Bool)(l:Lf)(hp:Nat->aK)(v:V)(k:L->(Nat->aK)->aD):aD:=
 match l with
 | .fr e=>qj hp (.sl e) v fun x r=>k x (yY hp r)
 | .rd kk=>bif fits hp kk v&&(nf||cN v) then jw hp v fun x=>k x hp else none
def nE (nf:Bool):List Lf->(Nat->aK)->List V->(List L->(Nat->aK)->aD)->aD
 | [],hp,[],k=>k [] hp
 | l::ls,hp,v::vs,k=>tO nf l hp v fun x hp=>nE nf ls hp vs fun xs hp=>k (x::xs) hp
 | _,_,_,_=>none
def Bt (nf a:Bool)(q:List Lf)(hp:Nat->aK)(v:V)(k:List L->(Nat->aK)->aD):aD:=
 bif a then (match v with
  | .agg cs=>nE nf q hp cs k
  | _=>none) else nE nf q hp [v] k
def kZ (nf:Bool):List (Bool×List Lf)->(Nat->aK)->List V->(List L->(Nat->aK)->aD)->aD
 | [],hp,[],k=>k [] hp
 | p::ps,hp,v::vs,k=>Bt nf p.1 p.2 hp v fun a hp=>kZ nf ps hp vs fun b hp=>k (a++b) hp
 | _,_,_,_=>none
def Lf.Ak:Lf->Bool
 | .fr _=>true
 | _=>false
def Lf.E1:Lf->Bool
 | .rd (.sl _)=>true
 | _=>false
def RP.parts:RP->List (Bool×List Lf)
 | .one l=>[(false,[l])]
 | .agg q=>[(true,q)]
 | .gW ps=>ps
 | .zj _=>[]
 | .zc _ _=>[]
 | .cur _ _=>[]
 | .uq _=>[]
def slotsOf (E:Env)(s:St):List ResultVar->(List V->aD)->aD
 | [],k=>k []
 | .tmp t::rs,k=>slotsOf E s rs fun vs=>k (look E.nt s.sl t::vs)
 | .cell t ty::rs,k=>match E.T ty with
  | none=>none
  | some i=>match look E.nt s.sl t with
   | .bP r o=>match s.hp r with
    | .box cs=>bif Nat.ble (o+i.cells.length) cs.length then slotsOf E s rs fun vs=>k (mkVar i.agg (cut cs o i.cells.length)::vs) else none
    | _=>none
   | _=>none
def uB (t:Nat):List Lf->Nat->Live
 | [],_=>[]
 | .fr e::ls,j=>(t,some (j*1048576+e))::uB t ls (j+1)
 | _::ls,j=>uB t ls (j+1)
def rG:List ResultVar->List (Bool×List Lf)->Live
 | .tmp t::rs,(false,[.fr e])::ps=>(t,some e)::rG rs ps
 | .cell t _::rs,(false,[.fr e])::ps=>(t,some e)::rG rs ps
 | .tmp t::rs,(true,ls)::ps=>uB t ls 0++rG rs ps
 | .cell t _::rs,(true,ls)::ps=>uB t ls 0++rG rs ps
 | _::rs,_::ps=>rG rs ps
 | _,_=>[]
def CH (hp:Nat->aK):Nat->List Nat->(List L->aD)->aD
 | _,[],k=>k []
 | j,e::es,k=>match hp j with
  | .row e' xs=>bif Nat.beq e e' then CH hp (j+1) es fun ls=>k (.sl xs::ls) else none
  | _=>none
def D7 (E:Env)(f:Func)(es:List Nat):Cont:=fun e s=>match e with
 | .exit _=>none
 | _=>slotsOf E s f.results.toList fun vs=>match vs with
  | [.int .i64 n]=>CH s.hp 0 es fun ls=>some (.int n::ls)
  | _=>none
def CM (E:Env)(f:Func)(p:RP):Cont:=fun e s=>match e with
 | .exit _=>none
 | _=>gU E (rG f.results.toList p.parts) s fun s=>slotsOf E s f.results.toList fun vs=>kZ (p.parts.all fun q=>!q.2.any Lf.Ak) p.parts s.hp vs fun ls _=>some ls
def DR (E:Env)(f:Func)(el:Nat)(ps:List (Bool×List Lf)):Cont:=fun e s=>match e with
 | .exit _=>none
 | _=>gU E (rG f.results.toList ps) s fun s=>slotsOf E s f.results.toList fun vs=>match s.hp 0 with
  | .box [cell]=>bif cell.leaf then kZ false ((false,[.fr el])::ps) (upd s.hp 0 .dead) (cell::vs) fun ls _=>some ls else none
  | _=>none
def qv:List K->List V->Nat->(List L->aD)->aD
 | [],[],_,k=>k []
 | .sl _::ks,v::vs,j,k=>match v with
  | .own q=>bif Nat.beq q j then qv ks vs (j+1) fun ls=>k (.hole::ls) else none
  | _=>none
 | kk::ks,v::vs,j,k=>bif fits (fun _=>.dead) kk v then jw (fun _=>.dead) v fun l=>qv ks vs j fun ls=>k (l::ls) else none
 | _,_,_,_=>none
def BI (t:Nat)(ls:List Lf):Live:=bif ls.any Lf.E1 then [(t,some 1099511627776)] else []
def nq:List ResultVar->List (Bool×List Lf)->Live
 | .tmp t::rs,(false,[.fr e])::ps=>(t,some e)::nq rs ps
 | .cell t _::rs,(false,[.fr e])::ps=>(t,some e)::nq rs ps
 | .tmp t::rs,(true,ls)::ps=>uB t ls 0++(BI t ls++nq rs ps)
 | .cell t _::rs,(true,ls)::ps=>uB t ls 0++(BI t ls++nq rs ps)
 | .tmp t::rs,(false,[.rd (.sl e)])::ps=>(t,some (1099511627776+e))::nq rs ps
 | _::rs,_::ps=>nq rs ps
 | _,_=>[]
def D6 (E:Env)(f:Func)(ks:List K)(ps:List (Bool×List Lf)):Cont:=fun e s=>match e with
 | .exit _=>none
 | _=>gU E (nq f.results.toList ps) s fun s=>slotsOf E s f.results.toList fun vs=>match s.hp 0 with
  | .box cs=>qv ks cs 1 fun cl=>kZ false ps (upd s.hp 0 .dead) vs fun ls _=>some (cl++ls)
  | _=>none
def sn:List K->List V->(List L->aD)->aD
 | [],[],k=>k []
 | kk::ks,v::vs,k=>bif fits (fun _=>.dead) kk v&&cN v then jw (fun _=>.dead) v fun l=>sn ks vs fun ls=>k (l::ls) else none
 | _,_,_=>none
def DS (E:Env)(f:Func)(ks:List K):Cont:=fun e s=>match e with
 | .exit _=>none
 | _=>slotsOf E s f.results.toList fun vs=>match vs with
  | [.bP r o]=>bif Nat.beq o 0 then (match s.hp r with
   | .box cs=>sn ks cs fun cl=>some cl
   | _=>none) else none
  | _=>none
def dA (E:Env)(f:Func)(p:RP):Cont:=match p with
 | .uq ks=>DS E f ks
 | .cur ks ps=>D6 E f ks ps
 | .zj es=>D7 E f es
 | .zc el ps=>DR E f el ps
 | p=>CM E f p
def A5 (v:V):V:=match v with
 | .gW _=>.dead
 | v=>v
def CJ (E:Env)(f:Func)(k:V->St->aD):Cont:=fun e s=>match e with
 | .exit _=>none
 | _=>slotsOf E s f.results.toList fun vs=>match vs with
  | [v]=>k v s
  | vs=>k (.gW (vs.map A5)) s
def uC:List (List K)->List L->List V
 | [],_=>[]
 | q::qs,ls=>.cS none q (ck q.length ls) 0::uC qs (bA q.length ls)
def Bu (p:fF)(ls:List L):V:=
 match p with
 | .rd k=>xZ none k (ls.headD .hole)
 | .agg ks=>.agg (kr none ks ls)
 | .ptr ks=>.cS none ks (ck ks.length ls) 0
 | .fn f qs=>.fn f (uC qs ls)
 | .nil=>.nil
def CB:List (List K)->Nat
 | []=>0
 | q::qs=>q.length+CB qs
def fF.n:fF->Nat
 | .rd _=>1
 | .agg ks=>ks.length
 | .ptr ks=>ks.length
 | .fn _ qs=>CB qs
 | .nil=>0
def iP:List fF->List L->List V
 | [],_=>[]
 | p::ps,ls=>Bu p ls::iP ps (bA p.n ls)
def dJ (ps:List fF)(ls:List L):St:={ sl:=iQ (iP ps ls),hp:=fun _=>.dead,nx:=0 }
def gf:List K->List L->Nat->List V
 | [],_,_=>[]
 | .sl _::ks,ls,j=>.own j::gf ks ls.tail (j+1)
 | k::ks,ls,j=>xZ none k (ls.headD .hole)::gf ks ls.tail j
def jL:List K->List L->List aK
 | [],_=>[]
 | .sl e::ks,ls=>.row e (ls.headD .hole).dz::jL ks ls.tail
 | _::ks,ls=>jL ks ls.tail
def mz:List K->List Nat
 | []=>[]
 | .sl e::ks=>e::mz ks
 | _::ks=>mz ks
def sM:List (Bool×List K)->List L->Nat->List V
 | [],_,_=>[]
 | p::ps,ls,j=>mkVar p.1 (gf p.2 ls j)::sM ps (bA p.2.length ls) (j+(mz p.2).length)
def qy:List (Bool×List K)->List L->List aK
 | [],_=>[]
 | p::ps,ls=>jL p.2 ls++qy ps (bA p.2.length ls)
def tZ:List (Bool×List K)->List Nat
 | []=>[]
 | p::ps=>mz p.2++tZ ps
def bL (f:Func):Code:=match f.body with | some c=>c | none=>.skip
def tK (E:Env)(live:Nat->Live)(f:Func)(p:RP):Nat->dD
 | 0=>fun _ _ _=>none
 | n+1=>fun id vs h=>dU E live (tK E live f p n) id (bL f) (iT (live id) vs h) (dA E f p)
def inl (E:Env)(f:Func):gA:={ run:=(fun vs s k=>bif Nat.beq (vs.length+(f.ntmps - vs.length)) E.nt then
 gO E (fun _=>[]) (fun _ _ _=>none) (bL f) { s with sl:=iQ vs } (CJ E f k) else none) }
def eY (E:Env)(live:Nat->Live)(f:Func)(p:RP)(n:Nat)(s:St):aD:=
 gO E live (tK E live f p n) (bL f) s (dA E f p)
end Go.DM
namespace Go.DM
inductive F2 {α β:Type}(R:α->β->Prop):List α->List β->Prop where
 | nil:F2 R [] []
 | cons {a b as bs}:R a b->F2 R as bs->F2 R (a::as) (b::bs)
def F2.length {α β:Type}{R:α->β->Prop}{as:List α}{bs:List β}(h:F2 R as bs):as.length=bs.length:=by
 induction h with
 | nil=>rfl
 | cons _ _ ih=>simp [ih]
def F2.get {α β:Type}{R:α->β->Prop}{as:List α}{bs:List β}(h:F2 R as bs):∀{i:Nat} {a:α},as[i]?=some a->∃b,bs[i]?=some b/\R a b:=by
 induction h with
 | nil=>intro i a h;simp at h
 | cons h _ ih=>
  intro i a hi
  cases i with
  | zero=>simp at hi;subst hi;exact ⟨_,by simp,h⟩
  | succ i=>simp at hi;obtain ⟨b,hb,hr⟩:=ih hi;exact ⟨b,by simpa using hb,hr⟩
def F2.mono {α β:Type}{R R':α->β->Prop}{as:List α}{bs:List β}(h:F2 R as bs)(hr:∀a b,R a b->R' a b):F2 R' as bs:=by
 induction h with
 | nil=>exact .nil
 | cons h _ ih=>exact .cons (hr _ _ h) ih
def F2.append {α β:Type}{R:α->β->Prop}{as:List α}{bs:List β}{as':List α}{bs':List β}(h:F2 R as bs)(h':F2 R as' bs'):F2 R (as++as') (bs++bs'):=by
 induction h with
 | nil=>exact h'
 | cons h _ ih=>exact .cons h ih
def F2.take {α β:Type}{R:α->β->Prop}{as:List α}{bs:List β}(h:F2 R as bs):∀n,F2 R (as.take n) (bs.take n):=by
 induction h with
 | nil=>intro n;simp;exact .nil
 | cons h _ ih=>intro n;cases n with
  | zero=>exact .nil
  | succ n=>exact .cons h (ih n)
def F2.drop {α β:Type}{R:α->β->Prop}{as:List α}{bs:List β}(h:F2 R as bs):∀n,F2 R (as.drop n) (bs.drop n):=by
 induction h with
 | nil=>intro n;simp;exact .nil
 | cons h ht ih=>intro n;cases n with
  | zero=>exact .cons h ht
  | succ n=>exact ih n
def F2.map' {α α' β:Type}{R:α->β->Prop}{R':α'->β->Prop}{f:α->α'}{as:List α}{bs:List β}(h:F2 R as bs)(hr:∀a b,R a b->R' (f a) b):F2 R' (as.map f) bs:=by
 induction h with
 | nil=>exact .nil
 | cons h _ ih=>exact .cons (hr _ _ h) ih
section
variable (T:Nat->List K) (w:World)
inductive Rd (Z:Nat->Prop):K->Value->L->Prop where
 | int (k:IntKind) (l:L):Rd Z (.int k) (.int k l.toInt) l
 | bool (l:L):Rd Z .bool (.bool l.toBool) l
 | str (l:L):Rd Z .str (.string l.toStr) l
 | nil (e:Nat) (A:Option Addr) (c:Nat) (l:L) (h:l.dz=[]):Rd Z (.sl e) (.slice A 0 c) l
 | sl (e n c b o:Nat) (l:L) (v:Nat->Nat->Value) (hn:l.dz.length=n) (hc:n<=c) (hm:n<=maxLen) (hZ:Z b)
   (hv:∀i j k,i<n->(T e)[j]?=some k->w.cell? ⟨b,o+(i*(T e).length+j),none⟩=some (v i j))
   (hr:∀i j k,i<n->(T e)[j]?=some k->Rd Z k (v i j) ((l.dz.getD i []).getD j .hole)) :
   Rd Z (.sl e) (.slice (some ⟨b,o,none⟩) n c) l
inductive fQ:(Nat->Prop)->K->Value->L->Prop where
 | int (S:Nat->Prop) (k:IntKind) (l:L):fQ S (.int k) (.int k l.toInt) l
 | bool (S:Nat->Prop) (l:L):fQ S .bool (.bool l.toBool) l
 | str (S:Nat->Prop) (l:L):fQ S .str (.string l.toStr) l
 | nil (S:Nat->Prop) (e:Nat) (A:Option Addr) (l:L) (h:l.dz=[]):fQ S (.sl e) (.slice A 0 0) l
 | sl (S:Nat->Prop) (e n c g te:Nat) (cur:Array Value) (l:L) (v:Nat->Nat->Value) (Sf:Nat->Nat->Nat->Prop)
   (hn:l.dz.length=n) (hc:n<=c) (hm:c<=maxLen) (hg:w.heap[g]?=some (.cells cur te (0,0))) (hs:cur.size=c*(T e).length) (hS:S g)
   (h1:∀i j b,Sf i j b->S b/\b≠g) (h2:∀i j i' j' b,Sf i j b->Sf i' j' b->i=i'/\j=j')
   (hv:∀i j k,i<n->(T e)[j]?=some k->cur[i*(T e).length+j]?=some (v i j))
   (hr:∀i j k,i<n->(T e)[j]?=some k->fQ (Sf i j) k (v i j) ((l.dz.getD i []).getD j .hole)) :
   fQ S (.sl e) (.slice (some ⟨g,0,none⟩) n c) l
end
variable {T:Nat->List K} {w w':World}
theorem lJ (w:World)(o:Obj)(i:Nat)(h:i<w.heap.size):(w.alloc o).heap[i]?=w.heap[i]?:=by
 first | exact heap_alloc_old w o i h | exact heap_alloc_old w o h
theorem gi {g j:Nat}{cs:Array Value}{t:TypeId}{fr:Nat×Nat}(hg:w.heap[g]?=some (.cells cs t fr)):w.cell? ⟨g,j,none⟩=cs[j]?:=cell_of_row w g j cs t fr hg
theorem Rd.mono {Z Z':Nat->Prop}{k:K}{v:Value}{l:L}(h:Rd T w Z k v l)(hz:∀b,Z b->Z' b):Rd T w Z' k v l:=by
 induction h with
 | int k l=>exact .int k l
 | bool l=>exact .bool l
 | str l=>exact .str l
 | nil e A c l h=>exact .nil e A c l h
 | sl e n c b o l v hn hc hm hZ hv hr ih=>exact .sl e n c b o l v hn hc hm (hz _ hZ) hv ih
theorem Rd.frame {Z:Nat->Prop}{k:K}{v:Value}{l:L}(h:Rd T w Z k v l)(hb:∀b,Z b->w'.heap[b]?=w.heap[b]?):Rd T w' Z k v l:=by
 induction h with
 | int k l=>exact .int k l
 | bool l=>exact .bool l
 | str l=>exact .str l
 | nil e A c l h=>exact .nil e A c l h
 | sl e n c b o l v hn hc hm hZ hv hr ih=>
  exact .sl e n c b o l v hn hc hm hZ (fun i j k hi hj=>by rw [World.cell?_of_block (hb b hZ)];exact hv i j k hi hj) ih
theorem fQ.mono {S S':Nat->Prop}{k:K}{v:Value}{l:L}(h:fQ T w S k v l)(hs:∀b,S b->S' b):fQ T w S' k v l:=by
 induction h with
 | int S k l=>exact .int _ k l
 | bool S l=>exact .bool _ l
 | str S l=>exact .str _ l
 | nil S e A l h=>exact .nil _ e A l h
 | sl S e n c g te cur l v Sf hn hc hm hg hsz hS h1 h2 hv hr _=>
  exact .sl _ e n c g te cur l v Sf hn hc hm hg hsz (hs _ hS) (fun i j b h=>⟨hs _ (h1 i j b h).1,(h1 i j b h).2⟩) h2 hv hr
theorem fQ.frame {S:Nat->Prop}{k:K}{v:Value}{l:L}(h:fQ T w S k v l)(hb:∀b,S b->w'.heap[b]?=w.heap[b]?):fQ T w' S k v l:=by
 induction h with
 | int S k l=>exact .int _ k l
 | bool S l=>exact .bool _ l
 | str S l=>exact .str _ l
 | nil S e A l h=>exact .nil _ e A l h
 | sl S e n c g te cur l v Sf hn hc hm hg hsz hS h1 h2 hv hr ih=>
  exact .sl _ e n c g te cur l v Sf hn hc hm (by rw [hb g hS];exact hg) hsz hS h1 h2 hv (fun i j k hi hj=>ih i j k hi hj (fun b h=>hb b (h1 i j b h).1))
theorem fQ.rd {S:Nat->Prop}{k:K}{v:Value}{l:L}(h:fQ T w S k v l):Rd T w S k v l:=by
 induction h with
 | int S k l=>exact .int k l
 | bool S l=>exact .bool l
 | str S l=>exact .str l
 | nil S e A l h=>exact .nil e A 0 l h
 | sl S e n c g te cur l v Sf hn hc hm hg hsz hS h1 h2 hv hr ih=>
  refine .sl e n c g 0 l v hn hc (Nat.le_trans hc hm) hS (fun i j k hi hj=>?_) (fun i j k hi hj=>(ih i j k hi hj).mono fun b h=>(h1 i j b h).1)
  rw [gi hg];simpa using hv i j k hi hj
theorem fQ.inv {S:Nat->Prop}{e n c g:Nat}{l:L}(h:fQ T w S (.sl e) (.slice (some ⟨g,0,none⟩) n c) l)(hn:0<n) :
  ∃(te:Nat) (cur:Array Value) (v:Nat->Nat->Value) (Sf:Nat->Nat->Nat->Prop),
   l.dz.length=n/\n<=c/\c<=maxLen/\w.heap[g]?=some (.cells cur te (0,0))/\cur.size=c*(T e).length/\S g/\
   (∀i j b,Sf i j b->S b/\b≠g)/\(∀i j i' j' b,Sf i j b->Sf i' j' b->i=i'/\j=j')/\
   (∀i j k,i<n->(T e)[j]?=some k->cur[i*(T e).length+j]?=some (v i j))/\
   (∀i j k,i<n->(T e)[j]?=some k->fQ T w (Sf i j) k (v i j) ((l.dz.getD i []).getD j .hole)):=by
 cases h
 ·omega
 ·exact ⟨_,_,_,_,‹_›,‹_›,‹_›,‹_›,‹_›,‹_›,‹_›,‹_›,‹_›,‹_›⟩
theorem Rd.inv {Z:Nat->Prop}{e:Nat}{x:Value}{l:L}(h:Rd T w Z (.sl e) x l) :
  ∃A n c,x=.slice A n c/\l.dz.length=n/\n<=c/\(0<n->∃(b o:Nat) (v:Nat->Nat->Value),A=some ⟨b,o,none⟩/\Z b/\
   (∀i j k,i<n->(T e)[j]?=some k->w.cell? ⟨b,o+(i*(T e).length+j),none⟩=some (v i j))/\
   (∀i j k,i<n->(T e)[j]?=some k->Rd T w Z k (v i j) ((l.dz.getD i []).getD j .hole))):=by
 cases h
 ·rename_i hz;exact ⟨_,_,_,rfl,by rw [hz];rfl,Nat.zero_le _,fun h=>by omega⟩
 ·exact ⟨_,_,_,rfl,‹_›,‹_›,fun _=>⟨_,_,_,rfl,‹_›,‹_›,‹_›⟩⟩
theorem fQ.Aa {S:Nat->Prop}{e:Nat}{x:Value}{l:L}(h:fQ T w S (.sl e) x l) :
  ∃A n c,x=.slice A n c/\l.dz.length=n/\n<=c/\(0<n->∃g,A=some ⟨g,0,none⟩):=by
 cases h
 ·rename_i hz;exact ⟨_,_,_,rfl,by rw [hz];rfl,Nat.zero_le _,fun h=>by omega⟩
 ·exact ⟨_,_,_,rfl,‹_›,‹_›,fun _=>⟨_,rfl⟩⟩
def kY (T:Nat->List K)(w:World)(S:Nat->Prop)(e:Nat)(x:Value)(xs:aq)(X:Nat->Nat->Prop):Prop:=
 ∃(g n c te:Nat) (cur:Array Value) (vv:Nat->Nat->Value) (Sf:Nat->Nat->Nat->Prop),x=.slice (some ⟨g,0,none⟩) n c/\
  xs.length=n/\n<=c/\c<=maxLen/\w.heap[g]?=some (.cells cur te (0,0))/\cur.size=c*(T e).length/\S g/\
  (∀i j b,Sf i j b->S b/\b≠g)/\(∀i j i' j' b,Sf i j b->Sf i' j' b->i=i'/\j=j')/\
  (∀i j k,i<n->(T e)[j]?=some k->cur[i*(T e).length+j]?=some (vv i j))/\
  (∀i j k,i<n->(T e)[j]?=some k->¬X i j->fQ T w (Sf i j) k (vv i j) ((xs.getD i []).getD j .hole))
theorem kY.move {S S':Nat->Prop}{e:Nat}{x:Value}{xs:aq}{X:Nat->Nat->Prop}(h:kY T w S e x xs X)(hb:∀b,S b->w'.heap[b]?=w.heap[b]?)(hs:∀b,S b->S' b):kY T w' S' e x xs X:=by
 obtain ⟨g,n,c,te,cur,vv,Sf,k0,k1,k2,k3,k4,k5,k6,k7,k8,k9,k10⟩:=h
 exact ⟨g,n,c,te,cur,vv,Sf,k0,k1,k2,k3,by rw [hb g k6];exact k4,k5,hs _ k6,fun i j b h=>⟨hs _ (k7 i j b h).1,(k7 i j b h).2⟩,k8,k9,fun i j k hi hj hx=>(k10 i j k hi hj hx).frame fun b h=>hb b (k7 i j b h).1⟩
theorem kY.imp {S:Nat->Prop}{e:Nat}{x:Value}{xs:aq}{X X':Nat->Nat->Prop}(h:kY T w S e x xs X)(hx:∀i j,X i j->X' i j):kY T w S e x xs X':=by
 obtain ⟨g,n,c,te,cur,vv,Sf,k0,k1,k2,k3,k4,k5,k6,k7,k8,k9,k10⟩:=h
 exact ⟨g,n,c,te,cur,vv,Sf,k0,k1,k2,k3,k4,k5,k6,k7,k8,k9,fun i j k hi hj h=>k10 i j k hi hj fun h'=>h (hx i j h')⟩
theorem fQ.part {S:Nat->Prop}{e n c g:Nat}{l:L}(h:fQ T w S (.sl e) (.slice (some ⟨g,0,none⟩) n c) l)(hn:0<n)(X:Nat->Nat->Prop):kY T w S e (.slice (some ⟨g,0,none⟩) n c) l.dz X:=by
 obtain ⟨te,cur,vv,Sf,k1,k2,k3,k4,k5,k6,k7,k8,k9,k10⟩:=h.inv hn
 exact ⟨g,n,c,te,cur,vv,Sf,rfl,k1,k2,k3,k4,k5,k6,k7,k8,k9,fun i j k hi hj _=>k10 i j k hi hj⟩
inductive yT (T:Nat->List K):K->L->Prop where
 | int (k:IntKind) (l:L):yT T (.int k) l
 | bool (l:L):yT T .bool l
 | str (l:L):yT T .str l
 | sl (e:Nat) (l:L) (hn:l.dz.length<=maxLen) (hr:∀(i j:Nat) (k:K),i<l.dz.length->(T e)[j]?=some k->yT T k ((l.dz.getD i []).getD j .hole)):yT T (.sl e) l
theorem Rd.E6 {Z:Nat->Prop}{k:K}{v:Value}{l:L}(h:Rd T w Z k v l):yT T k l:=by
 induction h with
 | int k l=>exact .int k l
 | bool l=>exact .bool l
 | str l=>exact .str l
 | nil e A c l h=>exact .sl e l (by rw [h];exact Nat.zero_le _) (fun i j k hi=>by rw [h] at hi;simp at hi)
 | sl e n c b o l v hn hc hm hZ hv hr ih=>exact .sl e l (by rw [hn];exact hm) (fun i j k hi hj=>ih i j k (by omega) hj)
theorem yT.len {e:Nat}{l:L}(h:yT T (.sl e) l):l.dz.length<=maxLen:=by cases h;assumption
theorem Rd.uc {Z:Nat->Prop}{e:Nat}{v:Value}{l:L}(h:Rd T w Z (.sl e) v l):Rd T w Z (.sl e) v (.sl l.dz):=by
 cases h
 ·exact .nil _ _ _ _ ‹_›
 ·exact .sl _ _ _ _ _ _ _ ‹_› ‹_› ‹_› ‹_› ‹_› ‹_›
theorem fQ.uc {S:Nat->Prop}{e:Nat}{v:Value}{l:L}(h:fQ T w S (.sl e) v l):fQ T w S (.sl e) v (.sl l.dz):=by
 cases h
 ·exact .nil _ _ _ _ ‹_›
 ·exact .sl _ _ _ _ _ _ _ _ _ _ ‹_› ‹_› ‹_› ‹_› ‹_› ‹_› ‹_› ‹_› ‹_› ‹_›
end Go.DM
namespace Go.DM
structure cD where
 v:Nat->Value
 N:Nat->Nat->Prop
 al:Nat->Prop
 Z:Nat->Prop
def eo (w:World)(A:cD):Nat->Prop:=fun b=>A.Z b/\b<w.heap.size/\∀r,¬A.N r b
def fG (w:World)(A:cD):Option Nat->Nat->Prop
 | none=>eo w A
 | some r=>fun b=>A.N r b∨eo w A b
def V0 (T:Nat->List K)(w:World)(A:cD):V->Value->Prop
 | .undef,x=>x=Go.undef
 | .dead,_=>True
 | .int k n,x=>x=.int k n
 | .bool b,x=>x=.bool b
 | .str s,x=>x=.string s
 | .nil,x=>∃a,x=.slice a 0 0
 | .sl d e xs,x=>(∀r,d=some r->A.al r)/\Rd T w (fG w A d) (.sl e) x (.sl xs)
 | .own r,x=>A.al r/\x=A.v r/\∃a n c,x=.slice a n c
 | .lit r n _,x=>A.al r/\∃g,A.v r=.pointer (some ⟨g,0,none⟩)/\x=.slice (some ⟨g,0,none⟩) n n
 | .bP r o,x=>A.al r/\∃g,A.v r=.pointer (some ⟨g,0,none⟩)/\x=.pointer (some ⟨g,o,none⟩)
 | .fM r sz i o,x=>A.al r/\∃g n c,A.v r=.slice (some ⟨g,0,none⟩) n c/\i<n/\x=.pointer (some ⟨g,i*sz+o,none⟩)
 | .gm r sz i o _,x=>A.al r/\∃g n c,A.v r=.slice (some ⟨g,0,none⟩) n c/\i<n/\A.N r g/\w.cell? ⟨g,i*sz+o,none⟩=some x
 | .cS d es cells o,x=>(∀r,d=some r->A.al r)/\∃(b q:Nat) (v:Nat->Value),x=.pointer (some ⟨b,q+o,none⟩)/\fG w A d b/\
   ∀j k,es[j]?=some k->w.cell? ⟨b,q+j,none⟩=some (v j)/\Rd T w (fG w A d) k (v j) (cells.getD j .hole)
 | _,_=>False
def Vc (T:Nat->List K)(w:World)(A:cD)(v:V)(x:Value):Prop:=V0 T w A v x/\x.oneCell'=true
def V1 (T:Nat->List K)(w:World)(A:cD)(v:V)(x:Value):Prop:=
 match v with
 | .agg cs=>∃l:List Value,x=.agg l.toArray/\F2 (Vc T w A) cs l
 | .fn f caps=>∃l:List Value,x=.func (.func f) #[] l.toArray/\F2 (V0 T w A) caps l
 | v=>V0 T w A v x
def V2 (T:Nat->List K)(w:World)(A:cD)(v:V)(x:Value):Prop:=
 match v with
 | .gW vs=>∃l:List Value,x=.tuple l.toArray/\F2 (V1 T w A) vs l
 | v=>V1 T w A v x
def dB (T:Nat->List K)(w:World)(A:cD)(r:Nat):aK->Prop
 | .dead=>∀b,¬A.N r b
 | .box cs=>A.al r/\∃g te cur,A.v r=.pointer (some ⟨g,0,none⟩)/\(∀b,A.N r b↔b=g)/\w.heap[g]?=some (.cells cur te (0,0))/\F2 (Vc T w A) cs cur.toList
 | .row e xs=>A.al r/\fQ T w (A.N r) (.sl e) (A.v r) (.sl xs)
 | .qt e xs j cs=>A.al r/\j<xs.length/\fQ T w (A.N r) (.sl e) (A.v r) (.sl (xs.set j cs))
 | .xW e xs i o=>A.al r/\i<xs.length/\kY T w (A.N r) e (A.v r) xs (fun i' j'=>i'=i/\j'=o)
 | .vw e xs=>A.al r/\(∀b,¬A.N r b)/\(∃a n c,A.v r=.slice a n c)/\Rd T w (eo w A) (.sl e) (A.v r) (.sl xs)
structure Mem (np:Nat) where
 p:Nat->Prop
 v:Nat->Value
 sv:List Value:=[]
instance {np:Nat}:CoeFun (Mem np) (fun _=>Nat->Prop):=⟨Mem.p⟩
@[reducible] def AJ (n:Nat):Mem n:=⟨fun _=>False,fun _=>Go.undef,[]⟩
@[reducible] def El:Mem 0:=⟨fun _=>False,fun _=>Go.undef,[]⟩
structure Fr (w0 w:World)(M:Nat->Prop):Prop where
 os:w.os=w0.os
 tape:w.tape=w0.tape
 output:w.output=w0.output
 size:w0.heap.size<=w.heap.size
 block:∀b,b<w0.heap.size->¬M b->w.heap[b]?=w0.heap[b]?
def Fr.refl (w:World)(M:Nat->Prop):Fr w w M:=⟨rfl,rfl,rfl,Nat.le_refl _,fun _ _ _=>rfl⟩
def Fr.trans {a b c:World}{M M':Nat->Prop}(h:Fr a b M)(k:Fr b c M')(hm:∀x,M' x->M x∨a.heap.size<=x):Fr a c M:=
 ⟨k.os.trans h.os,k.tape.trans h.tape,k.output.trans h.output,Nat.le_trans h.size k.size,fun x hx hM=>
  (k.block x (Nat.lt_of_lt_of_le hx h.size) (fun h'=>(hm x h').elim hM (fun h''=>by omega))).trans (h.block x hx hM)⟩
structure Hp (T:Nat->List K){np:Nat}(w0:World)(M:Mem np)(A:cD)(hp:Nat->aK)(w:World):Prop where
 lt:∀r b,A.N r b->b<w.heap.size
 dj:∀r q b,A.N r b->A.N q b->r=q
 al:∀r,¬A.al r->hp r=.dead
 rt:∀r,dB T w A r (hp r)
 fr:Fr w0 w M.p
 nm:∀r b,A.N r b->M b∨w0.heap.size<=b
 zf:∀b,M b∨w0.heap.size<=b->A.Z b
 pn:∀j,j<np->A.al j/\A.v j=M.v j
structure Step (A A':cD)(w w':World)(ch:Nat->Prop):Prop where
 Z:A'.Z=A.Z
 al:∀r,A.al r->A'.al r
 v:∀r,A.al r->A'.v r=A.v r
 size:w.heap.size<=w'.heap.size
 Fi:∀b,b<w.heap.size->(∀r,ch r->¬A.N r b)->w'.heap[b]?=w.heap[b]?
 N:∀r,A.al r->¬ch r->∀b,A'.N r b↔A.N r b
 new:∀r b,(ch r∨¬A.al r)->A'.N r b->(∃q,ch q/\A.N q b)∨w.heap.size<=b
section
variable {T:Nat->List K} {w0 w w':World} {np:Nat} {M:Mem np} {A A':cD} {hp:Nat->aK} {ch:Nat->Prop}
theorem Hp.xd (h:Hp T w0 M A hp w){r b:Nat}(hn:A.N r b):A.al r:=Classical.byContradiction fun ha=>by
 have:=h.rt r;rw [h.al r ha] at this;exact this b hn
theorem Step.tV (h:Step A A' w w' ch)(hh:Hp T w0 M A hp w){b:Nat}(hb:eo w A b):eo w' A' b/\w'.heap[b]?=w.heap[b]?:=by
 refine ⟨⟨by rw [h.Z];exact hb.1,Nat.lt_of_lt_of_le hb.2.1 h.size,fun r hr=>?_⟩,h.Fi b hb.2.1 fun r _=>hb.2.2 r⟩
 by_cases hc:A.al r/\¬ch r
 ·exact hb.2.2 r ((h.N r hc.1 hc.2 b).1 hr)
 ·have :ch r∨¬A.al r:=by
   by_cases ha:A.al r
   ·exact .inl (Classical.byContradiction fun hn=>hc ⟨ha,hn⟩)
   ·exact .inr ha
  rcases h.new r b this hr with ⟨q,_,hq⟩ | hq
  ·exact hb.2.2 q hq
  ·have:=hb.2.1;omega
theorem Step.root (h:Step A A' w w' ch)(hh:Hp T w0 M A hp w){r b:Nat}(hr:¬ch r)(hb:A.N r b):A'.N r b/\w'.heap[b]?=w.heap[b]?:=
 ⟨(h.N r (hh.xd hb) hr b).2 hb,h.Fi b (hh.lt r b hb) fun q hq hn=>hr (by rw [hh.dj r q b hb hn];exact hq)⟩
theorem Step.iA (h:Step A A' w w' ch)(hh:Hp T w0 M A hp w){d:Option Nat}(hd:∀r,d=some r->¬ch r){b:Nat}(hb:fG w A d b) :
  fG w' A' d b/\w'.heap[b]?=w.heap[b]?:=by
 cases d with
 | none=>exact h.tV hh hb
 | some r=>
  rcases hb with hb | hb
  ·exact ⟨.inl (h.root hh (hd r rfl) hb).1,(h.root hh (hd r rfl) hb).2⟩
  ·exact ⟨.inr (h.tV hh hb).1,(h.tV hh hb).2⟩
def indep (ch:Nat->Prop):V->Prop
 | .sl (some r) _ _=>¬ch r
 | .cS (some r) _ _ _=>¬ch r
 | .gm r _ _ _ _=>¬ch r
 | _=>True
theorem V0.step (h:Step A A' w w' ch)(hh:Hp T w0 M A hp w){v:V}{x:Value}(hv:V0 T w A v x)(hi:indep ch v):V0 T w' A' v x:=by
 cases v with
 | undef=>exact hv
 | dead=>exact hv
 | int=>exact hv
 | bool=>exact hv
 | str=>exact hv
 | nil=>exact hv
 | sl d e xs=>
  have hd:∀r,d=some r->¬ch r:=by intro r hr;subst hr;exact hi
  exact ⟨fun r hr=>h.al r (hv.1 r hr),(hv.2.frame (w':=w') fun b hb=>(h.iA hh hd hb).2).mono fun b hb=>(h.iA hh hd hb).1⟩
 | own r=>exact ⟨h.al r hv.1,by rw [h.v r hv.1];exact hv.2.1,hv.2.2⟩
 | lit r n e=>obtain ⟨ha,g,h1,h2⟩:=hv;exact ⟨h.al r ha,g,by rw [h.v r ha];exact h1,h2⟩
 | bP r o=>obtain ⟨ha,g,h1,h2⟩:=hv;exact ⟨h.al r ha,g,by rw [h.v r ha];exact h1,h2⟩
 | fM r sz i o=>obtain ⟨ha,g,n,c,h1,h2⟩:=hv;exact ⟨h.al r ha,g,n,c,by rw [h.v r ha];exact h1,h2⟩
 | cS d es cells o=>
  have hd:∀r,d=some r->¬ch r:=by intro r hr;subst hr;exact hi
  obtain ⟨ha,b,q,v,h1,h2,h3⟩:=hv
  refine ⟨fun r hr=>h.al r (ha r hr),b,q,v,h1,(h.iA hh hd h2).1,fun j k hj=>⟨?_,?_⟩⟩
  ·rw [World.cell?_of_block (h.iA hh hd h2).2];exact (h3 j k hj).1
  ·exact Rd.mono ((h3 j k hj).2.frame (w':=w') fun b hb=>(h.iA hh hd hb).2) fun b hb=>(h.iA hh hd hb).1
 | gm r sz i o e=>
  obtain ⟨ha,g,n,c,h1,h2,h3,h4⟩:=hv
  have:=h.root hh hi h3
  exact ⟨h.al r ha,g,n,c,by rw [h.v r ha];exact h1,h2,this.1,by rw [World.cell?_of_block this.2];exact h4⟩
 | fn=>exact hv.elim
 | agg=>exact hv.elim
 | gW=>exact hv.elim
end
end Go.DM
namespace Go.DM
def aQ {α:Type}(f:Nat->α)(d:Nat)(v:α):upd f d v d=v:=by simp [upd]
def aI {α:Type}(f:Nat->α){d i:Nat}(v:α)(h:i≠d):upd f d v i=f i:=by
 have :Nat.beq i d=false:=by
  cases hb:Nat.beq i d with
  | false=>rfl
  | true=>exact absurd (Nat.eq_of_beq_eq_true hb) h
 simp [upd,this]
section
variable {T:Nat->List K} {w0 w w':World} {np:Nat} {M:Mem np} {A A':cD} {hp:Nat->aK} {ch:Nat->Prop}
theorem Step.refl (hh:Hp T w0 M A hp w)(ch:Nat->Prop):Step A A w w ch:=
 ⟨rfl,fun _ h=>h,fun _ _=>rfl,Nat.le_refl _,fun _ _ _=>rfl,fun _ _ _ _=>Iff.rfl,fun r b h hn=>by
  rcases h with h | h
  ·exact .inl ⟨r,h,hn⟩
  ·exact (h (hh.xd hn)).elim⟩
theorem Vc.step (h:Step A A' w w' ch)(hh:Hp T w0 M A hp w){v:V}{x:Value}(hv:Vc T w A v x)(hi:indep ch v):Vc T w' A' v x:=⟨V0.step h hh hv.1 hi,hv.2⟩
theorem F2.imp {α β:Type}{R R':α->β->Prop}{as:List α}{bs:List β}(h:F2 R as bs)(hr:∀a b,a∈as->R a b->R' a b):F2 R' as bs:=by
 induction h with
 | nil=>exact .nil
 | cons h _ ih=>exact .cons (hr _ _ (by simp) h) (ih fun a b ha=>hr a b (by simp [ha]))
theorem dB.step (h:Step A A' w w' ch)(hh:Hp T w0 M A hp w){r:Nat}{o:aK}(ho:dB T w A r o)(hr:¬ch r)(ha:o=.dead->A.al r∨∀b,¬A'.N r b)
  (hi:∀cs,o=.box cs->∀v∈cs,indep ch v):dB T w' A' r o:=by
 cases o with
 | dead=>
  intro b hb
  rcases ha rfl with ha | ha
  ·exact ho b ((h.N r ha hr b).1 hb)
  ·exact ha b hb
 | box cs=>
  obtain ⟨ha,g,te,cur,h1,h2,h3,h4⟩:=ho
  refine ⟨h.al r ha,g,te,cur,by rw [h.v r ha];exact h1,fun b=>(h.N r ha hr b).trans (h2 b),?_,h4.imp fun v x hm hv=>hv.step h hh (hi cs rfl v hm)⟩
  rw [(h.root hh hr ((h2 g).2 rfl)).2];exact h3
 | row e xs=>
  obtain ⟨ha,ho⟩:=ho
  refine ⟨h.al r ha,?_⟩
  rw [h.v r ha]
  exact (ho.frame (w':=w') fun b hb=>(h.root hh hr hb).2).mono fun b hb=>(h.root hh hr hb).1
 | qt e xs j cs=>
  obtain ⟨ha,hj,ho⟩:=ho
  refine ⟨h.al r ha,hj,?_⟩
  rw [h.v r ha]
  exact (ho.frame (w':=w') fun b hb=>(h.root hh hr hb).2).mono fun b hb=>(h.root hh hr hb).1
 | xW e xs j q=>
  obtain ⟨ha,hj,ho⟩:=ho
  refine ⟨h.al r ha,hj,?_⟩
  rw [h.v r ha]
  exact ho.move (fun b hb=>(h.root hh hr hb).2) fun b hb=>(h.root hh hr hb).1
 | vw e xs=>
  obtain ⟨ha,hN,hs,ho⟩:=ho
  refine ⟨h.al r ha,fun b hb=>hN b ((h.N r ha hr b).1 hb),?_,?_⟩
  ·rw [h.v r ha];exact hs
  ·rw [h.v r ha]
   exact (V0.step (v:=.sl none e xs) h hh ⟨fun _ h=>(nomatch h),ho⟩ trivial).2
theorem dB.vw (h:Step A A' w w' ch)(hh:Hp T w0 M A hp w){r e:Nat}{xs:aq}(ho:dB T w A r (.vw e xs))(hr:¬ch r):dB T w' A' r (.vw e xs):=
 ho.step h hh hr (fun h=>nomatch h) fun _ h=>nomatch h
theorem V1.step (h:Step A A' w w' ch)(hh:Hp T w0 M A hp w)(hc:∀r,¬ch r){v:V}{x:Value}(hv:V1 T w A v x):V1 T w' A' v x:=by
 have hi:∀v:V,indep ch v:=by
  intro v
  cases v with
  | sl d=>cases d<;>simp [indep,hc]
  | cS d=>cases d<;>simp [indep,hc]
  | gm=>exact hc _
  | _=>trivial
 cases v with
 | agg cs=>obtain ⟨l,h1,h2⟩:=hv;exact ⟨l,h1,h2.mono fun v x hv=>hv.step h hh (hi v)⟩
 | fn f caps=>obtain ⟨l,h1,h2⟩:=hv;exact ⟨l,h1,h2.mono fun v x hv=>V0.step h hh hv (hi v)⟩
 | gW=>exact (show False from hv).elim
 | undef=>exact V0.step (v:=.undef) h hh hv (hi _)
 | dead=>exact V0.step (v:=.dead) (x:=x) h hh hv (hi _)
 | int k n=>exact V0.step (v:=.int k n) h hh hv (hi _)
 | bool b=>exact V0.step (v:=.bool b) h hh hv (hi _)
 | str s=>exact V0.step (v:=.str s) h hh hv (hi _)
 | nil=>exact V0.step (v:=.nil) h hh hv (hi _)
 | sl d e xs=>exact V0.step (v:=.sl d e xs) h hh hv (hi _)
 | own r=>exact V0.step (v:=.own r) h hh hv (hi _)
 | lit r n e=>exact V0.step (v:=.lit r n e) h hh hv (hi _)
 | bP r o=>exact V0.step (v:=.bP r o) h hh hv (hi _)
 | fM r sz i o=>exact V0.step (v:=.fM r sz i o) h hh hv (hi _)
 | cS d es cs o=>exact V0.step (v:=.cS d es cs o) h hh hv (hi _)
 | gm r sz i o e=>exact V0.step (v:=.gm r sz i o e) h hh hv (hi _)
theorem V2.step (h:Step A A' w w' ch)(hh:Hp T w0 M A hp w)(hc:∀r,¬ch r){v:V}{x:Value}(hv:V2 T w A v x):V2 T w' A' v x:=by
 cases v with
 | gW vs=>obtain ⟨l,h1,h2⟩:=hv;exact ⟨l,h1,h2.mono fun v x hv=>V1.step h hh hc hv⟩
 | undef=>exact V1.step (v:=.undef) h hh hc hv
 | dead=>exact V1.step (v:=.dead) (x:=x) h hh hc hv
 | int k n=>exact V1.step (v:=.int k n) h hh hc hv
 | bool b=>exact V1.step (v:=.bool b) h hh hc hv
 | str s=>exact V1.step (v:=.str s) h hh hc hv
 | nil=>exact V1.step (v:=.nil) h hh hc hv
 | sl d e xs=>exact V1.step (v:=.sl d e xs) h hh hc hv
 | own r=>exact V1.step (v:=.own r) h hh hc hv
 | lit r n e=>exact V1.step (v:=.lit r n e) h hh hc hv
 | bP r o=>exact V1.step (v:=.bP r o) h hh hc hv
 | fM r sz i o=>exact V1.step (v:=.fM r sz i o) h hh hc hv
 | cS d es cs o=>exact V1.step (v:=.cS d es cs o) h hh hc hv
 | gm r sz i o e=>exact V1.step (v:=.gm r sz i o e) h hh hc hv
 | fn f cs=>exact V1.step (v:=.fn f cs) h hh hc hv
 | agg cs=>exact V1.step (v:=.agg cs) h hh hc hv
theorem Fr.alloc {M:Nat->Prop}(h:Fr w0 w M)(o:Obj):Fr w0 (w.alloc o) M:=
 ⟨h.os,h.tape,h.output,by simp;exact Nat.le_succ_of_le h.size,fun b hb hm=>(lJ w o b (Nat.lt_of_lt_of_le hb h.size)).trans (h.block b hb hm)⟩
theorem Fr.drew {M:Nat->Prop}(h:Fr w0 w M):Fr w0 w.drew M:=⟨h.os,h.tape,h.output,h.size,h.block⟩
def cD.new (A:cD)(r:Nat)(x:Value)(S:Nat->Prop):cD:=
  { v:=upd A.v r x,N:=upd A.N r S,al:=fun q=>A.al q∨q=r,Z:=A.Z }
theorem Step.nY (hh:Hp T w0 M A hp w){r:Nat}(hr:¬A.al r)(x:Value)(S:Nat->Prop)(hS:∀b,S b->w.heap.size<=b)
  (hsz:w.heap.size<=w'.heap.size) (hb:∀b,b<w.heap.size->w'.heap[b]?=w.heap[b]?):Step A (A.new r x S) w w' (fun _=>False):=by
 refine ⟨rfl,fun q h=>.inl h,fun q h=>aI _ _ (by rintro rfl;exact hr h),hsz,fun b h _=>hb b h,fun q h _ b=>?_,fun q b h hn=>?_⟩
 ·have :q≠r:=by rintro rfl;exact hr h
  simp [cD.new,aI _ _ this]
 ·by_cases hq:q=r
  ·subst hq;simp only [cD.new,aQ] at hn;exact .inr (hS b hn)
  ·simp only [cD.new,aI _ _ hq] at hn
   rcases h with h | h
   ·exact h.elim
   ·exact (h (hh.xd hn)).elim
theorem Hp.nY (hh:Hp T w0 M A hp w){r:Nat}(hr:¬A.al r)(x:Value)(S:Nat->Prop)(hS:∀b,S b->w.heap.size<=b/\b<w'.heap.size)
  (hsz:w.heap.size<=w'.heap.size) (hb:∀b,b<w.heap.size->w'.heap[b]?=w.heap[b]?) (hf:Fr w0 w' M.p) {o:aK} (ho:dB T w' (A.new r x S) r o) :
  Hp T w0 M (A.new r x S) (upd hp r o) w':=by
 have st:=Step.nY (w':=w') hh hr x S (fun b h=>(hS b h).1) hsz hb
 have hN:∀q,q≠r->(A.new r x S).N q=A.N q:=fun q hq=>aI _ _ hq
 have hNr:(A.new r x S).N r=S:=aQ _ _ _
 refine ⟨fun q b h=>?_,fun q q' b h h'=>?_,fun q h=>?_,fun q=>?_,hf,fun q b h=>?_,hh.zf,fun j hj=>⟨.inl (hh.pn j hj).1,(st.v j (hh.pn j hj).1).trans (hh.pn j hj).2⟩⟩
 ·by_cases hq:q=r
  ·subst hq;rw [hNr] at h;exact (hS b h).2
  ·rw [hN q hq] at h;exact Nat.lt_of_lt_of_le (hh.lt q b h) hsz
 ·by_cases hq:q=r<;>by_cases hq':q'=r
  ·rw [hq,hq']
  ·subst hq;rw [hNr] at h;rw [hN q' hq'] at h';have:=hh.lt q' b h';have:=(hS b h).1;omega
  ·subst hq';rw [hNr] at h';rw [hN q hq] at h;have:=hh.lt q b h;have:=(hS b h').1;omega
  ·rw [hN q hq] at h;rw [hN q' hq'] at h';exact hh.dj q q' b h h'
 ·have hq:q≠r:=by rintro rfl;exact h (.inr rfl)
  rw [aI _ _ hq];exact hh.al q fun h'=>h (.inl h')
 ·by_cases hq:q=r
  ·subst hq;rw [aQ];exact ho
  ·rw [aI _ _ hq]
   refine (hh.rt q).step st hh (fun h=>h) (fun hd=>?_) (fun cs _ v _=>?_)
   ·refine .inr fun b h=>?_
    rw [hN q hq] at h
    have:=hh.rt q;rw [hd] at this;exact this b h
   ·cases v with
    | sl d=>cases d<;>simp [indep]
    | cS d=>cases d<;>simp [indep]
    | gm=>exact id
    | _=>trivial
 ·by_cases hq:q=r
  ·subst hq;rw [hNr] at h;exact .inr (Nat.le_trans hh.fr.size (hS b h).1)
  ·rw [hN q hq] at h;exact hh.nm q b h
end
def ef (P:Program)(T:Nat->List K){np:Nat}(w0:World)(M:Mem np)(o:Oper)(a:Act)(w:World)(A:cD)(hp:Nat->aK)(nx:Nat)(v:V)(rs:List aK):Prop:=
 (∀r,nx<=r->r<nx+rs.length->¬A.al r)->∀(K:Act->World->Prop) (Q:Exit->Act->World->Prop),
  (∀cv w' A',Hp T w0 M A' (dH hp nx rs) w'->Step A A' w w' (fun _=>False)->V2 T w' A' v cv->(∀r,A'.al r->A.al r∨(nx<=r/\r<nx+rs.length))->K (a.put o.dst cv) w')->
  o.wp P a w K Q
section
variable {P:Program} {T:Nat->List K} {w0 w:World} {np:Nat} {M:Mem np} {A:cD} {hp:Nat->aK} {o:Oper} {a:Act} {nx:Nat} {v:V}
theorem ef.pure (hh:Hp T w0 M A hp w){cv:Value}(hr:(execOp a.eval o).run P w=.ok (.value cv) w)(hv:V2 T w A v cv):ef P T w0 M o a w A hp nx v []:=by
 intro _ K Q hK
 unfold Oper.wp
 rw [hr]
 exact hK cv w A hh (Step.refl hh _) hv fun r h=>.inl h
theorem ef.alloc (hh:Hp T w0 M A hp w){cv x:Value}{obj:Obj}{r:aK}(S:Nat->Prop)(hr:(execOp a.eval o).run P w=.ok (.value cv) (w.alloc obj))
  (hS:∀b,S b->b=w.heap.size) (hv:¬A.al nx->V2 T (w.alloc obj) (A.new nx x S) v cv) (ho:¬A.al nx->Step A (A.new nx x S) w (w.alloc obj) (fun _=>False)->dB T (w.alloc obj) (A.new nx x S) nx r):ef P T w0 M o a w A hp nx v [r]:=by
 intro hnx K Q hK
 have ha:¬A.al nx:=hnx nx (Nat.le_refl _) (by simp)
 have hb:∀b,b<w.heap.size->(w.alloc obj).heap[b]?=w.heap[b]?:=fun b h=>lJ w obj b h
 have st:=Step.nY (w':=w.alloc obj) hh ha x S (fun b h=>by rw [hS b h];exact Nat.le_refl _) (by simp) hb
 unfold Oper.wp
 rw [hr]
 refine hK cv _ (A.new nx x S) (Hp.nY hh ha x S (fun b h=>by rw [hS b h];simp) (by simp) hb (hh.fr.alloc _) (ho ha st)) st (hv ha) fun q h=>?_
 rcases h with h | h
 ·exact .inl h
 ·exact .inr (by subst h;simp)
theorem ef.lone (hh:Hp T w0 M A hp w){cv:Value}{obj:Obj}(hr:(execOp a.eval o).run P w=.ok (.value cv) (w.alloc obj))
  (hv:V2 T (w.alloc obj) A v cv):ef P T w0 M o a w A hp nx v []:=by
 intro _ K Q hK
 have hb:∀b,b<w.heap.size->(w.alloc obj).heap[b]?=w.heap[b]?:=fun b h=>lJ w obj b h
 have st:Step A A w (w.alloc obj) (fun _=>False):=⟨rfl,fun _ h=>h,fun _ _=>rfl,by simp,fun b h _=>hb b h,fun _ _ _ _=>Iff.rfl,fun r b h hn=>by
  rcases h with h | h
  ·exact h.elim
  ·exact (h (hh.xd hn)).elim⟩
 unfold Oper.wp
 rw [hr]
 refine hK cv _ A ⟨fun r b h=>Nat.lt_of_lt_of_le (hh.lt r b h) (by simp),hh.dj,hh.al,fun r=>(hh.rt r).step st hh (fun h=>h) (fun hd=>.inr fun b h=>?_) (fun cs _ v _=>?_),hh.fr.alloc _,hh.nm,hh.zf,hh.pn⟩ st hv fun r h=>.inl h
 ·have:=hh.rt r;rw [hd] at this;exact this b h
 ·cases v with
  | sl d=>cases d<;>simp [indep]
  | cS d=>cases d<;>simp [indep]
  | gm=>exact id
  | _=>trivial
end
end Go.DM
namespace Go.DM
def kD:K->Value
 | .int k=>.int k 0
 | .bool=>.bool false
 | .str=>.string ⟨#[]⟩
 | .sl _=>.slice none 0 0
def jh:TypeDesc->Bool
 | .struct _ | .array _ _=>true
 | _=>false
def fX (P:Program)(E:Env)(t:Nat)(i:TI):Prop:=
 ∃ii d z,P.info? t=some ii/\P.underlying t=some d/\ii.zero=some z/\ii.size=i.cells.length/\ii.bytes=i.bytes/\0<i.cells.length/\0<i.bytes/\
  z.cells.toList=i.cells.map kD/\jh d=i.agg/\(i.agg=false->i.cells.length=1/\i.fields=[])/\
  (i.agg=true->∃fs:Array Field,d=.struct fs/\∀(f:Nat) (p:Nat×Nat),i.fields[f]?=some p->∃fl:Field,fs[f]?=some fl/\fl.offset=p.1/\fl.type=p.2/\∃fi,E.T p.2=some fi)/\
  (∀fs:Array Field,d=.struct fs->∃places,fs.toList.mapM (fun f=>(P.info? f.type).map fun i=>(f.offset,i.size))=some places/\∀(f:Nat) (p:Nat×Nat),i.fields[f]?=some p->places[f]?=some (p.1,(E.cells p.2).length))/\
  (∀e,i.el=some e->d=.slice e/\∃ie,E.T e=some ie)/\
  (i.agg=false->∀k,i.cells=[.int k]->d=.int k)/\(i.agg=false->i.cells=[.bool]->d=.bool)/\(i.agg=false->i.cells=[.str]->d=.string)/\
  (i.eqv=true->i.agg=true->∃fs:Array Field,d=.struct fs/\P.stoodInHeld t=false/\P.eqGuardType P.depth t=false/\fs.size=i.cells.length/\
   ∀ (j : Nat) (f : Field), fs[j]? = some f -> f.name ≠ "_" /\ f.offset = j /\ ∃ d', P.underlying f.type = some d' /\ ((∃ ik, i.cells[j]? = some (.int ik) /\ d' = .int ik) ∨ (i.cells[j]? = some .bool /\ d' = .bool) ∨ (i.cells[j]? = some .str /\ d' = .string)))
section
variable {P:Program} {w:World}
theorem gk {t:Nat}{ii:TypeInfo}(h:P.info? t=some ii):(sizeOf t).run P w=.ok ii.size w:=by simp [sizeOf,typeInfo,h]
theorem Bg {t:Nat}{ii:TypeInfo}{z:Value}(h:P.info? t=some ii)(hz:ii.zero=some z):(zeroValue t).run P w=.ok z w:=by simp [zeroValue,typeInfo,h,hz]
theorem qn {t:Nat}{d:TypeDesc}(h:P.underlying t=some d):(isAgg t).run P w=.ok (jh d) w:=by
 simp only [isAgg,run_underlying h,Sem.run_bind,Result.andThen_ok]
 cases d<;>rfl
theorem ow (b o n:Nat):Addr.add ⟨b,o,none⟩ n=⟨b,o+n,none⟩:=Addr.add_lit b o n
def mkValue (agg:Bool)(cs:List Value):Value:=bif agg then .agg cs.toArray else cs.headD Go.undef
theorem gx {t b o:Nat}{ii:TypeInfo}{d:TypeDesc}{cs:List Value}(hi:P.info? t=some ii)(hu:P.underlying t=some d)(hl:cs.length=ii.size)
  (h1:jh d=false->cs.length=1) (hc:∀j v,cs[j]?=some v->w.cell? ⟨b,o+j,none⟩=some v) :
  (Instr.loadAt t (.pointer (some ⟨b,o,none⟩))).run P w=.ok (mkValue (jh d) cs) w:=by
 unfold Instr.loadAt
 simp only [Instr.sureAddr,Sem.run_bind,Sem.run_pure,Result.andThen_ok,loadVar,qn hu]
 cases hd:jh d with
 | true=>
  have:=run_loadCells_list (P:=P) w ⟨b,o,none⟩ cs (fun j v hj=>by rw [ow];exact hc j v hj)
  simp [gk hi,<-hl,this,mkValue]
 | false=>
  have hl1:=h1 hd
  match cs,hl1 with
  | [v],_=>
   have:=hc 0 v rfl
   simp only [Nat.add_zero] at this
   simp [mkValue,this]
end
section
variable {T:Nat->List K} {w:World} {A:cD}
theorem V1.v2 {v:V}{x:Value}(h:V1 T w A v x):V2 T w A v x:=by
 cases v<;>first | exact h | exact (show False from h).elim
theorem V0.v1 {v:V}{x:Value}(h:V0 T w A v x):V1 T w A v x:=by
 cases v<;>first | exact h | exact (show False from h).elim
theorem V0.v2 {v:V}{x:Value}(h:V0 T w A v x):V2 T w A v x:=h.v1.v2
theorem qd {agg:Bool}{cs:List V}{xs:List Value}(h:F2 (Vc T w A) cs xs)(h1:agg=false->cs.length=1):V1 T w A (mkVar agg cs) (mkValue agg xs):=by
 cases agg with
 | true=>exact ⟨xs,rfl,h⟩
 | false=>
  have:=h1 rfl
  cases h with
  | nil=>simp at this
  | cons hc ht=>
   cases ht with
   | nil=>
    exact hc.1.v1
   | cons=>simp at this
theorem Rd.one {Z:Nat->Prop}{k:K}{x:Value}{l:L}(h:Rd T w Z k x l):x.oneCell'=true:=by cases h<;>rfl
theorem fQ.one {S:Nat->Prop}{k:K}{x:Value}{l:L}(h:fQ T w S k x l):x.oneCell'=true:=by cases h<;>rfl
theorem sK {d:Option Nat}{k:K}{x:Value}{l:L}(ha:∀r,d=some r->A.al r)(h:Rd T w (fG w A d) k x l):V0 T w A (xZ d k l) x:=by
 cases k with
 | int ik=>cases h;rfl
 | bool=>cases h;rfl
 | str=>cases h;rfl
 | sl e=>exact ⟨ha,h.uc⟩
theorem gY {l:List L}:l.headD .hole=l.getD 0 .hole:=by cases l<;>rfl
theorem jU {l:List L}{j:Nat}:l.tail.getD j .hole=l.getD (j+1) .hole:=by cases l<;>simp
theorem rS {d:Option Nat}(ha:∀r,d=some r->A.al r):∀(ks:List K) (l:List L) (f:Nat->Value),(∀j k,ks[j]?=some k->Rd T w (fG w A d) k (f j) (l.getD j .hole))->
  F2 (Vc T w A) (kr d ks l) ((List.range ks.length).map f):=by
 intro ks
 induction ks with
 | nil=>intro l f _;exact .nil
 | cons k ks ih=>
  intro l f h
  have h0:=h 0 k rfl
  rw [show (k::ks).length=ks.length+1 from rfl,List.range_succ_eq_map,List.map_cons,List.map_map]
  refine .cons ⟨?_,h0.one⟩ ?_
  ·rw [gY];exact sK ha h0
  ·exact ih l.tail (fun j=>f (j+1)) (fun j k hj=>by rw [jU];exact h (j+1) k (by simpa using hj))
end
end Go.DM
namespace Go.DM
section
variable {P:Program} {E:Env} {w0 w:World} {np:Nat} {M:Mem np} {A:cD} {hp:Nat->aK} {o:Oper} {a:Act} {nx:Nat} {ρ:Operand->V} {k:V->List aK->aD} {ans:List L}
def fN (P:Program)(E:Env){np:Nat}(w0:World)(M:Mem np)(o:Oper)(a:Act)(w:World)(A:cD)(hp:Nat->aK)(nx:Nat)(k:V->List aK->aD)(ans:List L):Prop:=
 ∃v rs,k v rs=some ans/\ef P E.cells w0 M o a w A hp nx v rs
def sI (P:Program)(E:Env)(o:Oper)(a:Act)(w:World)(A:cD)(k:V->List aK->aD)(ans:List L):Prop:=
 ∃v cv,k v []=some ans/\(execOp a.eval o).run P w=.ok (.value cv) w/\V2 E.cells w A v cv
theorem sI.goal (hh:Hp E.cells w0 M A hp w)(h:sI P E o a w A k ans):fN P E w0 M o a w A hp nx k ans:=by
 obtain ⟨v,cv,h1,h2,h3⟩:=h
 exact ⟨v,[],h1,ef.pure hh h2 h3⟩
variable (hh:Hp E.cells w0 M A hp w) (ha:∀x,V2 E.cells w A (ρ x) (a.eval x))
include hh ha
theorem A7 {x:Operand}(ho:o.op=.move x∨o.op=.assign x)(h:k (ρ x) []=some ans):fN P E w0 M o a w A hp nx k ans:=
 ⟨_,_,h,ef.pure hh (cv:=a.eval x) (by rcases ho with ho | ho<;>simp [execOp,ho]) (ha x)⟩
theorem yA {x:Operand}(ho:o.op=.nilCheck x)(h:aZ E (.nilCheck x) ρ hp nx k=some ans):fN P E w0 M o a w A hp nx k ans:=by
 have hx:=ha x
 simp only [aZ] at h
 split at h
 ·rename_i r q hr
  rw [hr] at hx
  obtain ⟨hal,g,f1,f2⟩:=(show V0 E.cells w A (.bP r q) (a.eval x) from hx)
  exact ⟨_,_,h,ef.pure hh (cv:=a.eval x) (by simp [execOp,ho,f2]) hx⟩
 ·rename_i r sz i q hr
  rw [hr] at hx
  obtain ⟨hal,g,n,c,f1,fj,f2⟩:=(show V0 E.cells w A (.fM r sz i q) (a.eval x) from hx)
  exact ⟨_,_,h,ef.pure hh (cv:=a.eval x) (by simp [execOp,ho,f2]) hx⟩
 ·rename_i d es cs q hr
  rw [hr] at hx
  obtain ⟨hal,bb,q2,vv,f1,f2,f3⟩:=(show V0 E.cells w A (.cS d es cs q) (a.eval x) from hx)
  exact ⟨_,_,h,ef.pure hh (cv:=a.eval x) (by simp [execOp,ho,f1]) hx⟩
 ·cases h
theorem Di {c x y:Operand}(ho:o.op=.pick c x y)(h:aZ E (.pick c x y) ρ hp nx k=some ans):fN P E w0 M o a w A hp nx k ans:=by
 have hc:=ha c
 simp only [aZ] at h
 split at h
 ·rename_i t he
  rw [he] at hc
  have hc':a.eval c=.bool t:=hc
  cases t with
  | true=>exact ⟨_,_,h,ef.pure hh (cv:=a.eval x) (by simp [execOp,ho,hc',asBool]) (ha x)⟩
  | false=>exact ⟨_,_,h,ef.pure hh (cv:=a.eval y) (by simp [execOp,ho,hc',asBool]) (ha y)⟩
 ·cases h
theorem Ee {t:TypeId}{x:Operand}(ho:o.op=.unOp .not t x)(h:aZ E (.unOp .not t x) ρ hp nx k=some ans):fN P E w0 M o a w A hp nx k ans:=by
 have hc:=ha x
 simp only [aZ] at h
 split at h
 ·rename_i b he
  rw [he] at hc
  have hc':a.eval x=.bool b:=hc
  exact ⟨_,_,h,ef.pure hh (cv:=.bool (!b)) (by simp [execOp,ho,hc',Op.unary]) rfl⟩
 ·cases h
theorem Ed {t:TypeId}{x:Operand}(ho:o.op=.unOp .neg t x)(h:aZ E (.unOp .neg t x) ρ hp nx k=some ans):fN P E w0 M o a w A hp nx k ans:=by
 have hc:=ha x
 simp only [aZ] at h
 split at h
 ·rename_i ik n he
  rw [he] at hc
  have hc':a.eval x=.int ik n:=hc
  exact ⟨_,_,h,ef.pure hh (cv:=.int ik (ik.wrap (0 - n))) (by simp [execOp,ho,hc',Op.unary,Op.intArith]) rfl⟩
 ·cases h
theorem Ao {x:Operand}{i:Nat}(ho:o.op=.extract x i)(h:aZ E (.extract x i) ρ hp nx k=some ans):fN P E w0 M o a w A hp nx k ans:=by
 have hc:=ha x
 simp only [aZ] at h
 split at h
 ·rename_i vs he
  rw [he] at hc
  obtain ⟨l,h1,h2⟩:=hc
  split at h
  ·rename_i v hv
   obtain ⟨y,hy,hvy⟩:=h2.get hv
   exact ⟨_,_,h,ef.pure hh (cv:=y) (by simp [execOp,ho,h1,Instr.extract,hy]) hvy.v2⟩
  ·cases h
 ·cases h
theorem yB {f:FuncId}{b caps:Array Operand}(hb:b=#[])(ho:o.op=.makeFunc (.func f) b caps)(hv:∀x∈caps.toList,V0 E.cells w A (ρ x) (a.eval x))(h:k (.fn f (caps.toList.map ρ)) []=some ans):fN P E w0 M o a w A hp nx k ans:=by
 subst hb
 refine ⟨_,_,h,ef.pure hh (cv:=.func (.func f) #[] (caps.map a.eval)) (by simp [execOp,ho,Instr.makeFunc]) ?_⟩
 refine ⟨caps.toList.map a.eval,by cases caps;simp,?_⟩
 revert hv
 generalize caps.toList=l
 intro hv
 induction l with
 | nil=>exact .nil
 | cons x l ih=>exact .cons (hv x (by simp)) (ih fun y hy=>hv y (by simp [hy]))
theorem BY {t:TypeId}{x i:Operand}(ho:o.op=.index t x i)(hu:P.underlying t=some .string)(h:aZ E (.index t x i) ρ hp nx k=some ans):fN P E w0 M o a w A hp nx k ans:=by
 have hx:=ha x
 have hi:=ha i
 simp only [aZ] at h
 cases hst:TI.isStr (E.T t)<;>simp only [hst,Bool.not_true,Bool.not_false,aO,aR] at h
 ·cases h
 split at h
 ·rename_i ik n he
  rw [he] at hi
  have hi':a.eval i=.int ik n:=hi
  split at h
  ·rename_i s hs
   rw [hs] at hx
   have hx':a.eval x=.string s:=hx
   by_cases h0:0<=n
   ·by_cases h1:n<(s.size:Int)
    ·simp only [h0,h1,decide_true,aO] at h
     have hlt:n.toNat<s.size:=by omega
     refine ⟨_,_,h,ef.pure hh (cv:=.int .u8 (s.data.toList.getD n.toNat 0).toNat) ?_ rfl⟩
     have :s[n.toNat]?=some (s.data.toList.getD n.toNat 0):=by
      have hl:n.toNat<s.data.toList.length:=by rw [Array.length_toList];exact hlt
      rw [List.getD_eq_getElem?_getD,List.getElem?_eq_getElem hl]
      simp only [Option.getD_some]
      rw [getElem?_pos s n.toNat hlt]
      rfl
     simp [execOp,ho,hi',hx',Instr.index,asIntOf,run_underlying hu,h0,this]
    ·simp [h0,h1] at h
   ·simp [h0] at h
  ·cases h
 ·cases h
end
end Go.DM
set_option linter.unusedSectionVars false
namespace Go.DM
def gu {a b:IntKind}(h:iW a b=true):a=b:=by cases a<;>cases b<;>first | rfl | cases h
def jt {v:V}{k:List V->aD}{ans:List L}(h:oC v k=some ans) :
  ∃cs,k cs=some ans/\∀{T:Nat->List K} {w:World} {A:cD} {x:Value},V2 T w A v x->F2 (Vc T w A) cs x.cells.toList:=by
 have leaf:∀{v:V} {T:Nat->List K} {w:World} {A:cD} {x:Value},v.leaf=true->V0 T w A v x->x.cells=#[x]/\x.oneCell'=true:=by
  intro v T w A x hl hv
  cases v<;>first | cases hl | skip
  case int=>cases hv;exact ⟨rfl,rfl⟩
  case bool=>cases hv;exact ⟨rfl,rfl⟩
  case str=>cases hv;exact ⟨rfl,rfl⟩
  case nil=>obtain ⟨a,rfl⟩:=hv;exact ⟨rfl,rfl⟩
  case sl=>have:=hv.2;cases this<;>exact ⟨rfl,rfl⟩
  case own=>obtain ⟨_,_,a,n,c,rfl⟩:=hv;exact ⟨rfl,rfl⟩
  case lit=>obtain ⟨_,g,_,rfl⟩:=hv;exact ⟨rfl,rfl⟩
 have one:∀{v:V},v.leaf=true->(∀{T:Nat->List K} {w:World} {A:cD} {x:Value},V2 T w A v x->F2 (Vc T w A) [v] x.cells.toList):=by
  intro v hl T w A x hv
  have hv0:V0 T w A v x:=by cases v<;>first | exact hv | cases hl
  obtain ⟨h1,h2⟩:=leaf hl hv0
  rw [h1];exact .cons ⟨hv0,h2⟩ .nil
 cases v with
 | agg cs=>exact ⟨cs,h,fun {T w A x} hv=>by obtain ⟨l,rfl,hl⟩:=hv;exact hl⟩
 | int k n=>exact ⟨_,h,one rfl⟩
 | bool b=>exact ⟨_,h,one rfl⟩
 | str s=>exact ⟨_,h,one rfl⟩
 | nil=>exact ⟨_,h,one rfl⟩
 | sl d e xs=>exact ⟨_,h,one rfl⟩
 | own r=>exact ⟨_,h,one rfl⟩
 | lit r n e=>exact ⟨_,h,one rfl⟩
 | _=>cases h
def Bl {T:Nat->List K}{w:World}{A:cD}(k:K):Vc T w A (zeroV k) (kD k):=by cases k<;>exact ⟨by first | rfl | exact ⟨_,rfl⟩,rfl⟩
def wW {T:Nat->List K}{w:World}{A:cD}(ks:List K):F2 (Vc T w A) (ks.map zeroV) (ks.map kD):=by
 induction ks with
 | nil=>exact .nil
 | cons k ks ih=>exact .cons (Bl k) ih
section
variable {P:Program} {E:Env} {w0 w:World} {np:Nat} {M:Mem np} {A:cD} {hp:Nat->aK} {o:Oper} {a:Act} {nx:Nat} {ρ:Operand->V} {k:V->List aK->aD} {ans:List L}
variable (hT:∀t i,E.T t=some i->fX P E t i) (hh:Hp E.cells w0 M A hp w) (ha:∀x,V2 E.cells w A (ρ x) (a.eval x))
include hT hh ha
omit hT ha in
theorem Ef {t ty:TypeId}{x y:Operand}{ik jk:IntKind}{p q:Int}(ho:o.op=.binOp .shl t x y ty)(hx:a.eval x=.int ik p)(hy:a.eval y=.int jk q)(h:AE ik p q (fun v=>k v [])=some ans):fN P E w0 M o a w A hp nx k ans:=by
 unfold AE at h
 by_cases hq:q<0
 ·simp [hq] at h
 ·simp only [hq,decide_false,aR] at h
  exact ⟨_,_,h,ef.pure hh (by simp [execOp,ho,hx,hy,eqGuard,Go.binOp,Op.shift,hq]<;>rfl) rfl⟩
omit hT ha in
theorem DT {t ty:TypeId}{x y:Operand}{ik jk:IntKind}{p q:Int}(ho:o.op=.binOp .shr t x y ty)(hx:a.eval x=.int ik p)(hy:a.eval y=.int jk q)(h:AO ik p q (fun v=>k v [])=some ans):fN P E w0 M o a w A hp nx k ans:=by
 unfold AO at h
 by_cases hq:q<0
 ·simp [hq] at h
 ·simp only [hq,decide_false,aR] at h
  exact ⟨_,_,h,ef.pure hh (by simp [execOp,ho,hx,hy,eqGuard,Go.binOp,Op.shift,hq]<;>rfl) rfl⟩
omit hT ha in
theorem B2 {op:BinOp}{t ty:TypeId}{x y:Operand}{ik jk:IntKind}{p q:Int}(ho:o.op=.binOp op t x y ty)(hx':a.eval x=.int ik p)(hy':a.eval y=.int jk q)(ns:op≠.shl)(nr:op≠.shr)(h:(cond (iW ik jk) (oc op ik p q (fun v=>k v [])) none)=some ans):fN P E w0 M o a w A hp nx k ans:=by
 cases hk:iW ik jk<;>simp only [hk,aO,aR] at h
 ·cases h
 obtain rfl:=gu hk
 unfold oc at h
 split at h
 case h_4=>
  by_cases hq:q=0
  ·simp [hq] at h
  ·simp only [hq,decide_false,aR] at h
   exact ⟨_,_,h,ef.pure hh (by simp [execOp,ho,hx',hy',eqGuard,Go.binOp,Op.intDiv,hq]<;>rfl) rfl⟩
 case h_5=>
  by_cases hq:q=0
  ·simp [hq] at h
  ·simp only [hq,decide_false,aR] at h
   exact ⟨_,_,h,ef.pure hh (by simp [execOp,ho,hx',hy',eqGuard,Go.binOp,Op.intDiv,hq]<;>rfl) rfl⟩
 case h_15=>cases h
 all_goals exact ⟨_,_,h,ef.pure hh (by simp [execOp,ho,hx',hy',eqGuard,Go.binOp,Op.intArith,Op.intCmp,Op.intBits,vQ,Fg,nA]<;>rfl) rfl⟩
omit hT hh ha in
theorem qP : ∀ {cs ds : List V} {k : Bool -> aD}, fU cs ds k = some ans -> ∃ r, k r = some ans /\ ∀ {T : Nat -> List K} {w : World} {A : cD} {xs ys : List Value}, F2 (Vc T w A) cs xs -> F2 (Vc T w A) ds ys ->
    ∀ (fs : List Field) (o : Nat) (X Y : Array Value) (d : Nat) (ks : List K), xs.length = fs.length -> X.toList.drop o = xs -> Y.toList.drop o = ys ->
      (∀ (j : Nat) (f : Field), fs[j]? = some f -> f.name ≠ "_" /\ f.offset = o + j /\ ∃ d', P.underlying f.type = some d' /\ ((∃ ik, d' = .int ik) ∨ d' = .bool ∨ d' = .string) /\ (∀ v, xs[j]? = some v -> (∃ ik n, v = .int ik n /\ ∃ jk, d' = .int jk) ∨ (∃ b, v = .bool b /\ d' = .bool) ∨ (∃ s, v = .string s /\ d' = .string))) ->
      (Op.eqFields (d + 1) X Y fs).run P w = .ok r w
  | [], [], k, h => ⟨true, h, fun {T w A xs ys} hx hy fs o X Y d ks hl _ _ _ => by
      cases hx
      have : fs = [] := List.eq_nil_of_length_eq_zero hl.symm
      subst this
      simp [Op.eqFields]⟩
  | [], _ :: _, k, h => by cases h
  | _ :: _, [], k, h => by simp [fU] at h
  | c :: cs, dd :: ds, k, h => by
    have go : ∀ (b : Bool) (k' : Bool -> aD), fU cs ds (fun r => k (b && r)) = some ans -> (∀ {T : Nat -> List K} {w : World} {A : cD} {x y : Value}, Vc T w A c x -> Vc T w A dd y -> ∀ (t : TypeId) (d : Nat) (d' : TypeDesc), P.underlying t = some d' ->
          ((∃ ik n, x = .int ik n /\ ∃ jk, d' = .int jk) ∨ (∃ b, x = .bool b /\ d' = .bool) ∨ (∃ s, x = .string s /\ d' = .string)) -> (Op.equalIn (d + 1) t x y).run P w = .ok b w) ->
        ∃ r, k r = some ans /\ ∀ {T : Nat -> List K} {w : World} {A : cD} {xs ys : List Value}, F2 (Vc T w A) (c :: cs) xs -> F2 (Vc T w A) (dd :: ds) ys ->
          ∀ (fs : List Field) (o : Nat) (X Y : Array Value) (d : Nat) (ks : List K), xs.length = fs.length -> X.toList.drop o = xs -> Y.toList.drop o = ys ->
            (∀ (j : Nat) (f : Field), fs[j]? = some f -> f.name ≠ "_" /\ f.offset = o + j /\ ∃ d', P.underlying f.type = some d' /\ ((∃ ik, d' = .int ik) ∨ d' = .bool ∨ d' = .string) /\ (∀ v, xs[j]? = some v -> (∃ ik n, v = .int ik n /\ ∃ jk, d' = .int jk) ∨ (∃ b, v = .bool b /\ d' = .bool) ∨ (∃ s, v = .string s /\ d' = .string))) ->
            (Op.eqFields (d + 1) X Y fs).run P w = .ok r w := by
      intro b _ h hb
      obtain ⟨r, h1, h2⟩ := qP h
      refine ⟨b && r, h1, fun {T w A xs ys} hx hy fs o X Y d ks hl hX hY hf => ?_⟩
      cases hx with
      | cons hc ht =>
        rename_i x xs
        cases hy with
        | cons hc' ht' =>
          rename_i y ys
          cases fs with
          | nil => simp at hl
          | cons f fs =>
            obtain ⟨f1, f2, d', f3, f4, f5⟩ := hf 0 f rfl
            have hxo : X[o]? = some x := by
              rw [<- Array.getElem?_toList]
              have : (X.toList.drop o)[0]? = some x := by rw [hX]; rfl
              simpa using this
            have hyo : Y[o]? = some y := by
              rw [<- Array.getElem?_toList]
              have : (Y.toList.drop o)[0]? = some y := by rw [hY]; rfl
              simpa using this
            have hagg : jh d' = false := by rcases f4 with ⟨ik, rfl⟩ | rfl | rfl <;> rfl
            have px : (part f.type X f.offset).run P w = .ok x w := by rw [f2, Nat.add_zero]; simp [part, qn f3, hagg, hxo]
            have py : (part f.type Y f.offset).run P w = .ok y w := by rw [f2, Nat.add_zero]; simp [part, qn f3, hagg, hyo]
            have e1 := hb hc hc' f.type d d' f3 (f5 x rfl)
            have e2 := h2 ht ht' fs (o + 1) X Y d ks (by simpa using hl) (by
              have := congrArg List.tail hX; simpa using this) (by
              have := congrArg List.tail hY; simpa using this) (fun j g hg => by
                obtain ⟨g1, g2, g3⟩ := hf (j + 1) g (by simpa using hg)
                exact ⟨g1, by omega, by simpa using g3⟩)
            rw [Op.eqFields]
            simp only [if_pos f1, Sem.run_bind, px, py, e1, Result.andThen_ok]
            cases b
            · simp
            · simpa using e2
    cases c <;> cases dd <;> simp only [fU] at h <;> first | (cases h; done) | skip
    case int.int ik p jk q =>
      cases hk : iW ik jk <;> simp only [hk, aO, aR] at h
      · cases h
      obtain rfl := gu hk
      refine go (p == q) k h fun {T w A x y} hx hy t d d' hu hd => ?_
      have ex : x = .int ik p := hx.1
      have ey : y = .int ik q := hy.1
      subst ex; subst ey
      rcases hd with ⟨_, _, _, jk, rfl⟩ | ⟨_, h, _⟩ | ⟨_, h, _⟩
      · exact run_equalIn_int w d t ik jk p q hu
      · cases h
      · cases h
    case bool.bool p q =>
      refine go (p == q) k h fun {T w A x y} hx hy t d d' hu hd => ?_
      have ex : x = .bool p := hx.1
      have ey : y = .bool q := hy.1
      subst ex; subst ey
      rcases hd with ⟨_, _, h, _⟩ | ⟨_, _, rfl⟩ | ⟨_, h, _⟩
      · cases h
      · exact run_equalIn_bool' w d t p q hu
      · cases h
    case str.str p q =>
      refine go (p == q) k h fun {T w A x y} hx hy t d d' hu hd => ?_
      have ex : x = .string p := hx.1
      have ey : y = .string q := hy.1
      subst ex; subst ey
      rcases hd with ⟨_, _, h, _⟩ | ⟨_, h, _⟩ | ⟨_, _, rfl⟩
      · cases h
      · cases h
      · rw [beq_toListBytes]; exact run_equalIn_string w d t p q hu
omit hT hh ha in
theorem ug:∀{ks:List K} {cs:List V} {xs:List Value},qh ks cs=true->F2 (Vc E.cells w A) cs xs->xs.length=ks.length/\∀(j:Nat) (v:Value),xs[j]?=some v->(∃ik n,ks[j]?=some (.int ik)/\v=.int ik n)∨(∃b,ks[j]?=some .bool/\v=.bool b)∨(∃s,ks[j]?=some .str/\v=.string s)
 | [],[],_,_,h=>by cases h;exact ⟨rfl,fun j v hj=>by simp at hj⟩
 | [],_::_,_,h,_=>by cases h
 | k::ks,[],_,h,_=>by cases k<;>cases h
 | k::ks,c::cs,xs,h,hx=>by
  cases hx with
  | cons hc ht=>
   rename_i x xs
   have key:qh ks cs=true/\((∃ik n,k=.int ik/\x=.int ik n)∨(∃b,k=.bool/\x=.bool b)∨(∃s,k=.str/\x=.string s)):=by
    cases k<;>cases c<;>simp only [qh] at h<;>first | (cases h;done) | skip
    case int.int ik jk n=>
     simp only [Bool.and_eq_true] at h
     obtain rfl:=gu h.1
     exact ⟨h.2,.inl ⟨ik,n,rfl,hc.1⟩⟩
    case bool.bool b=>exact ⟨h,.inr (.inl ⟨b,rfl,hc.1⟩)⟩
    case str.str b=>exact ⟨h,.inr (.inr ⟨b,rfl,hc.1⟩)⟩
   obtain ⟨h1,h2⟩:=ug key.1 ht
   refine ⟨by simp [h1],fun j v hj=>?_⟩
   cases j with
   | zero=>
    simp at hj
    subst hj
    rcases key.2 with ⟨ik,n,rfl,e⟩ | ⟨b,rfl,e⟩ | ⟨s,rfl,e⟩
    ·exact .inl ⟨ik,n,rfl,e⟩
    ·exact .inr (.inl ⟨b,rfl,e⟩)
    ·exact .inr (.inr ⟨s,rfl,e⟩)
   | succ j=>simpa using h2 j v (by simpa using hj)
theorem pP {t:Nat}{cs ds:List V}{xs ys:List Value}{k:Bool->aD}(hb:TI.Ek (E.T t)=true)(hfit:qh (E.cells t) cs=true)(fx:F2 (Vc E.cells w A) cs xs)(fy:F2 (Vc E.cells w A) ds ys)(h:fU cs ds k=some ans) :
  ∃r,k r=some ans/\(Op.equalIn 10000 t (.agg xs.toArray) (.agg ys.toArray)).run P w=.ok r w/\P.eqGuardType P.depth t=false:=by
 cases ht:E.T t with
 | none=>rw [ht] at hb;cases hb
 | some i=>
  rw [ht] at hb
  simp only [TI.Ek,Bool.and_eq_true] at hb
  obtain ⟨ii,d,z,h1,h2,h3,h4,h5,h6,hby,h7,h8,h9,h10,hpl,h11,h12,h13,h14,h15⟩:=hT t i ht
  obtain ⟨fs,rfl,g1,g2,g3,g4⟩:=h15 hb.2 hb.1
  obtain ⟨r,e1,e2⟩:=qP (P:=P) h
  have hce:E.cells t=i.cells:=by simp [Env.cells,ht]
  rw [hce] at hfit
  obtain ⟨l1,l2⟩:=ug hfit fx
  refine ⟨r,e1,?_,g2⟩
  have hf:P.fieldsOf t=fs:=by simp [Program.fieldsOf,h2]
  rw [run_equalIn_struct (P:=P) w 9999 t _ _ (by rw [hf];exact h2) g1,hf]
  refine e2 fx fy fs.toList 0 _ _ 9998 [] (by rw [l1,<-g3,Array.length_toList]) (by simp) (by simp) (fun j f hj=>?_)
  obtain ⟨f1,f2,d',f3,f4⟩:=g4 j f (by simpa using hj)
  refine ⟨f1,by omega,d',f3,?_,fun v hv=>?_⟩
  ·rcases f4 with ⟨ik,_,rfl⟩ | ⟨_,rfl⟩ | ⟨_,rfl⟩
   ·exact .inl ⟨ik,rfl⟩
   ·exact .inr (.inl rfl)
   ·exact .inr (.inr rfl)
  ·rcases l2 j v hv with ⟨ik,n,e3,rfl⟩ | ⟨b,e3,rfl⟩ | ⟨s,e3,rfl⟩
   ·rcases f4 with ⟨jk,e4,rfl⟩ | ⟨e4,rfl⟩ | ⟨e4,rfl⟩
    ·exact .inl ⟨ik,n,rfl,jk,rfl⟩
    ·rw [e3] at e4;cases e4
    ·rw [e3] at e4;cases e4
   ·rcases f4 with ⟨jk,e4,rfl⟩ | ⟨e4,rfl⟩ | ⟨e4,rfl⟩
    ·rw [e3] at e4;cases e4
    ·exact .inr (.inl ⟨b,rfl,rfl⟩)
    ·rw [e3] at e4;cases e4
   ·rcases f4 with ⟨jk,e4,rfl⟩ | ⟨e4,rfl⟩ | ⟨e4,rfl⟩
    ·rw [e3] at e4;cases e4
    ·rw [e3] at e4;cases e4
    ·exact .inr (.inr ⟨s,rfl,rfl⟩)
theorem Cq {op:BinOp}{t ty:TypeId}{x y:Operand}(ho:o.op=.binOp op t x y ty)(h:aZ E (.binOp op t x y ty) ρ hp nx k=some ans):fN P E w0 M o a w A hp nx k ans:=by
 have hx:=ha x
 have hy:=ha y
 simp only [aZ] at h
 unfold binOp at h
 split at h
 ·rename_i ik p he
  rw [he] at hx
  have hx':a.eval x=.int ik p:=hx
  split at h
  ·rename_i jk q hf
   rw [hf] at hy
   have hy':a.eval y=.int jk q:=hy
   split at h
   ·exact Ef hh ho hx' hy' h
   ·exact DT hh ho hx' hy' h
   ·rename_i n1 n2
    exact B2 hh ho hx' hy' (fun e=>n1 e) (fun e=>n2 e) h
  ·cases h
 ·rename_i p he
  rw [he] at hx
  have hx':a.eval x=.bool p:=hx
  split at h
  ·rename_i q hf
   rw [hf] at hy
   have hy':a.eval y=.bool q:=hy
   cases hb:TI.isBool (E.T t)<;>simp only [hb,aO,aR] at h
   ·cases h
   have hu:P.underlying t=some .bool:=by
    cases ht:E.T t with
    | none=>rw [ht] at hb;cases hb
    | some i=>
     rw [ht] at hb
     obtain ⟨ii,d,z,h1,h2,h3,h4,h5,h6,hby,h7,h8,h9,h10,hpl,h11,h12,h13,h14,h15⟩:=hT t i ht
     simp only [TI.isBool,Bool.and_eq_true,Bool.not_eq_true'] at hb
     have hc:i.cells=[.bool]:=by
      have:=hb.2
      split at this
      ·assumption
      ·cases this
     rw [h2,h13 hb.1 hc]
   split at h
   ·exact ⟨_,_,h,ef.pure hh (cv:=.bool (p==q)) (by simp [execOp,ho,hx',hy',eqGuard,Go.run_eql_bool _ _ _ _ hu]) rfl⟩
   ·exact ⟨_,_,h,ef.pure hh (cv:=.bool (!(p==q))) (by simp [execOp,ho,hx',hy',eqGuard,Go.run_neq_bool _ _ _ _ hu]) rfl⟩
   ·cases h
  ·cases h
 ·rename_i p he
  rw [he] at hx
  have hx':a.eval x=.string p:=hx
  split at h
  ·rename_i q hf
   rw [hf] at hy
   have hy':a.eval y=.string q:=hy
   split at h
   ·exact ⟨_,_,h,ef.pure hh (cv:=.bool (p==q)) (by simp [execOp,ho,hx',hy',eqGuard,Go.binOp,Op.stringOp,beq_toListBytes]) rfl⟩
   ·exact ⟨_,_,h,ef.pure hh (cv:=.bool (!(p==q))) (by simp [execOp,ho,hx',hy',eqGuard,Go.binOp,Op.stringOp,beq_toListBytes]) rfl⟩
   ·exact ⟨_,_,h,ef.pure hh (cv:=.bool _) (by simp [execOp,ho,hx',hy',eqGuard,Go.binOp,Op.stringOp]) rfl⟩
   ·exact ⟨_,_,h,ef.pure hh (cv:=.bool _) (by simp [execOp,ho,hx',hy',eqGuard,Go.binOp,Op.stringOp]) rfl⟩
   ·exact ⟨_,_,h,ef.pure hh (cv:=.bool _) (by simp [execOp,ho,hx',hy',eqGuard,Go.binOp,Op.stringOp]) rfl⟩
   ·exact ⟨_,_,h,ef.pure hh (cv:=.bool _) (by simp [execOp,ho,hx',hy',eqGuard,Go.binOp,Op.stringOp]) rfl⟩
   ·by_cases hb:((p.size+q.size:Nat):Int)>9223372036854775807
    ·simp only [hb,decide_true,aO] at h;cases h
    ·simp only [hb,decide_false,aR] at h
     refine ⟨_,_,h,ef.pure hh (cv:=.string (p++q)) ?_ rfl⟩
     have hm:¬(((p.size+q.size:Nat):Int)>IntKind.i64.max):=by
      have :IntKind.i64.max=9223372036854775807:=by rfl
      rw [this];exact hb
     simp only [execOp,ho,hx',hy',eqGuard,Go.binOp,Op.stringOp]
     simp only [hm,if_false]
     simp
   ·cases h
  ·cases h
 ·rename_i cs he
  rw [he] at hx
  split at h
  ·rename_i ds hf
   rw [hf] at hy
   cases hb:(TI.Ek (E.T t)&&qh (E.cells t) cs)<;>simp only [hb,aO,aR] at h
   ·cases h
   simp only [Bool.and_eq_true] at hb
   obtain ⟨xs,ex,fx⟩:=(show V1 E.cells w A (.agg cs) (a.eval x) from hx)
   obtain ⟨ys,ey,fy⟩:=(show V1 E.cells w A (.agg ds) (a.eval y) from hy)
   split at h
   ·obtain ⟨r,h1,h2⟩:=pP hT hh ha hb.1 hb.2 fx fy h
    refine ⟨_,_,h1,ef.pure hh (cv:=.bool r) ?_ rfl⟩
    obtain ⟨h3,h4⟩:=h2
    have hg:(eqGuard .eql t x y (a.eval x) (a.eval y)).run P w=.ok () w:=by simp [eqGuard,ex,ey,h4]
    have he2:(Go.binOp .eql t (a.eval x) (a.eval y)).run P w=.ok (.bool r) w:=by rw [ex,ey,run_eql_struct];simp [h3]
    simp only [execOp,ho,map_eq_pure_bind,Sem.run_bind,hg,he2,Result.andThen_ok,Sem.run_pure]
   ·obtain ⟨r,h1,h2⟩:=pP hT hh ha hb.1 hb.2 fx fy h
    refine ⟨_,_,h1,ef.pure hh (cv:=.bool (!r)) ?_ rfl⟩
    obtain ⟨h3,h4⟩:=h2
    have hg:(eqGuard .neq t x y (a.eval x) (a.eval y)).run P w=.ok () w:=by simp [eqGuard,ex,ey,h4]
    have he2:(Go.binOp .neq t (a.eval x) (a.eval y)).run P w=.ok (.bool (!r)) w:=by rw [ex,ey,run_neq_struct];simp [h3]
    simp only [execOp,ho,map_eq_pure_bind,Sem.run_bind,hg,he2,Result.andThen_ok,Sem.run_pure]
   ·cases h
  ·cases h
 ·cases h
theorem Cz {t:TypeId}(ho:o.op=.alloc t)(h:aZ E (.alloc t) ρ hp nx k=some ans):fN P E w0 M o a w A hp nx k ans:=by
 simp only [aZ] at h
 split at h
 ·rename_i i ht
  obtain ⟨ii,d,z,h1,h2,h3,h4,h5,h6,hby,h7,h8,h9,h10,hpl,h11,h12,h13,h14,h15⟩:=hT t i ht
  refine ⟨_,_,h,ef.alloc hh (cv:=.pointer (some ⟨w.heap.size,0,none⟩)) (x:=.pointer (some ⟨w.heap.size,0,none⟩)) (obj:=.cells z.cells t) (fun b=>b=w.heap.size) ?_ (fun b hb=>hb) (fun hn=>?_) (fun hn st=>?_)⟩
  ·simp [execOp,ho,Instr.alloc,Bg h1 h3,newVar,newRow]
  ·exact V0.v2 (v:=.bP nx 0) ⟨.inr rfl,w.heap.size,aQ _ _ _,rfl⟩
  ·refine ⟨.inr rfl,w.heap.size,t,z.cells,aQ _ _ _,fun b=>?_,heap_alloc_new w _,?_⟩
   ·simp [cD.new,aQ]
   ·rw [h7];exact wW _
 ·cases h
theorem D8 {t:TypeId}{x:Operand}(ho:o.op=.box t x)(h:aZ E (.box t x) ρ hp nx k=some ans):fN P E w0 M o a w A hp nx k ans:=by
 simp only [aZ] at h
 split at h
 ·obtain ⟨cs,hk,hc⟩:=jt h
  have hx:=hc (ha x)
  refine ⟨_,_,hk,ef.alloc hh (cv:=.pointer (some ⟨w.heap.size,0,none⟩)) (x:=.pointer (some ⟨w.heap.size,0,none⟩)) (obj:=.cells (a.eval x).cells t) (fun b=>b=w.heap.size) ?_ (fun b hb=>hb) (fun hn=>?_) (fun hn st=>?_)⟩
  ·simp [execOp,ho,Instr.box,newVar,newRow]
  ·exact V0.v2 (v:=.bP nx 0) ⟨.inr rfl,w.heap.size,aQ _ _ _,rfl⟩
  ·refine ⟨.inr rfl,w.heap.size,t,(a.eval x).cells,aQ _ _ _,fun b=>?_,heap_alloc_new w _,?_⟩
   ·simp [cD.new,aQ]
   ·refine hx.mono fun v y hv=>hv.step st hh ?_
    cases v with
    | sl d=>cases d<;>simp [indep]
    | cS d=>cases d<;>simp [indep]
    | gm=>exact id
    | _=>trivial
 ·cases h
theorem pY {t:TypeId}{x:Operand}{f:Nat}(ho:o.op=.fieldAddr t x f)(h:aZ E (.fieldAddr t x f) ρ hp nx k=some ans):sI P E o a w A k ans:=by
 have hx:=ha x
 simp only [aZ] at h
 split at h
 ·cases h
 ·rename_i i ht
  split at h
  ·cases h
  ·rename_i p hf
   obtain ⟨ii,d,z,h1,h2,h3,h4,h5,h6,hby,h7,h8,h9,h10,hpl,h11,h12,h13,h14,h15⟩:=hT t i ht
   cases hag:i.agg
   case false=>
    rw [(h9 hag).2] at hf;simp at hf
   obtain ⟨fs,rfl,hfs⟩:=h10 hag
   obtain ⟨fl,g1,g2,g3,fi,g4⟩:=hfs f p hf
   obtain ⟨ii',d',z',k1,k2,k3,k4,k5,k6,kby,k7,k8,k9,k10,kpl,k11,k12,tX,tU,k15⟩:=hT p.2 fi g4
   have hplace:∀b q,(fieldPlace ⟨b,q,none⟩ fl).run P w=.ok ⟨b,q+p.1,none⟩ w:=by
    intro b q
    have :ii'.size≠0:=by omega
    simp [fieldPlace,g3,gk k1,this,g2,ow]
   have hrun:∀b q,a.eval x=.pointer (some ⟨b,q,none⟩)->(execOp a.eval o).run P w=.ok (.value (.pointer (some ⟨b,q+p.1,none⟩))) w:=by
    intro b q he
    simp [execOp,ho,he,Instr.fieldAt,run_underlying h2,g1,Instr.sureAddr,hplace]
   split at h
   ·rename_i r q hr
    rw [hr] at hx
    obtain ⟨hal,g,e1,e2⟩:=(show V0 E.cells w A (.bP r q) (a.eval x) from hx)
    exact ⟨_,_,h,hrun _ _ e2,(V0.v2 (v:=.bP r (q+p.1)) ⟨hal,g,e1,rfl⟩)⟩
   ·rename_i r sz j q hr
    rw [hr] at hx
    obtain ⟨hal,g,n,c,e1,ej,e2⟩:=(show V0 E.cells w A (.fM r sz j q) (a.eval x) from hx)
    exact ⟨_,_,h,hrun _ _ e2,(V0.v2 (v:=.fM r sz j (q+p.1)) ⟨hal,g,n,c,e1,ej,by rw [Nat.add_assoc]⟩)⟩
   ·rename_i dd es cs q hr
    rw [hr] at hx
    obtain ⟨hal,b,qq,vv,e1,e2,e3⟩:=(show V0 E.cells w A (.cS dd es cs q) (a.eval x) from hx)
    exact ⟨_,_,h,hrun _ _ e1,(V0.v2 (v:=.cS dd es cs (q+p.1)) ⟨hal,b,qq,vv,by rw [Nat.add_assoc],e2,e3⟩)⟩
   ·cases h
theorem wS {t:TypeId}{x:Operand}{f:Nat}(ho:o.op=.fieldAddr t x f)(h:aZ E (.fieldAddr t x f) ρ hp nx k=some ans):fN P E w0 M o a w A hp nx k ans:=(pY hT hh ha ho h).goal hh
end
end Go.DM
set_option linter.unusedSectionVars false
namespace Go.DM
def F2.cut {α β:Type}{R:α->β->Prop}{as:List α}{bs:List β}(h:F2 R as bs)(o n:Nat):F2 R (cut as o n) (cut bs o n):=(h.drop o).take n
def eX {α:Type}{xs:List α}{o n:Nat}(h:o+n<=xs.length):(cut xs o n).length=n:=by simp [cut];omega
def nG {α:Type}{xs:List α}{o n j:Nat}{v:α}(h:(cut xs o n)[j]?=some v):xs[o+j]?=some v/\j<n:=by
 simp only [cut,List.getElem?_take,List.getElem?_drop] at h
 split at h
 ·exact ⟨h,by assumption⟩
 ·cases h
def iw:∀(n:Nat) (l:List L),bA n l=l.drop n
 | 0,_=>rfl
 | n+1,l=>by cases l<;>simp [bA,iw n]
def uo {l:List L}{o j:Nat}:(l.drop o).getD j .hole=l.getD (o+j) .hole:=by simp [List.getD_eq_getElem?_getD]
def rI (w:World)(A:cD):Nat->Prop:=fun b=>(∃r,A.N r b)∨eo w A b
def fG.all {w : World} {A : cD} {d : Option Nat} {b : Nat} (h : fG w A d b) : rI w A b := by
  cases d with
  | none => exact .inr h
  | some r => rcases h with h | h
              · exact .inl ⟨r, h⟩
              · exact .inr h
def qo {T:Nat->List K}{w0 w:World}{np:Nat}{M:Mem np}{A:cD}{hp:Nat->aK}(hh:Hp T w0 M A hp w){kk:K}{v:V}{k:L->aD}{ans:List L}(hf:fits hp kk v=true)(h:jw hp v k=some ans) :
  ∃l,k l=some ans/\∀{x},V0 T w A v x->Rd T w (rI w A) kk x l/\(cN v=true->Rd T w (eo w A) kk x l):=by
 cases v with
 | int ik n=>
  refine ⟨_,h,fun {x} hv=>?_⟩
  cases kk<;>first | cases hf | skip
  rename_i jk
  obtain rfl:=gu hf
  cases hv
  exact ⟨Rd.int jk (.int n),fun _=>Rd.int jk (.int n)⟩
 | bool b=>
  refine ⟨_,h,fun {x} hv=>?_⟩
  cases kk<;>first | cases hf | skip
  cases hv
  exact ⟨Rd.bool (.bool b),fun _=>Rd.bool (.bool b)⟩
 | str b=>
  refine ⟨_,h,fun {x} hv=>?_⟩
  cases kk<;>first | cases hf | skip
  cases hv
  exact ⟨Rd.str (.str b),fun _=>Rd.str (.str b)⟩
 | nil=>
  refine ⟨_,h,fun {x} hv=>?_⟩
  cases kk<;>first | cases hf | skip
  obtain ⟨a,rfl⟩:=hv
  exact ⟨.nil _ _ _ _ rfl,fun _=>.nil _ _ _ _ rfl⟩
 | sl d e xs=>
  refine ⟨_,h,fun {x} hv=>?_⟩
  cases kk<;>first | cases hf | skip
  rename_i e'
  obtain rfl:=Nat.eq_of_beq_eq_true hf
  refine ⟨hv.2.mono fun b hb=>hb.all,fun hp=>?_⟩
  cases d with
  | none=>exact hv.2
  | some r=>cases hp
 | own r=>
  simp only [jw] at h
  split at h
  ·rename_i e xs hr
   refine ⟨_,h,fun {x} hv=>?_⟩
   cases kk<;>first | cases hf | skip
   rename_i e'
   simp only [fits,hr] at hf
   obtain rfl:=Nat.eq_of_beq_eq_true hf
   have:=hh.rt r
   rw [hr] at this
   refine ⟨?_,fun hp=>by cases hp⟩
   rw [hv.2.1]
   exact this.2.rd.mono fun b hb=>.inl ⟨r,hb⟩
  ·rename_i e xs hr
   refine ⟨_,h,fun {x} hv=>?_⟩
   cases kk<;>first | cases hf | skip
   rename_i e'
   simp only [fits,hr] at hf
   obtain rfl:=Nat.eq_of_beq_eq_true hf
   have:=hh.rt r
   rw [hr] at this
   refine ⟨?_,fun hp=>by cases hp⟩
   rw [hv.2.1]
   exact this.2.2.2.mono fun b hb=>.inr hb
  ·cases h
 | _=>cases h
def qb {T:Nat->List K}{w0 w:World}{np:Nat}{M:Mem np}{A:cD}{hp:Nat->aK}(hh:Hp T w0 M A hp w):∀{ks:List K} {vs:List V} {k:List L->aD} {ans:List L},gh hp ks vs k=some ans->
  ∃ls,k ls=some ans/\ls.length=ks.length/\vs.length=ks.length/\∀{R:V->Value->Prop} (_:∀v x,R v x->V0 T w A v x) {xs:List Value},F2 R vs xs->∀j kk,ks[j]?=some kk->∃x,xs[j]?=some x/\Rd T w (rI w A) kk x (ls.getD j .hole)/\(vs.all cN=true->Rd T w (eo w A) kk x (ls.getD j .hole)):=by
 intro ks
 induction ks with
 | nil=>
  intro vs k ans h
  cases vs with
  | nil=>exact ⟨[],h,rfl,rfl,fun {_} _ {_} _ j kk hj=>by simp at hj⟩
  | cons=>cases h
 | cons kk ks ih=>
  intro vs k ans h
  cases vs with
  | nil=>cases h
  | cons v vs=>
   simp only [gh] at h
   cases hf:fits hp kk v<;>simp only [hf,aO,aR] at h
   ·cases h
   obtain ⟨l,h1,h2⟩:=qo hh hf h
   obtain ⟨ls,h3,h4,h4',h5⟩:=ih h1
   refine ⟨l::ls,h3,by simp [h4],by simp [h4'],fun {R} hR {xs} hx j q hj=>?_⟩
   cases hx with
   | cons hv ht=>
    cases j with
    | zero=>
     simp at hj
     subst hj
     exact ⟨_,rfl,(h2 (hR _ _ hv)).1,fun hp=>(h2 (hR _ _ hv)).2 (by simp only [List.all_cons,Bool.and_eq_true] at hp;exact hp.1)⟩
    | succ j=>
     simp at hj
     obtain ⟨x,e1,e2,e3⟩:=h5 hR ht j q hj
     exact ⟨x,by simpa using e1,by simpa using e2,fun hp=>by simp only [List.all_cons,Bool.and_eq_true] at hp;simpa using e3 hp.2⟩
def A9 {α:Type}{p:α->Bool}{l:List α}(h:l.all p=true)(n:Nat):(l.take n).all p=true:=by
 rw [List.all_eq_true] at *;exact fun x hx=>h x (List.mem_of_mem_take hx)
def AZ {α:Type}{p:α->Bool}{l:List α}(h:l.all p=true)(n:Nat):(l.drop n).all p=true:=by
 rw [List.all_eq_true] at *;exact fun x hx=>h x (List.mem_of_mem_drop hx)
def qu {T:Nat->List K}{w0 w:World}{np:Nat}{M:Mem np}{A:cD}{hp:Nat->aK}(hh:Hp T w0 M A hp w){ks:List K}:∀{n:Nat} {cs:List V} {k:aq->aD} {ans:List L},tW hp ks n cs k=some ans->
  ∃xs,k xs=some ans/\xs.length=n/\∀{R:V->Value->Prop} (_:∀v x,R v x->V0 T w A v x) {ys:List Value},F2 R cs ys->∀i j kk,i<n->ks[j]?=some kk->∃y,ys[i*ks.length+j]?=some y/\Rd T w (rI w A) kk y ((xs.getD i []).getD j .hole)/\(cs.all cN=true->Rd T w (eo w A) kk y ((xs.getD i []).getD j .hole)):=by
 intro n
 induction n with
 | zero=>intro cs k ans h;exact ⟨[],h,rfl,fun {_} _ {_} _ i j kk hi=>by omega⟩
 | succ n ih=>
  intro cs k ans h
  simp only [tW] at h
  obtain ⟨ls,h1,h2,h2',h3⟩:=qb hh h
  obtain ⟨xs,h4,h5,h6⟩:=ih h1
  refine ⟨_,h4,by simp [h5],fun {R} hR {ys} hy i j kk hi hj=>?_⟩
  cases i with
  | zero=>
   obtain ⟨y,e1,e2,e3⟩:=h3 hR (hy.take _) j kk hj
   refine ⟨y,?_,by simpa using e2,fun hp=>by simpa using e3 (A9 hp _)⟩
   have hjl:j<ks.length:=(List.getElem?_eq_some_iff.1 hj).1
   simp only [List.getElem?_take,hjl,if_true] at e1
   simpa using e1
  | succ i=>
   obtain ⟨y,e1,e2,e3⟩:=h6 hR (hy.drop _) i j kk (by omega) hj
   refine ⟨y,?_,by simpa using e2,fun hp=>by simpa using e3 (AZ hp _)⟩
   rw [List.getElem?_drop] at e1
   rw [<-e1]
   congr 1
   rw [Nat.succ_mul];omega
def nO:∀{ks:List K} {o e:Nat},xh ks o=some e->ks[o]?=some (.sl e)
 | [],o,e,h=>by cases h
 | k::ks,0,e,h=>by
  simp only [xh] at h
  split at h
  ·injection h with h;subst h;rfl
  ·cases h
 | k::ks,o+1,e,h=>by simpa using nO (ks:=ks) (o:=o) h
def jZ:∀(o:Nat) (l:List L),(bA o l).headD .hole=l.getD o .hole
 | 0,l=>by rw [<-gY];rfl
 | o+1,l=>by
  have:=jZ o l.tail
  rw [jU] at this
  exact this
def iF {E:Env}{w0 w:World}{np:Nat}{M:Mem np}{A:cD}{hp:Nat->aK}(hh:Hp E.cells w0 M A hp w){v:V}{k:Option Nat->Nat->aq->aD}{ans:List L}(h:gF E hp v k=some ans) :
  ∃d e xs,k d e xs=some ans/\∀{x},V2 E.cells w A v x->(∀r,d=some r->A.al r)/\Rd E.cells w (fG w A d) (.sl e) x (.sl xs):=by
 cases v with
 | sl d e xs=>exact ⟨_,_,_,h,fun {x} hv=>hv⟩
 | own r=>
  simp only [gF] at h
  split at h
  ·rename_i e xs hr
   refine ⟨_,_,_,h,fun {x} hv=>?_⟩
   obtain ⟨h1,h2,h3⟩:=(show V0 E.cells w A (.own r) x from hv)
   have:=hh.rt r
   rw [hr] at this
   refine ⟨fun q hq=>by cases hq;exact h1,?_⟩
   rw [h2]
   exact this.2.rd.mono fun b hb=>.inl hb
  ·rename_i e xs hr
   refine ⟨_,_,_,h,fun {x} hv=>?_⟩
   obtain ⟨h1,h2,h3⟩:=(show V0 E.cells w A (.own r) x from hv)
   have:=hh.rt r
   rw [hr] at this
   refine ⟨fun q hq=>(nomatch hq),?_⟩
   rw [h2]
   exact this.2.2.2
  ·cases h
 | lit r n e=>
  simp only [gF] at h
  split at h
  ·rename_i cs hr
   cases hpl':(Nat.ble n 16777216&&cs.all cN)<;>simp only [hpl',aO,aR] at h
   ·cases h
   simp only [Bool.and_eq_true] at hpl'
   obtain ⟨hn16,hpl⟩:=hpl'
   have hn16:=Nat.le_of_ble_eq_true hn16
   obtain ⟨xs,h1,h2,h3'⟩:=qu hh h
   have h3:=fun {ys}=>h3' (R:=Vc E.cells w A) (fun v x h=>h.1) (ys:=ys)
   refine ⟨_,_,_,h1,fun {x} hv=>?_⟩
   obtain ⟨k1,g,k2,rfl⟩:=(show V0 E.cells w A (.lit r n e) x from hv)
   have hroot:=hh.rt r
   rw [hr] at hroot
   obtain ⟨_,g',te,cur,m1,m2,m3,m4⟩:=hroot
   obtain rfl:g=g':=by rw [k2] at m1;injection m1 with m1;injection m1 with m1;injection m1
   refine ⟨fun q hq=>by cases hq;exact k1,?_⟩
   refine .sl e n n g 0 (.sl xs) (fun i j=>(cur.toList.getD (i*(E.cells e).length+j) Go.undef)) h2 (Nat.le_refl _) (by simp only [maxLen];omega) (.inl ((m2 g).2 rfl)) (fun i j kk hi hj=>?_) (fun i j kk hi hj=>?_)
   ·obtain ⟨y,e1,_⟩:=h3 m4 i j kk hi hj
    rw [gi m3,Nat.zero_add,<-Array.getElem?_toList,e1,List.getD_eq_getElem?_getD,e1];rfl
   ·obtain ⟨y,e1,_,e3⟩:=h3 m4 i j kk hi hj
    rw [List.getD_eq_getElem?_getD,e1]
    exact (e3 hpl).mono fun b hb=>.inr hb
  ·cases h
 | gm r sz i o e=>
  simp only [gF] at h
  split at h
  ·rename_i er xs hr
   cases hs:Nat.beq sz (E.cells er).length<;>simp only [hs,aO,aR] at h
   ·cases h
   have hs':=Nat.eq_of_beq_eq_true hs
   split at h
   ·rename_i e2 he2
    cases hk:Nat.beq e e2<;>simp only [hk,aO,aR] at h
    ·cases h
    obtain rfl:=Nat.eq_of_beq_eq_true hk
    refine ⟨_,_,_,h,fun {x} hv=>?_⟩
    obtain ⟨hal,g,n,c,e1,ei,hg,hc⟩:=(show V0 E.cells w A (.gm r sz i o e) x from hv)
    have hroot:=hh.rt r
    rw [hr] at hroot
    have hown:=hroot.2
    rw [e1] at hown
    obtain ⟨te,cur,vv,Sf,k1,k2,k3,k4,k5,k6,k7,k8,k9,k10⟩:=hown.inv (by omega)
    have hp2:=nO he2
    have hx:x=vv i o:=by
     have:=k9 i o _ ei hp2
     rw [gi k4,hs',this] at hc
     injection hc with hc;exact hc.symm
    subst hx
    refine ⟨fun q hq=>by cases hq;exact hal,?_⟩
    rw [jZ]
    exact ((k10 i o _ ei hp2).uc.rd).mono fun b hb=>.inl (k7 i o b hb).1
   ·cases h
  ·cases h
 | _=>cases h
section
variable {P:Program} {E:Env} {w0 w:World} {np:Nat} {M:Mem np} {A:cD} {hp:Nat->aK} {o:Oper} {a:Act} {nx:Nat} {ρ:Operand->V} {k:V->List aK->aD} {ans:List L}
variable (hT:∀t i,E.T t=some i->fX P E t i) (hh:Hp E.cells w0 M A hp w) (ha:∀x,V2 E.cells w A (ρ x) (a.eval x))
theorem ji {α:Type}{xs:List α}{j:Nat}{c d:α}(h:j<xs.length):(xs.set j c).getD j d=c:=by simp [List.getD_eq_getElem?_getD,h]
theorem iy {t:Nat}{i:TI}(h:E.T t=some i):E.cells t=i.cells:=by simp [Env.cells,h]
include hT hh ha
theorem zx {t:TypeId}{x:Operand}(ho:o.op=.load t x)(h:aZ E (.load t x) ρ hp nx k=some ans):sI P E o a w A k ans:=by
 have hx:=ha x
 simp only [aZ,iw] at h
 split at h
 ·cases h
 ·rename_i i ht
  obtain ⟨ii,d,z,h1,h2,h3,h4,h5,h6,hby,h7,h8,h9,h10,hpl,h11,h12,h13,h14,h15⟩:=hT t i ht
  have one:∀{cs:List V} {xs:List Value},F2 (Vc E.cells w A) cs xs->cs.length=i.cells.length->(∃b q,a.eval x=.pointer (some ⟨b,q,none⟩)/\∀j v,xs[j]?=some v->w.cell? ⟨b,q+j,none⟩=some v)->
    k (mkVar i.agg cs) []=some ans->sI P E o a w A k ans:=by
   intro cs xs hf hl ⟨b,q,he,hc⟩ hk
   have hl':xs.length=ii.size:=by rw [<-hf.length,hl,h4]
   have hag:jh d=false->xs.length=1:=by intro hd;rw [hl',h4];exact (h9 (by rw [<-h8];exact hd)).1
   refine ⟨_,mkValue i.agg xs,hk,?_,(qd hf (fun hd=>by rw [hf.length];exact hag (by rw [h8];exact hd))).v2⟩
   simp [execOp,ho,he,gx h1 h2 hl' hag hc,h8]
  split at h
  ·rename_i r q hr
   rw [hr] at hx
   obtain ⟨hal,g,e1,e2⟩:=(show V0 E.cells w A (.bP r q) (a.eval x) from hx)
   split at h
   ·rename_i cs hb
    cases hle:Nat.ble (q+i.cells.length) cs.length<;>simp only [hle,aO,aR] at h
    ·cases h
    have hle':=Nat.le_of_ble_eq_true hle
    have hroot:=hh.rt r
    rw [hb] at hroot
    obtain ⟨_,g',te,cur,k1,k2,k3,k4⟩:=hroot
    obtain rfl:g=g':=by rw [e1] at k1;injection k1 with k1;injection k1 with k1;injection k1
    refine one (k4.cut q i.cells.length) (eX hle') ⟨g,q,e2,fun j v hj=>?_⟩ h
    rw [gi k3]
    simpa using (nG hj).1
   ·cases h
  ·rename_i r sz j q hr
   rw [hr] at hx
   obtain ⟨hal,g,n,c,e1,ej,e2⟩:=(show V0 E.cells w A (.fM r sz j q) (a.eval x) from hx)
   have elem:∀{e:Nat} {xs:aq},fQ E.cells w (A.N r) (.sl e) (A.v r) (.sl xs)->(Nat.beq sz (E.cells e).length&&Nat.ble (q+i.cells.length) sz)=true->∀b:Bool,(bif b&&!dS (cut (E.cells e) q i.cells.length) then
     (match cut (E.cells e) q i.cells.length with
      | [.sl e']=>bif i.agg then none else k (.gm r sz j q e') []
      | _=>none) else k (mkVar i.agg (kr (some r) (cut (E.cells e) q i.cells.length) ((xs.getD j []).drop q))) [])=some ans->sI P E o a w A k ans:=by
    intro e xs hown hle b h
    simp only [Bool.and_eq_true] at hle
    obtain ⟨hg1,hg2⟩:=hle
    have hsz:=Nat.eq_of_beq_eq_true hg1
    have hle:=Nat.le_of_ble_eq_true hg2
    rw [e1] at hown
    obtain ⟨te,cur,vv,Sf,q1,q2,q3,q4,q5,q6,q7,q8,q9,q10⟩:=hown.inv (Nat.lt_of_le_of_lt (Nat.zero_le _) ej)
    have hf:=rS (A:=A) (w:=w) (T:=E.cells) (d:=some r) (fun r' hr'=>by cases hr';exact hal) (cut (E.cells e) q i.cells.length) ((xs.getD j []).drop q) (fun m=>vv j (q+m)) (fun m kk hm=>by
     rw [uo]
     refine (q10 j (q+m) kk ej (nG hm).1).rd.mono fun b hb=>.inl (q7 _ _ b hb).1)
    cases hmt:(b&&!dS (cut (E.cells e) q i.cells.length))<;>simp only [hmt,aO,aR] at h
    case true=>
     split at h
     ·rename_i e' hcut
      cases hagg:i.agg<;>simp only [hagg,aO,aR] at h
      ·have hq0:=nG (show (cut (E.cells e) q i.cells.length)[0]?=some (.sl e') by rw [hcut];rfl)
       have hcl:w.cell? ⟨g,j*sz+q,none⟩=some (vv j q):=by rw [gi q4,hsz,q9 j q _ ej (by simpa using hq0.1)]
       have hcl2:(cut (E.cells e) q i.cells.length).length=i.cells.length:=eX (hsz ▸ hle)
       have hlen:[vv j q].length=ii.size:=by rw [h4,<-hcl2,hcut];rfl
       refine ⟨_,vv j q,h,?_,(V0.v2 (v:=.gm r sz j q e') ⟨hal,g,n,c,e1,ej,q6,hcl⟩)⟩
       have:=gx (P:=P) (w:=w) (b:=g) (o:=j*sz+q) (cs:=[vv j q]) h1 h2 hlen (fun _=>rfl) (fun m v hm=>by
        cases m with
        | zero=>simp at hm;subst hm;exact hcl
        | succ m=>simp at hm)
       simp [execOp,ho,e2,this,h8,hagg,mkValue]
      ·cases h
     ·cases h
    refine one hf (by rw [hf.length];simp [eX (hsz ▸ hle)]) ⟨g,j*sz+q,e2,fun m v hm=>?_⟩ h
    have hm':m<i.cells.length:=by
     have:=(List.getElem?_eq_some_iff.1 hm).1
     simpa [eX (hsz ▸ hle)] using this
    obtain ⟨kk,hkk⟩:∃kk,(E.cells e)[q+m]?=some kk:=⟨(E.cells e)[q+m]'(by omega),List.getElem?_eq_getElem (by omega)⟩
    rw [gi q4,Nat.add_assoc,hsz,q9 j (q+m) kk ej hkk]
    simp [eX (hsz ▸ hle),hm'] at hm
    rw [hm]
   split at h
   ·rename_i e xs hb
    have hroot:=hh.rt r
    rw [hb] at hroot
    cases hle:(Nat.beq sz (E.cells e).length&&Nat.ble (q+i.cells.length) sz)<;>simp only [hle,aO,aR] at h
    ·cases h
    exact elem hroot.2 hle _ h
   ·rename_i e xs j0 cs hb
    have hroot:=hh.rt r
    rw [hb] at hroot
    cases hle:(Nat.beq j j0&&(Nat.beq sz (E.cells e).length&&Nat.ble (q+i.cells.length) sz))<;>simp only [hle,aO,aR] at h
    ·cases h
    rw [Bool.and_eq_true] at hle
    obtain rfl:=Nat.eq_of_beq_eq_true hle.1
    refine elem hroot.2.2 hle.2 true ?_
    rw [ji hroot.2.1,Bool.true_and]
    exact h
   ·cases h
  ·rename_i dd es cs q hr
   rw [hr] at hx
   obtain ⟨hal,b,qq,vv,e1,e2,e3⟩:=(show V0 E.cells w A (.cS dd es cs q) (a.eval x) from hx)
   cases hle:Nat.ble (q+i.cells.length) es.length<;>simp only [hle,aO,aR] at h
   ·cases h
   have hle':=Nat.le_of_ble_eq_true hle
   have hf:=rS hal (cut es q i.cells.length) (cs.drop q) (fun j=>vv (q+j)) (fun j kk hj=>by rw [uo];exact (e3 _ _ (nG hj).1).2)
   refine one hf (by rw [hf.length];simp [eX hle']) ⟨b,qq+q,e1,fun j v hj=>?_⟩ h
   have hj':j<i.cells.length:=by
    have:=(List.getElem?_eq_some_iff.1 hj).1
    simpa [eX hle'] using this
   have hes:∃kk,es[q+j]?=some kk:=⟨es[q+j]'(by omega),List.getElem?_eq_getElem (by omega)⟩
   obtain ⟨kk,hkk⟩:=hes
   rw [Nat.add_assoc,(e3 _ _ hkk).1]
   simp [eX hle',hj'] at hj
   rw [hj]
  ·cases h
theorem Dg {t:TypeId}{x:Operand}(ho:o.op=.load t x)(h:aZ E (.load t x) ρ hp nx k=some ans):fN P E w0 M o a w A hp nx k ans:=(zx hT hh ha ho h).goal hh
theorem xj {t:TypeId}{x y:Operand}(ho:o.op=.indexAddr t x y)(h:aZ E (.indexAddr t x y) ρ hp nx k=some ans):fN P E w0 M o a w A hp nx k ans:=by
 have hx:=ha x
 have hy:=ha y
 simp only [aZ] at h
 split at h
 ·cases h
 ·rename_i el hel
  cases ht:E.T t with
  | none=>simp [ht] at hel
  | some i=>
  have hel':i.el=some el:=by simpa [ht] using hel
  obtain ⟨ii,d,z,h1,h2,h3,h4,h5,h6,hby,h7,h8,h9,h10,hpl,h11,h12,h13,h14,h15⟩:=hT t i ht
  obtain ⟨rfl,ie,hie⟩:=h11 el hel'
  obtain ⟨ii',d',z',k1,k2,k3,k4,k5,k6,kby,k7,k8,k9,k10,kpl,k11,k12,tX,tU,k15⟩:=hT el ie hie
  have hcl:(E.cells el).length=ii'.size:=by rw [iy hie,k4]
  split at h
  ·rename_i ik n hn
   rw [hn] at hy
   have hy':a.eval y=.int ik n:=hy
   have hrun:∀b q m c,a.eval x=.slice (some ⟨b,q,none⟩) m c->0<=n->n<(m:Int)->(execOp a.eval o).run P w=.ok (.value (.pointer (some ⟨b,q+n.toNat*(E.cells el).length,none⟩))) w:=by
    intro b q m c he h0 hlt
    simp [execOp,ho,he,hy',Instr.indexAt,asIntOf,run_underlying h2,h0,hlt,gk k1,ow,hcl]
   have cp:∀{dd:Option Nat} {e:Nat} {xs:aq},(∀r,dd=some r->A.al r)->Rd E.cells w (fG w A dd) (.sl e) (a.eval x) (.sl xs)->(cond (Nat.beq e el) (cond (decide (0<=n)) (cond (decide (n<(xs.length:Int))) (k (.cS dd (E.cells e) (xs.getD n.toNat []) 0) []) none) none) none)=some ans->fN P E w0 M o a w A hp nx k ans:=by
    clear h
    intro dd e xs q3 q4 q1
    cases he:Nat.beq e el<;>simp only [he,aO,aR] at q1
    ·cases q1
    obtain rfl:=Nat.eq_of_beq_eq_true he
    by_cases h0:0<=n
    ·by_cases hlt:n<(xs.length:Int)
     ·simp only [h0,hlt,decide_true,aO] at q1
      obtain ⟨A1,m,c,p1,p2,p3,p4⟩:=q4.inv
      have hm:xs.length=m:=p2
      obtain ⟨b,q,v,rfl,hZ,hv,hr⟩:=p4 (by omega)
      refine ⟨_,_,q1,ef.pure hh (hrun b q m c p1 h0 (by omega)) (V0.v2 (v:=.cS dd (E.cells e) (xs.getD n.toNat []) 0) ⟨q3,b,q+n.toNat*(E.cells e).length,v n.toNat,rfl,hZ,fun j kk hj=>⟨?_,?_⟩⟩)⟩
      ·have:=hv n.toNat j kk (by omega) hj
       rw [Nat.add_assoc];exact this
      ·exact hr n.toNat j kk (by omega) hj
     ·simp [h0,hlt] at q1
    ·simp [h0] at q1
   split at h
   ·rename_i r hr
    rw [hr] at hx
    obtain ⟨g1,g2,A0,m,c,g3⟩:=(show V0 E.cells w A (.own r) (a.eval x) from hx)
    have row:∀{e:Nat} {xs:aq} {m:Nat},m=xs.length->fQ E.cells w (A.N r) (.sl e) (A.v r) (.sl xs)->(cond (Nat.beq e el) (cond (decide (0<=n)) (cond (decide (n<(m:Int))) (k (.fM r (E.cells e).length n.toNat 0) []) none) none) none)=some ans->fN P E w0 M o a w A hp nx k ans:=by
     clear h
     intro e xs m0 hm0 hown h
     subst hm0
     cases he:Nat.beq e el<;>simp only [he,aO,aR] at h
     ·cases h
     obtain rfl:=Nat.eq_of_beq_eq_true he
     by_cases h0:0<=n
     ·by_cases hlt:n<(xs.length:Int)
      ·simp only [h0,hlt,decide_true,aO] at h
       rw [<-g2,g3] at hown
       obtain ⟨A1,m1,c1,p1,p2,p3,p4⟩:=hown.Aa
       cases p1
       have hxs:xs.length=m:=p2
       obtain ⟨g,rfl⟩:=p4 (by omega)
       refine ⟨_,_,h,ef.pure hh (hrun g 0 m c g3 h0 (by omega)) (V0.v2 (v:=.fM r (E.cells e).length n.toNat 0) ⟨g1,g,m,c,by rw [<-g2,g3],by omega,?_⟩)⟩
       simp
      ·simp [h0,hlt] at h
     ·simp [h0] at h
    split at h
    ·rename_i e xs hrow
     have hroot:=hh.rt r
     rw [hrow] at hroot
     exact row rfl hroot.2 h
    ·rename_i e xs j0 cs hrow
     have hroot:=hh.rt r
     rw [hrow] at hroot
     exact row (List.length_set ..).symm hroot.2.2 h
    ·rename_i e xs i0 o0 hrow
     have hroot:=hh.rt r
     rw [hrow] at hroot
     cases he:Nat.beq e el<;>simp only [he,aO,aR] at h
     ·cases h
     obtain rfl:=Nat.eq_of_beq_eq_true he
     by_cases h0:0<=n
     ·by_cases hlt:n<(xs.length:Int)
      ·simp only [h0,hlt,decide_true,aO] at h
       obtain ⟨g,m1,c1,te,cur,vv,Sf,p0,p1,_⟩:=hroot.2.2
       rw [<-g2] at p0
       refine ⟨_,_,h,ef.pure hh (hrun g 0 m1 c1 p0 h0 (by omega)) (V0.v2 (v:=.fM r (E.cells e).length n.toNat 0) ⟨g1,g,m1,c1,by rw [<-g2,p0],by omega,?_⟩)⟩
       simp
      ·simp [h0,hlt] at h
     ·simp [h0] at h
    ·rename_i e xs hrow
     have hroot:=hh.rt r
     rw [hrow] at hroot
     exact cp (dd:=none) (fun _ hq=>(nomatch hq)) (g2 ▸ hroot.2.2.2) h
    ·cases h
   ·obtain ⟨dd,e,xs,q1,q2⟩:=iF hh h
    obtain ⟨q3,q4⟩:=q2 hx
    exact cp q3 q4 q1
  ·cases h
theorem jd {t:Nat}(hs:TI.isStr (E.T t)=true):P.underlying t=some .string:=by
 cases ht:E.T t with
 | none=>rw [ht] at hs;cases hs
 | some i=>
  rw [ht] at hs
  obtain ⟨ii,d,z,h1,h2,h3,h4,h5,h6,hby,h7,h8,h9,h10,hpl,h11,h12,h13,h14,h15⟩:=hT t i ht
  simp only [TI.isStr,Bool.and_eq_true,Bool.not_eq_true'] at hs
  have hc:i.cells=[.str]:=by
   have:=hs.2
   split at this
   ·assumption
   ·cases this
  rw [h2,h14 hs.1 hc]
theorem iS {t el:Nat}(hel:(E.T t).bind TI.el=some el):P.underlying t=some (.slice el)/\∃ie,E.T el=some ie:=by
 cases ht:E.T t with
 | none=>simp [ht] at hel
 | some i=>
  have hel':i.el=some el:=by simpa [ht] using hel
  obtain ⟨ii,d,z,h1,h2,h3,h4,h5,h6,hby,h7,h8,h9,h10,hpl,h11,h12,h13,h14,h15⟩:=hT t i ht
  obtain ⟨rfl,ie,hie⟩:=h11 el hel'
  exact ⟨h2,ie,hie⟩
theorem Ei {x:Operand}{u:TypeId}(ho:o.op=.call { callee:=.builtin .len,args:=#[x],argTypes:=#[u] })(h:tY E hp u (ρ x) k=some ans):fN P E w0 M o a w A hp nx k ans:=by
 have hx:=ha x
 unfold tY at h
 split at h
 ·rename_i s hs'
  rw [hs'] at hx
  have hx':a.eval x=.string s:=hx
  cases hst:TI.isStr (E.T u)<;>simp only [hst,aO,aR] at h
  ·cases h
  have hu:=jd hT hh ha hst
  exact ⟨_,_,h,ef.pure hh (cv:=.int .i64 s.size) (by simp [execOp,ho,resolve,invoke,builtin,Builtin.len_,run_underlying hu,hx',goInt]) rfl⟩
 ·split at h
  ·cases h
  ·rename_i el hel
   obtain ⟨hu,_⟩:=iS hT hh ha hel
   have hsl:∀A0 m cc,a.eval x=.slice A0 m cc->(execOp a.eval o).run P w=.ok (.value (.int .i64 (m:Int))) w:=by
    intro A0 m cc he
    simp [execOp,ho,resolve,invoke,builtin,Builtin.len_,run_underlying hu,he,goInt]
   split at h
   ·rename_i hs'
    rw [hs'] at hx
    obtain ⟨A0,hx'⟩:=(show V0 E.cells w A .nil (a.eval x) from hx)
    exact ⟨_,_,h,ef.pure hh (hsl _ _ _ hx') rfl⟩
   ·rename_i r n e hs'
    rw [hs'] at hx
    obtain ⟨_,g,_,hx'⟩:=(show V0 E.cells w A (.lit r n e) (a.eval x) from hx)
    exact ⟨_,_,h,ef.pure hh (hsl _ _ _ hx') rfl⟩
   ·obtain ⟨dd,e,xs,q1,q2⟩:=iF hh h
    obtain ⟨q3,q4⟩:=q2 hx
    refine ⟨_,_,q1,?_⟩
    obtain ⟨A1,m,c,p1,p2,p3,p4⟩:=q4.inv
    have hm:xs.length=m:=p2
    subst hm
    exact ef.pure hh (hsl _ _ _ p1) rfl
theorem Eb {x y:Operand}{ts:Array TypeId}(ho:o.op=.call { callee:=.builtin .max,args:=#[x,y],argTypes:=ts })
  (h:(match ρ x with
   | .int .i64 p=>match ρ y with
    | .int .i64 q=>k (.int .i64 (cond (decide (p<q)) q p)) []
    | _=>none
   | _=>none)=some ans):fN P E w0 M o a w A hp nx k ans:=by
 have hx:=ha x
 have hy:=ha y
 split at h
 ·rename_i p hp'
  rw [hp'] at hx
  have hx':a.eval x=.int .i64 p:=hx
  split at h
  ·rename_i q hq'
   rw [hq'] at hy
   have hy':a.eval y=.int .i64 q:=hy
   refine ⟨_,_,h,ef.pure hh (cv:=.int .i64 (cond (decide (p<q)) q p)) ?_ rfl⟩
   by_cases hlt:p<q<;>simp [execOp,ho,resolve,invoke,builtin,Builtin.max_,Builtin.max2,hx',hy',hlt]
  ·cases h
 ·cases h
theorem DO {x y:Operand}{ts:Array TypeId}(ho:o.op=.call { callee:=.builtin .min,args:=#[x,y],argTypes:=ts })
  (h:(match ρ x with
   | .int .i64 p=>match ρ y with
    | .int .i64 q=>k (.int .i64 (cond (decide (q<p)) q p)) []
    | _=>none
   | _=>none)=some ans):fN P E w0 M o a w A hp nx k ans:=by
 have hx:=ha x
 have hy:=ha y
 split at h
 ·rename_i p hp'
  rw [hp'] at hx
  have hx':a.eval x=.int .i64 p:=hx
  split at h
  ·rename_i q hq'
   rw [hq'] at hy
   have hy':a.eval y=.int .i64 q:=hy
   refine ⟨_,_,h,ef.pure hh (cv:=.int .i64 (cond (decide (q<p)) q p)) ?_ rfl⟩
   by_cases hlt:q<p<;>simp [execOp,ho,resolve,invoke,builtin,Builtin.min_,Builtin.min2,hx',hy',hlt]
  ·cases h
 ·cases h
theorem Cj {t:TypeId}{x:Operand}{f:Nat}(ho:o.op=.field t x f)(h:aZ E (.field t x f) ρ hp nx k=some ans):fN P E w0 M o a w A hp nx k ans:=by
 have hx:=ha x
 simp only [aZ] at h
 split at h
 ·cases h
 ·rename_i i ht
  split at h
  ·cases h
  ·rename_i p hf
   obtain ⟨ii,d,z,h1,h2,h3,h4,h5,h6,hby,h7,h8,h9,h10,hpl,h11,h12,h13,h14,h15⟩:=hT t i ht
   cases hag:i.agg
   case false=>rw [(h9 hag).2] at hf;simp at hf
   obtain ⟨fs,rfl,hfs⟩:=h10 hag
   obtain ⟨fl,g1,g2,g3,fi,g4⟩:=hfs f p hf
   obtain ⟨ii',d',z',k1,k2,k3,k4,k5,k6,kby,k7,k8,k9,k10,kpl,k11,k12,tX,tU,k15⟩:=hT p.2 fi g4
   split at h
   ·rename_i cs hr
    rw [hr] at hx
    obtain ⟨l,e1,e2⟩:=(show V1 E.cells w A (.agg cs) (a.eval x) from hx)
    simp only [g4] at h
    cases hle:Nat.ble (p.1+fi.cells.length) cs.length<;>simp only [hle,aO,aR] at h
    ·cases h
    have hle':=Nat.le_of_ble_eq_true hle
    have hf2:=e2.cut p.1 fi.cells.length
    have hlen:=eX hle'
    refine ⟨_,_,h,ef.pure hh (cv:=mkValue fi.agg (cut l p.1 fi.cells.length)) ?_ (qd hf2 (fun hd=>by rw [hlen];exact (k9 hd).1)).v2⟩
    have hll:p.1+fi.cells.length<=l.length:=by rw [<-e2.length];exact hle'
    cases hfa:fi.agg with
    | true=>
     simp [execOp,ho,e1,Instr.field,run_underlying h2,g1,asAgg,part,g3,qn k2,k8,hfa,gk k1,k4,g2,mkValue,cut]
    | false=>
     have h1c:=(k9 hfa).1
     have :l[p.1]?=some (l[p.1]'(by omega)):=List.getElem?_eq_getElem (by omega)
     have hh1:(cut l p.1 1).headD Go.undef=l[p.1]'(by omega):=by
      simp only [cut]
      rw [List.drop_eq_getElem_cons (by omega)];rfl
     simp [execOp,ho,e1,Instr.field,run_underlying h2,g1,asAgg,part,g3,qn k2,k8,hfa,g2,mkValue,h1c,this]
     rw [<-List.headD_eq_head?_getD,hh1]
   ·cases h
end
end Go.DM
set_option linter.unusedSectionVars false
namespace Go.DM
def lp {α:Type}{cs new:List α}{off:Nat}(h:off+new.length<=cs.length):(splice cs off new).length=cs.length:=by simp [splice];omega
def F2.splice {α β:Type}{R:α->β->Prop}{as:List α}{bs:List β}{cs:List α}{ds:List β}(h:F2 R as bs)(h':F2 R cs ds)(o:Nat):F2 R (splice as o cs) (splice bs o ds):=by
 unfold DM.splice
 rw [h'.length]
 exact (h.take o).append (h'.append (h.drop _))
def Bm (off:Nat):∀(l:List Value) (k:Nat) (cells:Array Value),off+k+l.length<=cells.size->
  ((l.zipIdx k).foldl (fun cs (p:Value×Nat)=>cs.setIfInBounds (off+p.2) p.1) cells).toList=splice cells.toList (off+k) l:=by
 intro l
 induction l with
 | nil=>intro k cells h;simp [splice]
 | cons v l ih=>
  intro k cells h
  simp only [List.zipIdx_cons,List.foldl_cons]
  rw [ih (k+1) _ (by simp;simp at h;omega)]
  simp only [splice,Array.toList_setIfInBounds,List.length_cons]
  have hlt:off+k<cells.toList.length:=by simp at h ⊢;omega
  rw [show off+(k+1)=off+k+1 from rfl,List.take_set,List.drop_set_of_lt (by omega)]
  rw [List.take_succ_eq_append_getElem hlt,List.set_append]
  have hl:(List.take (off+k) cells.toList).length=off+k:=by rw [List.length_take];omega
  rw [if_neg (by omega),hl,Nat.sub_self]
  simp only [List.set_cons_zero,List.append_assoc,List.cons_append,List.nil_append]
  congr 3
  congr 1
  omega
def xk {α:Type}{cs new:List α}{off:Nat}(h:off+new.length<=cs.length):(splice cs off new).take (off+new.length)=cs.take off++new:=by
 unfold splice
 rw [<-List.append_assoc]
 exact List.take_left' (by simp;omega)
def wF (off:Nat)(vs cells:Array Value)(h:off+vs.size<=cells.size) :
  (vs.zipIdx.foldl (fun cs (p:Value×Nat)=>cs.setIfInBounds (off+p.2) p.1) cells).toList=splice cells.toList off vs.toList:=by
 have:=Bm off vs.toList 0 cells (by simpa using h)
 rw [<-Array.foldl_toList]
 simpa using this
def jR:∀{ks:List K},dS ks=true->∀{j:Nat} {e:Nat},ks[j]?=some (.sl e)->False
 | [],_,j,e,h=>by simp at h
 | k::ks,ha,0,e,h=>by simp at h;subst h;cases ha
 | k::ks,ha,j+1,e,h=>by
  have :dS ks=true:=by cases k<;>first | exact ha | cases ha
  exact jR this (by simpa using h)
def Rd.plain {T:Nat->List K}{w w':World}{Z S:Nat->Prop}{k:K}{v:Value}{l:L}(h:Rd T w Z k v l)(hk:∀e,k≠.sl e):fQ T w' S k v l:=by
 cases h
 ·exact .int _ _ _
 ·exact .bool _ _
 ·exact .str _ _
 ·exact (hk _ rfl).elim
 ·exact (hk _ rfl).elim
def Bd {w:World}{T:Nat->List K}(S:Nat->Prop)(kk:K):fQ T w S kk (kD kk) (za kk):=by
 cases kk with
 | int ik=>exact fQ.int S ik (.int 0)
 | bool=>exact fQ.bool S (.bool false)
 | str=>exact fQ.str S (.str ⟨#[]⟩)
 | sl e=>exact fQ.nil S e none (.sl []) rfl
section
variable {P:Program} {E:Env} {w0 w:World} {np:Nat} {M:Mem np} {A:cD} {hp:Nat->aK} {o:Oper} {a:Act} {nx:Nat} {ρ:Operand->V} {k:V->List aK->aD} {ans:List L}
variable (hT:∀t i,E.T t=some i->fX P E t i) (hh:Hp E.cells w0 M A hp w) (ha:∀x,V2 E.cells w A (ρ x) (a.eval x))
include hT hh ha
theorem wz {fs places:List (Nat×Nat)}(hp:∀(f:Nat) (p:Nat×Nat),fs[f]?=some p->places[f]?=some (p.1,(E.cells p.2).length)) :
  ∀{ps:List (Nat×Operand)} {cs:List V} {xs:Array Value} {k:List V->aD},F2 (Vc E.cells w A) cs xs.toList->ku E fs ρ ps cs k=some ans->
   ∃cs' xs',k cs'=some ans/\F2 (Vc E.cells w A) cs' xs'.toList/\Instr.fill (places.toArray[·]?) xs (ps.map fun p=>(p.1,a.eval p.2))=some xs':=by
 intro ps
 induction ps with
 | nil=>intro cs xs k hf h;exact ⟨cs,xs,h,hf,rfl⟩
 | cons p ps ih=>
  intro cs xs k hf h
  simp only [ku] at h
  split at h
  ·cases h
  ·rename_i f hfs
   obtain ⟨new,h1,h2⟩:=jt h
   cases hc:(Nat.beq new.length (E.cells f.2).length&&Nat.ble (f.1+new.length) cs.length)<;>simp only [hc,aO,aR] at h1
   ·cases h1
   simp only [Bool.and_eq_true] at hc
   have e1:=Nat.eq_of_beq_eq_true hc.1
   have e2:=Nat.le_of_ble_eq_true hc.2
   have hn:=h2 (ha p.2)
   have hsz:(a.eval p.2).cells.size=(E.cells f.2).length:=by rw [<-Array.length_toList,<-hn.length,e1]
   have hcs:cs.length=xs.size:=by rw [hf.length,Array.length_toList]
   have hz:=wF f.1 (a.eval p.2).cells xs (by rw [hsz,<-e1,<-hcs];exact e2)
   obtain ⟨cs',xs',g1,g2,g3⟩:=ih (xs:=(a.eval p.2).cells.zipIdx.foldl (fun cs (q:Value×Nat)=>cs.setIfInBounds (f.1+q.2) q.1) xs) (by rw [hz];exact hf.splice hn f.1) h1
   refine ⟨cs',xs',g1,g2,?_⟩
   simp only [List.map_cons,Instr.fill]
   have hpl:places.toArray[p.1]?=some (f.1,(E.cells f.2).length):=by simpa using hp _ _ hfs
   rw [hpl]
   simp only
   rw [if_neg (by rw [hsz];simp;rw [<-hcs];omega)]
   exact g3
theorem Ca {t:TypeId}{ps:Array (Nat×Operand)}(ho:o.op=.build t ps)(h:aZ E (.build t ps) ρ hp nx k=some ans):fN P E w0 M o a w A hp nx k ans:=by
 simp only [aZ] at h
 split at h
 ·rename_i i ht
  obtain ⟨ii,d,z,h1,h2,h3,h4,h5,h6,hby,h7,h8,h9,h10,hpl,h11,h12,h13,h14,h15⟩:=hT t i ht
  cases hag:i.agg<;>simp only [hag,aO,aR] at h
  ·cases h
  obtain ⟨fs,rfl,hfs⟩:=h10 hag
  obtain ⟨places,hp1,hp2⟩:=hpl fs rfl
  obtain ⟨cs',xs',g1,g2,g3⟩:=wz hT hh ha (places:=places) hp2 (xs:=z.cells) (by rw [h7];exact wW _) h
  refine ⟨_,_,g1,ef.pure hh (cv:=.agg xs') ?_ (V1.v2 (v:=.agg cs') ⟨xs'.toList,by simp,g2⟩)⟩
  have :P.built t (ps.map fun p=>(p.1,a.eval p.2)).toList=some xs':=by
   simp only [Program.built,h1,h2,h3,hp1]
   simpa using g3
  simp [execOp,ho,run_build w t _ xs' this]
 ·cases h
theorem Ae {e size : Nat} (hs : (E.cells e).length = size) : ∀ {ps : List (Nat × Operand)} {j : Nat} {k : List V -> aD} {xs : Array Value}, rO E e ρ ps j k = some ans -> xs.size = (j + ps.length) * size ->
      ∃ cs ys, k cs = some ans /\ F2 (Vc E.cells w A) cs ys /\ ys.length = ps.length * size /\ Instr.fill (fun i => some (i * size, size)) xs (ps.map fun p => (p.1, a.eval p.2)) = some (xs.toList.take (j * size) ++ ys).toArray := by
  intro ps
  induction ps with
  | nil =>
    intro j k xs h hx
    refine ⟨[], [], h, .nil, by simp, ?_⟩
    have : xs.toList.take (j * size) = xs.toList := List.take_of_length_le (by simp at hx ⊢; omega)
    simp [Instr.fill, this]
  | cons p ps ih =>
    intro j k xs h hx
    simp only [rO] at h
    cases hj : Nat.beq p.1 j <;> simp only [hj, aO, aR] at h
    · cases h
    have hpj := Nat.eq_of_beq_eq_true hj
    obtain ⟨new, h1, h2⟩ := jt h
    cases hc : Nat.beq new.length (E.cells e).length <;> simp only [hc, aO, aR] at h1
    · cases h1
    have e1 := Nat.eq_of_beq_eq_true hc
    have hn := h2 (ha p.2)
    have hsz : (a.eval p.2).cells.size = size := by rw [<- Array.length_toList, <- hn.length, e1, hs]
    have hxs : j * size + size <= xs.size := by
      rw [hx, <- Nat.succ_mul]; exact Nat.mul_le_mul_right _ (by simp only [List.length_cons]; omega)
    have hz := wF (j * size) (a.eval p.2).cells xs (by rw [hsz]; exact hxs)
    obtain ⟨cs, ys, g1, g2, g3, g4⟩ := ih (j := j + 1) (xs := (a.eval p.2).cells.zipIdx.foldl (fun cs (q : Value × Nat) => cs.setIfInBounds (j * size + q.2) q.1) xs) h1 (by
      rw [<- Array.length_toList, hz, lp (by simp [hsz]; exact hxs), Array.length_toList, hx]
      congr 1; simp only [List.length_cons]; omega)
    refine ⟨new ++ cs, (a.eval p.2).cells.toList ++ ys, g1, hn.append g2, by rw [List.length_append, Array.length_toList, hsz, g3, List.length_cons, Nat.succ_mul]; omega, ?_⟩
    simp only [List.map_cons, Instr.fill, hpj]
    rw [if_neg (by rw [hsz]; simp; exact hxs)]
    rw [g4, hz, Nat.succ_mul]
    have ht := xk (cs := xs.toList) (new := (a.eval p.2).cells.toList) (off := j * size) (by simp [hsz]; exact hxs)
    rw [Array.length_toList, hsz] at ht
    rw [ht, List.append_assoc]
theorem vE {t:TypeId}{n:Nat}{ps:Array (Nat×Operand)}(ho:o.op=.buildSlice t n ps)(h:aZ E (.buildSlice t n ps) ρ hp nx k=some ans):fN P E w0 M o a w A hp nx k ans:=by
 simp only [aZ] at h
 split at h
 ·rename_i el hel
  obtain ⟨hu,ie,hie⟩:=iS hT hh ha hel
  obtain ⟨ii',d',z',k1,k2,k3,k4,k5,k6,kby,k7,k8,k9,k10,kpl,k11,k12,tX,tU,k15⟩:=hT el ie hie
  have hcl:(E.cells el).length=ii'.size:=by rw [iy hie,k4]
  cases hn:Nat.beq n ps.size<;>simp only [hn,aO,aR] at h
  ·cases h
  have hn':=Nat.eq_of_beq_eq_true hn
  cases n with
  | zero=>
   simp only at h
   have hps:ps=#[]:=by
    have :ps.size=0:=hn'.symm
    exact Array.eq_empty_of_size_eq_zero this
   subst hps
   refine ⟨_,_,h,ef.lone hh (cv:=.slice (some ⟨w.heap.size,0,none⟩) 0 0) (obj:=.cells #[] el) ?_ (V0.v2 (v:=.nil) ⟨_,rfl⟩)⟩
   simp [execOp,ho,Instr.buildSlice,run_underlying hu,gk k1,Instr.fill,newRow,Array.range_zero']
  | succ n=>
   simp only at h
   have hfill:∀{k':List V->aD},rO E el ρ ps.toList 0 k'=some ans->∃cs ys,k' cs=some ans/\F2 (Vc E.cells w A) cs ys/\ys.length=(n+1)*ii'.size/\
     Instr.fill (fun i=>some (i*ii'.size,ii'.size)) ((Array.range ((n+1)*ii'.size)).map (z'.cells[· % z'.cells.size]!)) (ps.map fun p=>(p.1,a.eval p.2)).toList=some ys.toArray:=by
    intro k' h
    obtain ⟨cs,ys,g1,g2,g3,g4⟩:=Ae hT hh ha hcl (xs:=(Array.range ((n+1)*ii'.size)).map (z'.cells[· % z'.cells.size]!)) h (by simp [hn'])
    exact ⟨cs,ys,g1,g2,by rw [g3];simp [hn'],by simpa using g4⟩
   obtain ⟨cs,ys,g1,g2,g3,g4⟩:=hfill h
   cases hle:Nat.ble cs.length 16777216<;>simp only [hle,aO,aR] at g1
   ·cases g1
   have hle':=Nat.le_of_ble_eq_true hle
   have hcs:cs.length=(n+1)*ii'.size:=by rw [g2.length,g3]
   have hpos:ii'.size≠0:=by omega
   have hrun:=run_buildSlice (P:=P) w t el (n+1) (ps.map fun p=>(p.1,a.eval p.2)) ys.toArray ii' z' hu k1 k3 (by rw [<-hcs];omega) (by rw [Nat.mul_eq_zero];omega) g4
   cases hap:dS (E.cells el)<;>simp only [hap,aO,aR] at g1
   ·refine ⟨_,_,g1,ef.alloc hh (cv:=.slice (some ⟨w.heap.size,0,none⟩) (n+1) (n+1)) (x:=.pointer (some ⟨w.heap.size,0,none⟩)) (obj:=.cells ys.toArray el) (fun b=>b=w.heap.size) ?_ (fun b hb=>hb) (fun hn=>?_) (fun hn st=>?_)⟩
    ·simp [execOp,ho,hrun]
    ·exact V0.v2 (v:=.lit nx (n+1) el) ⟨.inr rfl,w.heap.size,aQ _ _ _,rfl⟩
    ·refine ⟨.inr rfl,w.heap.size,el,ys.toArray,aQ _ _ _,fun b=>?_,heap_alloc_new w _,?_⟩
     ·simp [cD.new,aQ]
     ·refine g2.mono fun v y hv=>hv.step st hh ?_
      cases v with
      | sl d=>cases d<;>simp [indep]
      | cS d=>cases d<;>simp [indep]
      | gm=>exact id
      | _=>trivial
   ·obtain ⟨xs,p1,p2,p3⟩:=qu hh g1
    have p3':=p3 (R:=Vc E.cells w A) (fun _ _ h=>h.1) g2
    refine ⟨_,_,p1,ef.alloc hh (cv:=.slice (some ⟨w.heap.size,0,none⟩) (n+1) (n+1)) (x:=.slice (some ⟨w.heap.size,0,none⟩) (n+1) (n+1)) (obj:=.cells ys.toArray el) (fun b=>b=w.heap.size) ?_ (fun b hb=>hb) (fun hn=>?_) (fun hn st=>?_)⟩
    ·simp [execOp,ho,hrun]
    ·exact V0.v2 (v:=.own nx) ⟨.inr rfl,(aQ _ _ _).symm,_,_,_,rfl⟩
    ·refine ⟨.inr rfl,?_⟩
     have hv:(A.new nx (.slice (some ⟨w.heap.size,0,none⟩) (n+1) (n+1)) (fun b=>b=w.heap.size)).v nx=.slice (some ⟨w.heap.size,0,none⟩) (n+1) (n+1):=aQ _ _ _
     have hN:(A.new nx (.slice (some ⟨w.heap.size,0,none⟩) (n+1) (n+1)) (fun b=>b=w.heap.size)).N nx=(fun b=>b=w.heap.size):=aQ _ _ _
     rw [hv,hN]
     have hn16:n+1<=16777216:=by
      have :(n+1)*1<=(n+1)*ii'.size:=Nat.mul_le_mul_left _ (by omega)
      rw [<-hcs] at this;omega
     refine .sl _ el (n+1) (n+1) w.heap.size el _ (.sl xs) (fun i j=>ys.getD (i*(E.cells el).length+j) Go.undef) (fun _ _ _=>False) p2 (Nat.le_refl _) (by simp only [maxLen];omega) (heap_alloc_new w _) (by rw [List.size_toArray,g3,hcl]) rfl (fun _ _ _ h=>h.elim) (fun _ _ _ _ _ h=>h.elim) (fun i j kk hi hj=>?_) (fun i j kk hi hj=>?_)
     ·obtain ⟨y,e1,_⟩:=p3' i j kk hi hj
      rw [List.getElem?_toArray,e1]
      simp only [List.getD_eq_getElem?_getD,e1];rfl
     ·obtain ⟨y,e1,e2,_⟩:=p3' i j kk hi hj
      have hy:ys.getD (i*(E.cells el).length+j) Go.undef=y:=by simp only [List.getD_eq_getElem?_getD,e1];rfl
      show fQ E.cells _ _ kk (ys.getD (i*(E.cells el).length+j) Go.undef) _
      rw [hy]
      exact e2.plain fun e' he=>by subst he;exact jR hap hj
 ·cases h
theorem xL {t:TypeId}{x y:Operand}(ho:o.op=.makeSlice t x y)(h:aZ E (.makeSlice t x y) ρ hp nx k=some ans):fN P E w0 M o a w A hp nx k ans:=by
 have hx:=ha x
 have hy:=ha y
 simp only [aZ] at h
 split at h
 ·rename_i el hel
  obtain ⟨hu,ie,hie⟩:=iS hT hh ha hel
  obtain ⟨ii',d',z',k1,k2,k3,k4,k5,k6,kby,k7,k8,k9,k10,kpl,k11,k12,tX,tU,k15⟩:=hT el ie hie
  have hcl:(E.cells el).length=ii'.size:=by rw [iy hie,k4]
  have hbt:E.bytes el=ii'.bytes:=by simp [Env.bytes,hie,k5]
  split at h
  ·rename_i n hn
   rw [hn] at hx
   have hx':a.eval x=.int .i64 n:=hx
   split at h
   ·rename_i m hm
    rw [hm] at hy
    have hy':a.eval y=.int .i64 m:=hy
    by_cases h0:0<=n
    ·by_cases h1:n<=m
     ·by_cases h2:m*(E.bytes el:Int)<=140737488355328
      ·simp only [h0,h1,h2,decide_true,aO] at h
       have hbp:1<=ii'.bytes:=by omega
       have hm63:m<=9223372036854775807:=by
        have hm0:0<=m:=by omega
        have :m*1<=m*(E.bytes el:Int):=Int.mul_le_mul_of_nonneg_left (by rw [hbt];omega) hm0
        omega
       have hrun:=run_make (P:=P) w t el ii' z' hu k1 k3 .i64 .i64 n m h0 h1 (by rw [Int.mul_comm,<-hbt];omega) hm63
       refine ⟨_,_,h,ef.alloc hh (cv:=.slice (some ⟨w.heap.size,0,none⟩) n.toNat m.toNat) (x:=.slice (some ⟨w.heap.size,0,none⟩) n.toNat m.toNat) (obj:=.cells (madeCells z'.cells (m.toNat*ii'.size)) el) (fun b=>b=w.heap.size) ?_ (fun b hb=>hb) (fun hn=>?_) (fun hn st=>?_)⟩
       ·simp [execOp,ho,hx',hy',hrun]
       ·exact V0.v2 (v:=.own nx) ⟨.inr rfl,(aQ _ _ _).symm,_,_,_,rfl⟩
       ·refine ⟨.inr rfl,?_⟩
        have hv:(A.new nx (.slice (some ⟨w.heap.size,0,none⟩) n.toNat m.toNat) (fun b=>b=w.heap.size)).v nx=.slice (some ⟨w.heap.size,0,none⟩) n.toNat m.toNat:=aQ _ _ _
        have hN:(A.new nx (.slice (some ⟨w.heap.size,0,none⟩) n.toNat m.toNat) (fun b=>b=w.heap.size)).N nx=(fun b=>b=w.heap.size):=aQ _ _ _
        rw [hv,hN]
        have hzc:z'.cells.size=ii'.size:=by rw [<-Array.length_toList,k7];simp [k4]
        refine .sl _ el n.toNat m.toNat w.heap.size el _ _ (fun _ j=>kD ((E.cells el).getD j .bool)) (fun _ _ _=>False) (by simp [L.dz]) (by omega) (by simp only [maxLen];omega) (heap_alloc_new w _) (by rw [size_madeCells,hcl]) rfl (fun _ _ _ h=>h.elim) (fun _ _ _ _ _ h=>h.elim) (fun i j kk hi hj=>?_) (fun i j kk hi hj=>?_)
        ·have hjl:j<ii'.size:=by rw [<-hcl];exact (List.getElem?_eq_some_iff.1 hj).1
         have hlt:i*(E.cells el).length+j<m.toNat*ii'.size:=by
          rw [hcl]
          calc i*ii'.size+j<i*ii'.size+ii'.size:=by omega
           _=(i+1)*ii'.size:=by rw [Nat.succ_mul]
           _<=m.toNat*ii'.size:=Nat.mul_le_mul_right _ (by omega)
         have hmod:(i*(E.cells el).length+j) % z'.cells.size=j:=by rw [hzc,hcl,Nat.mul_comm,Nat.mul_add_mod,Nat.mod_eq_of_lt hjl]
         have hz:z'.cells[j]?=some (kD kk):=by
          rw [<-Array.getElem?_toList,k7,<-iy hie,List.getElem?_map,hj];rfl
         simp only [madeCells]
         rw [Array.getElem?_map,Array.getElem?_range,if_pos hlt]
         simp only [Option.map_some,hmod]
         rw [getElem!_def,hz,List.getD_eq_getElem?_getD,hj];rfl
        ·rw [List.getD_eq_getElem?_getD,hj]
         have hxs:((L.sl (List.replicate n.toNat ((E.cells el).map za))).dz.getD i []).getD j .hole=za kk:=by
          simp [L.dz,List.getD_eq_getElem?_getD,List.getElem?_replicate,hi,List.getElem?_map,hj]
         rw [hxs]
         exact Bd _ kk
      ·simp [h0,h1,h2] at h
     ·simp [h0,h1] at h
    ·simp [h0] at h
   ·cases h
  ·cases h
 ·cases h
theorem eS {b:Option Operand}{d:Int}{k:Int->aD}(h:gG ρ b d k=some ans):∃n,k n=some ans/\((b.map a.eval=none/\n=d)∨∃ik,b.map a.eval=some (.int ik n)):=by
 unfold gG at h
 split at h
 ·exact ⟨d,h,.inl ⟨rfl,rfl⟩⟩
 ·rename_i x
  split at h
  ·rename_i ik n he
   have:=ha x
   rw [he] at this
   exact ⟨n,h,.inr ⟨ik,congrArg some (show a.eval x=.int ik n from this)⟩⟩
  ·cases h
omit hT hh ha in
theorem kf {b:Bool}{lo hi:Option Value}{l h:Int}{len cap:Nat}(hl:(lo=none/\l=0)∨∃k,lo=some (.int k l))(hi':(hi=none/\h=(len:Int))∨∃k,hi=some (.int k h))(h0:0<=l)(h1:l<=h)(h2:h<=(len:Int))(h3:len<=cap) :
  (Instr.sliceBounds b len cap lo hi none).run P w=.ok (l.toNat,h.toNat,cap) w:=by
 have e1:(h.toNat:Int)=h:=Int.toNat_of_nonneg (by omega)
 have h4:h<=(cap:Int):=by omega
 have h5:0<=h:=by omega
 rcases hl with ⟨rfl,rfl⟩ | ⟨k,rfl⟩<;>rcases hi' with ⟨rfl,rfl⟩ | ⟨k',rfl⟩<;>simp [Instr.sliceBounds,run_sliceBound,h0,h1,h2,h4,h5,e1]
omit hT hh ha in
theorem Dj {T:Nat->List K}{Z:Nat->Prop}{e len cap l h:Nat}{A0:Option Addr}{xs:aq}(hr:Rd T w Z (.sl e) (.slice A0 len cap) (.sl xs))(h1:l<=h)(h2:h<=xs.length) :
  Rd T w Z (.sl e) (.slice (if cap=l then A0 else A0.map (·.add (l*(T e).length))) (h - l) (cap - l)) (.sl ((xs.drop l).take (h - l))):=by
 rcases Nat.eq_or_lt_of_le h1 with rfl | hlt
 ·rw [Nat.sub_self];exact .nil _ _ _ _ (by simp [L.dz])
 ·have hlen:((L.sl ((xs.drop l).take (h - l))).dz).length=h - l:=by simp [L.dz];omega
  have hm:xs.length<=maxLen:=hr.E6.len
  obtain ⟨A1,n,c,he,hn,hc,hv⟩:=hr.inv
  cases he
  have hn':xs.length=len:=hn
  obtain ⟨b,q,v,rfl,hZ,hv1,hv2⟩:=hv (by omega)
  rw [if_neg (by omega)]
  simp only [Option.map_some,ow]
  refine .sl e (h - l) (cap - l) b (q+l*(T e).length) _ (fun i j=>v (l+i) j) hlen (by omega) (by omega) hZ (fun i j k hi hj=>?_) (fun i j k hi hj=>?_)
  ·have:=hv1 (l+i) j k (by omega) hj
   rw [<-this];congr 2;rw [Nat.add_mul];omega
  ·have:=hv2 (l+i) j k (by omega) hj
   have e2:((xs.drop l).take (h - l)).getD i []=xs.getD (l+i) []:=by
    simp only [List.getD_eq_getElem?_getD,List.getElem?_take,hi,if_true,List.getElem?_drop]
   simp only [L.dz] at this ⊢
   rw [e2];exact this
theorem Cl {t:TypeId}{x:Operand}{lo hi mx:Option Operand}(ho:o.op=.slice t x lo hi mx)(h:gS E hp t ρ x lo hi mx k=some ans):fN P E w0 M o a w A hp nx k ans:=by
 have hx:=ha x
 unfold gS at h
 split at h
 ·rename_i s hs
  rw [hs] at hx
  have hx':a.eval x=.string s:=hx
  cases hst:TI.isStr (E.T t)<;>simp only [hst,aO,aR] at h
  ·cases h
  have hu:=jd hT hh ha hst
  cases mx with
  | some m=>cases h
  | none=>
   simp only at h
   obtain ⟨l,g1,hl⟩:=eS hT hh ha h
   obtain ⟨hg,g2,hhi⟩:=eS hT hh ha g1
   by_cases h0:0<=l
   ·by_cases h1:l<=hg
    ·by_cases h2:hg<=(s.size:Int)
     ·simp only [h0,h1,h2,decide_true,aO] at g2
      refine ⟨_,_,g2,ef.pure hh (cv:=.string (s.extract l.toNat hg.toNat)) ?_ rfl⟩
      have:=kf (P:=P) (w:=w) (b:=false) (len:=s.size) (cap:=s.size) hl hhi h0 h1 h2 (Nat.le_refl _)
      simp [execOp,ho,hx',Instr.sliceAt,Instr.slice,run_underlying hu,this]
     ·simp [h0,h1,h2] at g2
    ·simp [h0,h1] at g2
   ·simp [h0] at g2
 ·rename_i hn
  rw [hn] at hx
  obtain ⟨A0,hx'⟩:=(show V0 E.cells w A .nil (a.eval x) from hx)
  split at h
  ·rename_i el hel
   obtain ⟨hu,ie,hie⟩:=iS hT hh ha hel
   obtain ⟨ii',d',z',k1,k2,k3,k4,k5,k6,kby,k7,k8,k9,k10,kpl,k11,k12,tX,tU,k15⟩:=hT el ie hie
   split at h
   ·obtain ⟨l,g1,hl⟩:=eS hT hh ha h
    obtain ⟨hg,g2,hhi⟩:=eS hT hh ha g1
    by_cases h0:l=0
    ·by_cases h1:hg=0
     ·subst h0;subst h1
      simp only [decide_true,aO] at g2
      refine ⟨_,_,g2,ef.pure hh (cv:=.slice A0 0 0) ?_ (V0.v2 (v:=.nil) ⟨A0,rfl⟩)⟩
      have:=kf (P:=P) (w:=w) (b:=true) (len:=0) (cap:=0) hl hhi (Int.le_refl _) (Int.le_refl _) (Int.le_refl _) (Nat.le_refl _)
      simp at this
      simp [execOp,ho,hx',Instr.sliceAt,Instr.slice,run_underlying hu,this,gk k1]
     ·simp [h0,h1] at g2
    ·simp [h0] at g2
   ·rename_i m
    split at h
    ·cases h
    split at h
    ·cases h
    rename_i hh'
    obtain ⟨hg,g1,hhi⟩:=eS hT hh ha h
    obtain ⟨mg,g2,hmi⟩:=eS hT hh ha g1
    rcases hhi with ⟨hc,_⟩ | ⟨ik,hhi⟩
    ·cases hc
    rcases hmi with ⟨hc,_⟩ | ⟨jk,hmi⟩
    ·cases hc
    by_cases h0:hg=0
    ·by_cases h1:mg=0
     ·subst h0;subst h1
      simp only [decide_true,aO] at g2
      refine ⟨_,_,g2,ef.pure hh (cv:=.slice A0 0 0) ?_ (V0.v2 (v:=.nil) ⟨A0,rfl⟩)⟩
      simp at hhi hmi
      simp [execOp,ho,hx',Instr.sliceAt,Instr.slice,run_underlying hu,Instr.sliceBounds,hhi,hmi,run_sliceBound,gk k1]
     ·simp [h0,h1] at g2
    ·simp [h0] at g2
  ·cases h
 ·split at h
  ·rename_i el hel
   obtain ⟨hu,ie,hie⟩:=iS hT hh ha hel
   obtain ⟨ii',d',z',k1,k2,k3,k4,k5,k6,kby,k7,k8,k9,k10,kpl,k11,k12,tX,tU,k15⟩:=hT el ie hie
   have hcl:(E.cells el).length=ii'.size:=by rw [iy hie,k4]
   obtain ⟨dd,e,xs,q1,q2⟩:=iF hh h
   obtain ⟨q3,q4⟩:=q2 hx
   unfold lZ at q1
   cases he:Nat.beq e el<;>simp only [he,aO,aR] at q1
   ·cases q1
   obtain rfl:=Nat.eq_of_beq_eq_true he
   obtain ⟨A1,m,c,p1,p2,p3,p4⟩:=q4.inv
   have hm:xs.length=m:=p2
   subst hm
   split at q1
   ·obtain ⟨l,g1,hl⟩:=eS hT hh ha q1
    obtain ⟨hg,g2,hhi⟩:=eS hT hh ha g1
    by_cases h0:0<=l
    ·by_cases h1:l<=hg
     ·by_cases h2:hg<=(xs.length:Int)
      ·simp only [h0,h1,h2,decide_true,aO] at g2
       rw [p1] at q4
       have hcut:=Dj q4 (l:=l.toNat) (h:=hg.toNat) (by omega) (by omega)
       have ed:(hg - l).toNat=hg.toNat - l.toNat:=by omega
       refine ⟨_,_,g2,ef.pure hh (cv:=.slice (if c=l.toNat then A1 else A1.map (·.add (l.toNat*(E.cells e).length))) (hg.toNat - l.toNat) (c - l.toNat)) ?_ (V0.v2 (v:=.sl dd e _) ⟨q3,by rw [ed];exact hcut⟩)⟩
       have:=kf (P:=P) (w:=w) (b:=true) (len:=xs.length) (cap:=c) hl hhi h0 h1 h2 p3
       simp [execOp,ho,p1,Instr.sliceAt,Instr.slice,run_underlying hu,this,gk k1,hcl]
      ·simp [h0,h1,h2] at g2
     ·simp [h0,h1] at g2
    ·simp [h0] at g2
   ·rename_i m
    split at q1
    ·cases q1
    split at q1
    ·cases q1
    rename_i hh'
    obtain ⟨hg,g1,hhi⟩:=eS hT hh ha q1
    obtain ⟨mg,g2,hmi⟩:=eS hT hh ha g1
    rcases hhi with ⟨hc,_⟩ | ⟨ik,hhi⟩
    ·cases hc
    rcases hmi with ⟨hc,_⟩ | ⟨jk,hmi⟩
    ·cases hc
    by_cases h0:hg=0
    ·by_cases h1:mg=0
     ·subst h0;subst h1
      simp only [decide_true,aO] at g2
      refine ⟨_,_,g2,ef.pure hh (cv:=.slice A1 0 0) ?_ (V0.v2 (v:=.nil) ⟨A1,rfl⟩)⟩
      simp at hhi hmi
      simp [execOp,ho,p1,Instr.sliceAt,Instr.slice,run_underlying hu,Instr.sliceBounds,hhi,hmi,run_sliceBound,gk k1]
     ·simp [h0,h1] at g2
    ·simp [h0] at g2
  ·cases h
theorem uN {e:Nat}(h:Av (E.T e)=true):P.underlying e=some (.int .u8)/\E.cells e=[.int .u8]:=by
 cases ht:E.T e with
 | none=>rw [ht] at h;cases h
 | some i=>
  rw [ht] at h
  obtain ⟨ii,d,z,h1,h2,h3,h4,h5,h6,hby,h7,h8,h9,h10,hpl,h11,h12,h13,h14,h15⟩:=hT e i ht
  simp only [Av,Bool.and_eq_true,Bool.not_eq_true'] at h
  have hc:i.cells=[.int .u8]:=by
   have:=h.2
   split at this
   ·assumption
   ·cases this
  exact ⟨by rw [h2,h12 h.1 _ hc],by rw [iy ht,hc]⟩
omit hT ha in
theorem ef.Ea {obj:Obj}{cv:Value}{v:V}(hr:(execOp a.eval o).run P w=.ok (.value cv) (w.drew.alloc obj))(hv:V2 E.cells (w.drew.alloc obj) A v cv):ef P E.cells w0 M o a w A hp nx v []:=by
 intro _ K Q hK
 have hb:∀b,b<w.heap.size->(w.drew.alloc obj).heap[b]?=w.heap[b]?:=fun b h=>lJ w.drew obj b h
 have st:Step A A w (w.drew.alloc obj) (fun _=>False):=⟨rfl,fun _ h=>h,fun _ _=>rfl,by simp,fun b h _=>hb b h,fun _ _ _ _=>Iff.rfl,fun r b h hn=>by
  rcases h with h | h
  ·exact h.elim
  ·exact (h (hh.xd hn)).elim⟩
 unfold Oper.wp
 rw [hr]
 refine hK cv _ A ⟨fun r b h=>Nat.lt_of_lt_of_le (hh.lt r b h) (by simp),hh.dj,hh.al,fun r=>(hh.rt r).step st hh (fun h=>h) (fun hd=>.inr fun b h=>?_) (fun cs _ v _=>?_),(hh.fr.drew).alloc _,hh.nm,hh.zf,hh.pn⟩ st hv fun r h=>.inl h
 ·have:=hh.rt r;rw [hd] at this;exact this b h
 ·cases v with
  | sl d=>cases d<;>simp [indep]
  | cS d=>cases d<;>simp [indep]
  | gm=>exact id
  | _=>trivial
omit hT hh ha in
theorem Rd.Cb {T:Nat->List K}{Z:Nat->Prop}{ik:IntKind}{x:Value}{l:L}(h:Rd T w Z (.int ik) x l):x=.int ik l.toInt:=by cases h;rfl
omit hT hh ha in
theorem foldl_push:∀(l:List Int) (s:av),l.foldl (fun r n=>r.push (UInt8.ofNat n.toNat)) s=⟨s.data++(l.map fun n=>UInt8.ofNat n.toNat).toArray⟩
 | [],s=>by simp
 | n::l,s=>by
  rw [List.foldl_cons,foldl_push l]
  simp [ByteArray.push]
theorem zU {src dst:TypeId}{x:Operand}(ho:o.op=.convert src dst x)(h:lH E hp src dst (ρ x) k=some ans):fN P E w0 M o a w A hp nx k ans:=by
 have hx:=ha x
 unfold lH at h
 split at h
 ·rename_i jk n hn
  rw [hn] at hx
  have hx':a.eval x=.int jk n:=hx
  split at h
  ·rename_i i0 hs
   obtain ⟨ii,d,z,h1,h2,h3,h4,h5,h6,hby,h7,h8,h9,h10,hpl,h11,h12,h13,h14,h15⟩:=hT src i0 hs
   split at h
   ·rename_i i hd
    obtain ⟨ii',d',z',k1,k2,k3,k4,k5,k6,kby,k7,k8,k9,k10,kpl,k11,k12,tX,tU,k15⟩:=hT dst i hd
    cases hag:i.agg<;>simp only [hag,aO,aR] at h
    ·split at h
     ·rename_i ik hc
      have hu:P.underlying dst=some (.int ik):=by rw [k2,k12 hag _ hc]
      exact ⟨_,_,h,ef.pure hh (cv:=.int ik (ik.wrap n)) (by simp [execOp,ho,hx',convert,run_underlying h2,run_underlying hu,Conv.intToInt]) rfl⟩
     ·cases h
    ·cases h
   ·cases h
  ·cases h
 ·rename_i s hs
  rw [hs] at hx
  have hx':a.eval x=.string s:=hx
  cases hst:TI.isStr (E.T src)<;>simp only [hst,aO,aR] at h
  ·cases h
  have hu:=jd hT hh ha hst
  cases hdt:TI.isStr (E.T dst)<;>simp only [hdt,aO,aR] at h
  ·split at h
   ·rename_i el hel
    obtain ⟨hud,ie,hie⟩:=iS hT hh ha hel
    cases h8:(Av (E.T el)&&decide ((s.size:Int)<=140737488355328))<;>simp only [h8,aO,aR] at h
    ·cases h
    simp only [Bool.and_eq_true,decide_eq_true_eq] at h8
    obtain ⟨h8,h47⟩:=h8
    obtain ⟨hue,hce⟩:=uN hT hh ha h8
    have hml:s.size<=maxLen:=by simp only [maxLen];omega
    have hrun:=run_bytes_of_string (P:=P) w src dst el s hu hud hue
    refine ⟨_,_,h,ef.Ea hh (obj:=.cells (bytesRow s (grownCap w s.size 0 el)) el ((bytesRow s (grownCap w s.size 0 el)).size,(bytesRow s (grownCap w s.size 0 el)).size+1)) (cv:=.slice (some ⟨w.heap.size,0,none⟩) s.size (grownCap w s.size 0 el)) (by simp only [execOp,ho,hx',map_eq_pure_bind,Sem.run_bind,hrun,Result.andThen_ok,Sem.run_pure]) ?_⟩
    refine V0.v2 (v:=.sl none el _) ⟨fun r hr=>(nomatch hr),?_⟩
    have hlen:(L.sl (iY s)).dz.length=s.size:=by simp [L.dz,iY]
    rcases Nat.eq_zero_or_pos s.size with hz | hz
    ·rw [hz];exact .nil _ _ _ _ (List.eq_nil_of_length_eq_zero (by rw [hlen,hz]))
    ·have hge:=grownCap_ge w s.size 0 el
     refine .sl el s.size _ w.heap.size 0 _ (fun i _=>.int .u8 (s.data.toList.getD i 0).toNat) hlen hge hml (show eo _ A _ from ⟨hh.zf _ (.inr hh.fr.size),by simp,fun r hr=>Nat.lt_irrefl _ (hh.lt r _ hr)⟩) (fun i j kk hi hj=>?_) (fun i j kk hi hj=>?_)
     ·rw [hce] at hj ⊢
      cases j with
      | succ j=>simp at hj
      | zero=>
       have hc:=heap_alloc_new w.drew (.cells (bytesRow s (grownCap w s.size 0 el)) el ((bytesRow s (grownCap w s.size 0 el)).size,(bytesRow s (grownCap w s.size 0 el)).size+1))
       have :(w.drew.alloc (.cells (bytesRow s (grownCap w s.size 0 el)) el ((bytesRow s (grownCap w s.size 0 el)).size,(bytesRow s (grownCap w s.size 0 el)).size+1))).cell? ⟨w.heap.size,i,none⟩=(bytesRow s (grownCap w s.size 0 el))[i]?:=cell_of_row _ _ _ _ _ _ hc
       simp only [List.length_singleton,Nat.mul_one,Nat.add_zero,Nat.zero_add]
       rw [this]
       have hi':i<s.data.size:=hi
       have hi2:i<s.size:=hi
       simp [bytesRow,Array.getElem?_append,hi',hi2,List.getD_eq_getElem?_getD]
     ·rw [hce] at hj
      cases j with
      | succ j=>simp at hj
      | zero=>
       simp at hj
       subst hj
       have hi':i<s.data.toList.length:=by rw [Array.length_toList];exact hi
       have e1:(((L.sl (iY s)).dz).getD i []).getD 0 .hole=.int (s.data.toList.getD i 0).toNat:=by
        simp only [L.dz,iY,List.getD_eq_getElem?_getD,List.getElem?_map,List.getElem?_eq_getElem hi']
        rfl
       rw [e1]
       exact Rd.int .u8 (.int (s.data.toList.getD i 0).toNat)
   ·cases h
  ·have hud:=jd hT hh ha hdt
   exact ⟨_,_,h,ef.pure hh (cv:=.string s) (by simp [execOp,ho,hx',convert,run_underlying hu,run_underlying hud]) rfl⟩
 ·split at h
  ·rename_i el hel
   obtain ⟨hu,ie,hie⟩:=iS hT hh ha hel
   cases hb:(Av (E.T el)&&TI.isStr (E.T dst))<;>simp only [hb,aO,aR] at h
   ·cases h
   simp only [Bool.and_eq_true] at hb
   obtain ⟨hue,hce⟩:=uN hT hh ha hb.1
   have hud:=jd hT hh ha hb.2
   have hconv:∀A0 n c,a.eval x=.slice A0 n c->∀s,(Conv.bytesToString (.slice A0 n c)).run P w=.ok (.string s) w->(execOp a.eval o).run P w=.ok (.value (.string s)) w:=by
    intro A0 n c he s hs
    have:=run_convert_bytes_string (P:=P) w src dst el A0 n c hu hue hud
    simp only [execOp,ho,he,map_eq_pure_bind,Sem.run_bind,this,hs,Result.andThen_ok,Sem.run_pure]
   have hempty:∀A0 c,(Conv.bytesToString (.slice A0 0 c)).run P w=.ok (.string ⟨#[]⟩) w:=by
    intro A0 c
    cases A0 with
    | none=>simp [Conv.bytesToString];rfl
    | some a0=>
     have:=run_bytesToString (P:=P) (w:=w) a0 0 c [] (run_loadCells_list (P:=P) w a0 [] (fun j v hj=>by simp at hj))
     rw [this];rfl
   split at h
   ·rename_i hn
    rw [hn] at hx
    obtain ⟨A0,hx'⟩:=(show V0 E.cells w A .nil (a.eval x) from hx)
    exact ⟨_,_,h,ef.pure hh (hconv _ _ _ hx' _ (hempty _ _)) rfl⟩
   ·obtain ⟨dd,e,xs,q1,q2⟩:=iF hh h
    obtain ⟨q3,q4⟩:=q2 hx
    cases he:Nat.beq e el<;>simp only [he,aO,aR] at q1
    ·cases q1
    obtain rfl:=Nat.eq_of_beq_eq_true he
    obtain ⟨A1,m,c,p1,p2,p3,p4⟩:=q4.inv
    have hm:xs.length=m:=p2
    subst hm
    refine ⟨_,_,q1,ef.pure hh (cv:=.string (De xs)) (hconv _ _ _ p1 _ ?_) rfl⟩
    rcases Nat.eq_zero_or_pos xs.length with hz | hz
    ·rw [hz,hempty]
     have :xs=[]:=List.eq_nil_of_length_eq_zero hz
     subst this;rfl
    ·obtain ⟨b,q,v,rfl,hZ,hv1,hv2⟩:=p4 hz
     have hload:(loadCells ⟨b,q,none⟩ xs.length).run P w=.ok ((xs.map fun r=>(r.headD .hole).toInt).map (Value.int .u8)).toArray w:=by
      have:=run_loadCells_list (P:=P) w ⟨b,q,none⟩ ((xs.map fun r=>(r.headD .hole).toInt).map (Value.int .u8)) (fun j u hj=>by
       have hjl:j<xs.length:=by have:=(List.getElem?_eq_some_iff.1 hj).1;simpa using this
       have h1:=hv1 j 0 (.int .u8) hjl (by rw [hce];rfl)
       have h2:=hv2 j 0 (.int .u8) hjl (by rw [hce];rfl)
       rw [hce] at h1
       simp only [List.length_singleton,Nat.mul_one,Nat.add_zero] at h1
       rw [ow,h1]
       simp only [List.getElem?_map,List.getElem?_eq_getElem hjl,Option.map_some,Option.some.injEq] at hj
       subst hj
       have e1:((L.sl xs).dz.getD j []).getD 0 .hole=xs[j].headD .hole:=by
        simp only [L.dz,List.getD_eq_getElem?_getD,List.getElem?_eq_getElem hjl,Option.getD_some]
        rw [gY,List.getD_eq_getElem?_getD]
       rw [e1] at h2
       exact congrArg some (Rd.Cb h2))
      simpa using this
     rw [run_bytesToString w _ _ _ _ hload,foldl_push]
     simp only [De,ByteArray.empty,ByteArray.emptyWithCapacity,List.map_map]
     congr 3
     apply Array.toList_inj.1
     simp only [Array.toList_append,List.nil_append]
     rfl
  ·cases h
end
end Go.DM
set_option linter.unusedSectionVars false
namespace Go.DM
def A0 (Z:Nat->Prop)(w:World):cD:={ v:=fun _=>Go.undef,N:=fun _ _=>False,al:=fun _=>False,Z:=fun b=>Z b∨w.heap.size<=b }
def kR (P : Program) (g : FuncId) : Prop := ∃ fn, P.funcs[g]? = some fn /\ (fn.name == "runtime.NumGoroutine") = false /\ fn.body.isNone = false
def Valid (P:Program)(E:Env)(g:FuncId)(c:gj):Prop:=
 kR P g/\c.res.ok=true/\∀(ls r:List L) (w:World) (vs:List Value) (Z:Nat->Prop),c.sem ls=some r->F2 (V2 E.cells w (A0 Z w)) (iP c.args ls) vs->
  Calls P g vs.toArray w fun e w'=>∃rv A',e=.returned rv/\Fr w w' (fun _=>False)/\A'.Z=(A0 Z w).Z/\(∀i,A'.al i↔i<(c.res.R r).length)/\
   Hp E.cells w El A' (dH (fun _=>.dead) 0 (c.res.R r)) w'/\V2 E.cells w' A' (c.res.V r 0) rv
def lW (P:Program)(E:Env)(g:FuncId)(c:mB):Prop:=
 kR P g/\∀(ls r:List L) (w:World) (vs:List Value) (A:cD),c.sem ls=some r->
  Hp (np:=(tZ c.args).length) E.cells w ⟨fun b=>∃j,A.N j b,A.v,[]⟩ A (iq (qy c.args ls)) w->(∀q,(tZ c.args).length<=q->¬A.al q)->F2 (V2 E.cells w A) (sM c.args ls 0) vs->
  Calls P g vs.toArray w fun e w'=>∃n rows,∃N:Nat->Nat->Prop,r=.int n::rows/\e=.returned (.int .i64 n)/\Fr w w' (fun b=>∃j,A.N j b)/\
   (∀j q b,N j b->N q b->j=q)/\(∀j b,N j b->b<w'.heap.size/\((∃i,A.N i b)∨w.heap.size<=b))/\
   ∀j e,(tZ c.args)[j]?=some e->fQ E.cells w' (N j) (.sl e) (A.v j) (rows.getD j .hole)
def K.beq_eq {a b:K}(h:K.beq a b=true):a=b:=by
 cases a<;>cases b<;>first | (cases h;done) | skip
 ·rw [gu h]
 ·rfl
 ·rfl
 ·rw [Nat.eq_of_beq_eq_true h]
def sj:∀{a b:List K},rZ a b=true->a=b
 | [],[],_=>rfl
 | [],_::_,h=>by cases h
 | _::_,[],h=>by cases h
 | a::as,b::bs,h=>by
  simp only [rZ,Bool.and_eq_true] at h
  rw [K.beq_eq h.1,sj h.2]
def mE:∀(n:Nat) (l:List L),(ck n l).length=n
 | 0,_=>rfl
 | n+1,l=>by simp [ck,mE n]
def qz:∀(n:Nat) (l:List L) (j:Nat),j<n->(ck n l).getD j .hole=l.getD j .hole
 | 0,_,_,h=>by omega
 | n+1,l,0,_=>by simp only [ck];rw [gY];rfl
 | n+1,l,j+1,h=>by
  have:=qz n l.tail j (by omega)
  rw [jU] at this
  simpa [ck] using this
def mQ:∀(a b:List L),ck a.length (a++b)=a
 | [],_=>rfl
 | x::a,b=>by simp [ck,mQ a b]
def mP (d:Option Nat):∀(ks:List K) (a b:List L),a.length=ks.length->kr d ks (a++b)=kr d ks a
 | [],_,_,_=>rfl
 | k::ks,[],b,h=>by simp at h
 | k::ks,x::a,b,h=>by simp at h;simp [kr,mP d ks a b h]
section
variable {E:Env} {w0 w:World} {np:Nat} {M:Mem np} {A:cD} {hp:Nat->aK} {ans:List L} {Z:Nat->Prop}
def eV (w:World)(A:cD)(Z:Nat->Prop)(pl:Prop):Prop:=(∀b,rI w A b->Z b)∨(pl/\∀b,eo w A b->Z b)
theorem eV.tV (hh:Hp E.cells w0 M A hp w){pl:Prop}(h:eV w A Z pl):(∀b,rI w A b->eo w (A0 Z w) b)∨(pl/\∀b,eo w A b->eo w (A0 Z w) b):=by
 rcases h with h | ⟨h1,h2⟩
 ·refine .inl fun b hb=>⟨.inl (h b hb),?_,fun r hr=>hr⟩
  rcases hb with ⟨r,hr⟩ | hb
  ·exact hh.lt r b hr
  ·exact hb.2.1
 ·exact .inr ⟨h1,fun b hb=>⟨.inl (h2 b hb),hb.2.1,fun r hr=>hr⟩⟩
theorem eV.rd (hh:Hp E.cells w0 M A hp w){pl:Prop}(h:eV w A Z pl){kk:K}{x:Value}{l:L}(h1:Rd E.cells w (rI w A) kk x l)(h2:pl->Rd E.cells w (eo w A) kk x l):Rd E.cells w (eo w (A0 Z w)) kk x l:=by
 rcases h.tV hh with hz | ⟨hp,hz⟩
 ·exact h1.mono hz
 ·exact (h2 hp).mono hz
theorem tA {xs:List Value}{n:Nat}(h:xs.length=n):(List.range n).map (fun j=>xs.getD j Go.undef)=xs:=by
 apply List.ext_getElem?
 intro j
 by_cases hj:j<n
 ·simp [hj,List.getD_eq_getElem?_getD,List.getElem?_eq_getElem (show j<xs.length by omega)]
 ·rw [List.getElem?_eq_none (by simp;omega),List.getElem?_eq_none (by omega)]
theorem tu (hh:Hp E.cells w0 M A hp w){ks:List K}{vs:List V}{k:List L->aD}(hm:eV w A Z (vs.all cN=true))(h:gh hp ks vs k=some ans) :
  ∃ls,k ls=some ans/\ls.length=ks.length/\vs.length=ks.length/\∀{R:V->Value->Prop} {xs},(∀v x,R v x->V0 E.cells w A v x)->F2 R vs xs->F2 (Vc E.cells w (A0 Z w)) (kr none ks ls) xs/\
   (∀j kk,ks[j]?=some kk->∃x,xs[j]?=some x/\Rd E.cells w (eo w (A0 Z w)) kk x (ls.getD j .hole)):=by
 obtain ⟨ls,h1,h2,h2',h3⟩:=qb hh h
 refine ⟨ls,h1,h2,h2',fun {R xs} hR hf=>?_⟩
 have key:∀j kk,ks[j]?=some kk->∃x,xs[j]?=some x/\Rd E.cells w (eo w (A0 Z w)) kk x (ls.getD j .hole):=by
  intro j kk hj
  obtain ⟨x,e1,e2,e3⟩:=h3 hR hf j kk hj
  exact ⟨x,e1,hm.rd hh e2 e3⟩
 refine ⟨?_,key⟩
 have:=rS (T:=E.cells) (w:=w) (A:=A0 Z w) (d:=none) (fun r hr=>by cases hr) ks ls (fun j=>xs.getD j Go.undef) (fun j kk hj=>by
  obtain ⟨x,e1,e2⟩:=key j kk hj
  rw [List.getD_eq_getElem?_getD,e1];exact e2)
 rwa [tA (by rw [<-hf.length,h2'])] at this
theorem CQ (hh:Hp E.cells w0 M A hp w){ks:List K}{v:V}{k:List L->aD}(hm:eV w A Z (jq v=true))(h:rJ hp ks v k=some ans) :
  ∃ls,k ls=some ans/\ls.length=ks.length/\∀{x} (rest:List L),V0 E.cells w A v x->V0 E.cells w (A0 Z w) (.cS none ks (ck ks.length (ls++rest)) 0) x:=by
 unfold rJ at h
 split at h
 ·rename_i r q
  cases hq:Nat.beq q 0<;>simp only [hq,aO,aR] at h
  ·cases h
  have hq':=Nat.eq_of_beq_eq_true hq
  subst hq'
  split at h
  ·rename_i cs hr
   have hm':eV w A Z (cs.all cN=true):=by
    rcases hm with hm | hm
    ·exact .inl hm
    ·exact absurd hm.1 (by simp [jq])
   obtain ⟨ls,h1,h2,h2',h3⟩:=tu hh hm' h
   refine ⟨ls,h1,h2,fun {x} rest hv=>?_⟩
   obtain ⟨ha,g,e1,e2⟩:=hv
   have hroot:=hh.rt r
   rw [hr] at hroot
   obtain ⟨_,g',te,cur,m1,m2,m3,m4⟩:=hroot
   obtain rfl:g=g':=by rw [e1] at m1;injection m1 with m1;injection m1 with m1;injection m1
   obtain ⟨_,h4⟩:=h3 (R:=Vc E.cells w A) (fun v x h=>h.1) m4
   refine ⟨(fun r hr=>nomatch hr),g,0,fun j=>cur.toList.getD j Go.undef,e2,?_,fun j kk hj=>?_⟩
   ·rcases hm.tV hh with hz | ⟨hp,_⟩
    ·exact hz g (.inl ⟨r,(m2 g).2 rfl⟩)
    ·cases hp
   ·obtain ⟨y,q1,q2⟩:=h4 j kk hj
    have hjl:j<ks.length:=(List.getElem?_eq_some_iff.1 hj).1
    have hy:cur.toList.getD j Go.undef=y:=by rw [List.getD_eq_getElem?_getD,q1];rfl
    refine ⟨?_,?_⟩
    ·show w.cell? _=some (cur.toList.getD j Go.undef)
     rw [hy,Nat.zero_add,gi m3,<-Array.getElem?_toList,q1]
    ·show Rd E.cells w _ kk (cur.toList.getD j Go.undef) _
     rw [hy,<-h2,mQ];exact q2
  ·cases h
 ·rename_i d es cells q
  cases hq:(Nat.beq q 0&&rZ es ks)<;>simp only [hq,aO,aR] at h
  ·cases h
  simp only [Bool.and_eq_true] at hq
  have hq':=Nat.eq_of_beq_eq_true hq.1
  subst hq'
  have hks:=sj hq.2
  subst hks
  refine ⟨_,h,mE _ _,fun {x} rest hv=>?_⟩
  obtain ⟨ha,b,q,vv,e1,e2,e3⟩:=hv
  have hz:∀b,fG w A d b->eo w (A0 Z w) b:=by
   intro b hb
   rcases hm.tV hh with hz | ⟨hp,hz⟩
   ·exact hz b hb.all
   ·cases d with
    | none=>exact hz b hb
    | some r=>cases hp
  refine ⟨(fun r hr=>nomatch hr),b,q,vv,e1,hz b e2,fun j kk hj=>⟨(e3 j kk hj).1,?_⟩⟩
  have hjl:j<es.length:=(List.getElem?_eq_some_iff.1 hj).1
  have :ck es.length (ck es.length cells++rest)=ck es.length cells:=by
   have:=mQ (ck es.length cells) rest
   rwa [mE] at this
  rw [this,qz _ _ _ hjl]
  exact (e3 j kk hj).2.mono hz
 ·cases h
theorem C1 (hh:Hp E.cells w0 M A hp w):∀{qs:List (List K)} {vs:List V} {k:List L->aD},eV w A Z (vs.all jq=true)->qU hp qs vs k=some ans->
  ∃ls,k ls=some ans/\ls.length=CB qs/\∀{xs} (rest:List L),F2 (V0 E.cells w A) vs xs->F2 (V0 E.cells w (A0 Z w)) (uC qs (ls++rest)) xs:=by
 intro qs
 induction qs with
 | nil=>
  intro vs k hm h
  cases vs with
  | nil=>exact ⟨[],h,rfl,fun {xs} rest hf=>by cases hf;exact .nil⟩
  | cons=>cases h
 | cons q qs ih=>
  intro vs k hm h
  cases vs with
  | nil=>cases h
  | cons v vs=>
   simp only [qU] at h
   have hm1:eV w A Z (jq v=true):=hm.imp id fun ⟨a,b⟩=>⟨by simp only [List.all_cons,Bool.and_eq_true] at a;exact a.1,b⟩
   have hm2:eV w A Z (vs.all jq=true):=hm.imp id fun ⟨a,b⟩=>⟨by simp only [List.all_cons,Bool.and_eq_true] at a;exact a.2,b⟩
   obtain ⟨a,h1,h2,h3⟩:=CQ hh hm1 h
   obtain ⟨b,h4,h5,h6⟩:=ih hm2 h1
   refine ⟨a++b,h4,by simp [h2,h5,CB],fun {xs} rest hf=>?_⟩
   cases hf with
   | cons hv ht=>
    refine .cons ?_ ?_
    ·rw [List.append_assoc];exact h3 _ hv
    ·have :bA q.length (a++b++rest)=b++rest:=by rw [iw,<-h2,List.append_assoc,List.drop_left]
     rw [this]
     exact h6 rest ht
theorem CT (hh:Hp E.cells w0 M A hp w){p:fF}{v:V}{k:List L->aD}(hm:eV w A Z (gR v=true))(h:nT E hp p v k=some ans) :
  ∃ls,k ls=some ans/\ls.length=p.n/\∀{x} (rest:List L),V2 E.cells w A v x->V2 E.cells w (A0 Z w) (Bu p (ls++rest)) x:=by
 cases p with
 | rd kk=>
  have leaf:∀{v:V},(∀x,V2 E.cells w A v x->V0 E.cells w A v x)->(gR v=true->cN v=true)->eV w A Z (gR v=true)->gh hp [kk] [v] k=some ans->
    ∃ls,k ls=some ans/\ls.length=1/\∀{x} (rest:List L),V2 E.cells w A v x->V2 E.cells w (A0 Z w) (Bu (.rd kk) (ls++rest)) x:=by
   intro v hv2 hpl hm h
   obtain ⟨ls,h1,h2,_,h3⟩:=tu hh (hm.imp id fun ⟨a,b⟩=>⟨by simp [hpl a],b⟩) h
   refine ⟨ls,h1,h2,fun {x} rest hv=>?_⟩
   obtain ⟨_,h4⟩:=h3 (R:=V0 E.cells w A) (fun _ _ h=>h) (.cons (hv2 x hv) .nil)
   obtain ⟨y,e1,e2⟩:=h4 0 kk rfl
   simp at e1
   subst e1
   match ls,h2 with
   | [l],_=>exact (sK (fun r hr=>by cases hr) e2).v2
  simp only [nT] at h
  split at h
  ·rename_i r n e
   split at h
   ·rename_i cs hr
    cases hk:(K.beq kk (.sl e)&&Nat.ble n 16777216)<;>simp only [hk,aO,aR] at h
    ·cases h
    simp only [Bool.and_eq_true] at hk
    have hk':=K.beq_eq hk.1
    have hn16:=Nat.le_of_ble_eq_true hk.2
    subst hk'
    obtain ⟨xs,h1,h2,h3⟩:=qu hh h
    refine ⟨_,h1,rfl,fun {x} rest hv=>?_⟩
    obtain ⟨k1,g,k2,rfl⟩:=(show V0 E.cells w A (.lit r n e) x from hv)
    have hroot:=hh.rt r
    rw [hr] at hroot
    obtain ⟨_,g',te,cur,m1,m2,m3,m4⟩:=hroot
    obtain rfl:g=g':=by rw [k2] at m1;injection m1 with m1;injection m1 with m1;injection m1
    have hz:∀b,rI w A b->eo w (A0 Z w) b:=by
     rcases hm.tV hh with hz | ⟨hp,_⟩
     ·exact hz
     ·cases hp
    have h3':=h3 (R:=Vc E.cells w A) (fun v x h=>h.1) m4
    refine V0.v2 (v:=.sl none e xs) ⟨(fun q hq=>nomatch hq),?_⟩
    refine .sl e n n g 0 (.sl xs) (fun i j=>(cur.toList.getD (i*(E.cells e).length+j) Go.undef)) h2 (Nat.le_refl _) (by simp only [maxLen];omega) (hz g (.inl ⟨r,(m2 g).2 rfl⟩)) (fun i j kk hi hj=>?_) (fun i j kk hi hj=>?_)
    ·obtain ⟨y,e1,_⟩:=h3' i j kk hi hj
     rw [gi m3,Nat.zero_add,<-Array.getElem?_toList,e1,List.getD_eq_getElem?_getD,e1];rfl
    ·obtain ⟨y,e1,e2,_⟩:=h3' i j kk hi hj
     rw [List.getD_eq_getElem?_getD,e1]
     exact e2.mono hz
   ·cases h
  ·rename_i hne
   cases v<;>first
    | (exact leaf (fun x hv=>hv) (fun h=>h) hm h)
    | (simp only [gh] at h;cases kk<;>(simp only [fits,aR] at h;cases h))
 | agg ks=>
  simp only [nT] at h
  split at h
  ·rename_i cs
   obtain ⟨ls,h1,h2,_,h3⟩:=tu hh (show eV w A Z (cs.all cN=true) from hm) h
   refine ⟨ls,h1,h2,fun {x} rest hv=>?_⟩
   obtain ⟨l,rfl,hl⟩:=(show V1 E.cells w A (.agg cs) x from hv)
   refine V1.v2 (v:=.agg _) ⟨l,rfl,?_⟩
   rw [mP _ _ _ _ h2]
   exact (h3 (R:=Vc E.cells w A) (fun _ _ h=>h.1) hl).1
  ·cases h
 | ptr ks=>
  simp only [nT] at h
  have hv0:∀x,V2 E.cells w A v x->V0 E.cells w A v x:=by
   intro x hv
   unfold rJ at h
   split at h<;>first | exact hv | cases h
  have hpl:gR v=true->jq v=true:=by
   intro a
   unfold rJ at h
   split at h
   ·simp [gR,cN] at a
   ·rename_i d _ _ _
    cases d with
    | none=>rfl
    | some r=>simp [gR,cN] at a
   ·cases h
  obtain ⟨ls,h1,h2,h3⟩:=CQ hh (hm.imp id fun ⟨a,b⟩=>⟨hpl a,b⟩) h
  exact ⟨ls,h1,h2,fun {x} rest hv=>V0.v2 (h3 rest (hv0 x hv))⟩
 | fn f qs=>
  simp only [nT] at h
  split at h
  ·rename_i g caps
   cases hf:Nat.beq f g<;>simp only [hf,aO,aR] at h
   ·cases h
   have hf':=Nat.eq_of_beq_eq_true hf
   subst hf'
   obtain ⟨ls,h1,h2,h3⟩:=C1 hh (show eV w A Z (caps.all jq=true) from hm) h
   refine ⟨ls,h1,h2,fun {x} rest hv=>?_⟩
   obtain ⟨l,rfl,hl⟩:=(show V1 E.cells w A (.fn f caps) x from hv)
   exact V1.v2 (v:=.fn f _) ⟨l,rfl,h3 rest hl⟩
  ·cases h
 | nil=>
  simp only [nT] at h
  split at h
  ·exact ⟨[],h,rfl,fun {x} rest hv=>hv⟩
  ·cases h
theorem AV (hh:Hp E.cells w0 M A hp w):∀{ps:List fF} {vs:List V} {k:List L->aD},eV w A Z (vs.all gR=true)->nW E hp ps vs k=some ans->
  ∃ls,k ls=some ans/\∀{xs},F2 (V2 E.cells w A) vs xs->F2 (V2 E.cells w (A0 Z w)) (iP ps ls) xs:=by
 intro ps
 induction ps with
 | nil=>
  intro vs k hm h
  cases vs with
  | nil=>exact ⟨[],h,fun {xs} hf=>by cases hf;exact .nil⟩
  | cons=>cases h
 | cons p ps ih=>
  intro vs k hm h
  cases vs with
  | nil=>cases h
  | cons v vs=>
   simp only [nW] at h
   have hm1:eV w A Z (gR v=true):=hm.imp id fun ⟨a,b⟩=>⟨by simp only [List.all_cons,Bool.and_eq_true] at a;exact a.1,b⟩
   have hm2:eV w A Z (vs.all gR=true):=hm.imp id fun ⟨a,b⟩=>⟨by simp only [List.all_cons,Bool.and_eq_true] at a;exact a.2,b⟩
   obtain ⟨a,h1,h2,h3⟩:=CT hh hm1 h
   obtain ⟨b,h4,h5⟩:=ih hm2 h1
   refine ⟨a++b,h4,fun {xs} hf=>?_⟩
   cases hf with
   | cons hv ht=>
    refine .cons (h3 b hv) ?_
    have :bA p.n (a++b)=b:=by rw [iw,<-h2,List.drop_left]
    rw [this]
    exact h5 ht
end
end Go.DM
set_option linter.unusedSectionVars false
namespace Go.DM
def dN:∀(rs:List aK) (hp:Nat->aK) (nx i:Nat),(i<nx∨nx+rs.length<=i)->dH hp nx rs i=hp i
 | [],_,_,_,_=>rfl
 | r::rs,hp,nx,i,h=>by
  simp only [dH,List.length_cons] at *
  rw [dN rs _ _ _ (by omega),aI _ _ (by omega)]
def iH:∀(rs:List aK) (hp:Nat->aK) (nx j:Nat) (o:aK),rs[j]?=some o->dH hp nx rs (nx+j)=o
 | [],_,_,_,_,h=>by simp at h
 | r::rs,hp,nx,0,o,h=>by
  simp at h
  subst h
  simp only [dH]
  rw [dN rs _ _ _ (by omega)]
  exact aQ _ _ _
 | r::rs,hp,nx,j+1,o,h=>by
  simp at h
  simp only [dH]
  have:=iH rs (upd hp nx r) (nx+1) j o h
  rwa [show nx+1+j=nx+(j+1) by omega] at this
def yX {l:Lf}{x:L}{o:aK}(h:o∈wj l x):∃e xs,o=.row e xs:=by
 cases l with
 | fr e=>simp [wj] at h;exact ⟨_,_,h⟩
 | rd k=>simp [wj] at h
def tw:∀{q:List Lf} {ls:List L} {o:aK},o∈iK q ls->∃e xs,o=.row e xs
 | [],_,_,h=>by simp [iK] at h
 | l::q,ls,o,h=>by
  simp only [iK,List.mem_append] at h
  exact h.elim yX tw
def xA:∀{ps:List (Bool×List Lf)} {ls:List L} {o:aK},o∈kU ps ls->∃e xs,o=.row e xs
 | [],_,_,h=>by simp [kU] at h
 | (b,q)::ps,ls,o,h=>by
  simp only [kU,List.mem_append] at h
  exact h.elim tw xA
def RP.CP {p:RP}{ls:List L}{o:aK}(h:o∈p.R ls):∃e xs,o=.row e xs:=by
 cases p with
 | one l=>exact yX h
 | agg q=>exact tw h
 | gW ps=>exact xA h
 | zj _=>cases h
 | zc _ _=>cases h
 | cur _ _=>cases h
 | uq _=>cases h
def xT (l:Lf)(x:L)(nx:Nat)(k:V->List aK->aD):BA l x nx k=k (vA l x nx) (wj l x):=by cases l<;>rfl
def qC:∀(q:List Lf) (ls:List L) (nx:Nat) (k:List V->List aK->List L->aD),sZ q ls nx k=k (jN q ls nx) (iK q ls) (ls.drop q.length)
 | [],_,_,_=>rfl
 | l::q,ls,nx,k=>by
  simp only [sZ,xT,qC q,jN,iK,List.length_cons]
  cases ls<;>simp
def uK:∀(ps:List (Bool×List Lf)) (ls:List L) (nx:Nat) (k:List V->List aK->aD),vo ps ls nx k=k (jI ps ls nx) (kU ps ls)
 | [],_,_,_=>rfl
 | (b,q)::ps,ls,nx,k=>by simp only [vo,qC,uK ps,jI,kU]
def kI (p:RP)(ls:List L)(nx:Nat)(k:V->List aK->aD):Ap p ls nx k=k (p.V ls nx) (p.R ls):=by
 cases p with
 | one l=>exact xT _ _ _ _
 | agg q=>simp only [Ap,qC];rfl
 | gW ps=>simp only [Ap,uK];rfl
 | zj _=>rfl
 | zc _ _=>rfl
 | cur _ _=>rfl
 | uq _=>rfl
def cD.join (A A':cD)(nx n:Nat):cD:=
  { v:=fun i=>if nx<=i/\i<nx+n then A'.v (i - nx) else A.v i
    N:=fun i=>if nx<=i/\i<nx+n then A'.N (i - nx) else A.N i
    al:=fun i=>A.al i∨(nx<=i/\i<nx+n)
    Z:=A.Z }
section
variable {T:Nat->List K} {w0 w w':World} {np:Nat} {M:Mem np} {A A':cD} {hp:Nat->aK} {nx:Nat} {rs:List aK}
theorem ux (hh:Hp T w0 M A hp w)(hn:∀r,nx<=r->r<nx+rs.length->¬A.al r)(hf:Fr w w' (fun _=>False))
  (hh':Hp T w El A' (dH (fun _=>.dead) 0 rs) w'):Step A (A.join A' nx rs.length) w w' (fun _=>False):=by
 have hout:∀r,A.al r->¬(nx<=r/\r<nx+rs.length):=fun r ha h=>hn r h.1 h.2 ha
 refine ⟨rfl,fun r h=>.inl h,fun r h=>if_neg (hout r h),hf.size,fun b hb _=>hf.block b hb (fun h=>h),fun r h _ b=>?_,fun r b h hN=>?_⟩
 ·simp only [cD.join,if_neg (hout r h)]
 ·right
  simp only [cD.join] at hN
  split at hN
  ·rcases hh'.nm _ _ hN with h' | h'
   ·exact h'.elim
   ·exact h'
  ·rcases h with h | h
   ·exact h.elim
   ·exact (h (hh.xd hN)).elim
theorem BU (hh:Hp T w0 M A hp w)(hn:∀r,nx<=r->r<nx+rs.length->¬A.al r)(hf:Fr w w' (fun _=>False))
  (hrow:∀o∈rs,∃e xs,o=.row e xs) (hh':Hp T w El A' (dH (fun _=>.dead) 0 rs) w'):Hp T w0 M (A.join A' nx rs.length) (dH hp nx rs) w':=by
 have st:=ux hh hn hf hh'
 have fresh:∀j b,A'.N j b->w.heap.size<=b:=fun j b h=>(hh'.nm j b h).resolve_left (fun h=>h)
 refine ⟨fun r b h=>?_,fun r q b h h'=>?_,fun r h=>?_,fun r=>?_,hh.fr.trans hf (fun x h=>h.elim),fun r b h=>?_,hh.zf,fun j hj=>⟨.inl (hh.pn j hj).1,(st.v j (hh.pn j hj).1).trans (hh.pn j hj).2⟩⟩
 ·simp only [cD.join] at h
  split at h
  ·exact hh'.lt _ _ h
  ·exact Nat.lt_of_lt_of_le (hh.lt r b h) hf.size
 ·simp only [cD.join] at h h'
  split at h<;>split at h'
  ·rename_i h1 h2
   have:=hh'.dj _ _ _ h h'
   omega
  ·have:=fresh _ _ h;have:=hh.lt _ _ h';omega
  ·have:=fresh _ _ h';have:=hh.lt _ _ h;omega
  ·exact hh.dj _ _ _ h h'
 ·have h1:¬A.al r:=fun h'=>h (.inl h')
  have h2:¬(nx<=r/\r<nx+rs.length):=fun h'=>h (.inr h')
  rw [dN _ _ _ _ (by omega)]
  exact hh.al r h1
 ·by_cases hr:nx<=r/\r<nx+rs.length
  ·obtain ⟨o,ho⟩:∃o,rs[r - nx]?=some o:=⟨rs[r - nx]'(by omega),List.getElem?_eq_getElem (by omega)⟩
   have e1:=iH rs hp nx _ _ ho
   rw [show nx+(r - nx)=r by omega] at e1
   rw [e1]
   obtain ⟨e,xs,rfl⟩:=hrow o (List.mem_of_getElem? ho)
   have e2:=hh'.rt (r - nx)
   have e3:=iH rs (fun _=>.dead) 0 _ _ ho
   rw [Nat.zero_add] at e3
   rw [e3] at e2
   refine ⟨.inr hr,?_⟩
   simp only [cD.join,if_pos hr]
   exact e2.2
  ·rw [dN _ _ _ _ (by omega)]
   refine (hh.rt r).step st hh (fun h=>h) (fun hd=>.inr fun b hb=>?_) (fun cs _ v _=>?_)
   ·simp only [cD.join,if_neg hr] at hb
    have:=hh.rt r;rw [hd] at this;exact this b hb
   ·cases v with
    | sl d=>cases d<;>simp [indep]
    | cS d=>cases d<;>simp [indep]
    | gm=>exact id
    | _=>trivial
 ·simp only [cD.join] at h
  split at h
  ·exact .inr (Nat.le_trans hh.fr.size (fresh _ _ h))
  ·exact hh.nm r b h
variable (hal:∀i,A'.al i↔i<rs.length)
include hal
theorem rR {l:Lf}{x:L}{y:Value}{j:Nat}(hz:l.view=true->∀b,eo w' A' b->eo w' (A.join A' nx rs.length) b)(h:V0 T w' A' (vA l x j) y):V0 T w' (A.join A' nx rs.length) (vA l x (nx+j)) y:=by
 cases l with
 | fr e=>
  obtain ⟨h1,h2,h3⟩:=(show V0 T w' A' (.own j) y from h)
  have hj:=(hal j).1 h1
  have hc:nx<=nx+j/\nx+j<nx+rs.length:=by omega
  refine (show V0 T w' _ (.own (nx+j)) y from ⟨.inr hc,?_,h3⟩)
  simp only [cD.join,if_pos hc,Nat.add_sub_cancel_left]
  exact h2
 | rd k=>
  cases k with
  | sl e=>exact ⟨(fun r hr=>nomatch hr),h.2.mono (hz rfl)⟩
  | _=>exact h
theorem pV:∀{q:List Lf} {ls:List L} {ys:List Value} {j:Nat},(q.any Lf.view=true->∀b,eo w' A' b->eo w' (A.join A' nx rs.length) b)->F2 (Vc T w' A') (jN q ls j) ys->F2 (Vc T w' (A.join A' nx rs.length)) (jN q ls (nx+j)) ys
 | [],_,_,_,_,h=>by cases h;exact .nil
 | l::q,ls,_,j,hz,h=>by
  cases h with
  | cons h1 h2=>
   refine .cons ⟨rR hal (fun hv=>hz (by simp [hv])) h1.1,h1.2⟩ ?_
   have:=pV (q:=q) (fun hv=>hz (by simp only [List.any_cons,hv,Bool.or_true])) h2
   rwa [<-Nat.add_assoc] at this
theorem sq:∀{ps:List (Bool×List Lf)} {ls:List L} {ys:List Value} {j:Nat},(∀p∈ps,p.1=false->p.2.length=1)->((ps.any fun p=>p.2.any Lf.view)=true->∀b,eo w' A' b->eo w' (A.join A' nx rs.length) b)->
  F2 (V1 T w' A') (jI ps ls j) ys->F2 (V1 T w' (A.join A' nx rs.length)) (jI ps ls (nx+j)) ys
 | [],_,_,_,_,_,h=>by cases h;exact .nil
 | (b,q)::ps,ls,_,j,h1q,hz,h=>by
  cases h with
  | cons h1 h2=>
   refine .cons ?_ ?_
   ·cases b with
    | true=>
     obtain ⟨l,e1,e2⟩:=(show V1 T w' A' (.agg (jN q ls j)) _ from h1)
     exact (show V1 T w' _ (.agg (jN q ls (nx+j))) _ from ⟨l,e1,pV hal (fun hv=>hz (by simp [hv])) e2⟩)
    | false=>
     have hl:=h1q (false,q) (by simp) rfl
     match q,hl with
     | [l],_=>
      have h1':V1 T w' A' (vA l (ls.headD .hole) j) _:=h1
      have hv0:∀{A':cD} {y:Value} {i:Nat},V1 T w' A' (vA l (ls.headD .hole) i) y->V0 T w' A' (vA l (ls.headD .hole) i) y:=by
       intro A' y i h
       cases l with
       | fr e=>exact h
       | rd k=>cases k<;>exact h
      exact V0.v1 (rR hal (fun hv=>hz (by simp [hv])) (hv0 h1'))
   ·have:=sq (ps:=ps) (fun p hp=>h1q p (by simp [hp])) (fun hv=>hz (by simp only [List.any_cons,hv,Bool.or_true])) h2
    rwa [<-Nat.add_assoc] at this
theorem AY {p:RP}{ls:List L}{y:Value}(hok:p.ok=true)(hz:p.view=true->∀b,eo w' A' b->eo w' (A.join A' nx rs.length) b)(h:V2 T w' A' (p.V ls 0) y):V2 T w' (A.join A' nx rs.length) (p.V ls nx) y:=by
 cases p with
 | one l=>
  have hv0:∀{A':cD} {y:Value} {i:Nat},V2 T w' A' (vA l (ls.headD .hole) i) y->V0 T w' A' (vA l (ls.headD .hole) i) y:=by
   intro A' y i h
   cases l with
   | fr e=>exact h
   | rd k=>cases k<;>exact h
  exact V0.v2 (rR hal hz (hv0 h))
 | agg q=>
  obtain ⟨l,e1,e2⟩:=(show V1 T w' A' (.agg (jN q ls 0)) y from h)
  exact V1.v2 (v:=.agg _) ⟨l,e1,pV (j:=0) hal hz e2⟩
 | gW ps=>
  obtain ⟨l,e1,e2⟩:=(show V2 T w' A' (.gW (jI ps ls 0)) y from h)
  exact (show V2 T w' _ (.gW (jI ps ls nx)) y from ⟨l,e1,sq (j:=0) hal (fun p hp hf=>by
   have:=List.all_eq_true.1 hok p hp
   simpa [hf] using this) hz e2⟩)
 | zj _=>cases hok
 | zc _ _=>cases hok
 | cur _ _=>cases hok
 | uq _=>cases hok
end
section
variable {P:Program} {E:Env} {w0 w:World} {np:Nat} {M:Mem np} {A:cD} {hp:Nat->aK} {o:Oper} {a:Act} {nx:Nat} {ρ:Operand->V} {k:V->List aK->aD} {ans:List L}
theorem sG {vs:List V}:∀{cs:List gj},nU E hp nx vs k cs=some ans->∃c∈cs,(c.res.view=true->vs.all gR=true)/\∃k',nW E hp c.args vs k'=some ans/\∀ls,k' ls=(c.sem ls).bind fun r=>Ap c.res r nx k
 | [],h=>by cases h
 | c::cs,h=>by
  simp only [nU] at h
  cases hc:pR c.args vs<;>simp only [hc,aO,aR] at h
  ·obtain ⟨c',h1,h2⟩:=sG h
   exact ⟨c',by simp [h1],h2⟩
  ·cases hv:(c.res.view&&!vs.all gR)<;>simp only [hv,aO,aR] at h
   ·refine ⟨c,by simp,fun hv'=>?_,_,h,fun ls=>rfl⟩
    rw [hv'] at hv
    simpa using hv
   ·cases h
theorem F2.Dk {α β γ:Type}{R:β->γ->Prop}{f:α->β}{g:α->γ}{l:List α}(h:∀a∈l,R (f a) (g a)):F2 R (l.map f) (l.map g):=by
 induction l with
 | nil=>exact .nil
 | cons a l ih=>exact .cons (h a (by simp)) (ih fun b hb=>h b (by simp [hb]))
theorem C3 (hG:∀g c,c∈E.G g->Valid P E g c)(hh:Hp E.cells w0 M A hp w)(ha:∀x,V2 E.cells w A (ρ x) (a.eval x)){f:Operand}{args:Array Operand}{ts:Array TypeId}
  (ho:o.op=.call { callee:=.value f,args,argTypes:=ts }) {g:FuncId} {caps:List V} (hf:ρ f=.fn g caps) (h:nU E hp nx (args.toList.map ρ++caps) k (E.G g)=some ans):fN P E w0 M o a w A hp nx k ans:=by
 have hfv:=ha f
 rw [hf] at hfv
 obtain ⟨cl,e1,e2⟩:=(show V1 E.cells w A (.fn g caps) (a.eval f) from hfv)
 obtain ⟨c,hc,hview,k',h1,h2⟩:=sG h
 obtain ⟨hent,hok,hcall⟩:=hG g c hc
 have hargs:F2 (V2 E.cells w A) (args.toList.map ρ++caps) (args.toList.map a.eval++cl):=(F2.Dk fun x _=>ha x).append (e2.mono fun v x hv=>V0.v2 hv)
 have hZ:∃Z,eV w A Z ((args.toList.map ρ++caps).all gR=true)/\(c.res.view=true->Z=eo w A):=by
  by_cases hv:c.res.view=true
  ·exact ⟨eo w A,.inr ⟨hview hv,fun b hb=>hb⟩,fun _=>rfl⟩
  ·exact ⟨rI w A,.inl fun b hb=>hb,fun h=>absurd h hv⟩
 obtain ⟨Z,hm,hZv⟩:=hZ
 obtain ⟨ls,h3,h4⟩:=AV hh hm h1
 rw [h2] at h3
 cases hs:c.sem ls with
 | none=>rw [hs] at h3;cases h3
 | some r=>
  rw [hs] at h3
  simp only [Option.bind_some] at h3
  rw [kI] at h3
  refine ⟨_,_,h3,fun hn K Q hK=>?_⟩
  have hrun:(execOp a.eval o).run P w=.ok (.enter g (args.toList.map a.eval++cl).toArray) w:=by
   obtain ⟨fn,g1,g2,g3⟩:=hent
   have :(args.map a.eval++cl.toArray)=(args.toList.map a.eval++cl).toArray:=by
    cases args;simp
   have g2' : fn.name ≠ "runtime.NumGoroutine" := by simpa using g2
   have g3':fn.body≠none:=fun h=>by simp [h] at g3
   simp [execOp,ho,resolve,e1,Deferred.ofValue,invoke,callFunc,g1,g2',g3',this]
  unfold Oper.wp
  rw [hrun]
  refine (hcall ls r w _ Z hs (h4 hargs)).mono fun e w' hpost=>?_
  obtain ⟨rv,A',rfl,hfr,hZ',hal,hh',hres⟩:=hpost
  refine hK rv w' (A.join A' nx (c.res.R r).length) (BU hh hn hfr (fun o ho=>RP.CP ho) hh') (ux hh hn hfr hh') (AY hal hok (fun hv b hb=>?_) hres) (fun q h=>h)
  obtain ⟨b1,b2,b3⟩:=hb
  rw [hZ'] at b1
  refine ⟨?_,b2,fun q hq=>?_⟩
  ·rcases b1 with b1 | b1
   ·rw [hZv hv] at b1;exact b1.1
   ·exact hh.zf b (.inr (Nat.le_trans hh.fr.size b1))
  ·simp only [cD.join] at hq
   split at hq
   ·exact b3 _ hq
   ·rcases b1 with b1 | b1
    ·rw [hZv hv] at b1;exact b1.2.2 _ hq
    ·have:=hh.lt _ _ hq;omega
end
end Go.DM
set_option linter.unusedSectionVars false
namespace Go.DM
section
variable {P:Program} {E:Env} {w0 w:World} {np:Nat} {M:Mem np} {A:cD} {hp:Nat->aK} {o:Oper} {a:Act} {nx:Nat} {ρ:Operand->V} {k:V->List aK->aD} {ans:List L}
theorem ef.fresh {P:Program}{E:Env}{w0 w w':World}{np:Nat}{M:Mem np}{A:cD}{hp:Nat->aK}{o:Oper}{a:Act}{nx:Nat}{v:V}(hh:Hp E.cells w0 M A hp w){cv x:Value}{r:aK}(S:Nat->Prop)(hr:(execOp a.eval o).run P w=.ok (.value cv) w')
  (hS:∀b,S b->w.heap.size<=b/\b<w'.heap.size) (hsz:w.heap.size<=w'.heap.size) (hb:∀b,b<w.heap.size->w'.heap[b]?=w.heap[b]?) (hf:Fr w0 w' M)
  (hv:¬A.al nx->V2 E.cells w' (A.new nx x S) v cv) (ho:¬A.al nx->dB E.cells w' (A.new nx x S) nx r):ef P E.cells w0 M o a w A hp nx v [r]:=by
 intro hnx K Q hK
 have ha:¬A.al nx:=hnx nx (Nat.le_refl _) (by simp)
 have st:=Step.nY (w':=w') hh ha x S (fun b h=>(hS b h).1) hsz hb
 unfold Oper.wp
 rw [hr]
 refine hK cv _ (A.new nx x S) (Hp.nY hh ha x S hS hsz hb hf (ho ha)) st (hv ha) fun q h=>?_
 rcases h with h | h
 ·exact .inl h
 ·exact .inr (by subst h;simp)
theorem vg {T:Nat->List K}{w w':World}{Z S:Nat->Prop}{ks:List K}(hp:dS ks=true){j:Nat}{k:K}(hj:ks[j]?=some k){v:Value}{l:L}(h:Rd T w Z k v l):fQ T w' S k v l:=
 h.plain fun e he=>by subst he;exact jR hp hj
theorem wv (hT:∀t i,E.T t=some i->fX P E t i)(hh:Hp E.cells w0 M A hp w)(ha:∀x,V2 E.cells w A (ρ x) (a.eval x)){x y:Operand}{t el:TypeId}
  (ho:o.op=.call { callee:=.builtin .append,args:=#[x,y],argTypes:=#[t,t] }) (hel:(E.T t).bind TI.el=some el) (hpl:dS (E.cells el)=true) (hx:ρ x=.nil) {Z:Nat->Prop} {ys:aq}
  (hy:Rd E.cells w Z (.sl el) (a.eval y) (.sl ys)) (hb:(ys.length:Int)*E.bytes el<=140737488355328):ef P E.cells w0 M o a w A hp nx (.own nx) [.row el ys]:=by
 obtain ⟨hu,ie,hie⟩:=iS hT hh ha hel
 obtain ⟨ii,d',z,k1,k2,k3,k4,k5,k6,kby,k7,k8,k9,k10,kpl,k11,k12,tX,tU,k15⟩:=hT el ie hie
 have hsz:ii.size=(E.cells el).length:=by simp [Env.cells,hie,k4]
 have hbt:E.bytes el=ii.bytes:=by simp [Env.bytes,hie,k5]
 have hzc:z.cells.size=ii.size:=by rw [<-Array.length_toList,k7];simp [k4]
 have hszp:0<(E.cells el).length:=by omega
 have hx2:=ha x
 rw [hx] at hx2
 obtain ⟨base,hxe⟩:=(show V0 E.cells w A .nil (a.eval x) from hx2)
 obtain ⟨base',m,c',hye,hyl,hmc,hin⟩:=hy.inv
 have hyl':ys.length=m:=hyl
 have hcall:∀{v:Value} {w':World},(Builtin.append_ #[t,t] o.type #[a.eval x,a.eval y]).run P w=.ok v w'->(execOp a.eval o).run P w=.ok (.value v) w':=by
  intro v w' h
  simp [execOp,ho,resolve,invoke,builtin,h]
 rcases Nat.eq_zero_or_pos m with hm | hm
 ·have hyn:ys=[]:=List.eq_nil_of_length_eq_zero (by rw [hyl',hm])
  subst hyn
  have hS:Src P ii.size t (a.eval y) 0 [] w:=by
   rw [hye,hm]
   cases base' with
   | none=>exact Src.ofNil w hu c'
   | some b=>exact Src.ofSlice w hu b 0 c' [] (by simp) (fun j u hj=>by simp at hj) (fun u hu=>by cases hu)
  have hrun:(execOp a.eval o).run P w=.ok (.value (.slice base 0 0)) w:=by
   refine hcall ?_
   rw [hxe]
   exact run_append_nothing w t t o.type el ii hu k1 base 0 0 (Nat.le_refl _) (a.eval y) hS
  refine ef.fresh hh (x:=.slice base 0 0) (fun _=>False) hrun (fun b h=>h.elim) (Nat.le_refl _) (fun _ _=>rfl) hh.fr (fun hn=>?_) (fun hn=>?_)
  ·exact V0.v2 (v:=.own nx) ⟨.inr rfl,(aQ _ _ _).symm,_,_,_,rfl⟩
  ·refine ⟨.inr rfl,?_⟩
   have hv:(A.new nx (.slice base 0 0) (fun _=>False)).v nx=.slice base 0 0:=aQ _ _ _
   rw [hv]
   exact .nil _ el base _ rfl
 ·obtain ⟨b,q,vv,rfl,hZ,hv1,hv2⟩:=hin hm
  have hbn:m*ii.bytes<=140737488355328:=by
   have h2:((m*ii.bytes:Nat):Int)<=140737488355328:=by rw [Int.natCast_mul,<-hyl',<-hbt];exact hb
   exact Int.ofNat_le.mp h2
  have hbp:0<ii.bytes:=by omega
  have hnm:m<=140737488355328:=Nat.le_trans (Nat.le_mul_of_pos_right _ hbp) hbn
  have hgr:∀p u,((List.range (m*(E.cells el).length)).map (fun p=>vv (p / (E.cells el).length) (p % (E.cells el).length)))[p]?=some u->p / (E.cells el).length<m/\p % (E.cells el).length<(E.cells el).length/\u=vv (p / (E.cells el).length) (p % (E.cells el).length)/\p=p / (E.cells el).length*(E.cells el).length+p % (E.cells el).length:=by
   intro p u h
   rw [List.getElem?_map] at h
   have hlt:p<m*(E.cells el).length:=by
    rcases Nat.lt_or_ge p (m*(E.cells el).length) with h' | h'
    ·exact h'
    ·rw [List.getElem?_eq_none (by simpa using h')] at h;cases h
   rw [List.getElem?_range hlt] at h
   simp at h
   exact ⟨Nat.div_lt_of_lt_mul (by rw [Nat.mul_comm];exact hlt),Nat.mod_lt _ hszp,h.symm,by rw [Nat.mul_comm];exact (Nat.div_add_mod p _).symm⟩
  have hget:∀p u,((List.range (m*(E.cells el).length)).map (fun p=>vv (p / (E.cells el).length) (p % (E.cells el).length)))[p]?=some u->w.cell? ⟨b,q+p,none⟩=some u/\u.oneCell'=true:=by
   intro p u hp'
   obtain ⟨g1,g2,g3,g4⟩:=hgr p u hp'
   have hkk:(E.cells el)[p % (E.cells el).length]?=some (E.cells el)[p % (E.cells el).length]:=List.getElem?_eq_getElem g2
   refine ⟨?_,?_⟩
   ·have:=hv1 _ _ _ g1 hkk
    rw [g3];rw [<-g4] at this;exact this
   ·rw [g3];exact (hv2 _ _ _ g1 hkk).one
  have hS:Src P ii.size t (a.eval y) m ((List.range (m*(E.cells el).length)).map (fun p=>vv (p / (E.cells el).length) (p % (E.cells el).length))) w:=by
   rw [hye]
   exact Src.ofSlice w hu ⟨b,q,none⟩ m c' _ (by simp [hsz]) (fun j u hj=>by rw [Addr.add_lit];exact (hget j u hj).1) (fun u hu=>by
    obtain ⟨p,hp⟩:=List.getElem?_of_mem hu
    exact (hget p u hp).2)
  have hold:(Builtin.firstCells ii.size 0 (.slice base 0 0)).run P w.drew=.ok ([]:List Value).toArray w.drew:=by
   cases base with
   | none=>exact run_firstCells_none _ _ _ _ _
   | some b=>exact run_firstCells_some _ _ _ _ _ _ [] (by simp) (fun j v hj=>by simp at hj)
  have hrun:=run_append_grow_src (P:=P) w t t o.type el ii z hu k1 k3 base 0 0 [] hold (a.eval y) m _ hS (by omega) (by omega) (growslice_fits (by omega) (by rw [Nat.zero_add];exact hbn))
  rw [Nat.zero_add,List.nil_append] at hrun
  have hge:=grownCap_ge w m 0 el
  have hle:grownCap w m 0 el<=maxLen:=grownCap_le_maxLen w m 0 el (by simp only [maxLen];omega)
  refine ef.fresh hh (x:=.slice (some ⟨w.heap.size,0,none⟩) m (grownCap w m 0 el)) (fun b=>b=w.heap.size) (hcall (by rw [hxe];exact hrun)) (fun b h=>by subst h;simp) (by simp) (fun b hb=>lJ w.drew _ b hb) ((hh.fr.drew).alloc _) (fun hn=>?_) (fun hn=>?_)
  ·exact V0.v2 (v:=.own nx) ⟨.inr rfl,(aQ _ _ _).symm,_,_,_,rfl⟩
  ·refine ⟨.inr rfl,?_⟩
   have hv:(A.new nx (.slice (some ⟨w.heap.size,0,none⟩) m (grownCap w m 0 el)) (fun b=>b=w.heap.size)).v nx=.slice (some ⟨w.heap.size,0,none⟩) m (grownCap w m 0 el):=aQ _ _ _
   have hN:(A.new nx (.slice (some ⟨w.heap.size,0,none⟩) m (grownCap w m 0 el)) (fun b=>b=w.heap.size)).N nx=(fun b=>b=w.heap.size):=aQ _ _ _
   rw [hv,hN]
   have hcell:∀i j kk,i<m->(E.cells el)[j]?=some kk->((List.range (m*(E.cells el).length)).map (fun p=>vv (p / (E.cells el).length) (p % (E.cells el).length)))[i*(E.cells el).length+j]?=some (vv i j):=by
    intro i j kk hi hj
    have hjl:=(List.getElem?_eq_some_iff.1 hj).1
    have hlt:i*(E.cells el).length+j<m*(E.cells el).length:=by
     calc i*(E.cells el).length+j<i*(E.cells el).length+(E.cells el).length:=by omega
      _=(i+1)*(E.cells el).length:=by rw [Nat.succ_mul]
      _<=m*(E.cells el).length:=Nat.mul_le_mul_right _ hi
    have h1:(i*(E.cells el).length+j) / (E.cells el).length=i:=by rw [Nat.mul_comm,Nat.mul_add_div hszp,Nat.div_eq_of_lt hjl,Nat.add_zero]
    have h2:(i*(E.cells el).length+j) % (E.cells el).length=j:=by rw [Nat.mul_comm,Nat.mul_add_mod,Nat.mod_eq_of_lt hjl]
    rw [List.getElem?_map,List.getElem?_range hlt]
    simp [h1,h2]
   refine .sl _ el m _ w.heap.size el _ (.sl ys) vv (fun _ _ _=>False) hyl hge hle (heap_alloc_new w.drew _) ?_ rfl (fun _ _ _ h=>h.elim) (fun _ _ _ _ _ h=>h.elim) (fun i j kk hi hj=>?_) (fun i j kk hi hj=>?_)
   ·simp only [Array.size_append,List.size_toArray,List.length_map,List.length_range,size_zeroCells,hzc,hsz,<-Nat.add_mul]
    congr 1
    omega
   ·have h1:=hcell i j kk hi hj
    have h2:=(List.getElem?_eq_some_iff.1 h1).1
    rw [<-Array.getElem?_toList]
    simp only [Array.toList_append]
    rw [List.getElem?_append_left h2];exact h1
   ·exact vg hpl hj (hv2 i j kk hi hj)
theorem kT (hT:∀t i,E.T t=some i->fX P E t i)(hG:∀g c,c∈E.G g->Valid P E g c)(hh:Hp E.cells w0 M A hp w)(ha:∀x,V2 E.cells w A (ρ x) (a.eval x))
  (h:aZ E o.op ρ hp nx k=some ans):fN P E w0 M o a w A hp nx k ans:=by
 cases hop:o.op<;>rw [hop] at h
 case move x=>exact A7 hh ha (.inl hop) h
 case assign x=>exact A7 hh ha (.inr hop) h
 case nilCheck x=>exact yA hh ha hop h
 case pick c x y=>exact Di hh ha hop h
 case alloc t=>exact Cz hT hh ha hop h
 case box t x=>exact D8 hT hh ha hop h
 case build t ps=>exact Ca hT hh ha hop h
 case buildSlice t n ps=>exact vE hT hh ha hop h
 case load t x=>exact Dg hT hh ha hop h
 case binOp op t x y ty=>exact Cq hT hh ha hop h
 case unOp op t x=>
  cases op
  case not=>exact Ee hh ha hop h
  case neg=>exact Ed hh ha hop h
  all_goals (simp only [aZ] at h;cases h)
 case makeFunc fn b caps=>
  cases fn
  case func f=>
   simp only [aZ] at h
   cases hb:(b.isEmpty&&(caps.toList.map ρ).all AF)<;>simp only [hb,aO,aR] at h
   ·cases h
   simp only [Bool.and_eq_true,List.all_map,List.all_eq_true,Function.comp_apply] at hb
   refine yB hh ha (b:=b) (by simpa using hb.1) hop (fun x hx=>?_) h
   have h1:=hb.2 x hx
   have h2:=ha x
   revert h1 h2
   cases ρ x<;>intro h1 h2<;>first | exact h2 | cases h1
  all_goals (simp only [aZ] at h;cases h)
 case makeSlice t x y=>exact xL hT hh ha hop h
 case fieldAddr t x f=>exact wS hT hh ha hop h
 case field t x f=>exact Cj hT hh ha hop h
 case indexAddr t x y=>exact xj hT hh ha hop h
 case index t x y=>
  have hs:TI.isStr (E.T t)=true:=by
   simp only [aZ] at h
   cases hs:TI.isStr (E.T t)<;>simp only [hs,Bool.not_true,Bool.not_false,aO,aR] at h
   ·cases h
   ·rfl
  exact BY hh ha hop (jd hT hh ha hs) h
 case extract x i=>exact Ao hh ha hop h
 case slice t x lo hi mx=>exact Cl hT hh ha hop h
 case convert s d x=>exact zU hT hh ha hop h
 case call c=>
  obtain ⟨callee,args,ats⟩:=c
  cases callee
  case value f=>
   simp only [aZ] at h
   split at h
   ·rename_i g caps hf
    exact C3 hG hh ha hop hf h
   ·cases h
  case builtin b=>
   cases b
   case len=>
    simp only [aZ] at h
    split at h
    ·rename_i x hx
     split at h
     ·rename_i u hu
      have hx':args=#[x]:=by cases args;simpa using hx
      have hu':ats=#[u]:=by cases ats;simpa using hu
      subst hx' hu'
      exact Ei hT hh ha hop h
     ·cases h
    ·cases h
   case append=>
    simp only [aZ] at h
    split at h
    ·rename_i x y hxy
     split at h
     ·rename_i t u htu
      have h1:args=#[x,y]:=by cases args;simp at hxy;subst hxy;rfl
      have h2:ats=#[t,u]:=by cases ats;simp at htu;subst htu;rfl
      subst h1;subst h2
      cases htu':Nat.beq t u<;>simp only [htu',aO,aR] at h
      ·cases h
      obtain rfl:=Nat.eq_of_beq_eq_true htu'
      split at h
      ·rename_i el hel
       cases hpl:dS (E.cells el)<;>simp only [hpl,aO,aR] at h
       ·cases h
       split at h
       ·rename_i hxn
        split at h
        ·rename_i hyn
         have hy:=ha y
         rw [hyn] at hy
         obtain ⟨A0,hye⟩:=(show V0 E.cells w A .nil (a.eval y) from hy)
         refine ⟨_,_,h,wv (Z:=fun _=>True) hT hh ha hop hel hpl hxn (by rw [hye];exact .nil _ _ _ _ rfl) (by simp)⟩
        ·obtain ⟨dd,e,ys,q1,q2⟩:=iF hh h
         obtain ⟨q3,q4⟩:=q2 (ha y)
         cases he:(Nat.beq e el&&eK ((ys.length:Int)*E.bytes el))<;>simp only [he,aO,aR] at q1
         ·cases q1
         simp only [Bool.and_eq_true] at he
         obtain rfl:=Nat.eq_of_beq_eq_true he.1
         exact ⟨_,_,q1,wv hT hh ha hop hel hpl hxn q4 (vh.1 he.2)⟩
       ·cases h
      ·cases h
     ·cases h
    ·cases h
   case max=>
    simp only [aZ] at h
    split at h
    ·rename_i x y hx
     have hx':args=#[x,y]:=by cases args;simpa using hx
     subst hx'
     exact Eb hT hh ha hop h
    ·cases h
   case min=>
    simp only [aZ] at h
    split at h
    ·rename_i x y hx
     have hx':args=#[x,y]:=by cases args;simpa using hx
     subst hx'
     exact DO hT hh ha hop h
    ·cases h
   all_goals (simp only [aZ] at h;cases h)
  all_goals (simp only [aZ] at h;cases h)
 all_goals (simp only [aZ] at h;cases h)
end
end Go.DM
set_option linter.unusedSectionVars false
namespace Go.DM
def zT (hp hp':Nat->aK)(q:Nat):Prop:=hp q≠.dead/\hp' q=.dead
structure Mv (T:Nat->List K)(A A':cD)(w w':World)(hp hp':Nat->aK)(r:Option Nat)(m:Nat):Prop where
 st:Step A A' w w' (fun q=>r=some q∨zT hp hp' q)
 am:A'.al m
 gone:∀q b,zT hp hp' q->r≠some q->A.N q b->A'.N m b/\w'.heap[b]?=w.heap[b]?
 own:∀q e xs,r=some q->hp q=.row e xs->hp' q=.dead->Rd T w' (fG w' A' (some m)) (.sl e) (A.v q) (.sl xs)
section
variable {T:Nat->List K} {w0 w w':World} {np:Nat} {M:Mem np} {A A':cD} {hp hp':Nat->aK} {r:Option Nat} {m:Nat}
def CO (r:Option Nat)(q:Nat):Bool:=match r with | some r=>Nat.beq q r | none=>false
theorem Mv.iA (h:Mv T A A' w w' hp hp' r m)(hh:Hp T w0 M A hp w){q:Nat}(hd:hp' q=.dead)(hr:r≠some q){b:Nat}(hb:fG w A (some q) b) :
  fG w' A' (some m) b/\w'.heap[b]?=w.heap[b]?:=by
 rcases hb with hb | hb
 ·have hg:zT hp hp' q:=⟨fun hn=>by have:=hh.rt q;rw [hn] at this;exact this b hb,hd⟩
  exact ⟨.inl (h.gone q b hg hr hb).1,(h.gone q b hg hr hb).2⟩
 ·exact ⟨.inr (h.st.tV hh hb).1,(h.st.tV hh hb).2⟩
theorem qG {q:Nat}(h:CO r q=false):r≠some q:=by
 rintro rfl
 simp [CO] at h
theorem Bf (q e:Nat)(xs:aq):nw hp hp' r m (.sl (some q) e xs)=bif CO r q then .dead else match hp' q with | .dead=>.sl (some m) e xs | _=>.sl (some q) e xs:=rfl
theorem yK (q:Nat)(a:List K)(b:List L)(c:Nat):nw hp hp' r m (.cS (some q) a b c)=bif CO r q then .dead else match hp' q with | .dead=>.cS (some m) a b c | _=>.cS (some q) a b c:=rfl
theorem zP (q a b c d:Nat):nw hp hp' r m (.gm q a b c d)=bif CO r q then .dead else match hp' q with | .dead=>.dead | _=>.gm q a b c d:=rfl
theorem V0.move (h:Mv T A A' w w' hp hp' r m)(hh:Hp T w0 M A hp w){v:V}{x:Value}(hv:V0 T w A v x):V0 T w' A' (nw hp hp' r m v) x:=by
 cases v with
 | undef=>exact hv
 | dead=>exact hv
 | int=>exact hv
 | bool=>exact hv
 | str=>exact hv
 | nil=>exact hv
 | lit q n e=>exact V0.step (v:=.lit q n e) h.st hh hv trivial
 | bP q o=>exact V0.step (v:=.bP q o) h.st hh hv trivial
 | fM q sz i o=>exact V0.step (v:=.fM q sz i o) h.st hh hv trivial
 | gm q sz i o e=>
  rw [zP]
  cases hr:CO r q with
  | true=>exact trivial
  | false=>
   have hr':=qG hr
   simp only [aR]
   split
   ·exact trivial
   ·rename_i hd
    exact V0.step (v:=.gm q sz i o e) h.st hh hv (fun hc=>hc.elim hr' (fun hg=>hd hg.2))
 | fn=>exact hv.elim
 | agg=>exact hv.elim
 | gW=>exact hv.elim
 | own q=>
  have same:V0 T w' A' (.own q) x:=V0.step (v:=.own q) h.st hh hv trivial
  simp only [nw]
  split
  ·rename_i hd
   split
   ·rename_i e xs hrow
    refine ⟨fun p hp=>by injection hp with hp;subst hp;exact h.am,?_⟩
    rw [hv.2.1]
    have hroot:=hh.rt q
    rw [hrow] at hroot
    by_cases hr:r=some q
    ·exact h.own q e xs hr hrow hd
    ·exact (hroot.2.rd.frame (w':=w') fun b hb=>(h.iA hh hd hr (.inl hb)).2).mono fun b hb=>(h.iA hh hd hr (.inl hb)).1
   ·exact same
  ·exact same
 | sl d e xs=>
  cases d with
  | none=>exact V0.step (v:=.sl none e xs) h.st hh hv trivial
  | some q=>
   rw [Bf]
   cases hr:CO r q with
   | true=>exact trivial
   | false=>
    have hr':=qG hr
    simp only [aR]
    split
    ·rename_i hd
     exact ⟨fun p hp=>by injection hp with hp;subst hp;exact h.am,(hv.2.frame (w':=w') fun b hb=>(h.iA hh hd hr' hb).2).mono fun b hb=>(h.iA hh hd hr' hb).1⟩
    ·rename_i hd
     exact V0.step (v:=.sl (some q) e xs) h.st hh hv (fun hc=>hc.elim hr' (fun hg=>hd hg.2))
 | cS d es cells o=>
  cases d with
  | none=>exact V0.step (v:=.cS none es cells o) h.st hh hv trivial
  | some q=>
   rw [yK]
   cases hr:CO r q with
   | true=>exact trivial
   | false=>
    have hr':=qG hr
    simp only [aR]
    split
    ·rename_i hd
     obtain ⟨ha,b,p,vv,h1,h2,h3⟩:=hv
     refine ⟨fun p hp=>by injection hp with hp;subst hp;exact h.am,b,p,vv,h1,(h.iA hh hd hr' h2).1,fun j k hj=>⟨?_,?_⟩⟩
     ·rw [World.cell?_of_block (h.iA hh hd hr' h2).2];exact (h3 j k hj).1
     ·exact ((h3 j k hj).2.frame (w':=w') fun b hb=>(h.iA hh hd hr' hb).2).mono fun b hb=>(h.iA hh hd hr' hb).1
    ·rename_i hd
     exact V0.step (v:=.cS (some q) es cells o) h.st hh hv (fun hc=>hc.elim hr' (fun hg=>hd hg.2))
theorem Vc.move (h:Mv T A A' w w' hp hp' r m)(hh:Hp T w0 M A hp w){v:V}{x:Value}(hv:Vc T w A v x):Vc T w' A' (nw hp hp' r m v) x:=⟨V0.move h hh hv.1,hv.2⟩
theorem oE (h:Mv T A A' w w' hp hp' r m)(hh:Hp T w0 M A hp w){cs:List V}{xs:List Value}(hf:F2 (Vc T w A) cs xs):F2 (Vc T w' A') (cs.map (nw hp hp' r m)) xs:=by
 induction hf with
 | nil=>exact .nil
 | cons hc _ ih=>exact .cons (hc.move h hh) ih
theorem V2.move (h:Mv T A A' w w' hp hp' r m)(hh:Hp T w0 M A hp w){v:V}{x:Value}(hv:V2 T w A v x):V2 T w' A' (AI hp hp' r m v) x:=by
 cases v with
 | gW vs=>exact trivial
 | fn f cs=>
  obtain ⟨l,rfl,hl⟩:=(show V1 T w A (.fn f cs) x from hv)
  refine V1.v2 (v:=.fn f _) ⟨l,rfl,?_⟩
  clear hv
  induction hl with
  | nil=>exact .nil
  | cons hc _ ih=>exact .cons (V0.move h hh hc) ih
 | agg cs=>obtain ⟨l,rfl,hl⟩:=hv;exact V1.v2 (v:=.agg _) ⟨l,rfl,oE h hh hl⟩
 | undef=>exact V0.v2 (V0.move (v:=.undef) h hh hv)
 | dead=>exact trivial
 | int k n=>exact V0.v2 (V0.move (v:=.int k n) h hh hv)
 | bool b=>exact V0.v2 (V0.move (v:=.bool b) h hh hv)
 | str s=>exact V0.v2 (V0.move (v:=.str s) h hh hv)
 | nil=>exact V0.v2 (V0.move (v:=.nil) h hh hv)
 | sl d e xs=>exact V0.v2 (V0.move (v:=.sl d e xs) h hh hv)
 | own q=>exact V0.v2 (V0.move (v:=.own q) h hh hv)
 | lit q n e=>exact V0.v2 (V0.move (v:=.lit q n e) h hh hv)
 | bP q o=>exact V0.v2 (V0.move (v:=.bP q o) h hh hv)
 | fM q sz i o=>exact V0.v2 (V0.move (v:=.fM q sz i o) h hh hv)
 | cS d es cs o=>exact V0.v2 (V0.move (v:=.cS d es cs o) h hh hv)
 | gm q sz i o e=>exact V0.v2 (V0.move (v:=.gm q sz i o e) h hh hv)
theorem dB.move (h:Mv T A A' w w' hp hp' r m)(hh:Hp T w0 M A hp w){q:Nat}(hr:r≠some q)(he:hp' q=hp q)(hN:hp q=.dead->∀b,¬A'.N q b) :
  dB T w' A' q (uk hp hp' r m (hp' q)):=by
 rw [he]
 have ho:=hh.rt q
 have hng:¬(r=some q∨zT hp hp' q):=fun hc=>hc.elim hr fun hg=>hg.1 (he ▸ hg.2)
 cases hq:hp q with
 | dead=>exact hN hq
 | box cs=>
  rw [hq] at ho
  obtain ⟨ha,g,te,cur,h1,h2,h3,h4⟩:=ho
  refine ⟨h.st.al q ha,g,te,cur,by rw [h.st.v q ha];exact h1,fun b=>(h.st.N q ha hng b).trans (h2 b),?_,oE h hh h4⟩
  rw [(h.st.root hh hng ((h2 g).2 rfl)).2];exact h3
 | row e xs=>
  rw [hq] at ho
  refine ⟨h.st.al q ho.1,?_⟩
  rw [h.st.v q ho.1]
  exact (ho.2.frame (w':=w') fun b hb=>(h.st.root hh hng hb).2).mono fun b hb=>(h.st.root hh hng hb).1
 | qt e xs j cs=>
  rw [hq] at ho
  refine ⟨h.st.al q ho.1,ho.2.1,?_⟩
  rw [h.st.v q ho.1]
  exact (ho.2.2.frame (w':=w') fun b hb=>(h.st.root hh hng hb).2).mono fun b hb=>(h.st.root hh hng hb).1
 | xW e xs j p=>
  rw [hq] at ho
  refine ⟨h.st.al q ho.1,ho.2.1,?_⟩
  rw [h.st.v q ho.1]
  exact ho.2.2.move (fun b hb=>(h.st.root hh hng hb).2) fun b hb=>(h.st.root hh hng hb).1
 | vw e xs=>
  rw [hq] at ho
  exact ho.vw h.st hh hng
end
structure fL (E:Env){np:Nat}(w0:World)(M:Mem np)(A:cD)(s:St)(a:Act)(w:World):Prop where
 hp:Hp E.cells w0 M A s.hp w
 tm:∀i x,a.tmps[i]?=some x->V2 E.cells w A (s.sl i) x
 nx:∀r,s.nx<=r->¬A.al r
 df:a.defers=[]
 sz:a.tmps.size=E.nt
 fr:F2 (V2 E.cells w A) s.fr M.sv
end Go.DM

end
