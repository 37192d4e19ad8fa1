/- A small machine over the translated code, and the proof that what it computes the code does. Conditions: none. -/
import Derived.Test.YtcepeleohipibaaGreatLResolvedDb
import Derived.Scope
import Derived.Laws.Sem
import Derived.Orders
set_option linter.all false
noncomputable section
set_option linter.unusedSectionVars false
namespace Go.DM
def oy (P:Program)(c:Code)(Q:Exit->Act->World->Prop)(a:Act)(w:World):Prop:=
 ∀(b:Frame) (k:List Item) (cs:List Frame),∃e a' w',Q e a' w'/\Arrives P (lone (b.at a (.code c::.inLoop c::k)) cs w) b k cs e a' w'
section
variable {P:Program} {Q:Exit->Act->World->Prop} {a:Act} {w:World} {c:Code}
theorem Cv (h:oy P c Q a w):(Code.loop c).wp P Q a w:=fun b k cs=>
 let ⟨e,a',w',hq,harr⟩:=h b k cs
 ⟨e,a',w',hq,.of_steps (.one step_loop) harr⟩
theorem yw (h:c.wp P (Exit.then (oy P c Q) Q) a w):oy P c Q a w:=by
 intro b k cs
 obtain ⟨e,a₁,w₁,hq,harr⟩:=h b (.inLoop c::k) cs
 cases e with
 | normal=>
  obtain ⟨e₂,a₂,w₂,hq₂,harr₂⟩:=hq b k cs
  exact ⟨e₂,a₂,w₂,hq₂,.of_steps (Steps.trans harr (.one step_inLoop)) harr₂⟩
 | exit id=>exact ⟨_,a₁,w₁,hq,.pass (x:=.inLoop c) rfl (fun _ _=>.inl (by simp)) harr⟩
 | goto l=>exact ⟨_,a₁,w₁,hq,.pass (x:=.inLoop c) rfl (fun _ _=>.inl (by simp)) harr⟩
 | ret=>exact ⟨_,a₁,w₁,hq,.pass (x:=.inLoop c) rfl (fun _ _=>.inl (by simp)) harr⟩
 | panic ch=>exact ⟨_,a₁,w₁,hq,.pass (x:=.inLoop c) rfl (fun _ _=>.inl (by simp)) harr⟩
 | outgrown=>exact ⟨_,a₁,w₁,hq,.pass (x:=.inLoop c) rfl (fun _ _=>.inl (by simp)) harr⟩
end
def Ex.ex:Ex->Exit
 | .normal=>.normal
 | .ret=>.ret
 | .exit id=>.exit id
def cq:Code->List Nat
 | .seq a b=>cq a++cq b
 | .cond _ a b=>cq a++cq b
 | .block _ b=>cq b
 | .loop b=>dF b::cq b
 | .scope a=>cq a
 | _=>[]
def fm {id:Nat}:∀{c:Code},dW id c=true↔id∈cq c
 | .seq a b=>by simp [dW,cq,fm (c:=a),fm (c:=b)]
 | .cond _ a b=>by simp [dW,cq,fm (c:=a),fm (c:=b)]
 | .block _ b=>by simp [dW,cq,fm (c:=b)]
 | .loop b=>by
  have :Nat.beq (dF b) id=true↔id=dF b:=⟨fun h=>(Nat.eq_of_beq_eq_true h).symm,fun h=>by subst h;exact Nat.beq_refl _⟩
  simp only [dW,cq,Bool.or_eq_true,List.mem_cons,fm (c:=b),this]
 | .skip=>by simp [dW,cq]
 | .region ..=>by simp [dW,cq]
 | .exit _=>by simp [dW,cq]
 | .ret=>by simp [dW,cq]
 | .rangeFunc ..=>by simp [dW,cq]
 | .scope a=>by simp [dW,cq,fm (c:=a)]
 | .label _=>by simp [dW,cq]
 | .goto _=>by simp [dW,cq]
 | .refuse _=>by simp [dW,cq]
section
variable (P:Program) (E:Env) (w0:World) (M:Mem E.np) (Z0:Nat->Prop) (ans:List L)
def Deep (R:Nat->(Act->World->Prop)->Prop):Code->(Exit->Act->World->Prop)->Prop
 | .seq x y,Q=>Deep R x (Exit.then (y.wp P Q) Q)/\Deep R y Q
 | .cond _ x y,Q=>Deep R x Q/\Deep R y Q
 | .block id b,Q=>Deep R b (Exit.inBlock id Q)
 | .loop b,Q=>R (dF b) (oy P b Q)/\Deep R b (Exit.then (oy P b Q) Q)
 | .scope b,Q=>Deep R b (Exit.noGoto Q)
 | _,_=>True
def gP (id:Nat):Code->(Exit->Act->World->Prop)->Act->World->Prop
 | .seq x y,Q,a,w=>if dW id x=true then gP id x (Exit.then (y.wp P Q) Q) a w else gP id y Q a w
 | .cond _ x y,Q,a,w=>if dW id x=true then gP id x Q a w else gP id y Q a w
 | .block j b,Q,a,w=>gP id b (Exit.inBlock j Q) a w
 | .loop b,Q,a,w=>if Nat.beq (dF b) id=true then oy P b Q a w else gP id b (Exit.then (oy P b Q) Q) a w
 | .scope b,Q,a,w=>gP id b (Exit.noGoto Q) a w
 | _,_,_,_=>False
theorem Deep.mono {R R':Nat->(Act->World->Prop)->Prop}:∀{c:Code} {Q:Exit->Act->World->Prop},(∀id∈cq c,∀H,R id H->R' id H)->Deep P R c Q->Deep P R' c Q
 | .seq x y,Q,h,hd=>⟨Deep.mono (fun id hi=>h id (by simp [cq,hi])) hd.1,Deep.mono (fun id hi=>h id (by simp [cq,hi])) hd.2⟩
 | .cond _ x y,Q,h,hd=>⟨Deep.mono (fun id hi=>h id (by simp [cq,hi])) hd.1,Deep.mono (fun id hi=>h id (by simp [cq,hi])) hd.2⟩
 | .block id b,Q,h,hd=>Deep.mono (c:=b) (Q:=Exit.inBlock id Q) (fun id hi=>h id (by simpa [cq] using hi)) hd
 | .loop b,Q,h,hd=>⟨h _ (by simp [cq]) _ hd.1,Deep.mono (fun id hi=>h id (by simp [cq,hi])) hd.2⟩
 | .skip,_,_,_=>trivial
 | .region ..,_,_,_=>trivial
 | .exit _,_,_,_=>trivial
 | .ret,_,_,_=>trivial
 | .rangeFunc ..,_,_,_=>trivial
 | .scope b,Q,h,hd=>Deep.mono (c:=b) (Q:=Exit.noGoto Q) (fun id hi=>h id (by simpa [cq] using hi)) hd
 | .label _,_,_,_=>trivial
 | .goto _,_,_,_=>trivial
 | .refuse _,_,_,_=>trivial
theorem gM:∀{c:Code} {Q:Exit->Act->World->Prop},(cq c).Nodup->Deep P (fun id H=>∀a w,gP P id c Q a w->H a w) c Q
 | .seq x y,Q,h=>by
  simp only [cq,List.nodup_append] at h
  refine ⟨Deep.mono P (fun id hi H hH a w hA=>hH a w ?_) (gM h.1),Deep.mono P (fun id hi H hH a w hA=>hH a w ?_) (gM h.2.1)⟩
  ·simp only [gP,fm.2 hi,if_true] at hA;exact hA
  ·have :¬dW id x=true:=fun hx=>h.2.2 id (fm.1 hx) id hi rfl
   simp only [gP,this,if_false] at hA;exact hA
 | .cond _ x y,Q,h=>by
  simp only [cq,List.nodup_append] at h
  refine ⟨Deep.mono P (fun id hi H hH a w hA=>hH a w ?_) (gM h.1),Deep.mono P (fun id hi H hH a w hA=>hH a w ?_) (gM h.2.1)⟩
  ·simp only [gP,fm.2 hi,if_true] at hA;exact hA
  ·have :¬dW id x=true:=fun hx=>h.2.2 id (fm.1 hx) id hi rfl
   simp only [gP,this,if_false] at hA;exact hA
 | .block j b,Q,h=>Deep.mono P (c:=b) (Q:=Exit.inBlock j Q) (fun id hi H hH a w hA=>hH a w hA) (gM (c:=b) (by simpa [cq] using h))
 | .loop b,Q,h=>by
  simp only [cq,List.nodup_cons] at h
  refine ⟨fun a w hA=>?_,Deep.mono P (fun id hi H hH a w hA=>hH a w ?_) (gM h.2)⟩
  ·simp only [gP,Nat.beq_refl,if_true] at hA;exact hA
  ·have :¬Nat.beq (dF b) id=true:=fun e=>h.1 (by rw [Nat.eq_of_beq_eq_true e];exact hi)
   simp only [gP,this,if_false] at hA;exact hA
 | .skip,_,_=>trivial
 | .region ..,_,_=>trivial
 | .exit _,_,_=>trivial
 | .ret,_,_=>trivial
 | .rangeFunc ..,_,_=>trivial
 | .scope b,Q,h=>Deep.mono P (c:=b) (Q:=Exit.noGoto Q) (fun id hi H hH a w hA=>hH a w hA) (gM (c:=b) (by simpa [cq] using h))
 | .label _,_,_=>trivial
 | .goto _,_,_=>trivial
 | .refuse _,_,_=>trivial
def At (s:St)(a:Act)(w:World):Prop:=∃A,fL E w0 M A s a w/\A.Z=Z0
def Fits (k:Cont)(Q:Exit->Act->World->Prop):Prop:=∀e s a w,k e s=some ans->At E w0 M Z0 s a w->Q e.ex a w
def qe (live:Nat->Live)(I:dD):Nat->(Act->World->Prop)->Prop:=fun id H=>∀vs h a w,I id vs h=some ans->At E w0 M Z0 (iT (live id) vs h) a w->H a w
def nJ:Prop:=∀(id:Nat) (ops:Array Oper) (s:St) (k:St->aD) (Q:Exit->Act->World->Prop) (a:Act) (w:World),
 vF E ops s k=some ans->At E w0 M Z0 s a w->(∀s' a' w',k s'=some ans->At E w0 M Z0 s' a' w'->Q .normal a' w')->(Code.region id ops true).wp P Q a w
variable {P E w0 M Z0 ans}
theorem Fits.seq {k:Cont}{Q:Exit->Act->World->Prop}{f:St->aD}{H:Act->World->Prop}(hk:Fits E w0 M Z0 ans k Q)(hf:∀s a w,f s=some ans->At E w0 M Z0 s a w->H a w):Fits E w0 M Z0 ans (AD f k) (Exit.then H Q):=by
 intro e s a w h hs
 cases e with
 | normal=>exact hf s a w h hs
 | ret=>exact hk .ret s a w h hs
 | exit j=>exact hk (.exit j) s a w h hs
theorem Fits.block {k:Cont}{Q:Exit->Act->World->Prop}{id:Nat}(hk:Fits E w0 M Z0 ans k Q):Fits E w0 M Z0 ans (vO id k) (Exit.inBlock id Q):=by
 intro e s a w h hs
 cases e with
 | normal=>exact hk .normal s a w h hs
 | ret=>exact hk .ret s a w h hs
 | exit j=>
  simp only [vO] at h
  show (if j=id then Q .normal a w else Q (.exit j) a w)
  cases hb:Nat.beq j id<;>simp only [hb,aO,aR] at h
  ·rw [if_neg (fun e=>by subst e;simp at hb)]
   exact hk (.exit j) s a w h hs
  ·rw [if_pos (Nat.eq_of_beq_eq_true hb)]
   exact hk .normal s a w h hs
theorem Fits.scope {k:Cont}{Q:Exit->Act->World->Prop}(hk:Fits E w0 M Z0 ans k Q):Fits E w0 M Z0 ans k (Exit.noGoto Q):=by
 intro e s a w h hs
 cases e with
 | normal=>exact hk .normal s a w h hs
 | ret=>exact hk .ret s a w h hs
 | exit j=>exact hk (.exit j) s a w h hs
theorem At.canon {s:St}{a:Act}{w:World}(h:At E w0 M Z0 s a w){live:Nat->Live}{I:dD}{id:Nat}{H:Act->World->Prop}(hI:qe E w0 M Z0 ans live I id H)
  (hc:canon E (live id) s (fun vs h=>I id vs h)=some ans):H a w:=by
 obtain ⟨A,sm,hz⟩:=h
 obtain ⟨vs,hs,A',h1,h2,h3⟩:=wI sm hc
 exact hI vs hs a w h1 ⟨A',h2,h3.trans hz⟩
variable (hT:∀t i,E.T t=some i->fX P E t i) (hG:∀g c,c∈E.G g->Valid P E g c) (hM:mG P E) (hD:nJ P E w0 M Z0 ans)
include hT hG hM hD
theorem fY {live:Nat->Live}{I:dD}:∀{c:Code} {Q:Exit->Act->World->Prop} {s:St} {k:Cont} {a:Act} {w:World},Deep P (qe E w0 M Z0 ans live I) c Q->Fits E w0 M Z0 ans k Q->
  gO E live I c s k=some ans->At E w0 M Z0 s a w->c.wp P Q a w
 | .skip,Q,s,k,a,w,_,hk,h,hs=>wp_skip (hk .normal s a w h hs)
 | .region id ops d,Q,s,k,a,w,_,hk,h,hs=>by
  simp only [gO] at h
  cases d with
  | true=>exact hD id ops s _ Q a w h hs fun s' a' w' h' hs'=>hk .normal s' a' w' h' hs'
  | false=>
   obtain ⟨A,sm,hz⟩:=hs
   exact wp_region_list (vU hT hG hM sm h fun s' a' w' A' h1 h2 h3=>hk .normal s' a' w' h1 ⟨A',h2,h3.trans hz⟩)
 | .seq x y,Q,s,k,a,w,hd,hk,h,hs=>
  wp_seq (fY hd.1 (hk.seq fun s a w h hs=>fY hd.2 hk h hs) h hs)
 | .cond c x y,Q,s,k,a,w,hd,hk,h,hs=>by
  simp only [gO] at h
  split at h
  ·rename_i t ht
   obtain ⟨A,sm,hz⟩:=hs
   have hc:=sm.ev c
   rw [ht] at hc
   have hc':a.eval c=.bool t:=hc
   have hkn:∀b,t=b->s.vI c b=s:=by
    rintro b rfl
    cases c with
    | tmp d=>simp only [St.vI];rw [tg (uA ht)]
    | _=>rfl
   cases t with
   | true=>rw [hkn true rfl] at h;exact wp_cond_true hc' (fY hd.1 hk h ⟨A,sm,hz⟩)
   | false=>rw [hkn false rfl] at h;exact wp_cond_false hc' (fY hd.2 hk h ⟨A,sm,hz⟩)
  ·cases h
 | .block id b,Q,s,k,a,w,hd,hk,h,hs=>wp_block (fY (c:=b) (Q:=Exit.inBlock id Q) hd hk.block h hs)
 | .loop b,Q,s,k,a,w,hd,hk,h,hs=>Cv (hs.canon hd.1 h)
 | .exit id,Q,s,k,a,w,_,hk,h,hs=>wp_exit (hk (.exit id) s a w h hs)
 | .ret,Q,s,k,a,w,_,hk,h,hs=>wp_ret (hk .ret s a w h hs)
 | .rangeFunc ..,_,_,_,_,_,_,_,h,_=>by cases h
 | .scope b,Q,s,k,a,w,hd,hk,h,hs=>wp_scope_straight (fY (c:=b) (Q:=Exit.noGoto Q) hd hk.scope h hs)
 | .label _,Q,s,k,a,w,_,hk,h,hs=>wp_label (hk .normal s a w h hs)
 | .goto _,_,_,_,_,_,_,_,h,_=>by cases h
 | .refuse _,_,_,_,_,_,_,_,h,_=>by cases h
theorem fT {live:Nat->Live}{I:dD}{id:Nat}:∀{c:Code} {Q:Exit->Act->World->Prop} {s:St} {k:Cont} {a:Act} {w:World},Deep P (qe E w0 M Z0 ans live I) c Q->Fits E w0 M Z0 ans k Q->
  dU E live I id c s k=some ans->At E w0 M Z0 s a w->gP P id c Q a w
 | .seq x y,Q,s,k,a,w,hd,hk,h,hs=>by
  simp only [dU] at h
  simp only [gP]
  cases hx:dW id x<;>simp only [hx,aO,aR] at h
  ·rw [if_neg (by simp)];exact fT hd.2 hk h hs
  ·rw [if_pos rfl];exact fT hd.1 (hk.seq fun s a w h hs=>fY hT hG hM hD hd.2 hk h hs) h hs
 | .cond _ x y,Q,s,k,a,w,hd,hk,h,hs=>by
  simp only [dU] at h
  simp only [gP]
  cases hx:dW id x<;>simp only [hx,aO,aR] at h
  ·rw [if_neg (by simp)];exact fT hd.2 hk h hs
  ·rw [if_pos rfl];exact fT hd.1 hk h hs
 | .block j b,Q,s,k,a,w,hd,hk,h,hs=>fT (c:=b) (Q:=Exit.inBlock j Q) hd hk.block h hs
 | .loop b,Q,s,k,a,w,hd,hk,h,hs=>by
  simp only [dU] at h
  simp only [gP]
  cases hb:Nat.beq (dF b) id<;>simp only [hb,aO,aR] at h
  ·rw [if_neg (by simp)]
   exact fT hd.2 (hk.seq fun s a w h hs=>hs.canon hd.1 h) h hs
  ·rw [if_pos rfl]
   obtain rfl:=Nat.eq_of_beq_eq_true hb
   exact yw (fY hT hG hM hD hd.2 (hk.seq fun s a w h hs=>hs.canon hd.1 h) h hs)
 | .skip,_,_,_,_,_,_,_,h,_=>by cases h
 | .region ..,_,_,_,_,_,_,_,h,_=>by cases h
 | .exit _,_,_,_,_,_,_,_,h,_=>by cases h
 | .ret,_,_,_,_,_,_,_,h,_=>by cases h
 | .rangeFunc ..,_,_,_,_,_,_,_,h,_=>by cases h
 | .scope b,Q,s,k,a,w,hd,hk,h,hs=>fT (c:=b) (Q:=Exit.noGoto Q) hd hk.scope h hs
 | .label _,_,_,_,_,_,_,_,h,_=>by cases h
 | .goto _,_,_,_,_,_,_,_,h,_=>by cases h
 | .refuse _,_,_,_,_,_,_,_,h,_=>by cases h
theorem qR {live:Nat->Live}{f:Func}{p:RP}{Q:Exit->Act->World->Prop}(hn:(cq (bL f)).Nodup)(hk:Fits E w0 M Z0 ans (dA E f p) Q):∀n,Deep P (qe E w0 M Z0 ans live (tK E live f p n)) (bL f) Q
 | 0=>Deep.mono P (fun id _ H _ vs h a w e _=>by cases e) (gM P hn)
 | n+1=>Deep.mono P (fun id _ H hH vs h a w e hs=>hH a w (fT hT hG hM hD (qR hn hk n) hk e hs)) (gM P hn)
theorem oQ {live:Nat->Live}{f:Func}{p:RP}{Q:Exit->Act->World->Prop}(hn:(cq (bL f)).Nodup)(hk:Fits E w0 M Z0 ans (dA E f p) Q){n:Nat}{s:St}{a:Act}{w:World}
  (h:eY E live f p n s=some ans) (hs:At E w0 M Z0 s a w):(bL f).wp P Q a w:=
 fY hT hG hM hD (qR hT hG hM hD hn hk n) hk h hs
end
end Go.DM
set_option linter.unusedSectionVars false
namespace Go.DM
def cD.out (A:cD)(rs:List (Option Nat))(vs:List Value):cD:=
  { v:=fun i=>vs.getD i Go.undef,N:=fun i b=>∃q,rs[i]?=some (some q)/\A.N q b,al:=fun i=>i<rs.length,Z:=A.Z }
def CL (rs:List (Option Nat)):Prop:=∀(i j q:Nat),rs[i]?=some (some q)->rs[j]?=some (some q)->i=j
def oX {α:Type}(big small:List α)(n:Nat):Prop:=∀(i:Nat) (x:α),small[i]?=some x->big[n+i]?=some x
def oX.left {α:Type}{big a b:List α}{n:Nat}(h:oX big (a++b) n):oX big a n:=fun i x hx=>h i x (by rw [List.getElem?_append_left (List.getElem?_eq_some_iff.1 hx).1];exact hx)
def oX.right {α:Type}{big a b:List α}{n:Nat}(h:oX big (a++b) n):oX big b (n+a.length):=fun i x hx=>by
 have:=h (a.length+i) x (by rw [List.getElem?_append_right (by omega),Nat.add_sub_cancel_left];exact hx)
 rwa [Nat.add_assoc]
def CL.append {hp hp1 hp2:Nat->aK}{a b:List (Option Nat)}(ha:CL a)(hb:CL b)(ta:fC hp hp1 (fun q=>some q∈a))(tb:fC hp1 hp2 (fun q=>some q∈b)):CL (a++b):=by
 intro i j q hi hj
 by_cases h1:i<a.length<;>by_cases h2:j<a.length
 ·rw [List.getElem?_append_left h1] at hi;rw [List.getElem?_append_left h2] at hj;exact ha i j q hi hj
 ·rw [List.getElem?_append_left h1] at hi;rw [List.getElem?_append_right (by omega)] at hj
  exact (ta.yQ tb (q:=q) (List.mem_of_getElem? hi) (List.mem_of_getElem? hj)).elim
 ·rw [List.getElem?_append_right (by omega)] at hi;rw [List.getElem?_append_left h2] at hj
  exact (ta.yQ tb (q:=q) (List.mem_of_getElem? hj) (List.mem_of_getElem? hi)).elim
 ·rw [List.getElem?_append_right (by omega)] at hi;rw [List.getElem?_append_right (by omega)] at hj
  have:=hb _ _ q hi hj
  omega
def fC.app {hp hp1 hp2:Nat->aK}{a b:List (Option Nat)}(ta:fC hp hp1 (fun q=>some q∈a))(tb:fC hp1 hp2 (fun q=>some q∈b)):fC hp hp2 (fun q=>some q∈a++b):=
 (ta.trans tb).congr fun q=>by simp
section
variable {T:Nat->List K} {w0 w:World} {np:Nat} {M:Mem np} {A:cD} {hp0:Nat->aK} {ans:List L}
def zI (nf:Bool)(w:World)(A A':cD):Prop:=(nf=true->∀b,rI w A b->eo w A' b)/\∀b,eo w A b->eo w A' b
theorem jT {hp:Nat->aK}{v:V}{k:L->aD}(h:jw hp v k=some ans):∃l,k l=some ans/\∀hp0,Sub hp hp0->∀k':L->aD,jw hp0 v k'=k' l:=by
 cases v<;>first | exact ⟨_,h,fun _ _ _=>rfl⟩ | skip
 case own r=>
  simp only [jw] at h
  split at h
  ·rename_i e xs hr
   refine ⟨_,h,fun hp0 hs k'=>?_⟩
   simp only [jw,hs.row hr (by simp)]
  ·rename_i e xs hr
   refine ⟨_,h,fun hp0 hs k'=>?_⟩
   simp only [jw,hs.row hr (by simp)]
  ·cases h
 all_goals cases h
theorem pQ {hp hp0:Nat->aK}{kk:K}{v:V}{k:L->aD}(hf:fits hp kk v=true)(h:jw hp v k=some ans)(hs:Sub hp hp0):fits hp0 kk v=true:=by
 cases v<;>first | exact hf | skip
 case own r=>
  simp only [jw] at h
  split at h
  ·rename_i e xs hr
   cases kk<;>first | cases hf | skip
   simp only [fits,hr] at hf
   simp only [fits,hs.row hr (by simp)]
   exact hf
  ·rename_i e xs hr
   cases kk<;>first | cases hf | skip
   simp only [fits,hr] at hf
   simp only [fits,hs.row hr (by simp)]
   exact hf
  ·cases h
theorem xR {nf:Bool}{l:Lf}{hp:Nat->aK}{v:V}{k:L->(Nat->aK)->aD}(h:tO nf l hp v k=some ans) :
  ∃x hp',∃rs:List (Option Nat),k x hp'=some ans/\rs.length=(wj l x).length/\fC hp hp' (fun q=>some q∈rs)/\CL rs/\
   ∀{T:Nat->List K} {w0 w:World} {np:Nat} {M:Mem np} {A:cD} {hp0:Nat->aK} {y:Value},Hp T w0 M A hp0 w->Sub hp hp0->V0 T w A v y->
    ∃vals:List Value,vals.length=rs.length/\∀(RS:List (Option Nat)) (VS:List Value) (nx:Nat),oX RS rs nx->oX VS vals nx->zI nf w A (A.out RS VS)->
     Vc T w (A.out RS VS) (vA l x nx) y/\∀i o,(wj l x)[i]?=some o->dB T w (A.out RS VS) (nx+i) o:=by
 cases l with
 | fr e=>
  obtain ⟨x,r,h1,h2,h3⟩:=sH (show qj hp (.sl e) v (fun x r=>k x (yY hp r))=some ans from h)
  have hd:=sk h2
  refine ⟨x,_,[r],h1,rfl,hd.congr fun q=>by simp [eq_comm],fun i j q hi hj=>?_,fun {T w0 w np M A hp0 y} hh hs hv=>⟨[y],rfl,fun RS VS nx hR hV hz=>?_⟩⟩
  ·have:=(List.getElem?_eq_some_iff.1 hi).1
   have:=(List.getElem?_eq_some_iff.1 hj).1
   simp at *;omega
  ·have hown:=h3 hh hs hv
   have hr0:RS[nx]?=some r:=by simpa using hR 0 r rfl
   have hv0:VS.getD nx Go.undef=y:=by rw [List.getD_eq_getElem?_getD,show VS[nx]?=some y by simpa using hV 0 y rfl];rfl
   have hal:(A.out RS VS).al nx:=(List.getElem?_eq_some_iff.1 hr0).1
   obtain ⟨a,n,c,he,_⟩:=hown.Aa
   refine ⟨⟨⟨hal,hv0.symm,a,n,c,he⟩,hown.one⟩,fun i o ho=>?_⟩
   have hi:i=0:=by
    have:=(List.getElem?_eq_some_iff.1 ho).1
    simp [wj] at this;exact this
   subst hi
   simp [wj] at ho
   subst ho
   refine ⟨hal,?_⟩
   show fQ T w ((A.out RS VS).N (nx+0)) (.sl e) (VS.getD (nx+0) Go.undef) _
   rw [Nat.add_zero,hv0]
   exact hown.uc.mono fun b ⟨q,hq,hn⟩=>⟨q,by rw [hr0,hq],hn⟩
 | rd kk=>
  simp only [tO] at h
  cases hf:(fits hp kk v&&(nf||cN v))<;>simp only [hf,aO,aR] at h
  ·cases h
  simp only [Bool.and_eq_true,Bool.or_eq_true] at hf
  obtain ⟨x,h1,h2⟩:=jT h
  refine ⟨x,hp,[],h1,rfl,(fC.refl hp).congr fun q=>by simp,fun i j q hi=>by simp at hi,fun {T w0 w np M A hp0 y} hh hs hv=>⟨[],rfl,fun RS VS nx hR hV hz=>?_⟩⟩
  obtain ⟨l',e1,e2⟩:=qo hh (pQ hf.1 h hs) (k:=fun x=>some [x]) (h2 hp0 hs _)
  injection e1 with e1;injection e1 with e1
  subst e1
  obtain ⟨r1,r2⟩:=e2 hv
  have r3:Rd T w (eo w (A.out RS VS)) kk y l':=by
   rcases hf.2 with hn | hp
   ·exact r1.mono (hz.1 hn)
   ·exact (r2 hp).mono hz.2
  exact ⟨⟨sK (fun r hr=>(nomatch hr)) r3,r3.one⟩,fun i o ho=>by simp [wj] at ho⟩
theorem me {nf:Bool}:∀{q:List Lf} {hp:Nat->aK} {vs:List V} {k:List L->(Nat->aK)->aD},nE nf q hp vs k=some ans->
  ∃ls hp',∃rs:List (Option Nat),k ls hp'=some ans/\ls.length=q.length/\vs.length=q.length/\(∀rest,iK q (ls++rest)=iK q ls/\∀nx,jN q (ls++rest) nx=jN q ls nx)/\rs.length=(iK q ls).length/\fC hp hp' (fun q=>some q∈rs)/\CL rs/\
   ∀{T:Nat->List K} {w0 w:World} {np:Nat} {M:Mem np} {A:cD} {hp0:Nat->aK} {R:V->Value->Prop} {ys:List Value},(∀v x,R v x->V0 T w A v x)->Hp T w0 M A hp0 w->Sub hp hp0->F2 R vs ys->
    ∃vals:List Value,vals.length=rs.length/\∀(RS:List (Option Nat)) (VS:List Value) (nx:Nat),oX RS rs nx->oX VS vals nx->zI nf w A (A.out RS VS)->
     F2 (Vc T w (A.out RS VS)) (jN q ls nx) ys/\∀i o,(iK q ls)[i]?=some o->dB T w (A.out RS VS) (nx+i) o
 | [],hp,[],k,h=>⟨[],hp,[],h,rfl,rfl,fun _=>⟨rfl,fun _=>rfl⟩,rfl,(fC.refl hp).congr fun q=>by simp,fun i j q hi=>(by simp at hi),fun {T w0 w np M A hp0 R ys} _ _ _ hf=>⟨[],rfl,fun RS VS nx _ _ _=>⟨(by cases hf;exact .nil),fun i o ho=>(by simp [iK] at ho)⟩⟩⟩
 | [],hp,_::_,k,h=>by cases h
 | _::_,hp,[],k,h=>by cases h
 | l::q,hp,v::vs,k,h=>by
  simp only [nE] at h
  obtain ⟨x,hp1,rs1,h1,h2,h3,h4,h5⟩:=xR h
  obtain ⟨ls,hp2,rs2,g1,g2,g2',g3,g4,g5,g6,g7⟩:=me h1
  refine ⟨x::ls,hp2,rs1++rs2,g1,by simp [g2],by simp [g2'],fun rest=>⟨?_,fun nx=>?_⟩,?_,h3.app g5,h4.append g6 h3 g5,fun {T w0 w np M A hp0 R ys} hR hh hs hf=>?_⟩
  ·simp [iK,(g3 rest).1]
  ·simp [jN,(g3 rest).2]
  ·simp [iK,h2,g4]
  ·cases hf with
   | cons hv ht=>
    obtain ⟨va,va1,va2⟩:=h5 hh hs (hR _ _ hv)
    obtain ⟨vb,vb1,vb2⟩:=g7 hR hh (h3.sub hs) ht
    refine ⟨va++vb,by simp [va1,vb1],fun RS VS nx hRS hVS hz=>?_⟩
    obtain ⟨c1,c2⟩:=va2 RS VS nx hRS.left hVS.left hz
    obtain ⟨d1,d2⟩:=vb2 RS VS (nx+rs1.length) hRS.right (by rw [<-va1];exact hVS.right) hz
    refine ⟨?_,fun i o ho=>?_⟩
    ·simp only [jN,List.headD_cons,List.tail_cons,<-h2]
     exact .cons c1 d1
    ·simp only [iK,List.headD_cons,List.tail_cons] at ho
     by_cases hi:i<(wj l x).length
     ·rw [List.getElem?_append_left hi] at ho;exact c2 i o ho
     ·rw [List.getElem?_append_right (by omega)] at ho
      have:=d2 _ o ho
      rw [h2,show nx+(wj l x).length+(i - (wj l x).length)=nx+i by omega] at this
      exact this
theorem yu {nf a:Bool}{q:List Lf}{hp:Nat->aK}{v:V}{k:List L->(Nat->aK)->aD}(h:Bt nf a q hp v k=some ans) :
  ∃ls hp',∃rs:List (Option Nat),k ls hp'=some ans/\ls.length=q.length/\(∀rest,iK q (ls++rest)=iK q ls/\∀nx,jN q (ls++rest) nx=jN q ls nx)/\rs.length=(iK q ls).length/\fC hp hp' (fun q=>some q∈rs)/\CL rs/\
   ∀{T:Nat->List K} {w0 w:World} {np:Nat} {M:Mem np} {A:cD} {hp0:Nat->aK} {y:Value},Hp T w0 M A hp0 w->Sub hp hp0->V2 T w A v y->
    ∃vals:List Value,vals.length=rs.length/\∀(RS:List (Option Nat)) (VS:List Value) (nx:Nat),oX RS rs nx->oX VS vals nx->zI nf w A (A.out RS VS)->
     V1 T w (A.out RS VS) (mkVar a (jN q ls nx)) y/\∀i o,(iK q ls)[i]?=some o->dB T w (A.out RS VS) (nx+i) o:=by
 unfold Bt at h
 cases a<;>simp only [aO,aR] at h
 ·obtain ⟨ls,hp',rs,h1,h2,h2',h3,h4,h5,h6,h7⟩:=me h
  have hleaf:∀{T:Nat->List K} {w:World} {A:cD} {y:Value},V2 T w A v y->V0 T w A v y:=by
   intro T w A y hv
   match q,h2' with
   | [l],_=>
    simp only [nE] at h
    cases l with
    | fr e=>cases v<;>first | exact hv | (simp only [tO,qj] at h;cases h)
    | rd kk=>cases v<;>first | exact hv | (cases kk<;>simp [tO,fits] at h)
  refine ⟨ls,hp',rs,h1,h2,h3,h4,h5,h6,fun {T w0 w np M A hp0 y} hh hs hv=>?_⟩
  obtain ⟨vals,e1,e2⟩:=h7 (R:=V0 T w A) (fun _ _ h=>h) hh hs (.cons (hleaf hv) .nil)
  refine ⟨vals,e1,fun RS VS nx hR hV hz=>?_⟩
  obtain ⟨c1,c2⟩:=e2 RS VS nx hR hV hz
  refine ⟨?_,c2⟩
  have:=qd (agg:=false) c1 (fun _=>by rw [c1.length];rfl)
  exact this
 ·split at h
  ·rename_i cs
   obtain ⟨ls,hp',rs,h1,h2,h2',h3,h4,h5,h6,h7⟩:=me h
   refine ⟨ls,hp',rs,h1,h2,h3,h4,h5,h6,fun {T w0 w np M A hp0 y} hh hs hv=>?_⟩
   obtain ⟨l,rfl,hl⟩:=(show V1 T w A (.agg cs) y from hv)
   obtain ⟨vals,e1,e2⟩:=h7 (R:=Vc T w A) (fun _ _ h=>h.1) hh hs hl
   refine ⟨vals,e1,fun RS VS nx hR hV hz=>?_⟩
   obtain ⟨c1,c2⟩:=e2 RS VS nx hR hV hz
   exact ⟨⟨l,rfl,c1⟩,c2⟩
  ·cases h
theorem mJ {nf:Bool}:∀{ps:List (Bool×List Lf)} {hp:Nat->aK} {vs:List V} {k:List L->(Nat->aK)->aD},kZ nf ps hp vs k=some ans->
  ∃ls hp',∃rs:List (Option Nat),k ls hp'=some ans/\vs.length=ps.length/\rs.length=(kU ps ls).length/\fC hp hp' (fun q=>some q∈rs)/\CL rs/\
   ∀{T:Nat->List K} {w0 w:World} {np:Nat} {M:Mem np} {A:cD} {hp0:Nat->aK} {ys:List Value},Hp T w0 M A hp0 w->Sub hp hp0->F2 (V2 T w A) vs ys->
    ∃vals:List Value,vals.length=rs.length/\∀(RS:List (Option Nat)) (VS:List Value) (nx:Nat),oX RS rs nx->oX VS vals nx->zI nf w A (A.out RS VS)->
     F2 (V1 T w (A.out RS VS)) (jI ps ls nx) ys/\∀i o,(kU ps ls)[i]?=some o->dB T w (A.out RS VS) (nx+i) o
 | [],hp,[],k,h=>⟨[],hp,[],h,rfl,rfl,(fC.refl hp).congr fun q=>by simp,fun i j q hi=>(by simp at hi),fun {T w0 w np M A hp0 ys} _ _ hf=>⟨[],rfl,fun RS VS nx _ _ _=>⟨(by cases hf;exact .nil),fun i o ho=>(by simp [kU] at ho)⟩⟩⟩
 | [],hp,_::_,k,h=>by cases h
 | _::_,hp,[],k,h=>by cases h
 | (a,q)::ps,hp,v::vs,k,h=>by
  simp only [kZ] at h
  obtain ⟨x,hp1,rs1,h1,h1',hrest,h2,h3,h4,h5⟩:=yu h
  obtain ⟨ls,hp2,rs2,g1,g2',g4,g5,g6,g7⟩:=mJ h1
  have hdrop:(x++ls).drop q.length=ls:=by rw [<-h1',List.drop_left]
  refine ⟨x++ls,hp2,rs1++rs2,g1,by simp [g2'],?_,h3.app g5,h4.append g6 h3 g5,fun {T w0 w np M A hp0 ys} hh hs hf=>?_⟩
  ·simp [kU,hdrop,(hrest ls).1,h2,g4]
  ·cases hf with
   | cons hv ht=>
    obtain ⟨va,va1,va2⟩:=h5 hh hs hv
    obtain ⟨vb,vb1,vb2⟩:=g7 hh (h3.sub hs) ht
    refine ⟨va++vb,by simp [va1,vb1],fun RS VS nx hRS hVS hz=>?_⟩
    obtain ⟨c1,c2⟩:=va2 RS VS nx hRS.left hVS.left hz
    obtain ⟨d1,d2⟩:=vb2 RS VS (nx+rs1.length) hRS.right (by rw [<-va1];exact hVS.right) hz
    refine ⟨?_,fun i o ho=>?_⟩
    ·simp only [jI,hdrop,(hrest ls).1,(hrest ls).2,<-h2]
     exact .cons c1 d1
    ·simp only [kU,hdrop,(hrest ls).1] at ho
     by_cases hi:i<(iK q x).length
     ·rw [List.getElem?_append_left hi] at ho;exact c2 i o ho
     ·rw [List.getElem?_append_right (by omega)] at ho
      have:=d2 _ o ho
      rw [h2,show nx+(iK q x).length+(i - (iK q x).length)=nx+i by omega] at this
      exact this
end
end Go.DM
set_option linter.unusedSectionVars false
namespace Go.DM
def sC (tmps:Array Value)(r:ResultVar):Sem Value:=match r with
 | .tmp t=>pure (tmps.getD t undef)
 | .cell a t=>do loadVar t (<-asAddr (tmps.getD a undef))
def results_eq (fn:Func)(tmps:Array Value):results fn tmps=(do
  let vs <-fn.results.mapM (sC tmps)
  pure (if h:vs.size=1 then vs[0] else .tuple vs)):=by
 unfold results
 congr 1
def pK (ys:List Value):Value:=match ys with
 | [y]=>y
 | ys=>.tuple ys.toArray
def kQ {P:Program}{fn:Func}{tmps:Array Value}{w:World}{ys:List Value}(h:(fn.results.toList.mapM (sC tmps)).run P w=.ok ys w) :
  (results fn tmps).run P w=.ok (pK ys) w:=by
 rw [results_eq,Array.mapM_eq_mapM_toList]
 simp only [Sem.run_bind,map_eq_pure_bind,h,Result.andThen_ok,Sem.run_pure]
 congr 1
 match ys with
 | []=>rfl
 | [y]=>rfl
 | a::b::c=>simp [pK]
def ql {P:Program}{w:World}{t b o:Nat}{ii:TypeInfo}{d:TypeDesc}{cs:List Value}(hi:P.info? t=some ii)(hu:P.underlying t=some d)(hl:cs.length=ii.size)
  (h1:jh d=false->cs.length=1) (hc:∀j v,cs[j]?=some v->w.cell? ⟨b,o+j,none⟩=some v) :
  (loadVar t ⟨b,o,none⟩).run P w=.ok (mkValue (jh d) cs) w:=by
 have:=gx (P:=P) hi hu hl h1 hc
 simpa [Instr.loadAt,Instr.sureAddr] using this
section
variable {P:Program} {E:Env} {w0 w:World} {M:Mem E.np} {A:cD} {s:St} {a:Act} {ans:List L}
theorem gK (hT:∀t i,E.T t=some i->fX P E t i)(sm:fL E w0 M A s a w):∀{rs:List ResultVar} {k:List V->aD},slotsOf E s rs k=some ans->
  ∃vs xs,k vs=some ans/\F2 (V2 E.cells w A) vs xs/\(rs.mapM (sC a.tmps)).run P w=.ok xs w
 | [],k,h=>⟨[],[],h,.nil,by simp⟩
 | .tmp t::rs,k,h=>by
  simp only [slotsOf] at h
  obtain ⟨vs,xs,h1,h2,h3⟩:=gK hT sm h
  exact ⟨_,a.eval (.tmp t)::xs,h1,.cons (sm.ev (.tmp t)) h2,by simp [sC,h3,Act.eval]⟩
 | .cell t ty::rs,k,h=>by
  simp only [slotsOf] at h
  split at h
  ·cases h
  rename_i i ht
  obtain ⟨ii,d,z,g1,g2,g3,g4,g5,g6,gby,g7,g8,g9,g10,gpl,g11,g12,g13,g14⟩:=hT ty i ht
  have hx:=sm.ev (.tmp t)
  simp only [cV] at hx
  split at h
  ·rename_i r q hr
   rw [hr] at hx
   split at h
   ·rename_i cs hcs
    cases hle:Nat.ble (q+i.cells.length) cs.length<;>simp only [hle,aO,aR] at h
    ·cases h
    have hle':=Nat.le_of_ble_eq_true hle
    obtain ⟨vs,xs,h1,h2,h3⟩:=gK hT sm h
    obtain ⟨hal,g,e1,e2⟩:=(show V0 E.cells w A (.bP r q) (a.eval (.tmp t)) from hx)
    have hroot:=sm.hp.rt r
    rw [hcs] at hroot
    obtain ⟨_,g',te,cur,m1,m2,m3,m4⟩:=hroot
    obtain rfl:g=g':=by rw [e1] at m1;injection m1 with m1;injection m1 with m1;injection m1
    have hcl:cs.length=cur.size:=by rw [m4.length,Array.length_toList]
    have hcut:(cut cur.toList q i.cells.length).length=i.cells.length:=eX (by rw [Array.length_toList];omega)
    have hload:=ql (P:=P) (w:=w) (b:=g) (o:=q) (cs:=cut cur.toList q i.cells.length) g1 g2 (by rw [hcut,g4]) (fun hd=>by rw [hcut];exact (g9 (by rw [<-g8];exact hd)).1) (fun j v hj=>by
     rw [gi m3,<-Array.getElem?_toList];exact (nG hj).1)
    refine ⟨_,_::xs,h1,.cons (V1.v2 (qd (agg:=i.agg) (m4.cut q i.cells.length) (fun ha=>by rw [eX hle'];exact (g9 ha).1))) h2,?_⟩
    have hv:a.tmps.getD t undef=.pointer (some ⟨g,q,none⟩):=e2
    rw [g8] at hload
    simp [sC,hv,asAddr,hload,h3]
   ·cases h
  ·cases h
def RP.nQ (p:RP):Bool:=p.ok&&(match p with | .gW ps=>!Nat.beq ps.length 1 | _=>true)
theorem nL (p:RP)(ls:List L):kU p.parts ls=p.R ls:=by
 cases p with
 | one l=>simp [RP.parts,RP.R,kU,iK]
 | agg q=>simp [RP.parts,RP.R,kU]
 | gW ps=>rfl
 | zj _=>rfl
 | zc _ _=>rfl
 | cur _ _=>rfl
 | uq _=>rfl
theorem zB {p:RP}{ls:List L}{ys:List Value}{nx:Nat}(hf:p.nQ=true)(h:F2 (V1 E.cells w A) (jI p.parts ls nx) ys):V2 E.cells w A (p.V ls nx) (pK ys):=by
 cases p with
 | one l=>
  simp only [RP.parts,jI,jN] at h
  cases h with
  | cons hv ht=>
   cases ht
   exact V1.v2 hv
 | agg q=>
  simp only [RP.parts,jI] at h
  cases h with
  | cons hv ht=>
   cases ht
   exact V1.v2 hv
 | gW ps=>
  simp only [RP.nQ,Bool.and_eq_true,Bool.not_eq_true'] at hf
  have hl:=h.length
  have hne:ys.length≠1:=by
   rw [<-hl]
   have :(jI ps ls nx).length=ps.length:=by
    clear h hl hf
    have :∀(ps:List (Bool×List Lf)) (ls:List L) (n:Nat),(jI ps ls n).length=ps.length:=by
     intro ps
     induction ps with
     | nil=>intro ls n;rfl
     | cons p ps ih=>intro ls n;obtain ⟨a,q⟩:=p;simp [jI,ih]
    exact this _ _ _
   show (jI ps ls nx).length≠1
   rw [this]
   intro e
   have:=hf.2
   rw [e] at this;cases this
  refine ⟨ys,?_,h⟩
  match ys,hne with
  | [],_=>rfl
  | [y],h=>exact (h rfl).elim
  | _::_::_,_=>rfl
 | zj _=>simp [RP.nQ,RP.ok] at hf
 | zc _ _=>simp [RP.nQ,RP.ok] at hf
 | cur _ _=>simp [RP.nQ,RP.ok] at hf
 | uq _=>simp [RP.nQ,RP.ok] at hf
theorem uZ:∀{q:List Lf} {ls:List L},q.any Lf.Ak=false->iK q ls=[]
 | [],_,_=>rfl
 | .fr _::q,ls,h=>by cases h
 | .rd _::q,ls,h=>by simp only [List.any_cons,Bool.or_eq_false_iff] at h;simp [iK,wj,uZ h.2]
theorem uX:∀{ps:List (Bool×List Lf)} {ls:List L},(ps.all fun q=>!q.2.any Lf.Ak)=true->kU ps ls=[]
 | [],_,_=>rfl
 | (a,q)::ps,ls,h=>by
  simp only [List.all_cons,Bool.and_eq_true,Bool.not_eq_true'] at h
  simp [kU,uZ h.1,uX (ps:=ps) h.2]
def Left (E:Env)(w0:World)(Z0:Nat->Prop)(p:RP)(r:List L)(e:Ending)(w':World):Prop:=
 ∃rv A',e=.returned rv/\Fr w0 w' (fun _=>False)/\A'.Z=Z0/\(∀i,A'.al i↔i<(p.R r).length)/\
  Hp E.cells w0 El A' (dH (fun _=>.dead) 0 (p.R r)) w'/\V2 E.cells w' A' (p.V r 0) rv
theorem zG (hT:∀t i,E.T t=some i->fX P E t i){f:Func}{p:RP}{Z0:Nat->Prop}(hf:p.nQ=true) :
  Fits E w0 (AJ E.np) Z0 ans (dA E f p) (bodyPost P f (Left E w0 Z0 p ans)):=by
 intro e s a w h ⟨A,sm,hz⟩
 have h:CM E f p e s=some ans:=by
  cases p<;>first | exact h | (simp [RP.nQ,RP.ok] at hf)
 have key0:∀{A:cD} {s:St},fL E w0 (AJ E.np) A s a w->A.Z=Z0->slotsOf E s f.results.toList (fun vs=>kZ (p.parts.all fun q=>!q.2.any Lf.Ak) p.parts s.hp vs fun ls _=>some ls)=some ans->
   a.defers=[]/\∃v,(results f a.tmps).run P w=.ok v w/\Left E w0 Z0 p ans (.returned v) w:=by
  intro A s sm hz h
  refine ⟨sm.df,?_⟩
  have hh:=sm.hp
  obtain ⟨vs,xs,h1,h2,h3⟩:=gK hT sm h
  obtain ⟨ls,hp',rs,g1,g2,g3,g4,g5,g6⟩:=mJ h1
  injection g1 with g1
  subst g1
  obtain ⟨vals,e1,e2⟩:=g6 hh (fun _=>.inl rfl) h2
  have hN:∀{i b:Nat},(A.out rs vals).N i b->∃q,A.N q b:=fun ⟨q,_,hn⟩=>⟨q,hn⟩
  have hZ:zI (p.parts.all fun q=>!q.2.any Lf.Ak) w A (A.out rs vals):=by
   refine ⟨fun hnf b hb=>?_,fun b hb=>⟨hb.1,hb.2.1,fun i ⟨q,_,hn⟩=>hb.2.2 q hn⟩⟩
   have hrs:rs=[]:=List.eq_nil_of_length_eq_zero (by rw [g3,uX hnf];rfl)
   subst hrs
   have :∀i,¬(A.out [] vals).N i b:=fun i ⟨q,hq,_⟩=>by simp at hq
   rcases hb with ⟨r,hr⟩ | hb
   ·refine ⟨?_,hh.lt r b hr,this⟩
    rcases hh.nm r b hr with h | h
    ·exact h.elim
    ·exact hh.zf b (.inr h)
   ·exact ⟨hb.1,hb.2.1,this⟩
  obtain ⟨c1,c2⟩:=e2 rs vals 0 (fun i x h=>by simpa using h) (fun i x h=>by simpa using h) hZ
  refine ⟨_,kQ h3,_,A.out rs vals,rfl,hh.fr,hz,fun i=>?_,⟨fun r b hb=>?_,fun r q b hb hb'=>?_,fun r hr=>?_,fun r=>?_,hh.fr,fun r b hb=>?_,hh.zf,fun j hj=>absurd hj (Nat.not_lt_zero j)⟩,zB hf c1⟩
  ·show i<rs.length↔_
   rw [g3,nL]
  ·obtain ⟨q,_,hn⟩:=hb;exact hh.lt q b hn
  ·obtain ⟨p1,hp1,hn⟩:=hb
   obtain ⟨p2,hp2,hn'⟩:=hb'
   have:=hh.dj p1 p2 b hn hn'
   subst this
   exact g5 r q p1 hp1 hp2
  ·have hr':¬r<rs.length:=hr
   rw [dN _ _ _ _ (.inr (by rw [Nat.zero_add,<-nL,<-g3];omega))]
  ·by_cases hr:r<rs.length
   ·have hlt:r<(kU p.parts ls).length:=by rw [<-g3];exact hr
    have ho:=List.getElem?_eq_getElem hlt
    have:=c2 r _ ho
    rw [Nat.zero_add] at this
    have ha:=iH (p.R ls) (fun _=>.dead) 0 r (kU p.parts ls)[r] (by rw [<-nL];exact ho)
    rw [Nat.zero_add] at ha
    rw [ha];exact this
   ·rw [dN _ _ _ _ (.inr (by rw [Nat.zero_add,<-nL,<-g3];omega))]
    rintro b ⟨q,hq,_⟩
    rw [List.getElem?_eq_none (by omega)] at hq;cases hq
  ·obtain ⟨q,_,hn⟩:=hb;exact hh.nm q b hn
 have key:gU E (rG f.results.toList p.parts) s (fun s=>slotsOf E s f.results.toList (fun vs=>kZ (p.parts.all fun q=>!q.2.any Lf.Ak) p.parts s.hp vs fun ls _=>some ls))=some ans->
   a.defers=[]/\∃v,(results f a.tmps).run P w=.ok v w/\Left E w0 Z0 p ans (.returned v) w:=by
  intro h
  obtain ⟨s',A',h1,h2,h3⟩:=sm.gU h
  exact key0 h2 (h3.trans hz) h1
 cases e with
 | exit j=>cases h
 | normal=>exact key h
 | ret=>exact key h
theorem qi:∀{vs:List V} {i:Nat} {v:V},vs[i]?=some v->iQ vs i=v
 | [],i,v,h=>by simp at h
 | a::vs,0,v,h=>by simp at h;exact h
 | a::vs,i+1,v,h=>qi (vs:=vs) (i:=i) (by simpa using h)
theorem lM:∀{vs:List V} {i:Nat},vs.length<=i->iQ vs i=.undef
 | [],i,h=>rfl
 | a::vs,0,h=>by simp at h
 | a::vs,i+1,h=>lM (vs:=vs) (i:=i) (by simpa using h)
def A8 (T:Nat->List K)(ks:List K)(ls:List L):Prop:=∀(j:Nat) (k:K),ks[j]?=some k->yT T k (ls.getD j .hole)
def DE (T:Nat->List K):List (List K)->List L->Prop
 | [],_=>True
 | q::qs,ls=>A8 T q ls/\DE T qs (bA q.length ls)
def E4 (T:Nat->List K):fF->List L->Prop
 | .rd k,ls=>yT T k (ls.headD .hole)
 | .agg ks,ls=>A8 T ks ls
 | .ptr ks,ls=>A8 T ks ls
 | .fn _ qs,ls=>DE T qs ls
 | .nil,_=>True
def rN (T:Nat->List K):List fF->List L->Prop
 | [],_=>True
 | p::ps,ls=>E4 T p ls/\rN T ps (bA p.n ls)
theorem yT.E8 {T:Nat->List K}{e:Nat}{l:L}(h:yT T (.sl e) (.sl l.dz)):yT T (.sl e) l:=by
 cases h
 exact .sl e l ‹_› ‹_›
theorem zn {T:Nat->List K}{k:K}{l:L}{x:Value}(h:V0 T w A (xZ none k l) x):yT T k l:=by
 cases k with
 | int ik=>exact .int _ _
 | bool=>exact .bool _
 | str=>exact .str _
 | sl e=>exact yT.E8 (show V0 T w A (.sl none e l.dz) x from h).2.E6
theorem wG {T:Nat->List K}{R:V->Value->Prop}(hR:∀v x,R v x->V0 T w A v x):∀{ks:List K} {ls:List L} {xs:List Value},F2 R (kr none ks ls) xs->A8 T ks ls
 | [],ls,xs,_=>fun j k hj=>by simp at hj
 | k::ks,ls,xs,h=>by
  simp only [kr] at h
  cases h with
  | cons hv ht=>
   intro j kk hj
   cases j with
   | zero=>
    simp at hj
    subst hj
    rw [<-gY];exact zn (hR _ _ hv)
   | succ j=>
    rw [<-jU]
    exact wG hR ht j kk (by simpa using hj)
theorem wO {T:Nat->List K}{ks:List K}{ls:List L}{x:Value}(h:V0 T w A (.cS none ks (ck ks.length ls) 0) x):A8 T ks ls:=by
 intro j k hj
 obtain ⟨_,b,q,vv,_,_,h3⟩:=h
 have:=(h3 j k hj).2.E6
 rwa [qz _ _ _ (List.getElem?_eq_some_iff.1 hj).1] at this
theorem xN {T:Nat->List K}:∀{qs:List (List K)} {ls:List L} {xs:List Value},F2 (V0 T w A) (uC qs ls) xs->DE T qs ls
 | [],_,_,_=>trivial
 | q::qs,ls,xs,h=>by
  simp only [uC] at h
  cases h with
  | cons hv ht=>exact ⟨wO hv,xN ht⟩
theorem wC {T:Nat->List K}:∀{ps:List fF} {ls:List L} {xs:List Value},F2 (V2 T w A) (iP ps ls) xs->rN T ps ls
 | [],_,_,_=>trivial
 | p::ps,ls,xs,h=>by
  simp only [iP] at h
  cases h with
  | cons hv ht=>
   refine ⟨?_,wC ht⟩
   cases p with
   | rd k=>
    have key:∀{x:Value},V2 T w A (xZ none k (ls.headD .hole)) x->V0 T w A (xZ none k (ls.headD .hole)) x:=by
     intro x hx
     cases k<;>exact hx
    exact zn (key hv)
   | agg ks=>
    obtain ⟨l,_,hl⟩:=(show V1 T w A (.agg (kr none ks ls)) _ from hv)
    exact wG (R:=Vc T w A) (fun _ _ h=>h.1) hl
   | ptr ks=>exact wO (show V0 T w A (.cS none ks (ck ks.length ls) 0) _ from hv)
   | fn f qs=>
    obtain ⟨l,_,hl⟩:=(show V1 T w A (.fn f (uC qs ls)) _ from hv)
    exact xN hl
   | nil=>exact trivial
theorem wT {E0:Env}{g:FuncId}{fn:Func}{c:Code}{aM:gj}(hT:∀t i,E.T t=some i->fX P E t i)(hG:∀g c,c∈E.G g->Valid P E g c)(hM:mG P E)(hD:∀w0 M Z0 ans,nJ P E w0 M Z0 ans)
  (he : E.T = E0.T) (hnp : E.np = 0) (hf : P.funcs[g]? = some fn) (hname : (fn.name == "runtime.NumGoroutine") = false) (hb : fn.body = some c) (hfine : aM.res.nQ = true) (hn : (cq c).Nodup)
  (hnt:aM.args.length+(fn.ntmps - aM.args.length)=E.nt) (live:Nat->Live) (h:∀ls r,rN E.cells aM.args ls->aM.sem ls=some r->∃n,eY E live fn aM.res n (dJ aM.args ls)=some r):Valid P E0 g aM:=by
 have hbody:bL fn=c:=by simp [bL,hb]
 have hc:E0.cells=E.cells:=by funext t;simp [Env.cells,he]
 refine ⟨⟨fn,hf,hname,by rw [hb];rfl⟩,?_,fun ls r w vs Z hs hv=>?_⟩
 ·simp only [RP.nQ,Bool.and_eq_true] at hfine;exact hfine.1
 rw [hc] at hv
 obtain ⟨n,hrun⟩:=h ls r (wC hv) hs
 have hvl:vs.length=aM.args.length:=by
  rw [<-hv.length]
  have :∀(ps:List fF) (ls:List L),(iP ps ls).length=ps.length:=by
   intro ps
   induction ps with
   | nil=>intro _;rfl
   | cons p ps ih=>intro ls;simp [iP,ih]
  exact this _ _
 have key:=oQ (live:=live) (P:=P) (w0:=w) (M:=AJ E.np) (Z0:=(A0 Z w).Z) (Q:=bodyPost P fn (Left E w (A0 Z w).Z aM.res r)) hT hG hM (hD _ _ _ _) (by rw [hbody];exact hn) (zG hT hfine) hrun
  (a:={ tmps:=vs.toArray++Array.replicate (fn.ntmps - vs.toArray.size) undef,defers:=[] }) (w:=w) ⟨A0 Z w,⟨⟨fun _ _ h=>h.elim,fun _ _ _ h=>h.elim,fun _ _=>rfl,fun _ _ h=>h.elim,Fr.refl _ _,fun _ _ h=>h.elim,fun _ h=>.inr (h.resolve_left id),fun j hj=>absurd hj (by rw [hnp];exact Nat.not_lt_zero j)⟩,fun i x hx=>?_,fun _ _ h=>h.elim,rfl,?_,.nil⟩,rfl⟩
 ·rw [hbody] at key
  refine (calls_of_wp hf hb key).mono fun e w' hR=>?_
  unfold Left at hR
  rw [hc];exact hR
 ·show V2 E.cells w (A0 Z w) (iQ (iP aM.args ls) i) x
  by_cases hi:i<vs.length
  ·have hx':vs[i]?=some x:=by simpa [Array.getElem?_append,hi] using hx
   have hl:=hv.length
   have hg:=List.getElem?_eq_getElem (show i<(iP aM.args ls).length by omega)
   obtain ⟨y,hy,hr⟩:=hv.get hg
   rw [hx'] at hy;injection hy with hy;subst hy
   rw [qi hg];exact hr
  ·rw [lM (by rw [hv.length];omega)]
   have :x=undef:=by
    have h2:¬i<vs.toArray.size:=by simpa using hi
    rw [Array.getElem?_append,if_neg h2] at hx
    have:=(Array.getElem?_eq_some_iff.1 hx).2
    rw [<-this];simp
   exact this
 ·simp only [Array.size_append,List.size_toArray,Array.size_replicate];rw [hvl];exact hnt
theorem Bh {T:Nat->List K}{w:World}{A:cD}{v:V}{x:Value}(h:V2 T w A v x):V1 T w A (A5 v) x:=by
 cases v<;>first | exact h | exact trivial
theorem Aj {g:FuncId}{fn:Func}{c:Code}(hT:∀t i,E.T t=some i->fX P E t i)(hG:∀g c,c∈E.G g->Valid P E g c)(hM:mG P E)(hD:∀w0 M Z0 ans,nJ P E w0 M Z0 ans)
  (hf : P.funcs[g]? = some fn) (hname : (fn.name == "runtime.NumGoroutine") = false) (hb : fn.body = some c) (hn : (cq c).Nodup) : dX P E E.np g (inl E fn) := by
 have hbody:bL fn=c:=by simp [bL,hb]
 refine ⟨⟨fn,hf,hname,by rw [hb];rfl⟩,fun w0 M A s w vs xs k ans h hh hnx hfr hv K hK=>?_,fun h=>(by cases h),fun h=>by cases h⟩
 simp only [inl] at h
 cases hnt:Nat.beq (vs.length+(fn.ntmps - vs.length)) E.nt<;>simp only [hnt,aO,aR] at h
 ·cases h
 have hnt':=Nat.eq_of_beq_eq_true hnt
 rw [hbody] at h
 have hdeep:Deep P (qe E w0 (⟨M.p,M.v,M.sv⟩:Mem E.np) A.Z ans (fun _=>[]) (fun _ _ _=>none)) c (bodyPost P fn fun e w'=>∃cv,e=.returned cv/\K cv w'):=
  Deep.mono P (fun id _ H _ vs h a w e _=>by cases e) (gM P hn)
 have hfits:Fits E w0 (⟨M.p,M.v,M.sv⟩:Mem E.np) A.Z ans (CJ E fn k) (bodyPost P fn fun e w'=>∃cv,e=.returned cv/\K cv w'):=by
  intro e s' a w' h ⟨A',sm',hz⟩
  have key:(slotsOf E s' fn.results.toList fun vs=>match vs with
    | [v]=>k v s'
    | vs=>k (.gW (vs.map A5)) s')=some ans->a.defers=[]/\∃v,(results fn a.tmps).run P w'=.ok v w'/\∃cv,Ending.returned v=.returned cv/\K cv w':=by
   intro h
   refine ⟨sm'.df,?_⟩
   have hh':=sm'.hp
   obtain ⟨us,ys,h1,h2,h3⟩:=gK hT sm' h
   refine ⟨_,kQ h3,_,rfl,?_⟩
   have hhp:Hp E.cells w0 M A' s'.hp w':=⟨hh'.lt,hh'.dj,hh'.al,hh'.rt,hh'.fr,hh'.nm,hh'.zf,hh'.pn⟩
   split at h1
   ·cases h2 with
    | cons hv ht=>
     cases ht
     exact hK _ s' _ w' A' h1 hhp sm'.nx sm'.fr hv hz trivial
   ·rename_i hne
    have hy:pK ys=.tuple ys.toArray:=by
     unfold pK
     split
     ·cases h2 with
      | cons _ ht=>cases ht;exact (hne _ rfl).elim
     ·rfl
    rw [hy]
    exact hK _ s' _ w' A' h1 hhp sm'.nx sm'.fr ⟨ys,rfl,h2.map' fun _ _ h=>Bh h⟩ hz trivial
  cases e with
  | exit j=>cases h
  | normal=>exact key h
  | ret=>exact key h
 have hvl:=hv.length
 have key:=fY (P:=P) (live:=fun _=>[]) (I:=fun _ _ _=>none) hT hG hM (hD _ _ _ _) hdeep hfits h (a:={ tmps:=xs.toArray++Array.replicate (fn.ntmps - xs.toArray.size) undef,defers:=[] }) (w:=w)
  ⟨A,⟨⟨hh.lt,hh.dj,hh.al,hh.rt,hh.fr,hh.nm,hh.zf,hh.pn⟩,fun i x hx=>?_,hnx,rfl,?_,hfr⟩,rfl⟩
 ·exact calls_of_wp hf hb key
 ·show V2 E.cells w A (iQ vs i) x
  by_cases hi:i<xs.length
  ·have hx':xs[i]?=some x:=by simpa [Array.getElem?_append,hi] using hx
   exact zy hv hx'
  ·rw [lM (by rw [hvl];omega)]
   have :x=undef:=by
    have h2:¬i<xs.toArray.size:=by simpa using hi
    rw [Array.getElem?_append,if_neg h2] at hx
    have:=(Array.getElem?_eq_some_iff.1 hx).2
    rw [<-this];simp
   exact this
 ·simp only [Array.size_append,List.size_toArray,Array.size_replicate];rw [<-hvl];exact hnt'
end
end Go.DM
set_option linter.unusedSectionVars false
namespace Go.DM
section
variable {ans:List L} {E:Env} {hp:Nat->aK}
theorem oY {v:V}{k:List V->aD}(h:oC v k=some ans):∃cs,k cs=some ans/\∀k':List V->aD,oC v k'=k' cs:=by
 cases v<;>first | exact ⟨_,h,fun _=>rfl⟩ | cases h
theorem ju:∀{ks:List K} {vs:List V} {k:List L->aD},gh hp ks vs k=some ans->∃ls,k ls=some ans/\∀hp0,Sub hp hp0->∀k':List L->aD,gh hp0 ks vs k'=k' ls
 | [],[],k,h=>⟨[],h,fun _ _ _=>rfl⟩
 | [],_::_,k,h=>by cases h
 | _::_,[],k,h=>by cases h
 | kk::ks,v::vs,k,h=>by
  simp only [gh] at h
  cases hf:fits hp kk v<;>simp only [hf,aO,aR] at h
  ·cases h
  obtain ⟨l,h1,h2⟩:=jT h
  obtain ⟨ls,h3,h4⟩:=ju h1
  refine ⟨_,h3,fun hp0 hs k'=>?_⟩
  simp only [gh,pQ hf h hs,aO,h2 hp0 hs,h4 hp0 hs]
theorem pH {ks:List K}:∀{n:Nat} {cs:List V} {k:aq->aD},tW hp ks n cs k=some ans->∃xs,k xs=some ans/\∀hp0,Sub hp hp0->∀k':aq->aD,tW hp0 ks n cs k'=k' xs
 | 0,cs,k,h=>⟨[],h,fun _ _ _=>rfl⟩
 | n+1,cs,k,h=>by
  simp only [tW] at h
  obtain ⟨l,h1,h2⟩:=ju h
  obtain ⟨ls,h3,h4⟩:=pH h1
  exact ⟨_,h3,fun hp0 hs k'=>by simp only [tW,h2 hp0 hs,h4 hp0 hs]⟩
theorem jX {v:V}{k:Option Nat->Nat->aq->aD}(h:gF E hp v k=some ans):∃d e xs,k d e xs=some ans/\∀hp0,Sub hp hp0->∀k':Option Nat->Nat->aq->aD,gF E hp0 v k'=k' d e xs:=by
 cases v<;>first | (cases h;done) | skip
 case sl d e xs=>exact ⟨_,_,_,h,fun _ _ _=>rfl⟩
 case own r=>
  simp only [gF] at h
  split at h
  ·rename_i e xs hr
   exact ⟨_,_,_,h,fun hp0 hs k'=>by simp only [gF,hs.row hr (by simp)]⟩
  ·rename_i e xs hr
   exact ⟨_,_,_,h,fun hp0 hs k'=>by simp only [gF,hs.row hr (by simp)]⟩
  ·cases h
 case lit r n e=>
  simp only [gF] at h
  split at h
  ·rename_i cs hr
   cases hp:(Nat.ble n 16777216&&cs.all cN)<;>simp only [hp,aO,aR] at h
   ·cases h
   obtain ⟨xs,h1,h2⟩:=pH h
   exact ⟨_,_,_,h1,fun hp0 hs k'=>by simp only [gF,hs.row hr (by simp),hp,aO,h2 hp0 hs]⟩
  ·cases h
 case gm r sz i o e=>
  simp only [gF] at h
  split at h
  ·rename_i er xs hr
   cases hz:Nat.beq sz (E.cells er).length<;>simp only [hz,aO,aR] at h
   ·cases h
   split at h
   ·rename_i e2 he2
    cases hk:Nat.beq e e2<;>simp only [hk,aO,aR] at h
    ·cases h
    exact ⟨_,_,_,h,fun hp0 hs k'=>by simp only [gF,hs.row hr (by simp),hz,he2,hk,aO]⟩
   ·cases h
  ·cases h
theorem xV {ks:List K}{v:V}{k:List L->aD}(h:rJ hp ks v k=some ans):∃ls,k ls=some ans/\∀hp0,Sub hp hp0->∀k':List L->aD,rJ hp0 ks v k'=k' ls:=by
 cases v<;>first | (cases h;done) | skip
 case bP r o=>
  simp only [rJ] at h
  cases ho:Nat.beq o 0<;>simp only [ho,aO,aR] at h
  ·cases h
  split at h
  ·rename_i cs hr
   obtain ⟨ls,h1,h2⟩:=ju h
   exact ⟨_,h1,fun hp0 hs k'=>by simp only [rJ,ho,aO,hs.row hr (by simp),h2 hp0 hs]⟩
  ·cases h
 case cS d es cells o=>
  simp only [rJ] at h
  cases ho:(Nat.beq o 0&&rZ es ks)<;>simp only [ho,aO,aR] at h
  ·cases h
  exact ⟨_,h,fun hp0 hs k'=>by simp only [rJ,ho,aO]⟩
theorem ue:∀{qs:List (List K)} {vs:List V} {k:List L->aD},qU hp qs vs k=some ans->∃ls,k ls=some ans/\∀hp0,Sub hp hp0->∀k':List L->aD,qU hp0 qs vs k'=k' ls
 | [],[],k,h=>⟨[],h,fun _ _ _=>rfl⟩
 | [],_::_,k,h=>by cases h
 | _::_,[],k,h=>by cases h
 | q::qs,v::vs,k,h=>by
  simp only [qU] at h
  obtain ⟨a,h1,h2⟩:=xV h
  obtain ⟨b,h3,h4⟩:=ue h1
  exact ⟨_,h3,fun hp0 hs k'=>by simp only [qU,h2 hp0 hs,h4 hp0 hs]⟩
theorem tP {p:fF}{v:V}{k:List L->aD}(h:nT E hp p v k=some ans):∃ls,k ls=some ans/\∀hp0,Sub hp hp0->∀k':List L->aD,nT E hp0 p v k'=k' ls:=by
 cases p with
 | rd kk=>
  have other:gh hp [kk] [v] k=some ans->(∀hp0 (k':List L->aD),nT E hp0 (.rd kk) v k'=gh hp0 [kk] [v] k')->∃ls,k ls=some ans/\∀hp0,Sub hp hp0->∀k':List L->aD,nT E hp0 (.rd kk) v k'=k' ls:=by
   intro h he
   obtain ⟨ls,h1,h2⟩:=ju h
   exact ⟨ls,h1,fun hp0 hs k'=>by rw [he,h2 hp0 hs]⟩
  cases v
  case lit r n e=>
   simp only [nT] at h
   split at h
   ·rename_i cs hr
    cases hk:(K.beq kk (.sl e)&&Nat.ble n 16777216)<;>simp only [hk,aO,aR] at h
    ·cases h
    obtain ⟨xs,h1,h2⟩:=pH h
    exact ⟨_,h1,fun hp0 hs k'=>by simp only [nT,hs.row hr (by simp),hk,aO,h2 hp0 hs]⟩
   ·cases h
  all_goals exact other h (fun _ _=>rfl)
 | agg ks=>
  cases v<;>first | (cases h;done) | skip
  obtain ⟨ls,h1,h2⟩:=ju h
  exact ⟨ls,h1,fun hp0 hs k'=>h2 hp0 hs k'⟩
 | ptr ks=>
  obtain ⟨ls,h1,h2⟩:=xV h
  exact ⟨ls,h1,fun hp0 hs k'=>h2 hp0 hs k'⟩
 | fn f qs=>
  cases v<;>first | (cases h;done) | skip
  rename_i g caps
  simp only [nT] at h
  cases hf:Nat.beq f g<;>simp only [hf,aO,aR] at h
  ·cases h
  obtain ⟨ls,h1,h2⟩:=ue h
  exact ⟨ls,h1,fun hp0 hs k'=>by simp only [nT,hf,aO,h2 hp0 hs]⟩
 | nil=>
  cases v<;>first | (cases h;done) | skip
  exact ⟨[],h,fun hp0 hs k'=>rfl⟩
theorem uG:∀{ps:List fF} {vs:List V} {k:List L->aD},nW E hp ps vs k=some ans->∃ls,k ls=some ans/\∀hp0,Sub hp hp0->∀k':List L->aD,nW E hp0 ps vs k'=k' ls
 | [],[],k,h=>⟨[],h,fun _ _ _=>rfl⟩
 | [],_::_,k,h=>by cases h
 | _::_,[],k,h=>by cases h
 | q::qs,v::vs,k,h=>by
  simp only [nW] at h
  obtain ⟨a,h1,h2⟩:=tP h
  obtain ⟨b,h3,h4⟩:=uG h1
  exact ⟨_,h3,fun hp0 hs k'=>by simp only [nW,h2 hp0 hs,h4 hp0 hs]⟩
def CD (f:(Nat->aK)->(V->List aK->aD)->aD)(hp:Nat->aK)(k:V->List aK->aD)(ans:List L):Prop:=∃v rs,k v rs=some ans/\∀hp0,Sub hp hp0->∀k',f hp0 k'=k' v rs
theorem uV {nx:Nat}{vs:List V}{k:V->List aK->aD}:∀{cs:List gj},nU E hp nx vs k cs=some ans->CD (fun hp0 k'=>nU E hp0 nx vs k' cs) hp k ans
 | [],h=>by cases h
 | c::cs,h=>by
  simp only [nU] at h
  cases hc:pR c.args vs<;>simp only [hc,aO,aR] at h
  ·obtain ⟨v,rs,h1,h2⟩:=uV h
   exact ⟨v,rs,h1,fun hp0 hs k'=>by simp only [nU,hc,aR];exact h2 hp0 hs k'⟩
  ·cases hv:(c.res.view&&!vs.all gR)<;>simp only [hv,aO,aR] at h
   ·obtain ⟨ls,h1,h2⟩:=uG h
    cases hr:c.sem ls with
    | none=>rw [hr] at h1;cases h1
    | some r=>
     rw [hr] at h1
     simp only [Option.bind_some,kI] at h1
     exact ⟨_,_,h1,fun hp0 hs k'=>by simp only [nU,hc,hv,aO,aR,h2 hp0 hs,hr,Option.bind_some,kI]⟩
   ·cases h
theorem dG {b:Bool}{x:aD}(h:(cond b x none)=some ans):b=true/\x=some ans:=by cases b<;>simp at h;exact ⟨rfl,h⟩
theorem kM:∀{cs ds:List V} {k:Bool->aD},fU cs ds k=some ans->∃r,k r=some ans/\∀k':Bool->aD,fU cs ds k'=k' r
 | [],[],k,h=>⟨true,h,fun _=>rfl⟩
 | [],_::_,k,h=>by cases h
 | c::cs,[],k,h=>by simp [fU] at h
 | c::cs,d::ds,k,h=>by
  cases c<;>cases d<;>simp only [fU] at h<;>first | (cases h;done) | skip
  case int.int ik p jk q=>
   obtain ⟨b0,h0⟩:=dG h
   obtain ⟨r,h1,h2⟩:=kM h0
   exact ⟨_,h1,fun k'=>by simp only [fU,b0,aO,h2]⟩
  case bool.bool p q=>
   obtain ⟨r,h1,h2⟩:=kM h
   exact ⟨_,h1,fun k'=>by simp only [fU,h2]⟩
  case str.str p q=>
   obtain ⟨r,h1,h2⟩:=kM h
   exact ⟨_,h1,fun k'=>by simp only [fU,h2]⟩
theorem zR {op:BinOp}{t:TypeId}{x y:V}{k:V->aD}(h:binOp E op t x y k=some ans):∃v,k v=some ans/\∀k':V->aD,binOp E op t x y k'=k' v:=by
  cases x<;>first | (cases h;done) | skip
  case int ik a=>
    cases y<;>first | (cases h;done) | skip
    rename_i jk b
    cases op
    case shl=>
      simp only [binOp,AE] at h
      by_cases hb:b<0
      · simp [hb] at h
      · simp only [hb,decide_false,aR] at h
        exact ⟨_,h,fun k'=>by simp only [binOp,AE,hb,decide_false,aR]⟩
    case shr=>
      simp only [binOp,AO] at h
      by_cases hb:b<0
      · simp [hb] at h
      · simp only [hb,decide_false,aR] at h
        exact ⟨_,h,fun k'=>by simp only [binOp,AO,hb,decide_false,aR]⟩
    all_goals
      simp only [binOp] at h
      cases hk:iW ik jk<;>simp only [hk,aO,aR] at h
      · cases h
      first
      | (simp only [oc] at h;exact ⟨_,h,fun k'=>by simp only [binOp,oc,hk,aO]⟩)
      | (by_cases hb:b=0
         · simp [hb,oc] at h
         · simp only [hb,oc,decide_false,aR] at h
           exact ⟨_,h,fun k'=>by simp only [binOp,oc,hk,aO,hb,decide_false,aR]⟩)
      | (simp only [oc] at h;cases h)
  case bool a=>
    cases y<;>first | (cases h;done) | skip
    simp only [binOp] at h
    cases hk:TI.isBool (E.T t)<;>simp only [hk,aO,aR] at h
    · cases h
    cases op<;>simp only at h<;>first
      | exact ⟨_,h,fun k'=>by simp only [binOp,hk,aO]⟩
      | cases h
  case agg cs=>
    cases y<;>first | (cases h;done) | skip
    rename_i ds
    simp only [binOp] at h
    obtain ⟨b0,h0⟩:=dG h
    cases op<;>simp only at h0<;>first
      | (obtain ⟨r,h1,h2⟩:=kM h0;exact ⟨_,h1,fun k'=>by simp only [binOp,b0,aO,h2]⟩)
      | cases h0
  case str a=>
    cases y<;>first | (cases h;done) | skip
    rename_i b
    simp only [binOp] at h
    cases op<;>simp only at h<;>first
      | exact ⟨_,h,fun k'=>by simp only [binOp]⟩
      | (by_cases hb:((a.size+b.size:Nat):Int)>9223372036854775807
         · simp only [hb,decide_true,aO] at h;cases h
         · simp only [hb,decide_false,aR] at h
           exact ⟨_,h,fun k'=>by simp only [binOp,hb,decide_false,aR]⟩)
      | cases h
theorem sy {fs:List (Nat×Nat)}{ρ:Operand->V}:∀{ps:List (Nat×Operand)} {cs:List V} {k:List V->aD},ku E fs ρ ps cs k=some ans->∃cs',k cs'=some ans/\∀k':List V->aD,ku E fs ρ ps cs k'=k' cs'
 | [],cs,k,h=>⟨cs,h,fun _=>rfl⟩
 | p::ps,cs,k,h=>by
  simp only [ku] at h
  split at h
  ·cases h
  ·rename_i f hf
   obtain ⟨new,h1,h2⟩:=oY h
   cases hc:(Nat.beq new.length (E.cells f.2).length&&Nat.ble (f.1+new.length) cs.length)<;>simp only [hc,aO,aR] at h1
   ·cases h1
   obtain ⟨cs',h3,h4⟩:=sy h1
   exact ⟨cs',h3,fun k'=>by simp only [ku,hf,h2,hc,aO,h4]⟩
theorem xx {e:Nat}{ρ:Operand->V}:∀{ps:List (Nat×Operand)} {j:Nat} {k:List V->aD},rO E e ρ ps j k=some ans->∃cs',k cs'=some ans/\∀k':List V->aD,rO E e ρ ps j k'=k' cs'
 | [],j,k,h=>⟨_,h,fun _=>rfl⟩
 | p::ps,j,k,h=>by
  simp only [rO] at h
  cases hj:Nat.beq p.1 j<;>simp only [hj,aO,aR] at h
  ·cases h
  obtain ⟨new,h1,h2⟩:=oY h
  cases hc:Nat.beq new.length (E.cells e).length<;>simp only [hc,aO,aR] at h1
  ·cases h1
  obtain ⟨cs',h3,h4⟩:=xx h1
  exact ⟨_,h3,fun k'=>by simp only [rO,hj,aO,h2,hc,h4]⟩
theorem AA {u:Nat}{v:V}{k:V->List aK->aD}(h:tY E hp u v k=some ans):CD (fun hp0 k'=>tY E hp0 u v k') hp k ans:=by
  cases v
  case str s=>
    simp only [tY] at h
    cases hs:TI.isStr (E.T u)<;>simp only [hs,aO,aR] at h
    · cases h
    exact ⟨_,_,h,fun hp0 _ k'=>by simp only [tY,hs,aO]⟩
  all_goals
    simp only [tY] at h
    cases hu:(E.T u).bind TI.el with
    | none=>rw [hu] at h;cases h
    | some el=>
      rw [hu] at h
      simp only at h
      first
        | (obtain ⟨d,e,xs,h1,h2⟩:=jX h
           exact ⟨_,_,h1,fun hp0 hs k'=>by simp only [tY,hu,h2 hp0 hs]⟩)
        | exact ⟨_,_,h,fun hp0 hs k'=>by simp only [tY,hu]⟩
theorem ga {ρ:Operand->V}{b:Option Operand}{d:Int}{k:Int->aD}(h:gG ρ b d k=some ans):∃n,k n=some ans/\∀k':Int->aD,gG ρ b d k'=k' n:=by
 unfold gG at h
 split at h
 ·exact ⟨_,h,fun _=>rfl⟩
 ·rename_i x
  split at h
  ·rename_i ik n he
   exact ⟨_,h,fun _=>by simp only [gG,he]⟩
  ·cases h
theorem yJ {t:Nat}{ρ:Operand->V}{x:Operand}{lo hi mx:Option Operand}{k:V->List aK->aD}(h:gS E hp t ρ x lo hi mx k=some ans):CD (fun hp0 k'=>gS E hp0 t ρ x lo hi mx k') hp k ans:=by
 have nilcase:ρ x=.nil->CD (fun hp0 k'=>gS E hp0 t ρ x lo hi mx k') hp k ans:=by
  intro hx
  simp only [gS,hx] at h
  cases hu:(E.T t).bind TI.el with
  | none=>rw [hu] at h;cases h
  | some el=>
   rw [hu] at h
   simp only at h
   cases mx with
   | none=>
    simp only at h
    obtain ⟨l,h1,h2⟩:=ga h
    obtain ⟨g,h3,h4⟩:=ga h1
    obtain ⟨b1,h5⟩:=dG h3
    obtain ⟨b2,h6⟩:=dG h5
    exact ⟨_,_,h6,fun hp0 _ k'=>by simp only [gS,hx,hu,h2,h4,b1,b2,aO]⟩
   | some m=>
    simp only at h
    cases lo with
    | some _=>cases h
    | none=>
     simp only at h
     cases hi with
     | none=>cases h
     | some g=>
      simp only at h
      obtain ⟨l,h1,h2⟩:=ga h
      obtain ⟨g,h3,h4⟩:=ga h1
      obtain ⟨b1,h5⟩:=dG h3
      obtain ⟨b2,h6⟩:=dG h5
      exact ⟨_,_,h6,fun hp0 _ k'=>by simp only [gS,hx,hu,h2,h4,b1,b2,aO]⟩
 have strcase:∀s,ρ x=.str s->CD (fun hp0 k'=>gS E hp0 t ρ x lo hi mx k') hp k ans:=by
  intro s hx
  simp only [gS,hx] at h
  obtain ⟨b0,h0⟩:=dG h
  cases mx with
  | some _=>cases h0
  | none=>
   simp only at h0
   obtain ⟨l,h1,h2⟩:=ga h0
   obtain ⟨g,h3,h4⟩:=ga h1
   obtain ⟨b1,h5⟩:=dG h3
   obtain ⟨b2,h6⟩:=dG h5
   obtain ⟨b3,h7⟩:=dG h6
   exact ⟨_,_,h7,fun hp0 _ k'=>by simp only [gS,hx,b0,h2,h4,b1,b2,b3,aO]⟩
 have rest:∀v,ρ x=v->v≠.nil->(∀s,v≠.str s)->CD (fun hp0 k'=>gS E hp0 t ρ x lo hi mx k') hp k ans:=by
  intro v hx hn hs
  cases hu:(E.T t).bind TI.el with
  | none=>cases v<;>first | exact (hn rfl).elim | exact (hs _ rfl).elim | exact absurd h (by simp [gS,hx,hu])
  | some el=>
   have key:∀{hp0:Nat->aK} {k':V->List aK->aD},gS E hp0 t ρ x lo hi mx k'=gF E hp0 v (lZ ρ el lo hi mx k'):=by
    intro hp0 k'
    cases v<;>first | exact (hn rfl).elim | exact (hs _ rfl).elim | simp only [gS,hx,hu]
   rw [key] at h
   obtain ⟨d,e,xs,h1,h2⟩:=jX h
   obtain ⟨b0,h3⟩:=dG (show (cond (Nat.beq e el) _ none)=some ans from h1)
   cases mx with
   | none=>
    simp only at h3
    obtain ⟨l,g1,g2⟩:=ga h3
    obtain ⟨g,g3,g4⟩:=ga g1
    obtain ⟨b1,h5⟩:=dG g3
    obtain ⟨b2,h6⟩:=dG h5
    obtain ⟨b3,h7⟩:=dG h6
    exact ⟨_,_,h7,fun hp0 hs' k'=>by simp only [key];simp only [h2 hp0 hs',lZ,b0,g2,g4,b1,b2,b3,aO]⟩
   | some m=>
    simp only at h3
    cases lo with
    | some _=>cases h3
    | none=>
     simp only at h3
     cases hi with
     | none=>cases h3
     | some g=>
      simp only at h3
      obtain ⟨l,g1,g2⟩:=ga h3
      obtain ⟨g,g3,g4⟩:=ga g1
      obtain ⟨b1,h5⟩:=dG g3
      obtain ⟨b2,h6⟩:=dG h5
      exact ⟨_,_,h6,fun hp0 hs' k'=>by simp only [key];simp only [h2 hp0 hs',lZ,b0,g2,g4,b1,b2,aO]⟩
 cases hx:ρ x with
 | nil=>exact nilcase hx
 | str s=>exact strcase s hx
 | _=>exact rest _ hx (by simp) (by simp)
theorem zZ {src dst:Nat}{v:V}{k:V->List aK->aD}(h:lH E hp src dst v k=some ans):CD (fun hp0 k'=>lH E hp0 src dst v k') hp k ans:=by
  cases v
  case int ik n=>
    simp only [lH] at h
    cases hs:E.T src with
    | none=>rw [hs] at h;cases h
    | some _=>
      rw [hs] at h
      cases hd:E.T dst with
      | none=>rw [hd] at h;cases h
      | some i=>
        rw [hd] at h
        simp only at h
        cases ha:i.agg<;>simp only [ha,aO,aR] at h
        · split at h
          · rename_i jk hc
            exact ⟨_,_,h,fun hp0 _ k'=>by simp only [lH,hs,hd,ha,aR,hc]⟩
          · cases h
        · cases h
  case str s=>
    simp only [lH] at h
    cases hs:TI.isStr (E.T src)<;>simp only [hs,aO,aR] at h
    · cases h
    cases hd:TI.isStr (E.T dst)<;>simp only [hd,aO,aR] at h
    · cases hu:(E.T dst).bind TI.el with
      | none=>rw [hu] at h;cases h
      | some el=>
        rw [hu] at h
        simp only at h
        obtain ⟨b0,h1⟩:=dG h
        exact ⟨_,_,h1,fun hp0 _ k'=>by simp only [lH,hs,hd,hu,b0,aO,aR]⟩
    · exact ⟨_,_,h,fun hp0 _ k'=>by simp only [lH,hs,hd,aO]⟩
  all_goals
    simp only [lH] at h
    cases hu:(E.T src).bind TI.el with
    | none=>rw [hu] at h;cases h
    | some el=>
      rw [hu] at h
      simp only at h
      obtain ⟨b0,h0⟩:=dG h
      first
        | (obtain ⟨d,e,xs,h1,h2⟩:=jX h0
           obtain ⟨b1,h3⟩:=dG h1
           exact ⟨_,_,h3,fun hp0 hs k'=>by simp only [lH,hu,b0,h2 hp0 hs,b1,aO]⟩)
        | exact ⟨_,_,h0,fun hp0 hs k'=>by simp only [lH,hu,b0,aO]⟩
theorem lz {o:Op}{ρ:Operand->V}{nx:Nat}{k:V->List aK->aD}(h:aZ E o ρ hp nx k=some ans):CD (fun hp0 k'=>aZ E o ρ hp0 nx k') hp k ans:=by
 cases o<;>first | (simp only [aZ] at h;cases h;done) | skip
 case move x=>exact ⟨_,_,h,fun _ _ _=>rfl⟩
 case assign x=>exact ⟨_,_,h,fun _ _ _=>rfl⟩
 case nilCheck x=>
  simp only [aZ] at h
  split at h
  ·rename_i hx;exact ⟨_,_,h,fun hp0 _ k'=>by simp only [aZ,hx]⟩
  ·rename_i hx;exact ⟨_,_,h,fun hp0 _ k'=>by simp only [aZ,hx]⟩
  ·rename_i hx;exact ⟨_,_,h,fun hp0 _ k'=>by simp only [aZ,hx]⟩
  ·cases h
 case slice t x lo hi mx=>simp only [aZ] at h ⊢;exact yJ h
 case convert s d x=>simp only [aZ] at h ⊢;exact zZ h
 case pick c a b=>
  simp only [aZ] at h
  split at h
  ·rename_i t ht
   cases t with
   | true=>exact ⟨_,_,h,fun hp0 _ k'=>by simp only [aZ,ht,aO]⟩
   | false=>exact ⟨_,_,h,fun hp0 _ k'=>by simp only [aZ,ht,aR]⟩
  ·cases h
 case unOp op t x=>
  cases op<;>first | (simp only [aZ] at h;cases h;done) | skip
  all_goals
   simp only [aZ] at h
   split at h
   ·rename_i hx
    exact ⟨_,_,h,fun hp0 _ k'=>by simp only [aZ,hx]⟩
   ·cases h
 case binOp op t x y ty=>
  simp only [aZ] at h
  obtain ⟨v,h1,h2⟩:=zR h
  exact ⟨_,_,h1,fun hp0 _ k'=>by simp only [aZ,h2]⟩
 case alloc t=>
  simp only [aZ] at h
  split at h
  ·rename_i i ht
   exact ⟨_,_,h,fun hp0 _ k'=>by simp only [aZ,ht]⟩
  ·cases h
 case box t x=>
  simp only [aZ] at h
  split at h
  ·rename_i i ht
   obtain ⟨cs,h1,h2⟩:=oY h
   exact ⟨_,_,h1,fun hp0 _ k'=>by simp only [aZ,ht,h2]⟩
  ·cases h
 case fieldAddr t x f=>
  simp only [aZ] at h
  split at h
  ·cases h
  rename_i i ht
  split at h
  ·cases h
  rename_i p hp
  split at h
  ·rename_i hx;exact ⟨_,_,h,fun hp0 _ k'=>by simp only [aZ,ht,hp,hx]⟩
  ·rename_i hx;exact ⟨_,_,h,fun hp0 _ k'=>by simp only [aZ,ht,hp,hx]⟩
  ·rename_i hx;exact ⟨_,_,h,fun hp0 _ k'=>by simp only [aZ,ht,hp,hx]⟩
  ·cases h
 case field t x f=>
  simp only [aZ] at h
  split at h
  ·cases h
  rename_i i ht
  split at h
  ·cases h
  rename_i p hp
  split at h
  ·rename_i cs hx
   split at h
   ·rename_i fi hfi
    cases hb:Nat.ble (p.1+fi.cells.length) cs.length<;>simp only [hb,aO,aR] at h
    ·cases h
    exact ⟨_,_,h,fun hp0 _ k'=>by simp only [aZ,ht,hp,hx,hfi,hb,aO]⟩
   ·cases h
  ·cases h
 case load t x=>
  simp only [aZ] at h
  split at h
  ·cases h
  rename_i i ht
  split at h
  ·rename_i r q hx
   split at h
   ·rename_i cs hr
    cases hb:Nat.ble (q+i.cells.length) cs.length<;>simp only [hb,aO,aR] at h
    ·cases h
    exact ⟨_,_,h,fun hp0 hs k'=>by simp only [aZ,ht,hx,hs.row hr (by simp),hb,aO]⟩
   ·cases h
  ·rename_i r sz j q hx
   split at h
   ·rename_i e xs hr
    cases hb:(Nat.beq sz (E.cells e).length&&Nat.ble (q+i.cells.length) sz)<;>simp only [hb,aO,aR] at h
    ·cases h
    cases hmt:(E.mt&&!dS (cut (E.cells e) q i.cells.length))<;>simp only [hmt,aO,aR] at h
    case true=>
     split at h
     ·rename_i e' hcut
      cases ha:i.agg<;>simp only [ha,aO,aR] at h
      ·have hmt':(E.mt&&!dS [K.sl e'])=true:=by rw [hcut] at hmt;exact hmt
       exact ⟨_,_,h,fun hp0 hs k'=>by simp only [aZ,ht,hx,hs.row hr (by simp),hb,aO,hcut,hmt',ha,aR]⟩
      ·cases h
     ·cases h
    exact ⟨_,_,h,fun hp0 hs k'=>by simp only [aZ,ht,hx,hs.row hr (by simp),hb,aO,hmt,aR]⟩
   ·rename_i e xs j0 cs hr
    cases hb:(Nat.beq j j0&&(Nat.beq sz (E.cells e).length&&Nat.ble (q+i.cells.length) sz))<;>simp only [hb,aO,aR] at h
    ·cases h
    cases hmt:(!dS (cut (E.cells e) q i.cells.length))<;>simp only [hmt,aO,aR] at h
    case true=>
     split at h
     ·rename_i e' hcut
      cases ha:i.agg<;>simp only [ha,aO,aR] at h
      ·have hmt':(!dS [K.sl e'])=true:=by rw [hcut] at hmt;exact hmt
       exact ⟨_,_,h,fun hp0 hs k'=>by simp only [aZ,ht,hx,hs.row hr (by simp),hb,aO,hcut,hmt',ha,aR]⟩
      ·cases h
     ·cases h
    exact ⟨_,_,h,fun hp0 hs k'=>by simp only [aZ,ht,hx,hs.row hr (by simp),hb,aO,hmt,aR]⟩
   ·cases h
  ·rename_i d es cs q hx
   cases hb:Nat.ble (q+i.cells.length) es.length<;>simp only [hb,aO,aR] at h
   ·cases h
   exact ⟨_,_,h,fun hp0 hs k'=>by simp only [aZ,ht,hx,hb,aO]⟩
  ·cases h
 case indexAddr t x i=>
  simp only [aZ] at h
  split at h
  ·cases h
  rename_i el hel
  split at h
  ·rename_i ik n hi
   split at h
   ·rename_i r hx
    split at h
    ·rename_i e xs hr
     cases hb:Nat.beq e el<;>simp only [hb,aO,aR] at h
     ·cases h
     by_cases h0:0<=n
     ·by_cases h1:n<(xs.length:Int)
      ·simp only [h0,h1,decide_true,aO] at h
       exact ⟨_,_,h,fun hp0 hs k'=>by simp only [aZ,hel,hi,hx,hs.row hr (by simp),hb,aO,h0,h1,decide_true]⟩
      ·simp [h0,h1] at h
     ·simp [h0] at h
    ·rename_i e xs j0 cs hr
     cases hb:Nat.beq e el<;>simp only [hb,aO,aR] at h
     ·cases h
     by_cases h0:0<=n
     ·by_cases h1:n<(xs.length:Int)
      ·simp only [h0,h1,decide_true,aO] at h
       exact ⟨_,_,h,fun hp0 hs k'=>by simp only [aZ,hel,hi,hx,hs.row hr (by simp),hb,aO,h0,h1,decide_true]⟩
      ·simp [h0,h1] at h
     ·simp [h0] at h
    ·rename_i e xs j0 cs hr
     cases hb:Nat.beq e el<;>simp only [hb,aO,aR] at h
     ·cases h
     by_cases h0:0<=n
     ·by_cases h1:n<(xs.length:Int)
      ·simp only [h0,h1,decide_true,aO] at h
       exact ⟨_,_,h,fun hp0 hs k'=>by simp only [aZ,hel,hi,hx,hs.row hr (by simp),hb,aO,h0,h1,decide_true]⟩
      ·simp [h0,h1] at h
     ·simp [h0] at h
    ·rename_i e xs hr
     cases hb:Nat.beq e el<;>simp only [hb,aO,aR] at h
     ·cases h
     by_cases h0:0<=n
     ·by_cases h1:n<(xs.length:Int)
      ·simp only [h0,h1,decide_true,aO] at h
       exact ⟨_,_,h,fun hp0 hs k'=>by simp only [aZ,hel,hi,hx,hs.row hr (by simp),hb,aO,h0,h1,decide_true]⟩
      ·simp [h0,h1] at h
     ·simp [h0] at h
    ·cases h
   ·rename_i hne
    obtain ⟨d,e,xs,h1,h2⟩:=jX h
    cases hb:Nat.beq e el<;>simp only [hb,aO,aR] at h1
    ·cases h1
    by_cases g0:0<=n
    ·by_cases g1:n<(xs.length:Int)
     ·simp only [g0,g1,decide_true,aO] at h1
      refine ⟨_,_,h1,fun hp0 hs k'=>?_⟩
      have hF:(cond (Nat.beq e el) (cond (decide (0<=n)) (cond (decide (n<(xs.length:Int))) (k' (.cS d (E.cells e) (xs.getD n.toNat []) 0) []) none) none) none)=k' (.cS d (E.cells e) (xs.getD n.toNat []) 0) []:=by
       simp only [hb,aO,g0,g1,decide_true]
      refine Eq.trans ?_ ((h2 hp0 hs (fun d e xs=>bif Nat.beq e el then (cond (decide (0<=n)) (cond (decide (n<(xs.length:Int))) (k' (.cS d (E.cells e) (xs.getD n.toNat []) 0) []) none) none) else none)).trans hF)
      simp only [aZ,hel,hi]
     ·simp [g0,g1] at h1
    ·simp [g0] at h1
  ·cases h
 case index t x i=>
  simp only [aZ] at h
  cases hs:TI.isStr (E.T t)<;>simp only [hs,Bool.not_true,Bool.not_false,aO,aR] at h
  ·cases h
  split at h
  ·rename_i ik n hi
   split at h
   ·rename_i s hx
    by_cases h0:0<=n
    ·by_cases h1:n<(s.size:Int)
     ·simp only [h0,h1,decide_true,aO] at h
      exact ⟨_,_,h,fun hp0 _ k'=>by simp only [aZ,hs,hi,hx,h0,h1,decide_true,aO,Bool.not_true,aR]⟩
     ·simp [h0,h1] at h
    ·simp [h0] at h
   ·cases h
  ·cases h
 case extract x i=>
  simp only [aZ] at h
  split at h
  ·rename_i vs hx
   split at h
   ·rename_i v hv
    exact ⟨_,_,h,fun hp0 _ k'=>by simp only [aZ,hx,hv]⟩
   ·cases h
  ·cases h
 case build t ps=>
  simp only [aZ] at h
  split at h
  ·rename_i i ht
   cases ha:i.agg<;>simp only [ha,aO,aR] at h
   ·cases h
   obtain ⟨cs,h1,h2⟩:=sy h
   exact ⟨_,_,h1,fun hp0 _ k'=>by simp only [aZ,ht,ha,aO,h2]⟩
  ·cases h
 case buildSlice t n ps=>
  simp only [aZ] at h
  split at h
  ·rename_i el hel
   cases hn:Nat.beq n ps.size<;>simp only [hn,aO,aR] at h
   ·cases h
   cases n with
   | zero=>exact ⟨_,_,h,fun hp0 _ k'=>by simp only [aZ,hel,hn,aO]⟩
   | succ n=>
    simp only at h
    obtain ⟨cs,h1,h2⟩:=xx h
    cases hl:Nat.ble cs.length 16777216<;>simp only [hl,aO,aR] at h1
    ·cases h1
    cases hap:dS (E.cells el)<;>simp only [hap,aO,aR] at h1
    ·exact ⟨_,_,h1,fun hp0 _ k'=>by simp only [aZ,hel,hn,aO,aR,h2,hl,hap]⟩
    ·obtain ⟨xs,h3,h4⟩:=pH h1
     exact ⟨_,_,h3,fun hp0 hs k'=>by simp only [aZ,hel,hn,aO,h2,hl,hap,h4 hp0 hs]⟩
  ·cases h
 case makeSlice t x y=>
  simp only [aZ] at h
  split at h
  ·rename_i el hel
   split at h
   ·rename_i n hx
    split at h
    ·rename_i m hy
     by_cases h0:0<=n
     ·by_cases h1:n<=m
      ·by_cases h2:m*(E.bytes el:Int)<=140737488355328
       ·simp only [h0,h1,h2,decide_true,aO] at h
        exact ⟨_,_,h,fun hp0 _ k'=>by simp only [aZ,hel,hx,hy,h0,h1,h2,decide_true,aO]⟩
       ·simp [h0,h1,h2] at h
      ·simp [h0,h1] at h
     ·simp [h0] at h
    ·cases h
   ·cases h
  ·cases h
 case makeFunc fn b caps=>
  cases fn<;>first | (simp only [aZ] at h;cases h;done) | skip
  rename_i f
  simp only [aZ] at h
  cases hb:(b.isEmpty&&(caps.toList.map ρ).all AF)<;>simp only [hb,aO,aR] at h
  ·cases h
  exact ⟨_,_,h,fun hp0 _ k'=>by simp only [aZ,hb,aO]⟩
 case call c=>
  obtain ⟨callee,args,argTypes⟩:=c
  cases callee with
  | invoke r n=>simp only [aZ] at h;cases h
  | value f=>
   simp only [aZ] at h
   split at h
   ·rename_i g caps hf
    obtain ⟨v,rs,h1,h2⟩:=uV h
    exact ⟨v,rs,h1,fun hp0 hs k'=>by simp only [aZ,hf];exact h2 hp0 hs k'⟩
   ·cases h
  | builtin b=>
   cases b<;>first | (simp only [aZ] at h;cases h;done) | skip
   case len=>
    simp only [aZ] at h
    split at h
    ·rename_i x hx
     split at h
     ·rename_i u hu
      obtain ⟨v,rs,h1,h2⟩:=AA h
      exact ⟨v,rs,h1,fun hp0 hs k'=>by simp only [aZ,hx,hu];exact h2 hp0 hs k'⟩
     ·cases h
    ·cases h
   case append=>
    simp only [aZ] at h
    split at h
    ·rename_i x y hxy
     split at h
     ·rename_i t u htu
      obtain ⟨b0,h0⟩:=dG h
      split at h0
      ·rename_i el hel
       obtain ⟨b1,h1⟩:=dG h0
       split at h1
       ·rename_i hxn
        split at h1
        ·rename_i hyn
         exact ⟨_,_,h1,fun hp0 hs k'=>by simp only [aZ,hxy,htu,b0,hel,b1,hxn,hyn,aO]⟩
        ·rename_i v hyn
         obtain ⟨d,e,ys,q1,q2⟩:=jX h1
         obtain ⟨b2,h2⟩:=dG q1
         refine ⟨_,_,h2,fun hp0 hs k'=>?_⟩
         have:=q2 hp0 hs
         cases hy:ρ y with
         | nil=>exact (hyn hy).elim
         | _=>
          rw [hy] at this
          simp only [aZ,hxy,htu,b0,hel,b1,hxn,hy,aO,this,b2]
       ·cases h1
      ·cases h0
     ·cases h
    ·cases h
   all_goals
    simp only [aZ] at h
    split at h
    ·rename_i x y hx
     split at h
     ·rename_i p hp
      split at h
      ·rename_i q hq
       exact ⟨_,_,h,fun hp0 hs k'=>by simp only [aZ,hx,hp,hq]⟩
      ·cases h
     ·cases h
    ·cases h
end
end Go.DM
set_option linter.unusedSectionVars false
namespace Go.DM
def oo {α:Type}(a b:List α):Prop:=∀(i:Nat) (x:α),a[i]?=some x->b[i]?=some x
def oo.tail {α:Type}{a b:List α}(h:oo a b):oo a.tail b.tail:=fun i x hx=>by
 have:=h (i+1) x (by simpa using hx)
 simpa using this
def oo.refl {α:Type}(a:List α):oo a a:=fun _ _ h=>h
def oo.append {α:Type}(a b:List α):oo a (a++b):=fun i x hx=>by rw [List.getElem?_append_left (List.getElem?_eq_some_iff.1 hx).1];exact hx
def oo.take {α:Type}(a:List α)(n:Nat):oo (a.take n) a:=fun i x hx=>by
 rw [List.getElem?_take] at hx
 split at hx
 ·exact hx
 ·cases hx
def oM {sl:Nat->V}{D D':Nat->Bool}(hD:∀j,D j=true->D' j=true){t:Nat}:∀{hs:List Oper} {us us':List Out} {j:Nat},oo us us'->jx sl D hs us j t=.dead∨jx sl D hs us j t=jx sl D' hs us' j t
 | [],us,us',j,_=>.inr rfl
 | o::os,us,us',j,hb=>by
  simp only [jx]
  cases hd:o.dst with
  | none=>exact oM hD hb.tail
  | some d=>
   simp only
   cases ht:Nat.beq t d with
   | false=>exact oM hD hb.tail
   | true=>
    simp only [aO]
    cases hj:D j with
    | false=>exact .inl rfl
    | true=>
     simp only [aO,hD j hj]
     cases us with
     | nil=>exact .inl rfl
     | cons u us=>
      have:=hb 0 u rfl
      cases us' with
      | nil=>simp at this
      | cons u' us'=>simp at this;subst this;exact .inr rfl
def uJ {sl:Nat->V}{D D':Nat->Bool}{t:Nat}:∀{hs:List Oper} {us:List Out} {j:Nat},(∀i,j<=i->D i=D' i)->jx sl D hs us j t=jx sl D' hs us j t
 | [],us,j,_=>rfl
 | o::os,us,j,h=>by
  have ih:=uJ (sl:=sl) (D:=D) (D':=D') (t:=t) (hs:=os) (us:=us.tail) (j:=j+1) (fun i hi=>h i (by omega))
  simp only [jx,ih,h j (Nat.le_refl _)]
def mI {d:Nat}{o:Oper}(hd:o.dst=some d):∀{hs:List Oper} {i:Nat},hs[i]?=some o->d∈iL hs
 | [],i,h=>by simp at h
 | o'::hs,0,h=>by simp at h;subst h;simp [iL,hd]
 | o'::hs,i+1,h=>by
  have:=mI hd (hs:=hs) (i:=i) (by simpa using h)
  simp only [iL]
  cases o'.dst with
  | none=>exact this
  | some e=>simp [this]
def zb {sl:Nat->V}{D D':Nat->Bool}{o:Oper}{u:Out}{t:Nat}:∀{hs:List Oper} {us:List Out} {i j:Nat},eE (iL hs)=true->hs[i]?=some o->us[i]?=some u->D' (j+i)=true->(∀l,l≠j+i->D' l=D l)->
  jx sl D' hs us j t=if o.dst=some t then u.v else jx sl D hs us j t
 | [],us,i,j,_,h,_,_,_=>by simp at h
 | o'::os,us,0,j,hf,ho,hu,h1,h2=>by
  simp at ho
  subst ho
  cases us with
  | nil=>simp at hu
  | cons u' us=>
   simp at hu
   subst hu
   have ih:=uJ (sl:=sl) (D:=D') (D':=D) (t:=t) (hs:=os) (us:=us) (j:=j+1) (fun i hi=>h2 i (by omega))
   have h1':D' j=true:=h1
   simp only [jx,List.tail_cons,ih,h1',BP]
   cases hd:o'.dst with
   | none=>simp
   | some d=>
    simp only [Option.some.injEq]
    cases hb:Nat.beq t d with
    | true=>rw [if_pos (Nat.eq_of_beq_eq_true hb).symm];rfl
    | false=>rw [if_neg (fun e=>by subst e;simp at hb)];rfl
 | o'::os,us,i+1,j,hf,ho,hu,h1,h2=>by
  have ho':os[i]?=some o:=by simpa using ho
  have hu':us.tail[i]?=some u:=by simpa using hu
  have hf':eE (iL os)=true:=by
   simp only [iL] at hf
   cases hd:o'.dst with
   | none=>rw [hd] at hf;exact hf
   | some d=>rw [hd] at hf;simp only [eE,Bool.and_eq_true] at hf;exact hf.2
  have ih:=zb (sl:=sl) (D:=D) (D':=D') (t:=t) (hs:=os) (us:=us.tail) (i:=i) (j:=j+1) hf' ho' hu' (by rw [show j+1+i=j+(i+1) by omega];exact h1) (fun l hl=>h2 l (by omega))
  simp only [jx,ih,h2 j (by omega)]
  cases hd:o'.dst with
  | none=>rfl
  | some d=>
   simp only
   cases hb:Nat.beq t d with
   | false=>rfl
   | true=>
    have e:=Nat.eq_of_beq_eq_true hb
    subst e
    simp only [aO]
    have hne:o.dst≠some t:=by
     intro he
     have hm:=mI he ho'
     simp only [iL,hd,eE,Bool.and_eq_true,List.all_eq_true] at hf
     have:=hf.1 t hm
     simp at this
    rw [if_neg hne]
def Bc {j l:Nat}:∀{us us':List Out},oo us us'->yF us j l=.dead∨yF us j l=yF us' j l:=by
 induction j with
 | zero=>
  intro us us' hb
  cases us with
  | nil=>exact .inl rfl
  | cons u us=>
   have:=hb 0 u rfl
   cases us' with
   | nil=>simp at this
   | cons u' us'=>simp at this;subst this;exact .inr rfl
 | succ j ih=>
  intro us us' hb
  cases us with
  | nil=>exact .inl rfl
  | cons u us=>
   have:=hb 0 u rfl
   cases us' with
   | nil=>simp at this
   | cons u' us'=>exact ih hb.tail
def rQ {hp:Nat->aK}{nx:Nat}{D D':Nat->Bool}{us us':List Out}(hD:∀j,D j=true->D' j=true)(hb:oo us us'):Sub (ng hp nx D us) (ng hp nx D' us'):=fun r=>by
 unfold ng
 cases Nat.blt r nx with
 | true=>exact .inl rfl
 | false=>
  simp only [aR]
  cases hj:D ((r - nx) / 64) with
  | false=>exact .inr rfl
  | true=>
   simp only [hD _ hj,aO]
   rcases Bc (j:=(r - nx) / 64) (l:=(r - nx) % 64) hb with h | h
   ·exact .inr h
   ·exact .inl h
def xO {u:Out}{l:Nat}:∀{us:List Out} {i:Nat},us[i]?=some u->yF us i l=zS u.rs l
 | [],i,h=>by simp at h
 | u'::us,0,h=>by simp at h;subst h;rfl
 | u'::us,i+1,h=>xO (us:=us) (i:=i) (by simpa using h)
def wX:∀{rs:List aK} {l:Nat} {o:aK},rs[l]?=some o->zS rs l=o
 | [],l,o,h=>by simp at h
 | r::rs,0,o,h=>by simp at h;exact h
 | r::rs,l+1,o,h=>wX (rs:=rs) (l:=l) (by simpa using h)
def vc:∀{rs:List aK} {l:Nat},rs.length<=l->zS rs l=.dead
 | [],l,h=>rfl
 | r::rs,0,h=>by simp at h
 | r::rs,l+1,h=>vc (rs:=rs) (l:=l) (by simpa using h)
def zi {hp:Nat->aK}{nx i:Nat}{D D':Nat->Bool}{us:List Out}{u:Out}(hu:us[i]?=some u)(hl:u.rs.length<=64)(h0:D i=false)(h1:D' i=true)(h2:∀l,l≠i->D' l=D l) :
  ng hp nx D' us=dH (ng hp nx D us) (nx+64*i) u.rs:=by
 funext r
 by_cases hr:r<nx
 ·rw [dN _ _ _ _ (.inl (by omega))]
  simp [ng,Nat.blt_eq.mpr hr]
 ·have hb:Nat.blt r nx=false:=by
   cases h:Nat.blt r nx with
   | false=>rfl
   | true=>exact absurd (Nat.blt_eq.mp h) hr
  have hdm:=Nat.div_add_mod (r - nx) 64
  have hmod:=Nat.mod_lt (r - nx) (show 0<64 by omega)
  by_cases hj:(r - nx) / 64=i
  ·have hlhs:ng hp nx D' us r=zS u.rs ((r - nx) % 64):=by simp only [ng,hb,aR,hj,h1,aO,xO hu]
   rw [hlhs]
   by_cases hlt:(r - nx) % 64<u.rs.length
   ·have hg:=List.getElem?_eq_getElem hlt
    rw [wX hg]
    have:=iH u.rs (ng hp nx D us) (nx+64*i) ((r - nx) % 64) _ hg
    rw [show nx+64*i+(r - nx) % 64=r by rw [hj] at hdm;omega] at this
    exact this.symm
   ·rw [vc (by omega),dN _ _ _ _ (.inr (by rw [hj] at hdm;omega))]
    simp only [ng,hb,aR,hj,h0]
  ·rw [dN _ _ _ _ (by
    rcases Nat.lt_or_gt_of_ne hj with h | h
    ·exact .inl (by omega)
    ·exact .inr (by omega))]
   simp only [ng,hb,aR,h2 _ hj]
def um {v:V}:∀{us:List Out} {j:Nat},(∀u,us[j]?=some u->u.v=v)->BL us j v=us
 | [],_,_=>rfl
 | u::us,0,h=>by
  have:=h u rfl
  simp only [BL];rw [<-this]
 | u::us,j+1,h=>by
  simp only [BL]
  rw [um (us:=us) (j:=j) fun u hu=>h u (by simpa using hu)]
def xJ {sl:Nat->V}{D:Nat->Bool}{o:Oper}{u:Out}{d:Nat}(hd:o.dst=some d):∀{hs:List Oper} {us:List Out} {i j:Nat},eE (iL hs)=true->hs[i]?=some o->us[i]?=some u->
  jx sl D hs us j d=bif D (j+i) then u.v else .dead
 | [],us,i,j,_,h,_=>by simp at h
 | o'::os,us,0,j,hf,ho,hu=>by
  simp at ho
  subst ho
  cases us with
  | nil=>simp at hu
  | cons u' us=>
   simp at hu
   subst hu
   simp [jx,hd,BP]
 | o'::os,us,i+1,j,hf,ho,hu=>by
  have ho':os[i]?=some o:=by simpa using ho
  have hu':us.tail[i]?=some u:=by simpa using hu
  have hf':eE (iL os)=true:=by
   simp only [iL] at hf
   cases hd':o'.dst with
   | none=>rw [hd'] at hf;exact hf
   | some d=>rw [hd'] at hf;simp only [eE,Bool.and_eq_true] at hf;exact hf.2
  have ih:=xJ (sl:=sl) (D:=D) hd (hs:=os) (us:=us.tail) (i:=i) (j:=j+1) hf' ho' hu'
  rw [show j+1+i=j+(i+1) by omega] at ih
  simp only [jx]
  cases hd':o'.dst with
  | none=>exact ih
  | some e=>
   simp only
   cases hb:Nat.beq d e with
   | false=>exact ih
   | true=>
    have e1:=Nat.eq_of_beq_eq_true hb
    subst e1
    have hm:=mI hd ho'
    simp only [iL,hd',eE,Bool.and_eq_true,List.all_eq_true] at hf
    have:=hf.1 d hm
    simp at this
def wq {all hs:List Oper}{sl:Nat->V}{D:Nat->Bool}{us:List Out}{kn:Option (Nat×Nat×Bool)}(hf:eE (iL hs)=true)(hb:oo hs all)(hl:us.length<=hs.length)(h:zp all (jx sl D hs us 0) kn):qJ us kn=us:=by
 match kn with
 | none=>rfl
 | some (j,d,t)=>
  simp only [qJ]
  refine um fun u hu=>?_
  obtain ⟨h1,o,ho,hd⟩:=h j d t rfl
  have hj:j<hs.length:=by have:=(List.getElem?_eq_some_iff.1 hu).1;omega
  have ho':hs[j]?=some o:=by
   have h2:=List.getElem?_eq_getElem hj
   have h3:=hb j _ h2
   rw [ho] at h3;injection h3 with h3;rw [h3];exact h2
  rw [xJ hd hf ho' hu] at h1
  cases hD:D (0+j) with
  | false=>rw [hD] at h1;cases h1
  | true=>rw [hD] at h1;exact h1
def oV (E:Env)(all hs:List Oper)(bs:List Nat)(sl:Nat->V)(hp:Nat->aK)(nx i:Nat)(o:Oper)(u:Out)(pre:List Out):Prop:=
 ∃(t:Bool) (kn:Option (Nat×Nat×Bool)),(∀k':Bool->Option (Nat×Nat×Bool)->aD,guarded E.nt all (jx sl (bs.getD i 0).testBit hs pre 0) o.guard k'=k' t kn)/\
  (t=true->u.rs.length<=64/\∀hp0,Sub (ng hp nx (bs.getD i 0).testBit pre) hp0->∀k',aZ E o.op (cV E.nt (jx sl (bs.getD i 0).testBit hs pre 0)) hp0 (nx+64*i) k'=k' u.v u.rs)/\(t=false->u=⟨.undef,[]⟩)
def mN {E:Env}{all hs:List Oper}{bs:List Nat}{sl:Nat->V}{hp:Nat->aK}{nx:Nat}{ans:List L}:∀{os:List Oper} {i:Nat} {us:List Out} {k:List Out->aD},eE (iL hs)=true->oo hs all->i+os.length<=hs.length->us.length=i->lO E all hs bs sl hp nx os i us k=some ans->
  ∃us',k us'=some ans/\us'.length=i+os.length/\oo us us'/\∀(l:Nat) (o:Oper),os[l]?=some o->∃u,us'[i+l]?=some u/\oV E all hs bs sl hp nx (i+l) o u (us'.take (i+l))
 | [],i,us,k,_,_,_,hl,h=>⟨us,h,by simp [hl],oo.refl us,fun l o ho=>by simp at ho⟩
 | o::os,i,us,k,hfr,hbg,hlen,hl,h=>by
  simp only [lO] at h
  obtain ⟨t,kn,h1,hk,h2⟩:=mS h
  rw [wq hfr hbg (by simp only [List.length_cons] at hlen;omega) hk] at h1
  have fin:∀(u:Out),lO E all hs bs sl hp nx os (i+1) (us++[u]) k=some ans->oV E all hs bs sl hp nx i o u us->
    ∃us',k us'=some ans/\us'.length=i+(o::os).length/\oo us us'/\∀(l:Nat) (o':Oper),(o::os)[l]?=some o'->∃u,us'[i+l]?=some u/\oV E all hs bs sl hp nx (i+l) o' u (us'.take (i+l)):=by
   intro u hr hok
   obtain ⟨us',g1,g2,g3,g4⟩:=mN hfr hbg (by simp only [List.length_cons] at hlen;omega) (by simp [hl]) hr
   refine ⟨us',g1,by simp [g2];omega,fun j x hx=>g3 j x (oo.append us [u] j x hx),fun l o' ho'=>?_⟩
   cases l with
   | zero=>
    simp at ho'
    subst ho'
    refine ⟨u,g3 i u (by rw [<-hl];simp),?_⟩
    have :us'.take (i+0)=us:=by
     apply List.ext_getElem?
     intro j
     rw [Nat.add_zero,List.getElem?_take]
     by_cases hj:j<i
     ·rw [if_pos hj]
      have hju:=List.getElem?_eq_getElem (show j<us.length by omega)
      rw [hju];exact g3 j _ (oo.append us [u] j _ hju)
     ·rw [if_neg hj,List.getElem?_eq_none (by omega)]
    rw [this];exact hok
   | succ l=>
    have:=g4 l o' (by simpa using ho')
    rw [show i+1+l=i+(l+1) by omega] at this
    exact this
  cases t<;>simp only [aO,aR] at h1
  ·exact fin _ h1 ⟨false,kn,h2,fun h=>(by cases h),fun _=>rfl⟩
  ·obtain ⟨v,rs,h3,h4⟩:=lz h1
   cases hle:Nat.ble rs.length 64<;>simp only [hle,aO,aR] at h3
   ·cases h3
   exact fin ⟨v,rs⟩ h3 ⟨true,kn,h2,fun _=>⟨Nat.le_of_ble_eq_true hle,h4⟩,fun h=>(by cases h)⟩
def HI (E:Env)(w0:World)(M:Mem E.np)(Z0:Nat->Prop)(s:St)(hs:List Oper)(us:List Out)(D:Nat->Bool)(a:Act)(w:World):Prop:=
 ∃A,Hp E.cells w0 M A (ng s.hp s.nx D us) w/\(∀i x,a.tmps[i]?=some x->V2 E.cells w A (jx s.sl D hs us 0 i) x)/\(∀r,A.al r->r<s.nx∨∃j,D j=true/\s.nx+64*j<=r/\r<s.nx+64*j+64)/\a.defers=[]/\a.tmps.size=E.nt/\A.Z=Z0/\F2 (V2 E.cells w A) s.fr M.sv
section
variable {P:Program} {E:Env} {w0:World} {M:Mem E.np} {Z0:Nat->Prop} {ans:List L}
open Classical in
theorem qF (hT:∀t i,E.T t=some i->fX P E t i)(hG:∀g c,c∈E.G g->Valid P E g c){ops:Array Oper}{hs:List Oper}{bs:List Nat}{s:St}{us:List Out}{D D':Nat->Bool}{a:Act}{w:World}{i:Nat}{o:Oper}{u:Out}
  (hf:eE (iL hs)=true) (hi:HI E w0 M Z0 s hs us D a w) (ho:hs[i]?=some o) (hops:ops[i]?=some o) (hu:us[i]?=some u) (h0:D i=false) (h1:D' i=true) (h2:∀l,l≠i->D' l=D l)
  (hanc:∀j,(bs.getD i 0).testBit j=true->D j=true) (hok:oV E ops.toList hs bs s.sl s.hp s.nx i o u (us.take i)) {K:Act->World->Prop} {Q:Exit->Act->World->Prop}
  (hK:∀a' w',HI E w0 M Z0 s hs us D' a' w'->K a' w'):wpOp P ops Q i K a w:=by
 obtain ⟨A,hh,tm,al,df,sz,hz,hfr⟩:=hi
 obtain ⟨t,kn,g1,g2,g3⟩:=hok
 have hbeg:=oo.take us i
 have tm':∀i' x,a.tmps[i']?=some x->V2 E.cells w A (jx s.sl (bs.getD i 0).testBit hs (us.take i) 0 i') x:=by
  intro i' x hx
  rcases oM (sl:=s.sl) (hs:=hs) (j:=0) (t:=i') hanc hbeg with h | h
  ·rw [h];exact trivial
  ·rw [h];exact tm i' x hx
 have hput:∀i',jx s.sl D' hs us 0 i'=if o.dst=some i' then u.v else jx s.sl D hs us 0 i':=fun i'=>zb (t:=i') hf ho hu (by rw [Nat.zero_add];exact h1) (fun l hl=>h2 l (by rw [Nat.zero_add] at hl;exact hl))
 have fin:∀(A':cD) (w':World) (cv:Value),Hp E.cells w0 M A' (ng s.hp s.nx D' us) w'->(∀i' x,a.tmps[i']?=some x->V2 E.cells w' A' (jx s.sl D hs us 0 i') x)->V2 E.cells w' A' u.v cv->
   (∀r,A'.al r->A.al r∨(s.nx+64*i<=r/\r<s.nx+64*i+64))->A'.Z=A.Z->F2 (V2 E.cells w' A') s.fr M.sv->HI E w0 M Z0 s hs us D' (a.put o.dst cv) w':=by
  intro A' w' cv e1 e2 e3 e4 e5 e6
  refine ⟨A',e1,fun i' x hx=>?_,fun r hr=>?_,?_,?_,e5.trans hz,e6⟩
  ·rw [hput]
   cases hd:o.dst with
   | none=>
    rw [hd] at hx
    rw [if_neg (by simp)]
    exact e2 i' x hx
   | some d=>
    rw [hd] at hx
    simp only [Act.put] at hx
    rw [Array.getElem?_setIfInBounds] at hx
    by_cases hdi:d=i'
    ·subst hdi
     rw [if_pos rfl]
     split at hx
     ·split at hx
      ·injection hx with hx;subst hx;exact e3
      ·cases hx
     ·rename_i hn;exact (hn rfl).elim
    ·rw [if_neg (by simpa using hdi)]
     rw [if_neg hdi] at hx
     exact e2 i' x hx
  ·rcases e4 r hr with h | h
   ·rcases al r h with h | ⟨j,hj,h⟩
    ·exact .inl h
    ·refine .inr ⟨j,?_,h⟩
     by_cases hji:j=i
     ·subst hji;exact h1
     ·rw [h2 j hji];exact hj
   ·exact .inr ⟨i,h1,h⟩
  ·cases hd:o.dst<;>exact df
  ·cases hd:o.dst<;>simpa [Act.put] using sz
 have hD0:∀r,s.nx+64*i<=r->r<s.nx+64*i+64->¬A.al r:=by
  intro r hr1 hr2 ha
  rcases al r ha with h | ⟨j,hj,h3,h4⟩
  ·omega
  ·have :j=i:=by omega
   subst this;rw [h0] at hj;cases hj
 unfold wpOp
 rw [hops]
 cases t with
 | false=>
  have hu':=g3 rfl
  have h:=mm tm' sz g1
  ·simp only [h]
   refine hK _ _ (fin A w undef ?_ tm (by rw [hu'];exact (show V0 E.cells w A .undef undef from rfl).v2) (fun r h=>.inl h) rfl hfr)
   rw [zi hu (by rw [hu'];simp) h0 h1 h2,hu']
   exact hh
 | true=>
  obtain ⟨hlen,hev⟩:=g2 rfl
  have h:=mm tm' sz g1
  ·simp only [h,if_true]
   left
   have hrun:=hev (ng s.hp s.nx D us) (rQ hanc hbeg) (fun v rs=>if v=u.v/\rs=u.rs then some [] else none)
   simp only [and_self,if_true] at hrun
   obtain ⟨v,rs,q1,q2⟩:=kT (M:=M) (w0:=w0) hT hG hh (xU tm' sz) hrun
   simp only at q1
   split at q1
   ·rename_i hvr
    obtain ⟨rfl,rfl⟩:=hvr
    refine q2 (fun r hr1 hr2=>hD0 r hr1 (by omega)) K Q fun cv w' A' e1 e2 e3 e4=>hK _ _ (fin A' w' cv ?_ (fun i' x hx=>(tm i' x hx).step e2 hh (fun _ h=>h)) e3 (fun r hr=>?_) e2.Z (hfr.mono fun _ _ h=>h.step e2 hh (fun _ h=>h)))
    ·rw [zi hu hlen h0 h1 h2];exact e1
    ·rcases e4 r hr with h | h
     ·exact .inl h
     ·exact .inr (by omega)
   ·cases q1
theorem mu:∀(os:List Oper) (bs:List Nat),(masks os bs).length=bs.length+os.length
 | [],bs=>by simp [masks]
 | o::os,bs=>by simp only [masks,mu os,List.length_append,List.length_cons,List.length_nil];omega
theorem qE:∀(os:List Oper) (bs:List Nat),oo bs (masks os bs)
 | [],bs=>oo.refl bs
 | o::os,bs=>fun i x hx=>qE os _ i x (oo.append bs _ i x hx)
theorem nD:∀{os:List Oper} {bs:List Nat} {l:Nat} {o:Oper},os[l]?=some o->∃pre,oo pre (masks os bs)/\(masks os bs)[bs.length+l]?=some (jA pre o.after.toList)
 | [],bs,l,o,h=>by simp at h
 | o'::os,bs,0,o,h=>by
  simp at h
  subst h
  refine ⟨bs,qE _ _,?_⟩
  simp only [masks]
  exact qE os _ _ _ (by simp)
 | o'::os,bs,l+1,o,h=>by
  obtain ⟨pre,h1,h2⟩:=nD (os:=os) (bs:=bs++[jA bs o'.after.toList]) (l:=l) (o:=o) (by simpa using h)
  refine ⟨pre,h1,?_⟩
  simp only [masks]
  rw [<-h2];congr 1;simp;omega
theorem lN {bs:List Nat}{l:Nat}:∀{es:List Edge},(jA bs es).testBit l=true->∃e∈es,Region.binds .any e=true/\(l=e.on∨(bs.getD e.on 0).testBit l=true)
 | [],h=>by simp [jA] at h
 | e::es,h=>by
  simp only [jA] at h
  cases hb:Region.binds .any e<;>simp only [hb,aO,aR] at h
  ·obtain ⟨e',h1,h2⟩:=lN h
   exact ⟨e',by simp [h1],h2⟩
  ·rw [Nat.testBit_or,Nat.testBit_or] at h
   simp only [Bool.or_eq_true] at h
   rcases h with h | h | h
   ·obtain ⟨e',h1,h2⟩:=lN h
    exact ⟨e',by simp [h1],h2⟩
   ·rw [Nat.testBit_two_pow] at h
    exact ⟨e,by simp,hb,.inl (by have:=of_decide_eq_true h;omega)⟩
   ·exact ⟨e,by simp,hb,.inr h⟩
theorem jS:∀{os:List Oper} {i l:Nat} {o:Oper},kK os i=true->os[l]?=some o->∀e∈o.after.toList,Region.binds .any e=true->e.on<i+l
 | [],i,l,o,_,h=>by simp at h
 | o'::os,i,0,o,hb,h=>by
  simp at h
  subst h
  simp only [kK,Bool.and_eq_true,List.all_eq_true] at hb
  intro e he hbe
  have:=hb.1 e he
  rw [hbe] at this
  exact Nat.blt_eq.mp (by simpa using this)
 | o'::os,i,l+1,o,hb,h=>by
  simp only [kK,Bool.and_eq_true] at hb
  have:=jS hb.2 (l:=l) (o:=o) (by simpa using h)
  intro e he hbe
  have:=this e he hbe
  omega
theorem qI:∀{bs:List Nat} {i l b:Nat},qY bs i=true->bs[l]?=some b->b=2^(i+l) - 1
 | [],i,l,b,_,h=>by simp at h
 | b'::bs,i,0,b,hb,h=>by
  simp at h
  subst h
  simp only [qY,Bool.and_eq_true] at hb
  exact Nat.eq_of_beq_eq_true hb.1
 | b'::bs,i,l+1,b,hb,h=>by
  simp only [qY,Bool.and_eq_true] at hb
  have:=qI hb.2 (l:=l) (b:=b) (by simpa using h)
  rw [this];congr 2;omega
def Closed (ops:Array Oper)(listed:Array Bool):Prop:=∀(i:Nat),listed.getD i false=true->∀l,((masks ops.toList []).getD i 0).testBit l=true->listed.getD l false=true
theorem eZ {ops:Array Oper}{listed:Array Bool}(hc:Closed ops listed){i:Nat}(hr:i∈Region.ready .any ops listed):∀l,((masks ops.toList []).getD i 0).testBit l=true->listed.getD l false=true:=by
 intro l hl
 obtain ⟨h0,o,ho,hall⟩:=mem_ready.1 hr
 have ho':ops.toList[i]?=some o:=by simpa using ho
 obtain ⟨pre,h1,h2⟩:=nD (bs:=[]) ho'
 rw [List.length_nil,Nat.zero_add] at h2
 rw [List.getD_eq_getElem?_getD,h2] at hl
 obtain ⟨e,he,hb,hle⟩:=lN (show (jA pre o.after.toList).testBit l=true from hl)
 have hle':=hall e (by simpa using he) hb
 rcases hle with rfl | hle
 ·exact hle'
 ·refine hc e.on hle' l ?_
  rw [List.getD_eq_getElem?_getD] at hle ⊢
  cases hp:pre[e.on]? with
  | none=>rw [hp] at hle;simp at hle
  | some b=>rw [hp] at hle;rw [h1 _ _ hp];exact hle
theorem Closed.set {ops:Array Oper}{listed:Array Bool}(hc:Closed ops listed){i:Nat}(hr:i∈Region.ready .any ops listed):Closed ops (listed.setIfInBounds i true):=by
 intro j hj l hl
 by_cases hij:i=j
 ·subst hij;exact getD_set_true (eZ hc hr l hl)
 ·rw [getD_set_ne false hij] at hj
  exact getD_set_true (hc j hj l hl)
theorem pU {ops:Array Oper}{i:Nat}{o:Oper}(ho:ops[i]?=some o){K:Act->World->Prop}{Q:Exit->Act->World->Prop}{a:Act}{w:World}
  (h:if Region.wanted o (yielded ops a.tmps) then o.wp P a w K Q else K (a.put o.dst undef) w):wpOp P ops Q i K a w:=by
 unfold wpOp
 rw [ho]
 simp only
 split
 ·rename_i hw;rw [if_pos hw] at h;exact .inl h
 ·rename_i hw;rw [if_neg hw] at h;exact h
theorem oW (hT:∀t i,E.T t=some i->fX P E t i)(hG:∀g c,c∈E.G g->Valid P E g c)(hM:mG P E){ops:Array Oper}{Q:Exit->Act->World->Prop}{h:Nat}(hback:kK ops.toList 0=true)
  (htail:∀i,h<i->i<ops.size->∀l,l<i->((masks ops.toList []).getD i 0).testBit l=true):∀(m:Nat) {n:Nat} {A:cD} {s:St} {a:Act} {w:World} {k:St->aD} {listed:Array Bool},n+m=ops.size->h<=n->listed.size=ops.size->
  (∀j,j<ops.size->(listed.getD j true=false↔n<=j))->Closed ops listed->fL E w0 M A s a w->iz E ops.toList (ops.toList.drop n) s k=some ans->
  (∀s' a' w' A',k s'=some ans->fL E w0 M A' s' a' w'->A'.Z=A.Z->Q .normal a' w')->wpAny P .any ops Q m listed a w:=by
 intro m
 induction m with
 | zero=>
  intro n A s a w k listed hn hhn hls hl hc sm hr hQ
  have hd:ops.toList.drop n=[]:=by simp;omega
  rw [hd] at hr
  refine ⟨?_,hQ s a w A hr sm rfl⟩
  rw [List.eq_nil_iff_forall_not_mem]
  intro i hi
  obtain ⟨h0,o,ho,_⟩:=mem_ready.1 hi
  have hlt:=(Array.getElem?_eq_some_iff.1 ho).1
  have:=(hl i hlt).1 h0
  omega
 | succ m ih=>
  intro n A s a w k listed hn hhn hls hl hc sm hr hQ
  have hlt:n<ops.size:=by omega
  have hon:ops[n]?=some ops[n]:=Array.getElem?_eq_getElem hlt
  have hnr:n∈Region.ready .any ops listed:=by
   refine mem_ready.2 ⟨(hl n hlt).2 (Nat.le_refl _),_,hon,fun e he hb=>?_⟩
   have hlt':=jS hback (l:=n) (o:=ops[n]) (by simpa using hon) e (by simpa using he) hb
   have hne:¬listed.getD e.on true=false:=fun h=>by have:=(hl e.on (by omega)).1 h;omega
   have hin:e.on<listed.size:=by omega
   simpa [hin] using hne
  refine ⟨fun he=>(by rw [he] at hnr;cases hnr),fun i hi=>?_⟩
  have hin:i=n:=by
   obtain ⟨h0,o,ho,_⟩:=mem_ready.1 hi
   have hil:=(Array.getElem?_eq_some_iff.1 ho).1
   have hni:=(hl i hil).1 h0
   rcases Nat.lt_or_ge n i with h | h
   ·have:=eZ hc hi n (htail i (by omega) hil n h)
    have h2:=(hl n hlt).2 (Nat.le_refl _)
    have hin:n<listed.size:=by omega
    simp [hin] at this h2
    rw [this] at h2;cases h2
   ·omega
  subst hin
  have hdrop:ops.toList.drop i=ops[i]::ops.toList.drop (i+1):=by
   rw [List.drop_eq_getElem_cons (by simpa using hlt)];simp
  rw [hdrop] at hr
  simp only [iz] at hr
  have next:∀{A':cD} {s':St} {a':Act} {w':World},fL E w0 M A' s' a' w'->A'.Z=A.Z->iz E ops.toList (ops.toList.drop (i+1)) s' k=some ans->wpAny P .any ops Q m (listed.setIfInBounds i true) a' w':=by
   intro A' s' a' w' sm' hz hr'
   refine ih (n:=i+1) (by omega) (by omega) (by simpa using hls) (fun j hj=>?_) (hc.set hi) sm' hr' fun s'' a'' w'' A'' e1 e2 e3=>hQ s'' a'' w'' A'' e1 e2 (e3.trans hz)
   by_cases hij:i=j
   ·subst hij
    have :i<listed.size:=by omega
    simp [this]
   ·rw [getD_set_ne true hij,hl j hj];omega
  refine pU hon ?_
  obtain ⟨go,kn,h2,hkn,h1⟩:=pJ sm hr
  rw [hkn] at h2
  cases go<;>simp only [aO,aR] at h2
  case true=>
   rw [if_pos h1]
   exact kO hT hG hM sm h2 _ Q fun v s' cv w' A' g1 q1 q2 q3=>next (q1.put q2) q3 g1
  case false=>
   rw [if_neg (by simp [h1])]
   exact next (sm.put (v:=.undef) (cv:=undef) rfl) rfl h2
theorem fL.drew {A:cD}{s:St}{a:Act}{w:World}(sm:fL E w0 M A s a w):fL E w0 M A s a { w with drawn:=w.drawn+1 }:=by
 have hh:=sm.hp
 have st:Step A A w { w with drawn:=w.drawn+1 } (fun _=>False):=⟨rfl,fun _ h=>h,fun _ _=>rfl,Nat.le_refl _,fun _ _ _=>rfl,fun _ _ _ _=>Iff.rfl,fun r b h hn=>by
  rcases h with h | h
  ·exact h.elim
  ·exact (h (hh.xd hn)).elim⟩
 refine ⟨⟨hh.lt,hh.dj,hh.al,fun r=>(hh.rt r).step st hh (fun h=>h) (fun hd=>.inr fun b h=>?_) (fun cs _ v _=>?_),⟨hh.fr.os,hh.fr.tape,hh.fr.output,hh.fr.size,hh.fr.block⟩,hh.nm,hh.zf,hh.pn⟩,fun i x hx=>(sm.tm i x hx).step st hh (fun _ h=>h),sm.nx,sm.df,sm.sz,sm.fr.mono fun _ _ h=>h.step st hh (fun _ h=>h)⟩
 ·have:=hh.rt r;rw [hd] at this;exact this b h
 ·cases v with
  | sl d=>cases d<;>simp [indep]
  | cS d=>cases d<;>simp [indep]
  | gm=>exact id
  | _=>trivial
theorem pG {sl:Nat->V}{D:Nat->Bool}{t:Nat}(hD:∀j,D j=false):∀{hs:List Oper} {us:List Out} {j:Nat},jx sl D hs us j t=.dead∨jx sl D hs us j t=sl t
 | [],us,j=>.inr rfl
 | o::os,us,j=>by
  simp only [jx]
  cases o.dst with
  | none=>exact pG hD
  | some d=>
   simp only
   cases Nat.beq t d with
   | false=>exact pG hD
   | true=>simp only [aO,hD j];exact .inl rfl
theorem vf {sl:Nat->V}{D:Nat->Bool}{t:Nat}:∀{hs:List Oper} {us:List Out} {j:Nat},(∀i,j<=i->i<j+hs.length->D i=true)->jx sl D hs us j t=jx sl always hs us j t
 | [],us,j,_=>rfl
 | o::os,us,j,h=>by
  have ih:=vf (sl:=sl) (D:=D) (t:=t) (hs:=os) (us:=us.tail) (j:=j+1) (fun i h1 h2=>h i (by omega) (by simp;omega))
  simp only [jx,ih,h j (Nat.le_refl _) (by simp),always]
theorem rY {l:Nat}:∀{us:List Out} {j:Nat},us.length<=j->yF us j l=.dead
 | [],j,h=>rfl
 | u::us,0,h=>by simp at h
 | u::us,j+1,h=>rY (us:=us) (j:=j) (by simpa using h)
theorem min_mem:∀{rem:List Nat},rem≠[]->∃i∈rem,∀j∈rem,i<=j
 | [],h=>(h rfl).elim
 | [a],_=>⟨a,by simp,fun j hj=>by simp at hj;omega⟩
 | a::b::rem,_=>by
  obtain ⟨i,hi,hj⟩:=min_mem (rem:=b::rem) (by simp)
  by_cases h:a<=i
  ·refine ⟨a,by simp,fun j hm=>?_⟩
   rcases List.mem_cons.1 hm with rfl | hm
   ·exact Nat.le_refl _
   ·have:=hj j hm;omega
  ·refine ⟨i,List.mem_cons_of_mem _ hi,fun j hm=>?_⟩
   rcases List.mem_cons.1 hm with rfl | hm
   ·omega
   ·exact hj j hm
theorem vn {nt:Nat}{sl sl':Nat->V}(h:∀t,sl t=.dead∨sl t=sl' t){x:Operand}{v:V}(hv:cV nt sl x=v)(hn:v≠.dead):cV nt sl' x=v:=by
 cases x with
 | tmp t=>
  simp only [cV,look] at hv ⊢
  cases hb:Nat.blt t nt with
  | true=>
   rw [hb] at hv
   simp only [aO] at hv ⊢
   rcases h t with h | h
   ·rw [h] at hv;exact (hn hv.symm).elim
   ·rw [<-h];exact hv
  | false=>rw [hb] at hv;exact hv
 | const c=>exact hv
 | global g=>exact hv
 | func f=>exact hv
structure Early (E:Env)(hs:List Oper)(s:St)(us:List Out)(b:Nat)(x:Operand)(r0 q0:Nat)(cs0:List V):Prop where
 x:cV E.nt (jx s.sl b.testBit hs us 0) x=.bP r0 q0
 box:ng s.hp s.nx b.testBit us r0=.box cs0
theorem Bn (hT:∀t i,E.T t=some i->fX P E t i){ops:Array Oper}{hs:List Oper}{bs:List Nat}{s:St}{us:List Out}{D:Nat->Bool}{a:Act}{w:World}{i b r0 q0 g0:Nat}{o:Oper}{u:Out}{x y:Operand}{cs0:List V}
  (hi:HI E w0 M Z0 s hs us D a w) (hanc:∀j,(bs.getD i 0).testBit j=true->D j=true) (hok:oV E ops.toList hs bs s.sl s.hp s.nx i o u (us.take i))
  (he:Early E hs s us b x r0 q0 cs0) (hbD:∀j,b.testBit j=true->D j=true)
  (hl:oR E.nt (jx s.sl (bs.getD i 0).testBit hs (us.take i) 0) r0 x y o=true) (hg:∃q,a.eval x=.pointer (some ⟨g0,q,none⟩)) :
  o.guard=none/\∃v,(execOp a.eval o).run P w=.ok (.value v) w/\∀w2:World,(∀c,c≠g0->w2.heap[c]?=w.heap[c]?)->(execOp a.eval o).run P w2=.ok (.value v) w2:=by
 obtain ⟨A,hh,tm,al,df,sz,hz,_⟩:=hi
 obtain ⟨t,kn,g1,g2,g3⟩:=hok
 have hbeg:=oo.take us i
 have hxD:cV E.nt (jx s.sl D hs us 0) x=.bP r0 q0:=vn (fun t=>oM (sl:=s.sl) (hs:=hs) (j:=0) (t:=t) hbD (oo.refl us)) he.x (by simp)
 have hv0:V0 E.cells w A (.bP r0 q0) (a.eval x):=by have:=xU tm sz x;rw [hxD] at this;exact this
 obtain ⟨_,gg,e1,e2⟩:=hv0
 obtain ⟨qq,hgq⟩:=hg
 obtain rfl:gg=g0:=by rw [e2] at hgq;injection hgq with h;injection h with h;injection h
 have hroot:=hh.rt r0
 rw [(rQ hbD (oo.refl us)).row he.box (by simp)] at hroot
 obtain ⟨_,g',te0,cur0,m1,m2,m3,m4⟩:=hroot
 obtain rfl:gg=g':=by rw [e1] at m1;injection m1 with m1;injection m1 with m1;injection m1
 have hN0:A.N r0 gg:=(m2 gg).2 rfl
 have tm':∀i' x,a.tmps[i']?=some x->V2 E.cells w A (jx s.sl (bs.getD i 0).testBit hs (us.take i) 0 i') x:=by
  intro i' x hx
  rcases oM (sl:=s.sl) (hs:=hs) (j:=0) (t:=i') hanc hbeg with h | h
  ·rw [h];exact trivial
  ·rw [h];exact tm i' x hx
 have ha:∀z,V2 E.cells w A (cV E.nt (jx s.sl (bs.getD i 0).testBit hs (us.take i) 0) z) (a.eval z):=xU tm' sz
 unfold oR at hl
 split at hl
 ·cases hl
 rename_i hgd
 split at hl
 ·cases hl
 simp only [Bool.and_eq_true] at hl
 have hl3:=hl.2.2
 refine ⟨hgd,?_⟩
 have ht:t=true:=by
  have:=g1 (fun t _=>bif t then some [] else none)
  rw [hgd] at this
  cases t with
  | true=>rfl
  | false=>simp [guarded] at this
 subst ht
 obtain ⟨_,hev⟩:=g2 rfl
 have h:=hev (ng s.hp s.nx D us) (rQ hanc hbeg) (fun _ _=>some [])
 split at hl3
 ·
  rename_i z n hop
  rw [hop] at h
  simp only [aZ] at h
  split at h
  ·rename_i vs hz'
   have hc:=ha z
   rw [hz'] at hc
   obtain ⟨l,h1,h2⟩:=hc
   split at h
   ·rename_i v hv
    obtain ⟨y',hy,_⟩:=h2.get hv
    exact ⟨y',by simp [execOp,hop,h1,Instr.extract,hy],fun w2 _=>by simp [execOp,hop,h1,Instr.extract,hy]⟩
   ·cases h
  ·cases h
 ·
  rename_i t z f hop
  rw [hop] at h
  have hx:=ha z
  simp only [aZ] at h
  split at h
  ·cases h
  ·rename_i ti ht
   split at h
   ·cases h
   ·rename_i p hf
    obtain ⟨ii,d,zz,h1,h2,h3,h4,h5,h6,hby,h7,h8,h9,h10,hpl,h11,h12,h13,h14,h15⟩:=hT t ti ht
    cases hag:ti.agg
    case false=>rw [(h9 hag).2] at hf;simp at hf
    obtain ⟨fs,rfl,hfs⟩:=h10 hag
    obtain ⟨fl,g1,g2,g3,fi,g4⟩:=hfs f p hf
    obtain ⟨ii',d',z',k1,k2,k3,k4,k5,k6,kby,k7,k8,k9,k10,kpl,k11,k12,tX,tU,k15⟩:=hT p.2 fi g4
    have hplace:∀(W:World) b q,(fieldPlace ⟨b,q,none⟩ fl).run P W=.ok ⟨b,q+p.1,none⟩ W:=by
     intro W b q
     have :ii'.size≠0:=by omega
     simp [fieldPlace,g3,gk k1,this,g2,ow]
    have hrun:∀(W:World) b q,a.eval z=.pointer (some ⟨b,q,none⟩)->(execOp a.eval o).run P W=.ok (.value (.pointer (some ⟨b,q+p.1,none⟩))) W:=by
     intro W b q he
     simp [execOp,hop,he,Instr.fieldAt,run_underlying h2,g1,Instr.sureAddr,hplace]
    split at h
    ·rename_i r q hr
     rw [hr] at hx
     obtain ⟨hal,g,f1,f2⟩:=(show V0 E.cells w A (.bP r q) (a.eval z) from hx)
     exact ⟨_,hrun w _ _ f2,fun w2 _=>hrun w2 _ _ f2⟩
    ·rename_i r sz j q hr
     rw [hr] at hx
     obtain ⟨hal,g,n,c,f1,fj,f2⟩:=(show V0 E.cells w A (.fM r sz j q) (a.eval z) from hx)
     exact ⟨_,hrun w _ _ f2,fun w2 _=>hrun w2 _ _ f2⟩
    ·rename_i dd es cs q hr
     rw [hr] at hx
     obtain ⟨hal,bb,q2,vv,f1,f2,f3⟩:=(show V0 E.cells w A (.cS dd es cs q) (a.eval z) from hx)
     exact ⟨_,hrun w _ _ f1,fun w2 _=>hrun w2 _ _ f1⟩
    ·cases h
 ·
  rename_i z hop
  exact ⟨a.eval z,by simp [execOp,hop],fun w2 _=>by simp [execOp,hop]⟩
 ·
  rename_i t z lo hi hop
  rw [hop] at h
  have hx:=ha z
  simp only [aZ,gS] at h
  cases hz':cV E.nt (jx s.sl (bs.getD i 0).testBit hs (us.take i) 0) z<;>rw [hz'] at hl3 h hx<;>try (simp only at hl3;cases hl3;done)
  all_goals
   simp only at h
   split at h
   ·rename_i el hel
    obtain ⟨hu,ie,hie⟩:=iS hT hh ha hel
    obtain ⟨ii',d',z',k1,k2,k3,k4,k5,k6,kby,k7,k8,k9,k10,kpl,k11,k12,tX,tU,k15⟩:=hT el ie hie
    have hcl:(E.cells el).length=ii'.size:=by rw [iy hie,k4]
    obtain ⟨dd,e,xs,q1,q2⟩:=iF hh h
    obtain ⟨q3,q4⟩:=q2 hx
    unfold lZ at q1
    cases he:Nat.beq e el<;>simp only [he,aO,aR] at q1
    ·cases q1
    obtain rfl:=Nat.eq_of_beq_eq_true he
    obtain ⟨A1,m,c,p1,p2,p3,p4⟩:=q4.inv
    have hm:xs.length=m:=p2
    subst hm
    obtain ⟨l,g1,hlo⟩:=eS hT hh ha q1
    obtain ⟨hg',g2,hhi⟩:=eS hT hh ha g1
    by_cases h0:0<=l
    ·by_cases h1:l<=hg'
     ·by_cases h2:hg'<=(xs.length:Int)
      ·have hrun:∀W:World,(execOp a.eval o).run P W=.ok (.value (.slice (if c=l.toNat then A1 else A1.map (·.add (l.toNat*(E.cells e).length))) (hg'.toNat - l.toNat) (c - l.toNat))) W:=fun W=>by
        have:=kf (P:=P) (w:=W) (b:=true) (len:=xs.length) (cap:=c) hlo hhi h0 h1 h2 p3
        simp [execOp,hop,p1,Instr.sliceAt,Instr.slice,run_underlying hu,this,gk k1,hcl]
       exact ⟨_,hrun w,fun w2 _=>hrun w2⟩
      ·simp [h0,h1,h2] at g2
     ·simp [h0,h1] at g2
    ·simp [h0] at g2
   ·cases h
 ·
  rename_i t z hop
  rw [hop] at h
  have hx:=ha z
  simp only [aZ,iw] at h
  split at h
  ·cases h
  ·rename_i ti ht
   obtain ⟨ii,d,zz,h1,h2,h3,h4,h5,h6,hby,h7,h8,h9,h10,hpl,h11,h12,h13,h14,h15⟩:=hT t ti ht
   have one:∀{xs:List Value},xs.length=ti.cells.length->(∃c q,c≠gg/\a.eval z=.pointer (some ⟨c,q,none⟩)/\∀j v,xs[j]?=some v->w.cell? ⟨c,q+j,none⟩=some v)->
     ∃v,(execOp a.eval o).run P w=.ok (.value v) w/\∀w2:World,(∀c,c≠gg->w2.heap[c]?=w.heap[c]?)->(execOp a.eval o).run P w2=.ok (.value v) w2:=by
    intro xs hl' ⟨c,q,hc,he',hcell⟩
    have hl2:xs.length=ii.size:=by rw [hl',h4]
    have hagd:jh d=false->xs.length=1:=by intro hd;rw [hl2,h4];exact (h9 (by rw [<-h8];exact hd)).1
    refine ⟨mkValue (jh d) xs,?_,fun w2 hw2=>?_⟩
    ·simp [execOp,hop,he',gx h1 h2 hl2 hagd hcell]
    ·have hcell2:∀j v,xs[j]?=some v->w2.cell? ⟨c,q+j,none⟩=some v:=fun j v hj=>by rw [World.cell?_of_block (hw2 c hc)];exact hcell j v hj
     simp [execOp,hop,he',gx h1 h2 hl2 hagd hcell2]
   cases hz':cV E.nt (jx s.sl (bs.getD i 0).testBit hs (us.take i) 0) z<;>rw [hz'] at hl3 h hx<;>try (simp only at hl3;cases hl3;done)
   case bP r q=>
    simp only at h hl3
    obtain ⟨hal,g,f1,f2⟩:=(show V0 E.cells w A (.bP r q) (a.eval z) from hx)
    split at h
    ·rename_i cs hb
     cases hle:Nat.ble (q+ti.cells.length) cs.length<;>simp only [hle,aO,aR] at h
     ·cases h
     have hle':=Nat.le_of_ble_eq_true hle
     have hroot:=hh.rt r
     rw [hb] at hroot
     obtain ⟨_,g',te,cur,k1,k2,k3,k4⟩:=hroot
     obtain rfl:g=g':=by rw [f1] at k1;injection k1 with k1;injection k1 with k1;injection k1
     refine one (xs:=cut cur.toList q ti.cells.length) (by rw [<-(k4.cut q ti.cells.length).length,eX hle']) ⟨g,q,?_,f2,fun j v hj=>?_⟩
     ·rintro rfl
      have :r=r0:=hh.dj r r0 _ ((k2 _).2 rfl) hN0
      subst this;simp at hl3
     ·rw [gi k3]
      simpa using (nG hj).1
    ·cases h
   case cS dd es cs q=>
    cases dd with
    | some r=>simp only at hl3;cases hl3
    | none=>
     simp only at h
     obtain ⟨hal,c,qq,vv,f1,f2,f3⟩:=(show V0 E.cells w A (.cS none es cs q) (a.eval z) from hx)
     cases hle:Nat.ble (q+ti.cells.length) es.length<;>simp only [hle,aO,aR] at h
     ·cases h
     have hle':=Nat.le_of_ble_eq_true hle
     refine one (xs:=(List.range ti.cells.length).map fun j=>vv (q+j)) (by simp) ⟨c,qq+q,?_,f1,fun j v hj=>?_⟩
     ·rintro rfl;exact f2.2.2 r0 hN0
     ·have hj':j<ti.cells.length:=by
       have:=(List.getElem?_eq_some_iff.1 hj).1
       simpa using this
      simp [hj'] at hj
      obtain ⟨kk,hkk⟩:∃kk,es[q+j]?=some kk:=⟨es[q+j]'(by omega),List.getElem?_eq_getElem (by omega)⟩
      rw [Nat.add_assoc,(f3 _ _ hkk).1,hj]
 ·cases hl3
theorem uj (hT:∀t i,E.T t=some i->fX P E t i)(hG:∀g c,c∈E.G g->Valid P E g c){ops:Array Oper}{hs:List Oper}{bs:List Nat}{s:St}{us:List Out}{D D':Nat->Bool}{a:Act}{w:World}{i b r0 q0 g0:Nat}{o:Oper}{u:Out}{x y:Operand}{cs0:List V}
  (hf:eE (iL hs)=true) (hi:HI E w0 M Z0 s hs us D a w) (ho:hs[i]?=some o) (hops:ops[i]?=some o) (hu:us[i]?=some u) (h0:D i=false) (h1:D' i=true) (h2:∀l,l≠i->D' l=D l)
  (hanc:∀j,(bs.getD i 0).testBit j=true->D j=true) (hok:oV E ops.toList hs bs s.sl s.hp s.nx i o u (us.take i))
  (he:Early E hs s us b x r0 q0 cs0) (hbD:∀j,b.testBit j=true->D j=true)
  (hl:oR E.nt (jx s.sl (bs.getD i 0).testBit hs (us.take i) 0) r0 x y o=true) (hg:∃q,a.eval x=.pointer (some ⟨g0,q,none⟩)) :
  ∃v,HI E w0 M Z0 s hs us D' (a.put o.dst v) w/\(a.put o.dst v).eval x=a.eval x/\(a.put o.dst v).eval y=a.eval y/\
   ∀(w2:World),(∀c,c≠g0->w2.heap[c]?=w.heap[c]?)->∀(K:Act->World->Prop) (Q:Exit->Act->World->Prop),K (a.put o.dst v) w2->wpOp P ops Q i K a w2:=by
 obtain ⟨hgd,v,hv,hv2⟩:=Bn (y:=y) hT hi hanc hok he hbD hl hg
 have hstep:=qF (D':=D') hT hG hf hi ho hops hu h0 h1 h2 hanc hok (K:=fun a' w'=>HI E w0 M Z0 s hs us D' a' w') (Q:=fun _ _ _=>False) (fun a' w' h=>h)
 have hwant:Region.wanted o (yielded ops a.tmps)=true:=by simp [Region.wanted,hgd]
 have hne:∀z:Operand,(∀d,o.dst=some d->fJ z d=false)->(a.put o.dst v).eval z=a.eval z:=by
  intro z hz
  refine Act.eval_put fun d hd he=>?_
  have:=hz d hd
  rw [he] at this
  simp [fJ] at this
 have hxy:∀d,o.dst=some d->fJ x d=false/\fJ y d=false:=by
  intro d hd
  unfold oR at hl
  rw [hgd,hd] at hl
  simp only [Bool.and_eq_true,Bool.not_eq_true'] at hl
  exact ⟨hl.1,hl.2.1⟩
 refine ⟨v,?_,hne x fun d hd=>(hxy d hd).1,hne y fun d hd=>(hxy d hd).2,fun w2 hw2 K Q hK=>?_⟩
 ·unfold wpOp at hstep
  rw [hops] at hstep
  simp only [hwant,if_true] at hstep
  rcases hstep with h | ⟨_,h⟩
  ·unfold Oper.wp at h
   rw [hv] at h
   exact h
  ·obtain ⟨_,_,h⟩:=h;exact h.elim
 ·unfold wpOp
  rw [hops]
  simp only [hwant,if_true]
  left
  unfold Oper.wp
  rw [hv2 w2 hw2]
  exact hK
theorem qa {nt:Nat}{hs:List Oper}{bs:List Nat}{sl:Nat->V}{us:List Out}{r0:Nat}{x y:Operand}{m:Nat}:∀{os:List Oper} {i:Nat},rT nt hs bs sl us r0 x y m os i=true->
  ∀(l:Nat) (o:Oper),os[l]?=some o->m.testBit (i+l)=true∨oR nt (jx sl (bs.getD (i+l) 0).testBit hs (us.take (i+l)) 0) r0 x y o=true
 | [],i,_,l,o,ho=>by simp at ho
 | o'::os,i,h,l,o,ho=>by
  simp only [rT,Bool.and_eq_true,Bool.or_eq_true] at h
  cases l with
  | zero=>simp at ho;subst ho;exact h.1
  | succ l=>
   have:=qa h.2 l o (by simpa using ho)
   rw [show i+1+l=i+(l+1) by omega] at this
   exact this
theorem yL {hs:List Oper}{bs:List Nat}{s:St}{us:List Out}{h:Nat}{o:Oper}(hb:wY E.nt hs bs s.sl s.hp s.nx us h o=true) :
  ∃t x y r0 q0 cs0,o.guard=none/\o.dst=none/\o.op=.store t x y/\Early E hs s us (bs.getD h 0) x r0 q0 cs0/\
   ∀(l:Nat) (o:Oper),hs[l]?=some o->(bs.getD h 0).testBit l=true∨oR E.nt (jx s.sl (bs.getD l 0).testBit hs (us.take l) 0) r0 x y o=true:=by
 unfold wY at hb
 split at hb
 ·cases hb
 rename_i hg
 split at hb
 ·cases hb
 rename_i hd
 split at hb
 ·rename_i t x y hop
  split at hb
  ·rename_i r0 q0 hx
   split at hb
   ·rename_i cs0 hbx
    refine ⟨t,x,y,r0,q0,cs0,hg,hd,hop,⟨hx,hbx⟩,fun l o ho=>?_⟩
    have:=qa hb l o ho
    rwa [Nat.zero_add] at this
   ·cases hb
  ·cases hb
 ·cases hb
theorem Am (hT:∀t i,E.T t=some i->fX P E t i){A:cD}{s:St}{a:Act}{w:World}(sm:fL E w0 M A s a w){t:TypeId}{x y:Operand}{k:V->St->aD}{r q:Nat}{cs:List V}(h:jG E (.store t x y) s k=some ans)(hr:cV E.nt s.sl x=.bP r q)(hcs:s.hp r=.box cs) :
  ∃g cur,(∃q',a.eval x=.pointer (some ⟨g,q',none⟩))/\(Instr.storeAt t (a.eval x) (a.eval y)).run P w=.ok () (w.setRow g cur):=by
 have hh:=sm.hp
 have hx:=sm.ev x
 simp only [jG] at h
 split at h
 ·cases h
 rename_i i ht
 obtain ⟨ii,d,z,h1,h2,h3,h4,h5,h6,hby,h7,h8,h9,h10,hpl,h11,h12,h13,h14,h15⟩:=hT t i ht
 obtain ⟨new,g1,g2⟩:=jt h
 have hy:=g2 (sm.ev y)
 cases hl:Nat.beq new.length i.cells.length<;>simp only [hl,aO,aR] at g1
 ·cases g1
 have hl':=Nat.eq_of_beq_eq_true hl
 have hsz:(a.eval y).cells.size=ii.size:=by rw [<-Array.length_toList,<-hy.length,hl',h4]
 have hone:∀u∈(a.eval y).cells.toList,u.oneCell'=true:=by
  intro u hu
  obtain ⟨j,hj⟩:=List.getElem?_of_mem hu
  have:=hy.length
  have hjl:j<new.length:=by rw [this];exact (List.getElem?_eq_some_iff.1 hj).1
  obtain ⟨b,hb,hv⟩:=hy.get (List.getElem?_eq_getElem hjl)
  rw [hj] at hb;injection hb with hb;subst hb
  exact hv.2
 rw [hr] at g1 hx
 simp only [hcs] at g1
 cases hle:Nat.ble (q+new.length) cs.length<;>simp only [hle,aO,aR] at g1
 ·cases g1
 have hle':=Nat.le_of_ble_eq_true hle
 obtain ⟨hal,g,e1,e2⟩:=(show V0 E.cells w A (.bP r q) (a.eval x) from hx)
 have hroot:=hh.rt r
 rw [hcs] at hroot
 obtain ⟨_,g',te,cur,m1,m2,m3,m4⟩:=hroot
 obtain rfl:g=g':=by rw [e1] at m1;injection m1 with m1;injection m1 with m1;injection m1
 have hcl:cs.length=cur.size:=by rw [m4.length,Array.length_toList]
 have hst:=jD (P:=P) (t:=t) (g:=g) (q:=q) h1 hsz hone m3 (by omega)
 rw [<-e2] at hst
 exact ⟨g,_,⟨q,e2⟩,hst⟩
theorem HI.Ay {s:St}{hs:List Oper}{us:List Out}{D:Nat->Bool}{a:Act}{w:World}{h:Nat}(hi:HI E w0 M Z0 s hs us D a w)(hhs:hs.length=h)(hul:us.length=h)(hD:∀j,D j=true↔j<h) :
  ∃A1,fL E w0 M A1 { sl:=jx s.sl always hs us 0,hp:=ng s.hp s.nx always us,nx:=s.nx+64*h,fr:=s.fr } a w/\A1.Z=Z0:=by
 obtain ⟨A1,i1,i2,i3,i4,i5,i6,i7⟩:=hi
 have hhp:ng s.hp s.nx D us=ng s.hp s.nx always us:=by
  funext r
  unfold ng
  cases Nat.blt r s.nx with
  | true=>rfl
  | false=>
   simp only [aR,always,aO]
   by_cases hj:(r - s.nx) / 64<h
   ·rw [(hD _).2 hj];rfl
   ·have :D ((r - s.nx) / 64)=false:=by
     cases hd:D ((r - s.nx) / 64) with
     | false=>rfl
     | true=>exact absurd ((hD _).1 hd) hj
    rw [this,rY (by omega)];rfl
 refine ⟨A1,⟨by rw [<-hhp];exact i1,fun i x hx=>?_,fun r hr hal=>?_,i4,i5,i7⟩,i6⟩
 ·show V2 E.cells w A1 (jx s.sl always hs us 0 i) x
  rw [<-vf (D:=D) (fun i _ hi=>(hD i).2 (by omega))]
  exact i2 i x hx
 ·have hr':s.nx+64*h<=r:=hr
  rcases i3 r hal with h1 | ⟨j,h1,h2,h3⟩
  ·omega
  ·have:=(hD j).1 h1;omega
theorem jo {ops:Array Oper}(hback:kK ops.toList 0=true):∀{i j:Nat},i<ops.size->((masks ops.toList []).getD i 0).testBit j=true->j<i:=by
 intro i
 induction i using Nat.strongRecOn with
 | _ i ih=>
  intro j hi hj
  have ho:ops.toList[i]?=some ops[i]:=by simp [hi]
  obtain ⟨pre,h1,h2⟩:=nD (bs:=[]) ho
  rw [List.length_nil,Nat.zero_add] at h2
  rw [List.getD_eq_getElem?_getD,h2] at hj
  obtain ⟨e,he,hb,hle⟩:=lN (show (jA pre ops[i].after.toList).testBit j=true from hj)
  have hlt:=jS hback (l:=i) (o:=ops[i]) ho e he hb
  rcases hle with rfl | hle
  ·omega
  ·have :j<e.on:=by
    refine ih e.on (by omega) (by omega) ?_
    rw [List.getD_eq_getElem?_getD] at hle ⊢
    cases hp:pre[e.on]? with
    | none=>rw [hp] at hle;simp at hle
    | some b=>rw [hp] at hle;rw [h1 _ _ hp];exact hle
   omega
theorem yH (hT:∀t i,E.T t=some i->fX P E t i)(hG:∀g c,c∈E.G g->Valid P E g c)(hM:mG P E){ops:Array Oper}{h:Nat}{s:St}{k:St->aD}{Q:Exit->Act->World->Prop}{us:List Out}{oh:Oper}
  (hback:kK ops.toList 0=true) (hfresh:eE (iL (ops.toList.take h))=true) (hoh:ops[h]?=some oh)
  (htail:∀i,h<i->i<ops.size->∀l,l<i->((masks ops.toList []).getD i 0).testBit l=true) (g2:us.length=h)
  (g4:∀(l:Nat) (o:Oper),(ops.toList.take h)[l]?=some o->∃u,us[l]?=some u/\oV E ops.toList (ops.toList.take h) (masks ops.toList []) s.sl s.hp s.nx l o u (us.take l))
  (hb:wY E.nt (ops.toList.take h) (masks ops.toList []) s.sl s.hp s.nx us h oh=true)
  (g1:iz E ops.toList (ops.toList.drop h) { sl:=jx s.sl always (ops.toList.take h) us 0,hp:=ng s.hp s.nx always us,nx:=s.nx+64*h,fr:=s.fr } k=some ans)
  (hQ:∀s' a' w',k s'=some ans->At E w0 M Z0 s' a' w'->Q .normal a' w') :
  ∀(n:Nat) (rem:List Nat) (listed:Array Bool) (D:Nat->Bool) (a:Act) (w:World),rem.length=n->rem.Nodup->(∀j∈rem,j<h)->listed.size=ops.size->(∀j,j<ops.size->(listed.getD j true=false↔(j∈rem∨h<=j)))->
   (∀j,D j=true↔(j<h/\j∉rem))->Closed ops listed->HI E w0 M Z0 s (ops.toList.take h) us D a w->wpAny P .any ops Q (n+(ops.size - h)) listed a w:=by
 have hlt:h<ops.size:=(Array.getElem?_eq_some_iff.1 hoh).1
 have hhs:(ops.toList.take h).length=h:=by simp;omega
 have hget:∀i,i<h->∃o,ops[i]?=some o/\(ops.toList.take h)[i]?=some o:=by
  intro i hi
  refine ⟨_,Array.getElem?_eq_getElem (show i<ops.size by omega),?_⟩
  rw [List.getElem?_take,if_pos hi];simp [show i<ops.size by omega]
 obtain ⟨t,x,y,r0,q0,cs0,hgd,hdst,hop,he,hlate⟩:=yL hb
 have hdrop:ops.toList.drop h=oh::ops.toList.drop (h+1):=by
  rw [List.drop_eq_getElem_cons (by simpa using hlt)]
  have:=(Array.getElem?_eq_some_iff.1 hoh).2
  simp [this]
 rw [hdrop] at g1
 simp only [iz,hgd,guarded,aO,St.nV] at g1
 have hwant:∀a:Act,Region.wanted oh (yielded ops a.tmps)=true:=fun a=>by simp [Region.wanted,hgd]
 have setD:∀{rem:List Nat} {D:Nat->Bool} {i:Nat},rem.Nodup->i<h->(∀j,D j=true↔(j<h/\j∉rem))->i∈rem->∀j,(D j||Nat.beq j i)=true↔(j<h/\j∉rem.erase i):=by
  intro rem D i hnd hih hD him j
  rw [hnd.mem_erase_iff,Bool.or_eq_true,hD j]
  constructor
  ·rintro (⟨h1,h2⟩ | h1)
   ·exact ⟨h1,fun h=>h2 h.2⟩
   ·have:=Nat.eq_of_beq_eq_true h1
    subst this;exact ⟨hih,fun h=>h.1 rfl⟩
  ·rintro ⟨h1,h2⟩
   by_cases hji:j=i
   ·subst hji;exact .inr (by simp)
   ·exact .inl ⟨h1,fun h=>h2 ⟨hji,h⟩⟩
 have otherD:∀{D:Nat->Bool} {i l:Nat},l≠i->(D l||Nat.beq l i)=D l:=by
  intro D i l hli
  have :Nat.beq l i=false:=by
   cases hb:Nat.beq l i with
   | false=>rfl
   | true=>exact absurd (Nat.eq_of_beq_eq_true hb) hli
  simp [this]
 have notD:∀{rem:List Nat} {D:Nat->Bool},(∀j,D j=true↔(j<h/\j∉rem))->∀j∈rem,D j=false:=by
  intro rem D hD j hj
  cases hd:D j with
  | false=>rfl
  | true=>exact absurd hj ((hD j).1 hd).2
 have setL:∀{rem:List Nat} {listed:Array Bool} {i m:Nat},rem.Nodup->i<m->i<listed.size->(∀j,j<ops.size->(listed.getD j true=false↔(j∈rem∨m<=j)))->∀j,j<ops.size->((listed.setIfInBounds i true).getD j true=false↔(j∈rem.erase i∨m<=j)):=by
  intro rem listed i m hnd him his hl j hj
  by_cases hij:i=j
  ·subst hij
   simp [his,hnd.mem_erase_iff]
   omega
  ·rw [getD_set_ne true hij,hl j hj,hnd.mem_erase_iff]
   simp [Ne.symm hij]
 have unl:∀{listed:Array Bool} {j:Nat},j<listed.size->listed.getD j false=true->¬listed.getD j true=false:=by
  intro listed j hj h1 h2
  simp [hj] at h1 h2
  rw [h1] at h2;cases h2
 have inb:∀{listed:Array Bool} {j:Nat},listed.getD j false=true->j<listed.size:=by
  intro listed j hj
  rcases Nat.lt_or_ge j listed.size with h' | h'
  ·exact h'
  ·simp [Array.getElem?_eq_none h'] at hj
 have ready:∀{rem:List Nat} {listed:Array Bool} {m:Nat},m<=ops.size->h<=m->rem≠[]->(∀j∈rem,j<h)->listed.size=ops.size->(∀j,j<ops.size->(listed.getD j true=false↔(j∈rem∨m<=j)))->∃i∈rem,i∈Region.ready .any ops listed:=by
  intro rem listed m hm hhm hne hrl hls hl
  obtain ⟨i,him,hmin⟩:=min_mem hne
  have hih:=hrl i him
  obtain ⟨o,ho1,ho2⟩:=hget i hih
  refine ⟨i,him,mem_ready.2 ⟨(hl i (by omega)).2 (.inl him),o,ho1,fun e he hb=>?_⟩⟩
  have hlt:=jS hback (l:=i) (o:=o) (by simpa using ho1) e (by simpa using he) hb
  have hne:¬listed.getD e.on true=false:=fun hf=>by
   rcases (hl e.on (by omega)).1 hf with hm | hm
   ·have:=hmin _ hm;omega
   ·omega
  have hin:e.on<listed.size:=by omega
  simpa [hin] using hne
 have anc:∀{rem:List Nat} {listed:Array Bool} {D:Nat->Bool} {i m:Nat},h<=m->listed.size=ops.size->(∀j,j<ops.size->(listed.getD j true=false↔(j∈rem∨m<=j)))->(∀j,D j=true↔(j<h/\j∉rem))->Closed ops listed->i∈Region.ready .any ops listed->i<h->
   ∀j,((masks ops.toList []).getD i 0).testBit j=true->j<h->D j=true:=by
  intro rem listed D i m hhm hls hl hD hc hir hih j hj hjh
  have hjl:=eZ hc hir j hj
  refine (hD j).2 ⟨hjh,fun hm=>?_⟩
  exact unl (inb hjl) hjl ((hl j (by omega)).2 (.inl hm))
 have low:∀i,i<h->∀j,((masks ops.toList []).getD i 0).testBit j=true->j<i:=fun i hi j hj=>jo hback (by omega) hj
 have fin:∀(g0:Nat) (n:Nat) (rem:List Nat) (listed:Array Bool) (D:Nat->Bool) (a:Act) (w:World),rem.length=n->rem.Nodup->(∀j∈rem,j<h)->(∀j∈rem,((masks ops.toList []).getD h 0).testBit j=false)->listed.size=ops.size->
   (∀j,j<ops.size->(listed.getD j true=false↔(j∈rem∨h<=j)))->(∀j,D j=true↔(j<h/\j∉rem))->Closed ops listed->HI E w0 M Z0 s (ops.toList.take h) us D a w->(∃q,a.eval x=.pointer (some ⟨g0,q,none⟩))->
   ∃a' D',(∀j,D' j=true↔j<h)/\HI E w0 M Z0 s (ops.toList.take h) us D' a' w/\a'.eval x=a.eval x/\a'.eval y=a.eval y:=by
  intro g0 n
  induction n with
  | zero=>
   intro rem listed D a w hn _ _ _ _ _ hD _ hi _
   have hrem:rem=[]:=List.eq_nil_of_length_eq_zero hn
   subst hrem
   exact ⟨a,D,fun j=>by rw [hD j];simp,hi,rfl,rfl⟩
  | succ n ih=>
   intro rem listed D a w hn hnd hrl hnb hls hl hD hc hi hg
   obtain ⟨i,him,hir⟩:=ready (rem:=rem) (m:=h) (by omega) (Nat.le_refl _) (by rintro rfl;simp at hn) hrl hls hl
   have hih:=hrl i him
   obtain ⟨o,ho1,ho2⟩:=hget i hih
   obtain ⟨u,hu,hok⟩:=g4 i o ho2
   have hl2:=(hlate i o ho2).resolve_left (by rw [hnb i him];simp)
   obtain ⟨v,k1,k2,k3,_⟩:=uj (D':=fun j=>D j||Nat.beq j i) hT hG hfresh hi ho2 ho1 hu (notD hD i him) (by simp) (fun l hli=>otherD hli) (fun j hj=>anc (Nat.le_refl _) hls hl hD hc hir hih j hj (by have:=low i hih j hj;omega)) hok he
    (fun j hj=>(hD j).2 ⟨jo hback hlt hj,fun hm=>by rw [hnb j hm] at hj;cases hj⟩) hl2 hg
   obtain ⟨a',D',q1,q2,q3,q4⟩:=ih (rem.erase i) (listed.setIfInBounds i true) _ _ w (by rw [List.length_erase_of_mem him];omega) (hnd.erase i) (fun j hj=>hrl j (List.mem_of_mem_erase hj)) (fun j hj=>hnb j (List.mem_of_mem_erase hj)) (by simpa using hls) (setL hnd hih (by omega) hl) (setD hnd hih hD him) (hc.set hir) k1 (by rw [k2];exact hg)
   exact ⟨a',D',q1,q2,q3.trans k2,q4.trans k3⟩
 have behind:∀(X Y:Value) (g0:Nat) (w w2:World),(∃q,X=.pointer (some ⟨g0,q,none⟩))->(∀c,c≠g0->w2.heap[c]?=w.heap[c]?)->(∀ev:Operand->Value,ev x=X->ev y=Y->(execOp ev oh).run P w=.ok .skip w2)->
   ∀(n:Nat) (rem:List Nat) (listed:Array Bool) (D:Nat->Bool) (a:Act),rem.length=n->rem.Nodup->(∀j∈rem,j<h)->(∀j∈rem,((masks ops.toList []).getD h 0).testBit j=false)->listed.size=ops.size->
   (∀j,j<ops.size->(listed.getD j true=false↔(j∈rem∨h+1<=j)))->(∀j,D j=true↔(j<h/\j∉rem))->Closed ops listed->HI E w0 M Z0 s (ops.toList.take h) us D a w->a.eval x=X->a.eval y=Y->
   wpAny P .any ops Q (n+(ops.size - (h+1))) listed a w2:=by
  intro X Y g0 w w2 hX hw2 hst n
  induction n with
  | zero=>
   intro rem listed D a hn _ _ _ hls hl hD hc hi hx hy
   have hrem:rem=[]:=List.eq_nil_of_length_eq_zero hn
   subst hrem
   obtain ⟨A1,sm1,hz1⟩:=hi.Ay hhs g2 (fun j=>by rw [hD j];simp)
   have h3:=kO hT hG hM sm1 g1 (fun a' w'=>∃(v:V) (s':St) (A':cD),iz E ops.toList (ops.toList.drop (h+1)) (s'.put oh.dst v) k=some ans/\fL E w0 M A' (s'.put oh.dst v) a' w'/\A'.Z=A1.Z) (fun _ _ _=>False) (fun v s' cv w' A' e1 q1 q2 q3=>⟨v,s',A',e1,q1.put q2,q3⟩)
   unfold Oper.wp at h3
   rw [hst a.eval hx hy] at h3
   obtain ⟨v,s',A2,e1,sm2,hz2⟩:=(show ∃(v:V) (s':St) (A':cD),iz E ops.toList (ops.toList.drop (h+1)) (s'.put oh.dst v) k=some ans/\fL E w0 M A' (s'.put oh.dst v) (a.put oh.dst undef) w2/\A'.Z=A1.Z from h3)
   rw [hdst] at sm2 e1
   rw [Nat.zero_add]
   exact oW hT hG hM (h:=h) hback htail (ops.size - (h+1)) (n:=h+1) (by omega) (by omega) hls (fun j hj=>by rw [hl j hj];simp) hc sm2 e1 fun s'' a'' w'' A'' f1 f2 f3=>hQ s'' a'' w'' f1 ⟨A'',f2,f3.trans (hz2.trans hz1)⟩
  | succ n ih=>
   intro rem listed D a hn hnd hrl hnb hls hl hD hc hi hx hy
   rw [show n+1+(ops.size - (h+1))=(n+(ops.size - (h+1)))+1 by omega]
   have hne:rem≠[]:=by rintro rfl;simp at hn
   refine ⟨fun he'=>?_,fun i hir=>?_⟩
   ·obtain ⟨i,_,hir⟩:=ready (rem:=rem) (m:=h+1) (by omega) (by omega) hne hrl hls hl
    rw [he'] at hir;cases hir
   ·obtain ⟨h0,o',ho',_⟩:=mem_ready.1 hir
    have hil:=(Array.getElem?_eq_some_iff.1 ho').1
    have him:i∈rem:=by
     rcases (hl i hil).1 h0 with hm | hm
     ·exact hm
     ·obtain ⟨j,hjm,_⟩:=min_mem hne
      have hjh:=hrl j hjm
      have h1:=eZ hc hir j (htail i (by omega) hil j (by omega))
      exact (unl (inb h1) h1 ((hl j (by omega)).2 (.inl hjm))).elim
    have hih:=hrl i him
    obtain ⟨o,ho1,ho2⟩:=hget i hih
    obtain ⟨u,hu,hok⟩:=g4 i o ho2
    have hl2:=(hlate i o ho2).resolve_left (by rw [hnb i him];simp)
    obtain ⟨v,k1,k2,k3,k4⟩:=uj (D':=fun j=>D j||Nat.beq j i) hT hG hfresh hi ho2 ho1 hu (notD hD i him) (by simp) (fun l hli=>otherD hli) (fun j hj=>anc (Nat.le_succ h) hls hl hD hc hir hih j hj (by have:=low i hih j hj;omega)) hok he
     (fun j hj=>(hD j).2 ⟨jo hback hlt hj,fun hm=>by rw [hnb j hm] at hj;cases hj⟩) hl2 (by rw [hx];exact hX)
    exact k4 w2 hw2 _ Q (ih (rem.erase i) (listed.setIfInBounds i true) _ _ (by rw [List.length_erase_of_mem him];omega) (hnd.erase i) (fun j hj=>hrl j (List.mem_of_mem_erase hj)) (fun j hj=>hnb j (List.mem_of_mem_erase hj)) (by simpa using hls) (setL hnd (by omega) (by omega) hl) (setD hnd hih hD him) (hc.set hir) k1 (k2.trans hx) (k3.trans hy))
 intro n
 induction n with
 | zero=>
  intro rem listed D a w hn _ _ hls hl hD hc hi
  have hrem:rem=[]:=List.eq_nil_of_length_eq_zero hn
  subst hrem
  obtain ⟨A1,sm1,hz1⟩:=hi.Ay hhs g2 (fun j=>by rw [hD j];simp)
  rw [Nat.zero_add]
  refine oW hT hG hM (h:=h) hback htail (ops.size - h) (n:=h) (by omega) (Nat.le_refl _) hls (fun j hj=>by rw [hl j hj];simp) hc sm1 (k:=k) ?_ fun s' a' w' A' e1 e2 e3=>hQ s' a' w' e1 ⟨A',e2,e3.trans hz1⟩
  rw [hdrop]
  simp only [iz,hgd,guarded,aO,St.nV]
  exact g1
 | succ n ih=>
  intro rem listed D a w hn hnd hrl hls hl hD hc hi
  rw [show n+1+(ops.size - h)=(n+(ops.size - h))+1 by omega]
  have hne:rem≠[]:=by rintro rfl;simp at hn
  refine ⟨fun he'=>?_,fun i hir=>?_⟩
  ·obtain ⟨i,_,hir⟩:=ready (rem:=rem) (m:=h) (by omega) (Nat.le_refl _) hne hrl hls hl
   rw [he'] at hir;cases hir
  ·obtain ⟨h0,o',ho',_⟩:=mem_ready.1 hir
   have hil:=(Array.getElem?_eq_some_iff.1 ho').1
   by_cases him:i∈rem
   ·have hih:=hrl i him
    obtain ⟨o,ho1,ho2⟩:=hget i hih
    obtain ⟨u,hu,hok⟩:=g4 i o ho2
    refine qF (D':=fun j=>D j||Nat.beq j i) hT hG hfresh hi ho2 ho1 hu (notD hD i him) (by simp) (fun l hli=>otherD hli) (fun j hj=>anc (Nat.le_refl _) hls hl hD hc hir hih j hj (by have:=low i hih j hj;omega)) hok fun a' w' hi'=>?_
    exact ih (rem.erase i) _ _ a' w' (by rw [List.length_erase_of_mem him];omega) (hnd.erase i) (fun j hj=>hrl j (List.mem_of_mem_erase hj)) (by simpa using hls) (setL hnd hih (by omega) hl) (setD hnd hih hD him) (hc.set hir) hi'
   ·have hih:h<=i:=((hl i hil).1 h0).resolve_left him
    have hi2:i=h:=by
     rcases Nat.lt_or_ge h i with hlt' | hge
     ·have h1:=eZ hc hir h (htail i hlt' hil h hlt')
      exact (unl (inb h1) h1 ((hl h hlt).2 (.inr (Nat.le_refl _)))).elim
     ·omega
    subst hi2
    have hnb:∀j∈rem,((masks ops.toList []).getD i 0).testBit j=false:=by
     intro j hj
     cases hb:((masks ops.toList []).getD i 0).testBit j with
     | false=>rfl
     | true=>
      have h1:=eZ hc hir j hb
      exact (unl (inb h1) h1 ((hl j (by have:=hrl j hj;omega)).2 (.inl hj))).elim
    have hbD:∀j,((masks ops.toList []).getD i 0).testBit j=true->D j=true:=fun j hj=>(hD j).2 ⟨jo hback hlt hj,fun hm=>by rw [hnb j hm] at hj;cases hj⟩
    have hX:∃g0 q,a.eval x=.pointer (some ⟨g0,q,none⟩):=by
     obtain ⟨A,_,tm,_,_,sz,_⟩:=hi
     have hxD:cV E.nt (jx s.sl D (ops.toList.take i) us 0) x=.bP r0 q0:=vn (fun t=>oM (sl:=s.sl) (j:=0) (t:=t) hbD (oo.refl us)) he.x (by simp)
     have:=xU tm sz x
     rw [hxD] at this
     obtain ⟨_,g0,_,e2⟩:=(show V0 E.cells w A (.bP r0 q0) (a.eval x) from this)
     exact ⟨g0,q0,e2⟩
    obtain ⟨g0,hX⟩:=hX
    obtain ⟨a',D',q1,q2,q3,q4⟩:=fin g0 (n+1) rem listed D a w hn hnd hrl hnb hls hl hD hc hi hX
    obtain ⟨A1,sm1,hz1⟩:=q2.Ay hhs g2 q1
    have hx1:cV E.nt (jx s.sl always (ops.toList.take i) us 0) x=.bP r0 q0:=vn (fun t=>oM (sl:=s.sl) (j:=0) (t:=t) (fun _ _=>rfl) (oo.refl us)) he.x (by simp)
    have hb1:ng s.hp s.nx always us r0=.box cs0:=(rQ (fun _ _=>rfl) (oo.refl us)).row he.box (by simp)
    have g1':=g1
    unfold gH at g1'
    rw [hop] at g1'
    simp only [AT,aO] at g1'
    obtain ⟨g,cur,⟨q',f1⟩,f2⟩:=Am hT sm1 g1' hx1 hb1
    have hgg:g=g0:=by
     obtain ⟨q,hX⟩:=hX
     rw [q3,hX] at f1;injection f1 with f1;injection f1 with f1;injection f1 with f1;exact f1.symm
    subst hgg
    have hst:∀ev:Operand->Value,ev x=a.eval x->ev y=a.eval y->(execOp ev oh).run P w=.ok .skip (w.setRow g cur):=by
     intro ev e1 e2
     rw [q3,q4] at f2
     simp [execOp,hop,e1,e2,f2]
    refine pU hoh ?_
    rw [if_pos (hwant a)]
    unfold Oper.wp
    rw [hst a.eval rfl rfl]
    show wpAny P .any ops Q (n+(ops.size - i)) (listed.setIfInBounds i true) (a.put oh.dst undef) (w.setRow g cur)
    rw [hdst,show n+(ops.size - i)=(n+1)+(ops.size - (i+1)) by omega]
    refine behind (a.eval x) (a.eval y) g w (w.setRow g cur) hX (fun c hc=>setRow_other _ _ _ _ hc) hst (n+1) rem (listed.setIfInBounds i true) D a hn hnd hrl hnb (by simpa using hls) (fun j hj=>?_) hD (hc.set hir) hi rfl rfl
    by_cases hij:i=j
    ·subst hij
     have :i<listed.size:=by omega
     simp [this,him]
    ·rw [getD_set_ne true hij,hl j hj]
     constructor
     ·rintro (hm | hm)
      ·exact .inl hm
      ·exact .inr (by omega)
     ·rintro (hm | hm)
      ·exact .inl hm
      ·exact .inr (by omega)
theorem wR {f:V->V}{d:Nat}{v:V}{l:List V}:∀{n i:Nat} {sl:Nat->V},i<=d->d<i+n->iQ ((dK (upd sl d v) i n++l).map f)=upd (iQ ((dK sl i n++l).map f)) (d - i) (f v)
 | 0,i,sl,h1,h2=>by omega
 | n+1,i,sl,h1,h2=>by
  funext j
  simp only [dK,List.cons_append,List.map_cons]
  by_cases hd:d=i
  ·subst hd
   have :dK (upd sl d v) (d+1) n=dK sl (d+1) n:=by
    have :∀{n i:Nat},d<i->dK (upd sl d v) i n=dK sl i n:=by
     intro n
     induction n with
     | zero=>intros;rfl
     | succ n ih=>intro i hi;simp only [dK];rw [aI _ _ (by omega),ih (by omega)]
    exact this (by omega)
   rw [this,aQ,Nat.sub_self]
   cases j with
   | zero=>rfl
   | succ j=>rfl
  ·have ih:=wR (f:=f) (v:=v) (l:=l) (sl:=sl) (n:=n) (i:=i+1) (d:=d) (by omega) (by omega)
   cases j with
   | zero=>
    rw [aI _ _ (by omega:(0:Nat)≠d - i)]
    simp only [iQ]
    rw [aI _ _ (by omega:i≠d)]
   | succ j=>
    simp only [iQ]
    rw [ih]
    unfold upd
    have :Nat.beq (j+1) (d - i)=Nat.beq j (d - (i+1)):=by
     rw [show d - i=(d - (i+1))+1 by omega];rfl
    rw [this]
theorem uH {f:V->V}{l:List V}:∀(n i:Nat) (sl sl':Nat->V),((dK sl i n++l).map f).drop n=((dK sl' i n++l).map f).drop n
 | 0,_,_,_=>rfl
 | n+1,i,sl,sl'=>by
  simp only [dK,List.cons_append,List.map_cons,List.drop_succ_cons]
  exact uH n (i+1) sl sl'
theorem ny {o:Op}{us:List Operand}(h:eD o=some us):(∀cs b,o≠.select cs b)/\∀x∈o.operands,x∈us:=by
 cases o<;>simp only [eD] at h<;>first | (cases h;done) | skip
 case call c=>
  obtain ⟨callee,args,argTypes⟩:=c
  refine ⟨fun _ _ e=>(by cases e),fun x hx=>?_⟩
  simp only [Op.operands,Call.operands] at hx
  cases callee<;>first | (simp only at h;cases h;done) | skip
  all_goals
   simp only [Option.some.injEq] at h
   subst h
   simpa using hx
 all_goals
  simp only [Option.some.injEq] at h
  subst h
  refine ⟨fun _ _ e=>(by cases e),fun x hx=>?_⟩
  simp [Op.operands] at hx ⊢
  try exact hx
theorem iE {us:List Operand}{m:Nat}:∀{os:List Oper} {j l:Nat} {o:Oper} {d:Nat},rC us m os j=true->os[l]?=some o->o.dst=some d->m.testBit (j+l)=true∨∀x∈us,fJ x d=false
 | [],_,l,_,_,_,h,_=>by simp at h
 | o'::os,j,0,o,d,hb,h,hd=>by
  simp at h
  subst h
  simp only [rC,hd,Bool.and_eq_true,Bool.or_eq_true,List.all_eq_true,Bool.not_eq_true'] at hb
  exact hb.1
 | o'::os,j,l+1,o,d,hb,h,hd=>by
  simp only [rC,Bool.and_eq_true] at hb
  have:=iE hb.2 (l:=l) (by simpa using h) hd
  rwa [show j+1+l=j+(l+1) by omega] at this
theorem jl {o o':Oper}{d:Nat}:∀{os:List Oper} {i j:Nat},eE (iL os)=true->os[i]?=some o->os[j]?=some o'->o.dst=some d->o'.dst=some d->i=j
 | [],i,_,_,h,_,_,_=>by simp at h
 | x::os,0,0,_,_,_,_,_=>rfl
 | x::os,0,j+1,hf,h1,h2,hd,hd'=>by
  simp at h1
  subst h1
  have hm:=mI hd' (hs:=os) (i:=j) (by simpa using h2)
  simp only [iL,hd,eE,Bool.and_eq_true,List.all_eq_true] at hf
  have:=hf.1 d hm
  simp at this
 | x::os,i+1,0,hf,h1,h2,hd,hd'=>by
  simp at h2
  subst h2
  have hm:=mI hd (hs:=os) (i:=i) (by simpa using h1)
  simp only [iL,hd',eE,Bool.and_eq_true,List.all_eq_true] at hf
  have:=hf.1 d hm
  simp at this
 | x::os,i+1,j+1,hf,h1,h2,hd,hd'=>by
  have hf':eE (iL os)=true:=by
   simp only [iL] at hf
   cases hx:x.dst with
   | none=>rw [hx] at hf;exact hf
   | some e=>rw [hx] at hf;simp only [eE,Bool.and_eq_true] at hf;exact hf.2
  have:=jl (os:=os) hf' (i:=i) (j:=j) (by simpa using h1) (by simpa using h2) hd hd'
  omega
theorem pT {o:Oper}{us:List Operand}(hu:eD o.op=some us){a b:Act}(hab:∀x∈us,a.eval x=b.eval x){w:World}{K K':Act->World->Prop}{Q:Exit->Act->World->Prop}
  (hd:∀b' w',K' b' w'->b'.defers=[]) (h:o.wp P b w K' (fun _ _ _=>False)) (hK:∀v w',K' (b.put o.dst v) w'->K (a.put o.dst v) w'):o.wp P a w K Q:=by
 obtain ⟨h1,h2⟩:=ny hu
 have he:execOp a.eval o=execOp b.eval o:=execOp_congr o h1 fun x hx=>hab x (h2 x hx)
 unfold Oper.wp at *
 rw [he]
 generalize (execOp b.eval o).run P w=r at *
 cases r with
 | ok n w'=>
  cases n<;>simp only [Oper.upon] at h ⊢
  case value v=>exact hK _ _ h
  case skip=>exact hK _ _ h
  case defer d=>
   have:=hd _ _ h
   cases hdst:o.dst<;>rw [hdst] at this<;>simp [Act.put] at this
  case enter f args=>exact Calls.mono h (fun e w'' he=>by
   cases e with
   | returned v=>exact hK _ _ he
   | panicked c=>exact he.elim
   | outgrown=>obtain ⟨_,_,h⟩:=he;exact h.elim)
  case row r args=>exact Rows.mono h (fun _ _ he=>hK _ _ he)
 | halt x w'=>cases x<;>simp only [Oper.upon] at h ⊢<;>exact h.elim
def Re (E:Env)(s:St)(o:Oper):Prop:=∃d,o.dst=some d/\∀k':V->List aK->aD,aZ E o.op (cV E.nt s.sl) s.hp s.nx k'=k' (s.sl d) []
def Pu (P:Program)(b:Act)(o:Oper):Prop:=∃v,b.put o.dst v=b/\∀w:World,(execOp b.eval o).run P w=.ok (.value v) w
theorem gI {o:Oper}(h:gn o=true):o.guard=none/\∃d z,o.dst=some d/\eD o.op=some [.tmp z]/\((∃t,o.op=.load t (.tmp z))∨(∃t f,o.op=.fieldAddr t (.tmp z) f)):=by
 unfold gn at h
 split at h
 ·cases h
 rename_i hg
 split at h
 ·cases h
 rename_i d hd
 refine ⟨hg,d,?_⟩
 split at h
 ·rename_i t z ho;exact ⟨z,hd,by rw [ho];rfl,.inl ⟨t,ho⟩⟩
 ·rename_i t z f ho;exact ⟨z,hd,by rw [ho];rfl,.inr ⟨t,f,ho⟩⟩
 ·cases h
theorem nB {o:Oper}(h:qp o=true):o.guard=none/\∃d,o.dst=some d/\((∃z,o.op=.move (.tmp z))∨(∃z i,o.op=.extract (.tmp z) i)∨(∃p t x y ty,o.op=.binOp p t x y ty/\zw p=true/\qA y=false)):=by
 unfold qp at h
 split at h
 ·cases h
 rename_i hg
 split at h
 ·cases h
 rename_i d hd
 refine ⟨hg,d,hd,?_⟩
 split at h
 ·rename_i z ho;exact .inl ⟨z,ho⟩
 ·rename_i z i ho;exact .inr (.inl ⟨z,i,ho⟩)
 ·rename_i p t x y ty ho
  simp only [Bool.and_eq_true,Bool.not_eq_true'] at h
  exact .inr (.inr ⟨p,t,x,y,ty,ho,h.1,h.2⟩)
 ·cases h
theorem xw {o:Oper}(h:iC o=true):o.guard=none/\∃d,o.dst=some d:=by
 unfold iC at h
 rw [Bool.or_eq_true] at h
 rcases h with h | h
 ·obtain ⟨h1,d,z,h2,_⟩:=gI h;exact ⟨h1,d,h2⟩
 ·obtain ⟨h1,d,h2,_⟩:=nB h;exact ⟨h1,d,h2⟩
theorem AR {o:Oper}(h:iC o=true)(s:St)(k:V->St->aD):gH E o.op s k=aZ E o.op (cV E.nt s.sl) s.hp s.nx fun v rs=>k v (s.vi rs):=by
 unfold iC at h
 rw [Bool.or_eq_true] at h
 rcases h with h | h
 ·obtain ⟨_,d,z,_,_,h⟩:=gI h
  rcases h with ⟨t,h⟩ | ⟨t,f,h⟩<;>rw [h]<;>rfl
 ·obtain ⟨_,d,_,h⟩:=nB h
  rcases h with ⟨z,h⟩ | ⟨z,i,h⟩ | ⟨p,t,x,y,ty,h,_,hn⟩<;>rw [h]
  ·rfl
  ·rfl
  ·simp only [gH,AT,hn,BR,xX,aR]
open Classical in
theorem Ce {o:Oper}{s:St}{k:V->List aK->aD}(hf:gn o=true)(h:aZ E o.op (cV E.nt s.sl) s.hp s.nx k=some ans):∃v,k v []=some ans/\∀k':V->List aK->aD,aZ E o.op (cV E.nt s.sl) s.hp s.nx k'=k' v []:=by
 obtain ⟨v,rs,h1,h2⟩:=lz h
 have h3:=h2 s.hp (fun _=>.inl rfl)
 have :rs=[]:=by
  refine Classical.byContradiction fun hn=>?_
  have h4:=h3 fun _ rs=>if rs=[] then none else some []
  simp only [hn,if_false] at h4
  clear h h2 h3
  obtain ⟨_,d,z,_,_,hop⟩:=gI hf
  rcases hop with ⟨t,hop⟩ | ⟨t,f,hop⟩<;>rw [hop] at h4<;>simp only [aZ,if_true] at h4
  ·repeat' (split at h4)
   all_goals first | (cases h4;done) | skip
   all_goals (repeat' first | (cases h4;done) | (obtain ⟨_,h4⟩:=dG h4) | (split at h4))
   all_goals first | (cases h4;done) | skip
   all_goals
    rename_i hx _ _
    revert h4
    cases (E.mt&&_)<;>intro h4<;>(repeat' first | (cases h4;done) | (split at h4) | (simp only [aO,aR] at h4) | (obtain ⟨_,h4⟩:=dG h4))
  ·repeat' (split at h4)
   all_goals cases h4
 subst this
 exact ⟨v,h1,h3⟩
theorem Bw (hT:∀t i,E.T t=some i->fX P E t i){A:cD}{s:St}{b:Act}{w:World}{o:Oper}{k:V->List aK->aD}(hf:iC o=true)(hs:oG E s o.op=true)(sm:fL E w0 M A s b w)(h:aZ E o.op (cV E.nt s.sl) s.hp s.nx k=some ans) :
  ∃v cv,k v []=some ans/\(execOp b.eval o).run P w=.ok (.value cv) w/\V2 E.cells w A v cv/\((gn o=true/\∀k':V->List aK->aD,aZ E o.op (cV E.nt s.sl) s.hp s.nx k'=k' v [])∨(gn o=false/\∀w':World,(execOp b.eval o).run P w'=.ok (.value cv) w')):=by
 cases hm:gn o with
 | true=>
  obtain ⟨v,h1,h2⟩:=Ce hm h
  have key:∀{k:V->List aK->aD},aZ E o.op (cV E.nt s.sl) s.hp s.nx k=some ans->sI P E o b w A k ans:=by
   intro k h
   obtain ⟨_,d,z,_,_,hop⟩:=gI hm
   rcases hop with ⟨t,hop⟩ | ⟨t,f,hop⟩<;>rw [hop] at h
   ·exact zx hT sm.hp sm.ev hop h
   ·exact pY hT sm.hp sm.ev hop h
  obtain ⟨v',cv,h3,h4,h5⟩:=key (k:=fun v' rs=>open Classical in if v'=v then some ans else none) (by rw [h2];simp)
  have hv:v'=v:=Classical.byContradiction fun hn=>by simp only [if_neg hn] at h3;cases h3
  subst hv
  exact ⟨v',cv,h1,h4,h5,.inl ⟨rfl,h2⟩⟩
 | false=>
  unfold iC at hf
  rw [hm,Bool.false_or] at hf
  obtain ⟨_,d,_,hop⟩:=nB hf
  rcases hop with ⟨z,hop⟩ | ⟨z,i,hop⟩ | ⟨p,t,x,y,ty,hop,hp,_⟩<;>rw [hop] at h
  ·exact ⟨_,b.eval (.tmp z),h,by simp [execOp,hop],sm.ev _,.inr ⟨rfl,fun w'=>by simp [execOp,hop]⟩⟩
  ·have hc:=sm.ev (.tmp z)
   simp only [aZ] at h
   split at h
   ·rename_i vs he
    rw [he] at hc
    obtain ⟨l,h1,h2⟩:=hc
    split at h
    ·rename_i v hv
     obtain ⟨y,hy,hvy⟩:=h2.get hv
     exact ⟨_,y,h,by simp [execOp,hop,h1,Instr.extract,hy],hvy.v2,.inr ⟨rfl,fun w'=>by simp [execOp,hop,h1,Instr.extract,hy]⟩⟩
    ·cases h
   ·cases h
  ·have hx:=sm.ev x
   have hy:=sm.ev y
   rw [hop] at hs
   simp only [oG] at hs
   split at hs
   case h_2=>cases hs
   rename_i ik m hx0
   split at hs
   case h_2=>cases hs
   rename_i jk n hy0
   rw [hx0] at hx
   rw [hy0] at hy
   have hx':b.eval x=.int ik m:=hx
   have hy':b.eval y=.int jk n:=hy
   simp only [aZ,binOp,hx0,hy0] at h
   cases p<;>first | (cases hp;done) | skip
   all_goals
    cases hk:iW ik jk<;>simp only [hk,aO,aR] at h
    ·cases h
    obtain rfl:=gu hk
    simp only [oc] at h
    refine ⟨_,.int ik _,h,?_,rfl,.inr ⟨rfl,fun w'=>?_⟩⟩<;>simp [execOp,hop,hx',hy',eqGuard,Go.binOp,Op.intArith]
def Kept (E:Env)(s s':St)(f:Oper):Prop:=∀d z,f.dst=some d->eD f.op=some [.tmp z]->
 (∃rs,(z<E.nt->s'.sl z=eN rs (s.sl z))/\(d<E.nt->s'.sl d=eN rs (s.sl d))/\
  ∀t r q,f.op=.load t (.tmp z)->look E.nt s.sl z=.bP r q->∀cs,s.hp r=.box cs->s'.hp r=.box (cs.map (iU rs))/\((∃i,E.T t=some i/\i.agg=true)∨(s.sl d).leaf=true))∨
 (s'.sl z=s.sl z/\s'.sl d=s.sl d/\∀r,¬s.hp r=.dead->s'.hp r=s.hp r)
theorem yC {rs:List Nat}{v:V}(h:v.leaf=true):eN rs v=iU rs v:=by
 cases v<;>first | rfl | cases h
theorem B0 {α β:Type}(f:α->β)(cs:List α)(o n:Nat):cut (cs.map f) o n=(cut cs o n).map f:=by
 simp [cut,List.map_drop,List.map_take]
theorem Cd {s s':St}{f:Oper}{o:Op}(hf:gn f=true)(hr:Re E s f)(hok:lG E s o f=true)(hk:Kept E s s' f):Re E s' f:=by
 obtain ⟨_,d,z,hd,hu,hop⟩:=gI hf
 obtain ⟨d',hd',he⟩:=hr
 obtain rfl:d=d':=by rw [hd] at hd';injection hd'
 refine ⟨d,hd,fun k'=>?_⟩
 have hdn:d<E.nt:=by
  unfold lG at hok
  rcases hop with ⟨t,hop⟩ | ⟨t,fi,hop⟩<;>rw [hop] at hok<;>simp only [hd,Bool.and_eq_true] at hok<;>exact Nat.blt_eq.mp hok.1
 unfold lG at hok
 have hk:=hk d z hd hu
 have hlook:∀{v:V},look E.nt s.sl z=v->(v≠.undef)->z<E.nt:=by
  intro v h1 h2
  unfold look at h1
  cases hb:Nat.blt z E.nt with
  | true=>exact Nat.blt_eq.mp hb
  | false=>rw [hb] at h1;exact (h2 h1.symm).elim
 have look2:z<E.nt->look E.nt s'.sl z=s'.sl z/\look E.nt s.sl z=s.sl z:=by
  intro h
  unfold look
  rw [Nat.blt_eq.mpr h];exact ⟨rfl,rfl⟩
 rcases hop with ⟨t,hop⟩ | ⟨t,fi,hop⟩<;>rw [hop] at he hok ⊢
 ·
  simp only [Bool.and_eq_true] at hok
  replace hok:=hok.2.2.2
  split at hok
  case h_2=>cases hok
  rename_i r q hrq
  have hz:=hlook hrq (by simp)
  simp only [aZ,cV,hrq] at he
  have h0:=he fun _ _=>some []
  split at h0
  ·cases h0
  rename_i i hi
  split at h0
  case h_2=>cases h0
  rename_i cs hcs
  obtain ⟨hle,_⟩:=dG h0
  rw [hi] at he
  simp only [hcs,hle,aO] at he
  have hv:s.sl d=mkVar i.agg (cut cs q i.cells.length):=by
   have:=he fun v _=>open Classical in if v=mkVar i.agg (cut cs q i.cells.length) then some [] else none
   simp only [if_true] at this
   exact Classical.byContradiction fun hn=>by rw [if_neg hn] at this;cases this
  rcases hk with ⟨rs,k1,k2,k3⟩ | ⟨k1,k2,k3⟩
  ·obtain ⟨k4,k5⟩:=k3 t r q hop hrq cs hcs
   have e1:look E.nt s'.sl z=.bP r q:=by
    rw [(look2 hz).1,k1 hz,<-(look2 hz).2,hrq];rfl
   simp only [aZ,cV,e1,hi,k4,List.length_map,hle,aO,k2 hdn]
   rw [hv,B0]
   congr 1
   cases hag:i.agg with
   | true=>simp [mkVar,eN]
   | false=>
    have hlf:(s.sl d).leaf=true:=by
     rcases k5 with ⟨i',h1,h2⟩ | h
     ·rw [hi] at h1;injection h1 with h1;subst h1;rw [hag] at h2;cases h2
     ·exact h
    rw [hv,hag] at hlf
    rw [yC hlf]
    simp only [mkVar,aR]
    cases hcut:cut cs q i.cells.length with
    | nil=>rfl
    | cons x xs=>rfl
  ·have e1:look E.nt s'.sl z=.bP r q:=by rw [(look2 hz).1,k1,<-(look2 hz).2,hrq]
   simp only [aZ,cV,e1,hi,k3 r (by rw [hcs];simp),hcs,hle,aO,k2,hv]
 ·
  simp only [Bool.and_eq_true] at hok
  replace hok:=hok.2.2.2
  have key:∀v,look E.nt s.sl z=v->(∀rs,eN rs v=v)->v≠.undef->aZ E (.fieldAddr t (.tmp z) fi) (cV E.nt s'.sl) s'.hp s'.nx k'=k' (s'.sl d) []:=by
   intro v hv h1 h2
   have hz:=hlook hv h2
   have e1:look E.nt s'.sl z=look E.nt s.sl z:=by
    rw [(look2 hz).1,(look2 hz).2]
    rw [(look2 hz).2] at hv
    rcases hk with ⟨rs,k1,_⟩ | ⟨k1,_⟩
    ·rw [k1 hz,hv,h1]
    ·exact k1
   have e2:∀k'',aZ E (.fieldAddr t (.tmp z) fi) (cV E.nt s'.sl) s'.hp s'.nx k''=aZ E (.fieldAddr t (.tmp z) fi) (cV E.nt s.sl) s.hp s.nx k'':=by
    intro k''
    simp only [aZ,cV,e1]
   rw [e2,he]
   congr 1
   rcases hk with ⟨rs,_,k2,_⟩ | ⟨_,k2,_⟩
   ·rw [k2 hdn]
    have h3:s.sl d=.dead∨∀rs,eN rs (s.sl d)=s.sl d:=by
     have h0:=he fun v _=>open Classical in if (∀rs,eN rs v=v) then some [] else none
     refine .inr (Classical.byContradiction fun hn=>?_)
     rw [if_neg hn] at h0
     simp only [aZ,cV,hv] at h0
     split at h0
     ·have:=he fun _ _=>some []
      simp only [aZ,cV,hv] at this
      rename_i hT0
      rw [hT0] at this;cases this
     ·rename_i i hi
      have hsome:=he fun _ _=>some []
      simp only [aZ,cV,hv,hi] at hsome
      split at h0
      ·rename_i hf0
       rw [hf0] at hsome;cases hsome
      ·rename_i p hp
       rw [hp] at hsome
       simp only at hsome
       split at h0
       ·exact absurd h0 (by simp [eN,iU])
       ·exact absurd h0 (by simp [eN,iU])
       ·rename_i dd es cs q0
        have h9:∀rs,eN rs (.cS dd es cs (q0+p.1))=.cS dd es cs (q0+p.1):=fun rs=>by
         have:=h1 rs
         cases dd with
         | none=>rfl
         | some q=>
          simp only [eN,iU] at this ⊢
          cases hb:kA rs q with
          | true=>rw [hb] at this;cases this
          | false=>rfl
        exact absurd h0 (by simp [h9])
       ·rename_i h5 h6 h7
        split at hsome
        ·exact h5 _ _ rfl
        ·exact h6 _ _ _ _ rfl
        ·exact h7 _ _ _ _ rfl
        ·cases hsome
    rcases h3 with h3 | h3
    ·rw [h3];rfl
    ·rw [h3]
   ·rw [k2]
  split at hok
  ·rename_i r q hrq;exact key _ hrq (fun _=>rfl) (by simp)
  ·rename_i r sz j q hrq;exact key _ hrq (fun _=>rfl) (by simp)
  ·cases hok
theorem tJ {f:V->V}{sl:Nat->V}{l:List V}:∀{n i j:Nat},j<n->iQ ((dK sl i n++l).map f) j=f (sl (i+j))
 | 0,i,j,h=>by omega
 | n+1,i,0,h=>rfl
 | n+1,i,j+1,h=>by
  simp only [dK,List.cons_append,List.map_cons,iQ]
  rw [tJ (n:=n) (i:=i+1) (j:=j) (by omega)]
  congr 2;omega
theorem pZ {fs:List (Nat×Nat)}{ρ ρ':Operand->V}:∀{ps:List (Nat×Operand)} {cs:List V} {k:List V->aD},(∀p∈ps,ρ p.2=ρ' p.2)->ku E fs ρ ps cs k=ku E fs ρ' ps cs k
 | [],_,_,_=>rfl
 | p::ps,cs,k,h=>by
  simp only [ku]
  cases fs[p.1]? with
  | none=>rfl
  | some f=>
   simp only
   rw [h p (by simp)]
   congr 1
   funext new
   rw [pZ fun q hq=>h q (List.mem_cons_of_mem _ hq)]
theorem sw {e:Nat}{ρ ρ':Operand->V}:∀{ps:List (Nat×Operand)} {j:Nat} {k:List V->aD},(∀p∈ps,ρ p.2=ρ' p.2)->rO E e ρ ps j k=rO E e ρ' ps j k
 | [],_,_,_=>rfl
 | p::ps,j,k,h=>by
  simp only [rO]
  rw [h p (by simp)]
  congr 2
  funext new
  rw [sw fun q hq=>h q (List.mem_cons_of_mem _ hq)]
theorem qV {o:Op}{us:List Operand}(hu:eD o=some us){ρ ρ':Operand->V}(h:∀x∈us,ρ x=ρ' x){hp:Nat->aK}{nx:Nat}{k:V->List aK->aD}:aZ E o ρ hp nx k=aZ E o ρ' hp nx k:=by
 cases o<;>simp only [eD] at hu<;>first | (cases hu;done) | skip
 case call c=>
  obtain ⟨callee,args,argTypes⟩:=c
  cases callee with
  | invoke r n=>simp only at hu;cases hu
  | value f=>
   simp only [Option.some.injEq] at hu
   subst hu
   have h1:=h f (by simp)
   have h2:args.toList.map ρ=args.toList.map ρ':=List.map_congr_left fun x hx=>h x (List.mem_cons_of_mem _ hx)
   simp only [aZ,h1,h2]
  | builtin b=>
   simp only [Option.some.injEq] at hu
   subst hu
   generalize hal:args.toList=al at h
   cases b<;>simp only [aZ,hal]
   case len=>
    split
    ·rename_i x
     rw [h x (by simp)]
    ·rfl
   case append=>
    split
    ·rename_i x y
     rw [h x (by simp),h y (by simp)]
    ·rfl
   case min=>
    split
    ·rename_i x y
     rw [h x (by simp),h y (by simp)]
    ·rfl
   case max=>
    split
    ·rename_i x y
     rw [h x (by simp),h y (by simp)]
    ·rfl
 all_goals
  simp only [Option.some.injEq] at hu
  subst hu
 case build t ps=>
  simp only [aZ]
  have :∀p∈ps.toList,ρ p.2=ρ' p.2:=fun p hp=>h _ (List.mem_map.2 ⟨p,hp,rfl⟩)
  cases E.T t with
  | none=>rfl
  | some i=>simp only [pZ this]
 case buildSlice t n ps=>
  simp only [aZ]
  have :∀p∈ps.toList,ρ p.2=ρ' p.2:=fun p hp=>h _ (List.mem_map.2 ⟨p,hp,rfl⟩)
  cases (E.T t).bind TI.el with
  | none=>rfl
  | some el=>simp only [sw this]
 case slice t x lo hi mx=>
  have hx:=h x (by simp)
  have hb:∀(o:Option Operand) (d:Int) (k:Int->aD),o.toList ⊆ x::(lo.toList++(hi.toList++mx.toList))->gG ρ o d k=gG ρ' o d k:=by
   intro o d k hs
   cases o with
   | none=>rfl
   | some y=>
    simp only [gG]
    rw [h y (hs (by simp))]
  have h1:=fun d k=>hb lo d k (by intro y hy;simp at hy ⊢;simp [hy])
  have h2:=fun d k=>hb hi d k (by intro y hy;simp at hy ⊢;simp [hy])
  have h3:=fun d k=>hb mx d k (by intro y hy;simp at hy ⊢;simp [hy])
  simp only [aZ,gS,hx]
  have hR:∀el,lZ ρ el lo hi mx k=lZ ρ' el lo hi mx k:=by
   intro el
   funext d e xs
   unfold lZ
   cases mx with
   | none=>simp only [h1,h2]
   | some m=>
    cases lo with
    | some _=>rfl
    | none=>
     cases hi with
     | none=>rfl
     | some h'=>simp only [h2,h3]
  simp only [hR]
  cases ρ' x<;>first | rfl | skip
  case str s=>
   cases mx with
   | none=>simp only [h1,h2]
   | some m=>rfl
  case nil=>
   cases (E.T t).bind TI.el with
   | none=>rfl
   | some el=>
    simp only
    cases mx with
    | none=>simp only [h1,h2]
    | some m=>
     cases lo with
     | some _=>rfl
     | none=>
      cases hi with
      | none=>rfl
      | some h'=>simp only [h2,h3]
 all_goals first
  | rfl
  | (rename_i x;simp only [aZ,h x (by simp)];done)
  | (simp only [aZ];simp only [h _ (List.mem_cons_self ..),h _ (List.mem_cons_of_mem _ (List.mem_cons_self ..))];done)
  | (simp_all [aZ];done)
abbrev EA:=Nat×Nat×Nat×V×aK
def gB (s:St)(e:EA):St:={ sl:=upd s.sl e.2.1 e.2.2.2.1,hp:=upd s.hp e.2.2.1 e.2.2.2.2,nx:=s.nx,fr:=s.fr }
def plus (s:St):List EA->St
 | []=>s
 | e::l=>gB (plus s l) e
def Cp (e:EA):Prop:=(∀rs,eN rs e.2.2.2.1=e.2.2.2.1)/\∀rs,jF rs e.2.2.2.2=e.2.2.2.2
def CS (us:List Operand)(es:List EA):Prop:=∀e∈es,∀x∈us,fJ x e.2.1=false
theorem lX (s:St):∀es,(plus s es).nx=s.nx
 | []=>rfl
 | e::l=>lX s l
theorem vp {s:St}{t:Nat}:∀{es:List EA},(∀e∈es,e.2.1≠t)->(plus s es).sl t=s.sl t
 | [],_=>rfl
 | e::l,h=>by
  show upd (plus s l).sl e.2.1 _ t=_
  rw [aI _ _ (Ne.symm (h e (by simp))),vp fun x hx=>h x (List.mem_cons_of_mem _ hx)]
theorem rW {s:St}{r:Nat}:∀{es:List EA},(∀e∈es,e.2.2.1≠r)->(plus s es).hp r=s.hp r
 | [],_=>rfl
 | e::l,h=>by
  show upd (plus s l).hp e.2.2.1 _ r=_
  rw [aI _ _ (Ne.symm (h e (by simp))),rW fun x hx=>h x (List.mem_cons_of_mem _ hx)]
theorem xe {s:St}:∀{es:List EA},(∀e∈es,s.hp e.2.2.1=.dead)->Sub s.hp (plus s es).hp
 | [],_=>fun _=>.inl rfl
 | e::l,h=>fun r=>by
  have ih:=xe (s:=s) (es:=l) fun x hx=>h x (List.mem_cons_of_mem _ hx)
  show s.hp r=upd (plus s l).hp e.2.2.1 _ r∨_
  by_cases hr:r=e.2.2.1
  ·subst hr;exact .inr (h e (by simp))
  ·rw [aI _ _ hr];exact ih r
theorem lC {s:St}{es:List EA}{x:Operand}(h:∀e∈es,fJ x e.2.1=false):cV E.nt (plus s es).sl x=cV E.nt s.sl x:=by
 cases x with
 | tmp t=>
  simp only [cV,look]
  rw [vp fun e he e1=>by
   have:=h e he
   simp [fJ,e1] at this]
 | const c=>rfl
 | func g=>rfl
 | global g=>rfl
theorem qc {α:Type}{f:Nat->α}{a b:Nat}{u v:α}(h:a≠b):upd (upd f a u) b v=upd (upd f b v) a u:=by
 funext q
 by_cases h1:q=a
 ·subst h1;rw [aQ,aI _ _ h,aQ]
 ·by_cases h2:q=b
  ·subst h2;rw [aQ,aI _ _ h1,aQ]
  ·rw [aI _ _ h2,aI _ _ h1,aI _ _ h1,aI _ _ h2]
theorem zN {s:St}{e f:EA}(h1:e.2.1≠f.2.1)(h2:e.2.2.1≠f.2.2.1):gB (gB s e) f=gB (gB s f) e:=by
 unfold gB
 simp only
 rw [qc h1,qc h2]
theorem uO {s:St}{e:EA}:∀{l:List EA},(∀f∈l,e.2.1≠f.2.1/\e.2.2.1≠f.2.2.1)->gB (plus s l) e=plus (gB s e) l
 | [],_=>rfl
 | f::l,h=>by
  show gB (gB (plus s l) f) e=gB (plus (gB s e) l) f
  rw [<-uO fun x hx=>h x (List.mem_cons_of_mem _ hx)]
  exact zN (Ne.symm (h f (by simp)).1) (Ne.symm (h f (by simp)).2)
theorem xG {s:St}{e:EA}{l2:List EA}:∀{l1:List EA},(∀f∈l1++l2,e.2.1≠f.2.1/\e.2.2.1≠f.2.2.1)->plus s (l1++e::l2)=plus (gB s e) (l1++l2)
 | [],h=>uO h
 | f::l1,h=>by
  show gB (plus s (l1++e::l2)) f=gB (plus (gB s e) (l1++l2)) f
  rw [xG fun x hx=>h x (List.mem_cons_of_mem _ hx)]
theorem lB {s:St}{d:Option Nat}{v:V}:∀{es:List EA},(∀e∈es,d≠some e.2.1)->plus (s.put d v) es=(plus s es).put d v
 | [],_=>rfl
 | e::l,h=>by
  show gB (plus (s.put d v) l) e=(gB (plus s l) e).put d v
  rw [lB fun x hx=>h x (List.mem_cons_of_mem _ hx)]
  cases d with
  | none=>rfl
  | some t=>
   have :t≠e.2.1:=fun e1=>h e (by simp) (by rw [e1])
   simp only [gB,St.put]
   rw [qc this]
theorem oU {s:St}{es:List EA}{o:Op}{us:List Operand}{k:V->List aK->aD}(hu:eD o=some us)(ho:CS us es)(hd:∀e∈es,s.hp e.2.2.1=.dead)(h:aZ E o (cV E.nt s.sl) s.hp s.nx k=some ans) :
  ∃v rs,k v rs=some ans/\(∀k':V->List aK->aD,aZ E o (cV E.nt s.sl) s.hp s.nx k'=k' v rs)/\∀k':V->List aK->aD,aZ E o (cV E.nt (plus s es).sl) (plus s es).hp (plus s es).nx k'=k' v rs:=by
 obtain ⟨v,rs,h1,h2⟩:=lz h
 refine ⟨v,rs,h1,fun k'=>h2 s.hp (fun _=>.inl rfl) k',fun k'=>?_⟩
 rw [qV hu fun x hx=>lC fun e he=>ho e he x hx,lX]
 exact h2 _ (xe hd) k'
theorem oa {R:Nat}{o:aK}:∀(rts:List aK) (n:Nat) (hp:Nat->aK),R<n->dH (upd hp R o) n rts=upd (dH hp n rts) R o
 | [],n,hp,_=>rfl
 | x::xs,n,hp,hn=>by
  simp only [dH]
  rw [<-oa xs (n+1) (upd hp n x) (by omega),qc (by omega)]
theorem Ah {s:St}{e:EA}{rs:List aK}(h:e.2.2.1<s.nx):gB (s.vi rs) e=(gB s e).vi rs:=by
 unfold gB St.vi
 simp only
 rw [oa _ _ _ h]
theorem tH {o:Op}(h:jE E o=true):AT o=false/\BR E o=false/\(xX E o=false∨∃g args argTypes c cs,o=.call ⟨.value (.func g),args,argTypes⟩/\E.I g=c::cs/\c.late=true):=by
 unfold jE at h
 simp only [Bool.and_eq_true,Bool.not_eq_true',Bool.or_eq_true] at h
 refine ⟨h.1,h.2.1,h.2.2.imp id fun h=>?_⟩
 split at h
 case h_2=>cases h
 unfold CV at h
 split at h
 case h_2=>cases h
 rename_i hc
 exact ⟨_,_,_,_,_,rfl,hc,h⟩
theorem sO (hI:∀g c,c∈E.I g->dX P E E.np g c){o:Op}{us:List Operand}{s:St}{e:EA}{k:V->St->aD}(h:gH E o s k=some ans)(hl:jE E o=true)(hu:eD o=some us)(ho:CS us [e])(hR:s.hp e.2.2.1=.dead)(hRn:e.2.2.1<s.nx)(hdn:e.2.1<E.nt)(hz:Cp e) :
  ∃v s2,k v s2=some ans/\s2.hp e.2.2.1=.dead/\s.nx<=s2.nx/\∀k':V->St->aD,gH E o (gB s e) k'=k' v (gB s2 e):=by
 obtain ⟨h1,h2,h3⟩:=tH hl
 rcases h3 with h3 | ⟨g,args,argTypes,c,cs,rfl,hc,hlate⟩
 ·have hev:∀(s:St) (k':V->St->aD),gH E o s k'=aZ E o (cV E.nt s.sl) s.hp s.nx fun v rs=>k' v (s.vi rs):=fun s k'=>by
   simp only [gH,h1,h2,h3,aR]
  rw [hev] at h
  obtain ⟨v,rs,g1,g2,g3⟩:=oU (es:=[e]) hu ho (fun x hx=>by rw [List.mem_singleton.1 hx];exact hR) h
  refine ⟨v,s.vi rs,g1,?_,Nat.le_add_right _ _,fun k'=>?_⟩
  ·exact (dN _ _ _ _ (.inl hRn)).trans hR
  ·rw [hev]
   refine (g3 _).trans ?_
   rw [Ah hRn]
   try rfl
 ·have hargs:args.toList.map (cV E.nt (gB s e).sl)=args.toList.map (cV E.nt s.sl):=by
   refine List.map_congr_left fun x hx=>?_
   simp only [eD,Option.some.injEq] at hu
   subst hu
   exact lC (s:=s) (es:=[e]) fun e' he'=>ho e' he' x (List.mem_cons_of_mem _ hx)
  have hev:∀(s:St) (k':V->St->aD),gH E (.call ⟨.value (.func g),args,argTypes⟩) s k'=c.run (args.toList.map (cV E.nt s.sl)) { s with fr:=dK s.sl 0 E.nt++s.fr } fun v s'=>k' v { s' with sl:=iQ s'.fr,fr:=s'.fr.drop E.nt }:=fun s k'=>by
   have hi:xX E (.call ⟨.value (.func g),args,argTypes⟩)=true:=by simp [xX,hc]
   simp only [gH,h1,h2,hi,aR,aO,lK,hc]
  rw [hev] at h
  obtain ⟨rs,v,hp2,nx2,g1,g0,g2⟩:=((hI g c (by rw [hc];simp)).2.2.1 hlate).1 _ _ _ _ h
  obtain ⟨g3,g4⟩:=g2 e.2.2.1 e.2.2.2.2 hR hRn hz.2
  refine ⟨v,_,g1,g3,g0,fun k'=>?_⟩
  rw [hev,hargs]
  refine (g4 (upd s.sl e.2.1 e.2.2.2.1) (dK (upd s.sl e.2.1 e.2.2.2.1) 0 E.nt++s.fr) _).trans ?_
  have e1:=wR (f:=eN rs) (v:=e.2.2.2.1) (l:=s.fr) (sl:=s.sl) (n:=E.nt) (i:=0) (d:=e.2.1) (Nat.zero_le _) (by omega)
  have e2:=uH (f:=eN rs) (l:=s.fr) E.nt 0 (upd s.sl e.2.1 e.2.2.2.1) s.sl
  simp only
  rw [e1,e2,hz.1]
  rfl
open Classical in
theorem yM (hI:∀g c,c∈E.I g->dX P E E.np g c){o:Op}{us:List Operand}{s:St}{k:V->St->aD}(h:gH E o s k=some ans)(hl:jE E o=true)(hu:eD o=some us):∀{e:EA} {es:List EA},CS us (e::es)->(∀x∈e::es,s.hp x.2.2.1=.dead/\x.2.2.1<s.nx/\x.2.1<E.nt/\Cp x)->
  ((e::es).map fun x=>x.2.2.1).Nodup->∃v s2,k v s2=some ans/\(∀x∈e::es,s2.hp x.2.2.1=.dead)/\∀k':V->St->aD,gH E o (plus s (e::es)) k'=k' v (plus s2 (e::es)):=by
 intro e es
 induction es generalizing e with
 | nil=>
  intro ho hx hnd
  obtain ⟨a1,a2,a3,a4⟩:=hx e (by simp)
  obtain ⟨v,s2,h1,h2,h3,h4⟩:=sO hI h hl hu ho a1 a2 a3 a4
  exact ⟨v,s2,h1,fun x hx'=>by rw [List.mem_singleton.1 hx'];exact h2,h4⟩
 | cons e' es ih=>
  intro ho hx hnd
  simp only [List.map_cons,List.nodup_cons] at hnd
  obtain ⟨v,s2,h1,h2,h3⟩:=ih (e:=e') (fun x hx'=>ho x (List.mem_cons_of_mem _ hx')) (fun x hx'=>hx x (List.mem_cons_of_mem _ hx')) (by simpa using hnd.2)
  obtain ⟨a1,a2,a3,a4⟩:=hx e (by simp)
  have hne:∀x∈e'::es,x.2.2.1≠e.2.2.1:=by
   intro x hx' e1
   exact hnd.1 (by
    rw [<-e1]
    rcases List.mem_cons.1 hx' with rfl | hm
    ·simp
    ·exact List.mem_cons_of_mem _ (List.mem_map.2 ⟨x,hm,rfl⟩))
  obtain ⟨v',s3,g1,g2,g3,g4⟩:=sO (s:=plus s (e'::es)) (e:=e) (ans:=ans) (k:=fun v' s'=>if v'=v/\s'=plus s2 (e'::es) then some ans else none) hI (by rw [h3];simp) hl hu (fun x hx'=>ho x (by
   rw [List.mem_singleton.1 hx'];simp)) (by rw [rW hne];exact a1) (by rw [lX];exact a2) a3 a4
  split at g1
  ·rename_i hv
   obtain ⟨rfl,rfl⟩:=hv
   refine ⟨v',s2,h1,fun x hx'=>?_,g4⟩
   rcases List.mem_cons.1 hx' with rfl | hx'
   ·rw [rW hne] at g2;exact g2
   ·exact h2 x hx'
  ·cases g1
theorem sS (hT:∀t i,E.T t=some i->fX P E t i)(hG:∀g c,c∈E.G g->Valid P E g c)(hM:mG P E){A:cD}{s:St}{a:Act}{w:World}(sm:fL E w0 M A s a w){o:Oper}{k:V->St->aD}(h:gH E o.op s k=some ans) :
  ∀(K:Act->World->Prop) (Q:Exit->Act->World->Prop),(∀v s' cv w' A',k v s'=some ans->fL E w0 M A' s' a w'->V2 E.cells w' A' v cv->A'.Z=A.Z->(jE E o.op=true->zQ A A' s.nx s'.nx)->K (a.put o.dst cv) w')->o.wp P a w K Q:=by
 intro K Q hK
 cases hl:jE E o.op with
 | false=>exact kO hT hG hM sm h K Q fun v s' cv w' A' h1 h2 h3 h4=>hK v s' cv w' A' h1 h2 h3 h4 fun h=>by rw [hl] at h;cases h
 | true=>
  obtain ⟨h1,h2,h3⟩:=tH hl
  rcases h3 with h3 | ⟨g,args,argTypes,c,cs,hop,hc,hlate⟩
  ·simp only [gH,h1,h2,h3,aR] at h
   obtain ⟨v,rs,h1,h2⟩:=kT hT hG sm.hp sm.ev h
   refine h2 (fun r h _=>sm.nx r h) K Q fun cv w' A' g1 g2 g3 g4=>?_
   refine hK v _ cv w' A' h1 ⟨g1,fun i x hx=>(sm.tm i x hx).step g2 sm.hp (fun _ h=>h),fun r hr hal=>by
    have hr':s.nx+rs.length<=r:=hr
    rcases g4 r hal with h | h
    ·exact sm.nx r (by omega) h
    ·omega,sm.df,sm.sz,sm.fr.mono fun _ _ h=>h.step g2 sm.hp (fun _ h=>h)⟩ g3 g2.Z fun _=>⟨Nat.le_add_right _ _,fun r hr=>(g4 r hr).imp id fun h=>h.1⟩
  ·have hi:xX E o.op=true:=by rw [hop];simp [xX,hc]
   simp only [gH,h1,h2,hi,aR,aO] at h
   refine qT (X:=zQ) sm hop h (fun g' c' hc' hfg=>⟨(hM.2 g' c' hc').1,fun cs' hcs'=>((hM.2 g' c' hc').2.2.1 ?_).2⟩) K Q fun v s' cv w' A' h1 h2 h3 h4 h5=>hK v s' cv w' A' h1 h2 h3 h4 fun _=>h5
   obtain ⟨caps,hfg⟩:=hfg
   have :g=g':=by
    simp only [cV] at hfg
    injection hfg
   subst this
   rw [hc] at hcs'
   injection hcs' with hcs' _
   rw [<-hcs'];exact hlate
open Classical in
theorem yD (hT:∀t i,E.T t=some i->fX P E t i)(hG:∀g c,c∈E.G g->Valid P E g c)(hM:mG P E){A:cD}{s:St}{b:Act}{w:World}(sm:fL E w0 M A s b w){o:Oper}{k:V->St->aD}(h:gH E o.op s k=some ans) :
  o.wp P b w (fun b' w'=>∃v s' A',k v s'=some ans/\fL E w0 M A' (s'.put o.dst v) b' w'/\A'.Z=A.Z/\
   (∀f,gn f=true->lG E s o.op f=true->(∀d z,f.dst=some d->eD f.op=some [.tmp z]->o.dst≠some d/\o.dst≠some z)->Kept E s (s'.put o.dst v) f)/\(jE E o.op=true->zQ A A' s.nx s'.nx)) (fun _ _ _=>False):=by
 by_cases hex:∃f,gn f=true/\lG E s o.op f=true
 ·obtain ⟨f0,hf0,hok0⟩:=hex
  have hnt:AT o.op=false/\BR E o.op=false:=by
   obtain ⟨_,d0,z0,hd0,_,hop0⟩:=gI hf0
   unfold lG at hok0
   rcases hop0 with ⟨t0,hop0⟩ | ⟨t0,f0',hop0⟩<;>rw [hop0] at hok0<;>simp only [Bool.and_eq_true,Bool.not_eq_true'] at hok0<;>exact ⟨hok0.2.1,hok0.2.2.1⟩
  have core:∀(v0:V) (s0:St),k v0 s0=some ans->(∀k':V->St->aD,gH E o.op s k'=k' v0 s0)->
    (∀f,gn f=true->lG E s o.op f=true->(∀d z,f.dst=some d->eD f.op=some [.tmp z]->o.dst≠some d/\o.dst≠some z)->Kept E s (s0.put o.dst v0) f)->
    o.wp P b w (fun b' w'=>∃v s' A',k v s'=some ans/\fL E w0 M A' (s'.put o.dst v) b' w'/\A'.Z=A.Z/\
     (∀f,gn f=true->lG E s o.op f=true->(∀d z,f.dst=some d->eD f.op=some [.tmp z]->o.dst≠some d/\o.dst≠some z)->Kept E s (s'.put o.dst v) f)/\(jE E o.op=true->zQ A A' s.nx s'.nx)) (fun _ _ _=>False):=by
   intro v0 s0 h1 h2 h3
   refine sS hT hG hM sm (ans:=ans) (k:=fun v s'=>if v=v0/\s'=s0 then some ans else none) (by rw [h2];simp) _ _ fun v s' cv w' A' g1 g2 g3 g4 g5=>?_
   split at g1
   ·rename_i hv
    obtain ⟨rfl,rfl⟩:=hv
    exact ⟨v,s',A',h1,g2.put g3,g4,h3,g5⟩
   ·cases g1
  have putne:∀{s':St} {v:V} {t:Nat},o.dst≠some t->(s'.put o.dst v).sl t=s'.sl t:=by
   intro s' v t hne
   unfold St.put
   cases hd:o.dst with
   | none=>rfl
   | some e=>exact aI _ _ (fun e'=>hne (by rw [hd,e']))
  have puthp:∀{s':St} {v:V},(s'.put o.dst v).hp=s'.hp:=by
   intro s' v
   unfold St.put
   cases o.dst<;>rfl
  cases hi:xX E o.op with
  | false=>
   have hev:∀k':V->St->aD,gH E o.op s k'=aZ E o.op (cV E.nt s.sl) s.hp s.nx fun v rs=>k' v (s.vi rs):=by
    intro k'
    simp only [gH,hnt.1,hnt.2,hi,aR]
   rw [hev] at h
   obtain ⟨v,rs,h1,h2⟩:=lz h
   refine core v (s.vi rs) h1 (fun k'=>(hev k').trans (h2 s.hp (fun _=>.inl rfl) _)) fun f _ _ hne d z hd hu=>?_
   obtain ⟨n1,n2⟩:=hne d z hd hu
   refine .inr ⟨by rw [putne n2];rfl,by rw [putne n1];rfl,fun r hr=>?_⟩
   rw [puthp]
   refine dN _ _ _ _ (.inl (Nat.lt_of_not_le fun hle=>hr (sm.hp.al r (sm.nx r hle))))
  | true=>
   have hcall:∃g args argTypes,o.op=.call ⟨.value (.func g),args,argTypes⟩/\xy E g=true:=by
    obtain ⟨_,d0,z0,hd0,_,hop0⟩:=gI hf0
    unfold lG at hok0
    rcases hop0 with ⟨t0,hop0⟩ | ⟨t0,f0',hop0⟩<;>rw [hop0] at hok0<;>simp only [hi,Bool.and_eq_true,aO,Bool.not_true,Bool.false_or] at hok0
    ·have h3:=hok0.2.2.2
     clear hok0
     split at h3
     ·split at h3
      ·rename_i g args at' ho
       simp only [Bool.and_eq_true] at h3
       exact ⟨g,args,at',ho,h3.1⟩
      ·cases h3
     ·cases h3
    ·have h3:=hok0.2.2.2
     clear hok0
     split at h3
     ·split at h3
      ·rename_i g args at' ho;exact ⟨g,args,at',ho,h3⟩
      ·cases h3
     ·split at h3
      ·rename_i g args at' ho;exact ⟨g,args,at',ho,h3⟩
      ·cases h3
     ·cases h3
   obtain ⟨g,args,argTypes,hop,hkeep⟩:=hcall
   unfold xy at hkeep
   split at hkeep
   case h_2=>cases hkeep
   rename_i c cs hcs
   have hev:∀k':V->St->aD,gH E o.op s k'=c.run (args.toList.map (cV E.nt s.sl)) { s with fr:=dK s.sl 0 E.nt++s.fr } fun v s'=>k' v { s' with sl:=iQ s'.fr,fr:=s'.fr.drop E.nt }:=by
    intro k'
    simp only [gH,hnt.1,hnt.2,hi,aR,aO]
    rw [hop]
    simp only [lK,hcs]
   rw [hev] at h
   obtain ⟨rs,v,s2,h1,h2,h3,h4⟩:=(hM.2 g c (by rw [hcs];simp)).2.2.2 hkeep _ _ _ _ h
   refine core v _ h1 (fun k'=>by rw [hev,h2]) fun f hf hok hne d z hd hu=>?_
   obtain ⟨n1,n2⟩:=hne d z hd hu
   have hsl:∀t,t<E.nt->iQ s2.fr t=eN rs (s.sl t):=by
    intro t ht
    rw [h3]
    have:=tJ (f:=eN rs) (sl:=s.sl) (l:=s.fr) (n:=E.nt) (i:=0) (j:=t) ht
    rw [Nat.zero_add] at this
    exact this
   refine .inl ⟨rs,fun hz=>by rw [putne n2];exact hsl z hz,fun hz=>by rw [putne n1];exact hsl d hz,fun t r q ho hlk cs' hb=>?_⟩
   rw [puthp]
   unfold lG at hok
   have hi2:=hi
   rw [hop] at hi2
   simp only [ho,hlk,hop,hi2,aO,hd,Bool.and_eq_true] at hok
   have hok:=hok.2.2.2
   refine ⟨h4 r cs' hb (Nat.lt_of_not_le fun hle=>?_) (fun x hx=>?_),?_⟩
   ·have:=sm.hp.al r (sm.nx r hle)
    have hb':s.hp r=.box cs':=hb
    rw [hb'] at this;cases this
   ·obtain ⟨y,hy,rfl⟩:=List.mem_map.1 hx
    exact List.all_eq_true.1 hok.2.1 y hy
   ·have h5:=hok.2.2
    split at h5
    ·cases h5
    ·rename_i i hi'
     simp only [Bool.or_eq_true] at h5
     rcases h5 with h5 | h5
     ·exact .inl ⟨i,hi',h5⟩
     ·exact .inr h5
 ·refine sS hT hG hM sm h _ _ fun v s' cv w' A' g1 g2 g3 g4 g5=>⟨v,s',A',g1,g2.put g3,g4,fun f hf hok=>(hex ⟨f,hf,hok⟩).elim,g5⟩
def BX (E:Env)(o:Oper)(R:Nat)(v:V)(r:aK):Prop:=(∀(sl:Nat->V) (hp:Nat->aK) (k':V->List aK->aD),aZ E o.op (cV E.nt sl) hp R k'=k' v [r])/\Ab R v r=true
theorem kS {o:Oper}(h:iM o=true):o.guard=none/\∃d us,o.dst=some d/\eD o.op=some us/\(∀x∈us,∃c,x=.const c)/\iC o=false:=by
 unfold iM at h
 split at h
 ·cases h
 rename_i hg
 split at h
 ·cases h
 rename_i d hd
 refine ⟨hg,d,?_⟩
 split at h
 ·rename_i t hop
  exact ⟨[],hd,by rw [hop];rfl,fun x hx=>(by cases hx),by simp [iC,gn,qp,hg,hd,hop]⟩
 ·rename_i t n ps hop
  rw [Bool.and_eq_true] at h
  refine ⟨_,hd,by rw [hop];rfl,fun x hx=>?_,by simp [iC,gn,qp,hg,hd,hop]⟩
  obtain ⟨p,hp,rfl⟩:=List.mem_map.1 hx
  have:=List.all_eq_true.1 h.2 p hp
  cases h2:p.2<;>rw [h2] at this<;>first | exact ⟨_,rfl⟩ | cases this
 ·cases h
theorem Ds {o:Oper}{R:Nat}(h:iM o=true)(hs:(aZ E o.op (cV E.nt fun _=>.dead) (fun _=>.dead) R fun v rs=>Ct rs fun r=>bif Ab R v r then some [] else none).isSome=true):∃v r,BX E o R v r:=by
 obtain ⟨ans,hs⟩:=Option.isSome_iff_exists.1 hs
 obtain ⟨_,d,us,_,hu,hc,_⟩:=kS h
 obtain ⟨v,rs,h1,h2⟩:=lz hs
 match rs,h1 with
 | [r],h1=>
  obtain ⟨h3,_⟩:=dG (show (cond (Ab R v r) (some []) none)=some ans from h1)
  refine ⟨v,r,fun sl hp k'=>?_,h3⟩
  rw [qV hu (ρ':=cV E.nt fun _=>.dead) fun x hx=>?_]
  ·exact h2 hp (fun _=>.inr rfl) k'
  ·obtain ⟨c,rfl⟩:=hc x hx;rfl
 | [],h1=>cases h1
 | _::_::_,h1=>cases h1
theorem A6 {o:Oper}{R:Nat}{v v':V}{r r':aK}(h:BX E o R v r)(h':BX E o R v' r'):v=v'/\r=r':=by
 have h1:=h.1 (fun _=>.dead) (fun _=>.dead) fun x rs=>open Classical in if x=v/\rs=[r] then some [] else none
 rw [h'.1] at h1
 simp only [and_self,if_true] at h1
 refine Classical.byContradiction fun hn=>?_
 rw [if_neg (fun e=>hn ⟨e.1.symm,(List.cons.inj e.2).1.symm⟩)] at h1
 cases h1
theorem Al {R:Nat}{v:V}{r:aK}(h:Ab R v r=true):(∀rs,eN rs v=v)/\∀rs,jF rs r=r:=by
 unfold Ab at h
 split at h
 ·simp only [Bool.and_eq_true] at h
  refine ⟨fun _=>rfl,fun rs=>?_⟩
  have h2:=h.2.2
  split at h2
  ·rename_i zs
   simp only [jF]
   rw [List.map_congr_left (g:=id) fun z hz=>?_,List.map_id]
   have:=List.all_eq_true.1 h2 z hz
   cases z<;>first | rfl | (simp only [cN] at this;cases this;done) | skip
   rename_i d e xs
   cases d<;>first | rfl | (simp only [cN] at this;cases this;done)
  ·cases h2
 ·simp only [Bool.and_eq_true] at h
  refine ⟨fun _=>rfl,fun rs=>?_⟩
  have h2:=h.2
  split at h2
  ·rfl
  ·cases h2
 ·cases h
theorem sX {all:List Oper}{m:Nat}{s:St}{o:Op}:∀{js:List Nat},vX E all m s o js=true->∀j∈js,m.testBit j=false->∃f,all[j]?=some f/\(iC f=true->lG E s o f=true)
 | [],_,j,h,_=>by cases h
 | x::js,hb,j,h,hm=>by
  simp only [vX,Bool.and_eq_true,Bool.or_eq_true] at hb
  rcases List.mem_cons.1 h with rfl | h
  ·rcases hb.1 with h1 | h1
   ·rw [hm] at h1;cases h1
   ·split at h1
    ·cases h1
    ·rename_i f hf
     refine ⟨f,hf,fun h2=>?_⟩
     rw [h2] at h1
     simpa using h1
  ·exact sX hb.2 j h hm
theorem zJ {m dm:Nat}(h:Nat.beq (Nat.land m dm) m=true):∀l,m.testBit l=true->dm.testBit l=true:=by
 intro l hl
 have e:m&&& dm=m:=Nat.eq_of_beq_eq_true h
 rw [<-e,Nat.testBit_and,Bool.and_eq_true] at hl
 exact hl.2
def Bi (ops:Array Oper)(i:Nat)(o:Oper):Prop:=
 (∃us,eD o.op=some us/\rC us ((masks ops.toList []).getD i 0) ops.toList 0=true)/\∀g,o.guard=some g->((masks ops.toList []).getD i 0).testBit g.1=true
theorem lI {ops:Array Oper}{base i:Nat}{is:List Nat}{dm:Nat}(h:vV E base ops.toList (masks ops.toList []) (i::is) dm=true) :
  ∃o,ops[i]?=some o/\dm.testBit i=false/\(∀l,((masks ops.toList []).getD i 0).testBit l=true->dm.testBit l=true)/\
   ((iM o=true/\((∃v r,BX E o (base+i) v r)/\∀d,o.dst=some d->d<E.nt)/\∀x,oF ops.toList is=some x->((masks ops.toList []).getD x 0).testBit i=true/\mA iC ops.toList x=false)∨(iM o=false/\((iC o=true/\zX ops.toList o=true)∨(iC o=false/\(∀x∈is,mA iM ops.toList x=true∨((masks ops.toList []).getD x 0).testBit i=true)/\((∀x∈is,mA iM ops.toList x=false)∨jE E o.op=true)))))/\
   Bi ops i o/\vV E base ops.toList (masks ops.toList []) is (dm||| 2^i)=true:=by
 simp only [vV,Bool.and_eq_true] at h
 obtain ⟨h1,h2⟩:=h
 split at h1
 ·cases h1
 rename_i o ho
 simp only [Bool.and_eq_true,Bool.not_eq_true'] at h1
 obtain ⟨a1,a2,a3,a4,a5⟩:=h1
 refine ⟨o,by simpa using ho,a1,zJ a2,?_,⟨?_,fun g hg=>?_⟩,h2⟩
 ·cases hal:iM o<;>simp only [hal,aO,aR] at a3
  ·refine .inr ⟨rfl,?_⟩
   cases hfl:iC o with
   | true=>
    rw [hfl] at a3
    exact .inl ⟨rfl,by simpa using a3⟩
   | false=>
    rw [hfl,Bool.false_and,Bool.false_or,Bool.not_false,Bool.true_and,Bool.and_eq_true,List.all_eq_true,Bool.or_eq_true] at a3
    refine .inr ⟨rfl,fun x hx=>by have:=a3.1 x hx;rwa [Bool.or_eq_true] at this,a3.2.imp (fun h x hx=>?_) id⟩
    rw [Bool.not_eq_true',List.any_eq_false] at h
    have:=h x hx
    simpa using this
  ·rw [Bool.and_eq_true] at a3
   refine .inl ⟨rfl,?_,fun x hx=>?_⟩
   ·have:=a3.1
    simp only [Bool.and_eq_true] at this
    refine ⟨Ds hal this.1,fun d hd=>?_⟩
    have h2:=this.2
    rw [hd] at h2
    exact Nat.blt_eq.mp h2
   ·have:=a3.2
    rw [hx] at this
    simpa using this
 ·split at a4
  ·cases a4
  ·rename_i us hu;exact ⟨us,hu,a4⟩
 ·rw [hg] at a5;exact a5
theorem nN {ops:Array Oper}{base:Nat}:∀{is:List Nat} {dm:Nat},vV E base ops.toList (masks ops.toList []) is dm=true->is.Nodup/\(∀i∈is,dm.testBit i=false/\∃o,ops[i]?=some o/\Bi ops i o)
 | [],_,_=>⟨List.nodup_nil,fun i h=>by cases h⟩
 | i::is,dm,h=>by
  obtain ⟨o,h1,h2,h3,h4,h5,h6⟩:=lI h
  obtain ⟨g1,g2⟩:=nN h6
  have hx:∀x∈is,x≠i:=by
   intro x hx e
   have:=(g2 x hx).1
   rw [Nat.testBit_or,e,Nat.testBit_two_pow_self,Bool.or_true] at this
   cases this
  refine ⟨List.nodup_cons.2 ⟨fun hm=>hx i hm rfl,g1⟩,fun j hj=>?_⟩
  rcases List.mem_cons.1 hj with rfl | hj
  ·exact ⟨h2,o,h1,h5⟩
  ·have:=(g2 j hj).1
   rw [Nat.testBit_or,Bool.or_eq_false_iff] at this
   exact ⟨this.1,(g2 j hj).2⟩
theorem wZ {ops:Array Oper}{base:Nat}:∀{is:List Nat} {dm:Nat},vV E base ops.toList (masks ops.toList []) is dm=true->∀x0,oF ops.toList is=some x0->mA iC ops.toList x0=false->x0∈is/\mA iM ops.toList x0=false/\∀x∈is,mA iM ops.toList x=false->x=x0∨((masks ops.toList []).getD x 0).testBit x0=true
 | [],_,_,x0,h,_=>by cases h
 | i::is,dm,h,x0,hx,hf=>by
  obtain ⟨o,h1,h2,h3,h4,h5,h6⟩:=lI h
  have hoi:∀p:Oper->Bool,mA p ops.toList i=p o:=fun p=>by
   unfold mA
   rw [show ops.toList[i]?=some o by simpa using h1]
  simp only [oF,hoi] at hx
  rcases h4 with ⟨hal,_,h4⟩ | ⟨hal,h4⟩<;>rw [hal] at hx<;>simp only [aO,aR] at hx
  ·obtain ⟨g1,g2,g3⟩:=wZ h6 x0 hx hf
   refine ⟨List.mem_cons_of_mem _ g1,g2,fun x hm hxa=>?_⟩
   rcases List.mem_cons.1 hm with rfl | hm
   ·rw [hoi,hal] at hxa;cases hxa
   ·exact g3 x hm hxa
  ·injection hx with hx
   subst hx
   rw [hoi] at hf
   refine ⟨by simp,by rw [hoi];exact hal,fun x hm hxa=>?_⟩
   rcases List.mem_cons.1 hm with rfl | hm
   ·exact .inl rfl
   ·rcases h4 with h4 | ⟨_,h4,_⟩
    ·rw [h4.1] at hf;cases hf
    ·rcases h4 x hm with h | h
     ·rw [h] at hxa;cases hxa
     ·exact .inr h
def Rel (ops:Array Oper)(rem:List Nat)(a b:Act):Prop:=a.tmps.size=b.tmps.size/\a.defers=b.defers/\∀t,(∀j∈rem,∀o,ops[j]?=some o->o.dst≠some t)->a.tmps[t]?=b.tmps[t]?
theorem Rel.put {ops:Array Oper}{rem rem':List Nat}{a b:Act}(h:Rel ops rem a b){d:Option Nat}{v:Value}(hr:∀t,d≠some t->(∀j∈rem',∀o,ops[j]?=some o->o.dst≠some t)->∀j∈rem,∀o,ops[j]?=some o->o.dst≠some t):Rel ops rem' (a.put d v) (b.put d v):=by
 obtain ⟨h1,h2,h3⟩:=h
 cases d with
 | none=>exact ⟨h1,h2,fun t ht=>h3 t (hr t (by simp) ht)⟩
 | some e=>
  refine ⟨by simp [Act.put,h1],h2,fun t ht=>?_⟩
  simp only [Act.put,Array.getElem?_setIfInBounds]
  by_cases het:e=t
  ·subst het;simp [h1]
  ·rw [if_neg het,if_neg het]
   exact h3 t (hr t (by simpa using het) ht)
theorem Rel.EK {ops:Array Oper}{rem:List Nat}{a b:Act}{i:Nat}{o:Oper}{d:Nat}{v:Value}(h:Rel ops rem a b)(ho:ops[i]?=some o)(hd:o.dst=some d):Rel ops (rem++[i]) a (b.put (some d) v):=by
 obtain ⟨h1,h2,h3⟩:=h
 refine ⟨by simp [Act.put,h1],h2,fun t ht=>?_⟩
 have htd:d≠t:=fun e=>ht i (by simp) o ho (by rw [hd,e])
 simp only [Act.put,Array.getElem?_setIfInBounds,if_neg htd]
 exact h3 t fun j hj=>ht j (by simp [hj])
theorem Rel.eval {ops:Array Oper}{rem:List Nat}{a b:Act}(h:Rel ops rem a b){x:Operand}(hx:∀j∈rem,∀o d,ops[j]?=some o->o.dst=some d->fJ x d=false):a.eval x=b.eval x:=by
 cases x with
 | tmp t=>
  have:=h.2.2 t fun j hj o ho hd=>by
   have:=hx j hj o t ho hd
   simp [fJ] at this
  simp [Act.eval,this]
 | const c=>rfl
 | global g=>rfl
 | func f=>rfl
def FV (P:Program)(E:Env)(s:St)(b:Act)(f:Oper):Prop:=(gn f=true/\Re E s f)∨(gn f=false/\Pu P b f)
theorem Pu.put {b:Act}{f:Oper}{us:List Operand}(hu:eD f.op=some us){d:Option Nat}{v:Value}(h1:∀x∈us,∀t,d=some t->fJ x t=false)(h2:∀t,d=some t->f.dst≠some t)(h:Pu P b f):Pu P (b.put d v) f:=by
 obtain ⟨v0,e1,e2⟩:=h
 obtain ⟨g1,g2⟩:=ny hu
 refine ⟨v0,?_,fun w=>?_⟩
 ·rw [Act.put_comm b v v0 (fun t ht hf=>h2 t ht hf),e1]
 ·rw [execOp_congr (ρ':=b.eval) f g1 fun x hx=>Act.eval_put fun t ht hxt=>?_]
  ·exact e2 w
  ·have:=h1 x (g2 x hx) t ht
   rw [hxt] at this
   simp [fJ] at this
theorem Re.put {s:St}{f:Oper}(hf:gn f=true){d:Option Nat}{v:V}(h1:∀z,eD f.op=some [.tmp z]->d≠some z)(h2:∀t,d=some t->f.dst≠some t)(h:Re E s f):Re E (s.put d v) f:=by
 obtain ⟨_,d',z,hd',hu,hop⟩:=gI hf
 obtain ⟨d2,hd2,he⟩:=h
 obtain rfl:d2=d':=by rw [hd2] at hd';injection hd'
 have hz:=h1 z hu
 have hput:∀t,d≠some t->(s.put d v).sl t=s.sl t:=by
  intro t ht
  cases d with
  | none=>rfl
  | some e=>exact aI _ _ (fun e1=>ht (by rw [e1]))
 have hhp:(s.put d v).hp=s.hp/\(s.put d v).nx=s.nx:=by cases d<;>exact ⟨rfl,rfl⟩
 refine ⟨d2,hd2,fun k'=>?_⟩
 have e1:look E.nt (s.put d v).sl z=look E.nt s.sl z:=by
  unfold look
  rw [hput z hz]
 have e2:∀k'',aZ E f.op (cV E.nt (s.put d v).sl) (s.put d v).hp (s.put d v).nx k''=aZ E f.op (cV E.nt s.sl) s.hp s.nx k'':=by
  intro k''
  rw [hhp.1,hhp.2]
  rcases hop with ⟨t,hop⟩ | ⟨t,f,hop⟩<;>rw [hop]<;>simp only [aZ,cV,e1]
 rw [e2,he,hput d2 fun e=>h2 d2 e hd2]
open Classical in
theorem Re.gB {s:St}{f:Oper}(hf:gn f=true){e:EA}(h1:∀z,eD f.op=some [.tmp z]->z≠e.2.1)(h2:f.dst≠some e.2.1)(hR:s.hp e.2.2.1=.dead)(h:Re E s f):Re E (gB s e) f:=by
 obtain ⟨_,d',z,hd',hu,hop⟩:=gI hf
 obtain ⟨d2,hd2,he⟩:=h
 obtain rfl:d2=d':=by rw [hd2] at hd';injection hd'
 obtain ⟨v,rs,g1,g2,g3⟩:=oU (es:=[e]) (k:=fun v rs=>if v=s.sl d2/\rs=[] then some [] else none) hu (fun x hx y hy=>by
  rw [List.mem_singleton.1 hx,List.mem_singleton.1 hy]
  have:=h1 z hu
  show Nat.beq z e.2.1=false
  cases hb:Nat.beq z e.2.1 with
  | false=>rfl
  | true=>exact (this (Nat.eq_of_beq_eq_true hb)).elim) (fun x hx=>by rw [List.mem_singleton.1 hx];exact hR) (ans:=[]) (by rw [he];simp)
 split at g1
 case isFalse=>cases g1
 rename_i hv
 obtain ⟨rfl,rfl⟩:=hv
 refine ⟨d2,hd2,fun k'=>(g3 k').trans ?_⟩
 congr 1
 show _=upd s.sl e.2.1 _ d2
 rw [aI _ _ (fun e1=>h2 (by rw [hd2,e1]))]
theorem zK {s:St}{o:Op}{us:List Operand}(hu:eD o=some us){f:Oper}{e:EA}(ho:∀x∈us,fJ x e.2.1=false)(h1:∀z,eD f.op=some [.tmp z]->z≠e.2.1)(h2:f.dst≠some e.2.1):lG E (gB s e) o f=lG E s o f:=by
 have hl:∀z,eD f.op=some [.tmp z]->look E.nt (gB s e).sl z=look E.nt s.sl z:=by
  intro z hz
  unfold look
  rw [show (gB s e).sl z=s.sl z from aI _ _ (h1 z hz)]
 have ho':∀x∈us,cV E.nt (gB s e).sl x=cV E.nt s.sl x:=fun x hx=>lC (s:=s) (es:=[e]) fun y hy=>by rw [List.mem_singleton.1 hy];exact ho x hx
 have hd:∀d,f.dst=some d->(gB s e).sl d=s.sl d:=fun d hd=>aI _ _ fun e1=>h2 (by rw [hd,e1])
 unfold lG
 split
 ·rename_i t z hop
  rw [hl z (by rw [hop];rfl)]
  congr 3
  cases look E.nt s.sl z<;>try rfl
  simp only
  cases xX E o with
  | false=>rfl
  | true=>
   simp only [aO]
   split
   ·rename_i g args at'
    simp only [eD,Option.some.injEq] at hu
    subst hu
    have e1:∀r,(args.toList.all fun x=>sA r (cV E.nt (gB s e).sl x))=args.toList.all fun x=>sA r (cV E.nt s.sl x):=by
     intro r
     rw [Bool.eq_iff_iff,List.all_eq_true,List.all_eq_true]
     constructor
     ·intro h x hx;rw [<-ho' x (List.mem_cons_of_mem _ hx)];exact h x hx
     ·intro h x hx;rw [ho' x (List.mem_cons_of_mem _ hx)];exact h x hx
    rw [e1]
    cases hfd:f.dst with
    | none=>rfl
    | some d=>simp only [hd d hfd]
   ·rfl
 ·rename_i t z fi hop
  rw [hl z (by rw [hop];rfl)]
 ·rfl
open Classical in
def dc (E:Env)(all:List Oper)(base j:Nat):EA:=
 if h:∃p:Oper×V×aK,all[j]?=some p.1/\BX E p.1 (base+j) p.2.1 p.2.2 then (j,(Classical.choose h).1.dst.getD 0,base+j,(Classical.choose h).2) else (j,(match all[j]? with | some o=>o.dst.getD 0 | none=>0),base+j,.undef,.dead)
theorem ze {all:List Oper}{base j:Nat}{o:Oper}{v:V}{r:aK}(ho:all[j]?=some o)(hq:BX E o (base+j) v r):dc E all base j=(j,o.dst.getD 0,base+j,v,r):=by
 have h:∃p:Oper×V×aK,all[j]?=some p.1/\BX E p.1 (base+j) p.2.1 p.2.2:=⟨(o,v,r),ho,hq⟩
 unfold dc
 rw [dif_pos h]
 have h1:=Classical.choose_spec h
 generalize Classical.choose h=p at h1 ⊢
 obtain ⟨h1,h2⟩:=h1
 rw [ho] at h1
 injection h1 with h1
 rw [<-h1] at h2
 obtain ⟨e1,e2⟩:=A6 hq h2
 rw [<-h1,e1,e2]
theorem lF {all:List Oper}{base j:Nat}{o:Oper}(ho:all[j]?=some o):(dc E all base j).2.1=o.dst.getD 0:=by
 unfold dc
 split
 ·rename_i h
  have h1:=Classical.choose_spec h
  generalize Classical.choose h=p at h1 ⊢
  obtain ⟨h1,h2⟩:=h1
  rw [ho] at h1
  injection h1 with h1
  rw [h1]
 ·simp [ho]
theorem ia {all:List Oper}{base j:Nat}:(dc E all base j).2.2.1=base+j:=by
 unfold dc
 split<;>rfl
theorem zL {all:List Oper}{base j:Nat}:Cp (dc E all base j):=by
 unfold dc
 split
 ·rename_i h
  exact Al (Classical.choose_spec h).2.2
 ·exact ⟨fun _=>rfl,fun _=>rfl⟩
theorem qN:∀{l m:List Nat},l.Nodup->(∀x∈l,x∈m)->l.length<=m.length
 | [],m,_,_=>Nat.zero_le _
 | a::l,m,hn,h=>by
  rw [List.nodup_cons] at hn
  have ha:=h a (by simp)
  have:=qN (l:=l) (m:=m.erase a) hn.2 fun x hx=>(List.mem_erase_of_ne (fun e=>by rw [e] at hx;exact hn.1 hx)).2 (h x (List.mem_cons_of_mem _ hx))
  rw [List.length_erase_of_mem ha] at this
  have:=List.length_pos_of_mem ha
  simp;omega
structure Ej (P:Program)(E:Env)(w0:World)(M:Mem E.np)(ops:Array Oper)(base:Nat)(rem is es done:List Nat)(dm:Nat)(s:St)(A:cD)(a b:Act)(w:World):Prop where
 zO:vV E base ops.toList (masks ops.toList []) is dm=true
 DG:∀l,l<ops.size->(dm.testBit l=true↔l∉is)
 zE:Rel ops rem a b
 DI:fL E w0 M A (plus s (es.map (dc E ops.toList base))) b w
 As:∀j∈rem,j∉is/\j∈done/\∃f,ops[j]?=some f/\iC f=true/\Bi ops j f/\FV P E (plus s (es.map (dc E ops.toList base))) b f/\∀l,((masks ops.toList []).getD j 0).testBit l=true->l∉is
 DL:rem.Nodup
 Au:∀j∈rem,∀f,ops[j]?=some f->gn f=false->∀x∈rem,∀g,ops[x]?=some g->gn g=true->∀d,g.dst=some d->∀us,eD f.op=some us->∀y∈us,fJ y d=true->∃ik n,(plus s (es.map (dc E ops.toList base))).sl d=.int ik n
 DK:es.Nodup/\∀j∈es,j∈is/\∃o,ops[j]?=some o/\iM o=true
 DJ:∀j∈is,∀o,ops[j]?=some o->iM o=true->base+j<s.nx/\s.hp (base+j)=.dead/\(j∉es->¬A.al (base+j))
section
variable {ops:Array Oper} {base:Nat} (hback:kK ops.toList 0=true) (hfresh:eE (iL ops.toList)=true)
theorem ym {es is:List Nat}{j:Nat}{us:List Operand}(hes:∀i∈es,i∈is/\∃o,ops[i]?=some o/\iM o=true)(hus:rC us ((masks ops.toList []).getD j 0) ops.toList 0=true)(hm:∀l,((masks ops.toList []).getD j 0).testBit l=true->l∉is) :
  CS us (es.map (dc E ops.toList base)):=by
 intro e he x hx
 obtain ⟨i,hi,rfl⟩:=List.mem_map.1 he
 obtain ⟨h1,o,ho,hal⟩:=hes i hi
 obtain ⟨_,d,_,hd,_⟩:=kS hal
 have ho':ops.toList[i]?=some o:=by simpa using ho
 have e1:(dc E ops.toList base i).2.1=d:=by rw [lF ho',hd];rfl
 rw [e1]
 rcases iE hus (l:=i) (o:=o) ho' hd with h | h
 ·rw [Nat.zero_add] at h
  exact (hm i h h1).elim
 ·exact h x hx
include hfresh in
theorem vW {es:List Nat}{j:Nat}{f:Oper}(hes:∀i∈es,∃o,ops[i]?=some o/\iM o=true)(hj:ops[j]?=some f)(hji:j∉es):∀e∈es.map (dc E ops.toList base),f.dst≠some e.2.1:=by
 intro e he hd
 obtain ⟨i,hi,rfl⟩:=List.mem_map.1 he
 obtain ⟨o,ho,hal⟩:=hes i hi
 obtain ⟨_,d,_,hd',_⟩:=kS hal
 have ho':ops.toList[i]?=some o:=by simpa using ho
 have e1:(dc E ops.toList base i).2.1=d:=by rw [lF ho',hd'];rfl
 rw [e1] at hd
 have:=jl hfresh (by simpa using hj) ho' hd hd'
 subst this
 exact hji hi
include hback hfresh in
theorem vR (hT:∀t i,E.T t=some i->fX P E t i){a:Act}{w:World}{k:St->aD}:∀{is rem es done:List Nat} {dm:Nat} {A:cD} {s:St} {b:Act},
    Ej P E w0 M ops base rem is es done dm s A a b w->lq E ops.toList (masks ops.toList []) base done is s k=some ans->
    ∃rem2 is2 es2 done2 dm2 s2 b2,Ej P E w0 M ops base rem2 is2 es2 done2 dm2 s2 A a b2 w/\lq E ops.toList (masks ops.toList []) base done2 is2 s2 k=some ans/\rem2.length+is2.length+es.length=rem.length+is.length+es2.length/\(∀j,(j∈rem2∨j∈is2/\j∉es2)↔(j∈rem∨j∈is/\j∉es))/\
      (∀i is3,is2=i::is3->i∉es2/\∀o,ops[i]?=some o->iC o=false)
  | [],rem,es,done,dm,A,s,b,h,hr=>⟨rem,[],es,done,dm,s,b,h,hr,rfl,fun _=>Iff.rfl,fun _ _ h=>by cases h⟩
  | i::is,rem,es,done,dm,A,s,b,h,hr=>by
    obtain ⟨hord,hdm,hrel,sm,hrem,hnd,hdep,⟨hesn,hes⟩,hal⟩:=h
    obtain ⟨o,ho,hn,hm,hsp,hok,hord'⟩:=lI hord
    have ho':ops.toList[i]?=some o:=by simpa using ho
    have hi:i<ops.size:=(Array.getElem?_eq_some_iff.1 ho).1
    have hins:i∉is:=(List.nodup_cons.1 (nN hord).1).1
    have hmi:∀l,((masks ops.toList []).getD i 0).testBit l=true->l∉i::is:=by
      intro l hl
      have:=jo hback hi hl
      exact (hdm l (by omega)).1 (hm l hl)
    have hdm':∀l,l<ops.size->((dm||| 2^i).testBit l=true↔l∉is):=by
      intro l hl
      rw [Nat.testBit_or,Bool.or_eq_true,hdm l hl,Nat.testBit_two_pow,decide_eq_true_iff]
      constructor
      · rintro (h | h)
        · exact fun hm=>h (List.mem_cons_of_mem _ hm)
        · subst h;exact hins
      · intro h
        by_cases hli:i=l
        · exact .inr hli
        · exact .inl fun hm=>(List.mem_cons.1 hm).elim (fun e=>hli e.symm) h
    by_cases hie:i∈es
    ·
      obtain ⟨_,o2,ho2,hal2⟩:=hes i hie
      rw [ho] at ho2;injection ho2 with ho2;subst ho2
      obtain ⟨hg,d,_,hd,_⟩:=kS hal2
      obtain ⟨v0,r0,hql⟩:∃v r,BX E o (base+i) v r:=by
        rcases hsp with ⟨_,h,_⟩ | ⟨h,_⟩
        · exact h.1
        · rw [hal2] at h;cases h
      simp only [lq] at hr
      rw [ho'] at hr
      simp only [hal2,aO] at hr
      rw [hql.1] at hr
      simp only [Ct] at hr
      have hea:St.put { s with hp:=upd s.hp (base+i) r0 } o.dst v0=gB s (dc E ops.toList base i):=by
        rw [ze ho' hql,hd]
        rfl
      rw [hea] at hr
      obtain ⟨l1,l2,hl⟩:=List.append_of_mem hie
      have hne:∀f∈(l1++l2).map (dc E ops.toList base),(dc E ops.toList base i).2.1≠f.2.1/\(dc E ops.toList base i).2.2.1≠f.2.2.1:=by
        intro f hf
        obtain ⟨q,hq,rfl⟩:=List.mem_map.1 hf
        rw [hl,List.nodup_append,List.nodup_cons] at hesn
        have hqi:q≠i:=by
          rintro rfl
          rcases List.mem_append.1 hq with h | h
          · exact hesn.2.2 q h q (by simp) rfl
          · exact hesn.2.1.1 h
        have hqe:q∈es:=by
          rw [hl]
          rcases List.mem_append.1 hq with h | h
          · exact List.mem_append_left _ h
          · exact List.mem_append_right _ (List.mem_cons_of_mem _ h)
        obtain ⟨_,oq,hoq,halq⟩:=hes q hqe
        obtain ⟨_,dq,_,hdq,_⟩:=kS halq
        have hoq':ops.toList[q]?=some oq:=by simpa using hoq
        refine ⟨fun e=>?_,fun e=>?_⟩
        · rw [lF ho',lF hoq',hd,hdq] at e
          have e:d=dq:=e
          exact hqi (jl hfresh hoq' ho' hdq (by rw [hd,e]))
        · rw [ia,ia] at e
          omega
      have hplus:plus s (es.map (dc E ops.toList base))=plus (gB s (dc E ops.toList base i)) ((l1++l2).map (dc E ops.toList base)):=by
        rw [hl,List.map_append,List.map_cons,List.map_append]
        exact xG (by rw [<-List.map_append];exact hne)
      have hl12:∀j,j∈l1++l2↔(j∈es/\j≠i):=by
        intro j
        rw [hl] at hesn ⊢
        rw [List.nodup_append,List.nodup_cons] at hesn
        simp only [List.mem_append,List.mem_cons]
        constructor
        · rintro (h | h)
          · exact ⟨.inl h,fun e=>hesn.2.2 j h i (by simp) e⟩
          · exact ⟨.inr (.inr h),fun e=>hesn.2.1.1 (e ▸ h)⟩
        · rintro ⟨h | h | h,hji⟩
          · exact .inl h
          · exact (hji h).elim
          · exact .inr h
      obtain ⟨rem2,is2,es2,done2,dm2,s2,b2,q1,q2,q3,q4,q5⟩:=vR (A:=A) hT (is:=is) (rem:=rem) (es:=l1++l2) (done:=i::done) (dm:=dm||| 2^i) (s:=gB s (dc E ops.toList base i)) (b:=b)
        { zO:=hord',DG:=hdm',zE:=hrel,DI:=by rw [<-hplus];exact sm
          As:=fun j hj=>by
            obtain ⟨p1,p2,f,p3,p4,p5,p6,p7⟩:=hrem j hj
            exact ⟨fun hm=>p1 (List.mem_cons_of_mem _ hm),List.mem_cons_of_mem _ p2,f,p3,p4,p5,by rw [<-hplus];exact p6,fun l hl hm=>p7 l hl (List.mem_cons_of_mem _ hm)⟩
          DL:=hnd
          Au:=by rw [<-hplus];exact hdep
          DK:=by
            refine ⟨?_,fun j hj=>?_⟩
            · rw [hl] at hesn
              exact (List.Sublist.append_left (List.sublist_cons_self _ _) _).nodup hesn
            · obtain ⟨h1,h2⟩:=(hl12 j).1 hj
              obtain ⟨h3,h4⟩:=hes j h1
              exact ⟨(List.mem_cons.1 h3).resolve_left h2,h4⟩
          DJ:=fun j hj oj hoj hja=>by
            obtain ⟨h1,h2,h3⟩:=hal j (List.mem_cons_of_mem _ hj) oj hoj hja
            have hji:j≠i:=fun e=>hins (e ▸ hj)
            refine ⟨h1,?_,fun hn=>h3 fun hm=>hn ((hl12 j).2 ⟨hm,hji⟩)⟩
            show upd s.hp (dc E ops.toList base i).2.2.1 _ (base+j)=_
            rw [aI _ _ (by rw [ia];omega),h2] } hr
      refine ⟨rem2,is2,es2,done2,dm2,s2,b2,q1,q2,?_,fun j=>?_,q5⟩
      · have :es.length=(l1++l2).length+1:=by rw [hl];simp;omega
        simp only [List.length_cons]
        omega
      · rw [q4 j,hl12]
        by_cases hji:j=i
        · subst hji;simp [hins,hie]
        · simp [hji]
    · cases hf:iC o with
      | false=>
        refine ⟨rem,i::is,es,done,dm,s,b,⟨hord,hdm,hrel,sm,hrem,hnd,hdep,⟨hesn,hes⟩,hal⟩,hr,rfl,fun _=>Iff.rfl,fun j is3 hj=>?_⟩
        injection hj with hj _
        subst hj
        exact ⟨hie,fun o' ho'=>by rw [ho] at ho';injection ho' with ho';subst ho';exact hf⟩
      | true=>
        have hnal:iM o=false:=by
          cases hb:iM o with
          | false=>rfl
          | true=>
            obtain ⟨_,d,_,hd,_,_,hnf⟩:=kS hb
            rw [hnf] at hf;cases hf
        obtain ⟨hg,d,hd⟩:=xw hf
        obtain ⟨⟨us,hu,hus⟩,_⟩:=hok
        have hesi:∀j∈es,j∈i::is/\∃o,ops[j]?=some o/\iM o=true:=hes
        have hoff:CS us (es.map (dc E ops.toList base)):=ym hesi hus hmi
        have hdst:=vW (E:=E) (base:=base) hfresh (fun j hj=>(hes j hj).2) ho hie
        have hdead:∀e∈es.map (dc E ops.toList base),s.hp e.2.2.1=.dead:=by
          intro e he
          obtain ⟨j,hj,rfl⟩:=List.mem_map.1 he
          obtain ⟨h1,oj,h2,h3⟩:=hes j hj
          rw [ia]
          exact (hal j h1 oj h2 h3).2.1
        simp only [lq] at hr
        rw [ho'] at hr
        simp only [hnal,hf,aO,aR] at hr
        obtain ⟨hslot,hr⟩:=dG hr
        simp only [hg,guarded,aO,St.nV] at hr
        rw [AR hf] at hr
        obtain ⟨v0,rs0,g1,g2,g3⟩:=oU hu hoff hdead hr
        have hslot':oG E (plus s (es.map (dc E ops.toList base))) o.op=true:=by
          revert hslot
          unfold oG
          split
          · rename_i p t x y ty hop
            rw [hop] at hu
            simp only [eD,Option.some.injEq] at hu
            subst hu
            rw [lC fun e he=>hoff e he x (by simp),lC fun e he=>hoff e he y (by simp)]
            exact id
          · exact id
        obtain ⟨v,cv,h1,h2,h3,h4⟩:=Bw hT hf hslot' sm (ans:=ans) (k:=fun v rs=>open Classical in if v=v0/\rs=rs0 then some ans else none) (by rw [g3];simp)
        have hv:v=v0/\[]=rs0:=Classical.byContradiction fun hn=>by simp only [if_neg hn] at h1;cases h1
        obtain ⟨rfl,hrs⟩:=hv
        subst hrs
        have hzd:∀x∈us,∀t,o.dst=some t->fJ x t=false:=by
          intro x hx t ht
          rcases iE hus (l:=i) (o:=o) ho' ht with h | h
          · rw [Nat.zero_add] at h
            have:=jo hback hi h
            omega
          · exact h x hx
        have hpp:plus (s.put o.dst v) (es.map (dc E ops.toList base))=(plus s (es.map (dc E ops.toList base))).put o.dst v:=lB hdst
        have hsz:d<b.tmps.size∨¬d<b.tmps.size:=Classical.em _
        have hputput:∀v:Value,(b.put o.dst v).put o.dst v=b.put o.dst v:=by
          intro v
          rw [hd]
          simp only [Act.put]
          congr 1
          apply Array.ext_getElem?
          intro t
          simp only [Array.getElem?_setIfInBounds,Array.size_setIfInBounds]
          split
          · split<;>rfl
          · rfl
        have hfv:FV P E ((plus s (es.map (dc E ops.toList base))).put o.dst v) (b.put o.dst cv) o:=by
          rcases h4 with ⟨hm4,h4⟩ | ⟨hm4,h4⟩
          · refine .inl ⟨hm4,?_⟩
            obtain ⟨_,d2,z,hd2,hu2,hop⟩:=gI hm4
            rw [hu] at hu2;injection hu2 with hu2;subst hu2
            have hzn:z≠d:=fun e=>by
              have:=hzd (.tmp z) (by simp) d hd
              simp [fJ,e] at this
            refine ⟨d,hd,fun k'=>?_⟩
            have e1:look E.nt ((plus s (es.map (dc E ops.toList base))).put o.dst v).sl z=look E.nt (plus s (es.map (dc E ops.toList base))).sl z:=by
              unfold look
              rw [hd]
              simp only [St.put]
              rw [aI _ _ hzn]
            have e2:∀k'',aZ E o.op (cV E.nt ((plus s (es.map (dc E ops.toList base))).put o.dst v).sl) ((plus s (es.map (dc E ops.toList base))).put o.dst v).hp ((plus s (es.map (dc E ops.toList base))).put o.dst v).nx k''=aZ E o.op (cV E.nt (plus s (es.map (dc E ops.toList base))).sl) (plus s (es.map (dc E ops.toList base))).hp (plus s (es.map (dc E ops.toList base))).nx k'':=by
              intro k''
              rw [show ((plus s (es.map (dc E ops.toList base))).put o.dst v).hp=(plus s (es.map (dc E ops.toList base))).hp by rw [hd];rfl,show ((plus s (es.map (dc E ops.toList base))).put o.dst v).nx=(plus s (es.map (dc E ops.toList base))).nx by rw [hd];rfl]
              rcases hop with ⟨t,hop⟩ | ⟨t,f,hop⟩<;>rw [hop]<;>simp only [aZ,cV,e1]
            rw [e2,h4,hd]
            simp [St.put,aQ]
          · refine .inr ⟨hm4,cv,hputput cv,fun w'=>?_⟩
            obtain ⟨p1,p2⟩:=ny hu
            rw [execOp_congr (ρ':=b.eval) o p1 fun x hx=>Act.eval_put fun t ht hxt=>?_]
            · exact h4 w'
            · have:=hzd x (p2 x hx) t ht
              rw [hxt] at this
              simp [fJ] at this
        have hnotin:i∉rem:=fun hm=>(hrem i hm).1 (by simp)
        obtain ⟨rem2,is2,es2,done2,dm2,s2,b2,q1,q2,q3,q4,q5⟩:=vR (A:=A) hT (is:=is) (rem:=rem++[i]) (es:=es) (done:=i::done) (dm:=dm||| 2^i) (s:=s.put o.dst v) (b:=b.put o.dst cv)
          { zO:=hord',DG:=hdm',zE:=by rw [hd];exact hrel.EK ho hd
            DI:=by rw [hpp];exact sm.put h3
            As:=fun j hj=>by
              rw [hpp]
              rcases List.mem_append.1 hj with hj | hj
              · obtain ⟨p1,p2,f,p3,p4,p5,p6,p7⟩:=hrem j hj
                have hji:j≠i:=fun e=>hnotin (e ▸ hj)
                obtain ⟨⟨us',hu',hus'⟩,_⟩:=p5
                have hzf:∀x∈us',∀t,o.dst=some t->fJ x t=false:=by
                  intro x hx t ht
                  rcases iE hus' (l:=i) (o:=o) ho' ht with h | h
                  · rw [Nat.zero_add] at h
                    exact (p7 i h (by simp)).elim
                  · exact h x hx
                have hdf:∀t,o.dst=some t->f.dst≠some t:=fun t ht hft=>hji (jl hfresh (by simpa using p3) ho' hft ht)
                refine ⟨fun hm=>p1 (List.mem_cons_of_mem _ hm),List.mem_cons_of_mem _ p2,f,p3,p4,⟨⟨us',hu',hus'⟩,‹_›⟩,?_,fun l hl hm=>p7 l hl (List.mem_cons_of_mem _ hm)⟩
                rcases p6 with ⟨m1,m2⟩ | ⟨m1,m2⟩
                · refine .inl ⟨m1,m2.put m1 (fun z hz e=>?_) hdf⟩
                  rw [hu'] at hz;injection hz with hz;subst hz
                  have:=hzf (.tmp z) (by simp) z e
                  simp [fJ] at this
                · exact .inr ⟨m1,m2.put hu' hzf hdf⟩
              · obtain rfl:j=i:=by simpa using hj
                exact ⟨hins,by simp,o,ho,hf,⟨⟨us,hu,hus⟩,‹_›⟩,hfv,fun l hl hm=>hmi l hl (List.mem_cons_of_mem _ hm)⟩
            DL:=by
              rw [List.nodup_append]
              exact ⟨hnd,by simp,fun x hx y hy e=>by
                obtain rfl:y=i:=by simpa using hy
                subst e;exact hnotin hx⟩
            Au:=fun j hj f hf hfm x hx g hg hgm d' hd' us' hu' y hy hyd=>by
              rw [hpp]
              have hdd:∀x∈rem,ops[x]?=some g->d'≠d:=fun x hx hg e=>by
                have :x=i:=jl hfresh (by simpa using hg) ho' hd' (by rw [hd,e])
                exact hnotin (this ▸ hx)
              have hsl:d'≠d->((plus s (es.map (dc E ops.toList base))).put o.dst v).sl d'=(plus s (es.map (dc E ops.toList base))).sl d':=fun h=>by
                rw [hd];exact aI _ _ h
              rcases List.mem_append.1 hj with hj | hj
              · obtain ⟨p1,p2,f',p3,p4,⟨⟨us2,hu2,hus2⟩,_⟩,p6,p7⟩:=hrem j hj
                rw [hf] at p3;injection p3 with p3;subst p3
                rw [hu'] at hu2;injection hu2 with hu2;subst hu2
                rcases List.mem_append.1 hx with hx | hx
                · rw [hsl (hdd x hx hg)]
                  exact hdep j hj f hf hfm x hx g hg hgm d' hd' us' hu' y hy hyd
                · obtain rfl:x=i:=by simpa using hx
                  rcases iE hus2 (l:=x) (o:=g) (by simpa using hg) hd' with h | h
                  · rw [Nat.zero_add] at h
                    exact (p7 x h (by simp)).elim
                  · have:=h y hy
                    rw [hyd] at this;cases this
              · obtain rfl:j=i:=by simpa using hj
                rw [ho] at hf;injection hf with hf;subst hf
                rw [hu] at hu';injection hu' with hu';subst hu'
                rcases List.mem_append.1 hx with hx | hx
                · rw [hsl (hdd x hx hg)]
                  have hyt:y=.tmp d':=by
                    cases y with
                    | tmp t=>rw [Nat.eq_of_beq_eq_true (show Nat.beq t d'=true from hyd)]
                    | const c=>cases hyd
                    | func c=>cases hyd
                    | global c=>cases hyd
                  subst hyt
                  have hfl:=hf
                  have hsl2:qp o=true:=by
                    have:=‹iC o=true›
                    unfold iC at this
                    rw [hfm] at this
                    simpa using this
                  obtain ⟨_,_,_,hop⟩:=nB hsl2
                  rcases hop with ⟨z,hop⟩ | ⟨z,q,hop⟩ | ⟨p,t,x1,y1,ty,hop,_⟩
                  · have hdp:zX ops.toList o=true:=by
                      rcases hsp with ⟨h,_⟩ | ⟨_,h | h⟩
                      · rw [hnal] at h;cases h
                      · exact h.2
                      · rw [‹iC o=true›] at h;cases h.1
                    unfold zX at hdp
                    rw [hop] at hdp
                    simp only [List.all_eq_true] at hdp
                    have:=hdp g (List.mem_of_getElem? (show ops.toList[x]?=some g by simpa using hg))
                    rw [hgm,hd'] at this
                    rw [hop] at hu
                    simp only [eD,Option.some.injEq] at hu
                    subst hu
                    have hz:d'=z:=by simpa using hy
                    subst hz
                    simp at this
                  · have hdp:zX ops.toList o=true:=by
                      rcases hsp with ⟨h,_⟩ | ⟨_,h | h⟩
                      · rw [hnal] at h;cases h
                      · exact h.2
                      · rw [‹iC o=true›] at h;cases h.1
                    unfold zX at hdp
                    rw [hop] at hdp
                    simp only [List.all_eq_true] at hdp
                    have:=hdp g (List.mem_of_getElem? (show ops.toList[x]?=some g by simpa using hg))
                    rw [hgm,hd'] at this
                    rw [hop] at hu
                    simp only [eD,Option.some.injEq] at hu
                    subst hu
                    have hz:d'=z:=by simpa using hy
                    subst hz
                    simp at this
                  · rw [hop] at hu hslot'
                    simp only [eD,Option.some.injEq] at hu
                    subst hu
                    have key:∀x2:Operand,x2=.tmp d'->(∃ik n,cV E.nt (plus s (es.map (dc E ops.toList base))).sl x2=.int ik n)->∃ik n,(plus s (es.map (dc E ops.toList base))).sl d'=.int ik n:=by
                      rintro x2 rfl ⟨ik,n,h⟩
                      simp only [cV,look] at h
                      cases hb:Nat.blt d' E.nt with
                      | true=>rw [hb] at h;exact ⟨ik,n,h⟩
                      | false=>rw [hb] at h;cases h
                    simp only [oG] at hslot'
                    split at hslot'
                    case h_2=>cases hslot'
                    rename_i ik1 m1 hx1
                    split at hslot'
                    case h_2=>cases hslot'
                    rename_i ik2 m2 hy1
                    rcases List.mem_cons.1 hy with e | hy
                    · exact key x1 e.symm ⟨_,_,hx1⟩
                    · have :Operand.tmp d'=y1:=by simpa using hy
                      exact key y1 this.symm ⟨_,_,hy1⟩
                · obtain rfl:x=j:=by simpa using hx
                  rw [ho] at hg;injection hg with hg;subst hg
                  rw [hfm] at hgm;cases hgm
            DK:=⟨hesn,fun j hj=>by
              obtain ⟨h1,h2⟩:=hes j hj
              exact ⟨(List.mem_cons.1 h1).resolve_left fun e=>hie (e ▸ hj),h2⟩⟩
            DJ:=fun j hj oj hoj hja=>by
              have:=hal j (List.mem_cons_of_mem _ hj) oj hoj hja
              rw [hd];exact this } g1
        refine ⟨rem2,is2,es2,done2,dm2,s2,b2,q1,q2,?_,fun j=>?_,q5⟩
        · simp at q3 ⊢;omega
        · rw [q4 j]
          simp only [List.mem_append,List.mem_cons,List.not_mem_nil,or_false]
          constructor
          · rintro ((h | h) | h)
            · exact .inl h
            · subst h;exact .inr ⟨.inl rfl,hie⟩
            · exact .inr ⟨.inr h.1,h.2⟩
          · rintro (h | ⟨h | h,h2⟩)
            · exact .inl (.inl h)
            · exact .inl (.inr h)
            · exact .inr ⟨h,h2⟩
end
theorem nM {p:Oper->Bool}{ops:Array Oper}{i:Nat}{o:Oper}(h:ops[i]?=some o):mA p ops.toList i=p o:=by
 unfold mA
 rw [show ops.toList[i]?=some o by simpa using h]
theorem yc {s:St}{es:List EA}{t:Nat}(h:∀e∈es,e.2.1≠t):look E.nt (plus s es).sl t=look E.nt s.sl t:=by
 unfold look
 rw [vp h]
theorem qX {all:List Oper}:∀{is:List Nat} {x:Nat},x∈is->mA iM all x=false->∃x0,oF all is=some x0
 | [],x,h,_=>by cases h
 | i::is,x,h,ha=>by
  simp only [oF]
  cases hi:mA iM all i with
  | false=>exact ⟨i,rfl⟩
  | true=>
   rcases List.mem_cons.1 h with rfl | h
   ·rw [hi] at ha;cases ha
   ·exact qX h ha
theorem yW {ops:Array Oper}{base:Nat}:∀{is:List Nat} {dm:Nat},vV E base ops.toList (masks ops.toList []) is dm=true->∀x∈is,∀o,ops[x]?=some o->iM o=true->(∃v r,BX E o (base+x) v r)/\∀d,o.dst=some d->d<E.nt
 | [],_,_,x,h=>by cases h
 | i::is,dm,h,x,hx=>by
  obtain ⟨o,h1,h2,h3,h4,h5,h6⟩:=lI h
  rcases List.mem_cons.1 hx with rfl | hx
  ·intro o' ho ha
   rw [h1] at ho;injection ho with ho;subst ho
   rcases h4 with ⟨_,h4,_⟩ | ⟨h4,_⟩
   ·exact h4
   ·rw [ha] at h4;cases h4
  ·exact yW h6 x hx
theorem uT {s:St}{o:Op}{us:List Operand}(hu:eD o=some us){f:Oper}:∀{es:List EA},CS us es->(∀e∈es,(∀z,eD f.op=some [.tmp z]->z≠e.2.1)/\f.dst≠some e.2.1)->lG E (plus s es) o f=lG E s o f
 | [],_,_=>rfl
 | e::es,ho,h=>by
  show lG E (gB (plus s es) e) o f=_
  obtain ⟨h1,h2⟩:=h e (by simp)
  rw [zK hu (fun x hx=>ho e (by simp) x hx) h1 h2]
  exact uT hu (fun x hx=>ho x (List.mem_cons_of_mem _ hx)) fun x hx=>h x (List.mem_cons_of_mem _ hx)
theorem vr {s:St}{es:List EA}{all:List Oper}{g:Option (Nat×Bool)}(h:∀p,g=some p->∀o d,all[p.1]?=some o->o.dst=some d->∀e∈es,e.2.1≠d)(k:Bool->Option (Nat×Nat×Bool)->aD):guarded E.nt all (plus s es).sl g k=guarded E.nt all s.sl g k:=by
 unfold guarded
 cases g with
 | none=>rfl
 | some p=>
  obtain ⟨j,w⟩:=p
  simp only
  cases ho:all[j]? with
  | none=>rfl
  | some o=>
   simp only
   cases hd:o.dst with
   | none=>rfl
   | some d=>
    simp only
    rw [yc (h (j,w) rfl o d ho hd)]
theorem uM {α β:Type}{f:α->β}:∀{l:List α},l.Nodup->(∀a b,f a=f b->a=b)->(l.map f).Nodup
 | [],_,_=>List.nodup_nil
 | a::l,h,hf=>by
  rw [List.nodup_cons] at h
  rw [List.map_cons,List.nodup_cons]
  refine ⟨fun hm=>?_,uM h.2 hf⟩
  obtain ⟨b,hb,e⟩:=List.mem_map.1 hm
  exact h.1 (hf _ _ e ▸ hb)
theorem C4 (hT:∀t i,E.T t=some i->fX P E t i)(hG:∀g c,c∈E.G g->Valid P E g c)(hM:mG P E){ops:Array Oper}{base:Nat}{Q:Exit->Act->World->Prop}(hback:kK ops.toList 0=true)(hfresh:eE (iL ops.toList)=true){k:St->aD}
    (hQ:∀s' a' w',k s'=some ans->At E w0 M Z0 s' a' w'->Q .normal a' w') :
    ∀(m:Nat) (rem is es done:List Nat) (dm:Nat) (listed:Array Bool) (a b:Act) (w:World) (s:St) (A:cD),rem.length+is.length=m+es.length->listed.size=ops.size->(∀j,j<ops.size->(listed.getD j true=false↔(j∈rem∨j∈is/\j∉es)))->Closed ops listed->
      Ej P E w0 M ops base rem is es done dm s A a b w->A.Z=Z0->
      lq E ops.toList (masks ops.toList []) base done is s k=some ans->(∀i is3,is=i::is3->i∉es/\∀o,ops[i]?=some o->iC o=false)->wpAny P .any ops Q m listed a w:=by
  have unl:∀{listed:Array Bool} {j:Nat},j<listed.size->listed.getD j false=true->¬listed.getD j true=false:=by
    intro listed j hj h1 h2
    simp [hj] at h1 h2
    rw [h1] at h2;cases h2
  have inb:∀{listed:Array Bool} {j:Nat},listed.getD j false=true->j<listed.size:=by
    intro listed j hj
    rcases Nat.lt_or_ge j listed.size with h' | h'
    · exact h'
    · simp [Array.getElem?_eq_none h'] at hj
  have rdy:∀{listed:Array Bool} {i:Nat} {o:Oper},listed.size=ops.size->ops[i]?=some o->listed.getD i true=false->(∀l,((masks ops.toList []).getD i 0).testBit l=true->¬listed.getD l true=false)->i∈Region.ready .any ops listed:=by
    intro listed i o hls ho hi hm
    refine mem_ready.2 ⟨hi,o,ho,fun e he hb=>?_⟩
    have hlt:=jS hback (l:=i) (o:=o) (by simpa using ho) e (by simpa using he) hb
    have hio:=(Array.getElem?_eq_some_iff.1 ho).1
    obtain ⟨pre,h1,h2⟩:=nD (bs:=[]) (show ops.toList[i]?=some o by simpa using ho)
    have hbit:((masks ops.toList []).getD i 0).testBit e.on=true:=by
      rw [List.length_nil,Nat.zero_add] at h2
      rw [List.getD_eq_getElem?_getD,h2]
      have :∀{es:List Edge},e∈es->(jA pre es).testBit e.on=true:=by
        intro es
        induction es with
        | nil=>intro h;cases h
        | cons e' es ih=>
          intro h
          simp only [jA]
          rcases List.mem_cons.1 h with rfl | h
          · rw [hb,aO,Nat.testBit_or,Nat.testBit_or,Nat.testBit_two_pow_self];simp
          · cases Region.binds .any e' with
            | true=>rw [aO,Nat.testBit_or,ih h];simp
            | false=>exact ih h
      exact this (by simpa using he)
    have:=hm e.on hbit
    have hin:e.on<listed.size:=by omega
    simpa [hin] using this
  intro m
  induction m with
  | zero=>
    intro rem is es done dm listed a b w s A hm hls hl hc hat hz hr hhd
    obtain ⟨hord,hdm,hrel,sm,hrem,hnd,hdep,⟨hesn,hes⟩,hal⟩:=hat
    have his:is=[]:=by
      cases is with
      | nil=>rfl
      | cons i is=>
        have h1:=(hhd i is rfl).1
        have:=qN hesn fun x hx=>(List.mem_cons.1 (hes x hx).1).resolve_left fun e=>h1 (e ▸ hx)
        simp at hm;omega
    subst his
    have hee:es=[]:=by
      cases es with
      | nil=>rfl
      | cons j es=>exact absurd (hes j (by simp)).1 (by simp)
    subst hee
    have h1:rem=[]:=List.eq_nil_of_length_eq_zero (by simpa using hm)
    subst h1
    refine ⟨?_,hQ s a w hr ⟨A,⟨sm.hp,fun i x hx=>sm.tm i x (by rw [<-hrel.2.2 i (by simp)];exact hx),sm.nx,by rw [hrel.2.1];exact sm.df,by rw [hrel.1];exact sm.sz,sm.fr⟩,hz⟩⟩
    rw [List.eq_nil_iff_forall_not_mem]
    intro i hi
    obtain ⟨h0,o,ho,_⟩:=mem_ready.1 hi
    have:=(hl i (Array.getElem?_eq_some_iff.1 ho).1).1 h0
    simp at this
  | succ m ih=>
    intro rem is es done dm listed a b w s A hm hls hl hc hat hz hr hhd
    have hat0:=hat
    obtain ⟨hord,hdm,hrel,sm,hrem,hnd,hdep,⟨hesn,hes⟩,hal⟩:=hat
    have hnis:=(nN hord).1
    have remO:∀j∈rem,j<ops.size:=fun j hj=>by
      obtain ⟨_,_,f,h,_⟩:=hrem j hj
      exact (Array.getElem?_eq_some_iff.1 h).1
    have isO:∀j∈is,j<ops.size:=fun j hj=>by
      obtain ⟨_,o,h,_⟩:=(nN hord).2 j hj
      exact (Array.getElem?_eq_some_iff.1 h).1
    have agree:∀{i:Nat} {us:List Operand},i∈Region.ready .any ops listed->rC us ((masks ops.toList []).getD i 0) ops.toList 0=true->∀x∈us,a.eval x=b.eval x:=by
      intro i us hir hus x hx
      refine hrel.eval fun j hj o' d ho' hd=>?_
      rcases iE hus (l:=j) (o:=o') (by simpa using ho') hd with h | h
      · rw [Nat.zero_add] at h
        have h1:=eZ hc hir j h
        exact (unl (inb h1) h1 ((hl j (remO j hj)).2 (.inl hj))).elim
      · exact h x hx
    refine ⟨fun he=>?_,fun x hxr=>?_⟩
    ·
      by_cases hne:rem=[]
      · subst hne
        cases is with
        | nil=>
          have :es=[]:=by
            cases es with
            | nil=>rfl
            | cons j es=>exact absurd (hes j (by simp)).1 (by simp)
          subst this
          simp at hm
        | cons i is=>
          obtain ⟨o,ho,hn,hmk,_⟩:=lI hord
          have hi:=(Array.getElem?_eq_some_iff.1 ho).1
          have :i∈Region.ready .any ops listed:=rdy hls ho ((hl i hi).2 (.inr ⟨by simp,(hhd i is rfl).1⟩)) fun l hl' hf=>by
            have hli:=jo hback hi hl'
            have:=(hl l (by omega)).1 hf
            simp only [List.not_mem_nil,false_or] at this
            exact (hdm l (by omega)).1 (hmk l hl') this.1
          rw [he] at this;cases this
      · obtain ⟨i,him,hmin⟩:=min_mem hne
        obtain ⟨_,_,f,hf,_,_,_,hmk⟩:=hrem i him
        have hi:=remO i him
        have :i∈Region.ready .any ops listed:=rdy hls hf ((hl i hi).2 (.inl him)) fun l hl' hff=>by
          have hli:=jo hback hi hl'
          rcases (hl l (by omega)).1 hff with h | h
          · have:=hmin l h;omega
          · exact hmk l hl' h.1
        rw [he] at this;cases this
    · obtain ⟨h0,o,ho,_⟩:=mem_ready.1 hxr
      have hx:=(Array.getElem?_eq_some_iff.1 ho).1
      have ho':ops.toList[x]?=some o:=by simpa using ho
      have cont:∀{rem is es done:List Nat} {dm:Nat} {listed:Array Bool} {a b:Act} {w:World} {s:St} {A:cD},rem.length+is.length=m+es.length->listed.size=ops.size->(∀j,j<ops.size->(listed.getD j true=false↔(j∈rem∨j∈is/\j∉es)))->Closed ops listed->
          Ej P E w0 M ops base rem is es done dm s A a b w->A.Z=Z0->lq E ops.toList (masks ops.toList []) base done is s k=some ans->wpAny P .any ops Q m listed a w:=by
        intro rem is es done dm listed a b w s A c1 c2 c3 c4 c5 c6 c7
        obtain ⟨rem2,is2,es2,done2,dm2,s2,b2,q1,q2,q3,q4,q5⟩:=vR hback hfresh hT c5 c7
        exact ih rem2 is2 es2 done2 dm2 listed a b2 w s2 A (by omega) c2 (fun j hj=>(c3 j hj).trans (q4 j).symm) c4 q1 c6 q2 q5
      have setL:∀{p:Nat->Prop},(∀j,j<ops.size->(listed.getD j true=false↔p j))->∀j,j<ops.size->((listed.setIfInBounds x true).getD j true=false↔(p j/\j≠x)):=by
        intro p hp j hj
        by_cases hij:x=j
        · subst hij
          have :x<listed.size:=by omega
          simp [this]
        · rw [getD_set_ne true hij,hp j hj]
          simp [Ne.symm hij]
      by_cases hxm:x∈rem
      ·
        obtain ⟨p1,p2,f,p3,p4,p5,p6,p7⟩:=hrem x hxm
        rw [ho] at p3;injection p3 with p3;subst p3
        obtain ⟨hg,d,hd⟩:=xw p4
        obtain ⟨⟨us,hu,hus⟩,hgd⟩:=p5
        refine pU ho ?_
        rw [if_pos (by simp [Region.wanted,hg])]
        have hfin:∀(v:Value),fL E w0 M A (plus s (es.map (dc E ops.toList base))) (b.put o.dst v) w->(∀j∈rem.erase x,∀f,ops[j]?=some f->gn f=false->∀us,eD f.op=some us->(∃y∈us,fJ y d=true)->b.put o.dst v=b)->
            wpAny P .any ops Q m (listed.setIfInBounds x true) (a.put o.dst v) w:=by
          intro v hsm hown
          refine cont (rem:=rem.erase x) (is:=is) (es:=es) (done:=done) (dm:=dm) (b:=b.put o.dst v) (s:=s) (A:=A) (by rw [List.length_erase_of_mem hxm];have:=List.length_pos_of_mem hxm;omega) (by simpa using hls) (fun j hj=>?_) (hc.set hxr)
            { zO:=hord,DG:=hdm,zE:=hrel.put fun t ht h j hj f hf hfd=>?_,DI:=hsm
              As:=fun j hj=>?_
              DL:=hnd.erase x
              Au:=fun j hj f hf hfm x' hx'=>hdep j (List.mem_of_mem_erase hj) f hf hfm x' (List.mem_of_mem_erase hx')
              DK:=⟨hesn,hes⟩,DJ:=hal } hz hr
          · rw [setL hl j hj,hnd.mem_erase_iff]
            constructor
            · rintro ⟨h1 | h1,h2⟩
              · exact .inl ⟨h2,h1⟩
              · exact .inr h1
            · rintro (h1 | h1)
              · exact ⟨.inl h1.2,h1.1⟩
              · exact ⟨.inr h1,fun e=>p1 (e ▸ h1.1)⟩
          · by_cases hjx:j=x
            · subst hjx
              rw [ho] at hf;injection hf with hf;subst hf
              exact ht hfd
            · exact h j (hnd.mem_erase_iff.2 ⟨hjx,hj⟩) f hf hfd
          · obtain ⟨hjx,hjr⟩:=hnd.mem_erase_iff.1 hj
            obtain ⟨n1,n2,f,n3,n4,n5,n6,n7⟩:=hrem j hjr
            refine ⟨n1,n2,f,n3,n4,n5,?_,n7⟩
            obtain ⟨⟨us',hu',hus'⟩,_⟩:=n5
            rcases n6 with ⟨m1,m2⟩ | ⟨m1,m2⟩
            · exact .inl ⟨m1,m2⟩
            · refine .inr ⟨m1,?_⟩
              by_cases hmx:∃y∈us',fJ y d=true
              · rw [hown j hj f n3 m1 us' hu' hmx];exact m2
              · refine m2.put hu' (fun y hy t ht=>?_) (fun t ht hft=>hjx (jl hfresh (by simpa using n3) ho' hft ht))
                rw [hd] at ht;injection ht with ht;subst ht
                cases hb:fJ y d with
                | false=>rfl
                | true=>exact (hmx ⟨y,hy,hb⟩).elim
        have hself:(plus s (es.map (dc E ops.toList base))).put o.dst ((plus s (es.map (dc E ops.toList base))).sl d)=plus s (es.map (dc E ops.toList base)):=by
          rw [hd]
          simp only [St.put]
          rw [tg rfl]
        rcases p6 with ⟨m1,d',hd',hre⟩ | ⟨m1,v,e1,e2⟩
        · obtain rfl:d'=d:=by rw [hd'] at hd;injection hd
          have hslot:oG E (plus s (es.map (dc E ops.toList base))) o.op=true:=by
            obtain ⟨_,_,_,_,_,hop⟩:=gI m1
            rcases hop with ⟨t,hop⟩ | ⟨t,f,hop⟩<;>rw [hop]<;>rfl
          obtain ⟨v',cv,h3,h4,h5,_⟩:=Bw hT p4 hslot sm (ans:=ans) (k:=fun v' rs=>open Classical in if v'=(plus s (es.map (dc E ops.toList base))).sl d' then some ans else none) (by rw [hre];simp)
          have hv:v'=(plus s (es.map (dc E ops.toList base))).sl d':=Classical.byContradiction fun hn=>by simp only [if_neg hn] at h3;cases h3
          subst hv
          refine pT hu (agree hxr hus) (K':=fun b' w'=>b'.defers=[]/\b'=b.put o.dst cv/\w'=w) (fun b' w' h=>h.1) ?_ ?_
          · unfold Oper.wp
            rw [h4]
            exact ⟨by rw [hd'];exact sm.df,rfl,rfl⟩
          · rintro v w' ⟨_,hv,rfl⟩
            have hsm:fL E w0 M A (plus s (es.map (dc E ops.toList base))) (b.put o.dst v) w':=by
              rw [hv]
              have:=sm.put (d:=o.dst) h5
              rwa [hself] at this
            refine hfin v hsm fun j hj f hf hfm us' hu' ⟨y,hy,hyd⟩=>?_
            obtain ⟨ik,n,hint⟩:=hdep j (List.mem_of_mem_erase hj) f hf hfm x hxm o ho m1 d' hd' us' hu' y hy hyd
            rw [hd']
            have hb2:∀t x,b.tmps[t]?=some x->t=d'->x=.int ik n:=by
              rintro t x hx rfl
              have:=sm.tm t x hx
              rw [hint] at this;exact this
            simp only [Act.put]
            have :b.tmps.setIfInBounds d' v=b.tmps:=by
              apply Array.ext_getElem?
              intro t
              rw [Array.getElem?_setIfInBounds]
              by_cases hdt:d'=t
              · subst hdt
                rw [if_pos rfl]
                split
                · rename_i hlt
                  have h6:=hsm.tm d' v (by rw [hd'];simp [Act.put,hlt])
                  rw [hint] at h6
                  have h7:=hb2 d' _ (Array.getElem?_eq_getElem hlt) rfl
                  rw [Array.getElem?_eq_getElem hlt,h7]
                  exact congrArg some (show v=.int ik n from h6)
                · rename_i hlt
                  rw [Array.getElem?_eq_none (Nat.le_of_not_lt hlt)]
              · rw [if_neg hdt]
            rw [this]
        · refine pT hu (agree hxr hus) (K':=fun b' w'=>b'.defers=[]/\b'=b/\w'=w) (fun b' w' h=>h.1) ?_ ?_
          · unfold Oper.wp
            rw [e2 w]
            exact ⟨by rw [hd];exact sm.df,e1,rfl⟩
          · rintro v' w' ⟨_,hv,rfl⟩
            exact hfin v' (by rw [hv];exact sm) fun _ _ _ _ _ _ _ _=>hv
      · have hxi:x∈is/\x∉es:=((hl x hx).1 h0).resolve_left hxm
        have hmx:∀l,((masks ops.toList []).getD x 0).testBit l=true->l∉rem/\(l∈is->l∈es):=by
          intro l hl'
          have h1:=eZ hc hxr l hl'
          have hlx:=jo hback hx hl'
          have h2:=unl (inb h1) h1
          rw [hl l (by omega)] at h2
          exact ⟨fun h=>h2 (.inl h),fun h=>Classical.byContradiction fun hn=>h2 (.inr ⟨h,hn⟩)⟩
        obtain ⟨_,o2,ho2,hok⟩:=(nN hord).2 x hxi.1
        rw [ho] at ho2;injection ho2 with ho2;subst ho2
        obtain ⟨⟨us,hu,hus⟩,hgd⟩:=hok
        cases hxa:iM o with
        | true=>
          obtain ⟨hg,d,_,hd,_⟩:=kS hxa
          obtain ⟨⟨v0,r0,hq⟩,_⟩:=yW hord x hxi.1 o ho hxa
          obtain ⟨hbx,hbd,hba⟩:=hal x hxi.1 o ho hxa
          have hba:=hba hxi.2
          refine pU ho ?_
          rw [if_pos (by simp [Region.wanted,hg])]
          have hallq:∀k':V->List aK->aD,aZ E o.op (cV E.nt (plus s (es.map (dc E ops.toList base))).sl) (plus s (es.map (dc E ops.toList base))).hp (base+x) k'=k' v0 [r0]:=fun k'=>hq.1 _ _ k'
          obtain ⟨v2,rs2,k1,k2⟩:=kT (o:=o) (M:=M) (w0:=w0) (nx:=base+x) (k:=fun v rs=>open Classical in if v=v0/\rs=[r0] then some ans else none) hT hG sm.hp sm.ev (ans:=ans) (by rw [hallq];simp)
          simp only at k1
          split at k1
          case isFalse=>cases k1
          rename_i hvr
          rw [hvr.1,hvr.2] at k2
          refine pT hu (agree hxr hus) (K':=fun b' w'=>b'.defers=[]/\∃cv A',b'=b.put o.dst cv/\Hp E.cells w0 M A' (dH (plus s (es.map (dc E ops.toList base))).hp (base+x) [r0]) w'/\Step A A' w w' (fun _=>False)/\V2 E.cells w' A' v0 cv/\(∀r,A'.al r->A.al r∨(base+x<=r/\r<base+x+1))) (fun b' w' h=>h.1) ?_ ?_
          · exact k2 (fun r hr1 hr2=>by
              have :r=base+x:=by simp at hr2;omega
              rw [this];exact hba) _ _ fun cv w' A' g1 g2 g3 g4=>⟨by rw [hd];exact sm.df,cv,A',rfl,g1,g2,g3,g4⟩
          · rintro v w' ⟨_,cv,A',hv,g1,g2,g3,g4⟩
            rw [hd] at hv
            have hvb:∀y:Value,b.put (some d) v=b.put (some d) cv:=fun _=>hv
            have sm3:fL E w0 M A' { sl:=(plus s (es.map (dc E ops.toList base))).sl,hp:=upd (plus s (es.map (dc E ops.toList base))).hp (base+x) r0,nx:=(plus s (es.map (dc E ops.toList base))).nx,fr:=(plus s (es.map (dc E ops.toList base))).fr } b w':=by
              refine ⟨g1,fun i y hy=>(sm.tm i y hy).step g2 sm.hp (fun _ h=>h),fun r hr ha=>?_,sm.df,sm.sz,sm.fr.mono fun _ _ h=>h.step g2 sm.hp (fun _ h=>h)⟩
              rcases g4 r ha with h1 | h1
              · exact sm.nx r hr h1
              · have hr':(plus s (es.map (dc E ops.toList base))).nx<=r:=hr
                rw [lX] at hr'
                omega
            have sm4:=sm3.put (d:=some d) g3
            have hea:({ sl:=(plus s (es.map (dc E ops.toList base))).sl,hp:=upd (plus s (es.map (dc E ops.toList base))).hp (base+x) r0,nx:=(plus s (es.map (dc E ops.toList base))).nx,fr:=(plus s (es.map (dc E ops.toList base))).fr }:St).put (some d) v0=plus s ((x::es).map (dc E ops.toList base)):=by
              show _=gB (plus s (es.map (dc E ops.toList base))) (dc E ops.toList base x)
              rw [ze ho' hq,hd]
              rfl
            rw [hea,<-hv] at sm4
            have hedst:(dc E ops.toList base x).2.1=d:=by rw [lF ho',hd];rfl
            rw [hd]
            refine cont (rem:=rem) (is:=is) (es:=x::es) (done:=done) (dm:=dm) (b:=b.put (some d) v) (s:=s) (A:=A') (by simp;omega) (by simpa using hls) (fun j hj=>?_) (hc.set hxr)
              { zO:=hord,DG:=hdm,zE:=hrel.put fun t _ h=>h,DI:=sm4
                As:=fun j hj=>?_
                DL:=hnd
                Au:=fun j hj f hf hfm x' hx' g hg hgm d' hd' us' hu' y hy hyd=>?_
                DK:=⟨List.nodup_cons.2 ⟨hxi.2,hesn⟩,fun j hj=>?_⟩
                DJ:=fun j hj oj hoj hja=>?_ } (g2.Z.trans hz) hr
            · rw [setL hl j hj]
              simp only [List.mem_cons,not_or]
              constructor
              · rintro ⟨h1 | h1,h2⟩
                · exact .inl h1
                · exact .inr ⟨h1.1,h2,h1.2⟩
              · rintro (h1 | h1)
                · exact ⟨.inl h1,fun e=>hxm (e ▸ h1)⟩
                · exact ⟨.inr ⟨h1.1,h1.2.2⟩,h1.2.1⟩
            · obtain ⟨n1,n2,f,n3,n4,n5,n6,n7⟩:=hrem j hj
              refine ⟨n1,n2,f,n3,n4,n5,?_,n7⟩
              obtain ⟨⟨us',hu',hus'⟩,_⟩:=n5
              have hoffd:∀y∈us',fJ y d=false:=by
                intro y hy
                rcases iE hus' (l:=x) (o:=o) ho' hd with h | h
                · rw [Nat.zero_add] at h
                  exact (n7 x h hxi.1).elim
                · exact h y hy
              have hfd:f.dst≠some d:=fun hft=>hxm ((jl hfresh (by simpa using n3) ho' hft hd) ▸ hj)
              rcases n6 with ⟨m1,m2⟩ | ⟨m1,m2⟩
              · refine .inl ⟨m1,?_⟩
                show Re E (gB (plus s (es.map (dc E ops.toList base))) (dc E ops.toList base x)) f
                refine m2.gB m1 (fun z hz e=>?_) (by rw [hedst];exact hfd) ?_
                · rw [hu'] at hz;injection hz with hz;subst hz
                  rw [hedst] at e
                  have:=hoffd (.tmp z) (by simp)
                  simp [fJ,e] at this
                · rw [ia];exact sm.hp.al _ hba
              · exact .inr ⟨m1,m2.put hu' (fun y hy t ht=>by injection ht with ht;subst ht;exact hoffd y hy) (fun t ht=>by injection ht with ht;subst ht;exact hfd)⟩
            · have hne:d'≠d:=fun e=>hxm ((jl hfresh (by simpa using hg) ho' (by rw [hd',e]) hd) ▸ hx')
              show ∃ik n,upd (plus s (es.map (dc E ops.toList base))).sl (dc E ops.toList base x).2.1 _ d'=.int ik n
              rw [aI _ _ (by rw [hedst];exact hne)]
              exact hdep j hj f hf hfm x' hx' g hg hgm d' hd' us' hu' y hy hyd
            · rcases List.mem_cons.1 hj with rfl | hj
              · exact ⟨hxi.1,o,ho,hxa⟩
              · exact hes j hj
            · obtain ⟨h1,h2,h3⟩:=hal j hj oj hoj hja
              refine ⟨h1,h2,fun hn ha=>?_⟩
              simp only [List.mem_cons,not_or] at hn
              rcases g4 _ ha with h | h
              · exact h3 hn.2 h
              · exact hn.1 (by omega)
        | false=>
          cases is with
          | nil=>cases hxi.1
          | cons i is=>
          obtain ⟨oi,hoi,hn,hmk,hsp,_,hord'⟩:=lI hord
          have hi:=(Array.getElem?_eq_some_iff.1 hoi).1
          have hie:=(hhd i is rfl).1
          have hspi:iC oi=false:=(hhd i is rfl).2 oi hoi
          have hxe:x=i:=by
            rcases List.mem_cons.1 hxi.1 with h | hxs
            · exact h
            · exfalso
              rcases hsp with ⟨_,_,hsp⟩ | ⟨_,hsp | ⟨_,hsp,_⟩⟩
              · obtain ⟨x0,hx0⟩:=qX hxs (by rw [nM ho];exact hxa)
                obtain ⟨b1,b2⟩:=hsp x0 hx0
                obtain ⟨b3,b4,b5⟩:=wZ hord' x0 hx0 b2
                rcases b5 x hxs (by rw [nM ho];exact hxa) with rfl | h
                · exact hie ((hmx i b1).2 (by simp))
                · have:=(hmx x0 h).2 (List.mem_cons_of_mem _ b3)
                  obtain ⟨_,o0,ho0,ha0⟩:=hes x0 this
                  rw [nM ho0,ha0] at b4;cases b4
              · rw [hspi] at hsp;cases hsp.1
              · rcases hsp x hxs with h | h
                · rw [nM ho,hxa] at h;cases h
                · exact hie ((hmx i h).2 (by simp))
          subst hxe
          rw [ho] at hoi;injection hoi with hoi;subst hoi
          have hmi:∀l,((masks ops.toList []).getD x 0).testBit l=true->l∉x::is:=by
            intro l hl'
            have:=jo hback hx hl'
            exact (hdm l (by omega)).1 (hmk l hl')
          have hoff:CS us (es.map (dc E ops.toList base)):=ym hes hus hmi
          have hdst:=vW (E:=E) (base:=base) hfresh (fun j hj=>(hes j hj).2) ho hxi.2
          simp only [lq] at hr
          rw [ho'] at hr
          simp only [hxa,hspi,aR] at hr
          obtain ⟨hpend,hr⟩:=dG hr
          obtain ⟨go,kn,h2,hkn,hgdet⟩:=mS hr
          rw [hkn.st] at h2
          have hgd':∀k':Bool->Option (Nat×Nat×Bool)->aD,guarded E.nt ops.toList (plus s (es.map (dc E ops.toList base))).sl o.guard k'=k' go kn:=by
            intro k'
            rw [vr ?_,hgdet]
            intro p hp og d hog hdg e he hed
            have hgb:=hmi _ (hgd p hp)
            have hge:p.1∉es:=fun h=>hgb (hes _ h).1
            exact vW (E:=E) (base:=base) hfresh (fun j hj=>(hes j hj).2) (show ops[p.1]?=some og by simpa using hog) hge e he (by rw [hdg,hed])
          have hw:=mm (o:=o) sm.tm sm.sz hgd'
          have hwa:Region.wanted o (yielded ops a.tmps)=go:=by
            rw [<-hw]
            unfold Region.wanted
            cases hg:o.guard with
            | none=>rfl
            | some gw=>
              obtain ⟨g,want⟩:=gw
              have hgl:=(hmx g (hgd _ hg)).1
              have :yielded ops a.tmps g=yielded ops b.tmps g:=by
                unfold yielded
                cases hog:ops[g]? with
                | none=>rfl
                | some og=>
                  simp only [Option.bind_some]
                  cases hdg:og.dst with
                  | none=>rfl
                  | some dg=>
                    show (match a.tmps[dg]? with | some (.bool b)=>some b | _=>none)=match b.tmps[dg]? with | some (.bool b)=>some b | _=>none
                    rw [hrel.2.2 dg fun j hj f hf hfd=>?_]
                    have :j=g:=jl hfresh (by simpa using hf) (by simpa using hog) hfd hdg
                    subst this
                    exact hgl hj
              show (yielded ops a.tmps g==some want)=(yielded ops b.tmps g==some want)
              rw [this]
          have hside:∀j∈rem,∀f,ops[j]?=some f->(∀us',eD f.op=some us'->∀y∈us',∀t,o.dst=some t->fJ y t=false)/\(∀t,o.dst=some t->f.dst≠some t):=by
            intro j hj f hf
            obtain ⟨p1,p2,f',p3,p4,⟨⟨us2,hu2,hus2⟩,_⟩,p6,p7⟩:=hrem j hj
            rw [hf] at p3;injection p3 with p3;subst p3
            refine ⟨fun us' hu' y hy t ht=>?_,fun t ht hft=>?_⟩
            · rw [hu2] at hu';injection hu' with hu';subst hu'
              rcases iE hus2 (l:=x) (o:=o) ho' ht with h | h
              · rw [Nat.zero_add] at h
                exact (p7 x h (by simp)).elim
              · exact h y hy
            · have :j=x:=jl hfresh (by simpa using hf) ho' hft ht
              exact hxm (this ▸ hj)
          have hpen:∀j∈rem,∀f,ops[j]?=some f->gn f=true->lG E (plus s (es.map (dc E ops.toList base))) o.op f=true:=by
            intro j hj f hf hff
            obtain ⟨p1,p2,f',p3,p4,⟨⟨us2,hu2,hus2⟩,_⟩,p6,p7⟩:=hrem j hj
            rw [hf] at p3;injection p3 with p3;subst p3
            have hmf:((masks ops.toList []).getD x 0).testBit j=false:=by
              cases hb:((masks ops.toList []).getD x 0).testBit j with
              | false=>rfl
              | true=>exact ((hmx j hb).1 hj).elim
            obtain ⟨f2,hf2,hfl⟩:=sX hpend j p2 hmf
            rw [show ops.toList[j]?=some f by simpa using hf] at hf2
            injection hf2 with hf2;subst hf2
            have hoff2:CS us2 (es.map (dc E ops.toList base)):=ym hes hus2 p7
            rw [uT hu hoff fun e he=>⟨fun z hz e1=>?_,vW (E:=E) (base:=base) hfresh (fun j hj=>(hes j hj).2) hf (fun h=>p1 (hes j h).1) e he⟩]
            · exact hfl p4
            · rw [hu2] at hz;injection hz with hz;subst hz
              have:=hoff2 e he (.tmp z) (by simp)
              simp [fJ,e1] at this
          have hdm':∀l,l<ops.size->((dm||| 2^x).testBit l=true↔l∉is):=by
            intro l hl
            rw [Nat.testBit_or,Bool.or_eq_true,hdm l hl,Nat.testBit_two_pow,decide_eq_true_iff]
            constructor
            · rintro (h | h)
              · exact fun hm=>h (List.mem_cons_of_mem _ hm)
              · subst h;exact (List.nodup_cons.1 hnis).1
            · intro h
              by_cases hli:x=l
              · exact .inr hli
              · exact .inl fun hm=>(List.mem_cons.1 hm).elim (fun e=>hli e.symm) h
          have hes2:∀j∈es,j∈is/\∃o,ops[j]?=some o/\iM o=true:=fun j hj=>by
            obtain ⟨h1,h2⟩:=hes j hj
            exact ⟨(List.mem_cons.1 h1).resolve_left fun e=>hxi.2 (e ▸ hj),h2⟩
          have next:∀{A':cD} {s2:St} {v':V} {v:Value} {w':World},fL E w0 M A' (plus (s2.put o.dst v') (es.map (dc E ops.toList base))) (b.put o.dst v) w'->A'.Z=Z0->
              (∀j∈rem,∀f,ops[j]?=some f->gn f=true->Re E (plus (s2.put o.dst v') (es.map (dc E ops.toList base))) f)->
              (∀j∈rem,∀f,ops[j]?=some f->gn f=true->∀d,f.dst=some d->(∃ik n,(plus s (es.map (dc E ops.toList base))).sl d=.int ik n)->∃ik n,(plus (s2.put o.dst v') (es.map (dc E ops.toList base))).sl d=.int ik n)->
              (∀j∈is,∀o,ops[j]?=some o->iM o=true->base+j<s2.nx/\s2.hp (base+j)=.dead/\(j∉es->¬A'.al (base+j)))->
              lq E ops.toList (masks ops.toList []) base (x::done) is (s2.put o.dst v') k=some ans->wpAny P .any ops Q m (listed.setIfInBounds x true) (a.put o.dst v) w':=by
            intro A' s2 v' v w' hsm hz' hre hint halr hr'
            have hput:(s2.put o.dst v').hp=s2.hp/\(s2.put o.dst v').nx=s2.nx:=by cases o.dst<;>exact ⟨rfl,rfl⟩
            refine cont (rem:=rem) (is:=is) (es:=es) (done:=x::done) (dm:=dm||| 2^x) (b:=b.put o.dst v) (s:=s2.put o.dst v') (A:=A') (by simp at hm;omega) (by simpa using hls) (fun j hj=>?_) (hc.set hxr)
              { zO:=hord',DG:=hdm',zE:=hrel.put fun t _ h=>h,DI:=hsm
                As:=fun j hj=>?_
                DL:=hnd
                Au:=fun j hj f hf hfm x' hx' g hg hgm d' hd' us' hu' y hy hyd=>hint x' hx' g hg hgm d' hd' (hdep j hj f hf hfm x' hx' g hg hgm d' hd' us' hu' y hy hyd)
                DK:=⟨hesn,hes2⟩
                DJ:=fun j hj oj hoj hja=>by rw [hput.1,hput.2];exact halr j hj oj hoj hja } hz' hr'
            · rw [setL hl j hj]
              have h2:x∉is:=(List.nodup_cons.1 hnis).1
              simp only [List.mem_cons]
              constructor
              · rintro ⟨h1 | ⟨h1 | h1,h3⟩,h2⟩
                · exact .inl h1
                · exact (h2 h1).elim
                · exact .inr ⟨h1,h3⟩
              · rintro (h1 | h1)
                · exact ⟨.inl h1,fun e=>hxm (e ▸ h1)⟩
                · exact ⟨.inr ⟨.inr h1.1,h1.2⟩,fun e=>h2 (e ▸ h1.1)⟩
            · obtain ⟨n1,n2,f,n3,n4,n5,n6,n7⟩:=hrem j hj
              refine ⟨fun hm=>n1 (List.mem_cons_of_mem _ hm),List.mem_cons_of_mem _ n2,f,n3,n4,n5,?_,fun l hl hm=>n7 l hl (List.mem_cons_of_mem _ hm)⟩
              obtain ⟨g1,g2⟩:=hside j hj f n3
              rcases n6 with ⟨m1,m2⟩ | ⟨m1,m2⟩
              · exact .inl ⟨m1,hre j hj f n3 m1⟩
              · obtain ⟨⟨us',hu',_⟩,_⟩:=n5
                exact .inr ⟨m1,m2.put hu' (g1 us' hu') g2⟩
          refine pU ho ?_
          rw [hwa]
          cases go<;>simp only [aO,aR] at h2
          case false=>
            rw [if_neg (by simp)]
            refine next (s2:=s) (v':=.undef) (A':=A) (by rw [lB hdst];exact sm.put (v:=.undef) (cv:=undef) rfl) hz (fun j hj f hf hfm=>?_) (fun j hj f hf hfm d hd hin=>?_) (fun j hj=>hal j (List.mem_cons_of_mem _ hj)) h2
            · obtain ⟨g1,g2⟩:=hside j hj f hf
              obtain ⟨_,_,f',n3,n4,n5,n6,n7⟩:=hrem j hj
              rw [hf] at n3;injection n3 with n3;subst n3
              rcases n6 with ⟨m1,m2⟩ | ⟨m1,_⟩
              · rw [lB hdst]
                refine m2.put m1 (fun z hz e=>?_) g2
                have:=g1 _ hz (.tmp z) (by simp) z e
                simp [fJ] at this
              · rw [hfm] at m1;cases m1
            · obtain ⟨g1,g2⟩:=hside j hj f hf
              obtain ⟨ik,n,hin⟩:=hin
              refine ⟨ik,n,?_⟩
              rw [lB hdst,<-hin]
              cases hod:o.dst with
              | none=>rfl
              | some e=>exact aI _ _ (fun e1=>g2 e hod (by rw [hd,e1]))
          case true=>
            rw [if_pos rfl]
            have hex:∃k2:V->St->aD,gH E o.op (plus s (es.map (dc E ops.toList base))) k2=some ans/\∀v S',k2 v S'=some ans->∃s2,S'=plus s2 (es.map (dc E ops.toList base))/\(∀e∈es.map (dc E ops.toList base),s2.hp e.2.2.1=.dead)/\lq E ops.toList (masks ops.toList []) base (x::done) is (s2.put o.dst v) k=some ans:=by
              cases hese:es.map (dc E ops.toList base) with
              | nil=>exact ⟨_,h2,fun v S' h=>⟨S',rfl,by simp,h⟩⟩
              | cons e esl=>
                have hlate:jE E o.op=true:=by
                  have :∃j,j∈es:=by
                    cases es with
                    | nil=>cases hese
                    | cons j _=>exact ⟨j,by simp⟩
                  obtain ⟨j,hj⟩:=this
                  obtain ⟨h1,oj,h3,h4⟩:=hes2 j hj
                  rcases hsp with ⟨h,_⟩ | ⟨_,h | ⟨_,_,h⟩⟩
                  · rw [hxa] at h;cases h
                  · rw [hspi] at h;cases h.1
                  · rcases h with h | h
                    · have:=h j h1
                      rw [nM h3,h4] at this;cases this
                    · exact h
                have hdn:∀q∈e::esl,s.hp q.2.2.1=.dead/\q.2.2.1<s.nx/\q.2.1<E.nt/\Cp q:=by
                  intro q hq
                  rw [<-hese] at hq
                  obtain ⟨j,hj,rfl⟩:=List.mem_map.1 hq
                  obtain ⟨h1,oj,h3,h4⟩:=hes j hj
                  obtain ⟨c1,c2,c3⟩:=hal j h1 oj h3 h4
                  obtain ⟨_,dj,_,hdj,_⟩:=kS h4
                  have e1:(dc E ops.toList base j).2.1=dj:=by rw [lF (show ops.toList[j]?=some oj by simpa using h3),hdj];rfl
                  rw [ia]
                  exact ⟨c2,c1,by rw [e1];exact (yW hord j h1 oj h3 h4).2 dj hdj,zL⟩
                have hnd2:((e::esl).map fun q=>q.2.2.1).Nodup:=by
                  rw [<-hese,List.map_map]
                  refine uM hesn fun p q h=>?_
                  have :base+p=base+q:=by simpa only [Function.comp,ia] using h
                  omega
                obtain ⟨v0,s2,c1,c2,c3⟩:=yM hM.2 h2 hlate hu (by rw [<-hese];exact hoff) hdn hnd2
                refine ⟨fun v S'=>open Classical in if v=v0/\S'=plus s2 (e::esl) then some ans else none,by rw [c3];simp,fun v S' h=>?_⟩
                simp only at h
                split at h
                · rename_i hv
                  obtain ⟨rfl,rfl⟩:=hv
                  exact ⟨s2,rfl,c2,c1⟩
                · cases h
            obtain ⟨k2,hk2,hk3⟩:=hex
            refine pT hu (agree hxr hus) ?_ (yD hT hG hM sm hk2) ?_
            · rintro b' w' ⟨v,s',A',e1,e2,_⟩;exact e2.df
            · rintro v w' ⟨v',s',A',e1,e2,e3,e4,e5⟩
              obtain ⟨s2,rfl,c2,c3⟩:=hk3 v' s' e1
              have hpp:(plus s2 (es.map (dc E ops.toList base))).put o.dst v'=plus (s2.put o.dst v') (es.map (dc E ops.toList base)):=(lB hdst).symm
              rw [hpp] at e2 e4
              have hkept:∀j∈rem,∀f,ops[j]?=some f->gn f=true->Kept E (plus s (es.map (dc E ops.toList base))) (plus (s2.put o.dst v') (es.map (dc E ops.toList base))) f:=by
                intro j hj f hf hfm
                obtain ⟨g1,g2⟩:=hside j hj f hf
                refine e4 f hfm (hpen j hj f hf hfm) fun d z hd hu'=>⟨fun h=>g2 d h hd,fun h=>?_⟩
                have:=g1 _ hu' (.tmp z) (by simp) z h
                simp [fJ] at this
              refine next e2 (e3.trans hz) (fun j hj f hf hfm=>?_) (fun j hj f hf hfm d hd hin=>?_) (fun j hj oj hoj hja=>?_) c3
              · obtain ⟨_,_,f',n3,n4,n5,n6,n7⟩:=hrem j hj
                rw [hf] at n3;injection n3 with n3;subst n3
                rcases n6 with ⟨m1,m2⟩ | ⟨m1,_⟩
                · exact Cd m1 m2 (hpen j hj f hf hfm) (hkept j hj f hf hfm)
                · rw [hfm] at m1;cases m1
              · obtain ⟨ik,n,hin⟩:=hin
                refine ⟨ik,n,?_⟩
                obtain ⟨_,d2,z,hd2,hu2,hop2⟩:=gI hfm
                rw [hd] at hd2;injection hd2 with hd2;subst hd2
                have hdn:d<E.nt:=by
                  have hok:=hpen j hj f hf hfm
                  unfold lG at hok
                  rcases hop2 with ⟨t,hop⟩ | ⟨t,fi,hop⟩<;>rw [hop] at hok<;>simp only [hd,Bool.and_eq_true] at hok<;>exact Nat.blt_eq.mp hok.1
                rcases hkept j hj f hf hfm d z hd hu2 with ⟨rs,_,h3,_⟩ | ⟨_,h3,_⟩
                · rw [h3 hdn,hin];rfl
                · rw [h3,hin]
              · have hlate:jE E o.op=true:=by
                  rcases hsp with ⟨h,_⟩ | ⟨_,h | ⟨_,_,h⟩⟩
                  · rw [hxa] at h;cases h
                  · rw [hspi] at h;cases h.1
                  · rcases h with h | h
                    · have:=h j hj
                      rw [nM hoj,hja] at this;cases this
                    · exact h
                obtain ⟨x1,x2⟩:=e5 hlate
                rw [lX,lX] at x1
                obtain ⟨c4,c5,c6⟩:=hal j (List.mem_cons_of_mem _ hj) oj hoj hja
                have hnal:j∉es->¬A'.al (base+j):=fun hn ha=>by
                  rcases x2 _ ha with h | h
                  · exact c6 hn h
                  · rw [lX] at h;omega
                refine ⟨by omega,?_,hnal⟩
                by_cases hje:j∈es
                · have:=c2 _ (List.mem_map.2 ⟨j,hje,rfl⟩)
                  rwa [ia] at this
                · have h1:=e2.hp.al _ (hnal hje)
                  rw [rW fun e he e1=>?_] at h1
                  · have :(s2.put o.dst v').hp=s2.hp:=by cases o.dst<;>rfl
                    rw [this] at h1;exact h1
                  · obtain ⟨q,hq,rfl⟩:=List.mem_map.1 he
                    have :base+q=base+j:=by rwa [ia] at e1
                    have :q=j:=by omega
                    exact hje (this ▸ hq)
theorem AL:∀(n:Nat) {l:List Nat},l.Nodup->(∀i∈l,i<n)->l.length<=n:=by
 intro n l hnd h
 have:=qN (m:=List.range n) hnd fun x hx=>List.mem_range.2 (h x hx)
 simpa using this
theorem yz {n:Nat}{l:List Nat}(hnd:l.Nodup)(hl:l.length=n)(hlt:∀i∈l,i<n)(j:Nat)(hj:j<n):j∈l:=by
 refine Classical.byContradiction fun hn=>?_
 have:=AL n (l:=j::l) (List.nodup_cons.2 ⟨hn,hnd⟩) fun x hx=>by
  rcases List.mem_cons.1 hx with rfl | hx
  ·exact hj
  ·exact hlt x hx
 simp at this
 omega
theorem ud (bs:List Nat):∀n,lT bs n<=n
 | 0=>Nat.le_refl _
 | n+1=>by
  simp only [lT]
  cases Nat.beq (bs.getD n 0) (2^n - 1) with
  | true=>exact Nat.le_succ_of_le (ud bs n)
  | false=>exact Nat.le_refl _
theorem xI (hT:∀t i,E.T t=some i->fX P E t i)(hG:∀g c,c∈E.G g->Valid P E g c)(hM:mG P E)(hmix:P.follows .mixedOrders=true):nJ P E w0 M Z0 ans:=by
  intro id ops s k Q a w hr ⟨A,sm,hz⟩ hQ
  unfold vF at hr
  simp only at hr
  cases hb:(kK ops.toList 0&&(qY ((masks ops.toList []).drop (lT (masks ops.toList []) (gV E ops.toList ops.toList))) (lT (masks ops.toList []) (gV E ops.toList ops.toList))&&eE (iL (ops.toList.take (lT (masks ops.toList []) (gV E ops.toList ops.toList))))))<;>simp only [hb,aO,aR] at hr
  · clear hb
    cases hb:(kK ops.toList 0&&(qY ((masks ops.toList []).drop (gV E ops.toList ops.toList+1)) (gV E ops.toList ops.toList+1)&&(eE (iL (ops.toList.take (gV E ops.toList ops.toList)))&&mA ry ops.toList (gV E ops.toList ops.toList))))<;>simp only [hb,aO,aR] at hr
    · clear hb
      obtain ⟨hb,hr⟩:=dG hr
      simp only [Bool.and_eq_true] at hb
      obtain ⟨hback,hfresh,hlen,hord⟩:=hb
      have hlen:=Nat.eq_of_beq_eq_true hlen
      have hsz:ops.toList.length=ops.size:=Array.length_toList
      rw [hsz] at hlen hr hord
      obtain ⟨hnd,hall⟩:=nN hord
      have hsub:∀j,j<ops.size->j∈vm ops.toList (masks ops.toList []) ops.size 0:=by
        refine yz hnd hlen fun i hi=>?_
        obtain ⟨_,o,ho,_⟩:=hall i hi
        exact (Array.getElem?_eq_some_iff.1 ho).1
      have fo:=sm.drew
      have sm1:fL E w0 M A { s with nx:=s.nx+ops.size } a { w with drawn:=w.drawn+1 }:=⟨fo.hp,fo.tm,fun r h=>fo.nx r (Nat.le_trans (Nat.le_add_right _ _) h),fo.df,fo.sz,fo.fr⟩
      refine wp_region_any hmix ?_
      obtain ⟨rem2,is2,es2,done2,dm2,s2,b2,q1,q2,q3,q4,q5⟩:=vR (a:=a) (base:=s.nx) (A:=A) (rem:=[]) (es:=[]) hback hfresh hT
        { zO:=hord,DG:=fun l hl=>by simp [hsub l hl],zE:=⟨rfl,rfl,fun _ _=>rfl⟩,DI:=sm1
          As:=fun j hj=>by cases hj
          DL:=List.nodup_nil
          Au:=fun j hj=>by cases hj
          DK:=⟨List.nodup_nil,fun j hj=>by cases hj⟩
          DJ:=fun j hj o ho ha=>by
            have hj':=(Array.getElem?_eq_some_iff.1 ho).1
            have hna:=fo.nx (s.nx+j) (Nat.le_add_right _ _)
            exact ⟨Nat.add_lt_add_left hj' _,fo.hp.al _ hna,fun _=>hna⟩ } hr
      refine C4 (Z0:=Z0) hT hG hM hback hfresh hQ ops.size rem2 is2 es2 done2 dm2 (Array.replicate ops.size false) a b2 _ s2 A (by simp only [List.length_nil,Nat.zero_add,Nat.add_zero] at q3;rw [q3,hlen]) (by simp) (fun j hj=>?_) (fun i hi=>by
        by_cases hlt:i<ops.size<;>simp [hlt] at hi) q1 hz q2 q5
      rw [q4 j]
      simp [hj,hsub j hj]
    simp only [Bool.and_eq_true] at hb
    obtain ⟨hback,htb,hfresh,_⟩:=hb
    split at hr
    · cases hr
    rename_i oh hoh
    revert hr htb hfresh hoh
    generalize gV E ops.toList ops.toList=h
    intro htb hfresh hoh hr
    have hoh':ops[h]?=some oh:=by simpa using hoh
    have hlt:h<ops.size:=(Array.getElem?_eq_some_iff.1 hoh').1
    have hhs:(ops.toList.take h).length=h:=by simp;omega
    obtain ⟨us,g1,g2,_,g4⟩:=mN (us:=[]) (i:=0) hfresh (oo.take _ _) (by omega) rfl hr
    simp only [Nat.zero_add,hhs] at g2 g4
    cases hlb:wY E.nt (ops.toList.take h) (masks ops.toList []) s.sl s.hp s.nx us h oh<;>simp only [hlb,aO,aR] at g1
    · cases g1
    have htail:∀i,h<i->i<ops.size->∀l,l<i->((masks ops.toList []).getD i 0).testBit l=true:=by
      intro i h1 h2 l hl
      have hlen:i<(masks ops.toList []).length:=by rw [mu];simp;exact h2
      have hg:=List.getElem?_eq_getElem hlen
      have:=qI htb (l:=i - (h+1)) (b:=(masks ops.toList [])[i]) (by rw [List.getElem?_drop,show h+1+(i - (h+1))=i by omega];exact hg)
      rw [List.getD_eq_getElem?_getD,hg,Option.getD_some,this,show h+1+(i - (h+1))=i by omega,Nat.testBit_two_pow_sub_one]
      simpa using hl
    refine wp_region_any hmix ?_
    have sm1:=sm.drew
    have hfin:=yH hT hG hM (Z0:=Z0) hback hfresh hoh' htail g2 g4 hlb g1 hQ h (List.range h) (Array.replicate ops.size false) (fun _=>false) a { w with drawn:=w.drawn+1 } (by simp) List.nodup_range (fun j hj=>by simpa using hj) (by simp) (fun j hj=>by simp [hj];omega) (fun j=>by simp) (fun i hi=>by
      by_cases hlt:i<ops.size<;>simp [hlt] at hi) ⟨A,?_,fun i x hx=>?_,fun r hr=>.inl (Nat.lt_of_not_le fun hle=>sm1.nx r hle hr),sm1.df,sm1.sz,hz,sm1.fr⟩
    · rw [show h+(ops.size - h)=ops.size by omega] at hfin
      exact hfin
    · have :ng s.hp s.nx (fun _=>false) us=s.hp:=by
        funext r
        unfold ng
        cases hb:Nat.blt r s.nx with
        | true=>rfl
        | false=>
          simp only [aR]
          refine (sm.hp.al r (sm.nx r ?_)).symm
          exact Nat.le_of_not_lt fun h=>by rw [Nat.blt_eq.mpr h] at hb;cases hb
      rw [this];exact sm1.hp
    · rcases pG (sl:=s.sl) (D:=fun _=>false) (t:=i) (fun _=>rfl) (hs:=ops.toList.take h) (us:=us) (j:=0) with h | h
      · rw [h];exact trivial
      · rw [h];exact sm1.tm i x hx
  simp only [Bool.and_eq_true] at hb
  obtain ⟨hback,htb,hfresh⟩:=hb
  have hle:lT (masks ops.toList []) (gV E ops.toList ops.toList)<=ops.size:=by
    refine Nat.le_trans (ud _ _) ?_
    rw [<-Array.length_toList]
    generalize ops.toList=all
    have :∀l:List Oper,gV E all l<=l.length:=by
      intro l
      induction l with
      | nil=>exact Nat.le_refl _
      | cons o l ih=>
        simp only [gV,List.length_cons]
        cases ((AT o.op&&!wB all o.op)||(BR E o.op||xX E o.op))
        · simp only [aR];omega
        · simp only [aO];omega
    exact this all
  revert hr htb hfresh hle
  generalize hh:lT (masks ops.toList []) (gV E ops.toList ops.toList)=h
  intro hr htb hfresh hle
  have hhs:(ops.toList.take h).length=h:=by simp;omega
  obtain ⟨us,g1,g2,_,g4⟩:=mN (us:=[]) (i:=0) hfresh (oo.take _ _) (by omega) rfl hr
  simp only [Nat.zero_add,hhs] at g2 g4
  have htail:∀i,h<=i->i<ops.size->∀l,l<i->((masks ops.toList []).getD i 0).testBit l=true:=by
    intro i h1 h2 l hl
    have hlen:i<(masks ops.toList []).length:=by rw [mu];simp;exact h2
    have hg:=List.getElem?_eq_getElem hlen
    have:=qI htb (l:=i - h) (b:=(masks ops.toList [])[i]) (by rw [List.getElem?_drop,show h+(i - h)=i by omega];exact hg)
    rw [List.getD_eq_getElem?_getD,hg,Option.getD_some,this,show h+(i - h)=i by omega,Nat.testBit_two_pow_sub_one]
    simpa using hl
  have hget:∀i,i<h->∃o,ops[i]?=some o/\(ops.toList.take h)[i]?=some o:=by
    intro i hi
    refine ⟨_,Array.getElem?_eq_getElem (show i<ops.size by omega),?_⟩
    rw [List.getElem?_take,if_pos hi];simp [show i<ops.size by omega]
  refine wp_region_any hmix ?_
  have head:∀(n:Nat) (rem:List Nat) (listed:Array Bool) (D:Nat->Bool) (a:Act) (w:World),rem.length=n->rem.Nodup->(∀j∈rem,j<h)->listed.size=ops.size->(∀j,j<ops.size->(listed.getD j true=false↔(j∈rem∨h<=j)))->
      (∀j,D j=true↔(j<h/\j∉rem))->Closed ops listed->HI E w0 M Z0 s (ops.toList.take h) us D a w->wpAny P .any ops Q (n+(ops.size - h)) listed a w:=by
    intro n
    induction n with
    | zero=>
      intro rem listed D a w hn _ _ hls hl hD hc ⟨A1,i1,i2,i3,i4,i5,i6,i7⟩
      have hrem:rem=[]:=List.eq_nil_of_length_eq_zero hn
      subst hrem
      have hDh:∀j,D j=true↔j<h:=fun j=>by rw [hD j];simp
      have hhp:ng s.hp s.nx D us=ng s.hp s.nx always us:=by
        funext r
        unfold ng
        cases Nat.blt r s.nx with
        | true=>rfl
        | false=>
          simp only [aR,always,aO]
          by_cases hj:(r - s.nx) / 64<h
          · rw [(hDh _).2 hj];rfl
          · have :D ((r - s.nx) / 64)=false:=by
              cases hd:D ((r - s.nx) / 64) with
              | false=>rfl
              | true=>exact absurd ((hDh _).1 hd) hj
            rw [this,rY (by omega)];rfl
      have sm1:fL E w0 M A1 { sl:=jx s.sl always (ops.toList.take h) us 0,hp:=ng s.hp s.nx always us,nx:=s.nx+64*h,fr:=s.fr } a w:=by
        refine ⟨by rw [<-hhp];exact i1,fun i x hx=>?_,fun r hr hal=>?_,i4,i5,i7⟩
        · show V2 E.cells w A1 (jx s.sl always (ops.toList.take h) us 0 i) x
          rw [<-vf (D:=D) (fun i _ hi=>(hDh i).2 (by rw [hhs] at hi;omega))]
          exact i2 i x hx
        · have hr':s.nx+64*h<=r:=hr
          rcases i3 r hal with h1 | ⟨j,h1,h2,h3⟩
          · omega
          · have:=(hDh j).1 h1;omega
      rw [Nat.zero_add]
      refine oW hT hG hM (h:=h) hback (fun i hi=>htail i (Nat.le_of_lt hi)) (ops.size - h) (n:=h) (by omega) (Nat.le_refl _) hls (fun j hj=>by rw [hl j hj];simp) hc sm1 g1 fun s' a' w' A' e1 e2 e3=>hQ s' a' w' e1 ⟨A',e2,e3.trans i6⟩
    | succ n ih=>
      intro rem listed D a w hn hnd hrl hls hl hD hc hi
      have hfuel:n+1+(ops.size - h)=(n+(ops.size - h))+1:=by omega
      rw [hfuel]
      have notD:∀j∈rem,D j=false:=by
        intro j hj
        cases hd:D j with
        | false=>rfl
        | true=>exact absurd hj ((hD j).1 hd).2
      have hlistD:∀j,listed.getD j false=true->j<h->D j=true:=by
        intro j hj hjh
        refine (hD j).2 ⟨hjh,fun hm=>?_⟩
        have:=(hl j (by omega)).2 (.inl hm)
        have hin:j<listed.size:=by omega
        simp [hin] at this hj
        rw [hj] at this;cases this
      refine ⟨fun he=>?_,fun i hir=>?_⟩
      ·
        obtain ⟨i,him,hmin⟩:=min_mem (rem:=rem) (by rintro rfl;simp at hn)
        have hih:=hrl i him
        obtain ⟨o,ho1,ho2⟩:=hget i hih
        have :i∈Region.ready .any ops listed:=by
          refine mem_ready.2 ⟨(hl i (by omega)).2 (.inl him),o,ho1,fun e he hb=>?_⟩
          have hlt:=jS hback (l:=i) (o:=o) (by simpa using ho1) e (by simpa using he) hb
          have hne:¬listed.getD e.on true=false:=fun hf=>by
            rcases (hl e.on (by omega)).1 hf with hm | hm
            · have:=hmin _ hm;omega
            · omega
          have hin:e.on<listed.size:=by omega
          simpa [hin] using hne
        rw [he] at this;cases this
      · obtain ⟨h0,o,ho,_⟩:=mem_ready.1 hir
        have hil:=(Array.getElem?_eq_some_iff.1 ho).1
        have him:i∈rem:=by
          rcases (hl i hil).1 h0 with hm | hm
          · exact hm
          ·
            obtain ⟨j,hjm,_⟩:=min_mem (rem:=rem) (by rintro rfl;simp at hn)
            have hjh:=hrl j hjm
            have h1:=eZ hc hir j (htail i hm hil j (by omega))
            have h2:=(hl j (by omega)).2 (.inl hjm)
            have hin:j<listed.size:=by omega
            simp [hin] at h1 h2
            rw [h1] at h2;cases h2
        have hih:=hrl i him
        obtain ⟨o',ho1,ho2⟩:=hget i hih
        rw [ho] at ho1;injection ho1 with ho1;subst ho1
        obtain ⟨u,hu,hok⟩:=g4 i o ho2
        refine qF (D':=fun j=>D j||Nat.beq j i) hT hG hfresh hi ho2 ho hu (notD i him) (by simp) (fun l hli=>?_) (fun j hj=>?_) hok fun a' w' hi'=>?_
        · have :Nat.beq l i=false:=by
            cases hb:Nat.beq l i with
            | false=>rfl
            | true=>exact absurd (Nat.eq_of_beq_eq_true hb) hli
          simp [this]
        · have hjl:=eZ hc hir j hj
          refine hlistD j hjl ?_
          rcases Nat.lt_or_ge j h with hlt | hge
          · exact hlt
          · exfalso
            have hin:j<listed.size:=by
              rcases Nat.lt_or_ge j listed.size with h' | h'
              · exact h'
              · simp [Array.getElem?_eq_none h'] at hjl
            have:=(hl j (by omega)).2 (.inr hge)
            simp [hin] at this hjl
            rw [hjl] at this;cases this
        · refine ih (rem.erase i) _ _ a' w' (by rw [List.length_erase_of_mem him];omega) (hnd.erase i) (fun j hj=>hrl j (List.mem_of_mem_erase hj)) (by simpa using hls) (fun j hj=>?_) (fun j=>?_) (hc.set hir) hi'
          · by_cases hij:i=j
            · subst hij
              have :i<listed.size:=by omega
              simp [this,hnd.mem_erase_iff]
              omega
            · rw [getD_set_ne true hij,hl j hj,hnd.mem_erase_iff]
              simp [Ne.symm hij]
          · rw [hnd.mem_erase_iff,Bool.or_eq_true,hD j]
            constructor
            · rintro (⟨h1,h2⟩ | h1)
              · exact ⟨h1,fun h=>h2 h.2⟩
              · have:=Nat.eq_of_beq_eq_true h1
                subst this;exact ⟨hih,fun h=>h.1 rfl⟩
            · rintro ⟨h1,h2⟩
              by_cases hji:j=i
              · subst hji;exact .inr (by simp)
              · exact .inl ⟨h1,fun h=>h2 ⟨hji,h⟩⟩
  have sm1:=sm.drew
  have hfin:=head h (List.range h) (Array.replicate ops.size false) (fun _=>false) a { w with drawn:=w.drawn+1 } (by simp) List.nodup_range (fun j hj=>by simpa using hj) (by simp) (fun j hj=>by simp [hj];omega) (fun j=>by simp) (fun i hi=>by
    by_cases hlt:i<ops.size<;>simp [hlt] at hi) ⟨A,?_,fun i x hx=>?_,fun r hr=>.inl (Nat.lt_of_not_le fun hle=>sm1.nx r hle hr),sm1.df,sm1.sz,hz,sm1.fr⟩
  · rw [show h+(ops.size - h)=ops.size by omega] at hfin
    exact hfin
  · have :ng s.hp s.nx (fun _=>false) us=s.hp:=by
      funext r
      unfold ng
      cases hb:Nat.blt r s.nx with
      | true=>rfl
      | false=>
        simp only [aR]
        refine (sm.hp.al r (sm.nx r ?_)).symm
        exact Nat.le_of_not_lt fun h=>by rw [Nat.blt_eq.mpr h] at hb;cases hb
    rw [this];exact sm1.hp
  · rcases pG (sl:=s.sl) (D:=fun _=>false) (t:=i) (fun _=>rfl) (hs:=ops.toList.take h) (us:=us) (j:=0) with h | h
    · rw [h];exact trivial
    · rw [h];exact sm1.tm i x hx
end
end Go.DM

end
