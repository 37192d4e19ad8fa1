/- A small machine over the translated code, and the proof that what it computes the code does. Conditions: none. -/
import Derived.Test.YtojkbdgmandmpaaGreatLDecisionsDb
import Derived.Scope
import Derived.Laws.Sem
import Derived.Orders
set_option linter.all false
noncomputable section
set_option linter.unusedSectionVars false
namespace Go.DM
def oH (P:Program)(c:Code)(Q:Exit->Act->World->Prop)(a:Act)(w:World):Prop:=
 ∀(b:Frame) (k:List Item) (cs:List Frame),∃e a' w',Q e a' w'/\Arrives P (lone (b.at a (.code c::.inLoop c::k)) cs w) b k cs e a' w'
section
variable {P:Program} {Q:Exit->Act->World->Prop} {a:Act} {w:World} {c:Code}
theorem Co (h:oH P c Q a w):(Code.loop c).wp P Q a w:=fun b k cs=>
 let ⟨e,a',w',hq,harr⟩:=h b k cs
 ⟨e,a',w',hq,.of_steps (.one step_loop) harr⟩
theorem yD (h:c.wp P (Exit.then (oH P c Q) Q) a w):oH P c Q a w:=by
 intro b k cs
 obtain ⟨e,a₁,w₁,hq,harr⟩:=h b (.inLoop c::k) cs
 cases e with
 | normal=>
  obtain ⟨e₂,a₂,w₂,hq₂,harr₂⟩:=hq b k cs
  exact ⟨e₂,a₂,w₂,hq₂,.of_steps (Steps.trans harr (.one step_inLoop)) harr₂⟩
 | exit id=>exact ⟨_,a₁,w₁,hq,.pass (x:=.inLoop c) rfl (fun _ _=>.inl (by simp)) harr⟩
 | goto l=>exact ⟨_,a₁,w₁,hq,.pass (x:=.inLoop c) rfl (fun _ _=>.inl (by simp)) harr⟩
 | ret=>exact ⟨_,a₁,w₁,hq,.pass (x:=.inLoop c) rfl (fun _ _=>.inl (by simp)) harr⟩
 | panic ch=>exact ⟨_,a₁,w₁,hq,.pass (x:=.inLoop c) rfl (fun _ _=>.inl (by simp)) harr⟩
 | outgrown=>exact ⟨_,a₁,w₁,hq,.pass (x:=.inLoop c) rfl (fun _ _=>.inl (by simp)) harr⟩
end
def Ex.ex:Ex->Exit
 | .normal=>.normal
 | .ret=>.ret
 | .exit id=>.exit id
def cj:Code->List Nat
 | .seq a b=>cj a++cj b
 | .cond _ a b=>cj a++cj b
 | .block _ b=>cj b
 | .loop b=>cW b::cj b
 | .scope a=>cj a
 | _=>[]
def eV {id:Nat}:∀{c:Code},dJ id c=true↔id∈cj c
 | .seq a b=>by simp [dJ,cj,eV (c:=a),eV (c:=b)]
 | .cond _ a b=>by simp [dJ,cj,eV (c:=a),eV (c:=b)]
 | .block _ b=>by simp [dJ,cj,eV (c:=b)]
 | .loop b=>by
  have :Nat.beq (cW b) id=true↔id=cW b:=⟨fun h=>(Nat.eq_of_beq_eq_true h).symm,fun h=>by subst h;exact Nat.beq_refl _⟩
  simp only [dJ,cj,Bool.or_eq_true,List.mem_cons,eV (c:=b),this]
 | .skip=>by simp [dJ,cj]
 | .region ..=>by simp [dJ,cj]
 | .exit _=>by simp [dJ,cj]
 | .ret=>by simp [dJ,cj]
 | .rangeFunc ..=>by simp [dJ,cj]
 | .scope a=>by simp [dJ,cj,eV (c:=a)]
 | .label _=>by simp [dJ,cj]
 | .goto _=>by simp [dJ,cj]
 | .refuse _=>by simp [dJ,cj]
section
variable (P:Program) (E:Env) (w0:World) (M:Mem E.np) (Z0:Nat->Prop) (ans:List L)
def Deep (R:Nat->(Act->World->Prop)->Prop):Code->(Exit->Act->World->Prop)->Prop
 | .seq x y,Q=>Deep R x (Exit.then (y.wp P Q) Q)/\Deep R y Q
 | .cond _ x y,Q=>Deep R x Q/\Deep R y Q
 | .block id b,Q=>Deep R b (Exit.inBlock id Q)
 | .loop b,Q=>R (cW b) (oH P b Q)/\Deep R b (Exit.then (oH P b Q) Q)
 | .scope b,Q=>Deep R b (Exit.noGoto Q)
 | _,_=>True
def gD (id:Nat):Code->(Exit->Act->World->Prop)->Act->World->Prop
 | .seq x y,Q,a,w=>if dJ id x=true then gD id x (Exit.then (y.wp P Q) Q) a w else gD id y Q a w
 | .cond _ x y,Q,a,w=>if dJ id x=true then gD id x Q a w else gD id y Q a w
 | .block j b,Q,a,w=>gD id b (Exit.inBlock j Q) a w
 | .loop b,Q,a,w=>if Nat.beq (cW b) id=true then oH P b Q a w else gD id b (Exit.then (oH P b Q) Q) a w
 | .scope b,Q,a,w=>gD id b (Exit.noGoto Q) a w
 | _,_,_,_=>False
theorem Deep.mono {R R':Nat->(Act->World->Prop)->Prop}:∀{c:Code} {Q:Exit->Act->World->Prop},(∀id∈cj c,∀H,R id H->R' id H)->Deep P R c Q->Deep P R' c Q
 | .seq x y,Q,h,hd=>⟨Deep.mono (fun id hi=>h id (by simp [cj,hi])) hd.1,Deep.mono (fun id hi=>h id (by simp [cj,hi])) hd.2⟩
 | .cond _ x y,Q,h,hd=>⟨Deep.mono (fun id hi=>h id (by simp [cj,hi])) hd.1,Deep.mono (fun id hi=>h id (by simp [cj,hi])) hd.2⟩
 | .block id b,Q,h,hd=>Deep.mono (c:=b) (Q:=Exit.inBlock id Q) (fun id hi=>h id (by simpa [cj] using hi)) hd
 | .loop b,Q,h,hd=>⟨h _ (by simp [cj]) _ hd.1,Deep.mono (fun id hi=>h id (by simp [cj,hi])) hd.2⟩
 | .skip,_,_,_=>trivial
 | .region ..,_,_,_=>trivial
 | .exit _,_,_,_=>trivial
 | .ret,_,_,_=>trivial
 | .rangeFunc ..,_,_,_=>trivial
 | .scope b,Q,h,hd=>Deep.mono (c:=b) (Q:=Exit.noGoto Q) (fun id hi=>h id (by simpa [cj] using hi)) hd
 | .label _,_,_,_=>trivial
 | .goto _,_,_,_=>trivial
 | .refuse _,_,_,_=>trivial
theorem gC:∀{c:Code} {Q:Exit->Act->World->Prop},(cj c).Nodup->Deep P (fun id H=>∀a w,gD P id c Q a w->H a w) c Q
 | .seq x y,Q,h=>by
  simp only [cj,List.nodup_append] at h
  refine ⟨Deep.mono P (fun id hi H hH a w hA=>hH a w ?_) (gC h.1),Deep.mono P (fun id hi H hH a w hA=>hH a w ?_) (gC h.2.1)⟩
  ·simp only [gD,eV.2 hi,if_true] at hA;exact hA
  ·have :¬dJ id x=true:=fun hx=>h.2.2 id (eV.1 hx) id hi rfl
   simp only [gD,this,if_false] at hA;exact hA
 | .cond _ x y,Q,h=>by
  simp only [cj,List.nodup_append] at h
  refine ⟨Deep.mono P (fun id hi H hH a w hA=>hH a w ?_) (gC h.1),Deep.mono P (fun id hi H hH a w hA=>hH a w ?_) (gC h.2.1)⟩
  ·simp only [gD,eV.2 hi,if_true] at hA;exact hA
  ·have :¬dJ id x=true:=fun hx=>h.2.2 id (eV.1 hx) id hi rfl
   simp only [gD,this,if_false] at hA;exact hA
 | .block j b,Q,h=>Deep.mono P (c:=b) (Q:=Exit.inBlock j Q) (fun id hi H hH a w hA=>hH a w hA) (gC (c:=b) (by simpa [cj] using h))
 | .loop b,Q,h=>by
  simp only [cj,List.nodup_cons] at h
  refine ⟨fun a w hA=>?_,Deep.mono P (fun id hi H hH a w hA=>hH a w ?_) (gC h.2)⟩
  ·simp only [gD,Nat.beq_refl,if_true] at hA;exact hA
  ·have :¬Nat.beq (cW b) id=true:=fun e=>h.1 (by rw [Nat.eq_of_beq_eq_true e];exact hi)
   simp only [gD,this,if_false] at hA;exact hA
 | .skip,_,_=>trivial
 | .region ..,_,_=>trivial
 | .exit _,_,_=>trivial
 | .ret,_,_=>trivial
 | .rangeFunc ..,_,_=>trivial
 | .scope b,Q,h=>Deep.mono P (c:=b) (Q:=Exit.noGoto Q) (fun id hi H hH a w hA=>hH a w hA) (gC (c:=b) (by simpa [cj] using h))
 | .label _,_,_=>trivial
 | .goto _,_,_=>trivial
 | .refuse _,_,_=>trivial
def At (s:St)(a:Act)(w:World):Prop:=∃A,fq E w0 M A s a w/\A.Z=Z0
def Fits (k:Cont)(Q:Exit->Act->World->Prop):Prop:=∀e s a w,k e s=some ans->At E w0 M Z0 s a w->Q e.ex a w
def pq (live:Nat->Live)(I:dK):Nat->(Act->World->Prop)->Prop:=fun id H=>∀vs h a w,I id vs h=some ans->At E w0 M Z0 (jr (live id) vs h) a w->H a w
def mY:Prop:=∀(id:Nat) (ops:Array Oper) (s:St) (k:St->aD) (Q:Exit->Act->World->Prop) (a:Act) (w:World),
 vq E ops s k=some ans->At E w0 M Z0 s a w->(∀s' a' w',k s'=some ans->At E w0 M Z0 s' a' w'->Q .normal a' w')->(Code.region id ops true).wp P Q a w
variable {P E w0 M Z0 ans}
theorem Fits.seq {k:Cont}{Q:Exit->Act->World->Prop}{f:St->aD}{H:Act->World->Prop}(hk:Fits E w0 M Z0 ans k Q)(hf:∀s a w,f s=some ans->At E w0 M Z0 s a w->H a w):Fits E w0 M Z0 ans (Bi f k) (Exit.then H Q):=by
 intro e s a w h hs
 cases e with
 | normal=>exact hf s a w h hs
 | ret=>exact hk .ret s a w h hs
 | exit j=>exact hk (.exit j) s a w h hs
theorem Fits.block {k:Cont}{Q:Exit->Act->World->Prop}{id:Nat}(hk:Fits E w0 M Z0 ans k Q):Fits E w0 M Z0 ans (vm id k) (Exit.inBlock id Q):=by
 intro e s a w h hs
 cases e with
 | normal=>exact hk .normal s a w h hs
 | ret=>exact hk .ret s a w h hs
 | exit j=>
  simp only [vm] at h
  show (if j=id then Q .normal a w else Q (.exit j) a w)
  cases hb:Nat.beq j id<;>simp only [hb,aL,aT] at h
  ·rw [if_neg (fun e=>by subst e;simp at hb)]
   exact hk (.exit j) s a w h hs
  ·rw [if_pos (Nat.eq_of_beq_eq_true hb)]
   exact hk .normal s a w h hs
theorem Fits.scope {k:Cont}{Q:Exit->Act->World->Prop}(hk:Fits E w0 M Z0 ans k Q):Fits E w0 M Z0 ans k (Exit.noGoto Q):=by
 intro e s a w h hs
 cases e with
 | normal=>exact hk .normal s a w h hs
 | ret=>exact hk .ret s a w h hs
 | exit j=>exact hk (.exit j) s a w h hs
theorem At.canon {s:St}{a:Act}{w:World}(h:At E w0 M Z0 s a w){live:Nat->Live}{I:dK}{id:Nat}{H:Act->World->Prop}(hI:pq E w0 M Z0 ans live I id H)
  (hc:canon E (live id) s (fun vs h=>I id vs h)=some ans):H a w:=by
 obtain ⟨A,sm,hz⟩:=h
 obtain ⟨vs,hs,A',h1,h2,h3⟩:=wF sm hc
 exact hI vs hs a w h1 ⟨A',h2,h3.trans hz⟩
variable (hT:∀t i,E.T t=some i->fN P E t i) (hG:∀g c,c∈E.G g->Valid P E g c) (hM:lV P E) (hD:mY P E w0 M Z0 ans)
include hT hG hM hD
theorem fT {live:Nat->Live}{I:dK}:∀{c:Code} {Q:Exit->Act->World->Prop} {s:St} {k:Cont} {a:Act} {w:World},Deep P (pq E w0 M Z0 ans live I) c Q->Fits E w0 M Z0 ans k Q->
  gU E live I c s k=some ans->At E w0 M Z0 s a w->c.wp P Q a w
 | .skip,Q,s,k,a,w,_,hk,h,hs=>wp_skip (hk .normal s a w h hs)
 | .region id ops d,Q,s,k,a,w,_,hk,h,hs=>by
  simp only [gU] at h
  cases d with
  | true=>exact hD id ops s _ Q a w h hs fun s' a' w' h' hs'=>hk .normal s' a' w' h' hs'
  | false=>
   obtain ⟨A,sm,hz⟩:=hs
   exact wp_region_list (uO hT hG hM sm h fun s' a' w' A' h1 h2 h3=>hk .normal s' a' w' h1 ⟨A',h2,h3.trans hz⟩)
 | .seq x y,Q,s,k,a,w,hd,hk,h,hs=>
  wp_seq (fT hd.1 (hk.seq fun s a w h hs=>fT hd.2 hk h hs) h hs)
 | .cond c x y,Q,s,k,a,w,hd,hk,h,hs=>by
  simp only [gU] at h
  split at h
  ·rename_i t ht
   obtain ⟨A,sm,hz⟩:=hs
   have hc:=sm.ev c
   rw [ht] at hc
   have hc':a.eval c=.bool t:=hc
   have hkn:∀b,t=b->s.vn c b=s:=by
    rintro b rfl
    cases c with
    | tmp d=>simp only [St.vn];rw [sK (uy ht)]
    | _=>rfl
   cases t with
   | true=>rw [hkn true rfl] at h;exact wp_cond_true hc' (fT hd.1 hk h ⟨A,sm,hz⟩)
   | false=>rw [hkn false rfl] at h;exact wp_cond_false hc' (fT hd.2 hk h ⟨A,sm,hz⟩)
  ·cases h
 | .block id b,Q,s,k,a,w,hd,hk,h,hs=>wp_block (fT (c:=b) (Q:=Exit.inBlock id Q) hd hk.block h hs)
 | .loop b,Q,s,k,a,w,hd,hk,h,hs=>Co (hs.canon hd.1 h)
 | .exit id,Q,s,k,a,w,_,hk,h,hs=>wp_exit (hk (.exit id) s a w h hs)
 | .ret,Q,s,k,a,w,_,hk,h,hs=>wp_ret (hk .ret s a w h hs)
 | .rangeFunc ..,_,_,_,_,_,_,_,h,_=>by cases h
 | .scope b,Q,s,k,a,w,hd,hk,h,hs=>wp_scope_straight (fT (c:=b) (Q:=Exit.noGoto Q) hd hk.scope h hs)
 | .label _,Q,s,k,a,w,_,hk,h,hs=>wp_label (hk .normal s a w h hs)
 | .goto _,_,_,_,_,_,_,_,h,_=>by cases h
 | .refuse _,_,_,_,_,_,_,_,h,_=>by cases h
theorem fL {live:Nat->Live}{I:dK}{id:Nat}:∀{c:Code} {Q:Exit->Act->World->Prop} {s:St} {k:Cont} {a:Act} {w:World},Deep P (pq E w0 M Z0 ans live I) c Q->Fits E w0 M Z0 ans k Q->
  dP E live I id c s k=some ans->At E w0 M Z0 s a w->gD P id c Q a w
 | .seq x y,Q,s,k,a,w,hd,hk,h,hs=>by
  simp only [dP] at h
  simp only [gD]
  cases hx:dJ id x<;>simp only [hx,aL,aT] at h
  ·rw [if_neg (by simp)];exact fL hd.2 hk h hs
  ·rw [if_pos rfl];exact fL hd.1 (hk.seq fun s a w h hs=>fT hT hG hM hD hd.2 hk h hs) h hs
 | .cond _ x y,Q,s,k,a,w,hd,hk,h,hs=>by
  simp only [dP] at h
  simp only [gD]
  cases hx:dJ id x<;>simp only [hx,aL,aT] at h
  ·rw [if_neg (by simp)];exact fL hd.2 hk h hs
  ·rw [if_pos rfl];exact fL hd.1 hk h hs
 | .block j b,Q,s,k,a,w,hd,hk,h,hs=>fL (c:=b) (Q:=Exit.inBlock j Q) hd hk.block h hs
 | .loop b,Q,s,k,a,w,hd,hk,h,hs=>by
  simp only [dP] at h
  simp only [gD]
  cases hb:Nat.beq (cW b) id<;>simp only [hb,aL,aT] at h
  ·rw [if_neg (by simp)]
   exact fL hd.2 (hk.seq fun s a w h hs=>hs.canon hd.1 h) h hs
  ·rw [if_pos rfl]
   obtain rfl:=Nat.eq_of_beq_eq_true hb
   exact yD (fT hT hG hM hD hd.2 (hk.seq fun s a w h hs=>hs.canon hd.1 h) h hs)
 | .skip,_,_,_,_,_,_,_,h,_=>by cases h
 | .region ..,_,_,_,_,_,_,_,h,_=>by cases h
 | .exit _,_,_,_,_,_,_,_,h,_=>by cases h
 | .ret,_,_,_,_,_,_,_,h,_=>by cases h
 | .rangeFunc ..,_,_,_,_,_,_,_,h,_=>by cases h
 | .scope b,Q,s,k,a,w,hd,hk,h,hs=>fL (c:=b) (Q:=Exit.noGoto Q) hd hk.scope h hs
 | .label _,_,_,_,_,_,_,_,h,_=>by cases h
 | .goto _,_,_,_,_,_,_,_,h,_=>by cases h
 | .refuse _,_,_,_,_,_,_,_,h,_=>by cases h
theorem qQ {live:Nat->Live}{f:Func}{p:RP}{Q:Exit->Act->World->Prop}(hn:(cj (bQ f)).Nodup)(hk:Fits E w0 M Z0 ans (dG E f p) Q):∀n,Deep P (pq E w0 M Z0 ans live (xg E live f p n)) (bQ f) Q
 | 0=>Deep.mono P (fun id _ H _ vs h a w e _=>by cases e) (gC P hn)
 | n+1=>Deep.mono P (fun id _ H hH vs h a w e hs=>hH a w (fL hT hG hM hD (qQ hn hk n) hk e hs)) (gC P hn)
theorem nY {live:Nat->Live}{f:Func}{p:RP}{Q:Exit->Act->World->Prop}(hn:(cj (bQ f)).Nodup)(hk:Fits E w0 M Z0 ans (dG E f p) Q){n:Nat}{s:St}{a:Act}{w:World}
  (h:eS E live f p n s=some ans) (hs:At E w0 M Z0 s a w):(bQ f).wp P Q a w:=
 fT hT hG hM hD (qQ hT hG hM hD hn hk n) hk h hs
end
end Go.DM
set_option linter.unusedSectionVars false
namespace Go.DM
def cy.out (A:cy)(rs:List (Option Nat))(vs:List Value):cy:=
  { v:=fun i=>vs.getD i Go.undef,N:=fun i b=>∃q,rs[i]?=some (some q)/\A.N q b,al:=fun i=>i<rs.length,Z:=A.Z }
def CK (rs:List (Option Nat)):Prop:=∀(i j q:Nat),rs[i]?=some (some q)->rs[j]?=some (some q)->i=j
def ow {α:Type}(big small:List α)(n:Nat):Prop:=∀(i:Nat) (x:α),small[i]?=some x->big[n+i]?=some x
def ow.left {α:Type}{big a b:List α}{n:Nat}(h:ow big (a++b) n):ow big a n:=fun i x hx=>h i x (by rw [List.getElem?_append_left (List.getElem?_eq_some_iff.1 hx).1];exact hx)
def ow.right {α:Type}{big a b:List α}{n:Nat}(h:ow big (a++b) n):ow big b (n+a.length):=fun i x hx=>by
 have:=h (a.length+i) x (by rw [List.getElem?_append_right (by omega),Nat.add_sub_cancel_left];exact hx)
 rwa [Nat.add_assoc]
def CK.append {hp hp1 hp2:Nat->aK}{a b:List (Option Nat)}(ha:CK a)(hb:CK b)(ta:eY hp hp1 (fun q=>some q∈a))(tb:eY hp1 hp2 (fun q=>some q∈b)):CK (a++b):=by
 intro i j q hi hj
 by_cases h1:i<a.length<;>by_cases h2:j<a.length
 ·rw [List.getElem?_append_left h1] at hi;rw [List.getElem?_append_left h2] at hj;exact ha i j q hi hj
 ·rw [List.getElem?_append_left h1] at hi;rw [List.getElem?_append_right (by omega)] at hj
  exact (ta.ym tb (q:=q) (List.mem_of_getElem? hi) (List.mem_of_getElem? hj)).elim
 ·rw [List.getElem?_append_right (by omega)] at hi;rw [List.getElem?_append_left h2] at hj
  exact (ta.ym tb (q:=q) (List.mem_of_getElem? hj) (List.mem_of_getElem? hi)).elim
 ·rw [List.getElem?_append_right (by omega)] at hi;rw [List.getElem?_append_right (by omega)] at hj
  have:=hb _ _ q hi hj
  omega
def eY.app {hp hp1 hp2:Nat->aK}{a b:List (Option Nat)}(ta:eY hp hp1 (fun q=>some q∈a))(tb:eY hp1 hp2 (fun q=>some q∈b)):eY hp hp2 (fun q=>some q∈a++b):=
 (ta.trans tb).congr fun q=>by simp
section
variable {T:Nat->List K} {w0 w:World} {np:Nat} {M:Mem np} {A:cy} {hp0:Nat->aK} {ans:List L}
def zH (nf:Bool)(w:World)(A A':cy):Prop:=(nf=true->∀b,qY w A b->dN w A' b)/\∀b,dN w A b->dN w A' b
theorem jH {hp:Nat->aK}{v:V}{k:L->aD}(h:jm hp v k=some ans):∃l,k l=some ans/\∀hp0,Sub hp hp0->∀k':L->aD,jm hp0 v k'=k' l:=by
 cases v<;>first | exact ⟨_,h,fun _ _ _=>rfl⟩ | skip
 case own r=>
  simp only [jm] at h
  split at h
  ·rename_i e xs hr
   refine ⟨_,h,fun hp0 hs k'=>?_⟩
   simp only [jm,hs.row hr (by simp)]
  ·rename_i e xs hr
   refine ⟨_,h,fun hp0 hs k'=>?_⟩
   simp only [jm,hs.row hr (by simp)]
  ·cases h
 all_goals cases h
theorem oY {hp hp0:Nat->aK}{kk:K}{v:V}{k:L->aD}(hf:fits hp kk v=true)(h:jm hp v k=some ans)(hs:Sub hp hp0):fits hp0 kk v=true:=by
 cases v<;>first | exact hf | skip
 case own r=>
  simp only [jm] at h
  split at h
  ·rename_i e xs hr
   cases kk<;>first | cases hf | skip
   simp only [fits,hr] at hf
   simp only [fits,hs.row hr (by simp)]
   exact hf
  ·rename_i e xs hr
   cases kk<;>first | cases hf | skip
   simp only [fits,hr] at hf
   simp only [fits,hs.row hr (by simp)]
   exact hf
  ·cases h
theorem vE {nf:Bool}{l:Lf}{hp:Nat->aK}{v:V}{k:L->(Nat->aK)->aD}(h:sI nf l hp v k=some ans) :
  ∃x hp',∃rs:List (Option Nat),k x hp'=some ans/\rs.length=(vC l x).length/\eY hp hp' (fun q=>some q∈rs)/\CK rs/\
   ∀{T:Nat->List K} {w0 w:World} {np:Nat} {M:Mem np} {A:cy} {hp0:Nat->aK} {y:Value},Hp T w0 M A hp0 w->Sub hp hp0->V0 T w A v y->
    ∃vals:List Value,vals.length=rs.length/\∀(RS:List (Option Nat)) (VS:List Value) (nx:Nat),ow RS rs nx->ow VS vals nx->zH nf w A (A.out RS VS)->
     Vc T w (A.out RS VS) (uV l x nx) y/\∀i o,(vC l x)[i]?=some o->cT T w (A.out RS VS) (nx+i) o:=by
 cases l with
 | fr e=>
  obtain ⟨x,r,h1,h2,h3⟩:=sW (show pX hp (.sl e) v (fun x r=>k x (yQ hp r))=some ans from h)
  have hd:=rY h2
  refine ⟨x,_,[r],h1,rfl,hd.congr fun q=>by simp [eq_comm],fun i j q hi hj=>?_,fun {T w0 w np M A hp0 y} hh hs hv=>⟨[y],rfl,fun RS VS nx hR hV hz=>?_⟩⟩
  ·have:=(List.getElem?_eq_some_iff.1 hi).1
   have:=(List.getElem?_eq_some_iff.1 hj).1
   simp at *;omega
  ·have hown:=h3 hh hs hv
   have hr0:RS[nx]?=some r:=by simpa using hR 0 r rfl
   have hv0:VS.getD nx Go.undef=y:=by rw [List.getD_eq_getElem?_getD,show VS[nx]?=some y by simpa using hV 0 y rfl];rfl
   have hal:(A.out RS VS).al nx:=(List.getElem?_eq_some_iff.1 hr0).1
   obtain ⟨a,n,c,he,_⟩:=hown.A4
   refine ⟨⟨⟨hal,hv0.symm,a,n,c,he⟩,hown.one⟩,fun i o ho=>?_⟩
   have hi:i=0:=by
    have:=(List.getElem?_eq_some_iff.1 ho).1
    simp [vC] at this;exact this
   subst hi
   simp [vC] at ho
   subst ho
   refine ⟨hal,?_⟩
   show fK T w ((A.out RS VS).N (nx+0)) (.sl e) (VS.getD (nx+0) Go.undef) _
   rw [Nat.add_zero,hv0]
   exact hown.tA.mono fun b ⟨q,hq,hn⟩=>⟨q,by rw [hr0,hq],hn⟩
 | rd kk=>
  simp only [sI] at h
  cases hf:(fits hp kk v&&(nf||cE v))<;>simp only [hf,aL,aT] at h
  ·cases h
  simp only [Bool.and_eq_true,Bool.or_eq_true] at hf
  obtain ⟨x,h1,h2⟩:=jH h
  refine ⟨x,hp,[],h1,rfl,(eY.refl hp).congr fun q=>by simp,fun i j q hi=>by simp at hi,fun {T w0 w np M A hp0 y} hh hs hv=>⟨[],rfl,fun RS VS nx hR hV hz=>?_⟩⟩
  obtain ⟨l',e1,e2⟩:=qh hh (oY hf.1 h hs) (k:=fun x=>some [x]) (h2 hp0 hs _)
  injection e1 with e1;injection e1 with e1
  subst e1
  obtain ⟨r1,r2⟩:=e2 hv
  have r3:Rd T w (dN w (A.out RS VS)) kk y l':=by
   rcases hf.2 with hn | hp
   ·exact r1.mono (hz.1 hn)
   ·exact (r2 hp).mono hz.2
  exact ⟨⟨sF (fun r hr=>(nomatch hr)) r3,r3.one⟩,fun i o ho=>by simp [vC] at ho⟩
theorem lO {nf:Bool}:∀{q:List Lf} {hp:Nat->aK} {vs:List V} {k:List L->(Nat->aK)->aD},ng nf q hp vs k=some ans->
  ∃ls hp',∃rs:List (Option Nat),k ls hp'=some ans/\ls.length=q.length/\vs.length=q.length/\(∀rest,iA q (ls++rest)=iA q ls/\∀nx,jx q (ls++rest) nx=jx q ls nx)/\rs.length=(iA q ls).length/\eY hp hp' (fun q=>some q∈rs)/\CK rs/\
   ∀{T:Nat->List K} {w0 w:World} {np:Nat} {M:Mem np} {A:cy} {hp0:Nat->aK} {R:V->Value->Prop} {ys:List Value},(∀v x,R v x->V0 T w A v x)->Hp T w0 M A hp0 w->Sub hp hp0->F2 R vs ys->
    ∃vals:List Value,vals.length=rs.length/\∀(RS:List (Option Nat)) (VS:List Value) (nx:Nat),ow RS rs nx->ow VS vals nx->zH nf w A (A.out RS VS)->
     F2 (Vc T w (A.out RS VS)) (jx q ls nx) ys/\∀i o,(iA q ls)[i]?=some o->cT T w (A.out RS VS) (nx+i) o
 | [],hp,[],k,h=>⟨[],hp,[],h,rfl,rfl,fun _=>⟨rfl,fun _=>rfl⟩,rfl,(eY.refl hp).congr fun q=>by simp,fun i j q hi=>(by simp at hi),fun {T w0 w np M A hp0 R ys} _ _ _ hf=>⟨[],rfl,fun RS VS nx _ _ _=>⟨(by cases hf;exact .nil),fun i o ho=>(by simp [iA] at ho)⟩⟩⟩
 | [],hp,_::_,k,h=>by cases h
 | _::_,hp,[],k,h=>by cases h
 | l::q,hp,v::vs,k,h=>by
  simp only [ng] at h
  obtain ⟨x,hp1,rs1,h1,h2,h3,h4,h5⟩:=vE h
  obtain ⟨ls,hp2,rs2,g1,g2,g2',g3,g4,g5,g6,g7⟩:=lO h1
  refine ⟨x::ls,hp2,rs1++rs2,g1,by simp [g2],by simp [g2'],fun rest=>⟨?_,fun nx=>?_⟩,?_,h3.app g5,h4.append g6 h3 g5,fun {T w0 w np M A hp0 R ys} hR hh hs hf=>?_⟩
  ·simp [iA,(g3 rest).1]
  ·simp [jx,(g3 rest).2]
  ·simp [iA,h2,g4]
  ·cases hf with
   | cons hv ht=>
    obtain ⟨va,va1,va2⟩:=h5 hh hs (hR _ _ hv)
    obtain ⟨vb,vb1,vb2⟩:=g7 hR hh (h3.sub hs) ht
    refine ⟨va++vb,by simp [va1,vb1],fun RS VS nx hRS hVS hz=>?_⟩
    obtain ⟨c1,c2⟩:=va2 RS VS nx hRS.left hVS.left hz
    obtain ⟨d1,d2⟩:=vb2 RS VS (nx+rs1.length) hRS.right (by rw [<-va1];exact hVS.right) hz
    refine ⟨?_,fun i o ho=>?_⟩
    ·simp only [jx,List.headD_cons,List.tail_cons,<-h2]
     exact .cons c1 d1
    ·simp only [iA,List.headD_cons,List.tail_cons] at ho
     by_cases hi:i<(vC l x).length
     ·rw [List.getElem?_append_left hi] at ho;exact c2 i o ho
     ·rw [List.getElem?_append_right (by omega)] at ho
      have:=d2 _ o ho
      rw [h2,show nx+(vC l x).length+(i - (vC l x).length)=nx+i by omega] at this
      exact this
theorem ya {nf a:Bool}{q:List Lf}{hp:Nat->aK}{v:V}{k:List L->(Nat->aK)->aD}(h:By nf a q hp v k=some ans) :
  ∃ls hp',∃rs:List (Option Nat),k ls hp'=some ans/\ls.length=q.length/\(∀rest,iA q (ls++rest)=iA q ls/\∀nx,jx q (ls++rest) nx=jx q ls nx)/\rs.length=(iA q ls).length/\eY hp hp' (fun q=>some q∈rs)/\CK rs/\
   ∀{T:Nat->List K} {w0 w:World} {np:Nat} {M:Mem np} {A:cy} {hp0:Nat->aK} {y:Value},Hp T w0 M A hp0 w->Sub hp hp0->V2 T w A v y->
    ∃vals:List Value,vals.length=rs.length/\∀(RS:List (Option Nat)) (VS:List Value) (nx:Nat),ow RS rs nx->ow VS vals nx->zH nf w A (A.out RS VS)->
     V1 T w (A.out RS VS) (mkVar a (jx q ls nx)) y/\∀i o,(iA q ls)[i]?=some o->cT T w (A.out RS VS) (nx+i) o:=by
 unfold By at h
 cases a<;>simp only [aL,aT] at h
 ·obtain ⟨ls,hp',rs,h1,h2,h2',h3,h4,h5,h6,h7⟩:=lO h
  have hleaf:∀{T:Nat->List K} {w:World} {A:cy} {y:Value},V2 T w A v y->V0 T w A v y:=by
   intro T w A y hv
   match q,h2' with
   | [l],_=>
    simp only [ng] at h
    cases l with
    | fr e=>cases v<;>first | exact hv | (simp only [sI,pX] at h;cases h)
    | rd kk=>cases v<;>first | exact hv | (cases kk<;>simp [sI,fits] at h)
  refine ⟨ls,hp',rs,h1,h2,h3,h4,h5,h6,fun {T w0 w np M A hp0 y} hh hs hv=>?_⟩
  obtain ⟨vals,e1,e2⟩:=h7 (R:=V0 T w A) (fun _ _ h=>h) hh hs (.cons (hleaf hv) .nil)
  refine ⟨vals,e1,fun RS VS nx hR hV hz=>?_⟩
  obtain ⟨c1,c2⟩:=e2 RS VS nx hR hV hz
  refine ⟨?_,c2⟩
  have:=pN (agg:=false) c1 (fun _=>by rw [c1.length];rfl)
  exact this
 ·split at h
  ·rename_i cs
   obtain ⟨ls,hp',rs,h1,h2,h2',h3,h4,h5,h6,h7⟩:=lO h
   refine ⟨ls,hp',rs,h1,h2,h3,h4,h5,h6,fun {T w0 w np M A hp0 y} hh hs hv=>?_⟩
   obtain ⟨l,rfl,hl⟩:=(show V1 T w A (.agg cs) y from hv)
   obtain ⟨vals,e1,e2⟩:=h7 (R:=Vc T w A) (fun _ _ h=>h.1) hh hs hl
   refine ⟨vals,e1,fun RS VS nx hR hV hz=>?_⟩
   obtain ⟨c1,c2⟩:=e2 RS VS nx hR hV hz
   exact ⟨⟨l,rfl,c1⟩,c2⟩
  ·cases h
theorem mO {nf:Bool}:∀{ps:List (Bool×List Lf)} {hp:Nat->aK} {vs:List V} {k:List L->(Nat->aK)->aD},kG nf ps hp vs k=some ans->
  ∃ls hp',∃rs:List (Option Nat),k ls hp'=some ans/\vs.length=ps.length/\rs.length=(kM ps ls).length/\eY hp hp' (fun q=>some q∈rs)/\CK rs/\
   ∀{T:Nat->List K} {w0 w:World} {np:Nat} {M:Mem np} {A:cy} {hp0:Nat->aK} {ys:List Value},Hp T w0 M A hp0 w->Sub hp hp0->F2 (V2 T w A) vs ys->
    ∃vals:List Value,vals.length=rs.length/\∀(RS:List (Option Nat)) (VS:List Value) (nx:Nat),ow RS rs nx->ow VS vals nx->zH nf w A (A.out RS VS)->
     F2 (V1 T w (A.out RS VS)) (jC ps ls nx) ys/\∀i o,(kM ps ls)[i]?=some o->cT T w (A.out RS VS) (nx+i) o
 | [],hp,[],k,h=>⟨[],hp,[],h,rfl,rfl,(eY.refl hp).congr fun q=>by simp,fun i j q hi=>(by simp at hi),fun {T w0 w np M A hp0 ys} _ _ hf=>⟨[],rfl,fun RS VS nx _ _ _=>⟨(by cases hf;exact .nil),fun i o ho=>(by simp [kM] at ho)⟩⟩⟩
 | [],hp,_::_,k,h=>by cases h
 | _::_,hp,[],k,h=>by cases h
 | (a,q)::ps,hp,v::vs,k,h=>by
  simp only [kG] at h
  obtain ⟨x,hp1,rs1,h1,h1',hrest,h2,h3,h4,h5⟩:=ya h
  obtain ⟨ls,hp2,rs2,g1,g2',g4,g5,g6,g7⟩:=mO h1
  have hdrop:(x++ls).drop q.length=ls:=by rw [<-h1',List.drop_left]
  refine ⟨x++ls,hp2,rs1++rs2,g1,by simp [g2'],?_,h3.app g5,h4.append g6 h3 g5,fun {T w0 w np M A hp0 ys} hh hs hf=>?_⟩
  ·simp [kM,hdrop,(hrest ls).1,h2,g4]
  ·cases hf with
   | cons hv ht=>
    obtain ⟨va,va1,va2⟩:=h5 hh hs hv
    obtain ⟨vb,vb1,vb2⟩:=g7 hh (h3.sub hs) ht
    refine ⟨va++vb,by simp [va1,vb1],fun RS VS nx hRS hVS hz=>?_⟩
    obtain ⟨c1,c2⟩:=va2 RS VS nx hRS.left hVS.left hz
    obtain ⟨d1,d2⟩:=vb2 RS VS (nx+rs1.length) hRS.right (by rw [<-va1];exact hVS.right) hz
    refine ⟨?_,fun i o ho=>?_⟩
    ·simp only [jC,hdrop,(hrest ls).1,(hrest ls).2,<-h2]
     exact .cons c1 d1
    ·simp only [kM,hdrop,(hrest ls).1] at ho
     by_cases hi:i<(iA q x).length
     ·rw [List.getElem?_append_left hi] at ho;exact c2 i o ho
     ·rw [List.getElem?_append_right (by omega)] at ho
      have:=d2 _ o ho
      rw [h2,show nx+(iA q x).length+(i - (iA q x).length)=nx+i by omega] at this
      exact this
end
end Go.DM
set_option linter.unusedSectionVars false
namespace Go.DM
def sO (tmps:Array Value)(r:ResultVar):Sem Value:=match r with
 | .tmp t=>pure (tmps.getD t undef)
 | .cell a t=>do loadVar t (<-asAddr (tmps.getD a undef))
def results_eq (fn:Func)(tmps:Array Value):results fn tmps=(do
  let vs <-fn.results.mapM (sO tmps)
  pure (if h:vs.size=1 then vs[0] else .tuple vs)):=by
 unfold results
 congr 1
def pR (ys:List Value):Value:=match ys with
 | [y]=>y
 | ys=>.tuple ys.toArray
def kC {P:Program}{fn:Func}{tmps:Array Value}{w:World}{ys:List Value}(h:(fn.results.toList.mapM (sO tmps)).run P w=.ok ys w) :
  (results fn tmps).run P w=.ok (pR ys) w:=by
 rw [results_eq,Array.mapM_eq_mapM_toList]
 simp only [Sem.run_bind,map_eq_pure_bind,h,Result.andThen_ok,Sem.run_pure]
 congr 1
 match ys with
 | []=>rfl
 | [y]=>rfl
 | a::b::c=>simp [pR]
def pM {P:Program}{w:World}{t b o:Nat}{ii:TypeInfo}{d:TypeDesc}{cs:List Value}(hi:P.info? t=some ii)(hu:P.underlying t=some d)(hl:cs.length=ii.size)
  (h1:iS d=false->cs.length=1) (hc:∀j v,cs[j]?=some v->w.cell? ⟨b,o+j,none⟩=some v) :
  (loadVar t ⟨b,o,none⟩).run P w=.ok (mkValue (iS d) cs) w:=by
 have:=gh (P:=P) hi hu hl h1 hc
 simpa [Instr.loadAt,Instr.sureAddr] using this
section
variable {P:Program} {E:Env} {w0 w:World} {M:Mem E.np} {A:cy} {s:St} {a:Act} {ans:List L}
theorem gB (hT:∀t i,E.T t=some i->fN P E t i)(sm:fq E w0 M A s a w):∀{rs:List ResultVar} {k:List V->aD},slotsOf E s rs k=some ans->
  ∃vs xs,k vs=some ans/\F2 (V2 E.cells w A) vs xs/\(rs.mapM (sO a.tmps)).run P w=.ok xs w
 | [],k,h=>⟨[],[],h,.nil,by simp⟩
 | .tmp t::rs,k,h=>by
  simp only [slotsOf] at h
  obtain ⟨vs,xs,h1,h2,h3⟩:=gB hT sm h
  exact ⟨_,a.eval (.tmp t)::xs,h1,.cons (sm.ev (.tmp t)) h2,by simp [sO,h3,Act.eval]⟩
 | .cell t ty::rs,k,h=>by
  simp only [slotsOf] at h
  split at h
  ·cases h
  rename_i i ht
  obtain ⟨ii,d,z,g1,g2,g3,g4,g5,g6,gby,g7,g8,g9,g10,gpl,g11,g12,g13,g14⟩:=hT ty i ht
  have hx:=sm.ev (.tmp t)
  simp only [cC] at hx
  split at h
  ·rename_i r q hr
   rw [hr] at hx
   split at h
   ·rename_i cs hcs
    cases hle:Nat.ble (q+i.cells.length) cs.length<;>simp only [hle,aL,aT] at h
    ·cases h
    have hle':=Nat.le_of_ble_eq_true hle
    obtain ⟨vs,xs,h1,h2,h3⟩:=gB hT sm h
    obtain ⟨hal,g,e1,e2⟩:=(show V0 E.cells w A (.bK r q) (a.eval (.tmp t)) from hx)
    have hroot:=sm.hp.rt r
    rw [hcs] at hroot
    obtain ⟨_,g',te,cur,m1,m2,m3,m4⟩:=hroot
    obtain rfl:g=g':=by rw [e1] at m1;injection m1 with m1;injection m1 with m1;injection m1
    have hcl:cs.length=cur.size:=by rw [m4.length,Array.length_toList]
    have hcut:(cut cur.toList q i.cells.length).length=i.cells.length:=eT (by rw [Array.length_toList];omega)
    have hload:=pM (P:=P) (w:=w) (b:=g) (o:=q) (cs:=cut cur.toList q i.cells.length) g1 g2 (by rw [hcut,g4]) (fun hd=>by rw [hcut];exact (g9 (by rw [<-g8];exact hd)).1) (fun j v hj=>by
     rw [fX m3,<-Array.getElem?_toList];exact (mW hj).1)
    refine ⟨_,_::xs,h1,.cons (V1.v2 (pN (agg:=i.agg) (m4.cut q i.cells.length) (fun ha=>by rw [eT hle'];exact (g9 ha).1))) h2,?_⟩
    have hv:a.tmps.getD t undef=.pointer (some ⟨g,q,none⟩):=e2
    rw [g8] at hload
    simp [sO,hv,asAddr,hload,h3]
   ·cases h
  ·cases h
def RP.nE (p:RP):Bool:=p.ok&&(match p with | .gK ps=>!Nat.beq ps.length 1 | _=>true)
theorem nq (p:RP)(ls:List L):kM p.parts ls=p.R ls:=by
 cases p with
 | one l=>simp [RP.parts,RP.R,kM,iA]
 | agg q=>simp [RP.parts,RP.R,kM]
 | gK ps=>rfl
 | yF _=>rfl
 | zb _ _=>rfl
 | cur _ _=>rfl
 | uh _=>rfl
theorem yL {p:RP}{ls:List L}{ys:List Value}{nx:Nat}(hf:p.nE=true)(h:F2 (V1 E.cells w A) (jC p.parts ls nx) ys):V2 E.cells w A (p.V ls nx) (pR ys):=by
 cases p with
 | one l=>
  simp only [RP.parts,jC,jx] at h
  cases h with
  | cons hv ht=>
   cases ht
   exact V1.v2 hv
 | agg q=>
  simp only [RP.parts,jC] at h
  cases h with
  | cons hv ht=>
   cases ht
   exact V1.v2 hv
 | gK ps=>
  simp only [RP.nE,Bool.and_eq_true,Bool.not_eq_true'] at hf
  have hl:=h.length
  have hne:ys.length≠1:=by
   rw [<-hl]
   have :(jC ps ls nx).length=ps.length:=by
    clear h hl hf
    have :∀(ps:List (Bool×List Lf)) (ls:List L) (n:Nat),(jC ps ls n).length=ps.length:=by
     intro ps
     induction ps with
     | nil=>intro ls n;rfl
     | cons p ps ih=>intro ls n;obtain ⟨a,q⟩:=p;simp [jC,ih]
    exact this _ _ _
   show (jC ps ls nx).length≠1
   rw [this]
   intro e
   have:=hf.2
   rw [e] at this;cases this
  refine ⟨ys,?_,h⟩
  match ys,hne with
  | [],_=>rfl
  | [y],h=>exact (h rfl).elim
  | _::_::_,_=>rfl
 | yF _=>simp [RP.nE,RP.ok] at hf
 | zb _ _=>simp [RP.nE,RP.ok] at hf
 | cur _ _=>simp [RP.nE,RP.ok] at hf
 | uh _=>simp [RP.nE,RP.ok] at hf
theorem ux:∀{q:List Lf} {ls:List L},q.any Lf.zQ=false->iA q ls=[]
 | [],_,_=>rfl
 | .fr _::q,ls,h=>by cases h
 | .rd _::q,ls,h=>by simp only [List.any_cons,Bool.or_eq_false_iff] at h;simp [iA,vC,ux h.2]
theorem uD:∀{ps:List (Bool×List Lf)} {ls:List L},(ps.all fun q=>!q.2.any Lf.zQ)=true->kM ps ls=[]
 | [],_,_=>rfl
 | (a,q)::ps,ls,h=>by
  simp only [List.all_cons,Bool.and_eq_true,Bool.not_eq_true'] at h
  simp [kM,ux h.1,uD (ps:=ps) h.2]
def Left (E:Env)(w0:World)(Z0:Nat->Prop)(p:RP)(r:List L)(e:Ending)(w':World):Prop:=
 ∃rv A',e=.returned rv/\Fr w0 w' (fun _=>False)/\A'.Z=Z0/\(∀i,A'.al i↔i<(p.R r).length)/\
  Hp E.cells w0 Ec A' (dA (fun _=>.dead) 0 (p.R r)) w'/\V2 E.cells w' A' (p.V r 0) rv
theorem zi (hT:∀t i,E.T t=some i->fN P E t i){f:Func}{p:RP}{Z0:Nat->Prop}(hf:p.nE=true) :
  Fits E w0 (An E.np) Z0 ans (dG E f p) (bodyPost P f (Left E w0 Z0 p ans)):=by
 intro e s a w h ⟨A,sm,hz⟩
 have h:CG E f p e s=some ans:=by
  cases p<;>first | exact h | (simp [RP.nE,RP.ok] at hf)
 have key0:∀{A:cy} {s:St},fq E w0 (An E.np) A s a w->A.Z=Z0->slotsOf E s f.results.toList (fun vs=>kG (p.parts.all fun q=>!q.2.any Lf.zQ) p.parts s.hp vs fun ls _=>some ls)=some ans->
   a.defers=[]/\∃v,(results f a.tmps).run P w=.ok v w/\Left E w0 Z0 p ans (.returned v) w:=by
  intro A s sm hz h
  refine ⟨sm.df,?_⟩
  have hh:=sm.hp
  obtain ⟨vs,xs,h1,h2,h3⟩:=gB hT sm h
  obtain ⟨ls,hp',rs,g1,g2,g3,g4,g5,g6⟩:=mO h1
  injection g1 with g1
  subst g1
  obtain ⟨vals,e1,e2⟩:=g6 hh (fun _=>.inl rfl) h2
  have hN:∀{i b:Nat},(A.out rs vals).N i b->∃q,A.N q b:=fun ⟨q,_,hn⟩=>⟨q,hn⟩
  have hZ:zH (p.parts.all fun q=>!q.2.any Lf.zQ) w A (A.out rs vals):=by
   refine ⟨fun hnf b hb=>?_,fun b hb=>⟨hb.1,hb.2.1,fun i ⟨q,_,hn⟩=>hb.2.2 q hn⟩⟩
   have hrs:rs=[]:=List.eq_nil_of_length_eq_zero (by rw [g3,uD hnf];rfl)
   subst hrs
   have :∀i,¬(A.out [] vals).N i b:=fun i ⟨q,hq,_⟩=>by simp at hq
   rcases hb with ⟨r,hr⟩ | hb
   ·refine ⟨?_,hh.lt r b hr,this⟩
    rcases hh.nm r b hr with h | h
    ·exact h.elim
    ·exact hh.zf b (.inr h)
   ·exact ⟨hb.1,hb.2.1,this⟩
  obtain ⟨c1,c2⟩:=e2 rs vals 0 (fun i x h=>by simpa using h) (fun i x h=>by simpa using h) hZ
  refine ⟨_,kC h3,_,A.out rs vals,rfl,hh.fr,hz,fun i=>?_,⟨fun r b hb=>?_,fun r q b hb hb'=>?_,fun r hr=>?_,fun r=>?_,hh.fr,fun r b hb=>?_,hh.zf,fun j hj=>absurd hj (Nat.not_lt_zero j)⟩,yL hf c1⟩
  ·show i<rs.length↔_
   rw [g3,nq]
  ·obtain ⟨q,_,hn⟩:=hb;exact hh.lt q b hn
  ·obtain ⟨p1,hp1,hn⟩:=hb
   obtain ⟨p2,hp2,hn'⟩:=hb'
   have:=hh.dj p1 p2 b hn hn'
   subst this
   exact g5 r q p1 hp1 hp2
  ·have hr':¬r<rs.length:=hr
   rw [dc _ _ _ _ (.inr (by rw [Nat.zero_add,<-nq,<-g3];omega))]
  ·by_cases hr:r<rs.length
   ·have hlt:r<(kM p.parts ls).length:=by rw [<-g3];exact hr
    have ho:=List.getElem?_eq_getElem hlt
    have:=c2 r _ ho
    rw [Nat.zero_add] at this
    have ha:=iw (p.R ls) (fun _=>.dead) 0 r (kM p.parts ls)[r] (by rw [<-nq];exact ho)
    rw [Nat.zero_add] at ha
    rw [ha];exact this
   ·rw [dc _ _ _ _ (.inr (by rw [Nat.zero_add,<-nq,<-g3];omega))]
    rintro b ⟨q,hq,_⟩
    rw [List.getElem?_eq_none (by omega)] at hq;cases hq
  ·obtain ⟨q,_,hn⟩:=hb;exact hh.nm q b hn
 have key:gI E (qG f.results.toList p.parts) s (fun s=>slotsOf E s f.results.toList (fun vs=>kG (p.parts.all fun q=>!q.2.any Lf.zQ) p.parts s.hp vs fun ls _=>some ls))=some ans->
   a.defers=[]/\∃v,(results f a.tmps).run P w=.ok v w/\Left E w0 Z0 p ans (.returned v) w:=by
  intro h
  obtain ⟨s',A',h1,h2,h3⟩:=sm.gI h
  exact key0 h2 (h3.trans hz) h1
 cases e with
 | exit j=>cases h
 | normal=>exact key h
 | ret=>exact key h
theorem oK:∀{vs:List V} {i:Nat} {v:V},vs[i]?=some v->ig vs i=v
 | [],i,v,h=>by simp at h
 | a::vs,0,v,h=>by simp at h;exact h
 | a::vs,i+1,v,h=>oK (vs:=vs) (i:=i) (by simpa using h)
theorem kR:∀{vs:List V} {i:Nat},vs.length<=i->ig vs i=.undef
 | [],i,h=>rfl
 | a::vs,0,h=>by simp at h
 | a::vs,i+1,h=>kR (vs:=vs) (i:=i) (by simpa using h)
def Av (T:Nat->List K)(ks:List K)(ls:List L):Prop:=∀(j:Nat) (k:K),ks[j]?=some k->xQ T k (ls.getD j .hole)
def C6 (T:Nat->List K):List (List K)->List L->Prop
 | [],_=>True
 | q::qs,ls=>Av T q ls/\C6 T qs (cD q.length ls)
def El (T:Nat->List K):fH->List L->Prop
 | .rd k,ls=>xQ T k (ls.headD .hole)
 | .agg ks,ls=>Av T ks ls
 | .ptr ks,ls=>Av T ks ls
 | .fn _ qs,ls=>C6 T qs ls
 | .nil,_=>True
def sE (T:Nat->List K):List fH->List L->Prop
 | [],_=>True
 | p::ps,ls=>El T p ls/\sE T ps (cD p.n ls)
theorem xQ.Es {T:Nat->List K}{e:Nat}{l:L}(h:xQ T (.sl e) (.sl l.cU)):xQ T (.sl e) l:=by
 cases h
 exact .sl e l ‹_› ‹_›
theorem yS {T:Nat->List K}{k:K}{l:L}{x:Value}(h:V0 T w A (xy none k l) x):xQ T k l:=by
 cases k with
 | int ik=>exact .int _ _
 | bool=>exact .bool _
 | str=>exact .str _
 | sl e=>exact xQ.Es (show V0 T w A (.sl none e l.cU) x from h).2.EB
theorem xw {T:Nat->List K}{R:V->Value->Prop}(hR:∀v x,R v x->V0 T w A v x):∀{ks:List K} {ls:List L} {xs:List Value},F2 R (jR none ks ls) xs->Av T ks ls
 | [],ls,xs,_=>fun j k hj=>by simp at hj
 | k::ks,ls,xs,h=>by
  simp only [jR] at h
  cases h with
  | cons hv ht=>
   intro j kk hj
   cases j with
   | zero=>
    simp at hj
    subst hj
    rw [<-gL];exact yS (hR _ _ hv)
   | succ j=>
    rw [<-jG]
    exact xw hR ht j kk (by simpa using hj)
theorem vS {T:Nat->List K}{ks:List K}{ls:List L}{x:Value}(h:V0 T w A (.cL none ks (fM ks.length ls) 0) x):Av T ks ls:=by
 intro j k hj
 obtain ⟨_,b,q,vv,_,_,h3⟩:=h
 have:=(h3 j k hj).2.EB
 rwa [qd _ _ _ (List.getElem?_eq_some_iff.1 hj).1] at this
theorem vJ {T:Nat->List K}:∀{qs:List (List K)} {ls:List L} {xs:List Value},F2 (V0 T w A) (tN qs ls) xs->C6 T qs ls
 | [],_,_,_=>trivial
 | q::qs,ls,xs,h=>by
  simp only [tN] at h
  cases h with
  | cons hv ht=>exact ⟨vS hv,vJ ht⟩
theorem wo {T:Nat->List K}:∀{ps:List fH} {ls:List L} {xs:List Value},F2 (V2 T w A) (jg ps ls) xs->sE T ps ls
 | [],_,_,_=>trivial
 | p::ps,ls,xs,h=>by
  simp only [jg] at h
  cases h with
  | cons hv ht=>
   refine ⟨?_,wo ht⟩
   cases p with
   | rd k=>
    have key:∀{x:Value},V2 T w A (xy none k (ls.headD .hole)) x->V0 T w A (xy none k (ls.headD .hole)) x:=by
     intro x hx
     cases k<;>exact hx
    exact yS (key hv)
   | agg ks=>
    obtain ⟨l,_,hl⟩:=(show V1 T w A (.agg (jR none ks ls)) _ from hv)
    exact xw (R:=Vc T w A) (fun _ _ h=>h.1) hl
   | ptr ks=>exact vS (show V0 T w A (.cL none ks (fM ks.length ls) 0) _ from hv)
   | fn f qs=>
    obtain ⟨l,_,hl⟩:=(show V1 T w A (.fn f (tN qs ls)) _ from hv)
    exact vJ hl
   | nil=>exact trivial
theorem xu {E0:Env}{g:FuncId}{fn:Func}{c:Code}{aV:gW}(hT:∀t i,E.T t=some i->fN P E t i)(hG:∀g c,c∈E.G g->Valid P E g c)(hM:lV P E)(hD:∀w0 M Z0 ans,mY P E w0 M Z0 ans)
  (he : E.T = E0.T) (hnp : E.np = 0) (hf : P.funcs[g]? = some fn) (hname : (fn.name == "runtime.NumGoroutine") = false) (hb : fn.body = some c) (hfine : aV.res.nE = true) (hn : (cj c).Nodup)
  (hnt:aV.args.length+(fn.ntmps - aV.args.length)=E.nt) (live:Nat->Live) (h:∀ls r,sE E.cells aV.args ls->aV.sem ls=some r->∃n,eS E live fn aV.res n (dS aV.args ls)=some r):Valid P E0 g aV:=by
 have hbody:bQ fn=c:=by simp [bQ,hb]
 have hc:E0.cells=E.cells:=by funext t;simp [Env.cells,he]
 refine ⟨⟨fn,hf,hname,by rw [hb];rfl⟩,?_,fun ls r w vs Z hs hv=>?_⟩
 ·simp only [RP.nE,Bool.and_eq_true] at hfine;exact hfine.1
 rw [hc] at hv
 obtain ⟨n,hrun⟩:=h ls r (wo hv) hs
 have hvl:vs.length=aV.args.length:=by
  rw [<-hv.length]
  have :∀(ps:List fH) (ls:List L),(jg ps ls).length=ps.length:=by
   intro ps
   induction ps with
   | nil=>intro _;rfl
   | cons p ps ih=>intro ls;simp [jg,ih]
  exact this _ _
 have key:=nY (live:=live) (P:=P) (w0:=w) (M:=An E.np) (Z0:=(A0 Z w).Z) (Q:=bodyPost P fn (Left E w (A0 Z w).Z aV.res r)) hT hG hM (hD _ _ _ _) (by rw [hbody];exact hn) (zi hT hfine) hrun
  (a:={ tmps:=vs.toArray++Array.replicate (fn.ntmps - vs.toArray.size) undef,defers:=[] }) (w:=w) ⟨A0 Z w,⟨⟨fun _ _ h=>h.elim,fun _ _ _ h=>h.elim,fun _ _=>rfl,fun _ _ h=>h.elim,Fr.refl _ _,fun _ _ h=>h.elim,fun _ h=>.inr (h.resolve_left id),fun j hj=>absurd hj (by rw [hnp];exact Nat.not_lt_zero j)⟩,fun i x hx=>?_,fun _ _ h=>h.elim,rfl,?_,.nil⟩,rfl⟩
 ·rw [hbody] at key
  refine (calls_of_wp hf hb key).mono fun e w' hR=>?_
  unfold Left at hR
  rw [hc];exact hR
 ·show V2 E.cells w (A0 Z w) (ig (jg aV.args ls) i) x
  by_cases hi:i<vs.length
  ·have hx':vs[i]?=some x:=by simpa [Array.getElem?_append,hi] using hx
   have hl:=hv.length
   have hg:=List.getElem?_eq_getElem (show i<(jg aV.args ls).length by omega)
   obtain ⟨y,hy,hr⟩:=hv.get hg
   rw [hx'] at hy;injection hy with hy;subst hy
   rw [oK hg];exact hr
  ·rw [kR (by rw [hv.length];omega)]
   have :x=undef:=by
    have h2:¬i<vs.toArray.size:=by simpa using hi
    rw [Array.getElem?_append,if_neg h2] at hx
    have:=(Array.getElem?_eq_some_iff.1 hx).2
    rw [<-this];simp
   exact this
 ·simp only [Array.size_append,List.size_toArray,Array.size_replicate];rw [hvl];exact hnt
theorem AZ {T:Nat->List K}{w:World}{A:cy}{v:V}{x:Value}(h:V2 T w A v x):V1 T w A (AE v) x:=by
 cases v<;>first | exact h | exact trivial
theorem zO {g:FuncId}{fn:Func}{c:Code}(hT:∀t i,E.T t=some i->fN P E t i)(hG:∀g c,c∈E.G g->Valid P E g c)(hM:lV P E)(hD:∀w0 M Z0 ans,mY P E w0 M Z0 ans)
  (hf : P.funcs[g]? = some fn) (hname : (fn.name == "runtime.NumGoroutine") = false) (hb : fn.body = some c) (hn : (cj c).Nodup) : dh P E E.np g (inl E fn) := by
 have hbody:bQ fn=c:=by simp [bQ,hb]
 refine ⟨⟨fn,hf,hname,by rw [hb];rfl⟩,fun w0 M A s w vs xs k ans h hh hnx hfr hv K hK=>?_,fun h=>(by cases h),fun h=>by cases h⟩
 simp only [inl] at h
 cases hnt:Nat.beq (vs.length+(fn.ntmps - vs.length)) E.nt<;>simp only [hnt,aL,aT] at h
 ·cases h
 have hnt':=Nat.eq_of_beq_eq_true hnt
 rw [hbody] at h
 have hdeep:Deep P (pq E w0 (⟨M.p,M.v,M.sv⟩:Mem E.np) A.Z ans (fun _=>[]) (fun _ _ _=>none)) c (bodyPost P fn fun e w'=>∃cv,e=.returned cv/\K cv w'):=
  Deep.mono P (fun id _ H _ vs h a w e _=>by cases e) (gC P hn)
 have hfits:Fits E w0 (⟨M.p,M.v,M.sv⟩:Mem E.np) A.Z ans (CL E fn k) (bodyPost P fn fun e w'=>∃cv,e=.returned cv/\K cv w'):=by
  intro e s' a w' h ⟨A',sm',hz⟩
  have key:(slotsOf E s' fn.results.toList fun vs=>match vs with
    | [v]=>k v s'
    | vs=>k (.gK (vs.map AE)) s')=some ans->a.defers=[]/\∃v,(results fn a.tmps).run P w'=.ok v w'/\∃cv,Ending.returned v=.returned cv/\K cv w':=by
   intro h
   refine ⟨sm'.df,?_⟩
   have hh':=sm'.hp
   obtain ⟨us,ys,h1,h2,h3⟩:=gB hT sm' h
   refine ⟨_,kC h3,_,rfl,?_⟩
   have hhp:Hp E.cells w0 M A' s'.hp w':=⟨hh'.lt,hh'.dj,hh'.al,hh'.rt,hh'.fr,hh'.nm,hh'.zf,hh'.pn⟩
   split at h1
   ·cases h2 with
    | cons hv ht=>
     cases ht
     exact hK _ s' _ w' A' h1 hhp sm'.nx sm'.fr hv hz trivial
   ·rename_i hne
    have hy:pR ys=.tuple ys.toArray:=by
     unfold pR
     split
     ·cases h2 with
      | cons _ ht=>cases ht;exact (hne _ rfl).elim
     ·rfl
    rw [hy]
    exact hK _ s' _ w' A' h1 hhp sm'.nx sm'.fr ⟨ys,rfl,h2.map' fun _ _ h=>AZ h⟩ hz trivial
  cases e with
  | exit j=>cases h
  | normal=>exact key h
  | ret=>exact key h
 have hvl:=hv.length
 have key:=fT (P:=P) (live:=fun _=>[]) (I:=fun _ _ _=>none) hT hG hM (hD _ _ _ _) hdeep hfits h (a:={ tmps:=xs.toArray++Array.replicate (fn.ntmps - xs.toArray.size) undef,defers:=[] }) (w:=w)
  ⟨A,⟨⟨hh.lt,hh.dj,hh.al,hh.rt,hh.fr,hh.nm,hh.zf,hh.pn⟩,fun i x hx=>?_,hnx,rfl,?_,hfr⟩,rfl⟩
 ·exact calls_of_wp hf hb key
 ·show V2 E.cells w A (ig vs i) x
  by_cases hi:i<xs.length
  ·have hx':xs[i]?=some x:=by simpa [Array.getElem?_append,hi] using hx
   exact yW hv hx'
  ·rw [kR (by rw [hvl];omega)]
   have :x=undef:=by
    have h2:¬i<xs.toArray.size:=by simpa using hi
    rw [Array.getElem?_append,if_neg h2] at hx
    have:=(Array.getElem?_eq_some_iff.1 hx).2
    rw [<-this];simp
   exact this
 ·simp only [Array.size_append,List.size_toArray,Array.size_replicate];rw [<-hvl];exact hnt'
end
end Go.DM
set_option linter.unusedSectionVars false
namespace Go.DM
section
variable {ans:List L} {E:Env} {hp:Nat->aK}
theorem nX {v:V}{k:List V->aD}(h:oG v k=some ans):∃cs,k cs=some ans/\∀k':List V->aD,oG v k'=k' cs:=by
 cases v<;>first | exact ⟨_,h,fun _=>rfl⟩ | cases h
theorem jh:∀{ks:List K} {vs:List V} {k:List L->aD},fW hp ks vs k=some ans->∃ls,k ls=some ans/\∀hp0,Sub hp hp0->∀k':List L->aD,fW hp0 ks vs k'=k' ls
 | [],[],k,h=>⟨[],h,fun _ _ _=>rfl⟩
 | [],_::_,k,h=>by cases h
 | _::_,[],k,h=>by cases h
 | kk::ks,v::vs,k,h=>by
  simp only [fW] at h
  cases hf:fits hp kk v<;>simp only [hf,aL,aT] at h
  ·cases h
  obtain ⟨l,h1,h2⟩:=jH h
  obtain ⟨ls,h3,h4⟩:=jh h1
  refine ⟨_,h3,fun hp0 hs k'=>?_⟩
  simp only [fW,oY hf h hs,aL,h2 hp0 hs,h4 hp0 hs]
theorem oV {ks:List K}:∀{n:Nat} {cs:List V} {k:an->aD},tH hp ks n cs k=some ans->∃xs,k xs=some ans/\∀hp0,Sub hp hp0->∀k':an->aD,tH hp0 ks n cs k'=k' xs
 | 0,cs,k,h=>⟨[],h,fun _ _ _=>rfl⟩
 | n+1,cs,k,h=>by
  simp only [tH] at h
  obtain ⟨l,h1,h2⟩:=jh h
  obtain ⟨ls,h3,h4⟩:=oV h1
  exact ⟨_,h3,fun hp0 hs k'=>by simp only [tH,h2 hp0 hs,h4 hp0 hs]⟩
theorem jS {v:V}{k:Option Nat->Nat->an->aD}(h:gx E hp v k=some ans):∃d e xs,k d e xs=some ans/\∀hp0,Sub hp hp0->∀k':Option Nat->Nat->an->aD,gx E hp0 v k'=k' d e xs:=by
 cases v<;>first | (cases h;done) | skip
 case sl d e xs=>exact ⟨_,_,_,h,fun _ _ _=>rfl⟩
 case own r=>
  simp only [gx] at h
  split at h
  ·rename_i e xs hr
   exact ⟨_,_,_,h,fun hp0 hs k'=>by simp only [gx,hs.row hr (by simp)]⟩
  ·rename_i e xs hr
   exact ⟨_,_,_,h,fun hp0 hs k'=>by simp only [gx,hs.row hr (by simp)]⟩
  ·cases h
 case lit r n e=>
  simp only [gx] at h
  split at h
  ·rename_i cs hr
   cases hp:(Nat.ble n 16777216&&cs.all cE)<;>simp only [hp,aL,aT] at h
   ·cases h
   obtain ⟨xs,h1,h2⟩:=oV h
   exact ⟨_,_,_,h1,fun hp0 hs k'=>by simp only [gx,hs.row hr (by simp),hp,aL,h2 hp0 hs]⟩
  ·cases h
 case gf r sz i o e=>
  simp only [gx] at h
  split at h
  ·rename_i er xs hr
   cases hz:Nat.beq sz (E.cells er).length<;>simp only [hz,aL,aT] at h
   ·cases h
   split at h
   ·rename_i e2 he2
    cases hk:Nat.beq e e2<;>simp only [hk,aL,aT] at h
    ·cases h
    exact ⟨_,_,_,h,fun hp0 hs k'=>by simp only [gx,hs.row hr (by simp),hz,he2,hk,aL]⟩
   ·cases h
  ·cases h
theorem we {ks:List K}{v:V}{k:List L->aD}(h:rm hp ks v k=some ans):∃ls,k ls=some ans/\∀hp0,Sub hp hp0->∀k':List L->aD,rm hp0 ks v k'=k' ls:=by
 cases v<;>first | (cases h;done) | skip
 case bK r o=>
  simp only [rm] at h
  cases ho:Nat.beq o 0<;>simp only [ho,aL,aT] at h
  ·cases h
  split at h
  ·rename_i cs hr
   obtain ⟨ls,h1,h2⟩:=jh h
   exact ⟨_,h1,fun hp0 hs k'=>by simp only [rm,ho,aL,hs.row hr (by simp),h2 hp0 hs]⟩
  ·cases h
 case cL d es cells o=>
  simp only [rm] at h
  cases ho:(Nat.beq o 0&&sr es ks)<;>simp only [ho,aL,aT] at h
  ·cases h
  exact ⟨_,h,fun hp0 hs k'=>by simp only [rm,ho,aL]⟩
theorem ur:∀{qs:List (List K)} {vs:List V} {k:List L->aD},qM hp qs vs k=some ans->∃ls,k ls=some ans/\∀hp0,Sub hp hp0->∀k':List L->aD,qM hp0 qs vs k'=k' ls
 | [],[],k,h=>⟨[],h,fun _ _ _=>rfl⟩
 | [],_::_,k,h=>by cases h
 | _::_,[],k,h=>by cases h
 | q::qs,v::vs,k,h=>by
  simp only [qM] at h
  obtain ⟨a,h1,h2⟩:=we h
  obtain ⟨b,h3,h4⟩:=ur h1
  exact ⟨_,h3,fun hp0 hs k'=>by simp only [qM,h2 hp0 hs,h4 hp0 hs]⟩
theorem rI {p:fH}{v:V}{k:List L->aD}(h:nB E hp p v k=some ans):∃ls,k ls=some ans/\∀hp0,Sub hp hp0->∀k':List L->aD,nB E hp0 p v k'=k' ls:=by
 cases p with
 | rd kk=>
  have other:fW hp [kk] [v] k=some ans->(∀hp0 (k':List L->aD),nB E hp0 (.rd kk) v k'=fW hp0 [kk] [v] k')->∃ls,k ls=some ans/\∀hp0,Sub hp hp0->∀k':List L->aD,nB E hp0 (.rd kk) v k'=k' ls:=by
   intro h he
   obtain ⟨ls,h1,h2⟩:=jh h
   exact ⟨ls,h1,fun hp0 hs k'=>by rw [he,h2 hp0 hs]⟩
  cases v
  case lit r n e=>
   simp only [nB] at h
   split at h
   ·rename_i cs hr
    cases hk:(K.beq kk (.sl e)&&Nat.ble n 16777216)<;>simp only [hk,aL,aT] at h
    ·cases h
    obtain ⟨xs,h1,h2⟩:=oV h
    exact ⟨_,h1,fun hp0 hs k'=>by simp only [nB,hs.row hr (by simp),hk,aL,h2 hp0 hs]⟩
   ·cases h
  all_goals exact other h (fun _ _=>rfl)
 | agg ks=>
  cases v<;>first | (cases h;done) | skip
  obtain ⟨ls,h1,h2⟩:=jh h
  exact ⟨ls,h1,fun hp0 hs k'=>h2 hp0 hs k'⟩
 | ptr ks=>
  obtain ⟨ls,h1,h2⟩:=we h
  exact ⟨ls,h1,fun hp0 hs k'=>h2 hp0 hs k'⟩
 | fn f qs=>
  cases v<;>first | (cases h;done) | skip
  rename_i g caps
  simp only [nB] at h
  cases hf:Nat.beq f g<;>simp only [hf,aL,aT] at h
  ·cases h
  obtain ⟨ls,h1,h2⟩:=ur h
  exact ⟨ls,h1,fun hp0 hs k'=>by simp only [nB,hf,aL,h2 hp0 hs]⟩
 | nil=>
  cases v<;>first | (cases h;done) | skip
  exact ⟨[],h,fun hp0 hs k'=>rfl⟩
theorem uA:∀{ps:List fH} {vs:List V} {k:List L->aD},nK E hp ps vs k=some ans->∃ls,k ls=some ans/\∀hp0,Sub hp hp0->∀k':List L->aD,nK E hp0 ps vs k'=k' ls
 | [],[],k,h=>⟨[],h,fun _ _ _=>rfl⟩
 | [],_::_,k,h=>by cases h
 | _::_,[],k,h=>by cases h
 | q::qs,v::vs,k,h=>by
  simp only [nK] at h
  obtain ⟨a,h1,h2⟩:=rI h
  obtain ⟨b,h3,h4⟩:=uA h1
  exact ⟨_,h3,fun hp0 hs k'=>by simp only [nK,h2 hp0 hs,h4 hp0 hs]⟩
def CD (f:(Nat->aK)->(V->List aK->aD)->aD)(hp:Nat->aK)(k:V->List aK->aD)(ans:List L):Prop:=∃v rs,k v rs=some ans/\∀hp0,Sub hp hp0->∀k',f hp0 k'=k' v rs
theorem tX {nx:Nat}{vs:List V}{k:V->List aK->aD}:∀{cs:List gW},nJ E hp nx vs k cs=some ans->CD (fun hp0 k'=>nJ E hp0 nx vs k' cs) hp k ans
 | [],h=>by cases h
 | c::cs,h=>by
  simp only [nJ] at h
  cases hc:pK c.args vs<;>simp only [hc,aL,aT] at h
  ·obtain ⟨v,rs,h1,h2⟩:=tX h
   exact ⟨v,rs,h1,fun hp0 hs k'=>by simp only [nJ,hc,aT];exact h2 hp0 hs k'⟩
  ·cases hv:(c.res.view&&!vs.all gF)<;>simp only [hv,aL,aT] at h
   ·obtain ⟨ls,h1,h2⟩:=uA h
    cases hr:c.sem ls with
    | none=>rw [hr] at h1;cases h1
    | some r=>
     rw [hr] at h1
     simp only [Option.bind_some,kA] at h1
     exact ⟨_,_,h1,fun hp0 hs k'=>by simp only [nJ,hc,hv,aL,aT,h2 hp0 hs,hr,Option.bind_some,kA]⟩
   ·cases h
theorem cO {b:Bool}{x:aD}(h:(cond b x none)=some ans):b=true/\x=some ans:=by cases b<;>simp at h;exact ⟨rfl,h⟩
theorem kB:∀{cs ds:List V} {k:Bool->aD},fO cs ds k=some ans->∃r,k r=some ans/\∀k':Bool->aD,fO cs ds k'=k' r
 | [],[],k,h=>⟨true,h,fun _=>rfl⟩
 | [],_::_,k,h=>by cases h
 | c::cs,[],k,h=>by simp [fO] at h
 | c::cs,d::ds,k,h=>by
  cases c<;>cases d<;>simp only [fO] at h<;>first | (cases h;done) | skip
  case int.int ik p jk q=>
   obtain ⟨b0,h0⟩:=cO h
   obtain ⟨r,h1,h2⟩:=kB h0
   exact ⟨_,h1,fun k'=>by simp only [fO,b0,aL,h2]⟩
  case bool.bool p q=>
   obtain ⟨r,h1,h2⟩:=kB h
   exact ⟨_,h1,fun k'=>by simp only [fO,h2]⟩
  case str.str p q=>
   obtain ⟨r,h1,h2⟩:=kB h
   exact ⟨_,h1,fun k'=>by simp only [fO,h2]⟩
theorem Aa {op:BinOp}{t:TypeId}{x y:V}{k:V->aD}(h:binOp E op t x y k=some ans):∃v,k v=some ans/\∀k':V->aD,binOp E op t x y k'=k' v:=by
  cases x<;>first | (cases h;done) | skip
  case int ik a=>
    cases y<;>first | (cases h;done) | skip
    rename_i jk b
    cases op
    case shl=>
      simp only [binOp,Bt] at h
      by_cases hb:b<0
      · simp [hb] at h
      · simp only [hb,decide_false,aT] at h
        exact ⟨_,h,fun k'=>by simp only [binOp,Bt,hb,decide_false,aT]⟩
    case shr=>
      simp only [binOp,Be] at h
      by_cases hb:b<0
      · simp [hb] at h
      · simp only [hb,decide_false,aT] at h
        exact ⟨_,h,fun k'=>by simp only [binOp,Be,hb,decide_false,aT]⟩
    all_goals
      simp only [binOp] at h
      cases hk:iN ik jk<;>simp only [hk,aL,aT] at h
      · cases h
      first
      | (simp only [nM] at h;exact ⟨_,h,fun k'=>by simp only [binOp,nM,hk,aL]⟩)
      | (by_cases hb:b=0
         · simp [hb,nM] at h
         · simp only [hb,nM,decide_false,aT] at h
           exact ⟨_,h,fun k'=>by simp only [binOp,nM,hk,aL,hb,decide_false,aT]⟩)
      | (simp only [nM] at h;cases h)
  case bool a=>
    cases y<;>first | (cases h;done) | skip
    simp only [binOp] at h
    cases hk:TI.isBool (E.T t)<;>simp only [hk,aL,aT] at h
    · cases h
    cases op<;>simp only at h<;>first
      | exact ⟨_,h,fun k'=>by simp only [binOp,hk,aL]⟩
      | cases h
  case agg cs=>
    cases y<;>first | (cases h;done) | skip
    rename_i ds
    simp only [binOp] at h
    obtain ⟨b0,h0⟩:=cO h
    cases op<;>simp only at h0<;>first
      | (obtain ⟨r,h1,h2⟩:=kB h0;exact ⟨_,h1,fun k'=>by simp only [binOp,b0,aL,h2]⟩)
      | cases h0
  case str a=>
    cases y<;>first | (cases h;done) | skip
    rename_i b
    simp only [binOp] at h
    cases op<;>simp only at h<;>first
      | exact ⟨_,h,fun k'=>by simp only [binOp]⟩
      | (by_cases hb:((a.size+b.size:Nat):Int)>9223372036854775807
         · simp only [hb,decide_true,aL] at h;cases h
         · simp only [hb,decide_false,aT] at h
           exact ⟨_,h,fun k'=>by simp only [binOp,hb,decide_false,aT]⟩)
      | cases h
theorem sx {fs:List (Nat×Nat)}{ρ:Operand->V}:∀{ps:List (Nat×Operand)} {cs:List V} {k:List V->aD},jJ E fs ρ ps cs k=some ans->∃cs',k cs'=some ans/\∀k':List V->aD,jJ E fs ρ ps cs k'=k' cs'
 | [],cs,k,h=>⟨cs,h,fun _=>rfl⟩
 | p::ps,cs,k,h=>by
  simp only [jJ] at h
  split at h
  ·cases h
  ·rename_i f hf
   obtain ⟨new,h1,h2⟩:=nX h
   cases hc:(Nat.beq new.length (E.cells f.2).length&&Nat.ble (f.1+new.length) cs.length)<;>simp only [hc,aL,aT] at h1
   ·cases h1
   obtain ⟨cs',h3,h4⟩:=sx h1
   exact ⟨cs',h3,fun k'=>by simp only [jJ,hf,h2,hc,aL,h4]⟩
theorem vF {e:Nat}{ρ:Operand->V}:∀{ps:List (Nat×Operand)} {j:Nat} {k:List V->aD},ru E e ρ ps j k=some ans->∃cs',k cs'=some ans/\∀k':List V->aD,ru E e ρ ps j k'=k' cs'
 | [],j,k,h=>⟨_,h,fun _=>rfl⟩
 | p::ps,j,k,h=>by
  simp only [ru] at h
  cases hj:Nat.beq p.1 j<;>simp only [hj,aL,aT] at h
  ·cases h
  obtain ⟨new,h1,h2⟩:=nX h
  cases hc:Nat.beq new.length (E.cells e).length<;>simp only [hc,aL,aT] at h1
  ·cases h1
  obtain ⟨cs',h3,h4⟩:=vF h1
  exact ⟨_,h3,fun k'=>by simp only [ru,hj,aL,h2,hc,h4]⟩
theorem Bc {u:Nat}{v:V}{k:V->List aK->aD}(h:tD E hp u v k=some ans):CD (fun hp0 k'=>tD E hp0 u v k') hp k ans:=by
  cases v
  case str s=>
    simp only [tD] at h
    cases hs:TI.isStr (E.T u)<;>simp only [hs,aL,aT] at h
    · cases h
    exact ⟨_,_,h,fun hp0 _ k'=>by simp only [tD,hs,aL]⟩
  all_goals
    simp only [tD] at h
    cases hu:(E.T u).bind TI.el with
    | none=>rw [hu] at h;cases h
    | some el=>
      rw [hu] at h
      simp only at h
      first
        | (obtain ⟨d,e,xs,h1,h2⟩:=jS h
           exact ⟨_,_,h1,fun hp0 hs k'=>by simp only [tD,hu,h2 hp0 hs]⟩)
        | exact ⟨_,_,h,fun hp0 hs k'=>by simp only [tD,hu]⟩
theorem fQ {ρ:Operand->V}{b:Option Operand}{d:Int}{k:Int->aD}(h:gy ρ b d k=some ans):∃n,k n=some ans/\∀k':Int->aD,gy ρ b d k'=k' n:=by
 unfold gy at h
 split at h
 ·exact ⟨_,h,fun _=>rfl⟩
 ·rename_i x
  split at h
  ·rename_i ik n he
   exact ⟨_,h,fun _=>by simp only [gy,he]⟩
  ·cases h
theorem yh {t:Nat}{ρ:Operand->V}{x:Operand}{lo hi mx:Option Operand}{k:V->List aK->aD}(h:gE E hp t ρ x lo hi mx k=some ans):CD (fun hp0 k'=>gE E hp0 t ρ x lo hi mx k') hp k ans:=by
 have nilcase:ρ x=.nil->CD (fun hp0 k'=>gE E hp0 t ρ x lo hi mx k') hp k ans:=by
  intro hx
  simp only [gE,hx] at h
  cases hu:(E.T t).bind TI.el with
  | none=>rw [hu] at h;cases h
  | some el=>
   rw [hu] at h
   simp only at h
   cases mx with
   | none=>
    simp only at h
    obtain ⟨l,h1,h2⟩:=fQ h
    obtain ⟨g,h3,h4⟩:=fQ h1
    obtain ⟨b1,h5⟩:=cO h3
    obtain ⟨b2,h6⟩:=cO h5
    exact ⟨_,_,h6,fun hp0 _ k'=>by simp only [gE,hx,hu,h2,h4,b1,b2,aL]⟩
   | some m=>
    simp only at h
    cases lo with
    | some _=>cases h
    | none=>
     simp only at h
     cases hi with
     | none=>cases h
     | some g=>
      simp only at h
      obtain ⟨l,h1,h2⟩:=fQ h
      obtain ⟨g,h3,h4⟩:=fQ h1
      obtain ⟨b1,h5⟩:=cO h3
      obtain ⟨b2,h6⟩:=cO h5
      exact ⟨_,_,h6,fun hp0 _ k'=>by simp only [gE,hx,hu,h2,h4,b1,b2,aL]⟩
 have strcase:∀s,ρ x=.str s->CD (fun hp0 k'=>gE E hp0 t ρ x lo hi mx k') hp k ans:=by
  intro s hx
  simp only [gE,hx] at h
  obtain ⟨b0,h0⟩:=cO h
  cases mx with
  | some _=>cases h0
  | none=>
   simp only at h0
   obtain ⟨l,h1,h2⟩:=fQ h0
   obtain ⟨g,h3,h4⟩:=fQ h1
   obtain ⟨b1,h5⟩:=cO h3
   obtain ⟨b2,h6⟩:=cO h5
   obtain ⟨b3,h7⟩:=cO h6
   exact ⟨_,_,h7,fun hp0 _ k'=>by simp only [gE,hx,b0,h2,h4,b1,b2,b3,aL]⟩
 have rest:∀v,ρ x=v->v≠.nil->(∀s,v≠.str s)->CD (fun hp0 k'=>gE E hp0 t ρ x lo hi mx k') hp k ans:=by
  intro v hx hn hs
  cases hu:(E.T t).bind TI.el with
  | none=>cases v<;>first | exact (hn rfl).elim | exact (hs _ rfl).elim | exact absurd h (by simp [gE,hx,hu])
  | some el=>
   have key:∀{hp0:Nat->aK} {k':V->List aK->aD},gE E hp0 t ρ x lo hi mx k'=gx E hp0 v (lQ ρ el lo hi mx k'):=by
    intro hp0 k'
    cases v<;>first | exact (hn rfl).elim | exact (hs _ rfl).elim | simp only [gE,hx,hu]
   rw [key] at h
   obtain ⟨d,e,xs,h1,h2⟩:=jS h
   obtain ⟨b0,h3⟩:=cO (show (cond (Nat.beq e el) _ none)=some ans from h1)
   cases mx with
   | none=>
    simp only at h3
    obtain ⟨l,g1,g2⟩:=fQ h3
    obtain ⟨g,g3,g4⟩:=fQ g1
    obtain ⟨b1,h5⟩:=cO g3
    obtain ⟨b2,h6⟩:=cO h5
    obtain ⟨b3,h7⟩:=cO h6
    exact ⟨_,_,h7,fun hp0 hs' k'=>by simp only [key];simp only [h2 hp0 hs',lQ,b0,g2,g4,b1,b2,b3,aL]⟩
   | some m=>
    simp only at h3
    cases lo with
    | some _=>cases h3
    | none=>
     simp only at h3
     cases hi with
     | none=>cases h3
     | some g=>
      simp only at h3
      obtain ⟨l,g1,g2⟩:=fQ h3
      obtain ⟨g,g3,g4⟩:=fQ g1
      obtain ⟨b1,h5⟩:=cO g3
      obtain ⟨b2,h6⟩:=cO h5
      exact ⟨_,_,h6,fun hp0 hs' k'=>by simp only [key];simp only [h2 hp0 hs',lQ,b0,g2,g4,b1,b2,aL]⟩
 cases hx:ρ x with
 | nil=>exact nilcase hx
 | str s=>exact strcase s hx
 | _=>exact rest _ hx (by simp) (by simp)
theorem zq {src dst:Nat}{v:V}{k:V->List aK->aD}(h:kQ E hp src dst v k=some ans):CD (fun hp0 k'=>kQ E hp0 src dst v k') hp k ans:=by
  cases v
  case int ik n=>
    simp only [kQ] at h
    cases hs:E.T src with
    | none=>rw [hs] at h;cases h
    | some _=>
      rw [hs] at h
      cases hd:E.T dst with
      | none=>rw [hd] at h;cases h
      | some i=>
        rw [hd] at h
        simp only at h
        cases ha:i.agg<;>simp only [ha,aL,aT] at h
        · split at h
          · rename_i jk hc
            exact ⟨_,_,h,fun hp0 _ k'=>by simp only [kQ,hs,hd,ha,aT,hc]⟩
          · cases h
        · cases h
  case str s=>
    simp only [kQ] at h
    cases hs:TI.isStr (E.T src)<;>simp only [hs,aL,aT] at h
    · cases h
    cases hd:TI.isStr (E.T dst)<;>simp only [hd,aL,aT] at h
    · cases hu:(E.T dst).bind TI.el with
      | none=>rw [hu] at h;cases h
      | some el=>
        rw [hu] at h
        simp only at h
        obtain ⟨b0,h1⟩:=cO h
        exact ⟨_,_,h1,fun hp0 _ k'=>by simp only [kQ,hs,hd,hu,b0,aL,aT]⟩
    · exact ⟨_,_,h,fun hp0 _ k'=>by simp only [kQ,hs,hd,aL]⟩
  all_goals
    simp only [kQ] at h
    cases hu:(E.T src).bind TI.el with
    | none=>rw [hu] at h;cases h
    | some el=>
      rw [hu] at h
      simp only at h
      obtain ⟨b0,h0⟩:=cO h
      first
        | (obtain ⟨d,e,xs,h1,h2⟩:=jS h0
           obtain ⟨b1,h3⟩:=cO h1
           exact ⟨_,_,h3,fun hp0 hs k'=>by simp only [kQ,hu,b0,h2 hp0 hs,b1,aL]⟩)
        | exact ⟨_,_,h0,fun hp0 hs k'=>by simp only [kQ,hu,b0,aL]⟩
theorem kU {o:Op}{ρ:Operand->V}{nx:Nat}{k:V->List aK->aD}(h:aX E o ρ hp nx k=some ans):CD (fun hp0 k'=>aX E o ρ hp0 nx k') hp k ans:=by
 cases o<;>first | (simp only [aX] at h;cases h;done) | skip
 case move x=>exact ⟨_,_,h,fun _ _ _=>rfl⟩
 case assign x=>exact ⟨_,_,h,fun _ _ _=>rfl⟩
 case nilCheck x=>
  simp only [aX] at h
  split at h
  ·rename_i hx;exact ⟨_,_,h,fun hp0 _ k'=>by simp only [aX,hx]⟩
  ·rename_i hx;exact ⟨_,_,h,fun hp0 _ k'=>by simp only [aX,hx]⟩
  ·rename_i hx;exact ⟨_,_,h,fun hp0 _ k'=>by simp only [aX,hx]⟩
  ·cases h
 case slice t x lo hi mx=>simp only [aX] at h ⊢;exact yh h
 case convert s d x=>simp only [aX] at h ⊢;exact zq h
 case pick c a b=>
  simp only [aX] at h
  split at h
  ·rename_i t ht
   cases t with
   | true=>exact ⟨_,_,h,fun hp0 _ k'=>by simp only [aX,ht,aL]⟩
   | false=>exact ⟨_,_,h,fun hp0 _ k'=>by simp only [aX,ht,aT]⟩
  ·cases h
 case unOp op t x=>
  cases op<;>first | (simp only [aX] at h;cases h;done) | skip
  all_goals
   simp only [aX] at h
   split at h
   ·rename_i hx
    exact ⟨_,_,h,fun hp0 _ k'=>by simp only [aX,hx]⟩
   ·cases h
 case binOp op t x y ty=>
  simp only [aX] at h
  obtain ⟨v,h1,h2⟩:=Aa h
  exact ⟨_,_,h1,fun hp0 _ k'=>by simp only [aX,h2]⟩
 case alloc t=>
  simp only [aX] at h
  split at h
  ·rename_i i ht
   exact ⟨_,_,h,fun hp0 _ k'=>by simp only [aX,ht]⟩
  ·cases h
 case box t x=>
  simp only [aX] at h
  split at h
  ·rename_i i ht
   obtain ⟨cs,h1,h2⟩:=nX h
   exact ⟨_,_,h1,fun hp0 _ k'=>by simp only [aX,ht,h2]⟩
  ·cases h
 case fieldAddr t x f=>
  simp only [aX] at h
  split at h
  ·cases h
  rename_i i ht
  split at h
  ·cases h
  rename_i p hp
  split at h
  ·rename_i hx;exact ⟨_,_,h,fun hp0 _ k'=>by simp only [aX,ht,hp,hx]⟩
  ·rename_i hx;exact ⟨_,_,h,fun hp0 _ k'=>by simp only [aX,ht,hp,hx]⟩
  ·rename_i hx;exact ⟨_,_,h,fun hp0 _ k'=>by simp only [aX,ht,hp,hx]⟩
  ·cases h
 case field t x f=>
  simp only [aX] at h
  split at h
  ·cases h
  rename_i i ht
  split at h
  ·cases h
  rename_i p hp
  split at h
  ·rename_i cs hx
   split at h
   ·rename_i fi hfi
    cases hb:Nat.ble (p.1+fi.cells.length) cs.length<;>simp only [hb,aL,aT] at h
    ·cases h
    exact ⟨_,_,h,fun hp0 _ k'=>by simp only [aX,ht,hp,hx,hfi,hb,aL]⟩
   ·cases h
  ·cases h
 case load t x=>
  simp only [aX] at h
  split at h
  ·cases h
  rename_i i ht
  split at h
  ·rename_i r q hx
   split at h
   ·rename_i cs hr
    cases hb:Nat.ble (q+i.cells.length) cs.length<;>simp only [hb,aL,aT] at h
    ·cases h
    exact ⟨_,_,h,fun hp0 hs k'=>by simp only [aX,ht,hx,hs.row hr (by simp),hb,aL]⟩
   ·cases h
  ·rename_i r sz j q hx
   split at h
   ·rename_i e xs hr
    cases hb:(Nat.beq sz (E.cells e).length&&Nat.ble (q+i.cells.length) sz)<;>simp only [hb,aL,aT] at h
    ·cases h
    cases hmt:(E.mt&&!dz (cut (E.cells e) q i.cells.length))<;>simp only [hmt,aL,aT] at h
    case true=>
     split at h
     ·rename_i e' hcut
      cases ha:i.agg<;>simp only [ha,aL,aT] at h
      ·have hmt':(E.mt&&!dz [K.sl e'])=true:=by rw [hcut] at hmt;exact hmt
       exact ⟨_,_,h,fun hp0 hs k'=>by simp only [aX,ht,hx,hs.row hr (by simp),hb,aL,hcut,hmt',ha,aT]⟩
      ·cases h
     ·cases h
    exact ⟨_,_,h,fun hp0 hs k'=>by simp only [aX,ht,hx,hs.row hr (by simp),hb,aL,hmt,aT]⟩
   ·rename_i e xs j0 cs hr
    cases hb:(Nat.beq j j0&&(Nat.beq sz (E.cells e).length&&Nat.ble (q+i.cells.length) sz))<;>simp only [hb,aL,aT] at h
    ·cases h
    cases hmt:(!dz (cut (E.cells e) q i.cells.length))<;>simp only [hmt,aL,aT] at h
    case true=>
     split at h
     ·rename_i e' hcut
      cases ha:i.agg<;>simp only [ha,aL,aT] at h
      ·have hmt':(!dz [K.sl e'])=true:=by rw [hcut] at hmt;exact hmt
       exact ⟨_,_,h,fun hp0 hs k'=>by simp only [aX,ht,hx,hs.row hr (by simp),hb,aL,hcut,hmt',ha,aT]⟩
      ·cases h
     ·cases h
    exact ⟨_,_,h,fun hp0 hs k'=>by simp only [aX,ht,hx,hs.row hr (by simp),hb,aL,hmt,aT]⟩
   ·cases h
  ·rename_i d es cs q hx
   cases hb:Nat.ble (q+i.cells.length) es.length<;>simp only [hb,aL,aT] at h
   ·cases h
   exact ⟨_,_,h,fun hp0 hs k'=>by simp only [aX,ht,hx,hb,aL]⟩
  ·cases h
 case indexAddr t x i=>
  simp only [aX] at h
  split at h
  ·cases h
  rename_i el hel
  split at h
  ·rename_i ik n hi
   split at h
   ·rename_i r hx
    split at h
    ·rename_i e xs hr
     cases hb:Nat.beq e el<;>simp only [hb,aL,aT] at h
     ·cases h
     by_cases h0:0<=n
     ·by_cases h1:n<(xs.length:Int)
      ·simp only [h0,h1,decide_true,aL] at h
       exact ⟨_,_,h,fun hp0 hs k'=>by simp only [aX,hel,hi,hx,hs.row hr (by simp),hb,aL,h0,h1,decide_true]⟩
      ·simp [h0,h1] at h
     ·simp [h0] at h
    ·rename_i e xs j0 cs hr
     cases hb:Nat.beq e el<;>simp only [hb,aL,aT] at h
     ·cases h
     by_cases h0:0<=n
     ·by_cases h1:n<(xs.length:Int)
      ·simp only [h0,h1,decide_true,aL] at h
       exact ⟨_,_,h,fun hp0 hs k'=>by simp only [aX,hel,hi,hx,hs.row hr (by simp),hb,aL,h0,h1,decide_true]⟩
      ·simp [h0,h1] at h
     ·simp [h0] at h
    ·rename_i e xs j0 cs hr
     cases hb:Nat.beq e el<;>simp only [hb,aL,aT] at h
     ·cases h
     by_cases h0:0<=n
     ·by_cases h1:n<(xs.length:Int)
      ·simp only [h0,h1,decide_true,aL] at h
       exact ⟨_,_,h,fun hp0 hs k'=>by simp only [aX,hel,hi,hx,hs.row hr (by simp),hb,aL,h0,h1,decide_true]⟩
      ·simp [h0,h1] at h
     ·simp [h0] at h
    ·rename_i e xs hr
     cases hb:Nat.beq e el<;>simp only [hb,aL,aT] at h
     ·cases h
     by_cases h0:0<=n
     ·by_cases h1:n<(xs.length:Int)
      ·simp only [h0,h1,decide_true,aL] at h
       exact ⟨_,_,h,fun hp0 hs k'=>by simp only [aX,hel,hi,hx,hs.row hr (by simp),hb,aL,h0,h1,decide_true]⟩
      ·simp [h0,h1] at h
     ·simp [h0] at h
    ·cases h
   ·rename_i hne
    obtain ⟨d,e,xs,h1,h2⟩:=jS h
    cases hb:Nat.beq e el<;>simp only [hb,aL,aT] at h1
    ·cases h1
    by_cases g0:0<=n
    ·by_cases g1:n<(xs.length:Int)
     ·simp only [g0,g1,decide_true,aL] at h1
      refine ⟨_,_,h1,fun hp0 hs k'=>?_⟩
      have hF:(cond (Nat.beq e el) (cond (decide (0<=n)) (cond (decide (n<(xs.length:Int))) (k' (.cL d (E.cells e) (xs.getD n.toNat []) 0) []) none) none) none)=k' (.cL d (E.cells e) (xs.getD n.toNat []) 0) []:=by
       simp only [hb,aL,g0,g1,decide_true]
      refine Eq.trans ?_ ((h2 hp0 hs (fun d e xs=>bif Nat.beq e el then (cond (decide (0<=n)) (cond (decide (n<(xs.length:Int))) (k' (.cL d (E.cells e) (xs.getD n.toNat []) 0) []) none) none) else none)).trans hF)
      simp only [aX,hel,hi]
     ·simp [g0,g1] at h1
    ·simp [g0] at h1
  ·cases h
 case index t x i=>
  simp only [aX] at h
  cases hs:TI.isStr (E.T t)<;>simp only [hs,Bool.not_true,Bool.not_false,aL,aT] at h
  ·cases h
  split at h
  ·rename_i ik n hi
   split at h
   ·rename_i s hx
    by_cases h0:0<=n
    ·by_cases h1:n<(s.size:Int)
     ·simp only [h0,h1,decide_true,aL] at h
      exact ⟨_,_,h,fun hp0 _ k'=>by simp only [aX,hs,hi,hx,h0,h1,decide_true,aL,Bool.not_true,aT]⟩
     ·simp [h0,h1] at h
    ·simp [h0] at h
   ·cases h
  ·cases h
 case extract x i=>
  simp only [aX] at h
  split at h
  ·rename_i vs hx
   split at h
   ·rename_i v hv
    exact ⟨_,_,h,fun hp0 _ k'=>by simp only [aX,hx,hv]⟩
   ·cases h
  ·cases h
 case build t ps=>
  simp only [aX] at h
  split at h
  ·rename_i i ht
   cases ha:i.agg<;>simp only [ha,aL,aT] at h
   ·cases h
   obtain ⟨cs,h1,h2⟩:=sx h
   exact ⟨_,_,h1,fun hp0 _ k'=>by simp only [aX,ht,ha,aL,h2]⟩
  ·cases h
 case buildSlice t n ps=>
  simp only [aX] at h
  split at h
  ·rename_i el hel
   cases hn:Nat.beq n ps.size<;>simp only [hn,aL,aT] at h
   ·cases h
   cases n with
   | zero=>exact ⟨_,_,h,fun hp0 _ k'=>by simp only [aX,hel,hn,aL]⟩
   | succ n=>
    simp only at h
    obtain ⟨cs,h1,h2⟩:=vF h
    cases hl:Nat.ble cs.length 16777216<;>simp only [hl,aL,aT] at h1
    ·cases h1
    cases hap:dz (E.cells el)<;>simp only [hap,aL,aT] at h1
    ·exact ⟨_,_,h1,fun hp0 _ k'=>by simp only [aX,hel,hn,aL,aT,h2,hl,hap]⟩
    ·obtain ⟨xs,h3,h4⟩:=oV h1
     exact ⟨_,_,h3,fun hp0 hs k'=>by simp only [aX,hel,hn,aL,h2,hl,hap,h4 hp0 hs]⟩
  ·cases h
 case makeSlice t x y=>
  simp only [aX] at h
  split at h
  ·rename_i el hel
   split at h
   ·rename_i n hx
    split at h
    ·rename_i m hy
     by_cases h0:0<=n
     ·by_cases h1:n<=m
      ·by_cases h2:m*(E.bytes el:Int)<=140737488355328
       ·simp only [h0,h1,h2,decide_true,aL] at h
        exact ⟨_,_,h,fun hp0 _ k'=>by simp only [aX,hel,hx,hy,h0,h1,h2,decide_true,aL]⟩
       ·simp [h0,h1,h2] at h
      ·simp [h0,h1] at h
     ·simp [h0] at h
    ·cases h
   ·cases h
  ·cases h
 case makeFunc fn b caps=>
  cases fn<;>first | (simp only [aX] at h;cases h;done) | skip
  rename_i f
  simp only [aX] at h
  cases hb:(b.isEmpty&&(caps.toList.map ρ).all AD)<;>simp only [hb,aL,aT] at h
  ·cases h
  exact ⟨_,_,h,fun hp0 _ k'=>by simp only [aX,hb,aL]⟩
 case call c=>
  obtain ⟨callee,args,argTypes⟩:=c
  cases callee with
  | invoke r n=>simp only [aX] at h;cases h
  | value f=>
   simp only [aX] at h
   split at h
   ·rename_i g caps hf
    obtain ⟨v,rs,h1,h2⟩:=tX h
    exact ⟨v,rs,h1,fun hp0 hs k'=>by simp only [aX,hf];exact h2 hp0 hs k'⟩
   ·cases h
  | builtin b=>
   cases b<;>first | (simp only [aX] at h;cases h;done) | skip
   case len=>
    simp only [aX] at h
    split at h
    ·rename_i x hx
     split at h
     ·rename_i u hu
      obtain ⟨v,rs,h1,h2⟩:=Bc h
      exact ⟨v,rs,h1,fun hp0 hs k'=>by simp only [aX,hx,hu];exact h2 hp0 hs k'⟩
     ·cases h
    ·cases h
   case append=>
    simp only [aX] at h
    split at h
    ·rename_i x y hxy
     split at h
     ·rename_i t u htu
      obtain ⟨b0,h0⟩:=cO h
      split at h0
      ·rename_i el hel
       obtain ⟨b1,h1⟩:=cO h0
       split at h1
       ·rename_i hxn
        split at h1
        ·rename_i hyn
         exact ⟨_,_,h1,fun hp0 hs k'=>by simp only [aX,hxy,htu,b0,hel,b1,hxn,hyn,aL]⟩
        ·rename_i v hyn
         obtain ⟨d,e,ys,q1,q2⟩:=jS h1
         obtain ⟨b2,h2⟩:=cO q1
         refine ⟨_,_,h2,fun hp0 hs k'=>?_⟩
         have:=q2 hp0 hs
         cases hy:ρ y with
         | nil=>exact (hyn hy).elim
         | _=>
          rw [hy] at this
          simp only [aX,hxy,htu,b0,hel,b1,hxn,hy,aL,this,b2]
       ·cases h1
      ·cases h0
     ·cases h
    ·cases h
   all_goals
    simp only [aX] at h
    split at h
    ·rename_i x y hx
     split at h
     ·rename_i p hp
      split at h
      ·rename_i q hq
       exact ⟨_,_,h,fun hp0 hs k'=>by simp only [aX,hx,hp,hq]⟩
      ·cases h
     ·cases h
    ·cases h
end
end Go.DM
set_option linter.unusedSectionVars false
namespace Go.DM
def nF {α:Type}(a b:List α):Prop:=∀(i:Nat) (x:α),a[i]?=some x->b[i]?=some x
def nF.tail {α:Type}{a b:List α}(h:nF a b):nF a.tail b.tail:=fun i x hx=>by
 have:=h (i+1) x (by simpa using hx)
 simpa using this
def nF.refl {α:Type}(a:List α):nF a a:=fun _ _ h=>h
def nF.append {α:Type}(a b:List α):nF a (a++b):=fun i x hx=>by rw [List.getElem?_append_left (List.getElem?_eq_some_iff.1 hx).1];exact hx
def nF.take {α:Type}(a:List α)(n:Nat):nF (a.take n) a:=fun i x hx=>by
 rw [List.getElem?_take] at hx
 split at hx
 ·exact hx
 ·cases hx
def oo {sl:Nat->V}{D D':Nat->Bool}(hD:∀j,D j=true->D' j=true){t:Nat}:∀{hs:List Oper} {us us':List Out} {j:Nat},nF us us'->iB sl D hs us j t=.dead∨iB sl D hs us j t=iB sl D' hs us' j t
 | [],us,us',j,_=>.inr rfl
 | o::os,us,us',j,hb=>by
  simp only [iB]
  cases hd:o.dst with
  | none=>exact oo hD hb.tail
  | some d=>
   simp only
   cases ht:Nat.beq t d with
   | false=>exact oo hD hb.tail
   | true=>
    simp only [aL]
    cases hj:D j with
    | false=>exact .inl rfl
    | true=>
     simp only [aL,hD j hj]
     cases us with
     | nil=>exact .inl rfl
     | cons u us=>
      have:=hb 0 u rfl
      cases us' with
      | nil=>simp at this
      | cons u' us'=>simp at this;subst this;exact .inr rfl
def uf {sl:Nat->V}{D D':Nat->Bool}{t:Nat}:∀{hs:List Oper} {us:List Out} {j:Nat},(∀i,j<=i->D i=D' i)->iB sl D hs us j t=iB sl D' hs us j t
 | [],us,j,_=>rfl
 | o::os,us,j,h=>by
  have ih:=uf (sl:=sl) (D:=D) (D':=D') (t:=t) (hs:=os) (us:=us.tail) (j:=j+1) (fun i hi=>h i (by omega))
  simp only [iB,ih,h j (Nat.le_refl _)]
def lY {d:Nat}{o:Oper}(hd:o.dst=some d):∀{hs:List Oper} {i:Nat},hs[i]?=some o->d∈gV hs
 | [],i,h=>by simp at h
 | o'::hs,0,h=>by simp at h;subst h;simp [gV,hd]
 | o'::hs,i+1,h=>by
  have:=lY hd (hs:=hs) (i:=i) (by simpa using h)
  simp only [gV]
  cases o'.dst with
  | none=>exact this
  | some e=>simp [this]
def vA {sl:Nat->V}{D D':Nat->Bool}{o:Oper}{u:Out}{t:Nat}:∀{hs:List Oper} {us:List Out} {i j:Nat},dL (gV hs)=true->hs[i]?=some o->us[i]?=some u->D' (j+i)=true->(∀l,l≠j+i->D' l=D l)->
  iB sl D' hs us j t=if o.dst=some t then u.v else iB sl D hs us j t
 | [],us,i,j,_,h,_,_,_=>by simp at h
 | o'::os,us,0,j,hf,ho,hu,h1,h2=>by
  simp at ho
  subst ho
  cases us with
  | nil=>simp at hu
  | cons u' us=>
   simp at hu
   subst hu
   have ih:=uf (sl:=sl) (D:=D') (D':=D) (t:=t) (hs:=os) (us:=us) (j:=j+1) (fun i hi=>h2 i (by omega))
   have h1':D' j=true:=h1
   simp only [iB,List.tail_cons,ih,h1',vW]
   cases hd:o'.dst with
   | none=>simp
   | some d=>
    simp only [Option.some.injEq]
    cases hb:Nat.beq t d with
    | true=>rw [if_pos (Nat.eq_of_beq_eq_true hb).symm];rfl
    | false=>rw [if_neg (fun e=>by subst e;simp at hb)];rfl
 | o'::os,us,i+1,j,hf,ho,hu,h1,h2=>by
  have ho':os[i]?=some o:=by simpa using ho
  have hu':us.tail[i]?=some u:=by simpa using hu
  have hf':dL (gV os)=true:=by
   simp only [gV] at hf
   cases hd:o'.dst with
   | none=>rw [hd] at hf;exact hf
   | some d=>rw [hd] at hf;simp only [dL,Bool.and_eq_true] at hf;exact hf.2
  have ih:=vA (sl:=sl) (D:=D) (D':=D') (t:=t) (hs:=os) (us:=us.tail) (i:=i) (j:=j+1) hf' ho' hu' (by rw [show j+1+i=j+(i+1) by omega];exact h1) (fun l hl=>h2 l (by omega))
  simp only [iB,ih,h2 j (by omega)]
  cases hd:o'.dst with
  | none=>rfl
  | some d=>
   simp only
   cases hb:Nat.beq t d with
   | false=>rfl
   | true=>
    have e:=Nat.eq_of_beq_eq_true hb
    subst e
    simp only [aL]
    have hne:o.dst≠some t:=by
     intro he
     have hm:=lY he ho'
     simp only [gV,hd,dL,Bool.and_eq_true,List.all_eq_true] at hf
     have:=hf.1 t hm
     simp at this
    rw [if_neg hne]
def A9 {j l:Nat}:∀{us us':List Out},nF us us'->uW us j l=.dead∨uW us j l=uW us' j l:=by
 induction j with
 | zero=>
  intro us us' hb
  cases us with
  | nil=>exact .inl rfl
  | cons u us=>
   have:=hb 0 u rfl
   cases us' with
   | nil=>simp at this
   | cons u' us'=>simp at this;subst this;exact .inr rfl
 | succ j ih=>
  intro us us' hb
  cases us with
  | nil=>exact .inl rfl
  | cons u us=>
   have:=hb 0 u rfl
   cases us' with
   | nil=>simp at this
   | cons u' us'=>exact ih hb.tail
def rE {hp:Nat->aK}{nx:Nat}{D D':Nat->Bool}{us us':List Out}(hD:∀j,D j=true->D' j=true)(hb:nF us us'):Sub (jU hp nx D us) (jU hp nx D' us'):=fun r=>by
 unfold jU
 cases Nat.blt r nx with
 | true=>exact .inl rfl
 | false=>
  simp only [aT]
  cases hj:D ((r - nx) / 64) with
  | false=>exact .inr rfl
  | true=>
   simp only [hD _ hj,aL]
   rcases A9 (j:=(r - nx) / 64) (l:=(r - nx) % 64) hb with h | h
   ·exact .inr h
   ·exact .inl h
def rO {u:Out}{l:Nat}:∀{us:List Out} {i:Nat},us[i]?=some u->uW us i l=zF u.rs l
 | [],i,h=>by simp at h
 | u'::us,0,h=>by simp at h;subst h;rfl
 | u'::us,i+1,h=>rO (us:=us) (i:=i) (by simpa using h)
def vG:∀{rs:List aK} {l:Nat} {o:aK},rs[l]?=some o->zF rs l=o
 | [],l,o,h=>by simp at h
 | r::rs,0,o,h=>by simp at h;exact h
 | r::rs,l+1,o,h=>vG (rs:=rs) (l:=l) (by simpa using h)
def uz:∀{rs:List aK} {l:Nat},rs.length<=l->zF rs l=.dead
 | [],l,h=>rfl
 | r::rs,0,h=>by simp at h
 | r::rs,l+1,h=>uz (rs:=rs) (l:=l) (by simpa using h)
def vi {hp:Nat->aK}{nx i:Nat}{D D':Nat->Bool}{us:List Out}{u:Out}(hu:us[i]?=some u)(hl:u.rs.length<=64)(h0:D i=false)(h1:D' i=true)(h2:∀l,l≠i->D' l=D l) :
  jU hp nx D' us=dA (jU hp nx D us) (nx+64*i) u.rs:=by
 funext r
 by_cases hr:r<nx
 ·rw [dc _ _ _ _ (.inl (by omega))]
  simp [jU,Nat.blt_eq.mpr hr]
 ·have hb:Nat.blt r nx=false:=by
   cases h:Nat.blt r nx with
   | false=>rfl
   | true=>exact absurd (Nat.blt_eq.mp h) hr
  have hdm:=Nat.div_add_mod (r - nx) 64
  have hmod:=Nat.mod_lt (r - nx) (show 0<64 by omega)
  by_cases hj:(r - nx) / 64=i
  ·have hlhs:jU hp nx D' us r=zF u.rs ((r - nx) % 64):=by simp only [jU,hb,aT,hj,h1,aL,rO hu]
   rw [hlhs]
   by_cases hlt:(r - nx) % 64<u.rs.length
   ·have hg:=List.getElem?_eq_getElem hlt
    rw [vG hg]
    have:=iw u.rs (jU hp nx D us) (nx+64*i) ((r - nx) % 64) _ hg
    rw [show nx+64*i+(r - nx) % 64=r by rw [hj] at hdm;omega] at this
    exact this.symm
   ·rw [uz (by omega),dc _ _ _ _ (.inr (by rw [hj] at hdm;omega))]
    simp only [jU,hb,aT,hj,h0]
  ·rw [dc _ _ _ _ (by
    rcases Nat.lt_or_gt_of_ne hj with h | h
    ·exact .inl (by omega)
    ·exact .inr (by omega))]
   simp only [jU,hb,aT,h2 _ hj]
def ug {v:V}:∀{us:List Out} {j:Nat},(∀u,us[j]?=some u->u.v=v)->Ay us j v=us
 | [],_,_=>rfl
 | u::us,0,h=>by
  have:=h u rfl
  simp only [Ay];rw [<-this]
 | u::us,j+1,h=>by
  simp only [Ay]
  rw [ug (us:=us) (j:=j) fun u hu=>h u (by simpa using hu)]
def tu {sl:Nat->V}{D:Nat->Bool}{o:Oper}{u:Out}{d:Nat}(hd:o.dst=some d):∀{hs:List Oper} {us:List Out} {i j:Nat},dL (gV hs)=true->hs[i]?=some o->us[i]?=some u->
  iB sl D hs us j d=bif D (j+i) then u.v else .dead
 | [],us,i,j,_,h,_=>by simp at h
 | o'::os,us,0,j,hf,ho,hu=>by
  simp at ho
  subst ho
  cases us with
  | nil=>simp at hu
  | cons u' us=>
   simp at hu
   subst hu
   simp [iB,hd,vW]
 | o'::os,us,i+1,j,hf,ho,hu=>by
  have ho':os[i]?=some o:=by simpa using ho
  have hu':us.tail[i]?=some u:=by simpa using hu
  have hf':dL (gV os)=true:=by
   simp only [gV] at hf
   cases hd':o'.dst with
   | none=>rw [hd'] at hf;exact hf
   | some d=>rw [hd'] at hf;simp only [dL,Bool.and_eq_true] at hf;exact hf.2
  have ih:=tu (sl:=sl) (D:=D) hd (hs:=os) (us:=us.tail) (i:=i) (j:=j+1) hf' ho' hu'
  rw [show j+1+i=j+(i+1) by omega] at ih
  simp only [iB]
  cases hd':o'.dst with
  | none=>exact ih
  | some e=>
   simp only
   cases hb:Nat.beq d e with
   | false=>exact ih
   | true=>
    have e1:=Nat.eq_of_beq_eq_true hb
    subst e1
    have hm:=lY hd ho'
    simp only [gV,hd',dL,Bool.and_eq_true,List.all_eq_true] at hf
    have:=hf.1 d hm
    simp at this
def wK {all hs:List Oper}{sl:Nat->V}{D:Nat->Bool}{us:List Out}{kn:Option (Nat×Nat×Bool)}(hf:dL (gV hs)=true)(hb:nF hs all)(hl:us.length<=hs.length)(h:yG all (iB sl D hs us 0) kn):qm us kn=us:=by
 match kn with
 | none=>rfl
 | some (j,d,t)=>
  simp only [qm]
  refine ug fun u hu=>?_
  obtain ⟨h1,o,ho,hd⟩:=h j d t rfl
  have hj:j<hs.length:=by have:=(List.getElem?_eq_some_iff.1 hu).1;omega
  have ho':hs[j]?=some o:=by
   have h2:=List.getElem?_eq_getElem hj
   have h3:=hb j _ h2
   rw [ho] at h3;injection h3 with h3;rw [h3];exact h2
  rw [tu hd hf ho' hu] at h1
  cases hD:D (0+j) with
  | false=>rw [hD] at h1;cases h1
  | true=>rw [hD] at h1;exact h1
def oE (E:Env)(all hs:List Oper)(bs:List Nat)(sl:Nat->V)(hp:Nat->aK)(nx i:Nat)(o:Oper)(u:Out)(pre:List Out):Prop:=
 ∃(t:Bool) (kn:Option (Nat×Nat×Bool)),(∀k':Bool->Option (Nat×Nat×Bool)->aD,guarded E.nt all (iB sl (bs.getD i 0).testBit hs pre 0) o.guard k'=k' t kn)/\
  (t=true->u.rs.length<=64/\∀hp0,Sub (jU hp nx (bs.getD i 0).testBit pre) hp0->∀k',aX E o.op (cC E.nt (iB sl (bs.getD i 0).testBit hs pre 0)) hp0 (nx+64*i) k'=k' u.v u.rs)/\(t=false->u=⟨.undef,[]⟩)
def kD {E:Env}{all hs:List Oper}{bs:List Nat}{sl:Nat->V}{hp:Nat->aK}{nx:Nat}{ans:List L}:∀{os:List Oper} {i:Nat} {us:List Out} {k:List Out->aD},dL (gV hs)=true->nF hs all->i+os.length<=hs.length->us.length=i->kf E all hs bs sl hp nx os i us k=some ans->
  ∃us',k us'=some ans/\us'.length=i+os.length/\nF us us'/\∀(l:Nat) (o:Oper),os[l]?=some o->∃u,us'[i+l]?=some u/\oE E all hs bs sl hp nx (i+l) o u (us'.take (i+l))
 | [],i,us,k,_,_,_,hl,h=>⟨us,h,by simp [hl],nF.refl us,fun l o ho=>by simp at ho⟩
 | o::os,i,us,k,hfr,hbg,hlen,hl,h=>by
  simp only [kf] at h
  obtain ⟨t,kn,h1,hk,h2⟩:=mw h
  rw [wK hfr hbg (by simp only [List.length_cons] at hlen;omega) hk] at h1
  have fin:∀(u:Out),kf E all hs bs sl hp nx os (i+1) (us++[u]) k=some ans->oE E all hs bs sl hp nx i o u us->
    ∃us',k us'=some ans/\us'.length=i+(o::os).length/\nF us us'/\∀(l:Nat) (o':Oper),(o::os)[l]?=some o'->∃u,us'[i+l]?=some u/\oE E all hs bs sl hp nx (i+l) o' u (us'.take (i+l)):=by
   intro u hr hok
   obtain ⟨us',g1,g2,g3,g4⟩:=kD hfr hbg (by simp only [List.length_cons] at hlen;omega) (by simp [hl]) hr
   refine ⟨us',g1,by simp [g2];omega,fun j x hx=>g3 j x (nF.append us [u] j x hx),fun l o' ho'=>?_⟩
   cases l with
   | zero=>
    simp at ho'
    subst ho'
    refine ⟨u,g3 i u (by rw [<-hl];simp),?_⟩
    have :us'.take (i+0)=us:=by
     apply List.ext_getElem?
     intro j
     rw [Nat.add_zero,List.getElem?_take]
     by_cases hj:j<i
     ·rw [if_pos hj]
      have hju:=List.getElem?_eq_getElem (show j<us.length by omega)
      rw [hju];exact g3 j _ (nF.append us [u] j _ hju)
     ·rw [if_neg hj,List.getElem?_eq_none (by omega)]
    rw [this];exact hok
   | succ l=>
    have:=g4 l o' (by simpa using ho')
    rw [show i+1+l=i+(l+1) by omega] at this
    exact this
  cases t<;>simp only [aL,aT] at h1
  ·exact fin _ h1 ⟨false,kn,h2,fun h=>(by cases h),fun _=>rfl⟩
  ·obtain ⟨v,rs,h3,h4⟩:=kU h1
   cases hle:Nat.ble rs.length 64<;>simp only [hle,aL,aT] at h3
   ·cases h3
   exact fin ⟨v,rs⟩ h3 ⟨true,kn,h2,fun _=>⟨Nat.le_of_ble_eq_true hle,h4⟩,fun h=>(by cases h)⟩
def HI (E:Env)(w0:World)(M:Mem E.np)(Z0:Nat->Prop)(s:St)(hs:List Oper)(us:List Out)(D:Nat->Bool)(a:Act)(w:World):Prop:=
 ∃A,Hp E.cells w0 M A (jU s.hp s.nx D us) w/\(∀i x,a.tmps[i]?=some x->V2 E.cells w A (iB s.sl D hs us 0 i) x)/\(∀r,A.al r->r<s.nx∨∃j,D j=true/\s.nx+64*j<=r/\r<s.nx+64*j+64)/\a.defers=[]/\a.tmps.size=E.nt/\A.Z=Z0/\F2 (V2 E.cells w A) s.fr M.sv
section
variable {P:Program} {E:Env} {w0:World} {M:Mem E.np} {Z0:Nat->Prop} {ans:List L}
open Classical in
theorem nh (hT:∀t i,E.T t=some i->fN P E t i)(hG:∀g c,c∈E.G g->Valid P E g c){ops:Array Oper}{hs:List Oper}{bs:List Nat}{s:St}{us:List Out}{D D':Nat->Bool}{a:Act}{w:World}{i:Nat}{o:Oper}{u:Out}
  (hf:dL (gV hs)=true) (hi:HI E w0 M Z0 s hs us D a w) (ho:hs[i]?=some o) (hops:ops[i]?=some o) (hu:us[i]?=some u) (h0:D i=false) (h1:D' i=true) (h2:∀l,l≠i->D' l=D l)
  (hanc:∀j,(bs.getD i 0).testBit j=true->D j=true) (hok:oE E ops.toList hs bs s.sl s.hp s.nx i o u (us.take i)) {K:Act->World->Prop} {Q:Exit->Act->World->Prop}
  (hK:∀a' w',HI E w0 M Z0 s hs us D' a' w'->K a' w'):wpOp P ops Q i K a w:=by
 obtain ⟨A,hh,tm,al,df,sz,hz,hfr⟩:=hi
 obtain ⟨t,kn,g1,g2,g3⟩:=hok
 have hbeg:=nF.take us i
 have tm':∀i' x,a.tmps[i']?=some x->V2 E.cells w A (iB s.sl (bs.getD i 0).testBit hs (us.take i) 0 i') x:=by
  intro i' x hx
  rcases oo (sl:=s.sl) (hs:=hs) (j:=0) (t:=i') hanc hbeg with h | h
  ·rw [h];exact trivial
  ·rw [h];exact tm i' x hx
 have hput:∀i',iB s.sl D' hs us 0 i'=if o.dst=some i' then u.v else iB s.sl D hs us 0 i':=fun i'=>vA (t:=i') hf ho hu (by rw [Nat.zero_add];exact h1) (fun l hl=>h2 l (by rw [Nat.zero_add] at hl;exact hl))
 have fin:∀(A':cy) (w':World) (cv:Value),Hp E.cells w0 M A' (jU s.hp s.nx D' us) w'->(∀i' x,a.tmps[i']?=some x->V2 E.cells w' A' (iB s.sl D hs us 0 i') x)->V2 E.cells w' A' u.v cv->
   (∀r,A'.al r->A.al r∨(s.nx+64*i<=r/\r<s.nx+64*i+64))->A'.Z=A.Z->F2 (V2 E.cells w' A') s.fr M.sv->HI E w0 M Z0 s hs us D' (a.put o.dst cv) w':=by
  intro A' w' cv e1 e2 e3 e4 e5 e6
  refine ⟨A',e1,fun i' x hx=>?_,fun r hr=>?_,?_,?_,e5.trans hz,e6⟩
  ·rw [hput]
   cases hd:o.dst with
   | none=>
    rw [hd] at hx
    rw [if_neg (by simp)]
    exact e2 i' x hx
   | some d=>
    rw [hd] at hx
    simp only [Act.put] at hx
    rw [Array.getElem?_setIfInBounds] at hx
    by_cases hdi:d=i'
    ·subst hdi
     rw [if_pos rfl]
     split at hx
     ·split at hx
      ·injection hx with hx;subst hx;exact e3
      ·cases hx
     ·rename_i hn;exact (hn rfl).elim
    ·rw [if_neg (by simpa using hdi)]
     rw [if_neg hdi] at hx
     exact e2 i' x hx
  ·rcases e4 r hr with h | h
   ·rcases al r h with h | ⟨j,hj,h⟩
    ·exact .inl h
    ·refine .inr ⟨j,?_,h⟩
     by_cases hji:j=i
     ·subst hji;exact h1
     ·rw [h2 j hji];exact hj
   ·exact .inr ⟨i,h1,h⟩
  ·cases hd:o.dst<;>exact df
  ·cases hd:o.dst<;>simpa [Act.put] using sz
 have hD0:∀r,s.nx+64*i<=r->r<s.nx+64*i+64->¬A.al r:=by
  intro r hr1 hr2 ha
  rcases al r ha with h | ⟨j,hj,h3,h4⟩
  ·omega
  ·have :j=i:=by omega
   subst this;rw [h0] at hj;cases hj
 unfold wpOp
 rw [hops]
 cases t with
 | false=>
  have hu':=g3 rfl
  have h:=lJ tm' sz g1
  ·simp only [h]
   refine hK _ _ (fin A w undef ?_ tm (by rw [hu'];exact (show V0 E.cells w A .undef undef from rfl).v2) (fun r h=>.inl h) rfl hfr)
   rw [vi hu (by rw [hu'];simp) h0 h1 h2,hu']
   exact hh
 | true=>
  obtain ⟨hlen,hev⟩:=g2 rfl
  have h:=lJ tm' sz g1
  ·simp only [h,if_true]
   left
   have hrun:=hev (jU s.hp s.nx D us) (rE hanc hbeg) (fun v rs=>if v=u.v/\rs=u.rs then some [] else none)
   simp only [and_self,if_true] at hrun
   obtain ⟨v,rs,q1,q2⟩:=jf (M:=M) (w0:=w0) hT hG hh (wP tm' sz) hrun
   simp only at q1
   split at q1
   ·rename_i hvr
    obtain ⟨rfl,rfl⟩:=hvr
    refine q2 (fun r hr1 hr2=>hD0 r hr1 (by omega)) K Q fun cv w' A' e1 e2 e3 e4=>hK _ _ (fin A' w' cv ?_ (fun i' x hx=>(tm i' x hx).step e2 hh (fun _ h=>h)) e3 (fun r hr=>?_) e2.Z (hfr.mono fun _ _ h=>h.step e2 hh (fun _ h=>h)))
    ·rw [vi hu hlen h0 h1 h2];exact e1
    ·rcases e4 r hr with h | h
     ·exact .inl h
     ·exact .inr (by omega)
   ·cases q1
theorem jy:∀(os:List Oper) (bs:List Nat),(masks os bs).length=bs.length+os.length
 | [],bs=>by simp [masks]
 | o::os,bs=>by simp only [masks,jy os,List.length_append,List.length_cons,List.length_nil];omega
theorem qa:∀(os:List Oper) (bs:List Nat),nF bs (masks os bs)
 | [],bs=>nF.refl bs
 | o::os,bs=>fun i x hx=>qa os _ i x (nF.append bs _ i x hx)
theorem ni:∀{os:List Oper} {bs:List Nat} {l:Nat} {o:Oper},os[l]?=some o->∃pre,nF pre (masks os bs)/\(masks os bs)[bs.length+l]?=some (jv pre o.after.toList)
 | [],bs,l,o,h=>by simp at h
 | o'::os,bs,0,o,h=>by
  simp at h
  subst h
  refine ⟨bs,qa _ _,?_⟩
  simp only [masks]
  exact qa os _ _ _ (by simp)
 | o'::os,bs,l+1,o,h=>by
  obtain ⟨pre,h1,h2⟩:=ni (os:=os) (bs:=bs++[jv bs o'.after.toList]) (l:=l) (o:=o) (by simpa using h)
  refine ⟨pre,h1,?_⟩
  simp only [masks]
  rw [<-h2];congr 1;simp;omega
theorem lE {bs:List Nat}{l:Nat}:∀{es:List Edge},(jv bs es).testBit l=true->∃e∈es,Region.binds .any e=true/\(l=e.on∨(bs.getD e.on 0).testBit l=true)
 | [],h=>by simp [jv] at h
 | e::es,h=>by
  simp only [jv] at h
  cases hb:Region.binds .any e<;>simp only [hb,aL,aT] at h
  ·obtain ⟨e',h1,h2⟩:=lE h
   exact ⟨e',by simp [h1],h2⟩
  ·rw [Nat.testBit_or,Nat.testBit_or] at h
   simp only [Bool.or_eq_true] at h
   rcases h with h | h | h
   ·obtain ⟨e',h1,h2⟩:=lE h
    exact ⟨e',by simp [h1],h2⟩
   ·rw [Nat.testBit_two_pow] at h
    exact ⟨e,by simp,hb,.inl (by have:=of_decide_eq_true h;omega)⟩
   ·exact ⟨e,by simp,hb,.inr h⟩
theorem iP:∀{os:List Oper} {i l:Nat} {o:Oper},je os i=true->os[l]?=some o->∀e∈o.after.toList,Region.binds .any e=true->e.on<i+l
 | [],i,l,o,_,h=>by simp at h
 | o'::os,i,0,o,hb,h=>by
  simp at h
  subst h
  simp only [je,Bool.and_eq_true,List.all_eq_true] at hb
  intro e he hbe
  have:=hb.1 e he
  rw [hbe] at this
  exact Nat.blt_eq.mp (by simpa using this)
 | o'::os,i,l+1,o,hb,h=>by
  simp only [je,Bool.and_eq_true] at hb
  have:=iP hb.2 (l:=l) (o:=o) (by simpa using h)
  intro e he hbe
  have:=this e he hbe
  omega
theorem ny:∀{bs:List Nat} {i l b:Nat},mH bs i=true->bs[l]?=some b->b=2^(i+l) - 1
 | [],i,l,b,_,h=>by simp at h
 | b'::bs,i,0,b,hb,h=>by
  simp at h
  subst h
  simp only [mH,Bool.and_eq_true] at hb
  exact Nat.eq_of_beq_eq_true hb.1
 | b'::bs,i,l+1,b,hb,h=>by
  simp only [mH,Bool.and_eq_true] at hb
  have:=ny hb.2 (l:=l) (b:=b) (by simpa using h)
  rw [this];congr 2;omega
def Closed (ops:Array Oper)(listed:Array Bool):Prop:=∀(i:Nat),listed.getD i false=true->∀l,((masks ops.toList []).getD i 0).testBit l=true->listed.getD l false=true
theorem dH {ops:Array Oper}{listed:Array Bool}(hc:Closed ops listed){i:Nat}(hr:i∈Region.ready .any ops listed):∀l,((masks ops.toList []).getD i 0).testBit l=true->listed.getD l false=true:=by
 intro l hl
 obtain ⟨h0,o,ho,hall⟩:=mem_ready.1 hr
 have ho':ops.toList[i]?=some o:=by simpa using ho
 obtain ⟨pre,h1,h2⟩:=ni (bs:=[]) ho'
 rw [List.length_nil,Nat.zero_add] at h2
 rw [List.getD_eq_getElem?_getD,h2] at hl
 obtain ⟨e,he,hb,hle⟩:=lE (show (jv pre o.after.toList).testBit l=true from hl)
 have hle':=hall e (by simpa using he) hb
 rcases hle with rfl | hle
 ·exact hle'
 ·refine hc e.on hle' l ?_
  rw [List.getD_eq_getElem?_getD] at hle ⊢
  cases hp:pre[e.on]? with
  | none=>rw [hp] at hle;simp at hle
  | some b=>rw [hp] at hle;rw [h1 _ _ hp];exact hle
theorem Closed.set {ops:Array Oper}{listed:Array Bool}(hc:Closed ops listed){i:Nat}(hr:i∈Region.ready .any ops listed):Closed ops (listed.setIfInBounds i true):=by
 intro j hj l hl
 by_cases hij:i=j
 ·subst hij;exact getD_set_true (dH hc hr l hl)
 ·rw [getD_set_ne false hij] at hj
  exact getD_set_true (hc j hj l hl)
theorem lN {ops:Array Oper}{i:Nat}{o:Oper}(ho:ops[i]?=some o){K:Act->World->Prop}{Q:Exit->Act->World->Prop}{a:Act}{w:World}
  (h:if Region.wanted o (yielded ops a.tmps) then o.wp P a w K Q else K (a.put o.dst undef) w):wpOp P ops Q i K a w:=by
 unfold wpOp
 rw [ho]
 simp only
 split
 ·rename_i hw;rw [if_pos hw] at h;exact .inl h
 ·rename_i hw;rw [if_neg hw] at h;exact h
theorem jQ (hT:∀t i,E.T t=some i->fN P E t i)(hG:∀g c,c∈E.G g->Valid P E g c)(hM:lV P E){ops:Array Oper}{Q:Exit->Act->World->Prop}{h:Nat}(hback:je ops.toList 0=true)
  (htail:∀i,h<i->i<ops.size->∀l,l<i->((masks ops.toList []).getD i 0).testBit l=true):∀(m:Nat) {n:Nat} {A:cy} {s:St} {a:Act} {w:World} {k:St->aD} {listed:Array Bool},n+m=ops.size->h<=n->listed.size=ops.size->
  (∀j,j<ops.size->(listed.getD j true=false↔n<=j))->Closed ops listed->fq E w0 M A s a w->gG E ops.toList (ops.toList.drop n) s k=some ans->
  (∀s' a' w' A',k s'=some ans->fq E w0 M A' s' a' w'->A'.Z=A.Z->Q .normal a' w')->wpAny P .any ops Q m listed a w:=by
 intro m
 induction m with
 | zero=>
  intro n A s a w k listed hn hhn hls hl hc sm hr hQ
  have hd:ops.toList.drop n=[]:=by simp;omega
  rw [hd] at hr
  refine ⟨?_,hQ s a w A hr sm rfl⟩
  rw [List.eq_nil_iff_forall_not_mem]
  intro i hi
  obtain ⟨h0,o,ho,_⟩:=mem_ready.1 hi
  have hlt:=(Array.getElem?_eq_some_iff.1 ho).1
  have:=(hl i hlt).1 h0
  omega
 | succ m ih=>
  intro n A s a w k listed hn hhn hls hl hc sm hr hQ
  have hlt:n<ops.size:=by omega
  have hon:ops[n]?=some ops[n]:=Array.getElem?_eq_getElem hlt
  have hnr:n∈Region.ready .any ops listed:=by
   refine mem_ready.2 ⟨(hl n hlt).2 (Nat.le_refl _),_,hon,fun e he hb=>?_⟩
   have hlt':=iP hback (l:=n) (o:=ops[n]) (by simpa using hon) e (by simpa using he) hb
   have hne:¬listed.getD e.on true=false:=fun h=>by have:=(hl e.on (by omega)).1 h;omega
   have hin:e.on<listed.size:=by omega
   simpa [hin] using hne
  refine ⟨fun he=>(by rw [he] at hnr;cases hnr),fun i hi=>?_⟩
  have hin:i=n:=by
   obtain ⟨h0,o,ho,_⟩:=mem_ready.1 hi
   have hil:=(Array.getElem?_eq_some_iff.1 ho).1
   have hni:=(hl i hil).1 h0
   rcases Nat.lt_or_ge n i with h | h
   ·have:=dH hc hi n (htail i (by omega) hil n h)
    have h2:=(hl n hlt).2 (Nat.le_refl _)
    have hin:n<listed.size:=by omega
    simp [hin] at this h2
    rw [this] at h2;cases h2
   ·omega
  subst hin
  have hdrop:ops.toList.drop i=ops[i]::ops.toList.drop (i+1):=by
   rw [List.drop_eq_getElem_cons (by simpa using hlt)];simp
  rw [hdrop] at hr
  simp only [gG] at hr
  have next:∀{A':cy} {s':St} {a':Act} {w':World},fq E w0 M A' s' a' w'->A'.Z=A.Z->gG E ops.toList (ops.toList.drop (i+1)) s' k=some ans->wpAny P .any ops Q m (listed.setIfInBounds i true) a' w':=by
   intro A' s' a' w' sm' hz hr'
   refine ih (n:=i+1) (by omega) (by omega) (by simpa using hls) (fun j hj=>?_) (hc.set hi) sm' hr' fun s'' a'' w'' A'' e1 e2 e3=>hQ s'' a'' w'' A'' e1 e2 (e3.trans hz)
   by_cases hij:i=j
   ·subst hij
    have :i<listed.size:=by omega
    simp [this]
   ·rw [getD_set_ne true hij,hl j hj];omega
  refine lN hon ?_
  obtain ⟨go,kn,h2,hkn,h1⟩:=oP sm hr
  rw [hkn] at h2
  cases go<;>simp only [aL,aT] at h2
  case true=>
   rw [if_pos h1]
   exact ke hT hG hM sm h2 _ Q fun v s' cv w' A' g1 q1 q2 q3=>next (q1.put q2) q3 g1
  case false=>
   rw [if_neg (by simp [h1])]
   exact next (sm.put (v:=.undef) (cv:=undef) rfl) rfl h2
theorem fq.drew {A:cy}{s:St}{a:Act}{w:World}(sm:fq E w0 M A s a w):fq E w0 M A s a { w with drawn:=w.drawn+1 }:=by
 have hh:=sm.hp
 have st:Step A A w { w with drawn:=w.drawn+1 } (fun _=>False):=⟨rfl,fun _ h=>h,fun _ _=>rfl,Nat.le_refl _,fun _ _ _=>rfl,fun _ _ _ _=>Iff.rfl,fun r b h hn=>by
  rcases h with h | h
  ·exact h.elim
  ·exact (h (hh.xp hn)).elim⟩
 refine ⟨⟨hh.lt,hh.dj,hh.al,fun r=>(hh.rt r).step st hh (fun h=>h) (fun hd=>.inr fun b h=>?_) (fun cs _ v _=>?_),⟨hh.fr.os,hh.fr.tape,hh.fr.output,hh.fr.size,hh.fr.block⟩,hh.nm,hh.zf,hh.pn⟩,fun i x hx=>(sm.tm i x hx).step st hh (fun _ h=>h),sm.nx,sm.df,sm.sz,sm.fr.mono fun _ _ h=>h.step st hh (fun _ h=>h)⟩
 ·have:=hh.rt r;rw [hd] at this;exact this b h
 ·cases v with
  | sl d=>cases d<;>simp [indep]
  | cL d=>cases d<;>simp [indep]
  | gf=>exact id
  | _=>trivial
theorem mQ {sl:Nat->V}{D:Nat->Bool}{t:Nat}(hD:∀j,D j=false):∀{hs:List Oper} {us:List Out} {j:Nat},iB sl D hs us j t=.dead∨iB sl D hs us j t=sl t
 | [],us,j=>.inr rfl
 | o::os,us,j=>by
  simp only [iB]
  cases o.dst with
  | none=>exact mQ hD
  | some d=>
   simp only
   cases Nat.beq t d with
   | false=>exact mQ hD
   | true=>simp only [aL,hD j];exact .inl rfl
theorem rA {sl:Nat->V}{D:Nat->Bool}{t:Nat}:∀{hs:List Oper} {us:List Out} {j:Nat},(∀i,j<=i->i<j+hs.length->D i=true)->iB sl D hs us j t=iB sl always hs us j t
 | [],us,j,_=>rfl
 | o::os,us,j,h=>by
  have ih:=rA (sl:=sl) (D:=D) (t:=t) (hs:=os) (us:=us.tail) (j:=j+1) (fun i h1 h2=>h i (by omega) (by simp;omega))
  simp only [iB,ih,h j (Nat.le_refl _) (by simp),always]
theorem oM {l:Nat}:∀{us:List Out} {j:Nat},us.length<=j->uW us j l=.dead
 | [],j,h=>rfl
 | u::us,0,h=>by simp at h
 | u::us,j+1,h=>oM (us:=us) (j:=j) (by simpa using h)
theorem min_mem:∀{rem:List Nat},rem≠[]->∃i∈rem,∀j∈rem,i<=j
 | [],h=>(h rfl).elim
 | [a],_=>⟨a,by simp,fun j hj=>by simp at hj;omega⟩
 | a::b::rem,_=>by
  obtain ⟨i,hi,hj⟩:=min_mem (rem:=b::rem) (by simp)
  by_cases h:a<=i
  ·refine ⟨a,by simp,fun j hm=>?_⟩
   rcases List.mem_cons.1 hm with rfl | hm
   ·exact Nat.le_refl _
   ·have:=hj j hm;omega
  ·refine ⟨i,List.mem_cons_of_mem _ hi,fun j hm=>?_⟩
   rcases List.mem_cons.1 hm with rfl | hm
   ·omega
   ·exact hj j hm
theorem uX {nt:Nat}{sl sl':Nat->V}(h:∀t,sl t=.dead∨sl t=sl' t){x:Operand}{v:V}(hv:cC nt sl x=v)(hn:v≠.dead):cC nt sl' x=v:=by
 cases x with
 | tmp t=>
  simp only [cC,look] at hv ⊢
  cases hb:Nat.blt t nt with
  | true=>
   rw [hb] at hv
   simp only [aL] at hv ⊢
   rcases h t with h | h
   ·rw [h] at hv;exact (hn hv.symm).elim
   ·rw [<-h];exact hv
  | false=>rw [hb] at hv;exact hv
 | const c=>exact hv
 | global g=>exact hv
 | func f=>exact hv
structure Early (E:Env)(hs:List Oper)(s:St)(us:List Out)(b:Nat)(x:Operand)(r0 q0:Nat)(cs0:List V):Prop where
 x:cC E.nt (iB s.sl b.testBit hs us 0) x=.bK r0 q0
 box:jU s.hp s.nx b.testBit us r0=.box cs0
theorem AG (hT:∀t i,E.T t=some i->fN P E t i){ops:Array Oper}{hs:List Oper}{bs:List Nat}{s:St}{us:List Out}{D:Nat->Bool}{a:Act}{w:World}{i b r0 q0 g0:Nat}{o:Oper}{u:Out}{x y:Operand}{cs0:List V}
  (hi:HI E w0 M Z0 s hs us D a w) (hanc:∀j,(bs.getD i 0).testBit j=true->D j=true) (hok:oE E ops.toList hs bs s.sl s.hp s.nx i o u (us.take i))
  (he:Early E hs s us b x r0 q0 cs0) (hbD:∀j,b.testBit j=true->D j=true)
  (hl:oD E.nt (iB s.sl (bs.getD i 0).testBit hs (us.take i) 0) r0 x y o=true) (hg:∃q,a.eval x=.pointer (some ⟨g0,q,none⟩)) :
  o.guard=none/\∃v,(execOp a.eval o).run P w=.ok (.value v) w/\∀w2:World,(∀c,c≠g0->w2.heap[c]?=w.heap[c]?)->(execOp a.eval o).run P w2=.ok (.value v) w2:=by
 obtain ⟨A,hh,tm,al,df,sz,hz,_⟩:=hi
 obtain ⟨t,kn,g1,g2,g3⟩:=hok
 have hbeg:=nF.take us i
 have hxD:cC E.nt (iB s.sl D hs us 0) x=.bK r0 q0:=uX (fun t=>oo (sl:=s.sl) (hs:=hs) (j:=0) (t:=t) hbD (nF.refl us)) he.x (by simp)
 have hv0:V0 E.cells w A (.bK r0 q0) (a.eval x):=by have:=wP tm sz x;rw [hxD] at this;exact this
 obtain ⟨_,gg,e1,e2⟩:=hv0
 obtain ⟨qq,hgq⟩:=hg
 obtain rfl:gg=g0:=by rw [e2] at hgq;injection hgq with h;injection h with h;injection h
 have hroot:=hh.rt r0
 rw [(rE hbD (nF.refl us)).row he.box (by simp)] at hroot
 obtain ⟨_,g',te0,cur0,m1,m2,m3,m4⟩:=hroot
 obtain rfl:gg=g':=by rw [e1] at m1;injection m1 with m1;injection m1 with m1;injection m1
 have hN0:A.N r0 gg:=(m2 gg).2 rfl
 have tm':∀i' x,a.tmps[i']?=some x->V2 E.cells w A (iB s.sl (bs.getD i 0).testBit hs (us.take i) 0 i') x:=by
  intro i' x hx
  rcases oo (sl:=s.sl) (hs:=hs) (j:=0) (t:=i') hanc hbeg with h | h
  ·rw [h];exact trivial
  ·rw [h];exact tm i' x hx
 have ha:∀z,V2 E.cells w A (cC E.nt (iB s.sl (bs.getD i 0).testBit hs (us.take i) 0) z) (a.eval z):=wP tm' sz
 unfold oD at hl
 split at hl
 ·cases hl
 rename_i hgd
 split at hl
 ·cases hl
 simp only [Bool.and_eq_true] at hl
 have hl3:=hl.2.2
 refine ⟨hgd,?_⟩
 have ht:t=true:=by
  have:=g1 (fun t _=>bif t then some [] else none)
  rw [hgd] at this
  cases t with
  | true=>rfl
  | false=>simp [guarded] at this
 subst ht
 obtain ⟨_,hev⟩:=g2 rfl
 have h:=hev (jU s.hp s.nx D us) (rE hanc hbeg) (fun _ _=>some [])
 split at hl3
 ·
  rename_i z n hop
  rw [hop] at h
  simp only [aX] at h
  split at h
  ·rename_i vs hz'
   have hc:=ha z
   rw [hz'] at hc
   obtain ⟨l,h1,h2⟩:=hc
   split at h
   ·rename_i v hv
    obtain ⟨y',hy,_⟩:=h2.get hv
    exact ⟨y',by simp [execOp,hop,h1,Instr.extract,hy],fun w2 _=>by simp [execOp,hop,h1,Instr.extract,hy]⟩
   ·cases h
  ·cases h
 ·
  rename_i t z f hop
  rw [hop] at h
  have hx:=ha z
  simp only [aX] at h
  split at h
  ·cases h
  ·rename_i ti ht
   split at h
   ·cases h
   ·rename_i p hf
    obtain ⟨ii,d,zz,h1,h2,h3,h4,h5,h6,hby,h7,h8,h9,h10,hpl,h11,h12,h13,h14,h15⟩:=hT t ti ht
    cases hag:ti.agg
    case false=>rw [(h9 hag).2] at hf;simp at hf
    obtain ⟨fs,rfl,hfs⟩:=h10 hag
    obtain ⟨fl,g1,g2,g3,fi,g4⟩:=hfs f p hf
    obtain ⟨ii',d',z',k1,k2,k3,k4,k5,k6,kby,k7,k8,k9,k10,kpl,k11,k12,tB,tF,k15⟩:=hT p.2 fi g4
    have hplace:∀(W:World) b q,(fieldPlace ⟨b,q,none⟩ fl).run P W=.ok ⟨b,q+p.1,none⟩ W:=by
     intro W b q
     have :ii'.size≠0:=by omega
     simp [fieldPlace,g3,gk k1,this,g2,oF]
    have hrun:∀(W:World) b q,a.eval z=.pointer (some ⟨b,q,none⟩)->(execOp a.eval o).run P W=.ok (.value (.pointer (some ⟨b,q+p.1,none⟩))) W:=by
     intro W b q he
     simp [execOp,hop,he,Instr.fieldAt,run_underlying h2,g1,Instr.sureAddr,hplace]
    split at h
    ·rename_i r q hr
     rw [hr] at hx
     obtain ⟨hal,g,f1,f2⟩:=(show V0 E.cells w A (.bK r q) (a.eval z) from hx)
     exact ⟨_,hrun w _ _ f2,fun w2 _=>hrun w2 _ _ f2⟩
    ·rename_i r sz j q hr
     rw [hr] at hx
     obtain ⟨hal,g,n,c,f1,fj,f2⟩:=(show V0 E.cells w A (.fF r sz j q) (a.eval z) from hx)
     exact ⟨_,hrun w _ _ f2,fun w2 _=>hrun w2 _ _ f2⟩
    ·rename_i dd es cs q hr
     rw [hr] at hx
     obtain ⟨hal,bb,q2,vv,f1,f2,f3⟩:=(show V0 E.cells w A (.cL dd es cs q) (a.eval z) from hx)
     exact ⟨_,hrun w _ _ f1,fun w2 _=>hrun w2 _ _ f1⟩
    ·cases h
 ·
  rename_i z hop
  exact ⟨a.eval z,by simp [execOp,hop],fun w2 _=>by simp [execOp,hop]⟩
 ·
  rename_i t z lo hi hop
  rw [hop] at h
  have hx:=ha z
  simp only [aX,gE] at h
  cases hz':cC E.nt (iB s.sl (bs.getD i 0).testBit hs (us.take i) 0) z<;>rw [hz'] at hl3 h hx<;>try (simp only at hl3;cases hl3;done)
  all_goals
   simp only at h
   split at h
   ·rename_i el hel
    obtain ⟨hu,ie,hie⟩:=iF hT hh ha hel
    obtain ⟨ii',d',z',k1,k2,k3,k4,k5,k6,kby,k7,k8,k9,k10,kpl,k11,k12,tB,tF,k15⟩:=hT el ie hie
    have hcl:(E.cells el).length=ii'.size:=by rw [gX hie,k4]
    obtain ⟨dd,e,xs,q1,q2⟩:=iz hh h
    obtain ⟨q3,q4⟩:=q2 hx
    unfold lQ at q1
    cases he:Nat.beq e el<;>simp only [he,aL,aT] at q1
    ·cases q1
    obtain rfl:=Nat.eq_of_beq_eq_true he
    obtain ⟨A1,m,c,p1,p2,p3,p4⟩:=q4.inv
    have hm:xs.length=m:=p2
    subst hm
    obtain ⟨l,g1,hlo⟩:=eJ hT hh ha q1
    obtain ⟨hg',g2,hhi⟩:=eJ hT hh ha g1
    by_cases h0:0<=l
    ·by_cases h1:l<=hg'
     ·by_cases h2:hg'<=(xs.length:Int)
      ·have hrun:∀W:World,(execOp a.eval o).run P W=.ok (.value (.slice (if c=l.toNat then A1 else A1.map (·.add (l.toNat*(E.cells e).length))) (hg'.toNat - l.toNat) (c - l.toNat))) W:=fun W=>by
        have:=jO (P:=P) (w:=W) (b:=true) (len:=xs.length) (cap:=c) hlo hhi h0 h1 h2 p3
        simp [execOp,hop,p1,Instr.sliceAt,Instr.slice,run_underlying hu,this,gk k1,hcl]
       exact ⟨_,hrun w,fun w2 _=>hrun w2⟩
      ·simp [h0,h1,h2] at g2
     ·simp [h0,h1] at g2
    ·simp [h0] at g2
   ·cases h
 ·
  rename_i t z hop
  rw [hop] at h
  have hx:=ha z
  simp only [aX,gZ] at h
  split at h
  ·cases h
  ·rename_i ti ht
   obtain ⟨ii,d,zz,h1,h2,h3,h4,h5,h6,hby,h7,h8,h9,h10,hpl,h11,h12,h13,h14,h15⟩:=hT t ti ht
   have one:∀{xs:List Value},xs.length=ti.cells.length->(∃c q,c≠gg/\a.eval z=.pointer (some ⟨c,q,none⟩)/\∀j v,xs[j]?=some v->w.cell? ⟨c,q+j,none⟩=some v)->
     ∃v,(execOp a.eval o).run P w=.ok (.value v) w/\∀w2:World,(∀c,c≠gg->w2.heap[c]?=w.heap[c]?)->(execOp a.eval o).run P w2=.ok (.value v) w2:=by
    intro xs hl' ⟨c,q,hc,he',hcell⟩
    have hl2:xs.length=ii.size:=by rw [hl',h4]
    have hagd:iS d=false->xs.length=1:=by intro hd;rw [hl2,h4];exact (h9 (by rw [<-h8];exact hd)).1
    refine ⟨mkValue (iS d) xs,?_,fun w2 hw2=>?_⟩
    ·simp [execOp,hop,he',gh h1 h2 hl2 hagd hcell]
    ·have hcell2:∀j v,xs[j]?=some v->w2.cell? ⟨c,q+j,none⟩=some v:=fun j v hj=>by rw [World.cell?_of_block (hw2 c hc)];exact hcell j v hj
     simp [execOp,hop,he',gh h1 h2 hl2 hagd hcell2]
   cases hz':cC E.nt (iB s.sl (bs.getD i 0).testBit hs (us.take i) 0) z<;>rw [hz'] at hl3 h hx<;>try (simp only at hl3;cases hl3;done)
   case bK r q=>
    simp only at h hl3
    obtain ⟨hal,g,f1,f2⟩:=(show V0 E.cells w A (.bK r q) (a.eval z) from hx)
    split at h
    ·rename_i cs hb
     cases hle:Nat.ble (q+ti.cells.length) cs.length<;>simp only [hle,aL,aT] at h
     ·cases h
     have hle':=Nat.le_of_ble_eq_true hle
     have hroot:=hh.rt r
     rw [hb] at hroot
     obtain ⟨_,g',te,cur,k1,k2,k3,k4⟩:=hroot
     obtain rfl:g=g':=by rw [f1] at k1;injection k1 with k1;injection k1 with k1;injection k1
     refine one (xs:=cut cur.toList q ti.cells.length) (by rw [<-(k4.cut q ti.cells.length).length,eT hle']) ⟨g,q,?_,f2,fun j v hj=>?_⟩
     ·rintro rfl
      have :r=r0:=hh.dj r r0 _ ((k2 _).2 rfl) hN0
      subst this;simp at hl3
     ·rw [fX k3]
      simpa using (mW hj).1
    ·cases h
   case cL dd es cs q=>
    cases dd with
    | some r=>simp only at hl3;cases hl3
    | none=>
     simp only at h
     obtain ⟨hal,c,qq,vv,f1,f2,f3⟩:=(show V0 E.cells w A (.cL none es cs q) (a.eval z) from hx)
     cases hle:Nat.ble (q+ti.cells.length) es.length<;>simp only [hle,aL,aT] at h
     ·cases h
     have hle':=Nat.le_of_ble_eq_true hle
     refine one (xs:=(List.range ti.cells.length).map fun j=>vv (q+j)) (by simp) ⟨c,qq+q,?_,f1,fun j v hj=>?_⟩
     ·rintro rfl;exact f2.2.2 r0 hN0
     ·have hj':j<ti.cells.length:=by
       have:=(List.getElem?_eq_some_iff.1 hj).1
       simpa using this
      simp [hj'] at hj
      obtain ⟨kk,hkk⟩:∃kk,es[q+j]?=some kk:=⟨es[q+j]'(by omega),List.getElem?_eq_getElem (by omega)⟩
      rw [Nat.add_assoc,(f3 _ _ hkk).1,hj]
 ·cases hl3
theorem uF (hT:∀t i,E.T t=some i->fN P E t i)(hG:∀g c,c∈E.G g->Valid P E g c){ops:Array Oper}{hs:List Oper}{bs:List Nat}{s:St}{us:List Out}{D D':Nat->Bool}{a:Act}{w:World}{i b r0 q0 g0:Nat}{o:Oper}{u:Out}{x y:Operand}{cs0:List V}
  (hf:dL (gV hs)=true) (hi:HI E w0 M Z0 s hs us D a w) (ho:hs[i]?=some o) (hops:ops[i]?=some o) (hu:us[i]?=some u) (h0:D i=false) (h1:D' i=true) (h2:∀l,l≠i->D' l=D l)
  (hanc:∀j,(bs.getD i 0).testBit j=true->D j=true) (hok:oE E ops.toList hs bs s.sl s.hp s.nx i o u (us.take i))
  (he:Early E hs s us b x r0 q0 cs0) (hbD:∀j,b.testBit j=true->D j=true)
  (hl:oD E.nt (iB s.sl (bs.getD i 0).testBit hs (us.take i) 0) r0 x y o=true) (hg:∃q,a.eval x=.pointer (some ⟨g0,q,none⟩)) :
  ∃v,HI E w0 M Z0 s hs us D' (a.put o.dst v) w/\(a.put o.dst v).eval x=a.eval x/\(a.put o.dst v).eval y=a.eval y/\
   ∀(w2:World),(∀c,c≠g0->w2.heap[c]?=w.heap[c]?)->∀(K:Act->World->Prop) (Q:Exit->Act->World->Prop),K (a.put o.dst v) w2->wpOp P ops Q i K a w2:=by
 obtain ⟨hgd,v,hv,hv2⟩:=AG (y:=y) hT hi hanc hok he hbD hl hg
 have hstep:=nh (D':=D') hT hG hf hi ho hops hu h0 h1 h2 hanc hok (K:=fun a' w'=>HI E w0 M Z0 s hs us D' a' w') (Q:=fun _ _ _=>False) (fun a' w' h=>h)
 have hwant:Region.wanted o (yielded ops a.tmps)=true:=by simp [Region.wanted,hgd]
 have hne:∀z:Operand,(∀d,o.dst=some d->eZ z d=false)->(a.put o.dst v).eval z=a.eval z:=by
  intro z hz
  refine Act.eval_put fun d hd he=>?_
  have:=hz d hd
  rw [he] at this
  simp [eZ] at this
 have hxy:∀d,o.dst=some d->eZ x d=false/\eZ y d=false:=by
  intro d hd
  unfold oD at hl
  rw [hgd,hd] at hl
  simp only [Bool.and_eq_true,Bool.not_eq_true'] at hl
  exact ⟨hl.1,hl.2.1⟩
 refine ⟨v,?_,hne x fun d hd=>(hxy d hd).1,hne y fun d hd=>(hxy d hd).2,fun w2 hw2 K Q hK=>?_⟩
 ·unfold wpOp at hstep
  rw [hops] at hstep
  simp only [hwant,if_true] at hstep
  rcases hstep with h | ⟨_,h⟩
  ·unfold Oper.wp at h
   rw [hv] at h
   exact h
  ·obtain ⟨_,_,h⟩:=h;exact h.elim
 ·unfold wpOp
  rw [hops]
  simp only [hwant,if_true]
  left
  unfold Oper.wp
  rw [hv2 w2 hw2]
  exact hK
theorem pT {nt:Nat}{hs:List Oper}{bs:List Nat}{sl:Nat->V}{us:List Out}{r0:Nat}{x y:Operand}{m:Nat}:∀{os:List Oper} {i:Nat},rH nt hs bs sl us r0 x y m os i=true->
  ∀(l:Nat) (o:Oper),os[l]?=some o->m.testBit (i+l)=true∨oD nt (iB sl (bs.getD (i+l) 0).testBit hs (us.take (i+l)) 0) r0 x y o=true
 | [],i,_,l,o,ho=>by simp at ho
 | o'::os,i,h,l,o,ho=>by
  simp only [rH,Bool.and_eq_true,Bool.or_eq_true] at h
  cases l with
  | zero=>simp at ho;subst ho;exact h.1
  | succ l=>
   have:=pT h.2 l o (by simpa using ho)
   rw [show i+1+l=i+(l+1) by omega] at this
   exact this
theorem xH {hs:List Oper}{bs:List Nat}{s:St}{us:List Out}{h:Nat}{o:Oper}(hb:wB E.nt hs bs s.sl s.hp s.nx us h o=true) :
  ∃t x y r0 q0 cs0,o.guard=none/\o.dst=none/\o.op=.store t x y/\Early E hs s us (bs.getD h 0) x r0 q0 cs0/\
   ∀(l:Nat) (o:Oper),hs[l]?=some o->(bs.getD h 0).testBit l=true∨oD E.nt (iB s.sl (bs.getD l 0).testBit hs (us.take l) 0) r0 x y o=true:=by
 unfold wB at hb
 split at hb
 ·cases hb
 rename_i hg
 split at hb
 ·cases hb
 rename_i hd
 split at hb
 ·rename_i t x y hop
  split at hb
  ·rename_i r0 q0 hx
   split at hb
   ·rename_i cs0 hbx
    refine ⟨t,x,y,r0,q0,cs0,hg,hd,hop,⟨hx,hbx⟩,fun l o ho=>?_⟩
    have:=pT hb l o ho
    rwa [Nat.zero_add] at this
   ·cases hb
  ·cases hb
 ·cases hb
theorem zL (hT:∀t i,E.T t=some i->fN P E t i){A:cy}{s:St}{a:Act}{w:World}(sm:fq E w0 M A s a w){t:TypeId}{x y:Operand}{k:V->St->aD}{r q:Nat}{cs:List V}(h:jw E (.store t x y) s k=some ans)(hr:cC E.nt s.sl x=.bK r q)(hcs:s.hp r=.box cs) :
  ∃g cur,(∃q',a.eval x=.pointer (some ⟨g,q',none⟩))/\(Instr.storeAt t (a.eval x) (a.eval y)).run P w=.ok () (w.setRow g cur):=by
 have hh:=sm.hp
 have hx:=sm.ev x
 simp only [jw] at h
 split at h
 ·cases h
 rename_i i ht
 obtain ⟨ii,d,z,h1,h2,h3,h4,h5,h6,hby,h7,h8,h9,h10,hpl,h11,h12,h13,h14,h15⟩:=hT t i ht
 obtain ⟨new,g1,g2⟩:=jd h
 have hy:=g2 (sm.ev y)
 cases hl:Nat.beq new.length i.cells.length<;>simp only [hl,aL,aT] at g1
 ·cases g1
 have hl':=Nat.eq_of_beq_eq_true hl
 have hsz:(a.eval y).cells.size=ii.size:=by rw [<-Array.length_toList,<-hy.length,hl',h4]
 have hone:∀u∈(a.eval y).cells.toList,u.oneCell'=true:=by
  intro u hu
  obtain ⟨j,hj⟩:=List.getElem?_of_mem hu
  have:=hy.length
  have hjl:j<new.length:=by rw [this];exact (List.getElem?_eq_some_iff.1 hj).1
  obtain ⟨b,hb,hv⟩:=hy.get (List.getElem?_eq_getElem hjl)
  rw [hj] at hb;injection hb with hb;subst hb
  exact hv.2
 rw [hr] at g1 hx
 simp only [hcs] at g1
 cases hle:Nat.ble (q+new.length) cs.length<;>simp only [hle,aL,aT] at g1
 ·cases g1
 have hle':=Nat.le_of_ble_eq_true hle
 obtain ⟨hal,g,e1,e2⟩:=(show V0 E.cells w A (.bK r q) (a.eval x) from hx)
 have hroot:=hh.rt r
 rw [hcs] at hroot
 obtain ⟨_,g',te,cur,m1,m2,m3,m4⟩:=hroot
 obtain rfl:g=g':=by rw [e1] at m1;injection m1 with m1;injection m1 with m1;injection m1
 have hcl:cs.length=cur.size:=by rw [m4.length,Array.length_toList]
 have hst:=jq (P:=P) (t:=t) (g:=g) (q:=q) h1 hsz hone m3 (by omega)
 rw [<-e2] at hst
 exact ⟨g,_,⟨q,e2⟩,hst⟩
theorem HI.zS {s:St}{hs:List Oper}{us:List Out}{D:Nat->Bool}{a:Act}{w:World}{h:Nat}(hi:HI E w0 M Z0 s hs us D a w)(hhs:hs.length=h)(hul:us.length=h)(hD:∀j,D j=true↔j<h) :
  ∃A1,fq E w0 M A1 { sl:=iB s.sl always hs us 0,hp:=jU s.hp s.nx always us,nx:=s.nx+64*h,fr:=s.fr } a w/\A1.Z=Z0:=by
 obtain ⟨A1,i1,i2,i3,i4,i5,i6,i7⟩:=hi
 have hhp:jU s.hp s.nx D us=jU s.hp s.nx always us:=by
  funext r
  unfold jU
  cases Nat.blt r s.nx with
  | true=>rfl
  | false=>
   simp only [aT,always,aL]
   by_cases hj:(r - s.nx) / 64<h
   ·rw [(hD _).2 hj];rfl
   ·have :D ((r - s.nx) / 64)=false:=by
     cases hd:D ((r - s.nx) / 64) with
     | false=>rfl
     | true=>exact absurd ((hD _).1 hd) hj
    rw [this,oM (by omega)];rfl
 refine ⟨A1,⟨by rw [<-hhp];exact i1,fun i x hx=>?_,fun r hr hal=>?_,i4,i5,i7⟩,i6⟩
 ·show V2 E.cells w A1 (iB s.sl always hs us 0 i) x
  rw [<-rA (D:=D) (fun i _ hi=>(hD i).2 (by omega))]
  exact i2 i x hx
 ·have hr':s.nx+64*h<=r:=hr
  rcases i3 r hal with h1 | ⟨j,h1,h2,h3⟩
  ·omega
  ·have:=(hD j).1 h1;omega
theorem iH {ops:Array Oper}(hback:je ops.toList 0=true):∀{i j:Nat},i<ops.size->((masks ops.toList []).getD i 0).testBit j=true->j<i:=by
 intro i
 induction i using Nat.strongRecOn with
 | _ i ih=>
  intro j hi hj
  have ho:ops.toList[i]?=some ops[i]:=by simp [hi]
  obtain ⟨pre,h1,h2⟩:=ni (bs:=[]) ho
  rw [List.length_nil,Nat.zero_add] at h2
  rw [List.getD_eq_getElem?_getD,h2] at hj
  obtain ⟨e,he,hb,hle⟩:=lE (show (jv pre ops[i].after.toList).testBit j=true from hj)
  have hlt:=iP hback (l:=i) (o:=ops[i]) ho e he hb
  rcases hle with rfl | hle
  ·omega
  ·have :j<e.on:=by
    refine ih e.on (by omega) (by omega) ?_
    rw [List.getD_eq_getElem?_getD] at hle ⊢
    cases hp:pre[e.on]? with
    | none=>rw [hp] at hle;simp at hle
    | some b=>rw [hp] at hle;rw [h1 _ _ hp];exact hle
   omega
theorem xK (hT:∀t i,E.T t=some i->fN P E t i)(hG:∀g c,c∈E.G g->Valid P E g c)(hM:lV P E){ops:Array Oper}{h:Nat}{s:St}{k:St->aD}{Q:Exit->Act->World->Prop}{us:List Out}{oh:Oper}
  (hback:je ops.toList 0=true) (hfresh:dL (gV (ops.toList.take h))=true) (hoh:ops[h]?=some oh)
  (htail:∀i,h<i->i<ops.size->∀l,l<i->((masks ops.toList []).getD i 0).testBit l=true) (g2:us.length=h)
  (g4:∀(l:Nat) (o:Oper),(ops.toList.take h)[l]?=some o->∃u,us[l]?=some u/\oE E ops.toList (ops.toList.take h) (masks ops.toList []) s.sl s.hp s.nx l o u (us.take l))
  (hb:wB E.nt (ops.toList.take h) (masks ops.toList []) s.sl s.hp s.nx us h oh=true)
  (g1:gG E ops.toList (ops.toList.drop h) { sl:=iB s.sl always (ops.toList.take h) us 0,hp:=jU s.hp s.nx always us,nx:=s.nx+64*h,fr:=s.fr } k=some ans)
  (hQ:∀s' a' w',k s'=some ans->At E w0 M Z0 s' a' w'->Q .normal a' w') :
  ∀(n:Nat) (rem:List Nat) (listed:Array Bool) (D:Nat->Bool) (a:Act) (w:World),rem.length=n->rem.Nodup->(∀j∈rem,j<h)->listed.size=ops.size->(∀j,j<ops.size->(listed.getD j true=false↔(j∈rem∨h<=j)))->
   (∀j,D j=true↔(j<h/\j∉rem))->Closed ops listed->HI E w0 M Z0 s (ops.toList.take h) us D a w->wpAny P .any ops Q (n+(ops.size - h)) listed a w:=by
 have hlt:h<ops.size:=(Array.getElem?_eq_some_iff.1 hoh).1
 have hhs:(ops.toList.take h).length=h:=by simp;omega
 have hget:∀i,i<h->∃o,ops[i]?=some o/\(ops.toList.take h)[i]?=some o:=by
  intro i hi
  refine ⟨_,Array.getElem?_eq_getElem (show i<ops.size by omega),?_⟩
  rw [List.getElem?_take,if_pos hi];simp [show i<ops.size by omega]
 obtain ⟨t,x,y,r0,q0,cs0,hgd,hdst,hop,he,hlate⟩:=xH hb
 have hdrop:ops.toList.drop h=oh::ops.toList.drop (h+1):=by
  rw [List.drop_eq_getElem_cons (by simpa using hlt)]
  have:=(Array.getElem?_eq_some_iff.1 hoh).2
  simp [this]
 rw [hdrop] at g1
 simp only [gG,hgd,guarded,aL,St.mG] at g1
 have hwant:∀a:Act,Region.wanted oh (yielded ops a.tmps)=true:=fun a=>by simp [Region.wanted,hgd]
 have setD:∀{rem:List Nat} {D:Nat->Bool} {i:Nat},rem.Nodup->i<h->(∀j,D j=true↔(j<h/\j∉rem))->i∈rem->∀j,(D j||Nat.beq j i)=true↔(j<h/\j∉rem.erase i):=by
  intro rem D i hnd hih hD him j
  rw [hnd.mem_erase_iff,Bool.or_eq_true,hD j]
  constructor
  ·rintro (⟨h1,h2⟩ | h1)
   ·exact ⟨h1,fun h=>h2 h.2⟩
   ·have:=Nat.eq_of_beq_eq_true h1
    subst this;exact ⟨hih,fun h=>h.1 rfl⟩
  ·rintro ⟨h1,h2⟩
   by_cases hji:j=i
   ·subst hji;exact .inr (by simp)
   ·exact .inl ⟨h1,fun h=>h2 ⟨hji,h⟩⟩
 have otherD:∀{D:Nat->Bool} {i l:Nat},l≠i->(D l||Nat.beq l i)=D l:=by
  intro D i l hli
  have :Nat.beq l i=false:=by
   cases hb:Nat.beq l i with
   | false=>rfl
   | true=>exact absurd (Nat.eq_of_beq_eq_true hb) hli
  simp [this]
 have notD:∀{rem:List Nat} {D:Nat->Bool},(∀j,D j=true↔(j<h/\j∉rem))->∀j∈rem,D j=false:=by
  intro rem D hD j hj
  cases hd:D j with
  | false=>rfl
  | true=>exact absurd hj ((hD j).1 hd).2
 have setL:∀{rem:List Nat} {listed:Array Bool} {i m:Nat},rem.Nodup->i<m->i<listed.size->(∀j,j<ops.size->(listed.getD j true=false↔(j∈rem∨m<=j)))->∀j,j<ops.size->((listed.setIfInBounds i true).getD j true=false↔(j∈rem.erase i∨m<=j)):=by
  intro rem listed i m hnd him his hl j hj
  by_cases hij:i=j
  ·subst hij
   simp [his,hnd.mem_erase_iff]
   omega
  ·rw [getD_set_ne true hij,hl j hj,hnd.mem_erase_iff]
   simp [Ne.symm hij]
 have unl:∀{listed:Array Bool} {j:Nat},j<listed.size->listed.getD j false=true->¬listed.getD j true=false:=by
  intro listed j hj h1 h2
  simp [hj] at h1 h2
  rw [h1] at h2;cases h2
 have inb:∀{listed:Array Bool} {j:Nat},listed.getD j false=true->j<listed.size:=by
  intro listed j hj
  rcases Nat.lt_or_ge j listed.size with h' | h'
  ·exact h'
  ·simp [Array.getElem?_eq_none h'] at hj
 have ready:∀{rem:List Nat} {listed:Array Bool} {m:Nat},m<=ops.size->h<=m->rem≠[]->(∀j∈rem,j<h)->listed.size=ops.size->(∀j,j<ops.size->(listed.getD j true=false↔(j∈rem∨m<=j)))->∃i∈rem,i∈Region.ready .any ops listed:=by
  intro rem listed m hm hhm hne hrl hls hl
  obtain ⟨i,him,hmin⟩:=min_mem hne
  have hih:=hrl i him
  obtain ⟨o,ho1,ho2⟩:=hget i hih
  refine ⟨i,him,mem_ready.2 ⟨(hl i (by omega)).2 (.inl him),o,ho1,fun e he hb=>?_⟩⟩
  have hlt:=iP hback (l:=i) (o:=o) (by simpa using ho1) e (by simpa using he) hb
  have hne:¬listed.getD e.on true=false:=fun hf=>by
   rcases (hl e.on (by omega)).1 hf with hm | hm
   ·have:=hmin _ hm;omega
   ·omega
  have hin:e.on<listed.size:=by omega
  simpa [hin] using hne
 have anc:∀{rem:List Nat} {listed:Array Bool} {D:Nat->Bool} {i m:Nat},h<=m->listed.size=ops.size->(∀j,j<ops.size->(listed.getD j true=false↔(j∈rem∨m<=j)))->(∀j,D j=true↔(j<h/\j∉rem))->Closed ops listed->i∈Region.ready .any ops listed->i<h->
   ∀j,((masks ops.toList []).getD i 0).testBit j=true->j<h->D j=true:=by
  intro rem listed D i m hhm hls hl hD hc hir hih j hj hjh
  have hjl:=dH hc hir j hj
  refine (hD j).2 ⟨hjh,fun hm=>?_⟩
  exact unl (inb hjl) hjl ((hl j (by omega)).2 (.inl hm))
 have low:∀i,i<h->∀j,((masks ops.toList []).getD i 0).testBit j=true->j<i:=fun i hi j hj=>iH hback (by omega) hj
 have fin:∀(g0:Nat) (n:Nat) (rem:List Nat) (listed:Array Bool) (D:Nat->Bool) (a:Act) (w:World),rem.length=n->rem.Nodup->(∀j∈rem,j<h)->(∀j∈rem,((masks ops.toList []).getD h 0).testBit j=false)->listed.size=ops.size->
   (∀j,j<ops.size->(listed.getD j true=false↔(j∈rem∨h<=j)))->(∀j,D j=true↔(j<h/\j∉rem))->Closed ops listed->HI E w0 M Z0 s (ops.toList.take h) us D a w->(∃q,a.eval x=.pointer (some ⟨g0,q,none⟩))->
   ∃a' D',(∀j,D' j=true↔j<h)/\HI E w0 M Z0 s (ops.toList.take h) us D' a' w/\a'.eval x=a.eval x/\a'.eval y=a.eval y:=by
  intro g0 n
  induction n with
  | zero=>
   intro rem listed D a w hn _ _ _ _ _ hD _ hi _
   have hrem:rem=[]:=List.eq_nil_of_length_eq_zero hn
   subst hrem
   exact ⟨a,D,fun j=>by rw [hD j];simp,hi,rfl,rfl⟩
  | succ n ih=>
   intro rem listed D a w hn hnd hrl hnb hls hl hD hc hi hg
   obtain ⟨i,him,hir⟩:=ready (rem:=rem) (m:=h) (by omega) (Nat.le_refl _) (by rintro rfl;simp at hn) hrl hls hl
   have hih:=hrl i him
   obtain ⟨o,ho1,ho2⟩:=hget i hih
   obtain ⟨u,hu,hok⟩:=g4 i o ho2
   have hl2:=(hlate i o ho2).resolve_left (by rw [hnb i him];simp)
   obtain ⟨v,k1,k2,k3,_⟩:=uF (D':=fun j=>D j||Nat.beq j i) hT hG hfresh hi ho2 ho1 hu (notD hD i him) (by simp) (fun l hli=>otherD hli) (fun j hj=>anc (Nat.le_refl _) hls hl hD hc hir hih j hj (by have:=low i hih j hj;omega)) hok he
    (fun j hj=>(hD j).2 ⟨iH hback hlt hj,fun hm=>by rw [hnb j hm] at hj;cases hj⟩) hl2 hg
   obtain ⟨a',D',q1,q2,q3,q4⟩:=ih (rem.erase i) (listed.setIfInBounds i true) _ _ w (by rw [List.length_erase_of_mem him];omega) (hnd.erase i) (fun j hj=>hrl j (List.mem_of_mem_erase hj)) (fun j hj=>hnb j (List.mem_of_mem_erase hj)) (by simpa using hls) (setL hnd hih (by omega) hl) (setD hnd hih hD him) (hc.set hir) k1 (by rw [k2];exact hg)
   exact ⟨a',D',q1,q2,q3.trans k2,q4.trans k3⟩
 have behind:∀(X Y:Value) (g0:Nat) (w w2:World),(∃q,X=.pointer (some ⟨g0,q,none⟩))->(∀c,c≠g0->w2.heap[c]?=w.heap[c]?)->(∀ev:Operand->Value,ev x=X->ev y=Y->(execOp ev oh).run P w=.ok .skip w2)->
   ∀(n:Nat) (rem:List Nat) (listed:Array Bool) (D:Nat->Bool) (a:Act),rem.length=n->rem.Nodup->(∀j∈rem,j<h)->(∀j∈rem,((masks ops.toList []).getD h 0).testBit j=false)->listed.size=ops.size->
   (∀j,j<ops.size->(listed.getD j true=false↔(j∈rem∨h+1<=j)))->(∀j,D j=true↔(j<h/\j∉rem))->Closed ops listed->HI E w0 M Z0 s (ops.toList.take h) us D a w->a.eval x=X->a.eval y=Y->
   wpAny P .any ops Q (n+(ops.size - (h+1))) listed a w2:=by
  intro X Y g0 w w2 hX hw2 hst n
  induction n with
  | zero=>
   intro rem listed D a hn _ _ _ hls hl hD hc hi hx hy
   have hrem:rem=[]:=List.eq_nil_of_length_eq_zero hn
   subst hrem
   obtain ⟨A1,sm1,hz1⟩:=hi.zS hhs g2 (fun j=>by rw [hD j];simp)
   have h3:=ke hT hG hM sm1 g1 (fun a' w'=>∃(v:V) (s':St) (A':cy),gG E ops.toList (ops.toList.drop (h+1)) (s'.put oh.dst v) k=some ans/\fq E w0 M A' (s'.put oh.dst v) a' w'/\A'.Z=A1.Z) (fun _ _ _=>False) (fun v s' cv w' A' e1 q1 q2 q3=>⟨v,s',A',e1,q1.put q2,q3⟩)
   unfold Oper.wp at h3
   rw [hst a.eval hx hy] at h3
   obtain ⟨v,s',A2,e1,sm2,hz2⟩:=(show ∃(v:V) (s':St) (A':cy),gG E ops.toList (ops.toList.drop (h+1)) (s'.put oh.dst v) k=some ans/\fq E w0 M A' (s'.put oh.dst v) (a.put oh.dst undef) w2/\A'.Z=A1.Z from h3)
   rw [hdst] at sm2 e1
   rw [Nat.zero_add]
   exact jQ hT hG hM (h:=h) hback htail (ops.size - (h+1)) (n:=h+1) (by omega) (by omega) hls (fun j hj=>by rw [hl j hj];simp) hc sm2 e1 fun s'' a'' w'' A'' f1 f2 f3=>hQ s'' a'' w'' f1 ⟨A'',f2,f3.trans (hz2.trans hz1)⟩
  | succ n ih=>
   intro rem listed D a hn hnd hrl hnb hls hl hD hc hi hx hy
   rw [show n+1+(ops.size - (h+1))=(n+(ops.size - (h+1)))+1 by omega]
   have hne:rem≠[]:=by rintro rfl;simp at hn
   refine ⟨fun he'=>?_,fun i hir=>?_⟩
   ·obtain ⟨i,_,hir⟩:=ready (rem:=rem) (m:=h+1) (by omega) (by omega) hne hrl hls hl
    rw [he'] at hir;cases hir
   ·obtain ⟨h0,o',ho',_⟩:=mem_ready.1 hir
    have hil:=(Array.getElem?_eq_some_iff.1 ho').1
    have him:i∈rem:=by
     rcases (hl i hil).1 h0 with hm | hm
     ·exact hm
     ·obtain ⟨j,hjm,_⟩:=min_mem hne
      have hjh:=hrl j hjm
      have h1:=dH hc hir j (htail i (by omega) hil j (by omega))
      exact (unl (inb h1) h1 ((hl j (by omega)).2 (.inl hjm))).elim
    have hih:=hrl i him
    obtain ⟨o,ho1,ho2⟩:=hget i hih
    obtain ⟨u,hu,hok⟩:=g4 i o ho2
    have hl2:=(hlate i o ho2).resolve_left (by rw [hnb i him];simp)
    obtain ⟨v,k1,k2,k3,k4⟩:=uF (D':=fun j=>D j||Nat.beq j i) hT hG hfresh hi ho2 ho1 hu (notD hD i him) (by simp) (fun l hli=>otherD hli) (fun j hj=>anc (Nat.le_succ h) hls hl hD hc hir hih j hj (by have:=low i hih j hj;omega)) hok he
     (fun j hj=>(hD j).2 ⟨iH hback hlt hj,fun hm=>by rw [hnb j hm] at hj;cases hj⟩) hl2 (by rw [hx];exact hX)
    exact k4 w2 hw2 _ Q (ih (rem.erase i) (listed.setIfInBounds i true) _ _ (by rw [List.length_erase_of_mem him];omega) (hnd.erase i) (fun j hj=>hrl j (List.mem_of_mem_erase hj)) (fun j hj=>hnb j (List.mem_of_mem_erase hj)) (by simpa using hls) (setL hnd (by omega) (by omega) hl) (setD hnd hih hD him) (hc.set hir) k1 (k2.trans hx) (k3.trans hy))
 intro n
 induction n with
 | zero=>
  intro rem listed D a w hn _ _ hls hl hD hc hi
  have hrem:rem=[]:=List.eq_nil_of_length_eq_zero hn
  subst hrem
  obtain ⟨A1,sm1,hz1⟩:=hi.zS hhs g2 (fun j=>by rw [hD j];simp)
  rw [Nat.zero_add]
  refine jQ hT hG hM (h:=h) hback htail (ops.size - h) (n:=h) (by omega) (Nat.le_refl _) hls (fun j hj=>by rw [hl j hj];simp) hc sm1 (k:=k) ?_ fun s' a' w' A' e1 e2 e3=>hQ s' a' w' e1 ⟨A',e2,e3.trans hz1⟩
  rw [hdrop]
  simp only [gG,hgd,guarded,aL,St.mG]
  exact g1
 | succ n ih=>
  intro rem listed D a w hn hnd hrl hls hl hD hc hi
  rw [show n+1+(ops.size - h)=(n+(ops.size - h))+1 by omega]
  have hne:rem≠[]:=by rintro rfl;simp at hn
  refine ⟨fun he'=>?_,fun i hir=>?_⟩
  ·obtain ⟨i,_,hir⟩:=ready (rem:=rem) (m:=h) (by omega) (Nat.le_refl _) hne hrl hls hl
   rw [he'] at hir;cases hir
  ·obtain ⟨h0,o',ho',_⟩:=mem_ready.1 hir
   have hil:=(Array.getElem?_eq_some_iff.1 ho').1
   by_cases him:i∈rem
   ·have hih:=hrl i him
    obtain ⟨o,ho1,ho2⟩:=hget i hih
    obtain ⟨u,hu,hok⟩:=g4 i o ho2
    refine nh (D':=fun j=>D j||Nat.beq j i) hT hG hfresh hi ho2 ho1 hu (notD hD i him) (by simp) (fun l hli=>otherD hli) (fun j hj=>anc (Nat.le_refl _) hls hl hD hc hir hih j hj (by have:=low i hih j hj;omega)) hok fun a' w' hi'=>?_
    exact ih (rem.erase i) _ _ a' w' (by rw [List.length_erase_of_mem him];omega) (hnd.erase i) (fun j hj=>hrl j (List.mem_of_mem_erase hj)) (by simpa using hls) (setL hnd hih (by omega) hl) (setD hnd hih hD him) (hc.set hir) hi'
   ·have hih:h<=i:=((hl i hil).1 h0).resolve_left him
    have hi2:i=h:=by
     rcases Nat.lt_or_ge h i with hlt' | hge
     ·have h1:=dH hc hir h (htail i hlt' hil h hlt')
      exact (unl (inb h1) h1 ((hl h hlt).2 (.inr (Nat.le_refl _)))).elim
     ·omega
    subst hi2
    have hnb:∀j∈rem,((masks ops.toList []).getD i 0).testBit j=false:=by
     intro j hj
     cases hb:((masks ops.toList []).getD i 0).testBit j with
     | false=>rfl
     | true=>
      have h1:=dH hc hir j hb
      exact (unl (inb h1) h1 ((hl j (by have:=hrl j hj;omega)).2 (.inl hj))).elim
    have hbD:∀j,((masks ops.toList []).getD i 0).testBit j=true->D j=true:=fun j hj=>(hD j).2 ⟨iH hback hlt hj,fun hm=>by rw [hnb j hm] at hj;cases hj⟩
    have hX:∃g0 q,a.eval x=.pointer (some ⟨g0,q,none⟩):=by
     obtain ⟨A,_,tm,_,_,sz,_⟩:=hi
     have hxD:cC E.nt (iB s.sl D (ops.toList.take i) us 0) x=.bK r0 q0:=uX (fun t=>oo (sl:=s.sl) (j:=0) (t:=t) hbD (nF.refl us)) he.x (by simp)
     have:=wP tm sz x
     rw [hxD] at this
     obtain ⟨_,g0,_,e2⟩:=(show V0 E.cells w A (.bK r0 q0) (a.eval x) from this)
     exact ⟨g0,q0,e2⟩
    obtain ⟨g0,hX⟩:=hX
    obtain ⟨a',D',q1,q2,q3,q4⟩:=fin g0 (n+1) rem listed D a w hn hnd hrl hnb hls hl hD hc hi hX
    obtain ⟨A1,sm1,hz1⟩:=q2.zS hhs g2 q1
    have hx1:cC E.nt (iB s.sl always (ops.toList.take i) us 0) x=.bK r0 q0:=uX (fun t=>oo (sl:=s.sl) (j:=0) (t:=t) (fun _ _=>rfl) (nF.refl us)) he.x (by simp)
    have hb1:jU s.hp s.nx always us r0=.box cs0:=(rE (fun _ _=>rfl) (nF.refl us)).row he.box (by simp)
    have g1':=g1
    unfold gn at g1'
    rw [hop] at g1'
    simp only [Ac,aL] at g1'
    obtain ⟨g,cur,⟨q',f1⟩,f2⟩:=zL hT sm1 g1' hx1 hb1
    have hgg:g=g0:=by
     obtain ⟨q,hX⟩:=hX
     rw [q3,hX] at f1;injection f1 with f1;injection f1 with f1;injection f1 with f1;exact f1.symm
    subst hgg
    have hst:∀ev:Operand->Value,ev x=a.eval x->ev y=a.eval y->(execOp ev oh).run P w=.ok .skip (w.setRow g cur):=by
     intro ev e1 e2
     rw [q3,q4] at f2
     simp [execOp,hop,e1,e2,f2]
    refine lN hoh ?_
    rw [if_pos (hwant a)]
    unfold Oper.wp
    rw [hst a.eval rfl rfl]
    show wpAny P .any ops Q (n+(ops.size - i)) (listed.setIfInBounds i true) (a.put oh.dst undef) (w.setRow g cur)
    rw [hdst,show n+(ops.size - i)=(n+1)+(ops.size - (i+1)) by omega]
    refine behind (a.eval x) (a.eval y) g w (w.setRow g cur) hX (fun c hc=>setRow_other _ _ _ _ hc) hst (n+1) rem (listed.setIfInBounds i true) D a hn hnd hrl hnb (by simpa using hls) (fun j hj=>?_) hD (hc.set hir) hi rfl rfl
    by_cases hij:i=j
    ·subst hij
     have :i<listed.size:=by omega
     simp [this,him]
    ·rw [getD_set_ne true hij,hl j hj]
     constructor
     ·rintro (hm | hm)
      ·exact .inl hm
      ·exact .inr (by omega)
     ·rintro (hm | hm)
      ·exact .inl hm
      ·exact .inr (by omega)
theorem qx (h i:Nat):kI h (kI h i)=i:=by
 unfold kI
 cases h1:Nat.beq i h with
 | true=>
  have:=Nat.eq_of_beq_eq_true h1;subst this
  have h2:Nat.beq (i+1) i=false:=by cases hb:Nat.beq (i+1) i with | false=>rfl | true=>have:=Nat.eq_of_beq_eq_true hb;omega
  simp [h2]
 | false=>
  cases h2:Nat.beq i (h+1) with
  | true=>have:=Nat.eq_of_beq_eq_true h2;subst this;simp
  | false=>simp [h1,h2]
theorem zw (h i:Nat):kI (h+1) (i+1)=kI h i+1:=by
 unfold kI
 have e1:Nat.beq (i+1) (h+1)=Nat.beq i h:=rfl
 have e2:Nat.beq (i+1) (h+1+1)=Nat.beq i (h+1):=rfl
 rw [e1,e2]
 cases Nat.beq i h<;>cases Nat.beq i (h+1)<;>rfl
theorem wm {α:Type}:∀{h:Nat} {l:List α},h+1<l.length->∀i,(zW h l)[kI h i]?=l[i]?
 | 0,a::b::l,_,i=>by
  match i with
  | 0=>rfl
  | 1=>rfl
  | i+2=>rfl
 | 0,[a],hl,_=>by simp at hl
 | 0,[],hl,_=>by simp at hl
 | h+1,[],hl,_=>by simp at hl
 | h+1,a::l,hl,0=>rfl
 | h+1,a::l,hl,i+1=>by
  rw [zw]
  simp only [zW,List.getElem?_cons_succ]
  exact wm (by simpa using hl) i
theorem mq {α:Type}:∀(h:Nat) (l:List α),(zW h l).length=l.length
 | 0,[]=>rfl
 | 0,[_]=>rfl
 | 0,_::_::_=>rfl
 | _+1,[]=>rfl
 | h+1,a::l=>by simp [zW,mq h l]
theorem yX {h i n:Nat}(hn:h+1<n):kI h i<n↔i<n:=by
 unfold kI
 cases h1:Nat.beq i h with
 | true=>have:=Nat.eq_of_beq_eq_true h1;subst this;simp;omega
 | false=>
  cases h2:Nat.beq i (h+1) with
  | true=>have:=Nat.eq_of_beq_eq_true h2;subst this;simp;omega
  | false=>simp
theorem zJ {ops ops':Array Oper}{h:Nat}{Q:Exit->Act->World->Prop}(hlt:h+1<ops.size)(hsz:ops'.size=ops.size)(hget:∀i,ops'[kI h i]?=(ops[i]?).map (wO h)) :
  ∀(n:Nat) (listed listed':Array Bool) (a:Act) (w:World),listed.size=ops.size->listed'.size=ops.size->(∀j,listed'[kI h j]?=listed[j]?)->
   wpAny P .any ops' Q n listed' a w->wpAny P .any ops Q n listed a w:=by
 have rdy:∀{listed listed':Array Bool},(∀j,listed'[kI h j]?=listed[j]?)->∀i,i∈Region.ready .any ops listed↔kI h i∈Region.ready .any ops' listed':=by
  intro listed listed' hl i
  have hd:∀j b,listed'.getD (kI h j) b=listed.getD j b:=fun j b=>by rw [Array.getD_eq_getD_getElem?,Array.getD_eq_getD_getElem?,hl]
  rw [mem_ready,mem_ready,hd,hget]
  refine and_congr_right fun _=>⟨?_,?_⟩
  ·rintro ⟨o,ho,hall⟩
   refine ⟨wO h o,by rw [ho];rfl,fun e he hb=>?_⟩
   simp only [wO,List.mem_toArray,List.mem_map] at he
   obtain ⟨e0,he0,rfl⟩:=he
   show listed'.getD (kI h e0.on) false=true
   rw [hd];exact hall e0 (by simpa using he0) hb
  ·rintro ⟨o',ho',hall⟩
   cases ho:ops[i]? with
   | none=>rw [ho] at ho';cases ho'
   | some o=>
    rw [ho] at ho'
    injection ho' with ho'
    subst ho'
    refine ⟨o,rfl,fun e he hb=>?_⟩
    have:=hall (Du h e) (by simp only [wO,List.mem_toArray,List.mem_map];exact ⟨e,by simpa using he,rfl⟩) hb
    rw [show (Du h e).on=kI h e.on from rfl,hd] at this
    exact this
 have yld:∀(tmps:Array Value) j,yielded ops' tmps (kI h j)=yielded ops tmps j:=by
  intro tmps j
  unfold yielded
  rw [hget]
  cases ops[j]?<;>rfl
 have wnt:∀(o:Oper) (tmps:Array Value),Region.wanted (wO h o) (yielded ops' tmps)=Region.wanted o (yielded ops tmps):=by
  intro o tmps
  unfold Region.wanted
  cases hg:o.guard with
  | none=>simp [wO,Dv,hg]
  | some p=>simp only [wO,Dv,hg,yld]
 intro n
 induction n with
 | zero=>
  intro listed listed' a w _ _ hl hw
  refine ⟨?_,hw.2⟩
  rw [List.eq_nil_iff_forall_not_mem]
  intro i hi
  have:=(rdy hl i).1 hi
  rw [hw.1] at this;cases this
 | succ n ih=>
  intro listed listed' a w h1 h2 hl hw
  refine ⟨fun he=>hw.1 ?_,fun i hi=>?_⟩
  ·rw [List.eq_nil_iff_forall_not_mem]
   intro i hi
   have:=(rdy hl (kI h i)).2 (by rw [qx];exact hi)
   rw [he] at this;cases this
  ·have h3:=hw.2 _ ((rdy hl i).1 hi)
   have hK:∀a w,wpAny P .any ops' Q n (listed'.setIfInBounds (kI h i) true) a w->wpAny P .any ops Q n (listed.setIfInBounds i true) a w:=by
    intro a w hk
    refine ih _ _ a w (by simpa using h1) (by simpa using h2) (fun j=>?_) hk
    rw [Array.getElem?_setIfInBounds,Array.getElem?_setIfInBounds,hl]
    by_cases hij:i=j
    ·subst hij
     simp only [if_true,h1,h2,yX hlt]
    ·rw [if_neg hij,if_neg fun e=>hij (by rw [<-qx h i,e,qx])]
   unfold wpOp at h3 ⊢
   rw [hget] at h3
   cases ho:ops[i]? with
   | none=>rw [ho] at h3;exact hK _ _ h3
   | some o=>
    rw [ho] at h3
    simp only [Option.map_some,wnt] at h3 ⊢
    split
    ·rename_i hwt
     rw [if_pos hwt] at h3
     exact h3.imp (fun h=>Oper.wp_mono hK (show o.wp P a w _ Q from h)) id
    ·rename_i hwt
     rw [if_neg hwt] at h3
     exact hK _ _ h3
theorem rJ {f:V->V}{d:Nat}{v:V}{l:List V}:∀{n i:Nat} {sl:Nat->V},i<=d->d<i+n->ig ((cH (upd sl d v) i n++l).map f)=upd (ig ((cH sl i n++l).map f)) (d - i) (f v)
 | 0,i,sl,h1,h2=>by omega
 | n+1,i,sl,h1,h2=>by
  funext j
  simp only [cH,List.cons_append,List.map_cons]
  by_cases hd:d=i
  ·subst hd
   have :cH (upd sl d v) (d+1) n=cH sl (d+1) n:=by
    have :∀{n i:Nat},d<i->cH (upd sl d v) i n=cH sl i n:=by
     intro n
     induction n with
     | zero=>intros;rfl
     | succ n ih=>intro i hi;simp only [cH];rw [aH _ _ (by omega),ih (by omega)]
    exact this (by omega)
   rw [this,aP,Nat.sub_self]
   cases j with
   | zero=>rfl
   | succ j=>rfl
  ·have ih:=rJ (f:=f) (v:=v) (l:=l) (sl:=sl) (n:=n) (i:=i+1) (d:=d) (by omega) (by omega)
   cases j with
   | zero=>
    rw [aH _ _ (by omega:(0:Nat)≠d - i)]
    simp only [ig]
    rw [aH _ _ (by omega:i≠d)]
   | succ j=>
    simp only [ig]
    rw [ih]
    unfold upd
    have :Nat.beq (j+1) (d - i)=Nat.beq j (d - (i+1)):=by
     rw [show d - i=(d - (i+1))+1 by omega];rfl
    rw [this]
theorem qi {f:V->V}{l:List V}:∀(n i:Nat) (sl sl':Nat->V),((cH sl i n++l).map f).drop n=((cH sl' i n++l).map f).drop n
 | 0,_,_,_=>rfl
 | n+1,i,sl,sl'=>by
  simp only [cH,List.cons_append,List.map_cons,List.drop_succ_cons]
  exact qi n (i+1) sl sl'
theorem xj (hI:∀g c,c∈E.I g->dh P E E.np g c){o:Op}{s:St}{d R:Nat}{zs:List V}{k:V->St->aD}(h:iI E o s k=some ans)(hl:qI E (cC E.nt s.sl) d o=true)(hd:d<E.nt)(hdead:s.sl d=.dead)(hR:s.hp R=.dead)(hRn:R<s.nx)(hz:∀z∈zs,∀rs,gY rs z=z) :
  ∃v s2,k v s2=some ans/\∀k':V->St->aD,iI E o ⟨upd s.sl d (.bK R 0),upd s.hp R (.box zs),s.nx,s.fr⟩ k'=k' v ⟨upd s2.sl d (.bK R 0),upd s2.hp R (.box zs),s2.nx,s2.fr⟩:=by
 cases o<;>first | (simp only [qI] at hl;cases hl;done) | skip
 rename_i cc
 obtain ⟨callee,args,argTypes⟩:=cc
 cases callee<;>first | (simp only [qI] at hl;cases hl;done) | skip
 rename_i f
 simp only [qI,Bool.and_eq_true] at hl
 obtain ⟨hargs,hl⟩:=hl
 have hx:∀x∈args.toList,cC E.nt (upd s.sl d (.bK R 0)) x=cC E.nt s.sl x:=by
  intro x hxm
  have:=List.all_eq_true.1 hargs x hxm
  cases x with
  | tmp t=>
   simp only [cC,look]
   rw [aH _ _ (fun e=>by subst e;simp [eZ] at this)]
  | const c=>rfl
  | func g=>rfl
  | global g=>rfl
 have hmap:args.toList.map (cC E.nt (upd s.sl d (.bK R 0)))=args.toList.map (cC E.nt s.sl):=List.map_congr_left hx
 have fin:∀(c:fU) (vs:List V),Ap c->c.run vs { s with fr:=cH s.sl 0 E.nt++s.fr } (fun v s'=>k v { s' with sl:=ig s'.fr,fr:=s'.fr.drop E.nt })=some ans->
   ∃v s2,k v s2=some ans/\∀k':V->St->aD,c.run vs ⟨upd s.sl d (.bK R 0),upd s.hp R (.box zs),s.nx,cH (upd s.sl d (.bK R 0)) 0 E.nt++s.fr⟩ (fun v s'=>k' v { s' with sl:=ig s'.fr,fr:=s'.fr.drop E.nt })=k' v ⟨upd s2.sl d (.bK R 0),upd s2.hp R (.box zs),s2.nx,s2.fr⟩:=by
  intro c vs hb hc
  obtain ⟨rs,v,hp2,nx2,h1,_,h2⟩:=hb _ _ _ _ hc
  refine ⟨v,_,h1,fun k'=>?_⟩
  rw [(h2 R (.box zs) hR hRn (fun rs=>by
   simp only [jo]
   rw [List.map_congr_left (g:=id) fun z hzm=>hz z hzm rs,List.map_id])).2 (upd s.sl d (.bK R 0)) (cH (upd s.sl d (.bK R 0)) 0 E.nt++s.fr)]
  have e1:=rJ (f:=eC rs) (v:=.bK R 0) (l:=s.fr) (sl:=s.sl) (n:=E.nt) (i:=0) (d:=d) (Nat.zero_le _) (by omega)
  have e2:=qi (f:=eC rs) (l:=s.fr) E.nt 0 (upd s.sl d (.bK R 0)) s.sl
  simp only
  rw [e1,e2]
  rfl
 cases f<;>first | (simp only [iI] at h;cases h;done) | skip
 case tmp t=>
  simp only [iI] at h ⊢
  split at h
  ·rename_i g caps hf
   rw [hf] at hl
   have hf':cC E.nt (upd s.sl d (.bK R 0)) (.tmp t)=.fn g caps:=by
    simp only [cC,look] at hf ⊢
    rw [aH _ _ (fun e=>by subst e;rw [hdead] at hf;cases hb:Nat.blt t E.nt<;>rw [hb] at hf<;>cases hf)]
    exact hf
   rw [hf',hmap]
   simp only at hl ⊢
   split at h
   ·rename_i c cs hcs
    rw [hcs] at hl
    exact fin c _ ((hI g c (by rw [hcs];simp)).2.2.1 hl).1 h
   ·cases h
  ·cases h
 case func g=>
  simp only [iI] at h ⊢
  rw [hmap]
  simp only [cC] at hl
  split at h
  ·rename_i c cs hcs
   rw [hcs] at hl
   exact fin c _ ((hI g c (by rw [hcs];simp)).2.2.1 hl).1 h
  ·cases h
theorem xI (hT:∀t i,E.T t=some i->fN P E t i)(hG:∀g c,c∈E.G g->Valid P E g c)(hM:lV P E){ops:Array Oper}{h:Nat}{s:St}{k:St->aD}{Q:Exit->Act->World->Prop}{A:cy}{a:Act}{w:World}
  (hback:je ops.toList 0=true) (htb:mH ((masks ops.toList []).drop (h+2)) (h+2)=true) (hfresh:dL (gV (ops.toList.take (h+1)))=true) (hmask:(masks ops.toList []).getD (h+1) 0=2^h - 1)
  (hr:rF E ops.toList h (masks ops.toList []) s k=some ans) (sm:fq E w0 M A s a w) (hz:A.Z=Z0)
  (hQ:∀s' a' w',k s'=some ans->At E w0 M Z0 s' a' w'->Q .normal a' w'):wpAny P .any ops Q ops.size (Array.replicate ops.size false) a w:=by
 unfold rF at hr
 split at hr
 ·cases hr
 rename_i oa hoa
 split at hr
 ·cases hr
 rename_i oc hoc
 split at hr
 ·cases hr
 rename_i d hd
 obtain ⟨hcond,hr⟩:=cO hr
 simp only [Bool.and_eq_true,Bool.not_eq_true',Option.isNone_iff_eq_none] at hcond
 obtain ⟨hal,⟨hnM,hisI⟩,hga,hgc,hdn,hne⟩:=hcond
 have hdn':d<E.nt:=Nat.blt_eq.mp hdn
 have hoa':ops[h]?=some oa:=by simpa using hoa
 have hoc':ops[h+1]?=some oc:=by simpa using hoc
 have hlt:h+1<ops.size:=(Array.getElem?_eq_some_iff.1 hoc').1
 have hhs:(ops.toList.take (h+1)).length=h+1:=by simp;omega
 have hsa:(ops.toList.take (h+1))[h]?=some oa:=by rw [List.getElem?_take,if_pos (Nat.lt_succ_self h)];exact hoa
 obtain ⟨us,g1,g2,_,g4⟩:=kD (us:=[]) (i:=0) hfresh (nF.take _ _) (by omega) rfl hr
 simp only [Nat.zero_add,hhs] at g2 g4
 obtain ⟨hlate,g1⟩:=cO g1
 obtain ⟨ty,hop⟩:∃ty,oa.op=.alloc ty:=by
  cases ho:oa.op<;>rw [ho] at hal<;>first | exact ⟨_,rfl⟩ | cases hal
 obtain ⟨u,hu,t0,kn,q1,q2,_⟩:=g4 h oa hsa
 have ht0:t0=true:=by
  have:=q1 (fun t _=>bif t then some [] else none)
  rw [hga] at this
  cases t0 with
  | true=>rfl
  | false=>simp [guarded] at this
 subst ht0
 obtain ⟨_,hev⟩:=q2 rfl
 obtain ⟨ti,hti⟩:∃ti,E.T ty=some ti:=by
  cases ht:E.T ty with
  | some i=>exact ⟨i,rfl⟩
  | none=>
   have:=hev _ (fun _=>.inl rfl) (fun _ _=>some [])
   rw [hop] at this
   simp [aX,ht] at this
 have hzs:∀z∈ti.cells.map zeroV,∀rs,gY rs z=z:=by
  intro z hz rs
  obtain ⟨c,_,rfl⟩:=List.mem_map.1 hz
  cases c<;>rfl
 generalize hzz:ti.cells.map zeroV=zs at hzs
 have hallq:∀(ρ:Operand->V) hp0 (k':V->List aK->aD),aX E oa.op ρ hp0 (s.nx+64*h) k'=k' (.bK (s.nx+64*h) 0) [.box zs]:=by
  intro ρ hp0 k'
  rw [hop]
  simp only [aX,hti,hzz]
 have huv:u.v=.bK (s.nx+64*h) 0/\u.rs=[.box zs]:=by
  have:=hev _ (fun _=>.inl rfl) (open Classical in fun v rs=>if v=.bK (s.nx+64*h) 0/\rs=[.box zs] then some [] else none)
  rw [hallq] at this
  simp only [and_self,if_true] at this
  exact Classical.byContradiction fun hn=>by rw [if_neg hn] at this;cases this
 have hhead:vW (us.drop h)=.bK (s.nx+64*h) 0:=by
  rw [<-huv.1]
  have :us.drop h=u::us.drop (h+1):=by
   rw [List.drop_eq_getElem_cons (by omega)]
   congr 1
   exact Option.some.inj ((List.getElem?_eq_getElem (by omega)).symm.trans hu)
  rw [this];rfl
 have hbox:uW us h 0=.box zs:=by rw [rO hu,huv.2];rfl
 rw [hhead,hbox] at g1
 have mb:∀j,(2^h - 1).testBit j=true↔j<h:=fun j=>by rw [Nat.testBit_two_pow_sub_one];simp
 have mbh:(2^h - 1).testBit h=false:=by rw [Nat.testBit_two_pow_sub_one];simp
 have htail:∀i,h+1<i->i<ops.size->∀l,l<i->((masks ops.toList []).getD i 0).testBit l=true:=by
  intro i h1 h2 l hl
  have hlen:i<(masks ops.toList []).length:=by rw [jy];simp;exact h2
  have hg:=List.getElem?_eq_getElem hlen
  have:=ny htb (l:=i - (h+2)) (b:=(masks ops.toList [])[i]) (by rw [List.getElem?_drop,show h+2+(i - (h+2))=i by omega];exact hg)
  rw [List.getD_eq_getElem?_getD,hg,Option.getD_some,this,show h+2+(i - (h+2))=i by omega,Nat.testBit_two_pow_sub_one]
  simpa using hl
 have hget:∀i,i<h+1->∃o,ops[i]?=some o/\(ops.toList.take (h+1))[i]?=some o:=by
  intro i hi
  refine ⟨_,Array.getElem?_eq_getElem (show i<ops.size by omega),?_⟩
  rw [List.getElem?_take,if_pos hi];simp [show i<ops.size by omega]
 have hnT:Ac oc.op=false:=by
  unfold qI at hlate
  split at hlate
  ·rename_i ho;rw [ho];rfl
  ·cases hlate
 obtain ⟨f,args,argTypes,hocop⟩:∃f args argTypes,oc.op=.call ⟨.value f,args,argTypes⟩:=by
  unfold qI at hlate
  split at hlate
  ·rename_i f args at' ho;exact ⟨f,args,at',ho⟩
  ·cases hlate
 have hwant:∀a:Act,Region.wanted oc (yielded ops a.tmps)=true:=fun a=>by simp [Region.wanted,hgc]
 have hwanta:∀a:Act,Region.wanted oa (yielded ops a.tmps)=true:=fun a=>by simp [Region.wanted,hga]
 have hdrop1:ops.toList.drop (h+1)=oc::ops.toList.drop (h+2):=by
  rw [List.drop_eq_getElem_cons (by simpa using hlt)]
  have:=(Array.getElem?_eq_some_iff.1 hoc').2
  simp [this]
 have hsd:iB s.sl (2^h - 1).testBit (ops.toList.take (h+1)) us 0 d=.dead:=by
  rw [tu hd hfresh hsa hu,Nat.zero_add,mbh];rfl
 have hRd:jU s.hp s.nx (2^h - 1).testBit us (s.nx+64*h)=.dead:=by
  unfold jU
  have :Nat.blt (s.nx+64*h) s.nx=false:=by
   cases hb:Nat.blt (s.nx+64*h) s.nx with
   | false=>rfl
   | true=>have:=Nat.blt_eq.mp hb;omega
  rw [this]
  simp only [aT]
  rw [show (s.nx+64*h - s.nx) / 64=h by omega,mbh];rfl
 have hslF:iB s.sl always (ops.toList.take (h+1)) us 0=upd (iB s.sl (2^h - 1).testBit (ops.toList.take (h+1)) us 0) d (.bK (s.nx+64*h) 0):=by
  funext t
  have e1:=vA (sl:=s.sl) (D:=(2^h - 1).testBit) (D':=fun j=>(2^h - 1).testBit j||Nat.beq j h) (t:=t) (j:=0) hfresh hsa hu (by simp) (fun l hl=>by
   have :Nat.beq l h=false:=by cases hb:Nat.beq l h with | false=>rfl | true=>have:=Nat.eq_of_beq_eq_true hb;omega
   simp [this])
  have e2:=rA (sl:=s.sl) (D:=fun j=>(2^h - 1).testBit j||Nat.beq j h) (t:=t) (hs:=ops.toList.take (h+1)) (us:=us) (j:=0) (fun i _ hi=>by
   rw [Bool.or_eq_true,mb]
   by_cases hih:i=h
   ·subst hih;exact .inr (by simp)
   ·exact .inl (by omega))
  rw [<-e2,e1,hd,huv.1]
  unfold upd
  by_cases htd:d=t
  ·subst htd;simp
  ·rw [if_neg (by simpa using htd)]
   have :Nat.beq t d=false:=by cases hb:Nat.beq t d with | false=>rfl | true=>exact absurd (Nat.eq_of_beq_eq_true hb).symm htd
   rw [this];rfl
 have hhpF:jU s.hp s.nx always us=upd (jU s.hp s.nx (2^h - 1).testBit us) (s.nx+64*h) (.box zs):=by
  have e1:=vi (hp:=s.hp) (nx:=s.nx) (D:=(2^h - 1).testBit) (D':=fun j=>(2^h - 1).testBit j||Nat.beq j h) hu (by rw [huv.2];simp) mbh (by simp) (fun l hl=>by
   have :Nat.beq l h=false:=by cases hb:Nat.beq l h with | false=>rfl | true=>have:=Nat.eq_of_beq_eq_true hb;omega
   simp [this])
  rw [huv.2] at e1
  simp only [dA] at e1
  rw [<-e1]
  funext r
  unfold jU
  cases Nat.blt r s.nx with
  | true=>rfl
  | false=>
   simp only [aT,always,aL]
   by_cases hj:(r - s.nx) / 64<h+1
   ·have :((2^h - 1).testBit ((r - s.nx) / 64)||Nat.beq ((r - s.nx) / 64) h)=true:=by
     rw [Bool.or_eq_true,mb]
     by_cases hih:(r - s.nx) / 64=h
     ·rw [hih];exact .inr (by simp)
     ·exact .inl (by omega)
    rw [this];rfl
   ·rw [oM (by omega)]
    cases ((2^h - 1).testBit ((r - s.nx) / 64)||Nat.beq ((r - s.nx) / 64) h)<;>rfl
 have hfull:gG E ops.toList (ops.toList.drop (h+1)) { sl:=iB s.sl always (ops.toList.take (h+1)) us 0,hp:=jU s.hp s.nx always us,nx:=s.nx+64*(h+1),fr:=s.fr } k=some ans:=by
  obtain ⟨v,s2,e1,e2⟩:=xj hM.2 (s:={ sl:=iB s.sl (2^h - 1).testBit (ops.toList.take (h+1)) us 0,hp:=jU s.hp s.nx (2^h - 1).testBit us,nx:=s.nx+64*(h+1),fr:=s.fr }) (R:=s.nx+64*h) (zs:=zs) g1 hlate hdn' hsd hRd (by show s.nx+64*h<s.nx+64*(h+1);omega) hzs
  rw [hdrop1]
  simp only [gG,hgc,guarded,aL,St.mG,gn,hnT,hnM,hisI,aT]
  rw [hslF,hhpF]
  rw [e2]
  rw [<-e1]
  congr 1
  unfold St.put
  cases hdc:oc.dst with
  | none=>rfl
  | some e=>
   rw [hdc] at hne
   simp only
   congr 1
   funext t
   unfold upd
   cases h1:Nat.beq t e with
   | false=>rfl
   | true=>
    have:=Nat.eq_of_beq_eq_true h1
    subst this
    have :Nat.beq t d=false:=by simpa using hne
    rw [this];rfl
 have setD:∀{rem:List Nat} {D:Nat->Bool} {i:Nat},rem.Nodup->i<h+1->(∀j,D j=true↔(j<h+1/\j∉rem))->i∈rem->∀j,(D j||Nat.beq j i)=true↔(j<h+1/\j∉rem.erase i):=by
  intro rem D i hnd hih hD him j
  rw [hnd.mem_erase_iff,Bool.or_eq_true,hD j]
  constructor
  ·rintro (⟨h1,h2⟩ | h1)
   ·exact ⟨h1,fun h=>h2 h.2⟩
   ·have:=Nat.eq_of_beq_eq_true h1
    subst this;exact ⟨hih,fun h=>h.1 rfl⟩
  ·rintro ⟨h1,h2⟩
   by_cases hji:j=i
   ·subst hji;exact .inr (by simp)
   ·exact .inl ⟨h1,fun h=>h2 ⟨hji,h⟩⟩
 have otherD:∀{D:Nat->Bool} {i l:Nat},l≠i->(D l||Nat.beq l i)=D l:=by
  intro D i l hli
  have :Nat.beq l i=false:=by
   cases hb:Nat.beq l i with
   | false=>rfl
   | true=>exact absurd (Nat.eq_of_beq_eq_true hb) hli
  simp [this]
 have notD:∀{rem:List Nat} {D:Nat->Bool},(∀j,D j=true↔(j<h+1/\j∉rem))->∀j∈rem,D j=false:=by
  intro rem D hD j hj
  cases hd:D j with
  | false=>rfl
  | true=>exact absurd hj ((hD j).1 hd).2
 have setL:∀{rem:List Nat} {listed:Array Bool} {i m:Nat},rem.Nodup->i<m->i<listed.size->(∀j,j<ops.size->(listed.getD j true=false↔(j∈rem∨m<=j)))->∀j,j<ops.size->((listed.setIfInBounds i true).getD j true=false↔(j∈rem.erase i∨m<=j)):=by
  intro rem listed i m hnd him his hl j hj
  by_cases hij:i=j
  ·subst hij
   simp [his,hnd.mem_erase_iff]
   omega
  ·rw [getD_set_ne true hij,hl j hj,hnd.mem_erase_iff]
   simp [Ne.symm hij]
 have unl:∀{listed:Array Bool} {j:Nat},j<listed.size->listed.getD j false=true->¬listed.getD j true=false:=by
  intro listed j hj h1 h2
  simp [hj] at h1 h2
  rw [h1] at h2;cases h2
 have inb:∀{listed:Array Bool} {j:Nat},listed.getD j false=true->j<listed.size:=by
  intro listed j hj
  rcases Nat.lt_or_ge j listed.size with h' | h'
  ·exact h'
  ·simp [Array.getElem?_eq_none h'] at hj
 have ready:∀{rem:List Nat} {listed:Array Bool} {m:Nat},m<=ops.size->h+1<=m->rem≠[]->(∀j∈rem,j<h+1)->listed.size=ops.size->(∀j,j<ops.size->(listed.getD j true=false↔(j∈rem∨m<=j)))->∃i∈rem,i∈Region.ready .any ops listed:=by
  intro rem listed m hm hhm hne hrl hls hl
  obtain ⟨i,him,hmin⟩:=min_mem hne
  have hih:=hrl i him
  obtain ⟨o,ho1,ho2⟩:=hget i hih
  refine ⟨i,him,mem_ready.2 ⟨(hl i (by omega)).2 (.inl him),o,ho1,fun e he hb=>?_⟩⟩
  have hlt:=iP hback (l:=i) (o:=o) (by simpa using ho1) e (by simpa using he) hb
  have hne:¬listed.getD e.on true=false:=fun hf=>by
   rcases (hl e.on (by omega)).1 hf with hm | hm
   ·have:=hmin _ hm;omega
   ·omega
  have hin:e.on<listed.size:=by omega
  simpa [hin] using hne
 have anc:∀{rem:List Nat} {listed:Array Bool} {D:Nat->Bool} {i:Nat},listed.size=ops.size->(∀j,j<ops.size->(listed.getD j true=false↔(j∈rem∨h+1<=j)))->(∀j,D j=true↔(j<h+1/\j∉rem))->Closed ops listed->i∈Region.ready .any ops listed->
   ∀j,((masks ops.toList []).getD i 0).testBit j=true->j<h+1->D j=true:=by
  intro rem listed D i hls hl hD hc hir j hj hjh
  have hjl:=dH hc hir j hj
  refine (hD j).2 ⟨hjh,fun hm=>?_⟩
  exact unl (inb hjl) hjl ((hl j (by omega)).2 (.inl hm))
 have late:∀(listed:Array Bool) (D:Nat->Bool) (a:Act) (w:World),listed.size=ops.size->(∀j,j<ops.size->(listed.getD j true=false↔(j=h∨h+2<=j)))->Closed ops listed->(∀j,D j=true↔j<h)->
   HI E w0 M Z0 s (ops.toList.take (h+1)) us D a w->oc.wp P a w (fun a w=>wpAny P .any ops Q (ops.size - (h+1)) listed a w) Q:=by
  intro listed D a w hls hl hc hD ⟨A1,i1,i2,i3,i4,i5,i6,i7⟩
  have hDe:D=(2^h - 1).testBit:=by
   funext j
   rw [Bool.eq_iff_iff,hD,mb]
  rw [hDe] at i1 i2 i3
  have hnR:¬A1.al (s.nx+64*h):=by
   intro ha
   rcases i3 _ ha with h1 | ⟨j,h1,h2,h3⟩
   ·omega
   ·have:=(mb j).1 h1;omega
  have sm1:fq E w0 M A1 { sl:=iB s.sl (2^h - 1).testBit (ops.toList.take (h+1)) us 0,hp:=jU s.hp s.nx (2^h - 1).testBit us,nx:=s.nx+64*(h+1),fr:=s.fr } a w:=by
   refine ⟨i1,i2,fun r hr ha=>?_,i4,i5,i7⟩
   have hr':s.nx+64*(h+1)<=r:=hr
   rcases i3 r ha with h1 | ⟨j,h1,h2,h3⟩
   ·omega
   ·have:=(mb j).1 h1;omega
  refine me (X:=xD) sm1 hocop g1 (fun g c hc hfg=>⟨(hM.2 g c hc).1,fun cs hcs=>((hM.2 g c hc).2.2.1 ?_).2⟩) _ Q ?_
  ·obtain ⟨caps,hfg⟩:=hfg
   rw [hocop] at hlate
   simp only [qI,Bool.and_eq_true] at hlate
   have hl2:=hlate.2
   rw [hfg] at hl2
   simp only [hcs] at hl2
   exact hl2
  ·intro v s' cv w' A' e1 e2 e3 e4 ⟨e5,e6⟩
   have hnR':¬A'.al (s.nx+64*h):=fun ha=>(e6 _ ha).elim hnR fun hle=>by
    have :s.nx+64*(h+1)<=s.nx+64*h:=hle
    omega
   have sm2:=e2.put (d:=oc.dst) e3
   rw [show ops.size - (h+1)=(ops.size - (h+2))+1 by omega]
   obtain ⟨i,him,hir⟩:=ready (rem:=[h]) (listed:=listed) (m:=h+2) (by omega) (by omega) (by simp) (by simp) hls (fun j hj=>by rw [hl j hj];simp)
   obtain rfl:i=h:=by simpa using him
   refine ⟨fun he=>(by rw [he] at hir;cases hir),fun l hlr=>?_⟩
   obtain rfl:l=i:=by
    obtain ⟨h0,o',ho',_⟩:=mem_ready.1 hlr
    have hll:=(Array.getElem?_eq_some_iff.1 ho').1
    rcases (hl l hll).1 h0 with hm | hm
    ·exact hm
    ·have h1:=dH hc hlr i (htail l (by omega) hll i (by omega))
     exact (unl (inb h1) h1 ((hl i (by omega)).2 (.inl rfl))).elim
   refine lN hoa' ?_
   rw [if_pos (hwanta _)]
   obtain ⟨v2,rs2,k1,k2⟩:=jf (o:=oa) (M:=M) (w0:=w0) (nx:=s.nx+64*l) (k:=fun v rs=>open Classical in if v=.bK (s.nx+64*l) 0/\rs=[.box zs] then some ans else none) hT hG sm2.hp sm2.ev (ans:=ans) (by rw [hallq];simp)
   simp only at k1
   split at k1
   case isFalse=>cases k1
   rename_i hvr
   obtain ⟨rfl,rfl⟩:=hvr
   refine k2 (fun r hr1 hr2=>?_) _ Q fun cv2 w2 A2 f1 f2 f3 f4=>?_
   ·have :r=s.nx+64*l:=by simp at hr2;omega
    rw [this];exact hnR'
   ·have sm3:fq E w0 M A2 { sl:=(s'.put oc.dst v).sl,hp:=upd s'.hp (s.nx+64*l) (.box zs),nx:=s'.nx,fr:=s'.fr } (a.put oc.dst cv) w2:=by
     have hput:(s'.put oc.dst v).hp=s'.hp/\(s'.put oc.dst v).fr=s'.fr/\(s'.put oc.dst v).nx=s'.nx:=by cases oc.dst<;>exact ⟨rfl,rfl,rfl⟩
     refine ⟨?_,fun i x hx=>(sm2.tm i x hx).step f2 sm2.hp (fun _ h=>h),fun r hr ha=>?_,sm2.df,sm2.sz,?_⟩
     ·rw [hput.1] at f1;exact f1
     ·rcases f4 r ha with h1 | h1
      ·exact e2.nx r hr h1
      ·have e5':s.nx+64*(l+1)<=s'.nx:=e5
       have hr':s'.nx<=r:=hr
       have:=h1.2
       simp at this
       omega
     ·have:=sm2.fr.mono fun _ _ h=>h.step f2 sm2.hp (fun _ h=>h)
      rw [hput.2.1] at this;exact this
    have sm4:=sm3.put (d:=some d) f3
    rw [hd]
    refine jQ hT hG hM (h:=l+1) hback htail (ops.size - (l+2)) (n:=l+2) (by omega) (by omega) (by simpa using hls) (fun j hj=>?_) (hc.set hlr) sm4 e1 fun s'' a'' w'' A'' h1 h2 h3=>hQ s'' a'' w'' h1 ⟨A'',h2,h3.trans (f2.Z.trans (e4.trans i6))⟩
    by_cases hij:l=j
    ·subst hij
     have :l<listed.size:=by omega
     simp [this]
    ·rw [getD_set_ne true hij,hl j hj];omega
 have main:∀(n:Nat) (rem:List Nat) (listed:Array Bool) (D:Nat->Bool) (a:Act) (w:World),rem.length=n->rem.Nodup->(∀j∈rem,j<h+1)->listed.size=ops.size->(∀j,j<ops.size->(listed.getD j true=false↔(j∈rem∨h+1<=j)))->
   (∀j,D j=true↔(j<h+1/\j∉rem))->Closed ops listed->HI E w0 M Z0 s (ops.toList.take (h+1)) us D a w->wpAny P .any ops Q (n+(ops.size - (h+1))) listed a w:=by
  intro n
  induction n with
  | zero=>
   intro rem listed D a w hn _ _ hls hl hD hc hi
   have hrem:rem=[]:=List.eq_nil_of_length_eq_zero hn
   subst hrem
   obtain ⟨A1,sm1,hz1⟩:=hi.zS hhs g2 (fun j=>by rw [hD j];simp)
   rw [Nat.zero_add]
   exact jQ hT hG hM (h:=h+1) hback htail (ops.size - (h+1)) (n:=h+1) (by omega) (Nat.le_refl _) hls (fun j hj=>by rw [hl j hj];simp) hc sm1 hfull fun s' a' w' A' e1 e2 e3=>hQ s' a' w' e1 ⟨A',e2,e3.trans hz1⟩
  | succ n ih=>
   intro rem listed D a w hn hnd hrl hls hl hD hc hi
   rw [show n+1+(ops.size - (h+1))=(n+(ops.size - (h+1)))+1 by omega]
   have hner:rem≠[]:=by rintro rfl;simp at hn
   refine ⟨fun he'=>?_,fun i hir=>?_⟩
   ·obtain ⟨i,_,hir⟩:=ready (rem:=rem) (m:=h+1) (by omega) (Nat.le_refl _) hner hrl hls hl
    rw [he'] at hir;cases hir
   ·obtain ⟨h0,o',ho',_⟩:=mem_ready.1 hir
    have hil:=(Array.getElem?_eq_some_iff.1 ho').1
    by_cases him:i∈rem
    ·have hih:=hrl i him
     obtain ⟨o,ho1,ho2⟩:=hget i hih
     obtain ⟨u,hu,hok⟩:=g4 i o ho2
     refine nh (D':=fun j=>D j||Nat.beq j i) hT hG hfresh hi ho2 ho1 hu (notD hD i him) (by simp) (fun l hli=>otherD hli) (fun j hj=>anc hls hl hD hc hir j hj (by have:=iH hback hil hj;omega)) hok fun a' w' hi'=>?_
     exact ih (rem.erase i) _ _ a' w' (by rw [List.length_erase_of_mem him];omega) (hnd.erase i) (fun j hj=>hrl j (List.mem_of_mem_erase hj)) (by simpa using hls) (setL hnd hih (by omega) hl) (setD hnd hih hD him) (hc.set hir) hi'
    ·have hih:h+1<=i:=((hl i hil).1 h0).resolve_left him
     have hi2:i=h+1:=by
      rcases Nat.lt_or_ge (h+1) i with hlt' | hge
      ·have h1:=dH hc hir (h+1) (htail i hlt' hil (h+1) hlt')
       exact (unl (inb h1) h1 ((hl (h+1) hlt).2 (.inr (Nat.le_refl _)))).elim
      ·omega
     subst hi2
     have hsub:∀j∈rem,j=h:=by
      intro j hj
      have h1:=hrl j hj
      rcases Nat.lt_or_ge j h with h2 | h2
      ·have h3:=dH hc hir j (by rw [hmask];exact (mb j).2 h2)
       exact (unl (inb h3) h3 ((hl j (by omega)).2 (.inl hj))).elim
      ·omega
     have hrem:rem=[h]:=by
      cases rem with
      | nil=>exact (hner rfl).elim
      | cons x xs=>
       have hx:=hsub x (by simp)
       subst hx
       cases xs with
       | nil=>rfl
       | cons y ys=>
        have hy:=hsub y (by simp)
        subst hy
        simp at hnd
     subst hrem
     have hn0:n=0:=by simp at hn;exact hn
     subst hn0
     refine lN hoc' ?_
     rw [if_pos (hwant a)]
     rw [Nat.zero_add]
     refine late _ D a w (by simpa using hls) (fun j hj=>?_) (hc.set hir) (fun j=>by rw [hD j];simp;omega) hi
     by_cases hij:h+1=j
     ·subst hij
      have :h+1<listed.size:=by omega
      simp [this]
     ·rw [getD_set_ne true hij,hl j hj]
      simp
      omega
 have hfin:=main (h+1) (List.range (h+1)) (Array.replicate ops.size false) (fun _=>false) a w (by simp) List.nodup_range (fun j hj=>by simpa using hj) (by simp) (fun j hj=>by simp [hj];omega) (fun j=>by simp) (fun i hi=>by
   by_cases hlt:i<ops.size<;>simp [hlt] at hi) ⟨A,?_,fun i x hx=>?_,fun r hr=>.inl (Nat.lt_of_not_le fun hle=>sm.nx r hle hr),sm.df,sm.sz,hz,sm.fr⟩
 ·rw [show h+1+(ops.size - (h+1))=ops.size by omega] at hfin
  exact hfin
 ·have :jU s.hp s.nx (fun _=>false) us=s.hp:=by
   funext r
   unfold jU
   cases hb:Nat.blt r s.nx with
   | true=>rfl
   | false=>
    simp only [aT]
    refine (sm.hp.al r (sm.nx r ?_)).symm
    exact Nat.le_of_not_lt fun h=>by rw [Nat.blt_eq.mpr h] at hb;cases hb
  rw [this];exact sm.hp
 ·rcases mQ (sl:=s.sl) (D:=fun _=>false) (t:=i) (fun _=>rfl) (hs:=ops.toList.take (h+1)) (us:=us) (j:=0) with h | h
  ·rw [h];exact trivial
  ·rw [h];exact sm.tm i x hx
theorem mU {o:Op}{us:List Operand}(h:dU o=some us):(∀cs b,o≠.select cs b)/\∀x∈o.operands,x∈us:=by
 cases o<;>simp only [dU] at h<;>first | (cases h;done) | skip
 case call c=>
  obtain ⟨callee,args,argTypes⟩:=c
  refine ⟨fun _ _ e=>(by cases e),fun x hx=>?_⟩
  simp only [Op.operands,Call.operands] at hx
  cases callee<;>first | (simp only at h;cases h;done) | skip
  all_goals
   simp only [Option.some.injEq] at h
   subst h
   simpa using hx
 all_goals
  simp only [Option.some.injEq] at h
  subst h
  refine ⟨fun _ _ e=>(by cases e),fun x hx=>?_⟩
  simp [Op.operands] at hx ⊢
  try exact hx
theorem iy {us:List Operand}{m:Nat}:∀{os:List Oper} {j l:Nat} {o:Oper} {d:Nat},qN us m os j=true->os[l]?=some o->o.dst=some d->m.testBit (j+l)=true∨∀x∈us,eZ x d=false
 | [],_,l,_,_,_,h,_=>by simp at h
 | o'::os,j,0,o,d,hb,h,hd=>by
  simp at h
  subst h
  simp only [qN,hd,Bool.and_eq_true,Bool.or_eq_true,List.all_eq_true,Bool.not_eq_true'] at hb
  exact hb.1
 | o'::os,j,l+1,o,d,hb,h,hd=>by
  simp only [qN,Bool.and_eq_true] at hb
  have:=iy hb.2 (l:=l) (by simpa using h) hd
  rwa [show j+1+l=j+(l+1) by omega] at this
theorem iX {o o':Oper}{d:Nat}:∀{os:List Oper} {i j:Nat},dL (gV os)=true->os[i]?=some o->os[j]?=some o'->o.dst=some d->o'.dst=some d->i=j
 | [],i,_,_,h,_,_,_=>by simp at h
 | x::os,0,0,_,_,_,_,_=>rfl
 | x::os,0,j+1,hf,h1,h2,hd,hd'=>by
  simp at h1
  subst h1
  have hm:=lY hd' (hs:=os) (i:=j) (by simpa using h2)
  simp only [gV,hd,dL,Bool.and_eq_true,List.all_eq_true] at hf
  have:=hf.1 d hm
  simp at this
 | x::os,i+1,0,hf,h1,h2,hd,hd'=>by
  simp at h2
  subst h2
  have hm:=lY hd (hs:=os) (i:=i) (by simpa using h1)
  simp only [gV,hd',dL,Bool.and_eq_true,List.all_eq_true] at hf
  have:=hf.1 d hm
  simp at this
 | x::os,i+1,j+1,hf,h1,h2,hd,hd'=>by
  have hf':dL (gV os)=true:=by
   simp only [gV] at hf
   cases hx:x.dst with
   | none=>rw [hx] at hf;exact hf
   | some e=>rw [hx] at hf;simp only [dL,Bool.and_eq_true] at hf;exact hf.2
  have:=iX (os:=os) hf' (i:=i) (j:=j) (by simpa using h1) (by simpa using h2) hd hd'
  omega
theorem pW {o:Oper}{us:List Operand}(hu:dU o.op=some us){a b:Act}(hab:∀x∈us,a.eval x=b.eval x){w:World}{K K':Act->World->Prop}{Q:Exit->Act->World->Prop}
  (hd:∀b' w',K' b' w'->b'.defers=[]) (h:o.wp P b w K' (fun _ _ _=>False)) (hK:∀v w',K' (b.put o.dst v) w'->K (a.put o.dst v) w'):o.wp P a w K Q:=by
 obtain ⟨h1,h2⟩:=mU hu
 have he:execOp a.eval o=execOp b.eval o:=execOp_congr o h1 fun x hx=>hab x (h2 x hx)
 unfold Oper.wp at *
 rw [he]
 generalize (execOp b.eval o).run P w=r at *
 cases r with
 | ok n w'=>
  cases n<;>simp only [Oper.upon] at h ⊢
  case value v=>exact hK _ _ h
  case skip=>exact hK _ _ h
  case defer d=>
   have:=hd _ _ h
   cases hdst:o.dst<;>rw [hdst] at this<;>simp [Act.put] at this
  case enter f args=>exact Calls.mono h (fun e w'' he=>by
   cases e with
   | returned v=>exact hK _ _ he
   | panicked c=>exact he.elim
   | outgrown=>obtain ⟨_,_,h⟩:=he;exact h.elim)
  case row r args=>exact Rows.mono h (fun _ _ he=>hK _ _ he)
 | halt x w'=>cases x<;>simp only [Oper.upon] at h ⊢<;>exact h.elim
def Re (E:Env)(s:St)(o:Oper):Prop:=∃d,o.dst=some d/\∀k':V->List aK->aD,aX E o.op (cC E.nt s.sl) s.hp s.nx k'=k' (s.sl d) []
def Pu (P:Program)(b:Act)(o:Oper):Prop:=∃v,b.put o.dst v=b/\∀w:World,(execOp b.eval o).run P w=.ok (.value v) w
theorem gA {o:Oper}(h:ga o=true):o.guard=none/\∃d z,o.dst=some d/\dU o.op=some [.tmp z]/\((∃t,o.op=.load t (.tmp z))∨(∃t f,o.op=.fieldAddr t (.tmp z) f)):=by
 unfold ga at h
 split at h
 ·cases h
 rename_i hg
 split at h
 ·cases h
 rename_i d hd
 refine ⟨hg,d,?_⟩
 split at h
 ·rename_i t z ho;exact ⟨z,hd,by rw [ho];rfl,.inl ⟨t,ho⟩⟩
 ·rename_i t z f ho;exact ⟨z,hd,by rw [ho];rfl,.inr ⟨t,f,ho⟩⟩
 ·cases h
theorem nv {o:Oper}(h:qv o=true):o.guard=none/\∃d,o.dst=some d/\((∃z,o.op=.move (.tmp z))∨(∃z i,o.op=.extract (.tmp z) i)∨(∃p t x y ty,o.op=.binOp p t x y ty/\yK p=true/\qj y=false)):=by
 unfold qv at h
 split at h
 ·cases h
 rename_i hg
 split at h
 ·cases h
 rename_i d hd
 refine ⟨hg,d,hd,?_⟩
 split at h
 ·rename_i z ho;exact .inl ⟨z,ho⟩
 ·rename_i z i ho;exact .inr (.inl ⟨z,i,ho⟩)
 ·rename_i p t x y ty ho
  simp only [Bool.and_eq_true,Bool.not_eq_true'] at h
  exact .inr (.inr ⟨p,t,x,y,ty,ho,h.1,h.2⟩)
 ·cases h
theorem wY {o:Oper}(h:iq o=true):o.guard=none/\∃d,o.dst=some d:=by
 unfold iq at h
 rw [Bool.or_eq_true] at h
 rcases h with h | h
 ·obtain ⟨h1,d,z,h2,_⟩:=gA h;exact ⟨h1,d,h2⟩
 ·obtain ⟨h1,d,h2,_⟩:=nv h;exact ⟨h1,d,h2⟩
theorem Ao {o:Oper}(h:iq o=true)(s:St)(k:V->St->aD):gn E o.op s k=aX E o.op (cC E.nt s.sl) s.hp s.nx fun v rs=>k v (s.vu rs):=by
 unfold iq at h
 rw [Bool.or_eq_true] at h
 rcases h with h | h
 ·obtain ⟨_,d,z,_,_,h⟩:=gA h
  rcases h with ⟨t,h⟩ | ⟨t,f,h⟩<;>rw [h]<;>rfl
 ·obtain ⟨_,d,_,h⟩:=nv h
  rcases h with ⟨z,h⟩ | ⟨z,i,h⟩ | ⟨p,t,x,y,ty,h,_,hn⟩<;>rw [h]
  ·rfl
  ·rfl
  ·simp only [gn,Ac,hn,Aj,uP,aT]
open Classical in
theorem BF {o:Oper}{s:St}{k:V->List aK->aD}(hf:ga o=true)(h:aX E o.op (cC E.nt s.sl) s.hp s.nx k=some ans):∃v,k v []=some ans/\∀k':V->List aK->aD,aX E o.op (cC E.nt s.sl) s.hp s.nx k'=k' v []:=by
 obtain ⟨v,rs,h1,h2⟩:=kU h
 have h3:=h2 s.hp (fun _=>.inl rfl)
 have :rs=[]:=by
  refine Classical.byContradiction fun hn=>?_
  have h4:=h3 fun _ rs=>if rs=[] then none else some []
  simp only [hn,if_false] at h4
  clear h h2 h3
  obtain ⟨_,d,z,_,_,hop⟩:=gA hf
  rcases hop with ⟨t,hop⟩ | ⟨t,f,hop⟩<;>rw [hop] at h4<;>simp only [aX,if_true] at h4
  ·repeat' (split at h4)
   all_goals first | (cases h4;done) | skip
   all_goals (repeat' first | (cases h4;done) | (obtain ⟨_,h4⟩:=cO h4) | (split at h4))
   all_goals first | (cases h4;done) | skip
   all_goals
    rename_i hx _ _
    revert h4
    cases (E.mt&&_)<;>intro h4<;>(repeat' first | (cases h4;done) | (split at h4) | (simp only [aL,aT] at h4) | (obtain ⟨_,h4⟩:=cO h4))
  ·repeat' (split at h4)
   all_goals cases h4
 subst this
 exact ⟨v,h1,h3⟩
theorem AQ (hT:∀t i,E.T t=some i->fN P E t i){A:cy}{s:St}{b:Act}{w:World}{o:Oper}{k:V->List aK->aD}(hf:iq o=true)(hs:nQ E s o.op=true)(sm:fq E w0 M A s b w)(h:aX E o.op (cC E.nt s.sl) s.hp s.nx k=some ans) :
  ∃v cv,k v []=some ans/\(execOp b.eval o).run P w=.ok (.value cv) w/\V2 E.cells w A v cv/\((ga o=true/\∀k':V->List aK->aD,aX E o.op (cC E.nt s.sl) s.hp s.nx k'=k' v [])∨(ga o=false/\∀w':World,(execOp b.eval o).run P w'=.ok (.value cv) w')):=by
 cases hm:ga o with
 | true=>
  obtain ⟨v,h1,h2⟩:=BF hm h
  have key:∀{k:V->List aK->aD},aX E o.op (cC E.nt s.sl) s.hp s.nx k=some ans->sS P E o b w A k ans:=by
   intro k h
   obtain ⟨_,d,z,_,_,hop⟩:=gA hm
   rcases hop with ⟨t,hop⟩ | ⟨t,f,hop⟩<;>rw [hop] at h
   ·exact yY hT sm.hp sm.ev hop h
   ·exact oX hT sm.hp sm.ev hop h
  obtain ⟨v',cv,h3,h4,h5⟩:=key (k:=fun v' rs=>open Classical in if v'=v then some ans else none) (by rw [h2];simp)
  have hv:v'=v:=Classical.byContradiction fun hn=>by simp only [if_neg hn] at h3;cases h3
  subst hv
  exact ⟨v',cv,h1,h4,h5,.inl ⟨rfl,h2⟩⟩
 | false=>
  unfold iq at hf
  rw [hm,Bool.false_or] at hf
  obtain ⟨_,d,_,hop⟩:=nv hf
  rcases hop with ⟨z,hop⟩ | ⟨z,i,hop⟩ | ⟨p,t,x,y,ty,hop,hp,_⟩<;>rw [hop] at h
  ·exact ⟨_,b.eval (.tmp z),h,by simp [execOp,hop],sm.ev _,.inr ⟨rfl,fun w'=>by simp [execOp,hop]⟩⟩
  ·have hc:=sm.ev (.tmp z)
   simp only [aX] at h
   split at h
   ·rename_i vs he
    rw [he] at hc
    obtain ⟨l,h1,h2⟩:=hc
    split at h
    ·rename_i v hv
     obtain ⟨y,hy,hvy⟩:=h2.get hv
     exact ⟨_,y,h,by simp [execOp,hop,h1,Instr.extract,hy],hvy.v2,.inr ⟨rfl,fun w'=>by simp [execOp,hop,h1,Instr.extract,hy]⟩⟩
    ·cases h
   ·cases h
  ·have hx:=sm.ev x
   have hy:=sm.ev y
   rw [hop] at hs
   simp only [nQ] at hs
   split at hs
   case h_2=>cases hs
   rename_i ik m hx0
   split at hs
   case h_2=>cases hs
   rename_i jk n hy0
   rw [hx0] at hx
   rw [hy0] at hy
   have hx':b.eval x=.int ik m:=hx
   have hy':b.eval y=.int jk n:=hy
   simp only [aX,binOp,hx0,hy0] at h
   cases p<;>first | (cases hp;done) | skip
   all_goals
    cases hk:iN ik jk<;>simp only [hk,aL,aT] at h
    ·cases h
    obtain rfl:=gi hk
    simp only [nM] at h
    refine ⟨_,.int ik _,h,?_,rfl,.inr ⟨rfl,fun w'=>?_⟩⟩<;>simp [execOp,hop,hx',hy',eqGuard,Go.binOp,Op.intArith]
def Kept (E:Env)(s s':St)(f:Oper):Prop:=∀d z,f.dst=some d->dU f.op=some [.tmp z]->
 (∃rs,(z<E.nt->s'.sl z=eC rs (s.sl z))/\(d<E.nt->s'.sl d=eC rs (s.sl d))/\
  ∀t r q,f.op=.load t (.tmp z)->look E.nt s.sl z=.bK r q->∀cs,s.hp r=.box cs->s'.hp r=.box (cs.map (gY rs))/\((∃i,E.T t=some i/\i.agg=true)∨(s.sl d).leaf=true))∨
 (s'.sl z=s.sl z/\s'.sl d=s.sl d/\∀r,¬s.hp r=.dead->s'.hp r=s.hp r)
theorem yA {rs:List Nat}{v:V}(h:v.leaf=true):eC rs v=gY rs v:=by
 cases v<;>first | rfl | cases h
theorem Cr {α β:Type}(f:α->β)(cs:List α)(o n:Nat):cut (cs.map f) o n=(cut cs o n).map f:=by
 simp [cut,List.map_drop,List.map_take]
theorem BV {s s':St}{f:Oper}{o:Op}(hf:ga f=true)(hr:Re E s f)(hok:lq E s o f=true)(hk:Kept E s s' f):Re E s' f:=by
 obtain ⟨_,d,z,hd,hu,hop⟩:=gA hf
 obtain ⟨d',hd',he⟩:=hr
 obtain rfl:d=d':=by rw [hd] at hd';injection hd'
 refine ⟨d,hd,fun k'=>?_⟩
 have hdn:d<E.nt:=by
  unfold lq at hok
  rcases hop with ⟨t,hop⟩ | ⟨t,fi,hop⟩<;>rw [hop] at hok<;>simp only [hd,Bool.and_eq_true] at hok<;>exact Nat.blt_eq.mp hok.1
 unfold lq at hok
 have hk:=hk d z hd hu
 have hlook:∀{v:V},look E.nt s.sl z=v->(v≠.undef)->z<E.nt:=by
  intro v h1 h2
  unfold look at h1
  cases hb:Nat.blt z E.nt with
  | true=>exact Nat.blt_eq.mp hb
  | false=>rw [hb] at h1;exact (h2 h1.symm).elim
 have look2:z<E.nt->look E.nt s'.sl z=s'.sl z/\look E.nt s.sl z=s.sl z:=by
  intro h
  unfold look
  rw [Nat.blt_eq.mpr h];exact ⟨rfl,rfl⟩
 rcases hop with ⟨t,hop⟩ | ⟨t,fi,hop⟩<;>rw [hop] at he hok ⊢
 ·
  simp only [Bool.and_eq_true] at hok
  replace hok:=hok.2.2.2
  split at hok
  case h_2=>cases hok
  rename_i r q hrq
  have hz:=hlook hrq (by simp)
  simp only [aX,cC,hrq] at he
  have h0:=he fun _ _=>some []
  split at h0
  ·cases h0
  rename_i i hi
  split at h0
  case h_2=>cases h0
  rename_i cs hcs
  obtain ⟨hle,_⟩:=cO h0
  rw [hi] at he
  simp only [hcs,hle,aL] at he
  have hv:s.sl d=mkVar i.agg (cut cs q i.cells.length):=by
   have:=he fun v _=>open Classical in if v=mkVar i.agg (cut cs q i.cells.length) then some [] else none
   simp only [if_true] at this
   exact Classical.byContradiction fun hn=>by rw [if_neg hn] at this;cases this
  rcases hk with ⟨rs,k1,k2,k3⟩ | ⟨k1,k2,k3⟩
  ·obtain ⟨k4,k5⟩:=k3 t r q hop hrq cs hcs
   have e1:look E.nt s'.sl z=.bK r q:=by
    rw [(look2 hz).1,k1 hz,<-(look2 hz).2,hrq];rfl
   simp only [aX,cC,e1,hi,k4,List.length_map,hle,aL,k2 hdn]
   rw [hv,Cr]
   congr 1
   cases hag:i.agg with
   | true=>simp [mkVar,eC]
   | false=>
    have hlf:(s.sl d).leaf=true:=by
     rcases k5 with ⟨i',h1,h2⟩ | h
     ·rw [hi] at h1;injection h1 with h1;subst h1;rw [hag] at h2;cases h2
     ·exact h
    rw [hv,hag] at hlf
    rw [yA hlf]
    simp only [mkVar,aT]
    cases hcut:cut cs q i.cells.length with
    | nil=>rfl
    | cons x xs=>rfl
  ·have e1:look E.nt s'.sl z=.bK r q:=by rw [(look2 hz).1,k1,<-(look2 hz).2,hrq]
   simp only [aX,cC,e1,hi,k3 r (by rw [hcs];simp),hcs,hle,aL,k2,hv]
 ·
  simp only [Bool.and_eq_true] at hok
  replace hok:=hok.2.2.2
  have key:∀v,look E.nt s.sl z=v->(∀rs,eC rs v=v)->v≠.undef->aX E (.fieldAddr t (.tmp z) fi) (cC E.nt s'.sl) s'.hp s'.nx k'=k' (s'.sl d) []:=by
   intro v hv h1 h2
   have hz:=hlook hv h2
   have e1:look E.nt s'.sl z=look E.nt s.sl z:=by
    rw [(look2 hz).1,(look2 hz).2]
    rw [(look2 hz).2] at hv
    rcases hk with ⟨rs,k1,_⟩ | ⟨k1,_⟩
    ·rw [k1 hz,hv,h1]
    ·exact k1
   have e2:∀k'',aX E (.fieldAddr t (.tmp z) fi) (cC E.nt s'.sl) s'.hp s'.nx k''=aX E (.fieldAddr t (.tmp z) fi) (cC E.nt s.sl) s.hp s.nx k'':=by
    intro k''
    simp only [aX,cC,e1]
   rw [e2,he]
   congr 1
   rcases hk with ⟨rs,_,k2,_⟩ | ⟨_,k2,_⟩
   ·rw [k2 hdn]
    have h3:s.sl d=.dead∨∀rs,eC rs (s.sl d)=s.sl d:=by
     have h0:=he fun v _=>open Classical in if (∀rs,eC rs v=v) then some [] else none
     refine .inr (Classical.byContradiction fun hn=>?_)
     rw [if_neg hn] at h0
     simp only [aX,cC,hv] at h0
     split at h0
     ·have:=he fun _ _=>some []
      simp only [aX,cC,hv] at this
      rename_i hT0
      rw [hT0] at this;cases this
     ·rename_i i hi
      have hsome:=he fun _ _=>some []
      simp only [aX,cC,hv,hi] at hsome
      split at h0
      ·rename_i hf0
       rw [hf0] at hsome;cases hsome
      ·rename_i p hp
       rw [hp] at hsome
       simp only at hsome
       split at h0
       ·exact absurd h0 (by simp [eC,gY])
       ·exact absurd h0 (by simp [eC,gY])
       ·rename_i dd es cs q0
        have h9:∀rs,eC rs (.cL dd es cs (q0+p.1))=.cL dd es cs (q0+p.1):=fun rs=>by
         have:=h1 rs
         cases dd with
         | none=>rfl
         | some q=>
          simp only [eC,gY] at this ⊢
          cases hb:jW rs q with
          | true=>rw [hb] at this;cases this
          | false=>rfl
        exact absurd h0 (by simp [h9])
       ·rename_i h5 h6 h7
        split at hsome
        ·exact h5 _ _ rfl
        ·exact h6 _ _ _ _ rfl
        ·exact h7 _ _ _ _ rfl
        ·cases hsome
    rcases h3 with h3 | h3
    ·rw [h3];rfl
    ·rw [h3]
   ·rw [k2]
  split at hok
  ·rename_i r q hrq;exact key _ hrq (fun _=>rfl) (by simp)
  ·rename_i r sz j q hrq;exact key _ hrq (fun _=>rfl) (by simp)
  ·cases hok
theorem sn {f:V->V}{sl:Nat->V}{l:List V}:∀{n i j:Nat},j<n->ig ((cH sl i n++l).map f) j=f (sl (i+j))
 | 0,i,j,h=>by omega
 | n+1,i,0,h=>rfl
 | n+1,i,j+1,h=>by
  simp only [cH,List.cons_append,List.map_cons,ig]
  rw [sn (n:=n) (i:=i+1) (j:=j) (by omega)]
  congr 2;omega
theorem pg {fs:List (Nat×Nat)}{ρ ρ':Operand->V}:∀{ps:List (Nat×Operand)} {cs:List V} {k:List V->aD},(∀p∈ps,ρ p.2=ρ' p.2)->jJ E fs ρ ps cs k=jJ E fs ρ' ps cs k
 | [],_,_,_=>rfl
 | p::ps,cs,k,h=>by
  simp only [jJ]
  cases fs[p.1]? with
  | none=>rfl
  | some f=>
   simp only
   rw [h p (by simp)]
   congr 1
   funext new
   rw [pg fun q hq=>h q (List.mem_cons_of_mem _ hq)]
theorem su {e:Nat}{ρ ρ':Operand->V}:∀{ps:List (Nat×Operand)} {j:Nat} {k:List V->aD},(∀p∈ps,ρ p.2=ρ' p.2)->ru E e ρ ps j k=ru E e ρ' ps j k
 | [],_,_,_=>rfl
 | p::ps,j,k,h=>by
  simp only [ru]
  rw [h p (by simp)]
  congr 2
  funext new
  rw [su fun q hq=>h q (List.mem_cons_of_mem _ hq)]
theorem qW {o:Op}{us:List Operand}(hu:dU o=some us){ρ ρ':Operand->V}(h:∀x∈us,ρ x=ρ' x){hp:Nat->aK}{nx:Nat}{k:V->List aK->aD}:aX E o ρ hp nx k=aX E o ρ' hp nx k:=by
 cases o<;>simp only [dU] at hu<;>first | (cases hu;done) | skip
 case call c=>
  obtain ⟨callee,args,argTypes⟩:=c
  cases callee with
  | invoke r n=>simp only at hu;cases hu
  | value f=>
   simp only [Option.some.injEq] at hu
   subst hu
   have h1:=h f (by simp)
   have h2:args.toList.map ρ=args.toList.map ρ':=List.map_congr_left fun x hx=>h x (List.mem_cons_of_mem _ hx)
   simp only [aX,h1,h2]
  | builtin b=>
   simp only [Option.some.injEq] at hu
   subst hu
   generalize hal:args.toList=al at h
   cases b<;>simp only [aX,hal]
   case len=>
    split
    ·rename_i x
     rw [h x (by simp)]
    ·rfl
   case append=>
    split
    ·rename_i x y
     rw [h x (by simp),h y (by simp)]
    ·rfl
   case min=>
    split
    ·rename_i x y
     rw [h x (by simp),h y (by simp)]
    ·rfl
   case max=>
    split
    ·rename_i x y
     rw [h x (by simp),h y (by simp)]
    ·rfl
 all_goals
  simp only [Option.some.injEq] at hu
  subst hu
 case build t ps=>
  simp only [aX]
  have :∀p∈ps.toList,ρ p.2=ρ' p.2:=fun p hp=>h _ (List.mem_map.2 ⟨p,hp,rfl⟩)
  cases E.T t with
  | none=>rfl
  | some i=>simp only [pg this]
 case buildSlice t n ps=>
  simp only [aX]
  have :∀p∈ps.toList,ρ p.2=ρ' p.2:=fun p hp=>h _ (List.mem_map.2 ⟨p,hp,rfl⟩)
  cases (E.T t).bind TI.el with
  | none=>rfl
  | some el=>simp only [su this]
 case slice t x lo hi mx=>
  have hx:=h x (by simp)
  have hb:∀(o:Option Operand) (d:Int) (k:Int->aD),o.toList ⊆ x::(lo.toList++(hi.toList++mx.toList))->gy ρ o d k=gy ρ' o d k:=by
   intro o d k hs
   cases o with
   | none=>rfl
   | some y=>
    simp only [gy]
    rw [h y (hs (by simp))]
  have h1:=fun d k=>hb lo d k (by intro y hy;simp at hy ⊢;simp [hy])
  have h2:=fun d k=>hb hi d k (by intro y hy;simp at hy ⊢;simp [hy])
  have h3:=fun d k=>hb mx d k (by intro y hy;simp at hy ⊢;simp [hy])
  simp only [aX,gE,hx]
  have hR:∀el,lQ ρ el lo hi mx k=lQ ρ' el lo hi mx k:=by
   intro el
   funext d e xs
   unfold lQ
   cases mx with
   | none=>simp only [h1,h2]
   | some m=>
    cases lo with
    | some _=>rfl
    | none=>
     cases hi with
     | none=>rfl
     | some h'=>simp only [h2,h3]
  simp only [hR]
  cases ρ' x<;>first | rfl | skip
  case str s=>
   cases mx with
   | none=>simp only [h1,h2]
   | some m=>rfl
  case nil=>
   cases (E.T t).bind TI.el with
   | none=>rfl
   | some el=>
    simp only
    cases mx with
    | none=>simp only [h1,h2]
    | some m=>
     cases lo with
     | some _=>rfl
     | none=>
      cases hi with
      | none=>rfl
      | some h'=>simp only [h2,h3]
 all_goals first
  | rfl
  | (rename_i x;simp only [aX,h x (by simp)];done)
  | (simp only [aX];simp only [h _ (List.mem_cons_self ..),h _ (List.mem_cons_of_mem _ (List.mem_cons_self ..))];done)
  | (simp_all [aX];done)
abbrev EA:=Nat×Nat×Nat×V×aK
def gm (s:St)(e:EA):St:={ sl:=upd s.sl e.2.1 e.2.2.2.1,hp:=upd s.hp e.2.2.1 e.2.2.2.2,nx:=s.nx,fr:=s.fr }
def plus (s:St):List EA->St
 | []=>s
 | e::l=>gm (plus s l) e
def Cs (e:EA):Prop:=(∀rs,eC rs e.2.2.2.1=e.2.2.2.1)/\∀rs,jo rs e.2.2.2.2=e.2.2.2.2
def CH (us:List Operand)(es:List EA):Prop:=∀e∈es,∀x∈us,eZ x e.2.1=false
theorem lu (s:St):∀es,(plus s es).nx=s.nx
 | []=>rfl
 | e::l=>lu s l
theorem vc {s:St}{t:Nat}:∀{es:List EA},(∀e∈es,e.2.1≠t)->(plus s es).sl t=s.sl t
 | [],_=>rfl
 | e::l,h=>by
  show upd (plus s l).sl e.2.1 _ t=_
  rw [aH _ _ (Ne.symm (h e (by simp))),vc fun x hx=>h x (List.mem_cons_of_mem _ hx)]
theorem rC {s:St}{r:Nat}:∀{es:List EA},(∀e∈es,e.2.2.1≠r)->(plus s es).hp r=s.hp r
 | [],_=>rfl
 | e::l,h=>by
  show upd (plus s l).hp e.2.2.1 _ r=_
  rw [aH _ _ (Ne.symm (h e (by simp))),rC fun x hx=>h x (List.mem_cons_of_mem _ hx)]
theorem vZ {s:St}:∀{es:List EA},(∀e∈es,s.hp e.2.2.1=.dead)->Sub s.hp (plus s es).hp
 | [],_=>fun _=>.inl rfl
 | e::l,h=>fun r=>by
  have ih:=vZ (s:=s) (es:=l) fun x hx=>h x (List.mem_cons_of_mem _ hx)
  show s.hp r=upd (plus s l).hp e.2.2.1 _ r∨_
  by_cases hr:r=e.2.2.1
  ·subst hr;exact .inr (h e (by simp))
  ·rw [aH _ _ hr];exact ih r
theorem kS {s:St}{es:List EA}{x:Operand}(h:∀e∈es,eZ x e.2.1=false):cC E.nt (plus s es).sl x=cC E.nt s.sl x:=by
 cases x with
 | tmp t=>
  simp only [cC,look]
  rw [vc fun e he e1=>by
   have:=h e he
   simp [eZ,e1] at this]
 | const c=>rfl
 | func g=>rfl
 | global g=>rfl
theorem pe {α:Type}{f:Nat->α}{a b:Nat}{u v:α}(h:a≠b):upd (upd f a u) b v=upd (upd f b v) a u:=by
 funext q
 by_cases h1:q=a
 ·subst h1;rw [aP,aH _ _ h,aP]
 ·by_cases h2:q=b
  ·subst h2;rw [aP,aH _ _ h1,aP]
  ·rw [aH _ _ h2,aH _ _ h1,aH _ _ h1,aH _ _ h2]
theorem zg {s:St}{e f:EA}(h1:e.2.1≠f.2.1)(h2:e.2.2.1≠f.2.2.1):gm (gm s e) f=gm (gm s f) e:=by
 unfold gm
 simp only
 rw [pe h1,pe h2]
theorem tP {s:St}{e:EA}:∀{l:List EA},(∀f∈l,e.2.1≠f.2.1/\e.2.2.1≠f.2.2.1)->gm (plus s l) e=plus (gm s e) l
 | [],_=>rfl
 | f::l,h=>by
  show gm (gm (plus s l) f) e=gm (plus (gm s e) l) f
  rw [<-tP fun x hx=>h x (List.mem_cons_of_mem _ hx)]
  exact zg (Ne.symm (h f (by simp)).1) (Ne.symm (h f (by simp)).2)
theorem xk {s:St}{e:EA}{l2:List EA}:∀{l1:List EA},(∀f∈l1++l2,e.2.1≠f.2.1/\e.2.2.1≠f.2.2.1)->plus s (l1++e::l2)=plus (gm s e) (l1++l2)
 | [],h=>tP h
 | f::l1,h=>by
  show gm (plus s (l1++e::l2)) f=gm (plus (gm s e) (l1++l2)) f
  rw [xk fun x hx=>h x (List.mem_cons_of_mem _ hx)]
theorem kZ {s:St}{d:Option Nat}{v:V}:∀{es:List EA},(∀e∈es,d≠some e.2.1)->plus (s.put d v) es=(plus s es).put d v
 | [],_=>rfl
 | e::l,h=>by
  show gm (plus (s.put d v) l) e=(gm (plus s l) e).put d v
  rw [kZ fun x hx=>h x (List.mem_cons_of_mem _ hx)]
  cases d with
  | none=>rfl
  | some t=>
   have :t≠e.2.1:=fun e1=>h e (by simp) (by rw [e1])
   simp only [gm,St.put]
   rw [pe this]
theorem nU {s:St}{es:List EA}{o:Op}{us:List Operand}{k:V->List aK->aD}(hu:dU o=some us)(ho:CH us es)(hd:∀e∈es,s.hp e.2.2.1=.dead)(h:aX E o (cC E.nt s.sl) s.hp s.nx k=some ans) :
  ∃v rs,k v rs=some ans/\(∀k':V->List aK->aD,aX E o (cC E.nt s.sl) s.hp s.nx k'=k' v rs)/\∀k':V->List aK->aD,aX E o (cC E.nt (plus s es).sl) (plus s es).hp (plus s es).nx k'=k' v rs:=by
 obtain ⟨v,rs,h1,h2⟩:=kU h
 refine ⟨v,rs,h1,fun k'=>h2 s.hp (fun _=>.inl rfl) k',fun k'=>?_⟩
 rw [qW hu fun x hx=>kS fun e he=>ho e he x hx,lu]
 exact h2 _ (vZ hd) k'
theorem nN {R:Nat}{o:aK}:∀(rts:List aK) (n:Nat) (hp:Nat->aK),R<n->dA (upd hp R o) n rts=upd (dA hp n rts) R o
 | [],n,hp,_=>rfl
 | x::xs,n,hp,hn=>by
  simp only [dA]
  rw [<-nN xs (n+1) (upd hp n x) (by omega),pe (by omega)]
theorem zu {s:St}{e:EA}{rs:List aK}(h:e.2.2.1<s.nx):gm (s.vu rs) e=(gm s e).vu rs:=by
 unfold gm St.vu
 simp only
 rw [nN _ _ _ h]
theorem rR {o:Op}(h:ju E o=true):Ac o=false/\Aj E o=false/\(uP E o=false∨∃g args argTypes c cs,o=.call ⟨.value (.func g),args,argTypes⟩/\E.I g=c::cs/\c.late=true):=by
 unfold ju at h
 simp only [Bool.and_eq_true,Bool.not_eq_true',Bool.or_eq_true] at h
 refine ⟨h.1,h.2.1,h.2.2.imp id fun h=>?_⟩
 split at h
 case h_2=>cases h
 unfold CR at h
 split at h
 case h_2=>cases h
 rename_i hc
 exact ⟨_,_,_,_,_,rfl,hc,h⟩
theorem rM (hI:∀g c,c∈E.I g->dh P E E.np g c){o:Op}{us:List Operand}{s:St}{e:EA}{k:V->St->aD}(h:gn E o s k=some ans)(hl:ju E o=true)(hu:dU o=some us)(ho:CH us [e])(hR:s.hp e.2.2.1=.dead)(hRn:e.2.2.1<s.nx)(hdn:e.2.1<E.nt)(hz:Cs e) :
  ∃v s2,k v s2=some ans/\s2.hp e.2.2.1=.dead/\s.nx<=s2.nx/\∀k':V->St->aD,gn E o (gm s e) k'=k' v (gm s2 e):=by
 obtain ⟨h1,h2,h3⟩:=rR hl
 rcases h3 with h3 | ⟨g,args,argTypes,c,cs,rfl,hc,hlate⟩
 ·have hev:∀(s:St) (k':V->St->aD),gn E o s k'=aX E o (cC E.nt s.sl) s.hp s.nx fun v rs=>k' v (s.vu rs):=fun s k'=>by
   simp only [gn,h1,h2,h3,aT]
  rw [hev] at h
  obtain ⟨v,rs,g1,g2,g3⟩:=nU (es:=[e]) hu ho (fun x hx=>by rw [List.mem_singleton.1 hx];exact hR) h
  refine ⟨v,s.vu rs,g1,?_,Nat.le_add_right _ _,fun k'=>?_⟩
  ·exact (dc _ _ _ _ (.inl hRn)).trans hR
  ·rw [hev]
   refine (g3 _).trans ?_
   rw [zu hRn]
   try rfl
 ·have hargs:args.toList.map (cC E.nt (gm s e).sl)=args.toList.map (cC E.nt s.sl):=by
   refine List.map_congr_left fun x hx=>?_
   simp only [dU,Option.some.injEq] at hu
   subst hu
   exact kS (s:=s) (es:=[e]) fun e' he'=>ho e' he' x (List.mem_cons_of_mem _ hx)
  have hev:∀(s:St) (k':V->St->aD),gn E (.call ⟨.value (.func g),args,argTypes⟩) s k'=c.run (args.toList.map (cC E.nt s.sl)) { s with fr:=cH s.sl 0 E.nt++s.fr } fun v s'=>k' v { s' with sl:=ig s'.fr,fr:=s'.fr.drop E.nt }:=fun s k'=>by
   have hi:uP E (.call ⟨.value (.func g),args,argTypes⟩)=true:=by simp [uP,hc]
   simp only [gn,h1,h2,hi,aT,aL,iI,hc]
  rw [hev] at h
  obtain ⟨rs,v,hp2,nx2,g1,g0,g2⟩:=((hI g c (by rw [hc];simp)).2.2.1 hlate).1 _ _ _ _ h
  obtain ⟨g3,g4⟩:=g2 e.2.2.1 e.2.2.2.2 hR hRn hz.2
  refine ⟨v,_,g1,g3,g0,fun k'=>?_⟩
  rw [hev,hargs]
  refine (g4 (upd s.sl e.2.1 e.2.2.2.1) (cH (upd s.sl e.2.1 e.2.2.2.1) 0 E.nt++s.fr) _).trans ?_
  have e1:=rJ (f:=eC rs) (v:=e.2.2.2.1) (l:=s.fr) (sl:=s.sl) (n:=E.nt) (i:=0) (d:=e.2.1) (Nat.zero_le _) (by omega)
  have e2:=qi (f:=eC rs) (l:=s.fr) E.nt 0 (upd s.sl e.2.1 e.2.2.2.1) s.sl
  simp only
  rw [e1,e2,hz.1]
  rfl
open Classical in
theorem yC (hI:∀g c,c∈E.I g->dh P E E.np g c){o:Op}{us:List Operand}{s:St}{k:V->St->aD}(h:gn E o s k=some ans)(hl:ju E o=true)(hu:dU o=some us):∀{e:EA} {es:List EA},CH us (e::es)->(∀x∈e::es,s.hp x.2.2.1=.dead/\x.2.2.1<s.nx/\x.2.1<E.nt/\Cs x)->
  ((e::es).map fun x=>x.2.2.1).Nodup->∃v s2,k v s2=some ans/\(∀x∈e::es,s2.hp x.2.2.1=.dead)/\∀k':V->St->aD,gn E o (plus s (e::es)) k'=k' v (plus s2 (e::es)):=by
 intro e es
 induction es generalizing e with
 | nil=>
  intro ho hx hnd
  obtain ⟨a1,a2,a3,a4⟩:=hx e (by simp)
  obtain ⟨v,s2,h1,h2,h3,h4⟩:=rM hI h hl hu ho a1 a2 a3 a4
  exact ⟨v,s2,h1,fun x hx'=>by rw [List.mem_singleton.1 hx'];exact h2,h4⟩
 | cons e' es ih=>
  intro ho hx hnd
  simp only [List.map_cons,List.nodup_cons] at hnd
  obtain ⟨v,s2,h1,h2,h3⟩:=ih (e:=e') (fun x hx'=>ho x (List.mem_cons_of_mem _ hx')) (fun x hx'=>hx x (List.mem_cons_of_mem _ hx')) (by simpa using hnd.2)
  obtain ⟨a1,a2,a3,a4⟩:=hx e (by simp)
  have hne:∀x∈e'::es,x.2.2.1≠e.2.2.1:=by
   intro x hx' e1
   exact hnd.1 (by
    rw [<-e1]
    rcases List.mem_cons.1 hx' with rfl | hm
    ·simp
    ·exact List.mem_cons_of_mem _ (List.mem_map.2 ⟨x,hm,rfl⟩))
  obtain ⟨v',s3,g1,g2,g3,g4⟩:=rM (s:=plus s (e'::es)) (e:=e) (ans:=ans) (k:=fun v' s'=>if v'=v/\s'=plus s2 (e'::es) then some ans else none) hI (by rw [h3];simp) hl hu (fun x hx'=>ho x (by
   rw [List.mem_singleton.1 hx'];simp)) (by rw [rC hne];exact a1) (by rw [lu];exact a2) a3 a4
  split at g1
  ·rename_i hv
   obtain ⟨rfl,rfl⟩:=hv
   refine ⟨v',s2,h1,fun x hx'=>?_,g4⟩
   rcases List.mem_cons.1 hx' with rfl | hx'
   ·rw [rC hne] at g2;exact g2
   ·exact h2 x hx'
  ·cases g1
theorem so (hT:∀t i,E.T t=some i->fN P E t i)(hG:∀g c,c∈E.G g->Valid P E g c)(hM:lV P E){A:cy}{s:St}{a:Act}{w:World}(sm:fq E w0 M A s a w){o:Oper}{k:V->St->aD}(h:gn E o.op s k=some ans) :
  ∀(K:Act->World->Prop) (Q:Exit->Act->World->Prop),(∀v s' cv w' A',k v s'=some ans->fq E w0 M A' s' a w'->V2 E.cells w' A' v cv->A'.Z=A.Z->(ju E o.op=true->xD A A' s.nx s'.nx)->K (a.put o.dst cv) w')->o.wp P a w K Q:=by
 intro K Q hK
 cases hl:ju E o.op with
 | false=>exact ke hT hG hM sm h K Q fun v s' cv w' A' h1 h2 h3 h4=>hK v s' cv w' A' h1 h2 h3 h4 fun h=>by rw [hl] at h;cases h
 | true=>
  obtain ⟨h1,h2,h3⟩:=rR hl
  rcases h3 with h3 | ⟨g,args,argTypes,c,cs,hop,hc,hlate⟩
  ·simp only [gn,h1,h2,h3,aT] at h
   obtain ⟨v,rs,h1,h2⟩:=jf hT hG sm.hp sm.ev h
   refine h2 (fun r h _=>sm.nx r h) K Q fun cv w' A' g1 g2 g3 g4=>?_
   refine hK v _ cv w' A' h1 ⟨g1,fun i x hx=>(sm.tm i x hx).step g2 sm.hp (fun _ h=>h),fun r hr hal=>by
    have hr':s.nx+rs.length<=r:=hr
    rcases g4 r hal with h | h
    ·exact sm.nx r (by omega) h
    ·omega,sm.df,sm.sz,sm.fr.mono fun _ _ h=>h.step g2 sm.hp (fun _ h=>h)⟩ g3 g2.Z fun _=>⟨Nat.le_add_right _ _,fun r hr=>(g4 r hr).imp id fun h=>h.1⟩
  ·have hi:uP E o.op=true:=by rw [hop];simp [uP,hc]
   simp only [gn,h1,h2,hi,aT,aL] at h
   refine me (X:=xD) sm hop h (fun g' c' hc' hfg=>⟨(hM.2 g' c' hc').1,fun cs' hcs'=>((hM.2 g' c' hc').2.2.1 ?_).2⟩) K Q fun v s' cv w' A' h1 h2 h3 h4 h5=>hK v s' cv w' A' h1 h2 h3 h4 fun _=>h5
   obtain ⟨caps,hfg⟩:=hfg
   have :g=g':=by
    simp only [cC] at hfg
    injection hfg
   subst this
   rw [hc] at hcs'
   injection hcs' with hcs' _
   rw [<-hcs'];exact hlate
open Classical in
theorem yc (hT:∀t i,E.T t=some i->fN P E t i)(hG:∀g c,c∈E.G g->Valid P E g c)(hM:lV P E){A:cy}{s:St}{b:Act}{w:World}(sm:fq E w0 M A s b w){o:Oper}{k:V->St->aD}(h:gn E o.op s k=some ans) :
  o.wp P b w (fun b' w'=>∃v s' A',k v s'=some ans/\fq E w0 M A' (s'.put o.dst v) b' w'/\A'.Z=A.Z/\
   (∀f,ga f=true->lq E s o.op f=true->(∀d z,f.dst=some d->dU f.op=some [.tmp z]->o.dst≠some d/\o.dst≠some z)->Kept E s (s'.put o.dst v) f)/\(ju E o.op=true->xD A A' s.nx s'.nx)) (fun _ _ _=>False):=by
 by_cases hex:∃f,ga f=true/\lq E s o.op f=true
 ·obtain ⟨f0,hf0,hok0⟩:=hex
  have hnt:Ac o.op=false/\Aj E o.op=false:=by
   obtain ⟨_,d0,z0,hd0,_,hop0⟩:=gA hf0
   unfold lq at hok0
   rcases hop0 with ⟨t0,hop0⟩ | ⟨t0,f0',hop0⟩<;>rw [hop0] at hok0<;>simp only [Bool.and_eq_true,Bool.not_eq_true'] at hok0<;>exact ⟨hok0.2.1,hok0.2.2.1⟩
  have core:∀(v0:V) (s0:St),k v0 s0=some ans->(∀k':V->St->aD,gn E o.op s k'=k' v0 s0)->
    (∀f,ga f=true->lq E s o.op f=true->(∀d z,f.dst=some d->dU f.op=some [.tmp z]->o.dst≠some d/\o.dst≠some z)->Kept E s (s0.put o.dst v0) f)->
    o.wp P b w (fun b' w'=>∃v s' A',k v s'=some ans/\fq E w0 M A' (s'.put o.dst v) b' w'/\A'.Z=A.Z/\
     (∀f,ga f=true->lq E s o.op f=true->(∀d z,f.dst=some d->dU f.op=some [.tmp z]->o.dst≠some d/\o.dst≠some z)->Kept E s (s'.put o.dst v) f)/\(ju E o.op=true->xD A A' s.nx s'.nx)) (fun _ _ _=>False):=by
   intro v0 s0 h1 h2 h3
   refine so hT hG hM sm (ans:=ans) (k:=fun v s'=>if v=v0/\s'=s0 then some ans else none) (by rw [h2];simp) _ _ fun v s' cv w' A' g1 g2 g3 g4 g5=>?_
   split at g1
   ·rename_i hv
    obtain ⟨rfl,rfl⟩:=hv
    exact ⟨v,s',A',h1,g2.put g3,g4,h3,g5⟩
   ·cases g1
  have putne:∀{s':St} {v:V} {t:Nat},o.dst≠some t->(s'.put o.dst v).sl t=s'.sl t:=by
   intro s' v t hne
   unfold St.put
   cases hd:o.dst with
   | none=>rfl
   | some e=>exact aH _ _ (fun e'=>hne (by rw [hd,e']))
  have puthp:∀{s':St} {v:V},(s'.put o.dst v).hp=s'.hp:=by
   intro s' v
   unfold St.put
   cases o.dst<;>rfl
  cases hi:uP E o.op with
  | false=>
   have hev:∀k':V->St->aD,gn E o.op s k'=aX E o.op (cC E.nt s.sl) s.hp s.nx fun v rs=>k' v (s.vu rs):=by
    intro k'
    simp only [gn,hnt.1,hnt.2,hi,aT]
   rw [hev] at h
   obtain ⟨v,rs,h1,h2⟩:=kU h
   refine core v (s.vu rs) h1 (fun k'=>(hev k').trans (h2 s.hp (fun _=>.inl rfl) _)) fun f _ _ hne d z hd hu=>?_
   obtain ⟨n1,n2⟩:=hne d z hd hu
   refine .inr ⟨by rw [putne n2];rfl,by rw [putne n1];rfl,fun r hr=>?_⟩
   rw [puthp]
   refine dc _ _ _ _ (.inl (Nat.lt_of_not_le fun hle=>hr (sm.hp.al r (sm.nx r hle))))
  | true=>
   have hcall:∃g args argTypes,o.op=.call ⟨.value (.func g),args,argTypes⟩/\vT E g=true:=by
    obtain ⟨_,d0,z0,hd0,_,hop0⟩:=gA hf0
    unfold lq at hok0
    rcases hop0 with ⟨t0,hop0⟩ | ⟨t0,f0',hop0⟩<;>rw [hop0] at hok0<;>simp only [hi,Bool.and_eq_true,aL,Bool.not_true,Bool.false_or] at hok0
    ·have h3:=hok0.2.2.2
     clear hok0
     split at h3
     ·split at h3
      ·rename_i g args at' ho
       simp only [Bool.and_eq_true] at h3
       exact ⟨g,args,at',ho,h3.1⟩
      ·cases h3
     ·cases h3
    ·have h3:=hok0.2.2.2
     clear hok0
     split at h3
     ·split at h3
      ·rename_i g args at' ho;exact ⟨g,args,at',ho,h3⟩
      ·cases h3
     ·split at h3
      ·rename_i g args at' ho;exact ⟨g,args,at',ho,h3⟩
      ·cases h3
     ·cases h3
   obtain ⟨g,args,argTypes,hop,hkeep⟩:=hcall
   unfold vT at hkeep
   split at hkeep
   case h_2=>cases hkeep
   rename_i c cs hcs
   have hev:∀k':V->St->aD,gn E o.op s k'=c.run (args.toList.map (cC E.nt s.sl)) { s with fr:=cH s.sl 0 E.nt++s.fr } fun v s'=>k' v { s' with sl:=ig s'.fr,fr:=s'.fr.drop E.nt }:=by
    intro k'
    simp only [gn,hnt.1,hnt.2,hi,aT,aL]
    rw [hop]
    simp only [iI,hcs]
   rw [hev] at h
   obtain ⟨rs,v,s2,h1,h2,h3,h4⟩:=(hM.2 g c (by rw [hcs];simp)).2.2.2 hkeep _ _ _ _ h
   refine core v _ h1 (fun k'=>by rw [hev,h2]) fun f hf hok hne d z hd hu=>?_
   obtain ⟨n1,n2⟩:=hne d z hd hu
   have hsl:∀t,t<E.nt->ig s2.fr t=eC rs (s.sl t):=by
    intro t ht
    rw [h3]
    have:=sn (f:=eC rs) (sl:=s.sl) (l:=s.fr) (n:=E.nt) (i:=0) (j:=t) ht
    rw [Nat.zero_add] at this
    exact this
   refine .inl ⟨rs,fun hz=>by rw [putne n2];exact hsl z hz,fun hz=>by rw [putne n1];exact hsl d hz,fun t r q ho hlk cs' hb=>?_⟩
   rw [puthp]
   unfold lq at hok
   have hi2:=hi
   rw [hop] at hi2
   simp only [ho,hlk,hop,hi2,aL,hd,Bool.and_eq_true] at hok
   have hok:=hok.2.2.2
   refine ⟨h4 r cs' hb (Nat.lt_of_not_le fun hle=>?_) (fun x hx=>?_),?_⟩
   ·have:=sm.hp.al r (sm.nx r hle)
    have hb':s.hp r=.box cs':=hb
    rw [hb'] at this;cases this
   ·obtain ⟨y,hy,rfl⟩:=List.mem_map.1 hx
    exact List.all_eq_true.1 hok.2.1 y hy
   ·have h5:=hok.2.2
    split at h5
    ·cases h5
    ·rename_i i hi'
     simp only [Bool.or_eq_true] at h5
     rcases h5 with h5 | h5
     ·exact .inl ⟨i,hi',h5⟩
     ·exact .inr h5
 ·refine so hT hG hM sm h _ _ fun v s' cv w' A' g1 g2 g3 g4 g5=>⟨v,s',A',g1,g2.put g3,g4,fun f hf hok=>(hex ⟨f,hf,hok⟩).elim,g5⟩
def Cb (E:Env)(o:Oper)(R:Nat)(v:V)(r:aK):Prop:=(∀(sl:Nat->V) (hp:Nat->aK) (k':V->List aK->aD),aX E o.op (cC E.nt sl) hp R k'=k' v [r])/\zh R v r=true
theorem ku {o:Oper}(h:iC o=true):o.guard=none/\∃d us,o.dst=some d/\dU o.op=some us/\(∀x∈us,∃c,x=.const c)/\iq o=false:=by
 unfold iC at h
 split at h
 ·cases h
 rename_i hg
 split at h
 ·cases h
 rename_i d hd
 refine ⟨hg,d,?_⟩
 split at h
 ·rename_i t hop
  exact ⟨[],hd,by rw [hop];rfl,fun x hx=>(by cases hx),by simp [iq,ga,qv,hg,hd,hop]⟩
 ·rename_i t n ps hop
  rw [Bool.and_eq_true] at h
  refine ⟨_,hd,by rw [hop];rfl,fun x hx=>?_,by simp [iq,ga,qv,hg,hd,hop]⟩
  obtain ⟨p,hp,rfl⟩:=List.mem_map.1 hx
  have:=List.all_eq_true.1 h.2 p hp
  cases h2:p.2<;>rw [h2] at this<;>first | exact ⟨_,rfl⟩ | cases this
 ·cases h
theorem DA {o:Oper}{R:Nat}(h:iC o=true)(hs:(aX E o.op (cC E.nt fun _=>.dead) (fun _=>.dead) R fun v rs=>B7 rs fun r=>bif zh R v r then some [] else none).isSome=true):∃v r,Cb E o R v r:=by
 obtain ⟨ans,hs⟩:=Option.isSome_iff_exists.1 hs
 obtain ⟨_,d,us,_,hu,hc,_⟩:=ku h
 obtain ⟨v,rs,h1,h2⟩:=kU hs
 match rs,h1 with
 | [r],h1=>
  obtain ⟨h3,_⟩:=cO (show (cond (zh R v r) (some []) none)=some ans from h1)
  refine ⟨v,r,fun sl hp k'=>?_,h3⟩
  rw [qW hu (ρ':=cC E.nt fun _=>.dead) fun x hx=>?_]
  ·exact h2 hp (fun _=>.inr rfl) k'
  ·obtain ⟨c,rfl⟩:=hc x hx;rfl
 | [],h1=>cases h1
 | _::_::_,h1=>cases h1
theorem As {o:Oper}{R:Nat}{v v':V}{r r':aK}(h:Cb E o R v r)(h':Cb E o R v' r'):v=v'/\r=r':=by
 have h1:=h.1 (fun _=>.dead) (fun _=>.dead) fun x rs=>open Classical in if x=v/\rs=[r] then some [] else none
 rw [h'.1] at h1
 simp only [and_self,if_true] at h1
 refine Classical.byContradiction fun hn=>?_
 rw [if_neg (fun e=>hn ⟨e.1.symm,(List.cons.inj e.2).1.symm⟩)] at h1
 cases h1
theorem zn {R:Nat}{v:V}{r:aK}(h:zh R v r=true):(∀rs,eC rs v=v)/\∀rs,jo rs r=r:=by
 unfold zh at h
 split at h
 ·simp only [Bool.and_eq_true] at h
  refine ⟨fun _=>rfl,fun rs=>?_⟩
  have h2:=h.2.2
  split at h2
  ·rename_i zs
   simp only [jo]
   rw [List.map_congr_left (g:=id) fun z hz=>?_,List.map_id]
   have:=List.all_eq_true.1 h2 z hz
   cases z<;>first | rfl | (simp only [cE] at this;cases this;done) | skip
   rename_i d e xs
   cases d<;>first | rfl | (simp only [cE] at this;cases this;done)
  ·cases h2
 ·simp only [Bool.and_eq_true] at h
  refine ⟨fun _=>rfl,fun rs=>?_⟩
  have h2:=h.2
  split at h2
  ·rfl
  ·cases h2
 ·cases h
theorem sL {all:List Oper}{m:Nat}{s:St}{o:Op}:∀{js:List Nat},uR E all m s o js=true->∀j∈js,m.testBit j=false->∃f,all[j]?=some f/\(iq f=true->lq E s o f=true)
 | [],_,j,h,_=>by cases h
 | x::js,hb,j,h,hm=>by
  simp only [uR,Bool.and_eq_true,Bool.or_eq_true] at hb
  rcases List.mem_cons.1 h with rfl | h
  ·rcases hb.1 with h1 | h1
   ·rw [hm] at h1;cases h1
   ·split at h1
    ·cases h1
    ·rename_i f hf
     refine ⟨f,hf,fun h2=>?_⟩
     rw [h2] at h1
     simpa using h1
  ·exact sL hb.2 j h hm
theorem zU {m dm:Nat}(h:Nat.beq (Nat.land m dm) m=true):∀l,m.testBit l=true->dm.testBit l=true:=by
 intro l hl
 have e:m&&& dm=m:=Nat.eq_of_beq_eq_true h
 rw [<-e,Nat.testBit_and,Bool.and_eq_true] at hl
 exact hl.2
def Ba (ops:Array Oper)(i:Nat)(o:Oper):Prop:=
 (∃us,dU o.op=some us/\qN us ((masks ops.toList []).getD i 0) ops.toList 0=true)/\∀g,o.guard=some g->((masks ops.toList []).getD i 0).testBit g.1=true
theorem lp {ops:Array Oper}{base i:Nat}{is:List Nat}{dm:Nat}(h:uS E base ops.toList (masks ops.toList []) (i::is) dm=true) :
  ∃o,ops[i]?=some o/\dm.testBit i=false/\(∀l,((masks ops.toList []).getD i 0).testBit l=true->dm.testBit l=true)/\
   ((iC o=true/\((∃v r,Cb E o (base+i) v r)/\∀d,o.dst=some d->d<E.nt)/\∀x,oC ops.toList is=some x->((masks ops.toList []).getD x 0).testBit i=true/\jV iq ops.toList x=false)∨(iC o=false/\((iq o=true/\zp ops.toList o=true)∨(iq o=false/\(∀x∈is,jV iC ops.toList x=true∨((masks ops.toList []).getD x 0).testBit i=true)/\((∀x∈is,jV iC ops.toList x=false)∨ju E o.op=true)))))/\
   Ba ops i o/\uS E base ops.toList (masks ops.toList []) is (dm||| 2^i)=true:=by
 simp only [uS,Bool.and_eq_true] at h
 obtain ⟨h1,h2⟩:=h
 split at h1
 ·cases h1
 rename_i o ho
 simp only [Bool.and_eq_true,Bool.not_eq_true'] at h1
 obtain ⟨a1,a2,a3,a4,a5⟩:=h1
 refine ⟨o,by simpa using ho,a1,zU a2,?_,⟨?_,fun g hg=>?_⟩,h2⟩
 ·cases hal:iC o<;>simp only [hal,aL,aT] at a3
  ·refine .inr ⟨rfl,?_⟩
   cases hfl:iq o with
   | true=>
    rw [hfl] at a3
    exact .inl ⟨rfl,by simpa using a3⟩
   | false=>
    rw [hfl,Bool.false_and,Bool.false_or,Bool.not_false,Bool.true_and,Bool.and_eq_true,List.all_eq_true,Bool.or_eq_true] at a3
    refine .inr ⟨rfl,fun x hx=>by have:=a3.1 x hx;rwa [Bool.or_eq_true] at this,a3.2.imp (fun h x hx=>?_) id⟩
    rw [Bool.not_eq_true',List.any_eq_false] at h
    have:=h x hx
    simpa using this
  ·rw [Bool.and_eq_true] at a3
   refine .inl ⟨rfl,?_,fun x hx=>?_⟩
   ·have:=a3.1
    simp only [Bool.and_eq_true] at this
    refine ⟨DA hal this.1,fun d hd=>?_⟩
    have h2:=this.2
    rw [hd] at h2
    exact Nat.blt_eq.mp h2
   ·have:=a3.2
    rw [hx] at this
    simpa using this
 ·split at a4
  ·cases a4
  ·rename_i us hu;exact ⟨us,hu,a4⟩
 ·rw [hg] at a5;exact a5
theorem nu {ops:Array Oper}{base:Nat}:∀{is:List Nat} {dm:Nat},uS E base ops.toList (masks ops.toList []) is dm=true->is.Nodup/\(∀i∈is,dm.testBit i=false/\∃o,ops[i]?=some o/\Ba ops i o)
 | [],_,_=>⟨List.nodup_nil,fun i h=>by cases h⟩
 | i::is,dm,h=>by
  obtain ⟨o,h1,h2,h3,h4,h5,h6⟩:=lp h
  obtain ⟨g1,g2⟩:=nu h6
  have hx:∀x∈is,x≠i:=by
   intro x hx e
   have:=(g2 x hx).1
   rw [Nat.testBit_or,e,Nat.testBit_two_pow_self,Bool.or_true] at this
   cases this
  refine ⟨List.nodup_cons.2 ⟨fun hm=>hx i hm rfl,g1⟩,fun j hj=>?_⟩
  rcases List.mem_cons.1 hj with rfl | hj
  ·exact ⟨h2,o,h1,h5⟩
  ·have:=(g2 j hj).1
   rw [Nat.testBit_or,Bool.or_eq_false_iff] at this
   exact ⟨this.1,(g2 j hj).2⟩
theorem vY {ops:Array Oper}{base:Nat}:∀{is:List Nat} {dm:Nat},uS E base ops.toList (masks ops.toList []) is dm=true->∀x0,oC ops.toList is=some x0->jV iq ops.toList x0=false->x0∈is/\jV iC ops.toList x0=false/\∀x∈is,jV iC ops.toList x=false->x=x0∨((masks ops.toList []).getD x 0).testBit x0=true
 | [],_,_,x0,h,_=>by cases h
 | i::is,dm,h,x0,hx,hf=>by
  obtain ⟨o,h1,h2,h3,h4,h5,h6⟩:=lp h
  have hoi:∀p:Oper->Bool,jV p ops.toList i=p o:=fun p=>by
   unfold jV
   rw [show ops.toList[i]?=some o by simpa using h1]
  simp only [oC,hoi] at hx
  rcases h4 with ⟨hal,_,h4⟩ | ⟨hal,h4⟩<;>rw [hal] at hx<;>simp only [aL,aT] at hx
  ·obtain ⟨g1,g2,g3⟩:=vY h6 x0 hx hf
   refine ⟨List.mem_cons_of_mem _ g1,g2,fun x hm hxa=>?_⟩
   rcases List.mem_cons.1 hm with rfl | hm
   ·rw [hoi,hal] at hxa;cases hxa
   ·exact g3 x hm hxa
  ·injection hx with hx
   subst hx
   rw [hoi] at hf
   refine ⟨by simp,by rw [hoi];exact hal,fun x hm hxa=>?_⟩
   rcases List.mem_cons.1 hm with rfl | hm
   ·exact .inl rfl
   ·rcases h4 with h4 | ⟨_,h4,_⟩
    ·rw [h4.1] at hf;cases hf
    ·rcases h4 x hm with h | h
     ·rw [h] at hxa;cases hxa
     ·exact .inr h
def Rel (ops:Array Oper)(rem:List Nat)(a b:Act):Prop:=a.tmps.size=b.tmps.size/\a.defers=b.defers/\∀t,(∀j∈rem,∀o,ops[j]?=some o->o.dst≠some t)->a.tmps[t]?=b.tmps[t]?
theorem Rel.put {ops:Array Oper}{rem rem':List Nat}{a b:Act}(h:Rel ops rem a b){d:Option Nat}{v:Value}(hr:∀t,d≠some t->(∀j∈rem',∀o,ops[j]?=some o->o.dst≠some t)->∀j∈rem,∀o,ops[j]?=some o->o.dst≠some t):Rel ops rem' (a.put d v) (b.put d v):=by
 obtain ⟨h1,h2,h3⟩:=h
 cases d with
 | none=>exact ⟨h1,h2,fun t ht=>h3 t (hr t (by simp) ht)⟩
 | some e=>
  refine ⟨by simp [Act.put,h1],h2,fun t ht=>?_⟩
  simp only [Act.put,Array.getElem?_setIfInBounds]
  by_cases het:e=t
  ·subst het;simp [h1]
  ·rw [if_neg het,if_neg het]
   exact h3 t (hr t (by simpa using het) ht)
theorem Rel.Em {ops:Array Oper}{rem:List Nat}{a b:Act}{i:Nat}{o:Oper}{d:Nat}{v:Value}(h:Rel ops rem a b)(ho:ops[i]?=some o)(hd:o.dst=some d):Rel ops (rem++[i]) a (b.put (some d) v):=by
 obtain ⟨h1,h2,h3⟩:=h
 refine ⟨by simp [Act.put,h1],h2,fun t ht=>?_⟩
 have htd:d≠t:=fun e=>ht i (by simp) o ho (by rw [hd,e])
 simp only [Act.put,Array.getElem?_setIfInBounds,if_neg htd]
 exact h3 t fun j hj=>ht j (by simp [hj])
theorem Rel.eval {ops:Array Oper}{rem:List Nat}{a b:Act}(h:Rel ops rem a b){x:Operand}(hx:∀j∈rem,∀o d,ops[j]?=some o->o.dst=some d->eZ x d=false):a.eval x=b.eval x:=by
 cases x with
 | tmp t=>
  have:=h.2.2 t fun j hj o ho hd=>by
   have:=hx j hj o t ho hd
   simp [eZ] at this
  simp [Act.eval,this]
 | const c=>rfl
 | global g=>rfl
 | func f=>rfl
def FV (P:Program)(E:Env)(s:St)(b:Act)(f:Oper):Prop:=(ga f=true/\Re E s f)∨(ga f=false/\Pu P b f)
theorem Pu.put {b:Act}{f:Oper}{us:List Operand}(hu:dU f.op=some us){d:Option Nat}{v:Value}(h1:∀x∈us,∀t,d=some t->eZ x t=false)(h2:∀t,d=some t->f.dst≠some t)(h:Pu P b f):Pu P (b.put d v) f:=by
 obtain ⟨v0,e1,e2⟩:=h
 obtain ⟨g1,g2⟩:=mU hu
 refine ⟨v0,?_,fun w=>?_⟩
 ·rw [Act.put_comm b v v0 (fun t ht hf=>h2 t ht hf),e1]
 ·rw [execOp_congr (ρ':=b.eval) f g1 fun x hx=>Act.eval_put fun t ht hxt=>?_]
  ·exact e2 w
  ·have:=h1 x (g2 x hx) t ht
   rw [hxt] at this
   simp [eZ] at this
theorem Re.put {s:St}{f:Oper}(hf:ga f=true){d:Option Nat}{v:V}(h1:∀z,dU f.op=some [.tmp z]->d≠some z)(h2:∀t,d=some t->f.dst≠some t)(h:Re E s f):Re E (s.put d v) f:=by
 obtain ⟨_,d',z,hd',hu,hop⟩:=gA hf
 obtain ⟨d2,hd2,he⟩:=h
 obtain rfl:d2=d':=by rw [hd2] at hd';injection hd'
 have hz:=h1 z hu
 have hput:∀t,d≠some t->(s.put d v).sl t=s.sl t:=by
  intro t ht
  cases d with
  | none=>rfl
  | some e=>exact aH _ _ (fun e1=>ht (by rw [e1]))
 have hhp:(s.put d v).hp=s.hp/\(s.put d v).nx=s.nx:=by cases d<;>exact ⟨rfl,rfl⟩
 refine ⟨d2,hd2,fun k'=>?_⟩
 have e1:look E.nt (s.put d v).sl z=look E.nt s.sl z:=by
  unfold look
  rw [hput z hz]
 have e2:∀k'',aX E f.op (cC E.nt (s.put d v).sl) (s.put d v).hp (s.put d v).nx k''=aX E f.op (cC E.nt s.sl) s.hp s.nx k'':=by
  intro k''
  rw [hhp.1,hhp.2]
  rcases hop with ⟨t,hop⟩ | ⟨t,f,hop⟩<;>rw [hop]<;>simp only [aX,cC,e1]
 rw [e2,he,hput d2 fun e=>h2 d2 e hd2]
open Classical in
theorem Re.gm {s:St}{f:Oper}(hf:ga f=true){e:EA}(h1:∀z,dU f.op=some [.tmp z]->z≠e.2.1)(h2:f.dst≠some e.2.1)(hR:s.hp e.2.2.1=.dead)(h:Re E s f):Re E (gm s e) f:=by
 obtain ⟨_,d',z,hd',hu,hop⟩:=gA hf
 obtain ⟨d2,hd2,he⟩:=h
 obtain rfl:d2=d':=by rw [hd2] at hd';injection hd'
 obtain ⟨v,rs,g1,g2,g3⟩:=nU (es:=[e]) (k:=fun v rs=>if v=s.sl d2/\rs=[] then some [] else none) hu (fun x hx y hy=>by
  rw [List.mem_singleton.1 hx,List.mem_singleton.1 hy]
  have:=h1 z hu
  show Nat.beq z e.2.1=false
  cases hb:Nat.beq z e.2.1 with
  | false=>rfl
  | true=>exact (this (Nat.eq_of_beq_eq_true hb)).elim) (fun x hx=>by rw [List.mem_singleton.1 hx];exact hR) (ans:=[]) (by rw [he];simp)
 split at g1
 case isFalse=>cases g1
 rename_i hv
 obtain ⟨rfl,rfl⟩:=hv
 refine ⟨d2,hd2,fun k'=>(g3 k').trans ?_⟩
 congr 1
 show _=upd s.sl e.2.1 _ d2
 rw [aH _ _ (fun e1=>h2 (by rw [hd2,e1]))]
theorem zN {s:St}{o:Op}{us:List Operand}(hu:dU o=some us){f:Oper}{e:EA}(ho:∀x∈us,eZ x e.2.1=false)(h1:∀z,dU f.op=some [.tmp z]->z≠e.2.1)(h2:f.dst≠some e.2.1):lq E (gm s e) o f=lq E s o f:=by
 have hl:∀z,dU f.op=some [.tmp z]->look E.nt (gm s e).sl z=look E.nt s.sl z:=by
  intro z hz
  unfold look
  rw [show (gm s e).sl z=s.sl z from aH _ _ (h1 z hz)]
 have ho':∀x∈us,cC E.nt (gm s e).sl x=cC E.nt s.sl x:=fun x hx=>kS (s:=s) (es:=[e]) fun y hy=>by rw [List.mem_singleton.1 hy];exact ho x hx
 have hd:∀d,f.dst=some d->(gm s e).sl d=s.sl d:=fun d hd=>aH _ _ fun e1=>h2 (by rw [hd,e1])
 unfold lq
 split
 ·rename_i t z hop
  rw [hl z (by rw [hop];rfl)]
  congr 3
  cases look E.nt s.sl z<;>try rfl
  simp only
  cases uP E o with
  | false=>rfl
  | true=>
   simp only [aL]
   split
   ·rename_i g args at'
    simp only [dU,Option.some.injEq] at hu
    subst hu
    have e1:∀r,(args.toList.all fun x=>sM r (cC E.nt (gm s e).sl x))=args.toList.all fun x=>sM r (cC E.nt s.sl x):=by
     intro r
     rw [Bool.eq_iff_iff,List.all_eq_true,List.all_eq_true]
     constructor
     ·intro h x hx;rw [<-ho' x (List.mem_cons_of_mem _ hx)];exact h x hx
     ·intro h x hx;rw [ho' x (List.mem_cons_of_mem _ hx)];exact h x hx
    rw [e1]
    cases hfd:f.dst with
    | none=>rfl
    | some d=>simp only [hd d hfd]
   ·rfl
 ·rename_i t z fi hop
  rw [hl z (by rw [hop];rfl)]
 ·rfl
open Classical in
def cJ (E:Env)(all:List Oper)(base j:Nat):EA:=
 if h:∃p:Oper×V×aK,all[j]?=some p.1/\Cb E p.1 (base+j) p.2.1 p.2.2 then (j,(Classical.choose h).1.dst.getD 0,base+j,(Classical.choose h).2) else (j,(match all[j]? with | some o=>o.dst.getD 0 | none=>0),base+j,.undef,.dead)
theorem yR {all:List Oper}{base j:Nat}{o:Oper}{v:V}{r:aK}(ho:all[j]?=some o)(hq:Cb E o (base+j) v r):cJ E all base j=(j,o.dst.getD 0,base+j,v,r):=by
 have h:∃p:Oper×V×aK,all[j]?=some p.1/\Cb E p.1 (base+j) p.2.1 p.2.2:=⟨(o,v,r),ho,hq⟩
 unfold cJ
 rw [dif_pos h]
 have h1:=Classical.choose_spec h
 generalize Classical.choose h=p at h1 ⊢
 obtain ⟨h1,h2⟩:=h1
 rw [ho] at h1
 injection h1 with h1
 rw [<-h1] at h2
 obtain ⟨e1,e2⟩:=As hq h2
 rw [<-h1,e1,e2]
theorem kX {all:List Oper}{base j:Nat}{o:Oper}(ho:all[j]?=some o):(cJ E all base j).2.1=o.dst.getD 0:=by
 unfold cJ
 split
 ·rename_i h
  have h1:=Classical.choose_spec h
  generalize Classical.choose h=p at h1 ⊢
  obtain ⟨h1,h2⟩:=h1
  rw [ho] at h1
  injection h1 with h1
  rw [h1]
 ·simp [ho]
theorem gR {all:List Oper}{base j:Nat}:(cJ E all base j).2.2.1=base+j:=by
 unfold cJ
 split<;>rfl
theorem zR {all:List Oper}{base j:Nat}:Cs (cJ E all base j):=by
 unfold cJ
 split
 ·rename_i h
  exact zn (Classical.choose_spec h).2.2
 ·exact ⟨fun _=>rfl,fun _=>rfl⟩
theorem pZ:∀{l m:List Nat},l.Nodup->(∀x∈l,x∈m)->l.length<=m.length
 | [],m,_,_=>Nat.zero_le _
 | a::l,m,hn,h=>by
  rw [List.nodup_cons] at hn
  have ha:=h a (by simp)
  have:=pZ (l:=l) (m:=m.erase a) hn.2 fun x hx=>(List.mem_erase_of_ne (fun e=>by rw [e] at hx;exact hn.1 hx)).2 (h x (List.mem_cons_of_mem _ hx))
  rw [List.length_erase_of_mem ha] at this
  have:=List.length_pos_of_mem ha
  simp;omega
structure D9 (P:Program)(E:Env)(w0:World)(M:Mem E.np)(ops:Array Oper)(base:Nat)(rem is es done:List Nat)(dm:Nat)(s:St)(A:cy)(a b:Act)(w:World):Prop where
 zv:uS E base ops.toList (masks ops.toList []) is dm=true
 DH:∀l,l<ops.size->(dm.testBit l=true↔l∉is)
 zP:Rel ops rem a b
 DI:fq E w0 M A (plus s (es.map (cJ E ops.toList base))) b w
 zA:∀j∈rem,j∉is/\j∈done/\∃f,ops[j]?=some f/\iq f=true/\Ba ops j f/\FV P E (plus s (es.map (cJ E ops.toList base))) b f/\∀l,((masks ops.toList []).getD j 0).testBit l=true->l∉is
 DK:rem.Nodup
 zI:∀j∈rem,∀f,ops[j]?=some f->ga f=false->∀x∈rem,∀g,ops[x]?=some g->ga g=true->∀d,g.dst=some d->∀us,dU f.op=some us->∀y∈us,eZ y d=true->∃ik n,(plus s (es.map (cJ E ops.toList base))).sl d=.int ik n
 DG:es.Nodup/\∀j∈es,j∈is/\∃o,ops[j]?=some o/\iC o=true
 DJ:∀j∈is,∀o,ops[j]?=some o->iC o=true->base+j<s.nx/\s.hp (base+j)=.dead/\(j∉es->¬A.al (base+j))
section
variable {ops:Array Oper} {base:Nat} (hback:je ops.toList 0=true) (hfresh:dL (gV ops.toList)=true)
theorem yt {es is:List Nat}{j:Nat}{us:List Operand}(hes:∀i∈es,i∈is/\∃o,ops[i]?=some o/\iC o=true)(hus:qN us ((masks ops.toList []).getD j 0) ops.toList 0=true)(hm:∀l,((masks ops.toList []).getD j 0).testBit l=true->l∉is) :
  CH us (es.map (cJ E ops.toList base)):=by
 intro e he x hx
 obtain ⟨i,hi,rfl⟩:=List.mem_map.1 he
 obtain ⟨h1,o,ho,hal⟩:=hes i hi
 obtain ⟨_,d,_,hd,_⟩:=ku hal
 have ho':ops.toList[i]?=some o:=by simpa using ho
 have e1:(cJ E ops.toList base i).2.1=d:=by rw [kX ho',hd];rfl
 rw [e1]
 rcases iy hus (l:=i) (o:=o) ho' hd with h | h
 ·rw [Nat.zero_add] at h
  exact (hm i h h1).elim
 ·exact h x hx
include hfresh in
theorem uT {es:List Nat}{j:Nat}{f:Oper}(hes:∀i∈es,∃o,ops[i]?=some o/\iC o=true)(hj:ops[j]?=some f)(hji:j∉es):∀e∈es.map (cJ E ops.toList base),f.dst≠some e.2.1:=by
 intro e he hd
 obtain ⟨i,hi,rfl⟩:=List.mem_map.1 he
 obtain ⟨o,ho,hal⟩:=hes i hi
 obtain ⟨_,d,_,hd',_⟩:=ku hal
 have ho':ops.toList[i]?=some o:=by simpa using ho
 have e1:(cJ E ops.toList base i).2.1=d:=by rw [kX ho',hd'];rfl
 rw [e1] at hd
 have:=iX hfresh (by simpa using hj) ho' hd hd'
 subst this
 exact hji hi
include hback hfresh in
theorem vl (hT:∀t i,E.T t=some i->fN P E t i){a:Act}{w:World}{k:St->aD}:∀{is rem es done:List Nat} {dm:Nat} {A:cy} {s:St} {b:Act},
    D9 P E w0 M ops base rem is es done dm s A a b w->kT E ops.toList (masks ops.toList []) base done is s k=some ans->
    ∃rem2 is2 es2 done2 dm2 s2 b2,D9 P E w0 M ops base rem2 is2 es2 done2 dm2 s2 A a b2 w/\kT E ops.toList (masks ops.toList []) base done2 is2 s2 k=some ans/\rem2.length+is2.length+es.length=rem.length+is.length+es2.length/\(∀j,(j∈rem2∨j∈is2/\j∉es2)↔(j∈rem∨j∈is/\j∉es))/\
      (∀i is3,is2=i::is3->i∉es2/\∀o,ops[i]?=some o->iq o=false)
  | [],rem,es,done,dm,A,s,b,h,hr=>⟨rem,[],es,done,dm,s,b,h,hr,rfl,fun _=>Iff.rfl,fun _ _ h=>by cases h⟩
  | i::is,rem,es,done,dm,A,s,b,h,hr=>by
    obtain ⟨hord,hdm,hrel,sm,hrem,hnd,hdep,⟨hesn,hes⟩,hal⟩:=h
    obtain ⟨o,ho,hn,hm,hsp,hok,hord'⟩:=lp hord
    have ho':ops.toList[i]?=some o:=by simpa using ho
    have hi:i<ops.size:=(Array.getElem?_eq_some_iff.1 ho).1
    have hins:i∉is:=(List.nodup_cons.1 (nu hord).1).1
    have hmi:∀l,((masks ops.toList []).getD i 0).testBit l=true->l∉i::is:=by
      intro l hl
      have:=iH hback hi hl
      exact (hdm l (by omega)).1 (hm l hl)
    have hdm':∀l,l<ops.size->((dm||| 2^i).testBit l=true↔l∉is):=by
      intro l hl
      rw [Nat.testBit_or,Bool.or_eq_true,hdm l hl,Nat.testBit_two_pow,decide_eq_true_iff]
      constructor
      · rintro (h | h)
        · exact fun hm=>h (List.mem_cons_of_mem _ hm)
        · subst h;exact hins
      · intro h
        by_cases hli:i=l
        · exact .inr hli
        · exact .inl fun hm=>(List.mem_cons.1 hm).elim (fun e=>hli e.symm) h
    by_cases hie:i∈es
    ·
      obtain ⟨_,o2,ho2,hal2⟩:=hes i hie
      rw [ho] at ho2;injection ho2 with ho2;subst ho2
      obtain ⟨hg,d,_,hd,_⟩:=ku hal2
      obtain ⟨v0,r0,hql⟩:∃v r,Cb E o (base+i) v r:=by
        rcases hsp with ⟨_,h,_⟩ | ⟨h,_⟩
        · exact h.1
        · rw [hal2] at h;cases h
      simp only [kT] at hr
      rw [ho'] at hr
      simp only [hal2,aL] at hr
      rw [hql.1] at hr
      simp only [B7] at hr
      have hea:St.put { s with hp:=upd s.hp (base+i) r0 } o.dst v0=gm s (cJ E ops.toList base i):=by
        rw [yR ho' hql,hd]
        rfl
      rw [hea] at hr
      obtain ⟨l1,l2,hl⟩:=List.append_of_mem hie
      have hne:∀f∈(l1++l2).map (cJ E ops.toList base),(cJ E ops.toList base i).2.1≠f.2.1/\(cJ E ops.toList base i).2.2.1≠f.2.2.1:=by
        intro f hf
        obtain ⟨q,hq,rfl⟩:=List.mem_map.1 hf
        rw [hl,List.nodup_append,List.nodup_cons] at hesn
        have hqi:q≠i:=by
          rintro rfl
          rcases List.mem_append.1 hq with h | h
          · exact hesn.2.2 q h q (by simp) rfl
          · exact hesn.2.1.1 h
        have hqe:q∈es:=by
          rw [hl]
          rcases List.mem_append.1 hq with h | h
          · exact List.mem_append_left _ h
          · exact List.mem_append_right _ (List.mem_cons_of_mem _ h)
        obtain ⟨_,oq,hoq,halq⟩:=hes q hqe
        obtain ⟨_,dq,_,hdq,_⟩:=ku halq
        have hoq':ops.toList[q]?=some oq:=by simpa using hoq
        refine ⟨fun e=>?_,fun e=>?_⟩
        · rw [kX ho',kX hoq',hd,hdq] at e
          have e:d=dq:=e
          exact hqi (iX hfresh hoq' ho' hdq (by rw [hd,e]))
        · rw [gR,gR] at e
          omega
      have hplus:plus s (es.map (cJ E ops.toList base))=plus (gm s (cJ E ops.toList base i)) ((l1++l2).map (cJ E ops.toList base)):=by
        rw [hl,List.map_append,List.map_cons,List.map_append]
        exact xk (by rw [<-List.map_append];exact hne)
      have hl12:∀j,j∈l1++l2↔(j∈es/\j≠i):=by
        intro j
        rw [hl] at hesn ⊢
        rw [List.nodup_append,List.nodup_cons] at hesn
        simp only [List.mem_append,List.mem_cons]
        constructor
        · rintro (h | h)
          · exact ⟨.inl h,fun e=>hesn.2.2 j h i (by simp) e⟩
          · exact ⟨.inr (.inr h),fun e=>hesn.2.1.1 (e ▸ h)⟩
        · rintro ⟨h | h | h,hji⟩
          · exact .inl h
          · exact (hji h).elim
          · exact .inr h
      obtain ⟨rem2,is2,es2,done2,dm2,s2,b2,q1,q2,q3,q4,q5⟩:=vl (A:=A) hT (is:=is) (rem:=rem) (es:=l1++l2) (done:=i::done) (dm:=dm||| 2^i) (s:=gm s (cJ E ops.toList base i)) (b:=b)
        { zv:=hord',DH:=hdm',zP:=hrel,DI:=by rw [<-hplus];exact sm
          zA:=fun j hj=>by
            obtain ⟨p1,p2,f,p3,p4,p5,p6,p7⟩:=hrem j hj
            exact ⟨fun hm=>p1 (List.mem_cons_of_mem _ hm),List.mem_cons_of_mem _ p2,f,p3,p4,p5,by rw [<-hplus];exact p6,fun l hl hm=>p7 l hl (List.mem_cons_of_mem _ hm)⟩
          DK:=hnd
          zI:=by rw [<-hplus];exact hdep
          DG:=by
            refine ⟨?_,fun j hj=>?_⟩
            · rw [hl] at hesn
              exact (List.Sublist.append_left (List.sublist_cons_self _ _) _).nodup hesn
            · obtain ⟨h1,h2⟩:=(hl12 j).1 hj
              obtain ⟨h3,h4⟩:=hes j h1
              exact ⟨(List.mem_cons.1 h3).resolve_left h2,h4⟩
          DJ:=fun j hj oj hoj hja=>by
            obtain ⟨h1,h2,h3⟩:=hal j (List.mem_cons_of_mem _ hj) oj hoj hja
            have hji:j≠i:=fun e=>hins (e ▸ hj)
            refine ⟨h1,?_,fun hn=>h3 fun hm=>hn ((hl12 j).2 ⟨hm,hji⟩)⟩
            show upd s.hp (cJ E ops.toList base i).2.2.1 _ (base+j)=_
            rw [aH _ _ (by rw [gR];omega),h2] } hr
      refine ⟨rem2,is2,es2,done2,dm2,s2,b2,q1,q2,?_,fun j=>?_,q5⟩
      · have :es.length=(l1++l2).length+1:=by rw [hl];simp;omega
        simp only [List.length_cons]
        omega
      · rw [q4 j,hl12]
        by_cases hji:j=i
        · subst hji;simp [hins,hie]
        · simp [hji]
    · cases hf:iq o with
      | false=>
        refine ⟨rem,i::is,es,done,dm,s,b,⟨hord,hdm,hrel,sm,hrem,hnd,hdep,⟨hesn,hes⟩,hal⟩,hr,rfl,fun _=>Iff.rfl,fun j is3 hj=>?_⟩
        injection hj with hj _
        subst hj
        exact ⟨hie,fun o' ho'=>by rw [ho] at ho';injection ho' with ho';subst ho';exact hf⟩
      | true=>
        have hnal:iC o=false:=by
          cases hb:iC o with
          | false=>rfl
          | true=>
            obtain ⟨_,d,_,hd,_,_,hnf⟩:=ku hb
            rw [hnf] at hf;cases hf
        obtain ⟨hg,d,hd⟩:=wY hf
        obtain ⟨⟨us,hu,hus⟩,_⟩:=hok
        have hesi:∀j∈es,j∈i::is/\∃o,ops[j]?=some o/\iC o=true:=hes
        have hoff:CH us (es.map (cJ E ops.toList base)):=yt hesi hus hmi
        have hdst:=uT (E:=E) (base:=base) hfresh (fun j hj=>(hes j hj).2) ho hie
        have hdead:∀e∈es.map (cJ E ops.toList base),s.hp e.2.2.1=.dead:=by
          intro e he
          obtain ⟨j,hj,rfl⟩:=List.mem_map.1 he
          obtain ⟨h1,oj,h2,h3⟩:=hes j hj
          rw [gR]
          exact (hal j h1 oj h2 h3).2.1
        simp only [kT] at hr
        rw [ho'] at hr
        simp only [hnal,hf,aL,aT] at hr
        obtain ⟨hslot,hr⟩:=cO hr
        simp only [hg,guarded,aL,St.mG] at hr
        rw [Ao hf] at hr
        obtain ⟨v0,rs0,g1,g2,g3⟩:=nU hu hoff hdead hr
        have hslot':nQ E (plus s (es.map (cJ E ops.toList base))) o.op=true:=by
          revert hslot
          unfold nQ
          split
          · rename_i p t x y ty hop
            rw [hop] at hu
            simp only [dU,Option.some.injEq] at hu
            subst hu
            rw [kS fun e he=>hoff e he x (by simp),kS fun e he=>hoff e he y (by simp)]
            exact id
          · exact id
        obtain ⟨v,cv,h1,h2,h3,h4⟩:=AQ hT hf hslot' sm (ans:=ans) (k:=fun v rs=>open Classical in if v=v0/\rs=rs0 then some ans else none) (by rw [g3];simp)
        have hv:v=v0/\[]=rs0:=Classical.byContradiction fun hn=>by simp only [if_neg hn] at h1;cases h1
        obtain ⟨rfl,hrs⟩:=hv
        subst hrs
        have hzd:∀x∈us,∀t,o.dst=some t->eZ x t=false:=by
          intro x hx t ht
          rcases iy hus (l:=i) (o:=o) ho' ht with h | h
          · rw [Nat.zero_add] at h
            have:=iH hback hi h
            omega
          · exact h x hx
        have hpp:plus (s.put o.dst v) (es.map (cJ E ops.toList base))=(plus s (es.map (cJ E ops.toList base))).put o.dst v:=kZ hdst
        have hsz:d<b.tmps.size∨¬d<b.tmps.size:=Classical.em _
        have hputput:∀v:Value,(b.put o.dst v).put o.dst v=b.put o.dst v:=by
          intro v
          rw [hd]
          simp only [Act.put]
          congr 1
          apply Array.ext_getElem?
          intro t
          simp only [Array.getElem?_setIfInBounds,Array.size_setIfInBounds]
          split
          · split<;>rfl
          · rfl
        have hfv:FV P E ((plus s (es.map (cJ E ops.toList base))).put o.dst v) (b.put o.dst cv) o:=by
          rcases h4 with ⟨hm4,h4⟩ | ⟨hm4,h4⟩
          · refine .inl ⟨hm4,?_⟩
            obtain ⟨_,d2,z,hd2,hu2,hop⟩:=gA hm4
            rw [hu] at hu2;injection hu2 with hu2;subst hu2
            have hzn:z≠d:=fun e=>by
              have:=hzd (.tmp z) (by simp) d hd
              simp [eZ,e] at this
            refine ⟨d,hd,fun k'=>?_⟩
            have e1:look E.nt ((plus s (es.map (cJ E ops.toList base))).put o.dst v).sl z=look E.nt (plus s (es.map (cJ E ops.toList base))).sl z:=by
              unfold look
              rw [hd]
              simp only [St.put]
              rw [aH _ _ hzn]
            have e2:∀k'',aX E o.op (cC E.nt ((plus s (es.map (cJ E ops.toList base))).put o.dst v).sl) ((plus s (es.map (cJ E ops.toList base))).put o.dst v).hp ((plus s (es.map (cJ E ops.toList base))).put o.dst v).nx k''=aX E o.op (cC E.nt (plus s (es.map (cJ E ops.toList base))).sl) (plus s (es.map (cJ E ops.toList base))).hp (plus s (es.map (cJ E ops.toList base))).nx k'':=by
              intro k''
              rw [show ((plus s (es.map (cJ E ops.toList base))).put o.dst v).hp=(plus s (es.map (cJ E ops.toList base))).hp by rw [hd];rfl,show ((plus s (es.map (cJ E ops.toList base))).put o.dst v).nx=(plus s (es.map (cJ E ops.toList base))).nx by rw [hd];rfl]
              rcases hop with ⟨t,hop⟩ | ⟨t,f,hop⟩<;>rw [hop]<;>simp only [aX,cC,e1]
            rw [e2,h4,hd]
            simp [St.put,aP]
          · refine .inr ⟨hm4,cv,hputput cv,fun w'=>?_⟩
            obtain ⟨p1,p2⟩:=mU hu
            rw [execOp_congr (ρ':=b.eval) o p1 fun x hx=>Act.eval_put fun t ht hxt=>?_]
            · exact h4 w'
            · have:=hzd x (p2 x hx) t ht
              rw [hxt] at this
              simp [eZ] at this
        have hnotin:i∉rem:=fun hm=>(hrem i hm).1 (by simp)
        obtain ⟨rem2,is2,es2,done2,dm2,s2,b2,q1,q2,q3,q4,q5⟩:=vl (A:=A) hT (is:=is) (rem:=rem++[i]) (es:=es) (done:=i::done) (dm:=dm||| 2^i) (s:=s.put o.dst v) (b:=b.put o.dst cv)
          { zv:=hord',DH:=hdm',zP:=by rw [hd];exact hrel.Em ho hd
            DI:=by rw [hpp];exact sm.put h3
            zA:=fun j hj=>by
              rw [hpp]
              rcases List.mem_append.1 hj with hj | hj
              · obtain ⟨p1,p2,f,p3,p4,p5,p6,p7⟩:=hrem j hj
                have hji:j≠i:=fun e=>hnotin (e ▸ hj)
                obtain ⟨⟨us',hu',hus'⟩,_⟩:=p5
                have hzf:∀x∈us',∀t,o.dst=some t->eZ x t=false:=by
                  intro x hx t ht
                  rcases iy hus' (l:=i) (o:=o) ho' ht with h | h
                  · rw [Nat.zero_add] at h
                    exact (p7 i h (by simp)).elim
                  · exact h x hx
                have hdf:∀t,o.dst=some t->f.dst≠some t:=fun t ht hft=>hji (iX hfresh (by simpa using p3) ho' hft ht)
                refine ⟨fun hm=>p1 (List.mem_cons_of_mem _ hm),List.mem_cons_of_mem _ p2,f,p3,p4,⟨⟨us',hu',hus'⟩,‹_›⟩,?_,fun l hl hm=>p7 l hl (List.mem_cons_of_mem _ hm)⟩
                rcases p6 with ⟨m1,m2⟩ | ⟨m1,m2⟩
                · refine .inl ⟨m1,m2.put m1 (fun z hz e=>?_) hdf⟩
                  rw [hu'] at hz;injection hz with hz;subst hz
                  have:=hzf (.tmp z) (by simp) z e
                  simp [eZ] at this
                · exact .inr ⟨m1,m2.put hu' hzf hdf⟩
              · obtain rfl:j=i:=by simpa using hj
                exact ⟨hins,by simp,o,ho,hf,⟨⟨us,hu,hus⟩,‹_›⟩,hfv,fun l hl hm=>hmi l hl (List.mem_cons_of_mem _ hm)⟩
            DK:=by
              rw [List.nodup_append]
              exact ⟨hnd,by simp,fun x hx y hy e=>by
                obtain rfl:y=i:=by simpa using hy
                subst e;exact hnotin hx⟩
            zI:=fun j hj f hf hfm x hx g hg hgm d' hd' us' hu' y hy hyd=>by
              rw [hpp]
              have hdd:∀x∈rem,ops[x]?=some g->d'≠d:=fun x hx hg e=>by
                have :x=i:=iX hfresh (by simpa using hg) ho' hd' (by rw [hd,e])
                exact hnotin (this ▸ hx)
              have hsl:d'≠d->((plus s (es.map (cJ E ops.toList base))).put o.dst v).sl d'=(plus s (es.map (cJ E ops.toList base))).sl d':=fun h=>by
                rw [hd];exact aH _ _ h
              rcases List.mem_append.1 hj with hj | hj
              · obtain ⟨p1,p2,f',p3,p4,⟨⟨us2,hu2,hus2⟩,_⟩,p6,p7⟩:=hrem j hj
                rw [hf] at p3;injection p3 with p3;subst p3
                rw [hu'] at hu2;injection hu2 with hu2;subst hu2
                rcases List.mem_append.1 hx with hx | hx
                · rw [hsl (hdd x hx hg)]
                  exact hdep j hj f hf hfm x hx g hg hgm d' hd' us' hu' y hy hyd
                · obtain rfl:x=i:=by simpa using hx
                  rcases iy hus2 (l:=x) (o:=g) (by simpa using hg) hd' with h | h
                  · rw [Nat.zero_add] at h
                    exact (p7 x h (by simp)).elim
                  · have:=h y hy
                    rw [hyd] at this;cases this
              · obtain rfl:j=i:=by simpa using hj
                rw [ho] at hf;injection hf with hf;subst hf
                rw [hu] at hu';injection hu' with hu';subst hu'
                rcases List.mem_append.1 hx with hx | hx
                · rw [hsl (hdd x hx hg)]
                  have hyt:y=.tmp d':=by
                    cases y with
                    | tmp t=>rw [Nat.eq_of_beq_eq_true (show Nat.beq t d'=true from hyd)]
                    | const c=>cases hyd
                    | func c=>cases hyd
                    | global c=>cases hyd
                  subst hyt
                  have hfl:=hf
                  have hsl2:qv o=true:=by
                    have:=‹iq o=true›
                    unfold iq at this
                    rw [hfm] at this
                    simpa using this
                  obtain ⟨_,_,_,hop⟩:=nv hsl2
                  rcases hop with ⟨z,hop⟩ | ⟨z,q,hop⟩ | ⟨p,t,x1,y1,ty,hop,_⟩
                  · have hdp:zp ops.toList o=true:=by
                      rcases hsp with ⟨h,_⟩ | ⟨_,h | h⟩
                      · rw [hnal] at h;cases h
                      · exact h.2
                      · rw [‹iq o=true›] at h;cases h.1
                    unfold zp at hdp
                    rw [hop] at hdp
                    simp only [List.all_eq_true] at hdp
                    have:=hdp g (List.mem_of_getElem? (show ops.toList[x]?=some g by simpa using hg))
                    rw [hgm,hd'] at this
                    rw [hop] at hu
                    simp only [dU,Option.some.injEq] at hu
                    subst hu
                    have hz:d'=z:=by simpa using hy
                    subst hz
                    simp at this
                  · have hdp:zp ops.toList o=true:=by
                      rcases hsp with ⟨h,_⟩ | ⟨_,h | h⟩
                      · rw [hnal] at h;cases h
                      · exact h.2
                      · rw [‹iq o=true›] at h;cases h.1
                    unfold zp at hdp
                    rw [hop] at hdp
                    simp only [List.all_eq_true] at hdp
                    have:=hdp g (List.mem_of_getElem? (show ops.toList[x]?=some g by simpa using hg))
                    rw [hgm,hd'] at this
                    rw [hop] at hu
                    simp only [dU,Option.some.injEq] at hu
                    subst hu
                    have hz:d'=z:=by simpa using hy
                    subst hz
                    simp at this
                  · rw [hop] at hu hslot'
                    simp only [dU,Option.some.injEq] at hu
                    subst hu
                    have key:∀x2:Operand,x2=.tmp d'->(∃ik n,cC E.nt (plus s (es.map (cJ E ops.toList base))).sl x2=.int ik n)->∃ik n,(plus s (es.map (cJ E ops.toList base))).sl d'=.int ik n:=by
                      rintro x2 rfl ⟨ik,n,h⟩
                      simp only [cC,look] at h
                      cases hb:Nat.blt d' E.nt with
                      | true=>rw [hb] at h;exact ⟨ik,n,h⟩
                      | false=>rw [hb] at h;cases h
                    simp only [nQ] at hslot'
                    split at hslot'
                    case h_2=>cases hslot'
                    rename_i ik1 m1 hx1
                    split at hslot'
                    case h_2=>cases hslot'
                    rename_i ik2 m2 hy1
                    rcases List.mem_cons.1 hy with e | hy
                    · exact key x1 e.symm ⟨_,_,hx1⟩
                    · have :Operand.tmp d'=y1:=by simpa using hy
                      exact key y1 this.symm ⟨_,_,hy1⟩
                · obtain rfl:x=j:=by simpa using hx
                  rw [ho] at hg;injection hg with hg;subst hg
                  rw [hfm] at hgm;cases hgm
            DG:=⟨hesn,fun j hj=>by
              obtain ⟨h1,h2⟩:=hes j hj
              exact ⟨(List.mem_cons.1 h1).resolve_left fun e=>hie (e ▸ hj),h2⟩⟩
            DJ:=fun j hj oj hoj hja=>by
              have:=hal j (List.mem_cons_of_mem _ hj) oj hoj hja
              rw [hd];exact this } g1
        refine ⟨rem2,is2,es2,done2,dm2,s2,b2,q1,q2,?_,fun j=>?_,q5⟩
        · simp at q3 ⊢;omega
        · rw [q4 j]
          simp only [List.mem_append,List.mem_cons,List.not_mem_nil,or_false]
          constructor
          · rintro ((h | h) | h)
            · exact .inl h
            · subst h;exact .inr ⟨.inl rfl,hie⟩
            · exact .inr ⟨.inr h.1,h.2⟩
          · rintro (h | ⟨h | h,h2⟩)
            · exact .inl (.inl h)
            · exact .inl (.inr h)
            · exact .inr ⟨h,h2⟩
end
theorem nj {p:Oper->Bool}{ops:Array Oper}{i:Nat}{o:Oper}(h:ops[i]?=some o):jV p ops.toList i=p o:=by
 unfold jV
 rw [show ops.toList[i]?=some o by simpa using h]
theorem yx {s:St}{es:List EA}{t:Nat}(h:∀e∈es,e.2.1≠t):look E.nt (plus s es).sl t=look E.nt s.sl t:=by
 unfold look
 rw [vc h]
theorem qJ {all:List Oper}:∀{is:List Nat} {x:Nat},x∈is->jV iC all x=false->∃x0,oC all is=some x0
 | [],x,h,_=>by cases h
 | i::is,x,h,ha=>by
  simp only [oC]
  cases hi:jV iC all i with
  | false=>exact ⟨i,rfl⟩
  | true=>
   rcases List.mem_cons.1 h with rfl | h
   ·rw [hi] at ha;cases ha
   ·exact qJ h ha
theorem yy {ops:Array Oper}{base:Nat}:∀{is:List Nat} {dm:Nat},uS E base ops.toList (masks ops.toList []) is dm=true->∀x∈is,∀o,ops[x]?=some o->iC o=true->(∃v r,Cb E o (base+x) v r)/\∀d,o.dst=some d->d<E.nt
 | [],_,_,x,h=>by cases h
 | i::is,dm,h,x,hx=>by
  obtain ⟨o,h1,h2,h3,h4,h5,h6⟩:=lp h
  rcases List.mem_cons.1 hx with rfl | hx
  ·intro o' ho ha
   rw [h1] at ho;injection ho with ho;subst ho
   rcases h4 with ⟨_,h4,_⟩ | ⟨h4,_⟩
   ·exact h4
   ·rw [ha] at h4;cases h4
  ·exact yy h6 x hx
theorem tK {s:St}{o:Op}{us:List Operand}(hu:dU o=some us){f:Oper}:∀{es:List EA},CH us es->(∀e∈es,(∀z,dU f.op=some [.tmp z]->z≠e.2.1)/\f.dst≠some e.2.1)->lq E (plus s es) o f=lq E s o f
 | [],_,_=>rfl
 | e::es,ho,h=>by
  show lq E (gm (plus s es) e) o f=_
  obtain ⟨h1,h2⟩:=h e (by simp)
  rw [zN hu (fun x hx=>ho e (by simp) x hx) h1 h2]
  exact tK hu (fun x hx=>ho x (List.mem_cons_of_mem _ hx)) fun x hx=>h x (List.mem_cons_of_mem _ hx)
theorem vf {s:St}{es:List EA}{all:List Oper}{g:Option (Nat×Bool)}(h:∀p,g=some p->∀o d,all[p.1]?=some o->o.dst=some d->∀e∈es,e.2.1≠d)(k:Bool->Option (Nat×Nat×Bool)->aD):guarded E.nt all (plus s es).sl g k=guarded E.nt all s.sl g k:=by
 unfold guarded
 cases g with
 | none=>rfl
 | some p=>
  obtain ⟨j,w⟩:=p
  simp only
  cases ho:all[j]? with
  | none=>rfl
  | some o=>
   simp only
   cases hd:o.dst with
   | none=>rfl
   | some d=>
    simp only
    rw [yx (h (j,w) rfl o d ho hd)]
theorem uj {α β:Type}{f:α->β}:∀{l:List α},l.Nodup->(∀a b,f a=f b->a=b)->(l.map f).Nodup
 | [],_,_=>List.nodup_nil
 | a::l,h,hf=>by
  rw [List.nodup_cons] at h
  rw [List.map_cons,List.nodup_cons]
  refine ⟨fun hm=>?_,uj h.2 hf⟩
  obtain ⟨b,hb,e⟩:=List.mem_map.1 hm
  exact h.1 (hf _ _ e ▸ hb)
theorem DE (hT:∀t i,E.T t=some i->fN P E t i)(hG:∀g c,c∈E.G g->Valid P E g c)(hM:lV P E){ops:Array Oper}{base:Nat}{Q:Exit->Act->World->Prop}(hback:je ops.toList 0=true)(hfresh:dL (gV ops.toList)=true){k:St->aD}
    (hQ:∀s' a' w',k s'=some ans->At E w0 M Z0 s' a' w'->Q .normal a' w') :
    ∀(m:Nat) (rem is es done:List Nat) (dm:Nat) (listed:Array Bool) (a b:Act) (w:World) (s:St) (A:cy),rem.length+is.length=m+es.length->listed.size=ops.size->(∀j,j<ops.size->(listed.getD j true=false↔(j∈rem∨j∈is/\j∉es)))->Closed ops listed->
      D9 P E w0 M ops base rem is es done dm s A a b w->A.Z=Z0->
      kT E ops.toList (masks ops.toList []) base done is s k=some ans->(∀i is3,is=i::is3->i∉es/\∀o,ops[i]?=some o->iq o=false)->wpAny P .any ops Q m listed a w:=by
  have unl:∀{listed:Array Bool} {j:Nat},j<listed.size->listed.getD j false=true->¬listed.getD j true=false:=by
    intro listed j hj h1 h2
    simp [hj] at h1 h2
    rw [h1] at h2;cases h2
  have inb:∀{listed:Array Bool} {j:Nat},listed.getD j false=true->j<listed.size:=by
    intro listed j hj
    rcases Nat.lt_or_ge j listed.size with h' | h'
    · exact h'
    · simp [Array.getElem?_eq_none h'] at hj
  have rdy:∀{listed:Array Bool} {i:Nat} {o:Oper},listed.size=ops.size->ops[i]?=some o->listed.getD i true=false->(∀l,((masks ops.toList []).getD i 0).testBit l=true->¬listed.getD l true=false)->i∈Region.ready .any ops listed:=by
    intro listed i o hls ho hi hm
    refine mem_ready.2 ⟨hi,o,ho,fun e he hb=>?_⟩
    have hlt:=iP hback (l:=i) (o:=o) (by simpa using ho) e (by simpa using he) hb
    have hio:=(Array.getElem?_eq_some_iff.1 ho).1
    obtain ⟨pre,h1,h2⟩:=ni (bs:=[]) (show ops.toList[i]?=some o by simpa using ho)
    have hbit:((masks ops.toList []).getD i 0).testBit e.on=true:=by
      rw [List.length_nil,Nat.zero_add] at h2
      rw [List.getD_eq_getElem?_getD,h2]
      have :∀{es:List Edge},e∈es->(jv pre es).testBit e.on=true:=by
        intro es
        induction es with
        | nil=>intro h;cases h
        | cons e' es ih=>
          intro h
          simp only [jv]
          rcases List.mem_cons.1 h with rfl | h
          · rw [hb,aL,Nat.testBit_or,Nat.testBit_or,Nat.testBit_two_pow_self];simp
          · cases Region.binds .any e' with
            | true=>rw [aL,Nat.testBit_or,ih h];simp
            | false=>exact ih h
      exact this (by simpa using he)
    have:=hm e.on hbit
    have hin:e.on<listed.size:=by omega
    simpa [hin] using this
  intro m
  induction m with
  | zero=>
    intro rem is es done dm listed a b w s A hm hls hl hc hat hz hr hhd
    obtain ⟨hord,hdm,hrel,sm,hrem,hnd,hdep,⟨hesn,hes⟩,hal⟩:=hat
    have his:is=[]:=by
      cases is with
      | nil=>rfl
      | cons i is=>
        have h1:=(hhd i is rfl).1
        have:=pZ hesn fun x hx=>(List.mem_cons.1 (hes x hx).1).resolve_left fun e=>h1 (e ▸ hx)
        simp at hm;omega
    subst his
    have hee:es=[]:=by
      cases es with
      | nil=>rfl
      | cons j es=>exact absurd (hes j (by simp)).1 (by simp)
    subst hee
    have h1:rem=[]:=List.eq_nil_of_length_eq_zero (by simpa using hm)
    subst h1
    refine ⟨?_,hQ s a w hr ⟨A,⟨sm.hp,fun i x hx=>sm.tm i x (by rw [<-hrel.2.2 i (by simp)];exact hx),sm.nx,by rw [hrel.2.1];exact sm.df,by rw [hrel.1];exact sm.sz,sm.fr⟩,hz⟩⟩
    rw [List.eq_nil_iff_forall_not_mem]
    intro i hi
    obtain ⟨h0,o,ho,_⟩:=mem_ready.1 hi
    have:=(hl i (Array.getElem?_eq_some_iff.1 ho).1).1 h0
    simp at this
  | succ m ih=>
    intro rem is es done dm listed a b w s A hm hls hl hc hat hz hr hhd
    have hat0:=hat
    obtain ⟨hord,hdm,hrel,sm,hrem,hnd,hdep,⟨hesn,hes⟩,hal⟩:=hat
    have hnis:=(nu hord).1
    have remO:∀j∈rem,j<ops.size:=fun j hj=>by
      obtain ⟨_,_,f,h,_⟩:=hrem j hj
      exact (Array.getElem?_eq_some_iff.1 h).1
    have isO:∀j∈is,j<ops.size:=fun j hj=>by
      obtain ⟨_,o,h,_⟩:=(nu hord).2 j hj
      exact (Array.getElem?_eq_some_iff.1 h).1
    have agree:∀{i:Nat} {us:List Operand},i∈Region.ready .any ops listed->qN us ((masks ops.toList []).getD i 0) ops.toList 0=true->∀x∈us,a.eval x=b.eval x:=by
      intro i us hir hus x hx
      refine hrel.eval fun j hj o' d ho' hd=>?_
      rcases iy hus (l:=j) (o:=o') (by simpa using ho') hd with h | h
      · rw [Nat.zero_add] at h
        have h1:=dH hc hir j h
        exact (unl (inb h1) h1 ((hl j (remO j hj)).2 (.inl hj))).elim
      · exact h x hx
    refine ⟨fun he=>?_,fun x hxr=>?_⟩
    ·
      by_cases hne:rem=[]
      · subst hne
        cases is with
        | nil=>
          have :es=[]:=by
            cases es with
            | nil=>rfl
            | cons j es=>exact absurd (hes j (by simp)).1 (by simp)
          subst this
          simp at hm
        | cons i is=>
          obtain ⟨o,ho,hn,hmk,_⟩:=lp hord
          have hi:=(Array.getElem?_eq_some_iff.1 ho).1
          have :i∈Region.ready .any ops listed:=rdy hls ho ((hl i hi).2 (.inr ⟨by simp,(hhd i is rfl).1⟩)) fun l hl' hf=>by
            have hli:=iH hback hi hl'
            have:=(hl l (by omega)).1 hf
            simp only [List.not_mem_nil,false_or] at this
            exact (hdm l (by omega)).1 (hmk l hl') this.1
          rw [he] at this;cases this
      · obtain ⟨i,him,hmin⟩:=min_mem hne
        obtain ⟨_,_,f,hf,_,_,_,hmk⟩:=hrem i him
        have hi:=remO i him
        have :i∈Region.ready .any ops listed:=rdy hls hf ((hl i hi).2 (.inl him)) fun l hl' hff=>by
          have hli:=iH hback hi hl'
          rcases (hl l (by omega)).1 hff with h | h
          · have:=hmin l h;omega
          · exact hmk l hl' h.1
        rw [he] at this;cases this
    · obtain ⟨h0,o,ho,_⟩:=mem_ready.1 hxr
      have hx:=(Array.getElem?_eq_some_iff.1 ho).1
      have ho':ops.toList[x]?=some o:=by simpa using ho
      have cont:∀{rem is es done:List Nat} {dm:Nat} {listed:Array Bool} {a b:Act} {w:World} {s:St} {A:cy},rem.length+is.length=m+es.length->listed.size=ops.size->(∀j,j<ops.size->(listed.getD j true=false↔(j∈rem∨j∈is/\j∉es)))->Closed ops listed->
          D9 P E w0 M ops base rem is es done dm s A a b w->A.Z=Z0->kT E ops.toList (masks ops.toList []) base done is s k=some ans->wpAny P .any ops Q m listed a w:=by
        intro rem is es done dm listed a b w s A c1 c2 c3 c4 c5 c6 c7
        obtain ⟨rem2,is2,es2,done2,dm2,s2,b2,q1,q2,q3,q4,q5⟩:=vl hback hfresh hT c5 c7
        exact ih rem2 is2 es2 done2 dm2 listed a b2 w s2 A (by omega) c2 (fun j hj=>(c3 j hj).trans (q4 j).symm) c4 q1 c6 q2 q5
      have setL:∀{p:Nat->Prop},(∀j,j<ops.size->(listed.getD j true=false↔p j))->∀j,j<ops.size->((listed.setIfInBounds x true).getD j true=false↔(p j/\j≠x)):=by
        intro p hp j hj
        by_cases hij:x=j
        · subst hij
          have :x<listed.size:=by omega
          simp [this]
        · rw [getD_set_ne true hij,hp j hj]
          simp [Ne.symm hij]
      by_cases hxm:x∈rem
      ·
        obtain ⟨p1,p2,f,p3,p4,p5,p6,p7⟩:=hrem x hxm
        rw [ho] at p3;injection p3 with p3;subst p3
        obtain ⟨hg,d,hd⟩:=wY p4
        obtain ⟨⟨us,hu,hus⟩,hgd⟩:=p5
        refine lN ho ?_
        rw [if_pos (by simp [Region.wanted,hg])]
        have hfin:∀(v:Value),fq E w0 M A (plus s (es.map (cJ E ops.toList base))) (b.put o.dst v) w->(∀j∈rem.erase x,∀f,ops[j]?=some f->ga f=false->∀us,dU f.op=some us->(∃y∈us,eZ y d=true)->b.put o.dst v=b)->
            wpAny P .any ops Q m (listed.setIfInBounds x true) (a.put o.dst v) w:=by
          intro v hsm hown
          refine cont (rem:=rem.erase x) (is:=is) (es:=es) (done:=done) (dm:=dm) (b:=b.put o.dst v) (s:=s) (A:=A) (by rw [List.length_erase_of_mem hxm];have:=List.length_pos_of_mem hxm;omega) (by simpa using hls) (fun j hj=>?_) (hc.set hxr)
            { zv:=hord,DH:=hdm,zP:=hrel.put fun t ht h j hj f hf hfd=>?_,DI:=hsm
              zA:=fun j hj=>?_
              DK:=hnd.erase x
              zI:=fun j hj f hf hfm x' hx'=>hdep j (List.mem_of_mem_erase hj) f hf hfm x' (List.mem_of_mem_erase hx')
              DG:=⟨hesn,hes⟩,DJ:=hal } hz hr
          · rw [setL hl j hj,hnd.mem_erase_iff]
            constructor
            · rintro ⟨h1 | h1,h2⟩
              · exact .inl ⟨h2,h1⟩
              · exact .inr h1
            · rintro (h1 | h1)
              · exact ⟨.inl h1.2,h1.1⟩
              · exact ⟨.inr h1,fun e=>p1 (e ▸ h1.1)⟩
          · by_cases hjx:j=x
            · subst hjx
              rw [ho] at hf;injection hf with hf;subst hf
              exact ht hfd
            · exact h j (hnd.mem_erase_iff.2 ⟨hjx,hj⟩) f hf hfd
          · obtain ⟨hjx,hjr⟩:=hnd.mem_erase_iff.1 hj
            obtain ⟨n1,n2,f,n3,n4,n5,n6,n7⟩:=hrem j hjr
            refine ⟨n1,n2,f,n3,n4,n5,?_,n7⟩
            obtain ⟨⟨us',hu',hus'⟩,_⟩:=n5
            rcases n6 with ⟨m1,m2⟩ | ⟨m1,m2⟩
            · exact .inl ⟨m1,m2⟩
            · refine .inr ⟨m1,?_⟩
              by_cases hmx:∃y∈us',eZ y d=true
              · rw [hown j hj f n3 m1 us' hu' hmx];exact m2
              · refine m2.put hu' (fun y hy t ht=>?_) (fun t ht hft=>hjx (iX hfresh (by simpa using n3) ho' hft ht))
                rw [hd] at ht;injection ht with ht;subst ht
                cases hb:eZ y d with
                | false=>rfl
                | true=>exact (hmx ⟨y,hy,hb⟩).elim
        have hself:(plus s (es.map (cJ E ops.toList base))).put o.dst ((plus s (es.map (cJ E ops.toList base))).sl d)=plus s (es.map (cJ E ops.toList base)):=by
          rw [hd]
          simp only [St.put]
          rw [sK rfl]
        rcases p6 with ⟨m1,d',hd',hre⟩ | ⟨m1,v,e1,e2⟩
        · obtain rfl:d'=d:=by rw [hd'] at hd;injection hd
          have hslot:nQ E (plus s (es.map (cJ E ops.toList base))) o.op=true:=by
            obtain ⟨_,_,_,_,_,hop⟩:=gA m1
            rcases hop with ⟨t,hop⟩ | ⟨t,f,hop⟩<;>rw [hop]<;>rfl
          obtain ⟨v',cv,h3,h4,h5,_⟩:=AQ hT p4 hslot sm (ans:=ans) (k:=fun v' rs=>open Classical in if v'=(plus s (es.map (cJ E ops.toList base))).sl d' then some ans else none) (by rw [hre];simp)
          have hv:v'=(plus s (es.map (cJ E ops.toList base))).sl d':=Classical.byContradiction fun hn=>by simp only [if_neg hn] at h3;cases h3
          subst hv
          refine pW hu (agree hxr hus) (K':=fun b' w'=>b'.defers=[]/\b'=b.put o.dst cv/\w'=w) (fun b' w' h=>h.1) ?_ ?_
          · unfold Oper.wp
            rw [h4]
            exact ⟨by rw [hd'];exact sm.df,rfl,rfl⟩
          · rintro v w' ⟨_,hv,rfl⟩
            have hsm:fq E w0 M A (plus s (es.map (cJ E ops.toList base))) (b.put o.dst v) w':=by
              rw [hv]
              have:=sm.put (d:=o.dst) h5
              rwa [hself] at this
            refine hfin v hsm fun j hj f hf hfm us' hu' ⟨y,hy,hyd⟩=>?_
            obtain ⟨ik,n,hint⟩:=hdep j (List.mem_of_mem_erase hj) f hf hfm x hxm o ho m1 d' hd' us' hu' y hy hyd
            rw [hd']
            have hb2:∀t x,b.tmps[t]?=some x->t=d'->x=.int ik n:=by
              rintro t x hx rfl
              have:=sm.tm t x hx
              rw [hint] at this;exact this
            simp only [Act.put]
            have :b.tmps.setIfInBounds d' v=b.tmps:=by
              apply Array.ext_getElem?
              intro t
              rw [Array.getElem?_setIfInBounds]
              by_cases hdt:d'=t
              · subst hdt
                rw [if_pos rfl]
                split
                · rename_i hlt
                  have h6:=hsm.tm d' v (by rw [hd'];simp [Act.put,hlt])
                  rw [hint] at h6
                  have h7:=hb2 d' _ (Array.getElem?_eq_getElem hlt) rfl
                  rw [Array.getElem?_eq_getElem hlt,h7]
                  exact congrArg some (show v=.int ik n from h6)
                · rename_i hlt
                  rw [Array.getElem?_eq_none (Nat.le_of_not_lt hlt)]
              · rw [if_neg hdt]
            rw [this]
        · refine pW hu (agree hxr hus) (K':=fun b' w'=>b'.defers=[]/\b'=b/\w'=w) (fun b' w' h=>h.1) ?_ ?_
          · unfold Oper.wp
            rw [e2 w]
            exact ⟨by rw [hd];exact sm.df,e1,rfl⟩
          · rintro v' w' ⟨_,hv,rfl⟩
            exact hfin v' (by rw [hv];exact sm) fun _ _ _ _ _ _ _ _=>hv
      · have hxi:x∈is/\x∉es:=((hl x hx).1 h0).resolve_left hxm
        have hmx:∀l,((masks ops.toList []).getD x 0).testBit l=true->l∉rem/\(l∈is->l∈es):=by
          intro l hl'
          have h1:=dH hc hxr l hl'
          have hlx:=iH hback hx hl'
          have h2:=unl (inb h1) h1
          rw [hl l (by omega)] at h2
          exact ⟨fun h=>h2 (.inl h),fun h=>Classical.byContradiction fun hn=>h2 (.inr ⟨h,hn⟩)⟩
        obtain ⟨_,o2,ho2,hok⟩:=(nu hord).2 x hxi.1
        rw [ho] at ho2;injection ho2 with ho2;subst ho2
        obtain ⟨⟨us,hu,hus⟩,hgd⟩:=hok
        cases hxa:iC o with
        | true=>
          obtain ⟨hg,d,_,hd,_⟩:=ku hxa
          obtain ⟨⟨v0,r0,hq⟩,_⟩:=yy hord x hxi.1 o ho hxa
          obtain ⟨hbx,hbd,hba⟩:=hal x hxi.1 o ho hxa
          have hba:=hba hxi.2
          refine lN ho ?_
          rw [if_pos (by simp [Region.wanted,hg])]
          have hallq:∀k':V->List aK->aD,aX E o.op (cC E.nt (plus s (es.map (cJ E ops.toList base))).sl) (plus s (es.map (cJ E ops.toList base))).hp (base+x) k'=k' v0 [r0]:=fun k'=>hq.1 _ _ k'
          obtain ⟨v2,rs2,k1,k2⟩:=jf (o:=o) (M:=M) (w0:=w0) (nx:=base+x) (k:=fun v rs=>open Classical in if v=v0/\rs=[r0] then some ans else none) hT hG sm.hp sm.ev (ans:=ans) (by rw [hallq];simp)
          simp only at k1
          split at k1
          case isFalse=>cases k1
          rename_i hvr
          rw [hvr.1,hvr.2] at k2
          refine pW hu (agree hxr hus) (K':=fun b' w'=>b'.defers=[]/\∃cv A',b'=b.put o.dst cv/\Hp E.cells w0 M A' (dA (plus s (es.map (cJ E ops.toList base))).hp (base+x) [r0]) w'/\Step A A' w w' (fun _=>False)/\V2 E.cells w' A' v0 cv/\(∀r,A'.al r->A.al r∨(base+x<=r/\r<base+x+1))) (fun b' w' h=>h.1) ?_ ?_
          · exact k2 (fun r hr1 hr2=>by
              have :r=base+x:=by simp at hr2;omega
              rw [this];exact hba) _ _ fun cv w' A' g1 g2 g3 g4=>⟨by rw [hd];exact sm.df,cv,A',rfl,g1,g2,g3,g4⟩
          · rintro v w' ⟨_,cv,A',hv,g1,g2,g3,g4⟩
            rw [hd] at hv
            have hvb:∀y:Value,b.put (some d) v=b.put (some d) cv:=fun _=>hv
            have sm3:fq E w0 M A' { sl:=(plus s (es.map (cJ E ops.toList base))).sl,hp:=upd (plus s (es.map (cJ E ops.toList base))).hp (base+x) r0,nx:=(plus s (es.map (cJ E ops.toList base))).nx,fr:=(plus s (es.map (cJ E ops.toList base))).fr } b w':=by
              refine ⟨g1,fun i y hy=>(sm.tm i y hy).step g2 sm.hp (fun _ h=>h),fun r hr ha=>?_,sm.df,sm.sz,sm.fr.mono fun _ _ h=>h.step g2 sm.hp (fun _ h=>h)⟩
              rcases g4 r ha with h1 | h1
              · exact sm.nx r hr h1
              · have hr':(plus s (es.map (cJ E ops.toList base))).nx<=r:=hr
                rw [lu] at hr'
                omega
            have sm4:=sm3.put (d:=some d) g3
            have hea:({ sl:=(plus s (es.map (cJ E ops.toList base))).sl,hp:=upd (plus s (es.map (cJ E ops.toList base))).hp (base+x) r0,nx:=(plus s (es.map (cJ E ops.toList base))).nx,fr:=(plus s (es.map (cJ E ops.toList base))).fr }:St).put (some d) v0=plus s ((x::es).map (cJ E ops.toList base)):=by
              show _=gm (plus s (es.map (cJ E ops.toList base))) (cJ E ops.toList base x)
              rw [yR ho' hq,hd]
              rfl
            rw [hea,<-hv] at sm4
            have hedst:(cJ E ops.toList base x).2.1=d:=by rw [kX ho',hd];rfl
            rw [hd]
            refine cont (rem:=rem) (is:=is) (es:=x::es) (done:=done) (dm:=dm) (b:=b.put (some d) v) (s:=s) (A:=A') (by simp;omega) (by simpa using hls) (fun j hj=>?_) (hc.set hxr)
              { zv:=hord,DH:=hdm,zP:=hrel.put fun t _ h=>h,DI:=sm4
                zA:=fun j hj=>?_
                DK:=hnd
                zI:=fun j hj f hf hfm x' hx' g hg hgm d' hd' us' hu' y hy hyd=>?_
                DG:=⟨List.nodup_cons.2 ⟨hxi.2,hesn⟩,fun j hj=>?_⟩
                DJ:=fun j hj oj hoj hja=>?_ } (g2.Z.trans hz) hr
            · rw [setL hl j hj]
              simp only [List.mem_cons,not_or]
              constructor
              · rintro ⟨h1 | h1,h2⟩
                · exact .inl h1
                · exact .inr ⟨h1.1,h2,h1.2⟩
              · rintro (h1 | h1)
                · exact ⟨.inl h1,fun e=>hxm (e ▸ h1)⟩
                · exact ⟨.inr ⟨h1.1,h1.2.2⟩,h1.2.1⟩
            · obtain ⟨n1,n2,f,n3,n4,n5,n6,n7⟩:=hrem j hj
              refine ⟨n1,n2,f,n3,n4,n5,?_,n7⟩
              obtain ⟨⟨us',hu',hus'⟩,_⟩:=n5
              have hoffd:∀y∈us',eZ y d=false:=by
                intro y hy
                rcases iy hus' (l:=x) (o:=o) ho' hd with h | h
                · rw [Nat.zero_add] at h
                  exact (n7 x h hxi.1).elim
                · exact h y hy
              have hfd:f.dst≠some d:=fun hft=>hxm ((iX hfresh (by simpa using n3) ho' hft hd) ▸ hj)
              rcases n6 with ⟨m1,m2⟩ | ⟨m1,m2⟩
              · refine .inl ⟨m1,?_⟩
                show Re E (gm (plus s (es.map (cJ E ops.toList base))) (cJ E ops.toList base x)) f
                refine m2.gm m1 (fun z hz e=>?_) (by rw [hedst];exact hfd) ?_
                · rw [hu'] at hz;injection hz with hz;subst hz
                  rw [hedst] at e
                  have:=hoffd (.tmp z) (by simp)
                  simp [eZ,e] at this
                · rw [gR];exact sm.hp.al _ hba
              · exact .inr ⟨m1,m2.put hu' (fun y hy t ht=>by injection ht with ht;subst ht;exact hoffd y hy) (fun t ht=>by injection ht with ht;subst ht;exact hfd)⟩
            · have hne:d'≠d:=fun e=>hxm ((iX hfresh (by simpa using hg) ho' (by rw [hd',e]) hd) ▸ hx')
              show ∃ik n,upd (plus s (es.map (cJ E ops.toList base))).sl (cJ E ops.toList base x).2.1 _ d'=.int ik n
              rw [aH _ _ (by rw [hedst];exact hne)]
              exact hdep j hj f hf hfm x' hx' g hg hgm d' hd' us' hu' y hy hyd
            · rcases List.mem_cons.1 hj with rfl | hj
              · exact ⟨hxi.1,o,ho,hxa⟩
              · exact hes j hj
            · obtain ⟨h1,h2,h3⟩:=hal j hj oj hoj hja
              refine ⟨h1,h2,fun hn ha=>?_⟩
              simp only [List.mem_cons,not_or] at hn
              rcases g4 _ ha with h | h
              · exact h3 hn.2 h
              · exact hn.1 (by omega)
        | false=>
          cases is with
          | nil=>cases hxi.1
          | cons i is=>
          obtain ⟨oi,hoi,hn,hmk,hsp,_,hord'⟩:=lp hord
          have hi:=(Array.getElem?_eq_some_iff.1 hoi).1
          have hie:=(hhd i is rfl).1
          have hspi:iq oi=false:=(hhd i is rfl).2 oi hoi
          have hxe:x=i:=by
            rcases List.mem_cons.1 hxi.1 with h | hxs
            · exact h
            · exfalso
              rcases hsp with ⟨_,_,hsp⟩ | ⟨_,hsp | ⟨_,hsp,_⟩⟩
              · obtain ⟨x0,hx0⟩:=qJ hxs (by rw [nj ho];exact hxa)
                obtain ⟨b1,b2⟩:=hsp x0 hx0
                obtain ⟨b3,b4,b5⟩:=vY hord' x0 hx0 b2
                rcases b5 x hxs (by rw [nj ho];exact hxa) with rfl | h
                · exact hie ((hmx i b1).2 (by simp))
                · have:=(hmx x0 h).2 (List.mem_cons_of_mem _ b3)
                  obtain ⟨_,o0,ho0,ha0⟩:=hes x0 this
                  rw [nj ho0,ha0] at b4;cases b4
              · rw [hspi] at hsp;cases hsp.1
              · rcases hsp x hxs with h | h
                · rw [nj ho,hxa] at h;cases h
                · exact hie ((hmx i h).2 (by simp))
          subst hxe
          rw [ho] at hoi;injection hoi with hoi;subst hoi
          have hmi:∀l,((masks ops.toList []).getD x 0).testBit l=true->l∉x::is:=by
            intro l hl'
            have:=iH hback hx hl'
            exact (hdm l (by omega)).1 (hmk l hl')
          have hoff:CH us (es.map (cJ E ops.toList base)):=yt hes hus hmi
          have hdst:=uT (E:=E) (base:=base) hfresh (fun j hj=>(hes j hj).2) ho hxi.2
          simp only [kT] at hr
          rw [ho'] at hr
          simp only [hxa,hspi,aT] at hr
          obtain ⟨hpend,hr⟩:=cO hr
          obtain ⟨go,kn,h2,hkn,hgdet⟩:=mw hr
          rw [hkn.st] at h2
          have hgd':∀k':Bool->Option (Nat×Nat×Bool)->aD,guarded E.nt ops.toList (plus s (es.map (cJ E ops.toList base))).sl o.guard k'=k' go kn:=by
            intro k'
            rw [vf ?_,hgdet]
            intro p hp og d hog hdg e he hed
            have hgb:=hmi _ (hgd p hp)
            have hge:p.1∉es:=fun h=>hgb (hes _ h).1
            exact uT (E:=E) (base:=base) hfresh (fun j hj=>(hes j hj).2) (show ops[p.1]?=some og by simpa using hog) hge e he (by rw [hdg,hed])
          have hw:=lJ (o:=o) sm.tm sm.sz hgd'
          have hwa:Region.wanted o (yielded ops a.tmps)=go:=by
            rw [<-hw]
            unfold Region.wanted
            cases hg:o.guard with
            | none=>rfl
            | some gw=>
              obtain ⟨g,want⟩:=gw
              have hgl:=(hmx g (hgd _ hg)).1
              have :yielded ops a.tmps g=yielded ops b.tmps g:=by
                unfold yielded
                cases hog:ops[g]? with
                | none=>rfl
                | some og=>
                  simp only [Option.bind_some]
                  cases hdg:og.dst with
                  | none=>rfl
                  | some dg=>
                    show (match a.tmps[dg]? with | some (.bool b)=>some b | _=>none)=match b.tmps[dg]? with | some (.bool b)=>some b | _=>none
                    rw [hrel.2.2 dg fun j hj f hf hfd=>?_]
                    have :j=g:=iX hfresh (by simpa using hf) (by simpa using hog) hfd hdg
                    subst this
                    exact hgl hj
              show (yielded ops a.tmps g==some want)=(yielded ops b.tmps g==some want)
              rw [this]
          have hside:∀j∈rem,∀f,ops[j]?=some f->(∀us',dU f.op=some us'->∀y∈us',∀t,o.dst=some t->eZ y t=false)/\(∀t,o.dst=some t->f.dst≠some t):=by
            intro j hj f hf
            obtain ⟨p1,p2,f',p3,p4,⟨⟨us2,hu2,hus2⟩,_⟩,p6,p7⟩:=hrem j hj
            rw [hf] at p3;injection p3 with p3;subst p3
            refine ⟨fun us' hu' y hy t ht=>?_,fun t ht hft=>?_⟩
            · rw [hu2] at hu';injection hu' with hu';subst hu'
              rcases iy hus2 (l:=x) (o:=o) ho' ht with h | h
              · rw [Nat.zero_add] at h
                exact (p7 x h (by simp)).elim
              · exact h y hy
            · have :j=x:=iX hfresh (by simpa using hf) ho' hft ht
              exact hxm (this ▸ hj)
          have hpen:∀j∈rem,∀f,ops[j]?=some f->ga f=true->lq E (plus s (es.map (cJ E ops.toList base))) o.op f=true:=by
            intro j hj f hf hff
            obtain ⟨p1,p2,f',p3,p4,⟨⟨us2,hu2,hus2⟩,_⟩,p6,p7⟩:=hrem j hj
            rw [hf] at p3;injection p3 with p3;subst p3
            have hmf:((masks ops.toList []).getD x 0).testBit j=false:=by
              cases hb:((masks ops.toList []).getD x 0).testBit j with
              | false=>rfl
              | true=>exact ((hmx j hb).1 hj).elim
            obtain ⟨f2,hf2,hfl⟩:=sL hpend j p2 hmf
            rw [show ops.toList[j]?=some f by simpa using hf] at hf2
            injection hf2 with hf2;subst hf2
            have hoff2:CH us2 (es.map (cJ E ops.toList base)):=yt hes hus2 p7
            rw [tK hu hoff fun e he=>⟨fun z hz e1=>?_,uT (E:=E) (base:=base) hfresh (fun j hj=>(hes j hj).2) hf (fun h=>p1 (hes j h).1) e he⟩]
            · exact hfl p4
            · rw [hu2] at hz;injection hz with hz;subst hz
              have:=hoff2 e he (.tmp z) (by simp)
              simp [eZ,e1] at this
          have hdm':∀l,l<ops.size->((dm||| 2^x).testBit l=true↔l∉is):=by
            intro l hl
            rw [Nat.testBit_or,Bool.or_eq_true,hdm l hl,Nat.testBit_two_pow,decide_eq_true_iff]
            constructor
            · rintro (h | h)
              · exact fun hm=>h (List.mem_cons_of_mem _ hm)
              · subst h;exact (List.nodup_cons.1 hnis).1
            · intro h
              by_cases hli:x=l
              · exact .inr hli
              · exact .inl fun hm=>(List.mem_cons.1 hm).elim (fun e=>hli e.symm) h
          have hes2:∀j∈es,j∈is/\∃o,ops[j]?=some o/\iC o=true:=fun j hj=>by
            obtain ⟨h1,h2⟩:=hes j hj
            exact ⟨(List.mem_cons.1 h1).resolve_left fun e=>hxi.2 (e ▸ hj),h2⟩
          have next:∀{A':cy} {s2:St} {v':V} {v:Value} {w':World},fq E w0 M A' (plus (s2.put o.dst v') (es.map (cJ E ops.toList base))) (b.put o.dst v) w'->A'.Z=Z0->
              (∀j∈rem,∀f,ops[j]?=some f->ga f=true->Re E (plus (s2.put o.dst v') (es.map (cJ E ops.toList base))) f)->
              (∀j∈rem,∀f,ops[j]?=some f->ga f=true->∀d,f.dst=some d->(∃ik n,(plus s (es.map (cJ E ops.toList base))).sl d=.int ik n)->∃ik n,(plus (s2.put o.dst v') (es.map (cJ E ops.toList base))).sl d=.int ik n)->
              (∀j∈is,∀o,ops[j]?=some o->iC o=true->base+j<s2.nx/\s2.hp (base+j)=.dead/\(j∉es->¬A'.al (base+j)))->
              kT E ops.toList (masks ops.toList []) base (x::done) is (s2.put o.dst v') k=some ans->wpAny P .any ops Q m (listed.setIfInBounds x true) (a.put o.dst v) w':=by
            intro A' s2 v' v w' hsm hz' hre hint halr hr'
            have hput:(s2.put o.dst v').hp=s2.hp/\(s2.put o.dst v').nx=s2.nx:=by cases o.dst<;>exact ⟨rfl,rfl⟩
            refine cont (rem:=rem) (is:=is) (es:=es) (done:=x::done) (dm:=dm||| 2^x) (b:=b.put o.dst v) (s:=s2.put o.dst v') (A:=A') (by simp at hm;omega) (by simpa using hls) (fun j hj=>?_) (hc.set hxr)
              { zv:=hord',DH:=hdm',zP:=hrel.put fun t _ h=>h,DI:=hsm
                zA:=fun j hj=>?_
                DK:=hnd
                zI:=fun j hj f hf hfm x' hx' g hg hgm d' hd' us' hu' y hy hyd=>hint x' hx' g hg hgm d' hd' (hdep j hj f hf hfm x' hx' g hg hgm d' hd' us' hu' y hy hyd)
                DG:=⟨hesn,hes2⟩
                DJ:=fun j hj oj hoj hja=>by rw [hput.1,hput.2];exact halr j hj oj hoj hja } hz' hr'
            · rw [setL hl j hj]
              have h2:x∉is:=(List.nodup_cons.1 hnis).1
              simp only [List.mem_cons]
              constructor
              · rintro ⟨h1 | ⟨h1 | h1,h3⟩,h2⟩
                · exact .inl h1
                · exact (h2 h1).elim
                · exact .inr ⟨h1,h3⟩
              · rintro (h1 | h1)
                · exact ⟨.inl h1,fun e=>hxm (e ▸ h1)⟩
                · exact ⟨.inr ⟨.inr h1.1,h1.2⟩,fun e=>h2 (e ▸ h1.1)⟩
            · obtain ⟨n1,n2,f,n3,n4,n5,n6,n7⟩:=hrem j hj
              refine ⟨fun hm=>n1 (List.mem_cons_of_mem _ hm),List.mem_cons_of_mem _ n2,f,n3,n4,n5,?_,fun l hl hm=>n7 l hl (List.mem_cons_of_mem _ hm)⟩
              obtain ⟨g1,g2⟩:=hside j hj f n3
              rcases n6 with ⟨m1,m2⟩ | ⟨m1,m2⟩
              · exact .inl ⟨m1,hre j hj f n3 m1⟩
              · obtain ⟨⟨us',hu',_⟩,_⟩:=n5
                exact .inr ⟨m1,m2.put hu' (g1 us' hu') g2⟩
          refine lN ho ?_
          rw [hwa]
          cases go<;>simp only [aL,aT] at h2
          case false=>
            rw [if_neg (by simp)]
            refine next (s2:=s) (v':=.undef) (A':=A) (by rw [kZ hdst];exact sm.put (v:=.undef) (cv:=undef) rfl) hz (fun j hj f hf hfm=>?_) (fun j hj f hf hfm d hd hin=>?_) (fun j hj=>hal j (List.mem_cons_of_mem _ hj)) h2
            · obtain ⟨g1,g2⟩:=hside j hj f hf
              obtain ⟨_,_,f',n3,n4,n5,n6,n7⟩:=hrem j hj
              rw [hf] at n3;injection n3 with n3;subst n3
              rcases n6 with ⟨m1,m2⟩ | ⟨m1,_⟩
              · rw [kZ hdst]
                refine m2.put m1 (fun z hz e=>?_) g2
                have:=g1 _ hz (.tmp z) (by simp) z e
                simp [eZ] at this
              · rw [hfm] at m1;cases m1
            · obtain ⟨g1,g2⟩:=hside j hj f hf
              obtain ⟨ik,n,hin⟩:=hin
              refine ⟨ik,n,?_⟩
              rw [kZ hdst,<-hin]
              cases hod:o.dst with
              | none=>rfl
              | some e=>exact aH _ _ (fun e1=>g2 e hod (by rw [hd,e1]))
          case true=>
            rw [if_pos rfl]
            have hex:∃k2:V->St->aD,gn E o.op (plus s (es.map (cJ E ops.toList base))) k2=some ans/\∀v S',k2 v S'=some ans->∃s2,S'=plus s2 (es.map (cJ E ops.toList base))/\(∀e∈es.map (cJ E ops.toList base),s2.hp e.2.2.1=.dead)/\kT E ops.toList (masks ops.toList []) base (x::done) is (s2.put o.dst v) k=some ans:=by
              cases hese:es.map (cJ E ops.toList base) with
              | nil=>exact ⟨_,h2,fun v S' h=>⟨S',rfl,by simp,h⟩⟩
              | cons e esl=>
                have hlate:ju E o.op=true:=by
                  have :∃j,j∈es:=by
                    cases es with
                    | nil=>cases hese
                    | cons j _=>exact ⟨j,by simp⟩
                  obtain ⟨j,hj⟩:=this
                  obtain ⟨h1,oj,h3,h4⟩:=hes2 j hj
                  rcases hsp with ⟨h,_⟩ | ⟨_,h | ⟨_,_,h⟩⟩
                  · rw [hxa] at h;cases h
                  · rw [hspi] at h;cases h.1
                  · rcases h with h | h
                    · have:=h j h1
                      rw [nj h3,h4] at this;cases this
                    · exact h
                have hdn:∀q∈e::esl,s.hp q.2.2.1=.dead/\q.2.2.1<s.nx/\q.2.1<E.nt/\Cs q:=by
                  intro q hq
                  rw [<-hese] at hq
                  obtain ⟨j,hj,rfl⟩:=List.mem_map.1 hq
                  obtain ⟨h1,oj,h3,h4⟩:=hes j hj
                  obtain ⟨c1,c2,c3⟩:=hal j h1 oj h3 h4
                  obtain ⟨_,dj,_,hdj,_⟩:=ku h4
                  have e1:(cJ E ops.toList base j).2.1=dj:=by rw [kX (show ops.toList[j]?=some oj by simpa using h3),hdj];rfl
                  rw [gR]
                  exact ⟨c2,c1,by rw [e1];exact (yy hord j h1 oj h3 h4).2 dj hdj,zR⟩
                have hnd2:((e::esl).map fun q=>q.2.2.1).Nodup:=by
                  rw [<-hese,List.map_map]
                  refine uj hesn fun p q h=>?_
                  have :base+p=base+q:=by simpa only [Function.comp,gR] using h
                  omega
                obtain ⟨v0,s2,c1,c2,c3⟩:=yC hM.2 h2 hlate hu (by rw [<-hese];exact hoff) hdn hnd2
                refine ⟨fun v S'=>open Classical in if v=v0/\S'=plus s2 (e::esl) then some ans else none,by rw [c3];simp,fun v S' h=>?_⟩
                simp only at h
                split at h
                · rename_i hv
                  obtain ⟨rfl,rfl⟩:=hv
                  exact ⟨s2,rfl,c2,c1⟩
                · cases h
            obtain ⟨k2,hk2,hk3⟩:=hex
            refine pW hu (agree hxr hus) ?_ (yc hT hG hM sm hk2) ?_
            · rintro b' w' ⟨v,s',A',e1,e2,_⟩;exact e2.df
            · rintro v w' ⟨v',s',A',e1,e2,e3,e4,e5⟩
              obtain ⟨s2,rfl,c2,c3⟩:=hk3 v' s' e1
              have hpp:(plus s2 (es.map (cJ E ops.toList base))).put o.dst v'=plus (s2.put o.dst v') (es.map (cJ E ops.toList base)):=(kZ hdst).symm
              rw [hpp] at e2 e4
              have hkept:∀j∈rem,∀f,ops[j]?=some f->ga f=true->Kept E (plus s (es.map (cJ E ops.toList base))) (plus (s2.put o.dst v') (es.map (cJ E ops.toList base))) f:=by
                intro j hj f hf hfm
                obtain ⟨g1,g2⟩:=hside j hj f hf
                refine e4 f hfm (hpen j hj f hf hfm) fun d z hd hu'=>⟨fun h=>g2 d h hd,fun h=>?_⟩
                have:=g1 _ hu' (.tmp z) (by simp) z h
                simp [eZ] at this
              refine next e2 (e3.trans hz) (fun j hj f hf hfm=>?_) (fun j hj f hf hfm d hd hin=>?_) (fun j hj oj hoj hja=>?_) c3
              · obtain ⟨_,_,f',n3,n4,n5,n6,n7⟩:=hrem j hj
                rw [hf] at n3;injection n3 with n3;subst n3
                rcases n6 with ⟨m1,m2⟩ | ⟨m1,_⟩
                · exact BV m1 m2 (hpen j hj f hf hfm) (hkept j hj f hf hfm)
                · rw [hfm] at m1;cases m1
              · obtain ⟨ik,n,hin⟩:=hin
                refine ⟨ik,n,?_⟩
                obtain ⟨_,d2,z,hd2,hu2,hop2⟩:=gA hfm
                rw [hd] at hd2;injection hd2 with hd2;subst hd2
                have hdn:d<E.nt:=by
                  have hok:=hpen j hj f hf hfm
                  unfold lq at hok
                  rcases hop2 with ⟨t,hop⟩ | ⟨t,fi,hop⟩<;>rw [hop] at hok<;>simp only [hd,Bool.and_eq_true] at hok<;>exact Nat.blt_eq.mp hok.1
                rcases hkept j hj f hf hfm d z hd hu2 with ⟨rs,_,h3,_⟩ | ⟨_,h3,_⟩
                · rw [h3 hdn,hin];rfl
                · rw [h3,hin]
              · have hlate:ju E o.op=true:=by
                  rcases hsp with ⟨h,_⟩ | ⟨_,h | ⟨_,_,h⟩⟩
                  · rw [hxa] at h;cases h
                  · rw [hspi] at h;cases h.1
                  · rcases h with h | h
                    · have:=h j hj
                      rw [nj hoj,hja] at this;cases this
                    · exact h
                obtain ⟨x1,x2⟩:=e5 hlate
                rw [lu,lu] at x1
                obtain ⟨c4,c5,c6⟩:=hal j (List.mem_cons_of_mem _ hj) oj hoj hja
                have hnal:j∉es->¬A'.al (base+j):=fun hn ha=>by
                  rcases x2 _ ha with h | h
                  · exact c6 hn h
                  · rw [lu] at h;omega
                refine ⟨by omega,?_,hnal⟩
                by_cases hje:j∈es
                · have:=c2 _ (List.mem_map.2 ⟨j,hje,rfl⟩)
                  rwa [gR] at this
                · have h1:=e2.hp.al _ (hnal hje)
                  rw [rC fun e he e1=>?_] at h1
                  · have :(s2.put o.dst v').hp=s2.hp:=by cases o.dst<;>rfl
                    rw [this] at h1;exact h1
                  · obtain ⟨q,hq,rfl⟩:=List.mem_map.1 he
                    have :base+q=base+j:=by rwa [gR] at e1
                    have :q=j:=by omega
                    exact hje (this ▸ hq)
theorem AK:∀(n:Nat) {l:List Nat},l.Nodup->(∀i∈l,i<n)->l.length<=n:=by
 intro n l hnd h
 have:=pZ (m:=List.range n) hnd fun x hx=>List.mem_range.2 (h x hx)
 simpa using this
theorem xS {n:Nat}{l:List Nat}(hnd:l.Nodup)(hl:l.length=n)(hlt:∀i∈l,i<n)(j:Nat)(hj:j<n):j∈l:=by
 refine Classical.byContradiction fun hn=>?_
 have:=AK n (l:=j::l) (List.nodup_cons.2 ⟨hn,hnd⟩) fun x hx=>by
  rcases List.mem_cons.1 hx with rfl | hx
  ·exact hj
  ·exact hlt x hx
 simp at this
 omega
theorem um (bs:List Nat):∀n,lP bs n<=n
 | 0=>Nat.le_refl _
 | n+1=>by
  simp only [lP]
  cases Nat.beq (bs.getD n 0) (2^n - 1) with
  | true=>exact Nat.le_succ_of_le (um bs n)
  | false=>exact Nat.le_refl _
theorem wX (hT:∀t i,E.T t=some i->fN P E t i)(hG:∀g c,c∈E.G g->Valid P E g c)(hM:lV P E)(hmix:P.follows .mixedOrders=true):mY P E w0 M Z0 ans:=by
  intro id ops s k Q a w hr ⟨A,sm,hz⟩ hQ
  unfold vq at hr
  simp only at hr
  cases hb:(je ops.toList 0&&(mH ((masks ops.toList []).drop (lP (masks ops.toList []) (dw E ops.toList ops.toList))) (lP (masks ops.toList []) (dw E ops.toList ops.toList))&&dL (gV (ops.toList.take (lP (masks ops.toList []) (dw E ops.toList ops.toList))))))<;>simp only [hb,aL,aT] at hr
  · clear hb
    cases hb:(je ops.toList 0&&(mH ((masks ops.toList []).drop (dw E ops.toList ops.toList+1)) (dw E ops.toList ops.toList+1)&&(dL (gV (ops.toList.take (dw E ops.toList ops.toList)))&&jV qL ops.toList (dw E ops.toList ops.toList))))<;>simp only [hb,aL,aT] at hr
    · clear hb
      cases hb:(je (yz (dw E ops.toList ops.toList) ops.toList) 0&&(mH ((masks (yz (dw E ops.toList ops.toList) ops.toList) []).drop (dw E ops.toList ops.toList+2)) (dw E ops.toList ops.toList+2)&&(dL (gV ((yz (dw E ops.toList ops.toList) ops.toList).take (dw E ops.toList ops.toList+1)))&&(Nat.beq ((masks (yz (dw E ops.toList ops.toList) ops.toList) []).getD (dw E ops.toList ops.toList+1) 0) (2^dw E ops.toList ops.toList - 1)&&(jV (fun o=>uY o.op) (yz (dw E ops.toList ops.toList) ops.toList) (dw E ops.toList ops.toList)&&jV (fun o=>uP E o.op) (yz (dw E ops.toList ops.toList) ops.toList) (dw E ops.toList ops.toList+1))))))<;>simp only [hb,aL,aT] at hr
      · clear hb
        obtain ⟨hb,hr⟩:=cO hr
        simp only [Bool.and_eq_true] at hb
        obtain ⟨hback,hfresh,hlen,hord⟩:=hb
        have hlen:=Nat.eq_of_beq_eq_true hlen
        have hsz:ops.toList.length=ops.size:=Array.length_toList
        rw [hsz] at hlen hr hord
        obtain ⟨hnd,hall⟩:=nu hord
        have hsub:∀j,j<ops.size->j∈uK ops.toList (masks ops.toList []) ops.size 0:=by
          refine xS hnd hlen fun i hi=>?_
          obtain ⟨_,o,ho,_⟩:=hall i hi
          exact (Array.getElem?_eq_some_iff.1 ho).1
        have fY:=sm.drew
        have sm1:fq E w0 M A { s with nx:=s.nx+ops.size } a { w with drawn:=w.drawn+1 }:=⟨fY.hp,fY.tm,fun r h=>fY.nx r (Nat.le_trans (Nat.le_add_right _ _) h),fY.df,fY.sz,fY.fr⟩
        refine wp_region_any hmix ?_
        obtain ⟨rem2,is2,es2,done2,dm2,s2,b2,q1,q2,q3,q4,q5⟩:=vl (a:=a) (base:=s.nx) (A:=A) (rem:=[]) (es:=[]) hback hfresh hT
          { zv:=hord,DH:=fun l hl=>by simp [hsub l hl],zP:=⟨rfl,rfl,fun _ _=>rfl⟩,DI:=sm1
            zA:=fun j hj=>by cases hj
            DK:=List.nodup_nil
            zI:=fun j hj=>by cases hj
            DG:=⟨List.nodup_nil,fun j hj=>by cases hj⟩
            DJ:=fun j hj o ho ha=>by
              have hj':=(Array.getElem?_eq_some_iff.1 ho).1
              have hna:=fY.nx (s.nx+j) (Nat.le_add_right _ _)
              exact ⟨Nat.add_lt_add_left hj' _,fY.hp.al _ hna,fun _=>hna⟩ } hr
        refine DE (Z0:=Z0) hT hG hM hback hfresh hQ ops.size rem2 is2 es2 done2 dm2 (Array.replicate ops.size false) a b2 _ s2 A (by simp only [List.length_nil,Nat.zero_add,Nat.add_zero] at q3;rw [q3,hlen]) (by simp) (fun j hj=>?_) (fun i hi=>by
          by_cases hlt:i<ops.size<;>simp [hlt] at hi) q1 hz q2 q5
        rw [q4 j]
        simp [hj,hsub j hj]
      simp only [Bool.and_eq_true] at hb
      obtain ⟨hback,htb,hfresh,hmask,_⟩:=hb
      have hlen:dw E ops.toList ops.toList+1<ops.size:=by
        refine Nat.lt_of_not_le fun hle=>?_
        unfold rF at hr
        rw [show (yz (dw E ops.toList ops.toList) ops.toList)[dw E ops.toList ops.toList+1]?=none from List.getElem?_eq_none (by simp [yz,mq];omega)] at hr
        split at hr<;>cases hr
      generalize dw E ops.toList ops.toList=h at hback htb hfresh hmask hr hlen
      have hsz:(yz h ops.toList).length=ops.size:=by simp [yz,mq]
      refine wp_region_any hmix (zJ (ops':=⟨yz h ops.toList⟩) hlen (by simpa using hsz) (fun i=>?_) _ _ (Array.replicate ops.size false) _ _ (by simp) (by simp) (fun j=>?_) ?_)
      · have:=wm (l:=ops.toList) (by simpa using hlen) i
        simp only [yz,List.getElem?_toArray,List.getElem?_map,this]
        simp
      · rw [Array.getElem?_replicate,Array.getElem?_replicate]
        simp only [yX hlen]
      · have key:=xI (P:=P) (ops:=⟨yz h ops.toList⟩) (h:=h) hT hG hM (Q:=Q) hback htb hfresh (Nat.eq_of_beq_eq_true hmask) hr sm.drew hz hQ
        rw [show (⟨yz h ops.toList⟩:Array Oper).size=ops.size by simpa using hsz] at key
        exact key
    simp only [Bool.and_eq_true] at hb
    obtain ⟨hback,htb,hfresh,_⟩:=hb
    split at hr
    · cases hr
    rename_i oh hoh
    revert hr htb hfresh hoh
    generalize dw E ops.toList ops.toList=h
    intro htb hfresh hoh hr
    have hoh':ops[h]?=some oh:=by simpa using hoh
    have hlt:h<ops.size:=(Array.getElem?_eq_some_iff.1 hoh').1
    have hhs:(ops.toList.take h).length=h:=by simp;omega
    obtain ⟨us,g1,g2,_,g4⟩:=kD (us:=[]) (i:=0) hfresh (nF.take _ _) (by omega) rfl hr
    simp only [Nat.zero_add,hhs] at g2 g4
    cases hlb:wB E.nt (ops.toList.take h) (masks ops.toList []) s.sl s.hp s.nx us h oh<;>simp only [hlb,aL,aT] at g1
    · cases g1
    have htail:∀i,h<i->i<ops.size->∀l,l<i->((masks ops.toList []).getD i 0).testBit l=true:=by
      intro i h1 h2 l hl
      have hlen:i<(masks ops.toList []).length:=by rw [jy];simp;exact h2
      have hg:=List.getElem?_eq_getElem hlen
      have:=ny htb (l:=i - (h+1)) (b:=(masks ops.toList [])[i]) (by rw [List.getElem?_drop,show h+1+(i - (h+1))=i by omega];exact hg)
      rw [List.getD_eq_getElem?_getD,hg,Option.getD_some,this,show h+1+(i - (h+1))=i by omega,Nat.testBit_two_pow_sub_one]
      simpa using hl
    refine wp_region_any hmix ?_
    have sm1:=sm.drew
    have hfin:=xK hT hG hM (Z0:=Z0) hback hfresh hoh' htail g2 g4 hlb g1 hQ h (List.range h) (Array.replicate ops.size false) (fun _=>false) a { w with drawn:=w.drawn+1 } (by simp) List.nodup_range (fun j hj=>by simpa using hj) (by simp) (fun j hj=>by simp [hj];omega) (fun j=>by simp) (fun i hi=>by
      by_cases hlt:i<ops.size<;>simp [hlt] at hi) ⟨A,?_,fun i x hx=>?_,fun r hr=>.inl (Nat.lt_of_not_le fun hle=>sm1.nx r hle hr),sm1.df,sm1.sz,hz,sm1.fr⟩
    · rw [show h+(ops.size - h)=ops.size by omega] at hfin
      exact hfin
    · have :jU s.hp s.nx (fun _=>false) us=s.hp:=by
        funext r
        unfold jU
        cases hb:Nat.blt r s.nx with
        | true=>rfl
        | false=>
          simp only [aT]
          refine (sm.hp.al r (sm.nx r ?_)).symm
          exact Nat.le_of_not_lt fun h=>by rw [Nat.blt_eq.mpr h] at hb;cases hb
      rw [this];exact sm1.hp
    · rcases mQ (sl:=s.sl) (D:=fun _=>false) (t:=i) (fun _=>rfl) (hs:=ops.toList.take h) (us:=us) (j:=0) with h | h
      · rw [h];exact trivial
      · rw [h];exact sm1.tm i x hx
  simp only [Bool.and_eq_true] at hb
  obtain ⟨hback,htb,hfresh⟩:=hb
  have hle:lP (masks ops.toList []) (dw E ops.toList ops.toList)<=ops.size:=by
    refine Nat.le_trans (um _ _) ?_
    rw [<-Array.length_toList]
    generalize ops.toList=all
    have :∀l:List Oper,dw E all l<=l.length:=by
      intro l
      induction l with
      | nil=>exact Nat.le_refl _
      | cons o l ih=>
        simp only [dw,List.length_cons]
        cases ((Ac o.op&&!wq all o.op)||(Aj E o.op||uP E o.op))
        · simp only [aT];omega
        · simp only [aL];omega
    exact this all
  revert hr htb hfresh hle
  generalize hh:lP (masks ops.toList []) (dw E ops.toList ops.toList)=h
  intro hr htb hfresh hle
  have hhs:(ops.toList.take h).length=h:=by simp;omega
  obtain ⟨us,g1,g2,_,g4⟩:=kD (us:=[]) (i:=0) hfresh (nF.take _ _) (by omega) rfl hr
  simp only [Nat.zero_add,hhs] at g2 g4
  have htail:∀i,h<=i->i<ops.size->∀l,l<i->((masks ops.toList []).getD i 0).testBit l=true:=by
    intro i h1 h2 l hl
    have hlen:i<(masks ops.toList []).length:=by rw [jy];simp;exact h2
    have hg:=List.getElem?_eq_getElem hlen
    have:=ny htb (l:=i - h) (b:=(masks ops.toList [])[i]) (by rw [List.getElem?_drop,show h+(i - h)=i by omega];exact hg)
    rw [List.getD_eq_getElem?_getD,hg,Option.getD_some,this,show h+(i - h)=i by omega,Nat.testBit_two_pow_sub_one]
    simpa using hl
  have hget:∀i,i<h->∃o,ops[i]?=some o/\(ops.toList.take h)[i]?=some o:=by
    intro i hi
    refine ⟨_,Array.getElem?_eq_getElem (show i<ops.size by omega),?_⟩
    rw [List.getElem?_take,if_pos hi];simp [show i<ops.size by omega]
  refine wp_region_any hmix ?_
  have head:∀(n:Nat) (rem:List Nat) (listed:Array Bool) (D:Nat->Bool) (a:Act) (w:World),rem.length=n->rem.Nodup->(∀j∈rem,j<h)->listed.size=ops.size->(∀j,j<ops.size->(listed.getD j true=false↔(j∈rem∨h<=j)))->
      (∀j,D j=true↔(j<h/\j∉rem))->Closed ops listed->HI E w0 M Z0 s (ops.toList.take h) us D a w->wpAny P .any ops Q (n+(ops.size - h)) listed a w:=by
    intro n
    induction n with
    | zero=>
      intro rem listed D a w hn _ _ hls hl hD hc ⟨A1,i1,i2,i3,i4,i5,i6,i7⟩
      have hrem:rem=[]:=List.eq_nil_of_length_eq_zero hn
      subst hrem
      have hDh:∀j,D j=true↔j<h:=fun j=>by rw [hD j];simp
      have hhp:jU s.hp s.nx D us=jU s.hp s.nx always us:=by
        funext r
        unfold jU
        cases Nat.blt r s.nx with
        | true=>rfl
        | false=>
          simp only [aT,always,aL]
          by_cases hj:(r - s.nx) / 64<h
          · rw [(hDh _).2 hj];rfl
          · have :D ((r - s.nx) / 64)=false:=by
              cases hd:D ((r - s.nx) / 64) with
              | false=>rfl
              | true=>exact absurd ((hDh _).1 hd) hj
            rw [this,oM (by omega)];rfl
      have sm1:fq E w0 M A1 { sl:=iB s.sl always (ops.toList.take h) us 0,hp:=jU s.hp s.nx always us,nx:=s.nx+64*h,fr:=s.fr } a w:=by
        refine ⟨by rw [<-hhp];exact i1,fun i x hx=>?_,fun r hr hal=>?_,i4,i5,i7⟩
        · show V2 E.cells w A1 (iB s.sl always (ops.toList.take h) us 0 i) x
          rw [<-rA (D:=D) (fun i _ hi=>(hDh i).2 (by rw [hhs] at hi;omega))]
          exact i2 i x hx
        · have hr':s.nx+64*h<=r:=hr
          rcases i3 r hal with h1 | ⟨j,h1,h2,h3⟩
          · omega
          · have:=(hDh j).1 h1;omega
      rw [Nat.zero_add]
      refine jQ hT hG hM (h:=h) hback (fun i hi=>htail i (Nat.le_of_lt hi)) (ops.size - h) (n:=h) (by omega) (Nat.le_refl _) hls (fun j hj=>by rw [hl j hj];simp) hc sm1 g1 fun s' a' w' A' e1 e2 e3=>hQ s' a' w' e1 ⟨A',e2,e3.trans i6⟩
    | succ n ih=>
      intro rem listed D a w hn hnd hrl hls hl hD hc hi
      have hfuel:n+1+(ops.size - h)=(n+(ops.size - h))+1:=by omega
      rw [hfuel]
      have notD:∀j∈rem,D j=false:=by
        intro j hj
        cases hd:D j with
        | false=>rfl
        | true=>exact absurd hj ((hD j).1 hd).2
      have hlistD:∀j,listed.getD j false=true->j<h->D j=true:=by
        intro j hj hjh
        refine (hD j).2 ⟨hjh,fun hm=>?_⟩
        have:=(hl j (by omega)).2 (.inl hm)
        have hin:j<listed.size:=by omega
        simp [hin] at this hj
        rw [hj] at this;cases this
      refine ⟨fun he=>?_,fun i hir=>?_⟩
      ·
        obtain ⟨i,him,hmin⟩:=min_mem (rem:=rem) (by rintro rfl;simp at hn)
        have hih:=hrl i him
        obtain ⟨o,ho1,ho2⟩:=hget i hih
        have :i∈Region.ready .any ops listed:=by
          refine mem_ready.2 ⟨(hl i (by omega)).2 (.inl him),o,ho1,fun e he hb=>?_⟩
          have hlt:=iP hback (l:=i) (o:=o) (by simpa using ho1) e (by simpa using he) hb
          have hne:¬listed.getD e.on true=false:=fun hf=>by
            rcases (hl e.on (by omega)).1 hf with hm | hm
            · have:=hmin _ hm;omega
            · omega
          have hin:e.on<listed.size:=by omega
          simpa [hin] using hne
        rw [he] at this;cases this
      · obtain ⟨h0,o,ho,_⟩:=mem_ready.1 hir
        have hil:=(Array.getElem?_eq_some_iff.1 ho).1
        have him:i∈rem:=by
          rcases (hl i hil).1 h0 with hm | hm
          · exact hm
          ·
            obtain ⟨j,hjm,_⟩:=min_mem (rem:=rem) (by rintro rfl;simp at hn)
            have hjh:=hrl j hjm
            have h1:=dH hc hir j (htail i hm hil j (by omega))
            have h2:=(hl j (by omega)).2 (.inl hjm)
            have hin:j<listed.size:=by omega
            simp [hin] at h1 h2
            rw [h1] at h2;cases h2
        have hih:=hrl i him
        obtain ⟨o',ho1,ho2⟩:=hget i hih
        rw [ho] at ho1;injection ho1 with ho1;subst ho1
        obtain ⟨u,hu,hok⟩:=g4 i o ho2
        refine nh (D':=fun j=>D j||Nat.beq j i) hT hG hfresh hi ho2 ho hu (notD i him) (by simp) (fun l hli=>?_) (fun j hj=>?_) hok fun a' w' hi'=>?_
        · have :Nat.beq l i=false:=by
            cases hb:Nat.beq l i with
            | false=>rfl
            | true=>exact absurd (Nat.eq_of_beq_eq_true hb) hli
          simp [this]
        · have hjl:=dH hc hir j hj
          refine hlistD j hjl ?_
          rcases Nat.lt_or_ge j h with hlt | hge
          · exact hlt
          · exfalso
            have hin:j<listed.size:=by
              rcases Nat.lt_or_ge j listed.size with h' | h'
              · exact h'
              · simp [Array.getElem?_eq_none h'] at hjl
            have:=(hl j (by omega)).2 (.inr hge)
            simp [hin] at this hjl
            rw [hjl] at this;cases this
        · refine ih (rem.erase i) _ _ a' w' (by rw [List.length_erase_of_mem him];omega) (hnd.erase i) (fun j hj=>hrl j (List.mem_of_mem_erase hj)) (by simpa using hls) (fun j hj=>?_) (fun j=>?_) (hc.set hir) hi'
          · by_cases hij:i=j
            · subst hij
              have :i<listed.size:=by omega
              simp [this,hnd.mem_erase_iff]
              omega
            · rw [getD_set_ne true hij,hl j hj,hnd.mem_erase_iff]
              simp [Ne.symm hij]
          · rw [hnd.mem_erase_iff,Bool.or_eq_true,hD j]
            constructor
            · rintro (⟨h1,h2⟩ | h1)
              · exact ⟨h1,fun h=>h2 h.2⟩
              · have:=Nat.eq_of_beq_eq_true h1
                subst this;exact ⟨hih,fun h=>h.1 rfl⟩
            · rintro ⟨h1,h2⟩
              by_cases hji:j=i
              · subst hji;exact .inr (by simp)
              · exact .inl ⟨h1,fun h=>h2 ⟨hji,h⟩⟩
  have sm1:=sm.drew
  have hfin:=head h (List.range h) (Array.replicate ops.size false) (fun _=>false) a { w with drawn:=w.drawn+1 } (by simp) List.nodup_range (fun j hj=>by simpa using hj) (by simp) (fun j hj=>by simp [hj];omega) (fun j=>by simp) (fun i hi=>by
    by_cases hlt:i<ops.size<;>simp [hlt] at hi) ⟨A,?_,fun i x hx=>?_,fun r hr=>.inl (Nat.lt_of_not_le fun hle=>sm1.nx r hle hr),sm1.df,sm1.sz,hz,sm1.fr⟩
  · rw [show h+(ops.size - h)=ops.size by omega] at hfin
    exact hfin
  · have :jU s.hp s.nx (fun _=>false) us=s.hp:=by
      funext r
      unfold jU
      cases hb:Nat.blt r s.nx with
      | true=>rfl
      | false=>
        simp only [aT]
        refine (sm.hp.al r (sm.nx r ?_)).symm
        exact Nat.le_of_not_lt fun h=>by rw [Nat.blt_eq.mpr h] at hb;cases hb
    rw [this];exact sm1.hp
  · rcases mQ (sl:=s.sl) (D:=fun _=>false) (t:=i) (fun _=>rfl) (hs:=ops.toList.take h) (us:=us) (j:=0) with h | h
    · rw [h];exact trivial
    · rw [h];exact sm1.tm i x hx
end
end Go.DM

end
