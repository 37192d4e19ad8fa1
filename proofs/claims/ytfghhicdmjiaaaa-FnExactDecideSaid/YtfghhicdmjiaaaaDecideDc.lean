/- A small machine over the translated code, and the proof that what it computes the code does. Conditions: none. -/
import Derived.Test.YtfghhicdmjiaaaaDecideDb
import Derived.Laws.Cover3
import Derived.Scope
import Derived.Laws.Sem
import Derived.Orders
set_option linter.all false
noncomputable section
set_option linter.unusedSectionVars false
namespace Go.DM
section
variable {P : Program} {E : Env} {w0 w : World} {np : Nat} {M : Mem np} {A : Asg} {s : St} {o : Oper} {a : Act} {k : V → St → Ans} {ans : List L}
theorem Sub.one (hp : Nat → Root) (r : Nat) : Sub (upd hp r .dead) hp := fun p => by
  by_cases hp : p = r
  · subst hp; exact .inr (upd_same _ _ _)
  · exact .inl (upd_other _ _ hp)
theorem inRs_iff {q : Nat} : ∀ {rs : List Nat}, inRs rs q = true ↔ q ∈ rs
 | [] => by simp [inRs]
 | r :: rs => by
  have : Nat.beq q r = true ↔ q = r := ⟨Nat.eq_of_beq_eq_true, fun h => by subst h; exact Nat.beq_refl _⟩
  simp only [inRs, Bool.or_eq_true, List.mem_cons, inRs_iff (rs := rs), this]
section
variable {T : Nat → List K} {w' : World} {A' : Asg} {hp : Nat → Root}
theorem killL_sl (rs : List Nat) (q e : Nat) (xs : List (List L)) : killL rs (.sl (some q) e xs) = bif inRs rs q then .dead else .sl (some q) e xs := rfl
theorem killL_cptr (rs : List Nat) (q : Nat) (a : List K) (b : List L) (c : Nat) : killL rs (.cptr (some q) a b c) = bif inRs rs q then .dead else .cptr (some q) a b c := rfl
theorem killL_inn (rs : List Nat) (q a b c d : Nat) : killL rs (.inn q a b c d) = bif inRs rs q then .dead else .inn q a b c d := rfl
theorem V0.kill {rs : List Nat} (st : Step A A' w w' (fun r => r ∈ rs)) (hh : Hp T w0 M A hp w) {v : V} {x : Value} (hv : V0 T w A v x) : V0 T w' A' (killL rs v) x := by
 cases v with
 | sl d e xs =>
  cases d with
  | none => exact V0.step (v := .sl none e xs) st hh hv trivial
  | some q =>
   rw [killL_sl]
   cases hq : inRs rs q with
   | true => exact trivial
   | false => exact V0.step (v := .sl (some q) e xs) st hh hv (fun h => by rw [inRs_iff.2 h] at hq; cases hq)
 | cptr d es cs o =>
  cases d with
  | none => exact V0.step (v := .cptr none es cs o) st hh hv trivial
  | some q =>
   rw [killL_cptr]
   cases hq : inRs rs q with
   | true => exact trivial
   | false => exact V0.step (v := .cptr (some q) es cs o) st hh hv (fun h => by rw [inRs_iff.2 h] at hq; cases hq)
 | inn q a b c d =>
  rw [killL_inn]
  cases hq : inRs rs q with
  | true => exact trivial
  | false => exact V0.step (v := .inn q a b c d) st hh hv (fun h => by rw [inRs_iff.2 h] at hq; cases hq)
 | own q => exact V0.step (v := .own q) st hh hv trivial
 | lit q n e => exact V0.step (v := .lit q n e) st hh hv trivial
 | bptr q o => exact V0.step (v := .bptr q o) st hh hv trivial
 | eptr q sz i o => exact V0.step (v := .eptr q sz i o) st hh hv trivial
 | undef => exact hv
 | dead => exact hv
 | int => exact hv
 | bool => exact hv
 | str => exact hv
 | nil => exact hv
 | fn => exact hv.elim
 | agg => exact hv.elim
 | tup => exact hv.elim
theorem cells_kill {rs : List Nat} (st : Step A A' w w' (fun r => r ∈ rs)) (hh : Hp T w0 M A hp w) {cs : List V} {xs : List Value} (hf : F2 (Vc T w A) cs xs) : F2 (Vc T w' A') (cs.map (killL rs)) xs := by
 induction hf with
 | nil => exact .nil
 | cons h _ ih => exact .cons ⟨h.1.kill st hh, h.2⟩ ih
theorem V2.kill {rs : List Nat} (st : Step A A' w w' (fun r => r ∈ rs)) (hh : Hp T w0 M A hp w) {v : V} {x : Value} (hv : V2 T w A v x) : V2 T w' A' (killV rs v) x := by
 cases v with
 | tup vs => exact trivial
 | fn f cs =>
  obtain ⟨l, rfl, hl⟩ := (show V1 T w A (.fn f cs) x from hv)
  refine V1.v2 (v := .fn f _) ⟨l, rfl, ?_⟩
  clear hv
  induction hl with
  | nil => exact .nil
  | cons hc _ ih => exact .cons (V0.kill st hh hc) ih
 | agg cs => obtain ⟨l, rfl, hl⟩ := hv; exact V1.v2 (v := .agg _) ⟨l, rfl, cells_kill st hh hl⟩
 | undef => exact V0.v2 (V0.kill (v := .undef) st hh hv)
 | dead => exact trivial
 | int k n => exact V0.v2 (V0.kill (v := .int k n) st hh hv)
 | bool b => exact V0.v2 (V0.kill (v := .bool b) st hh hv)
 | str s => exact V0.v2 (V0.kill (v := .str s) st hh hv)
 | nil => exact V0.v2 (V0.kill (v := .nil) st hh hv)
 | sl d e xs => exact V0.v2 (V0.kill (v := .sl d e xs) st hh hv)
 | own q => exact V0.v2 (V0.kill (v := .own q) st hh hv)
 | lit q n e => exact V0.v2 (V0.kill (v := .lit q n e) st hh hv)
 | bptr q o => exact V0.v2 (V0.kill (v := .bptr q o) st hh hv)
 | eptr q sz i o => exact V0.v2 (V0.kill (v := .eptr q sz i o) st hh hv)
 | inn q a b c d => exact V0.v2 (V0.kill (v := .inn q a b c d) st hh hv)
 | cptr d es cs o => exact V0.v2 (V0.kill (v := .cptr d es cs o) st hh hv)
end
theorem Sim.split (sm : Sim E w0 M A s a w) {r sz er i q e : Nat} {xs : List (List L)} (hr : s.hp r = .row er xs) (hsz : sz = (E.cells er).length) (hk : (E.cells er)[q]? = some (.sl e)) {x : Value} (hv : V0 E.cells w A (.inn r sz i q e) x) :
    ∃ A', Sim E w0 M A' (s.split r er xs i q e ((xs.getD i []).getD q .hole).toSl) a w ∧ V2 E.cells w A' (.own s.nx) x ∧ A'.Z = A.Z := by
  have hh := sm.hp
  obtain ⟨hal, g, n, c, e1, ei, hg, hc⟩ := hv
  have hroot := hh.rt r
  rw [hr] at hroot
  have hown := hroot.2
  rw [e1] at hown
  obtain ⟨te, cur, vv, Sf, k1, k2, k3, k4, k5, k6, k7, k8, k9, k10⟩ := hown.inv (by omega)
  have hx : x = vv i q := by
    have := k9 i q _ ei hk
    rw [cell_at k4, hsz, this] at hc
    injection hc with hc; exact hc.symm
  subst hx
  have ho := k10 i q _ ei hk
  have hnal : ¬ A.al s.nx := sm.nx _ (Nat.le_refl _)
  have hrn : r ≠ s.nx := fun h => hnal (h ▸ hal)
  have hF : ∀ b, Sf i q b → A.N r b := fun b hb => (k7 i q b hb).1
  have hFq : ∀ {p b}, A.N p b → Sf i q b → p = r := fun h1 h2 => hh.dj _ r _ h1 (hF _ h2)
  let A' : Asg := { v := upd A.v s.nx (vv i q), N := fun p b => (p = s.nx ∧ Sf i q b) ∨ (A.N p b ∧ ¬ Sf i q b), al := fun p => A.al p ∨ p = s.nx, Z := A.Z }
  have hv' : ∀ p, A.al p → A'.v p = A.v p := fun p hp => upd_other _ _ (by rintro rfl; exact hnal hp)
  have st : Step A A' w w (fun p => p ∈ [r]) := by
    refine ⟨rfl, fun _ h => .inl h, hv', Nat.le_refl _, fun _ _ _ => rfl, fun p h1 h2 b => ⟨fun h => ?_, fun h => .inr ⟨h, fun h' => h2 (by rw [hFq h h']; exact .head _)⟩⟩, fun p b h1 h2 => ?_⟩
    · rcases h with ⟨rfl, _⟩ | h
      · exact (hnal h1).elim
      · exact h.1
    · rcases h2 with ⟨_, h2⟩ | h2
      · exact .inl ⟨r, .head _, hF b h2⟩
      · rcases h1 with h1 | h1
        · exact .inl ⟨p, h1, h2.1⟩
        · exact (h1 (hh.alN h2.1)).elim
  obtain ⟨a0, n0, c0, h0, _⟩ := ho.inv0
  refine ⟨A', ⟨⟨fun p b h => ?_, fun p p' b h h' => ?_, fun p h => ?_, fun p => ?_, hh.fr, fun p b h => ?_, hh.zf, fun j hj => ⟨.inl (hh.pn j hj).1, (hv' j (hh.pn j hj).1).trans (hh.pn j hj).2⟩⟩, fun j y hy => (sm.tm j y hy).kill st hh, fun p h1 h2 => ?_, sm.df, sm.sz⟩, V0.v2 (v := .own s.nx) ⟨.inr rfl, (upd_same ..).symm, a0, n0, c0, h0⟩, rfl⟩
  · rcases h with ⟨_, h⟩ | h
    · exact hh.lt r b (hF b h)
    · exact hh.lt p b h.1
  · rcases h with ⟨h1, h2⟩ | h <;> rcases h' with ⟨h3, h4⟩ | h'
    · rw [h1, h3]
    · exact (h'.2 h2).elim
    · exact (h.2 h4).elim
    · exact hh.dj p p' b h.1 h'.1
  · have hp : p ≠ s.nx := fun e => h (.inr e)
    have hp2 : p ≠ r := fun e => h (.inl (e ▸ hal))
    show killR [r] (upd (upd s.hp r _) s.nx _ p) = .dead
    rw [upd_other _ _ hp, upd_other _ _ hp2, hh.al p fun e => h (.inl e)]; rfl
  · show RootOK E.cells w A' p (killR [r] (upd (upd s.hp r _) s.nx _ p))
    by_cases hp : p = s.nx
    · subst hp
      rw [upd_same]
      refine ⟨.inr rfl, ?_⟩
      rw [show A'.v s.nx = vv i q from upd_same ..]
      exact ho.slOf.mono fun b hb => .inl ⟨rfl, hb⟩
    · rw [upd_other _ _ hp]
      by_cases hp2 : p = r
      · subst hp2
        rw [upd_same]
        refine ⟨.inl hal, by rw [show xs.length = n from k1]; exact ei, ?_⟩
        rw [hv' p hal, e1]
        refine ⟨g, n, c, te, cur, vv, fun i' j' b => Sf i' j' b ∧ ¬ (i' = i ∧ j' = q), rfl, k1, k2, k3, k4, k5, .inr ⟨k6, fun h => (k7 i q g h).2 rfl⟩, fun i' j' b hb => ⟨.inr ⟨(k7 i' j' b hb.1).1, fun h => hb.2 (k8 _ _ _ _ _ hb.1 h)⟩, (k7 i' j' b hb.1).2⟩, fun i1 j1 i2 j2 b hb hb' => k8 _ _ _ _ _ hb.1 hb'.1, k9, fun i' j' kk hi hj hx => (k10 i' j' kk hi hj).mono fun b hb => ⟨hb, hx⟩⟩
      · rw [upd_other _ _ hp2]
        have hnr : ¬ p ∈ [r] := by simpa using hp2
        have ho := hh.rt p
        cases hq : s.hp p with
        | dead =>
          rw [hq] at ho
          intro b hb
          rcases hb with ⟨h, _⟩ | h
          · exact hp h
          · exact ho b h.1
        | box cs =>
          rw [hq] at ho
          obtain ⟨ha, g', te', cur', h1, h2, h3, h4⟩ := ho
          exact ⟨st.al p ha, g', te', cur', by rw [hv' p ha]; exact h1, fun b => (st.N p ha hnr b).trans (h2 b), h3, cells_kill st hh h4⟩
        | row e xs =>
          rw [hq] at ho
          refine ⟨st.al p ho.1, ?_⟩
          rw [hv' p ho.1]
          exact ho.2.mono fun b hb => (st.root hh hnr hb).1
        | opn e xs j cs =>
          rw [hq] at ho
          refine ⟨st.al p ho.1, ho.2.1, ?_⟩
          rw [hv' p ho.1]
          exact ho.2.2.mono fun b hb => (st.root hh hnr hb).1
        | hol e xs j cs =>
          rw [hq] at ho
          refine ⟨st.al p ho.1, ho.2.1, ?_⟩
          rw [hv' p ho.1]
          exact ho.2.2.move (fun _ _ => rfl) fun b hb => (st.root hh hnr hb).1
  · rcases h with ⟨_, h⟩ | h
    · exact hh.nm r b (hF b h)
    · exact hh.nm p b h.1
  · have h1' : s.nx + 1 ≤ p := h1
    rcases h2 with h2 | h2
    · exact sm.nx p (by omega) h2
    · omega
theorem app_own (hT : ∀ t i, E.T t = some i → TyOK P E t i) (sm : Sim E w0 M A s a w) {x y : Operand} {t : TypeId} {el : Nat}
    (ho : o.op = .call { callee := .builtin .append, args := #[x, y], argTypes := #[t, t] }) (hel : (E.T t).bind TI.el = some el) {r : Nat} {xs : List (List L)} (hx : V2 E.cells w A (.own r) (a.eval x)) (hrow : s.hp r = .row el xs)
    (h : appI E s r el xs y k = some ans) : ∃ v s', k v s' = some ans ∧ TOut P E w0 M A o a w v s' := by
  have hh := sm.hp
  have hy := sm.ev y
  have : P.underlying t = some (.slice el) ∧ ∃ ie, E.T el = some ie := by
    cases ht : E.T t with
    | none => rw [ht] at hel; cases hel
    | some i =>
      rw [ht] at hel
      obtain ⟨ii, d, z, h1, h2, h3, h4, h5, h6, hby, h7, h8, h9, h10, hpl, h11, h12, h13, h14, h15⟩ := hT t i ht
      obtain ⟨rfl, hie⟩ := h11 el hel
      exact ⟨h2, hie⟩
  obtain ⟨hu, ie, hie⟩ := this
  obtain ⟨ii, d', z, k1, k2, k3, k4, k5, k6, kby, k7, k8, k9, k10, kpl, k11, k12, k13, k14, k15⟩ := hT el ie hie
  have hcl : ii.size = (E.cells el).length := by simp [Env.cells, hie, k4]
  have hbt : E.bytes el = ii.bytes := by simp [Env.bytes, hie, k5]
  have hzc : z.cells.size = ii.size := by rw [← Array.length_toList, k7]; simp [k4]
  have core := @append_core P E w0 w np M A s o a hT sm el t ii z ie hu hie k1 k3 hcl hzc (by omega) (by omega) x y ho
  unfold appI at h
  obtain ⟨hal, hxv, _⟩ := (show V0 E.cells w A (.own r) (a.eval x) from hx)
  obtain ⟨ys, hp', C, g1, g2, g3⟩ := appSrc_spec h
  by_cases hb : ((xs.length : Int) + ys.length) * E.bytes el ≤ 140737488355328
  · simp only [lim_t hb, cond_true] at g1
    have hroot := hh.rt r
    rw [hrow] at hroot
    have hne : s.hp r ≠ .dead := by rw [hrow]; simp
    refine ⟨_, _, g1, core (r := some r) (Cx := fun q => q = r) (Cy := C) (xs := xs) ?_ (g3 hh (Sub.one _ _) hy) (fun q hq => by injection hq with hq; subst hq; exact ⟨hal, rfl, hne⟩) (fun q e' xs' hq hq' => ?_) ((Took.one hne).trans g2) (fun q hq hc => ?_) ?_⟩
    · rw [hxv]
      obtain ⟨base, n, c, p1, p2, p3, p4, p5⟩ := hroot.2.parts
      refine ⟨base, n, c, p1, p2, p3, p4, p5.imp id fun ⟨g, te, cur, vv, Sf, q1, q2, q3, q4, q5, q6, q7, q8⟩ => ⟨g, te, cur, vv, Sf, q1, q2, q3, ⟨r, rfl, q4⟩, fun i j b hb => ⟨⟨r, rfl, (q5 i j b hb).1⟩, (q5 i j b hb).2⟩, q6, q7, q8⟩⟩
    · injection hq with hq
      subst hq
      rw [hrow] at hq'
      injection hq' with e1 e2
      exact ⟨e1.symm, hxv.symm, e2.symm⟩
    · subst hq; have := g2.was _ hc; rw [upd_same] at this; exact this rfl
    · rw [hbt] at hb; exact hb
  · simp [lim_f hb] at g1
theorem t_append (hT : ∀ t i, E.T t = some i → TyOK P E t i) (sm : Sim E w0 M A s a w) {x y : Operand} {t u : TypeId}
    (ho : o.op = .call { callee := .builtin .append, args := #[x, y], argTypes := #[t, u] }) (h : evalT E (.call { callee := .builtin .append, args := #[x, y], argTypes := #[t, u] }) s k = some ans) :
    ∃ v s', k v s' = some ans ∧ TOut P E w0 M A o a w v s' := by
  have hh := sm.hp
  have hx := sm.ev x
  have hy := sm.ev y
  simp only [evalT] at h
  cases htu : Nat.beq t u <;> simp only [htu, cond_true, cond_false] at h
  · cases h
  obtain rfl := Nat.eq_of_beq_eq_true htu
  split at h
  case h_2 => cases h
  rename_i el hel
  have : P.underlying t = some (.slice el) ∧ ∃ ie, E.T el = some ie := by
    cases ht : E.T t with
    | none => rw [ht] at hel; cases hel
    | some i =>
      rw [ht] at hel
      obtain ⟨ii, d, z, h1, h2, h3, h4, h5, h6, hby, h7, h8, h9, h10, hpl, h11, h12, h13, h14, h15⟩ := hT t i ht
      obtain ⟨rfl, hie⟩ := h11 el hel
      exact ⟨h2, hie⟩
  obtain ⟨hu, ie, hie⟩ := this
  obtain ⟨ii, d', z, k1, k2, k3, k4, k5, k6, kby, k7, k8, k9, k10, kpl, k11, k12, k13, k14, k15⟩ := hT el ie hie
  have hcl : ii.size = (E.cells el).length := by simp [Env.cells, hie, k4]
  have hbt : E.bytes el = ii.bytes := by simp [Env.bytes, hie, k5]
  have hzc : z.cells.size = ii.size := by rw [← Array.length_toList, k7]; simp [k4]
  have core := @append_core P E w0 w np M A s o a hT sm el t ii z ie hu hie k1 k3 hcl hzc (by omega) (by omega) x y ho
  split at h
  · -- nil
    rename_i hxn
    rw [hxn] at hx
    obtain ⟨b, hxe⟩ := (show V0 E.cells w A .nil (a.eval x) from hx)
    obtain ⟨ys, hp', C, g1, g2, g3⟩ := appSrc_spec h
    by_cases hb : (ys.length : Int) * E.bytes el ≤ 140737488355328
    · simp only [lim_t hb, cond_true] at g1
      refine ⟨_, _, g1, core (r := none) (Cx := fun _ => False) (Cy := C) (xs := []) ⟨b, 0, 0, hxe, rfl, Nat.le_refl _, Nat.zero_le _, .inl rfl⟩ (g3 hh (fun _ => .inl rfl) hy) (fun q hq => (nomatch hq)) (fun q _ _ hq => (nomatch hq)) (g2.congr fun q => by simp) (fun q hq => hq.elim) ?_⟩
      rw [hbt] at hb; simpa using hb
    · simp [lim_f hb] at g1
  · -- a row of one's own
    rename_i r hxo
    rw [hxo] at hx
    split at h
    · rename_i e xs hrow
      cases he : Nat.beq e el <;> simp only [he, cond_true, cond_false] at h
      · cases h
      obtain rfl := Nat.eq_of_beq_eq_true he
      obtain ⟨hal, hxv, _⟩ := (show V0 E.cells w A (.own r) (a.eval x) from hx)
      obtain ⟨ys, hp', C, g1, g2, g3⟩ := appSrc_spec h
      by_cases hb : ((xs.length : Int) + ys.length) * E.bytes e ≤ 140737488355328
      · simp only [lim_t hb, cond_true] at g1
        have hroot := hh.rt r
        rw [hrow] at hroot
        have hne : s.hp r ≠ .dead := by rw [hrow]; simp
        refine ⟨_, _, g1, core (r := some r) (Cx := fun q => q = r) (Cy := C) (xs := xs) ?_ (g3 hh (Sub.one _ _) hy) (fun q hq => by injection hq with hq; subst hq; exact ⟨hal, rfl, hne⟩) (fun q e' xs' hq hq' => ?_) ((Took.one hne).trans g2) (fun q hq hc => ?_) ?_⟩
        · rw [hxv]
          obtain ⟨base, n, c, p1, p2, p3, p4, p5⟩ := hroot.2.parts
          refine ⟨base, n, c, p1, p2, p3, p4, p5.imp id fun ⟨g, te, cur, vv, Sf, q1, q2, q3, q4, q5, q6, q7, q8⟩ => ⟨g, te, cur, vv, Sf, q1, q2, q3, ⟨r, rfl, q4⟩, fun i j b hb => ⟨⟨r, rfl, (q5 i j b hb).1⟩, (q5 i j b hb).2⟩, q6, q7, q8⟩⟩
        · injection hq with hq
          subst hq
          rw [hrow] at hq'
          injection hq' with e1 e2
          exact ⟨e1.symm, hxv.symm, e2.symm⟩
        · subst hq; have := g2.was _ hc; rw [upd_same] at this; exact this rfl
        · rw [hbt] at hb; exact hb
      · simp [lim_f hb] at g1
    · cases h
  · -- a literal
    rename_i r n e hxo
    rw [hxo] at hx
    split at h
    · rename_i cs hbox
      cases he : Nat.beq e el <;> simp only [he, cond_true, cond_false] at h
      · cases h
      obtain rfl := Nat.eq_of_beq_eq_true he
      obtain ⟨hal, g, e1, e2⟩ := (show V0 E.cells w A (.lit r n e) (a.eval x) from hx)
      obtain ⟨xs, hp1, c, f1, f2, fl, f3, f4, f5⟩ := takeRow_spec h
      obtain ⟨ys, hp', C, g1, g2, g3⟩ := appSrc_spec f1
      by_cases hb : ((xs.length : Int) + ys.length) * E.bytes e ≤ 140737488355328
      · simp only [lim_t hb, cond_true] at g1
        have hroot := hh.rt r
        rw [hbox] at hroot
        obtain ⟨_, g', te, cur, m1, m2, m3, m4⟩ := hroot
        obtain rfl : g = g' := by rw [e1] at m1; injection m1 with m1; injection m1 with m1; injection m1
        have hne : s.hp r ≠ .dead := by rw [hbox]; simp
        have hall := f5 hh (Sub.one _ _) m4
        have t1 := (Took.one hne).trans f3
        refine ⟨_, _, g1, core (r := some r) (xs := xs) ?_ (g3 hh (t1.sub fun _ => .inl rfl) hy) (fun q hq => by injection hq with hq; subst hq; exact ⟨hal, .inl rfl, hne⟩) (fun q e' xs' hq hq' => ?_) (t1.trans g2) (fun q hq hc => t1.disj g2 hq hc) ?_⟩
        · refine ⟨some ⟨g, 0, none⟩, n, n, e2, f2, Nat.le_refl _, ?_, ?_⟩
          · have h1 : ((xs.length : Int) + ys.length) * 1 ≤ ((xs.length : Int) + ys.length) * E.bytes e := Int.mul_le_mul_of_nonneg_left (by rw [hbt]; omega) (by omega)
            have h2 : ((xs.length : Int) + ys.length) * 1 = (xs.length : Int) + ys.length := Int.mul_one _
            simp only [maxLen]; omega
          · rcases Nat.eq_zero_or_pos n with hn | hn
            · exact .inl hn
            · refine .inr ⟨g, te, cur, fun i j => cur.toList.getD (i * (E.cells e).length + j) Go.undef, fun i j p => i < n ∧ j < (E.cells e).length ∧ Foot A (c i j) p, rfl, m3, ?_, ⟨r, rfl, (m2 g).2 rfl⟩, fun i j b hb => ?_, fun i j i' j' b hb hb' => ?_, fun i j kk hi hj => ?_, fun i j kk hi hj => ?_⟩
              · rw [← fl, m4.length, Array.length_toList]
              · obtain ⟨hi, hj, q, hq, hn⟩ := hb
                refine ⟨⟨q, .inr ⟨i, j, hi, hj, hq⟩, hn⟩, fun eb => ?_⟩
                have hw := f3.was q ⟨i, j, hi, hj, hq⟩
                have : q = r := hh.dj q r b hn ((m2 b).2 eb)
                rw [this, upd_same] at hw; exact hw rfl
              · obtain ⟨_, _, q, hq, hn⟩ := hb
                obtain ⟨_, _, q', hq', hn'⟩ := hb'
                rw [hh.dj q q' b hn hn'] at hq
                exact f4 _ _ _ _ _ hq hq'
              · obtain ⟨y', y1, _, _⟩ := hall i j kk hi hj
                rw [← Array.getElem?_toList, y1]
                simp only [List.getD_eq_getElem?_getD, y1]; rfl
              · obtain ⟨y', y1, _, y3⟩ := hall i j kk hi hj
                have hy' : cur.toList.getD (i * (E.cells e).length + j) Go.undef = y' := by simp only [List.getD_eq_getElem?_getD, y1]; rfl
                show Own E.cells w _ kk (cur.toList.getD (i * (E.cells e).length + j) Go.undef) _
                rw [hy']
                exact y3.mono fun b hb => ⟨hi, (List.getElem?_eq_some_iff.1 hj).1, hb⟩
        · injection hq with hq; subst hq; rw [hbox] at hq'; cases hq'
        · rw [hbt] at hb; exact hb
      · simp [lim_f hb] at g1
    · cases h
  · -- a slice in a row's element
    rename_i r sz i q e hxi
    rw [hxi] at hx
    split at h
    · rename_i er rs hrow
      cases he : (Nat.beq e el && Nat.beq sz (E.cells er).length) <;> simp only [he, cond_true, cond_false] at h
      · cases h
      simp only [Bool.and_eq_true] at he
      obtain rfl := Nat.eq_of_beq_eq_true he.1
      split at h
      · rename_i e2 he2
        cases hk : Nat.beq e e2 <;> simp only [hk, cond_true, cond_false] at h
        · cases h
        obtain rfl := Nat.eq_of_beq_eq_true hk
        rw [dropT_head] at h
        obtain ⟨A', sm', hx', hZ⟩ := sm.split hrow (Nat.eq_of_beq_eq_true he.2) (slAt_spec he2) (show V0 E.cells w A (.inn r sz i q e) (a.eval x) from hx)
        obtain ⟨v, s', g1, g2⟩ := app_own hT sm' ho hel hx' (by show killR [r] (upd (upd s.hp r _) s.nx _ s.nx) = _; rw [upd_same]; rfl) h
        exact ⟨v, s', g1, fun Kn Q hK => g2 Kn Q fun cv w' A2 h1 h2 h3 => hK cv w' A2 h1 h2 (h3.trans hZ)⟩
      · cases h
    · cases h
  · cases h
end
end Go.DM
namespace Go.DM
structure QT where
 e : Nat
 l : L
 y : Value
 F : Nat → Prop
def mkRow (E : Env) (hp : Nat → Root) (t : MTgt) (l : L) : Root :=
 match t with
 | .none => .dead
 | .own r => match hp r with
  | .row e _ => .row e l.toSl
  | o => o
 | .inn r i p => match hp r with
  | .row e xs => .opn e xs i (setAt (padK (E.cells e) (xs.getD i [])) p (.sl l.toSl))
  | .opn e xs j cs => .opn e xs j (setAt (padK (E.cells e) cs) p (.sl l.toSl))
  | o => o
def isRow : Root → Bool
 | .row .. => true
 | .opn .. => true
 | _ => false
def RowOK (T : Nat → List K) (w : World) (S : Nat → Prop) (v : Value) : Root → Prop
 | .row e xs => Own T w S (.sl e) v (.sl xs)
 | .opn e xs j cs => j < xs.length ∧ Own T w S (.sl e) v (.sl (xs.set j cs))
 | _ => False
def TG (E : Env) (w : World) (A : Asg) (hp : Nat → Root) (t : MTgt) (q : QT) : Prop :=
 (∃ a n c, q.y = .slice a n c) ∧ Own E.cells w q.F (.sl q.e) q.y q.l ∧
 match t with
 | .none => ∀ b, ¬ q.F b
 | .own r => A.al r ∧ q.y = A.v r ∧ (∀ b, q.F b ↔ A.N r b) ∧ ∃ xs, hp r = .row q.e xs
 | .inn r i p => A.al r ∧ (∀ b, q.F b → A.N r b) ∧ isRow (hp r) = true ∧ ∀ (w' : World) (N : Nat → Prop) (l : L), (∀ b, A.N r b → ¬ q.F b → w'.heap[b]? = w.heap[b]?) → (∀ b, N b → A.N r b → q.F b) →
   Own E.cells w' N (.sl q.e) q.y l → RowOK E.cells w' (fun b => (A.N r b ∧ ¬ q.F b) ∨ N b) (A.v r) (mkRow E hp (.inn r i p) l)
theorem setAt_getD {y : L} : ∀ {xs : List L} {p j : Nat}, p < xs.length → (setAt xs p y).getD j .hole = if j = p then y else xs.getD j .hole
 | [], p, j, h => by simp at h
 | x :: xs, 0, j, _ => by cases j <;> simp [setAt]
 | x :: xs, p + 1, 0, _ => by simp [setAt]
 | x :: xs, p + 1, j + 1, h => by
  have := setAt_getD (y := y) (xs := xs) (p := p) (j := j) (by simpa using h)
  simpa [setAt] using this
section
variable {E : Env} {w0 w w' : World} {np : Nat} {M : Mem np} {A : Asg} {hp : Nat → Root} {ans : List L}
theorem inner0 {r sz i p er e : Nat} {xs : List (List L)} {x : Value} (hown : Own E.cells w (A.N r) (.sl er) (A.v r) (.sl xs)) (hsz : sz = (E.cells er).length) (hp2 : (E.cells er)[p]? = some (.sl e))
    (hv : V0 E.cells w A (.inn r sz i p e) x) : ∃ F : Nat → Prop, (∃ a n c, x = .slice a n c) ∧ Own E.cells w F (.sl e) x (.sl ((xs.getD i []).getD p .hole).toSl) ∧ A.al r ∧ (∀ b, F b → A.N r b) ∧ i < xs.length ∧
      ∀ (w' : World) (N : Nat → Prop) (l : L), (∀ b, A.N r b → ¬ F b → w'.heap[b]? = w.heap[b]?) → (∀ b, N b → A.N r b → F b) →
      Own E.cells w' N (.sl e) x l → Own E.cells w' (fun b => (A.N r b ∧ ¬ F b) ∨ N b) (.sl er) (A.v r) (.sl (xs.set i (setAt (padK (E.cells er) (xs.getD i [])) p (.sl l.toSl)))) := by
  obtain ⟨hal, g, n, c, e1, ei, hg, hc⟩ := hv
  rw [e1] at hown
  obtain ⟨te, cur, vv, Sf, k1, k2, k3, k4, k5, k6, k7, k8, k9, k10⟩ := hown.inv (by omega)
  have hx : x = vv i p := by
    have := k9 i p _ ei hp2
    rw [cell_at k4, hsz, this] at hc
    injection hc with hc; exact hc.symm
  subst hx
  have ho := k10 i p _ ei hp2
  refine ⟨Sf i p, ?_, ?_, hal, fun b hb => (k7 i p b hb).1, by rw [show xs.length = n from k1]; exact ei, fun w' N l hfr hN hl => ?_⟩
  · obtain ⟨a, n, c, h1, _⟩ := ho.inv0
    exact ⟨a, n, c, h1⟩
  · exact ho.slOf
  · have hgF : ¬ Sf i p g := fun h => (k7 i p g h).2 rfl
    have hpl : p < (E.cells er).length := (List.getElem?_eq_some_iff.1 hp2).1
    have hix : i < xs.length := by rw [show xs.length = n from k1]; exact ei
    rw [e1]
    refine .sl _ er n c g te cur _ vv (fun i' j' b => if i' = i ∧ j' = p then N b else Sf i' j' b) (by simp only [L.toSl, List.length_set]; exact k1) k2 k3 ((hfr g k6 hgF).trans k4) k5 (.inl ⟨k6, hgF⟩) (fun i' j' b hb => ?_) (fun i1 j1 i2 j2 b hb hb' => ?_) k9 (fun i' j' kk hi hj => ?_)
    · by_cases hc : i' = i ∧ j' = p
      · rw [if_pos hc] at hb
        refine ⟨.inr hb, fun e => hgF ?_⟩
        subst e; exact hN _ hb k6
      · rw [if_neg hc] at hb
        refine ⟨.inl ⟨(k7 _ _ _ hb).1, fun h => hc (k8 _ _ _ _ _ hb h)⟩, (k7 _ _ _ hb).2⟩
    · by_cases hc : i1 = i ∧ j1 = p <;> by_cases hc' : i2 = i ∧ j2 = p
      · rw [hc.1, hc.2, hc'.1, hc'.2]; exact ⟨rfl, rfl⟩
      · rw [if_pos hc] at hb; rw [if_neg hc'] at hb'
        exact (hc' (k8 _ _ _ _ _ hb' (hN _ hb (k7 _ _ _ hb').1))).elim
      · rw [if_neg hc] at hb; rw [if_pos hc'] at hb'
        exact (hc (k8 _ _ _ _ _ hb (hN _ hb' (k7 _ _ _ hb).1))).elim
      · rw [if_neg hc] at hb; rw [if_neg hc'] at hb'
        exact k8 _ _ _ _ _ hb hb'
    · have hset : ∀ {zs : List L}, (xs.set i zs).getD i' [] = if i' = i then zs else xs.getD i' [] := by
        intro zs
        simp only [List.getD_eq_getElem?_getD, List.getElem?_set]
        by_cases hij : i = i'
        · subst hij; simp [hix]
        · simp [hij, Ne.symm hij]
      simp only [L.toSl]
      rw [hset]
      by_cases hc : i' = i ∧ j' = p
      · obtain ⟨rfl, rfl⟩ := hc
        simp only [and_self, if_true]
        rw [hp2] at hj; injection hj with hj; subst hj
        rw [setAt_getD (by rw [padK_length]; exact hpl), if_pos rfl]
        exact hl.slOf
      · simp only [hc, if_false]
        have hold := (k10 i' j' kk hi hj).frame (w' := w') fun b hb => hfr b (k7 _ _ _ hb).1 fun h => hc (k8 _ _ _ _ _ hb h)
        by_cases hii : i' = i
        · subst hii
          rw [if_pos rfl, setAt_getD (by rw [padK_length]; exact hpl), if_neg (fun h => hc ⟨rfl, h⟩), padK_getD hj]
          exact hold.canon
        · rw [if_neg hii]; exact hold
theorem mleaf_spec (hh : Hp E.cells w0 M A hp w) {k : K} {v : V} {kk : L → List MTgt → Ans} (h : mleaf E hp k v kk = some ans) :
    ∃ l ts, kk l ts = some ans ∧ ∀ {x}, V0 E.cells w A v x → ∃ qs : List QT, F2 (TG E w A hp) ts qs ∧ (∀ ks ls, mcellRs (k :: ks) (l :: ls) = qs.map (fun q => Root.row q.e q.l.toSl) ++ mcellRs ks ls) ∧ (∀ ks, slKs (k :: ks) = qs.map QT.e ++ slKs ks) ∧
      ∀ (B : Asg) (j : Nat), (∀ i q, qs[i]? = some q → B.al (j + i) ∧ B.v (j + i) = q.y) → ∃ u, (∀ ks ls, mcellVs (k :: ks) (l :: ls) j = u :: mcellVs ks ls (j + qs.length)) ∧ V0 E.cells w B u x := by
  cases k with
  | int ik =>
    simp only [mleaf] at h
    split at h
    · rename_i jk n
      cases hk : ikBeq ik jk <;> simp only [hk, cond_true, cond_false] at h
      · cases h
      obtain rfl := ikBeq_eq hk
      exact ⟨_, _, h, fun {x} hv => ⟨[], .nil, fun _ _ => rfl, fun _ => rfl, fun B j _ => ⟨.int ik n, fun _ _ => rfl, hv⟩⟩⟩
    · cases h
  | bool =>
    simp only [mleaf] at h
    split at h
    · rename_i b
      exact ⟨_, _, h, fun {x} hv => ⟨[], .nil, fun _ _ => rfl, fun _ => rfl, fun B j _ => ⟨.bool b, fun _ _ => rfl, hv⟩⟩⟩
    · cases h
  | str =>
    simp only [mleaf] at h
    split at h
    · rename_i b
      exact ⟨_, _, h, fun {x} hv => ⟨[], .nil, fun _ _ => rfl, fun _ => rfl, fun B j _ => ⟨.str b, fun _ _ => rfl, hv⟩⟩⟩
    · cases h
  | sl e =>
    have fin : ∀ {t : MTgt} {q : QT} {x : Value}, q.e = e → q.y = x → TG E w A hp t q → ∃ qs : List QT, F2 (TG E w A hp) [t] qs ∧ (∀ ks ls, mcellRs (.sl e :: ks) (q.l :: ls) = qs.map (fun q => Root.row q.e q.l.toSl) ++ mcellRs ks ls) ∧ (∀ ks, slKs (.sl e :: ks) = qs.map QT.e ++ slKs ks) ∧
        ∀ (B : Asg) (j : Nat), (∀ i q, qs[i]? = some q → B.al (j + i) ∧ B.v (j + i) = q.y) → ∃ u, (∀ ks ls, mcellVs (.sl e :: ks) (q.l :: ls) j = u :: mcellVs ks ls (j + qs.length)) ∧ V0 E.cells w B u x := by
      intro t q x he hy ht
      refine ⟨[q], .cons ht .nil, fun ks ls => by simp [mcellRs, he], fun ks => by simp [slKs, he], fun B j hB => ⟨.own j, fun ks ls => rfl, ?_⟩⟩
      obtain ⟨h1, h2⟩ := hB 0 q rfl
      obtain ⟨a, n, c, h3⟩ := ht.1
      exact ⟨h1, by rw [← hy, ← h2]; rfl, a, n, c, by rw [← hy]; exact h3⟩
    simp only [mleaf] at h
    split at h
    · refine ⟨_, _, h, fun {x} hv => ?_⟩
      obtain ⟨a, rfl⟩ := hv
      exact fin (q := ⟨e, .sl [], _, fun _ => False⟩) rfl rfl ⟨⟨a, 0, 0, rfl⟩, .nil _ e a _ rfl, fun _ h => h⟩
    · rename_i r
      split at h
      · rename_i e' xs hr
        cases hk : Nat.beq e e' <;> simp only [hk, cond_true, cond_false] at h
        · cases h
        obtain rfl := Nat.eq_of_beq_eq_true hk
        refine ⟨_, _, h, fun {x} hv => ?_⟩
        obtain ⟨hal, h2, a, n, c, h3⟩ := hv
        have hroot := hh.rt r
        rw [hr] at hroot
        exact fin (q := ⟨e, .sl xs, x, A.N r⟩) rfl rfl ⟨⟨a, n, c, h3⟩, by rw [h2]; exact hroot.2, hal, h2, fun _ => Iff.rfl, xs, hr⟩
      · cases h
    · rename_i r sz i o e'
      have inn : ∀ {er : Nat} {xs : List (List L)} {e2 : Nat} {x : Value}, isRow (hp r) = true → Own E.cells w (A.N r) (.sl er) (A.v r) (.sl xs) → e = e' → sz = (E.cells er).length → slAt (E.cells er) o = some e → (∀ l : L, mkRow E hp (.inn r i o) l = mkRow E hp (.inn r i o) l) →
          (∀ (w' : World) (S : Nat → Prop) (l : L), i < xs.length → Own E.cells w' S (.sl er) (A.v r) (.sl (xs.set i (setAt (padK (E.cells er) (xs.getD i [])) o (.sl l.toSl)))) → RowOK E.cells w' S (A.v r) (mkRow E hp (.inn r i o) l)) →
          V0 E.cells w A (.inn r sz i o e') x → ∃ F, TG E w A hp (.inn r i o) ⟨e, .sl ((xs.getD i []).getD o .hole).toSl, x, F⟩ := by
        intro er xs e2 x hrow hown he hsz hsl _ hmk hv
        subst he
        obtain ⟨F, f1, f2, f3, f4, f5, f6⟩ := inner0 hown hsz (slAt_spec hsl) hv
        exact ⟨F, f1, f2, f3, f4, hrow, fun w' N l a1 a2 a3 => hmk _ _ _ f5 (f6 w' N l a1 a2 a3)⟩
      split at h
      · rename_i er xs hr
        have hroot := hh.rt r
        rw [hr] at hroot
        cases hk : (Nat.beq e e' && Nat.beq sz (E.cells er).length) <;> simp only [hk, cond_true, cond_false] at h
        · cases h
        simp only [Bool.and_eq_true] at hk
        split at h
        · rename_i e2 he2
          cases hk2 : Nat.beq e e2 <;> simp only [hk2, cond_true, cond_false] at h
          · cases h
          obtain rfl := Nat.eq_of_beq_eq_true hk2
          refine ⟨_, _, h, fun {x} hv => ?_⟩
          obtain ⟨F, hF⟩ := inn (e2 := 0) (by rw [hr]; rfl) hroot.2 (Nat.eq_of_beq_eq_true hk.1) (Nat.eq_of_beq_eq_true hk.2) he2 (fun _ => rfl) (fun w' S l h1 h2 => by simp only [mkRow, hr]; exact ⟨h1, h2⟩) hv
          rw [dropT_head]
          exact fin rfl rfl hF
        · cases h
      · rename_i er xs j0 cs hr
        have hroot := hh.rt r
        rw [hr] at hroot
        cases hk : (Nat.beq i j0 && (Nat.beq e e' && Nat.beq sz (E.cells er).length)) <;> simp only [hk, cond_true, cond_false] at h
        · cases h
        simp only [Bool.and_eq_true] at hk
        obtain rfl := Nat.eq_of_beq_eq_true hk.1
        split at h
        · rename_i e2 he2
          cases hk2 : Nat.beq e e2 <;> simp only [hk2, cond_true, cond_false] at h
          · cases h
          obtain rfl := Nat.eq_of_beq_eq_true hk2
          refine ⟨_, _, h, fun {x} hv => ?_⟩
          obtain ⟨F, hF⟩ := inn (e2 := 0) (by rw [hr]; rfl) hroot.2.2 (Nat.eq_of_beq_eq_true hk.2.1) (Nat.eq_of_beq_eq_true hk.2.2) he2 (fun _ => rfl) (fun w' S l h1 h2 => by
            simp only [mkRow, hr]
            rw [getD_set_self hroot.2.1, List.set_set] at h2
            exact ⟨hroot.2.1, h2⟩) hv
          rw [getD_set_self hroot.2.1] at hF
          rw [dropT_head]
          exact fin rfl rfl hF
        · cases h
      · cases h
    · cases h
theorem mleaves_spec (hh : Hp E.cells w0 M A hp w) : ∀ {ks : List K} {vs : List V} {kk : List L → List MTgt → Ans}, mleaves E hp ks vs kk = some ans →
    ∃ ls ts, kk ls ts = some ans ∧ ls.length = ks.length ∧ ∀ {xs}, F2 (V0 E.cells w A) vs xs → ∃ qs : List QT, F2 (TG E w A hp) ts qs ∧ (∀ rest, mcellRs ks (ls ++ rest) = qs.map (fun q => Root.row q.e q.l.toSl)) ∧ slKs ks = qs.map QT.e ∧
      ∀ (B : Asg) (j : Nat), (∀ i q, qs[i]? = some q → B.al (j + i) ∧ B.v (j + i) = q.y) → ∀ rest, F2 (V0 E.cells w B) (mcellVs ks (ls ++ rest) j) xs
  | [], [], kk, h => ⟨[], [], h, rfl, fun {xs} hf => ⟨[], .nil, fun _ => rfl, rfl, fun B j _ _ => by cases hf; exact .nil⟩⟩
  | [], _ :: _, kk, h => by cases h
  | _ :: _, [], kk, h => by cases h
  | k :: ks, v :: vs, kk, h => by
    simp only [mleaves] at h
    obtain ⟨l, t, h1, h2⟩ := mleaf_spec hh h
    obtain ⟨ls, ts, g1, gl, g2⟩ := mleaves_spec hh h1
    refine ⟨_, _, g1, by simp [gl], fun {xs} hf => ?_⟩
    cases hf with
    | cons hv ht =>
      obtain ⟨q1, a1, a2, a3, a4⟩ := h2 hv
      obtain ⟨q2, b1, b2, b3, b4⟩ := g2 ht
      refine ⟨q1 ++ q2, a1.append b1, fun rest => ?_, ?_, fun B j hB rest => ?_⟩
      · rw [List.cons_append, a2, b2, List.map_append]
      · rw [a3, b3, List.map_append]
      · obtain ⟨u, u1, u2⟩ := a4 B j fun i q hq => hB i q (by rw [List.getElem?_append_left (List.getElem?_eq_some_iff.1 hq).1]; exact hq)
        rw [List.cons_append, u1]
        refine .cons u2 (b4 B _ (fun i q hq => ?_) rest)
        have := hB (q1.length + i) q (by rw [List.getElem?_append_right (by omega), Nat.add_sub_cancel_left]; exact hq)
        rwa [← Nat.add_assoc] at this
theorem F2.right {α β : Type} {R : α → β → Prop} {Q : β → Prop} {as cs : List α} {bs : List β} {R' : α → β → Prop} (h : F2 R as bs) (hq : ∀ a b, R a b → Q b) (h' : F2 R' cs bs) : F2 (fun a b => R' a b ∧ Q b) cs bs := by
 induction h generalizing cs with
 | nil => cases h'; exact .nil
 | cons h _ ih => cases h' with
  | cons h1 h2 => exact .cons ⟨h1, hq _ _ h⟩ (ih h2)
theorem margs_spec (hh : Hp E.cells w0 M A hp w) : ∀ {ps : List (Bool × List K)} {vs : List V} {kk : List L → List MTgt → Ans}, margs E hp ps vs kk = some ans →
    ∃ ls ts, kk ls ts = some ans ∧ ∀ {xs}, F2 (V2 E.cells w A) vs xs → ∃ qs : List QT, F2 (TG E w A hp) ts qs ∧ margRs ps ls = qs.map (fun q => Root.row q.e q.l.toSl) ∧ slPs ps = qs.map QT.e ∧
      ∀ (B : Asg) (j : Nat), (∀ i q, qs[i]? = some q → B.al (j + i) ∧ B.v (j + i) = q.y) → F2 (V2 E.cells w B) (margVs ps ls j) xs
  | [], [], kk, h => ⟨[], [], h, fun {xs} hf => ⟨[], .nil, rfl, rfl, fun B j _ => by cases hf; exact .nil⟩⟩
  | [], _ :: _, kk, h => by cases h
  | _ :: _, [], kk, h => by cases h
  | p :: ps, v :: vs, kk, h => by
    obtain ⟨ag, ks⟩ := p
    simp only [margs] at h
    have fin : ∀ {cs : List V} {k1 : List L → List MTgt → Ans}, mleaves E hp ks cs k1 = some ans → (∀ a t, k1 a t = margs E hp ps vs fun b u => kk (a ++ b) (t ++ u)) →
        (∀ {x}, V2 E.cells w A v x → ∃ l, F2 (V0 E.cells w A) cs l ∧ ∀ {B : Asg} {us : List V}, F2 (V0 E.cells w B) us l → V2 E.cells w B (mkVar ag us) x) →
        ∃ ls ts, kk ls ts = some ans ∧ ∀ {xs}, F2 (V2 E.cells w A) (v :: vs) xs → ∃ qs : List QT, F2 (TG E w A hp) ts qs ∧ margRs ((ag, ks) :: ps) ls = qs.map (fun q => Root.row q.e q.l.toSl) ∧ slPs ((ag, ks) :: ps) = qs.map QT.e ∧
          ∀ (B : Asg) (j : Nat), (∀ i q, qs[i]? = some q → B.al (j + i) ∧ B.v (j + i) = q.y) → F2 (V2 E.cells w B) (margVs ((ag, ks) :: ps) ls j) xs := by
      intro cs k1 h hk hV
      obtain ⟨a, t, h1, hl, h2⟩ := mleaves_spec hh h
      rw [hk] at h1
      obtain ⟨b, u, g1, g2⟩ := margs_spec hh h1
      refine ⟨_, _, g1, fun {xs} hf => ?_⟩
      cases hf with
      | cons hv ht =>
        obtain ⟨l, l1, l2⟩ := hV hv
        obtain ⟨q1, a1, a2, a3, a4⟩ := h2 l1
        obtain ⟨q2, b1, b2, b3, b4⟩ := g2 ht
        have hd : dropT ks.length (a ++ b) = b := by rw [dropT_eq, ← hl, List.drop_left]
        refine ⟨q1 ++ q2, a1.append b1, ?_, ?_, fun B j hB => ?_⟩
        · simp only [margRs, a2, hd, b2, List.map_append]
        · simp only [slPs, a3, b3, List.map_append]
        · simp only [margVs, hd]
          refine .cons (l2 (a4 B j (fun i q hq => hB i q (by rw [List.getElem?_append_left (List.getElem?_eq_some_iff.1 hq).1]; exact hq)) b)) (b4 B _ fun i q hq => ?_)
          have := hB (q1.length + i) q (by rw [List.getElem?_append_right (by omega), Nat.add_sub_cancel_left]; exact hq)
          rw [a3, List.length_map, Nat.add_assoc]; exact this
    cases ag with
    | true =>
      simp only [cond_true] at h
      split at h
      · rename_i cs
        refine fin h (fun _ _ => rfl) fun {x} hv => ?_
        obtain ⟨l, rfl, hl⟩ := (show V1 E.cells w A (.agg cs) x from hv)
        exact ⟨l, hl.mono fun _ _ h => h.1, fun {B us} hus => V1.v2 (v := .agg us) ⟨l, rfl, F2.right hl (fun _ _ h => h.2) hus⟩⟩
      · cases h
    | false =>
      simp only [cond_false] at h
      refine fin h (fun _ _ => rfl) fun {x} hv => ⟨[x], .cons ?_ .nil, fun {B us} hus => ?_⟩
      · have : ∀ {k : K} {kk : L → List MTgt → Ans}, mleaf E hp k v kk = some ans → V0 E.cells w A v x := by
          intro k kk h
          cases k <;> simp only [mleaf] at h <;> split at h <;> first | exact hv | cases h
        cases ks with
        | nil => cases h
        | cons k ks => simp only [mleaves] at h; exact this h
      · cases hus with
        | cons h1 h2 =>
          cases h2
          exact V0.v2 h1
end
end Go.DM
namespace Go.DM
theorem roots_mem {r : Nat} : ∀ {ts : List MTgt}, r ∈ roots ts ↔ ∃ (j : Nat) (t : MTgt), ts[j]? = some t ∧ r ∈ t.root
  | [] => by simp [roots]
  | t :: ts => by
    simp only [roots, List.mem_append, roots_mem (ts := ts)]
    constructor
    · rintro (h | ⟨j, t', h1, h2⟩)
      · exact ⟨0, t, rfl, h⟩
      · exact ⟨j + 1, t', by simpa using h1, h2⟩
    · rintro ⟨j, t', h1, h2⟩
      cases j with
      | zero => simp at h1; subst h1; exact .inl h2
      | succ j => exact .inr ⟨j, t', by simpa using h1, h2⟩
theorem root_one {t : MTgt} {r q : Nat} (h : r ∈ t.root) (h' : q ∈ t.root) : r = q := by
  cases t <;> simp [MTgt.root] at h h'
  · rw [h, h']
  · rw [h, h']
theorem distinct_at {r : Nat} : ∀ {ts : List MTgt} {j j' : Nat} {t t' : MTgt}, distinct (roots ts) = true → ts[j]? = some t → ts[j']? = some t' → r ∈ t.root → r ∈ t'.root → j = j'
 | [], j, j', t, t', _, h, _, _, _ => by simp at h
 | t0 :: ts, j, j', t, t', hd, h, h', hr, hr' => by
  have hd2 : distinct (roots ts) = true := by
   simp only [roots] at hd
   cases t0 with
   | none => exact hd
   | own q => simp only [MTgt.root, List.singleton_append, distinct, Bool.and_eq_true] at hd; exact hd.2
   | inn q i p => simp only [MTgt.root, List.singleton_append, distinct, Bool.and_eq_true] at hd; exact hd.2
  have hd1 : ∀ q, q ∈ t0.root → q ∉ roots ts := by
   intro q hq hm
   simp only [roots] at hd
   cases t0 with
   | none => simp [MTgt.root] at hq
   | own p =>
    simp [MTgt.root] at hq
    subst hq
    simp only [MTgt.root, List.singleton_append, distinct, Bool.and_eq_true, Bool.not_eq_true'] at hd
    rw [inRs_iff.2 hm] at hd; cases hd.1
   | inn p i o =>
    simp [MTgt.root] at hq
    subst hq
    simp only [MTgt.root, List.singleton_append, distinct, Bool.and_eq_true, Bool.not_eq_true'] at hd
    rw [inRs_iff.2 hm] at hd; cases hd.1
  cases j with
  | zero =>
   cases j' with
   | zero => rfl
   | succ j' =>
    simp at h; subst h
    exact (hd1 r hr (roots_mem.2 ⟨j', t', by simpa using h', hr'⟩)).elim
  | succ j =>
   cases j' with
   | zero =>
    simp at h'; subst h'
    exact (hd1 r hr' (roots_mem.2 ⟨j, t, by simpa using h, hr⟩)).elim
   | succ j' =>
    have h1 : ts[j]? = some t := by simpa using h
    have h2 : ts[j']? = some t' := by simpa using h'
    rw [distinct_at hd2 h1 h2 hr hr']
theorem markR_other {E : Env} {hp o : Nat → Root} {t : MTgt} {l : L} {q : Nat} (h : q ∉ t.root) : markR E hp t l o q = o q := by
 cases t with
 | none => rfl
 | own r =>
  have hq : q ≠ r := fun e => h (by simp [MTgt.root, e])
  cases hr : hp r <;> simp only [markR, hr] <;> exact upd_other _ _ hq
 | inn r i p =>
  have hq : q ≠ r := fun e => h (by simp [MTgt.root, e])
  cases hr : hp r <;> simp only [markR, hr] <;> exact upd_other _ _ hq
theorem markR_at {E : Env} {hp o : Nat → Root} {t : MTgt} {l : L} {q : Nat} (h : q ∈ t.root) (hq : isRow (hp q) = true) (ho : ∀ r, t = .own r → ∃ e xs, hp r = .row e xs) : markR E hp t l o q = mkRow E hp t l := by
 cases t with
 | none => simp [MTgt.root] at h
 | own r =>
  simp [MTgt.root] at h
  subst h
  obtain ⟨e, xs, hr⟩ := ho _ rfl
  simp only [markR, mkRow, hr, upd_same]
 | inn r i p =>
  simp [MTgt.root] at h
  subst h
  cases hr : hp q <;> rw [hr] at hq <;> first | (cases hq; done) | simp only [markR, mkRow, hr, upd_same]
theorem markH_other {E : Env} {hp : Nat → Root} {q : Nat} : ∀ {ts : List MTgt} {ls : List L} {o : Nat → Root}, q ∉ roots ts → markH E hp ts ls o q = o q
 | [], _, _, _ => rfl
 | t :: ts, ls, o, h => by
  simp only [roots, List.mem_append, not_or] at h
  simp only [markH]
  rw [markH_other h.2, markR_other h.1]
theorem markH_at {E : Env} {hp : Nat → Root} {q : Nat} (hq : isRow (hp q) = true) : ∀ {ts : List MTgt} {ls : List L} {o : Nat → Root} {j : Nat} {t : MTgt}, distinct (roots ts) = true → ts[j]? = some t → q ∈ t.root → (∀ r, t = .own r → ∃ e xs, hp r = .row e xs) →
  markH E hp ts ls o q = mkRow E hp t (ls.getD j .hole)
 | [], _, _, j, t, _, h, _, _ => by simp at h
 | t0 :: ts, ls, o, 0, t, hd, h, hr, ht => by
  simp at h
  subst h
  simp only [markH]
  rw [markH_other, markR_at hr hq ht, getD_headD]
  intro hm
  obtain ⟨j, t', h1, h2⟩ := roots_mem.1 hm
  have := distinct_at (ts := t0 :: ts) (j := 0) (j' := j + 1) hd rfl (by simpa using h1) hr h2
  omega
 | t0 :: ts, ls, o, j + 1, t, hd, h, hr, ht => by
  have hd2 : distinct (roots ts) = true := by
   simp only [roots] at hd
   cases t0 with
   | none => exact hd
   | own q => simp only [MTgt.root, List.singleton_append, distinct, Bool.and_eq_true] at hd; exact hd.2
   | inn q i p => simp only [MTgt.root, List.singleton_append, distinct, Bool.and_eq_true] at hd; exact hd.2
  simp only [markH]
  rw [markH_at hq hd2 (by simpa using h) hr ht, getD_tail]
section
variable {P : Program} {E : Env} {w0 w w' : World} {np : Nat} {M : Mem np} {A A' : Asg} {s : St} {o : Oper} {a : Act} {ans : List L} {hp : Nat → Root} {T : Nat → List K}
def Asg.mark (A : Asg) (ts : List MTgt) (G : Nat → Prop) (N : Nat → Nat → Prop) : Asg :=
  { A with N := fun r b => (A.N r b ∧ ¬ G b) ∨ ∃ (j : Nat) (t : MTgt), ts[j]? = some t ∧ r ∈ t.root ∧ N j b }
theorem TG.root {t : MTgt} {q : QT} (h : TG E w A hp t q) {b : Nat} (hb : q.F b) : ∃ r, r ∈ t.root ∧ A.N r b := by
 obtain ⟨_, _, h⟩ := h
 cases t with
 | none => exact (h b hb).elim
 | own r => exact ⟨r, by simp [MTgt.root], (h.2.2.1 b).1 hb⟩
 | inn r i p => exact ⟨r, by simp [MTgt.root], h.2.1 b hb⟩
theorem TG.al {t : MTgt} {q : QT} (h : TG E w A hp t q) {r : Nat} (hr : r ∈ t.root) : A.al r ∧ isRow (hp r) = true := by
 obtain ⟨_, _, h⟩ := h
 cases t with
 | none => simp [MTgt.root] at hr
 | own q => simp [MTgt.root] at hr; subst hr; obtain ⟨h1, _, _, xs, h2⟩ := h; exact ⟨h1, by rw [h2]; rfl⟩
 | inn q i p => simp [MTgt.root] at hr; subst hr; exact ⟨h.1, h.2.2.1⟩
theorem F2.get' {α β : Type} {R : α → β → Prop} {as : List α} {bs : List β} (h : F2 R as bs) : ∀ {i : Nat} {b : β}, bs[i]? = some b → ∃ a, as[i]? = some a ∧ R a b := by
 induction h with
 | nil => intro i a h; simp at h
 | cons h _ ih =>
  intro i a hi
  cases i with
  | zero => simp at hi; subst hi; exact ⟨_, by simp, h⟩
  | succ i => simp at hi; obtain ⟨b, hb, hr⟩ := ih hi; exact ⟨b, by simpa using hb, hr⟩
theorem RowOK.root {S : Nat → Prop} {r : Nat} {o : Root} {rs : List Nat} (ha : A.al r) (h : RowOK T w S (A.v r) o) (hs : ∀ b, S b → A.N r b) : RootOK T w A r (killR rs o) := by
 cases o with
 | dead => exact h.elim
 | box cs => exact h.elim
 | hol => exact h.elim
 | row e xs => exact ⟨ha, Own.mono h hs⟩
 | opn e xs j cs => exact ⟨ha, h.1, Own.mono h.2 hs⟩
theorem Sim.mark (sm : Sim E w0 M A s a w) {ts : List MTgt} {qs : List QT} (hq : F2 (TG E w A s.hp) ts qs) (hd : distinct (roots ts) = true) {rows : List L} {N : Nat → Nat → Prop} {G : Nat → Prop} (hG : ∀ b, G b ↔ ∃ (j : Nat) (q : QT), qs[j]? = some q ∧ q.F b)
    (hfr : Fr w w' G) (hdj : ∀ j q b, N j b → N q b → j = q) (hN : ∀ j b, N j b → b < w'.heap.size ∧ (G b ∨ w.heap.size ≤ b)) (hown : ∀ (j : Nat) (q : QT), qs[j]? = some q → Own E.cells w' (N j) (.sl q.e) q.y (rows.getD j .hole)) :
    Sim E w0 M (A.mark ts G N) (s.marked E ts rows) a w' := by
  have hh := sm.hp
  have hGr : ∀ b, G b → ∃ (j : Nat) (t : MTgt) (r : Nat), ts[j]? = some t ∧ r ∈ t.root ∧ A.N r b ∧ ∃ q : QT, qs[j]? = some q ∧ q.F b := by
    intro b hb
    obtain ⟨j, q, h1, h2⟩ := (hG b).1 hb
    obtain ⟨t, h3, h4⟩ := hq.get' h1
    obtain ⟨r, h5, h6⟩ := h4.root h2
    exact ⟨j, t, r, h3, h5, h6, q, h1, h2⟩
  have halr : ∀ r, r ∈ roots ts → A.al r ∧ isRow (s.hp r) = true := by
    intro r hr
    obtain ⟨j, t, h1, h2⟩ := roots_mem.1 hr
    obtain ⟨q, _, h4⟩ := hq.get h1
    exact h4.al h2
  have hGch : ∀ b, G b → ∃ r, r ∈ roots ts ∧ A.N r b := by
    intro b hb
    obtain ⟨j, t, r, h1, h2, h3, _⟩ := hGr b hb
    exact ⟨r, roots_mem.2 ⟨j, t, h1, h2⟩, h3⟩
  have hN2 : ∀ j b, N j b → (∃ r, r ∈ roots ts ∧ A.N r b) ∨ w.heap.size ≤ b := fun j b h => (hN j b h).2.imp (hGch b) id
  have st : Step A (A.mark ts G N) w w' (fun r => r ∈ roots ts) := by
    refine ⟨rfl, fun _ h => h, fun _ _ => rfl, hfr.size, fun b h1 h2 => hfr.block b h1 fun hg => ?_, fun r h1 h2 b => ⟨fun h => ?_, fun h => .inl ⟨h, fun hg => ?_⟩⟩, fun r b h1 h2 => ?_⟩
    · obtain ⟨r, h3, h4⟩ := hGch b hg
      exact h2 r h3 h4
    · rcases h with h | ⟨j, t, h3, h4, _⟩
      · exact h.1
      · exact (h2 (roots_mem.2 ⟨j, t, h3, h4⟩)).elim
    · obtain ⟨q, h3, h4⟩ := hGch b hg
      rw [hh.dj r q b h h4] at h2
      exact h2 h3
    · rcases h2 with h2 | ⟨j, t, h3, h4, h5⟩
      · rcases h1 with h1 | h1
        · exact .inl ⟨r, h1, h2.1⟩
        · exact (h1 (hh.alN h2.1)).elim
      · exact hN2 j b h5
  have hrt : ∀ r, RootOK E.cells w' (A.mark ts G N) r (killR (roots ts) (markH E s.hp ts rows s.hp r)) := by
    intro r
    by_cases hr : r ∈ roots ts
    · obtain ⟨j, t, h1, h2⟩ := roots_mem.1 hr
      obtain ⟨hal, hrow⟩ := halr r hr
      obtain ⟨q, h3, h4⟩ := hq.get h1
      rw [markH_at hrow hd h1 h2 (fun r e => by subst e; obtain ⟨_, _, _, _, _, xs, h⟩ := h4; exact ⟨_, xs, h⟩)]
      have ho := hown j q h3
      have hin : ∀ b, N j b → (A.mark ts G N).N r b := fun b hb => .inr ⟨j, t, h1, h2, hb⟩
      obtain ⟨_, _, h5⟩ := h4
      cases t with
      | none => simp [MTgt.root] at h2
      | own p =>
        simp [MTgt.root] at h2
        subst h2
        obtain ⟨_, h6, _, xs', h7⟩ := h5
        simp only [mkRow, h7, killR]
        refine ⟨hal, ?_⟩
        show Own E.cells w' _ (.sl q.e) (A.v r) _
        rw [← h6]
        exact ho.slOf.mono hin
      | inn p i c =>
        simp [MTgt.root] at h2
        subst h2
        obtain ⟨_, h6, h7, h8⟩ := h5
        have hnG : ∀ b, A.N r b → ¬ q.F b → ¬ G b := by
          intro b hb hnf hg
          obtain ⟨j', t', r', g1, g2, g3, q', g4, g5⟩ := hGr b hg
          rw [hh.dj r' r b g3 hb] at g2
          have : j = j' := distinct_at hd h1 g1 (by simp [MTgt.root]) g2
          subst this
          rw [h3] at g4; injection g4 with g4; subst g4
          exact hnf g5
        refine (RowOK.root hal (h8 w' (N j) (rows.getD j .hole) (fun b hb hnf => hfr.block b (hh.lt r b hb) (hnG b hb hnf)) (fun b hb hbn => ?_) ho) fun b hb => ?_)
        · refine Classical.byContradiction fun hnf => ?_
          rcases (hN j b hb).2 with hg | hg
          · exact hnG b hbn hnf hg
          · have := hh.lt r b hbn; omega
        · rcases hb with hb | hb
          · exact .inl ⟨hb.1, hnG b hb.1 hb.2⟩
          · exact hin b hb
    · rw [markH_other hr]
      have ho := hh.rt r
      cases hp : s.hp r with
      | dead =>
        rw [hp] at ho
        intro b hb
        rcases hb with hb | ⟨j, t, h1, h2, _⟩
        · exact ho b hb.1
        · exact hr (roots_mem.2 ⟨j, t, h1, h2⟩)
      | box cs =>
        rw [hp] at ho
        obtain ⟨ha, g, te, cur, h1, h2, h3, h4⟩ := ho
        refine ⟨ha, g, te, cur, h1, fun b => (st.N r ha hr b).trans (h2 b), ?_, cells_kill st hh h4⟩
        rw [(st.root hh hr ((h2 g).2 rfl)).2]; exact h3
      | row e xs =>
        rw [hp] at ho
        refine ⟨ho.1, ?_⟩
        exact (ho.2.frame (w' := w') fun b hb => (st.root hh hr hb).2).mono fun b hb => (st.root hh hr hb).1
      | opn e xs j cs =>
        rw [hp] at ho
        refine ⟨ho.1, ho.2.1, ?_⟩
        exact (ho.2.2.frame (w' := w') fun b hb => (st.root hh hr hb).2).mono fun b hb => (st.root hh hr hb).1
      | hol e xs j p =>
        rw [hp] at ho
        refine ⟨ho.1, ho.2.1, ?_⟩
        exact ho.2.2.move (fun b hb => (st.root hh hr hb).2) fun b hb => (st.root hh hr hb).1
  refine ⟨⟨fun r b h => ?_, fun r q b h h' => ?_, fun r h => ?_, hrt, hh.fr.trans hfr fun b hb => ?_, fun r b h => ?_, hh.zf, hh.pn⟩, fun i y hy => (sm.tm i y hy).kill st hh, sm.nx, sm.df, sm.sz⟩
  · rcases h with h | ⟨j, t, _, _, h⟩
    · exact Nat.lt_of_lt_of_le (hh.lt r b h.1) hfr.size
    · exact (hN j b h).1
  · have key : ∀ {r q : Nat}, A.N r b → ¬ G b → ∀ j, N j b → False := by
      intro r q h1 h2 j h3
      rcases (hN j b h3).2 with h4 | h4
      · exact h2 h4
      · have := hh.lt r b h1; omega
    rcases h with h | ⟨j, t, h1, h2, h3⟩ <;> rcases h' with h' | ⟨j', t', k1, k2, k3⟩
    · exact hh.dj r q b h.1 h'.1
    · exact (key (q := q) h.1 h.2 j' k3).elim
    · exact (key (q := q) h'.1 h'.2 j h3).elim
    · obtain rfl := hdj j j' b h3 k3
      rw [h1] at k1; injection k1 with k1; subst k1
      exact root_one h2 k2
  · have hr : r ∉ roots ts := fun hr => h (halr r hr).1
    show killR (roots ts) (markH E s.hp ts rows s.hp r) = .dead
    rw [markH_other hr, hh.al r h]; rfl
  · obtain ⟨r, _, h⟩ := hGch b hb
    exact hh.nm r b h
  · rcases h with h | ⟨j, t, _, _, h⟩
    · exact hh.nm r b h.1
    · rcases hN2 j b h with ⟨q, _, h'⟩ | h'
      · exact hh.nm q b h'
      · exact .inr (Nat.le_trans hh.fr.size h')
theorem lookH_map {qs : List QT} {i : Nat} {q : QT} (h : qs[i]? = some q) : lookH (qs.map fun q => Root.row q.e q.l.toSl) i = .row q.e q.l.toSl := by
 induction qs generalizing i with
 | nil => simp at h
 | cons x qs ih =>
  cases i with
  | zero => simp at h; subst h; rfl
  | succ i => exact ih (by simpa using h)
theorem lookH_map_none {qs : List QT} {i : Nat} (h : qs.length ≤ i) : lookH (qs.map fun q => Root.row q.e q.l.toSl) i = .dead := by
 induction qs generalizing i with
 | nil => rfl
 | cons x qs ih =>
  cases i with
  | zero => simp at h
  | succ i => exact ih (by simpa using h)
theorem evalM_sound (hM : ∀ g c, c ∈ E.M g → MValid P E g c) (sm : Sim E w0 M A s a w) {k : V → St → Ans} (h : evalM E o.op s k = some ans) : ∃ v s', k v s' = some ans ∧ TOut P E w0 M A o a w v s' := by
  have hh := sm.hp
  cases hop : o.op <;> rw [hop] at h <;> first | (simp only [evalM] at h; cases h; done) | skip
  case call cc =>
    obtain ⟨callee, args, argTypes⟩ := cc
    cases callee with
    | builtin b => simp only [evalM] at h; cases h
    | invoke r n => simp only [evalM] at h; cases h
    | value f =>
      cases f <;> first | (simp only [evalM] at h; cases h; done) | skip
      rename_i g
      simp only [evalM] at h
      split at h
      · rename_i c cs hcs
        obtain ⟨hent, hcall⟩ := hM g c (by rw [hcs]; simp)
        obtain ⟨ls, ts, h1, h2⟩ := margs_spec hh h
        cases hdi : distinct (roots ts) <;> simp only [hdi, cond_true, cond_false] at h1
        · cases h1
        cases hs : c.sem ls with
        | none => rw [hs] at h1; cases h1
        | some r =>
          rw [hs] at h1
          simp only [Option.bind_some] at h1
          next =>
            refine ⟨_, _, h1, fun Kn Q hK => ?_⟩
            obtain ⟨qs, e1, e2, e3, e4⟩ := h2 (F2.mapL (g := a.eval) (l := args.toList) fun x _ => sm.ev x)
            have hql : (slPs c.args).length = qs.length := by rw [e3, List.length_map]
            let B : Asg := { v := fun j => match qs[j]? with | some q => q.y | none => Go.undef, N := fun j b => ∃ q, qs[j]? = some q ∧ q.F b, al := fun j => j < qs.length, Z := fun b => w.heap.size ≤ b }
            have hrun : (execOp a.eval o).run P w = .ok (.enter g (args.toList.map a.eval).toArray) w := by
              obtain ⟨fn, g1, g2, g3⟩ := hent
              have : (args.map a.eval) = (args.toList.map a.eval).toArray := by cases args; simp
              have g2' : fn.name ≠ "runtime.NumGoroutine" := by simpa using g2
              have g3' : fn.body ≠ none := fun h => by simp [h] at g3
              simp [execOp, hop, resolve, Act.eval, Deferred.ofValue, invoke, callFunc, g1, g2', g3', this]
            unfold Oper.wp
            rw [hrun]
            have hB : Hp (np := (slPs c.args).length) E.cells w ⟨fun b => ∃ j, B.N j b, B.v⟩ B (lookH (margRs c.args ls)) w := by
              refine ⟨fun r b ⟨q, q1, q2⟩ => ?_, fun r q b ⟨q1, k1, k2⟩ ⟨q2, k3, k4⟩ => ?_, fun r hr => ?_, fun r => ?_, Fr.refl _ _, fun r b hb => .inl ⟨r, hb⟩, fun b hb => hb, fun j hj => ⟨by show j < qs.length; omega, rfl⟩⟩
              · obtain ⟨t, h3, h4⟩ := e1.get' q1
                obtain ⟨p, _, h6⟩ := h4.root q2
                exact hh.lt p b h6
              · obtain ⟨t1, a1, a2⟩ := e1.get' k1
                obtain ⟨t2, b1, b2⟩ := e1.get' k3
                obtain ⟨p1, a3, a4⟩ := a2.root k2
                obtain ⟨p2, b3, b4⟩ := b2.root k4
                rw [hh.dj p1 p2 b a4 b4] at a3
                exact distinct_at hdi a1 b1 a3 b3
              · have hr' : ¬ r < qs.length := hr
                rw [e2]; exact lookH_map_none (by omega)
              · rw [e2]
                by_cases hr : r < qs.length
                · have hg := List.getElem?_eq_getElem hr
                  rw [lookH_map hg]
                  obtain ⟨t, _, h4⟩ := e1.get' hg
                  refine ⟨hr, ?_⟩
                  have hv : B.v r = qs[r].y := by show (match qs[r]? with | some q => q.y | none => Go.undef) = _; rw [hg]
                  rw [hv]
                  exact h4.2.1.slOf.mono fun b hb => ⟨_, hg, hb⟩
                · rw [lookH_map_none (by omega)]
                  rintro b ⟨q, hq, _⟩
                  rw [List.getElem?_eq_none (by omega)] at hq; cases hq
            have hargs := e4 B 0 fun i q hq => ⟨by rw [Nat.zero_add]; exact (List.getElem?_eq_some_iff.1 hq).1, by show (match qs[0 + i]? with | some q => q.y | none => Go.undef) = _; rw [Nat.zero_add, hq]⟩
            refine (hcall ls _ w _ B hs hB (fun q hq h => ?_) hargs).mono fun e w' hpost => ?_
            · have : q < qs.length := h
              omega
            · obtain ⟨n', rows', N, rfl, rfl, hfr, p1, p2, p3⟩ := hpost
              refine hK _ w' _ (Sim.mark (G := fun b => ∃ j, B.N j b) (N := N) sm e1 hdi (fun b => Iff.rfl) hfr p1 p2 fun j q hq => ?_) rfl rfl
              have hsl : (slPs c.args)[j]? = some q.e := by rw [e3, List.getElem?_map, hq]; rfl
              have := p3 j q.e hsl
              have hv : B.v j = q.y := by show (match qs[j]? with | some q => q.y | none => Go.undef) = _; rw [hq]
              rwa [hv] at this
      · cases h
end
end Go.DM
set_option linter.unusedSectionVars false
namespace Go.DM
section
variable {P : Program} {E : Env} {w0 w w' : World} {np : Nat} {M : Mem np} {A A' : Asg} {s : St} {o : Oper} {a : Act} {ans : List L}
theorem either_eq {a b : Ans} {r : List L} (h : either a b = some r) : a = some r ∧ b = some r := by
  unfold either at h
  split at h
  · rename_i e; exact ⟨h, e ▸ h⟩
  · cases h
theorem nilCmp_spec (sm : Sim E w0 M A s a w) {v : V} {x : Value} {yes no : Ans} (hv : V2 E.cells w A v x) (h : nilCmp s.hp v yes no = some ans) :
    ∃ A0 n c, x = .slice A0 n c ∧ (bif A0.isNone then yes else no) = some ans := by
  have hh := sm.hp
  have emp : ∀ {e : Nat} {xs : List (List L)} {Z : Nat → Prop}, Rd E.cells w Z (.sl e) x (.sl xs) → (bif xs.isEmpty then either yes no else no) = some ans → ∃ A0 n c, x = .slice A0 n c ∧ (bif A0.isNone then yes else no) = some ans := by
    intro e xs Z hr h
    obtain ⟨A0, n, c, rfl, h1, h2, h3⟩ := hr.inv
    refine ⟨A0, n, c, rfl, ?_⟩
    cases xs with
    | nil =>
      obtain ⟨g1, g2⟩ := either_eq (show either yes no = some ans from h)
      cases A0.isNone
      · exact g2
      · exact g1
    | cons y ys =>
      have h1' : (y :: ys).length = n := h1
      obtain ⟨b, o, vv, rfl, _⟩ := h3 (by rw [← h1']; simp)
      exact h
  cases v <;> first | (cases h; done) | skip
  case nil =>
    obtain ⟨A0, rfl⟩ := (show V0 E.cells w A .nil x from hv)
    obtain ⟨g1, g2⟩ := either_eq (show either yes no = some ans from h)
    refine ⟨A0, 0, 0, rfl, ?_⟩
    cases A0.isNone
    · exact g2
    · exact g1
  case sl d e xs => exact emp (show V0 E.cells w A (.sl d e xs) x from hv).2 h
  case own r =>
    simp only [nilCmp] at h
    split at h
    · rename_i e xs hr
      have hroot := hh.rt r
      rw [hr] at hroot
      obtain ⟨_, h2, _⟩ := (show V0 E.cells w A (.own r) x from hv)
      obtain ⟨_, hown⟩ := hroot
      rw [← h2] at hown
      exact emp hown.rd h
    · cases h
theorem t_nilCmp (hT : ∀ t i, E.T t = some i → TyOK P E t i) (sm : Sim E w0 M A s a w) {op : BinOp} {t ty : TypeId} {x y : Operand} {k : V → St → Ans} (ho : o.op = .binOp op t x y ty) (h : evalT E (.binOp op t x y ty) s k = some ans) :
    ∃ v s', k v s' = some ans ∧ TOut P E w0 M A o a w v s' := by
  simp only [evalT] at h
  cases hn : isNilC y <;> simp only [hn, cond_true, cond_false] at h
  · cases h
  have hy : a.eval y = .slice none 0 0 := by
    unfold isNilC at hn
    split at hn
    · rfl
    · cases hn
  split at h
  case h_2 => cases h
  rename_i el hel
  obtain ⟨hu, ie, hie⟩ := el_spec (E := E) hT sm.hp sm.ev hel
  have fin : ∀ (b : Bool) (p : BinOp), op = p → (p = .eql ∨ p = .neq) → (∀ A0 n c, a.eval x = .slice A0 n c → (bif A0.isNone then k (.bool (p == .eql)) s else k (.bool (p == .neq)) s) = some ans → ∃ v s', k v s' = some ans ∧ TOut P E w0 M A o a w v s') := by
    intro _ p hp hpp A0 n c hx hk
    have hrun : ∀ r, (Go.binOp p t (.slice A0 n c) (.slice none 0 0)).run P w = .ok (.bool r) w → (execOp a.eval o).run P w = .ok (.value (.bool r)) w := by
      intro r hr
      have hg : (eqGuard p t x y (.slice A0 n c) (.slice none 0 0)).run P w = .ok () w := by rcases hpp with rfl | rfl <;> simp [eqGuard]
      simp only [execOp, ho, hp, hx, hy, map_eq_pure_bind, Sem.run_bind, hg, hr, Result.andThen_ok, Sem.run_pure]
    have out : ∀ r, (Go.binOp p t (.slice A0 n c) (.slice none 0 0)).run P w = .ok (.bool r) w → TOut P E w0 M A o a w (.bool r) s := by
      intro r hr K Q hK
      unfold Oper.wp
      rw [hrun r hr]
      exact hK (.bool r) w A sm rfl rfl
    have heql : (Go.binOp .eql t (.slice A0 n c) (.slice none 0 0)).run P w = .ok (.bool A0.isNone) w := by
      have := run_equal_slice_nil (P := P) w t el A0 n c hu
      simp [Go.binOp, this]
    have hneq : (Go.binOp .neq t (.slice A0 n c) (.slice none 0 0)).run P w = .ok (.bool (!A0.isNone)) w := by
      have := run_equal_slice_nil (P := P) w t el A0 n c hu
      simp [Go.binOp, this]
    rcases hpp with rfl | rfl
    · cases hA : A0.isNone <;> rw [hA] at hk heql
      · exact ⟨_, _, hk, out _ heql⟩
      · exact ⟨_, _, hk, out _ heql⟩
    · cases hA : A0.isNone <;> rw [hA] at hk hneq
      · exact ⟨_, _, hk, out _ hneq⟩
      · exact ⟨_, _, hk, out _ hneq⟩
  split at h
  · obtain ⟨A0, n, c, h1, h2⟩ := nilCmp_spec sm (sm.ev x) h
    exact fin true .eql rfl (.inl rfl) A0 n c h1 h2
  · obtain ⟨A0, n, c, h1, h2⟩ := nilCmp_spec sm (sm.ev x) h
    exact fin true .neq rfl (.inr rfl) A0 n c h1 h2
  · cases h
theorem evalT_sound (hT : ∀ t i, E.T t = some i → TyOK P E t i) (sm : Sim E w0 M A s a w) {k : V → St → Ans} (h : evalT E o.op s k = some ans) : ∃ v s', k v s' = some ans ∧ TOut P E w0 M A o a w v s' := by
  cases hop : o.op <;> rw [hop] at h <;> first | (simp only [evalT] at h; cases h; done) | skip
  case store t x y => exact t_store hT sm hop h
  case binOp op t x y ty => exact t_nilCmp hT sm hop h
  case call c =>
    obtain ⟨callee, args, argTypes⟩ := c
    cases callee with
    | builtin b =>
      cases b <;> first | (simp only [evalT] at h; cases h; done) | skip
      simp only [evalT] at h
      split at h
      · rename_i x y hxy
        split at h
        · rename_i t u htu
          have h1 : args = #[x, y] := by cases args; simp at hxy; subst hxy; rfl
          have h2 : argTypes = #[t, u] := by cases argTypes; simp at htu; subst htu; rfl
          subst h1; subst h2
          refine t_append hT sm hop ?_
          simp only [evalT]; exact h
        · cases h
      · cases h
    | value f => simp only [evalT] at h; cases h
    | invoke r n => simp only [evalT] at h; cases h
theorem Sim.put (sm : Sim E w0 M A s a w) {d : Option Nat} {v : V} {cv : Value} (hv : V2 E.cells w A v cv) : Sim E w0 M A (s.put d v) (a.put d cv) w := by
  cases d with
  | none => exact sm
  | some d =>
    refine ⟨sm.hp, fun i x hx => ?_, sm.nx, sm.df, by simpa [Act.put] using sm.sz⟩
    simp only [Act.put, St.put] at *
    rw [Array.getElem?_setIfInBounds] at hx
    by_cases hi : d = i
    · subst hi
      rw [upd_same]
      split at hx
      · split at hx
        · injection hx with hx; subst hx; exact hv
        · cases hx
      · rename_i hn; exact (hn rfl).elim
    · rw [upd_other _ _ (Ne.symm hi)]
      rw [if_neg hi] at hx
      exact sm.tm i x hx
theorem evalO_sound (hT : ∀ t i, E.T t = some i → TyOK P E t i) (hG : ∀ g c, c ∈ E.G g → Valid P E g c) (hM : ∀ g c, c ∈ E.M g → MValid P E g c) (sm : Sim E w0 M A s a w) {k : V → St → Ans} (h : evalO E o.op s k = some ans) :
    ∃ v s', k v s' = some ans ∧ TOut P E w0 M A o a w v s' := by
  unfold evalO at h
  cases ht : isT o.op <;> simp only [ht, cond_true, cond_false] at h
  · cases hm : isM E o.op <;> simp only [hm, cond_true, cond_false] at h
    case true => exact evalM_sound hM sm h
    obtain ⟨v, rs, h1, h2⟩ := evalQ_sound hT hG sm.hp sm.ev h
    refine ⟨v, _, h1, fun Kn Q hK => ?_⟩
    refine h2 (fun r h _ => sm.nx r h) Kn Q fun cv w' A' g1 g2 g3 g4 => ?_
    exact hK cv w' A' ⟨g1, fun i x hx => (sm.tm i x hx).step g2 sm.hp (fun _ h => h), fun r hr hal => by
      have hr' : s.nx + rs.length ≤ r := hr
      rcases g4 r hal with h | h
      · exact sm.nx r (by omega) h
      · omega, sm.df, sm.sz⟩ g3 g2.Z
  · exact evalT_sound hT sm h
theorem upd_self {α : Type} {f : Nat → α} {d : Nat} {v : α} (h : f d = v) : upd f d v = f := by
  funext i
  by_cases hi : i = d
  · subst hi; rw [upd_same, h]
  · rw [upd_other _ _ hi]
def Known (all : List Oper) (sl : Nat → V) (kn : Option (Nat × Nat × Bool)) : Prop := ∀ (j d : Nat) (t : Bool), kn = some (j, d, t) → sl d = .bool t ∧ ∃ o, all[j]? = some o ∧ o.dst = some d
theorem Known.st {all : List Oper} {s : St} {kn : Option (Nat × Nat × Bool)} (h : Known all s.sl kn) : s.knows kn = s := by
 match kn with
 | none => rfl
 | some (j, d, t) => simp only [St.knows]; rw [upd_self (h j d t rfl).1]
theorem look_bool {nt d : Nat} {sl : Nat → V} {t : Bool} (h : look nt sl d = .bool t) : sl d = .bool t := by
  unfold look at h
  cases hb : Nat.blt d nt <;> simp only [hb, cond_true, cond_false] at h
  · cases h
  · exact h
theorem guarded_det {nt : Nat} {all : List Oper} {sl : Nat → V} {g : Option (Nat × Bool)} {k : Bool → Option (Nat × Nat × Bool) → Ans} (h : guarded nt all sl g k = some ans) :
    ∃ go kn, k go kn = some ans ∧ Known all sl kn ∧ ∀ k' : Bool → Option (Nat × Nat × Bool) → Ans, guarded nt all sl g k' = k' go kn := by
  unfold guarded at h
  split at h
  · exact ⟨true, none, h, fun _ _ _ e => (by cases e), fun _ => rfl⟩
  · rename_i j b
    split at h
    · cases h
    · rename_i o ho
      split at h
      · cases h
      · rename_i d hd
        split at h
        · rename_i t ht
          have hk := look_bool ht
          cases t <;> simp only [cond_true, cond_false] at h
          · exact ⟨_, _, h, fun _ _ _ e => (by cases e; exact ⟨hk, o, ho, hd⟩), fun _ => by simp [guarded, ho, hd, ht]⟩
          · exact ⟨_, _, h, fun _ _ _ e => (by cases e; exact ⟨hk, o, ho, hd⟩), fun _ => by simp [guarded, ho, hd, ht]⟩
        · rename_i ht
          exact ⟨_, _, h, fun _ _ _ e => (by cases e), fun _ => by simp [guarded, ho, hd, ht]⟩
        · cases h
theorem guarded_tm {sl : Nat → V} (tm : ∀ i x, a.tmps[i]? = some x → V2 E.cells w A (sl i) x) (sz : a.tmps.size = E.nt) {ops : Array Oper} {go : Bool} {kn : Option (Nat × Nat × Bool)}
    (h : ∀ k' : Bool → Option (Nat × Nat × Bool) → Ans, guarded E.nt ops.toList sl o.guard k' = k' go kn) : Region.wanted o (yielded ops a.tmps) = go := by
  have h := h (fun go _ => some [.bool go])
  unfold guarded at h
  unfold Region.wanted
  split at h
  · rename_i hg; rw [hg]; injection h with h; injection h with h; injection h
  · rename_i j b hg
    rw [hg]
    simp only
    split at h
    · cases h
    · rename_i oj hj
      rw [Array.getElem?_toList] at hj
      split at h
      · cases h
      · rename_i d hd
        have hy : yielded ops a.tmps j = match a.tmps[d]? with | some (.bool b) => some b | _ => none := by
          simp only [yielded, hj, Option.bind_some, hd]
          cases a.tmps[d]? with
          | none => rfl
          | some x => cases x <;> rfl
        split at h
        · rename_i t ht
          have hlt : Nat.blt d E.nt = true := by
            cases hb : Nat.blt d E.nt with
            | true => rfl
            | false => simp [look, hb] at ht
          have hd' : d < a.tmps.size := by rw [sz]; exact Nat.blt_eq.mp hlt
          have hx := tm d _ (Array.getElem?_eq_getElem hd')
          simp only [look, hlt, cond_true] at ht
          rw [ht] at hx
          have hx' : a.tmps[d] = .bool t := hx
          rw [Array.getElem?_eq_getElem hd', hx'] at hy
          simp only at hy
          rw [hy]
          cases t <;> simp only [cond_true, cond_false] at h <;> injection h with h <;> injection h with h <;> injection h with h <;> subst h <;> cases b <;> rfl
        · rename_i ht
          injection h with h; injection h with h; injection h with h
          subst h
          have : yielded ops a.tmps j = none := by
            rw [hy]
            by_cases hd' : d < a.tmps.size
            · have hx := tm d _ (Array.getElem?_eq_getElem hd')
              have hlt : Nat.blt d E.nt = true := Nat.blt_eq.mpr (by rw [← sz]; exact hd')
              simp only [look, hlt, cond_true] at ht
              rw [ht] at hx
              have hx' : a.tmps[d] = Go.undef := hx
              rw [Array.getElem?_eq_getElem hd', hx']; rfl
            · rw [Array.getElem?_eq_none (Nat.le_of_not_lt hd')]
          rw [this]; rfl
        · cases h
theorem guarded_spec (sm : Sim E w0 M A s a w) {ops : Array Oper} {k : Bool → Option (Nat × Nat × Bool) → Ans} (h : guarded E.nt ops.toList s.sl o.guard k = some ans) :
  ∃ go kn, k go kn = some ans ∧ s.knows kn = s ∧ Region.wanted o (yielded ops a.tmps) = go := by
 obtain ⟨go, kn, h1, h2, h3⟩ := guarded_det h
 exact ⟨go, kn, h1, h2.st, guarded_tm sm.tm sm.sz h3⟩
theorem runOps_sound (hT : ∀ t i, E.T t = some i → TyOK P E t i) (hG : ∀ g c, c ∈ E.G g → Valid P E g c) (hM : ∀ g c, c ∈ E.M g → MValid P E g c) {ops : Array Oper} {Q : Exit → Act → World → Prop} : ∀ {os : List Oper} {A : Asg} {s : St} {a : Act} {w : World} {k : St → Ans},
  Sim E w0 M A s a w → runOps E ops.toList os s k = some ans → (∀ s' a' w' A', k s' = some ans → Sim E w0 M A' s' a' w' → A'.Z = A.Z → Q .normal a' w') → wpList P ops Q os a w := by
 intro os
 induction os with
 | nil => intro A s a w k sm h hQ; exact hQ s a w A h sm rfl
 | cons o os ih =>
  intro A s a w k sm h hQ
  simp only [runOps] at h
  refine wpList_step fun Kn hK => ?_
  obtain ⟨go, kn, h2, hkn, h1⟩ := guarded_spec sm h
  rw [hkn] at h2
  cases go <;> simp only [cond_true, cond_false] at h2
  case true =>
   rw [if_pos h1]
   obtain ⟨v, s', g1, g2⟩ := evalO_sound hT hG hM sm h2
   refine g2 Kn Q fun cv w' A' q1 q2 q3 => hK _ _ (ih (q1.put q2) g1 fun s'' a'' w'' A'' e1 e2 e3 => hQ s'' a'' w'' A'' e1 e2 (e3.trans q3))
  case false =>
   rw [if_neg (by simp [h1])]
   exact hK _ _ (ih (sm.put (v := .undef) (cv := undef) rfl) h2 hQ)
end
end Go.DM
set_option linter.unusedSectionVars false
namespace Go.DM
def Asg.ren (A : Asg) (m : List Nat) : Asg :=
  { v := fun j => A.v (m.getD j 0), N := fun j b => ∃ r, m[j]? = some r ∧ A.N r b, al := fun j => ∃ r, m[j]? = some r ∧ A.al r, Z := A.Z }
theorem idx_spec {r : Nat} : ∀ {m : List Nat} {i j : Nat}, idx r m i = some j → i ≤ j ∧ m[j - i]? = some r
  | [], i, j, h => by cases h
  | a :: m, i, j, h => by
    simp only [idx] at h
    cases hb : Nat.beq a r <;> simp only [hb, cond_true, cond_false] at h
    · obtain ⟨h1, h2⟩ := idx_spec h
      refine ⟨by omega, ?_⟩
      rw [show j - i = (j - (i + 1)) + 1 by omega]; simpa using h2
    · injection h with h
      subst h
      exact ⟨Nat.le_refl _, by simp [Nat.eq_of_beq_eq_true hb]⟩
theorem idx_none {r : Nat} : ∀ {m : List Nat} {i : Nat}, idx r m i = none → r ∉ m
  | [], i, h => by simp
  | a :: m, i, h => by
    simp only [idx] at h
    cases hb : Nat.beq a r <;> simp only [hb, cond_true, cond_false] at h
    · have := idx_none h
      simp only [List.mem_cons, not_or]
      exact ⟨fun e => by subst e; simp at hb, this⟩
    · cases h
def Pre (m m' : List Nat) : Prop := (∀ (j r : Nat), m[j]? = some r → m'[j]? = some r) ∧ (m.Nodup → m'.Nodup) ∧ m.length ≤ m'.length
theorem Pre.refl (m : List Nat) : Pre m m := ⟨fun _ _ h => h, id, Nat.le_refl _⟩
theorem Pre.trans {a b c : List Nat} (h : Pre a b) (k : Pre b c) : Pre a c := ⟨fun j r e => k.1 j r (h.1 j r e), fun n => k.2.1 (h.2.1 n), Nat.le_trans h.2.2 k.2.2⟩
section
variable {ans : List L}
theorem canonR_spec {r : Nat} {m : List Nat} {k : Nat → List Nat → Ans} (h : canonR r m k = some ans) : ∃ j m', k j m' = some ans ∧ Pre m m' ∧ m'[j]? = some r := by
  unfold canonR at h
  split at h
  · rename_i j hj
    have := (idx_spec hj).2
    exact ⟨j, m, h, Pre.refl m, by simpa using this⟩
  · rename_i hj
    have hn := idx_none hj
    refine ⟨_, _, h, ⟨fun j r' e => ?_, fun hd => ?_, by simp⟩, by simp⟩
    · rw [List.getElem?_append_left (List.getElem?_eq_some_iff.1 e).1]; exact e
    · rw [List.nodup_append]
      refine ⟨hd, by simp, fun a ha b hb => ?_⟩
      simp at hb; subst hb
      rintro rfl; exact hn ha
variable {T : Nat → List K} {w w0 : World} {np : Nat} {M : Mem np} {A : Asg}
theorem ren_N {m : List Nat} {j r b : Nat} (h : m[j]? = some r) (hb : A.N r b) : (A.ren m).N j b := ⟨r, h, hb⟩
theorem ren_zone {m : List Nat} {b : Nat} (h : Zone w A b) : Zone w (A.ren m) b := ⟨h.1, h.2.1, fun _ ⟨r, _, hn⟩ => h.2.2 r hn⟩
theorem ren_zoneOf {m : List Nat} {j r b : Nat} (hj : m[j]? = some r) (h : ZoneOf w A (some r) b) : ZoneOf w (A.ren m) (some j) b := h.imp (ren_N hj) ren_zone
theorem ren_v {m : List Nat} {j r : Nat} (h : m[j]? = some r) : (A.ren m).v j = A.v r := by simp [Asg.ren, List.getD_eq_getElem?_getD, h]
theorem ren_al {m : List Nat} {j r : Nat} (h : m[j]? = some r) (ha : A.al r) : (A.ren m).al j := ⟨r, h, ha⟩
theorem canonL_spec {v : V} {m : List Nat} {k : V → List Nat → Ans} (h : canonL v m k = some ans) :
  ∃ v' m', k v' m' = some ans ∧ Pre m m' ∧ ∀ {mf : List Nat}, Pre m' mf → ∀ {T : Nat → List K} {w : World} {A : Asg} {x : Value}, V0 T w A v x → V0 T w (A.ren mf) v' x := by
 cases v with
 | own r =>
  obtain ⟨j, m', h1, h2, h3⟩ := canonR_spec h
  exact ⟨_, _, h1, h2, fun {mf} hp {T w A x} hv => ⟨ren_al (hp.1 _ _ h3) hv.1, by rw [ren_v (hp.1 _ _ h3)]; exact hv.2.1, hv.2.2⟩⟩
 | sl d e xs =>
  cases d with
  | none => exact ⟨_, _, h, Pre.refl m, fun {mf} hp {T w A x} hv => ⟨fun r hr => (nomatch hr), hv.2.mono fun b hb => ren_zone hb⟩⟩
  | some r =>
   obtain ⟨j, m', h1, h2, h3⟩ := canonR_spec h
   exact ⟨_, _, h1, h2, fun {mf} hp {T w A x} hv => ⟨fun q hq => by injection hq with hq; subst hq; exact ren_al (hp.1 _ _ h3) (hv.1 r rfl), hv.2.mono fun b hb => ren_zoneOf (hp.1 _ _ h3) hb⟩⟩
 | lit r a b =>
  obtain ⟨j, m', h1, h2, h3⟩ := canonR_spec h
  exact ⟨_, _, h1, h2, fun {mf} hp {T w A x} hv => by
   obtain ⟨ha, g, e1, e2⟩ := hv
   exact ⟨ren_al (hp.1 _ _ h3) ha, g, by rw [ren_v (hp.1 _ _ h3)]; exact e1, e2⟩⟩
 | bptr r o =>
  obtain ⟨j, m', h1, h2, h3⟩ := canonR_spec h
  exact ⟨_, _, h1, h2, fun {mf} hp {T w A x} hv => by
   obtain ⟨ha, g, e1, e2⟩ := hv
   exact ⟨ren_al (hp.1 _ _ h3) ha, g, by rw [ren_v (hp.1 _ _ h3)]; exact e1, e2⟩⟩
 | eptr r a i o =>
  obtain ⟨j, m', h1, h2, h3⟩ := canonR_spec h
  exact ⟨_, _, h1, h2, fun {mf} hp {T w A x} hv => by
   obtain ⟨ha, g, n, c, e1, e2⟩ := hv
   exact ⟨ren_al (hp.1 _ _ h3) ha, g, n, c, by rw [ren_v (hp.1 _ _ h3)]; exact e1, e2⟩⟩
 | cptr d a b c =>
  cases d with
  | none => exact ⟨_, _, h, Pre.refl m, fun {mf} hp {T w A x} hv => by
    obtain ⟨ha, b, p, vv, h1, h2, h3⟩ := hv
    exact ⟨fun r hr => (nomatch hr), b, p, vv, h1, ren_zone h2, fun j k hj => ⟨(h3 j k hj).1, (h3 j k hj).2.mono fun b hb => ren_zone hb⟩⟩⟩
  | some r =>
   obtain ⟨j, m', h1, h2, h3⟩ := canonR_spec h
   exact ⟨_, _, h1, h2, fun {mf} hp {T w A x} hv => by
    obtain ⟨ha, b, p, vv, e1, e2, e3⟩ := hv
    exact ⟨fun q hq => by injection hq with hq; subst hq; exact ren_al (hp.1 _ _ h3) (ha r rfl), b, p, vv, e1, ren_zoneOf (hp.1 _ _ h3) e2, fun j k hj => ⟨(e3 j k hj).1, (e3 j k hj).2.mono fun b hb => ren_zoneOf (hp.1 _ _ h3) hb⟩⟩⟩
 | inn r a i o e =>
  obtain ⟨j, m', h1, h2, h3⟩ := canonR_spec h
  exact ⟨_, _, h1, h2, fun {mf} hp {T w A x} hv => by
   obtain ⟨ha, g, n, c, e1, e2, e3, e4⟩ := hv
   exact ⟨ren_al (hp.1 _ _ h3) ha, g, n, c, by rw [ren_v (hp.1 _ _ h3)]; exact e1, e2, ren_N (hp.1 _ _ h3) e3, e4⟩⟩
 | undef => exact ⟨_, _, h, Pre.refl m, fun {mf} hp {T w A x} hv => hv⟩
 | dead => exact ⟨_, _, h, Pre.refl m, fun {mf} hp {T w A x} hv => hv⟩
 | int => exact ⟨_, _, h, Pre.refl m, fun {mf} hp {T w A x} hv => hv⟩
 | bool => exact ⟨_, _, h, Pre.refl m, fun {mf} hp {T w A x} hv => hv⟩
 | str => exact ⟨_, _, h, Pre.refl m, fun {mf} hp {T w A x} hv => hv⟩
 | nil => exact ⟨_, _, h, Pre.refl m, fun {mf} hp {T w A x} hv => hv⟩
 | fn => exact ⟨_, _, h, Pre.refl m, fun {mf} hp {T w A x} hv => hv.elim⟩
 | agg => exact ⟨_, _, h, Pre.refl m, fun {mf} hp {T w A x} hv => hv.elim⟩
 | tup => exact ⟨_, _, h, Pre.refl m, fun {mf} hp {T w A x} hv => hv.elim⟩
theorem canonLs_spec : ∀ {vs : List V} {m : List Nat} {k : List V → List Nat → Ans}, canonLs vs m k = some ans →
    ∃ vs' m', k vs' m' = some ans ∧ Pre m m' ∧ ∀ {mf : List Nat}, Pre m' mf → ∀ {T : Nat → List K} {w : World} {A : Asg} {xs : List Value}, (F2 (V0 T w A) vs xs → F2 (V0 T w (A.ren mf)) vs' xs) ∧ (F2 (Vc T w A) vs xs → F2 (Vc T w (A.ren mf)) vs' xs)
  | [], m, k, h => ⟨_, _, h, Pre.refl m, fun {mf} _ {T w A xs} => ⟨fun hf => by cases hf; exact .nil, fun hf => by cases hf; exact .nil⟩⟩
  | v :: vs, m, k, h => by
    simp only [canonLs] at h
    obtain ⟨v', m1, h1, h2, h3⟩ := canonL_spec h
    obtain ⟨vs', m2, g1, g2, g3⟩ := canonLs_spec h1
    refine ⟨_, _, g1, h2.trans g2, fun {mf} hp {T w A xs} => ⟨fun hf => ?_, fun hf => ?_⟩⟩
    · cases hf with
      | cons ha ht => exact .cons (h3 (g2.trans hp) ha) ((g3 hp).1 ht)
    · cases hf with
      | cons ha ht => exact .cons ⟨h3 (g2.trans hp) ha.1, ha.2⟩ ((g3 hp).2 ht)
theorem canonV_spec {v : V} {m : List Nat} {k : V → List Nat → Ans} (h : canonV v m k = some ans) :
  ∃ v' m', k v' m' = some ans ∧ Pre m m' ∧ ∀ {mf : List Nat}, Pre m' mf → ∀ {T : Nat → List K} {w : World} {A : Asg} {x : Value}, V2 T w A v x → V2 T w (A.ren mf) v' x := by
 have leaf : ∀ {v : V}, (∀ {T : Nat → List K} {w : World} {A : Asg} {x : Value}, V2 T w A v x → V0 T w A v x) → canonL v m k = some ans →
   ∃ v' m', k v' m' = some ans ∧ Pre m m' ∧ ∀ {mf : List Nat}, Pre m' mf → ∀ {T : Nat → List K} {w : World} {A : Asg} {x : Value}, V2 T w A v x → V2 T w (A.ren mf) v' x := by
  intro v hv h
  obtain ⟨v', m', h1, h2, h3⟩ := canonL_spec h
  exact ⟨v', m', h1, h2, fun {mf} hp {T w A x} hx => V0.v2 (h3 hp (hv hx))⟩
 cases v with
 | tup vs => exact ⟨_, _, h, Pre.refl m, fun {mf} hp {T w A x} _ => trivial⟩
 | agg cs =>
  obtain ⟨vs', m', h1, h2, h3⟩ := canonLs_spec (k := fun cs m => k (.agg cs) m) h
  refine ⟨_, _, h1, h2, fun {mf} hp {T w A x} hx => ?_⟩
  obtain ⟨l, e1, e2⟩ := (show V1 T w A (.agg cs) x from hx)
  exact V1.v2 (v := .agg _) ⟨l, e1, (h3 hp).2 e2⟩
 | fn f cs =>
  obtain ⟨vs', m', h1, h2, h3⟩ := canonLs_spec (k := fun cs m => k (.fn f cs) m) h
  refine ⟨_, _, h1, h2, fun {mf} hp {T w A x} hx => ?_⟩
  obtain ⟨l, e1, e2⟩ := (show V1 T w A (.fn f cs) x from hx)
  exact V1.v2 (v := .fn _ _) ⟨l, e1, (h3 hp).1 e2⟩
 | undef => exact leaf (fun h => h) h
 | dead => exact leaf (fun h => h) h
 | int => exact leaf (fun h => h) h
 | bool => exact leaf (fun h => h) h
 | str => exact leaf (fun h => h) h
 | nil => exact leaf (fun h => h) h
 | sl => exact leaf (fun h => h) h
 | own => exact leaf (fun h => h) h
 | lit => exact leaf (fun h => h) h
 | bptr => exact leaf (fun h => h) h
 | inn => exact leaf (fun h => h) h
 | eptr => exact leaf (fun h => h) h
 | cptr => exact leaf (fun h => h) h
theorem canonVs_spec : ∀ {vs : List V} {m : List Nat} {k : List V → List Nat → Ans}, canonVs vs m k = some ans →
  ∃ vs' m', k vs' m' = some ans ∧ Pre m m' ∧ vs'.length = vs.length ∧ ∀ {mf : List Nat}, Pre m' mf → ∀ {T : Nat → List K} {w : World} {A : Asg} {j : Nat} {v : V} {x : Value}, vs[j]? = some v → V2 T w A v x → ∃ v', vs'[j]? = some v' ∧ V2 T w (A.ren mf) v' x
 | [], m, k, h => ⟨_, _, h, Pre.refl m, rfl, fun {mf} _ {T w A j v x} hj => by simp at hj⟩
 | v :: vs, m, k, h => by
  simp only [canonVs] at h
  obtain ⟨v', m1, h1, h2, h3⟩ := canonV_spec h
  obtain ⟨vs', m2, g1, g2, gl, g3⟩ := canonVs_spec h1
  refine ⟨_, _, g1, h2.trans g2, by simp [gl], fun {mf} hp {T w A j u x} hj hx => ?_⟩
  cases j with
  | zero =>
   simp at hj
   subst hj
   exact ⟨v', rfl, h3 (g2.trans hp) hx⟩
  | succ j => exact g3 hp (by simpa using hj) hx
theorem canonH_spec {hp : Nat → Root} : ∀ {n j : Nat} {m : List Nat} {k : List Root → Ans}, j ≤ m.length → canonH hp n j m k = some ans →
    ∃ h mf, k h = some ans ∧ Pre m mf ∧ h.length + j = mf.length ∧ ∀ {i r : Nat}, mf[j + i]? = some r → ∃ o', h[i]? = some o' ∧ (hp r = .dead → o' = .dead) ∧ ∀ {T : Nat → List K} {w : World} {A : Asg}, mf.Nodup → RootOK T w A r (hp r) → RootOK T w (A.ren mf) (j + i) o'
  | 0, j, m, k, _, h => by cases h
  | n + 1, j, m, k, hjm, h => by
    simp only [canonH] at h
    split at h
    · rename_i hj
      have : m.length ≤ j := List.getElem?_eq_none_iff.1 hj
      refine ⟨_, m, h, Pre.refl m, by simp; omega, fun {i r} hi => ?_⟩
      rw [List.getElem?_eq_none (by omega)] at hi; cases hi
    · rename_i r hr
      have hjl : j < m.length := (List.getElem?_eq_some_iff.1 hr).1
      have other : ∀ {o : Root}, hp r = o → (∀ cs, o ≠ .box cs) → (canonH hp n (j + 1) m fun h => k (closeR o :: h)) = some ans →
          ∃ h mf, k h = some ans ∧ Pre m mf ∧ h.length + j = mf.length ∧ ∀ {i r : Nat}, mf[j + i]? = some r → ∃ o', h[i]? = some o' ∧ (hp r = .dead → o' = .dead) ∧ ∀ {T : Nat → List K} {w : World} {A : Asg}, mf.Nodup → RootOK T w A r (hp r) → RootOK T w (A.ren mf) (j + i) o' := by
        intro o ho hnb h
        obtain ⟨hh, mf, g1, g2, g3, g4⟩ := canonH_spec (j := j + 1) (by omega) h
        refine ⟨_, mf, g1, g2, by simp; omega, fun {i q} hi => ?_⟩
        cases i with
        | zero =>
          have hq : q = r := by
            have := g2.1 j r hr
            rw [Nat.add_zero] at hi; rw [this] at hi; injection hi with hi; exact hi.symm
          subst hq
          refine ⟨closeR o, rfl, fun e => by rw [← ho, e]; rfl, fun {T w A} _ hok => ?_⟩
          rw [ho] at hok
          have hjq : mf[j]? = some q := g2.1 j q hr
          cases o with
          | box cs => exact (hnb cs rfl).elim
          | dead =>
            rintro b ⟨p, hp1, hp2⟩
            rw [Nat.add_zero, hjq] at hp1; injection hp1 with hp1; subst hp1
            exact hok b hp2
          | row e xs =>
            refine ⟨ren_al hjq hok.1, ?_⟩
            rw [Nat.add_zero, ren_v hjq]
            exact hok.2.mono fun b hb => ren_N hjq hb
          | opn e xs i cs =>
            refine ⟨ren_al hjq hok.1, ?_⟩
            rw [Nat.add_zero, ren_v hjq]
            exact hok.2.2.mono fun b hb => ren_N hjq hb
          | hol e xs i p =>
            refine ⟨ren_al hjq hok.1, hok.2.1, ?_⟩
            rw [Nat.add_zero, ren_v hjq]
            exact hok.2.2.move (fun _ _ => rfl) fun b hb => ren_N hjq hb
        | succ i =>
          have := g4 (i := i) (r := q) (by rw [show j + 1 + i = j + (i + 1) by omega]; exact hi)
          rw [show j + 1 + i = j + (i + 1) by omega] at this
          exact this
      split at h
      · rename_i cs hcs
        obtain ⟨cs', m1, h1, h2, h3⟩ := canonLs_spec h
        have hr1 := h2.1 j r hr
        obtain ⟨hh, mf, g1, g2, g3, g4⟩ := canonH_spec (j := j + 1) (by have := h2.2.2; omega) h1
        refine ⟨_, mf, g1, h2.trans g2, by simp; omega, fun {i q} hi => ?_⟩
        cases i with
        | zero =>
          have hjr := g2.1 j r hr1
          have hq : q = r := by rw [Nat.add_zero, hjr] at hi; injection hi with hi; exact hi.symm
          subst hq
          refine ⟨_, rfl, fun e => (by rw [e] at hcs; cases hcs), fun {T w A} hnd hok => ?_⟩
          rw [hcs] at hok
          obtain ⟨ha, g, te, cur, e1, e2, e3, e4⟩ := hok
          refine ⟨ren_al hjr ha, g, te, cur, by rw [Nat.add_zero, ren_v hjr]; exact e1, fun b => ?_, e3, (h3 g2).2 e4⟩
          constructor
          · rintro ⟨p, hp1, hp2⟩
            rw [Nat.add_zero, hjr] at hp1; injection hp1 with hp1; subst hp1
            exact (e2 b).1 hp2
          · intro hb; exact ⟨q, hjr, (e2 b).2 hb⟩
        | succ i =>
          have := g4 (i := i) (r := q) (by rw [show j + 1 + i = j + (i + 1) by omega]; exact hi)
          rw [show j + 1 + i = j + (i + 1) by omega] at this
          exact this
      · rename_i hnb
        exact other rfl (fun cs he => hnb cs he) h
theorem lookH_get : ∀ {h : List Root} {i : Nat} {o : Root}, h[i]? = some o → lookH h i = o
 | [], i, o, h => by simp at h
 | r :: rs, 0, o, h => by simp at h; exact h
 | r :: rs, i + 1, o, h => lookH_get (h := rs) (i := i) (by simpa using h)
theorem lookH_none : ∀ {h : List Root} {i : Nat}, h.length ≤ i → lookH h i = .dead
 | [], i, h => rfl
 | r :: rs, 0, h => by simp at h
 | r :: rs, i + 1, h => lookH_none (h := rs) (i := i) (by simpa using h)
theorem upTo_length : ∀ n, (upTo n).length = n
 | 0 => rfl
 | n + 1 => by simp [upTo, upTo_length n]
theorem upTo_get : ∀ {n j : Nat}, j < n → (upTo n)[j]? = some j
  | 0, j, h => by omega
  | n + 1, j, h => by
    simp only [upTo]
    by_cases hj : j < n
    · rw [List.getElem?_append_left (by rw [upTo_length]; exact hj)]; exact upTo_get hj
    · have : j = n := by omega
      subst this
      rw [List.getElem?_append_right (by rw [upTo_length]; exact Nat.le_refl _), upTo_length]; simp
theorem upTo_lt : ∀ {n x : Nat}, x ∈ upTo n → x < n
  | 0, x, h => by simp [upTo] at h
  | n + 1, x, h => by
    simp only [upTo, List.mem_append, List.mem_singleton] at h
    rcases h with h | h
    · have := upTo_lt h; omega
    · omega
theorem upTo_nodup : ∀ n, (upTo n).Nodup
 | 0 => by simp [upTo]
 | n + 1 => by
  simp only [upTo]
  rw [List.nodup_append]
  exact ⟨upTo_nodup n, by simp, fun a ha b hb => by simp at hb; have := upTo_lt ha; omega⟩
theorem lookS_get : ∀ {live : Live} {vs : List V} {i : Nat}, lookS live vs i = .dead ∨ ∃ (j : Nat) (e : Option Nat) (v : V), live[j]? = some (i, e) ∧ vs[j]? = some v ∧ lookS live vs i = v
  | [], vs, i => .inl (by cases vs <;> rfl)
  | (a, e) :: as, [], i => .inl rfl
  | (a, e) :: as, v :: vs, i => by
    simp only [lookS]
    cases hb : Nat.beq i a with
    | true =>
      obtain rfl := Nat.eq_of_beq_eq_true hb
      exact .inr ⟨0, e, v, rfl, rfl, rfl⟩
    | false =>
      rcases lookS_get (live := as) (vs := vs) (i := i) with h | ⟨j, e', v', h1, h2, h3⟩
      · exact .inl h
      · exact .inr ⟨j + 1, e', v', by simpa using h1, by simpa using h2, h3⟩
end
theorem nthV_nil : ∀ {vs : List V} {i : Nat}, nthV vs i = .nil → vs[i]? = some .nil
 | [], _, h => by cases h
 | v :: vs, 0, h => by simpa [nthV] using h
 | v :: vs, i + 1, h => by simpa using nthV_nil (vs := vs) (i := i) h
theorem F2.setAt {α β : Type} {R : α → β → Prop} {as : List α} {bs : List β} (h : F2 R as bs) : ∀ {i : Nat} {a : α} {b : β}, bs[i]? = some b → R a b → F2 R (setAt as i a) bs := by
 induction h with
 | nil => intro i a b hb; simp at hb
 | cons h ht ih =>
  intro i a b hb hr
  cases i with
  | zero => simp at hb; subst hb; exact .cons hr ht
  | succ i => exact .cons h (ih (by simpa using hb) hr)
section
variable {E : Env} {w0 w : World} {M : Mem E.np} {A : Asg} {s : St} {a : Act} {ans : List L}
theorem Sim.coerce (sm : Sim E w0 M A s a w) {t : Nat} {e : Option Nat} {k : St → Ans} (h : coerce E s t e k = some ans) :
    ∃ s' A', k s' = some ans ∧ Sim E w0 M A' s' a w ∧ A'.Z = A.Z := by
  have hh := sm.hp
  unfold DM.coerce at h
  split at h
  · exact ⟨s, A, h, sm, rfl⟩
  rename_i e
  have hnal : ¬ A.al s.nx := sm.nx _ (Nat.le_refl _)
  split at h
  · -- an empty slice
    rename_i hnil
    refine ⟨_, A.new s.nx (match a.tmps[t]? with | some x => x | none => .slice none 0 0) (fun _ => False), h, ?_, rfl⟩
    have hx : ∃ b, (match a.tmps[t]? with | some x => x | none => .slice none 0 0) = Value.slice b 0 0 := by
      cases ht : a.tmps[t]? with
      | none => exact ⟨_, rfl⟩
      | some x =>
        have := sm.tm t x ht
        rw [hnil] at this
        exact (show V0 E.cells w A .nil x from this)
    obtain ⟨b, hb⟩ := hx
    have st := Step.mkNew (w' := w) hh hnal (match a.tmps[t]? with | some x => x | none => .slice none 0 0) (fun _ => False) (fun _ h => h.elim) (Nat.le_refl _) (fun _ _ => rfl)
    refine ⟨Hp.mkNew hh hnal _ _ (fun _ h => h.elim) (Nat.le_refl _) (fun _ _ => rfl) hh.fr ⟨.inr rfl, ?_⟩, fun i x hx => ?_, fun r hr hal => ?_, sm.df, sm.sz⟩
    · simp only [Asg.new, upd_same, hb]
      exact .nil _ e b _ rfl
    · by_cases hi : i = t
      · subst hi
        simp only [upd_same]
        refine V0.v2 (v := .own s.nx) ⟨.inr rfl, by simp only [Asg.new, upd_same, hx], ?_⟩
        rw [hx] at hb
        exact ⟨b, 0, 0, hb⟩
      · simp only [upd_other _ _ hi]
        exact (sm.tm i x hx).step st hh (fun _ h => h)
    · rcases hal with hal | hal
      · exact sm.nx r (by have : s.nx + 1 ≤ r := hr; omega) hal
      · have : s.nx + 1 ≤ r := hr; omega
  · -- a literal
    rename_i r n e' hlit
    cases hb : (Nat.beq e e' && Nat.ble n 16777216) <;> simp only [hb, cond_true, cond_false] at h
    · cases h
    simp only [Bool.and_eq_true] at hb
    obtain rfl := Nat.eq_of_beq_eq_true hb.1
    have hn16 := Nat.le_of_ble_eq_true hb.2
    split at h
    · rename_i cs hbox
      obtain ⟨xs, hp1, c, f1, f2, fl, f3, f4, f5⟩ := takeRow_spec h
      have hroot := hh.rt r
      rw [hbox] at hroot
      obtain ⟨hal, g, te, cur, m1, m2, m3, m4⟩ := hroot
      have hne : s.hp r ≠ .dead := by rw [hbox]; simp
      have hall := f5 hh (Sub.one _ _) m4
      have t1 := (Took.one hne).trans f3
      have hnx : s.hp s.nx = .dead := hh.al _ hnal
      have hrn : r ≠ s.nx := fun e => hnal (e ▸ hal)
      let C : Nat → Prop := fun q => q = r ∨ ∃ i j, i < n ∧ j < (E.cells e).length ∧ c i j = some q
      have hC : ∀ q, C q → s.hp q ≠ .dead := fun q hq => t1.was q hq
      have hCn : ∀ q, C q → q ≠ s.nx := fun q hq en => hC q hq (en ▸ hnx)
      have sim : Sim E w0 M (A.gather s.nx (.slice (some ⟨g, 0, none⟩) n n) C (fun _ => False)) (s.moved (upd hp1 s.nx (.row e xs)) (some r) s.nx (s.nx + 1)) a w := by
        refine Sim.gather sm (fun q => ?_) (fun q hq => by injection hq with hq; subst hq; exact hal) (.inr rfl) (fun h => (hnal h).elim) (Nat.lt_succ_self _) (Nat.le_succ _) (fun q hq hc => ?_) (fun q hq hc => ?_) rfl rfl rfl (Nat.le_refl _) (fun _ _ _ => rfl) (fun _ h => h.elim) (fun q e' xs' hq hrw hd => ?_) (fun mv => ?_)
        · constructor
          · intro hc
            refine .inr ⟨hC q hc, ?_⟩
            rw [upd_other _ _ (hCn q hc)]; exact t1.now q hc
          · rintro (hq | hq)
            · injection hq with hq; exact .inl hq.symm
            · refine Classical.byContradiction fun hc => ?_
              by_cases hqn : q = s.nx
              · subst hqn; exact hq.1 hnx
              · have := hq.2; rw [upd_other _ _ hqn, t1.rest q hc] at this; exact hq.1 this
        · rw [upd_other _ _ hq]; exact t1.now q hc
        · rw [upd_other _ _ hq]; exact t1.rest q hc
        · injection hq with hq; subst hq; rw [hbox] at hrw; cases hrw
        · rw [upd_same]
          refine ⟨.inr rfl, ?_⟩
          have hv : (A.gather s.nx (.slice (some ⟨g, 0, none⟩) n n) C (fun _ => False)).v s.nx = .slice (some ⟨g, 0, none⟩) n n := by simp [Asg.gather, upd_same]
          have hN : ∀ q b, C q → A.N q b → (A.gather s.nx (.slice (some ⟨g, 0, none⟩) n n) C (fun _ => False)).N s.nx b := fun q b hq hb => .inl ⟨rfl, .inr ⟨q, hq, hb⟩⟩
          rw [hv]
          refine .sl _ e n n g te cur _ (fun i j => cur.toList.getD (i * (E.cells e).length + j) Go.undef) (fun i j p => i < n ∧ j < (E.cells e).length ∧ Foot A (c i j) p) f2 (Nat.le_refl _) (by simp only [maxLen]; omega) m3 (by rw [← fl, m4.length, Array.length_toList]) (hN r g (.inl rfl) ((m2 g).2 rfl)) (fun i j b hb => ?_) (fun i j i' j' b hb hb' => ?_) (fun i j kk hi hj => ?_) (fun i j kk hi hj => ?_)
          · obtain ⟨hi, hj, q, hq, hn⟩ := hb
            refine ⟨hN q b (.inr ⟨i, j, hi, hj, hq⟩) hn, fun eb => ?_⟩
            have hw := f3.was q ⟨i, j, hi, hj, hq⟩
            have : q = r := hh.dj q r b hn ((m2 b).2 eb)
            rw [this, upd_same] at hw; exact hw rfl
          · obtain ⟨_, _, q, hq, hn⟩ := hb
            obtain ⟨_, _, q', hq', hn'⟩ := hb'
            rw [hh.dj q q' b hn hn'] at hq
            exact f4 _ _ _ _ _ hq hq'
          · obtain ⟨y', y1, _, _⟩ := hall i j kk hi hj
            rw [← Array.getElem?_toList, y1]
            simp only [List.getD_eq_getElem?_getD, y1]; rfl
          · obtain ⟨y', y1, _, y3⟩ := hall i j kk hi hj
            have hy' : cur.toList.getD (i * (E.cells e).length + j) Go.undef = y' := by simp only [List.getD_eq_getElem?_getD, y1]; rfl
            show Own E.cells w _ kk (cur.toList.getD (i * (E.cells e).length + j) Go.undef) _
            rw [hy']
            exact y3.mono fun b hb => ⟨hi, (List.getElem?_eq_some_iff.1 hj).1, hb⟩
      refine ⟨_, _, f1, ⟨sim.hp, fun i x hx => ?_, sim.nx, sim.df, sim.sz⟩, rfl⟩
      by_cases hi : i = t
      · subst hi
        simp only [upd_same]
        have := sm.tm i x hx
        rw [hlit] at this
        obtain ⟨_, g', e1, rfl⟩ := (show V0 E.cells w A (.lit r n e) x from this)
        obtain rfl : g = g' := by rw [e1] at m1; injection m1 with m1; injection m1 with m1; injection m1 with m1; exact m1.symm
        exact V0.v2 (v := .own s.nx) ⟨.inr rfl, by simp [Asg.gather, upd_same], _, _, _, rfl⟩
      · simp only [upd_other _ _ hi]
        exact sim.tm i x hx
    · cases h
  · -- an empty slice in a variable
    rename_i r q hbp
    split at h
    · rename_i cs hcs
      split at h
      · rename_i hnil
        have hget := nthV_nil hnil
        have hroot := hh.rt r
        rw [hcs] at hroot
        obtain ⟨ha, g, te, cur, m1, m2, m3, m4⟩ := hroot
        obtain ⟨x, hx, ⟨b, rfl⟩, hone⟩ := m4.get hget
        have hrn : r ≠ s.nx := fun e => hnal (e ▸ ha)
        have st := Step.mkNew (w' := w) hh hnal (Value.slice b 0 0) (fun _ => False) (fun _ h => h.elim) (Nat.le_refl _) (fun _ _ => rfl)
        have h1 : Hp E.cells w0 M (A.new s.nx (Value.slice b 0 0) (fun _ => False)) (upd s.hp s.nx (.row (e % 1048576) [])) w := Hp.mkNew hh hnal _ _ (fun _ h => h.elim) (Nat.le_refl _) (fun _ _ => rfl) hh.fr ⟨.inr rfl, by simp only [Asg.new, upd_same]; exact .nil _ _ b _ rfl⟩
        refine ⟨_, A.new s.nx (.slice b 0 0) (fun _ => False), h, ⟨⟨h1.lt, h1.dj, fun p hp => ?_, fun p => ?_, h1.fr, h1.nm, h1.zf, h1.pn⟩, fun i x hx => (sm.tm i x hx).step st hh (fun _ h => h), fun p hp hal => ?_, sm.df, sm.sz⟩, rfl⟩
        · have h2 := h1.al p hp
          have hp1 : p ≠ s.nx := fun e => hp (.inr e)
          have hp2 : p ≠ r := fun e => hp (.inl (e ▸ ha))
          simp only [upd_other _ _ hp1] at h2 ⊢
          rw [upd_other _ _ hp2]; exact h2
        · have h2 := h1.rt p
          by_cases hp1 : p = s.nx
          · subst hp1
            simp only [upd_same] at h2 ⊢
            exact h2
          · simp only [upd_other _ _ hp1] at h2 ⊢
            by_cases hp2 : p = r
            · subst hp2
              rw [hcs] at h2
              rw [upd_same]
              obtain ⟨ha', g', te', cur', n1, n2, n3, n4⟩ := h2
              have hg : g = g' := by
                have : (A.new s.nx (Value.slice b 0 0) (fun _ => False)).v p = A.v p := upd_other _ _ hrn
                rw [this, m1] at n1; injection n1 with n1; injection n1 with n1; injection n1
              subst hg
              rw [m3] at n3
              injection n3 with n3
              injection n3 with n3
              subst n3
              refine ⟨ha', g, te, cur, n1, n2, m3, n4.setAt hx ⟨⟨.inr rfl, by simp only [Asg.new, upd_same], b, 0, 0, rfl⟩, hone⟩⟩
            · rw [upd_other _ _ hp2]; exact h2
        · rcases hal with hal | hal
          · exact sm.nx p (by have : s.nx + 1 ≤ p := hp; omega) hal
          · have : s.nx + 1 ≤ p := hp; omega
      · exact ⟨s, A, h, sm, rfl⟩
    · exact ⟨s, A, h, sm, rfl⟩
  · exact ⟨s, A, h, sm, rfl⟩
theorem Sim.coerces : ∀ {l : Live} {A : Asg} {s : St} {k : St → Ans}, Sim E w0 M A s a w → coerces E l s k = some ans → ∃ s' A', k s' = some ans ∧ Sim E w0 M A' s' a w ∧ A'.Z = A.Z
 | [], A, s, k, sm, h => ⟨s, A, h, sm, rfl⟩
 | (t, e) :: l, A, s, k, sm, h => by
  simp only [DM.coerces] at h
  obtain ⟨s1, A1, h1, h2, h3⟩ := sm.coerce h
  obtain ⟨s2, A2, g1, g2, g3⟩ := Sim.coerces h2 h1
  exact ⟨s2, A2, g1, g2, g3.trans h3⟩
theorem canon_sound (sm : Sim E w0 M A s a w) {live : Live} {k : List V → List Root → Ans} (h : canon E live s k = some ans) :
    ∃ vs hs A', k vs hs = some ans ∧ Sim E w0 M A' (stOf live vs hs) a w ∧ A'.Z = A.Z := by
  unfold canon at h
  obtain ⟨s1, A1, h1, h2, h3⟩ := sm.coerces h
  obtain ⟨vs, m, g1, g2, gl, g3⟩ := canonVs_spec h1
  obtain ⟨hs, mf, f1, f2, f3, f4⟩ := canonH_spec (Nat.zero_le _) g1
  have hnd : mf.Nodup := f2.2.1 (g2.2.1 (upTo_nodup _))
  have hh := h2.hp
  have hget : ∀ j r, mf[j]? = some r → lookH hs j = .dead ∨ RootOK E.cells w (A1.ren mf) j (lookH hs j) := by
    intro j r hj
    obtain ⟨o', e1, _, e2⟩ := f4 (i := j) (r := r) (by rw [Nat.zero_add]; exact hj)
    rw [lookH_get e1]
    have := e2 hnd (hh.rt r)
    rw [Nat.zero_add] at this
    exact .inr this
  refine ⟨vs, hs, A1.ren mf, f1, ⟨⟨fun r b hb => ?_, fun r q b hb hb' => ?_, fun r hr => ?_, fun r => ?_, hh.fr, fun r b hb => ?_, hh.zf, fun j hj => ?_⟩, fun i x hx => ?_, fun r hr hal => ?_, h2.df, h2.sz⟩, h3⟩
  · obtain ⟨q, _, hn⟩ := hb; exact hh.lt q b hn
  · obtain ⟨p, hp, hn⟩ := hb
    obtain ⟨p', hp', hn'⟩ := hb'
    have := hh.dj p p' b hn hn'
    subst this
    have h1 := (List.getElem?_eq_some_iff.1 hp).1
    exact (List.getElem?_inj h1 hnd).1 (hp.trans hp'.symm)
  · by_cases hl : r < mf.length
    · have hr' : mf[r]? = some mf[r] := List.getElem?_eq_getElem hl
      obtain ⟨o', e1, e3, e2⟩ := f4 (i := r) (r := mf[r]) (by rw [Nat.zero_add]; exact hr')
      show lookH hs r = .dead
      rw [lookH_get e1]
      exact e3 (hh.al _ fun ha => hr ⟨_, hr', ha⟩)
    · exact lookH_none (by omega)
  · show RootOK E.cells w (A1.ren mf) r (lookH hs r)
    by_cases hl : r < mf.length
    · have hr' : mf[r]? = some mf[r] := List.getElem?_eq_getElem hl
      obtain ⟨o', e1, e3, e2⟩ := f4 (i := r) (r := mf[r]) (by rw [Nat.zero_add]; exact hr')
      rw [lookH_get e1]
      have := e2 hnd (hh.rt mf[r])
      rwa [Nat.zero_add] at this
    · rw [lookH_none (by omega)]
      rintro b ⟨q, hq, _⟩
      rw [List.getElem?_eq_none (by omega)] at hq; cases hq
  · obtain ⟨q, _, hn⟩ := hb; exact hh.nm q b hn
  · have hj' := f2.1 _ _ (g2.1 _ _ (upTo_get hj))
    exact ⟨ren_al hj' (hh.pn j hj).1, (ren_v hj').trans (hh.pn j hj).2⟩
  · show V2 E.cells w (A1.ren mf) (lookS live vs i) x
    rcases lookS_get (live := live) (vs := vs) (i := i) with hd | ⟨j, e, v, e1, e2, e3⟩
    · rw [hd]; exact trivial
    · rw [e3]
      have hj : (live.map fun x => s1.sl x.1)[j]? = some (s1.sl i) := by rw [List.getElem?_map, e1]; rfl
      obtain ⟨v', q1, q2⟩ := g3 f2 hj (h2.tm i x hx)
      rw [e2] at q1; injection q1 with q1; subst q1
      exact q2
  · obtain ⟨q, hq, _⟩ := hal
    have : hs.length ≤ r := hr
    rw [List.getElem?_eq_none (by omega)] at hq; cases hq
end
end Go.DM
set_option linter.unusedSectionVars false
namespace Go.DM
def HeadWp (P : Program) (c : Code) (Q : Exit → Act → World → Prop) (a : Act) (w : World) : Prop :=
 ∀ (b : Frame) (k : List Item) (cs : List Frame), ∃ e a' w', Q e a' w' ∧ Arrives P (lone (b.at a (.code c :: .inLoop c :: k)) cs w) b k cs e a' w'
section
variable {P : Program} {Q : Exit → Act → World → Prop} {a : Act} {w : World} {c : Code}
theorem wp_head (h : HeadWp P c Q a w) : (Code.loop c).wp P Q a w := fun b k cs =>
 let ⟨e, a', w', hq, harr⟩ := h b k cs
 ⟨e, a', w', hq, .of_steps (.one step_loop) harr⟩
theorem head_round (h : c.wp P (Exit.then (HeadWp P c Q) Q) a w) : HeadWp P c Q a w := by
 intro b k cs
 obtain ⟨e, a₁, w₁, hq, harr⟩ := h b (.inLoop c :: k) cs
 cases e with
 | normal =>
  obtain ⟨e₂, a₂, w₂, hq₂, harr₂⟩ := hq b k cs
  exact ⟨e₂, a₂, w₂, hq₂, .of_steps (Steps.trans harr (.one step_inLoop)) harr₂⟩
 | exit id => exact ⟨_, a₁, w₁, hq, .pass (x := .inLoop c) rfl (fun _ _ => .inl (by simp)) harr⟩
 | goto l => exact ⟨_, a₁, w₁, hq, .pass (x := .inLoop c) rfl (fun _ _ => .inl (by simp)) harr⟩
 | ret => exact ⟨_, a₁, w₁, hq, .pass (x := .inLoop c) rfl (fun _ _ => .inl (by simp)) harr⟩
 | panic ch => exact ⟨_, a₁, w₁, hq, .pass (x := .inLoop c) rfl (fun _ _ => .inl (by simp)) harr⟩
 | outgrown => exact ⟨_, a₁, w₁, hq, .pass (x := .inLoop c) rfl (fun _ _ => .inl (by simp)) harr⟩
end
def Ex.ex : Ex → Exit
 | .normal => .normal
 | .ret => .ret
 | .exit id => .exit id
def loopIds : Code → List Nat
 | .seq a b => loopIds a ++ loopIds b
 | .cond _ a b => loopIds a ++ loopIds b
 | .block _ b => loopIds b
 | .loop b => firstRegion b :: loopIds b
 | .scope a => loopIds a
 | _ => []
theorem hasLoop_iff {id : Nat} : ∀ {c : Code}, hasLoop id c = true ↔ id ∈ loopIds c
 | .seq a b => by simp [hasLoop, loopIds, hasLoop_iff (c := a), hasLoop_iff (c := b)]
 | .cond _ a b => by simp [hasLoop, loopIds, hasLoop_iff (c := a), hasLoop_iff (c := b)]
 | .block _ b => by simp [hasLoop, loopIds, hasLoop_iff (c := b)]
 | .loop b => by
  have : Nat.beq (firstRegion b) id = true ↔ id = firstRegion b := ⟨fun h => (Nat.eq_of_beq_eq_true h).symm, fun h => by subst h; exact Nat.beq_refl _⟩
  simp only [hasLoop, loopIds, Bool.or_eq_true, List.mem_cons, hasLoop_iff (c := b), this]
 | .skip => by simp [hasLoop, loopIds]
 | .region .. => by simp [hasLoop, loopIds]
 | .exit _ => by simp [hasLoop, loopIds]
 | .ret => by simp [hasLoop, loopIds]
 | .rangeFunc .. => by simp [hasLoop, loopIds]
 | .scope a => by simp [hasLoop, loopIds, hasLoop_iff (c := a)]
 | .label _ => by simp [hasLoop, loopIds]
 | .goto _ => by simp [hasLoop, loopIds]
 | .refuse _ => by simp [hasLoop, loopIds]
section
variable (P : Program) (E : Env) (w0 : World) (M : Mem E.np) (Z0 : Nat → Prop) (ans : List L)
def Deep (R : Nat → (Act → World → Prop) → Prop) : Code → (Exit → Act → World → Prop) → Prop
 | .seq x y, Q => Deep R x (Exit.then (y.wp P Q) Q) ∧ Deep R y Q
 | .cond _ x y, Q => Deep R x Q ∧ Deep R y Q
 | .block id b, Q => Deep R b (Exit.inBlock id Q)
 | .loop b, Q => R (firstRegion b) (HeadWp P b Q) ∧ Deep R b (Exit.then (HeadWp P b Q) Q)
 | .scope b, Q => Deep R b (Exit.noGoto Q)
 | _, _ => True
def HeadAt (id : Nat) : Code → (Exit → Act → World → Prop) → Act → World → Prop
 | .seq x y, Q, a, w => if hasLoop id x = true then HeadAt id x (Exit.then (y.wp P Q) Q) a w else HeadAt id y Q a w
 | .cond _ x y, Q, a, w => if hasLoop id x = true then HeadAt id x Q a w else HeadAt id y Q a w
 | .block j b, Q, a, w => HeadAt id b (Exit.inBlock j Q) a w
 | .loop b, Q, a, w => if Nat.beq (firstRegion b) id = true then HeadWp P b Q a w else HeadAt id b (Exit.then (HeadWp P b Q) Q) a w
 | .scope b, Q, a, w => HeadAt id b (Exit.noGoto Q) a w
 | _, _, _, _ => False
theorem Deep.mono {R R' : Nat → (Act → World → Prop) → Prop} : ∀ {c : Code} {Q : Exit → Act → World → Prop}, (∀ id ∈ loopIds c, ∀ H, R id H → R' id H) → Deep P R c Q → Deep P R' c Q
 | .seq x y, Q, h, hd => ⟨Deep.mono (fun id hi => h id (by simp [loopIds, hi])) hd.1, Deep.mono (fun id hi => h id (by simp [loopIds, hi])) hd.2⟩
 | .cond _ x y, Q, h, hd => ⟨Deep.mono (fun id hi => h id (by simp [loopIds, hi])) hd.1, Deep.mono (fun id hi => h id (by simp [loopIds, hi])) hd.2⟩
 | .block id b, Q, h, hd => Deep.mono (c := b) (Q := Exit.inBlock id Q) (fun id hi => h id (by simpa [loopIds] using hi)) hd
 | .loop b, Q, h, hd => ⟨h _ (by simp [loopIds]) _ hd.1, Deep.mono (fun id hi => h id (by simp [loopIds, hi])) hd.2⟩
 | .skip, _, _, _ => trivial
 | .region .., _, _, _ => trivial
 | .exit _, _, _, _ => trivial
 | .ret, _, _, _ => trivial
 | .rangeFunc .., _, _, _ => trivial
 | .scope b, Q, h, hd => Deep.mono (c := b) (Q := Exit.noGoto Q) (fun id hi => h id (by simpa [loopIds] using hi)) hd
 | .label _, _, _, _ => trivial
 | .goto _, _, _, _ => trivial
 | .refuse _, _, _, _ => trivial
theorem deep_head : ∀ {c : Code} {Q : Exit → Act → World → Prop}, (loopIds c).Nodup → Deep P (fun id H => ∀ a w, HeadAt P id c Q a w → H a w) c Q
  | .seq x y, Q, h => by
    simp only [loopIds, List.nodup_append] at h
    refine ⟨Deep.mono P (fun id hi H hH a w hA => hH a w ?_) (deep_head h.1), Deep.mono P (fun id hi H hH a w hA => hH a w ?_) (deep_head h.2.1)⟩
    · simp only [HeadAt, hasLoop_iff.2 hi, if_true] at hA; exact hA
    · have : ¬ hasLoop id x = true := fun hx => h.2.2 id (hasLoop_iff.1 hx) id hi rfl
      simp only [HeadAt, this, if_false] at hA; exact hA
  | .cond _ x y, Q, h => by
    simp only [loopIds, List.nodup_append] at h
    refine ⟨Deep.mono P (fun id hi H hH a w hA => hH a w ?_) (deep_head h.1), Deep.mono P (fun id hi H hH a w hA => hH a w ?_) (deep_head h.2.1)⟩
    · simp only [HeadAt, hasLoop_iff.2 hi, if_true] at hA; exact hA
    · have : ¬ hasLoop id x = true := fun hx => h.2.2 id (hasLoop_iff.1 hx) id hi rfl
      simp only [HeadAt, this, if_false] at hA; exact hA
  | .block j b, Q, h => Deep.mono P (c := b) (Q := Exit.inBlock j Q) (fun id hi H hH a w hA => hH a w hA) (deep_head (c := b) (by simpa [loopIds] using h))
  | .loop b, Q, h => by
    simp only [loopIds, List.nodup_cons] at h
    refine ⟨fun a w hA => ?_, Deep.mono P (fun id hi H hH a w hA => hH a w ?_) (deep_head h.2)⟩
    · simp only [HeadAt, Nat.beq_refl, if_true] at hA; exact hA
    · have : ¬ Nat.beq (firstRegion b) id = true := fun e => h.1 (by rw [Nat.eq_of_beq_eq_true e]; exact hi)
      simp only [HeadAt, this, if_false] at hA; exact hA
  | .skip, _, _ => trivial
  | .region .., _, _ => trivial
  | .exit _, _, _ => trivial
  | .ret, _, _ => trivial
  | .rangeFunc .., _, _ => trivial
  | .scope b, Q, h => Deep.mono P (c := b) (Q := Exit.noGoto Q) (fun id hi H hH a w hA => hH a w hA) (deep_head (c := b) (by simpa [loopIds] using h))
  | .label _, _, _ => trivial
  | .goto _, _, _ => trivial
  | .refuse _, _, _ => trivial
def At (s : St) (a : Act) (w : World) : Prop := ∃ A, Sim E w0 M A s a w ∧ A.Z = Z0
def Fits (k : Cont) (Q : Exit → Act → World → Prop) : Prop := ∀ e s a w, k e s = some ans → At E w0 M Z0 s a w → Q e.ex a w
def HeadsOK (live : Nat → Live) (I : Heads) : Nat → (Act → World → Prop) → Prop := fun id H => ∀ vs h a w, I id vs h = some ans → At E w0 M Z0 (stOf (live id) vs h) a w → H a w
def DrawsOK : Prop := ∀ (id : Nat) (ops : Array Oper) (s : St) (k : St → Ans) (Q : Exit → Act → World → Prop) (a : Act) (w : World),
 runDraw E ops s k = some ans → At E w0 M Z0 s a w → (∀ s' a' w', k s' = some ans → At E w0 M Z0 s' a' w' → Q .normal a' w') → (Code.region id ops true).wp P Q a w
variable {P E w0 M Z0 ans}
theorem Fits.seq {k : Cont} {Q : Exit → Act → World → Prop} {f : St → Ans} {H : Act → World → Prop} (hk : Fits E w0 M Z0 ans k Q) (hf : ∀ s a w, f s = some ans → At E w0 M Z0 s a w → H a w) : Fits E w0 M Z0 ans (seqK f k) (Exit.then H Q) := by
 intro e s a w h hs
 cases e with
 | normal => exact hf s a w h hs
 | ret => exact hk .ret s a w h hs
 | exit j => exact hk (.exit j) s a w h hs
theorem Fits.block {k : Cont} {Q : Exit → Act → World → Prop} {id : Nat} (hk : Fits E w0 M Z0 ans k Q) : Fits E w0 M Z0 ans (blockK id k) (Exit.inBlock id Q) := by
  intro e s a w h hs
  cases e with
  | normal => exact hk .normal s a w h hs
  | ret => exact hk .ret s a w h hs
  | exit j =>
    simp only [blockK] at h
    show (if j = id then Q .normal a w else Q (.exit j) a w)
    cases hb : Nat.beq j id <;> simp only [hb, cond_true, cond_false] at h
    · rw [if_neg (fun e => by subst e; simp at hb)]
      exact hk (.exit j) s a w h hs
    · rw [if_pos (Nat.eq_of_beq_eq_true hb)]
      exact hk .normal s a w h hs
theorem Fits.scope {k : Cont} {Q : Exit → Act → World → Prop} (hk : Fits E w0 M Z0 ans k Q) : Fits E w0 M Z0 ans k (Exit.noGoto Q) := by
 intro e s a w h hs
 cases e with
 | normal => exact hk .normal s a w h hs
 | ret => exact hk .ret s a w h hs
 | exit j => exact hk (.exit j) s a w h hs
theorem At.canon {s : St} {a : Act} {w : World} (h : At E w0 M Z0 s a w) {live : Nat → Live} {I : Heads} {id : Nat} {H : Act → World → Prop} (hI : HeadsOK E w0 M Z0 ans live I id H)
  (hc : canon E (live id) s (fun vs h => I id vs h) = some ans) : H a w := by
 obtain ⟨A, sm, hz⟩ := h
 obtain ⟨vs, hs, A', h1, h2, h3⟩ := canon_sound sm hc
 exact hI vs hs a w h1 ⟨A', h2, h3.trans hz⟩
variable (hT : ∀ t i, E.T t = some i → TyOK P E t i) (hG : ∀ g c, c ∈ E.G g → Valid P E g c) (hM : ∀ g c, c ∈ E.M g → MValid P E g c) (hD : DrawsOK P E w0 M Z0 ans)
include hT hG hM hD
theorem runC_sound {live : Nat → Live} {I : Heads} : ∀ {c : Code} {Q : Exit → Act → World → Prop} {s : St} {k : Cont} {a : Act} {w : World}, Deep P (HeadsOK E w0 M Z0 ans live I) c Q → Fits E w0 M Z0 ans k Q →
    runC E live I c s k = some ans → At E w0 M Z0 s a w → c.wp P Q a w
  | .skip, Q, s, k, a, w, _, hk, h, hs => wp_skip (hk .normal s a w h hs)
  | .region id ops d, Q, s, k, a, w, _, hk, h, hs => by
    simp only [runC] at h
    cases d with
    | true => exact hD id ops s _ Q a w h hs fun s' a' w' h' hs' => hk .normal s' a' w' h' hs'
    | false =>
      obtain ⟨A, sm, hz⟩ := hs
      exact wp_region_list (runOps_sound hT hG hM sm h fun s' a' w' A' h1 h2 h3 => hk .normal s' a' w' h1 ⟨A', h2, h3.trans hz⟩)
  | .seq x y, Q, s, k, a, w, hd, hk, h, hs =>
    wp_seq (runC_sound hd.1 (hk.seq fun s a w h hs => runC_sound hd.2 hk h hs) h hs)
  | .cond c x y, Q, s, k, a, w, hd, hk, h, hs => by
    simp only [runC] at h
    split at h
    · rename_i t ht
      obtain ⟨A, sm, hz⟩ := hs
      have hc := sm.ev c
      rw [ht] at hc
      have hc' : a.eval c = .bool t := hc
      have hkn : ∀ b, t = b → s.knowsO c b = s := by
        rintro b rfl
        cases c with
        | tmp d => simp only [St.knowsO]; rw [upd_self (look_bool ht)]
        | _ => rfl
      cases t with
      | true => rw [hkn true rfl] at h; exact wp_cond_true hc' (runC_sound hd.1 hk h ⟨A, sm, hz⟩)
      | false => rw [hkn false rfl] at h; exact wp_cond_false hc' (runC_sound hd.2 hk h ⟨A, sm, hz⟩)
    · cases h
  | .block id b, Q, s, k, a, w, hd, hk, h, hs => wp_block (runC_sound (c := b) (Q := Exit.inBlock id Q) hd hk.block h hs)
  | .loop b, Q, s, k, a, w, hd, hk, h, hs => wp_head (hs.canon hd.1 h)
  | .exit id, Q, s, k, a, w, _, hk, h, hs => wp_exit (hk (.exit id) s a w h hs)
  | .ret, Q, s, k, a, w, _, hk, h, hs => wp_ret (hk .ret s a w h hs)
  | .rangeFunc .., _, _, _, _, _, _, _, h, _ => by cases h
  | .scope b, Q, s, k, a, w, hd, hk, h, hs => wp_scope_straight (runC_sound (c := b) (Q := Exit.noGoto Q) hd hk.scope h hs)
  | .label _, Q, s, k, a, w, _, hk, h, hs => wp_label (hk .normal s a w h hs)
  | .goto _, _, _, _, _, _, _, _, h, _ => by cases h
  | .refuse _, _, _, _, _, _, _, _, h, _ => by cases h
theorem enterC_sound {live : Nat → Live} {I : Heads} {id : Nat} : ∀ {c : Code} {Q : Exit → Act → World → Prop} {s : St} {k : Cont} {a : Act} {w : World}, Deep P (HeadsOK E w0 M Z0 ans live I) c Q → Fits E w0 M Z0 ans k Q →
    enterC E live I id c s k = some ans → At E w0 M Z0 s a w → HeadAt P id c Q a w
  | .seq x y, Q, s, k, a, w, hd, hk, h, hs => by
    simp only [enterC] at h
    simp only [HeadAt]
    cases hx : hasLoop id x <;> simp only [hx, cond_true, cond_false] at h
    · rw [if_neg (by simp)]; exact enterC_sound hd.2 hk h hs
    · rw [if_pos rfl]; exact enterC_sound hd.1 (hk.seq fun s a w h hs => runC_sound hT hG hM hD hd.2 hk h hs) h hs
  | .cond _ x y, Q, s, k, a, w, hd, hk, h, hs => by
    simp only [enterC] at h
    simp only [HeadAt]
    cases hx : hasLoop id x <;> simp only [hx, cond_true, cond_false] at h
    · rw [if_neg (by simp)]; exact enterC_sound hd.2 hk h hs
    · rw [if_pos rfl]; exact enterC_sound hd.1 hk h hs
  | .block j b, Q, s, k, a, w, hd, hk, h, hs => enterC_sound (c := b) (Q := Exit.inBlock j Q) hd hk.block h hs
  | .loop b, Q, s, k, a, w, hd, hk, h, hs => by
    simp only [enterC] at h
    simp only [HeadAt]
    cases hb : Nat.beq (firstRegion b) id <;> simp only [hb, cond_true, cond_false] at h
    · rw [if_neg (by simp)]
      exact enterC_sound hd.2 (hk.seq fun s a w h hs => hs.canon hd.1 h) h hs
    · rw [if_pos rfl]
      obtain rfl := Nat.eq_of_beq_eq_true hb
      exact head_round (runC_sound hT hG hM hD hd.2 (hk.seq fun s a w h hs => hs.canon hd.1 h) h hs)
  | .skip, _, _, _, _, _, _, _, h, _ => by cases h
  | .region .., _, _, _, _, _, _, _, h, _ => by cases h
  | .exit _, _, _, _, _, _, _, _, h, _ => by cases h
  | .ret, _, _, _, _, _, _, _, h, _ => by cases h
  | .rangeFunc .., _, _, _, _, _, _, _, h, _ => by cases h
  | .scope b, Q, s, k, a, w, hd, hk, h, hs => enterC_sound (c := b) (Q := Exit.noGoto Q) hd hk.scope h hs
  | .label _, _, _, _, _, _, _, _, h, _ => by cases h
  | .goto _, _, _, _, _, _, _, _, h, _ => by cases h
  | .refuse _, _, _, _, _, _, _, _, h, _ => by cases h
theorem heads_sound {live : Nat → Live} {f : Func} {p : RP} {Q : Exit → Act → World → Prop} (hn : (loopIds (bodyOf f)).Nodup) (hk : Fits E w0 M Z0 ans (doneK E f p) Q) : ∀ n, Deep P (HeadsOK E w0 M Z0 ans live (heads E live f p n)) (bodyOf f) Q
 | 0 => Deep.mono P (fun id _ H _ vs h a w e _ => by cases e) (deep_head P hn)
 | n + 1 => Deep.mono P (fun id _ H hH vs h a w e hs => hH a w (enterC_sound hT hG hM hD (heads_sound hn hk n) hk e hs)) (deep_head P hn)
theorem runF_sound {live : Nat → Live} {f : Func} {p : RP} {Q : Exit → Act → World → Prop} (hn : (loopIds (bodyOf f)).Nodup) (hk : Fits E w0 M Z0 ans (doneK E f p) Q) {n : Nat} {s : St} {a : Act} {w : World}
  (h : runF E live f p n s = some ans) (hs : At E w0 M Z0 s a w) : (bodyOf f).wp P Q a w :=
 runC_sound hT hG hM hD (heads_sound hT hG hM hD hn hk n) hk h hs
end
end Go.DM
set_option linter.unusedSectionVars false
namespace Go.DM
def Asg.out (A : Asg) (rs : List (Option Nat)) (vs : List Value) : Asg :=
  { v := fun i => vs.getD i Go.undef, N := fun i b => ∃ q, rs[i]? = some (some q) ∧ A.N q b, al := fun i => i < rs.length, Z := A.Z }
def Inj (rs : List (Option Nat)) : Prop := ∀ (i j q : Nat), rs[i]? = some (some q) → rs[j]? = some (some q) → i = j
def Lies {α : Type} (big small : List α) (n : Nat) : Prop := ∀ (i : Nat) (x : α), small[i]? = some x → big[n + i]? = some x
theorem Lies.left {α : Type} {big a b : List α} {n : Nat} (h : Lies big (a ++ b) n) : Lies big a n := fun i x hx => h i x (by rw [List.getElem?_append_left (List.getElem?_eq_some_iff.1 hx).1]; exact hx)
theorem Lies.right {α : Type} {big a b : List α} {n : Nat} (h : Lies big (a ++ b) n) : Lies big b (n + a.length) := fun i x hx => by
 have := h (a.length + i) x (by rw [List.getElem?_append_right (by omega), Nat.add_sub_cancel_left]; exact hx)
 rwa [Nat.add_assoc]
theorem Inj.append {hp hp1 hp2 : Nat → Root} {a b : List (Option Nat)} (ha : Inj a) (hb : Inj b) (ta : Took hp hp1 (fun q => some q ∈ a)) (tb : Took hp1 hp2 (fun q => some q ∈ b)) : Inj (a ++ b) := by
  intro i j q hi hj
  by_cases h1 : i < a.length <;> by_cases h2 : j < a.length
  · rw [List.getElem?_append_left h1] at hi; rw [List.getElem?_append_left h2] at hj; exact ha i j q hi hj
  · rw [List.getElem?_append_left h1] at hi; rw [List.getElem?_append_right (by omega)] at hj
    exact (ta.disj tb (q := q) (List.mem_of_getElem? hi) (List.mem_of_getElem? hj)).elim
  · rw [List.getElem?_append_right (by omega)] at hi; rw [List.getElem?_append_left h2] at hj
    exact (ta.disj tb (q := q) (List.mem_of_getElem? hj) (List.mem_of_getElem? hi)).elim
  · rw [List.getElem?_append_right (by omega)] at hi; rw [List.getElem?_append_right (by omega)] at hj
    have := hb _ _ q hi hj
    omega
theorem Took.app {hp hp1 hp2 : Nat → Root} {a b : List (Option Nat)} (ta : Took hp hp1 (fun q => some q ∈ a)) (tb : Took hp1 hp2 (fun q => some q ∈ b)) : Took hp hp2 (fun q => some q ∈ a ++ b) :=
 (ta.trans tb).congr fun q => by simp
section
variable {T : Nat → List K} {w0 w : World} {np : Nat} {M : Mem np} {A : Asg} {hp0 : Nat → Root} {ans : List L}
def ZOut (nf : Bool) (w : World) (A A' : Asg) : Prop := (nf = true → ∀ b, ZAll w A b → Zone w A' b) ∧ ∀ b, Zone w A b → Zone w A' b
theorem leafL_det {hp : Nat → Root} {v : V} {k : L → Ans} (h : leafL hp v k = some ans) : ∃ l, k l = some ans ∧ ∀ hp0, Sub hp hp0 → ∀ k' : L → Ans, leafL hp0 v k' = k' l := by
  cases v <;> first | exact ⟨_, h, fun _ _ _ => rfl⟩ | skip
  case own r =>
    simp only [leafL] at h
    split at h
    · rename_i e xs hr
      refine ⟨_, h, fun hp0 hs k' => ?_⟩
      simp only [leafL, hs.row hr (by simp)]
    · cases h
  all_goals cases h
theorem fits_sub {hp hp0 : Nat → Root} {kk : K} {v : V} {k : L → Ans} (hf : fits hp kk v = true) (h : leafL hp v k = some ans) (hs : Sub hp hp0) : fits hp0 kk v = true := by
  cases v <;> first | exact hf | skip
  case own r =>
    simp only [leafL] at h
    split at h
    · rename_i e xs hr
      cases kk <;> first | cases hf | skip
      simp only [fits, hr] at hf
      simp only [fits, hs.row hr (by simp)]
      exact hf
    · cases h
theorem giveLf_spec {nf : Bool} {l : Lf} {hp : Nat → Root} {v : V} {k : L → (Nat → Root) → Ans} (h : giveLf nf l hp v k = some ans) :
    ∃ x hp', ∃ rs : List (Option Nat), k x hp' = some ans ∧ rs.length = (lfR l x).length ∧ Took hp hp' (fun q => some q ∈ rs) ∧ Inj rs ∧
      ∀ {T : Nat → List K} {w0 w : World} {np : Nat} {M : Mem np} {A : Asg} {hp0 : Nat → Root} {y : Value}, Hp T w0 M A hp0 w → Sub hp hp0 → V0 T w A v y →
        ∃ vals : List Value, vals.length = rs.length ∧ ∀ (RS : List (Option Nat)) (VS : List Value) (nx : Nat), Lies RS rs nx → Lies VS vals nx → ZOut nf w A (A.out RS VS) →
          Vc T w (A.out RS VS) (lfV l x nx) y ∧ ∀ i o, (lfR l x)[i]? = some o → RootOK T w (A.out RS VS) (nx + i) o := by
  cases l with
  | fr e =>
    obtain ⟨x, r, h1, h2, h3⟩ := takeL_spec (show takeL hp (.sl e) v (fun x r => k x (dropR hp r)) = some ans from h)
    have hd := dropR_took h2
    refine ⟨x, _, [r], h1, rfl, hd.congr fun q => by simp [eq_comm], fun i j q hi hj => ?_, fun {T w0 w np M A hp0 y} hh hs hv => ⟨[y], rfl, fun RS VS nx hR hV hz => ?_⟩⟩
    · have := (List.getElem?_eq_some_iff.1 hi).1
      have := (List.getElem?_eq_some_iff.1 hj).1
      simp at *; omega
    · have hown := h3 hh hs hv
      have hr0 : RS[nx]? = some r := by simpa using hR 0 r rfl
      have hv0 : VS.getD nx Go.undef = y := by rw [List.getD_eq_getElem?_getD, show VS[nx]? = some y by simpa using hV 0 y rfl]; rfl
      have hal : (A.out RS VS).al nx := (List.getElem?_eq_some_iff.1 hr0).1
      obtain ⟨a, n, c, he, _⟩ := hown.inv0
      refine ⟨⟨⟨hal, hv0.symm, a, n, c, he⟩, hown.one⟩, fun i o ho => ?_⟩
      have hi : i = 0 := by
        have := (List.getElem?_eq_some_iff.1 ho).1
        simp [lfR] at this; exact this
      subst hi
      simp [lfR] at ho
      subst ho
      refine ⟨hal, ?_⟩
      show Own T w ((A.out RS VS).N (nx + 0)) (.sl e) (VS.getD (nx + 0) Go.undef) _
      rw [Nat.add_zero, hv0]
      exact hown.slOf.mono fun b ⟨q, hq, hn⟩ => ⟨q, by rw [hr0, hq], hn⟩
  | rd kk =>
    simp only [giveLf] at h
    cases hf : (fits hp kk v && (nf || plainLeaf v)) <;> simp only [hf, cond_true, cond_false] at h
    · cases h
    simp only [Bool.and_eq_true, Bool.or_eq_true] at hf
    obtain ⟨x, h1, h2⟩ := leafL_det h
    refine ⟨x, hp, [], h1, rfl, (Took.refl hp).congr fun q => by simp, fun i j q hi => by simp at hi, fun {T w0 w np M A hp0 y} hh hs hv => ⟨[], rfl, fun RS VS nx hR hV hz => ?_⟩⟩
    obtain ⟨l', e1, e2⟩ := leaf_spec hh (fits_sub hf.1 h hs) (k := fun x => some [x]) (h2 hp0 hs _)
    injection e1 with e1; injection e1 with e1
    subst e1
    obtain ⟨r1, r2⟩ := e2 hv
    have r3 : Rd T w (Zone w (A.out RS VS)) kk y l' := by
      rcases hf.2 with hn | hp
      · exact r1.mono (hz.1 hn)
      · exact (r2 hp).mono hz.2
    exact ⟨⟨ofL_V0 (fun r hr => (nomatch hr)) r3, r3.one⟩, fun i o ho => by simp [lfR] at ho⟩
theorem giveLfs_spec {nf : Bool} : ∀ {q : List Lf} {hp : Nat → Root} {vs : List V} {k : List L → (Nat → Root) → Ans}, giveLfs nf q hp vs k = some ans →
    ∃ ls hp', ∃ rs : List (Option Nat), k ls hp' = some ans ∧ ls.length = q.length ∧ vs.length = q.length ∧ (∀ rest, lfsR q (ls ++ rest) = lfsR q ls ∧ ∀ nx, lfsV q (ls ++ rest) nx = lfsV q ls nx) ∧ rs.length = (lfsR q ls).length ∧ Took hp hp' (fun q => some q ∈ rs) ∧ Inj rs ∧
      ∀ {T : Nat → List K} {w0 w : World} {np : Nat} {M : Mem np} {A : Asg} {hp0 : Nat → Root} {R : V → Value → Prop} {ys : List Value}, (∀ v x, R v x → V0 T w A v x) → Hp T w0 M A hp0 w → Sub hp hp0 → F2 R vs ys →
        ∃ vals : List Value, vals.length = rs.length ∧ ∀ (RS : List (Option Nat)) (VS : List Value) (nx : Nat), Lies RS rs nx → Lies VS vals nx → ZOut nf w A (A.out RS VS) →
          F2 (Vc T w (A.out RS VS)) (lfsV q ls nx) ys ∧ ∀ i o, (lfsR q ls)[i]? = some o → RootOK T w (A.out RS VS) (nx + i) o
  | [], hp, [], k, h => ⟨[], hp, [], h, rfl, rfl, fun _ => ⟨rfl, fun _ => rfl⟩, rfl, (Took.refl hp).congr fun q => by simp, fun i j q hi => (by simp at hi), fun {T w0 w np M A hp0 R ys} _ _ _ hf => ⟨[], rfl, fun RS VS nx _ _ _ => ⟨(by cases hf; exact .nil), fun i o ho => (by simp [lfsR] at ho)⟩⟩⟩
  | [], hp, _ :: _, k, h => by cases h
  | _ :: _, hp, [], k, h => by cases h
  | l :: q, hp, v :: vs, k, h => by
    simp only [giveLfs] at h
    obtain ⟨x, hp1, rs1, h1, h2, h3, h4, h5⟩ := giveLf_spec h
    obtain ⟨ls, hp2, rs2, g1, g2, g2', g3, g4, g5, g6, g7⟩ := giveLfs_spec h1
    refine ⟨x :: ls, hp2, rs1 ++ rs2, g1, by simp [g2], by simp [g2'], fun rest => ⟨?_, fun nx => ?_⟩, ?_, h3.app g5, h4.append g6 h3 g5, fun {T w0 w np M A hp0 R ys} hR hh hs hf => ?_⟩
    · simp [lfsR, (g3 rest).1]
    · simp [lfsV, (g3 rest).2]
    · simp [lfsR, h2, g4]
    · cases hf with
      | cons hv ht =>
        obtain ⟨va, va1, va2⟩ := h5 hh hs (hR _ _ hv)
        obtain ⟨vb, vb1, vb2⟩ := g7 hR hh (h3.sub hs) ht
        refine ⟨va ++ vb, by simp [va1, vb1], fun RS VS nx hRS hVS hz => ?_⟩
        obtain ⟨c1, c2⟩ := va2 RS VS nx hRS.left hVS.left hz
        obtain ⟨d1, d2⟩ := vb2 RS VS (nx + rs1.length) hRS.right (by rw [← va1]; exact hVS.right) hz
        refine ⟨?_, fun i o ho => ?_⟩
        · simp only [lfsV, List.headD_cons, List.tail_cons, ← h2]
          exact .cons c1 d1
        · simp only [lfsR, List.headD_cons, List.tail_cons] at ho
          by_cases hi : i < (lfR l x).length
          · rw [List.getElem?_append_left hi] at ho; exact c2 i o ho
          · rw [List.getElem?_append_right (by omega)] at ho
            have := d2 _ o ho
            rw [h2, show nx + (lfR l x).length + (i - (lfR l x).length) = nx + i by omega] at this
            exact this
theorem giveP_spec {nf a : Bool} {q : List Lf} {hp : Nat → Root} {v : V} {k : List L → (Nat → Root) → Ans} (h : giveP nf a q hp v k = some ans) :
    ∃ ls hp', ∃ rs : List (Option Nat), k ls hp' = some ans ∧ ls.length = q.length ∧ (∀ rest, lfsR q (ls ++ rest) = lfsR q ls ∧ ∀ nx, lfsV q (ls ++ rest) nx = lfsV q ls nx) ∧ rs.length = (lfsR q ls).length ∧ Took hp hp' (fun q => some q ∈ rs) ∧ Inj rs ∧
      ∀ {T : Nat → List K} {w0 w : World} {np : Nat} {M : Mem np} {A : Asg} {hp0 : Nat → Root} {y : Value}, Hp T w0 M A hp0 w → Sub hp hp0 → V2 T w A v y →
        ∃ vals : List Value, vals.length = rs.length ∧ ∀ (RS : List (Option Nat)) (VS : List Value) (nx : Nat), Lies RS rs nx → Lies VS vals nx → ZOut nf w A (A.out RS VS) →
          V1 T w (A.out RS VS) (mkVar a (lfsV q ls nx)) y ∧ ∀ i o, (lfsR q ls)[i]? = some o → RootOK T w (A.out RS VS) (nx + i) o := by
  unfold giveP at h
  cases a <;> simp only [cond_true, cond_false] at h
  · obtain ⟨ls, hp', rs, h1, h2, h2', h3, h4, h5, h6, h7⟩ := giveLfs_spec h
    have hleaf : ∀ {T : Nat → List K} {w : World} {A : Asg} {y : Value}, V2 T w A v y → V0 T w A v y := by
      intro T w A y hv
      match q, h2' with
      | [l], _ =>
        simp only [giveLfs] at h
        cases l with
        | fr e => cases v <;> first | exact hv | (simp only [giveLf, takeL] at h; cases h)
        | rd kk => cases v <;> first | exact hv | (cases kk <;> simp [giveLf, fits] at h)
    refine ⟨ls, hp', rs, h1, h2, h3, h4, h5, h6, fun {T w0 w np M A hp0 y} hh hs hv => ?_⟩
    obtain ⟨vals, e1, e2⟩ := h7 (R := V0 T w A) (fun _ _ h => h) hh hs (.cons (hleaf hv) .nil)
    refine ⟨vals, e1, fun RS VS nx hR hV hz => ?_⟩
    obtain ⟨c1, c2⟩ := e2 RS VS nx hR hV hz
    refine ⟨?_, c2⟩
    have := mkVar_V1 (agg := false) c1 (fun _ => by rw [c1.length]; rfl)
    exact this
  · split at h
    · rename_i cs
      obtain ⟨ls, hp', rs, h1, h2, h2', h3, h4, h5, h6, h7⟩ := giveLfs_spec h
      refine ⟨ls, hp', rs, h1, h2, h3, h4, h5, h6, fun {T w0 w np M A hp0 y} hh hs hv => ?_⟩
      obtain ⟨l, rfl, hl⟩ := (show V1 T w A (.agg cs) y from hv)
      obtain ⟨vals, e1, e2⟩ := h7 (R := Vc T w A) (fun _ _ h => h.1) hh hs hl
      refine ⟨vals, e1, fun RS VS nx hR hV hz => ?_⟩
      obtain ⟨c1, c2⟩ := e2 RS VS nx hR hV hz
      exact ⟨⟨l, rfl, c1⟩, c2⟩
    · cases h
theorem givePs_spec {nf : Bool} : ∀ {ps : List (Bool × List Lf)} {hp : Nat → Root} {vs : List V} {k : List L → (Nat → Root) → Ans}, givePs nf ps hp vs k = some ans →
    ∃ ls hp', ∃ rs : List (Option Nat), k ls hp' = some ans ∧ vs.length = ps.length ∧ rs.length = (tupR ps ls).length ∧ Took hp hp' (fun q => some q ∈ rs) ∧ Inj rs ∧
      ∀ {T : Nat → List K} {w0 w : World} {np : Nat} {M : Mem np} {A : Asg} {hp0 : Nat → Root} {ys : List Value}, Hp T w0 M A hp0 w → Sub hp hp0 → F2 (V2 T w A) vs ys →
        ∃ vals : List Value, vals.length = rs.length ∧ ∀ (RS : List (Option Nat)) (VS : List Value) (nx : Nat), Lies RS rs nx → Lies VS vals nx → ZOut nf w A (A.out RS VS) →
          F2 (V1 T w (A.out RS VS)) (tupV ps ls nx) ys ∧ ∀ i o, (tupR ps ls)[i]? = some o → RootOK T w (A.out RS VS) (nx + i) o
  | [], hp, [], k, h => ⟨[], hp, [], h, rfl, rfl, (Took.refl hp).congr fun q => by simp, fun i j q hi => (by simp at hi), fun {T w0 w np M A hp0 ys} _ _ hf => ⟨[], rfl, fun RS VS nx _ _ _ => ⟨(by cases hf; exact .nil), fun i o ho => (by simp [tupR] at ho)⟩⟩⟩
  | [], hp, _ :: _, k, h => by cases h
  | _ :: _, hp, [], k, h => by cases h
  | (a, q) :: ps, hp, v :: vs, k, h => by
    simp only [givePs] at h
    obtain ⟨x, hp1, rs1, h1, h1', hrest, h2, h3, h4, h5⟩ := giveP_spec h
    obtain ⟨ls, hp2, rs2, g1, g2', g4, g5, g6, g7⟩ := givePs_spec h1
    have hdrop : (x ++ ls).drop q.length = ls := by rw [← h1', List.drop_left]
    refine ⟨x ++ ls, hp2, rs1 ++ rs2, g1, by simp [g2'], ?_, h3.app g5, h4.append g6 h3 g5, fun {T w0 w np M A hp0 ys} hh hs hf => ?_⟩
    · simp [tupR, hdrop, (hrest ls).1, h2, g4]
    · cases hf with
      | cons hv ht =>
        obtain ⟨va, va1, va2⟩ := h5 hh hs hv
        obtain ⟨vb, vb1, vb2⟩ := g7 hh (h3.sub hs) ht
        refine ⟨va ++ vb, by simp [va1, vb1], fun RS VS nx hRS hVS hz => ?_⟩
        obtain ⟨c1, c2⟩ := va2 RS VS nx hRS.left hVS.left hz
        obtain ⟨d1, d2⟩ := vb2 RS VS (nx + rs1.length) hRS.right (by rw [← va1]; exact hVS.right) hz
        refine ⟨?_, fun i o ho => ?_⟩
        · simp only [tupV, hdrop, (hrest ls).1, (hrest ls).2, ← h2]
          exact .cons c1 d1
        · simp only [tupR, hdrop, (hrest ls).1] at ho
          by_cases hi : i < (lfsR q x).length
          · rw [List.getElem?_append_left hi] at ho; exact c2 i o ho
          · rw [List.getElem?_append_right (by omega)] at ho
            have := d2 _ o ho
            rw [h2, show nx + (lfsR q x).length + (i - (lfsR q x).length) = nx + i by omega] at this
            exact this
end
end Go.DM
set_option linter.unusedSectionVars false
namespace Go.DM
def resOne (tmps : Array Value) (r : ResultVar) : Sem Value := match r with
 | .tmp t => pure (tmps.getD t undef)
 | .cell a t => do loadVar t (← asAddr (tmps.getD a undef))
theorem results_eq (fn : Func) (tmps : Array Value) : results fn tmps = (do
  let vs ← fn.results.mapM (resOne tmps)
  pure (if h : vs.size = 1 then vs[0] else .tuple vs)) := by
 unfold results
 congr 1
def tupleOf (ys : List Value) : Value := match ys with
 | [y] => y
 | ys => .tuple ys.toArray
theorem run_results {P : Program} {fn : Func} {tmps : Array Value} {w : World} {ys : List Value} (h : (fn.results.toList.mapM (resOne tmps)).run P w = .ok ys w) :
  (results fn tmps).run P w = .ok (tupleOf ys) w := by
 rw [results_eq, Array.mapM_eq_mapM_toList]
 simp only [Sem.run_bind, map_eq_pure_bind, h, Result.andThen_ok, Sem.run_pure]
 congr 1
 match ys with
 | [] => rfl
 | [y] => rfl
 | a :: b :: c => simp [tupleOf]
theorem run_loadVar_cells {P : Program} {w : World} {t b o : Nat} {ii : TypeInfo} {d : TypeDesc} {cs : List Value} (hi : P.info? t = some ii) (hu : P.underlying t = some d) (hl : cs.length = ii.size)
  (h1 : isAggD d = false → cs.length = 1) (hc : ∀ j v, cs[j]? = some v → w.cell? ⟨b, o + j, none⟩ = some v) :
  (loadVar t ⟨b, o, none⟩).run P w = .ok (mkValue (isAggD d) cs) w := by
 have := run_loadAt_cells (P := P) hi hu hl h1 hc
 simpa [Instr.loadAt, Instr.sureAddr] using this
section
variable {P : Program} {E : Env} {w0 w : World} {M : Mem E.np} {A : Asg} {s : St} {a : Act} {ans : List L}
theorem slotsOf_sound (hT : ∀ t i, E.T t = some i → TyOK P E t i) (sm : Sim E w0 M A s a w) : ∀ {rs : List ResultVar} {k : List V → Ans}, slotsOf E s rs k = some ans →
    ∃ vs xs, k vs = some ans ∧ F2 (V2 E.cells w A) vs xs ∧ (rs.mapM (resOne a.tmps)).run P w = .ok xs w
  | [], k, h => ⟨[], [], h, .nil, by simp⟩
  | .tmp t :: rs, k, h => by
    simp only [slotsOf] at h
    obtain ⟨vs, xs, h1, h2, h3⟩ := slotsOf_sound hT sm h
    exact ⟨_, a.eval (.tmp t) :: xs, h1, .cons (sm.ev (.tmp t)) h2, by simp [resOne, h3, Act.eval]⟩
  | .cell t ty :: rs, k, h => by
    simp only [slotsOf] at h
    split at h
    · cases h
    rename_i i ht
    obtain ⟨ii, d, z, g1, g2, g3, g4, g5, g6, gby, g7, g8, g9, g10, gpl, g11, g12, g13, g14⟩ := hT ty i ht
    have hx := sm.ev (.tmp t)
    simp only [opnd] at hx
    split at h
    · rename_i r q hr
      rw [hr] at hx
      split at h
      · rename_i cs hcs
        cases hle : Nat.ble (q + i.cells.length) cs.length <;> simp only [hle, cond_true, cond_false] at h
        · cases h
        have hle' := Nat.le_of_ble_eq_true hle
        obtain ⟨vs, xs, h1, h2, h3⟩ := slotsOf_sound hT sm h
        obtain ⟨hal, g, e1, e2⟩ := (show V0 E.cells w A (.bptr r q) (a.eval (.tmp t)) from hx)
        have hroot := sm.hp.rt r
        rw [hcs] at hroot
        obtain ⟨_, g', te, cur, m1, m2, m3, m4⟩ := hroot
        obtain rfl : g = g' := by rw [e1] at m1; injection m1 with m1; injection m1 with m1; injection m1
        have hcl : cs.length = cur.size := by rw [m4.length, Array.length_toList]
        have hcut : (cut cur.toList q i.cells.length).length = i.cells.length := cut_length (by rw [Array.length_toList]; omega)
        have hload := run_loadVar_cells (P := P) (w := w) (b := g) (o := q) (cs := cut cur.toList q i.cells.length) g1 g2 (by rw [hcut, g4]) (fun hd => by rw [hcut]; exact (g9 (by rw [← g8]; exact hd)).1) (fun j v hj => by
          rw [cell_at m3, ← Array.getElem?_toList]; exact (cut_get hj).1)
        refine ⟨_, _ :: xs, h1, .cons (V1.v2 (mkVar_V1 (agg := i.agg) (m4.cut q i.cells.length) (fun ha => by rw [cut_length hle']; exact (g9 ha).1))) h2, ?_⟩
        have hv : a.tmps.getD t undef = .pointer (some ⟨g, q, none⟩) := e2
        rw [g8] at hload
        simp [resOne, hv, asAddr, hload, h3]
      · cases h
    · cases h
def RP.fine (p : RP) : Bool := p.ok && (match p with | .tup ps => !Nat.beq ps.length 1 | _ => true)
theorem parts_R (p : RP) (ls : List L) : tupR p.parts ls = p.R ls := by
 cases p with
 | one l => simp [RP.parts, RP.R, tupR, lfsR]
 | agg q => simp [RP.parts, RP.R, tupR]
 | tup ps => rfl
 | chg _ => rfl
theorem parts_V {p : RP} {ls : List L} {ys : List Value} (hf : p.fine = true) (h : F2 (V1 E.cells w A) (tupV p.parts ls 0) ys) : V2 E.cells w A (p.V ls 0) (tupleOf ys) := by
 cases p with
 | one l =>
  simp only [RP.parts, tupV, lfsV] at h
  cases h with
  | cons hv ht =>
   cases ht
   exact V1.v2 hv
 | agg q =>
  simp only [RP.parts, tupV] at h
  cases h with
  | cons hv ht =>
   cases ht
   exact V1.v2 hv
 | tup ps =>
  simp only [RP.fine, Bool.and_eq_true, Bool.not_eq_true'] at hf
  have hl := h.length
  have hne : ys.length ≠ 1 := by
   rw [← hl]
   have : (tupV ps ls 0).length = ps.length := by
    clear h hl hf
    have : ∀ (ps : List (Bool × List Lf)) (ls : List L) (n : Nat), (tupV ps ls n).length = ps.length := by
     intro ps
     induction ps with
     | nil => intro ls n; rfl
     | cons p ps ih => intro ls n; obtain ⟨a, q⟩ := p; simp [tupV, ih]
    exact this _ _ _
   show (tupV ps ls 0).length ≠ 1
   rw [this]
   intro e
   have := hf.2
   rw [e] at this; cases this
  refine ⟨ys, ?_, h⟩
  match ys, hne with
  | [], _ => rfl
  | [y], h => exact (h rfl).elim
  | _ :: _ :: _, _ => rfl
 | chg _ => simp [RP.fine, RP.ok] at hf
theorem noFr_lfsR : ∀ {q : List Lf} {ls : List L}, q.any Lf.isFr = false → lfsR q ls = []
 | [], _, _ => rfl
 | .fr _ :: q, ls, h => by cases h
 | .rd _ :: q, ls, h => by simp only [List.any_cons, Bool.or_eq_false_iff] at h; simp [lfsR, lfR, noFr_lfsR h.2]
theorem noFr_tupR : ∀ {ps : List (Bool × List Lf)} {ls : List L}, (ps.all fun q => !q.2.any Lf.isFr) = true → tupR ps ls = []
 | [], _, _ => rfl
 | (a, q) :: ps, ls, h => by
  simp only [List.all_cons, Bool.and_eq_true, Bool.not_eq_true'] at h
  simp [tupR, noFr_lfsR h.1, noFr_tupR (ps := ps) h.2]
def Left (E : Env) (w0 : World) (Z0 : Nat → Prop) (p : RP) (r : List L) (e : Ending) (w' : World) : Prop :=
 ∃ rv A', e = .returned rv ∧ Fr w0 w' (fun _ => False) ∧ A'.Z = Z0 ∧ (∀ i, A'.al i ↔ i < (p.R r).length) ∧
  Hp E.cells w0 noM A' (addRoots (fun _ => .dead) 0 (p.R r)) w' ∧ V2 E.cells w' A' (p.V r 0) rv
theorem done_fits (hT : ∀ t i, E.T t = some i → TyOK P E t i) {f : Func} {p : RP} {Z0 : Nat → Prop} (hf : p.fine = true) :
    Fits E w0 (noMn E.np) Z0 ans (doneK E f p) (bodyPost P f (Left E w0 Z0 p ans)) := by
  intro e s a w h ⟨A, sm, hz⟩
  have h : doneP E f p e s = some ans := by
    cases p <;> first | exact h | (simp [RP.fine, RP.ok] at hf)
  have key0 : ∀ {A : Asg} {s : St}, Sim E w0 (noMn E.np) A s a w → A.Z = Z0 → slotsOf E s f.results.toList (fun vs => givePs (p.parts.all fun q => !q.2.any Lf.isFr) p.parts s.hp vs fun ls _ => some ls) = some ans →
      a.defers = [] ∧ ∃ v, (results f a.tmps).run P w = .ok v w ∧ Left E w0 Z0 p ans (.returned v) w := by
    intro A s sm hz h
    refine ⟨sm.df, ?_⟩
    have hh := sm.hp
    obtain ⟨vs, xs, h1, h2, h3⟩ := slotsOf_sound hT sm h
    obtain ⟨ls, hp', rs, g1, g2, g3, g4, g5, g6⟩ := givePs_spec h1
    injection g1 with g1
    subst g1
    obtain ⟨vals, e1, e2⟩ := g6 hh (fun _ => .inl rfl) h2
    have hN : ∀ {i b : Nat}, (A.out rs vals).N i b → ∃ q, A.N q b := fun ⟨q, _, hn⟩ => ⟨q, hn⟩
    have hZ : ZOut (p.parts.all fun q => !q.2.any Lf.isFr) w A (A.out rs vals) := by
      refine ⟨fun hnf b hb => ?_, fun b hb => ⟨hb.1, hb.2.1, fun i ⟨q, _, hn⟩ => hb.2.2 q hn⟩⟩
      have hrs : rs = [] := List.eq_nil_of_length_eq_zero (by rw [g3, noFr_tupR hnf]; rfl)
      subst hrs
      have : ∀ i, ¬ (A.out [] vals).N i b := fun i ⟨q, hq, _⟩ => by simp at hq
      rcases hb with ⟨r, hr⟩ | hb
      · refine ⟨?_, hh.lt r b hr, this⟩
        rcases hh.nm r b hr with h | h
        · exact h.elim
        · exact hh.zf b h
      · exact ⟨hb.1, hb.2.1, this⟩
    obtain ⟨c1, c2⟩ := e2 rs vals 0 (fun i x h => by simpa using h) (fun i x h => by simpa using h) hZ
    refine ⟨_, run_results h3, _, A.out rs vals, rfl, hh.fr, hz, fun i => ?_, ⟨fun r b hb => ?_, fun r q b hb hb' => ?_, fun r hr => ?_, fun r => ?_, hh.fr, fun r b hb => ?_, hh.zf, fun j hj => absurd hj (Nat.not_lt_zero j)⟩, parts_V hf c1⟩
    · show i < rs.length ↔ _
      rw [g3, parts_R]
    · obtain ⟨q, _, hn⟩ := hb; exact hh.lt q b hn
    · obtain ⟨p1, hp1, hn⟩ := hb
      obtain ⟨p2, hp2, hn'⟩ := hb'
      have := hh.dj p1 p2 b hn hn'
      subst this
      exact g5 r q p1 hp1 hp2
    · have hr' : ¬ r < rs.length := hr
      rw [addRoots_out _ _ _ _ (.inr (by rw [Nat.zero_add, ← parts_R, ← g3]; omega))]
    · by_cases hr : r < rs.length
      · have hlt : r < (tupR p.parts ls).length := by rw [← g3]; exact hr
        have ho := List.getElem?_eq_getElem hlt
        have := c2 r _ ho
        rw [Nat.zero_add] at this
        have ha := addRoots_in (p.R ls) (fun _ => .dead) 0 r (tupR p.parts ls)[r] (by rw [← parts_R]; exact ho)
        rw [Nat.zero_add] at ha
        rw [ha]; exact this
      · rw [addRoots_out _ _ _ _ (.inr (by rw [Nat.zero_add, ← parts_R, ← g3]; omega))]
        rintro b ⟨q, hq, _⟩
        rw [List.getElem?_eq_none (by omega)] at hq; cases hq
    · obtain ⟨q, _, hn⟩ := hb; exact hh.nm q b hn
  have key : coerces E (resCo f.results.toList p.parts) s (fun s => slotsOf E s f.results.toList (fun vs => givePs (p.parts.all fun q => !q.2.any Lf.isFr) p.parts s.hp vs fun ls _ => some ls)) = some ans →
      a.defers = [] ∧ ∃ v, (results f a.tmps).run P w = .ok v w ∧ Left E w0 Z0 p ans (.returned v) w := by
    intro h
    obtain ⟨s', A', h1, h2, h3⟩ := sm.coerces h
    exact key0 h2 (h3.trans hz) h1
  cases e with
  | exit j => cases h
  | normal => exact key h
  | ret => exact key h
theorem nthV_get : ∀ {vs : List V} {i : Nat} {v : V}, vs[i]? = some v → nthV vs i = v
 | [], i, v, h => by simp at h
 | a :: vs, 0, v, h => by simp at h; exact h
 | a :: vs, i + 1, v, h => nthV_get (vs := vs) (i := i) (by simpa using h)
theorem nthV_none : ∀ {vs : List V} {i : Nat}, vs.length ≤ i → nthV vs i = .undef
 | [], i, h => rfl
 | a :: vs, 0, h => by simp at h
 | a :: vs, i + 1, h => nthV_none (vs := vs) (i := i) (by simpa using h)
def LOKk (T : Nat → List K) (ks : List K) (ls : List L) : Prop := ∀ (j : Nat) (k : K), ks[j]? = some k → LOK T k (ls.getD j .hole)
def LOKc (T : Nat → List K) : List (List K) → List L → Prop
 | [], _ => True
 | q :: qs, ls => LOKk T q ls ∧ LOKc T qs (dropT q.length ls)
def LOKp (T : Nat → List K) : Pat → List L → Prop
 | .rd k, ls => LOK T k (ls.headD .hole)
 | .agg ks, ls => LOKk T ks ls
 | .ptr ks, ls => LOKk T ks ls
 | .fn _ qs, ls => LOKc T qs ls
 | .nil, _ => True
def LOKs (T : Nat → List K) : List Pat → List L → Prop
 | [], _ => True
 | p :: ps, ls => LOKp T p ls ∧ LOKs T ps (dropT p.n ls)
theorem LOK.ofSl {T : Nat → List K} {e : Nat} {l : L} (h : LOK T (.sl e) (.sl l.toSl)) : LOK T (.sl e) l := by
 cases h
 exact .sl e l ‹_› ‹_›
theorem ofL_lok {T : Nat → List K} {k : K} {l : L} {x : Value} (h : V0 T w A (ofL none k l) x) : LOK T k l := by
 cases k with
 | int ik => exact .int _ _
 | bool => exact .bool _
 | str => exact .str _
 | sl e => exact LOK.ofSl (show V0 T w A (.sl none e l.toSl) x from h).2.lok
theorem ofLs_lok {T : Nat → List K} {R : V → Value → Prop} (hR : ∀ v x, R v x → V0 T w A v x) : ∀ {ks : List K} {ls : List L} {xs : List Value}, F2 R (ofLs none ks ls) xs → LOKk T ks ls
 | [], ls, xs, _ => fun j k hj => by simp at hj
 | k :: ks, ls, xs, h => by
  simp only [ofLs] at h
  cases h with
  | cons hv ht =>
   intro j kk hj
   cases j with
   | zero =>
    simp at hj
    subst hj
    rw [← getD_headD]; exact ofL_lok (hR _ _ hv)
   | succ j =>
    rw [← getD_tail]
    exact ofLs_lok hR ht j kk (by simpa using hj)
theorem cptr_lok {T : Nat → List K} {ks : List K} {ls : List L} {x : Value} (h : V0 T w A (.cptr none ks (padL ks.length ls) 0) x) : LOKk T ks ls := by
 intro j k hj
 obtain ⟨_, b, q, vv, _, _, h3⟩ := h
 have := (h3 j k hj).2.lok
 rwa [padL_getD _ _ _ (List.getElem?_eq_some_iff.1 hj).1] at this
theorem caps_lok {T : Nat → List K} : ∀ {qs : List (List K)} {ls : List L} {xs : List Value}, F2 (V0 T w A) (capVs qs ls) xs → LOKc T qs ls
 | [], _, _, _ => trivial
 | q :: qs, ls, xs, h => by
  simp only [capVs] at h
  cases h with
  | cons hv ht => exact ⟨cptr_lok hv, caps_lok ht⟩
theorem args_lok {T : Nat → List K} : ∀ {ps : List Pat} {ls : List L} {xs : List Value}, F2 (V2 T w A) (argVs ps ls) xs → LOKs T ps ls
 | [], _, _, _ => trivial
 | p :: ps, ls, xs, h => by
  simp only [argVs] at h
  cases h with
  | cons hv ht =>
   refine ⟨?_, args_lok ht⟩
   cases p with
   | rd k =>
    have key : ∀ {x : Value}, V2 T w A (ofL none k (ls.headD .hole)) x → V0 T w A (ofL none k (ls.headD .hole)) x := by
     intro x hx
     cases k <;> exact hx
    exact ofL_lok (key hv)
   | agg ks =>
    obtain ⟨l, _, hl⟩ := (show V1 T w A (.agg (ofLs none ks ls)) _ from hv)
    exact ofLs_lok (R := Vc T w A) (fun _ _ h => h.1) hl
   | ptr ks => exact cptr_lok (show V0 T w A (.cptr none ks (padL ks.length ls) 0) _ from hv)
   | fn f qs =>
    obtain ⟨l, _, hl⟩ := (show V1 T w A (.fn f (capVs qs ls)) _ from hv)
    exact caps_lok hl
   | nil => exact trivial
theorem valid_of {E0 : Env} {g : FuncId} {fn : Func} {c : Code} {con : Con} (hT : ∀ t i, E.T t = some i → TyOK P E t i) (hG : ∀ g c, c ∈ E.G g → Valid P E g c) (hM : ∀ g c, c ∈ E.M g → MValid P E g c) (hD : ∀ w0 M Z0 ans, DrawsOK P E w0 M Z0 ans)
    (he : E.T = E0.T) (hnp : E.np = 0) (hf : P.funcs[g]? = some fn) (hname : (fn.name == "runtime.NumGoroutine") = false) (hb : fn.body = some c) (hfine : con.res.fine = true) (hn : (loopIds c).Nodup)
    (hnt : con.args.length + (fn.ntmps - con.args.length) = E.nt) (live : Nat → Live) (h : ∀ ls r, LOKs E.cells con.args ls → con.sem ls = some r → ∃ n, runF E live fn con.res n (initS con.args ls) = some r) : Valid P E0 g con := by
  have hbody : bodyOf fn = c := by simp [bodyOf, hb]
  have hc : E0.cells = E.cells := by funext t; simp [Env.cells, he]
  refine ⟨⟨fn, hf, hname, by rw [hb]; rfl⟩, ?_, fun ls r w vs Z hs hv => ?_⟩
  · simp only [RP.fine, Bool.and_eq_true] at hfine; exact hfine.1
  rw [hc] at hv
  obtain ⟨n, hrun⟩ := h ls r (args_lok hv) hs
  have hvl : vs.length = con.args.length := by
    rw [← hv.length]
    have : ∀ (ps : List Pat) (ls : List L), (argVs ps ls).length = ps.length := by
      intro ps
      induction ps with
      | nil => intro _; rfl
      | cons p ps ih => intro ls; simp [argVs, ih]
    exact this _ _
  have key := runF_sound (live := live) (P := P) (w0 := w) (M := noMn E.np) (Z0 := (A0 Z w).Z) (Q := bodyPost P fn (Left E w (A0 Z w).Z con.res r)) hT hG hM (hD _ _ _ _) (by rw [hbody]; exact hn) (done_fits hT hfine) hrun
    (a := { tmps := vs.toArray ++ Array.replicate (fn.ntmps - vs.toArray.size) undef, defers := [] }) (w := w) ⟨A0 Z w, ⟨⟨fun _ _ h => h.elim, fun _ _ _ h => h.elim, fun _ _ => rfl, fun _ _ h => h.elim, Fr.refl _ _, fun _ _ h => h.elim, fun _ h => .inr h, fun j hj => absurd hj (by rw [hnp]; exact Nat.not_lt_zero j)⟩, fun i x hx => ?_, fun _ _ h => h.elim, rfl, ?_⟩, rfl⟩
  · rw [hbody] at key
    refine (calls_of_wp hf hb key).mono fun e w' hR => ?_
    unfold Left at hR
    rw [hc]; exact hR
  · show V2 E.cells w (A0 Z w) (nthV (argVs con.args ls) i) x
    by_cases hi : i < vs.length
    · have hx' : vs[i]? = some x := by simpa [Array.getElem?_append, hi] using hx
      have hl := hv.length
      have hg := List.getElem?_eq_getElem (show i < (argVs con.args ls).length by omega)
      obtain ⟨y, hy, hr⟩ := hv.get hg
      rw [hx'] at hy; injection hy with hy; subst hy
      rw [nthV_get hg]; exact hr
    · rw [nthV_none (by rw [hv.length]; omega)]
      have : x = undef := by
        have h2 : ¬ i < vs.toArray.size := by simpa using hi
        rw [Array.getElem?_append, if_neg h2] at hx
        have := (Array.getElem?_eq_some_iff.1 hx).2
        rw [← this]; simp
      exact this
  · simp only [Array.size_append, List.size_toArray, Array.size_replicate]; rw [hvl]; exact hnt
theorem rowsM_spec {hp : Nat → Root} : ∀ {es : List Nat} {j : Nat} {k : List L → Ans}, rowsM hp j es k = some ans → ∃ ls, k ls = some ans ∧ ∀ i e, es[i]? = some e → ∃ xs, hp (j + i) = .row e xs ∧ ls.getD i .hole = .sl xs
  | [], j, k, h => ⟨_, h, fun i e hi => by simp at hi⟩
  | e :: es, j, k, h => by
    simp only [rowsM] at h
    split at h
    · rename_i e' xs hr
      cases hb : Nat.beq e e' <;> simp only [hb, cond_true, cond_false] at h
      · cases h
      obtain rfl := Nat.eq_of_beq_eq_true hb
      obtain ⟨ls, h1, h2⟩ := rowsM_spec h
      refine ⟨_, h1, fun i e0 hi => ?_⟩
      cases i with
      | zero => simp at hi; subst hi; exact ⟨xs, hr, rfl⟩
      | succ i =>
        obtain ⟨ys, g1, g2⟩ := h2 i e0 (by simpa using hi)
        exact ⟨ys, by rw [← g1]; congr 1; omega, by simpa using g2⟩
    · cases h
def LeftM (E : Env) (w0 : World) (A : Asg) (es : List Nat) (r : List L) (e : Ending) (w' : World) : Prop :=
 ∃ n rows, ∃ N : Nat → Nat → Prop, r = .int n :: rows ∧ e = .returned (.int .i64 n) ∧ Fr w0 w' (fun b => ∃ j, A.N j b) ∧
  (∀ j q b, N j b → N q b → j = q) ∧ (∀ j b, N j b → b < w'.heap.size ∧ ((∃ i, A.N i b) ∨ w0.heap.size ≤ b)) ∧
  ∀ j e, es[j]? = some e → Own E.cells w' (N j) (.sl e) (A.v j) (rows.getD j .hole)
theorem doneM_fits (hT : ∀ t i, E.T t = some i → TyOK P E t i) {f : Func} {es : List Nat} {A : Asg} {Z0 : Nat → Prop} (hes : es.length = E.np) :
    Fits E w0 ⟨fun b => ∃ j, A.N j b, A.v⟩ Z0 ans (doneK E f (.chg es)) (bodyPost P f (LeftM E w0 A es ans)) := by
  intro e s a w h ⟨A', sm, hz⟩
  have key : (slotsOf E s f.results.toList fun vs => match vs with
    | [.int .i64 n] => rowsM s.hp 0 es fun ls => some (.int n :: ls)
    | _ => none) = some ans → a.defers = [] ∧ ∃ v, (results f a.tmps).run P w = .ok v w ∧ LeftM E w0 A es ans (.returned v) w := by
    intro h
    refine ⟨sm.df, ?_⟩
    have hh := sm.hp
    obtain ⟨vs, xs, h1, h2, h3⟩ := slotsOf_sound hT sm h
    split at h1
    · rename_i n
      obtain ⟨ls, g1, g2⟩ := rowsM_spec h1
      injection g1 with g1
      subst g1
      cases h2 with
      | cons hv ht =>
        cases ht
        obtain rfl := (show _ = Value.int .i64 n from hv)
        refine ⟨_, run_results h3, n, ls, A'.N, rfl, rfl, hh.fr, hh.dj, fun j b hb => ⟨hh.lt j b hb, hh.nm j b hb⟩, fun j e hj => ?_⟩
        obtain ⟨xs, e1, e2⟩ := g2 j e hj
        rw [Nat.zero_add] at e1
        have hroot := hh.rt j
        rw [e1] at hroot
        rw [e2]
        have hp := (hh.pn j (by rw [← hes]; exact (List.getElem?_eq_some_iff.1 hj).1)).2
        have := hroot.2
        rwa [hp] at this
    · cases h1
  cases e with
  | exit j => cases h
  | normal => exact key h
  | ret => exact key h
def LOKm (T : Nat → List K) (ps : List (Bool × List K)) (ls : List L) : Prop := ∀ e xs, Root.row e xs ∈ margRs ps ls → LOK T (.sl e) (.sl xs)
theorem margVs_length : ∀ {ps : List (Bool × List K)} {ls : List L} {j : Nat}, (margVs ps ls j).length = ps.length
 | [], _, _ => rfl
 | p :: ps, ls, j => by simp [margVs, margVs_length (ps := ps)]
theorem lookH_mem : ∀ {rs : List Root} {o : Root}, o ∈ rs → ∃ j, lookH rs j = o
  | [], o, h => by simp at h
  | r :: rs, o, h => by
    rcases List.mem_cons.1 h with rfl | h
    · exact ⟨0, rfl⟩
    · obtain ⟨j, hj⟩ := lookH_mem h
      exact ⟨j + 1, hj⟩
theorem mvalid_of {E0 : Env} {g : FuncId} {fn : Func} {c : Code} {con : MCon} (hT : ∀ t i, E.T t = some i → TyOK P E t i) (hG : ∀ g c, c ∈ E.G g → Valid P E g c) (hM : ∀ g c, c ∈ E.M g → MValid P E g c) (hD : ∀ w0 M Z0 ans, DrawsOK P E w0 M Z0 ans)
    (he : E.T = E0.T) (hnp : E.np = (slPs con.args).length) (hf : P.funcs[g]? = some fn) (hname : (fn.name == "runtime.NumGoroutine") = false) (hb : fn.body = some c) (hn : (loopIds c).Nodup)
    (hnt : con.args.length + (fn.ntmps - con.args.length) = E.nt) (live : Nat → Live) (h : ∀ ls r, LOKm E.cells con.args ls → con.sem ls = some r → ∃ n, runF E live fn (.chg (slPs con.args)) n (initM con.args ls) = some r) : MValid P E0 g con := by
  have hbody : bodyOf fn = c := by simp [bodyOf, hb]
  have hc : E0.cells = E.cells := by funext t; simp [Env.cells, he]
  refine ⟨⟨fn, hf, hname, by rw [hb]; rfl⟩, fun ls r w vs A hs hp hal hv => ?_⟩
  rw [hc] at hv hp ⊢
  have hlok : LOKm E.cells con.args ls := by
    intro e xs hm
    obtain ⟨j, hj⟩ := lookH_mem hm
    have := hp.rt j
    rw [hj] at this
    exact this.2.slOf.rd.lok
  obtain ⟨n, hrun⟩ := h ls r hlok hs
  have hvl : vs.length = con.args.length := by rw [← hv.length, margVs_length]
  have key := runF_sound (live := live) (P := P) (w0 := w) (M := ⟨fun b => ∃ j, A.N j b, A.v⟩) (Z0 := A.Z) (Q := bodyPost P fn (LeftM E w A (slPs con.args) r)) hT hG hM (hD _ _ _ _) (by rw [hbody]; exact hn) (doneM_fits hT hnp.symm) hrun
    (a := { tmps := vs.toArray ++ Array.replicate (fn.ntmps - vs.toArray.size) undef, defers := [] }) (w := w) ⟨A, ⟨⟨hp.lt, hp.dj, hp.al, hp.rt, hp.fr, hp.nm, hp.zf, fun j hj => hp.pn j (hnp ▸ hj)⟩, fun i x hx => ?_, hal, rfl, ?_⟩, rfl⟩
  · rw [hbody] at key
    exact (calls_of_wp hf hb key).mono fun e w' hR => hR
  · show V2 E.cells w A (nthV (margVs con.args ls 0) i) x
    by_cases hi : i < vs.length
    · have hx' : vs[i]? = some x := by simpa [Array.getElem?_append, hi] using hx
      have hl := hv.length
      have hg := List.getElem?_eq_getElem (show i < (margVs con.args ls 0).length by omega)
      obtain ⟨y, hy, hr⟩ := hv.get hg
      rw [hx'] at hy; injection hy with hy; subst hy
      rw [nthV_get hg]; exact hr
    · rw [nthV_none (by rw [hv.length]; omega)]
      have : x = undef := by
        have h2 : ¬ i < vs.toArray.size := by simpa using hi
        rw [Array.getElem?_append, if_neg h2] at hx
        have := (Array.getElem?_eq_some_iff.1 hx).2
        rw [← this]; simp
      exact this
  · simp only [Array.size_append, List.size_toArray, Array.size_replicate]; rw [hvl]; exact hnt
end
end Go.DM
set_option linter.unusedSectionVars false
namespace Go.DM
section
variable {ans : List L} {E : Env} {hp : Nat → Root}
theorem cellsV_det {v : V} {k : List V → Ans} (h : cellsV v k = some ans) : ∃ cs, k cs = some ans ∧ ∀ k' : List V → Ans, cellsV v k' = k' cs := by
 cases v <;> first | exact ⟨_, h, fun _ => rfl⟩ | cases h
theorem leavesK_det : ∀ {ks : List K} {vs : List V} {k : List L → Ans}, leavesK hp ks vs k = some ans → ∃ ls, k ls = some ans ∧ ∀ hp0, Sub hp hp0 → ∀ k' : List L → Ans, leavesK hp0 ks vs k' = k' ls
  | [], [], k, h => ⟨[], h, fun _ _ _ => rfl⟩
  | [], _ :: _, k, h => by cases h
  | _ :: _, [], k, h => by cases h
  | kk :: ks, v :: vs, k, h => by
    simp only [leavesK] at h
    cases hf : fits hp kk v <;> simp only [hf, cond_true, cond_false] at h
    · cases h
    obtain ⟨l, h1, h2⟩ := leafL_det h
    obtain ⟨ls, h3, h4⟩ := leavesK_det h1
    refine ⟨_, h3, fun hp0 hs k' => ?_⟩
    simp only [leavesK, fits_sub hf h hs, cond_true, h2 hp0 hs, h4 hp0 hs]
theorem litL_det {ks : List K} : ∀ {n : Nat} {cs : List V} {k : List (List L) → Ans}, litL hp ks n cs k = some ans → ∃ xs, k xs = some ans ∧ ∀ hp0, Sub hp hp0 → ∀ k' : List (List L) → Ans, litL hp0 ks n cs k' = k' xs
 | 0, cs, k, h => ⟨[], h, fun _ _ _ => rfl⟩
 | n + 1, cs, k, h => by
  simp only [litL] at h
  obtain ⟨l, h1, h2⟩ := leavesK_det h
  obtain ⟨ls, h3, h4⟩ := litL_det h1
  exact ⟨_, h3, fun hp0 hs k' => by simp only [litL, h2 hp0 hs, h4 hp0 hs]⟩
theorem readSl_det {v : V} {k : Option Nat → Nat → List (List L) → Ans} (h : readSl E hp v k = some ans) : ∃ d e xs, k d e xs = some ans ∧ ∀ hp0, Sub hp hp0 → ∀ k' : Option Nat → Nat → List (List L) → Ans, readSl E hp0 v k' = k' d e xs := by
  cases v <;> first | (cases h; done) | skip
  case sl d e xs => exact ⟨_, _, _, h, fun _ _ _ => rfl⟩
  case own r =>
    simp only [readSl] at h
    split at h
    · rename_i e xs hr
      exact ⟨_, _, _, h, fun hp0 hs k' => by simp only [readSl, hs.row hr (by simp)]⟩
    · cases h
  case lit r n e =>
    simp only [readSl] at h
    split at h
    · rename_i cs hr
      cases hp : (Nat.ble n 16777216 && cs.all plainLeaf) <;> simp only [hp, cond_true, cond_false] at h
      · cases h
      obtain ⟨xs, h1, h2⟩ := litL_det h
      exact ⟨_, _, _, h1, fun hp0 hs k' => by simp only [readSl, hs.row hr (by simp), hp, cond_true, h2 hp0 hs]⟩
    · cases h
  case inn r sz i o e =>
    simp only [readSl] at h
    split at h
    · rename_i er xs hr
      cases hz : Nat.beq sz (E.cells er).length <;> simp only [hz, cond_true, cond_false] at h
      · cases h
      split at h
      · rename_i e2 he2
        cases hk : Nat.beq e e2 <;> simp only [hk, cond_true, cond_false] at h
        · cases h
        exact ⟨_, _, _, h, fun hp0 hs k' => by simp only [readSl, hs.row hr (by simp), hz, he2, hk, cond_true]⟩
      · cases h
    · cases h
theorem ptrL_det {ks : List K} {v : V} {k : List L → Ans} (h : ptrL hp ks v k = some ans) : ∃ ls, k ls = some ans ∧ ∀ hp0, Sub hp hp0 → ∀ k' : List L → Ans, ptrL hp0 ks v k' = k' ls := by
  cases v <;> first | (cases h; done) | skip
  case bptr r o =>
    simp only [ptrL] at h
    cases ho : Nat.beq o 0 <;> simp only [ho, cond_true, cond_false] at h
    · cases h
    split at h
    · rename_i cs hr
      obtain ⟨ls, h1, h2⟩ := leavesK_det h
      exact ⟨_, h1, fun hp0 hs k' => by simp only [ptrL, ho, cond_true, hs.row hr (by simp), h2 hp0 hs]⟩
    · cases h
  case cptr d es cells o =>
    simp only [ptrL] at h
    cases ho : (Nat.beq o 0 && beqKs es ks) <;> simp only [ho, cond_true, cond_false] at h
    · cases h
    exact ⟨_, h, fun hp0 hs k' => by simp only [ptrL, ho, cond_true]⟩
theorem capsL_det : ∀ {qs : List (List K)} {vs : List V} {k : List L → Ans}, capsL hp qs vs k = some ans → ∃ ls, k ls = some ans ∧ ∀ hp0, Sub hp hp0 → ∀ k' : List L → Ans, capsL hp0 qs vs k' = k' ls
 | [], [], k, h => ⟨[], h, fun _ _ _ => rfl⟩
 | [], _ :: _, k, h => by cases h
 | _ :: _, [], k, h => by cases h
 | q :: qs, v :: vs, k, h => by
  simp only [capsL] at h
  obtain ⟨a, h1, h2⟩ := ptrL_det h
  obtain ⟨b, h3, h4⟩ := capsL_det h1
  exact ⟨_, h3, fun hp0 hs k' => by simp only [capsL, h2 hp0 hs, h4 hp0 hs]⟩
theorem argL_det {p : Pat} {v : V} {k : List L → Ans} (h : argL E hp p v k = some ans) : ∃ ls, k ls = some ans ∧ ∀ hp0, Sub hp hp0 → ∀ k' : List L → Ans, argL E hp0 p v k' = k' ls := by
  cases p with
  | rd kk =>
    have other : leavesK hp [kk] [v] k = some ans → (∀ hp0 (k' : List L → Ans), argL E hp0 (.rd kk) v k' = leavesK hp0 [kk] [v] k') → ∃ ls, k ls = some ans ∧ ∀ hp0, Sub hp hp0 → ∀ k' : List L → Ans, argL E hp0 (.rd kk) v k' = k' ls := by
      intro h he
      obtain ⟨ls, h1, h2⟩ := leavesK_det h
      exact ⟨ls, h1, fun hp0 hs k' => by rw [he, h2 hp0 hs]⟩
    cases v
    case lit r n e =>
      simp only [argL] at h
      split at h
      · rename_i cs hr
        cases hk : (K.beq kk (.sl e) && Nat.ble n 16777216) <;> simp only [hk, cond_true, cond_false] at h
        · cases h
        obtain ⟨xs, h1, h2⟩ := litL_det h
        exact ⟨_, h1, fun hp0 hs k' => by simp only [argL, hs.row hr (by simp), hk, cond_true, h2 hp0 hs]⟩
      · cases h
    all_goals exact other h (fun _ _ => rfl)
  | agg ks =>
    cases v <;> first | (cases h; done) | skip
    obtain ⟨ls, h1, h2⟩ := leavesK_det h
    exact ⟨ls, h1, fun hp0 hs k' => h2 hp0 hs k'⟩
  | ptr ks =>
    obtain ⟨ls, h1, h2⟩ := ptrL_det h
    exact ⟨ls, h1, fun hp0 hs k' => h2 hp0 hs k'⟩
  | fn f qs =>
    cases v <;> first | (cases h; done) | skip
    rename_i g caps
    simp only [argL] at h
    cases hf : Nat.beq f g <;> simp only [hf, cond_true, cond_false] at h
    · cases h
    obtain ⟨ls, h1, h2⟩ := capsL_det h
    exact ⟨ls, h1, fun hp0 hs k' => by simp only [argL, hf, cond_true, h2 hp0 hs]⟩
  | nil =>
    cases v <;> first | (cases h; done) | skip
    exact ⟨[], h, fun hp0 hs k' => rfl⟩
theorem argsL_det : ∀ {ps : List Pat} {vs : List V} {k : List L → Ans}, argsL E hp ps vs k = some ans → ∃ ls, k ls = some ans ∧ ∀ hp0, Sub hp hp0 → ∀ k' : List L → Ans, argsL E hp0 ps vs k' = k' ls
 | [], [], k, h => ⟨[], h, fun _ _ _ => rfl⟩
 | [], _ :: _, k, h => by cases h
 | _ :: _, [], k, h => by cases h
 | q :: qs, v :: vs, k, h => by
  simp only [argsL] at h
  obtain ⟨a, h1, h2⟩ := argL_det h
  obtain ⟨b, h3, h4⟩ := argsL_det h1
  exact ⟨_, h3, fun hp0 hs k' => by simp only [argsL, h2 hp0 hs, h4 hp0 hs]⟩
def Det (f : (Nat → Root) → (V → List Root → Ans) → Ans) (hp : Nat → Root) (k : V → List Root → Ans) (ans : List L) : Prop := ∃ v rs, k v rs = some ans ∧ ∀ hp0, Sub hp hp0 → ∀ k', f hp0 k' = k' v rs
theorem callG_det {nx : Nat} {vs : List V} {k : V → List Root → Ans} : ∀ {cs : List Con}, callG E hp nx vs k cs = some ans → Det (fun hp0 k' => callG E hp0 nx vs k' cs) hp k ans
  | [], h => by cases h
  | c :: cs, h => by
    simp only [callG] at h
    cases hc : conFits c.args vs <;> simp only [hc, cond_true, cond_false] at h
    · obtain ⟨v, rs, h1, h2⟩ := callG_det h
      exact ⟨v, rs, h1, fun hp0 hs k' => by simp only [callG, hc, cond_false]; exact h2 hp0 hs k'⟩
    · cases hv : (c.res.view && !vs.all plainV) <;> simp only [hv, cond_true, cond_false] at h
      · obtain ⟨ls, h1, h2⟩ := argsL_det h
        cases hr : c.sem ls with
        | none => rw [hr] at h1; cases h1
        | some r =>
          rw [hr] at h1
          simp only [Option.bind_some, resV_eq] at h1
          exact ⟨_, _, h1, fun hp0 hs k' => by simp only [callG, hc, hv, cond_true, cond_false, h2 hp0 hs, hr, Option.bind_some, resV_eq]⟩
      · cases h
theorem bif_det {b : Bool} {x : Ans} (h : (bif b then x else none) = some ans) : b = true ∧ x = some ans := by cases b <;> simp at h; exact ⟨rfl, h⟩
theorem eqCells_det : ∀ {cs ds : List V} {k : Bool → Ans}, eqCells cs ds k = some ans → ∃ r, k r = some ans ∧ ∀ k' : Bool → Ans, eqCells cs ds k' = k' r
 | [], [], k, h => ⟨true, h, fun _ => rfl⟩
 | [], _ :: _, k, h => by cases h
 | c :: cs, [], k, h => by simp [eqCells] at h
 | c :: cs, d :: ds, k, h => by
  cases c <;> cases d <;> simp only [eqCells] at h <;> first | (cases h; done) | skip
  case int.int ik p jk q =>
   obtain ⟨b0, h0⟩ := bif_det h
   obtain ⟨r, h1, h2⟩ := eqCells_det h0
   exact ⟨_, h1, fun k' => by simp only [eqCells, b0, cond_true, h2]⟩
  case bool.bool p q =>
   obtain ⟨r, h1, h2⟩ := eqCells_det h
   exact ⟨_, h1, fun k' => by simp only [eqCells, h2]⟩
  case str.str p q =>
   obtain ⟨r, h1, h2⟩ := eqCells_det h
   exact ⟨_, h1, fun k' => by simp only [eqCells, h2]⟩
theorem binOp_det {op : BinOp} {t : TypeId} {x y : V} {k : V → Ans} (h : binOp E op t x y k = some ans) : ∃ v, k v = some ans ∧ ∀ k' : V → Ans, binOp E op t x y k' = k' v := by
  cases x <;> first | (cases h; done) | skip
  case int ik a =>
    cases y <;> first | (cases h; done) | skip
    rename_i jk b
    cases op
    case shl =>
      simp only [binOp, shlI] at h
      by_cases hb : b < 0
      · simp [hb] at h
      · simp only [hb, decide_false, cond_false] at h
        exact ⟨_, h, fun k' => by simp only [binOp, shlI, hb, decide_false, cond_false]⟩
    case shr =>
      simp only [binOp, shrI] at h
      by_cases hb : b < 0
      · simp [hb] at h
      · simp only [hb, decide_false, cond_false] at h
        exact ⟨_, h, fun k' => by simp only [binOp, shrI, hb, decide_false, cond_false]⟩
    all_goals
      simp only [binOp] at h
      cases hk : ikBeq ik jk <;> simp only [hk, cond_true, cond_false] at h
      · cases h
      first
      | (simp only [intOp] at h; exact ⟨_, h, fun k' => by simp only [binOp, intOp, hk, cond_true]⟩)
      | (by_cases hb : b = 0
         · simp [hb, intOp] at h
         · simp only [hb, intOp, decide_false, cond_false] at h
           exact ⟨_, h, fun k' => by simp only [binOp, intOp, hk, cond_true, hb, decide_false, cond_false]⟩)
      | (simp only [intOp] at h; cases h)
  case bool a =>
    cases y <;> first | (cases h; done) | skip
    simp only [binOp] at h
    cases hk : TI.isBool (E.T t) <;> simp only [hk, cond_true, cond_false] at h
    · cases h
    cases op <;> simp only at h <;> first
      | exact ⟨_, h, fun k' => by simp only [binOp, hk, cond_true]⟩
      | cases h
  case agg cs =>
    cases y <;> first | (cases h; done) | skip
    rename_i ds
    simp only [binOp] at h
    obtain ⟨b0, h0⟩ := bif_det h
    cases op <;> simp only at h0 <;> first
      | (obtain ⟨r, h1, h2⟩ := eqCells_det h0; exact ⟨_, h1, fun k' => by simp only [binOp, b0, cond_true, h2]⟩)
      | cases h0
  case str a =>
    cases y <;> first | (cases h; done) | skip
    rename_i b
    simp only [binOp] at h
    cases op <;> simp only at h <;> first
      | exact ⟨_, h, fun k' => by simp only [binOp]⟩
      | (by_cases hb : ((a.size + b.size : Nat) : Int) > 9223372036854775807
         · simp only [hb, decide_true, cond_true] at h; cases h
         · simp only [hb, decide_false, cond_false] at h
           exact ⟨_, h, fun k' => by simp only [binOp, hb, decide_false, cond_false]⟩)
      | cases h
theorem buildV_det {fs : List (Nat × Nat)} {ρ : Operand → V} : ∀ {ps : List (Nat × Operand)} {cs : List V} {k : List V → Ans}, buildV E fs ρ ps cs k = some ans → ∃ cs', k cs' = some ans ∧ ∀ k' : List V → Ans, buildV E fs ρ ps cs k' = k' cs'
  | [], cs, k, h => ⟨cs, h, fun _ => rfl⟩
  | p :: ps, cs, k, h => by
    simp only [buildV] at h
    split at h
    · cases h
    · rename_i f hf
      obtain ⟨new, h1, h2⟩ := cellsV_det h
      cases hc : (Nat.beq new.length (E.cells f.2).length && Nat.ble (f.1 + new.length) cs.length) <;> simp only [hc, cond_true, cond_false] at h1
      · cases h1
      obtain ⟨cs', h3, h4⟩ := buildV_det h1
      exact ⟨cs', h3, fun k' => by simp only [buildV, hf, h2, hc, cond_true, h4]⟩
theorem rowV_det {e : Nat} {ρ : Operand → V} : ∀ {ps : List (Nat × Operand)} {j : Nat} {k : List V → Ans}, rowV E e ρ ps j k = some ans → ∃ cs', k cs' = some ans ∧ ∀ k' : List V → Ans, rowV E e ρ ps j k' = k' cs'
  | [], j, k, h => ⟨_, h, fun _ => rfl⟩
  | p :: ps, j, k, h => by
    simp only [rowV] at h
    cases hj : Nat.beq p.1 j <;> simp only [hj, cond_true, cond_false] at h
    · cases h
    obtain ⟨new, h1, h2⟩ := cellsV_det h
    cases hc : Nat.beq new.length (E.cells e).length <;> simp only [hc, cond_true, cond_false] at h1
    · cases h1
    obtain ⟨cs', h3, h4⟩ := rowV_det h1
    exact ⟨_, h3, fun k' => by simp only [rowV, hj, cond_true, h2, hc, h4]⟩
theorem lenV_det {u : Nat} {v : V} {k : V → List Root → Ans} (h : lenV E hp u v k = some ans) : Det (fun hp0 k' => lenV E hp0 u v k') hp k ans := by
  cases v
  case str s =>
    simp only [lenV] at h
    cases hs : TI.isStr (E.T u) <;> simp only [hs, cond_true, cond_false] at h
    · cases h
    exact ⟨_, _, h, fun hp0 _ k' => by simp only [lenV, hs, cond_true]⟩
  all_goals
    simp only [lenV] at h
    cases hu : (E.T u).bind TI.el with
    | none => rw [hu] at h; cases h
    | some el =>
      rw [hu] at h
      simp only at h
      first
        | (obtain ⟨d, e, xs, h1, h2⟩ := readSl_det h
           exact ⟨_, _, h1, fun hp0 hs k' => by simp only [lenV, hu, h2 hp0 hs]⟩)
        | exact ⟨_, _, h, fun hp0 hs k' => by simp only [lenV, hu]⟩
theorem boundV_det {ρ : Operand → V} {b : Option Operand} {d : Int} {k : Int → Ans} (h : boundV ρ b d k = some ans) : ∃ n, k n = some ans ∧ ∀ k' : Int → Ans, boundV ρ b d k' = k' n := by
  unfold boundV at h
  split at h
  · exact ⟨_, h, fun _ => rfl⟩
  · rename_i x
    split at h
    · rename_i ik n he
      exact ⟨_, h, fun _ => by simp only [boundV, he]⟩
    · cases h
theorem sliceV_det {t : Nat} {ρ : Operand → V} {x : Operand} {lo hi mx : Option Operand} {k : V → List Root → Ans} (h : sliceV E hp t ρ x lo hi mx k = some ans) : Det (fun hp0 k' => sliceV E hp0 t ρ x lo hi mx k') hp k ans := by
 have nilcase : ρ x = .nil → Det (fun hp0 k' => sliceV E hp0 t ρ x lo hi mx k') hp k ans := by
  intro hx
  simp only [sliceV, hx] at h
  cases hu : (E.T t).bind TI.el with
  | none => rw [hu] at h; cases h
  | some el =>
   rw [hu] at h
   simp only at h
   cases mx with
   | none =>
    simp only at h
    obtain ⟨l, h1, h2⟩ := boundV_det h
    obtain ⟨g, h3, h4⟩ := boundV_det h1
    obtain ⟨b1, h5⟩ := bif_det h3
    obtain ⟨b2, h6⟩ := bif_det h5
    exact ⟨_, _, h6, fun hp0 _ k' => by simp only [sliceV, hx, hu, h2, h4, b1, b2, cond_true]⟩
   | some m =>
    simp only at h
    cases lo with
    | some _ => cases h
    | none =>
     simp only at h
     cases hi with
     | none => cases h
     | some g =>
      simp only at h
      obtain ⟨l, h1, h2⟩ := boundV_det h
      obtain ⟨g, h3, h4⟩ := boundV_det h1
      obtain ⟨b1, h5⟩ := bif_det h3
      obtain ⟨b2, h6⟩ := bif_det h5
      exact ⟨_, _, h6, fun hp0 _ k' => by simp only [sliceV, hx, hu, h2, h4, b1, b2, cond_true]⟩
 have strcase : ∀ s, ρ x = .str s → Det (fun hp0 k' => sliceV E hp0 t ρ x lo hi mx k') hp k ans := by
  intro s hx
  simp only [sliceV, hx] at h
  obtain ⟨b0, h0⟩ := bif_det h
  cases mx with
  | some _ => cases h0
  | none =>
   simp only at h0
   obtain ⟨l, h1, h2⟩ := boundV_det h0
   obtain ⟨g, h3, h4⟩ := boundV_det h1
   obtain ⟨b1, h5⟩ := bif_det h3
   obtain ⟨b2, h6⟩ := bif_det h5
   obtain ⟨b3, h7⟩ := bif_det h6
   exact ⟨_, _, h7, fun hp0 _ k' => by simp only [sliceV, hx, b0, h2, h4, b1, b2, b3, cond_true]⟩
 have rest : ∀ v, ρ x = v → v ≠ .nil → (∀ s, v ≠ .str s) → Det (fun hp0 k' => sliceV E hp0 t ρ x lo hi mx k') hp k ans := by
  intro v hx hn hs
  cases hu : (E.T t).bind TI.el with
  | none => cases v <;> first | exact (hn rfl).elim | exact (hs _ rfl).elim | exact absurd h (by simp [sliceV, hx, hu])
  | some el =>
   have key : ∀ {hp0 : Nat → Root} {k' : V → List Root → Ans}, sliceV E hp0 t ρ x lo hi mx k' = readSl E hp0 v (sliceR ρ el lo hi mx k') := by
    intro hp0 k'
    cases v <;> first | exact (hn rfl).elim | exact (hs _ rfl).elim | simp only [sliceV, hx, hu]
   rw [key] at h
   obtain ⟨d, e, xs, h1, h2⟩ := readSl_det h
   obtain ⟨b0, h3⟩ := bif_det (show (bif Nat.beq e el then _ else none) = some ans from h1)
   cases mx with
   | none =>
    simp only at h3
    obtain ⟨l, g1, g2⟩ := boundV_det h3
    obtain ⟨g, g3, g4⟩ := boundV_det g1
    obtain ⟨b1, h5⟩ := bif_det g3
    obtain ⟨b2, h6⟩ := bif_det h5
    obtain ⟨b3, h7⟩ := bif_det h6
    exact ⟨_, _, h7, fun hp0 hs' k' => by simp only [key]; simp only [h2 hp0 hs', sliceR, b0, g2, g4, b1, b2, b3, cond_true]⟩
   | some m =>
    simp only at h3
    cases lo with
    | some _ => cases h3
    | none =>
     simp only at h3
     cases hi with
     | none => cases h3
     | some g =>
      simp only at h3
      obtain ⟨l, g1, g2⟩ := boundV_det h3
      obtain ⟨g, g3, g4⟩ := boundV_det g1
      obtain ⟨b1, h5⟩ := bif_det g3
      obtain ⟨b2, h6⟩ := bif_det h5
      exact ⟨_, _, h6, fun hp0 hs' k' => by simp only [key]; simp only [h2 hp0 hs', sliceR, b0, g2, g4, b1, b2, cond_true]⟩
 cases hx : ρ x with
 | nil => exact nilcase hx
 | str s => exact strcase s hx
 | _ => exact rest _ hx (by simp) (by simp)
theorem convV_det {src dst : Nat} {v : V} {k : V → List Root → Ans} (h : convV E hp src dst v k = some ans) : Det (fun hp0 k' => convV E hp0 src dst v k') hp k ans := by
  cases v
  case int ik n =>
    simp only [convV] at h
    cases hs : E.T src with
    | none => rw [hs] at h; cases h
    | some _ =>
      rw [hs] at h
      cases hd : E.T dst with
      | none => rw [hd] at h; cases h
      | some i =>
        rw [hd] at h
        simp only at h
        cases ha : i.agg <;> simp only [ha, cond_true, cond_false] at h
        · split at h
          · rename_i jk hc
            exact ⟨_, _, h, fun hp0 _ k' => by simp only [convV, hs, hd, ha, cond_false, hc]⟩
          · cases h
        · cases h
  case str s =>
    simp only [convV] at h
    cases hs : TI.isStr (E.T src) <;> simp only [hs, cond_true, cond_false] at h
    · cases h
    cases hd : TI.isStr (E.T dst) <;> simp only [hd, cond_true, cond_false] at h
    · cases hu : (E.T dst).bind TI.el with
      | none => rw [hu] at h; cases h
      | some el =>
        rw [hu] at h
        simp only at h
        obtain ⟨b0, h1⟩ := bif_det h
        exact ⟨_, _, h1, fun hp0 _ k' => by simp only [convV, hs, hd, hu, b0, cond_true, cond_false]⟩
    · exact ⟨_, _, h, fun hp0 _ k' => by simp only [convV, hs, hd, cond_true]⟩
  all_goals
    simp only [convV] at h
    cases hu : (E.T src).bind TI.el with
    | none => rw [hu] at h; cases h
    | some el =>
      rw [hu] at h
      simp only at h
      obtain ⟨b0, h0⟩ := bif_det h
      first
        | (obtain ⟨d, e, xs, h1, h2⟩ := readSl_det h0
           obtain ⟨b1, h3⟩ := bif_det h1
           exact ⟨_, _, h3, fun hp0 hs k' => by simp only [convV, hu, b0, h2 hp0 hs, b1, cond_true]⟩)
        | exact ⟨_, _, h0, fun hp0 hs k' => by simp only [convV, hu, b0, cond_true]⟩
theorem evalQ_det {o : Op} {ρ : Operand → V} {nx : Nat} {k : V → List Root → Ans} (h : evalQ E o ρ hp nx k = some ans) : Det (fun hp0 k' => evalQ E o ρ hp0 nx k') hp k ans := by
  cases o <;> first | (simp only [evalQ] at h; cases h; done) | skip
  case move x => exact ⟨_, _, h, fun _ _ _ => rfl⟩
  case assign x => exact ⟨_, _, h, fun _ _ _ => rfl⟩
  case slice t x lo hi mx => simp only [evalQ] at h ⊢; exact sliceV_det h
  case convert s d x => simp only [evalQ] at h ⊢; exact convV_det h
  case pick c a b =>
    simp only [evalQ] at h
    split at h
    · rename_i t ht
      cases t with
      | true => exact ⟨_, _, h, fun hp0 _ k' => by simp only [evalQ, ht, cond_true]⟩
      | false => exact ⟨_, _, h, fun hp0 _ k' => by simp only [evalQ, ht, cond_false]⟩
    · cases h
  case unOp op t x =>
    cases op <;> first | (simp only [evalQ] at h; cases h; done) | skip
    all_goals
      simp only [evalQ] at h
      split at h
      · rename_i hx
        exact ⟨_, _, h, fun hp0 _ k' => by simp only [evalQ, hx]⟩
      · cases h
  case binOp op t x y ty =>
    simp only [evalQ] at h
    obtain ⟨v, h1, h2⟩ := binOp_det h
    exact ⟨_, _, h1, fun hp0 _ k' => by simp only [evalQ, h2]⟩
  case alloc t =>
    simp only [evalQ] at h
    split at h
    · rename_i i ht
      exact ⟨_, _, h, fun hp0 _ k' => by simp only [evalQ, ht]⟩
    · cases h
  case box t x =>
    simp only [evalQ] at h
    split at h
    · rename_i i ht
      obtain ⟨cs, h1, h2⟩ := cellsV_det h
      exact ⟨_, _, h1, fun hp0 _ k' => by simp only [evalQ, ht, h2]⟩
    · cases h
  case fieldAddr t x f =>
    simp only [evalQ] at h
    split at h
    · cases h
    rename_i i ht
    split at h
    · cases h
    rename_i p hp
    split at h
    · rename_i hx; exact ⟨_, _, h, fun hp0 _ k' => by simp only [evalQ, ht, hp, hx]⟩
    · rename_i hx; exact ⟨_, _, h, fun hp0 _ k' => by simp only [evalQ, ht, hp, hx]⟩
    · rename_i hx; exact ⟨_, _, h, fun hp0 _ k' => by simp only [evalQ, ht, hp, hx]⟩
    · cases h
  case field t x f =>
    simp only [evalQ] at h
    split at h
    · cases h
    rename_i i ht
    split at h
    · cases h
    rename_i p hp
    split at h
    · rename_i cs hx
      split at h
      · rename_i fi hfi
        cases hb : Nat.ble (p.1 + fi.cells.length) cs.length <;> simp only [hb, cond_true, cond_false] at h
        · cases h
        exact ⟨_, _, h, fun hp0 _ k' => by simp only [evalQ, ht, hp, hx, hfi, hb, cond_true]⟩
      · cases h
    · cases h
  case load t x =>
    simp only [evalQ] at h
    split at h
    · cases h
    rename_i i ht
    split at h
    · rename_i r q hx
      split at h
      · rename_i cs hr
        cases hb : Nat.ble (q + i.cells.length) cs.length <;> simp only [hb, cond_true, cond_false] at h
        · cases h
        exact ⟨_, _, h, fun hp0 hs k' => by simp only [evalQ, ht, hx, hs.row hr (by simp), hb, cond_true]⟩
      · cases h
    · rename_i r sz j q hx
      split at h
      · rename_i e xs hr
        cases hb : (Nat.beq sz (E.cells e).length && Nat.ble (q + i.cells.length) sz) <;> simp only [hb, cond_true, cond_false] at h
        · cases h
        cases hmt : (E.mt && !allPlain (cut (E.cells e) q i.cells.length)) <;> simp only [hmt, cond_true, cond_false] at h
        case true =>
          split at h
          · rename_i e' hcut
            cases ha : i.agg <;> simp only [ha, cond_true, cond_false] at h
            · have hmt' : (E.mt && !allPlain [K.sl e']) = true := by rw [hcut] at hmt; exact hmt
              exact ⟨_, _, h, fun hp0 hs k' => by simp only [evalQ, ht, hx, hs.row hr (by simp), hb, cond_true, hcut, hmt', ha, cond_false]⟩
            · cases h
          · cases h
        exact ⟨_, _, h, fun hp0 hs k' => by simp only [evalQ, ht, hx, hs.row hr (by simp), hb, cond_true, hmt, cond_false]⟩
      · rename_i e xs j0 cs hr
        cases hb : (Nat.beq j j0 && (Nat.beq sz (E.cells e).length && Nat.ble (q + i.cells.length) sz)) <;> simp only [hb, cond_true, cond_false] at h
        · cases h
        cases hmt : (!allPlain (cut (E.cells e) q i.cells.length)) <;> simp only [hmt, cond_true, cond_false] at h
        case true =>
          split at h
          · rename_i e' hcut
            cases ha : i.agg <;> simp only [ha, cond_true, cond_false] at h
            · have hmt' : (!allPlain [K.sl e']) = true := by rw [hcut] at hmt; exact hmt
              exact ⟨_, _, h, fun hp0 hs k' => by simp only [evalQ, ht, hx, hs.row hr (by simp), hb, cond_true, hcut, hmt', ha, cond_false]⟩
            · cases h
          · cases h
        exact ⟨_, _, h, fun hp0 hs k' => by simp only [evalQ, ht, hx, hs.row hr (by simp), hb, cond_true, hmt, cond_false]⟩
      · cases h
    · rename_i d es cs q hx
      cases hb : Nat.ble (q + i.cells.length) es.length <;> simp only [hb, cond_true, cond_false] at h
      · cases h
      exact ⟨_, _, h, fun hp0 hs k' => by simp only [evalQ, ht, hx, hb, cond_true]⟩
    · cases h
  case indexAddr t x i =>
    simp only [evalQ] at h
    split at h
    · cases h
    rename_i el hel
    split at h
    · rename_i ik n hi
      split at h
      · rename_i r hx
        split at h
        · rename_i e xs hr
          cases hb : Nat.beq e el <;> simp only [hb, cond_true, cond_false] at h
          · cases h
          by_cases h0 : 0 ≤ n
          · by_cases h1 : n < (xs.length : Int)
            · simp only [h0, h1, decide_true, cond_true] at h
              exact ⟨_, _, h, fun hp0 hs k' => by simp only [evalQ, hel, hi, hx, hs.row hr (by simp), hb, cond_true, h0, h1, decide_true]⟩
            · simp [h0, h1] at h
          · simp [h0] at h
        · rename_i e xs j0 cs hr
          cases hb : Nat.beq e el <;> simp only [hb, cond_true, cond_false] at h
          · cases h
          by_cases h0 : 0 ≤ n
          · by_cases h1 : n < (xs.length : Int)
            · simp only [h0, h1, decide_true, cond_true] at h
              exact ⟨_, _, h, fun hp0 hs k' => by simp only [evalQ, hel, hi, hx, hs.row hr (by simp), hb, cond_true, h0, h1, decide_true]⟩
            · simp [h0, h1] at h
          · simp [h0] at h
        · rename_i e xs j0 cs hr
          cases hb : Nat.beq e el <;> simp only [hb, cond_true, cond_false] at h
          · cases h
          by_cases h0 : 0 ≤ n
          · by_cases h1 : n < (xs.length : Int)
            · simp only [h0, h1, decide_true, cond_true] at h
              exact ⟨_, _, h, fun hp0 hs k' => by simp only [evalQ, hel, hi, hx, hs.row hr (by simp), hb, cond_true, h0, h1, decide_true]⟩
            · simp [h0, h1] at h
          · simp [h0] at h
        · cases h
      · rename_i hne
        obtain ⟨d, e, xs, h1, h2⟩ := readSl_det h
        cases hb : Nat.beq e el <;> simp only [hb, cond_true, cond_false] at h1
        · cases h1
        by_cases g0 : 0 ≤ n
        · by_cases g1 : n < (xs.length : Int)
          · simp only [g0, g1, decide_true, cond_true] at h1
            refine ⟨_, _, h1, fun hp0 hs k' => ?_⟩
            have hF : (bif Nat.beq e el then (bif decide (0 ≤ n) then (bif decide (n < (xs.length : Int)) then k' (.cptr d (E.cells e) (xs.getD n.toNat []) 0) [] else none) else none) else none) = k' (.cptr d (E.cells e) (xs.getD n.toNat []) 0) [] := by
              simp only [hb, cond_true, g0, g1, decide_true]
            refine Eq.trans ?_ ((h2 hp0 hs (fun d e xs => bif Nat.beq e el then (bif decide (0 ≤ n) then (bif decide (n < (xs.length : Int)) then k' (.cptr d (E.cells e) (xs.getD n.toNat []) 0) [] else none) else none) else none)).trans hF)
            simp only [evalQ, hel, hi]
          · simp [g0, g1] at h1
        · simp [g0] at h1
    · cases h
  case index t x i =>
    simp only [evalQ] at h
    cases hs : TI.isStr (E.T t) <;> simp only [hs, Bool.not_true, Bool.not_false, cond_true, cond_false] at h
    · cases h
    split at h
    · rename_i ik n hi
      split at h
      · rename_i s hx
        by_cases h0 : 0 ≤ n
        · by_cases h1 : n < (s.size : Int)
          · simp only [h0, h1, decide_true, cond_true] at h
            exact ⟨_, _, h, fun hp0 _ k' => by simp only [evalQ, hs, hi, hx, h0, h1, decide_true, cond_true, Bool.not_true, cond_false]⟩
          · simp [h0, h1] at h
        · simp [h0] at h
      · cases h
    · cases h
  case extract x i =>
    simp only [evalQ] at h
    split at h
    · rename_i vs hx
      split at h
      · rename_i v hv
        exact ⟨_, _, h, fun hp0 _ k' => by simp only [evalQ, hx, hv]⟩
      · cases h
    · cases h
  case build t ps =>
    simp only [evalQ] at h
    split at h
    · rename_i i ht
      cases ha : i.agg <;> simp only [ha, cond_true, cond_false] at h
      · cases h
      obtain ⟨cs, h1, h2⟩ := buildV_det h
      exact ⟨_, _, h1, fun hp0 _ k' => by simp only [evalQ, ht, ha, cond_true, h2]⟩
    · cases h
  case buildSlice t n ps =>
    simp only [evalQ] at h
    split at h
    · rename_i el hel
      cases hn : Nat.beq n ps.size <;> simp only [hn, cond_true, cond_false] at h
      · cases h
      cases n with
      | zero => exact ⟨_, _, h, fun hp0 _ k' => by simp only [evalQ, hel, hn, cond_true]⟩
      | succ n =>
        simp only at h
        obtain ⟨cs, h1, h2⟩ := rowV_det h
        cases hl : Nat.ble cs.length 16777216 <;> simp only [hl, cond_true, cond_false] at h1
        · cases h1
        cases hap : allPlain (E.cells el) <;> simp only [hap, cond_true, cond_false] at h1
        · exact ⟨_, _, h1, fun hp0 _ k' => by simp only [evalQ, hel, hn, cond_true, cond_false, h2, hl, hap]⟩
        · obtain ⟨xs, h3, h4⟩ := litL_det h1
          exact ⟨_, _, h3, fun hp0 hs k' => by simp only [evalQ, hel, hn, cond_true, h2, hl, hap, h4 hp0 hs]⟩
    · cases h
  case makeSlice t x y =>
    simp only [evalQ] at h
    split at h
    · rename_i el hel
      split at h
      · rename_i n hx
        split at h
        · rename_i m hy
          by_cases h0 : 0 ≤ n
          · by_cases h1 : n ≤ m
            · by_cases h2 : m * (E.bytes el : Int) ≤ 140737488355328
              · simp only [h0, h1, h2, decide_true, cond_true] at h
                exact ⟨_, _, h, fun hp0 _ k' => by simp only [evalQ, hel, hx, hy, h0, h1, h2, decide_true, cond_true]⟩
              · simp [h0, h1, h2] at h
            · simp [h0, h1] at h
          · simp [h0] at h
        · cases h
      · cases h
    · cases h
  case makeFunc fn b caps =>
    cases fn <;> first | (simp only [evalQ] at h; cases h; done) | skip
    rename_i f
    simp only [evalQ] at h
    cases hb : (b.isEmpty && (caps.toList.map ρ).all isPtr) <;> simp only [hb, cond_true, cond_false] at h
    · cases h
    exact ⟨_, _, h, fun hp0 _ k' => by simp only [evalQ, hb, cond_true]⟩
  case call c =>
    obtain ⟨callee, args, argTypes⟩ := c
    cases callee with
    | invoke r n => simp only [evalQ] at h; cases h
    | value f =>
      simp only [evalQ] at h
      split at h
      · rename_i g caps hf
        obtain ⟨v, rs, h1, h2⟩ := callG_det h
        exact ⟨v, rs, h1, fun hp0 hs k' => by simp only [evalQ, hf]; exact h2 hp0 hs k'⟩
      · cases h
    | builtin b =>
      cases b <;> first | (simp only [evalQ] at h; cases h; done) | skip
      case len =>
        simp only [evalQ] at h
        split at h
        · rename_i x hx
          split at h
          · rename_i u hu
            obtain ⟨v, rs, h1, h2⟩ := lenV_det h
            exact ⟨v, rs, h1, fun hp0 hs k' => by simp only [evalQ, hx, hu]; exact h2 hp0 hs k'⟩
          · cases h
        · cases h
      case append =>
        simp only [evalQ] at h
        split at h
        · rename_i x y hxy
          split at h
          · rename_i t u htu
            obtain ⟨b0, h0⟩ := bif_det h
            split at h0
            · rename_i el hel
              obtain ⟨b1, h1⟩ := bif_det h0
              split at h1
              · rename_i hxn
                split at h1
                · rename_i hyn
                  exact ⟨_, _, h1, fun hp0 hs k' => by simp only [evalQ, hxy, htu, b0, hel, b1, hxn, hyn, cond_true]⟩
                · rename_i v hyn
                  obtain ⟨d, e, ys, q1, q2⟩ := readSl_det h1
                  obtain ⟨b2, h2⟩ := bif_det q1
                  refine ⟨_, _, h2, fun hp0 hs k' => ?_⟩
                  have := q2 hp0 hs
                  cases hy : ρ y with
                  | nil => exact (hyn hy).elim
                  | _ =>
                    rw [hy] at this
                    simp only [evalQ, hxy, htu, b0, hel, b1, hxn, hy, cond_true, this, b2]
              · cases h1
            · cases h0
          · cases h
        · cases h
      all_goals
        simp only [evalQ] at h
        split at h
        · rename_i x y hx
          split at h
          · rename_i p hp
            split at h
            · rename_i q hq
              exact ⟨_, _, h, fun hp0 hs k' => by simp only [evalQ, hx, hp, hq]⟩
            · cases h
          · cases h
        · cases h
end
end Go.DM
set_option linter.unusedSectionVars false
namespace Go.DM
def Beg {α : Type} (a b : List α) : Prop := ∀ (i : Nat) (x : α), a[i]? = some x → b[i]? = some x
theorem Beg.tail {α : Type} {a b : List α} (h : Beg a b) : Beg a.tail b.tail := fun i x hx => by
 have := h (i + 1) x (by simpa using hx)
 simpa using this
theorem Beg.refl {α : Type} (a : List α) : Beg a a := fun _ _ h => h
theorem Beg.append {α : Type} (a b : List α) : Beg a (a ++ b) := fun i x hx => by rw [List.getElem?_append_left (List.getElem?_eq_some_iff.1 hx).1]; exact hx
theorem Beg.take {α : Type} (a : List α) (n : Nat) : Beg (a.take n) a := fun i x hx => by
  rw [List.getElem?_take] at hx
  split at hx
  · exact hx
  · cases hx
theorem slA_le {sl : Nat → V} {D D' : Nat → Bool} (hD : ∀ j, D j = true → D' j = true) {t : Nat} : ∀ {hs : List Oper} {us us' : List Out} {j : Nat}, Beg us us' → slA sl D hs us j t = .dead ∨ slA sl D hs us j t = slA sl D' hs us' j t
 | [], us, us', j, _ => .inr rfl
 | o :: os, us, us', j, hb => by
  simp only [slA]
  cases hd : o.dst with
  | none => exact slA_le hD hb.tail
  | some d =>
   simp only
   cases ht : Nat.beq t d with
   | false => exact slA_le hD hb.tail
   | true =>
    simp only [cond_true]
    cases hj : D j with
    | false => exact .inl rfl
    | true =>
     simp only [cond_true, hD j hj]
     cases us with
     | nil => exact .inl rfl
     | cons u us =>
      have := hb 0 u rfl
      cases us' with
      | nil => simp at this
      | cons u' us' => simp at this; subst this; exact .inr rfl
theorem slA_congr {sl : Nat → V} {D D' : Nat → Bool} {t : Nat} : ∀ {hs : List Oper} {us : List Out} {j : Nat}, (∀ i, j ≤ i → D i = D' i) → slA sl D hs us j t = slA sl D' hs us j t
 | [], us, j, _ => rfl
 | o :: os, us, j, h => by
  have ih := slA_congr (sl := sl) (D := D) (D' := D') (t := t) (hs := os) (us := us.tail) (j := j + 1) (fun i hi => h i (by omega))
  simp only [slA, ih, h j (Nat.le_refl _)]
theorem dsts_mem {d : Nat} {o : Oper} (hd : o.dst = some d) : ∀ {hs : List Oper} {i : Nat}, hs[i]? = some o → d ∈ dsts hs
 | [], i, h => by simp at h
 | o' :: hs, 0, h => by simp at h; subst h; simp [dsts, hd]
 | o' :: hs, i + 1, h => by
  have := dsts_mem hd (hs := hs) (i := i) (by simpa using h)
  simp only [dsts]
  cases o'.dst with
  | none => exact this
  | some e => simp [this]
theorem slA_put {sl : Nat → V} {D D' : Nat → Bool} {o : Oper} {u : Out} {t : Nat} : ∀ {hs : List Oper} {us : List Out} {i j : Nat}, freshB (dsts hs) = true → hs[i]? = some o → us[i]? = some u → D' (j + i) = true → (∀ l, l ≠ j + i → D' l = D l) →
  slA sl D' hs us j t = if o.dst = some t then u.v else slA sl D hs us j t
 | [], us, i, j, _, h, _, _, _ => by simp at h
 | o' :: os, us, 0, j, hf, ho, hu, h1, h2 => by
  simp at ho
  subst ho
  cases us with
  | nil => simp at hu
  | cons u' us =>
   simp at hu
   subst hu
   have ih := slA_congr (sl := sl) (D := D') (D' := D) (t := t) (hs := os) (us := us) (j := j + 1) (fun i hi => h2 i (by omega))
   have h1' : D' j = true := h1
   simp only [slA, List.tail_cons, ih, h1', headV]
   cases hd : o'.dst with
   | none => simp
   | some d =>
    simp only [Option.some.injEq]
    cases hb : Nat.beq t d with
    | true => rw [if_pos (Nat.eq_of_beq_eq_true hb).symm]; rfl
    | false => rw [if_neg (fun e => by subst e; simp at hb)]; rfl
 | o' :: os, us, i + 1, j, hf, ho, hu, h1, h2 => by
  have ho' : os[i]? = some o := by simpa using ho
  have hu' : us.tail[i]? = some u := by simpa using hu
  have hf' : freshB (dsts os) = true := by
   simp only [dsts] at hf
   cases hd : o'.dst with
   | none => rw [hd] at hf; exact hf
   | some d => rw [hd] at hf; simp only [freshB, Bool.and_eq_true] at hf; exact hf.2
  have ih := slA_put (sl := sl) (D := D) (D' := D') (t := t) (hs := os) (us := us.tail) (i := i) (j := j + 1) hf' ho' hu' (by rw [show j + 1 + i = j + (i + 1) by omega]; exact h1) (fun l hl => h2 l (by omega))
  simp only [slA, ih, h2 j (by omega)]
  cases hd : o'.dst with
  | none => rfl
  | some d =>
   simp only
   cases hb : Nat.beq t d with
   | false => rfl
   | true =>
    have e := Nat.eq_of_beq_eq_true hb
    subst e
    simp only [cond_true]
    have hne : o.dst ≠ some t := by
     intro he
     have hm := dsts_mem he ho'
     simp only [dsts, hd, freshB, Bool.and_eq_true, List.all_eq_true] at hf
     have := hf.1 t hm
     simp at this
    rw [if_neg hne]
theorem nthO_beg {j l : Nat} : ∀ {us us' : List Out}, Beg us us' → nthO us j l = .dead ∨ nthO us j l = nthO us' j l := by
 induction j with
 | zero =>
  intro us us' hb
  cases us with
  | nil => exact .inl rfl
  | cons u us =>
   have := hb 0 u rfl
   cases us' with
   | nil => simp at this
   | cons u' us' => simp at this; subst this; exact .inr rfl
 | succ j ih =>
  intro us us' hb
  cases us with
  | nil => exact .inl rfl
  | cons u us =>
   have := hb 0 u rfl
   cases us' with
   | nil => simp at this
   | cons u' us' => exact ih hb.tail
theorem hpD_sub {hp : Nat → Root} {nx : Nat} {D D' : Nat → Bool} {us us' : List Out} (hD : ∀ j, D j = true → D' j = true) (hb : Beg us us') : Sub (hpD hp nx D us) (hpD hp nx D' us') := fun r => by
  unfold hpD
  cases Nat.blt r nx with
  | true => exact .inl rfl
  | false =>
    simp only [cond_false]
    cases hj : D ((r - nx) / 64) with
    | false => exact .inr rfl
    | true =>
      simp only [hD _ hj, cond_true]
      rcases nthO_beg (j := (r - nx) / 64) (l := (r - nx) % 64) hb with h | h
      · exact .inr h
      · exact .inl h
theorem nthO_get {u : Out} {l : Nat} : ∀ {us : List Out} {i : Nat}, us[i]? = some u → nthO us i l = nthR u.rs l
 | [], i, h => by simp at h
 | u' :: us, 0, h => by simp at h; subst h; rfl
 | u' :: us, i + 1, h => nthO_get (us := us) (i := i) (by simpa using h)
theorem nthR_get : ∀ {rs : List Root} {l : Nat} {o : Root}, rs[l]? = some o → nthR rs l = o
 | [], l, o, h => by simp at h
 | r :: rs, 0, o, h => by simp at h; exact h
 | r :: rs, l + 1, o, h => nthR_get (rs := rs) (l := l) (by simpa using h)
theorem nthR_none : ∀ {rs : List Root} {l : Nat}, rs.length ≤ l → nthR rs l = .dead
 | [], l, h => rfl
 | r :: rs, 0, h => by simp at h
 | r :: rs, l + 1, h => nthR_none (rs := rs) (l := l) (by simpa using h)
theorem hpD_put {hp : Nat → Root} {nx i : Nat} {D D' : Nat → Bool} {us : List Out} {u : Out} (hu : us[i]? = some u) (hl : u.rs.length ≤ 64) (h0 : D i = false) (h1 : D' i = true) (h2 : ∀ l, l ≠ i → D' l = D l) :
    hpD hp nx D' us = addRoots (hpD hp nx D us) (nx + 64 * i) u.rs := by
  funext r
  by_cases hr : r < nx
  · rw [addRoots_out _ _ _ _ (.inl (by omega))]
    simp [hpD, Nat.blt_eq.mpr hr]
  · have hb : Nat.blt r nx = false := by
      cases h : Nat.blt r nx with
      | false => rfl
      | true => exact absurd (Nat.blt_eq.mp h) hr
    have hdm := Nat.div_add_mod (r - nx) 64
    have hmod := Nat.mod_lt (r - nx) (show 0 < 64 by omega)
    by_cases hj : (r - nx) / 64 = i
    · have hlhs : hpD hp nx D' us r = nthR u.rs ((r - nx) % 64) := by simp only [hpD, hb, cond_false, hj, h1, cond_true, nthO_get hu]
      rw [hlhs]
      by_cases hlt : (r - nx) % 64 < u.rs.length
      · have hg := List.getElem?_eq_getElem hlt
        rw [nthR_get hg]
        have := addRoots_in u.rs (hpD hp nx D us) (nx + 64 * i) ((r - nx) % 64) _ hg
        rw [show nx + 64 * i + (r - nx) % 64 = r by rw [hj] at hdm; omega] at this
        exact this.symm
      · rw [nthR_none (by omega), addRoots_out _ _ _ _ (.inr (by rw [hj] at hdm; omega))]
        simp only [hpD, hb, cond_false, hj, h0]
    · rw [addRoots_out _ _ _ _ (by
        rcases Nat.lt_or_gt_of_ne hj with h | h
        · exact .inl (by omega)
        · exact .inr (by omega))]
      simp only [hpD, hb, cond_false, h2 _ hj]
theorem setV_self {v : V} : ∀ {us : List Out} {j : Nat}, (∀ u, us[j]? = some u → u.v = v) → setV us j v = us
 | [], _, _ => rfl
 | u :: us, 0, h => by
  have := h u rfl
  simp only [setV]; rw [← this]
 | u :: us, j + 1, h => by
  simp only [setV]
  rw [setV_self (us := us) (j := j) fun u hu => h u (by simpa using hu)]
theorem slA_find {sl : Nat → V} {D : Nat → Bool} {o : Oper} {u : Out} {d : Nat} (hd : o.dst = some d) : ∀ {hs : List Oper} {us : List Out} {i j : Nat}, freshB (dsts hs) = true → hs[i]? = some o → us[i]? = some u →
  slA sl D hs us j d = bif D (j + i) then u.v else .dead
 | [], us, i, j, _, h, _ => by simp at h
 | o' :: os, us, 0, j, hf, ho, hu => by
  simp at ho
  subst ho
  cases us with
  | nil => simp at hu
  | cons u' us =>
   simp at hu
   subst hu
   simp [slA, hd, headV]
 | o' :: os, us, i + 1, j, hf, ho, hu => by
  have ho' : os[i]? = some o := by simpa using ho
  have hu' : us.tail[i]? = some u := by simpa using hu
  have hf' : freshB (dsts os) = true := by
   simp only [dsts] at hf
   cases hd' : o'.dst with
   | none => rw [hd'] at hf; exact hf
   | some d => rw [hd'] at hf; simp only [freshB, Bool.and_eq_true] at hf; exact hf.2
  have ih := slA_find (sl := sl) (D := D) hd (hs := os) (us := us.tail) (i := i) (j := j + 1) hf' ho' hu'
  rw [show j + 1 + i = j + (i + 1) by omega] at ih
  simp only [slA]
  cases hd' : o'.dst with
  | none => exact ih
  | some e =>
   simp only
   cases hb : Nat.beq d e with
   | false => exact ih
   | true =>
    have e1 := Nat.eq_of_beq_eq_true hb
    subst e1
    have hm := dsts_mem hd ho'
    simp only [dsts, hd', freshB, Bool.and_eq_true, List.all_eq_true] at hf
    have := hf.1 d hm
    simp at this
theorem knowsU_self {all hs : List Oper} {sl : Nat → V} {D : Nat → Bool} {us : List Out} {kn : Option (Nat × Nat × Bool)} (hf : freshB (dsts hs) = true) (hb : Beg hs all) (hl : us.length ≤ hs.length) (h : Known all (slA sl D hs us 0) kn) : knowsU us kn = us := by
 match kn with
 | none => rfl
 | some (j, d, t) =>
  simp only [knowsU]
  refine setV_self fun u hu => ?_
  obtain ⟨h1, o, ho, hd⟩ := h j d t rfl
  have hj : j < hs.length := by have := (List.getElem?_eq_some_iff.1 hu).1; omega
  have ho' : hs[j]? = some o := by
   have h2 := List.getElem?_eq_getElem hj
   have h3 := hb j _ h2
   rw [ho] at h3; injection h3 with h3; rw [h3]; exact h2
  rw [slA_find hd hf ho' hu] at h1
  cases hD : D (0 + j) with
  | false => rw [hD] at h1; cases h1
  | true => rw [hD] at h1; exact h1
def HeadOK (E : Env) (all hs : List Oper) (bs : List Nat) (sl : Nat → V) (hp : Nat → Root) (nx i : Nat) (o : Oper) (u : Out) (pre : List Out) : Prop :=
 ∃ (t : Bool) (kn : Option (Nat × Nat × Bool)), (∀ k' : Bool → Option (Nat × Nat × Bool) → Ans, guarded E.nt all (slA sl (bs.getD i 0).testBit hs pre 0) o.guard k' = k' t kn) ∧
  (t = true → u.rs.length ≤ 64 ∧ ∀ hp0, Sub (hpD hp nx (bs.getD i 0).testBit pre) hp0 → ∀ k', evalQ E o.op (opnd E.nt (slA sl (bs.getD i 0).testBit hs pre 0)) hp0 (nx + 64 * i) k' = k' u.v u.rs) ∧ (t = false → u = ⟨.undef, []⟩)
theorem runHead_det {E : Env} {all hs : List Oper} {bs : List Nat} {sl : Nat → V} {hp : Nat → Root} {nx : Nat} {ans : List L} : ∀ {os : List Oper} {i : Nat} {us : List Out} {k : List Out → Ans}, freshB (dsts hs) = true → Beg hs all → i + os.length ≤ hs.length → us.length = i → runHead E all hs bs sl hp nx os i us k = some ans →
    ∃ us', k us' = some ans ∧ us'.length = i + os.length ∧ Beg us us' ∧ ∀ (l : Nat) (o : Oper), os[l]? = some o → ∃ u, us'[i + l]? = some u ∧ HeadOK E all hs bs sl hp nx (i + l) o u (us'.take (i + l))
  | [], i, us, k, _, _, _, hl, h => ⟨us, h, by simp [hl], Beg.refl us, fun l o ho => by simp at ho⟩
  | o :: os, i, us, k, hfr, hbg, hlen, hl, h => by
    simp only [runHead] at h
    obtain ⟨t, kn, h1, hk, h2⟩ := guarded_det h
    rw [knowsU_self hfr hbg (by simp only [List.length_cons] at hlen; omega) hk] at h1
    have fin : ∀ (u : Out), runHead E all hs bs sl hp nx os (i + 1) (us ++ [u]) k = some ans → HeadOK E all hs bs sl hp nx i o u us →
        ∃ us', k us' = some ans ∧ us'.length = i + (o :: os).length ∧ Beg us us' ∧ ∀ (l : Nat) (o' : Oper), (o :: os)[l]? = some o' → ∃ u, us'[i + l]? = some u ∧ HeadOK E all hs bs sl hp nx (i + l) o' u (us'.take (i + l)) := by
      intro u hr hok
      obtain ⟨us', g1, g2, g3, g4⟩ := runHead_det hfr hbg (by simp only [List.length_cons] at hlen; omega) (by simp [hl]) hr
      refine ⟨us', g1, by simp [g2]; omega, fun j x hx => g3 j x (Beg.append us [u] j x hx), fun l o' ho' => ?_⟩
      cases l with
      | zero =>
        simp at ho'
        subst ho'
        refine ⟨u, g3 i u (by rw [← hl]; simp), ?_⟩
        have : us'.take (i + 0) = us := by
          apply List.ext_getElem?
          intro j
          rw [Nat.add_zero, List.getElem?_take]
          by_cases hj : j < i
          · rw [if_pos hj]
            have hju := List.getElem?_eq_getElem (show j < us.length by omega)
            rw [hju]; exact g3 j _ (Beg.append us [u] j _ hju)
          · rw [if_neg hj, List.getElem?_eq_none (by omega)]
        rw [this]; exact hok
      | succ l =>
        have := g4 l o' (by simpa using ho')
        rw [show i + 1 + l = i + (l + 1) by omega] at this
        exact this
    cases t <;> simp only [cond_true, cond_false] at h1
    · exact fin _ h1 ⟨false, kn, h2, fun h => (by cases h), fun _ => rfl⟩
    · obtain ⟨v, rs, h3, h4⟩ := evalQ_det h1
      cases hle : Nat.ble rs.length 64 <;> simp only [hle, cond_true, cond_false] at h3
      · cases h3
      exact fin ⟨v, rs⟩ h3 ⟨true, kn, h2, fun _ => ⟨Nat.le_of_ble_eq_true hle, h4⟩, fun h => (by cases h)⟩
def HI (E : Env) (w0 : World) (M : Mem E.np) (Z0 : Nat → Prop) (s : St) (hs : List Oper) (us : List Out) (D : Nat → Bool) (a : Act) (w : World) : Prop :=
 ∃ A, Hp E.cells w0 M A (hpD s.hp s.nx D us) w ∧ (∀ i x, a.tmps[i]? = some x → V2 E.cells w A (slA s.sl D hs us 0 i) x) ∧ (∀ r, A.al r → r < s.nx ∨ ∃ j, D j = true ∧ s.nx + 64 * j ≤ r ∧ r < s.nx + 64 * j + 64) ∧ a.defers = [] ∧ a.tmps.size = E.nt ∧ A.Z = Z0
section
variable {P : Program} {E : Env} {w0 : World} {M : Mem E.np} {Z0 : Nat → Prop} {ans : List L}
open Classical in
theorem head_step (hT : ∀ t i, E.T t = some i → TyOK P E t i) (hG : ∀ g c, c ∈ E.G g → Valid P E g c) {ops : Array Oper} {hs : List Oper} {bs : List Nat} {s : St} {us : List Out} {D D' : Nat → Bool} {a : Act} {w : World} {i : Nat} {o : Oper} {u : Out}
    (hf : freshB (dsts hs) = true) (hi : HI E w0 M Z0 s hs us D a w) (ho : hs[i]? = some o) (hops : ops[i]? = some o) (hu : us[i]? = some u) (h0 : D i = false) (h1 : D' i = true) (h2 : ∀ l, l ≠ i → D' l = D l)
    (hanc : ∀ j, (bs.getD i 0).testBit j = true → D j = true) (hok : HeadOK E ops.toList hs bs s.sl s.hp s.nx i o u (us.take i)) {K : Act → World → Prop} {Q : Exit → Act → World → Prop}
    (hK : ∀ a' w', HI E w0 M Z0 s hs us D' a' w' → K a' w') : wpOp P ops Q i K a w := by
  obtain ⟨A, hh, tm, al, df, sz, hz⟩ := hi
  obtain ⟨t, kn, g1, g2, g3⟩ := hok
  have hbeg := Beg.take us i
  have tm' : ∀ i' x, a.tmps[i']? = some x → V2 E.cells w A (slA s.sl (bs.getD i 0).testBit hs (us.take i) 0 i') x := by
    intro i' x hx
    rcases slA_le (sl := s.sl) (hs := hs) (j := 0) (t := i') hanc hbeg with h | h
    · rw [h]; exact trivial
    · rw [h]; exact tm i' x hx
  have hput : ∀ i', slA s.sl D' hs us 0 i' = if o.dst = some i' then u.v else slA s.sl D hs us 0 i' := fun i' => slA_put (t := i') hf ho hu (by rw [Nat.zero_add]; exact h1) (fun l hl => h2 l (by rw [Nat.zero_add] at hl; exact hl))
  have fin : ∀ (A' : Asg) (w' : World) (cv : Value), Hp E.cells w0 M A' (hpD s.hp s.nx D' us) w' → (∀ i' x, a.tmps[i']? = some x → V2 E.cells w' A' (slA s.sl D hs us 0 i') x) → V2 E.cells w' A' u.v cv →
      (∀ r, A'.al r → A.al r ∨ (s.nx + 64 * i ≤ r ∧ r < s.nx + 64 * i + 64)) → A'.Z = A.Z → HI E w0 M Z0 s hs us D' (a.put o.dst cv) w' := by
    intro A' w' cv e1 e2 e3 e4 e5
    refine ⟨A', e1, fun i' x hx => ?_, fun r hr => ?_, ?_, ?_, e5.trans hz⟩
    · rw [hput]
      cases hd : o.dst with
      | none =>
        rw [hd] at hx
        rw [if_neg (by simp)]
        exact e2 i' x hx
      | some d =>
        rw [hd] at hx
        simp only [Act.put] at hx
        rw [Array.getElem?_setIfInBounds] at hx
        by_cases hdi : d = i'
        · subst hdi
          rw [if_pos rfl]
          split at hx
          · split at hx
            · injection hx with hx; subst hx; exact e3
            · cases hx
          · rename_i hn; exact (hn rfl).elim
        · rw [if_neg (by simpa using hdi)]
          rw [if_neg hdi] at hx
          exact e2 i' x hx
    · rcases e4 r hr with h | h
      · rcases al r h with h | ⟨j, hj, h⟩
        · exact .inl h
        · refine .inr ⟨j, ?_, h⟩
          by_cases hji : j = i
          · subst hji; exact h1
          · rw [h2 j hji]; exact hj
      · exact .inr ⟨i, h1, h⟩
    · cases hd : o.dst <;> exact df
    · cases hd : o.dst <;> simpa [Act.put] using sz
  have hD0 : ∀ r, s.nx + 64 * i ≤ r → r < s.nx + 64 * i + 64 → ¬ A.al r := by
    intro r hr1 hr2 ha
    rcases al r ha with h | ⟨j, hj, h3, h4⟩
    · omega
    · have : j = i := by omega
      subst this; rw [h0] at hj; cases hj
  unfold wpOp
  rw [hops]
  cases t with
  | false =>
    have hu' := g3 rfl
    have h := guarded_tm tm' sz g1
    · simp only [h]
      refine hK _ _ (fin A w undef ?_ tm (by rw [hu']; exact (show V0 E.cells w A .undef undef from rfl).v2) (fun r h => .inl h) rfl)
      rw [hpD_put hu (by rw [hu']; simp) h0 h1 h2, hu']
      exact hh
  | true =>
    obtain ⟨hlen, hev⟩ := g2 rfl
    have h := guarded_tm tm' sz g1
    · simp only [h, if_true]
      left
      have hrun := hev (hpD s.hp s.nx D us) (hpD_sub hanc hbeg) (fun v rs => if v = u.v ∧ rs = u.rs then some [] else none)
      simp only [and_self, if_true] at hrun
      obtain ⟨v, rs, q1, q2⟩ := evalQ_sound (M := M) (w0 := w0) hT hG hh (ev_tm tm' sz) hrun
      simp only at q1
      split at q1
      · rename_i hvr
        obtain ⟨rfl, rfl⟩ := hvr
        refine q2 (fun r hr1 hr2 => hD0 r hr1 (by omega)) K Q fun cv w' A' e1 e2 e3 e4 => hK _ _ (fin A' w' cv ?_ (fun i' x hx => (tm i' x hx).step e2 hh (fun _ h => h)) e3 (fun r hr => ?_) e2.Z)
        · rw [hpD_put hu hlen h0 h1 h2]; exact e1
        · rcases e4 r hr with h | h
          · exact .inl h
          · exact .inr (by omega)
      · cases q1
theorem masks_length : ∀ (os : List Oper) (bs : List Nat), (masks os bs).length = bs.length + os.length
 | [], bs => by simp [masks]
 | o :: os, bs => by simp only [masks, masks_length os, List.length_append, List.length_cons, List.length_nil]; omega
theorem masks_beg : ∀ (os : List Oper) (bs : List Nat), Beg bs (masks os bs)
 | [], bs => Beg.refl bs
 | o :: os, bs => fun i x hx => masks_beg os _ i x (Beg.append bs _ i x hx)
theorem masks_get : ∀ {os : List Oper} {bs : List Nat} {l : Nat} {o : Oper}, os[l]? = some o → ∃ pre, Beg pre (masks os bs) ∧ (masks os bs)[bs.length + l]? = some (maskOf pre o.after.toList)
 | [], bs, l, o, h => by simp at h
 | o' :: os, bs, 0, o, h => by
  simp at h
  subst h
  refine ⟨bs, masks_beg _ _, ?_⟩
  simp only [masks]
  exact masks_beg os _ _ _ (by simp)
 | o' :: os, bs, l + 1, o, h => by
  obtain ⟨pre, h1, h2⟩ := masks_get (os := os) (bs := bs ++ [maskOf bs o'.after.toList]) (l := l) (o := o) (by simpa using h)
  refine ⟨pre, h1, ?_⟩
  simp only [masks]
  rw [← h2]; congr 1; simp; omega
theorem maskOf_bit {bs : List Nat} {l : Nat} : ∀ {es : List Edge}, (maskOf bs es).testBit l = true → ∃ e ∈ es, Region.binds .any e = true ∧ (l = e.on ∨ (bs.getD e.on 0).testBit l = true)
  | [], h => by simp [maskOf] at h
  | e :: es, h => by
    simp only [maskOf] at h
    cases hb : Region.binds .any e <;> simp only [hb, cond_true, cond_false] at h
    · obtain ⟨e', h1, h2⟩ := maskOf_bit h
      exact ⟨e', by simp [h1], h2⟩
    · rw [Nat.testBit_or, Nat.testBit_or] at h
      simp only [Bool.or_eq_true] at h
      rcases h with h | h | h
      · obtain ⟨e', h1, h2⟩ := maskOf_bit h
        exact ⟨e', by simp [h1], h2⟩
      · rw [Nat.testBit_two_pow] at h
        exact ⟨e, by simp, hb, .inl (by have := of_decide_eq_true h; omega)⟩
      · exact ⟨e, by simp, hb, .inr h⟩
theorem backB_get : ∀ {os : List Oper} {i l : Nat} {o : Oper}, backB os i = true → os[l]? = some o → ∀ e ∈ o.after.toList, Region.binds .any e = true → e.on < i + l
 | [], i, l, o, _, h => by simp at h
 | o' :: os, i, 0, o, hb, h => by
  simp at h
  subst h
  simp only [backB, Bool.and_eq_true, List.all_eq_true] at hb
  intro e he hbe
  have := hb.1 e he
  rw [hbe] at this
  exact Nat.blt_eq.mp (by simpa using this)
 | o' :: os, i, l + 1, o, hb, h => by
  simp only [backB, Bool.and_eq_true] at hb
  have := backB_get hb.2 (l := l) (o := o) (by simpa using h)
  intro e he hbe
  have := this e he hbe
  omega
theorem tailB_get : ∀ {bs : List Nat} {i l b : Nat}, tailB bs i = true → bs[l]? = some b → b = 2 ^ (i + l) - 1
 | [], i, l, b, _, h => by simp at h
 | b' :: bs, i, 0, b, hb, h => by
  simp at h
  subst h
  simp only [tailB, Bool.and_eq_true] at hb
  exact Nat.eq_of_beq_eq_true hb.1
 | b' :: bs, i, l + 1, b, hb, h => by
  simp only [tailB, Bool.and_eq_true] at hb
  have := tailB_get hb.2 (l := l) (b := b) (by simpa using h)
  rw [this]; congr 2; omega
def Closed (ops : Array Oper) (listed : Array Bool) : Prop := ∀ (i : Nat), listed.getD i false = true → ∀ l, ((masks ops.toList []).getD i 0).testBit l = true → listed.getD l false = true
theorem ready_closed {ops : Array Oper} {listed : Array Bool} (hc : Closed ops listed) {i : Nat} (hr : i ∈ Region.ready .any ops listed) : ∀ l, ((masks ops.toList []).getD i 0).testBit l = true → listed.getD l false = true := by
  intro l hl
  obtain ⟨h0, o, ho, hall⟩ := mem_ready.1 hr
  have ho' : ops.toList[i]? = some o := by simpa using ho
  obtain ⟨pre, h1, h2⟩ := masks_get (bs := []) ho'
  rw [List.length_nil, Nat.zero_add] at h2
  rw [List.getD_eq_getElem?_getD, h2] at hl
  obtain ⟨e, he, hb, hle⟩ := maskOf_bit (show (maskOf pre o.after.toList).testBit l = true from hl)
  have hle' := hall e (by simpa using he) hb
  rcases hle with rfl | hle
  · exact hle'
  · refine hc e.on hle' l ?_
    rw [List.getD_eq_getElem?_getD] at hle ⊢
    cases hp : pre[e.on]? with
    | none => rw [hp] at hle; simp at hle
    | some b => rw [hp] at hle; rw [h1 _ _ hp]; exact hle
theorem Closed.set {ops : Array Oper} {listed : Array Bool} (hc : Closed ops listed) {i : Nat} (hr : i ∈ Region.ready .any ops listed) : Closed ops (listed.setIfInBounds i true) := by
  intro j hj l hl
  by_cases hij : i = j
  · subst hij; exact getD_set_true (ready_closed hc hr l hl)
  · rw [getD_set_ne false hij] at hj
    exact getD_set_true (hc j hj l hl)
theorem wpOp_of {ops : Array Oper} {i : Nat} {o : Oper} (ho : ops[i]? = some o) {K : Act → World → Prop} {Q : Exit → Act → World → Prop} {a : Act} {w : World}
    (h : if Region.wanted o (yielded ops a.tmps) then o.wp P a w K Q else K (a.put o.dst undef) w) : wpOp P ops Q i K a w := by
  unfold wpOp
  rw [ho]
  simp only
  split
  · rename_i hw; rw [if_pos hw] at h; exact .inl h
  · rename_i hw; rw [if_neg hw] at h; exact h
theorem tail_sound (hT : ∀ t i, E.T t = some i → TyOK P E t i) (hG : ∀ g c, c ∈ E.G g → Valid P E g c) (hM : ∀ g c, c ∈ E.M g → MValid P E g c) {ops : Array Oper} {Q : Exit → Act → World → Prop} {h : Nat} (hback : backB ops.toList 0 = true)
    (htail : ∀ i, h < i → i < ops.size → ∀ l, l < i → ((masks ops.toList []).getD i 0).testBit l = true) : ∀ (m : Nat) {n : Nat} {A : Asg} {s : St} {a : Act} {w : World} {k : St → Ans} {listed : Array Bool}, n + m = ops.size → h ≤ n → listed.size = ops.size →
    (∀ j, j < ops.size → (listed.getD j true = false ↔ n ≤ j)) → Closed ops listed → Sim E w0 M A s a w → runOps E ops.toList (ops.toList.drop n) s k = some ans →
    (∀ s' a' w' A', k s' = some ans → Sim E w0 M A' s' a' w' → A'.Z = A.Z → Q .normal a' w') → wpAny P .any ops Q m listed a w := by
  intro m
  induction m with
  | zero =>
    intro n A s a w k listed hn hhn hls hl hc sm hr hQ
    have hd : ops.toList.drop n = [] := by simp; omega
    rw [hd] at hr
    refine ⟨?_, hQ s a w A hr sm rfl⟩
    rw [List.eq_nil_iff_forall_not_mem]
    intro i hi
    obtain ⟨h0, o, ho, _⟩ := mem_ready.1 hi
    have hlt := (Array.getElem?_eq_some_iff.1 ho).1
    have := (hl i hlt).1 h0
    omega
  | succ m ih =>
    intro n A s a w k listed hn hhn hls hl hc sm hr hQ
    have hlt : n < ops.size := by omega
    have hon : ops[n]? = some ops[n] := Array.getElem?_eq_getElem hlt
    have hnr : n ∈ Region.ready .any ops listed := by
      refine mem_ready.2 ⟨(hl n hlt).2 (Nat.le_refl _), _, hon, fun e he hb => ?_⟩
      have hlt' := backB_get hback (l := n) (o := ops[n]) (by simpa using hon) e (by simpa using he) hb
      have hne : ¬ listed.getD e.on true = false := fun h => by have := (hl e.on (by omega)).1 h; omega
      have hin : e.on < listed.size := by omega
      simpa [hin] using hne
    refine ⟨fun he => (by rw [he] at hnr; cases hnr), fun i hi => ?_⟩
    have hin : i = n := by
      obtain ⟨h0, o, ho, _⟩ := mem_ready.1 hi
      have hil := (Array.getElem?_eq_some_iff.1 ho).1
      have hni := (hl i hil).1 h0
      rcases Nat.lt_or_ge n i with h | h
      · have := ready_closed hc hi n (htail i (by omega) hil n h)
        have h2 := (hl n hlt).2 (Nat.le_refl _)
        have hin : n < listed.size := by omega
        simp [hin] at this h2
        rw [this] at h2; cases h2
      · omega
    subst hin
    have hdrop : ops.toList.drop i = ops[i] :: ops.toList.drop (i + 1) := by
      rw [List.drop_eq_getElem_cons (by simpa using hlt)]; simp
    rw [hdrop] at hr
    simp only [runOps] at hr
    have next : ∀ {A' : Asg} {s' : St} {a' : Act} {w' : World}, Sim E w0 M A' s' a' w' → A'.Z = A.Z → runOps E ops.toList (ops.toList.drop (i + 1)) s' k = some ans → wpAny P .any ops Q m (listed.setIfInBounds i true) a' w' := by
      intro A' s' a' w' sm' hz hr'
      refine ih (n := i + 1) (by omega) (by omega) (by simpa using hls) (fun j hj => ?_) (hc.set hi) sm' hr' fun s'' a'' w'' A'' e1 e2 e3 => hQ s'' a'' w'' A'' e1 e2 (e3.trans hz)
      by_cases hij : i = j
      · subst hij
        have : i < listed.size := by omega
        simp [this]
      · rw [getD_set_ne true hij, hl j hj]; omega
    refine wpOp_of hon ?_
    obtain ⟨go, kn, h2, hkn, h1⟩ := guarded_spec sm hr
    rw [hkn] at h2
    cases go <;> simp only [cond_true, cond_false] at h2
    case true =>
      rw [if_pos h1]
      obtain ⟨v, s', g1, g2⟩ := evalO_sound hT hG hM sm h2
      exact g2 _ Q fun cv w' A' q1 q2 q3 => next (q1.put q2) q3 g1
    case false =>
      rw [if_neg (by simp [h1])]
      exact next (sm.put (v := .undef) (cv := undef) rfl) rfl h2
theorem Sim.drew {A : Asg} {s : St} {a : Act} {w : World} (sm : Sim E w0 M A s a w) : Sim E w0 M A s a { w with drawn := w.drawn + 1 } := by
  have hh := sm.hp
  have st : Step A A w { w with drawn := w.drawn + 1 } (fun _ => False) := ⟨rfl, fun _ h => h, fun _ _ => rfl, Nat.le_refl _, fun _ _ _ => rfl, fun _ _ _ _ => Iff.rfl, fun r b h hn => by
    rcases h with h | h
    · exact h.elim
    · exact (h (hh.alN hn)).elim⟩
  refine ⟨⟨hh.lt, hh.dj, hh.al, fun r => (hh.rt r).step st hh (fun h => h) (fun hd => .inr fun b h => ?_) (fun cs _ v _ => ?_), ⟨hh.fr.os, hh.fr.tape, hh.fr.output, hh.fr.size, hh.fr.block⟩, hh.nm, hh.zf, hh.pn⟩, fun i x hx => (sm.tm i x hx).step st hh (fun _ h => h), sm.nx, sm.df, sm.sz⟩
  · have := hh.rt r; rw [hd] at this; exact this b h
  · cases v with
    | sl d => cases d <;> simp [indep]
    | cptr d => cases d <;> simp [indep]
    | inn => exact id
    | _ => trivial
theorem slA_none {sl : Nat → V} {D : Nat → Bool} {t : Nat} (hD : ∀ j, D j = false) : ∀ {hs : List Oper} {us : List Out} {j : Nat}, slA sl D hs us j t = .dead ∨ slA sl D hs us j t = sl t
 | [], us, j => .inr rfl
 | o :: os, us, j => by
  simp only [slA]
  cases o.dst with
  | none => exact slA_none hD
  | some d =>
   simp only
   cases Nat.beq t d with
   | false => exact slA_none hD
   | true => simp only [cond_true, hD j]; exact .inl rfl
theorem slA_all {sl : Nat → V} {D : Nat → Bool} {t : Nat} : ∀ {hs : List Oper} {us : List Out} {j : Nat}, (∀ i, j ≤ i → i < j + hs.length → D i = true) → slA sl D hs us j t = slA sl always hs us j t
 | [], us, j, _ => rfl
 | o :: os, us, j, h => by
  have ih := slA_all (sl := sl) (D := D) (t := t) (hs := os) (us := us.tail) (j := j + 1) (fun i h1 h2 => h i (by omega) (by simp; omega))
  simp only [slA, ih, h j (Nat.le_refl _) (by simp), always]
theorem nthO_out {l : Nat} : ∀ {us : List Out} {j : Nat}, us.length ≤ j → nthO us j l = .dead
 | [], j, h => rfl
 | u :: us, 0, h => by simp at h
 | u :: us, j + 1, h => nthO_out (us := us) (j := j) (by simpa using h)
theorem min_mem : ∀ {rem : List Nat}, rem ≠ [] → ∃ i ∈ rem, ∀ j ∈ rem, i ≤ j
  | [], h => (h rfl).elim
  | [a], _ => ⟨a, by simp, fun j hj => by simp at hj; omega⟩
  | a :: b :: rem, _ => by
    obtain ⟨i, hi, hj⟩ := min_mem (rem := b :: rem) (by simp)
    by_cases h : a ≤ i
    · refine ⟨a, by simp, fun j hm => ?_⟩
      rcases List.mem_cons.1 hm with rfl | hm
      · exact Nat.le_refl _
      · have := hj j hm; omega
    · refine ⟨i, List.mem_cons_of_mem _ hi, fun j hm => ?_⟩
      rcases List.mem_cons.1 hm with rfl | hm
      · omega
      · exact hj j hm
theorem opnd_le {nt : Nat} {sl sl' : Nat → V} (h : ∀ t, sl t = .dead ∨ sl t = sl' t) {x : Operand} {v : V} (hv : opnd nt sl x = v) (hn : v ≠ .dead) : opnd nt sl' x = v := by
  cases x with
  | tmp t =>
    simp only [opnd, look] at hv ⊢
    cases hb : Nat.blt t nt with
    | true =>
      rw [hb] at hv
      simp only [cond_true] at hv ⊢
      rcases h t with h | h
      · rw [h] at hv; exact (hn hv.symm).elim
      · rw [← h]; exact hv
    | false => rw [hb] at hv; exact hv
  | const c => exact hv
  | global g => exact hv
  | func f => exact hv
structure Early (E : Env) (hs : List Oper) (s : St) (us : List Out) (b : Nat) (x : Operand) (r0 q0 : Nat) (cs0 : List V) : Prop where
 x : opnd E.nt (slA s.sl b.testBit hs us 0) x = .bptr r0 q0
 box : hpD s.hp s.nx b.testBit us r0 = .box cs0
theorem late_run (hT : ∀ t i, E.T t = some i → TyOK P E t i) {ops : Array Oper} {hs : List Oper} {bs : List Nat} {s : St} {us : List Out} {D : Nat → Bool} {a : Act} {w : World} {i b r0 q0 g0 : Nat} {o : Oper} {u : Out} {x y : Operand} {cs0 : List V}
    (hi : HI E w0 M Z0 s hs us D a w) (hanc : ∀ j, (bs.getD i 0).testBit j = true → D j = true) (hok : HeadOK E ops.toList hs bs s.sl s.hp s.nx i o u (us.take i))
    (he : Early E hs s us b x r0 q0 cs0) (hbD : ∀ j, b.testBit j = true → D j = true)
    (hl : lateOp E.nt (slA s.sl (bs.getD i 0).testBit hs (us.take i) 0) r0 x y o = true) (hg : ∃ q, a.eval x = .pointer (some ⟨g0, q, none⟩)) :
    o.guard = none ∧ ∃ v, (execOp a.eval o).run P w = .ok (.value v) w ∧ ∀ w2 : World, (∀ c, c ≠ g0 → w2.heap[c]? = w.heap[c]?) → (execOp a.eval o).run P w2 = .ok (.value v) w2 := by
  obtain ⟨A, hh, tm, al, df, sz, hz⟩ := hi
  obtain ⟨t, kn, g1, g2, g3⟩ := hok
  have hbeg := Beg.take us i
  have hxD : opnd E.nt (slA s.sl D hs us 0) x = .bptr r0 q0 := opnd_le (fun t => slA_le (sl := s.sl) (hs := hs) (j := 0) (t := t) hbD (Beg.refl us)) he.x (by simp)
  have hv0 : V0 E.cells w A (.bptr r0 q0) (a.eval x) := by have := ev_tm tm sz x; rw [hxD] at this; exact this
  obtain ⟨_, gg, e1, e2⟩ := hv0
  obtain ⟨qq, hgq⟩ := hg
  obtain rfl : gg = g0 := by rw [e2] at hgq; injection hgq with h; injection h with h; injection h
  have hroot := hh.rt r0
  rw [(hpD_sub hbD (Beg.refl us)).row he.box (by simp)] at hroot
  obtain ⟨_, g', te0, cur0, m1, m2, m3, m4⟩ := hroot
  obtain rfl : gg = g' := by rw [e1] at m1; injection m1 with m1; injection m1 with m1; injection m1
  have hN0 : A.N r0 gg := (m2 gg).2 rfl
  have tm' : ∀ i' x, a.tmps[i']? = some x → V2 E.cells w A (slA s.sl (bs.getD i 0).testBit hs (us.take i) 0 i') x := by
    intro i' x hx
    rcases slA_le (sl := s.sl) (hs := hs) (j := 0) (t := i') hanc hbeg with h | h
    · rw [h]; exact trivial
    · rw [h]; exact tm i' x hx
  have ha : ∀ z, V2 E.cells w A (opnd E.nt (slA s.sl (bs.getD i 0).testBit hs (us.take i) 0) z) (a.eval z) := ev_tm tm' sz
  unfold lateOp at hl
  split at hl
  · cases hl
  rename_i hgd
  split at hl
  · cases hl
  simp only [Bool.and_eq_true] at hl
  have hl3 := hl.2.2
  refine ⟨hgd, ?_⟩
  have ht : t = true := by
    have := g1 (fun t _ => bif t then some [] else none)
    rw [hgd] at this
    cases t with
    | true => rfl
    | false => simp [guarded] at this
  subst ht
  obtain ⟨_, hev⟩ := g2 rfl
  have h := hev (hpD s.hp s.nx D us) (hpD_sub hanc hbeg) (fun _ _ => some [])
  split at hl3
  · -- extract
    rename_i z n hop
    rw [hop] at h
    simp only [evalQ] at h
    split at h
    · rename_i vs hz'
      have hc := ha z
      rw [hz'] at hc
      obtain ⟨l, h1, h2⟩ := hc
      split at h
      · rename_i v hv
        obtain ⟨y', hy, _⟩ := h2.get hv
        exact ⟨y', by simp [execOp, hop, h1, Instr.extract, hy], fun w2 _ => by simp [execOp, hop, h1, Instr.extract, hy]⟩
      · cases h
    · cases h
  · -- a field's place
    rename_i t z f hop
    rw [hop] at h
    have hx := ha z
    simp only [evalQ] at h
    split at h
    · cases h
    · rename_i ti ht
      split at h
      · cases h
      · rename_i p hf
        obtain ⟨ii, d, zz, h1, h2, h3, h4, h5, h6, hby, h7, h8, h9, h10, hpl, h11, h12, h13, h14, h15⟩ := hT t ti ht
        cases hag : ti.agg
        case false => rw [(h9 hag).2] at hf; simp at hf
        obtain ⟨fs, rfl, hfs⟩ := h10 hag
        obtain ⟨fl, g1, g2, g3, fi, g4⟩ := hfs f p hf
        obtain ⟨ii', d', z', k1, k2, k3, k4, k5, k6, kby, k7, k8, k9, k10, kpl, k11, k12, k13, k14, k15⟩ := hT p.2 fi g4
        have hplace : ∀ (W : World) b q, (fieldPlace ⟨b, q, none⟩ fl).run P W = .ok ⟨b, q + p.1, none⟩ W := by
          intro W b q
          have : ii'.size ≠ 0 := by omega
          simp [fieldPlace, g3, run_size k1, this, g2, add_at]
        have hrun : ∀ (W : World) b q, a.eval z = .pointer (some ⟨b, q, none⟩) → (execOp a.eval o).run P W = .ok (.value (.pointer (some ⟨b, q + p.1, none⟩))) W := by
          intro W b q he
          simp [execOp, hop, he, Instr.fieldAt, run_underlying h2, g1, Instr.sureAddr, hplace]
        split at h
        · rename_i r q hr
          rw [hr] at hx
          obtain ⟨hal, g, f1, f2⟩ := (show V0 E.cells w A (.bptr r q) (a.eval z) from hx)
          exact ⟨_, hrun w _ _ f2, fun w2 _ => hrun w2 _ _ f2⟩
        · rename_i r sz j q hr
          rw [hr] at hx
          obtain ⟨hal, g, n, c, f1, fj, f2⟩ := (show V0 E.cells w A (.eptr r sz j q) (a.eval z) from hx)
          exact ⟨_, hrun w _ _ f2, fun w2 _ => hrun w2 _ _ f2⟩
        · rename_i dd es cs q hr
          rw [hr] at hx
          obtain ⟨hal, bb, q2, vv, f1, f2, f3⟩ := (show V0 E.cells w A (.cptr dd es cs q) (a.eval z) from hx)
          exact ⟨_, hrun w _ _ f1, fun w2 _ => hrun w2 _ _ f1⟩
        · cases h
  · -- a copy
    rename_i z hop
    exact ⟨a.eval z, by simp [execOp, hop], fun w2 _ => by simp [execOp, hop]⟩
  · -- a load
    rename_i t z hop
    rw [hop] at h
    have hx := ha z
    simp only [evalQ, dropT_eq] at h
    split at h
    · cases h
    · rename_i ti ht
      obtain ⟨ii, d, zz, h1, h2, h3, h4, h5, h6, hby, h7, h8, h9, h10, hpl, h11, h12, h13, h14, h15⟩ := hT t ti ht
      have one : ∀ {xs : List Value}, xs.length = ti.cells.length → (∃ c q, c ≠ gg ∧ a.eval z = .pointer (some ⟨c, q, none⟩) ∧ ∀ j v, xs[j]? = some v → w.cell? ⟨c, q + j, none⟩ = some v) →
          ∃ v, (execOp a.eval o).run P w = .ok (.value v) w ∧ ∀ w2 : World, (∀ c, c ≠ gg → w2.heap[c]? = w.heap[c]?) → (execOp a.eval o).run P w2 = .ok (.value v) w2 := by
        intro xs hl' ⟨c, q, hc, he', hcell⟩
        have hl2 : xs.length = ii.size := by rw [hl', h4]
        have hagd : isAggD d = false → xs.length = 1 := by intro hd; rw [hl2, h4]; exact (h9 (by rw [← h8]; exact hd)).1
        refine ⟨mkValue (isAggD d) xs, ?_, fun w2 hw2 => ?_⟩
        · simp [execOp, hop, he', run_loadAt_cells h1 h2 hl2 hagd hcell]
        · have hcell2 : ∀ j v, xs[j]? = some v → w2.cell? ⟨c, q + j, none⟩ = some v := fun j v hj => by rw [World.cell?_of_block (hw2 c hc)]; exact hcell j v hj
          simp [execOp, hop, he', run_loadAt_cells h1 h2 hl2 hagd hcell2]
      cases hz' : opnd E.nt (slA s.sl (bs.getD i 0).testBit hs (us.take i) 0) z <;> rw [hz'] at hl3 h hx <;> try (simp only at hl3; cases hl3; done)
      case bptr r q =>
        simp only at h hl3
        obtain ⟨hal, g, f1, f2⟩ := (show V0 E.cells w A (.bptr r q) (a.eval z) from hx)
        split at h
        · rename_i cs hb
          cases hle : Nat.ble (q + ti.cells.length) cs.length <;> simp only [hle, cond_true, cond_false] at h
          · cases h
          have hle' := Nat.le_of_ble_eq_true hle
          have hroot := hh.rt r
          rw [hb] at hroot
          obtain ⟨_, g', te, cur, k1, k2, k3, k4⟩ := hroot
          obtain rfl : g = g' := by rw [f1] at k1; injection k1 with k1; injection k1 with k1; injection k1
          refine one (xs := cut cur.toList q ti.cells.length) (by rw [← (k4.cut q ti.cells.length).length, cut_length hle']) ⟨g, q, ?_, f2, fun j v hj => ?_⟩
          · rintro rfl
            have : r = r0 := hh.dj r r0 _ ((k2 _).2 rfl) hN0
            subst this; simp at hl3
          · rw [cell_at k3]
            simpa using (cut_get hj).1
        · cases h
      case cptr dd es cs q =>
        cases dd with
        | some r => simp only at hl3; cases hl3
        | none =>
          simp only at h
          obtain ⟨hal, c, qq, vv, f1, f2, f3⟩ := (show V0 E.cells w A (.cptr none es cs q) (a.eval z) from hx)
          cases hle : Nat.ble (q + ti.cells.length) es.length <;> simp only [hle, cond_true, cond_false] at h
          · cases h
          have hle' := Nat.le_of_ble_eq_true hle
          refine one (xs := (List.range ti.cells.length).map fun j => vv (q + j)) (by simp) ⟨c, qq + q, ?_, f1, fun j v hj => ?_⟩
          · rintro rfl; exact f2.2.2 r0 hN0
          · have hj' : j < ti.cells.length := by
              have := (List.getElem?_eq_some_iff.1 hj).1
              simpa using this
            simp [hj'] at hj
            obtain ⟨kk, hkk⟩ : ∃ kk, es[q + j]? = some kk := ⟨es[q + j]'(by omega), List.getElem?_eq_getElem (by omega)⟩
            rw [Nat.add_assoc, (f3 _ _ hkk).1, hj]
  · cases hl3
theorem late_step (hT : ∀ t i, E.T t = some i → TyOK P E t i) (hG : ∀ g c, c ∈ E.G g → Valid P E g c) {ops : Array Oper} {hs : List Oper} {bs : List Nat} {s : St} {us : List Out} {D D' : Nat → Bool} {a : Act} {w : World} {i b r0 q0 g0 : Nat} {o : Oper} {u : Out} {x y : Operand} {cs0 : List V}
    (hf : freshB (dsts hs) = true) (hi : HI E w0 M Z0 s hs us D a w) (ho : hs[i]? = some o) (hops : ops[i]? = some o) (hu : us[i]? = some u) (h0 : D i = false) (h1 : D' i = true) (h2 : ∀ l, l ≠ i → D' l = D l)
    (hanc : ∀ j, (bs.getD i 0).testBit j = true → D j = true) (hok : HeadOK E ops.toList hs bs s.sl s.hp s.nx i o u (us.take i))
    (he : Early E hs s us b x r0 q0 cs0) (hbD : ∀ j, b.testBit j = true → D j = true)
    (hl : lateOp E.nt (slA s.sl (bs.getD i 0).testBit hs (us.take i) 0) r0 x y o = true) (hg : ∃ q, a.eval x = .pointer (some ⟨g0, q, none⟩)) :
    ∃ v, HI E w0 M Z0 s hs us D' (a.put o.dst v) w ∧ (a.put o.dst v).eval x = a.eval x ∧ (a.put o.dst v).eval y = a.eval y ∧
      ∀ (w2 : World), (∀ c, c ≠ g0 → w2.heap[c]? = w.heap[c]?) → ∀ (K : Act → World → Prop) (Q : Exit → Act → World → Prop), K (a.put o.dst v) w2 → wpOp P ops Q i K a w2 := by
  obtain ⟨hgd, v, hv, hv2⟩ := late_run (y := y) hT hi hanc hok he hbD hl hg
  have hstep := head_step (D' := D') hT hG hf hi ho hops hu h0 h1 h2 hanc hok (K := fun a' w' => HI E w0 M Z0 s hs us D' a' w') (Q := fun _ _ _ => False) (fun a' w' h => h)
  have hwant : Region.wanted o (yielded ops a.tmps) = true := by simp [Region.wanted, hgd]
  have hne : ∀ z : Operand, (∀ d, o.dst = some d → opTmp z d = false) → (a.put o.dst v).eval z = a.eval z := by
    intro z hz
    refine Act.eval_put fun d hd he => ?_
    have := hz d hd
    rw [he] at this
    simp [opTmp] at this
  have hxy : ∀ d, o.dst = some d → opTmp x d = false ∧ opTmp y d = false := by
    intro d hd
    unfold lateOp at hl
    rw [hgd, hd] at hl
    simp only [Bool.and_eq_true, Bool.not_eq_true'] at hl
    exact ⟨hl.1, hl.2.1⟩
  refine ⟨v, ?_, hne x fun d hd => (hxy d hd).1, hne y fun d hd => (hxy d hd).2, fun w2 hw2 K Q hK => ?_⟩
  · unfold wpOp at hstep
    rw [hops] at hstep
    simp only [hwant, if_true] at hstep
    rcases hstep with h | ⟨_, h⟩
    · unfold Oper.wp at h
      rw [hv] at h
      exact h
    · obtain ⟨_, _, h⟩ := h; exact h.elim
  · unfold wpOp
    rw [hops]
    simp only [hwant, if_true]
    left
    unfold Oper.wp
    rw [hv2 w2 hw2]
    exact hK
theorem lateOps_spec {nt : Nat} {hs : List Oper} {bs : List Nat} {sl : Nat → V} {us : List Out} {r0 : Nat} {x y : Operand} {m : Nat} : ∀ {os : List Oper} {i : Nat}, lateOps nt hs bs sl us r0 x y m os i = true →
  ∀ (l : Nat) (o : Oper), os[l]? = some o → m.testBit (i + l) = true ∨ lateOp nt (slA sl (bs.getD (i + l) 0).testBit hs (us.take (i + l)) 0) r0 x y o = true
 | [], i, _, l, o, ho => by simp at ho
 | o' :: os, i, h, l, o, ho => by
  simp only [lateOps, Bool.and_eq_true, Bool.or_eq_true] at h
  cases l with
  | zero => simp at ho; subst ho; exact h.1
  | succ l =>
   have := lateOps_spec h.2 l o (by simpa using ho)
   rw [show i + 1 + l = i + (l + 1) by omega] at this
   exact this
theorem lateB_spec {hs : List Oper} {bs : List Nat} {s : St} {us : List Out} {h : Nat} {o : Oper} (hb : lateB E.nt hs bs s.sl s.hp s.nx us h o = true) :
    ∃ t x y r0 q0 cs0, o.guard = none ∧ o.dst = none ∧ o.op = .store t x y ∧ Early E hs s us (bs.getD h 0) x r0 q0 cs0 ∧
      ∀ (l : Nat) (o : Oper), hs[l]? = some o → (bs.getD h 0).testBit l = true ∨ lateOp E.nt (slA s.sl (bs.getD l 0).testBit hs (us.take l) 0) r0 x y o = true := by
  unfold lateB at hb
  split at hb
  · cases hb
  rename_i hg
  split at hb
  · cases hb
  rename_i hd
  split at hb
  · rename_i t x y hop
    split at hb
    · rename_i r0 q0 hx
      split at hb
      · rename_i cs0 hbx
        refine ⟨t, x, y, r0, q0, cs0, hg, hd, hop, ⟨hx, hbx⟩, fun l o ho => ?_⟩
        have := lateOps_spec hb l o ho
        rwa [Nat.zero_add] at this
      · cases hb
    · cases hb
  · cases hb
theorem store_run (hT : ∀ t i, E.T t = some i → TyOK P E t i) {A : Asg} {s : St} {a : Act} {w : World} (sm : Sim E w0 M A s a w) {t : TypeId} {x y : Operand} {k : V → St → Ans} {r q : Nat} {cs : List V} (h : evalT E (.store t x y) s k = some ans) (hr : opnd E.nt s.sl x = .bptr r q) (hcs : s.hp r = .box cs) :
    ∃ g cur, (∃ q', a.eval x = .pointer (some ⟨g, q', none⟩)) ∧ (Instr.storeAt t (a.eval x) (a.eval y)).run P w = .ok () (w.setRow g cur) := by
  have hh := sm.hp
  have hx := sm.ev x
  simp only [evalT] at h
  split at h
  · cases h
  rename_i i ht
  obtain ⟨ii, d, z, h1, h2, h3, h4, h5, h6, hby, h7, h8, h9, h10, hpl, h11, h12, h13, h14, h15⟩ := hT t i ht
  obtain ⟨new, g1, g2⟩ := cellsV_spec h
  have hy := g2 (sm.ev y)
  cases hl : Nat.beq new.length i.cells.length <;> simp only [hl, cond_true, cond_false] at g1
  · cases g1
  have hl' := Nat.eq_of_beq_eq_true hl
  have hsz : (a.eval y).cells.size = ii.size := by rw [← Array.length_toList, ← hy.length, hl', h4]
  have hone : ∀ u ∈ (a.eval y).cells.toList, u.oneCell' = true := by
    intro u hu
    obtain ⟨j, hj⟩ := List.getElem?_of_mem hu
    have := hy.length
    have hjl : j < new.length := by rw [this]; exact (List.getElem?_eq_some_iff.1 hj).1
    obtain ⟨b, hb, hv⟩ := hy.get (List.getElem?_eq_getElem hjl)
    rw [hj] at hb; injection hb with hb; subst hb
    exact hv.2
  rw [hr] at g1 hx
  simp only [hcs] at g1
  cases hle : Nat.ble (q + new.length) cs.length <;> simp only [hle, cond_true, cond_false] at g1
  · cases g1
  have hle' := Nat.le_of_ble_eq_true hle
  obtain ⟨hal, g, e1, e2⟩ := (show V0 E.cells w A (.bptr r q) (a.eval x) from hx)
  have hroot := hh.rt r
  rw [hcs] at hroot
  obtain ⟨_, g', te, cur, m1, m2, m3, m4⟩ := hroot
  obtain rfl : g = g' := by rw [e1] at m1; injection m1 with m1; injection m1 with m1; injection m1
  have hcl : cs.length = cur.size := by rw [m4.length, Array.length_toList]
  have hst := run_storeAt_any (P := P) (t := t) (g := g) (q := q) h1 hsz hone m3 (by omega)
  rw [← e2] at hst
  exact ⟨g, _, ⟨q, e2⟩, hst⟩
theorem HI.sim {s : St} {hs : List Oper} {us : List Out} {D : Nat → Bool} {a : Act} {w : World} {h : Nat} (hi : HI E w0 M Z0 s hs us D a w) (hhs : hs.length = h) (hul : us.length = h) (hD : ∀ j, D j = true ↔ j < h) :
    ∃ A1, Sim E w0 M A1 { sl := slA s.sl always hs us 0, hp := hpD s.hp s.nx always us, nx := s.nx + 64 * h } a w ∧ A1.Z = Z0 := by
  obtain ⟨A1, i1, i2, i3, i4, i5, i6⟩ := hi
  have hhp : hpD s.hp s.nx D us = hpD s.hp s.nx always us := by
    funext r
    unfold hpD
    cases Nat.blt r s.nx with
    | true => rfl
    | false =>
      simp only [cond_false, always, cond_true]
      by_cases hj : (r - s.nx) / 64 < h
      · rw [(hD _).2 hj]; rfl
      · have : D ((r - s.nx) / 64) = false := by
          cases hd : D ((r - s.nx) / 64) with
          | false => rfl
          | true => exact absurd ((hD _).1 hd) hj
        rw [this, nthO_out (by omega)]; rfl
  refine ⟨A1, ⟨by rw [← hhp]; exact i1, fun i x hx => ?_, fun r hr hal => ?_, i4, i5⟩, i6⟩
  · show V2 E.cells w A1 (slA s.sl always hs us 0 i) x
    rw [← slA_all (D := D) (fun i _ hi => (hD i).2 (by omega))]
    exact i2 i x hx
  · have hr' : s.nx + 64 * h ≤ r := hr
    rcases i3 r hal with h1 | ⟨j, h1, h2, h3⟩
    · omega
    · have := (hD j).1 h1; omega
theorem mask_lt {ops : Array Oper} (hback : backB ops.toList 0 = true) : ∀ {i j : Nat}, i < ops.size → ((masks ops.toList []).getD i 0).testBit j = true → j < i := by
  intro i
  induction i using Nat.strongRecOn with
  | _ i ih =>
    intro j hi hj
    have ho : ops.toList[i]? = some ops[i] := by simp [hi]
    obtain ⟨pre, h1, h2⟩ := masks_get (bs := []) ho
    rw [List.length_nil, Nat.zero_add] at h2
    rw [List.getD_eq_getElem?_getD, h2] at hj
    obtain ⟨e, he, hb, hle⟩ := maskOf_bit (show (maskOf pre ops[i].after.toList).testBit j = true from hj)
    have hlt := backB_get hback (l := i) (o := ops[i]) ho e he hb
    rcases hle with rfl | hle
    · omega
    · have : j < e.on := by
        refine ih e.on (by omega) (by omega) ?_
        rw [List.getD_eq_getElem?_getD] at hle ⊢
        cases hp : pre[e.on]? with
        | none => rw [hp] at hle; simp at hle
        | some b => rw [hp] at hle; rw [h1 _ _ hp]; exact hle
      omega
theorem draws_late (hT : ∀ t i, E.T t = some i → TyOK P E t i) (hG : ∀ g c, c ∈ E.G g → Valid P E g c) (hM : ∀ g c, c ∈ E.M g → MValid P E g c) {ops : Array Oper} {h : Nat} {s : St} {k : St → Ans} {Q : Exit → Act → World → Prop} {us : List Out} {oh : Oper}
    (hback : backB ops.toList 0 = true) (hfresh : freshB (dsts (ops.toList.take h)) = true) (hoh : ops[h]? = some oh)
    (htail : ∀ i, h < i → i < ops.size → ∀ l, l < i → ((masks ops.toList []).getD i 0).testBit l = true) (g2 : us.length = h)
    (g4 : ∀ (l : Nat) (o : Oper), (ops.toList.take h)[l]? = some o → ∃ u, us[l]? = some u ∧ HeadOK E ops.toList (ops.toList.take h) (masks ops.toList []) s.sl s.hp s.nx l o u (us.take l))
    (hb : lateB E.nt (ops.toList.take h) (masks ops.toList []) s.sl s.hp s.nx us h oh = true)
    (g1 : runOps E ops.toList (ops.toList.drop h) { sl := slA s.sl always (ops.toList.take h) us 0, hp := hpD s.hp s.nx always us, nx := s.nx + 64 * h } k = some ans)
    (hQ : ∀ s' a' w', k s' = some ans → At E w0 M Z0 s' a' w' → Q .normal a' w') :
    ∀ (n : Nat) (rem : List Nat) (listed : Array Bool) (D : Nat → Bool) (a : Act) (w : World), rem.length = n → rem.Nodup → (∀ j ∈ rem, j < h) → listed.size = ops.size → (∀ j, j < ops.size → (listed.getD j true = false ↔ (j ∈ rem ∨ h ≤ j))) →
      (∀ j, D j = true ↔ (j < h ∧ j ∉ rem)) → Closed ops listed → HI E w0 M Z0 s (ops.toList.take h) us D a w → wpAny P .any ops Q (n + (ops.size - h)) listed a w := by
  have hlt : h < ops.size := (Array.getElem?_eq_some_iff.1 hoh).1
  have hhs : (ops.toList.take h).length = h := by simp; omega
  have hget : ∀ i, i < h → ∃ o, ops[i]? = some o ∧ (ops.toList.take h)[i]? = some o := by
    intro i hi
    refine ⟨_, Array.getElem?_eq_getElem (show i < ops.size by omega), ?_⟩
    rw [List.getElem?_take, if_pos hi]; simp [show i < ops.size by omega]
  obtain ⟨t, x, y, r0, q0, cs0, hgd, hdst, hop, he, hlate⟩ := lateB_spec hb
  have hdrop : ops.toList.drop h = oh :: ops.toList.drop (h + 1) := by
    rw [List.drop_eq_getElem_cons (by simpa using hlt)]
    have := (Array.getElem?_eq_some_iff.1 hoh).2
    simp [this]
  rw [hdrop] at g1
  simp only [runOps, hgd, guarded, cond_true, St.knows] at g1
  have hwant : ∀ a : Act, Region.wanted oh (yielded ops a.tmps) = true := fun a => by simp [Region.wanted, hgd]
  have setD : ∀ {rem : List Nat} {D : Nat → Bool} {i : Nat}, rem.Nodup → i < h → (∀ j, D j = true ↔ (j < h ∧ j ∉ rem)) → i ∈ rem → ∀ j, (D j || Nat.beq j i) = true ↔ (j < h ∧ j ∉ rem.erase i) := by
    intro rem D i hnd hih hD him j
    rw [hnd.mem_erase_iff, Bool.or_eq_true, hD j]
    constructor
    · rintro (⟨h1, h2⟩ | h1)
      · exact ⟨h1, fun h => h2 h.2⟩
      · have := Nat.eq_of_beq_eq_true h1
        subst this; exact ⟨hih, fun h => h.1 rfl⟩
    · rintro ⟨h1, h2⟩
      by_cases hji : j = i
      · subst hji; exact .inr (by simp)
      · exact .inl ⟨h1, fun h => h2 ⟨hji, h⟩⟩
  have otherD : ∀ {D : Nat → Bool} {i l : Nat}, l ≠ i → (D l || Nat.beq l i) = D l := by
    intro D i l hli
    have : Nat.beq l i = false := by
      cases hb : Nat.beq l i with
      | false => rfl
      | true => exact absurd (Nat.eq_of_beq_eq_true hb) hli
    simp [this]
  have notD : ∀ {rem : List Nat} {D : Nat → Bool}, (∀ j, D j = true ↔ (j < h ∧ j ∉ rem)) → ∀ j ∈ rem, D j = false := by
    intro rem D hD j hj
    cases hd : D j with
    | false => rfl
    | true => exact absurd hj ((hD j).1 hd).2
  have setL : ∀ {rem : List Nat} {listed : Array Bool} {i m : Nat}, rem.Nodup → i < m → i < listed.size → (∀ j, j < ops.size → (listed.getD j true = false ↔ (j ∈ rem ∨ m ≤ j))) → ∀ j, j < ops.size → ((listed.setIfInBounds i true).getD j true = false ↔ (j ∈ rem.erase i ∨ m ≤ j)) := by
    intro rem listed i m hnd him his hl j hj
    by_cases hij : i = j
    · subst hij
      simp [his, hnd.mem_erase_iff]
      omega
    · rw [getD_set_ne true hij, hl j hj, hnd.mem_erase_iff]
      simp [Ne.symm hij]
  have unl : ∀ {listed : Array Bool} {j : Nat}, j < listed.size → listed.getD j false = true → ¬ listed.getD j true = false := by
    intro listed j hj h1 h2
    simp [hj] at h1 h2
    rw [h1] at h2; cases h2
  have inb : ∀ {listed : Array Bool} {j : Nat}, listed.getD j false = true → j < listed.size := by
    intro listed j hj
    rcases Nat.lt_or_ge j listed.size with h' | h'
    · exact h'
    · simp [Array.getElem?_eq_none h'] at hj
  -- the least of those that are left may come
  have ready : ∀ {rem : List Nat} {listed : Array Bool} {m : Nat}, m ≤ ops.size → h ≤ m → rem ≠ [] → (∀ j ∈ rem, j < h) → listed.size = ops.size → (∀ j, j < ops.size → (listed.getD j true = false ↔ (j ∈ rem ∨ m ≤ j))) → ∃ i ∈ rem, i ∈ Region.ready .any ops listed := by
    intro rem listed m hm hhm hne hrl hls hl
    obtain ⟨i, him, hmin⟩ := min_mem hne
    have hih := hrl i him
    obtain ⟨o, ho1, ho2⟩ := hget i hih
    refine ⟨i, him, mem_ready.2 ⟨(hl i (by omega)).2 (.inl him), o, ho1, fun e he hb => ?_⟩⟩
    have hlt := backB_get hback (l := i) (o := o) (by simpa using ho1) e (by simpa using he) hb
    have hne : ¬ listed.getD e.on true = false := fun hf => by
      rcases (hl e.on (by omega)).1 hf with hm | hm
      · have := hmin _ hm; omega
      · omega
    have hin : e.on < listed.size := by omega
    simpa [hin] using hne
  -- what it waits for has come
  have anc : ∀ {rem : List Nat} {listed : Array Bool} {D : Nat → Bool} {i m : Nat}, h ≤ m → listed.size = ops.size → (∀ j, j < ops.size → (listed.getD j true = false ↔ (j ∈ rem ∨ m ≤ j))) → (∀ j, D j = true ↔ (j < h ∧ j ∉ rem)) → Closed ops listed → i ∈ Region.ready .any ops listed → i < h →
      ∀ j, ((masks ops.toList []).getD i 0).testBit j = true → j < h → D j = true := by
    intro rem listed D i m hhm hls hl hD hc hir hih j hj hjh
    have hjl := ready_closed hc hir j hj
    refine (hD j).2 ⟨hjh, fun hm => ?_⟩
    exact unl (inb hjl) hjl ((hl j (by omega)).2 (.inl hm))
  have low : ∀ i, i < h → ∀ j, ((masks ops.toList []).getD i 0).testBit j = true → j < i := fun i hi j hj => mask_lt hback (by omega) hj
  -- the rest of the head, as if it came first
  have fin : ∀ (g0 : Nat) (n : Nat) (rem : List Nat) (listed : Array Bool) (D : Nat → Bool) (a : Act) (w : World), rem.length = n → rem.Nodup → (∀ j ∈ rem, j < h) → (∀ j ∈ rem, ((masks ops.toList []).getD h 0).testBit j = false) → listed.size = ops.size →
      (∀ j, j < ops.size → (listed.getD j true = false ↔ (j ∈ rem ∨ h ≤ j))) → (∀ j, D j = true ↔ (j < h ∧ j ∉ rem)) → Closed ops listed → HI E w0 M Z0 s (ops.toList.take h) us D a w → (∃ q, a.eval x = .pointer (some ⟨g0, q, none⟩)) →
      ∃ a' D', (∀ j, D' j = true ↔ j < h) ∧ HI E w0 M Z0 s (ops.toList.take h) us D' a' w ∧ a'.eval x = a.eval x ∧ a'.eval y = a.eval y := by
    intro g0 n
    induction n with
    | zero =>
      intro rem listed D a w hn _ _ _ _ _ hD _ hi _
      have hrem : rem = [] := List.eq_nil_of_length_eq_zero hn
      subst hrem
      exact ⟨a, D, fun j => by rw [hD j]; simp, hi, rfl, rfl⟩
    | succ n ih =>
      intro rem listed D a w hn hnd hrl hnb hls hl hD hc hi hg
      obtain ⟨i, him, hir⟩ := ready (rem := rem) (m := h) (by omega) (Nat.le_refl _) (by rintro rfl; simp at hn) hrl hls hl
      have hih := hrl i him
      obtain ⟨o, ho1, ho2⟩ := hget i hih
      obtain ⟨u, hu, hok⟩ := g4 i o ho2
      have hl2 := (hlate i o ho2).resolve_left (by rw [hnb i him]; simp)
      obtain ⟨v, k1, k2, k3, _⟩ := late_step (D' := fun j => D j || Nat.beq j i) hT hG hfresh hi ho2 ho1 hu (notD hD i him) (by simp) (fun l hli => otherD hli) (fun j hj => anc (Nat.le_refl _) hls hl hD hc hir hih j hj (by have := low i hih j hj; omega)) hok he
        (fun j hj => (hD j).2 ⟨mask_lt hback hlt hj, fun hm => by rw [hnb j hm] at hj; cases hj⟩) hl2 hg
      obtain ⟨a', D', q1, q2, q3, q4⟩ := ih (rem.erase i) (listed.setIfInBounds i true) _ _ w (by rw [List.length_erase_of_mem him]; omega) (hnd.erase i) (fun j hj => hrl j (List.mem_of_mem_erase hj)) (fun j hj => hnb j (List.mem_of_mem_erase hj)) (by simpa using hls) (setL hnd hih (by omega) hl) (setD hnd hih hD him) (hc.set hir) k1 (by rw [k2]; exact hg)
      exact ⟨a', D', q1, q2, q3.trans k2, q4.trans k3⟩
  -- behind the store
  have behind : ∀ (X Y : Value) (g0 : Nat) (w w2 : World), (∃ q, X = .pointer (some ⟨g0, q, none⟩)) → (∀ c, c ≠ g0 → w2.heap[c]? = w.heap[c]?) → (∀ ev : Operand → Value, ev x = X → ev y = Y → (execOp ev oh).run P w = .ok .skip w2) →
      ∀ (n : Nat) (rem : List Nat) (listed : Array Bool) (D : Nat → Bool) (a : Act), rem.length = n → rem.Nodup → (∀ j ∈ rem, j < h) → (∀ j ∈ rem, ((masks ops.toList []).getD h 0).testBit j = false) → listed.size = ops.size →
      (∀ j, j < ops.size → (listed.getD j true = false ↔ (j ∈ rem ∨ h + 1 ≤ j))) → (∀ j, D j = true ↔ (j < h ∧ j ∉ rem)) → Closed ops listed → HI E w0 M Z0 s (ops.toList.take h) us D a w → a.eval x = X → a.eval y = Y →
      wpAny P .any ops Q (n + (ops.size - (h + 1))) listed a w2 := by
    intro X Y g0 w w2 hX hw2 hst n
    induction n with
    | zero =>
      intro rem listed D a hn _ _ _ hls hl hD hc hi hx hy
      have hrem : rem = [] := List.eq_nil_of_length_eq_zero hn
      subst hrem
      obtain ⟨A1, sm1, hz1⟩ := hi.sim hhs g2 (fun j => by rw [hD j]; simp)
      obtain ⟨v, s', e1, e2⟩ := evalO_sound hT hG hM sm1 g1
      have h3 := e2 (fun a' w' => ∃ A', Sim E w0 M A' (s'.put oh.dst v) a' w' ∧ A'.Z = A1.Z) (fun _ _ _ => False) (fun cv w' A' q1 q2 q3 => ⟨A', q1.put q2, q3⟩)
      unfold Oper.wp at h3
      rw [hst a.eval hx hy] at h3
      obtain ⟨A2, sm2, hz2⟩ := (show ∃ A', Sim E w0 M A' (s'.put oh.dst v) (a.put oh.dst undef) w2 ∧ A'.Z = A1.Z from h3)
      rw [hdst] at sm2 e1
      rw [Nat.zero_add]
      exact tail_sound hT hG hM (h := h) hback htail (ops.size - (h + 1)) (n := h + 1) (by omega) (by omega) hls (fun j hj => by rw [hl j hj]; simp) hc sm2 e1 fun s'' a'' w'' A'' f1 f2 f3 => hQ s'' a'' w'' f1 ⟨A'', f2, f3.trans (hz2.trans hz1)⟩
    | succ n ih =>
      intro rem listed D a hn hnd hrl hnb hls hl hD hc hi hx hy
      rw [show n + 1 + (ops.size - (h + 1)) = (n + (ops.size - (h + 1))) + 1 by omega]
      have hne : rem ≠ [] := by rintro rfl; simp at hn
      refine ⟨fun he' => ?_, fun i hir => ?_⟩
      · obtain ⟨i, _, hir⟩ := ready (rem := rem) (m := h + 1) (by omega) (by omega) hne hrl hls hl
        rw [he'] at hir; cases hir
      · obtain ⟨h0, o', ho', _⟩ := mem_ready.1 hir
        have hil := (Array.getElem?_eq_some_iff.1 ho').1
        have him : i ∈ rem := by
          rcases (hl i hil).1 h0 with hm | hm
          · exact hm
          · obtain ⟨j, hjm, _⟩ := min_mem hne
            have hjh := hrl j hjm
            have h1 := ready_closed hc hir j (htail i (by omega) hil j (by omega))
            exact (unl (inb h1) h1 ((hl j (by omega)).2 (.inl hjm))).elim
        have hih := hrl i him
        obtain ⟨o, ho1, ho2⟩ := hget i hih
        obtain ⟨u, hu, hok⟩ := g4 i o ho2
        have hl2 := (hlate i o ho2).resolve_left (by rw [hnb i him]; simp)
        obtain ⟨v, k1, k2, k3, k4⟩ := late_step (D' := fun j => D j || Nat.beq j i) hT hG hfresh hi ho2 ho1 hu (notD hD i him) (by simp) (fun l hli => otherD hli) (fun j hj => anc (Nat.le_succ h) hls hl hD hc hir hih j hj (by have := low i hih j hj; omega)) hok he
          (fun j hj => (hD j).2 ⟨mask_lt hback hlt hj, fun hm => by rw [hnb j hm] at hj; cases hj⟩) hl2 (by rw [hx]; exact hX)
        exact k4 w2 hw2 _ Q (ih (rem.erase i) (listed.setIfInBounds i true) _ _ (by rw [List.length_erase_of_mem him]; omega) (hnd.erase i) (fun j hj => hrl j (List.mem_of_mem_erase hj)) (fun j hj => hnb j (List.mem_of_mem_erase hj)) (by simpa using hls) (setL hnd (by omega) (by omega) hl) (setD hnd hih hD him) (hc.set hir) k1 (k2.trans hx) (k3.trans hy))
  -- ahead of it
  intro n
  induction n with
  | zero =>
    intro rem listed D a w hn _ _ hls hl hD hc hi
    have hrem : rem = [] := List.eq_nil_of_length_eq_zero hn
    subst hrem
    obtain ⟨A1, sm1, hz1⟩ := hi.sim hhs g2 (fun j => by rw [hD j]; simp)
    rw [Nat.zero_add]
    refine tail_sound hT hG hM (h := h) hback htail (ops.size - h) (n := h) (by omega) (Nat.le_refl _) hls (fun j hj => by rw [hl j hj]; simp) hc sm1 (k := k) ?_ fun s' a' w' A' e1 e2 e3 => hQ s' a' w' e1 ⟨A', e2, e3.trans hz1⟩
    rw [hdrop]
    simp only [runOps, hgd, guarded, cond_true, St.knows]
    exact g1
  | succ n ih =>
    intro rem listed D a w hn hnd hrl hls hl hD hc hi
    rw [show n + 1 + (ops.size - h) = (n + (ops.size - h)) + 1 by omega]
    have hne : rem ≠ [] := by rintro rfl; simp at hn
    refine ⟨fun he' => ?_, fun i hir => ?_⟩
    · obtain ⟨i, _, hir⟩ := ready (rem := rem) (m := h) (by omega) (Nat.le_refl _) hne hrl hls hl
      rw [he'] at hir; cases hir
    · obtain ⟨h0, o', ho', _⟩ := mem_ready.1 hir
      have hil := (Array.getElem?_eq_some_iff.1 ho').1
      by_cases him : i ∈ rem
      · have hih := hrl i him
        obtain ⟨o, ho1, ho2⟩ := hget i hih
        obtain ⟨u, hu, hok⟩ := g4 i o ho2
        refine head_step (D' := fun j => D j || Nat.beq j i) hT hG hfresh hi ho2 ho1 hu (notD hD i him) (by simp) (fun l hli => otherD hli) (fun j hj => anc (Nat.le_refl _) hls hl hD hc hir hih j hj (by have := low i hih j hj; omega)) hok fun a' w' hi' => ?_
        exact ih (rem.erase i) _ _ a' w' (by rw [List.length_erase_of_mem him]; omega) (hnd.erase i) (fun j hj => hrl j (List.mem_of_mem_erase hj)) (by simpa using hls) (setL hnd hih (by omega) hl) (setD hnd hih hD him) (hc.set hir) hi'
      · have hih : h ≤ i := ((hl i hil).1 h0).resolve_left him
        have hi2 : i = h := by
          rcases Nat.lt_or_ge h i with hlt' | hge
          · have h1 := ready_closed hc hir h (htail i hlt' hil h hlt')
            exact (unl (inb h1) h1 ((hl h hlt).2 (.inr (Nat.le_refl _)))).elim
          · omega
        subst hi2
        have hnb : ∀ j ∈ rem, ((masks ops.toList []).getD i 0).testBit j = false := by
          intro j hj
          cases hb : ((masks ops.toList []).getD i 0).testBit j with
          | false => rfl
          | true =>
            have h1 := ready_closed hc hir j hb
            exact (unl (inb h1) h1 ((hl j (by have := hrl j hj; omega)).2 (.inl hj))).elim
        have hbD : ∀ j, ((masks ops.toList []).getD i 0).testBit j = true → D j = true := fun j hj => (hD j).2 ⟨mask_lt hback hlt hj, fun hm => by rw [hnb j hm] at hj; cases hj⟩
        have hX : ∃ g0 q, a.eval x = .pointer (some ⟨g0, q, none⟩) := by
          obtain ⟨A, _, tm, _, _, sz, _⟩ := hi
          have hxD : opnd E.nt (slA s.sl D (ops.toList.take i) us 0) x = .bptr r0 q0 := opnd_le (fun t => slA_le (sl := s.sl) (j := 0) (t := t) hbD (Beg.refl us)) he.x (by simp)
          have := ev_tm tm sz x
          rw [hxD] at this
          obtain ⟨_, g0, _, e2⟩ := (show V0 E.cells w A (.bptr r0 q0) (a.eval x) from this)
          exact ⟨g0, q0, e2⟩
        obtain ⟨g0, hX⟩ := hX
        obtain ⟨a', D', q1, q2, q3, q4⟩ := fin g0 (n + 1) rem listed D a w hn hnd hrl hnb hls hl hD hc hi hX
        obtain ⟨A1, sm1, hz1⟩ := q2.sim hhs g2 q1
        have hx1 : opnd E.nt (slA s.sl always (ops.toList.take i) us 0) x = .bptr r0 q0 := opnd_le (fun t => slA_le (sl := s.sl) (j := 0) (t := t) (fun _ _ => rfl) (Beg.refl us)) he.x (by simp)
        have hb1 : hpD s.hp s.nx always us r0 = .box cs0 := (hpD_sub (fun _ _ => rfl) (Beg.refl us)).row he.box (by simp)
        have g1' := g1
        unfold evalO at g1'
        rw [hop] at g1'
        simp only [isT, cond_true] at g1'
        obtain ⟨g, cur, ⟨q', f1⟩, f2⟩ := store_run hT sm1 g1' hx1 hb1
        have hgg : g = g0 := by
          obtain ⟨q, hX⟩ := hX
          rw [q3, hX] at f1; injection f1 with f1; injection f1 with f1; injection f1 with f1; exact f1.symm
        subst hgg
        have hst : ∀ ev : Operand → Value, ev x = a.eval x → ev y = a.eval y → (execOp ev oh).run P w = .ok .skip (w.setRow g cur) := by
          intro ev e1 e2
          rw [q3, q4] at f2
          simp [execOp, hop, e1, e2, f2]
        refine wpOp_of hoh ?_
        rw [if_pos (hwant a)]
        unfold Oper.wp
        rw [hst a.eval rfl rfl]
        show wpAny P .any ops Q (n + (ops.size - i)) (listed.setIfInBounds i true) (a.put oh.dst undef) (w.setRow g cur)
        rw [hdst, show n + (ops.size - i) = (n + 1) + (ops.size - (i + 1)) by omega]
        refine behind (a.eval x) (a.eval y) g w (w.setRow g cur) hX (fun c hc => setRow_other _ _ _ _ hc) hst (n + 1) rem (listed.setIfInBounds i true) D a hn hnd hrl hnb (by simpa using hls) (fun j hj => ?_) hD (hc.set hir) hi rfl rfl
        by_cases hij : i = j
        · subst hij
          have : i < listed.size := by omega
          simp [this, him]
        · rw [getD_set_ne true hij, hl j hj]
          constructor
          · rintro (hm | hm)
            · exact .inl hm
            · exact .inr (by omega)
          · rintro (hm | hm)
            · exact .inl hm
            · exact .inr (by omega)
theorem draws (hT : ∀ t i, E.T t = some i → TyOK P E t i) (hG : ∀ g c, c ∈ E.G g → Valid P E g c) (hM : ∀ g c, c ∈ E.M g → MValid P E g c) (hmix : P.follows .mixedOrders = true) : DrawsOK P E w0 M Z0 ans := by
  intro id ops s k Q a w hr ⟨A, sm, hz⟩ hQ
  unfold runDraw at hr
  simp only at hr
  cases hb : (backB ops.toList 0 && (tailB ((masks ops.toList []).drop (headLen E ops.toList ops.toList)) (headLen E ops.toList ops.toList) && freshB (dsts (ops.toList.take (headLen E ops.toList ops.toList))))) <;> simp only [hb, cond_true, cond_false] at hr
  · clear hb
    cases hb : (backB ops.toList 0 && (tailB ((masks ops.toList []).drop (headLen E ops.toList ops.toList + 1)) (headLen E ops.toList ops.toList + 1) && freshB (dsts (ops.toList.take (headLen E ops.toList ops.toList))))) <;> simp only [hb, cond_true, cond_false] at hr
    · cases hr
    simp only [Bool.and_eq_true] at hb
    obtain ⟨hback, htb, hfresh⟩ := hb
    split at hr
    · cases hr
    rename_i oh hoh
    revert hr htb hfresh hoh
    generalize headLen E ops.toList ops.toList = h
    intro htb hfresh hoh hr
    have hoh' : ops[h]? = some oh := by simpa using hoh
    have hlt : h < ops.size := (Array.getElem?_eq_some_iff.1 hoh').1
    have hhs : (ops.toList.take h).length = h := by simp; omega
    obtain ⟨us, g1, g2, _, g4⟩ := runHead_det (us := []) (i := 0) hfresh (Beg.take _ _) (by omega) rfl hr
    simp only [Nat.zero_add, hhs] at g2 g4
    cases hlb : lateB E.nt (ops.toList.take h) (masks ops.toList []) s.sl s.hp s.nx us h oh <;> simp only [hlb, cond_true, cond_false] at g1
    · cases g1
    have htail : ∀ i, h < i → i < ops.size → ∀ l, l < i → ((masks ops.toList []).getD i 0).testBit l = true := by
      intro i h1 h2 l hl
      have hlen : i < (masks ops.toList []).length := by rw [masks_length]; simp; exact h2
      have hg := List.getElem?_eq_getElem hlen
      have := tailB_get htb (l := i - (h + 1)) (b := (masks ops.toList [])[i]) (by rw [List.getElem?_drop, show h + 1 + (i - (h + 1)) = i by omega]; exact hg)
      rw [List.getD_eq_getElem?_getD, hg, Option.getD_some, this, show h + 1 + (i - (h + 1)) = i by omega, Nat.testBit_two_pow_sub_one]
      simpa using hl
    refine wp_region_any hmix ?_
    have sm1 := sm.drew
    have hfin := draws_late hT hG hM (Z0 := Z0) hback hfresh hoh' htail g2 g4 hlb g1 hQ h (List.range h) (Array.replicate ops.size false) (fun _ => false) a { w with drawn := w.drawn + 1 } (by simp) List.nodup_range (fun j hj => by simpa using hj) (by simp) (fun j hj => by simp [hj]; omega) (fun j => by simp) (fun i hi => by
      by_cases hlt : i < ops.size <;> simp [hlt] at hi) ⟨A, ?_, fun i x hx => ?_, fun r hr => .inl (Nat.lt_of_not_le fun hle => sm1.nx r hle hr), sm1.df, sm1.sz, hz⟩
    · rw [show h + (ops.size - h) = ops.size by omega] at hfin
      exact hfin
    · have : hpD s.hp s.nx (fun _ => false) us = s.hp := by
        funext r
        unfold hpD
        cases hb : Nat.blt r s.nx with
        | true => rfl
        | false =>
          simp only [cond_false]
          refine (sm.hp.al r (sm.nx r ?_)).symm
          exact Nat.le_of_not_lt fun h => by rw [Nat.blt_eq.mpr h] at hb; cases hb
      rw [this]; exact sm1.hp
    · rcases slA_none (sl := s.sl) (D := fun _ => false) (t := i) (fun _ => rfl) (hs := ops.toList.take h) (us := us) (j := 0) with h | h
      · rw [h]; exact trivial
      · rw [h]; exact sm1.tm i x hx
  simp only [Bool.and_eq_true] at hb
  obtain ⟨hback, htb, hfresh⟩ := hb
  have hle : headLen E ops.toList ops.toList ≤ ops.size := by
    rw [← Array.length_toList]
    generalize ops.toList = all
    have : ∀ l : List Oper, headLen E all l ≤ l.length := by
      intro l
      induction l with
      | nil => exact Nat.le_refl _
      | cons o l ih =>
        simp only [headLen, List.length_cons]
        cases ((isT o.op && !freshApp all o.op) || isM E o.op)
        · simp only [cond_false]; omega
        · simp only [cond_true]; omega
    exact this all
  revert hr htb hfresh hle
  generalize hh : headLen E ops.toList ops.toList = h
  intro hr htb hfresh hle
  have hhs : (ops.toList.take h).length = h := by simp; omega
  obtain ⟨us, g1, g2, _, g4⟩ := runHead_det (us := []) (i := 0) hfresh (Beg.take _ _) (by omega) rfl hr
  simp only [Nat.zero_add, hhs] at g2 g4
  have htail : ∀ i, h ≤ i → i < ops.size → ∀ l, l < i → ((masks ops.toList []).getD i 0).testBit l = true := by
    intro i h1 h2 l hl
    have hlen : i < (masks ops.toList []).length := by rw [masks_length]; simp; exact h2
    have hg := List.getElem?_eq_getElem hlen
    have := tailB_get htb (l := i - h) (b := (masks ops.toList [])[i]) (by rw [List.getElem?_drop, show h + (i - h) = i by omega]; exact hg)
    rw [List.getD_eq_getElem?_getD, hg, Option.getD_some, this, show h + (i - h) = i by omega, Nat.testBit_two_pow_sub_one]
    simpa using hl
  have hget : ∀ i, i < h → ∃ o, ops[i]? = some o ∧ (ops.toList.take h)[i]? = some o := by
    intro i hi
    refine ⟨_, Array.getElem?_eq_getElem (show i < ops.size by omega), ?_⟩
    rw [List.getElem?_take, if_pos hi]; simp [show i < ops.size by omega]
  refine wp_region_any hmix ?_
  -- the head
  have head : ∀ (n : Nat) (rem : List Nat) (listed : Array Bool) (D : Nat → Bool) (a : Act) (w : World), rem.length = n → rem.Nodup → (∀ j ∈ rem, j < h) → listed.size = ops.size → (∀ j, j < ops.size → (listed.getD j true = false ↔ (j ∈ rem ∨ h ≤ j))) →
      (∀ j, D j = true ↔ (j < h ∧ j ∉ rem)) → Closed ops listed → HI E w0 M Z0 s (ops.toList.take h) us D a w → wpAny P .any ops Q (n + (ops.size - h)) listed a w := by
    intro n
    induction n with
    | zero =>
      intro rem listed D a w hn _ _ hls hl hD hc ⟨A1, i1, i2, i3, i4, i5, i6⟩
      have hrem : rem = [] := List.eq_nil_of_length_eq_zero hn
      subst hrem
      have hDh : ∀ j, D j = true ↔ j < h := fun j => by rw [hD j]; simp
      have hhp : hpD s.hp s.nx D us = hpD s.hp s.nx always us := by
        funext r
        unfold hpD
        cases Nat.blt r s.nx with
        | true => rfl
        | false =>
          simp only [cond_false, always, cond_true]
          by_cases hj : (r - s.nx) / 64 < h
          · rw [(hDh _).2 hj]; rfl
          · have : D ((r - s.nx) / 64) = false := by
              cases hd : D ((r - s.nx) / 64) with
              | false => rfl
              | true => exact absurd ((hDh _).1 hd) hj
            rw [this, nthO_out (by omega)]; rfl
      have sm1 : Sim E w0 M A1 { sl := slA s.sl always (ops.toList.take h) us 0, hp := hpD s.hp s.nx always us, nx := s.nx + 64 * h } a w := by
        refine ⟨by rw [← hhp]; exact i1, fun i x hx => ?_, fun r hr hal => ?_, i4, i5⟩
        · show V2 E.cells w A1 (slA s.sl always (ops.toList.take h) us 0 i) x
          rw [← slA_all (D := D) (fun i _ hi => (hDh i).2 (by rw [hhs] at hi; omega))]
          exact i2 i x hx
        · have hr' : s.nx + 64 * h ≤ r := hr
          rcases i3 r hal with h1 | ⟨j, h1, h2, h3⟩
          · omega
          · have := (hDh j).1 h1; omega
      rw [Nat.zero_add]
      refine tail_sound hT hG hM (h := h) hback (fun i hi => htail i (Nat.le_of_lt hi)) (ops.size - h) (n := h) (by omega) (Nat.le_refl _) hls (fun j hj => by rw [hl j hj]; simp) hc sm1 g1 fun s' a' w' A' e1 e2 e3 => hQ s' a' w' e1 ⟨A', e2, e3.trans i6⟩
    | succ n ih =>
      intro rem listed D a w hn hnd hrl hls hl hD hc hi
      have hfuel : n + 1 + (ops.size - h) = (n + (ops.size - h)) + 1 := by omega
      rw [hfuel]
      have notD : ∀ j ∈ rem, D j = false := by
        intro j hj
        cases hd : D j with
        | false => rfl
        | true => exact absurd hj ((hD j).1 hd).2
      have hlistD : ∀ j, listed.getD j false = true → j < h → D j = true := by
        intro j hj hjh
        refine (hD j).2 ⟨hjh, fun hm => ?_⟩
        have := (hl j (by omega)).2 (.inl hm)
        have hin : j < listed.size := by omega
        simp [hin] at this hj
        rw [hj] at this; cases this
      refine ⟨fun he => ?_, fun i hir => ?_⟩
      · -- there is always one
        obtain ⟨i, him, hmin⟩ := min_mem (rem := rem) (by rintro rfl; simp at hn)
        have hih := hrl i him
        obtain ⟨o, ho1, ho2⟩ := hget i hih
        have : i ∈ Region.ready .any ops listed := by
          refine mem_ready.2 ⟨(hl i (by omega)).2 (.inl him), o, ho1, fun e he hb => ?_⟩
          have hlt := backB_get hback (l := i) (o := o) (by simpa using ho1) e (by simpa using he) hb
          have hne : ¬ listed.getD e.on true = false := fun hf => by
            rcases (hl e.on (by omega)).1 hf with hm | hm
            · have := hmin _ hm; omega
            · omega
          have hin : e.on < listed.size := by omega
          simpa [hin] using hne
        rw [he] at this; cases this
      · obtain ⟨h0, o, ho, _⟩ := mem_ready.1 hir
        have hil := (Array.getElem?_eq_some_iff.1 ho).1
        have him : i ∈ rem := by
          rcases (hl i hil).1 h0 with hm | hm
          · exact hm
          · -- a tail operation cannot be ready yet
            obtain ⟨j, hjm, _⟩ := min_mem (rem := rem) (by rintro rfl; simp at hn)
            have hjh := hrl j hjm
            have h1 := ready_closed hc hir j (htail i hm hil j (by omega))
            have h2 := (hl j (by omega)).2 (.inl hjm)
            have hin : j < listed.size := by omega
            simp [hin] at h1 h2
            rw [h1] at h2; cases h2
        have hih := hrl i him
        obtain ⟨o', ho1, ho2⟩ := hget i hih
        rw [ho] at ho1; injection ho1 with ho1; subst ho1
        obtain ⟨u, hu, hok⟩ := g4 i o ho2
        refine head_step (D' := fun j => D j || Nat.beq j i) hT hG hfresh hi ho2 ho hu (notD i him) (by simp) (fun l hli => ?_) (fun j hj => ?_) hok fun a' w' hi' => ?_
        · have : Nat.beq l i = false := by
            cases hb : Nat.beq l i with
            | false => rfl
            | true => exact absurd (Nat.eq_of_beq_eq_true hb) hli
          simp [this]
        · have hjl := ready_closed hc hir j hj
          refine hlistD j hjl ?_
          -- ancestors stand ahead
          rcases Nat.lt_or_ge j h with hlt | hge
          · exact hlt
          · exfalso
            have hin : j < listed.size := by
              rcases Nat.lt_or_ge j listed.size with h' | h'
              · exact h'
              · simp [Array.getElem?_eq_none h'] at hjl
            have := (hl j (by omega)).2 (.inr hge)
            simp [hin] at this hjl
            rw [hjl] at this; cases this
        · refine ih (rem.erase i) _ _ a' w' (by rw [List.length_erase_of_mem him]; omega) (hnd.erase i) (fun j hj => hrl j (List.mem_of_mem_erase hj)) (by simpa using hls) (fun j hj => ?_) (fun j => ?_) (hc.set hir) hi'
          · by_cases hij : i = j
            · subst hij
              have : i < listed.size := by omega
              simp [this, hnd.mem_erase_iff]
              omega
            · rw [getD_set_ne true hij, hl j hj, hnd.mem_erase_iff]
              simp [Ne.symm hij]
          · rw [hnd.mem_erase_iff, Bool.or_eq_true, hD j]
            constructor
            · rintro (⟨h1, h2⟩ | h1)
              · exact ⟨h1, fun h => h2 h.2⟩
              · have := Nat.eq_of_beq_eq_true h1
                subst this; exact ⟨hih, fun h => h.1 rfl⟩
            · rintro ⟨h1, h2⟩
              by_cases hji : j = i
              · subst hji; exact .inr (by simp)
              · exact .inl ⟨h1, fun h => h2 ⟨hji, h⟩⟩
  have sm1 := sm.drew
  have hfin := head h (List.range h) (Array.replicate ops.size false) (fun _ => false) a { w with drawn := w.drawn + 1 } (by simp) List.nodup_range (fun j hj => by simpa using hj) (by simp) (fun j hj => by simp [hj]; omega) (fun j => by simp) (fun i hi => by
    by_cases hlt : i < ops.size <;> simp [hlt] at hi) ⟨A, ?_, fun i x hx => ?_, fun r hr => .inl (Nat.lt_of_not_le fun hle => sm1.nx r hle hr), sm1.df, sm1.sz, hz⟩
  · rw [show h + (ops.size - h) = ops.size by omega] at hfin
    exact hfin
  · have : hpD s.hp s.nx (fun _ => false) us = s.hp := by
      funext r
      unfold hpD
      cases hb : Nat.blt r s.nx with
      | true => rfl
      | false =>
        simp only [cond_false]
        refine (sm.hp.al r (sm.nx r ?_)).symm
        exact Nat.le_of_not_lt fun h => by rw [Nat.blt_eq.mpr h] at hb; cases hb
    rw [this]; exact sm1.hp
  · rcases slA_none (sl := s.sl) (D := fun _ => false) (t := i) (fun _ => rfl) (hs := ops.toList.take h) (us := us) (j := 0) with h | h
    · rw [h]; exact trivial
    · rw [h]; exact sm1.tm i x hx
end
end Go.DM

end
