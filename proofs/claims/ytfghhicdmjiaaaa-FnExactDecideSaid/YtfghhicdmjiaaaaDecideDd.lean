/- A small machine over the translated code, and the proof that what it computes the code does. Conditions: none. -/
import Derived.Test.YtfghhicdmjiaaaaDecideDc
import Derived.ChangeArms
import Derived.Deep.Slices
import Derived.DataReads
import Derived.Carry
import Derived.ChangeOld
import Derived.WideShapes
import Derived.ChangeShapes
import Derived.IntWalk
set_option linter.all false
noncomputable section
set_option linter.unusedSectionVars false
namespace Go.DM
def assoc {α : Type} : List (Nat × α) → Nat → Option α
 | [], _ => none
 | (k, v) :: l, i => bif Nat.beq k i then some v else assoc l i
theorem assoc_mem {α : Type} : ∀ {l : List (Nat × α)} {i : Nat} {v : α}, assoc l i = some v → (i, v) ∈ l
  | [], i, v, h => by cases h
  | (k, u) :: l, i, v, h => by
    simp only [assoc] at h
    cases hb : Nat.beq k i <;> simp only [hb, cond_true, cond_false] at h
    · exact List.mem_cons_of_mem _ (assoc_mem h)
    · injection h with h; rw [Nat.eq_of_beq_eq_true hb, h]; simp
def zeroB : Value → K → Bool
 | .int a n, .int b => ikBeq a b && decide (n = 0)
 | .bool b, .bool => !b
 | .string ⟨⟨[]⟩⟩, .str => true
 | .slice none 0 0, .sl _ => true
 | _, _ => false
theorem zeroB_eq {v : Value} {k : K} (h : zeroB v k = true) : v = zeroVal k := by
  unfold zeroB at h
  split at h
  · simp only [Bool.and_eq_true, decide_eq_true_eq] at h
    obtain ⟨h1, rfl⟩ := h
    rw [ikBeq_eq h1]; rfl
  · simp at h; subst h; rfl
  · rfl
  · rfl
  · cases h
def zerosB : List Value → List K → Bool
 | [], [] => true
 | v :: vs, k :: ks => zeroB v k && zerosB vs ks
 | _, _ => false
theorem zerosB_eq : ∀ {vs : List Value} {ks : List K}, zerosB vs ks = true → vs = ks.map zeroVal
 | [], [], _ => rfl
 | [], _ :: _, h => by cases h
 | _ :: _, [], h => by cases h
 | v :: vs, k :: ks, h => by
  simp only [zerosB, Bool.and_eq_true] at h
  rw [zeroB_eq h.1, zerosB_eq h.2]; rfl
def fieldsB (P : Program) (T : Nat → Option TI) : List Field → List (Nat × Nat) → Nat → List K → Bool
 | [], [], _, [] => true
 | f :: fs, p :: ps, o, ks => Nat.beq f.offset p.1 && (Nat.beq f.type p.2 && (Nat.beq p.1 o && (match P.info? f.type with
  | some fi => match T p.2 with
   | some ti => Nat.beq fi.size ti.cells.length && (beqKs (ks.take ti.cells.length) ti.cells && fieldsB P T fs ps (o + ti.cells.length) (ks.drop ti.cells.length))
   | none => false
  | none => false)))
 | _, _, _, _ => false
theorem fieldsB_spec {P : Program} {E : Env} : ∀ {fs : List Field} {ps : List (Nat × Nat)} {o : Nat} {ks : List K}, fieldsB P E.T fs ps o ks = true →
    ∃ places, fs.mapM (fun f => (P.info? f.type).map fun i => (f.offset, i.size)) = some places ∧ fs.length = ps.length ∧
      ∀ (j : Nat) (p : Nat × Nat), ps[j]? = some p → ∃ f ti, fs[j]? = some f ∧ f.offset = p.1 ∧ f.type = p.2 ∧ E.T p.2 = some ti ∧ places[j]? = some (p.1, (E.cells p.2).length) ∧ o ≤ p.1 ∧ P.cellsOf f.type = ti.cells.length ∧ (∀ l kk, ti.cells[l]? = some kk → ks[p.1 - o + l]? = some kk) ∧ p.1 - o + ti.cells.length ≤ ks.length
  | [], [], o, [], _ => ⟨[], by simp, rfl, fun j p hp => by simp at hp⟩
  | [], [], o, _ :: _, h => by cases h
  | [], _ :: _, o, ks, h => by cases h
  | _ :: _, [], o, ks, h => by cases h
  | f :: fs, p :: ps, o, ks, h => by
    simp only [fieldsB, Bool.and_eq_true] at h
    obtain ⟨h1, h2, h3, h4⟩ := h
    split at h4
    · rename_i fi hfi
      split at h4
      · rename_i ti hti
        simp only [Bool.and_eq_true] at h4
        obtain ⟨h5, h6, h7⟩ := h4
        obtain ⟨places, g1, g2, g3⟩ := fieldsB_spec h7
        have e1 := Nat.eq_of_beq_eq_true h1
        have e2 := Nat.eq_of_beq_eq_true h2
        have e3 := Nat.eq_of_beq_eq_true h3
        have e5 := Nat.eq_of_beq_eq_true h5
        have e6 := beqKs_eq h6
        have hsz : fi.size = (E.cells p.2).length := by simp [Env.cells, hti, e5]
        have hlen : ti.cells.length ≤ ks.length := by rw [← e6, List.length_take]; exact Nat.min_le_right _ _
        refine ⟨(f.offset, fi.size) :: places, by simp [hfi, g1], by simp [g2], fun j q hq => ?_⟩
        cases j with
        | zero =>
          simp at hq
          subst hq
          refine ⟨f, ti, rfl, e1, e2, hti, by simp [e1, hsz], by omega, by simp [Program.cellsOf, hfi, e5], fun l kk hl => ?_, by omega⟩
          have : (ks.take ti.cells.length)[l]? = some kk := by rw [e6]; exact hl
          rw [List.getElem?_take] at this
          rw [show p.1 - o + l = l by omega]
          split at this
          · exact this
          · cases this
        | succ j =>
          obtain ⟨f', ti', q1, q2, q3, q4, q5, q6, q7, q8, q9⟩ := g3 j q (by simpa using hq)
          refine ⟨f', ti', by simpa using q1, q2, q3, q4, by simpa using q5, by omega, q7, fun l kk hl => ?_, ?_⟩
          · have := q8 l kk hl
            rw [List.getElem?_drop] at this
            rw [← this]; congr 1; omega
          · rw [List.length_drop] at q9; omega
      · cases h4
    · cases h4
def elB (T : Nat → Option TI) (i : TI) (d : TypeDesc) : Bool :=
 match i.el with
 | some e => match d with
  | .slice e' => Nat.beq e e' && (T e).isSome
  | _ => false
 | none => true
def kindB (i : TI) (d : TypeDesc) : Bool :=
 i.agg || (match i.cells with
  | [.int k] => (match d with | .int k' => ikBeq k k' | _ => false)
  | [.bool] => (match d with | .bool => true | _ => false)
  | [.str] => (match d with | .string => true | _ => false)
  | [.sl e] => (match d with | .slice e' => Nat.beq e e' | _ => false)
  | _ => false)
def scalB (P : Program) (k : K) (t : Nat) : Bool :=
 match P.underlying t with
 | some (.int ik) => (match k with | .int jk => ikBeq jk ik | _ => false)
 | some .bool => (match k with | .bool => true | _ => false)
 | some .string => (match k with | .str => true | _ => false)
 | _ => false
def eqFieldsB (P : Program) : List Field → Nat → List K → Bool
 | [], _, [] => true
 | f :: fs, o, k :: ks => !(f.name == "_") && (Nat.beq f.offset o && (scalB P k f.type && eqFieldsB P fs (o + 1) ks))
 | _, _, _ => false
theorem eqFieldsB_spec {P : Program} : ∀ {fs : List Field} {o : Nat} {ks : List K}, eqFieldsB P fs o ks = true → fs.length = ks.length ∧ ∀ (j : Nat) (f : Field), fs[j]? = some f → f.name ≠ "_" ∧ f.offset = o + j ∧ ∃ d', P.underlying f.type = some d' ∧ ((∃ ik, ks[j]? = some (.int ik) ∧ d' = .int ik) ∨ (ks[j]? = some .bool ∧ d' = .bool) ∨ (ks[j]? = some .str ∧ d' = .string))
  | [], o, [], _ => ⟨rfl, fun j f hj => by simp at hj⟩
  | [], o, _ :: _, h => by cases h
  | _ :: _, o, [], h => by cases h
  | f :: fs, o, k :: ks, h => by
    simp only [eqFieldsB, Bool.and_eq_true, Bool.not_eq_true'] at h
    obtain ⟨h1, h2, h3, h4⟩ := h
    obtain ⟨g1, g2⟩ := eqFieldsB_spec h4
    refine ⟨by simp [g1], fun j g hj => ?_⟩
    cases j with
    | zero =>
      simp at hj
      subst hj
      refine ⟨by simpa using h1, Nat.eq_of_beq_eq_true h2, ?_⟩
      unfold scalB at h3
      split at h3
      · rename_i ik hu
        split at h3
        · rename_i jk; exact ⟨_, hu, .inl ⟨ik, by simp [ikBeq_eq h3], rfl⟩⟩
        · cases h3
      · rename_i hu
        split at h3
        · exact ⟨_, hu, .inr (.inl ⟨rfl, rfl⟩)⟩
        · cases h3
      · rename_i hu
        split at h3
        · exact ⟨_, hu, .inr (.inr ⟨rfl, rfl⟩)⟩
        · cases h3
      · cases h3
    | succ j =>
      obtain ⟨q1, q2, q3⟩ := g2 j g (by simpa using hj)
      exact ⟨q1, by omega, by simpa using q3⟩
def eqvB (P : Program) (t : Nat) (i : TI) (d : TypeDesc) : Bool :=
 !i.eqv || (!i.agg || (match d with | .struct fs => !P.stoodInHeld t && (!P.eqGuardType P.depth t && eqFieldsB P fs.toList 0 i.cells) | _ => false))
def tyB (P : Program) (T : Nat → Option TI) (t : Nat) (i : TI) : Bool :=
 match P.info? t with
 | some ii => match P.underlying t with
  | some d => match ii.zero with
   | some z => Nat.beq ii.size i.cells.length && (Nat.beq ii.bytes i.bytes && (Nat.blt 0 i.cells.length && (Nat.blt 0 i.bytes && (zerosB z.cells.toList i.cells && (
     (bif i.agg then (match d with | .struct fs => fieldsB P T fs.toList i.fields 0 i.cells | _ => false) else (!isAggD d && (Nat.beq i.cells.length 1 && i.fields.isEmpty))) && (elB T i d && (kindB i d && eqvB P t i d)))))))
   | none => false
  | none => false
 | none => false
theorem tyB_ok {P : Program} {E : Env} {t : Nat} {i : TI} (h : tyB P E.T t i = true) : TyOK P E t i := by
  unfold tyB at h
  split at h
  case h_2 => cases h
  rename_i ii hii
  split at h
  case h_2 => cases h
  rename_i d hd
  split at h
  case h_2 => cases h
  rename_i z hz
  simp only [Bool.and_eq_true] at h
  obtain ⟨h1, h2, h3, h4, h5, h6, h7, h8, h9⟩ := h
  refine ⟨ii, d, z, hii, hd, hz, Nat.eq_of_beq_eq_true h1, Nat.eq_of_beq_eq_true h2, Nat.blt_eq.mp h3, Nat.blt_eq.mp h4, zerosB_eq h5, ?_, ?_, ?_, ?_, ?_, ?_, ?_, ?_, ?_⟩
  · cases ha : i.agg <;> simp only [ha, cond_true, cond_false] at h6
    · simp only [Bool.and_eq_true, Bool.not_eq_true'] at h6; exact h6.1
    · split at h6
      · rfl
      · cases h6
  · intro ha
    simp only [ha, cond_false, Bool.and_eq_true, List.isEmpty_iff] at h6
    exact ⟨Nat.eq_of_beq_eq_true h6.2.1, h6.2.2⟩
  · intro ha
    simp only [ha, cond_true] at h6
    split at h6
    · rename_i fs
      obtain ⟨places, g1, g2, g3⟩ := fieldsB_spec h6
      refine ⟨fs, rfl, fun f p hp => ?_⟩
      obtain ⟨fl, ti, q1, q2, q3, q4, _⟩ := g3 f p hp
      exact ⟨fl, by simpa using q1, q2, q3, ti, q4⟩
    · cases h6
  · intro fs hfs
    subst hfs
    cases ha : i.agg <;> simp only [ha, cond_true, cond_false] at h6
    · simp [isAggD] at h6
    · obtain ⟨places, g1, g2, g3⟩ := fieldsB_spec h6
      refine ⟨places, g1, fun f p hp => ?_⟩
      obtain ⟨fl, ti, q1, q2, q3, q4, q5, _⟩ := g3 f p hp
      exact q5
  · intro e he
    simp only [elB, he] at h7
    split at h7
    · simp only [Bool.and_eq_true] at h7
      rw [Nat.eq_of_beq_eq_true h7.1]
      refine ⟨rfl, Option.isSome_iff_exists.1 ?_⟩
      rw [← Nat.eq_of_beq_eq_true h7.1]; exact h7.2
    · cases h7
  · intro ha k hk
    simp only [kindB, ha, Bool.false_or, hk] at h8
    split at h8
    · rw [ikBeq_eq h8]
    · cases h8
  · intro ha hk
    simp only [kindB, ha, Bool.false_or, hk] at h8
    split at h8
    · rfl
    · cases h8
  · intro ha hk
    simp only [kindB, ha, Bool.false_or, hk] at h8
    split at h8
    · rfl
    · cases h8
  · intro he ha
    simp only [eqvB, he, ha, Bool.not_true, Bool.false_or] at h9
    split at h9
    · rename_i fs
      simp only [Bool.and_eq_true, Bool.not_eq_true'] at h9
      obtain ⟨g1, g2⟩ := eqFieldsB_spec h9.2.2
      exact ⟨fs, rfl, h9.1, h9.2.1, by simpa using g1, fun j f hj => by
        obtain ⟨q1, q2, q3⟩ := g2 j f (by simpa using hj)
        exact ⟨q1, by omega, q3⟩⟩
    · cases h9
def tableB (P : Program) (l : List (Nat × TI)) : Bool := l.all fun p => tyB P (assoc l) p.1 p.2
theorem table_ok {P : Program} {l : List (Nat × TI)} {E : Env} (hE : E.T = assoc l) (h : tableB P l = true) : ∀ t i, E.T t = some i → TyOK P E t i := by
 intro t i ht
 rw [hE] at ht
 simp only [tableB, List.all_eq_true] at h
 have := h (t, i) (assoc_mem ht)
 rw [← hE] at this
 exact tyB_ok this
abbrev Env0 (T : List (Nat × TI)) : Env := { T := assoc T, G := fun _ => [], nt := 0 }
def conG : List (Nat × Con) → Nat → List Con
 | [], _ => []
 | (k, c) :: l, g => bif Nat.beq k g then c :: conG l g else conG l g
inductive AllV (P : Program) (E : Env) : List (Nat × Con) → Prop where
 | nil : AllV P E []
 | cons {g c l} : Valid P E g c → AllV P E l → AllV P E ((g, c) :: l)
theorem AllV.get {P : Program} {E : Env} : ∀ {l : List (Nat × Con)}, AllV P E l → ∀ g c, c ∈ conG l g → Valid P E g c
  | _, .nil, g, c, h => by cases h
  | (k, u) :: l, .cons hv ht, g, c, h => by
    simp only [conG] at h
    cases hb : Nat.beq k g <;> simp only [hb, cond_true, cond_false] at h
    · exact ht.get g c h
    · rcases List.mem_cons.1 h with rfl | h
      · rw [← Nat.eq_of_beq_eq_true hb]; exact hv
      · exact ht.get g c h
theorem freshB_nodup : ∀ {l : List Nat}, freshB l = true → l.Nodup
 | [], _ => List.nodup_nil
 | a :: l, h => by
  simp only [freshB, Bool.and_eq_true, List.all_eq_true, Bool.not_eq_true'] at h
  refine List.nodup_cons.2 ⟨fun hm => ?_, freshB_nodup h.2⟩
  have := h.1 a hm
  simp at this
theorem Valid.env {P : Program} {E E' : Env} (he : E.T = E'.T) {g : FuncId} {c : Con} (h : Valid P E g c) : Valid P E' g c := by
 have : E.cells = E'.cells := by funext t; simp [Env.cells, he]
 unfold Valid at *
 rw [← this]; exact h
theorem AllV.env {P : Program} {E E' : Env} (he : E.T = E'.T) {l : List (Nat × Con)} (h : AllV P E l) : AllV P E' l := by
 induction h with
 | nil => exact .nil
 | cons hv _ ih => exact .cons (hv.env he) ih
def fnB (fn : Func) (con : Con) (nt : Nat) : Bool :=
 !(fn.name == "runtime.NumGoroutine") && (fn.body.isSome && (con.res.fine && (freshB (loopIds (bodyOf fn)) && Nat.beq (con.args.length + (fn.ntmps - con.args.length)) nt)))
def conM : List (Nat × MCon) → Nat → List MCon
 | [], _ => []
 | (k, c) :: l, g => bif Nat.beq k g then c :: conM l g else conM l g
inductive AllM (P : Program) (E : Env) : List (Nat × MCon) → Prop where
 | nil : AllM P E []
 | cons {g c l} : MValid P E g c → AllM P E l → AllM P E ((g, c) :: l)
theorem AllM.get {P : Program} {E : Env} : ∀ {l : List (Nat × MCon)}, AllM P E l → ∀ g c, c ∈ conM l g → MValid P E g c
  | _, .nil, g, c, h => by cases h
  | (k, u) :: l, .cons hv ht, g, c, h => by
    simp only [conM] at h
    cases hb : Nat.beq k g <;> simp only [hb, cond_true, cond_false] at h
    · exact ht.get g c h
    · rcases List.mem_cons.1 h with rfl | h
      · rw [← Nat.eq_of_beq_eq_true hb]; exact hv
      · exact ht.get g c h
theorem MValid.env {P : Program} {E E' : Env} (he : E.T = E'.T) {g : FuncId} {c : MCon} (h : MValid P E g c) : MValid P E' g c := by
 have : E.cells = E'.cells := by funext t; simp [Env.cells, he]
 unfold MValid at *
 rw [← this]; exact h
theorem AllM.env {P : Program} {E E' : Env} (he : E.T = E'.T) {l : List (Nat × MCon)} (h : AllM P E l) : AllM P E' l := by
 induction h with
 | nil => exact .nil
 | cons hv _ ih => exact .cons (hv.env he) ih
theorem valid_m {mt : Bool} {P : Program} {T : List (Nat × TI)} {G : List (Nat × Con)} {S : List (Nat × MCon)} {nt : Nat} {g : FuncId} {fn : Func} {con : Con} (hm : P.follows .mixedOrders = true) (hT : tableB P T = true) (hG : AllV P (Env0 T) G) (hS : AllM P (Env0 T) S)
  (hf : P.funcs[g]? = some fn) (hb : fnB fn con nt = true) (live : Nat → Live)
  (h : ∀ ls r, LOKs (Env0 T).cells con.args ls → con.sem ls = some r → ∃ n, runF { T := assoc T, G := conG G, nt := nt, M := conM S, mt := mt } live fn con.res n (initS con.args ls) = some r) : Valid P (Env0 T) g con := by
 simp only [fnB, Bool.and_eq_true, Bool.not_eq_true'] at hb
 obtain ⟨b1, b2, b3, b4, b5⟩ := hb
 obtain ⟨c, hc⟩ := Option.isSome_iff_exists.1 b2
 have hbody : bodyOf fn = c := by simp [bodyOf, hc]
 have hT' : ∀ t i, ({ T := assoc T, G := conG G, nt := nt, M := conM S, mt := mt } : Env).T t = some i → TyOK P { T := assoc T, G := conG G, nt := nt, M := conM S, mt := mt } t i := table_ok (E := { T := assoc T, G := conG G, nt := nt, M := conM S, mt := mt }) rfl hT
 have hG' : ∀ g c, c ∈ ({ T := assoc T, G := conG G, nt := nt, M := conM S, mt := mt } : Env).G g → Valid P { T := assoc T, G := conG G, nt := nt, M := conM S, mt := mt } g c := (AllV.env (E := Env0 T) (E' := { T := assoc T, G := conG G, nt := nt, M := conM S, mt := mt }) rfl hG).get
 have hS' : ∀ g c, c ∈ ({ T := assoc T, G := conG G, nt := nt, M := conM S, mt := mt } : Env).M g → MValid P { T := assoc T, G := conG G, nt := nt, M := conM S, mt := mt } g c := (AllM.env (E := Env0 T) (E' := { T := assoc T, G := conG G, nt := nt, M := conM S, mt := mt }) rfl hS).get
 exact valid_of (E := { T := assoc T, G := conG G, nt := nt, M := conM S, mt := mt }) hT' hG' hS' (fun w0 M Z0 ans => draws hT' hG' hS' hm) rfl rfl hf b1 hc b3 (by rw [← hbody]; exact freshB_nodup b4) (Nat.eq_of_beq_eq_true b5) live h
def mfnB (fn : Func) (con : MCon) (nt : Nat) : Bool :=
 !(fn.name == "runtime.NumGoroutine") && (fn.body.isSome && (freshB (loopIds (bodyOf fn)) && Nat.beq (con.args.length + (fn.ntmps - con.args.length)) nt))
theorem mvalid {P : Program} {T : List (Nat × TI)} {G : List (Nat × Con)} {S : List (Nat × MCon)} {nt : Nat} {g : FuncId} {fn : Func} {con : MCon} (hm : P.follows .mixedOrders = true) (hT : tableB P T = true) (hG : AllV P (Env0 T) G) (hS : AllM P (Env0 T) S)
  (hf : P.funcs[g]? = some fn) (hb : mfnB fn con nt = true) (live : Nat → Live)
  (h : ∀ ls r, LOKm (Env0 T).cells con.args ls → con.sem ls = some r → ∃ n, runF { T := assoc T, G := conG G, nt := nt, M := conM S, np := (slPs con.args).length, mt := true } live fn (.chg (slPs con.args)) n (initM con.args ls) = some r) : MValid P (Env0 T) g con := by
 simp only [mfnB, Bool.and_eq_true, Bool.not_eq_true'] at hb
 obtain ⟨b1, b2, b4, b5⟩ := hb
 obtain ⟨c, hc⟩ := Option.isSome_iff_exists.1 b2
 have hbody : bodyOf fn = c := by simp [bodyOf, hc]
 generalize hE : ({ T := assoc T, G := conG G, nt := nt, M := conM S, np := (slPs con.args).length, mt := true } : Env) = E at h
 have e1 : E.T = assoc T := by rw [← hE]
 have e2 : E.G = conG G := by rw [← hE]
 have e3 : E.M = conM S := by rw [← hE]
 have hT' : ∀ t i, E.T t = some i → TyOK P E t i := table_ok e1 hT
 have hG' : ∀ g c, c ∈ E.G g → Valid P E g c := by rw [e2]; exact (AllV.env (E := Env0 T) (E' := E) e1.symm hG).get
 have hS' : ∀ g c, c ∈ E.M g → MValid P E g c := by rw [e3]; exact (AllM.env (E := Env0 T) (E' := E) e1.symm hS).get
 have hcell : (Env0 T).cells = E.cells := by funext t; simp [Env.cells, e1]
 rw [hcell] at h
 exact mvalid_of (E := E) hT' hG' hS' (fun w0 M Z0 ans => draws hT' hG' hS' hm) e1 (by rw [← hE]) hf b1 hc (by rw [← hbody]; exact freshB_nodup b4) (by rw [← hE]; exact Nat.eq_of_beq_eq_true b5) live h
theorem valid {P : Program} {T : List (Nat × TI)} {G : List (Nat × Con)} {nt : Nat} {g : FuncId} {fn : Func} {con : Con} (hm : P.follows .mixedOrders = true) (hT : tableB P T = true) (hG : AllV P (Env0 T) G)
  (hf : P.funcs[g]? = some fn) (hb : fnB fn con nt = true) (live : Nat → Live)
  (h : ∀ ls r, LOKs (Env0 T).cells con.args ls → con.sem ls = some r → ∃ n, runF { T := assoc T, G := conG G, nt := nt } live fn con.res n (initS con.args ls) = some r) : Valid P (Env0 T) g con :=
 valid_m (S := []) hm hT hG .nil hf hb live h
end Go.DM
set_option linter.unusedSectionVars false
namespace Go.DM
inductive Wf (T : Nat → List K) : K → L → Prop where
 | int (k : IntKind) (n : Int) (h : (Lit.int k n).wf = true) : Wf T (.int k) (.int n)
 | bool (b : Bool) : Wf T .bool (.bool b)
 | str (s : ByteArray) (h : s.size ≤ maxLen) : Wf T .str (.str s)
 | sl (e : Nat) (xs : List (List L)) (h : xs.length ≤ maxLen) (hl : ∀ r ∈ xs, r.length = (T e).length) (hr : ∀ (r : List L) (j : Nat) (kk : K) (l : L), r ∈ xs → (T e)[j]? = some kk → r[j]? = some l → Wf T kk l) : Wf T (.sl e) (.sl xs)
theorem choose_list {α : Type} {P : Nat → α → Prop} : ∀ (n : Nat), (∀ j, j < n → ∃ x, P j x) → ∃ xs : List α, xs.length = n ∧ ∀ j, j < n → ∃ x, xs[j]? = some x ∧ P j x
  | 0, _ => ⟨[], rfl, fun j h => by omega⟩
  | n + 1, h => by
    obtain ⟨xs, h1, h2⟩ := choose_list n fun j hj => h j (by omega)
    obtain ⟨x, hx⟩ := h n (by omega)
    refine ⟨xs ++ [x], by simp [h1], fun j hj => ?_⟩
    by_cases hjn : j < n
    · obtain ⟨y, h3, h4⟩ := h2 j hjn
      exact ⟨y, by rw [List.getElem?_append_left (by omega)]; exact h3, h4⟩
    · have : j = n := by omega
      subst this
      exact ⟨x, by rw [← h1]; simp, hx⟩
theorem fieldsB_cover {P : Program} {T : Nat → Option TI} : ∀ {fs : List Field} {ps : List (Nat × Nat)} {o : Nat} {ks : List K}, fieldsB P T fs ps o ks = true →
    ∀ l, l < ks.length → ∃ (j : Nat) (p : Nat × Nat) (ti : TI), ps[j]? = some p ∧ T p.2 = some ti ∧ o ≤ p.1 ∧ p.1 - o ≤ l ∧ l < p.1 - o + ti.cells.length
  | [], [], o, [], _, l, h => by simp at h
  | [], [], o, _ :: _, h, _, _ => by cases h
  | [], _ :: _, o, ks, h, _, _ => by cases h
  | _ :: _, [], o, ks, h, _, _ => by cases h
  | f :: fs, p :: ps, o, ks, h, l, hl => by
    simp only [fieldsB, Bool.and_eq_true] at h
    obtain ⟨h1, h2, h3, h4⟩ := h
    split at h4
    · rename_i fi hfi
      split at h4
      · rename_i ti hti
        simp only [Bool.and_eq_true] at h4
        obtain ⟨h5, h6, h7⟩ := h4
        have e3 := Nat.eq_of_beq_eq_true h3
        by_cases hlt : l < ti.cells.length
        · exact ⟨0, p, ti, rfl, hti, by omega, by omega, by omega⟩
        · obtain ⟨j, q, tq, g1, g2, g3, g4, g5⟩ := fieldsB_cover h7 (l - ti.cells.length) (by rw [List.length_drop]; omega)
          exact ⟨j + 1, q, tq, by simpa using g1, g2, by omega, by omega, by omega⟩
      · cases h4
    · cases h4
section
variable {H : Type} {enc : TypeId × Value → H} {P : Program} {w : World} {spare : Nat → Bool} {held : Bool} {E : Env}
theorem trod_rd (hB : ∀ t i, E.T t = some i → tyB P E.T t i = true) : ∀ (n : Nat) {t : Nat} {i : TI} {cs : List Value} {x : DataW H × List MemPlace}, E.T t = some i → DataW.trod enc P w 0 spare held n t cs = some x →
    cs.length = i.cells.length ∧ ∀ (j : Nat) (kk : K), i.cells[j]? = some kk → ∃ (l : L) (v : Value), cs[j]? = some v ∧ Rd E.cells w (fun b => b < w.heap.size) kk v l ∧ Wf E.cells kk l := by
  intro n
  induction n with
  | zero => intro t i cs x _ h; simp [DataW.trod] at h
  | succ n ih =>
    intro t i cs x ht h
    have hb := hB t i ht
    obtain ⟨ii, d, z, k1, k2, k3, k4, k5, k6, kby, k7, k8, k9, k10, kpl, k11, k12, k13, k14, k15⟩ := tyB_ok (E := E) hb
    cases ha : i.agg with
    | false =>
      obtain ⟨hl1, _⟩ := k9 ha
      match hc : i.cells, hl1 with
      | [.int k], _ =>
        obtain ⟨m, rfl, _, hw⟩ := DataW.trod_int (k12 ha k hc ▸ k2) h
        exact ⟨rfl, fun j kk hj => by
          cases j with
          | zero => simp at hj; subst hj; exact ⟨.int m, _, rfl, Rd.int k (.int m), Wf.int k m hw⟩
          | succ j => simp at hj⟩
      | [.bool], _ =>
        obtain ⟨b, rfl, _⟩ := DataW.trod_bool (k13 ha hc ▸ k2) h
        exact ⟨rfl, fun j kk hj => by
          cases j with
          | zero => simp at hj; subst hj; exact ⟨.bool b, _, rfl, Rd.bool (.bool b), Wf.bool b⟩
          | succ j => simp at hj⟩
      | [.str], _ =>
        obtain ⟨s, rfl, _, hs⟩ := DataW.trod_string (k14 ha hc ▸ k2) h
        exact ⟨rfl, fun j kk hj => by
          cases j with
          | zero => simp at hj; subst hj; exact ⟨.str s, _, rfl, Rd.str (.str s), Wf.str s hs⟩
          | succ j => simp at hj⟩
      | [.sl e], _ =>
        have hel : i.el = some e := by simp [TI.el, ha, hc]
        obtain ⟨rfl, ie, hie⟩ := k11 e hel
        have hce : P.cellsOf e = ie.cells.length ∧ 0 < ie.cells.length := by
          obtain ⟨ii', d', z', q1, q2, q3, q4, q5, q6, _⟩ := tyB_ok (E := E) (hB e ie hie)
          exact ⟨by simp [Program.cellsOf, q1, q4], q6⟩
        have hEe : E.cells e = ie.cells := cells_of hie
        have fin : ∀ (l : L) (v : Value), cs = [v] → Rd E.cells w (fun b => b < w.heap.size) (.sl e) v l → Wf E.cells (.sl e) l →
            cs.length = [K.sl e].length ∧ ∀ (j : Nat) (kk : K), [K.sl e][j]? = some kk → ∃ (l : L) (v : Value), cs[j]? = some v ∧ Rd E.cells w (fun b => b < w.heap.size) kk v l ∧ Wf E.cells kk l := by
          intro l v hv h1 h2
          subst hv
          exact ⟨rfl, fun j kk hj => by
            cases j with
            | zero => simp at hj; subst hj; exact ⟨l, _, rfl, h1, h2⟩
            | succ j => simp at hj⟩
        rcases DataW.trod_slice k2 h with ⟨hv, _⟩ | ⟨a, len, cap, elems, rest, m, hm, hv, _, hb0, hlc, hcm, hlen, hel', _, _⟩
        · exact fin (.sl []) _ hv (.nil _ _ _ _ rfl) (.sl e [] (by simp) (fun r hr => by cases hr) (fun r j kk l hr => by cases hr))
        · have hm' : m = n := by omega
          subst hm'
          have each : ∀ i', i' < len → ∃ rc : List L × List Value, rc.1.length = ie.cells.length ∧ (∀ j, j < ie.cells.length → w.cell? (a.add (i' * ie.cells.length) |>.add j) = rc.2[j]?) ∧
              ∀ (j : Nat) (kk : K), ie.cells[j]? = some kk → ∃ (l : L) (v : Value), rc.1[j]? = some l ∧ rc.2[j]? = some v ∧ Rd E.cells w (fun b => b < w.heap.size) kk v l ∧ Wf E.cells kk l := by
            intro i' hi'
            have h1 := hel' i' hi'
            rw [List.getElem?_eq_getElem (by omega)] at h1
            obtain ⟨cs', h2, h3⟩ := Option.bind_eq_some_iff.1 h1
            obtain ⟨_, h4, h5⟩ := World.cells?_some h2
            obtain ⟨h6, h7⟩ := ih hie h3
            obtain ⟨row, r1, r2⟩ := choose_list (P := fun j l => ∃ v, cs'[j]? = some v ∧ ∀ kk, ie.cells[j]? = some kk → Rd E.cells w (fun b => b < w.heap.size) kk v l ∧ Wf E.cells kk l) ie.cells.length (fun j hj => by
              have hk := List.getElem?_eq_getElem hj
              obtain ⟨l, v, e1, e2, e3⟩ := h7 j _ hk
              exact ⟨l, v, e1, fun kk hkk => by rw [hk] at hkk; injection hkk with hkk; subst hkk; exact ⟨e2, e3⟩⟩)
            refine ⟨(row, cs'), r1, fun j hj => ?_, fun j kk hj => ?_⟩
            · rw [hce.1] at h5; exact h5 j (by omega)
            · obtain ⟨l, e1, v, e2, e3⟩ := r2 j (List.getElem?_eq_some_iff.1 hj).1
              exact ⟨l, v, e1, e2, e3 kk hj⟩
          obtain ⟨rows, g1, g2⟩ := choose_list len each
          have hwf : Wf E.cells (.sl e) (.sl (rows.map (·.1))) := by
            refine .sl e _ (by simp [g1]; omega) (fun r hr => ?_) (fun r j kk l hr hj hl => ?_)
            · obtain ⟨rc, hrc, rfl⟩ := List.mem_map.1 hr
              obtain ⟨i', hi'⟩ := List.getElem?_of_mem hrc
              obtain ⟨rc', h1, h2, _⟩ := g2 i' (by rw [← g1]; exact (List.getElem?_eq_some_iff.1 hi').1)
              rw [hi'] at h1; injection h1 with h1; subst h1
              rw [h2, hEe]
            · obtain ⟨rc, hrc, rfl⟩ := List.mem_map.1 hr
              obtain ⟨i', hi'⟩ := List.getElem?_of_mem hrc
              obtain ⟨rc', h1, h2, _, h3⟩ := g2 i' (by rw [← g1]; exact (List.getElem?_eq_some_iff.1 hi').1)
              rw [hi'] at h1; injection h1 with h1; subst h1
              rw [hEe] at hj
              obtain ⟨l', v, e1, _, _, e3⟩ := h3 j kk hj
              rw [hl] at e1; injection e1 with e1; subst e1
              exact e3
          refine fin (.sl (rows.map (·.1))) _ hv ?_ hwf
          rcases Nat.eq_zero_or_pos len with h0 | hpos
          · subst h0
            exact .nil _ _ _ _ (by simp only [L.toSl]; rw [List.eq_nil_of_length_eq_zero g1]; rfl)
          · -- the place
            obtain ⟨rc0, h1, h2, h3, h4⟩ := g2 0 hpos
            have hk0 := List.getElem?_eq_getElem hce.2
            obtain ⟨l0, v0, e1, e2, e3, _⟩ := h4 0 _ hk0
            have hc0 := h3 0 hce.2
            rw [e2] at hc0
            obtain ⟨b, o, spot⟩ := a
            have hspot : spot = none := by simpa [Addr.add] using World.cell?_spot hc0
            subst hspot
            have hblt : b < w.heap.size := by simpa [Addr.add] using block_lt_of_cell hc0
            refine .sl e len cap b o _ (fun i' j => (((rows.getD i' ([], [])).2).getD j Go.undef)) (by simp [L.toSl, g1]) hlc (Nat.le_trans hlc hcm) hblt (fun i' j kk hi' hj => ?_) (fun i' j kk hi' hj => ?_)
            · rw [hEe] at hj ⊢
              obtain ⟨rc, q1, q2, q3, q4⟩ := g2 i' hi'
              obtain ⟨l, v, p1, p2, p3, p4⟩ := q4 j kk hj
              have := q3 j (List.getElem?_eq_some_iff.1 hj).1
              rw [p2, Addr.add_lit, Addr.add_lit, Nat.add_assoc] at this
              rw [this]
              simp [List.getD_eq_getElem?_getD, q1, p2]
            · rw [hEe] at hj
              obtain ⟨rc, q1, q2, q3, q4⟩ := g2 i' hi'
              obtain ⟨l, v, p1, p2, p3, p4⟩ := q4 j kk hj
              have e1 : ((rows.getD i' ([], [])).2).getD j Go.undef = v := by simp [List.getD_eq_getElem?_getD, q1, p2]
              have e2 : ((L.sl (rows.map (·.1))).toSl.getD i' []).getD j .hole = l := by simp [L.toSl, List.getD_eq_getElem?_getD, q1, p1]
              show Rd E.cells w _ kk (((rows.getD i' ([], [])).2).getD j Go.undef) _
              rw [e1, e2]; exact p3
    | true =>
      obtain ⟨fs, rfl, _⟩ := k10 ha
      have hcells : P.cellsOf t = i.cells.length := by simp [Program.cellsOf, k1, k4]
      have hfb : fieldsB P E.T fs.toList i.fields 0 i.cells = true := by
        have hb' := hb
        unfold tyB at hb'
        simp only [k1, k2, k3, ha, cond_true, Bool.and_eq_true] at hb'
        exact hb'.2.2.2.2.2.1
      obtain ⟨xs, m, hm, _, hl, hxs, hf⟩ := DataW.trod_struct k2 h
      have hm' : m = n := by omega
      subst hm'
      refine ⟨by rw [hl, hcells], fun j kk hj => ?_⟩
      obtain ⟨f, p, ti, c1, c2, c3, c4, c5⟩ := fieldsB_cover hfb j (List.getElem?_eq_some_iff.1 hj).1
      obtain ⟨places, _, hfl, hsp⟩ := fieldsB_spec (E := E) hfb
      obtain ⟨fl, ti', q1, q2, q3, q4, q5, q6, q7, q8, q9⟩ := hsp f p c1
      rw [c2] at q4; injection q4 with q4; subst q4
      have hfs : fs[f]? = some fl := by simpa using q1
      have htrod := hf f fl hfs
      have hxl : f < xs.length := by
        rw [hxs]; exact (Array.getElem?_eq_some_iff.1 hfs).1
      rw [List.getElem?_eq_getElem hxl, q3, q2] at htrod
      obtain ⟨_, h2⟩ := ih c2 htrod
      have hkk : ti.cells[j - p.1]? = some kk := by
        have hlt : j - p.1 < ti.cells.length := by omega
        have hg := List.getElem?_eq_getElem hlt
        have := q8 _ _ hg
        rw [show p.1 - 0 + (j - p.1) = j by omega, hj] at this
        rw [hg]; exact this.symm
      obtain ⟨l, v, e1, e2, e3⟩ := h2 (j - p.1) kk hkk
      refine ⟨l, v, ?_, e2, e3⟩
      rw [List.getElem?_take] at e1
      split at e1
      · rw [List.getElem?_drop] at e1
        rw [← e1]; congr 1; omega
      · cases e1
end
end Go.DM
set_option linter.unusedSectionVars false
namespace Go.DM
open Go.ChangeShapes Go.WideShapes Go.RowKit
def patOf (T : Nat → Option TI) (t : Nat) : Pat := match T t with
 | some i => bif i.agg then .agg i.cells else .rd (i.cells.headD .bool)
 | none => .rd .bool
def lawCon (T : Nat → Option TI) (ts : List Nat) (sem : List L → Option (List L)) : Con := ⟨ts.map (patOf T), .one (.rd .bool), sem⟩
def WfAll (T : Nat → List K) (ks : List K) (ls : List L) : Prop := ls.length = ks.length ∧ ∀ (j : Nat) (k : K), ks[j]? = some k → ∃ l, ls[j]? = some l ∧ Wf T k l
theorem WfAll.append {T : Nat → List K} {a b : List K} {x y : List L} (h : WfAll T a x) (k : WfAll T b y) : WfAll T (a ++ b) (x ++ y) := by
  refine ⟨by simp [h.1, k.1], fun j kk hj => ?_⟩
  by_cases hl : j < a.length
  · rw [List.getElem?_append_left hl] at hj
    obtain ⟨l, e1, e2⟩ := h.2 j kk hj
    exact ⟨l, by rw [List.getElem?_append_left (by rw [h.1]; exact hl)]; exact e1, e2⟩
  · rw [List.getElem?_append_right (by omega)] at hj
    obtain ⟨l, e1, e2⟩ := k.2 _ kk hj
    exact ⟨l, by rw [List.getElem?_append_right (by rw [h.1]; omega), h.1]; exact e1, e2⟩
section
variable {H : Type} {enc : TypeId × Value → H} {P : Program} {W : World} {E : Env} {r : Reach} {b0 : Nat}
theorem arg_read (hB : ∀ t i, E.T t = some i → tyB P E.T t i = true) {t : Nat} {i : TI} (ht : E.T t = some i) {v : Value} {d : DataW H} {ps : List MemPlace} (h : DataW.Trod enc P W 0 (fun _ => true) true t v d ps) (hv : Value.okWide P W r b0 t v) :
    ∃ ls, WfAll E.cells i.cells ls ∧ ∀ rest, V2 E.cells W (A0 (fun _ => True) W) (argV (patOf E.T t) (ls ++ rest)) v := by
  obtain ⟨fuel, hf⟩ := h
  obtain ⟨h1, h2⟩ := trod_rd hB fuel ht hf
  obtain ⟨ls, g1, g2⟩ := choose_list (P := fun j l => ∃ x, v.cells.toList[j]? = some x ∧ ∀ kk, i.cells[j]? = some kk → Rd E.cells W (fun b => b < W.heap.size) kk x l ∧ Wf E.cells kk l) i.cells.length (fun j hj => by
    have hk := List.getElem?_eq_getElem hj
    obtain ⟨l, x, e1, e2, e3⟩ := h2 j _ hk
    exact ⟨l, x, e1, fun kk hkk => by rw [hk] at hkk; injection hkk with hkk; subst hkk; exact ⟨e2, e3⟩⟩)
  have hz : ∀ b, b < W.heap.size → Zone W (A0 (fun _ => True) W) b := fun b hb => ⟨.inl trivial, hb, fun _ h => h⟩
  have hrd : ∀ (j : Nat) (kk : K), i.cells[j]? = some kk → ∃ (l : L) (x : Value), ls[j]? = some l ∧ v.cells.toList[j]? = some x ∧ Rd E.cells W (Zone W (A0 (fun _ => True) W)) kk x l ∧ Wf E.cells kk l := by
    intro j kk hj
    obtain ⟨l, e1, x, e2, e3⟩ := g2 j (List.getElem?_eq_some_iff.1 hj).1
    exact ⟨l, x, e1, e2, (e3 kk hj).1.mono hz, (e3 kk hj).2⟩
  refine ⟨ls, ⟨g1, fun j k hj => ?_⟩, fun rest => ?_⟩
  · obtain ⟨l, x, e1, _, _, e4⟩ := hrd j k hj
    exact ⟨l, e1, e4⟩
  · obtain ⟨ii, dd, z, k1, k2, k3, k4, k5, k6, kby, k7, k8, k9, k10, kpl, k11, k12, k13, k14, k15⟩ := tyB_ok (E := E) (hB t i ht)
    have hF := ofLs_F2 (T := E.cells) (w := W) (A := A0 (fun _ => True) W) (d := none) (fun r hr => (nomatch hr)) i.cells ls (fun j => v.cells.toList.getD j Go.undef) (fun j kk hj => by
      obtain ⟨l, x, e1, e2, e3, _⟩ := hrd j kk hj
      rw [List.getD_eq_getElem?_getD, e2, List.getD_eq_getElem?_getD, e1]; exact e3)
    rw [range_getD h1] at hF
    have hp : patOf E.T t = bif i.agg then .agg i.cells else .rd (i.cells.headD .bool) := by simp [patOf, ht]
    rw [hp]
    cases ha : i.agg with
    | true =>
      show V2 E.cells W _ (.agg (ofLs none i.cells (ls ++ rest))) v
      obtain ⟨fs, rfl, _⟩ := k10 ha
      obtain ⟨cs, rfl, _⟩ := okWide_struct k2 hv
      rw [ofLs_append _ _ _ _ g1]
      exact V1.v2 (v := .agg _) ⟨cs.toList, by simp, hF⟩
    | false =>
      show V2 E.cells W _ (ofL none (i.cells.headD .bool) ((ls ++ rest).headD .hole)) v
      obtain ⟨hl1, _⟩ := k9 ha
      have hone : ∃ x, v = x ∧ v.cells = #[x] := by
        match hc : i.cells, hl1 with
        | [.int k], _ => obtain ⟨n, rfl⟩ := okWide_int (k12 ha k hc ▸ k2) hv; exact ⟨_, rfl, rfl⟩
        | [.bool], _ => obtain ⟨n, rfl⟩ := okWide_bool (k13 ha hc ▸ k2) hv; exact ⟨_, rfl, rfl⟩
        | [.str], _ => obtain ⟨n, rfl⟩ := okWide_string (k14 ha hc ▸ k2) hv; exact ⟨_, rfl, rfl⟩
        | [.sl e], _ =>
          have hel : i.el = some e := by simp [TI.el, ha, hc]
          obtain ⟨rfl, _⟩ := k11 e hel
          obtain ⟨a, n, c, rfl⟩ := okWide_slice k2 hv; exact ⟨_, rfl, rfl⟩
      obtain ⟨x, rfl, hcx⟩ := hone
      match hc : i.cells, hl1 with
      | [k], _ =>
        obtain ⟨l, y, e1, e2, e3, _⟩ := hrd 0 k (by rw [hc]; rfl)
        rw [hcx] at e2
        simp at e2
        subst e2
        have : (ls ++ rest).headD .hole = l := by
          rw [getD_headD, List.getD_eq_getElem?_getD, List.getElem?_append_left (by rw [g1, hc]; simp), e1]; rfl
        rw [this]
        exact (ofL_V0 (fun r hr => by cases hr) e3).v2
theorem patOf_n (hB : ∀ t i, E.T t = some i → tyB P E.T t i = true) {t : Nat} {i : TI} (ht : E.T t = some i) : (patOf E.T t).n = i.cells.length := by
 have hp : patOf E.T t = bif i.agg then .agg i.cells else .rd (i.cells.headD .bool) := by simp [patOf, ht]
 rw [hp]
 cases ha : i.agg with
 | true => rfl
 | false =>
  obtain ⟨ii, dd, z, k1, k2, k3, k4, k5, k6, kby, k7, k8, k9, _⟩ := tyB_ok (E := E) (hB t i ht)
  rw [(k9 ha).1]; rfl
theorem args_read (hB : ∀ t i, E.T t = some i → tyB P E.T t i = true) : ∀ {ts : List Nat} {vs : List Value} {ds : List (DataW H)} {ps : List MemPlace}, (∀ t ∈ ts, (E.T t).isSome = true) → DataW.TrodAll enc P W 0 (fun _ => true) true ts vs ds ps →
  (∀ (j : Nat) (t : TypeId) (v : Value), ts[j]? = some t → vs[j]? = some v → Value.okWide P W r b0 t v) → ∃ ls, WfAll E.cells (ts.flatMap E.cells) ls ∧ F2 (V2 E.cells W (A0 (fun _ => True) W)) (argVs (ts.map (patOf E.T)) ls) vs
 | [], [], ds, ps, _, _, _ => ⟨[], ⟨rfl, fun j k hj => by simp at hj⟩, .nil⟩
 | [], _ :: _, [], ps, _, h, _ => h.elim
 | [], _ :: _, _ :: _, ps, _, h, _ => h.elim
 | _ :: _, [], [], ps, _, h, _ => h.elim
 | _ :: _, [], _ :: _, ps, _, h, _ => h.elim
 | _ :: _, _ :: _, [], ps, _, h, _ => h.elim
 | t :: ts, v :: vs, d :: ds, ps, hs, ⟨p, q, h1, h2, _⟩, hv => by
  obtain ⟨i, hi⟩ := Option.isSome_iff_exists.1 (hs t (by simp))
  obtain ⟨a, g1, g2⟩ := arg_read hB hi h1 (hv 0 t v rfl rfl)
  obtain ⟨b, g3, g4⟩ := args_read hB (fun t ht => hs t (by simp [ht])) h2 (fun j t v h h' => hv (j + 1) t v (by simpa using h) (by simpa using h'))
  have hc : E.cells t = i.cells := cells_of hi
  refine ⟨a ++ b, by rw [List.flatMap_cons, hc]; exact g1.append g3, ?_⟩
  refine .cons (g2 b) ?_
  rw [patOf_n hB hi, ← g1.1, dropT_eq, List.drop_left]
  exact g4
theorem trodAll_stays (hl : laidOutB P = true) {W' : World} (hb : Below W.heap.size W W') : ∀ {ts : List Nat} {vs : List Value} {ds : List (DataW H)} {ps : List MemPlace}, (ts.all fun t => P.readableRec t && decide (t < P.types.size)) = true →
  DataW.TrodAll enc P W 0 (fun _ => true) true ts vs ds ps → DataW.TrodAll enc P W' 0 (fun b => decide (b < W.heap.size)) true ts vs ds ps
 | [], [], [], ps, _, h => h
 | [], _ :: _, [], ps, _, h => h.elim
 | [], [], _ :: _, ps, _, h => h.elim
 | [], _ :: _, _ :: _, ps, _, h => h.elim
 | _ :: _, [], [], ps, _, h => h.elim
 | _ :: _, [], _ :: _, ps, _, h => h.elim
 | _ :: _, _ :: _, [], ps, _, h => h.elim
 | t :: ts, v :: vs, d :: ds, ps, hs, ⟨p, q, h1, h2, h3⟩ => by
  simp only [List.all_cons, Bool.and_eq_true, decide_eq_true_eq] at hs
  refine ⟨p, q, Below.trod hl hs.1.1 hs.1.2 h1 hb ?_, trodAll_stays hl hb (by simpa using hs.2) h2, h3⟩
  obtain ⟨fuel, hf⟩ := h1
  exact DataW.trod_lt fuel _ _ _ hf
theorem law_calls {g : FuncId} {ts : List Nat} {sem : List L → Option (List L)} (hV : Valid P E g (lawCon E.T ts sem)) {ls : List L} {vs : List Value} (hs : sem ls = some [.bool true])
  (hf : F2 (V2 E.cells W (A0 (fun _ => True) W)) (argVs (ts.map (patOf E.T)) ls) vs) : Calls P g vs.toArray W fun e W' => e = .returned (.bool true) ∧ Below W.heap.size W W' := by
 refine (hV.2.2 ls _ W vs (fun _ => True) hs hf).mono fun e W' ⟨rv, A', h1, h2, _, _, _, h3⟩ => ?_
 have : rv = .bool true := h3
 subst this
 exact ⟨h1, ⟨h2.os, h2.tape, h2.output, h2.size, fun k hk => h2.block k hk (fun h => h)⟩⟩
end
end Go.DM
namespace Go.DM
def iter {Pt : Type} (step : (Pt → Ans) → Pt → Ans) : Nat → Pt → Ans
 | 0 => fun _ => none
 | n + 1 => step (iter step n)
theorem heads_iter {E : Env} {live : Nat → Live} {f : Func} {res : RP} {Pt : Type} {id : Pt → Nat} {vs : Pt → List V} {hs : Pt → List Root} {step : (Pt → Ans) → Pt → Ans}
  (h : ∀ (I : Heads) (p : Pt), enterC E live I (id p) (bodyOf f) (stOf (live (id p)) (vs p) (hs p)) (doneK E f res) = step (fun q => I (id q) (vs q) (hs q)) p) :
  ∀ (n : Nat) (p : Pt), heads E live f res n (id p) (vs p) (hs p) = iter step n p
 | 0, _ => rfl
 | n + 1, p => by
  show enterC E live (heads E live f res n) (id p) (bodyOf f) (stOf (live (id p)) (vs p) (hs p)) (doneK E f res) = step (iter step n) p
  rw [h]
  congr 1
  funext q
  exact heads_iter h n q
theorem runF_iter {E : Env} {live : Nat → Live} {f : Func} {res : RP} {Pt : Type} {id : Pt → Nat} {vs : Pt → List V} {hs : Pt → List Root} {step : (Pt → Ans) → Pt → Ans} {s : St} {start : (Pt → Ans) → Ans}
  (h : ∀ (I : Heads) (p : Pt), enterC E live I (id p) (bodyOf f) (stOf (live (id p)) (vs p) (hs p)) (doneK E f res) = step (fun q => I (id q) (vs q) (hs q)) p)
  (h0 : ∀ I : Heads, runC E live I (bodyOf f) s (doneK E f res) = start (fun q => I (id q) (vs q) (hs q))) (n : Nat) : runF E live f res n s = start (iter step n) := by
 unfold runF
 rw [h0]
 congr 1
 funext q
 exact heads_iter h n q
end Go.DM
namespace Go.DM
theorem table_tyB {P : Program} {l : List (Nat × TI)} (h : tableB P l = true) : ∀ t i, (Env0 l).T t = some i → tyB P (Env0 l).T t i = true := by
 intro t i ht
 simp only [tableB, List.all_eq_true] at h
 exact h (t, i) (assoc_mem ht)
theorem trodAll_len {H : Type} {enc : TypeId × Value → H} {P : Program} {w : World} {base : Nat} {sp : Nat → Bool} {held : Bool} : ∀ {ts : List TypeId} {vs : List Value} {ds : List (DataW H)} {ps : List MemPlace}, DataW.TrodAll enc P w base sp held ts vs ds ps → ds.length = ts.length
 | [], [], [], _, _ => rfl
 | [], [], _ :: _, _, h => h.elim
 | [], _ :: _, [], _, h => h.elim
 | [], _ :: _, _ :: _, _, h => h.elim
 | _ :: _, [], [], _, h => h.elim
 | _ :: _, [], _ :: _, _, h => h.elim
 | _ :: _, _ :: _, [], _, h => h.elim
 | _ :: _, _ :: _, _ :: _, _, ⟨_, _, _, h, _⟩ => by simp [trodAll_len h]
theorem wrap_succ {i n : Nat} (h : i < n) (hn : n ≤ maxLen) : IntKind.i64.wrap ((i : Int) + 1) = ((i + 1 : Nat) : Int) := by
 rw [Go.IntWalk.i64_in _ (by simp only [maxLen] at hn; omega)]; omega
theorem take_set {α : Type} {c : List α} {i : Nat} {v : α} (h : i < c.length) : (c.set i v).take (i + 1) = c.take i ++ [v] := by
 rw [List.take_succ_eq_append_getElem (by simpa using h), List.take_set_of_le (by omega)]
 simp
theorem toNat_nat (n : Nat) : Int.toNat (n : Int) = n := Eq.trans (Int.toNat_natCast n) rfl
@[simp] theorem ba_refl (s : ByteArray) : (s == s) = true := by rw [beq_toListBytes]; simp
end Go.DM
namespace Go.DM
class RT (β : Type) where
 enc : β → List L
 dec : List L → β
 n : Nat
 de : ∀ b rest, dec (enc b ++ rest) = b
 dr : ∀ b rest, dropT n (enc b ++ rest) = rest
instance : RT Int := ⟨fun n => [.int n], fun r => (r.headD .hole).toInt, 1, fun _ _ => rfl, fun _ _ => rfl⟩
instance : RT Bool := ⟨fun n => [.bool n], fun r => (r.headD .hole).toBool, 1, fun _ _ => rfl, fun _ _ => rfl⟩
instance : RT ByteArray := ⟨fun n => [.str n], fun r => (r.headD .hole).toStr, 1, fun _ _ => rfl, fun _ _ => rfl⟩
instance : RT (List (List L)) := ⟨fun n => [.sl n], fun r => (r.headD .hole).toSl, 1, fun _ _ => rfl, fun _ _ => rfl⟩
theorem dropT_add : ∀ (m n : Nat) (l : List L), dropT (m + n) l = dropT n (dropT m l)
 | 0, n, l => by rw [Nat.zero_add]; rfl
 | m + 1, n, l => by rw [show m + 1 + n = (m + n) + 1 by omega]; exact dropT_add m n l.tail
instance {α β : Type} [RT α] [RT β] : RT (α × β) :=
 ⟨fun p => RT.enc p.1 ++ RT.enc p.2, fun r => (RT.dec r, RT.dec (dropT (RT.n α) r)), RT.n α + RT.n β,
  fun b rest => by simp only [List.append_assoc, RT.de, RT.dr],
  fun b rest => by simp only [List.append_assoc, dropT_add, RT.dr]⟩
def ret {β : Type} [RT β] (b : β) : Ans := some (RT.enc b)
def call {β : Type} [RT β] (o : Option β) (k : β → Ans) : Ans := (o.map RT.enc).bind fun r => k (RT.dec r)
theorem call_some {β : Type} [RT β] (b : β) (k : β → Ans) : call (some b) k = k b := by
 have := RT.de b []
 rw [List.append_nil] at this
 simp [call, this]
theorem call_eq {β : Type} [RT β] {o : Option β} {b : β} (h : o = some b) (k : β → Ans) : call o k = k b := by rw [h, call_some]
def iDec (r : List L) : Int := (r.headD .hole).toInt
def bDec (r : List L) : Bool := (r.headD .hole).toBool
def sDec (r : List L) : ByteArray := (r.headD .hole).toStr
def lDec (r : List L) : List (List L) := (r.headD .hole).toSl
def iAt (xs : List (List L)) (i : Nat) : Int := iDec (List.getD xs i [])
def bAt (xs : List (List L)) (i : Nat) : Bool := bDec (List.getD xs i [])
def sAt (xs : List (List L)) (i : Nat) : ByteArray := sDec (List.getD xs i [])
def lAt (xs : List (List L)) (i : Nat) : List (List L) := lDec (List.getD xs i [])
def iRow (n : Int) : List L := [.int n]
def bRow (n : Bool) : List L := [.bool n]
def sRow (n : ByteArray) : List L := [.str n]
def lRow {α : Type} (f : α → List L) (c : List α) : List L := [.sl (c.map f)]
theorem iRow_inj {a b : Int} (h : iRow a = iRow b) : a = b := by injection h with h; injection h
theorem bRow_inj {a b : Bool} (h : bRow a = bRow b) : a = b := by injection h with h; injection h
theorem sRow_inj {a b : ByteArray} (h : sRow a = sRow b) : a = b := by injection h with h; injection h
theorem map_inj {α β : Type} {f : α → β} (hf : ∀ {a b : α}, f a = f b → a = b) : ∀ {a b : List α}, a.map f = b.map f → a = b
 | [], [], _ => rfl
 | [], _ :: _, h => by cases h
 | _ :: _, [], h => by cases h
 | a :: as, b :: bs, h => by
  simp only [List.map_cons, List.cons.injEq] at h
  rw [hf h.1, map_inj hf h.2]
theorem lRow_inj {α : Type} {f : α → List L} (hf : ∀ {a b : α}, f a = f b → a = b) {a b : List α} (h : lRow f a = lRow f b) : a = b := by
 injection h with h; injection h with h; exact map_inj hf h
theorem getD_map {α : Type} {f : α → List L} {xs : List α} {i : Nat} (h : i < xs.length) : List.getD (xs.map f) i [] = f xs[i] := by
 simp [List.getD_eq_getElem?_getD, h]
theorem iAt_row {xs : List Int} {i : Nat} (h : i < xs.length) : iAt (xs.map iRow) i = xs[i] := by unfold iAt; rw [getD_map h]; rfl
theorem sAt_row {xs : List ByteArray} {i : Nat} (h : i < xs.length) : sAt (xs.map sRow) i = xs[i] := by unfold sAt; rw [getD_map h]; rfl
theorem lAt_row {α : Type} {f : α → List L} {xs : List (List α)} {i : Nat} (h : i < xs.length) : lAt (xs.map (lRow f)) i = xs[i].map f := by unfold lAt; rw [getD_map h]; rfl
def ofM {A A' B : Type} (r : A → A') (g : A → Prop) (m : A → B) (x : A') : Option B :=
 open Classical in if h : ∃ a, r a = x ∧ g a then some (m (Classical.choose h)) else none
theorem ofM_eq {A A' B : Type} {r : A → A'} {g : A → Prop} {m : A → B} {a : A} (hr : ∀ a b, r a = r b → a = b) (h : g a) : ofM r g m (r a) = some (m a) := by
 have hx : ∃ b, r b = r a ∧ g b := ⟨a, rfl, h⟩
 unfold ofM
 rw [dif_pos hx, hr _ _ (Classical.choose_spec hx).1]
theorem ofM_some {A A' B : Type} {r : A → A'} {g : A → Prop} {m : A → B} {x : A'} {v : B} (h : ofM r g m x = some v) : ∃ a, g a ∧ r a = x ∧ m a = v := by
  unfold ofM at h
  split at h
  · rename_i hx
    injection h with h
    exact ⟨_, (Classical.choose_spec hx).2, (Classical.choose_spec hx).1, h⟩
  · cases h
theorem map_some {α β : Type} {f : α → β} {o : Option α} {b : β} (h : o.map f = some b) : ∃ a, o = some a ∧ f a = b := by
 cases o with
 | none => cases h
 | some a => injection h with h; exact ⟨a, rfl, h⟩
def eqB {α : Type} (a b : α) : Bool := open Classical in decide (a = b)
theorem eqB_iff {α : Type} {a b : α} : eqB a b = true ↔ a = b := by simp [eqB]
theorem eqB_refl {α : Type} (a : α) : eqB a a = true := eqB_iff.2 rfl
theorem eqB_false {α : Type} {a b : α} : eqB a b = false ↔ a ≠ b := by simp [eqB]
def SmL {α : Type} (n : Nat) (p : α → Prop) (xs : List α) : Prop := xs.length ≤ n ∧ ∀ x ∈ xs, p x
theorem SmL.get {α : Type} {n : Nat} {p : α → Prop} {xs : List α} (h : SmL n p xs) {i : Nat} (hi : i < xs.length) : p xs[i] := h.2 _ (List.getElem_mem hi)
theorem SmL.mono {α : Type} {n m : Nat} {p q : α → Prop} {xs : List α} (h : SmL n p xs) (hn : n ≤ m) (hpq : ∀ x, p x → q x) : SmL m q xs := ⟨Nat.le_trans h.1 hn, fun x hx => hpq x (h.2 x hx)⟩
theorem SmL.nil {α : Type} {n : Nat} {p : α → Prop} : SmL n p ([] : List α) := ⟨Nat.zero_le _, fun x hx => (nomatch hx)⟩
def szL {α : Type} (f : α → Nat) (xs : List α) : Nat := xs.length + (xs.map f).sum
theorem szL_mem {α : Type} {f : α → Nat} : ∀ {xs : List α} {x : α}, x ∈ xs → f x ≤ (xs.map f).sum
  | y :: ys, x, h => by
    simp only [List.map_cons, List.sum_cons]
    rcases List.mem_cons.1 h with rfl | h
    · omega
    · have := szL_mem (f := f) h; omega
theorem szL_sm {α : Type} {f : α → Nat} {p : α → Prop} {n : Nat} {xs : List α} (h : szL f xs ≤ n) (hp : ∀ x, f x ≤ n → p x) : SmL n p xs := by
 unfold szL at h
 exact ⟨by omega, fun x hx => hp x (by have := szL_mem (f := f) hx; omega)⟩
theorem lt_dec {i n : Nat} (h : i < n) : decide ((i : Int) < (n : Int)) = true := by simp [h]
theorem nlt_dec {n : Nat} : decide ((n : Int) < (n : Int)) = false := by simp
theorem zle_dec {i : Nat} : decide ((0 : Int) ≤ (i : Int)) = true := by simp
end Go.DM
namespace Go.DM
def szM (s : Nat) (left : Int) : Int := if left < (s : Int) then -1 else left - s
theorem szM_neg {s : Nat} {left : Int} (h : left < (s : Int)) : szM s left = -1 := if_pos h
theorem szM_pos {s : Nat} {left : Int} (h : ¬ left < (s : Int)) : szM s left = left - s := if_neg h
theorem dec_neg {x : Int} (h : 0 ≤ x) : decide (x < 0) = false := decide_eq_false (by omega)
theorem sz_wrap {s : Nat} {left : Int} (h0 : 0 ≤ left) (h1 : left ≤ 1048576) (hs : s ≤ maxLen) : IntKind.i64.wrap (left - (s : Int)) = left - s :=
 Go.IntWalk.i64_in _ (by simp only [maxLen] at hs; omega)
theorem sum_zero {α : Type} {f : α → Nat} (h : ∀ x, f x = 0) : ∀ xs : List α, (xs.map f).sum = 0
 | [] => rfl
 | x :: xs => by simp [h x, sum_zero h xs]
theorem sz_loop {Pt α : Type} {step : (Pt → Ans) → Pt → Ans} {pt : Int → Nat → Pt} {xs : List α} {f : α → Nat}
    (h1 : ∀ (J : Pt → Ans) (i : Nat) (h : i < xs.length) (left : Int), 0 ≤ left → left ≤ 1048576 → step J (pt left i) = if left < (f xs[i] : Int) then ret (-1 : Int) else J (pt (left - f xs[i]) (i + 1)))
    (h0 : ∀ (J : Pt → Ans) (left : Int), step J (pt left xs.length) = ret left) : ∀ (left : Int), 0 ≤ left → left ≤ 1048576 → ∃ m, iter step m (pt left 0) = ret (szM (xs.map f).sum left) := by
  have key : ∀ k i, i + k = xs.length → ∀ left : Int, 0 ≤ left → left ≤ 1048576 → ∃ m, iter step m (pt left i) = ret (szM ((xs.drop i).map f).sum left) := by
    intro k
    induction k with
    | zero =>
      intro i hi left g0 g1
      have : i = xs.length := by omega
      subst this
      refine ⟨1, (h0 _ left).trans ?_⟩
      have e : szM ((xs.drop xs.length).map f).sum left = left := by
        rw [List.drop_eq_nil_of_le (Nat.le_refl _)]
        rw [szM_pos (by simp; omega)]; simp
      rw [e]
    | succ k ih =>
      intro i hi left g0 g1
      have hlt : i < xs.length := by omega
      rw [List.drop_eq_getElem_cons hlt, List.map_cons, List.sum_cons]
      by_cases hc : left < (f xs[i] : Int)
      · refine ⟨1, (h1 _ i hlt left g0 g1).trans ?_⟩
        rw [if_pos hc, szM_neg (by omega)]
      · obtain ⟨m, hm⟩ := ih (i + 1) (by omega) (left - f xs[i]) (by omega) (by omega)
        refine ⟨m + 1, (h1 _ i hlt left g0 g1).trans ?_⟩
        rw [if_neg hc, hm]
        congr 1
        unfold szM
        split <;> split <;> omega
  intro left g0 g1
  have := key xs.length 0 (by omega) left g0 g1
  simpa using this
theorem sz_list {Pt α : Type} {step : (Pt → Ans) → Pt → Ans} {pt : Int → Nat → Pt} {xs : List α} {f : α → Nat} (hx : xs.length ≤ maxLen)
    (h1 : ∀ (J : Pt → Ans) (i : Nat) (h : i < xs.length) (left : Int), 0 ≤ left → left ≤ 1048576 → step J (pt left i) = if left < (f xs[i] : Int) then ret (-1 : Int) else J (pt (left - f xs[i]) (i + 1)))
    (h0 : ∀ (J : Pt → Ans) (left : Int), step J (pt left xs.length) = ret left) {left : Int} (g0 : 0 ≤ left) (g1 : left ≤ 1048576) :
    ∃ m, (bif decide (IntKind.i64.wrap (left - (xs.length : Int)) < 0) then ret (-1 : Int) else iter step m (pt (IntKind.i64.wrap (left - (xs.length : Int))) 0)) = ret (szM (szL f xs) left) := by
  rw [sz_wrap g0 g1 hx]
  by_cases hc : left - (xs.length : Int) < 0
  · refine ⟨0, ?_⟩
    rw [decide_eq_true hc, szM_neg (by unfold szL; omega)]; rfl
  · obtain ⟨m, hm⟩ := sz_loop h1 h0 (left - (xs.length : Int)) (by omega) (by omega)
    refine ⟨m, ?_⟩
    rw [decide_eq_false hc, cond_false, hm]
    congr 1
    unfold szM szL
    split <;> split <;> omega
theorem to_loop {Pt : Type} {step : (Pt → Ans) → Pt → Ans} {pt : Nat → List (List L) → Pt} {xs : List (List L)}
  (h1 : ∀ (J : Pt → Ans) (i : Nat) (h : i < xs.length) (c : List (List L)), c.length = xs.length → step J (pt i c) = J (pt (i + 1) (c.set i xs[i])))
  (h0 : ∀ (J : Pt → Ans) (c : List (List L)), step J (pt xs.length c) = ret c) (c : List (List L)) (hc : c.length = xs.length) : ∃ m, iter step m (pt 0 c) = ret xs := by
 have key : ∀ k i, i + k = xs.length → ∀ c : List (List L), c.length = xs.length → c.take i = xs.take i → ∃ m, iter step m (pt i c) = ret xs := by
  intro k
  induction k with
  | zero =>
   intro i hi c hc ht
   have : i = xs.length := by omega
   subst this
   rw [List.take_of_length_le (by omega), List.take_of_length_le (Nat.le_refl _)] at ht
   exact ⟨1, by rw [← ht] at h0 ⊢; exact h0 _ _⟩
  | succ k ih =>
   intro i hi c hc ht
   have hlt : i < xs.length := by omega
   obtain ⟨m, hm⟩ := ih (i + 1) (by omega) (c.set i xs[i]) (by simpa using hc) (by rw [take_set (by omega), ht, List.take_succ_eq_append_getElem hlt])
   exact ⟨m + 1, (h1 _ i hlt c hc).trans hm⟩
 exact key xs.length 0 (by omega) c hc rfl
theorem to_list {Pt α : Type} {step : (Pt → Ans) → Pt → Ans} {pt : Nat → List (List L) → Pt} {xs : List α} {f : α → List L} {z : List L} {b : Nat} (hx : (xs.length : Int) * (b : Int) ≤ 140737488355328)
  (h1 : ∀ (J : Pt → Ans) (i : Nat) (h : i < xs.length) (c : List (List L)), c.length = xs.length → step J (pt i c) = J (pt (i + 1) (c.set i (f xs[i]))))
  (h0 : ∀ (J : Pt → Ans) (c : List (List L)), step J (pt xs.length c) = ret c) :
  ∃ m, (bif decide ((0 : Int) ≤ (xs.length : Int)) then (bif decide ((xs.length : Int) ≤ (xs.length : Int)) then (bif decide ((xs.length : Int) * (b : Int) ≤ 140737488355328) then iter step m (pt 0 (List.replicate (Int.toNat (xs.length : Int)) z)) else none) else none) else none) = ret (xs.map f) := by
 obtain ⟨m, hm⟩ := to_loop (step := step) (pt := pt) (xs := xs.map f) (fun J i h c hc => by
  rw [List.getElem_map]; exact h1 J i (by simpa using h) c (by simpa using hc)) (fun J c => by rw [List.length_map]; exact h0 J c) (List.replicate (Int.toNat (xs.length : Int)) z) (by simp)
 refine ⟨m, ?_⟩
 rw [zle_dec, decide_eq_true (Int.le_refl _), decide_eq_true hx]
 exact hm
theorem eq_loop {Pt α : Type} {step : (Pt → Ans) → Pt → Ans} {pt : Nat → Pt} {xs ys : List α} (hl : xs.length = ys.length)
    (h1 : ∀ (J : Pt → Ans) (i : Nat) (h : i < xs.length) (h' : i < ys.length), step J (pt i) = bif eqB xs[i] ys[i] then J (pt (i + 1)) else ret false) (h0 : ∀ J : Pt → Ans, step J (pt xs.length) = ret true) : ∃ m, iter step m (pt 0) = ret (eqB xs ys) := by
  have key : ∀ k i, i + k = xs.length → ∃ m, iter step m (pt i) = ret (eqB (xs.drop i) (ys.drop i)) := by
    intro k
    induction k with
    | zero =>
      intro i hi
      have : i = xs.length := by omega
      subst this
      refine ⟨1, (h0 _).trans ?_⟩
      rw [List.drop_eq_nil_of_le (Nat.le_refl _), List.drop_eq_nil_of_le (by omega), eqB_refl]
    | succ k ih =>
      intro i hi
      have hlt : i < xs.length := by omega
      have hlt' : i < ys.length := by omega
      rw [List.drop_eq_getElem_cons hlt, List.drop_eq_getElem_cons hlt']
      obtain ⟨m, hm⟩ := ih (i + 1) (by omega)
      cases hc : eqB xs[i] ys[i]
      · refine ⟨1, (h1 _ i hlt hlt').trans ?_⟩
        rw [hc]
        have : eqB (xs[i] :: xs.drop (i + 1)) (ys[i] :: ys.drop (i + 1)) = false := by
          rw [eqB_false] at hc ⊢
          intro h; injection h with h; exact hc h
        rw [this]; rfl
      · refine ⟨m + 1, (h1 _ i hlt hlt').trans ?_⟩
        rw [hc, cond_true, hm]
        congr 1
        rw [eqB_iff] at hc
        rw [Bool.eq_iff_iff, eqB_iff, eqB_iff, hc]
        constructor
        · intro h; rw [h]
        · intro h; injection h
  have := key xs.length 0 (by omega)
  simpa using this
theorem eq_list {Pt α : Type} {step : (Pt → Ans) → Pt → Ans} {pt : Nat → Pt} {xs ys : List α}
    (h1 : xs.length = ys.length → ∀ (J : Pt → Ans) (i : Nat) (h : i < xs.length) (h' : i < ys.length), step J (pt i) = bif eqB xs[i] ys[i] then J (pt (i + 1)) else ret false) (h0 : ∀ J : Pt → Ans, step J (pt xs.length) = ret true) :
    ∃ m, (bif ((xs.length : Int) != (ys.length : Int)) then ret false else iter step m (pt 0)) = ret (eqB xs ys) := by
  by_cases hl : xs.length = ys.length
  · obtain ⟨m, hm⟩ := eq_loop hl (h1 hl) h0
    refine ⟨m, ?_⟩
    rw [hl, bne_self_eq_false, cond_false, hm]
  · refine ⟨0, ?_⟩
    have h2 : ((xs.length : Int) != (ys.length : Int)) = true := by simpa using fun h => hl (by omega)
    have h3 : eqB xs ys = false := eqB_false.2 fun h => hl (by rw [h])
    rw [h2, h3]; rfl
theorem WfAll.uncons {T : Nat → List K} {k : K} {ks : List K} {r : List L} (h : WfAll T (k :: ks) r) : ∃ l r', r = l :: r' ∧ Wf T k l ∧ WfAll T ks r' := by
 match r, h with
 | [], h => have := h.1; simp at this
 | l :: r', h =>
  obtain ⟨l', e1, e2⟩ := h.2 0 k rfl
  simp at e1
  subst e1
  exact ⟨l, r', rfl, e2, by simpa using h.1, fun j kk hj => by simpa using h.2 (j + 1) kk (by simpa using hj)⟩
theorem WfAll.unapp {T : Nat → List K} : ∀ {a b : List K} {r : List L}, WfAll T (a ++ b) r → ∃ r1 r2, r = r1 ++ r2 ∧ WfAll T a r1 ∧ WfAll T b r2
 | [], b, r, h => ⟨[], r, rfl, ⟨rfl, fun j k hj => by simp at hj⟩, h⟩
 | k :: a, b, r, h => by
  obtain ⟨l, r', rfl, h1, h2⟩ := WfAll.uncons (ks := a ++ b) h
  obtain ⟨r1, r2, rfl, h3, h4⟩ := WfAll.unapp h2
  exact ⟨l :: r1, r2, rfl, WfAll.append (a := [k]) (x := [l]) ⟨rfl, fun j kk hj => by
   cases j with
   | zero => simp at hj; subst hj; exact ⟨l, rfl, h1⟩
   | succ j => simp at hj⟩ h3, h4⟩
theorem WfAll.isnil {T : Nat → List K} {r : List L} (h : WfAll T [] r) : r = [] := List.eq_nil_of_length_eq_zero h.1
theorem wf_int {T : Nat → List K} {k : IntKind} {l : L} (h : Wf T (.int k) l) : ∃ n, l = .int n := by cases h; exact ⟨_, rfl⟩
theorem wf_bool {T : Nat → List K} {l : L} (h : Wf T .bool l) : ∃ n, l = .bool n := by cases h; exact ⟨_, rfl⟩
theorem wf_str {T : Nat → List K} {l : L} (h : Wf T .str l) : ∃ s : ByteArray, l = .str s ∧ s.size ≤ maxLen := by cases h; exact ⟨_, rfl, by assumption⟩
theorem wf_list {T : Nat → List K} {e : Nat} {ks : List K} {α : Type} {row : α → List L} {p : α → Prop} (hc : T e = ks) (hrow : ∀ r, WfAll T ks r → ∃ x, row x = r ∧ p x) {l : L} (h : Wf T (.sl e) l) :
    ∃ xs : List α, l = .sl (xs.map row) ∧ SmL maxLen p xs := by
  cases h
  rename_i xs hle hl hr
  have key : ∀ ys : List (List L), (∀ r ∈ ys, r ∈ xs) → ∃ zs : List α, ys = zs.map row ∧ ∀ z ∈ zs, p z := by
    intro ys
    induction ys with
    | nil => intro _; exact ⟨[], rfl, fun z hz => (nomatch hz)⟩
    | cons y ys ih =>
      intro hy
      obtain ⟨zs, e1, e2⟩ := ih fun r hr => hy r (by simp [hr])
      obtain ⟨z, e3, e4⟩ := hrow y (by
        refine ⟨by rw [← hc]; exact hl y (hy y (by simp)), fun j kk hj => ?_⟩
        rw [← hc] at hj
        have hjl : j < y.length := by rw [hl y (hy y (by simp))]; exact (List.getElem?_eq_some_iff.1 hj).1
        have hg := List.getElem?_eq_getElem hjl
        exact ⟨_, hg, hr y j kk _ (hy y (by simp)) hj hg⟩)
      refine ⟨z :: zs, by simp [e1, e3], fun w hw => ?_⟩
      rcases List.mem_cons.1 hw with rfl | hw
      · exact e4
      · exact e2 w hw
  obtain ⟨zs, e1, e2⟩ := key xs fun r hr => hr
  exact ⟨zs, by rw [e1], by rw [e1] at hle; simpa using hle, e2⟩
theorem wf_irow {T : Nat → List K} {k : IntKind} (r : List L) (h : WfAll T [.int k] r) : ∃ x, iRow x = r ∧ True := by
 obtain ⟨l, r', rfl, h1, h2⟩ := h.uncons
 obtain ⟨n, rfl⟩ := wf_int h1
 rw [h2.isnil]; exact ⟨n, rfl, trivial⟩
theorem wf_srow {T : Nat → List K} (r : List L) (h : WfAll T [.str] r) : ∃ x : ByteArray, sRow x = r ∧ x.size ≤ maxLen := by
 obtain ⟨l, r', rfl, h1, h2⟩ := h.uncons
 obtain ⟨n, rfl, h3⟩ := wf_str h1
 rw [h2.isnil]; exact ⟨n, rfl, h3⟩
theorem wf_lrow {T : Nat → List K} {e : Nat} {ks : List K} {α : Type} {row : α → List L} {p : α → Prop} (hc : T e = ks) (hrow : ∀ r, WfAll T ks r → ∃ x, row x = r ∧ p x) (r : List L) (h : WfAll T [.sl e] r) : ∃ x, lRow row x = r ∧ SmL maxLen p x := by
 obtain ⟨l, r', rfl, h1, h2⟩ := h.uncons
 obtain ⟨xs, rfl, h3⟩ := wf_list hc hrow h1
 rw [h2.isnil]; exact ⟨xs, rfl, h3⟩
theorem int_beq {a b : Int} : (a == b) = eqB a b := by rw [Bool.eq_iff_iff, beq_iff_eq, eqB_iff]
theorem bool_beq {a b : Bool} : (a == b) = eqB a b := by rw [Bool.eq_iff_iff, beq_iff_eq, eqB_iff]
theorem ba_beq {a b : ByteArray} : (a == b) = eqB a b := by
  rw [Bool.eq_iff_iff, eqB_iff, beq_toListBytes, beq_iff_eq, ByteArray.toList_eq, ByteArray.toList_eq]
  constructor
  · intro h
    obtain ⟨⟨x⟩⟩ := a
    obtain ⟨⟨y⟩⟩ := b
    simp at h
    rw [h]
  · intro h; rw [h]
theorem and_step {b c : Bool} {x : Ans} (h : b = true → x = ret c) : (bif !b then ret false else x) = ret (b && c) := by
  cases b
  · rfl
  · simpa using h rfl
end Go.DM
namespace Go.DM
def loopM {S β : Type} (f : Nat → S → S ⊕ β) (tail : S → β) : Nat → Nat → S → β
 | 0, _, s => tail s
 | k + 1, i, s => match f i s with
  | .inl s' => loopM f tail k (i + 1) s'
  | .inr b => b
def goK {S β : Type} (K : S → Ans) (out : β → Ans) : S ⊕ β → Ans
 | .inl s => K s
 | .inr b => out b
def Rnd {S β : Type} (x : Ans) (K : S → Ans) (out : β → Ans) (P : S → Prop) (r : S ⊕ β) : Prop := x = goK K out r ∧ ∀ s, r = .inl s → P s
theorem Rnd.bif {S β : Type} {K : S → Ans} {out : β → Ans} {P : S → Prop} {c : Bool} {x y : Ans} {a b : S ⊕ β} (h1 : c = true → Rnd x K out P a) (h2 : c = false → Rnd y K out P b) : Rnd (bif c then x else y) K out P (bif c then a else b) := by
  cases c
  · exact h2 rfl
  · exact h1 rfl
theorem Rnd.yes {S β : Type} {K : S → Ans} {out : β → Ans} {P : S → Prop} {c : Bool} {x y : Ans} {r : S ⊕ β} (hc : c = true) (h : Rnd x K out P r) : Rnd (bif c then x else y) K out P r := by rw [hc]; exact h
theorem Rnd.call {S β γ : Type} [RT γ] {K : S → Ans} {out : β → Ans} {P : S → Prop} {o : Option γ} {b : γ} (h : o = some b) {k : γ → Ans} {r : S ⊕ β} (hk : Rnd (k b) K out P r) : Rnd (call o k) K out P r := by rw [call_eq h]; exact hk
theorem Rnd.inl {S β : Type} {K : S → Ans} {out : β → Ans} {P : S → Prop} {x : Ans} {s : S} (hp : P s) (h : x = K s) : Rnd x K out P (.inl s) := ⟨h, fun s' e => by injection e with e; rw [← e]; exact hp⟩
theorem Rnd.inr {S β : Type} {K : S → Ans} {out : β → Ans} {P : S → Prop} {x : Ans} {b : β} (h : x = out b) : Rnd x K out P (.inr b) := ⟨h, fun s' e => by cases e⟩
theorem loopM_ok {Pt S β : Type} {step : (Pt → Ans) → Pt → Ans} {pt : Nat → S → Pt} {n : Nat} {f : Nat → S → S ⊕ β} {tail : S → β} {out : β → Ans} (Inv : Nat → S → Prop)
  (h1 : ∀ (J : Pt → Ans) (i : Nat) (s : S), i < n → Inv i s → Rnd (step J (pt i s)) (fun s' => J (pt (i + 1) s')) out (Inv (i + 1)) (f i s))
  (h0 : ∀ s, Inv n s → ∃ m, step (iter step m) (pt n s) = out (tail s)) {s : S} (hs : Inv 0 s) : ∃ m, iter step m (pt 0 s) = out (loopM f tail n 0 s) := by
 have key : ∀ k i s, i + k = n → Inv i s → ∃ m, iter step m (pt i s) = out (loopM f tail k i s) := by
  intro k
  induction k with
  | zero =>
   intro i s hi hs
   have : i = n := by omega
   subst this
   obtain ⟨m, hm⟩ := h0 s hs
   exact ⟨m + 1, hm⟩
  | succ k ih =>
   intro i s hi hs
   unfold loopM
   cases hf : f i s with
   | inl s' =>
    have h := h1 (fun _ => none) i s (by omega) hs
    obtain ⟨m, hm⟩ := ih (i + 1) s' (by omega) (h.2 s' hf)
    refine ⟨m + 1, ?_⟩
    have h := (h1 (iter step m) i s (by omega) hs).1
    rw [hf] at h
    exact h.trans hm
   | inr b =>
    refine ⟨1, ?_⟩
    have h := (h1 (iter step 0) i s (by omega) hs).1
    rw [hf] at h
    exact h
 exact key n 0 s (by omega) hs
theorem ex_bif {β : Type} (out : β → Ans) {c : Bool} {x y : Nat → Ans} {a b : β} (h1 : c = true → ∃ n, x n = out a) (h2 : c = false → ∃ n, y n = out b) : ∃ n, (bif c then x n else y n) = out (bif c then a else b) := by
  cases c
  · exact h2 rfl
  · exact h1 rfl
theorem ex_no {c : Bool} {x y : Nat → Ans} {r : Ans} (hc : c = false) (h : ∃ n, y n = r) : ∃ n, (bif c then x n else y n) = r := by subst hc; exact h
theorem ex_call {γ : Type} [RT γ] {o : Option γ} {b : γ} (h : o = some b) {k : Nat → γ → Ans} {r : Ans} (hk : ∃ n, k n b = r) : ∃ n, call o (k n) = r := by
 obtain ⟨n, hn⟩ := hk
 exact ⟨n, by rw [call_eq h]; exact hn⟩
theorem bif_out {β : Type} (out : β → Ans) {c : Bool} {x y : Ans} {a b : β} (h1 : c = true → x = out a) (h2 : c = false → y = out b) : (bif c then x else y) = out (bif c then a else b) := by
  cases c
  · exact h2 rfl
  · exact h1 rfl
theorem yes_ret {c : Bool} {x y r : Ans} (hc : c = true) (h : x = r) : (bif c then x else y) = r := by subst hc; exact h
theorem getD_lt {α : Type} {xs : List α} {i : Nat} {z : α} (h : i < xs.length) : xs.getD i z = xs[i] := by simp [List.getD, h]
theorem getD_ge {α : Type} {xs : List α} {i : Nat} {z : α} (h : ¬ i < xs.length) : xs.getD i z = z := by simp [List.getD]; rw [List.getElem?_eq_none (by omega)]; rfl
theorem iAt_getD {xs : List Int} {i : Nat} : iAt (xs.map iRow) i = xs.getD i 0 := by
  unfold iAt
  by_cases h : i < xs.length
  · rw [getD_map h, getD_lt h]; rfl
  · rw [getD_ge (by simpa using h), getD_ge h]; rfl
theorem bAt_getD {xs : List Bool} {i : Nat} : bAt (xs.map bRow) i = xs.getD i false := by
  unfold bAt
  by_cases h : i < xs.length
  · rw [getD_map h, getD_lt h]; rfl
  · rw [getD_ge (by simpa using h), getD_ge h]; rfl
theorem sAt_getD {xs : List ByteArray} {i : Nat} : sAt (xs.map sRow) i = xs.getD i ⟨#[]⟩ := by
  unfold sAt
  by_cases h : i < xs.length
  · rw [getD_map h, getD_lt h]; rfl
  · rw [getD_ge (by simpa using h), getD_ge h]; rfl
theorem lAt_getD {α : Type} {f : α → List L} {xs : List (List α)} {i : Nat} : lAt (xs.map (lRow f)) i = (xs.getD i []).map f := by
  unfold lAt
  by_cases h : i < xs.length
  · rw [getD_map h, getD_lt h]; rfl
  · rw [getD_ge (by simpa using h), getD_ge h]; rfl
theorem row_getD {α β : Type} {row : α → List L} {dec : List L → β} {r : α → β} {z : α} {xs : List α} {i : Nat} (h1 : ∀ x, dec (row x) = r x) (h2 : dec [] = r z) : dec (List.getD (xs.map row) i []) = r (xs.getD i z) := by
  by_cases h : i < xs.length
  · rw [getD_map h, getD_lt h, h1]
  · rw [getD_ge (by simpa using h), getD_ge h, h2]
theorem SmL.getD {α : Type} {n : Nat} {p : α → Prop} {xs : List α} (h : SmL n p xs) {i : Nat} {z : α} (hi : i < xs.length) : p (xs.getD i z) := by
 rw [getD_lt hi]; exact h.get hi
theorem loop_eqB {α : Type} {xs ys : List α} (z : α) {f : Nat → Unit → Unit ⊕ Bool} {tail : Unit → Bool} (hf : ∀ i s, i < xs.length → i < ys.length → f i s = bif eqB (xs.getD i z) (ys.getD i z) then .inl s else .inr false) (ht : ∀ s, tail s = true) :
    (bif ((xs.length : Int) != (ys.length : Int)) then false else loopM f tail xs.length 0 ()) = eqB xs ys := by
  by_cases hl : xs.length = ys.length
  · rw [hl, bne_self_eq_false, cond_false, ← hl]
    have key : ∀ k i, i + k = xs.length → loopM f tail k i () = eqB (xs.drop i) (ys.drop i) := by
      intro k
      induction k with
      | zero =>
        intro i hi
        have : i = xs.length := by omega
        subst this
        unfold loopM
        rw [ht, List.drop_eq_nil_of_le (Nat.le_refl _), List.drop_eq_nil_of_le (by omega), eqB_refl]
      | succ k ih =>
        intro i hi
        have h1 : i < xs.length := by omega
        have h2 : i < ys.length := by omega
        unfold loopM
        rw [hf i () h1 h2, getD_lt h1, getD_lt h2, List.drop_eq_getElem_cons h1, List.drop_eq_getElem_cons h2]
        cases hc : eqB xs[i] ys[i]
        · have : eqB (xs[i] :: xs.drop (i + 1)) (ys[i] :: ys.drop (i + 1)) = false := by
            rw [eqB_false] at hc ⊢
            intro h; injection h with h; exact hc h
          rw [this]; rfl
        · show loopM f tail k (i + 1) () = _
          rw [ih (i + 1) (by omega)]
          rw [eqB_iff] at hc
          rw [Bool.eq_iff_iff, eqB_iff, eqB_iff, hc]
          constructor
          · intro h; rw [h]
          · intro h; injection h
    simpa using key xs.length 0 (by omega)
  · have h2 : ((xs.length : Int) != (ys.length : Int)) = true := by simpa using fun h => hl (by omega)
    have h3 : eqB xs ys = false := eqB_false.2 fun h => hl (by rw [h])
    rw [h2, h3]; rfl
end Go.DM
namespace Go.DM
theorem no_ret {c : Bool} {x y r : Ans} (hc : c = false) (h : y = r) : (bif c then x else y) = r := by subst hc; exact h
theorem Rnd.no {S β : Type} {K : S → Ans} {out : β → Ans} {P : S → Prop} {c : Bool} {x y : Ans} {r : S ⊕ β} (hc : c = false) (h : Rnd y K out P r) : Rnd (bif c then x else y) K out P r := by rw [hc]; exact h
theorem either_same {a : Ans} : either a a = a := by simp [either]
theorem ex_eq {β : Type} {out : β → Ans} {x : Nat → Ans} {a b : β} (h : a = b) (k : ∃ n, x n = out a) : ∃ n, x n = out b := h ▸ k
theorem call_to {γ : Type} [RT γ] {o : Option γ} {k : γ → Ans} {r : Ans} (b : γ) (h : o = some b) (hk : k b = r) : call o k = r := (call_eq h k).trans hk
theorem ex_call_to {γ : Type} [RT γ] {o : Option γ} {k : Nat → γ → Ans} {r : Ans} (b : γ) (h : o = some b) (hk : ∃ n, k n b = r) : ∃ n, call o (k n) = r := ex_call h hk
theorem Rnd.call_to {S β γ : Type} [RT γ] {K : S → Ans} {out : β → Ans} {P : S → Prop} {o : Option γ} {k : γ → Ans} {r : S ⊕ β} (b : γ) (h : o = some b) (hk : Rnd (k b) K out P r) : Rnd (DM.call o k) K out P r := Rnd.call h hk
def eachI {α S β : Type} (f : Nat → α → S → S ⊕ β) (t : S → β) : Nat → List α → S → β
 | _, [], s => t s
 | i, x :: xs, s => match f i x s with
  | .inl s' => eachI f t (i + 1) xs s'
  | .inr b => b
def eachM {α S β : Type} (f : α → S → S ⊕ β) (t : S → β) : List α → S → β
 | [], s => t s
 | x :: xs, s => match f x s with
  | .inl s' => eachM f t xs s'
  | .inr b => b
theorem loopM_eachI {α S β : Type} {f : Nat → α → S → S ⊕ β} {t : S → β} {xs : List α} {z : α} {s : S} : loopM (fun i s => f i (xs.getD i z) s) t xs.length 0 s = eachI f t 0 xs s := by
 have key : ∀ (k i : Nat) (s : S), i + k = xs.length → loopM (fun i s => f i (xs.getD i z) s) t k i s = eachI f t i (xs.drop i) s := by
  intro k
  induction k with
  | zero =>
   intro i s hi
   have : i = xs.length := by omega
   subst this
   rw [List.drop_eq_nil_of_le (Nat.le_refl _)]; rfl
  | succ k ih =>
   intro i s hi
   have hlt : i < xs.length := by omega
   rw [List.drop_eq_getElem_cons hlt]
   unfold loopM eachI
   rw [getD_lt hlt]
   cases f i xs[i] s with
   | inl s' => exact ih (i + 1) s' (by omega)
   | inr b => rfl
 simpa using key xs.length 0 s (by omega)
theorem eachI_eachM {α S β : Type} {f : α → S → S ⊕ β} {t : S → β} : ∀ {xs : List α} {i : Nat} {s : S}, eachI (fun _ x s => f x s) t i xs s = eachM f t xs s
 | [], _, _ => rfl
 | x :: xs, i, s => by
  unfold eachI eachM
  cases f x s with
  | inl s' => exact eachI_eachM
  | inr b => rfl
theorem loopM_eachM {α S β : Type} {f : α → S → S ⊕ β} {t : S → β} {xs : List α} {z : α} {s : S} : loopM (fun i s => f (xs.getD i z) s) t xs.length 0 s = eachM f t xs s :=
 (loopM_eachI (f := fun _ x s => f x s)).trans eachI_eachM
def findI {α : Type} (p : α → Bool) : Nat → List α → Int
 | _, [] => -1
 | i, x :: xs => bif p x then (i : Int) else findI p (i + 1) xs
theorem eachI_find {α : Type} {p : α → Bool} : ∀ {xs : List α} {i : Nat} {s : Unit}, eachI (fun i x s => bif p x then .inr (i : Int) else .inl s) (fun _ => (-1 : Int)) i xs s = findI p i xs
  | [], _, _ => rfl
  | x :: xs, i, s => by
    unfold eachI findI
    cases p x
    · exact eachI_find
    · rfl
theorem findI_any {α : Type} {p : α → Bool} : ∀ {xs : List α} {i : Nat}, decide (findI p i xs < 0) = !(xs.any p)
  | [], i => rfl
  | x :: xs, i => by
    unfold findI
    rw [List.any_cons]
    cases p x
    · exact findI_any
    · simp
end Go.DM
namespace Go.DM
def bytesI (s : ByteArray) : List Int := s.data.toList.map fun b => (b.toNat : Int)
theorem bytesL_map (s : ByteArray) : bytesL s = (bytesI s).map iRow := by simp [bytesL, bytesI, iRow]
theorem bytesI_length (s : ByteArray) : (bytesI s).length = s.size := by simp [bytesI]
theorem bytesL_length (s : ByteArray) : (bytesL s).length = s.size := by simp [bytesL]
end Go.DM
namespace Go.DM
theorem ex_pt {Pt : Type} {step : (Pt → Ans) → Pt → Ans} {p q : Pt} {r : Ans} (h : q = p) (k : ∃ n, iter step n p = r) : ∃ n, iter step n q = r := h ▸ k
theorem eachI_fa {α : Type} {f : Nat → α → Unit → Unit ⊕ Int} (h : ∀ i x s b, f i x s = .inr b → b = (i : Int)) : ∀ (xs : List α) (i : Nat) (s : Unit), -1 ≤ eachI f (fun _ => (-1 : Int)) i xs s ∧ eachI f (fun _ => (-1 : Int)) i xs s < (i : Int) + xs.length
 | [], i, s => by simp only [eachI, List.length_nil]; omega
 | x :: xs, i, s => by
  unfold eachI
  cases hf : f i x s with
  | inl s' =>
   have := eachI_fa h xs (i + 1) s'
   simp only [List.length_cons]
   omega
  | inr b =>
   have := h i x s b hf
   simp only [List.length_cons]
   omega
end Go.DM
namespace Go.DM
theorem eachI_fa0 {α : Type} {f : Nat → α → Unit → Unit ⊕ Int} (h : ∀ i x s b, f i x s = .inr b → b = (i : Int)) (xs : List α) (s : Unit) : -1 ≤ eachI f (fun _ => (-1 : Int)) 0 xs s ∧ eachI f (fun _ => (-1 : Int)) 0 xs s < (xs.length : Int) := by
 have := eachI_fa h xs 0 s
 simpa using this
theorem findI_ge {α : Type} {p : α → Bool} {xs : List α} : decide (findI p 0 xs ≥ 0) = xs.any p := by
 have := findI_any (p := p) (xs := xs) (i := 0)
 cases h : xs.any p <;> rw [h] at this <;> simp at this ⊢ <;> omega
end Go.DM
namespace Go.DM
end Go.DM
namespace Go.DM
end Go.DM
namespace Go.DM
theorem eachM_any' {α β : Type} {f : α → Unit → Unit ⊕ β} {p : α → Bool} {b c : β} (h : ∀ x s, f x s = bif p x then .inr b else .inl ()) : ∀ (xs : List α) (s : Unit), eachM f (fun _ => c) xs s = bif xs.any p then b else c
  | [], _ => rfl
  | x :: xs, s => by
    unfold eachM
    rw [List.any_cons, h]
    cases p x
    · exact eachM_any' h xs ()
    · rfl
end Go.DM
namespace Go.DM
end Go.DM
namespace Go.DM
class Row (α : Type) where
 row : α → List L
 rinj : ∀ {a b : α}, row a = row b → a = b
class Im (α : Type) (β : outParam Type) where
 im : α → β
 inj : ∀ {a b : α}, im a = im b → a = b
instance : Row Int := ⟨iRow, iRow_inj⟩
instance : Row Bool := ⟨bRow, bRow_inj⟩
instance : Row ByteArray := ⟨sRow, sRow_inj⟩
instance {α : Type} [Row α] : Row (List α) := ⟨lRow Row.row, lRow_inj Row.rinj⟩
instance : Im Int Int := ⟨fun x => x, fun h => h⟩
instance : Im Bool Bool := ⟨fun x => x, fun h => h⟩
instance : Im ByteArray ByteArray := ⟨fun x => x, fun h => h⟩
instance : Im Unit Unit := ⟨fun x => x, fun h => h⟩
instance {α : Type} [Row α] : Im (List α) (List (List L)) := ⟨fun x => x.map Row.row, fun h => map_inj Row.rinj h⟩
instance {α α' β β' : Type} [Im α α'] [Im β β'] : Im (α × β) (α' × β') := ⟨fun x => (Im.im x.1, Im.im x.2), fun h => Prod.ext (Im.inj (congrArg (fun x => x.1) h)) (Im.inj (congrArg (fun x => x.2) h))⟩
def u2 {a b r : Type} (f : a → b → r) (x : a × b) : r := f x.1 x.2
def u3 {a b c r : Type} (f : a → b → c → r) (x : a × b × c) : r := f x.1 x.2.1 x.2.2
def u5 {a b c d e r : Type} (f : a → b → c → d → e → r) (x : a × b × c × d × e) : r := f x.1 x.2.1 x.2.2.1 x.2.2.2.1 x.2.2.2.2
def u7 {a b c d e g h r : Type} (f : a → b → c → d → e → g → h → r) (x : a × b × c × d × e × g × h) : r := f x.1 x.2.1 x.2.2.1 x.2.2.2.1 x.2.2.2.2.1 x.2.2.2.2.2.1 x.2.2.2.2.2.2
def p2 {a b : Type} (f : a → b → Prop) (x : a × b) : Prop := f x.1 x.2
def p3 {a b c : Type} (f : a → b → c → Prop) (x : a × b × c) : Prop := f x.1 x.2.1 x.2.2
def p4 {a b c d : Type} (f : a → b → c → d → Prop) (x : a × b × c × d) : Prop := f x.1 x.2.1 x.2.2.1 x.2.2.2
def p5 {a b c d e : Type} (f : a → b → c → d → e → Prop) (x : a × b × c × d × e) : Prop := f x.1 x.2.1 x.2.2.1 x.2.2.2.1 x.2.2.2.2
section
variable {A A' B B' : Type} [Im A A'] [Im B B'] {g : A → Prop} {m : A → B}
def RR (g : A → Prop) (m : A → B) (x : A') : Option B' := ofM Im.im g (fun a => Im.im (m a)) x
theorem RR_eq {a : A} (h : g a) : RR g m (Im.im a) = some (Im.im (m a)) := ofM_eq (fun _ _ h => Im.inj h) h
def CN [RT B'] (ps : List Pat) (r : RP) (acc : List L → A') (R : A' → Option B') : Con := ⟨ps, r, fun ls => (R (acc ls)).map RT.enc⟩
theorem VP [RT B'] {X : Type} {P : Program} {T : List (Nat × TI)} {G : List (Nat × Con)} {nt : Nat} {f : FuncId} {fn : Func} {ps : List Pat} {r : RP} {acc : List L → A'} {accr : List L → X} {live : Nat → Live} {run : Nat → X → Ans}
  (hm : P.follows .mixedOrders = true) (hT : tableB P T = true) (hG : AllV P (Env0 T) G) (hf : P.funcs[f]? = some fn) (hb : fnB fn (CN ps r acc (RR g m)) nt = true)
  (hrun : ∀ n ls, runF { T := assoc T, G := conG G, nt := nt } live fn r n (initS ps ls) = run n (accr ls))
  (hok : ∀ ls a, LOKs (Env0 T).cells ps ls → acc ls = Im.im a → g a → ∃ n, run n (accr ls) = ret (Im.im (m a))) : Valid P (Env0 T) f (CN ps r acc (RR g m)) :=
 valid hm hT hG hf hb live fun ls q hl h => by
  obtain ⟨v, hv, hq⟩ := map_some h
  obtain ⟨a, hg, e, hm⟩ := ofM_some hv
  obtain ⟨n, hn⟩ := hok ls a hl e.symm hg
  exact ⟨n, (hrun n ls).trans (hn.trans (by rw [← hq, ← hm]; rfl))⟩
theorem VV [RT B'] {P : Program} {T : List (Nat × TI)} {G : List (Nat × Con)} {nt : Nat} {f : FuncId} {fn : Func} {ps : List Pat} {r : RP} {acc : List L → A'} {live : Nat → Live} {run : Nat → A' → Ans}
  (hm : P.follows .mixedOrders = true) (hT : tableB P T = true) (hG : AllV P (Env0 T) G) (hf : P.funcs[f]? = some fn) (hb : fnB fn (CN ps r acc (RR g m)) nt = true)
  (hrun : ∀ n ls, runF { T := assoc T, G := conG G, nt := nt } live fn r n (initS ps ls) = run n (acc ls))
  (hok : ∀ ls a, LOKs (Env0 T).cells ps ls → acc ls = Im.im a → g a → ∃ n, run n (Im.im a) = ret (Im.im (m a))) : Valid P (Env0 T) f (CN ps r acc (RR g m)) :=
 VP hm hT hG hf hb hrun fun ls a hl e hg => by rw [e]; exact hok ls a hl e hg
theorem VS [RT B'] {P : Program} {T : List (Nat × TI)} {G : List (Nat × Con)} {S : List (Nat × MCon)} {nt : Nat} {f : FuncId} {fn : Func} {ps : List Pat} {r : RP} {acc : List L → A'} {live : Nat → Live} {run : Nat → A' → Ans}
  (hm : P.follows .mixedOrders = true) (hT : tableB P T = true) (hG : AllV P (Env0 T) G) (hS : AllM P (Env0 T) S) (hf : P.funcs[f]? = some fn) (hb : fnB fn (CN ps r acc (RR g m)) nt = true)
  (hrun : ∀ n ls, runF { T := assoc T, G := conG G, nt := nt, M := conM S } live fn r n (initS ps ls) = run n (acc ls))
  (hok : ∀ ls a, LOKs (Env0 T).cells ps ls → acc ls = Im.im a → g a → ∃ n, run n (Im.im a) = ret (Im.im (m a))) : Valid P (Env0 T) f (CN ps r acc (RR g m)) :=
 valid_m hm hT hG hS hf hb live fun ls q hl h => by
  obtain ⟨v, hv, hq⟩ := map_some h
  obtain ⟨a, hg, e, hm⟩ := ofM_some hv
  obtain ⟨n, hn⟩ := hok ls a hl e.symm hg
  exact ⟨n, (hrun n ls).trans (by rw [← e]; exact hn.trans (by rw [← hq, ← hm]; rfl))⟩
theorem VT [RT B'] {P : Program} {T : List (Nat × TI)} {G : List (Nat × Con)} {S : List (Nat × MCon)} {nt : Nat} {f : FuncId} {fn : Func} {ps : List Pat} {r : RP} {acc : List L → A'} {live : Nat → Live} {run : Nat → A' → Ans}
  (hm : P.follows .mixedOrders = true) (hT : tableB P T = true) (hG : AllV P (Env0 T) G) (hS : AllM P (Env0 T) S) (hf : P.funcs[f]? = some fn) (hb : fnB fn (CN ps r acc (RR g m)) nt = true)
  (hrun : ∀ n ls, runF { T := assoc T, G := conG G, nt := nt, M := conM S, mt := true } live fn r n (initS ps ls) = run n (acc ls))
  (hok : ∀ ls a, LOKs (Env0 T).cells ps ls → acc ls = Im.im a → g a → ∃ n, run n (Im.im a) = ret (Im.im (m a))) : Valid P (Env0 T) f (CN ps r acc (RR g m)) :=
 valid_m hm hT hG hS hf hb live fun ls q hl h => by
  obtain ⟨v, hv, hq⟩ := map_some h
  obtain ⟨a, hg, e, hm⟩ := ofM_some hv
  obtain ⟨n, hn⟩ := hok ls a hl e.symm hg
  exact ⟨n, (hrun n ls).trans (by rw [← e]; exact hn.trans (by rw [← hq, ← hm]; rfl))⟩
def MN [RT B'] (ps : List (Bool × List K)) (acc : List L → A') (R : A' → Option B') : MCon := ⟨ps, fun ls => (R (acc ls)).map RT.enc⟩
theorem MV [RT B'] {P : Program} {T : List (Nat × TI)} {G : List (Nat × Con)} {S : List (Nat × MCon)} {nt : Nat} {f : FuncId} {fn : Func} {ps : List (Bool × List K)} {acc : List L → A'} {live : Nat → Live} {run : Nat → A' → Ans}
  (hm : P.follows .mixedOrders = true) (hT : tableB P T = true) (hG : AllV P (Env0 T) G) (hS : AllM P (Env0 T) S) (hf : P.funcs[f]? = some fn) (hb : mfnB fn (MN ps acc (RR g m)) nt = true)
  (hrun : ∀ n ls, runF { T := assoc T, G := conG G, nt := nt, M := conM S, np := (slPs ps).length, mt := true } live fn (.chg (slPs ps)) n (initM ps ls) = run n (acc ls))
  (hok : ∀ ls a, LOKm (Env0 T).cells ps ls → acc ls = Im.im a → g a → ∃ n, run n (Im.im a) = ret (Im.im (m a))) : MValid P (Env0 T) f (MN ps acc (RR g m)) :=
 mvalid hm hT hG hS hf hb live fun ls q hl h => by
  obtain ⟨v, hv, hq⟩ := map_some h
  obtain ⟨a, hg, e, hm⟩ := ofM_some hv
  obtain ⟨n, hn⟩ := hok ls a hl e.symm hg
  exact ⟨n, (hrun n ls).trans (by rw [← e]; exact hn.trans (by rw [← hq, ← hm]; rfl))⟩
theorem beq_t (n : Nat) : (Nat.beq n n && true) = true := by rw [Nat.beq_refl]; rfl
end
theorem S0 : (∀ (α β : Type) (f : α → β) (l : List α), (l.map f).length = l.length) ∧ (∀ n : Nat, Int.toNat (n : Int) = n) ∧ (∀ s : ByteArray, bytesL s = (bytesI s).map iRow) ∧ (∀ (xs : List Int) i, iAt (xs.map iRow) i = xs.getD i 0) ∧
  (∀ (xs : List Bool) i, bAt (xs.map bRow) i = xs.getD i false) ∧ (∀ (xs : List ByteArray) i, sAt (xs.map sRow) i = xs.getD i ⟨#[]⟩) ∧ (∀ (α : Type) (f : α → List L) (xs : List (List α)) i, lAt (xs.map (lRow f)) i = (xs.getD i []).map f) :=
 ⟨fun _ _ _ _ => List.length_map .., toNat_nat, bytesL_map, fun _ _ => iAt_getD, fun _ _ => bAt_getD, fun _ _ => sAt_getD, fun _ _ _ _ => lAt_getD⟩
theorem MP : (∀ (α β : Type) (f : α → β) (a b : List α), (a ++ b).map f = a.map f ++ b.map f) ∧ (∀ (α β : Type) (f : α → β) (a : α) (b : List α), (a :: b).map f = f a :: b.map f) ∧ (∀ (α β : Type) (f : α → β), [].map f = []) ∧
  (∀ (α : Type) (a : α) (b c : List α), (a :: b) ++ c = a :: (b ++ c)) ∧ (∀ (α : Type) (c : List α), [] ++ c = c) ∧ (∀ n, iRow n = [.int n]) ∧ (∀ n, bRow n = [.bool n]) ∧ (∀ n, sRow n = [.str n]) ∧ (∀ (α : Type) (f : α → List L) (c : List α), lRow f c = [.sl (c.map f)]) ∧
  (∀ (α β : Type) (f : α → β) (l : List α) (i : Nat) (a : α), (l.set i a).map f = (l.map f).set i (f a)) :=
 ⟨fun _ _ _ _ _ => List.map_append .., fun _ _ _ _ _ => rfl, fun _ _ _ => rfl, fun _ _ _ _ => rfl, fun _ _ => rfl, fun _ => rfl, fun _ => rfl, fun _ => rfl, fun _ _ _ => rfl, fun _ _ _ _ _ _ => List.map_set ..⟩
theorem LN : (∀ (a : Nat) (l : List Nat), (a :: l).sum = a + l.sum) ∧ (([] : List Nat).sum = 0) ∧ (∀ (α β : Type) (f : α → β) (a : α) (b : List α), (a :: b).map f = f a :: b.map f) ∧ (∀ (α β : Type) (f : α → β), [].map f = []) ∧ (∀ s, (bytesI s).length = s.size) ∧ (∀ s, (bytesL s).length = s.size) ∧
  (∀ (α : Type) (a b : List α), (a ++ b).length = a.length + b.length) ∧ (∀ (α : Type) (a : α) (b : List α), (a :: b).length = b.length + 1) ∧ (∀ (α : Type), ([] : List α).length = 0) ∧ (∀ (α β : Type) (f : α → β) (l : List α), (l.map f).length = l.length) ∧
  (∀ (α : Type) (l : List α) (i : Nat) (a : α), (l.set i a).length = l.length) ∧ (∀ (α : Type) (n : Nat) (a : α), (List.replicate n a).length = n) ∧ (∀ (α : Type) (l : List α) (i : Nat), (l.take i).length = min i l.length) ∧ (∀ (α : Type) (l : List α) (i : Nat), (l.drop i).length = l.length - i) :=
 ⟨fun _ _ => List.sum_cons, rfl, fun _ _ _ _ _ => rfl, fun _ _ _ => rfl, bytesI_length, bytesL_length, fun _ _ _ => List.length_append .., fun _ _ _ => rfl, fun _ => rfl, fun _ _ _ _ => List.length_map .., fun _ _ _ _ => List.length_set .., fun _ _ _ => List.length_replicate .., fun _ _ _ => List.length_take .., fun _ _ _ => List.length_drop ..⟩
theorem DC : (∀ (α : Type) [BEq α] [LawfulBEq α] (a b : α), ((a != b) = false) = (a = b)) ∧ (∀ (α : Type) [BEq α] [LawfulBEq α] (a b : α), ((a != b) = true) = ¬ (a = b)) ∧ (∀ (α : Type) [BEq α] [LawfulBEq α] (a b : α), ((a == b) = true) = (a = b)) ∧ (∀ (α : Type) [BEq α] [LawfulBEq α] (a b : α), ((a == b) = false) = ¬ (a = b)) ∧
  (∀ b : Bool, ((!b) = true) = (b = false)) ∧ (∀ b : Bool, ((!b) = false) = (b = true)) ∧ (∀ (p : Prop) [Decidable p], (decide p = true) = p) ∧ (∀ (p : Prop) [Decidable p], (decide p = false) = ¬ p) :=
 ⟨fun _ _ _ _ _ => by simp, fun _ _ _ _ _ => by simp, fun _ _ _ _ _ => by simp, fun _ _ _ _ _ => by simp, fun b => by simp, fun b => by simp, fun p _ => by simp, fun p _ => by simp⟩
theorem wi (n : Int) (h : -9223372036854775808 ≤ n ∧ n ≤ 9223372036854775807) : IntKind.i64.wrap n = n := Go.IntWalk.i64_in n h
end Go.DM
namespace Go.DM
def I64 (n : Int) : Prop := -9223372036854775808 ≤ n ∧ n ≤ 9223372036854775807
theorem wrap_I64 (n : Int) : I64 (IntKind.i64.wrap n) := by rw [IntKind.wrap_i64]; unfold I64; omega
end Go.DM
namespace Go.DM
def accM {α β : Type} (f : α → Int → Int × β) : List α → Int → Int × List β
 | [], k => (k, [])
 | x :: xs, k => ((accM f xs (f x k).1).1, (f x k).2 :: (accM f xs (f x k).1).2)
theorem accM_I {α β : Type} {f : α → Int → Int × β} {I : Int → Prop} (h : ∀ x k, I k → I (f x k).1) : ∀ {xs : List α} {k : Int}, I k → I (accM f xs k).1
 | [], _, hk => hk
 | x :: xs, k, hk => accM_I h (xs := xs) (h x k hk)
theorem drop_set_succ {α : Type} {c : List α} {i : Nat} {y : α} : (c.set i y).drop (i + 1) = c.drop (i + 1) := by
 apply List.ext_getElem?
 intro j
 rw [List.getElem?_drop, List.getElem?_drop, List.getElem?_set, if_neg (by omega)]
theorem mark_loop {Pt α : Type} {step : (Pt → Ans) → Pt → Ans} {pt : Nat → Int → List α → Pt} {el : α → Int → Int × α} {out : Int × List α → Ans} {xs : List α} (z : α) (I : Int → Prop) (hI : ∀ x k, I k → I (el x k).1)
  (h1 : ∀ (J : Pt → Ans) (i : Nat) (k : Int) (c : List α), i < c.length → c.length = xs.length → I k → step J (pt i k c) = J (pt (i + 1) (el (c.getD i z) k).1 (c.set i (el (c.getD i z) k).2)))
  (h0 : ∀ (J : Pt → Ans) (k : Int) (c : List α), c.length = xs.length → step J (pt c.length k c) = out (k, c)) {k : Int} (hk : I k) : ∃ m, iter step m (pt 0 k xs) = out (accM el xs k) := by
 have key : ∀ (n i : Nat) (c : List α) (k : Int), i + n = c.length → c.length = xs.length → I k → ∃ m, iter step m (pt i k c) = out ((accM el (c.drop i) k).1, c.take i ++ (accM el (c.drop i) k).2) := by
  intro n
  induction n with
  | zero =>
   intro i c k hi hc hk
   have : i = c.length := by omega
   subst this
   refine ⟨1, (h0 _ k c hc).trans ?_⟩
   rw [List.drop_eq_nil_of_le (Nat.le_refl _), List.take_of_length_le (Nat.le_refl _)]
   simp [accM]
  | succ n ih =>
   intro i c k hi hc hk
   have hlt : i < c.length := by omega
   obtain ⟨m, hm⟩ := ih (i + 1) (c.set i (el (c.getD i z) k).2) (el (c.getD i z) k).1 (by simp; omega) (by simp [hc]) (hI _ _ hk)
   refine ⟨m + 1, (h1 _ i k c hlt hc hk).trans (hm.trans ?_)⟩
   rw [drop_set_succ, take_set hlt, List.drop_eq_getElem_cons hlt, getD_lt hlt]
   simp [accM]
 have := key xs.length 0 xs k (by omega) rfl hk
 simpa using this
def heldM {α : Type} (f : α → Int → Option Int) : List α → Int → Int
 | [], k => k
 | x :: xs, k => match f x k with
  | some k' => heldM f xs k'
  | none => -1
def heldK : Option Int → (Int → Ans) → Ans
 | none, _ => ret (-1 : Int)
 | some k, K => K k
theorem held_bif {c : Bool} {x y : Ans} {r : Option Int} {K : Int → Ans} (h1 : x = ret (-1 : Int)) (h2 : y = heldK r K) : (bif c then x else y) = heldK (bif c then none else r) K := by
  cases c
  · exact h2
  · exact h1
theorem held_loop {Pt α : Type} {step : (Pt → Ans) → Pt → Ans} {pt : Nat → Int → Pt} {f : α → Int → Option Int} {xs : List α} (z : α) (I : Int → Prop) (hI : ∀ x k k', I k → f x k = some k' → I k')
  (h1 : ∀ (J : Pt → Ans) (i : Nat) (k : Int), i < xs.length → I k → step J (pt i k) = heldK (f (xs.getD i z) k) (fun k' => J (pt (i + 1) k')))
  (h0 : ∀ (J : Pt → Ans) (k : Int), step J (pt xs.length k) = ret k) {k : Int} (hk : I k) : ∃ m, iter step m (pt 0 k) = ret (heldM f xs k) := by
 have key : ∀ (n i : Nat) (k : Int), i + n = xs.length → I k → ∃ m, iter step m (pt i k) = ret (heldM f (xs.drop i) k) := by
  intro n
  induction n with
  | zero =>
   intro i k hi hk
   have : i = xs.length := by omega
   subst this
   refine ⟨1, (h0 _ k).trans ?_⟩
   rw [List.drop_eq_nil_of_le (Nat.le_refl _)]; rfl
  | succ n ih =>
   intro i k hi hk
   have hlt : i < xs.length := by omega
   rw [List.drop_eq_getElem_cons hlt]
   have h := fun J => h1 J i k hlt hk
   rw [getD_lt hlt] at h
   unfold heldM
   cases hf : f xs[i] k with
   | none => refine ⟨1, (h _).trans ?_⟩; rw [hf]; rfl
   | some k' =>
    obtain ⟨m, hm⟩ := ih (i + 1) k' (by omega) (hI _ _ _ hk hf)
    refine ⟨m + 1, (h _).trans ?_⟩
    rw [hf]; exact hm
 have := key xs.length 0 k (by omega) hk
 simpa using this
theorem bif_some {c : Bool} {r : Option Int} {k : Int} (h : (bif c then none else r) = some k) : r = some k := by
  cases c
  · exact h
  · cases h
def heldO : Option Int → Int
 | none => -1
 | some k => k
theorem held_bif_ret {c : Bool} {x y : Ans} {r : Option Int} (h1 : x = ret (-1 : Int)) (h2 : y = ret (heldO r)) : (bif c then x else y) = ret (heldO (bif c then none else r)) := by
  cases c
  · exact h2
  · exact h1
theorem heldM_I {α : Type} {f : α → Int → Option Int} {I : Int → Prop} (hI : ∀ x k k', I k → f x k = some k' → I k') (hn : I (-1)) : ∀ {xs : List α} {k : Int}, I k → I (heldM f xs k)
 | [], _, hk => hk
 | x :: xs, k, hk => by
  unfold heldM
  cases hf : f x k with
  | none => exact hn
  | some k' => exact heldM_I hI hn (hI _ _ _ hk hf)
theorem accM_sum {α : Type} {el : α → Int → Int × α} {cnt : α → Nat} (h : ∀ x k, 0 ≤ k → k + (cnt x : Int) ≤ 4611686018427387904 → (el x k).1 = k + cnt x) :
  ∀ (xs : List α) (k : Int), 0 ≤ k → k + ((xs.map cnt).sum : Int) ≤ 4611686018427387904 → (accM el xs k).1 = k + (xs.map cnt).sum
 | [], k, _, _ => by simp [accM]
 | x :: xs, k, h0, hb => by
  simp only [List.map_cons, List.sum_cons, Int.natCast_add] at hb ⊢
  have e1 := h x k h0 (by omega)
  have e3 := accM_sum h xs (k + cnt x) (by omega) (by omega)
  simp only [accM, e1]
  rw [e3]; omega
theorem held_mark {α : Type} {el : α → Int → Int × α} {f : α → Int → Option Int} {cnt : α → Nat} (h : ∀ x k, 0 ≤ k → k + (cnt x : Int) ≤ 4611686018427387904 → (el x k).1 = k + cnt x)
  (h2 : ∀ x k, 0 ≤ k → k + (cnt x : Int) ≤ 4611686018427387904 → f (el x k).2 k = some (k + cnt x)) :
  ∀ (xs : List α) (k : Int), 0 ≤ k → k + ((xs.map cnt).sum : Int) ≤ 4611686018427387904 → heldM f (accM el xs k).2 k = k + (xs.map cnt).sum
 | [], k, _, _ => by simp [accM, heldM]
 | x :: xs, k, h0, hb => by
  simp only [List.map_cons, List.sum_cons, Int.natCast_add] at hb ⊢
  have e1 := h x k h0 (by omega)
  have e2 := h2 x k h0 (by omega)
  have e4 := held_mark h h2 xs (k + cnt x) (by omega) (by omega)
  simp only [accM, heldM, e1, e2]
  rw [e4]; omega
theorem sum_le {α : Type} {cnt f : α → Nat} (h : ∀ x, cnt x ≤ 60 + 60 * f x) : ∀ xs : List α, (xs.map cnt).sum ≤ 60 * szL f xs
 | [] => by simp
 | x :: xs => by
  have h1 := h x
  have h2 := sum_le h xs
  unfold szL at h2 ⊢
  simp only [List.map_cons, List.sum_cons, List.length_cons]
  omega
theorem szL_getD {α : Type} {f : α → Nat} {xs : List α} {i : Nat} {z : α} (h : i < xs.length) : f (xs.getD i z) ≤ szL f xs := by
 rw [getD_lt h]
 have := szL_mem (f := f) (List.getElem_mem h)
 unfold szL
 omega
theorem szL_get0 {α : Type} {f : α → Nat} {xs : List α} {i : Nat} {z : α} (hz : f z = 0) : f (xs.getD i z) ≤ szL f xs := by
  by_cases h : i < xs.length
  · exact szL_getD h
  · rw [List.getD_eq_getElem?_getD, List.getElem?_eq_none (by omega)]
    show f z ≤ _
    omega
theorem SmL.set {α : Type} {n : Nat} {p : α → Prop} {xs : List α} {i : Nat} {y : α} (h : SmL n p xs) (g : p y) : SmL n p (xs.set i y) :=
 ⟨by rw [List.length_set]; exact h.1, fun x hx => (List.mem_or_eq_of_mem_set hx).elim (h.2 x) fun e => e ▸ g⟩
theorem SmL.app {α : Type} {n a b : Nat} {p : α → Prop} {xs ys : List α} (h : SmL a p xs) (g : SmL b p ys) (hn : a + b ≤ n) : SmL n p (xs ++ ys) :=
 ⟨by rw [List.length_append]; have := h.1; have := g.1; omega, fun x hx => (List.mem_append.1 hx).elim (h.2 x) (g.2 x)⟩
theorem SmL.one {α : Type} {p : α → Prop} {y : α} (h : p y) : SmL 1 p [y] := ⟨Nat.le_refl _, fun x hx => by rw [List.mem_singleton.1 hx]; exact h⟩
theorem I64_neg : I64 (-1) := ⟨by decide, by decide⟩
theorem I64_one : I64 1 := ⟨by decide, by decide⟩
end Go.DM

end
