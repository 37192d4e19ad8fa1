/- A small machine over the translated code, and the proof that what it computes the code does. Conditions: none. -/
import Derived.Test.YtnhiemkmfbllfaaGreatLookUpDc
import Derived.ChangeArms
import Derived.Deep.Slices
import Derived.DataReads
import Derived.Carry
import Derived.ChangeOld
import Derived.WideShapes
import Derived.ChangeShapes
import Derived.IntWalk
set_option linter.all false
noncomputable section
set_option linter.unusedSectionVars false
namespace Go.DM
def assoc {α : Type} : List (Nat × α) → Nat → Option α
 | [], _ => none
 | (k, v) :: l, i => bif Nat.beq k i then some v else assoc l i
theorem lu {α : Type} : ∀ {l : List (Nat × α)} {i : Nat} {v : α}, assoc l i = some v → (i, v) ∈ l
  | [], i, v, h => by cases h
  | (k, u) :: l, i, v, h => by
    simp only [assoc] at h
    cases hb : Nat.beq k i <;> simp only [hb, cond_true, cond_false] at h
    · exact List.mem_cons_of_mem _ (lu h)
    · injection h with h; rw [Nat.eq_of_beq_eq_true hb, h]; simp
def tj : Value → K → Bool
 | .int a n, .int b => gb a b && decide (n = 0)
 | .bool b, .bool => !b
 | .string ⟨⟨[]⟩⟩, .str => true
 | .slice none 0 0, .sl _ => true
 | _, _ => false
theorem ui {v : Value} {k : K} (h : tj v k = true) : v = hU k := by
  unfold tj at h
  split at h
  · simp only [Bool.and_eq_true, decide_eq_true_eq] at h
    obtain ⟨h1, rfl⟩ := h
    rw [ft h1]; rfl
  · simp at h; subst h; rfl
  · rfl
  · rfl
  · cases h
def pg : List Value → List K → Bool
 | [], [] => true
 | v :: vs, k :: ks => tj v k && pg vs ks
 | _, _ => false
theorem oF : ∀ {vs : List Value} {ks : List K}, pg vs ks = true → vs = ks.map hU
 | [], [], _ => rfl
 | [], _ :: _, h => by cases h
 | _ :: _, [], h => by cases h
 | v :: vs, k :: ks, h => by
  simp only [pg, Bool.and_eq_true] at h
  rw [ui h.1, oF h.2]; rfl
def iO (P : Program) (T : Nat → Option TI) : List Field → List (Nat × Nat) → Nat → List K → Bool
 | [], [], _, [] => true
 | f :: fs, p :: ps, o, ks => Nat.beq f.offset p.1 && (Nat.beq f.type p.2 && (Nat.beq p.1 o && (match P.info? f.type with
  | some fi => match T p.2 with
   | some ti => Nat.beq fi.size ti.cells.length && (mI (ks.take ti.cells.length) ti.cells && iO P T fs ps (o + ti.cells.length) (ks.drop ti.cells.length))
   | none => false
  | none => false)))
 | _, _, _, _ => false
theorem gA {P : Program} {E : Env} : ∀ {fs : List Field} {ps : List (Nat × Nat)} {o : Nat} {ks : List K}, iO P E.T fs ps o ks = true →
    ∃ places, fs.mapM (fun f => (P.info? f.type).map fun i => (f.offset, i.size)) = some places ∧ fs.length = ps.length ∧
      ∀ (j : Nat) (p : Nat × Nat), ps[j]? = some p → ∃ f ti, fs[j]? = some f ∧ f.offset = p.1 ∧ f.type = p.2 ∧ E.T p.2 = some ti ∧ places[j]? = some (p.1, (E.cells p.2).length) ∧ o ≤ p.1 ∧ P.cellsOf f.type = ti.cells.length ∧ (∀ l kk, ti.cells[l]? = some kk → ks[p.1 - o + l]? = some kk) ∧ p.1 - o + ti.cells.length ≤ ks.length
  | [], [], o, [], _ => ⟨[], by simp, rfl, fun j p hp => by simp at hp⟩
  | [], [], o, _ :: _, h => by cases h
  | [], _ :: _, o, ks, h => by cases h
  | _ :: _, [], o, ks, h => by cases h
  | f :: fs, p :: ps, o, ks, h => by
    simp only [iO, Bool.and_eq_true] at h
    obtain ⟨h1, h2, h3, h4⟩ := h
    split at h4
    · rename_i fi hfi
      split at h4
      · rename_i ti hti
        simp only [Bool.and_eq_true] at h4
        obtain ⟨h5, h6, h7⟩ := h4
        obtain ⟨places, g1, g2, g3⟩ := gA h7
        have e1 := Nat.eq_of_beq_eq_true h1
        have e2 := Nat.eq_of_beq_eq_true h2
        have e3 := Nat.eq_of_beq_eq_true h3
        have e5 := Nat.eq_of_beq_eq_true h5
        have e6 := mN h6
        have hsz : fi.size = (E.cells p.2).length := by simp [Env.cells, hti, e5]
        have hlen : ti.cells.length ≤ ks.length := by rw [← e6, List.length_take]; exact Nat.min_le_right _ _
        refine ⟨(f.offset, fi.size) :: places, by simp [hfi, g1], by simp [g2], fun j q hq => ?_⟩
        cases j with
        | zero =>
          simp at hq
          subst hq
          refine ⟨f, ti, rfl, e1, e2, hti, by simp [e1, hsz], by omega, by simp [Program.cellsOf, hfi, e5], fun l kk hl => ?_, by omega⟩
          have : (ks.take ti.cells.length)[l]? = some kk := by rw [e6]; exact hl
          rw [List.getElem?_take] at this
          rw [show p.1 - o + l = l by omega]
          split at this
          · exact this
          · cases this
        | succ j =>
          obtain ⟨f', ti', q1, q2, q3, q4, q5, q6, q7, q8, q9⟩ := g3 j q (by simpa using hq)
          refine ⟨f', ti', by simpa using q1, q2, q3, q4, by simpa using q5, by omega, q7, fun l kk hl => ?_, ?_⟩
          · have := q8 l kk hl
            rw [List.getElem?_drop] at this
            rw [← this]; congr 1; omega
          · rw [List.length_drop] at q9; omega
      · cases h4
    · cases h4
def xY (T : Nat → Option TI) (i : TI) (d : TypeDesc) : Bool :=
 match i.el with
 | some e => match d with
  | .slice e' => Nat.beq e e' && (T e).isSome
  | _ => false
 | none => true
def rY (i : TI) (d : TypeDesc) : Bool :=
 i.agg || (match i.cells with
  | [.int k] => (match d with | .int k' => gb k k' | _ => false)
  | [.bool] => (match d with | .bool => true | _ => false)
  | [.str] => (match d with | .string => true | _ => false)
  | [.sl e] => (match d with | .slice e' => Nat.beq e e' | _ => false)
  | _ => false)
def vG (P : Program) (k : K) (t : Nat) : Bool :=
 match P.underlying t with
 | some (.int ik) => (match k with | .int jk => gb jk ik | _ => false)
 | some .bool => (match k with | .bool => true | _ => false)
 | some .string => (match k with | .str => true | _ => false)
 | _ => false
def jL (P : Program) : List Field → Nat → List K → Bool
 | [], _, [] => true
 | f :: fs, o, k :: ks => !(f.name == "_") && (Nat.beq f.offset o && (vG P k f.type && jL P fs (o + 1) ks))
 | _, _, _ => false
theorem jr {P : Program} : ∀ {fs : List Field} {o : Nat} {ks : List K}, jL P fs o ks = true → fs.length = ks.length ∧ ∀ (j : Nat) (f : Field), fs[j]? = some f → f.name ≠ "_" ∧ f.offset = o + j ∧ ∃ d', P.underlying f.type = some d' ∧ ((∃ ik, ks[j]? = some (.int ik) ∧ d' = .int ik) ∨ (ks[j]? = some .bool ∧ d' = .bool) ∨ (ks[j]? = some .str ∧ d' = .string))
  | [], o, [], _ => ⟨rfl, fun j f hj => by simp at hj⟩
  | [], o, _ :: _, h => by cases h
  | _ :: _, o, [], h => by cases h
  | f :: fs, o, k :: ks, h => by
    simp only [jL, Bool.and_eq_true, Bool.not_eq_true'] at h
    obtain ⟨h1, h2, h3, h4⟩ := h
    obtain ⟨g1, g2⟩ := jr h4
    refine ⟨by simp [g1], fun j g hj => ?_⟩
    cases j with
    | zero =>
      simp at hj
      subst hj
      refine ⟨by simpa using h1, Nat.eq_of_beq_eq_true h2, ?_⟩
      unfold vG at h3
      split at h3
      · rename_i ik hu
        split at h3
        · rename_i jk; exact ⟨_, hu, .inl ⟨ik, by simp [ft h3], rfl⟩⟩
        · cases h3
      · rename_i hu
        split at h3
        · exact ⟨_, hu, .inr (.inl ⟨rfl, rfl⟩)⟩
        · cases h3
      · rename_i hu
        split at h3
        · exact ⟨_, hu, .inr (.inr ⟨rfl, rfl⟩)⟩
        · cases h3
      · cases h3
    | succ j =>
      obtain ⟨q1, q2, q3⟩ := g2 j g (by simpa using hj)
      exact ⟨q1, by omega, by simpa using q3⟩
def wK (P : Program) (t : Nat) (i : TI) (d : TypeDesc) : Bool :=
 !i.eqv || (!i.agg || (match d with | .struct fs => !P.stoodInHeld t && (!P.eqGuardType P.depth t && jL P fs.toList 0 i.cells) | _ => false))
def uR (P : Program) (T : Nat → Option TI) (t : Nat) (i : TI) : Bool :=
 match P.info? t with
 | some ii => match P.underlying t with
  | some d => match ii.zero with
   | some z => Nat.beq ii.size i.cells.length && (Nat.beq ii.bytes i.bytes && (Nat.blt 0 i.cells.length && (Nat.blt 0 i.bytes && (pg z.cells.toList i.cells && (
     (cond i.agg (match d with | .struct fs => iO P T fs.toList i.fields 0 i.cells | _ => false) (!fP d && (Nat.beq i.cells.length 1 && i.fields.isEmpty))) && (xY T i d && (rY i d && wK P t i d)))))))
   | none => false
  | none => false
 | none => false
theorem nB {P : Program} {E : Env} {t : Nat} {i : TI} (h : uR P E.T t i = true) : eS P E t i := by
  unfold uR at h
  split at h
  case h_2 => cases h
  rename_i ii hii
  split at h
  case h_2 => cases h
  rename_i d hd
  split at h
  case h_2 => cases h
  rename_i z hz
  simp only [Bool.and_eq_true] at h
  obtain ⟨h1, h2, h3, h4, h5, h6, h7, h8, h9⟩ := h
  refine ⟨ii, d, z, hii, hd, hz, Nat.eq_of_beq_eq_true h1, Nat.eq_of_beq_eq_true h2, Nat.blt_eq.mp h3, Nat.blt_eq.mp h4, oF h5, ?_, ?_, ?_, ?_, ?_, ?_, ?_, ?_, ?_⟩
  · cases ha : i.agg <;> simp only [ha, cond_true, cond_false] at h6
    · simp only [Bool.and_eq_true, Bool.not_eq_true'] at h6; exact h6.1
    · split at h6
      · rfl
      · cases h6
  · intro ha
    simp only [ha, cond_false, Bool.and_eq_true, List.isEmpty_iff] at h6
    exact ⟨Nat.eq_of_beq_eq_true h6.2.1, h6.2.2⟩
  · intro ha
    simp only [ha, cond_true] at h6
    split at h6
    · rename_i fs
      obtain ⟨places, g1, g2, g3⟩ := gA h6
      refine ⟨fs, rfl, fun f p hp => ?_⟩
      obtain ⟨fl, ti, q1, q2, q3, q4, _⟩ := g3 f p hp
      exact ⟨fl, by simpa using q1, q2, q3, ti, q4⟩
    · cases h6
  · intro fs hfs
    subst hfs
    cases ha : i.agg <;> simp only [ha, cond_true, cond_false] at h6
    · simp [fP] at h6
    · obtain ⟨places, g1, g2, g3⟩ := gA h6
      refine ⟨places, g1, fun f p hp => ?_⟩
      obtain ⟨fl, ti, q1, q2, q3, q4, q5, _⟩ := g3 f p hp
      exact q5
  · intro e he
    simp only [xY, he] at h7
    split at h7
    · simp only [Bool.and_eq_true] at h7
      rw [Nat.eq_of_beq_eq_true h7.1]
      refine ⟨rfl, Option.isSome_iff_exists.1 ?_⟩
      rw [← Nat.eq_of_beq_eq_true h7.1]; exact h7.2
    · cases h7
  · intro ha k hk
    simp only [rY, ha, Bool.false_or, hk] at h8
    split at h8
    · rw [ft h8]
    · cases h8
  · intro ha hk
    simp only [rY, ha, Bool.false_or, hk] at h8
    split at h8
    · rfl
    · cases h8
  · intro ha hk
    simp only [rY, ha, Bool.false_or, hk] at h8
    split at h8
    · rfl
    · cases h8
  · intro he ha
    simp only [wK, he, ha, Bool.not_true, Bool.false_or] at h9
    split at h9
    · rename_i fs
      simp only [Bool.and_eq_true, Bool.not_eq_true'] at h9
      obtain ⟨g1, g2⟩ := jr h9.2.2
      exact ⟨fs, rfl, h9.1, h9.2.1, by simpa using g1, fun j f hj => by
        obtain ⟨q1, q2, q3⟩ := g2 j f (by simpa using hj)
        exact ⟨q1, by omega, q3⟩⟩
    · cases h9
def dE (P : Program) (l : List (Nat × TI)) : Bool := l.all fun p => uR P (assoc l) p.1 p.2
theorem lp {P : Program} {l : List (Nat × TI)} {E : Env} (hE : E.T = assoc l) (h : dE P l = true) : ∀ t i, E.T t = some i → eS P E t i := by
 intro t i ht
 rw [hE] at ht
 simp only [dE, List.all_eq_true] at h
 have := h (t, i) (lu ht)
 rw [← hE] at this
 exact nB this
abbrev cR (T : List (Nat × TI)) : Env := { T := assoc T, G := fun _ => [], nt := 0 }
def cK : List (Nat × fe) → Nat → List fe
 | [], _ => []
 | (k, c) :: l, g => bif Nat.beq k g then c :: cK l g else cK l g
inductive fg (P : Program) (E : Env) : List (Nat × fe) → Prop where
 | nil : fg P E []
 | cons {g c l} : Valid P E g c → fg P E l → fg P E ((g, c) :: l)
theorem fg.get {P : Program} {E : Env} : ∀ {l : List (Nat × fe)}, fg P E l → ∀ g c, c ∈ cK l g → Valid P E g c
  | _, .nil, g, c, h => by cases h
  | (k, u) :: l, .cons hv ht, g, c, h => by
    simp only [cK] at h
    cases hb : Nat.beq k g <;> simp only [hb, cond_true, cond_false] at h
    · exact ht.get g c h
    · rcases List.mem_cons.1 h with rfl | h
      · rw [← Nat.eq_of_beq_eq_true hb]; exact hv
      · exact ht.get g c h
theorem fG : ∀ {l : List Nat}, dQ l = true → l.Nodup
 | [], _ => List.nodup_nil
 | a :: l, h => by
  simp only [dQ, Bool.and_eq_true, List.all_eq_true, Bool.not_eq_true'] at h
  refine List.nodup_cons.2 ⟨fun hm => ?_, fG h.2⟩
  have := h.1 a hm
  simp at this
theorem Valid.env {P : Program} {E E' : Env} (he : E.T = E'.T) {g : FuncId} {c : fe} (h : Valid P E g c) : Valid P E' g c := by
 have : E.cells = E'.cells := by funext t; simp [Env.cells, he]
 unfold Valid at *
 rw [← this]; exact h
theorem fg.env {P : Program} {E E' : Env} (he : E.T = E'.T) {l : List (Nat × fe)} (h : fg P E l) : fg P E' l := by
 induction h with
 | nil => exact .nil
 | cons hv _ ih => exact .cons (hv.env he) ih
def oV (fn : Func) (aK : fe) (nt : Nat) : Bool :=
 !(fn.name == "runtime.NumGoroutine") && (fn.body.isSome && (aK.res.qR && (dQ (bU (bo fn)) && Nat.beq (aK.args.length + (fn.ntmps - aK.args.length)) nt)))
def fb : List (Nat × fN) → Nat → List fN
 | [], _ => []
 | (k, c) :: l, g => bif Nat.beq k g then c :: fb l g else fb l g
inductive iU (P : Program) (E : Env) : List (Nat × fN) → Prop where
 | nil : iU P E []
 | cons {g c l} : dR P E g c → iU P E l → iU P E ((g, c) :: l)
theorem iU.get {P : Program} {E : Env} : ∀ {l : List (Nat × fN)}, iU P E l → ∀ g c, c ∈ fb l g → dR P E g c
  | _, .nil, g, c, h => by cases h
  | (k, u) :: l, .cons hv ht, g, c, h => by
    simp only [fb] at h
    cases hb : Nat.beq k g <;> simp only [hb, cond_true, cond_false] at h
    · exact ht.get g c h
    · rcases List.mem_cons.1 h with rfl | h
      · rw [← Nat.eq_of_beq_eq_true hb]; exact hv
      · exact ht.get g c h
theorem dR.env {P : Program} {E E' : Env} (he : E.T = E'.T) {g : FuncId} {c : fN} (h : dR P E g c) : dR P E' g c := by
 have : E.cells = E'.cells := by funext t; simp [Env.cells, he]
 unfold dR at *
 rw [← this]; exact h
theorem iU.env {P : Program} {E E' : Env} (he : E.T = E'.T) {l : List (Nat × fN)} (h : iU P E l) : iU P E' l := by
 induction h with
 | nil => exact .nil
 | cons hv _ ih => exact .cons (hv.env he) ih
theorem se {mt : Bool} {P : Program} {T : List (Nat × TI)} {G : List (Nat × fe)} {S : List (Nat × fN)} {nt : Nat} {g : FuncId} {fn : Func} {aK : fe} (hm : P.follows .mixedOrders = true) (hT : dE P T = true) (hG : fg P (cR T) G) (hS : iU P (cR T) S)
  (hf : P.funcs[g]? = some fn) (hb : oV fn aK nt = true) (live : Nat → Live)
  (h : ∀ ls r, nP (cR T).cells aK.args ls → aK.km ls = some r → ∃ n, ea { T := assoc T, G := cK G, nt := nt, M := fb S, mt := mt } live fn aK.res n (cG aK.args ls) = some r) : Valid P (cR T) g aK := by
 simp only [oV, Bool.and_eq_true, Bool.not_eq_true'] at hb
 obtain ⟨b1, b2, b3, b4, b5⟩ := hb
 obtain ⟨c, hc⟩ := Option.isSome_iff_exists.1 b2
 have hbody : bo fn = c := by simp [bo, hc]
 have hT' : ∀ t i, ({ T := assoc T, G := cK G, nt := nt, M := fb S, mt := mt } : Env).T t = some i → eS P { T := assoc T, G := cK G, nt := nt, M := fb S, mt := mt } t i := lp (E := { T := assoc T, G := cK G, nt := nt, M := fb S, mt := mt }) rfl hT
 have hG' : ∀ g c, c ∈ ({ T := assoc T, G := cK G, nt := nt, M := fb S, mt := mt } : Env).G g → Valid P { T := assoc T, G := cK G, nt := nt, M := fb S, mt := mt } g c := (fg.env (E := cR T) (E' := { T := assoc T, G := cK G, nt := nt, M := fb S, mt := mt }) rfl hG).get
 have hS' : ∀ g c, c ∈ ({ T := assoc T, G := cK G, nt := nt, M := fb S, mt := mt } : Env).M g → dR P { T := assoc T, G := cK G, nt := nt, M := fb S, mt := mt } g c := (iU.env (E := cR T) (E' := { T := assoc T, G := cK G, nt := nt, M := fb S, mt := mt }) rfl hS).get
 exact qV (E := { T := assoc T, G := cK G, nt := nt, M := fb S, mt := mt }) hT' hG' ⟨hS', fun _ _ h => (nomatch h)⟩ (fun w0 M Z0 ans => rS hT' hG' ⟨hS', fun _ _ h => (nomatch h)⟩ hm) rfl rfl hf b1 hc b3 (by rw [← hbody]; exact fG b4) (Nat.eq_of_beq_eq_true b5) live h
def ni : List (Nat × mw) → Nat → List mw
 | [], _ => []
 | (k, c) :: l, g => bif Nat.beq k g then c :: ni l g else ni l g
inductive lx (P : Program) (E : Env) : List (Nat × mw) → Prop where
 | nil : lx P E []
 | cons {g c l} : gr P E g c → lx P E l → lx P E ((g, c) :: l)
theorem lx.get {P : Program} {E : Env} : ∀ {l : List (Nat × mw)}, lx P E l → ∀ g c, c ∈ ni l g → gr P E g c
  | _, .nil, g, c, h => by cases h
  | (k, u) :: l, .cons hv ht, g, c, h => by
    simp only [ni] at h
    cases hb : Nat.beq k g <;> simp only [hb, cond_true, cond_false] at h
    · exact ht.get g c h
    · rcases List.mem_cons.1 h with rfl | h
      · rw [← Nat.eq_of_beq_eq_true hb]; exact hv
      · exact ht.get g c h
theorem gr.env {P : Program} {E E' : Env} (he : E.T = E'.T) {g : FuncId} {c : mw} (h : gr P E g c) : gr P E' g c := by
 have : E.cells = E'.cells := by funext t; simp [Env.cells, he]
 unfold gr at *
 rw [← this]; exact h
theorem lx.env {P : Program} {E E' : Env} (he : E.T = E'.T) {l : List (Nat × mw)} (h : lx P E l) : lx P E' l := by
 induction h with
 | nil => exact .nil
 | cons hv _ ih => exact .cons (hv.env he) ih
def wF (fn : Func) : Bool := !(fn.name == "runtime.NumGoroutine") && (fn.body.isSome && dQ (bU (bo fn)))
section
variable {P : Program} {T : List (Nat × TI)} {G : List (Nat × fe)} {S : List (Nat × fN)} {I : List (Nat × mw)} {nt : Nat} {mt : Bool}
theorem vO {g : FuncId} {fn : Func} (hm : P.follows .mixedOrders = true) (hT : dE P T = true) (hG : fg P (cR T) G) (hS : iU P (cR T) S) (hI : lx P (cR T) I)
  (hf : P.funcs[g]? = some fn) (hb : wF fn = true) : gr P (cR T) g (inl { T := assoc T, G := cK G, nt := nt, M := fb S, mt := mt, I := ni I } fn) := by
 simp only [wF, Bool.and_eq_true, Bool.not_eq_true'] at hb
 obtain ⟨b1, b2, b4⟩ := hb
 obtain ⟨c, hc⟩ := Option.isSome_iff_exists.1 b2
 have hbody : bo fn = c := by simp [bo, hc]
 generalize hE : ({ T := assoc T, G := cK G, nt := nt, M := fb S, mt := mt, I := ni I } : Env) = E
 have e1 : E.T = assoc T := by rw [← hE]
 have hS2 : mo P E := ⟨by rw [← hE]; exact (iU.env (E := cR T) rfl hS).get, fun g c h => ⟨by rw [← hE], by rw [← hE] at h ⊢; exact (lx.env (E := cR T) rfl hI).get g c h⟩⟩
 have hT' : ∀ t i, E.T t = some i → eS P E t i := lp e1 hT
 have hG' : ∀ g c, c ∈ E.G g → Valid P E g c := by rw [← hE]; exact (fg.env (E := cR T) rfl hG).get
 exact gr.env (E := E) e1 (sV (by rw [← hE]) hT' hG' hS2 (fun w0 M Z0 ans => rS hT' hG' hS2 hm) hf b1 hc (by rw [← hbody]; exact fG b4))
theorem vi {g : FuncId} {fn : Func} {aK : fe} (hm : P.follows .mixedOrders = true) (hT : dE P T = true) (hG : fg P (cR T) G) (hS : iU P (cR T) S) (hI : lx P (cR T) I)
  (hf : P.funcs[g]? = some fn) (hb : oV fn aK nt = true) (live : Nat → Live)
  (h : ∀ ls r, nP (cR T).cells aK.args ls → aK.km ls = some r → ∃ n, ea { T := assoc T, G := cK G, nt := nt, M := fb S, mt := mt, I := ni I } live fn aK.res n (cG aK.args ls) = some r) : Valid P (cR T) g aK := by
 simp only [oV, Bool.and_eq_true, Bool.not_eq_true'] at hb
 obtain ⟨b1, b2, b3, b4, b5⟩ := hb
 obtain ⟨c, hc⟩ := Option.isSome_iff_exists.1 b2
 have hbody : bo fn = c := by simp [bo, hc]
 generalize hE : ({ T := assoc T, G := cK G, nt := nt, M := fb S, mt := mt, I := ni I } : Env) = E at h
 have e1 : E.T = assoc T := by rw [← hE]
 have hS2 : mo P E := ⟨by rw [← hE]; exact (iU.env (E := cR T) rfl hS).get, fun g c h => ⟨by rw [← hE], by rw [← hE] at h ⊢; exact (lx.env (E := cR T) rfl hI).get g c h⟩⟩
 have hT' : ∀ t i, E.T t = some i → eS P E t i := lp e1 hT
 have hG' : ∀ g c, c ∈ E.G g → Valid P E g c := by rw [← hE]; exact (fg.env (E := cR T) rfl hG).get
 have hcell : (cR T).cells = E.cells := by funext t; simp [Env.cells, e1]
 rw [hcell] at h
 exact qV (E := E) hT' hG' hS2 (fun w0 M Z0 ans => rS hT' hG' hS2 hm) e1 (by rw [← hE]) hf b1 hc b3 (by rw [← hbody]; exact fG b4) (by rw [← hE]; exact Nat.eq_of_beq_eq_true b5) live h
end
def wb (fn : Func) (aK : fN) (nt : Nat) : Bool :=
 !(fn.name == "runtime.NumGoroutine") && (fn.body.isSome && (dQ (bU (bo fn)) && Nat.beq (aK.args.length + (fn.ntmps - aK.args.length)) nt))
theorem wu {P : Program} {T : List (Nat × TI)} {G : List (Nat × fe)} {S : List (Nat × fN)} {nt : Nat} {g : FuncId} {fn : Func} {aK : fN} (hm : P.follows .mixedOrders = true) (hT : dE P T = true) (hG : fg P (cR T) G) (hS : iU P (cR T) S)
  (hf : P.funcs[g]? = some fn) (hb : wb fn aK nt = true) (live : Nat → Live)
  (h : ∀ ls r, uV (cR T).cells aK.args ls → aK.km ls = some r → ∃ n, ea { T := assoc T, G := cK G, nt := nt, M := fb S, np := (iM aK.args).length, mt := true } live fn (.mj (iM aK.args)) n (gm aK.args ls) = some r) : dR P (cR T) g aK := by
 simp only [wb, Bool.and_eq_true, Bool.not_eq_true'] at hb
 obtain ⟨b1, b2, b4, b5⟩ := hb
 obtain ⟨c, hc⟩ := Option.isSome_iff_exists.1 b2
 have hbody : bo fn = c := by simp [bo, hc]
 generalize hE : ({ T := assoc T, G := cK G, nt := nt, M := fb S, np := (iM aK.args).length, mt := true } : Env) = E at h
 have e1 : E.T = assoc T := by rw [← hE]
 have e2 : E.G = cK G := by rw [← hE]
 have e3 : E.M = fb S := by rw [← hE]
 have hT' : ∀ t i, E.T t = some i → eS P E t i := lp e1 hT
 have hG' : ∀ g c, c ∈ E.G g → Valid P E g c := by rw [e2]; exact (fg.env (E := cR T) (E' := E) e1.symm hG).get
 have hS' : ∀ g c, c ∈ E.M g → dR P E g c := by rw [e3]; exact (iU.env (E := cR T) (E' := E) e1.symm hS).get
 have hcell : (cR T).cells = E.cells := by funext t; simp [Env.cells, e1]
 rw [hcell] at h
 have hS2 : mo P E := ⟨hS', fun g c h => by rw [← hE] at h; exact (nomatch h)⟩
 exact sH (E := E) hT' hG' hS2 (fun w0 M Z0 ans => rS hT' hG' hS2 hm) e1 (by rw [← hE]) hf b1 hc (by rw [← hbody]; exact fG b4) (by rw [← hE]; exact Nat.eq_of_beq_eq_true b5) live h
theorem valid {P : Program} {T : List (Nat × TI)} {G : List (Nat × fe)} {nt : Nat} {g : FuncId} {fn : Func} {aK : fe} (hm : P.follows .mixedOrders = true) (hT : dE P T = true) (hG : fg P (cR T) G)
  (hf : P.funcs[g]? = some fn) (hb : oV fn aK nt = true) (live : Nat → Live)
  (h : ∀ ls r, nP (cR T).cells aK.args ls → aK.km ls = some r → ∃ n, ea { T := assoc T, G := cK G, nt := nt } live fn aK.res n (cG aK.args ls) = some r) : Valid P (cR T) g aK :=
 se (S := []) hm hT hG .nil hf hb live h
end Go.DM
set_option linter.unusedSectionVars false
namespace Go.DM
inductive Wf (T : Nat → List K) : K → L → Prop where
 | int (k : IntKind) (n : Int) (h : (Lit.int k n).wf = true) : Wf T (.int k) (.int n)
 | bool (b : Bool) : Wf T .bool (.bool b)
 | str (s : ByteArray) (h : s.size ≤ maxLen) : Wf T .str (.str s)
 | sl (e : Nat) (xs : List (List L)) (h : xs.length ≤ maxLen) (hl : ∀ r ∈ xs, r.length = (T e).length) (hr : ∀ (r : List L) (j : Nat) (kk : K) (l : L), r ∈ xs → (T e)[j]? = some kk → r[j]? = some l → Wf T kk l) : Wf T (.sl e) (.sl xs)
theorem gX {α : Type} {P : Nat → α → Prop} : ∀ (n : Nat), (∀ j, j < n → ∃ x, P j x) → ∃ xs : List α, xs.length = n ∧ ∀ j, j < n → ∃ x, xs[j]? = some x ∧ P j x
  | 0, _ => ⟨[], rfl, fun j h => by omega⟩
  | n + 1, h => by
    obtain ⟨xs, h1, h2⟩ := gX n fun j hj => h j (by omega)
    obtain ⟨x, hx⟩ := h n (by omega)
    refine ⟨xs ++ [x], by simp [h1], fun j hj => ?_⟩
    by_cases hjn : j < n
    · obtain ⟨y, h3, h4⟩ := h2 j hjn
      exact ⟨y, by rw [List.getElem?_append_left (by omega)]; exact h3, h4⟩
    · have : j = n := by omega
      subst this
      exact ⟨x, by rw [← h1]; simp, hx⟩
theorem jZ {P : Program} {T : Nat → Option TI} : ∀ {fs : List Field} {ps : List (Nat × Nat)} {o : Nat} {ks : List K}, iO P T fs ps o ks = true →
    ∀ l, l < ks.length → ∃ (j : Nat) (p : Nat × Nat) (ti : TI), ps[j]? = some p ∧ T p.2 = some ti ∧ o ≤ p.1 ∧ p.1 - o ≤ l ∧ l < p.1 - o + ti.cells.length
  | [], [], o, [], _, l, h => by simp at h
  | [], [], o, _ :: _, h, _, _ => by cases h
  | [], _ :: _, o, ks, h, _, _ => by cases h
  | _ :: _, [], o, ks, h, _, _ => by cases h
  | f :: fs, p :: ps, o, ks, h, l, hl => by
    simp only [iO, Bool.and_eq_true] at h
    obtain ⟨h1, h2, h3, h4⟩ := h
    split at h4
    · rename_i fi hfi
      split at h4
      · rename_i ti hti
        simp only [Bool.and_eq_true] at h4
        obtain ⟨h5, h6, h7⟩ := h4
        have e3 := Nat.eq_of_beq_eq_true h3
        by_cases hlt : l < ti.cells.length
        · exact ⟨0, p, ti, rfl, hti, by omega, by omega, by omega⟩
        · obtain ⟨j, q, tq, g1, g2, g3, g4, g5⟩ := jZ h7 (l - ti.cells.length) (by rw [List.length_drop]; omega)
          exact ⟨j + 1, q, tq, by simpa using g1, g2, by omega, by omega, by omega⟩
      · cases h4
    · cases h4
section
variable {H : Type} {enc : TypeId × Value → H} {P : Program} {w : World} {spare : Nat → Bool} {held : Bool} {E : Env}
theorem uM (hB : ∀ t i, E.T t = some i → uR P E.T t i = true) : ∀ (n : Nat) {t : Nat} {i : TI} {cs : List Value} {x : DataW H × List MemPlace}, E.T t = some i → DataW.trod enc P w 0 spare held n t cs = some x →
    cs.length = i.cells.length ∧ ∀ (j : Nat) (kk : K), i.cells[j]? = some kk → ∃ (l : L) (v : Value), cs[j]? = some v ∧ Rd E.cells w (fun b => b < w.heap.size) kk v l ∧ Wf E.cells kk l := by
  intro n
  induction n with
  | zero => intro t i cs x _ h; simp [DataW.trod] at h
  | succ n ih =>
    intro t i cs x ht h
    have hb := hB t i ht
    obtain ⟨ii, d, z, k1, k2, k3, k4, k5, k6, kby, k7, k8, k9, k10, kpl, k11, k12, nL, nX, k15⟩ := nB (E := E) hb
    cases ha : i.agg with
    | false =>
      obtain ⟨hl1, _⟩ := k9 ha
      match hc : i.cells, hl1 with
      | [.int k], _ =>
        obtain ⟨m, rfl, _, hw⟩ := DataW.trod_int (k12 ha k hc ▸ k2) h
        exact ⟨rfl, fun j kk hj => by
          cases j with
          | zero => simp at hj; subst hj; exact ⟨.int m, _, rfl, Rd.int k (.int m), Wf.int k m hw⟩
          | succ j => simp at hj⟩
      | [.bool], _ =>
        obtain ⟨b, rfl, _⟩ := DataW.trod_bool (nL ha hc ▸ k2) h
        exact ⟨rfl, fun j kk hj => by
          cases j with
          | zero => simp at hj; subst hj; exact ⟨.bool b, _, rfl, Rd.bool (.bool b), Wf.bool b⟩
          | succ j => simp at hj⟩
      | [.str], _ =>
        obtain ⟨s, rfl, _, hs⟩ := DataW.trod_string (nX ha hc ▸ k2) h
        exact ⟨rfl, fun j kk hj => by
          cases j with
          | zero => simp at hj; subst hj; exact ⟨.str s, _, rfl, Rd.str (.str s), Wf.str s hs⟩
          | succ j => simp at hj⟩
      | [.sl e], _ =>
        have hel : i.el = some e := by simp [TI.el, ha, hc]
        obtain ⟨rfl, ie, hie⟩ := k11 e hel
        have hce : P.cellsOf e = ie.cells.length ∧ 0 < ie.cells.length := by
          obtain ⟨ii', d', z', q1, q2, q3, q4, q5, q6, _⟩ := nB (E := E) (hB e ie hie)
          exact ⟨by simp [Program.cellsOf, q1, q4], q6⟩
        have hEe : E.cells e = ie.cells := fh hie
        have fin : ∀ (l : L) (v : Value), cs = [v] → Rd E.cells w (fun b => b < w.heap.size) (.sl e) v l → Wf E.cells (.sl e) l →
            cs.length = [K.sl e].length ∧ ∀ (j : Nat) (kk : K), [K.sl e][j]? = some kk → ∃ (l : L) (v : Value), cs[j]? = some v ∧ Rd E.cells w (fun b => b < w.heap.size) kk v l ∧ Wf E.cells kk l := by
          intro l v hv h1 h2
          subst hv
          exact ⟨rfl, fun j kk hj => by
            cases j with
            | zero => simp at hj; subst hj; exact ⟨l, _, rfl, h1, h2⟩
            | succ j => simp at hj⟩
        rcases DataW.trod_slice k2 h with ⟨hv, _⟩ | ⟨a, len, cap, elems, rest, m, hm, hv, _, hb0, hlc, hcm, hlen, hel', _, _⟩
        · exact fin (.sl []) _ hv (.nil _ _ _ _ rfl) (.sl e [] (by simp) (fun r hr => by cases hr) (fun r j kk l hr => by cases hr))
        · have hm' : m = n := by omega
          subst hm'
          have each : ∀ i', i' < len → ∃ rc : List L × List Value, rc.1.length = ie.cells.length ∧ (∀ j, j < ie.cells.length → w.cell? (a.add (i' * ie.cells.length) |>.add j) = rc.2[j]?) ∧
              ∀ (j : Nat) (kk : K), ie.cells[j]? = some kk → ∃ (l : L) (v : Value), rc.1[j]? = some l ∧ rc.2[j]? = some v ∧ Rd E.cells w (fun b => b < w.heap.size) kk v l ∧ Wf E.cells kk l := by
            intro i' hi'
            have h1 := hel' i' hi'
            rw [List.getElem?_eq_getElem (by omega)] at h1
            obtain ⟨cs', h2, h3⟩ := Option.bind_eq_some_iff.1 h1
            obtain ⟨_, h4, h5⟩ := World.cells?_some h2
            obtain ⟨h6, h7⟩ := ih hie h3
            obtain ⟨row, r1, r2⟩ := gX (P := fun j l => ∃ v, cs'[j]? = some v ∧ ∀ kk, ie.cells[j]? = some kk → Rd E.cells w (fun b => b < w.heap.size) kk v l ∧ Wf E.cells kk l) ie.cells.length (fun j hj => by
              have hk := List.getElem?_eq_getElem hj
              obtain ⟨l, v, e1, e2, e3⟩ := h7 j _ hk
              exact ⟨l, v, e1, fun kk hkk => by rw [hk] at hkk; injection hkk with hkk; subst hkk; exact ⟨e2, e3⟩⟩)
            refine ⟨(row, cs'), r1, fun j hj => ?_, fun j kk hj => ?_⟩
            · rw [hce.1] at h5; exact h5 j (by omega)
            · obtain ⟨l, e1, v, e2, e3⟩ := r2 j (List.getElem?_eq_some_iff.1 hj).1
              exact ⟨l, v, e1, e2, e3 kk hj⟩
          obtain ⟨rows, g1, g2⟩ := gX len each
          have hwf : Wf E.cells (.sl e) (.sl (rows.map (·.1))) := by
            refine .sl e _ (by simp [g1]; omega) (fun r hr => ?_) (fun r j kk l hr hj hl => ?_)
            · obtain ⟨rc, hrc, rfl⟩ := List.mem_map.1 hr
              obtain ⟨i', hi'⟩ := List.getElem?_of_mem hrc
              obtain ⟨rc', h1, h2, _⟩ := g2 i' (by rw [← g1]; exact (List.getElem?_eq_some_iff.1 hi').1)
              rw [hi'] at h1; injection h1 with h1; subst h1
              rw [h2, hEe]
            · obtain ⟨rc, hrc, rfl⟩ := List.mem_map.1 hr
              obtain ⟨i', hi'⟩ := List.getElem?_of_mem hrc
              obtain ⟨rc', h1, h2, _, h3⟩ := g2 i' (by rw [← g1]; exact (List.getElem?_eq_some_iff.1 hi').1)
              rw [hi'] at h1; injection h1 with h1; subst h1
              rw [hEe] at hj
              obtain ⟨l', v, e1, _, _, e3⟩ := h3 j kk hj
              rw [hl] at e1; injection e1 with e1; subst e1
              exact e3
          refine fin (.sl (rows.map (·.1))) _ hv ?_ hwf
          rcases Nat.eq_zero_or_pos len with h0 | hpos
          · subst h0
            exact .nil _ _ _ _ (by simp only [L.aG]; rw [List.eq_nil_of_length_eq_zero g1]; rfl)
          · -- the place
            obtain ⟨rc0, h1, h2, h3, h4⟩ := g2 0 hpos
            have hk0 := List.getElem?_eq_getElem hce.2
            obtain ⟨l0, v0, e1, e2, e3, _⟩ := h4 0 _ hk0
            have hc0 := h3 0 hce.2
            rw [e2] at hc0
            obtain ⟨b, o, spot⟩ := a
            have hspot : spot = none := by simpa [Addr.add] using World.cell?_spot hc0
            subst hspot
            have hblt : b < w.heap.size := by simpa [Addr.add] using block_lt_of_cell hc0
            refine .sl e len cap b o _ (fun i' j => (((rows.getD i' ([], [])).2).getD j Go.undef)) (by simp [L.aG, g1]) hlc (Nat.le_trans hlc hcm) hblt (fun i' j kk hi' hj => ?_) (fun i' j kk hi' hj => ?_)
            · rw [hEe] at hj ⊢
              obtain ⟨rc, q1, q2, q3, q4⟩ := g2 i' hi'
              obtain ⟨l, v, p1, p2, p3, p4⟩ := q4 j kk hj
              have := q3 j (List.getElem?_eq_some_iff.1 hj).1
              rw [p2, Addr.add_lit, Addr.add_lit, Nat.add_assoc] at this
              rw [this]
              simp [List.getD_eq_getElem?_getD, q1, p2]
            · rw [hEe] at hj
              obtain ⟨rc, q1, q2, q3, q4⟩ := g2 i' hi'
              obtain ⟨l, v, p1, p2, p3, p4⟩ := q4 j kk hj
              have e1 : ((rows.getD i' ([], [])).2).getD j Go.undef = v := by simp [List.getD_eq_getElem?_getD, q1, p2]
              have e2 : ((L.sl (rows.map (·.1))).aG.getD i' []).getD j .hole = l := by simp [L.aG, List.getD_eq_getElem?_getD, q1, p1]
              show Rd E.cells w _ kk (((rows.getD i' ([], [])).2).getD j Go.undef) _
              rw [e1, e2]; exact p3
    | true =>
      obtain ⟨fs, rfl, _⟩ := k10 ha
      have hcells : P.cellsOf t = i.cells.length := by simp [Program.cellsOf, k1, k4]
      have hfb : iO P E.T fs.toList i.fields 0 i.cells = true := by
        have hb' := hb
        unfold uR at hb'
        simp only [k1, k2, k3, ha, cond_true, Bool.and_eq_true] at hb'
        exact hb'.2.2.2.2.2.1
      obtain ⟨xs, m, hm, _, hl, hxs, hf⟩ := DataW.trod_struct k2 h
      have hm' : m = n := by omega
      subst hm'
      refine ⟨by rw [hl, hcells], fun j kk hj => ?_⟩
      obtain ⟨f, p, ti, c1, c2, c3, c4, c5⟩ := jZ hfb j (List.getElem?_eq_some_iff.1 hj).1
      obtain ⟨places, _, hfl, hsp⟩ := gA (E := E) hfb
      obtain ⟨fl, ti', q1, q2, q3, q4, q5, q6, q7, q8, q9⟩ := hsp f p c1
      rw [c2] at q4; injection q4 with q4; subst q4
      have hfs : fs[f]? = some fl := by simpa using q1
      have htrod := hf f fl hfs
      have hxl : f < xs.length := by
        rw [hxs]; exact (Array.getElem?_eq_some_iff.1 hfs).1
      rw [List.getElem?_eq_getElem hxl, q3, q2] at htrod
      obtain ⟨_, h2⟩ := ih c2 htrod
      have hkk : ti.cells[j - p.1]? = some kk := by
        have hlt : j - p.1 < ti.cells.length := by omega
        have hg := List.getElem?_eq_getElem hlt
        have := q8 _ _ hg
        rw [show p.1 - 0 + (j - p.1) = j by omega, hj] at this
        rw [hg]; exact this.symm
      obtain ⟨l, v, e1, e2, e3⟩ := h2 (j - p.1) kk hkk
      refine ⟨l, v, ?_, e2, e3⟩
      rw [List.getElem?_take] at e1
      split at e1
      · rw [List.getElem?_drop] at e1
        rw [← e1]; congr 1; omega
      · cases e1
end
end Go.DM
set_option linter.unusedSectionVars false
namespace Go.DM
open Go.ChangeShapes Go.WideShapes Go.RowKit
def lk (T : Nat → Option TI) (t : Nat) : fE := match T t with
 | some i => bif i.agg then .agg i.cells else .rd (i.cells.headD .bool)
 | none => .rd .bool
def rB (T : Nat → Option TI) (ts : List Nat) (km : List L → Option (List L)) : fe := ⟨ts.map (lk T), .one (.rd .bool), km⟩
def cQ (T : Nat → List K) (ks : List K) (ls : List L) : Prop := ls.length = ks.length ∧ ∀ (j : Nat) (k : K), ks[j]? = some k → ∃ l, ls[j]? = some l ∧ Wf T k l
theorem cQ.append {T : Nat → List K} {a b : List K} {x y : List L} (h : cQ T a x) (k : cQ T b y) : cQ T (a ++ b) (x ++ y) := by
  refine ⟨by simp [h.1, k.1], fun j kk hj => ?_⟩
  by_cases hl : j < a.length
  · rw [List.getElem?_append_left hl] at hj
    obtain ⟨l, e1, e2⟩ := h.2 j kk hj
    exact ⟨l, by rw [List.getElem?_append_left (by rw [h.1]; exact hl)]; exact e1, e2⟩
  · rw [List.getElem?_append_right (by omega)] at hj
    obtain ⟨l, e1, e2⟩ := k.2 _ kk hj
    exact ⟨l, by rw [List.getElem?_append_right (by rw [h.1]; omega), h.1]; exact e1, e2⟩
section
variable {H : Type} {enc : TypeId × Value → H} {P : Program} {W : World} {E : Env} {r : Reach} {b0 : Nat}
theorem tS (hB : ∀ t i, E.T t = some i → uR P E.T t i = true) {t : Nat} {i : TI} (ht : E.T t = some i) {v : Value} {d : DataW H} {ps : List MemPlace} (h : DataW.Trod enc P W 0 (fun _ => true) true t v d ps) (hv : Value.okWide P W r b0 t v) :
    ∃ ls, cQ E.cells i.cells ls ∧ ∀ rest, V2 E.cells W (A0 (fun _ => True) W) (vd (lk E.T t) (ls ++ rest)) v := by
  obtain ⟨fuel, hf⟩ := h
  obtain ⟨h1, h2⟩ := uM hB fuel ht hf
  obtain ⟨ls, g1, g2⟩ := gX (P := fun j l => ∃ x, v.cells.toList[j]? = some x ∧ ∀ kk, i.cells[j]? = some kk → Rd E.cells W (fun b => b < W.heap.size) kk x l ∧ Wf E.cells kk l) i.cells.length (fun j hj => by
    have hk := List.getElem?_eq_getElem hj
    obtain ⟨l, x, e1, e2, e3⟩ := h2 j _ hk
    exact ⟨l, x, e1, fun kk hkk => by rw [hk] at hkk; injection hkk with hkk; subst hkk; exact ⟨e2, e3⟩⟩)
  have hz : ∀ b, b < W.heap.size → eJ W (A0 (fun _ => True) W) b := fun b hb => ⟨.inl trivial, hb, fun _ h => h⟩
  have hrd : ∀ (j : Nat) (kk : K), i.cells[j]? = some kk → ∃ (l : L) (x : Value), ls[j]? = some l ∧ v.cells.toList[j]? = some x ∧ Rd E.cells W (eJ W (A0 (fun _ => True) W)) kk x l ∧ Wf E.cells kk l := by
    intro j kk hj
    obtain ⟨l, e1, x, e2, e3⟩ := g2 j (List.getElem?_eq_some_iff.1 hj).1
    exact ⟨l, x, e1, e2, (e3 kk hj).1.mono hz, (e3 kk hj).2⟩
  refine ⟨ls, ⟨g1, fun j k hj => ?_⟩, fun rest => ?_⟩
  · obtain ⟨l, x, e1, _, _, e4⟩ := hrd j k hj
    exact ⟨l, e1, e4⟩
  · obtain ⟨ii, dd, z, k1, k2, k3, k4, k5, k6, kby, k7, k8, k9, k10, kpl, k11, k12, nL, nX, k15⟩ := nB (E := E) (hB t i ht)
    have hF := mD (T := E.cells) (w := W) (A := A0 (fun _ => True) W) (d := none) (fun r hr => (nomatch hr)) i.cells ls (fun j => v.cells.toList.getD j Go.undef) (fun j kk hj => by
      obtain ⟨l, x, e1, e2, e3, _⟩ := hrd j kk hj
      rw [List.getD_eq_getElem?_getD, e2, List.getD_eq_getElem?_getD, e1]; exact e3)
    rw [mW h1] at hF
    have hp : lk E.T t = bif i.agg then .agg i.cells else .rd (i.cells.headD .bool) := by simp [lk, ht]
    rw [hp]
    cases ha : i.agg with
    | true =>
      show V2 E.cells W _ (.agg (kc none i.cells (ls ++ rest))) v
      obtain ⟨fs, rfl, _⟩ := k10 ha
      obtain ⟨cs, rfl, _⟩ := okWide_struct k2 hv
      rw [jn _ _ _ _ g1]
      exact V1.v2 (v := .agg _) ⟨cs.toList, by simp, hF⟩
    | false =>
      show V2 E.cells W _ (uE none (i.cells.headD .bool) ((ls ++ rest).headD .hole)) v
      obtain ⟨hl1, _⟩ := k9 ha
      have hone : ∃ x, v = x ∧ v.cells = #[x] := by
        match hc : i.cells, hl1 with
        | [.int k], _ => obtain ⟨n, rfl⟩ := okWide_int (k12 ha k hc ▸ k2) hv; exact ⟨_, rfl, rfl⟩
        | [.bool], _ => obtain ⟨n, rfl⟩ := okWide_bool (nL ha hc ▸ k2) hv; exact ⟨_, rfl, rfl⟩
        | [.str], _ => obtain ⟨n, rfl⟩ := okWide_string (nX ha hc ▸ k2) hv; exact ⟨_, rfl, rfl⟩
        | [.sl e], _ =>
          have hel : i.el = some e := by simp [TI.el, ha, hc]
          obtain ⟨rfl, _⟩ := k11 e hel
          obtain ⟨a, n, c, rfl⟩ := okWide_slice k2 hv; exact ⟨_, rfl, rfl⟩
      obtain ⟨x, rfl, hcx⟩ := hone
      match hc : i.cells, hl1 with
      | [k], _ =>
        obtain ⟨l, y, e1, e2, e3, _⟩ := hrd 0 k (by rw [hc]; rfl)
        rw [hcx] at e2
        simp at e2
        subst e2
        have : (ls ++ rest).headD .hole = l := by
          rw [eP, List.getD_eq_getElem?_getD, List.getElem?_append_left (by rw [g1, hc]; simp), e1]; rfl
        rw [this]
        exact (pq (fun r hr => by cases hr) e3).v2
theorem uH (hB : ∀ t i, E.T t = some i → uR P E.T t i = true) {t : Nat} {i : TI} (ht : E.T t = some i) : (lk E.T t).n = i.cells.length := by
 have hp : lk E.T t = bif i.agg then .agg i.cells else .rd (i.cells.headD .bool) := by simp [lk, ht]
 rw [hp]
 cases ha : i.agg with
 | true => rfl
 | false =>
  obtain ⟨ii, dd, z, k1, k2, k3, k4, k5, k6, kby, k7, k8, k9, _⟩ := nB (E := E) (hB t i ht)
  rw [(k9 ha).1]; rfl
theorem oP (hB : ∀ t i, E.T t = some i → uR P E.T t i = true) : ∀ {ts : List Nat} {vs : List Value} {ds : List (DataW H)} {ps : List MemPlace}, (∀ t ∈ ts, (E.T t).isSome = true) → DataW.TrodAll enc P W 0 (fun _ => true) true ts vs ds ps →
  (∀ (j : Nat) (t : TypeId) (v : Value), ts[j]? = some t → vs[j]? = some v → Value.okWide P W r b0 t v) → ∃ ls, cQ E.cells (ts.flatMap E.cells) ls ∧ F2 (V2 E.cells W (A0 (fun _ => True) W)) (gU (ts.map (lk E.T)) ls) vs
 | [], [], ds, ps, _, _, _ => ⟨[], ⟨rfl, fun j k hj => by simp at hj⟩, .nil⟩
 | [], _ :: _, [], ps, _, h, _ => h.elim
 | [], _ :: _, _ :: _, ps, _, h, _ => h.elim
 | _ :: _, [], [], ps, _, h, _ => h.elim
 | _ :: _, [], _ :: _, ps, _, h, _ => h.elim
 | _ :: _, _ :: _, [], ps, _, h, _ => h.elim
 | t :: ts, v :: vs, d :: ds, ps, hs, ⟨p, q, h1, h2, _⟩, hv => by
  obtain ⟨i, hi⟩ := Option.isSome_iff_exists.1 (hs t (by simp))
  obtain ⟨a, g1, g2⟩ := tS hB hi h1 (hv 0 t v rfl rfl)
  obtain ⟨b, g3, g4⟩ := oP hB (fun t ht => hs t (by simp [ht])) h2 (fun j t v h h' => hv (j + 1) t v (by simpa using h) (by simpa using h'))
  have hc : E.cells t = i.cells := fh hi
  refine ⟨a ++ b, by rw [List.flatMap_cons, hc]; exact g1.append g3, ?_⟩
  refine .cons (g2 b) ?_
  rw [uH hB hi, ← g1.1, gR, List.drop_left]
  exact g4
theorem jX (hl : laidOutB P = true) {W' : World} (hb : Below W.heap.size W W') : ∀ {ts : List Nat} {vs : List Value} {ds : List (DataW H)} {ps : List MemPlace}, (ts.all fun t => P.readableRec t && decide (t < P.types.size)) = true →
  DataW.TrodAll enc P W 0 (fun _ => true) true ts vs ds ps → DataW.TrodAll enc P W' 0 (fun b => decide (b < W.heap.size)) true ts vs ds ps
 | [], [], [], ps, _, h => h
 | [], _ :: _, [], ps, _, h => h.elim
 | [], [], _ :: _, ps, _, h => h.elim
 | [], _ :: _, _ :: _, ps, _, h => h.elim
 | _ :: _, [], [], ps, _, h => h.elim
 | _ :: _, [], _ :: _, ps, _, h => h.elim
 | _ :: _, _ :: _, [], ps, _, h => h.elim
 | t :: ts, v :: vs, d :: ds, ps, hs, ⟨p, q, h1, h2, h3⟩ => by
  simp only [List.all_cons, Bool.and_eq_true, decide_eq_true_eq] at hs
  refine ⟨p, q, Below.trod hl hs.1.1 hs.1.2 h1 hb ?_, jX hl hb (by simpa using hs.2) h2, h3⟩
  obtain ⟨fuel, hf⟩ := h1
  exact DataW.trod_lt fuel _ _ _ hf
theorem sW {g : FuncId} {ts : List Nat} {km : List L → Option (List L)} (hV : Valid P E g (rB E.T ts km)) {ls : List L} {vs : List Value} (hs : km ls = some [.bool true])
  (hf : F2 (V2 E.cells W (A0 (fun _ => True) W)) (gU (ts.map (lk E.T)) ls) vs) : Calls P g vs.toArray W fun e W' => e = .returned (.bool true) ∧ Below W.heap.size W W' := by
 refine (hV.2.2 ls _ W vs (fun _ => True) hs hf).mono fun e W' ⟨rv, A', h1, h2, _, _, _, h3⟩ => ?_
 have : rv = .bool true := h3
 subst this
 exact ⟨h1, ⟨h2.os, h2.tape, h2.output, h2.size, fun k hk => h2.block k hk (fun h => h)⟩⟩
end
end Go.DM
namespace Go.DM
def iter {Pt : Type} (step : (Pt → ay) → Pt → ay) : Nat → Pt → ay
 | 0 => fun _ => none
 | n + 1 => step (iter step n)
theorem mK {E : Env} {live : Nat → Live} {f : Func} {res : RP} {Pt : Type} {id : Pt → Nat} {vs : Pt → List V} {hs : Pt → List aI} {step : (Pt → ay) → Pt → ay}
  (h : ∀ (I : bY) (p : Pt), cz E live I (id p) (bo f) (eN (live (id p)) (vs p) (hs p)) (bX E f res) = step (fun q => I (id q) (vs q) (hs q)) p) :
  ∀ (n : Nat) (p : Pt), nw E live f res n (id p) (vs p) (hs p) = iter step n p
 | 0, _ => rfl
 | n + 1, p => by
  show cz E live (nw E live f res n) (id p) (bo f) (eN (live (id p)) (vs p) (hs p)) (bX E f res) = step (iter step n) p
  rw [h]
  congr 1
  funext q
  exact mK h n q
theorem bW {E : Env} {live : Nat → Live} {f : Func} {res : RP} {Pt : Type} {id : Pt → Nat} {vs : Pt → List V} {hs : Pt → List aI} {step : (Pt → ay) → Pt → ay} {s : St} {start : (Pt → ay) → ay}
  (h : ∀ (I : bY) (p : Pt), cz E live I (id p) (bo f) (eN (live (id p)) (vs p) (hs p)) (bX E f res) = step (fun q => I (id q) (vs q) (hs q)) p)
  (h0 : ∀ I : bY, ee E live I (bo f) s (bX E f res) = start (fun q => I (id q) (vs q) (hs q))) (n : Nat) : ea E live f res n s = start (iter step n) := by
 unfold ea
 rw [h0]
 congr 1
 funext q
 exact mK h n q
end Go.DM
namespace Go.DM
theorem sL {P : Program} {l : List (Nat × TI)} (h : dE P l = true) : ∀ t i, (cR l).T t = some i → uR P (cR l).T t i = true := by
 intro t i ht
 simp only [dE, List.all_eq_true] at h
 exact h (t, i) (lu ht)
theorem lP {H : Type} {enc : TypeId × Value → H} {P : Program} {w : World} {base : Nat} {sp : Nat → Bool} {held : Bool} : ∀ {ts : List TypeId} {vs : List Value} {ds : List (DataW H)} {ps : List MemPlace}, DataW.TrodAll enc P w base sp held ts vs ds ps → ds.length = ts.length
 | [], [], [], _, _ => rfl
 | [], [], _ :: _, _, h => h.elim
 | [], _ :: _, [], _, h => h.elim
 | [], _ :: _, _ :: _, _, h => h.elim
 | _ :: _, [], [], _, h => h.elim
 | _ :: _, [], _ :: _, _, h => h.elim
 | _ :: _, _ :: _, [], _, h => h.elim
 | _ :: _, _ :: _, _ :: _, _, ⟨_, _, _, h, _⟩ => by simp [lP h]
theorem qA {P : Program} {E : Env} {g : FuncId} {aK : fe} (he : ld P g) (hok : aK.res.ok = true) (hR : ∀ r, aK.res.R r = [])
    (h : ∀ (ls r : List L) (w : World) (vs : List Value) (Z : Nat → Prop), aK.km ls = some r → F2 (V2 E.cells w (A0 Z w)) (gU aK.args ls) vs →
      Calls P g vs.toArray w fun e w' => ∃ rv, e = .returned rv ∧ w' = w ∧ V2 E.cells w (A0 Z w) (aK.res.V r 0) rv) : Valid P E g aK := by
  refine ⟨he, hok, fun ls r w vs Z hs hf => (h ls r w vs Z hs hf).mono fun e w' ⟨rv, h1, h2, h3⟩ => ?_⟩
  subst h2
  refine ⟨rv, A0 Z w', h1, Fr.refl _ _, rfl, fun i => ?_, ?_, h3⟩
  · rw [hR]; simp [A0]
  · rw [hR]
    exact ⟨fun _ _ h => h.elim, fun _ _ _ h => h.elim, fun _ _ => rfl, fun _ _ h => h.elim, Fr.refl _ _, fun _ _ h => h.elim, fun _ h => .inr h, fun j hj => absurd hj (Nat.not_lt_zero j)⟩
theorem az {i n : Nat} (h : i < n) (hn : n ≤ maxLen) : IntKind.i64.wrap ((i : Int) + 1) = ((i + 1 : Nat) : Int) := by
 rw [Go.IntWalk.i64_in _ (by simp only [maxLen] at hn; omega)]; omega
theorem up {xs : List (List L)} {Q : Nat → Prop} (h0 : ∀ i, xs.length ≤ i → i = xs.length → Q i) (h1 : ∀ i (h : i < xs.length), Q (i + 1) → Q i) : ∀ i, i ≤ xs.length → Q i := by
 have key : ∀ k i, i + k = xs.length → Q i := by
  intro k
  induction k with
  | zero => intro i hi; exact h0 i (by omega) (by omega)
  | succ k ih => intro i hi; exact h1 i (by omega) (ih (i + 1) (by omega))
 exact fun i hi => key (xs.length - i) i (by omega)
theorem take_set {α : Type} {c : List α} {i : Nat} {v : α} (h : i < c.length) : (c.set i v).take (i + 1) = c.take i ++ [v] := by
 rw [List.take_succ_eq_append_getElem (by simpa using h), List.take_set_of_le (by omega)]
 simp
theorem cg (n : Nat) : Int.toNat (n : Int) = n := Eq.trans (Int.toNat_natCast n) rfl
@[simp] theorem eW (s : ByteArray) : (s == s) = true := by rw [beq_toListBytes]; simp
end Go.DM
namespace Go.DM
class RT (β : Type) where
 enc : β → List L
 dec : List L → β
 n : Nat
 de : ∀ b rest, dec (enc b ++ rest) = b
 dr : ∀ b rest, ar n (enc b ++ rest) = rest
instance : RT Int := ⟨fun n => [.int n], fun r => (r.headD .hole).toInt, 1, fun _ _ => rfl, fun _ _ => rfl⟩
instance : RT Bool := ⟨fun n => [.bool n], fun r => (r.headD .hole).toBool, 1, fun _ _ => rfl, fun _ _ => rfl⟩
instance : RT ByteArray := ⟨fun n => [.str n], fun r => (r.headD .hole).toStr, 1, fun _ _ => rfl, fun _ _ => rfl⟩
instance : RT (List (List L)) := ⟨fun n => [.sl n], fun r => (r.headD .hole).aG, 1, fun _ _ => rfl, fun _ _ => rfl⟩
theorem ow : ∀ (m n : Nat) (l : List L), ar (m + n) l = ar n (ar m l)
 | 0, n, l => by rw [Nat.zero_add]; rfl
 | m + 1, n, l => by rw [show m + 1 + n = (m + n) + 1 by omega]; exact ow m n l.tail
instance {α β : Type} [RT α] [RT β] : RT (α × β) :=
 ⟨fun p => RT.enc p.1 ++ RT.enc p.2, fun r => (RT.dec r, RT.dec (ar (RT.n α) r)), RT.n α + RT.n β,
  fun b rest => by simp only [List.append_assoc, RT.de, RT.dr],
  fun b rest => by simp only [List.append_assoc, ow, RT.dr]⟩
def ret {β : Type} [RT β] (b : β) : ay := some (RT.enc b)
def call {β : Type} [RT β] (o : Option β) (k : β → ay) : ay := (o.map RT.enc).bind fun r => k (RT.dec r)
theorem sJ {β : Type} [RT β] (b : β) (k : β → ay) : call (some b) k = k b := by
 have := RT.de b []
 rw [List.append_nil] at this
 simp [call, this]
theorem ba {β : Type} [RT β] {o : Option β} {b : β} (h : o = some b) (k : β → ay) : call o k = k b := by rw [h, sJ]
def gq (r : List L) : Int := (r.headD .hole).toInt
def xF (r : List L) : Bool := (r.headD .hole).toBool
def xT (r : List L) : ByteArray := (r.headD .hole).toStr
def nT (r : List L) : List (List L) := (r.headD .hole).aG
def iu (xs : List (List L)) (i : Nat) : Int := gq (List.getD xs i [])
def xe (xs : List (List L)) (i : Nat) : Bool := xF (List.getD xs i [])
def pc (xs : List (List L)) (i : Nat) : ByteArray := xT (List.getD xs i [])
def lA (xs : List (List L)) (i : Nat) : List (List L) := nT (List.getD xs i [])
def db (s : ByteArray) (i : Nat) : Int := ((List.getD s.data.toList i 0).toNat : Int)
def aP (n : Int) : List L := [.int n]
def sE (n : Bool) : List L := [.bool n]
def cu (n : ByteArray) : List L := [.str n]
def cM {α : Type} (f : α → List L) (c : List α) : List L := [.sl (c.map f)]
theorem jB {a b : Int} (h : aP a = aP b) : a = b := by injection h with h; injection h
theorem tc {a b : Bool} (h : sE a = sE b) : a = b := by injection h with h; injection h
theorem pP {a b : ByteArray} (h : cu a = cu b) : a = b := by injection h with h; injection h
theorem map_inj {α β : Type} {f : α → β} (hf : ∀ {a b : α}, f a = f b → a = b) : ∀ {a b : List α}, a.map f = b.map f → a = b
 | [], [], _ => rfl
 | [], _ :: _, h => by cases h
 | _ :: _, [], h => by cases h
 | a :: as, b :: bs, h => by
  simp only [List.map_cons, List.cons.injEq] at h
  rw [hf h.1, map_inj hf h.2]
theorem pX {α : Type} {f : α → List L} (hf : ∀ {a b : α}, f a = f b → a = b) {a b : List α} (h : cM f a = cM f b) : a = b := by
 injection h with h; injection h with h; exact map_inj hf h
theorem getD_map {α : Type} {f : α → List L} {xs : List α} {i : Nat} (h : i < xs.length) : List.getD (xs.map f) i [] = f xs[i] := by
 simp [List.getD_eq_getElem?_getD, h]
theorem pC {xs : List Int} {i : Nat} (h : i < xs.length) : iu (xs.map aP) i = xs[i] := by unfold iu; rw [getD_map h]; rfl
theorem mC {xs : List ByteArray} {i : Nat} (h : i < xs.length) : pc (xs.map cu) i = xs[i] := by unfold pc; rw [getD_map h]; rfl
theorem mH {α : Type} {f : α → List L} {xs : List (List α)} {i : Nat} (h : i < xs.length) : lA (xs.map (cM f)) i = xs[i].map f := by unfold lA; rw [getD_map h]; rfl
def ofM {A A' B : Type} (r : A → A') (g : A → Prop) (m : A → B) (x : A') : Option B :=
 open Classical in if h : ∃ a, r a = x ∧ g a then some (m (Classical.choose h)) else none
theorem we {A A' B : Type} {r : A → A'} {g : A → Prop} {m : A → B} {a : A} (hr : ∀ a b, r a = r b → a = b) (h : g a) : ofM r g m (r a) = some (m a) := by
 have hx : ∃ b, r b = r a ∧ g b := ⟨a, rfl, h⟩
 unfold ofM
 rw [dif_pos hx, hr _ _ (Classical.choose_spec hx).1]
theorem lh {A A' B : Type} {r : A → A'} {g : A → Prop} {m : A → B} {x : A'} {v : B} (h : ofM r g m x = some v) : ∃ a, g a ∧ r a = x ∧ m a = v := by
  unfold ofM at h
  split at h
  · rename_i hx
    injection h with h
    exact ⟨_, (Classical.choose_spec hx).2, (Classical.choose_spec hx).1, h⟩
  · cases h
theorem map_some {α β : Type} {f : α → β} {o : Option α} {b : β} (h : o.map f = some b) : ∃ a, o = some a ∧ f a = b := by
 cases o with
 | none => cases h
 | some a => injection h with h; exact ⟨a, rfl, h⟩
def cU {α : Type} (a b : α) : Bool := open Classical in decide (a = b)
theorem ca {α : Type} {a b : α} : cU a b = true ↔ a = b := by simp [cU]
theorem eC {α : Type} (a : α) : cU a a = true := ca.2 rfl
theorem jN {α : Type} {a b : α} : cU a b = false ↔ a ≠ b := by simp [cU]
def bw {α : Type} (n : Nat) (p : α → Prop) (xs : List α) : Prop := xs.length ≤ n ∧ ∀ x ∈ xs, p x
theorem bw.get {α : Type} {n : Nat} {p : α → Prop} {xs : List α} (h : bw n p xs) {i : Nat} (hi : i < xs.length) : p xs[i] := h.2 _ (List.getElem_mem hi)
theorem bw.mono {α : Type} {n m : Nat} {p q : α → Prop} {xs : List α} (h : bw n p xs) (hn : n ≤ m) (hpq : ∀ x, p x → q x) : bw m q xs := ⟨Nat.le_trans h.1 hn, fun x hx => hpq x (h.2 x hx)⟩
theorem bw.nil {α : Type} {n : Nat} {p : α → Prop} : bw n p ([] : List α) := ⟨Nat.zero_le _, fun x hx => (nomatch hx)⟩
def di {α : Type} (f : α → Nat) (xs : List α) : Nat := xs.length + (xs.map f).sum
theorem pK {α : Type} {f : α → Nat} : ∀ {xs : List α} {x : α}, x ∈ xs → f x ≤ (xs.map f).sum
  | y :: ys, x, h => by
    simp only [List.map_cons, List.sum_cons]
    rcases List.mem_cons.1 h with rfl | h
    · omega
    · have := pK (f := f) h; omega
theorem fv {α : Type} {f : α → Nat} {p : α → Prop} {n : Nat} {xs : List α} (h : di f xs ≤ n) (hp : ∀ x, f x ≤ n → p x) : bw n p xs := by
 unfold di at h
 exact ⟨by omega, fun x hx => hp x (by have := pK (f := f) hx; omega)⟩
theorem sX {P : Program} {E : Env} {g : FuncId} {aK : fe} {el : Nat} (he : ld P g) (hr : aK.res = .one (.fr el))
    (h : ∀ (ls r : List L) (w : World) (vs : List Value) (Z : Nat → Prop), aK.km ls = some r → F2 (V2 E.cells w (A0 Z w)) (gU aK.args ls) vs →
      Calls P g vs.toArray w fun e w' => ∃ (rv : Value) (S : Nat → Prop), e = .returned rv ∧ Fr w w' (fun _ => False) ∧ (∀ b, S b → w.heap.size ≤ b ∧ b < w'.heap.size) ∧ dW E.cells w' S (.sl el) rv (.sl (r.headD .hole).aG)) : Valid P E g aK := by
  refine ⟨he, by rw [hr]; rfl, fun ls r w vs Z hs hf => (h ls r w vs Z hs hf).mono fun e w' ⟨rv, S, h1, h2, h3, h4⟩ => ?_⟩
  have hR : aK.res.R r = [.row el (r.headD .hole).aG] := by rw [hr]; rfl
  have hV : aK.res.V r 0 = .own 0 := by rw [hr]; rfl
  obtain ⟨a, n, c, hsl, _⟩ := h4.sC
  refine ⟨rv, { v := fun _ => rv, N := fun i => if i = 0 then S else fun _ => False, al := fun i => i < 1, Z := (A0 Z w).Z }, h1, h2, rfl, fun i => by rw [hR]; rfl, ?_, ?_⟩
  · rw [hR]
    refine ⟨fun i b hb => ?_, fun i j b hb hb' => ?_, fun i hi => ?_, fun i => ?_, h2, fun i b hb => ?_, fun b hb => .inr hb, fun j hj => absurd hj (Nat.not_lt_zero j)⟩
    · by_cases hi : i = 0
      · simp only [hi, if_true] at hb; exact (h3 b hb).2
      · simp only [hi, if_false] at hb
    · by_cases hi : i = 0 <;> by_cases hj : j = 0
      · rw [hi, hj]
      · simp only [hj, if_false] at hb'
      · simp only [hi, if_false] at hb
      · simp only [hi, if_false] at hb
    · have : i ≠ 0 := fun e => hi (by show i < 1; omega)
      simp [dC, bl _ _ this]
    · by_cases hi : i = 0
      · subst hi
        simp only [dC, bj]
        exact ⟨Nat.lt_one_iff.2 rfl, by simpa using h4⟩
      · simp only [dC, bl _ _ hi]
        intro b hb
        simp only [hi, if_false] at hb
    · by_cases hi : i = 0
      · simp only [hi, if_true] at hb; exact .inr (h3 b hb).1
      · simp only [hi, if_false] at hb
  · rw [hV]
    exact V0.v2 (v := .own 0) ⟨Nat.lt_one_iff.2 rfl, rfl, a, n, c, hsl⟩
theorem aD {i n : Nat} (h : i < n) : decide ((i : Int) < (n : Int)) = true := by simp [h]
theorem dK {n : Nat} : decide ((n : Int) < (n : Int)) = false := by simp
theorem ax {i : Nat} : decide ((0 : Int) ≤ (i : Int)) = true := by simp
end Go.DM
namespace Go.DM
def fT (s : Nat) (left : Int) : Int := if left < (s : Int) then -1 else left - s
theorem bK {s : Nat} {left : Int} (h : left < (s : Int)) : fT s left = -1 := if_pos h
theorem cm {s : Nat} {left : Int} (h : ¬ left < (s : Int)) : fT s left = left - s := if_neg h
theorem ck {x : Int} (h : 0 ≤ x) : decide (x < 0) = false := decide_eq_false (by omega)
theorem kG {s : Nat} {left : Int} (h0 : 0 ≤ left) (h1 : left ≤ 1048576) (hs : s ≤ maxLen) : IntKind.i64.wrap (left - (s : Int)) = left - s :=
 Go.IntWalk.i64_in _ (by simp only [maxLen] at hs; omega)
theorem nd {α : Type} {f : α → Nat} (h : ∀ x, f x = 0) : ∀ xs : List α, (xs.map f).sum = 0
 | [] => rfl
 | x :: xs => by simp [h x, nd h xs]
theorem vk {Pt α : Type} {step : (Pt → ay) → Pt → ay} {pt : Int → Nat → Pt} {xs : List α} {f : α → Nat}
    (h1 : ∀ (J : Pt → ay) (i : Nat) (h : i < xs.length) (left : Int), 0 ≤ left → left ≤ 1048576 → step J (pt left i) = if left < (f xs[i] : Int) then ret (-1 : Int) else J (pt (left - f xs[i]) (i + 1)))
    (h0 : ∀ (J : Pt → ay) (left : Int), step J (pt left xs.length) = ret left) : ∀ (left : Int), 0 ≤ left → left ≤ 1048576 → ∃ m, iter step m (pt left 0) = ret (fT (xs.map f).sum left) := by
  have key : ∀ k i, i + k = xs.length → ∀ left : Int, 0 ≤ left → left ≤ 1048576 → ∃ m, iter step m (pt left i) = ret (fT ((xs.drop i).map f).sum left) := by
    intro k
    induction k with
    | zero =>
      intro i hi left g0 g1
      have : i = xs.length := by omega
      subst this
      refine ⟨1, (h0 _ left).trans ?_⟩
      have e : fT ((xs.drop xs.length).map f).sum left = left := by
        rw [List.drop_eq_nil_of_le (Nat.le_refl _)]
        rw [cm (by simp; omega)]; simp
      rw [e]
    | succ k ih =>
      intro i hi left g0 g1
      have hlt : i < xs.length := by omega
      rw [List.drop_eq_getElem_cons hlt, List.map_cons, List.sum_cons]
      by_cases hc : left < (f xs[i] : Int)
      · refine ⟨1, (h1 _ i hlt left g0 g1).trans ?_⟩
        rw [if_pos hc, bK (by omega)]
      · obtain ⟨m, hm⟩ := ih (i + 1) (by omega) (left - f xs[i]) (by omega) (by omega)
        refine ⟨m + 1, (h1 _ i hlt left g0 g1).trans ?_⟩
        rw [if_neg hc, hm]
        congr 1
        unfold fT
        split <;> split <;> omega
  intro left g0 g1
  have := key xs.length 0 (by omega) left g0 g1
  simpa using this
theorem lq {Pt α : Type} {step : (Pt → ay) → Pt → ay} {pt : Int → Nat → Pt} {xs : List α} {f : α → Nat} (hx : xs.length ≤ maxLen)
    (h1 : ∀ (J : Pt → ay) (i : Nat) (h : i < xs.length) (left : Int), 0 ≤ left → left ≤ 1048576 → step J (pt left i) = if left < (f xs[i] : Int) then ret (-1 : Int) else J (pt (left - f xs[i]) (i + 1)))
    (h0 : ∀ (J : Pt → ay) (left : Int), step J (pt left xs.length) = ret left) {left : Int} (g0 : 0 ≤ left) (g1 : left ≤ 1048576) :
    ∃ m, (cond (decide (IntKind.i64.wrap (left - (xs.length : Int)) < 0)) (ret (-1 : Int)) (iter step m (pt (IntKind.i64.wrap (left - (xs.length : Int))) 0))) = ret (fT (di f xs) left) := by
  rw [kG g0 g1 hx]
  by_cases hc : left - (xs.length : Int) < 0
  · refine ⟨0, ?_⟩
    rw [decide_eq_true hc, bK (by unfold di; omega)]; rfl
  · obtain ⟨m, hm⟩ := vk h1 h0 (left - (xs.length : Int)) (by omega) (by omega)
    refine ⟨m, ?_⟩
    rw [decide_eq_false hc, cond_false, hm]
    congr 1
    unfold fT di
    split <;> split <;> omega
theorem uJ {Pt : Type} {step : (Pt → ay) → Pt → ay} {pt : Nat → List (List L) → Pt} {xs : List (List L)}
  (h1 : ∀ (J : Pt → ay) (i : Nat) (h : i < xs.length) (c : List (List L)), c.length = xs.length → step J (pt i c) = J (pt (i + 1) (c.set i xs[i])))
  (h0 : ∀ (J : Pt → ay) (c : List (List L)), step J (pt xs.length c) = ret c) (c : List (List L)) (hc : c.length = xs.length) : ∃ m, iter step m (pt 0 c) = ret xs := by
 have key : ∀ k i, i + k = xs.length → ∀ c : List (List L), c.length = xs.length → c.take i = xs.take i → ∃ m, iter step m (pt i c) = ret xs := by
  intro k
  induction k with
  | zero =>
   intro i hi c hc ht
   have : i = xs.length := by omega
   subst this
   rw [List.take_of_length_le (by omega), List.take_of_length_le (Nat.le_refl _)] at ht
   exact ⟨1, by rw [← ht] at h0 ⊢; exact h0 _ _⟩
  | succ k ih =>
   intro i hi c hc ht
   have hlt : i < xs.length := by omega
   obtain ⟨m, hm⟩ := ih (i + 1) (by omega) (c.set i xs[i]) (by simpa using hc) (by rw [take_set (by omega), ht, List.take_succ_eq_append_getElem hlt])
   exact ⟨m + 1, (h1 _ i hlt c hc).trans hm⟩
 exact key xs.length 0 (by omega) c hc rfl
theorem iX {Pt α : Type} {step : (Pt → ay) → Pt → ay} {pt : Nat → List (List L) → Pt} {xs : List α} {f : α → List L} {z : List L} {b : Nat} (hx : (xs.length : Int) * (b : Int) ≤ 140737488355328)
  (h1 : ∀ (J : Pt → ay) (i : Nat) (h : i < xs.length) (c : List (List L)), c.length = xs.length → step J (pt i c) = J (pt (i + 1) (c.set i (f xs[i]))))
  (h0 : ∀ (J : Pt → ay) (c : List (List L)), step J (pt xs.length c) = ret c) :
  ∃ m, (cond (decide ((0 : Int) ≤ (xs.length : Int))) (cond (decide ((xs.length : Int) ≤ (xs.length : Int))) (cond (decide ((xs.length : Int) * (b : Int) ≤ 140737488355328)) (iter step m (pt 0 (List.replicate (Int.toNat (xs.length : Int)) z))) none) none) none) = ret (xs.map f) := by
 obtain ⟨m, hm⟩ := uJ (step := step) (pt := pt) (xs := xs.map f) (fun J i h c hc => by
  rw [List.getElem_map]; exact h1 J i (by simpa using h) c (by simpa using hc)) (fun J c => by rw [List.length_map]; exact h0 J c) (List.replicate (Int.toNat (xs.length : Int)) z) (by simp)
 refine ⟨m, ?_⟩
 rw [ax, decide_eq_true (Int.le_refl _), decide_eq_true hx]
 exact hm
theorem vc {Pt α : Type} {step : (Pt → ay) → Pt → ay} {pt : Nat → Pt} {xs ys : List α} (hl : xs.length = ys.length)
    (h1 : ∀ (J : Pt → ay) (i : Nat) (h : i < xs.length) (h' : i < ys.length), step J (pt i) = bif cU xs[i] ys[i] then J (pt (i + 1)) else ret false) (h0 : ∀ J : Pt → ay, step J (pt xs.length) = ret true) : ∃ m, iter step m (pt 0) = ret (cU xs ys) := by
  have key : ∀ k i, i + k = xs.length → ∃ m, iter step m (pt i) = ret (cU (xs.drop i) (ys.drop i)) := by
    intro k
    induction k with
    | zero =>
      intro i hi
      have : i = xs.length := by omega
      subst this
      refine ⟨1, (h0 _).trans ?_⟩
      rw [List.drop_eq_nil_of_le (Nat.le_refl _), List.drop_eq_nil_of_le (by omega), eC]
    | succ k ih =>
      intro i hi
      have hlt : i < xs.length := by omega
      have hlt' : i < ys.length := by omega
      rw [List.drop_eq_getElem_cons hlt, List.drop_eq_getElem_cons hlt']
      obtain ⟨m, hm⟩ := ih (i + 1) (by omega)
      cases hc : cU xs[i] ys[i]
      · refine ⟨1, (h1 _ i hlt hlt').trans ?_⟩
        rw [hc]
        have : cU (xs[i] :: xs.drop (i + 1)) (ys[i] :: ys.drop (i + 1)) = false := by
          rw [jN] at hc ⊢
          intro h; injection h with h; exact hc h
        rw [this]; rfl
      · refine ⟨m + 1, (h1 _ i hlt hlt').trans ?_⟩
        rw [hc, cond_true, hm]
        congr 1
        rw [ca] at hc
        rw [Bool.eq_iff_iff, ca, ca, hc]
        constructor
        · intro h; rw [h]
        · intro h; injection h
  have := key xs.length 0 (by omega)
  simpa using this
theorem iQ {Pt α : Type} {step : (Pt → ay) → Pt → ay} {pt : Nat → Pt} {xs ys : List α}
    (h1 : xs.length = ys.length → ∀ (J : Pt → ay) (i : Nat) (h : i < xs.length) (h' : i < ys.length), step J (pt i) = bif cU xs[i] ys[i] then J (pt (i + 1)) else ret false) (h0 : ∀ J : Pt → ay, step J (pt xs.length) = ret true) :
    ∃ m, (cond ((xs.length : Int) != (ys.length : Int)) (ret false) (iter step m (pt 0))) = ret (cU xs ys) := by
  by_cases hl : xs.length = ys.length
  · obtain ⟨m, hm⟩ := vc hl (h1 hl) h0
    refine ⟨m, ?_⟩
    rw [hl, bne_self_eq_false, cond_false, hm]
  · refine ⟨0, ?_⟩
    have h2 : ((xs.length : Int) != (ys.length : Int)) = true := by simpa using fun h => hl (by omega)
    have h3 : cU xs ys = false := jN.2 fun h => hl (by rw [h])
    rw [h2, h3]; rfl
theorem cQ.cZ {T : Nat → List K} {k : K} {ks : List K} {r : List L} (h : cQ T (k :: ks) r) : ∃ l r', r = l :: r' ∧ Wf T k l ∧ cQ T ks r' := by
 match r, h with
 | [], h => have := h.1; simp at this
 | l :: r', h =>
  obtain ⟨l', e1, e2⟩ := h.2 0 k rfl
  simp at e1
  subst e1
  exact ⟨l, r', rfl, e2, by simpa using h.1, fun j kk hj => by simpa using h.2 (j + 1) kk (by simpa using hj)⟩
theorem cQ.gy {T : Nat → List K} : ∀ {a b : List K} {r : List L}, cQ T (a ++ b) r → ∃ r1 r2, r = r1 ++ r2 ∧ cQ T a r1 ∧ cQ T b r2
 | [], b, r, h => ⟨[], r, rfl, ⟨rfl, fun j k hj => by simp at hj⟩, h⟩
 | k :: a, b, r, h => by
  obtain ⟨l, r', rfl, h1, h2⟩ := cQ.cZ (ks := a ++ b) h
  obtain ⟨r1, r2, rfl, h3, h4⟩ := cQ.gy h2
  exact ⟨l :: r1, r2, rfl, cQ.append (a := [k]) (x := [l]) ⟨rfl, fun j kk hj => by
   cases j with
   | zero => simp at hj; subst hj; exact ⟨l, rfl, h1⟩
   | succ j => simp at hj⟩ h3, h4⟩
theorem cQ.hL {T : Nat → List K} {r : List L} (h : cQ T [] r) : r = [] := List.eq_nil_of_length_eq_zero h.1
theorem ez {T : Nat → List K} {k : IntKind} {l : L} (h : Wf T (.int k) l) : ∃ n, l = .int n := by cases h; exact ⟨_, rfl⟩
theorem sa {T : Nat → List K} {l : L} (h : Wf T .bool l) : ∃ n, l = .bool n := by cases h; exact ⟨_, rfl⟩
theorem rk {T : Nat → List K} {l : L} (h : Wf T .str l) : ∃ s : ByteArray, l = .str s ∧ s.size ≤ maxLen := by cases h; exact ⟨_, rfl, by assumption⟩
theorem gC {T : Nat → List K} {e : Nat} {ks : List K} {α : Type} {row : α → List L} {p : α → Prop} (hc : T e = ks) (hrow : ∀ r, cQ T ks r → ∃ x, row x = r ∧ p x) {l : L} (h : Wf T (.sl e) l) :
    ∃ xs : List α, l = .sl (xs.map row) ∧ bw maxLen p xs := by
  cases h
  rename_i xs hle hl hr
  have key : ∀ ys : List (List L), (∀ r ∈ ys, r ∈ xs) → ∃ zs : List α, ys = zs.map row ∧ ∀ z ∈ zs, p z := by
    intro ys
    induction ys with
    | nil => intro _; exact ⟨[], rfl, fun z hz => (nomatch hz)⟩
    | cons y ys ih =>
      intro hy
      obtain ⟨zs, e1, e2⟩ := ih fun r hr => hy r (by simp [hr])
      obtain ⟨z, e3, e4⟩ := hrow y (by
        refine ⟨by rw [← hc]; exact hl y (hy y (by simp)), fun j kk hj => ?_⟩
        rw [← hc] at hj
        have hjl : j < y.length := by rw [hl y (hy y (by simp))]; exact (List.getElem?_eq_some_iff.1 hj).1
        have hg := List.getElem?_eq_getElem hjl
        exact ⟨_, hg, hr y j kk _ (hy y (by simp)) hj hg⟩)
      refine ⟨z :: zs, by simp [e1, e3], fun w hw => ?_⟩
      rcases List.mem_cons.1 hw with rfl | hw
      · exact e4
      · exact e2 w hw
  obtain ⟨zs, e1, e2⟩ := key xs fun r hr => hr
  exact ⟨zs, by rw [e1], by rw [e1] at hle; simpa using hle, e2⟩
theorem rW {T : Nat → List K} {k : IntKind} (r : List L) (h : cQ T [.int k] r) : ∃ x, aP x = r ∧ True := by
 obtain ⟨l, r', rfl, h1, h2⟩ := h.cZ
 obtain ⟨n, rfl⟩ := ez h1
 rw [h2.hL]; exact ⟨n, rfl, trivial⟩
theorem vm {T : Nat → List K} (r : List L) (h : cQ T [.str] r) : ∃ x : ByteArray, cu x = r ∧ x.size ≤ maxLen := by
 obtain ⟨l, r', rfl, h1, h2⟩ := h.cZ
 obtain ⟨n, rfl, h3⟩ := rk h1
 rw [h2.hL]; exact ⟨n, rfl, h3⟩
theorem uU {T : Nat → List K} {e : Nat} {ks : List K} {α : Type} {row : α → List L} {p : α → Prop} (hc : T e = ks) (hrow : ∀ r, cQ T ks r → ∃ x, row x = r ∧ p x) (r : List L) (h : cQ T [.sl e] r) : ∃ x, cM row x = r ∧ bw maxLen p x := by
 obtain ⟨l, r', rfl, h1, h2⟩ := h.cZ
 obtain ⟨xs, rfl, h3⟩ := gC hc hrow h1
 rw [h2.hL]; exact ⟨xs, rfl, h3⟩
theorem dL {a b : Int} : (a == b) = cU a b := by rw [Bool.eq_iff_iff, beq_iff_eq, ca]
theorem bool_beq {a b : Bool} : (a == b) = cU a b := by rw [Bool.eq_iff_iff, beq_iff_eq, ca]
theorem dA {a b : ByteArray} : (a == b) = cU a b := by
  rw [Bool.eq_iff_iff, ca, beq_toListBytes, beq_iff_eq, ByteArray.toList_eq, ByteArray.toList_eq]
  constructor
  · intro h
    obtain ⟨⟨x⟩⟩ := a
    obtain ⟨⟨y⟩⟩ := b
    simp at h
    rw [h]
  · intro h; rw [h]
theorem bI {b c : Bool} {x : ay} (h : b = true → x = ret c) : (cond (!b) (ret false) x) = ret (b && c) := by
  cases b
  · rfl
  · simpa using h rfl
end Go.DM
namespace Go.DM
def dc {S β : Type} (f : Nat → S → S ⊕ β) (tail : S → β) : Nat → Nat → S → β
 | 0, _, s => tail s
 | k + 1, i, s => match f i s with
  | .inl s' => dc f tail k (i + 1) s'
  | .inr b => b
def ya {S β : Type} (K : S → ay) (out : β → ay) : S ⊕ β → ay
 | .inl s => K s
 | .inr b => out b
def aY {S β : Type} (x : ay) (K : S → ay) (out : β → ay) (P : S → Prop) (r : S ⊕ β) : Prop := x = ya K out r ∧ ∀ s, r = .inl s → P s
theorem aY.bif {S β : Type} {K : S → ay} {out : β → ay} {P : S → Prop} {c : Bool} {x y : ay} {a b : S ⊕ β} (h1 : c = true → aY x K out P a) (h2 : c = false → aY y K out P b) : aY (cond c x y) K out P (cond c a b) := by
  cases c
  · exact h2 rfl
  · exact h1 rfl
theorem aY.yes {S β : Type} {K : S → ay} {out : β → ay} {P : S → Prop} {c : Bool} {x y : ay} {r : S ⊕ β} (hc : c = true) (h : aY x K out P r) : aY (cond c x y) K out P r := by rw [hc]; exact h
theorem aY.call {S β γ : Type} [RT γ] {K : S → ay} {out : β → ay} {P : S → Prop} {o : Option γ} {b : γ} (h : o = some b) {k : γ → ay} {r : S ⊕ β} (hk : aY (k b) K out P r) : aY (call o k) K out P r := by rw [ba h]; exact hk
theorem aY.inl {S β : Type} {K : S → ay} {out : β → ay} {P : S → Prop} {x : ay} {s : S} (hp : P s) (h : x = K s) : aY x K out P (.inl s) := ⟨h, fun s' e => by injection e with e; rw [← e]; exact hp⟩
theorem aY.inr {S β : Type} {K : S → ay} {out : β → ay} {P : S → Prop} {x : ay} {b : β} (h : x = out b) : aY x K out P (.inr b) := ⟨h, fun s' e => by cases e⟩
theorem bP {Pt S β : Type} {step : (Pt → ay) → Pt → ay} {pt : Nat → S → Pt} {n : Nat} {f : Nat → S → S ⊕ β} {tail : S → β} {out : β → ay} (Inv : Nat → S → Prop)
  (h1 : ∀ (J : Pt → ay) (i : Nat) (s : S), i < n → Inv i s → aY (step J (pt i s)) (fun s' => J (pt (i + 1) s')) out (Inv (i + 1)) (f i s))
  (h0 : ∀ s, Inv n s → ∃ m, step (iter step m) (pt n s) = out (tail s)) {s : S} (hs : Inv 0 s) : ∃ m, iter step m (pt 0 s) = out (dc f tail n 0 s) := by
 have key : ∀ k i s, i + k = n → Inv i s → ∃ m, iter step m (pt i s) = out (dc f tail k i s) := by
  intro k
  induction k with
  | zero =>
   intro i s hi hs
   have : i = n := by omega
   subst this
   obtain ⟨m, hm⟩ := h0 s hs
   exact ⟨m + 1, hm⟩
  | succ k ih =>
   intro i s hi hs
   unfold dc
   cases hf : f i s with
   | inl s' =>
    have h := h1 (fun _ => none) i s (by omega) hs
    obtain ⟨m, hm⟩ := ih (i + 1) s' (by omega) (h.2 s' hf)
    refine ⟨m + 1, ?_⟩
    have h := (h1 (iter step m) i s (by omega) hs).1
    rw [hf] at h
    exact h.trans hm
   | inr b =>
    refine ⟨1, ?_⟩
    have h := (h1 (iter step 0) i s (by omega) hs).1
    rw [hf] at h
    exact h
 exact key n 0 s (by omega) hs
theorem fw {β : Type} (out : β → ay) {c : Bool} {x y : Nat → ay} {a b : β} (h1 : c = true → ∃ n, x n = out a) (h2 : c = false → ∃ n, y n = out b) : ∃ n, (cond c (x n) (y n)) = out (cond c a b) := by
  cases c
  · exact h2 rfl
  · exact h1 rfl
theorem eR {c : Bool} {x y : Nat → ay} {r : ay} (hc : c = true) (h : ∃ n, x n = r) : ∃ n, (cond c (x n) (y n)) = r := by subst hc; exact h
theorem dh {c : Bool} {x y : Nat → ay} {r : ay} (hc : c = false) (h : ∃ n, y n = r) : ∃ n, (cond c (x n) (y n)) = r := by subst hc; exact h
theorem uQ {γ : Type} [RT γ] {o : Option γ} {b : γ} (h : o = some b) {k : Nat → γ → ay} {r : ay} (hk : ∃ n, k n b = r) : ∃ n, call o (k n) = r := by
 obtain ⟨n, hn⟩ := hk
 exact ⟨n, by rw [ba h]; exact hn⟩
theorem ak {β : Type} (out : β → ay) {c : Bool} {x y : ay} {a b : β} (h1 : c = true → x = out a) (h2 : c = false → y = out b) : (cond c x y) = out (cond c a b) := by
  cases c
  · exact h2 rfl
  · exact h1 rfl
theorem af {c : Bool} {x y r : ay} (hc : c = true) (h : x = r) : (cond c x y) = r := by subst hc; exact h
theorem dx {α : Type} {xs : List α} {i : Nat} {z : α} (h : i < xs.length) : xs.getD i z = xs[i] := by simp [List.getD, h]
theorem fY {α : Type} {xs : List α} {i : Nat} {z : α} (h : ¬ i < xs.length) : xs.getD i z = z := by simp [List.getD]; rw [List.getElem?_eq_none (by omega)]; rfl
theorem gn {xs : List Int} {i : Nat} : iu (xs.map aP) i = xs.getD i 0 := by
  unfold iu
  by_cases h : i < xs.length
  · rw [getD_map h, dx h]; rfl
  · rw [fY (by simpa using h), fY h]; rfl
theorem uq {xs : List Bool} {i : Nat} : xe (xs.map sE) i = xs.getD i false := by
  unfold xe
  by_cases h : i < xs.length
  · rw [getD_map h, dx h]; rfl
  · rw [fY (by simpa using h), fY h]; rfl
theorem um {xs : List ByteArray} {i : Nat} : pc (xs.map cu) i = xs.getD i ⟨#[]⟩ := by
  unfold pc
  by_cases h : i < xs.length
  · rw [getD_map h, dx h]; rfl
  · rw [fY (by simpa using h), fY h]; rfl
theorem nq {α : Type} {f : α → List L} {xs : List (List α)} {i : Nat} : lA (xs.map (cM f)) i = (xs.getD i []).map f := by
  unfold lA
  by_cases h : i < xs.length
  · rw [getD_map h, dx h]; rfl
  · rw [fY (by simpa using h), fY h]; rfl
theorem dm {α β : Type} {row : α → List L} {dec : List L → β} {r : α → β} {z : α} {xs : List α} {i : Nat} (h1 : ∀ x, dec (row x) = r x) (h2 : dec [] = r z) : dec (List.getD (xs.map row) i []) = r (xs.getD i z) := by
  by_cases h : i < xs.length
  · rw [getD_map h, dx h, h1]
  · rw [fY (by simpa using h), fY h, h2]
theorem bw.getD {α : Type} {n : Nat} {p : α → Prop} {xs : List α} (h : bw n p xs) {i : Nat} {z : α} (hi : i < xs.length) : p (xs.getD i z) := by
 rw [dx hi]; exact h.get hi
theorem qC {S β : Type} {f g : Nat → S → S ⊕ β} {t u : S → β} {n : Nat} (Inv : Nat → S → Prop) (h1 : ∀ i s, i < n → Inv i s → f i s = g i s ∧ ∀ s', f i s = .inl s' → Inv (i + 1) s') (h0 : ∀ s, Inv n s → t s = u s) {s : S} (hs : Inv 0 s) : dc f t n 0 s = dc g u n 0 s := by
 have key : ∀ k i s, i + k = n → Inv i s → dc f t k i s = dc g u k i s := by
  intro k
  induction k with
  | zero =>
   intro i s hi hs
   have : i = n := by omega
   subst this
   exact h0 s hs
  | succ k ih =>
   intro i s hi hs
   obtain ⟨e, p⟩ := h1 i s (by omega) hs
   unfold dc
   rw [← e]
   cases hf : f i s with
   | inl s' => exact ih (i + 1) s' (by omega) (p s' hf)
   | inr b => rfl
 exact key n 0 s (by omega) hs
theorem iG {α : Type} {xs ys : List α} (z : α) {f : Nat → Unit → Unit ⊕ Bool} {tail : Unit → Bool} (hf : ∀ i s, i < xs.length → i < ys.length → f i s = bif cU (xs.getD i z) (ys.getD i z) then .inl s else .inr false) (ht : ∀ s, tail s = true) :
    (cond ((xs.length : Int) != (ys.length : Int)) false (dc f tail xs.length 0 ())) = cU xs ys := by
  by_cases hl : xs.length = ys.length
  · rw [hl, bne_self_eq_false, cond_false, ← hl]
    have key : ∀ k i, i + k = xs.length → dc f tail k i () = cU (xs.drop i) (ys.drop i) := by
      intro k
      induction k with
      | zero =>
        intro i hi
        have : i = xs.length := by omega
        subst this
        unfold dc
        rw [ht, List.drop_eq_nil_of_le (Nat.le_refl _), List.drop_eq_nil_of_le (by omega), eC]
      | succ k ih =>
        intro i hi
        have h1 : i < xs.length := by omega
        have h2 : i < ys.length := by omega
        unfold dc
        rw [hf i () h1 h2, dx h1, dx h2, List.drop_eq_getElem_cons h1, List.drop_eq_getElem_cons h2]
        cases hc : cU xs[i] ys[i]
        · have : cU (xs[i] :: xs.drop (i + 1)) (ys[i] :: ys.drop (i + 1)) = false := by
            rw [jN] at hc ⊢
            intro h; injection h with h; exact hc h
          rw [this]; rfl
        · show dc f tail k (i + 1) () = _
          rw [ih (i + 1) (by omega)]
          rw [ca] at hc
          rw [Bool.eq_iff_iff, ca, ca, hc]
          constructor
          · intro h; rw [h]
          · intro h; injection h
    simpa using key xs.length 0 (by omega)
  · have h2 : ((xs.length : Int) != (ys.length : Int)) = true := by simpa using fun h => hl (by omega)
    have h3 : cU xs ys = false := jN.2 fun h => hl (by rw [h])
    rw [h2, h3]; rfl
end Go.DM
namespace Go.DM
theorem bZ {c : Bool} {x y r : ay} (hc : c = false) (h : y = r) : (cond c x y) = r := by subst hc; exact h
theorem aY.no {S β : Type} {K : S → ay} {out : β → ay} {P : S → Prop} {c : Bool} {x y : ay} {r : S ⊕ β} (hc : c = false) (h : aY y K out P r) : aY (cond c x y) K out P r := by rw [hc]; exact h
theorem jo {a : ay} : either a a = a := by simp [either]
theorem dV {β : Type} {out : β → ay} {x : Nat → ay} {a b : β} (h : a = b) (k : ∃ n, x n = out a) : ∃ n, x n = out b := h ▸ k
theorem aN {γ : Type} [RT γ] {o : Option γ} {k : γ → ay} {r : ay} (b : γ) (h : o = some b) (hk : k b = r) : call o k = r := (ba h k).trans hk
theorem dF {γ : Type} [RT γ] {o : Option γ} {k : Nat → γ → ay} {r : ay} (b : γ) (h : o = some b) (hk : ∃ n, k n b = r) : ∃ n, call o (k n) = r := uQ h hk
theorem aY.aN {S β γ : Type} [RT γ] {K : S → ay} {out : β → ay} {P : S → Prop} {o : Option γ} {k : γ → ay} {r : S ⊕ β} (b : γ) (h : o = some b) (hk : aY (k b) K out P r) : aY (DM.call o k) K out P r := aY.call h hk
def dy {α S β : Type} (f : Nat → α → S → S ⊕ β) (t : S → β) : Nat → List α → S → β
 | _, [], s => t s
 | i, x :: xs, s => match f i x s with
  | .inl s' => dy f t (i + 1) xs s'
  | .inr b => b
def dG {α S β : Type} (f : α → S → S ⊕ β) (t : S → β) : List α → S → β
 | [], s => t s
 | x :: xs, s => match f x s with
  | .inl s' => dG f t xs s'
  | .inr b => b
theorem cV {α S β : Type} {f : Nat → α → S → S ⊕ β} {t : S → β} {xs : List α} {z : α} {s : S} : dc (fun i s => f i (xs.getD i z) s) t xs.length 0 s = dy f t 0 xs s := by
 have key : ∀ (k i : Nat) (s : S), i + k = xs.length → dc (fun i s => f i (xs.getD i z) s) t k i s = dy f t i (xs.drop i) s := by
  intro k
  induction k with
  | zero =>
   intro i s hi
   have : i = xs.length := by omega
   subst this
   rw [List.drop_eq_nil_of_le (Nat.le_refl _)]; rfl
  | succ k ih =>
   intro i s hi
   have hlt : i < xs.length := by omega
   rw [List.drop_eq_getElem_cons hlt]
   unfold dc dy
   rw [dx hlt]
   cases f i xs[i] s with
   | inl s' => exact ih (i + 1) s' (by omega)
   | inr b => rfl
 simpa using key xs.length 0 s (by omega)
theorem mb {α S β : Type} {f : α → S → S ⊕ β} {t : S → β} : ∀ {xs : List α} {i : Nat} {s : S}, dy (fun _ x s => f x s) t i xs s = dG f t xs s
 | [], _, _ => rfl
 | x :: xs, i, s => by
  unfold dy dG
  cases f x s with
  | inl s' => exact mb
  | inr b => rfl
theorem dO {α S β : Type} {f : α → S → S ⊕ β} {t : S → β} {xs : List α} {z : α} {s : S} : dc (fun i s => f (xs.getD i z) s) t xs.length 0 s = dG f t xs s :=
 (cV (f := fun _ x s => f x s)).trans mb
theorem oH {α γ β : Type} {g : α → γ} {t : List γ → β} : ∀ {xs : List α} {s : List γ}, dG (fun x s => .inl (s ++ [g x])) t xs s = t (s ++ xs.map g)
 | [], s => by simp [dG]
 | x :: xs, s => by
  show dG (fun x s => Sum.inl (s ++ [g x])) t xs (s ++ [g x]) = _
  rw [oH]; simp
theorem jJ {α γ β : Type} {xs : List α} {g : α → γ} {z : α} {t : List γ → β} {s : List γ} : dc (fun i s => .inl (s ++ [g (xs.getD i z)])) t xs.length 0 s = t (s ++ xs.map g) :=
 (dO (f := fun x s => .inl (s ++ [g x]))).trans oH
theorem mO {α γ β : Type} {g : α → List γ} {t : List γ → β} : ∀ {xs : List α} {s : List γ}, dG (fun x s => .inl (s ++ g x)) t xs s = t (s ++ xs.flatMap g)
 | [], s => by simp [dG]
 | x :: xs, s => by
  show dG (fun x s => Sum.inl (s ++ g x)) t xs (s ++ g x) = _
  rw [mO]; simp
theorem nC {α γ β : Type} {xs : List α} {g : α → List γ} {z : α} {t : List γ → β} {s : List γ} : dc (fun i s => .inl (s ++ g (xs.getD i z))) t xs.length 0 s = t (s ++ xs.flatMap g) :=
 (dO (f := fun x s => .inl (s ++ g x))).trans mO
theorem jE {α γ : Type} {g : α → List γ} {n : Nat} : ∀ {xs : List α}, (∀ x ∈ xs, (g x).length ≤ n) → (xs.flatMap g).length ≤ xs.length * n
 | [], _ => by simp
 | x :: xs, h => by
  have h1 := h x (by simp)
  have h2 := jE (xs := xs) fun y hy => h y (by simp [hy])
  simp only [List.flatMap_cons, List.length_append, List.length_cons, Nat.succ_mul]
  omega
theorem mY {α γ β : Type} {xs : List α} {g : α → γ} {z : α} {t : List γ → β} : dc (fun i s => .inl (s ++ [g (xs.getD i z)])) t xs.length 0 [] = t (xs.map g) := by
 have := jJ (xs := xs) (g := g) (z := z) (t := t) (s := [])
 simpa using this
theorem fV {α β : Type} {xs : List α} {z : α} {t : List α → β} : dc (fun i s => .inl (s ++ [xs.getD i z])) t xs.length 0 [] = t xs := by
 have := jJ (xs := xs) (g := fun x => x) (z := z) (t := t) (s := [])
 simpa using this
theorem ml {α S β : Type} {f g : α → S → S ⊕ β} {t u : S → β} {xs : List α} {s : S} (h : ∀ x ∈ xs, ∀ s, f x s = g x s) (h0 : ∀ s, t s = u s) : dG f t xs s = dG g u xs s := by
 induction xs generalizing s with
 | nil => exact h0 s
 | cons x xs ih =>
  unfold dG
  rw [h x (by simp)]
  cases g x s with
  | inl s' => exact ih fun y hy => h y (by simp [hy])
  | inr b => rfl
theorem oa {α β : Type} {p : α → Bool} {b c : β} : ∀ {xs : List α} {s : Unit}, dG (fun x s => bif p x then .inr b else .inl s) (fun _ => c) xs s = bif xs.any p then b else c
  | [], _ => rfl
  | x :: xs, s => by
    unfold dG
    rw [List.any_cons]
    cases p x
    · exact oa
    · rfl
def jb {α : Type} (p : α → Bool) : Nat → List α → Int
 | _, [] => -1
 | i, x :: xs => bif p x then (i : Int) else jb p (i + 1) xs
theorem gJ {α : Type} {p : α → Bool} : ∀ {xs : List α} {i : Nat} {s : Unit}, dy (fun i x s => bif p x then .inr (i : Int) else .inl s) (fun _ => (-1 : Int)) i xs s = jb p i xs
  | [], _, _ => rfl
  | x :: xs, i, s => by
    unfold dy jb
    cases p x
    · exact gJ
    · rfl
theorem oE {α : Type} {p : α → Bool} : ∀ {xs : List α} {i : Nat}, decide (jb p i xs < 0) = !(xs.any p)
  | [], i => rfl
  | x :: xs, i => by
    unfold jb
    rw [List.any_cons]
    cases p x
    · exact oE
    · simp
end Go.DM
namespace Go.DM
def gu (s : ByteArray) : List Int := s.data.toList.map fun b => (b.toNat : Int)
theorem rn (s : ByteArray) : fR s = (gu s).map aP := by simp [fR, gu, aP]
theorem fm (s : ByteArray) : (gu s).length = s.size := by simp [gu]
theorem nN (s : ByteArray) : (fR s).length = s.size := by simp [fR]
theorem gP {f : Nat → Unit → Unit ⊕ Bool} {t : Unit → Bool} {n : Nat} (P : Nat → Prop) (h1 : ∀ i, i < n → P i → f i () = .inl ()) (h2 : ∀ i, i < n → ¬ P i → f i () = .inr false) : dc f t n 0 () = true ↔ (∀ i, i < n → P i) ∧ t () = true := by
  have key : ∀ k i, i + k = n → (dc f t k i () = true ↔ (∀ j, i ≤ j → j < n → P j) ∧ t () = true) := by
    intro k
    induction k with
    | zero =>
      intro i hi
      constructor
      · intro h; exact ⟨fun j h1 h2 => by omega, h⟩
      · intro h; exact h.2
    | succ k ih =>
      intro i hi
      unfold dc
      by_cases hp : P i
      · rw [h1 i (by omega) hp]
        show dc f t k (i + 1) () = true ↔ _
        rw [ih (i + 1) (by omega)]
        constructor
        · intro ⟨h, ht⟩
          refine ⟨fun j h1 h2 => ?_, ht⟩
          by_cases hj : j = i
          · subst hj; exact hp
          · exact h j (by omega) h2
        · intro ⟨h, ht⟩; exact ⟨fun j h1 h2 => h j (by omega) h2, ht⟩
      · rw [h2 i (by omega) hp]
        constructor
        · intro h; cases h
        · intro ⟨h, _⟩; exact (hp (h i (Nat.le_refl _) (by omega))).elim
  rw [key n 0 (by omega)]
  simp
end Go.DM
namespace Go.DM
theorem nF {S β : Type} {f : Nat → S → S ⊕ β} {t : S → β} {k i : Nat} {s : S} : dc f t (k + 1) i s = match f i s with | .inl s' => dc f t k (i + 1) s' | .inr b => b := rfl
theorem dk {Pt : Type} {step : (Pt → ay) → Pt → ay} {p q : Pt} {r : ay} (h : q = p) (k : ∃ n, iter step n p = r) : ∃ n, iter step n q = r := h ▸ k
theorem qp {Pt S β : Type} {step : (Pt → ay) → Pt → ay} {pt : Nat → S → Pt} {n : Nat} {f : Nat → S → S ⊕ β} {tail : S → β} {out : β → ay} (Inv : Nat → S → Prop)
  (h1 : ∀ (i : Nat) (s : S), i < n → Inv i s → ∀ K : S ⊕ β → ay, (∀ s', Inv (i + 1) s' → ∃ m, iter step m (pt (i + 1) s') = K (.inl s')) → (∀ b, K (.inr b) = out b) → ∃ m, step (iter step m) (pt i s) = K (f i s))
  (h0 : ∀ s, Inv n s → ∃ m, step (iter step m) (pt n s) = out (tail s)) {s : S} (hs : Inv 0 s) : ∃ m, iter step m (pt 0 s) = out (dc f tail n 0 s) := by
 have key : ∀ k i s, i + k = n → Inv i s → ∃ m, iter step m (pt i s) = out (dc f tail k i s) := by
  intro k
  induction k with
  | zero =>
   intro i s hi hs
   have : i = n := by omega
   subst this
   obtain ⟨m, hm⟩ := h0 s hs
   exact ⟨m + 1, hm⟩
  | succ k ih =>
   intro i s hi hs
   obtain ⟨m, hm⟩ := h1 i s (by omega) hs (fun r => out (match r with | .inl s' => dc f tail k (i + 1) s' | .inr b => b)) (fun s' hs' => ih (i + 1) s' (by omega) hs') (fun b => rfl)
   refine ⟨m + 1, hm.trans ?_⟩
   rw [nF]
 exact key n 0 s (by omega) hs
theorem qn {α : Type} {f : Nat → α → Unit → Unit ⊕ Int} (h : ∀ i x s b, f i x s = .inr b → b = (i : Int)) : ∀ (xs : List α) (i : Nat) (s : Unit), -1 ≤ dy f (fun _ => (-1 : Int)) i xs s ∧ dy f (fun _ => (-1 : Int)) i xs s < (i : Int) + xs.length
 | [], i, s => by simp only [dy, List.length_nil]; omega
 | x :: xs, i, s => by
  unfold dy
  cases hf : f i x s with
  | inl s' =>
   have := qn h xs (i + 1) s'
   simp only [List.length_cons]
   omega
  | inr b =>
   have := h i x s b hf
   simp only [List.length_cons]
   omega
end Go.DM
namespace Go.DM
theorem iy {α : Type} {f : Nat → α → Unit → Unit ⊕ Int} (h : ∀ i x s b, f i x s = .inr b → b = (i : Int)) (xs : List α) (s : Unit) : -1 ≤ dy f (fun _ => (-1 : Int)) 0 xs s ∧ dy f (fun _ => (-1 : Int)) 0 xs s < (xs.length : Int) := by
 have := qn h xs 0 s
 simpa using this
theorem mX {α : Type} {p : α → Bool} {xs : List α} : decide (jb p 0 xs ≥ 0) = xs.any p := by
 have := oE (p := p) (xs := xs) (i := 0)
 cases h : xs.any p <;> rw [h] at this <;> simp at this ⊢ <;> omega
end Go.DM
namespace Go.DM
theorem jF {α S β : Type} {f : Nat → α → S → S ⊕ β} {c : β} (h : ∀ i x s b, f i x s = .inr b → b = c) : ∀ (xs : List α) (i : Nat) (s : S), dy f (fun _ => c) i xs s = c
 | [], _, _ => rfl
 | x :: xs, i, s => by
  unfold dy
  cases hf : f i x s with
  | inl s' => exact jF h xs _ _
  | inr b => exact h _ _ _ _ hf
theorem lY {S β : Type} {f : Nat → S → S ⊕ β} {c : β} (h : ∀ i s b, f i s = .inr b → b = c) : ∀ (k i : Nat) (s : S), dc f (fun _ => c) k i s = c
 | 0, _, _ => rfl
 | k + 1, i, s => by
  rw [nF]
  cases hf : f i s with
  | inl s' => exact lY h k _ _
  | inr b => exact h _ _ _ hf
end Go.DM
namespace Go.DM
theorem lO {α : Type} {f : Nat → α → Unit → Unit ⊕ Int} {p : α → Bool} (h : ∀ i x s, f i x s = bif p x then .inr (i : Int) else .inl ()) : ∀ (xs : List α) (i : Nat) (s : Unit), dy f (fun _ => (-1 : Int)) i xs s = jb p i xs
  | [], _, _ => rfl
  | x :: xs, i, s => by
    unfold dy jb
    rw [h]
    cases p x
    · exact lO h xs _ _
    · rfl
theorem wU {b c : Bool} : (cond (!b) false c) = (b && c) := by cases b <;> rfl
theorem vF {b c : Bool} : (cond b c false) = (b && c) := by cases b <;> rfl
end Go.DM
namespace Go.DM
theorem kt {α β : Type} {f : α → Unit → Unit ⊕ β} {p : α → Bool} {b c : β} (h : ∀ x s, f x s = bif p x then .inr b else .inl ()) : ∀ (xs : List α) (s : Unit), dG f (fun _ => c) xs s = bif xs.any p then b else c
  | [], _ => rfl
  | x :: xs, s => by
    unfold dG
    rw [List.any_cons, h]
    cases p x
    · exact kt h xs ()
    · rfl
theorem ou {α : Type} {f : Nat → α → Unit → Unit ⊕ Int} {z : α} (h : ∀ i x s b, f i x s = .inr b → b = (i : Int)) {xs : List α} (hn : dy f (fun _ => (-1 : Int)) 0 xs () < 0) : ∀ i, i < xs.length → f i (xs.getD i z) () = .inl () := by
 have key : ∀ (ys : List α) (k : Nat), dy f (fun _ => (-1 : Int)) k ys () < 0 → ∀ i, i < ys.length → f (k + i) (ys.getD i z) () = .inl () := by
  intro ys
  induction ys with
  | nil => intro k _ i hi; simp at hi
  | cons y ys ih =>
   intro k hk i hi
   unfold dy at hk
   cases hf : f k y () with
   | inr b =>
    rw [hf] at hk
    have := h k y () b hf
    simp only at hk
    omega
   | inl s' =>
    rw [hf] at hk
    cases i with
    | zero => simpa using hf
    | succ i =>
     have := ih (k + 1) hk i (by simpa using hi)
     rw [show k + 1 + i = k + (i + 1) by omega] at this
     simpa using this
 intro i hi
 have := key xs 0 hn i hi
 simpa using this
end Go.DM
namespace Go.DM
end Go.DM
namespace Go.DM
class Row (α : Type) where
 row : α → List L
 wI : ∀ {a b : α}, row a = row b → a = b
class Im (α : Type) (β : outParam Type) where
 im : α → β
 inj : ∀ {a b : α}, im a = im b → a = b
instance : Row Int := ⟨aP, jB⟩
instance : Row Bool := ⟨sE, tc⟩
instance : Row ByteArray := ⟨cu, pP⟩
instance {α : Type} [Row α] : Row (List α) := ⟨cM Row.row, pX Row.wI⟩
instance : Im Int Int := ⟨fun x => x, fun h => h⟩
instance : Im Bool Bool := ⟨fun x => x, fun h => h⟩
instance : Im ByteArray ByteArray := ⟨fun x => x, fun h => h⟩
instance : Im Unit Unit := ⟨fun x => x, fun h => h⟩
instance {α : Type} [Row α] : Im (List α) (List (List L)) := ⟨fun x => x.map Row.row, fun h => map_inj Row.wI h⟩
instance {α α' β β' : Type} [Im α α'] [Im β β'] : Im (α × β) (α' × β') := ⟨fun x => (Im.im x.1, Im.im x.2), fun h => Prod.ext (Im.inj (congrArg (fun x => x.1) h)) (Im.inj (congrArg (fun x => x.2) h))⟩
def u2 {a b r : Type} (f : a → b → r) (x : a × b) : r := f x.1 x.2
def u3 {a b c r : Type} (f : a → b → c → r) (x : a × b × c) : r := f x.1 x.2.1 x.2.2
def u4 {a b c d r : Type} (f : a → b → c → d → r) (x : a × b × c × d) : r := f x.1 x.2.1 x.2.2.1 x.2.2.2
def u5 {a b c d e r : Type} (f : a → b → c → d → e → r) (x : a × b × c × d × e) : r := f x.1 x.2.1 x.2.2.1 x.2.2.2.1 x.2.2.2.2
def p2 {a b : Type} (f : a → b → Prop) (x : a × b) : Prop := f x.1 x.2
def p3 {a b c : Type} (f : a → b → c → Prop) (x : a × b × c) : Prop := f x.1 x.2.1 x.2.2
def p4 {a b c d : Type} (f : a → b → c → d → Prop) (x : a × b × c × d) : Prop := f x.1 x.2.1 x.2.2.1 x.2.2.2
def p5 {a b c d e : Type} (f : a → b → c → d → e → Prop) (x : a × b × c × d × e) : Prop := f x.1 x.2.1 x.2.2.1 x.2.2.2.1 x.2.2.2.2
section
variable {A A' B B' : Type} [Im A A'] [Im B B'] {g : A → Prop} {m : A → B}
def RR (g : A → Prop) (m : A → B) (x : A') : Option B' := ofM Im.im g (fun a => Im.im (m a)) x
theorem aE {a : A} (h : g a) : RR g m (Im.im a) = some (Im.im (m a)) := we (fun _ _ h => Im.inj h) h
def CN [RT B'] (ps : List fE) (r : RP) (acc : List L → A') (R : A' → Option B') : fe := ⟨ps, r, fun ls => (R (acc ls)).map RT.enc⟩
theorem VP [RT B'] {X : Type} {P : Program} {T : List (Nat × TI)} {G : List (Nat × fe)} {nt : Nat} {f : FuncId} {fn : Func} {ps : List fE} {r : RP} {acc : List L → A'} {accr : List L → X} {live : Nat → Live} {run : Nat → X → ay}
  (hm : P.follows .mixedOrders = true) (hT : dE P T = true) (hG : fg P (cR T) G) (hf : P.funcs[f]? = some fn) (hb : oV fn (CN ps r acc (RR g m)) nt = true)
  (hrun : ∀ n ls, ea { T := assoc T, G := cK G, nt := nt } live fn r n (cG ps ls) = run n (accr ls))
  (hok : ∀ ls a, nP (cR T).cells ps ls → acc ls = Im.im a → g a → ∃ n, run n (accr ls) = ret (Im.im (m a))) : Valid P (cR T) f (CN ps r acc (RR g m)) :=
 valid hm hT hG hf hb live fun ls q hl h => by
  obtain ⟨v, hv, hq⟩ := map_some h
  obtain ⟨a, hg, e, hm⟩ := lh hv
  obtain ⟨n, hn⟩ := hok ls a hl e.symm hg
  exact ⟨n, (hrun n ls).trans (hn.trans (by rw [← hq, ← hm]; rfl))⟩
theorem VV [RT B'] {P : Program} {T : List (Nat × TI)} {G : List (Nat × fe)} {nt : Nat} {f : FuncId} {fn : Func} {ps : List fE} {r : RP} {acc : List L → A'} {live : Nat → Live} {run : Nat → A' → ay}
  (hm : P.follows .mixedOrders = true) (hT : dE P T = true) (hG : fg P (cR T) G) (hf : P.funcs[f]? = some fn) (hb : oV fn (CN ps r acc (RR g m)) nt = true)
  (hrun : ∀ n ls, ea { T := assoc T, G := cK G, nt := nt } live fn r n (cG ps ls) = run n (acc ls))
  (hok : ∀ ls a, nP (cR T).cells ps ls → acc ls = Im.im a → g a → ∃ n, run n (Im.im a) = ret (Im.im (m a))) : Valid P (cR T) f (CN ps r acc (RR g m)) :=
 VP hm hT hG hf hb hrun fun ls a hl e hg => by rw [e]; exact hok ls a hl e hg
theorem VS [RT B'] {P : Program} {T : List (Nat × TI)} {G : List (Nat × fe)} {S : List (Nat × fN)} {nt : Nat} {f : FuncId} {fn : Func} {ps : List fE} {r : RP} {acc : List L → A'} {live : Nat → Live} {run : Nat → A' → ay}
  (hm : P.follows .mixedOrders = true) (hT : dE P T = true) (hG : fg P (cR T) G) (hS : iU P (cR T) S) (hf : P.funcs[f]? = some fn) (hb : oV fn (CN ps r acc (RR g m)) nt = true)
  (hrun : ∀ n ls, ea { T := assoc T, G := cK G, nt := nt, M := fb S } live fn r n (cG ps ls) = run n (acc ls))
  (hok : ∀ ls a, nP (cR T).cells ps ls → acc ls = Im.im a → g a → ∃ n, run n (Im.im a) = ret (Im.im (m a))) : Valid P (cR T) f (CN ps r acc (RR g m)) :=
 se hm hT hG hS hf hb live fun ls q hl h => by
  obtain ⟨v, hv, hq⟩ := map_some h
  obtain ⟨a, hg, e, hm⟩ := lh hv
  obtain ⟨n, hn⟩ := hok ls a hl e.symm hg
  exact ⟨n, (hrun n ls).trans (by rw [← e]; exact hn.trans (by rw [← hq, ← hm]; rfl))⟩
theorem VI [RT B'] {P : Program} {T : List (Nat × TI)} {G : List (Nat × fe)} {S : List (Nat × fN)} {I : List (Nat × mw)} {nt : Nat} {mt : Bool} {f : FuncId} {fn : Func} {ps : List fE} {r : RP} {acc : List L → A'} {live : Nat → Live} {run : Nat → A' → ay}
  (hm : P.follows .mixedOrders = true) (hT : dE P T = true) (hG : fg P (cR T) G) (hS : iU P (cR T) S) (hI : lx P (cR T) I) (hf : P.funcs[f]? = some fn) (hb : oV fn (CN ps r acc (RR g m)) nt = true)
  (hrun : ∀ n ls, ea { T := assoc T, G := cK G, nt := nt, M := fb S, mt := mt, I := ni I } live fn r n (cG ps ls) = run n (acc ls))
  (hok : ∀ ls a, nP (cR T).cells ps ls → acc ls = Im.im a → g a → ∃ n, run n (Im.im a) = ret (Im.im (m a))) : Valid P (cR T) f (CN ps r acc (RR g m)) :=
 vi hm hT hG hS hI hf hb live fun ls q hl h => by
  obtain ⟨v, hv, hq⟩ := map_some h
  obtain ⟨a, hg, e, hm⟩ := lh hv
  obtain ⟨n, hn⟩ := hok ls a hl e.symm hg
  exact ⟨n, (hrun n ls).trans (by rw [← e]; exact hn.trans (by rw [← hq, ← hm]; rfl))⟩
def MN [RT B'] (ps : List (Bool × List K)) (acc : List L → A') (R : A' → Option B') : fN := ⟨ps, fun ls => (R (acc ls)).map RT.enc⟩
theorem MV [RT B'] {P : Program} {T : List (Nat × TI)} {G : List (Nat × fe)} {S : List (Nat × fN)} {nt : Nat} {f : FuncId} {fn : Func} {ps : List (Bool × List K)} {acc : List L → A'} {live : Nat → Live} {run : Nat → A' → ay}
  (hm : P.follows .mixedOrders = true) (hT : dE P T = true) (hG : fg P (cR T) G) (hS : iU P (cR T) S) (hf : P.funcs[f]? = some fn) (hb : wb fn (MN ps acc (RR g m)) nt = true)
  (hrun : ∀ n ls, ea { T := assoc T, G := cK G, nt := nt, M := fb S, np := (iM ps).length, mt := true } live fn (.mj (iM ps)) n (gm ps ls) = run n (acc ls))
  (hok : ∀ ls a, uV (cR T).cells ps ls → acc ls = Im.im a → g a → ∃ n, run n (Im.im a) = ret (Im.im (m a))) : dR P (cR T) f (MN ps acc (RR g m)) :=
 wu hm hT hG hS hf hb live fun ls q hl h => by
  obtain ⟨v, hv, hq⟩ := map_some h
  obtain ⟨a, hg, e, hm⟩ := lh hv
  obtain ⟨n, hn⟩ := hok ls a hl e.symm hg
  exact ⟨n, (hrun n ls).trans (by rw [← e]; exact hn.trans (by rw [← hq, ← hm]; rfl))⟩
theorem eB (n : Nat) : (Nat.beq n n && true) = true := by rw [Nat.beq_refl]; rfl
end
theorem S0 : (∀ (α β : Type) (f : α → β) (l : List α), (l.map f).length = l.length) ∧ (∀ n : Nat, Int.toNat (n : Int) = n) ∧ (∀ s : ByteArray, fR s = (gu s).map aP) ∧ (∀ (xs : List Int) i, iu (xs.map aP) i = xs.getD i 0) ∧
  (∀ (xs : List Bool) i, xe (xs.map sE) i = xs.getD i false) ∧ (∀ (xs : List ByteArray) i, pc (xs.map cu) i = xs.getD i ⟨#[]⟩) ∧ (∀ (α : Type) (f : α → List L) (xs : List (List α)) i, lA (xs.map (cM f)) i = (xs.getD i []).map f) :=
 ⟨fun _ _ _ _ => List.length_map .., cg, rn, fun _ _ => gn, fun _ _ => uq, fun _ _ => um, fun _ _ _ _ => nq⟩
theorem MP : (∀ (α β : Type) (f : α → β) (a b : List α), (a ++ b).map f = a.map f ++ b.map f) ∧ (∀ (α β : Type) (f : α → β) (a : α) (b : List α), (a :: b).map f = f a :: b.map f) ∧ (∀ (α β : Type) (f : α → β), [].map f = []) ∧
  (∀ (α : Type) (a : α) (b c : List α), (a :: b) ++ c = a :: (b ++ c)) ∧ (∀ (α : Type) (c : List α), [] ++ c = c) ∧ (∀ n, aP n = [.int n]) ∧ (∀ n, sE n = [.bool n]) ∧ (∀ n, cu n = [.str n]) ∧ (∀ (α : Type) (f : α → List L) (c : List α), cM f c = [.sl (c.map f)]) ∧
  (∀ (α β : Type) (f : α → β) (l : List α) (i : Nat) (a : α), (l.set i a).map f = (l.map f).set i (f a)) :=
 ⟨fun _ _ _ _ _ => List.map_append .., fun _ _ _ _ _ => rfl, fun _ _ _ => rfl, fun _ _ _ _ => rfl, fun _ _ => rfl, fun _ => rfl, fun _ => rfl, fun _ => rfl, fun _ _ _ => rfl, fun _ _ _ _ _ _ => List.map_set ..⟩
theorem LN : (∀ (a : Nat) (l : List Nat), (a :: l).sum = a + l.sum) ∧ (([] : List Nat).sum = 0) ∧ (∀ (α β : Type) (f : α → β) (a : α) (b : List α), (a :: b).map f = f a :: b.map f) ∧ (∀ (α β : Type) (f : α → β), [].map f = []) ∧ (∀ s, (gu s).length = s.size) ∧ (∀ s, (fR s).length = s.size) ∧
  (∀ (α : Type) (a b : List α), (a ++ b).length = a.length + b.length) ∧ (∀ (α : Type) (a : α) (b : List α), (a :: b).length = b.length + 1) ∧ (∀ (α : Type), ([] : List α).length = 0) ∧ (∀ (α β : Type) (f : α → β) (l : List α), (l.map f).length = l.length) ∧
  (∀ (α : Type) (l : List α) (i : Nat) (a : α), (l.set i a).length = l.length) ∧ (∀ (α : Type) (n : Nat) (a : α), (List.replicate n a).length = n) ∧ (∀ (α : Type) (l : List α) (i : Nat), (l.take i).length = min i l.length) ∧ (∀ (α : Type) (l : List α) (i : Nat), (l.drop i).length = l.length - i) :=
 ⟨fun _ _ => List.sum_cons, rfl, fun _ _ _ _ _ => rfl, fun _ _ _ => rfl, fm, nN, fun _ _ _ => List.length_append .., fun _ _ _ => rfl, fun _ => rfl, fun _ _ _ _ => List.length_map .., fun _ _ _ _ => List.length_set .., fun _ _ _ => List.length_replicate .., fun _ _ _ => List.length_take .., fun _ _ _ => List.length_drop ..⟩
theorem DC : (∀ (α : Type) [BEq α] [LawfulBEq α] (a b : α), ((a != b) = false) = (a = b)) ∧ (∀ (α : Type) [BEq α] [LawfulBEq α] (a b : α), ((a != b) = true) = ¬ (a = b)) ∧ (∀ (α : Type) [BEq α] [LawfulBEq α] (a b : α), ((a == b) = true) = (a = b)) ∧ (∀ (α : Type) [BEq α] [LawfulBEq α] (a b : α), ((a == b) = false) = ¬ (a = b)) ∧
  (∀ b : Bool, ((!b) = true) = (b = false)) ∧ (∀ b : Bool, ((!b) = false) = (b = true)) ∧ (∀ (p : Prop) [Decidable p], (decide p = true) = p) ∧ (∀ (p : Prop) [Decidable p], (decide p = false) = ¬ p) :=
 ⟨fun _ _ _ _ _ => by simp, fun _ _ _ _ _ => by simp, fun _ _ _ _ _ => by simp, fun _ _ _ _ _ => by simp, fun b => by simp, fun b => by simp, fun p _ => by simp, fun p _ => by simp⟩
theorem wQ {b c : Bool} : (cond b false c) = (!b && c) := by cases b <;> rfl
theorem wi (n : Int) (h : -9223372036854775808 ≤ n ∧ n ≤ 9223372036854775807) : IntKind.i64.wrap n = n := Go.IntWalk.i64_in n h
theorem lQ {α S β : Type} {f g : Nat → α → S → S ⊕ β} {t u : S → β} : ∀ {xs : List α} {i : Nat} {s : S}, (∀ i, ∀ x ∈ xs, ∀ s, f i x s = g i x s) → (∀ s, t s = u s) → dy f t i xs s = dy g u i xs s
 | [], _, s, _, h0 => h0 s
 | x :: xs, i, s, h, h0 => by
  unfold dy
  rw [h i x (by simp) s]
  cases g i x s with
  | inl s' => exact lQ (fun i y hy => h i y (by simp [hy])) h0
  | inr b => rfl
end Go.DM
namespace Go.DM
def dI (n : Int) : Prop := -9223372036854775808 ≤ n ∧ n ≤ 9223372036854775807
theorem bz (n : Int) : dI (IntKind.i64.wrap n) := by rw [IntKind.wrap_i64]; unfold dI; omega
end Go.DM
namespace Go.DM
def ir {α β : Type} (f : α → Int → Int × β) : List α → Int → Int × List β
 | [], k => (k, [])
 | x :: xs, k => ((ir f xs (f x k).1).1, (f x k).2 :: (ir f xs (f x k).1).2)
theorem jv {α β : Type} {f : α → Int → Int × β} {I : Int → Prop} (h : ∀ x k, I k → I (f x k).1) : ∀ {xs : List α} {k : Int}, I k → I (ir f xs k).1
 | [], _, hk => hk
 | x :: xs, k, hk => jv h (xs := xs) (h x k hk)
theorem nW {α : Type} {c : List α} {i : Nat} {y : α} : (c.set i y).drop (i + 1) = c.drop (i + 1) := by
 apply List.ext_getElem?
 intro j
 rw [List.getElem?_drop, List.getElem?_drop, List.getElem?_set, if_neg (by omega)]
theorem fU {Pt α : Type} {step : (Pt → ay) → Pt → ay} {pt : Nat → Int → List α → Pt} {el : α → Int → Int × α} {out : Int × List α → ay} {xs : List α} (z : α) (I : Int → Prop) (hI : ∀ x k, I k → I (el x k).1)
  (h1 : ∀ (J : Pt → ay) (i : Nat) (k : Int) (c : List α), i < c.length → c.length = xs.length → I k → step J (pt i k c) = J (pt (i + 1) (el (c.getD i z) k).1 (c.set i (el (c.getD i z) k).2)))
  (h0 : ∀ (J : Pt → ay) (k : Int) (c : List α), c.length = xs.length → step J (pt c.length k c) = out (k, c)) {k : Int} (hk : I k) : ∃ m, iter step m (pt 0 k xs) = out (ir el xs k) := by
 have key : ∀ (n i : Nat) (c : List α) (k : Int), i + n = c.length → c.length = xs.length → I k → ∃ m, iter step m (pt i k c) = out ((ir el (c.drop i) k).1, c.take i ++ (ir el (c.drop i) k).2) := by
  intro n
  induction n with
  | zero =>
   intro i c k hi hc hk
   have : i = c.length := by omega
   subst this
   refine ⟨1, (h0 _ k c hc).trans ?_⟩
   rw [List.drop_eq_nil_of_le (Nat.le_refl _), List.take_of_length_le (Nat.le_refl _)]
   simp [ir]
  | succ n ih =>
   intro i c k hi hc hk
   have hlt : i < c.length := by omega
   obtain ⟨m, hm⟩ := ih (i + 1) (c.set i (el (c.getD i z) k).2) (el (c.getD i z) k).1 (by simp; omega) (by simp [hc]) (hI _ _ hk)
   refine ⟨m + 1, (h1 _ i k c hlt hc hk).trans (hm.trans ?_)⟩
   rw [nW, take_set hlt, List.drop_eq_getElem_cons hlt, dx hlt]
   simp [ir]
 have := key xs.length 0 xs k (by omega) rfl hk
 simpa using this
def gM {α : Type} (f : α → Int → Option Int) : List α → Int → Int
 | [], k => k
 | x :: xs, k => match f x k with
  | some k' => gM f xs k'
  | none => -1
def sY : Option Int → (Int → ay) → ay
 | none, _ => ret (-1 : Int)
 | some k, K => K k
theorem bf {c : Bool} {x y : ay} {r : Option Int} {K : Int → ay} (h1 : x = ret (-1 : Int)) (h2 : y = sY r K) : (cond c x y) = sY (cond c none r) K := by
  cases c
  · exact h2
  · exact h1
theorem gG {Pt α : Type} {step : (Pt → ay) → Pt → ay} {pt : Nat → Int → Pt} {f : α → Int → Option Int} {xs : List α} (z : α) (I : Int → Prop) (hI : ∀ x k k', I k → f x k = some k' → I k')
  (h1 : ∀ (J : Pt → ay) (i : Nat) (k : Int), i < xs.length → I k → step J (pt i k) = sY (f (xs.getD i z) k) (fun k' => J (pt (i + 1) k')))
  (h0 : ∀ (J : Pt → ay) (k : Int), step J (pt xs.length k) = ret k) {k : Int} (hk : I k) : ∃ m, iter step m (pt 0 k) = ret (gM f xs k) := by
 have key : ∀ (n i : Nat) (k : Int), i + n = xs.length → I k → ∃ m, iter step m (pt i k) = ret (gM f (xs.drop i) k) := by
  intro n
  induction n with
  | zero =>
   intro i k hi hk
   have : i = xs.length := by omega
   subst this
   refine ⟨1, (h0 _ k).trans ?_⟩
   rw [List.drop_eq_nil_of_le (Nat.le_refl _)]; rfl
  | succ n ih =>
   intro i k hi hk
   have hlt : i < xs.length := by omega
   rw [List.drop_eq_getElem_cons hlt]
   have h := fun J => h1 J i k hlt hk
   rw [dx hlt] at h
   unfold gM
   cases hf : f xs[i] k with
   | none => refine ⟨1, (h _).trans ?_⟩; rw [hf]; rfl
   | some k' =>
    obtain ⟨m, hm⟩ := ih (i + 1) k' (by omega) (hI _ _ _ hk hf)
    refine ⟨m + 1, (h _).trans ?_⟩
    rw [hf]; exact hm
 have := key xs.length 0 k (by omega) hk
 simpa using this
theorem bc {c : Bool} {r : Option Int} {k : Int} (h : (cond c none r) = some k) : r = some k := by
  cases c
  · exact h
  · cases h
def mh : Option Int → Int
 | none => -1
 | some k => k
theorem eY {c : Bool} {x y : ay} {r : Option Int} (h1 : x = ret (-1 : Int)) (h2 : y = ret (mh r)) : (cond c x y) = ret (mh (cond c none r)) := by
  cases c
  · exact h2
  · exact h1
theorem iH {α : Type} {f : α → Int → Option Int} {I : Int → Prop} (hI : ∀ x k k', I k → f x k = some k' → I k') (hn : I (-1)) : ∀ {xs : List α} {k : Int}, I k → I (gM f xs k)
 | [], _, hk => hk
 | x :: xs, k, hk => by
  unfold gM
  cases hf : f x k with
  | none => exact hn
  | some k' => exact iH hI hn (hI _ _ _ hk hf)
theorem gh {α : Type} {el : α → Int → Int × α} {eD : α → Nat} (h : ∀ x k, 0 ≤ k → k + (eD x : Int) ≤ 4611686018427387904 → (el x k).1 = k + eD x) :
  ∀ (xs : List α) (k : Int), 0 ≤ k → k + ((xs.map eD).sum : Int) ≤ 4611686018427387904 → (ir el xs k).1 = k + (xs.map eD).sum
 | [], k, _, _ => by simp [ir]
 | x :: xs, k, h0, hb => by
  simp only [List.map_cons, List.sum_cons, Int.natCast_add] at hb ⊢
  have e1 := h x k h0 (by omega)
  have e3 := gh h xs (k + eD x) (by omega) (by omega)
  simp only [ir, e1]
  rw [e3]; omega
theorem fW {α : Type} {el : α → Int → Int × α} {f : α → Int → Option Int} {eD : α → Nat} (h : ∀ x k, 0 ≤ k → k + (eD x : Int) ≤ 4611686018427387904 → (el x k).1 = k + eD x)
  (h2 : ∀ x k, 0 ≤ k → k + (eD x : Int) ≤ 4611686018427387904 → f (el x k).2 k = some (k + eD x)) :
  ∀ (xs : List α) (k : Int), 0 ≤ k → k + ((xs.map eD).sum : Int) ≤ 4611686018427387904 → gM f (ir el xs k).2 k = k + (xs.map eD).sum
 | [], k, _, _ => by simp [ir, gM]
 | x :: xs, k, h0, hb => by
  simp only [List.map_cons, List.sum_cons, Int.natCast_add] at hb ⊢
  have e1 := h x k h0 (by omega)
  have e2 := h2 x k h0 (by omega)
  have e4 := fW h h2 xs (k + eD x) (by omega) (by omega)
  simp only [ir, gM, e1, e2]
  rw [e4]; omega
theorem jz {α : Type} {eD f : α → Nat} (h : ∀ x, eD x ≤ 60 + 60 * f x) : ∀ xs : List α, (xs.map eD).sum ≤ 60 * di f xs
 | [] => by simp
 | x :: xs => by
  have h1 := h x
  have h2 := jz h xs
  unfold di at h2 ⊢
  simp only [List.map_cons, List.sum_cons, List.length_cons]
  omega
theorem kV {α : Type} {f : α → Nat} {xs : List α} {i : Nat} {z : α} (h : i < xs.length) : f (xs.getD i z) ≤ di f xs := by
 rw [dx h]
 have := pK (f := f) (List.getElem_mem h)
 unfold di
 omega
theorem tV {α : Type} {f : α → Nat} {xs : List α} {i : Nat} {z : α} (hz : f z = 0) : f (xs.getD i z) ≤ di f xs := by
  by_cases h : i < xs.length
  · exact kV h
  · rw [List.getD_eq_getElem?_getD, List.getElem?_eq_none (by omega)]
    show f z ≤ _
    omega
theorem sh {α : Type} {f : α → Nat} : ∀ (xs : List α) (i : Nat) (y : α), di f (xs.set i y) ≤ di f xs + (f y + 1)
 | [], _, _ => by simp [di]
 | x :: xs, 0, y => by simp [di]; omega
 | x :: xs, i + 1, y => by
  have := sh (f := f) xs i y
  simp [di] at this ⊢
  omega
theorem qu {α : Type} {f : α → Nat} (xs : List α) (y : α) : di f (xs ++ [y]) ≤ di f xs + (f y + 1) := by simp [di]; omega
theorem re : ∀ xs : List Int, di (fun _ : Int => 0) xs = xs.length
 | [] => rfl
 | x :: xs => by
  have := re xs
  simp only [di, List.length_cons, List.map_cons, List.sum_cons] at this ⊢
  omega
theorem bw.set {α : Type} {n : Nat} {p : α → Prop} {xs : List α} {i : Nat} {y : α} (h : bw n p xs) (g : p y) : bw n p (xs.set i y) :=
 ⟨by rw [List.length_set]; exact h.1, fun x hx => (List.mem_or_eq_of_mem_set hx).elim (h.2 x) fun e => e ▸ g⟩
theorem bw.app {α : Type} {n a b : Nat} {p : α → Prop} {xs ys : List α} (h : bw a p xs) (g : bw b p ys) (hn : a + b ≤ n) : bw n p (xs ++ ys) :=
 ⟨by rw [List.length_append]; have := h.1; have := g.1; omega, fun x hx => (List.mem_append.1 hx).elim (h.2 x) (g.2 x)⟩
theorem bw.wD {α : Type} {n : Nat} {p : α → Prop} {xs : List α} {i : Nat} {z : α} (h : bw n p xs) (hz : p z) : p (xs.getD i z) := by
  by_cases hi : i < xs.length
  · exact bw.getD h hi
  · rw [List.getD_eq_getElem?_getD, List.getElem?_eq_none (by omega)]; exact hz
theorem bw.one {α : Type} {p : α → Prop} {y : α} (h : p y) : bw 1 p [y] := ⟨Nat.le_refl _, fun x hx => by rw [List.mem_singleton.1 hx]; exact h⟩
theorem gW : dI (-1) := ⟨by decide, by decide⟩
theorem kQ : dI 1 := ⟨by decide, by decide⟩
theorem nb {α S β γ : Type} {f : Nat → α → S → S ⊕ β} {t : S → β} {g : α → S → S ⊕ γ} {u : S → γ} {p : β → γ} (h : ∀ i x s, (f i x s).map id p = g x s) (h0 : ∀ s, p (t s) = u s) :
  ∀ (xs : List α) (i : Nat) (s : S), p (dy f t i xs s) = dG g u xs s
 | [], i, s => h0 s
 | x :: xs, i, s => by
  have hx := h i x s
  unfold dy dG
  rw [← hx]
  cases f i x s with
  | inl s' => exact nb h h0 xs (i + 1) s'
  | inr b => rfl
theorem lm {n : Int} (h : n ≤ 140737488355328 := by (try simp (disch := omega) only [LN, wi]); first | omega | (simp; done) | (simp; omega)) : dU n = true := iD h
theorem dt {p : Prop} {_ : Decidable p} (h : p := by (try simp (disch := omega) only [LN, wi]); first | omega | (simp; done) | (simp; omega)) : decide p = true := decide_eq_true h
theorem df {p : Prop} {_ : Decidable p} (h : ¬ p := by (try simp (disch := omega) only [LN, wi]); first | omega | (simp; done) | (simp; omega)) : decide p = false := decide_eq_false h
theorem om {p : Prop} (h : p := by (try simp (disch := omega) only [LN, wi]); first | omega | (simp; done) | (simp; omega)) : p := h
theorem ct {γ : Type} [RT γ] {o : Option γ} {b : γ} {k : γ → ay} {r : ay} (h : o = some b) (hk : k b = r) : call o k = r := aN b h hk
theorem cx {γ : Type} [RT γ] {o : Option γ} {b : γ} {k : Nat → γ → ay} {r : ay} (h : o = some b) (hk : ∃ n, k n b = r) : ∃ n, call o (k n) = r := dF b h hk
theorem cr {S β γ : Type} [RT γ] {K : S → ay} {out : β → ay} {Q : S → Prop} {o : Option γ} {b : γ} {k : γ → ay} {r : S ⊕ β} (h : o = some b) (hk : aY (k b) K out Q r) : aY (DM.call o k) K out Q r := aY.aN b h hk
theorem W1 {A A' : Type} {Z Z' : Type} [Im A A'] [RT A'] [Im Z Z'] [RT Z'] {P : Program} {T : List (Nat × TI)} {G : List (Nat × fe)} {f : FuncId} {fn : Func} {ps : List fE} {r : RP} {g : A → Prop} {m : A → Z} (nt : Nat) (F : A' → ay) (hm : P.follows .mixedOrders = true) (hT : dE P T = true) (ok : ∀ a0, g a0 → F (Im.im a0) = ret (Im.im (m a0))) (hG : fg P (cR T) G) (hf : P.funcs[f]? = some fn)
  (hb : oV fn (CN ps r (RT.dec : List L → A') (RR g m)) nt = true := by kernel_rfl) (hr : ∀ n ls, ea { T := assoc T, G := cK G, nt := nt } (fun _ => []) fn r n (cG ps ls) = F (RT.dec ls : A') := by intro _ _; kernel_rfl) : Valid P (cR T) f (CN ps r (RT.dec : List L → A') (RR g m)) :=
 VV (run := fun _ x => F x) hm hT hG hf hb hr fun _ a _ _ h => ⟨0, ok a h⟩
theorem L1 {A A' : Type} {Z Z' : Type} [Im A A'] [RT A'] [Im Z Z'] [RT Z'] {P : Program} {T : List (Nat × TI)} {G : List (Nat × fe)} {f : FuncId} {fn : Func} {ps : List fE} {r : RP} {g : A → Prop} {m : A → Z} {Pt : Type} (nt : Nat) (id : Pt → Nat) (vs : Pt → List V) (hs : Pt → List aI) (live : Nat → Live) (step : (Pt → ay) → Pt → ay) (start : (Pt → ay) → A' → ay) (hm : P.follows .mixedOrders = true) (hT : dE P T = true) (ok : ∀ a0, g a0 → ∃ n, start (iter step n) (Im.im a0) = ret (Im.im (m a0))) (hG : fg P (cR T) G) (hf : P.funcs[f]? = some fn)
  (hb : oV fn (CN ps r (RT.dec : List L → A') (RR g m)) nt = true := by kernel_rfl) (h1 : ∀ (I : bY) (p : Pt), cz { T := assoc T, G := cK G, nt := nt } live I (id p) (bo fn) (eN (live (id p)) (vs p) (hs p)) (bX { T := assoc T, G := cK G, nt := nt } fn r) = step (fun q => I (id q) (vs q) (hs q)) p := by intro _ p; cases p <;> kernel_rfl)
  (h0 : ∀ (I : bY) (ls : List L), ee { T := assoc T, G := cK G, nt := nt } live I (bo fn) (cG ps ls) (bX { T := assoc T, G := cK G, nt := nt } fn r) = start (fun q => I (id q) (vs q) (hs q)) (RT.dec ls : A') := by intro _ _; kernel_rfl) : Valid P (cR T) f (CN ps r (RT.dec : List L → A') (RR g m)) :=
 VV (run := fun n x => start (iter step n) x) hm hT hG hf hb (fun n ls => bW (start := fun J => start J (RT.dec ls : A')) h1 (fun I => h0 I ls) n) fun _ a _ _ h => ok a h
theorem W2 {A A' : Type} {B B' : Type} {Z Z' : Type} [Im A A'] [RT A'] [Im B B'] [RT B'] [Im Z Z'] [RT Z'] {P : Program} {T : List (Nat × TI)} {G : List (Nat × fe)} {f : FuncId} {fn : Func} {ps : List fE} {r : RP} {g : A → B → Prop} {m : A → B → Z} (nt : Nat) (F : A' → B' → ay) (hm : P.follows .mixedOrders = true) (hT : dE P T = true) (ok : ∀ a0 a1, g a0 a1 → F (Im.im a0) (Im.im a1) = ret (Im.im (m a0 a1))) (hG : fg P (cR T) G) (hf : P.funcs[f]? = some fn)
  (hb : oV fn (CN ps r (RT.dec : List L → A' × B') (RR (p2 g) (u2 m))) nt = true := by kernel_rfl) (hr : ∀ n ls, ea { T := assoc T, G := cK G, nt := nt } (fun _ => []) fn r n (cG ps ls) = F (RT.dec ls : A' × B').1 (RT.dec ls : A' × B').2 := by intro _ _; kernel_rfl) : Valid P (cR T) f (CN ps r (RT.dec : List L → A' × B') (RR (p2 g) (u2 m))) :=
 VV (run := fun _ x => F x.1 x.2) hm hT hG hf hb hr fun _ a _ _ h => ⟨0, ok a.1 a.2 h⟩
theorem L2 {A A' : Type} {B B' : Type} {Z Z' : Type} [Im A A'] [RT A'] [Im B B'] [RT B'] [Im Z Z'] [RT Z'] {P : Program} {T : List (Nat × TI)} {G : List (Nat × fe)} {f : FuncId} {fn : Func} {ps : List fE} {r : RP} {g : A → B → Prop} {m : A → B → Z} {Pt : Type} (nt : Nat) (id : Pt → Nat) (vs : Pt → List V) (hs : Pt → List aI) (live : Nat → Live) (step : (Pt → ay) → Pt → ay) (start : (Pt → ay) → A' → B' → ay) (hm : P.follows .mixedOrders = true) (hT : dE P T = true) (ok : ∀ a0 a1, g a0 a1 → ∃ n, start (iter step n) (Im.im a0) (Im.im a1) = ret (Im.im (m a0 a1))) (hG : fg P (cR T) G) (hf : P.funcs[f]? = some fn)
  (hb : oV fn (CN ps r (RT.dec : List L → A' × B') (RR (p2 g) (u2 m))) nt = true := by kernel_rfl) (h1 : ∀ (I : bY) (p : Pt), cz { T := assoc T, G := cK G, nt := nt } live I (id p) (bo fn) (eN (live (id p)) (vs p) (hs p)) (bX { T := assoc T, G := cK G, nt := nt } fn r) = step (fun q => I (id q) (vs q) (hs q)) p := by intro _ p; cases p <;> kernel_rfl)
  (h0 : ∀ (I : bY) (ls : List L), ee { T := assoc T, G := cK G, nt := nt } live I (bo fn) (cG ps ls) (bX { T := assoc T, G := cK G, nt := nt } fn r) = start (fun q => I (id q) (vs q) (hs q)) (RT.dec ls : A' × B').1 (RT.dec ls : A' × B').2 := by intro _ _; kernel_rfl) : Valid P (cR T) f (CN ps r (RT.dec : List L → A' × B') (RR (p2 g) (u2 m))) :=
 VV (run := fun n x => start (iter step n) x.1 x.2) hm hT hG hf hb (fun n ls => bW (start := fun J => start J (RT.dec ls : A' × B').1 (RT.dec ls : A' × B').2) h1 (fun I => h0 I ls) n) fun _ a _ _ h => ok a.1 a.2 h
theorem W3 {A A' : Type} {B B' : Type} {C C' : Type} {Z Z' : Type} [Im A A'] [RT A'] [Im B B'] [RT B'] [Im C C'] [RT C'] [Im Z Z'] [RT Z'] {P : Program} {T : List (Nat × TI)} {G : List (Nat × fe)} {f : FuncId} {fn : Func} {ps : List fE} {r : RP} {g : A → B → C → Prop} {m : A → B → C → Z} (nt : Nat) (F : A' → B' → C' → ay) (hm : P.follows .mixedOrders = true) (hT : dE P T = true) (ok : ∀ a0 a1 a2, g a0 a1 a2 → F (Im.im a0) (Im.im a1) (Im.im a2) = ret (Im.im (m a0 a1 a2))) (hG : fg P (cR T) G) (hf : P.funcs[f]? = some fn)
  (hb : oV fn (CN ps r (RT.dec : List L → A' × B' × C') (RR (p3 g) (u3 m))) nt = true := by kernel_rfl) (hr : ∀ n ls, ea { T := assoc T, G := cK G, nt := nt } (fun _ => []) fn r n (cG ps ls) = F (RT.dec ls : A' × B' × C').1 (RT.dec ls : A' × B' × C').2.1 (RT.dec ls : A' × B' × C').2.2 := by intro _ _; kernel_rfl) : Valid P (cR T) f (CN ps r (RT.dec : List L → A' × B' × C') (RR (p3 g) (u3 m))) :=
 VV (run := fun _ x => F x.1 x.2.1 x.2.2) hm hT hG hf hb hr fun _ a _ _ h => ⟨0, ok a.1 a.2.1 a.2.2 h⟩
theorem L3 {A A' : Type} {B B' : Type} {C C' : Type} {Z Z' : Type} [Im A A'] [RT A'] [Im B B'] [RT B'] [Im C C'] [RT C'] [Im Z Z'] [RT Z'] {P : Program} {T : List (Nat × TI)} {G : List (Nat × fe)} {f : FuncId} {fn : Func} {ps : List fE} {r : RP} {g : A → B → C → Prop} {m : A → B → C → Z} {Pt : Type} (nt : Nat) (id : Pt → Nat) (vs : Pt → List V) (hs : Pt → List aI) (live : Nat → Live) (step : (Pt → ay) → Pt → ay) (start : (Pt → ay) → A' → B' → C' → ay) (hm : P.follows .mixedOrders = true) (hT : dE P T = true) (ok : ∀ a0 a1 a2, g a0 a1 a2 → ∃ n, start (iter step n) (Im.im a0) (Im.im a1) (Im.im a2) = ret (Im.im (m a0 a1 a2))) (hG : fg P (cR T) G) (hf : P.funcs[f]? = some fn)
  (hb : oV fn (CN ps r (RT.dec : List L → A' × B' × C') (RR (p3 g) (u3 m))) nt = true := by kernel_rfl) (h1 : ∀ (I : bY) (p : Pt), cz { T := assoc T, G := cK G, nt := nt } live I (id p) (bo fn) (eN (live (id p)) (vs p) (hs p)) (bX { T := assoc T, G := cK G, nt := nt } fn r) = step (fun q => I (id q) (vs q) (hs q)) p := by intro _ p; cases p <;> kernel_rfl)
  (h0 : ∀ (I : bY) (ls : List L), ee { T := assoc T, G := cK G, nt := nt } live I (bo fn) (cG ps ls) (bX { T := assoc T, G := cK G, nt := nt } fn r) = start (fun q => I (id q) (vs q) (hs q)) (RT.dec ls : A' × B' × C').1 (RT.dec ls : A' × B' × C').2.1 (RT.dec ls : A' × B' × C').2.2 := by intro _ _; kernel_rfl) : Valid P (cR T) f (CN ps r (RT.dec : List L → A' × B' × C') (RR (p3 g) (u3 m))) :=
 VV (run := fun n x => start (iter step n) x.1 x.2.1 x.2.2) hm hT hG hf hb (fun n ls => bW (start := fun J => start J (RT.dec ls : A' × B' × C').1 (RT.dec ls : A' × B' × C').2.1 (RT.dec ls : A' × B' × C').2.2) h1 (fun I => h0 I ls) n) fun _ a _ _ h => ok a.1 a.2.1 a.2.2 h
theorem W4 {A A' : Type} {B B' : Type} {C C' : Type} {D D' : Type} {Z Z' : Type} [Im A A'] [RT A'] [Im B B'] [RT B'] [Im C C'] [RT C'] [Im D D'] [RT D'] [Im Z Z'] [RT Z'] {P : Program} {T : List (Nat × TI)} {G : List (Nat × fe)} {f : FuncId} {fn : Func} {ps : List fE} {r : RP} {g : A → B → C → D → Prop} {m : A → B → C → D → Z} (nt : Nat) (F : A' → B' → C' → D' → ay) (hm : P.follows .mixedOrders = true) (hT : dE P T = true) (ok : ∀ a0 a1 a2 a3, g a0 a1 a2 a3 → F (Im.im a0) (Im.im a1) (Im.im a2) (Im.im a3) = ret (Im.im (m a0 a1 a2 a3))) (hG : fg P (cR T) G) (hf : P.funcs[f]? = some fn)
  (hb : oV fn (CN ps r (RT.dec : List L → A' × B' × C' × D') (RR (p4 g) (u4 m))) nt = true := by kernel_rfl) (hr : ∀ n ls, ea { T := assoc T, G := cK G, nt := nt } (fun _ => []) fn r n (cG ps ls) = F (RT.dec ls : A' × B' × C' × D').1 (RT.dec ls : A' × B' × C' × D').2.1 (RT.dec ls : A' × B' × C' × D').2.2.1 (RT.dec ls : A' × B' × C' × D').2.2.2 := by intro _ _; kernel_rfl) : Valid P (cR T) f (CN ps r (RT.dec : List L → A' × B' × C' × D') (RR (p4 g) (u4 m))) :=
 VV (run := fun _ x => F x.1 x.2.1 x.2.2.1 x.2.2.2) hm hT hG hf hb hr fun _ a _ _ h => ⟨0, ok a.1 a.2.1 a.2.2.1 a.2.2.2 h⟩
theorem L4 {A A' : Type} {B B' : Type} {C C' : Type} {D D' : Type} {Z Z' : Type} [Im A A'] [RT A'] [Im B B'] [RT B'] [Im C C'] [RT C'] [Im D D'] [RT D'] [Im Z Z'] [RT Z'] {P : Program} {T : List (Nat × TI)} {G : List (Nat × fe)} {f : FuncId} {fn : Func} {ps : List fE} {r : RP} {g : A → B → C → D → Prop} {m : A → B → C → D → Z} {Pt : Type} (nt : Nat) (id : Pt → Nat) (vs : Pt → List V) (hs : Pt → List aI) (live : Nat → Live) (step : (Pt → ay) → Pt → ay) (start : (Pt → ay) → A' → B' → C' → D' → ay) (hm : P.follows .mixedOrders = true) (hT : dE P T = true) (ok : ∀ a0 a1 a2 a3, g a0 a1 a2 a3 → ∃ n, start (iter step n) (Im.im a0) (Im.im a1) (Im.im a2) (Im.im a3) = ret (Im.im (m a0 a1 a2 a3))) (hG : fg P (cR T) G) (hf : P.funcs[f]? = some fn)
  (hb : oV fn (CN ps r (RT.dec : List L → A' × B' × C' × D') (RR (p4 g) (u4 m))) nt = true := by kernel_rfl) (h1 : ∀ (I : bY) (p : Pt), cz { T := assoc T, G := cK G, nt := nt } live I (id p) (bo fn) (eN (live (id p)) (vs p) (hs p)) (bX { T := assoc T, G := cK G, nt := nt } fn r) = step (fun q => I (id q) (vs q) (hs q)) p := by intro _ p; cases p <;> kernel_rfl)
  (h0 : ∀ (I : bY) (ls : List L), ee { T := assoc T, G := cK G, nt := nt } live I (bo fn) (cG ps ls) (bX { T := assoc T, G := cK G, nt := nt } fn r) = start (fun q => I (id q) (vs q) (hs q)) (RT.dec ls : A' × B' × C' × D').1 (RT.dec ls : A' × B' × C' × D').2.1 (RT.dec ls : A' × B' × C' × D').2.2.1 (RT.dec ls : A' × B' × C' × D').2.2.2 := by intro _ _; kernel_rfl) : Valid P (cR T) f (CN ps r (RT.dec : List L → A' × B' × C' × D') (RR (p4 g) (u4 m))) :=
 VV (run := fun n x => start (iter step n) x.1 x.2.1 x.2.2.1 x.2.2.2) hm hT hG hf hb (fun n ls => bW (start := fun J => start J (RT.dec ls : A' × B' × C' × D').1 (RT.dec ls : A' × B' × C' × D').2.1 (RT.dec ls : A' × B' × C' × D').2.2.1 (RT.dec ls : A' × B' × C' × D').2.2.2) h1 (fun I => h0 I ls) n) fun _ a _ _ h => ok a.1 a.2.1 a.2.2.1 a.2.2.2 h
theorem W5 {A A' : Type} {B B' : Type} {C C' : Type} {D D' : Type} {X X' : Type} {Z Z' : Type} [Im A A'] [RT A'] [Im B B'] [RT B'] [Im C C'] [RT C'] [Im D D'] [RT D'] [Im X X'] [RT X'] [Im Z Z'] [RT Z'] {P : Program} {T : List (Nat × TI)} {G : List (Nat × fe)} {f : FuncId} {fn : Func} {ps : List fE} {r : RP} {g : A → B → C → D → X → Prop} {m : A → B → C → D → X → Z} (nt : Nat) (F : A' → B' → C' → D' → X' → ay) (hm : P.follows .mixedOrders = true) (hT : dE P T = true) (ok : ∀ a0 a1 a2 a3 a4, g a0 a1 a2 a3 a4 → F (Im.im a0) (Im.im a1) (Im.im a2) (Im.im a3) (Im.im a4) = ret (Im.im (m a0 a1 a2 a3 a4))) (hG : fg P (cR T) G) (hf : P.funcs[f]? = some fn)
  (hb : oV fn (CN ps r (RT.dec : List L → A' × B' × C' × D' × X') (RR (p5 g) (u5 m))) nt = true := by kernel_rfl) (hr : ∀ n ls, ea { T := assoc T, G := cK G, nt := nt } (fun _ => []) fn r n (cG ps ls) = F (RT.dec ls : A' × B' × C' × D' × X').1 (RT.dec ls : A' × B' × C' × D' × X').2.1 (RT.dec ls : A' × B' × C' × D' × X').2.2.1 (RT.dec ls : A' × B' × C' × D' × X').2.2.2.1 (RT.dec ls : A' × B' × C' × D' × X').2.2.2.2 := by intro _ _; kernel_rfl) : Valid P (cR T) f (CN ps r (RT.dec : List L → A' × B' × C' × D' × X') (RR (p5 g) (u5 m))) :=
 VV (run := fun _ x => F x.1 x.2.1 x.2.2.1 x.2.2.2.1 x.2.2.2.2) hm hT hG hf hb hr fun _ a _ _ h => ⟨0, ok a.1 a.2.1 a.2.2.1 a.2.2.2.1 a.2.2.2.2 h⟩
theorem L5 {A A' : Type} {B B' : Type} {C C' : Type} {D D' : Type} {X X' : Type} {Z Z' : Type} [Im A A'] [RT A'] [Im B B'] [RT B'] [Im C C'] [RT C'] [Im D D'] [RT D'] [Im X X'] [RT X'] [Im Z Z'] [RT Z'] {P : Program} {T : List (Nat × TI)} {G : List (Nat × fe)} {f : FuncId} {fn : Func} {ps : List fE} {r : RP} {g : A → B → C → D → X → Prop} {m : A → B → C → D → X → Z} {Pt : Type} (nt : Nat) (id : Pt → Nat) (vs : Pt → List V) (hs : Pt → List aI) (live : Nat → Live) (step : (Pt → ay) → Pt → ay) (start : (Pt → ay) → A' → B' → C' → D' → X' → ay) (hm : P.follows .mixedOrders = true) (hT : dE P T = true) (ok : ∀ a0 a1 a2 a3 a4, g a0 a1 a2 a3 a4 → ∃ n, start (iter step n) (Im.im a0) (Im.im a1) (Im.im a2) (Im.im a3) (Im.im a4) = ret (Im.im (m a0 a1 a2 a3 a4))) (hG : fg P (cR T) G) (hf : P.funcs[f]? = some fn)
  (hb : oV fn (CN ps r (RT.dec : List L → A' × B' × C' × D' × X') (RR (p5 g) (u5 m))) nt = true := by kernel_rfl) (h1 : ∀ (I : bY) (p : Pt), cz { T := assoc T, G := cK G, nt := nt } live I (id p) (bo fn) (eN (live (id p)) (vs p) (hs p)) (bX { T := assoc T, G := cK G, nt := nt } fn r) = step (fun q => I (id q) (vs q) (hs q)) p := by intro _ p; cases p <;> kernel_rfl)
  (h0 : ∀ (I : bY) (ls : List L), ee { T := assoc T, G := cK G, nt := nt } live I (bo fn) (cG ps ls) (bX { T := assoc T, G := cK G, nt := nt } fn r) = start (fun q => I (id q) (vs q) (hs q)) (RT.dec ls : A' × B' × C' × D' × X').1 (RT.dec ls : A' × B' × C' × D' × X').2.1 (RT.dec ls : A' × B' × C' × D' × X').2.2.1 (RT.dec ls : A' × B' × C' × D' × X').2.2.2.1 (RT.dec ls : A' × B' × C' × D' × X').2.2.2.2 := by intro _ _; kernel_rfl) : Valid P (cR T) f (CN ps r (RT.dec : List L → A' × B' × C' × D' × X') (RR (p5 g) (u5 m))) :=
 VV (run := fun n x => start (iter step n) x.1 x.2.1 x.2.2.1 x.2.2.2.1 x.2.2.2.2) hm hT hG hf hb (fun n ls => bW (start := fun J => start J (RT.dec ls : A' × B' × C' × D' × X').1 (RT.dec ls : A' × B' × C' × D' × X').2.1 (RT.dec ls : A' × B' × C' × D' × X').2.2.1 (RT.dec ls : A' × B' × C' × D' × X').2.2.2.1 (RT.dec ls : A' × B' × C' × D' × X').2.2.2.2) h1 (fun I => h0 I ls) n) fun _ a _ _ h => ok a.1 a.2.1 a.2.2.1 a.2.2.2.1 a.2.2.2.2 h
theorem fM {α : Type} {l : List α} {x : α} {i : Nat} (h : l.length ≤ i) : (l ++ [x]).length ≤ i + 1 := by rw [List.length_append]; exact Nat.add_le_add_right h 1
def bJ (c : Bool) (x : ay) : ay := bif c then x else none
def m2 (v n : Int) (x : ay) : ay := bif decide (0 ≤ v) then (cond (decide (v < n)) x none) else none
def m3 (v n : Int) (x : ay) : ay := bif decide (0 ≤ v) then (cond (decide (v < n)) (cond (Nat.beq (Int.toNat v) (Int.toNat v) && true) x none) none) else none
theorem MM : (∀ c x, bJ c x = bif c then x else none) ∧ (∀ v n x, m2 v n x = bif decide (0 ≤ v) then (cond (decide (v < n)) x none) else none) ∧ (∀ v n x, m3 v n x = bif decide (0 ≤ v) then (cond (decide (v < n)) (cond (Nat.beq (Int.toNat v) (Int.toNat v) && true) x none) none) else none) := ⟨fun _ _ => rfl, fun _ _ _ => rfl, fun _ _ _ => rfl⟩
abbrev pI : fE := .rd (.int .i64)
abbrev pS : fE := .rd .str
abbrev pB : fE := .rd .bool
abbrev pL (e : Nat) : fE := .rd (.sl e)
abbrev oI : RP := .one (.rd (.int .i64))
abbrev oB : RP := .one (.rd .bool)
abbrev oS : RP := .one (.rd .str)
abbrev oL (e : Nat) : RP := .one (.fr e)
abbrev fI : Lf := .rd (.int .i64)
abbrev fS : Lf := .rd .str
abbrev fB : Lf := .rd .bool
end Go.DM

end
