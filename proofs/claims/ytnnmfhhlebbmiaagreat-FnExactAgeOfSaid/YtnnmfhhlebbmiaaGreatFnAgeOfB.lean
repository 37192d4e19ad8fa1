/- What the functions compute that the law reaches, and that the law returns true. Conditions: none. -/
import Derived.Test.YtnnmfhhlebbmiaaGreatTy
import Derived.Test.YtnnmfhhlebbmiaaGreatFnAgeOfA
import Derived.Test.YtnnmfhhlebbmiaaGreatProg
import Derived.Lib.AppendZerosOnto
import Derived.Lib.Bytealg
import Derived.Laws.Externs
import Derived.Lib.Walk
import Derived.Lib.Hide
import Derived.Lib.Strings
set_option linter.all false
namespace Go.DM
open Go.Proofs
/-! impl.ascending -/
namespace impl_ascending
inductive Pt where
  | p0 (a : List (List L)) (b : Int) (c : Int)
def pid : Pt → Nat
  | .p0 .. => 2
def pvs : Pt → List V
  | .p0 a b c => [.sl none 3 a, .int .i64 b, .int .i64 c]
def phs : Pt → List Root
  | .p0 a b c => []
noncomputable def step (J : Pt → Ans) : Pt → Ans
  | .p0 a b c => (bif (decide (c < b)) then (bif (decide (c > 0)) then (bif (decide ((0 : Int) ≤ c)) then (bif (decide (c < (a.length : Int))) then (bif (decide ((0 : Int) ≤ (IntKind.i64.wrap (c - 1)))) then (bif (decide ((IntKind.i64.wrap (c - 1)) < (a.length : Int))) then (bif (decide ((iAt a (Int.toNat c)) ≤ (iAt a (Int.toNat (IntKind.i64.wrap (c - 1)))))) then ret (false : Bool) else J (.p0 a b (IntKind.i64.wrap (c + 1)))) else none) else none) else none) else none) else J (.p0 a b (IntKind.i64.wrap (c + 1)))) else ret (true : Bool))
noncomputable def start (J : Pt → Ans) (x0 : List (List L)) : Ans := J (.p0 x0 (x0.length : Int) 0)
def live : Nat → Live := fun i => match i with | 2 => [(0, none), (5, none), (6, none)] | _ => []
def pats : List Pat := [.rd (.sl 3)]
def res : RP := .one (.rd (.bool))
noncomputable abbrev E : Env := ⟨assoc Tab, conG [], 24⟩
set_option maxRecDepth 100000
theorem step_eq (I : Heads) (p : Pt) : enterC E live I (pid p) (bodyOf Tryz.f240) (stOf (live (pid p)) (pvs p) (phs p)) (doneK E Tryz.f240 res) = step (fun q => I (pid q) (pvs q) (phs q)) p := by
  cases p <;> kernel_rfl
theorem start_eq (I : Heads) (ls : List L) : runC E live I (bodyOf Tryz.f240) (initS pats ls) (doneK E Tryz.f240 res) = start (fun q => I (pid q) (pvs q) (phs q)) (ls.headD .hole).toSl := by kernel_rfl
theorem run_eq (n : Nat) (ls : List L) : runF E live Tryz.f240 res n (initS pats ls) = start (iter step n) (ls.headD .hole).toSl := runF_iter (id := pid) (vs := pvs) (hs := phs) (step := step) (start := fun J => start J (ls.headD .hole).toSl) step_eq (fun I => start_eq I ls) n
noncomputable def md (a0 : List Int) : Bool := (eachI (S := Unit) (β := Bool) (fun (i1 : Nat) (y1 : Int) (s3 : Unit) => (bif (decide ((i1 : Int) > 0)) then (bif (decide (y1 ≤ (a0.getD (Int.toNat (IntKind.i64.wrap ((i1 : Int) - 1))) 0))) then (.inr (false : Bool)) else (.inl ())) else (.inl ()))) (fun (s3 : Unit) => (true : Bool)) 0 a0 ())
def gd (a0 : List Int) : Prop := (SmL (2 ^ 38) (fun y : Int => True) a0)
def acc (ls : List L) : List (List L) := (ls.headD .hole).toSl
noncomputable def R : (List (List L)) → Option Bool := RR gd md
theorem R_eq {a0} (h : gd a0) : R (a0.map iRow) = some (md a0) := RR_eq (a := a0) h
noncomputable def con : Con := CN pats res acc R
theorem okF (a0 : List Int) (hg : gd a0) : ∃ n, start (iter step n) (a0.map iRow) = ret ((md a0) : Bool) := by
  unfold gd at hg
  have H0 := hg
  unfold start md
  try simp only [S0]
  have Bh2 : a0.length ≤ maxLen := (by
      have := (H0).1
      try simp only [maxLen] at *
      omega)
  refine ex_eq (out := ret) (loopM_eachI (z := 0)) ?_
  refine ex_pt (p := Pt.p0 (a0.map iRow) (a0.length : Int) 0) (by first | rfl | (simp only [S0, MP]; done) | (simp only [MP]; rfl)) ?_
  refine loopM_ok (pt := fun (i1 : Nat) (s3 : Unit) => Pt.p0 (a0.map iRow) (a0.length : Int) (i1 : Int)) (s := (() : Unit)) (out := ret) (fun _ _ => True) (fun J i1 s3 h2 hih2 => ?_) (fun s3 hih2 => ?_) trivial
  · simp only [step, S0]
    have bb_ := Bh2
    simp only [maxLen] at bb_
    have := (H0).1
    refine Rnd.yes (by apply decide_eq_true; omega) ?_
    refine Rnd.bif (fun c4 => ?_) (fun c4 => ?_)
    · have dc4 := c4
      try simp only [DC] at dc4
      refine Rnd.yes zle_dec ?_
      refine Rnd.yes (lt_dec h2) ?_
      refine Rnd.yes (by
          refine decide_eq_true ?_
          try simp (disch := omega) only [LN, wi]
          first | omega | (simp; done) | (simp; omega)) ?_
      refine Rnd.yes (by
          have := (H0).1
          refine decide_eq_true ?_
          try simp (disch := omega) only [LN, wi]
          first | omega | (simp; done) | (simp; omega)) ?_
      refine Rnd.bif (fun _ => Rnd.inr rfl) (fun c5 => ?_)
      refine Rnd.inl trivial ?_
      rw [wrap_succ h2 Bh2]
      all_goals first | rfl | (simp only [S0, MP]; first | done | rfl)
    · refine Rnd.inl trivial ?_
      rw [wrap_succ h2 Bh2]
      all_goals first | rfl | (simp only [S0, MP]; first | done | rfl)
  · simp only [step, S0]
    have := (H0).1
    refine ex_no (by apply decide_eq_false; omega) ?_
    refine ⟨0, ?_⟩
    first | rfl | (simp only [S0, MP]; first | done | rfl)
theorem valid_ : Valid Tryz.prog Ev 240 con := VV (run := fun n x => start (iter step n) x) mix tab_ok .nil Tryz.func240 (by kernel_rfl) run_eq (fun _ a _ _ hg => okF a hg)
end impl_ascending
/-! impl.isKey -/
namespace impl_isKey
noncomputable def F (x0 : Int) : Ans := (call (impl_InRange.R (x0, 1, 99)) fun v1 => ret (v1 : Bool))
def pats : List Pat := [.rd (.int .i64)]
def res : RP := .one (.rd (.bool))
noncomputable abbrev E : Env := ⟨assoc Tab, conG [(88, impl_InRange.con)], 5⟩
set_option maxRecDepth 100000
theorem run_eq (n : Nat) (ls : List L) : runF E (fun _ => []) Tryz.f241 res n (initS pats ls) = F (ls.headD .hole).toInt := by kernel_rfl
noncomputable def md (a0 : Int) : Bool := ((impl_InRange.md a0 1 99) : Bool)
def gd (a0 : Int) : Prop := True
def acc (ls : List L) : Int := (ls.headD .hole).toInt
noncomputable def R : Int → Option Bool := RR gd md
theorem R_eq {a0} (h : gd a0) : R a0 = some (md a0) := RR_eq (a := a0) h
noncomputable def con : Con := CN pats res acc R
theorem okF (a0 : Int) (hg : gd a0) : F a0 = ret ((md a0) : Bool) := by
  unfold F md
  try simp only [S0]
  refine call_to (impl_InRange.md a0 1 99) (impl_InRange.R_eq (a0 := a0) (a1 := 1) (a2 := 99) trivial) ?_
  first | rfl | (simp only [S0, MP]; first | done | rfl)
theorem valid_ : Valid Tryz.prog Ev 241 con := VV (run := fun _ x => F x) mix tab_ok (.cons impl_InRange.valid_ .nil) Tryz.func241 (by kernel_rfl) run_eq (fun _ a _ _ hg => ⟨0, okF a hg⟩)
end impl_isKey
/-! impl.IsKeys -/
namespace impl_IsKeys
noncomputable def F (x0 : RKeys) : Ans := (call (impl_InRange.R ((x0.fList.length : Int), 1, 4)) fun v1 => (bif v1 then (call (impl_ascending.R x0.fList) fun v2 => (bif v2 then (bif (decide ((0 : Int) < (x0.fList.length : Int))) then (call (impl_isKey.R (iAt x0.fList 0)) fun v3 => (bif v3 then (bif (decide ((0 : Int) ≤ (IntKind.i64.wrap ((x0.fList.length : Int) - 1)))) then (bif (decide ((IntKind.i64.wrap ((x0.fList.length : Int) - 1)) < (x0.fList.length : Int))) then (call (impl_isKey.R (iAt x0.fList (Int.toNat (IntKind.i64.wrap ((x0.fList.length : Int) - 1))))) fun v4 => (bif v4 then (call (impl_InRange.R (x0.fNeed, 1, (x0.fList.length : Int))) fun v5 => ret (v5 : Bool)) else ret (false : Bool))) else none) else none) else ret (false : Bool))) else none) else ret (false : Bool))) else ret (false : Bool)))
def pats : List Pat := [.agg [.sl 3, .int .i64]]
def res : RP := .one (.rd (.bool))
noncomputable abbrev E : Env := ⟨assoc Tab, conG [(88, impl_InRange.con), (240, impl_ascending.con), (241, impl_isKey.con)], 38⟩
set_option maxRecDepth 100000
theorem run_eq (n : Nat) (ls : List L) : runF E (fun _ => []) Tryz.f197 res n (initS pats ls) = F (RKeys.dec ls) := by kernel_rfl
noncomputable def md (a0 : MKeys) : Bool := (bif (impl_InRange.md (a0.fList.length : Int) 1 4) then (bif (impl_ascending.md a0.fList) then (bif (impl_isKey.md (a0.fList.getD 0 0)) then (bif (impl_isKey.md (a0.fList.getD (Int.toNat (IntKind.i64.wrap ((a0.fList.length : Int) - 1))) 0)) then ((impl_InRange.md a0.fNeed 1 (a0.fList.length : Int)) : Bool) else (false : Bool)) else (false : Bool)) else (false : Bool)) else (false : Bool))
def gd (a0 : MKeys) : Prop := (MKeys.Sm (2 ^ 21) a0)
def acc (ls : List L) : RKeys := (RKeys.dec ls)
noncomputable def R : RKeys → Option Bool := RR gd md
theorem R_eq {a0} (h : gd a0) : R (MKeys.r a0) = some (md a0) := RR_eq (a := a0) h
noncomputable def con : Con := CN pats res acc R
theorem okF (a0 : MKeys) (hg : gd a0) : F (MKeys.r a0) = ret ((md a0) : Bool) := by
  unfold gd at hg
  have H0 := hg
  unfold F md
  try simp only [S0, MKeys.rs]
  refine call_to (impl_InRange.md (a0.fList.length : Int) 1 4) (impl_InRange.R_eq (a0 := (a0.fList.length : Int)) (a1 := 1) (a2 := 4) trivial) ?_
  refine bif_out ret (fun c1 => ?_) (fun _ => rfl)
  have Dc1 := c1
  try simp [impl_InRange.md] at Dc1
  refine call_to (impl_ascending.md a0.fList) (impl_ascending.R_eq (a0 := a0.fList) (H0.mono (by decide) (fun x hx => trivial))) ?_
  refine bif_out ret (fun c2 => ?_) (fun _ => rfl)
  refine yes_ret (by
      have := (H0).1
      refine decide_eq_true ?_
      try simp (disch := omega) only [LN, wi]
      first | omega | (simp; done) | (simp; omega)) ?_
  refine call_to (impl_isKey.md (a0.fList.getD 0 0)) (impl_isKey.R_eq (a0 := (a0.fList.getD 0 0)) trivial) ?_
  refine bif_out ret (fun c3 => ?_) (fun _ => rfl)
  refine yes_ret (by
      have := (H0).1
      refine decide_eq_true ?_
      try simp (disch := omega) only [LN, wi]
      first | omega | (simp; done) | (simp; omega)) ?_
  refine yes_ret (by
      have := (H0).1
      refine decide_eq_true ?_
      try simp (disch := omega) only [LN, wi]
      first | omega | (simp; done) | (simp; omega)) ?_
  refine call_to (impl_isKey.md (a0.fList.getD (Int.toNat (IntKind.i64.wrap ((a0.fList.length : Int) - 1))) 0)) (impl_isKey.R_eq (a0 := (a0.fList.getD (Int.toNat (IntKind.i64.wrap ((a0.fList.length : Int) - 1))) 0)) trivial) ?_
  refine bif_out ret (fun c4 => ?_) (fun _ => rfl)
  refine call_to (impl_InRange.md a0.fNeed 1 (a0.fList.length : Int)) (impl_InRange.R_eq (a0 := a0.fNeed) (a1 := 1) (a2 := (a0.fList.length : Int)) trivial) ?_
  first | rfl | (simp only [S0, MKeys.rs, MP]; first | done | rfl)
theorem valid_ : Valid Tryz.prog Ev 197 con := VV (run := fun _ x => F x) mix tab_ok (.cons impl_InRange.valid_ (.cons impl_ascending.valid_ (.cons impl_isKey.valid_ .nil))) Tryz.func197 (by kernel_rfl) run_eq (fun _ a _ _ hg => ⟨0, okF a hg⟩)
-- uses spec_IsKeys
theorem asc {l : List Int} (h : ∀ i : Nat, i < l.length → 0 < i → l.getD (i - 1) 0 < l.getD i 0) : ∀ (k i : Nat), i + k < l.length → l.getD i 0 ≤ l.getD (i + k) 0
  | 0, i, _ => Int.le_refl _
  | k + 1, i, hi => by
    have h1 := asc h k i (by omega)
    have h2 := h (i + (k + 1)) hi (by omega)
    rw [show i + (k + 1) - 1 = i + k by omega] at h2
    omega
theorem br (a0 : MKeys) : md a0 = spec_IsKeys.md a0 := by
  unfold md spec_IsKeys.md impl_ascending.md
  simp only [impl_InRange.br, impl_isKey.md]
  by_cases hl : 1 ≤ a0.fList.length ∧ a0.fList.length ≤ 4
  · have e1 : spec_l1In.md (a0.fList.length : Int) 1 4 = true := by simp [spec_l1In.md]; omega
    rw [e1]
    have wp : ∀ i : Nat, 0 < i → i ≤ 4 → Int.toNat (IntKind.i64.wrap ((i : Int) - 1)) = i - 1 := fun i h1 h2 => by
      rw [Go.IntWalk.i64_in _ (by omega)]; omega
    rw [wp _ (by omega) (by omega)]
    generalize a0.fNeed = n
    generalize a0.fList = l at *
    have i1 : ∀ x a b : Int, spec_l1In.md x a b = true ↔ a ≤ x ∧ x ≤ b := fun x a b => by simp [spec_l1In.md]
    have i2 : ∀ x a b : Int, spec_l1In.md x a b = false ↔ ¬ (a ≤ x ∧ x ≤ b) := fun x a b => by rw [← i1]; simp
    have w2 : ∀ i : Nat, i < l.length → 0 < i → Int.toNat (IntKind.i64.wrap ((i : Int) - 1)) = i - 1 := fun i h1 h2 => wp i h2 (by omega)
    rw [Bool.eq_iff_iff, ← loopM_eachI (z := 0), ← loopM_eachI (z := 0)]
    have e3 : ∀ a b c d : Bool, (bif true then (bif a then (bif b then (bif c then d else false) else false) else false) else false) = true ↔ a = true ∧ b = true ∧ c = true ∧ d = true := by
      intro a b c d; cases a <;> cases b <;> cases c <;> simp
    have pos : ∀ i : Nat, 0 < i → decide ((i : Int) > 0) = true := fun i h => by simpa using h
    have npos : ∀ i : Nat, ¬ 0 < i → decide ((i : Int) > 0) = false := fun i h => by simpa using h
    rw [e3]
    rw [loopM_true (fun i => 0 < i → l.getD (i - 1) 0 < l.getD i 0) (fun i hi h => ?_) (fun i hi h => ?_), loopM_true (fun i => (1 ≤ l.getD i 0 ∧ l.getD i 0 ≤ 99) ∧ (0 < i → l.getD (i - 1) 0 < l.getD i 0)) (fun i hi h => ?_) (fun i hi h => ?_)]
    · simp only [i1, and_true, cond_true]
      constructor
      · rintro ⟨h1, ⟨h2, h3⟩, ⟨h4, h5⟩, h6⟩
        refine ⟨fun i hi => ⟨⟨?_, ?_⟩, h1 i hi⟩, h6⟩
        · have := asc h1 i 0 (by omega)
          rw [Nat.zero_add] at this; omega
        · have := asc h1 (l.length - 1 - i) i (by omega)
          rw [show i + (l.length - 1 - i) = l.length - 1 by omega] at this; omega
      · rintro ⟨h1, h6⟩
        exact ⟨fun i hi => (h1 i hi).2, (h1 0 (by omega)).1, (h1 (l.length - 1) (by omega)).1, h6⟩
    · have e2 := (i1 (l.getD i 0) 1 99).2 h.1
      rw [e2]
      by_cases h0 : 0 < i
      · have := h.2 h0
        rw [pos i h0, w2 i hi h0, decide_eq_false (by omega)]; rfl
      · rw [npos i h0]; rfl
    · by_cases h1 : 1 ≤ l.getD i 0 ∧ l.getD i 0 ≤ 99
      · have e2 := (i1 (l.getD i 0) 1 99).2 h1
        have h0 : 0 < i := Classical.byContradiction fun hc => h ⟨h1, fun h => (hc h).elim⟩
        have h2 : ¬ l.getD (i - 1) 0 < l.getD i 0 := fun hc => h ⟨h1, fun _ => hc⟩
        rw [e2, pos i h0, w2 i hi h0, decide_eq_true (by omega)]; rfl
      · rw [(i2 _ _ _).2 h1]; rfl
    · by_cases h0 : 0 < i
      · have := h h0
        rw [pos i h0, w2 i hi h0, decide_eq_false (by omega)]; rfl
      · rw [npos i h0]; rfl
    · have h0 : 0 < i := Classical.byContradiction fun hc => h fun h => (hc h).elim
      have h2 : ¬ l.getD (i - 1) 0 < l.getD i 0 := fun hc => h fun _ => hc
      rw [pos i h0, w2 i hi h0, decide_eq_true (by omega)]; rfl
  · have e1 : spec_l1In.md (a0.fList.length : Int) 1 4 = false := by simp [spec_l1In.md]; omega
    rw [e1]
    simp only [cond_false]
    symm
    exact eachI_const (by
      intro i x s b h
      revert h
      simp only [Bool.cond_eq_ite]
      repeat' split
      all_goals (intro h; first | (cases h; rfl) | cases h)) _ _ _
end impl_IsKeys
/-! impl.NoKeys -/
namespace impl_NoKeys
noncomputable def F (x0 : RKeys) : Ans := (bif (x0.fNeed == 0) then ret (((x0.fList.length : Int) == 0) : Bool) else ret (false : Bool))
def pats : List Pat := [.agg [.sl 3, .int .i64]]
def res : RP := .one (.rd (.bool))
noncomputable abbrev E : Env := ⟨assoc Tab, conG [], 12⟩
set_option maxRecDepth 100000
theorem run_eq (n : Nat) (ls : List L) : runF E (fun _ => []) Tryz.f200 res n (initS pats ls) = F (RKeys.dec ls) := by kernel_rfl
noncomputable def md (a0 : MKeys) : Bool := (bif (a0.fNeed == 0) then (((a0.fList.length : Int) == 0) : Bool) else (false : Bool))
def gd (a0 : MKeys) : Prop := True
def acc (ls : List L) : RKeys := (RKeys.dec ls)
noncomputable def R : RKeys → Option Bool := RR gd md
theorem R_eq {a0} (h : gd a0) : R (MKeys.r a0) = some (md a0) := RR_eq (a := a0) h
noncomputable def con : Con := CN pats res acc R
theorem okF (a0 : MKeys) (hg : gd a0) : F (MKeys.r a0) = ret ((md a0) : Bool) := by
  unfold F md
  try simp only [S0, MKeys.rs]
  refine bif_out ret (fun c1 => ?_) (fun _ => rfl)
  first | rfl | (simp only [S0, MKeys.rs, MP]; first | done | rfl)
theorem valid_ : Valid Tryz.prog Ev 200 con := VV (run := fun _ x => F x) mix tab_ok .nil Tryz.func200 (by kernel_rfl) run_eq (fun _ a _ _ hg => ⟨0, okF a hg⟩)
theorem br (a0 : MKeys) : md a0 = spec_NoKeys.md a0 := by
  unfold md spec_NoKeys.md
  first
  | (simp only [id]; done)
  | (simp only [id]; rfl)
  | rfl
end impl_NoKeys
/-! impl.isMaybe -/
namespace impl_isMaybe
noncomputable def F (x0 : RKeys) : Ans := (call (impl_NoKeys.R x0) fun v1 => (bif v1 then ret (true : Bool) else (call (impl_IsKeys.R x0) fun v2 => ret (v2 : Bool))))
def pats : List Pat := [.agg [.sl 3, .int .i64]]
def res : RP := .one (.rd (.bool))
noncomputable abbrev E : Env := ⟨assoc Tab, conG [(200, impl_NoKeys.con), (197, impl_IsKeys.con)], 9⟩
set_option maxRecDepth 100000
theorem run_eq (n : Nat) (ls : List L) : runF E (fun _ => []) Tryz.f198 res n (initS pats ls) = F (RKeys.dec ls) := by kernel_rfl
noncomputable def md (a0 : MKeys) : Bool := (bif (impl_NoKeys.md a0) then (true : Bool) else ((impl_IsKeys.md a0) : Bool))
def gd (a0 : MKeys) : Prop := (MKeys.Sm (2 ^ 21) a0)
def acc (ls : List L) : RKeys := (RKeys.dec ls)
noncomputable def R : RKeys → Option Bool := RR gd md
theorem R_eq {a0} (h : gd a0) : R (MKeys.r a0) = some (md a0) := RR_eq (a := a0) h
noncomputable def con : Con := CN pats res acc R
theorem okF (a0 : MKeys) (hg : gd a0) : F (MKeys.r a0) = ret ((md a0) : Bool) := by
  unfold gd at hg
  have H0 := hg
  unfold F md
  try simp only [S0]
  refine call_to (impl_NoKeys.md a0) (impl_NoKeys.R_eq (a0 := a0) trivial) ?_
  refine bif_out ret (fun _ => rfl) (fun c1 => ?_)
  refine call_to (impl_IsKeys.md a0) (impl_IsKeys.R_eq (a0 := a0) H0) ?_
  first | rfl | (simp only [S0, MP]; first | done | rfl)
theorem valid_ : Valid Tryz.prog Ev 198 con := VV (run := fun _ x => F x) mix tab_ok (.cons impl_NoKeys.valid_ (.cons impl_IsKeys.valid_ .nil)) Tryz.func198 (by kernel_rfl) run_eq (fun _ a _ _ hg => ⟨0, okF a hg⟩)
end impl_isMaybe
/-! impl.isWait -/
namespace impl_isWait
noncomputable def F (x0 : Int) (x1 : RKeys) : Ans := (call (impl_NoKeys.R x1) fun v1 => (bif v1 then ret ((x0 == 0) : Bool) else (call (impl_InRange.R (x0, 1, 500)) fun v2 => ret (v2 : Bool))))
def pats : List Pat := [.rd (.int .i64), .agg [.sl 3, .int .i64]]
def res : RP := .one (.rd (.bool))
noncomputable abbrev E : Env := ⟨assoc Tab, conG [(200, impl_NoKeys.con), (88, impl_InRange.con)], 11⟩
set_option maxRecDepth 100000
theorem run_eq (n : Nat) (ls : List L) : runF E (fun _ => []) Tryz.f199 res n (initS pats ls) = F (ls.headD .hole).toInt (RKeys.dec (dropT 1 ls)) := by kernel_rfl
noncomputable def md (a0 : Int) (a1 : MKeys) : Bool := (bif (impl_NoKeys.md a1) then ((a0 == 0) : Bool) else ((impl_InRange.md a0 1 500) : Bool))
def gd (a0 : Int) (a1 : MKeys) : Prop := True
def acc (ls : List L) : Int × RKeys := ((ls.headD .hole).toInt, (RKeys.dec (dropT 1 ls)))
noncomputable def R : (Int × RKeys) → Option Bool := RR (p2 gd) (u2 md)
theorem R_eq {a0} {a1} (h : gd a0 a1) : R (a0, (MKeys.r a1)) = some (md a0 a1) := RR_eq (a := (a0, a1)) h
noncomputable def con : Con := CN pats res acc R
theorem okF (a0 : Int) (a1 : MKeys) (hg : gd a0 a1) : F a0 (MKeys.r a1) = ret ((md a0 a1) : Bool) := by
  unfold F md
  try simp only [S0]
  refine call_to (impl_NoKeys.md a1) (impl_NoKeys.R_eq (a0 := a1) trivial) ?_
  refine bif_out ret (fun c1 => ?_) (fun c1 => ?_)
  · first | rfl | (simp only [S0, MP]; first | done | rfl)
  · refine call_to (impl_InRange.md a0 1 500) (impl_InRange.R_eq (a0 := a0) (a1 := 1) (a2 := 500) trivial) ?_
    first | rfl | (simp only [S0, MP]; first | done | rfl)
theorem valid_ : Valid Tryz.prog Ev 199 con := VV (run := fun _ x => F x.1 x.2) mix tab_ok (.cons impl_NoKeys.valid_ (.cons impl_InRange.valid_ .nil)) Tryz.func199 (by kernel_rfl) run_eq (fun _ a _ _ hg => ⟨0, okF a.1 a.2 hg⟩)
end impl_isWait
/-! impl.IsHead -/
namespace impl_IsHead
noncomputable def F (x0 : RHead) : Ans := (call (impl_isDigest.R x0.fZone) fun v1 => (bif v1 then (call (impl_isDigest.R x0.fRoot) fun v2 => (bif v2 then (call (impl_isDigest.R x0.fPrev) fun v3 => (bif v3 then (call (impl_InRange.R (x0.fEpoch, 0, 200)) fun v4 => (bif v4 then (call (impl_InRange.R (x0.fKind, 1, 3)) fun v5 => (bif v5 then (call (impl_isSpan.R x0) fun v6 => (bif v6 then (call (impl_InRange.R (x0.fCount, 0, 12)) fun v7 => (bif v7 then (call (impl_IsKeys.R x0.fKeys) fun v8 => (bif v8 then (call (impl_isMaybe.R x0.fHeirs) fun v9 => (bif v9 then (call (impl_isMaybe.R x0.fJudge) fun v10 => (bif v10 then (call (impl_isWait.R (x0.fWait, x0.fHeirs)) fun v11 => (bif v11 then (bif x0.fFrozen then (call (impl_NoKeys.R x0.fJudge) fun v12 => ret ((!v12) : Bool)) else ret (true : Bool)) else ret (false : Bool))) else ret (false : Bool))) else ret (false : Bool))) else ret (false : Bool))) else ret (false : Bool))) else ret (false : Bool))) else ret (false : Bool))) else ret (false : Bool))) else ret (false : Bool))) else ret (false : Bool))) else ret (false : Bool)))
def pats : List Pat := [.agg [.int .i64, .int .i64, .int .i64, .int .i64, .int .i64, .int .i64, .int .i64, .int .i64, .sl 3, .int .i64, .sl 3, .int .i64, .int .i64, .sl 3, .int .i64, .bool]]
def res : RP := .one (.rd (.bool))
noncomputable abbrev E : Env := ⟨assoc Tab, conG [(195, impl_isDigest.con), (88, impl_InRange.con), (196, impl_isSpan.con), (197, impl_IsKeys.con), (198, impl_isMaybe.con), (199, impl_isWait.con), (200, impl_NoKeys.con)], 67⟩
set_option maxRecDepth 100000
theorem run_eq (n : Nat) (ls : List L) : runF E (fun _ => []) Tryz.f142 res n (initS pats ls) = F (RHead.dec ls) := by kernel_rfl
noncomputable def md (a0 : MHead) : Bool := (bif (impl_isDigest.md a0.fZone) then (bif (impl_isDigest.md a0.fRoot) then (bif (impl_isDigest.md a0.fPrev) then (bif (impl_InRange.md a0.fEpoch 0 200) then (bif (impl_InRange.md a0.fKind 1 3) then (bif (impl_isSpan.md a0) then (bif (impl_InRange.md a0.fCount 0 12) then (bif (impl_IsKeys.md a0.fKeys) then (bif (impl_isMaybe.md a0.fHeirs) then (bif (impl_isMaybe.md a0.fJudge) then (bif (impl_isWait.md a0.fWait a0.fHeirs) then (bif a0.fFrozen then ((!(impl_NoKeys.md a0.fJudge)) : Bool) else (true : Bool)) else (false : Bool)) else (false : Bool)) else (false : Bool)) else (false : Bool)) else (false : Bool)) else (false : Bool)) else (false : Bool)) else (false : Bool)) else (false : Bool)) else (false : Bool)) else (false : Bool))
def gd (a0 : MHead) : Prop := (MHead.Sm (2 ^ 21) a0)
def acc (ls : List L) : RHead := (RHead.dec ls)
noncomputable def R : RHead → Option Bool := RR gd md
theorem R_eq {a0} (h : gd a0) : R (MHead.r a0) = some (md a0) := RR_eq (a := a0) h
noncomputable def con : Con := CN pats res acc R
theorem okF (a0 : MHead) (hg : gd a0) : F (MHead.r a0) = ret ((md a0) : Bool) := by
  unfold gd at hg
  have H0 := hg
  unfold F md
  try simp only [S0, MHead.rs]
  refine call_to (impl_isDigest.md a0.fZone) (impl_isDigest.R_eq (a0 := a0.fZone) trivial) ?_
  refine bif_out ret (fun c1 => ?_) (fun _ => rfl)
  refine call_to (impl_isDigest.md a0.fRoot) (impl_isDigest.R_eq (a0 := a0.fRoot) trivial) ?_
  refine bif_out ret (fun c2 => ?_) (fun _ => rfl)
  refine call_to (impl_isDigest.md a0.fPrev) (impl_isDigest.R_eq (a0 := a0.fPrev) trivial) ?_
  refine bif_out ret (fun c3 => ?_) (fun _ => rfl)
  refine call_to (impl_InRange.md a0.fEpoch 0 200) (impl_InRange.R_eq (a0 := a0.fEpoch) (a1 := 0) (a2 := 200) trivial) ?_
  refine bif_out ret (fun c4 => ?_) (fun _ => rfl)
  refine call_to (impl_InRange.md a0.fKind 1 3) (impl_InRange.R_eq (a0 := a0.fKind) (a1 := 1) (a2 := 3) trivial) ?_
  refine bif_out ret (fun c5 => ?_) (fun _ => rfl)
  refine call_to (impl_isSpan.md a0) (impl_isSpan.R_eq (a0 := a0) trivial) ?_
  refine bif_out ret (fun c6 => ?_) (fun _ => rfl)
  refine call_to (impl_InRange.md a0.fCount 0 12) (impl_InRange.R_eq (a0 := a0.fCount) (a1 := 0) (a2 := 12) trivial) ?_
  refine bif_out ret (fun c7 => ?_) (fun _ => rfl)
  refine call_to (impl_IsKeys.md a0.fKeys) (impl_IsKeys.R_eq (a0 := a0.fKeys) H0.1) ?_
  refine bif_out ret (fun c8 => ?_) (fun _ => rfl)
  refine call_to (impl_isMaybe.md a0.fHeirs) (impl_isMaybe.R_eq (a0 := a0.fHeirs) H0.2.1) ?_
  refine bif_out ret (fun c9 => ?_) (fun _ => rfl)
  refine call_to (impl_isMaybe.md a0.fJudge) (impl_isMaybe.R_eq (a0 := a0.fJudge) H0.2.2) ?_
  refine bif_out ret (fun c10 => ?_) (fun _ => rfl)
  refine call_to (impl_isWait.md a0.fWait a0.fHeirs) (impl_isWait.R_eq (a0 := a0.fWait) (a1 := a0.fHeirs) trivial) ?_
  refine bif_out ret (fun c11 => ?_) (fun _ => rfl)
  refine bif_out ret (fun c12 => ?_) (fun _ => rfl)
  refine call_to (impl_NoKeys.md a0.fJudge) (impl_NoKeys.R_eq (a0 := a0.fJudge) trivial) ?_
  first | rfl | (simp only [S0, MHead.rs, MP]; first | done | rfl)
theorem valid_ : Valid Tryz.prog Ev 142 con := VV (run := fun _ x => F x) mix tab_ok (.cons impl_isDigest.valid_ (.cons impl_InRange.valid_ (.cons impl_isSpan.valid_ (.cons impl_IsKeys.valid_ (.cons impl_isMaybe.valid_ (.cons impl_isWait.valid_ (.cons impl_NoKeys.valid_ .nil))))))) Tryz.func142 (by kernel_rfl) run_eq (fun _ a _ _ hg => ⟨0, okF a hg⟩)
theorem br (a0 : MHead) : md a0 = spec_IsHead.md a0 := by
  unfold md spec_IsHead.md
  simp only [impl_IsKeys.br, impl_InRange.br, impl_isDigest.md, impl_isMaybe.md, impl_isWait.md, impl_NoKeys.br]
  have hs : impl_isSpan.md a0 = (spec_l1In.md a0.fTime 0 100000 && (spec_l1In.md a0.fUntil a0.fTime 100000 && !decide ((IntKind.i64.wrap (a0.fUntil - a0.fTime)) > 200))) := by
    rw [Bool.eq_iff_iff]
    simp [impl_isSpan.md, spec_l1In.md]
    omega
  have hk : spec_IsKeys.md a0.fJudge = true → spec_NoKeys.md a0.fJudge = false := fun h => by
    have := spec_IsKeys.tr h
    have e : ((a0.fJudge.fList.length : Int) == 0) = false := beq_eq_false_iff_ne.2 (by omega)
    unfold spec_NoKeys.md
    rw [e]
    cases a0.fJudge.fNeed == 0 <;> rfl
  rw [hs]
  revert hk
  simp only [and_n, and_p, Bool.and_assoc]
  generalize spec_l1In.md a0.fZone 0 2147483646 = b1
  generalize spec_l1In.md a0.fRoot 0 2147483646 = b2
  generalize spec_l1In.md a0.fPrev 0 2147483646 = b3
  generalize spec_l1In.md a0.fEpoch 0 200 = b4
  generalize spec_l1In.md a0.fKind 1 3 = b5
  generalize spec_l1In.md a0.fTime 0 100000 = b6
  generalize spec_l1In.md a0.fUntil a0.fTime 100000 = b7
  generalize decide ((IntKind.i64.wrap (a0.fUntil - a0.fTime)) > 200) = b8
  generalize spec_l1In.md a0.fCount 0 12 = b9
  generalize spec_IsKeys.md a0.fKeys = b10
  generalize spec_IsKeys.md a0.fHeirs = kh
  generalize spec_NoKeys.md a0.fHeirs = nh
  generalize spec_IsKeys.md a0.fJudge = kj
  generalize spec_NoKeys.md a0.fJudge = nj
  generalize spec_l1In.md a0.fWait 1 500 = lw
  have hw : (a0.fWait != 0) = !(a0.fWait == 0) := rfl
  rw [hw]
  generalize (a0.fWait == 0) = w0
  generalize a0.fFrozen = fz
  intro hk
  cases b1; · rfl
  cases b2; · rfl
  cases b3; · rfl
  cases b4; · rfl
  cases b5; · rfl
  cases b6; · rfl
  cases b7; · rfl
  cases b8; rotate_left; · rfl
  cases b9; · rfl
  cases b10; · rfl
  revert hk
  revert kh nh kj nj lw w0 fz
  decide
end impl_IsHead
/-! impl.KeysInts -/
namespace impl_KeysInts
noncomputable def F (x0 : RKeys) : Ans := (bif (lim (((2 : Int) + (x0.fList.length : Int)) * 8)) then ret (([[L.int x0.fNeed], [L.int (x0.fList.length : Int)]] ++ x0.fList) : List (List L)) else none)
def pats : List Pat := [.agg [.sl 3, .int .i64]]
def res : RP := .one (.fr 3)
noncomputable abbrev E : Env := ⟨assoc Tab, conG [], 12⟩
set_option maxRecDepth 100000
theorem run_eq (n : Nat) (ls : List L) : runF E (fun _ => []) Tryz.f193 res n (initS pats ls) = F (RKeys.dec ls) := by kernel_rfl
noncomputable def md (a0 : MKeys) : List Int := ([a0.fNeed, (a0.fList.length : Int)] ++ a0.fList)
def gd (a0 : MKeys) : Prop := (MKeys.Sm (2 ^ 21) a0)
def acc (ls : List L) : RKeys := (RKeys.dec ls)
noncomputable def R : RKeys → Option (List (List L)) := RR gd md
theorem R_eq {a0} (h : gd a0) : R (MKeys.r a0) = some ((md a0).map iRow) := RR_eq (a := a0) h
noncomputable def con : Con := CN pats res acc R
theorem okF (a0 : MKeys) (hg : gd a0) : F (MKeys.r a0) = ret (((md a0).map iRow) : List (List L)) := by
  unfold gd at hg
  have H0 := hg
  unfold F md
  try simp only [S0, MKeys.rs]
  refine yes_ret (by
      have := (H0).1
      refine lim_t ?_
      try simp (disch := omega) only [LN, wi]
      first | omega | (simp; done) | (simp; omega)) ?_
  all_goals first | rfl | (simp only [S0, MKeys.rs]; done) | (simp only [MP]; rfl) | (simp only [S0, MKeys.rs, MP]; first | done | rfl)
theorem valid_ : Valid Tryz.prog Ev 193 con := VV (run := fun _ x => F x) mix tab_ok .nil Tryz.func193 (by kernel_rfl) run_eq (fun _ a _ _ hg => ⟨0, okF a hg⟩)
theorem len (a0 : MKeys) : (md a0).length = 2 + a0.fList.length := by simp [md]; omega
theorem br (a0 : MKeys) : md a0 = spec_KeysInts.md a0 := by
  unfold md spec_KeysInts.md
  first
  | (simp only [id]; done)
  | (simp only [id]; rfl)
  | rfl
end impl_KeysInts
/-! impl.Mod -/
namespace impl_Mod
noncomputable def F (x0 : Int) (x1 : Int) : Ans := (call (impl_InRange.R (x1, 1, 1000000000000)) fun v1 => (bif (!v1) then ret (0 : Int) else (bif (decide (x1 = 0)) then none else (bif (decide (x1 = 0)) then none else ret ((Int.tmod (IntKind.i64.wrap ((Int.tmod x0 x1) + x1)) x1) : Int)))))
def pats : List Pat := [.rd (.int .i64), .rd (.int .i64)]
def res : RP := .one (.rd (.int .i64))
noncomputable abbrev E : Env := ⟨assoc Tab, conG [(88, impl_InRange.con)], 15⟩
set_option maxRecDepth 100000
theorem run_eq (n : Nat) (ls : List L) : runF E (fun _ => []) Tryz.f242 res n (initS pats ls) = F (ls.headD .hole).toInt ((dropT 1 ls).headD .hole).toInt := by kernel_rfl
noncomputable def md (a0 : Int) (a1 : Int) : Int := (bif (!(impl_InRange.md a1 1 1000000000000)) then (0 : Int) else ((Int.tmod (IntKind.i64.wrap ((Int.tmod a0 a1) + a1)) a1) : Int))
def gd (a0 : Int) (a1 : Int) : Prop := True
def acc (ls : List L) : Int × Int := ((ls.headD .hole).toInt, ((dropT 1 ls).headD .hole).toInt)
noncomputable def R : (Int × Int) → Option Int := RR (p2 gd) (u2 md)
theorem R_eq {a0} {a1} (h : gd a0 a1) : R (a0, a1) = some (md a0 a1) := RR_eq (a := (a0, a1)) h
noncomputable def con : Con := CN pats res acc R
theorem okF (a0 : Int) (a1 : Int) (hg : gd a0 a1) : F a0 a1 = ret ((md a0 a1) : Int) := by
  unfold F md
  try simp only [S0]
  refine call_to (impl_InRange.md a1 1 1000000000000) (impl_InRange.R_eq (a0 := a1) (a1 := 1) (a2 := 1000000000000) trivial) ?_
  refine bif_out ret (fun _ => rfl) (fun c1 => ?_)
  have dc1 := c1
  try simp only [DC] at dc1
  have Dc1 := c1
  try simp [impl_InRange.md] at Dc1
  refine no_ret (by
      refine decide_eq_false ?_
      try simp (disch := omega) only [LN, wi]
      first | omega | (simp; done) | (simp; omega)) ?_
  refine no_ret (by
      refine decide_eq_false ?_
      try simp (disch := omega) only [LN, wi]
      first | omega | (simp; done) | (simp; omega)) ?_
  first | rfl | (simp only [S0, MP]; first | done | rfl)
theorem valid_ : Valid Tryz.prog Ev 242 con := VV (run := fun _ x => F x.1 x.2) mix tab_ok (.cons impl_InRange.valid_ .nil) Tryz.func242 (by kernel_rfl) run_eq (fun _ a _ _ hg => ⟨0, okF a.1 a.2 hg⟩)
theorem br (a0 : Int) (a1 : Int) : md a0 a1 = spec_Mod.md a0 a1 := by
  unfold md spec_Mod.md
  first
  | (simp only [impl_InRange.br]; done)
  | (simp only [impl_InRange.br]; rfl)
  | rfl
end impl_Mod
/-! impl.Hash -/
namespace impl_Hash
inductive Pt where
  | p0 (a : Int) (b : List (List L)) (c : Int) (d : Int)
def pid : Pt → Nat
  | .p0 .. => 3
def pvs : Pt → List V
  | .p0 a b c d => [.int .i64 a, .sl none 3 b, .int .i64 c, .int .i64 d]
def phs : Pt → List Root
  | .p0 a b c d => []
noncomputable def step (J : Pt → Ans) : Pt → Ans
  | .p0 a b c d => (bif (decide (d < c)) then (bif (decide ((0 : Int) ≤ d)) then (bif (decide (d < (b.length : Int))) then (call (impl_Mod.R ((iAt b (Int.toNat d)), 2147483647)) fun v1 => J (.p0 (Int.tmod (IntKind.i64.wrap ((IntKind.i64.wrap ((IntKind.i64.wrap (a * 1000003)) + v1)) + 13)) 2147483647) b c (IntKind.i64.wrap (d + 1)))) else none) else none) else ret (a : Int))
noncomputable def start (J : Pt → Ans) (x0 : List (List L)) : Ans := J (.p0 11 x0 (x0.length : Int) 0)
def live : Nat → Live := fun i => match i with | 3 => [(3, none), (6, none), (7, none), (8, none)] | _ => []
def pats : List Pat := [.rd (.sl 3)]
def res : RP := .one (.rd (.int .i64))
noncomputable abbrev E : Env := ⟨assoc Tab, conG [(242, impl_Mod.con)], 21⟩
set_option maxRecDepth 100000
theorem step_eq (I : Heads) (p : Pt) : enterC E live I (pid p) (bodyOf Tryz.f201) (stOf (live (pid p)) (pvs p) (phs p)) (doneK E Tryz.f201 res) = step (fun q => I (pid q) (pvs q) (phs q)) p := by
  cases p <;> kernel_rfl
theorem start_eq (I : Heads) (ls : List L) : runC E live I (bodyOf Tryz.f201) (initS pats ls) (doneK E Tryz.f201 res) = start (fun q => I (pid q) (pvs q) (phs q)) (ls.headD .hole).toSl := by kernel_rfl
theorem run_eq (n : Nat) (ls : List L) : runF E live Tryz.f201 res n (initS pats ls) = start (iter step n) (ls.headD .hole).toSl := runF_iter (id := pid) (vs := pvs) (hs := phs) (step := step) (start := fun J => start J (ls.headD .hole).toSl) step_eq (fun I => start_eq I ls) n
noncomputable def md (a0 : List Int) : Int := (eachM (S := Int) (β := Int) (fun (y1 : Int) (s3 : Int) => (.inl (Int.tmod (IntKind.i64.wrap ((IntKind.i64.wrap ((IntKind.i64.wrap (s3 * 1000003)) + (impl_Mod.md y1 2147483647))) + 13)) 2147483647))) (fun (s3 : Int) => (s3 : Int)) a0 11)
def gd (a0 : List Int) : Prop := (SmL (2 ^ 43) (fun y : Int => True) a0)
def acc (ls : List L) : List (List L) := (ls.headD .hole).toSl
noncomputable def R : (List (List L)) → Option Int := RR gd md
theorem R_eq {a0} (h : gd a0) : R (a0.map iRow) = some (md a0) := RR_eq (a := a0) h
noncomputable def con : Con := CN pats res acc R
theorem okF (a0 : List Int) (hg : gd a0) : ∃ n, start (iter step n) (a0.map iRow) = ret ((md a0) : Int) := by
  unfold gd at hg
  have H0 := hg
  unfold start md
  try simp only [S0]
  have Bh2 : a0.length ≤ maxLen := (by
      have := (H0).1
      try simp only [maxLen] at *
      omega)
  refine ex_eq (out := ret) (loopM_eachM (z := 0)) ?_
  refine ex_pt (p := Pt.p0 11 (a0.map iRow) (a0.length : Int) 0) (by first | rfl | (simp only [S0, MP]; done) | (simp only [MP]; rfl)) ?_
  refine loopM_ok (pt := fun (i1 : Nat) (s3 : Int) => Pt.p0 s3 (a0.map iRow) (a0.length : Int) (i1 : Int)) (s := (11 : Int)) (out := ret) (fun _ _ => True) (fun J i1 s3 h2 hih2 => ?_) (fun s3 hih2 => ?_) trivial
  · simp only [step, S0]
    have bb_ := Bh2
    simp only [maxLen] at bb_
    have := (H0).1
    refine Rnd.yes (by apply decide_eq_true; omega) ?_
    refine Rnd.yes zle_dec ?_
    refine Rnd.yes (lt_dec h2) ?_
    refine Rnd.call_to (impl_Mod.md (a0.getD i1 0) 2147483647) (impl_Mod.R_eq (a0 := (a0.getD i1 0)) (a1 := 2147483647) trivial) ?_
    refine Rnd.inl trivial ?_
    rw [wrap_succ h2 Bh2]
    all_goals first | rfl | (simp only [S0, MP]; first | done | rfl)
  · simp only [step, S0]
    have := (H0).1
    refine ex_no (by apply decide_eq_false; omega) ?_
    refine ⟨0, ?_⟩
    first | rfl | (simp only [S0, MP]; first | done | rfl)
theorem valid_ : Valid Tryz.prog Ev 201 con := VV (run := fun n x => start (iter step n) x) mix tab_ok (.cons impl_Mod.valid_ .nil) Tryz.func201 (by kernel_rfl) run_eq (fun _ a _ _ hg => okF a hg)
theorem br (a0 : List Int) : md a0 = spec_Hash.md a0 := by
  unfold md spec_Hash.md
  first
  | (simp only [impl_Mod.br]; done)
  | (simp only [impl_Mod.br]; rfl)
  | rfl
end impl_Hash
/-! impl.ZoneOf -/
namespace impl_ZoneOf
noncomputable def F (x0 : RKeys) (x1 : Int) : Ans := (call (impl_KeysInts.R x0) fun v1 => (bif (lim (((2 : Int) + (v1.length : Int)) * 8)) then (call (impl_Hash.R ([[L.int 239], [L.int x1]] ++ v1)) fun v2 => ret (v2 : Int)) else none))
def pats : List Pat := [.agg [.sl 3, .int .i64], .rd (.int .i64)]
def res : RP := .one (.rd (.int .i64))
noncomputable abbrev E : Env := ⟨assoc Tab, conG [(193, impl_KeysInts.con), (201, impl_Hash.con)], 11⟩
set_option maxRecDepth 100000
theorem run_eq (n : Nat) (ls : List L) : runF E (fun _ => []) Tryz.f143 res n (initS pats ls) = F (RKeys.dec ls) ((dropT 2 ls).headD .hole).toInt := by kernel_rfl
noncomputable def md (a0 : MKeys) (a1 : Int) : Int := ((impl_Hash.md ([239, a1] ++ (impl_KeysInts.md a0))) : Int)
def gd (a0 : MKeys) (a1 : Int) : Prop := (MKeys.Sm (2 ^ 21) a0)
def acc (ls : List L) : RKeys × Int := ((RKeys.dec ls), ((dropT 2 ls).headD .hole).toInt)
noncomputable def R : (RKeys × Int) → Option Int := RR (p2 gd) (u2 md)
theorem R_eq {a0} {a1} (h : gd a0 a1) : R ((MKeys.r a0), a1) = some (md a0 a1) := RR_eq (a := (a0, a1)) h
noncomputable def con : Con := CN pats res acc R
theorem okF (a0 : MKeys) (a1 : Int) (hg : gd a0 a1) : F (MKeys.r a0) a1 = ret ((md a0 a1) : Int) := by
  unfold gd at hg
  have H0 := hg
  unfold F md
  try simp only [S0]
  refine call_to ((impl_KeysInts.md a0).map iRow) (impl_KeysInts.R_eq (a0 := a0) H0) ?_
  try simp only [S0]
  refine yes_ret (by
      have := impl_KeysInts.len a0
      have := (H0).1
      refine lim_t ?_
      try simp (disch := omega) only [LN, wi]
      first | omega | (simp; done) | (simp; omega)) ?_
  refine call_to (impl_Hash.md ([239, a1] ++ (impl_KeysInts.md a0))) ?_ ?_
  · have R_ := impl_Hash.R_eq (a0 := ([239, a1] ++ (impl_KeysInts.md a0))) ⟨(by
        have := impl_KeysInts.len a0
        have := (H0).1
        try simp (disch := omega) only [LN, wi]
        first | omega | (simp; done) | (simp; omega)), fun _ _ => trivial⟩
    first | exact R_ | (simp only [MP, S0] at R_ ⊢; first | exact R_ | (rw [← R_]; rfl))
  first | rfl | (simp only [S0, MP]; first | done | rfl)
theorem valid_ : Valid Tryz.prog Ev 143 con := VV (run := fun _ x => F x.1 x.2) mix tab_ok (.cons impl_KeysInts.valid_ (.cons impl_Hash.valid_ .nil)) Tryz.func143 (by kernel_rfl) run_eq (fun _ a _ _ hg => ⟨0, okF a.1 a.2 hg⟩)
theorem br (a0 : MKeys) (a1 : Int) : md a0 a1 = spec_ZoneOf.md a0 a1 := by
  unfold md spec_ZoneOf.md
  first
  | (simp only [impl_KeysInts.br, impl_Hash.br]; done)
  | (simp only [impl_KeysInts.br, impl_Hash.br]; rfl)
  | rfl
end impl_ZoneOf
/-! impl.bit -/
namespace impl_bit
noncomputable def F (x0 : Bool) : Ans := (bif x0 then ret (1 : Int) else ret (0 : Int))
def pats : List Pat := [.rd (.bool)]
def res : RP := .one (.rd (.int .i64))
noncomputable abbrev E : Env := ⟨assoc Tab, conG [], 4⟩
set_option maxRecDepth 100000
theorem run_eq (n : Nat) (ls : List L) : runF E (fun _ => []) Tryz.f194 res n (initS pats ls) = F (ls.headD .hole).toBool := by kernel_rfl
noncomputable def md (a0 : Bool) : Int := (bif a0 then (1 : Int) else (0 : Int))
def gd (a0 : Bool) : Prop := True
def acc (ls : List L) : Bool := (ls.headD .hole).toBool
noncomputable def R : Bool → Option Int := RR gd md
theorem R_eq {a0} (h : gd a0) : R a0 = some (md a0) := RR_eq (a := a0) h
noncomputable def con : Con := CN pats res acc R
theorem okF (a0 : Bool) (hg : gd a0) : F a0 = ret ((md a0) : Int) := by
  unfold F md
  try simp only [S0]
  refine bif_out ret (fun _ => rfl) (fun _ => rfl)
theorem valid_ : Valid Tryz.prog Ev 194 con := VV (run := fun _ x => F x) mix tab_ok .nil Tryz.func194 (by kernel_rfl) run_eq (fun _ a _ _ hg => ⟨0, okF a hg⟩)
end impl_bit
namespace slices_Grow_Sint_int
set_option maxHeartbeats 1000000 in
set_option maxRecDepth 100000 in
open Go.RowKit in
theorem calls0 (b : Option Addr) (w : World) : Calls Tryz.prog 239 #[.slice b 0 0, .int .i64 0] w fun e w' => e = .returned (.slice b 0 0) ∧ w' = w := by
  go_enter Tryz.func239, Tryz.ntmps239
  go_wp2
  go_ret
  exact ⟨rfl, rfl⟩
theorem size3 : Tryz.t3.size = 1 := by kernel_rfl
theorem bytes3 : Tryz.t3.bytes = 8 := by kernel_rfl
set_option maxHeartbeats 1000000 in
set_option maxRecDepth 100000 in
open Go.RowKit in
theorem calls1 (b : Option Addr) (n : Nat) (w : World) (h0 : 0 < n) (h1 : n * 8 ≤ 140737488355328) : Calls Tryz.prog 239 #[.slice b 0 0, .int .i64 n] w fun e w' => e = .returned (.slice (some ⟨w.heap.size, 0, none⟩) 0 (grownCap w n 0 3)) ∧ w' = (w.drew.alloc (.cells (Builtin.zeroCells #[.int .i64 0] n ++ Builtin.zeroCells #[.int .i64 0] (grownCap w n 0 3 - n)) 3)) := by
  have hp : (0 : Int) < n := by omega
  have hnn : ¬ ((n : Int) < 0) := by omega
  have hold : (Builtin.firstCells Tryz.t3.size 0 (.slice b 0 0)).run Tryz.prog w.drew = .ok ([] : List Value).toArray w.drew := by
    cases b with
    | none => exact run_firstCells_none _ _ _ _ _
    | some b => exact run_firstCells_some _ _ _ _ _ _ [] (by simp) (fun j v hj => by simp at hj)
  have H := fun ty => Lib.run_append_grow_zeros (P := Tryz.prog) w 45 3 ty 3 Tryz.t3 (.int .i64 0) .i64 .i64 (by kernel_rfl) (by kernel_rfl) (by kernel_rfl) (by kernel_rfl) b 0 0 [] hold n h0 (by rw [size3]; omega) (by omega) (by omega) (by rw [bytes3]; omega) (by
    rw [Nat.zero_add, nextslicecap_zero h0, bytes3]; omega)
  simp only [Nat.zero_add, Array.empty_append] at H
  have H2 := Lib.hid H
  clear H hold
  go_enter Tryz.func239, Tryz.ntmps239
  go_wp2_with (at_builtin; refine Lib.wpList_append_run _ rfl _ _ _ _ rfl _ _ rfl rfl _ _ (H2.out _) ?_)
  go_ret
  exact ⟨rfl, rfl⟩
noncomputable def md (_ : Int) : List Int := []
noncomputable def R (x0 : Int) : Option (List (List L)) := bif decide (0 ≤ x0) && decide (x0 * 8 ≤ 140737488355328) then some [] else none
theorem R_eq {a0 : Int} (h : 0 ≤ a0 ∧ a0 * 8 ≤ 140737488355328) : R a0 = some [] := by simp [R, h.1, h.2]
noncomputable def sem : List L → Option (List L)
  | [y0] => (R y0.toInt).map RT.enc
  | _ => none
noncomputable def con : Con := ⟨[.nil, .rd (.int .i64)], .one (.fr 3), sem⟩
theorem cells3 : Ev.cells 3 = [.int .i64] := by kernel_rfl
theorem valid_ : Valid Tryz.prog Ev 239 con := by
  refine valid_row ⟨Tryz.f239, Tryz.func239, by kernel_rfl, by kernel_rfl⟩ rfl fun ls r w vs Z hs hf => ?_
  simp only [con] at hs
  unfold sem at hs
  split at hs
  · rename_i y
    obtain ⟨v, hv, hq⟩ := map_some hs
    unfold R at hv
    cases hc : (decide (0 ≤ y.toInt) && decide (y.toInt * 8 ≤ 140737488355328)) <;> simp only [hc, cond_true, cond_false] at hv
    · cases hv
    injection hv with hv
    subst hv
    subst hq
    simp only [Bool.and_eq_true, decide_eq_true_eq] at hc
    cases hf with
    | cons h1 ht =>
      cases ht with
      | cons h2 ht =>
        cases ht
        obtain ⟨b, rfl⟩ := (show V0 Ev.cells w (A0 Z w) .nil _ from h1)
        have e2 : _ = Value.int .i64 y.toInt := h2
        subst e2
        obtain ⟨n, hn⟩ : ∃ n : Nat, y.toInt = n := ⟨y.toInt.toNat, by omega⟩
        rw [hn] at hc ⊢
        rcases Nat.eq_zero_or_pos n with h0 | h0
        · subst h0
          exact (calls0 b w).mono fun e w' ⟨h3, h4⟩ => ⟨_, fun _ => False, h3, by rw [h4]; exact Fr.refl _ _, fun b hb => hb.elim, .nil _ _ _ _ rfl⟩
        · refine (calls1 b n w h0 (by omega)).mono fun e w' ⟨h3, h4⟩ => ⟨_, fun b => b = w.heap.size, h3, ?_, fun b hb => ?_, ?_⟩
          · rw [h4]; exact ((Fr.refl w _).drew).alloc _
          · subst hb; rw [h4]; simp
          · have hge := grownCap_ge w n 0 3
            have hle : grownCap w n 0 3 ≤ maxLen := grownCap_le_maxLen w n 0 3 (by simp only [maxLen]; omega)
            rw [h4]
            refine .sl _ 3 0 _ w.heap.size 3 _ _ (fun _ _ => Go.undef) (fun _ _ _ => False) rfl (Nat.zero_le _) hle (heap_alloc_new w.drew _) ?_ rfl (fun _ _ _ h => h.elim) (fun _ _ _ _ _ h => h.elim) (fun i j k hi => by omega) (fun i j k hi => by omega)
            rw [cells3]
            simp only [Array.size_append, size_zeroCells, List.length_singleton]
            simp
            omega
  · cases hs
end slices_Grow_Sint_int
/-! slices.Concat[[]int,int] -/
namespace slices_Concat_Sint_int
inductive Pt where
  | p0 (a : List (List L)) (b : Int) (c : List (List L)) (d : Int) (e : Int)
  | p1 (a : List (List L)) (b : Int) (c : Int) (d : List (List L))
def pid : Pt → Nat
  | .p0 .. => 3
  | .p1 .. => 11
def pvs : Pt → List V
  | .p0 a b c d e => [.sl none 45 a, .int .i64 b, .sl none 45 c, .int .i64 d, .int .i64 e]
  | .p1 a b c d => [.own 0, .sl none 45 a, .int .i64 b, .int .i64 c]
def phs : Pt → List Root
  | .p0 a b c d e => []
  | .p1 a b c d => [.row 3 d]
noncomputable def step (J : Pt → Ans) : Pt → Ans
  | .p0 a b c d e => (bif (decide (e < d)) then (bif (decide ((0 : Int) ≤ e)) then (bif (decide (e < (c.length : Int))) then (bif (decide ((IntKind.i64.wrap (b + ((lAt c (Int.toNat e)).length : Int))) < 0)) then none else J (.p0 a (IntKind.i64.wrap (b + ((lAt c (Int.toNat e)).length : Int))) c d (IntKind.i64.wrap (e + 1)))) else none) else none) else (call (slices_Grow_Sint_int.R b) fun v1 => J (.p1 a (a.length : Int) 0 v1)))
  | .p1 a b c d => (bif (decide (c < b)) then (bif (decide ((0 : Int) ≤ c)) then (bif (decide (c < (a.length : Int))) then (bif (lim (((d.length : Int) + ((lAt a (Int.toNat c)).length : Int)) * 8)) then J (.p1 a b (IntKind.i64.wrap (c + 1)) (d ++ (lAt a (Int.toNat c)))) else none) else none) else none) else ret (d : List (List L)))
noncomputable def start (J : Pt → Ans) (x0 : List (List L)) : Ans := J (.p0 x0 0 x0 (x0.length : Int) 0)
def live : Nat → Live := fun i => match i with | 3 => [(0, none), (3, none), (9, none), (10, none), (11, none)] | 11 => [(6, none), (25, none), (26, none), (27, none)] | _ => []
def pats : List Pat := [.rd (.sl 45)]
def res : RP := .one (.fr 3)
noncomputable abbrev E : Env := ⟨assoc Tab, conG [(239, slices_Grow_Sint_int.con)], 36⟩
set_option maxRecDepth 100000
theorem step_eq (I : Heads) (p : Pt) : enterC E live I (pid p) (bodyOf Tryz.f192) (stOf (live (pid p)) (pvs p) (phs p)) (doneK E Tryz.f192 res) = step (fun q => I (pid q) (pvs q) (phs q)) p := by
  cases p <;> kernel_rfl
theorem start_eq (I : Heads) (ls : List L) : runC E live I (bodyOf Tryz.f192) (initS pats ls) (doneK E Tryz.f192 res) = start (fun q => I (pid q) (pvs q) (phs q)) (ls.headD .hole).toSl := by kernel_rfl
theorem run_eq (n : Nat) (ls : List L) : runF E live Tryz.f192 res n (initS pats ls) = start (iter step n) (ls.headD .hole).toSl := runF_iter (id := pid) (vs := pvs) (hs := phs) (step := step) (start := fun J => start J (ls.headD .hole).toSl) step_eq (fun I => start_eq I ls) n
noncomputable def md (a0 : List (List Int)) : List Int := a0.flatten
def gd (a0 : List (List Int)) : Prop := a0.length ≤ 8 ∧ ∀ x ∈ a0, x.length ≤ 2 ^ 40
def acc (ls : List L) : List (List L) := (ls.headD .hole).toSl
noncomputable def R : (List (List L)) → Option (List (List L)) := RR gd md
theorem R_eq {a0} (h : gd a0) : R (a0.map (lRow iRow)) = some ((md a0).map iRow) := RR_eq (a := a0) h
noncomputable def con : Con := CN pats res acc R
theorem okF (a0 : List (List Int)) (hg : gd a0) : ∃ n, start (iter step n) (a0.map (lRow iRow)) = ret (((md a0).map iRow) : List (List L)) := by
  obtain ⟨hl, hx⟩ := hg
  have hs : ∀ i, i ≤ a0.length → ((a0.take i).map List.length).sum ≤ i * 2 ^ 40 := by
    intro i
    induction i with
    | zero => intro _; simp
    | succ i ih =>
      intro hi
      rw [List.take_succ_eq_append_getElem (by omega)]
      have h1 := hx a0[i] (List.getElem_mem _)
      have h2 := ih (by omega)
      simp only [List.map_append, List.map_cons, List.map_nil, List.sum_append, List.sum_cons, List.sum_nil]
      omega
  have hstep : ∀ i (h : i < a0.length), ((a0.take (i + 1)).map List.length).sum = ((a0.take i).map List.length).sum + a0[i].length := by
    intro i hi
    rw [List.take_succ_eq_append_getElem (by omega)]
    simp only [List.map_append, List.map_cons, List.map_nil, List.sum_append, List.sum_cons, List.sum_nil]
    omega
  have hf : ∀ i, (a0.take i).flatten.length = ((a0.take i).map List.length).sum := fun i => List.length_flatten
  have second : ∀ k i, i + k = a0.length → ∃ n, iter step n (Pt.p1 (a0.map (lRow iRow)) (a0.length : Int) (i : Int) ((a0.take i).flatten.map iRow)) = ret (a0.flatten.map iRow : List (List L)) := by
    intro k
    induction k with
    | zero =>
      intro i hi
      obtain rfl : i = a0.length := by omega
      refine ⟨1, ?_⟩
      show step (iter step 0) (Pt.p1 _ _ _ _) = _
      simp only [step]
      refine no_ret (by simp) ?_
      rw [List.take_length]
    | succ k ih =>
      intro i hi
      obtain ⟨n, hn⟩ := ih (i + 1) (by omega)
      refine ⟨n + 1, ?_⟩
      show step (iter step n) (Pt.p1 _ _ _ _) = _
      have hlt : i < a0.length := by omega
      have b1 := hs (i + 1) (by omega)
      have b2 := hstep i hlt
      simp only [step, List.length_map, toNat_nat, lAt_getD]
      refine yes_ret (by simp; omega) (yes_ret (by simp) (yes_ret (by simp; omega) (yes_ret (lim_t ?_) ?_)))
      · rw [getD_lt hlt, hf]; omega
      · rw [wrap_succ hlt (by simp only [maxLen]; omega), getD_lt hlt, ← List.map_append]
        have e : (a0.take i).flatten ++ a0[i] = (a0.take (i + 1)).flatten := by
          rw [List.take_succ_eq_append_getElem (by omega)]
          simp only [List.flatten_append, List.flatten_cons, List.flatten_nil, List.append_nil]
        rw [e]; exact hn
  have first : ∀ k i, i + k = a0.length → ∃ n, iter step n (Pt.p0 (a0.map (lRow iRow)) ((((a0.take i).map List.length).sum : Nat) : Int) (a0.map (lRow iRow)) (a0.length : Int) (i : Int)) = ret (a0.flatten.map iRow : List (List L)) := by
    intro k
    induction k with
    | zero =>
      intro i hi
      obtain rfl : i = a0.length := by omega
      obtain ⟨n, hn⟩ := second a0.length 0 (by omega)
      refine ⟨n + 1, ?_⟩
      show step (iter step n) (Pt.p0 _ _ _ _ _) = _
      have b1 := hs a0.length (by omega)
      simp only [step]
      refine no_ret (by simp) (call_to [] (slices_Grow_Sint_int.R_eq ⟨by omega, by omega⟩) ?_)
      simpa using hn
    | succ k ih =>
      intro i hi
      obtain ⟨n, hn⟩ := ih (i + 1) (by omega)
      refine ⟨n + 1, ?_⟩
      show step (iter step n) (Pt.p0 _ _ _ _ _) = _
      have hlt : i < a0.length := by omega
      have b1 := hs (i + 1) (by omega)
      have b2 := hstep i hlt
      simp only [step, List.length_map, toNat_nat, lAt_getD, getD_lt hlt]
      have e : IntKind.i64.wrap (((((a0.take i).map List.length).sum : Nat) : Int) + (a0[i].length : Int)) = ((((a0.take (i + 1)).map List.length).sum : Nat) : Int) := by
        rw [Go.IntWalk.i64_in _ (by omega)]; omega
      rw [e]
      refine yes_ret (by simp; omega) (yes_ret (by simp) (yes_ret (by simp; omega) (no_ret (by simp) ?_)))
      rw [wrap_succ hlt (by simp only [maxLen]; omega)]
      exact hn
  unfold md
  obtain ⟨n, hn⟩ := first a0.length 0 (by omega)
  refine ⟨n, ?_⟩
  unfold start
  simpa using hn
theorem valid_ : Valid Tryz.prog Ev 192 con := VV (run := fun n x => start (iter step n) x) mix tab_ok (.cons slices_Grow_Sint_int.valid_ .nil) Tryz.func192 (by kernel_rfl) run_eq (fun _ a _ _ hg => okF a hg)
theorem len (a0 : List (List Int)) : (md a0).length = (a0.map List.length).sum := by simp [md]
end slices_Concat_Sint_int
/-! impl.HeadInts -/
namespace impl_HeadInts
noncomputable def F (x0 : RHead) : Ans := (call (impl_KeysInts.R x0.fKeys) fun v1 => (call (impl_KeysInts.R x0.fHeirs) fun v2 => (call (impl_KeysInts.R x0.fJudge) fun v3 => (call (impl_bit.R x0.fFrozen) fun v4 => (call (slices_Concat_Sint_int.R [[L.sl [[L.int x0.fZone], [L.int x0.fEpoch], [L.int x0.fKind], [L.int x0.fTime], [L.int x0.fUntil], [L.int x0.fCount], [L.int x0.fRoot], [L.int x0.fPrev]]], [L.sl v1], [L.sl v2], [L.sl [[L.int x0.fWait]]], [L.sl v3], [L.sl [[L.int v4]]]]) fun v5 => ret (v5 : List (List L)))))))
def pats : List Pat := [.agg [.int .i64, .int .i64, .int .i64, .int .i64, .int .i64, .int .i64, .int .i64, .int .i64, .sl 3, .int .i64, .sl 3, .int .i64, .int .i64, .sl 3, .int .i64, .bool]]
def res : RP := .one (.fr 3)
noncomputable abbrev E : Env := ⟨assoc Tab, conG [(193, impl_KeysInts.con), (194, impl_bit.con), (192, slices_Concat_Sint_int.con)], 38⟩
set_option maxRecDepth 100000
theorem run_eq (n : Nat) (ls : List L) : runF E (fun _ => []) Tryz.f140 res n (initS pats ls) = F (RHead.dec ls) := by kernel_rfl
noncomputable def md (a0 : MHead) : List Int := (slices_Concat_Sint_int.md [[a0.fZone, a0.fEpoch, a0.fKind, a0.fTime, a0.fUntil, a0.fCount, a0.fRoot, a0.fPrev], (impl_KeysInts.md a0.fKeys), (impl_KeysInts.md a0.fHeirs), [a0.fWait], (impl_KeysInts.md a0.fJudge), [(impl_bit.md a0.fFrozen)]])
def gd (a0 : MHead) : Prop := (MHead.Sm (2 ^ 21) a0)
def acc (ls : List L) : RHead := (RHead.dec ls)
noncomputable def R : RHead → Option (List (List L)) := RR gd md
theorem R_eq {a0} (h : gd a0) : R (MHead.r a0) = some ((md a0).map iRow) := RR_eq (a := a0) h
noncomputable def con : Con := CN pats res acc R
theorem okF (a0 : MHead) (hg : gd a0) : F (MHead.r a0) = ret (((md a0).map iRow) : List (List L)) := by
  unfold gd at hg
  have H0 := hg
  unfold F md
  try simp only [S0, MHead.rs]
  refine call_to ((impl_KeysInts.md a0.fKeys).map iRow) (impl_KeysInts.R_eq (a0 := a0.fKeys) H0.1) ?_
  try simp only [S0, MHead.rs]
  refine call_to ((impl_KeysInts.md a0.fHeirs).map iRow) (impl_KeysInts.R_eq (a0 := a0.fHeirs) H0.2.1) ?_
  try simp only [S0, MHead.rs]
  refine call_to ((impl_KeysInts.md a0.fJudge).map iRow) (impl_KeysInts.R_eq (a0 := a0.fJudge) H0.2.2) ?_
  try simp only [S0, MHead.rs]
  refine call_to (impl_bit.md a0.fFrozen) (impl_bit.R_eq (a0 := a0.fFrozen) trivial) ?_
  refine call_to ((slices_Concat_Sint_int.md [[a0.fZone, a0.fEpoch, a0.fKind, a0.fTime, a0.fUntil, a0.fCount, a0.fRoot, a0.fPrev], (impl_KeysInts.md a0.fKeys), (impl_KeysInts.md a0.fHeirs), [a0.fWait], (impl_KeysInts.md a0.fJudge), [(impl_bit.md a0.fFrozen)]]).map iRow) ?_ ?_
  · have R_ := slices_Concat_Sint_int.R_eq (a0 := [[a0.fZone, a0.fEpoch, a0.fKind, a0.fTime, a0.fUntil, a0.fCount, a0.fRoot, a0.fPrev], (impl_KeysInts.md a0.fKeys), (impl_KeysInts.md a0.fHeirs), [a0.fWait], (impl_KeysInts.md a0.fJudge), [(impl_bit.md a0.fFrozen)]]) ⟨(by simp), (by
        have := impl_KeysInts.len a0.fKeys
        have := (H0.1).1
        have := impl_KeysInts.len a0.fHeirs
        have := (H0.2.1).1
        have := impl_KeysInts.len a0.fJudge
        have := (H0.2.2).1
        intro x_ hx_
        simp only [List.mem_cons, List.not_mem_nil, or_false] at hx_
        rcases hx_ with hx_ | hx_ | hx_ | hx_ | hx_ | hx_
        all_goals (subst hx_; first | omega | (simp only [LN]; omega)))⟩
    first | exact R_ | (simp only [MP, S0, MHead.rs] at R_ ⊢; first | exact R_ | (rw [← R_]; rfl))
  try simp only [S0, MHead.rs]
  all_goals first | rfl | (simp only [S0, MHead.rs]; done) | (simp only [MP]; rfl) | (simp only [S0, MHead.rs, MP]; first | done | rfl)
theorem valid_ : Valid Tryz.prog Ev 140 con := VV (run := fun _ x => F x) mix tab_ok (.cons impl_KeysInts.valid_ (.cons impl_bit.valid_ (.cons slices_Concat_Sint_int.valid_ .nil))) Tryz.func140 (by kernel_rfl) run_eq (fun _ a _ _ hg => ⟨0, okF a hg⟩)
theorem len (a0 : MHead) : (md a0).length = 16 + a0.fKeys.fList.length + a0.fHeirs.fList.length + a0.fJudge.fList.length := by unfold md; simp [slices_Concat_Sint_int.md, impl_KeysInts.len]; omega
theorem br (a0 : MHead) : md a0 = spec_HeadInts.md a0 := by
  rw [spec_HeadInts.md_form]
  unfold md slices_Concat_Sint_int.md
  simp only [impl_KeysInts.br, impl_bit.md, List.flatten_cons, List.flatten_nil, List.cons_append, List.nil_append, List.append_nil]
end impl_HeadInts
/-! impl.KeyedHash -/
namespace impl_KeyedHash
noncomputable def F (x0 : Int) (x1 : List (List L)) : Ans := (call (slices_Concat_Sint_int.R [[L.sl [[L.int x0]]], [L.sl x1], [L.sl [[L.int x0]]]]) fun v1 => (call (impl_Hash.R v1) fun v2 => ret (v2 : Int)))
def pats : List Pat := [.rd (.int .i64), .rd (.sl 3)]
def res : RP := .one (.rd (.int .i64))
noncomputable abbrev E : Env := ⟨assoc Tab, conG [(192, slices_Concat_Sint_int.con), (201, impl_Hash.con)], 13⟩
set_option maxRecDepth 100000
theorem run_eq (n : Nat) (ls : List L) : runF E (fun _ => []) Tryz.f277 res n (initS pats ls) = F (ls.headD .hole).toInt ((dropT 1 ls).headD .hole).toSl := by kernel_rfl
noncomputable def md (a0 : Int) (a1 : List Int) : Int := ((impl_Hash.md (slices_Concat_Sint_int.md [[a0], a1, [a0]])) : Int)
def gd (a0 : Int) (a1 : List Int) : Prop := (SmL (2 ^ 40) (fun y : Int => True) a1)
def acc (ls : List L) : Int × List (List L) := ((ls.headD .hole).toInt, ((dropT 1 ls).headD .hole).toSl)
noncomputable def R : (Int × List (List L)) → Option Int := RR (p2 gd) (u2 md)
theorem R_eq {a0} {a1} (h : gd a0 a1) : R (a0, (a1.map iRow)) = some (md a0 a1) := RR_eq (a := (a0, a1)) h
noncomputable def con : Con := CN pats res acc R
theorem okF (a0 : Int) (a1 : List Int) (hg : gd a0 a1) : F a0 (a1.map iRow) = ret ((md a0 a1) : Int) := by
  unfold gd at hg
  have H1 := hg
  unfold F md
  try simp only [S0]
  refine call_to ((slices_Concat_Sint_int.md [[a0], a1, [a0]]).map iRow) ?_ ?_
  · have R_ := slices_Concat_Sint_int.R_eq (a0 := [[a0], a1, [a0]]) ⟨(by simp), (by
        have := (H1).1
        intro x_ hx_
        simp only [List.mem_cons, List.not_mem_nil, or_false] at hx_
        rcases hx_ with hx_ | hx_ | hx_
        all_goals (subst hx_; first | omega | (simp only [LN]; omega)))⟩
    first | exact R_ | (simp only [MP, S0] at R_ ⊢; first | exact R_ | (rw [← R_]; rfl))
  try simp only [S0]
  refine call_to (impl_Hash.md (slices_Concat_Sint_int.md [[a0], a1, [a0]])) (impl_Hash.R_eq (a0 := (slices_Concat_Sint_int.md [[a0], a1, [a0]])) ⟨(by
      have := slices_Concat_Sint_int.len [[a0], a1, [a0]]
      try simp only [LN] at this
      have := (H1).1
      try simp (disch := omega) only [LN, wi]
      first | omega | (simp; done) | (simp; omega)), fun _ _ => trivial⟩) ?_
  first | rfl | (simp only [S0, MP]; first | done | rfl)
theorem valid_ : Valid Tryz.prog Ev 277 con := VV (run := fun _ x => F x.1 x.2) mix tab_ok (.cons slices_Concat_Sint_int.valid_ (.cons impl_Hash.valid_ .nil)) Tryz.func277 (by kernel_rfl) run_eq (fun _ a _ _ hg => ⟨0, okF a.1 a.2 hg⟩)
theorem br (a0 : Int) (a1 : List Int) : md a0 a1 = spec_KeyedHash.md a0 a1 := by
  unfold md spec_KeyedHash.md
  first
  | (simp only [impl_Hash.br]; done)
  | (simp only [impl_Hash.br]; rfl)
  | rfl
end impl_KeyedHash
/-! impl.TagOf -/
namespace impl_TagOf
noncomputable def F (x0 : Int) (x1 : List (List L)) : Ans := (bif (lim (((1 : Int) + (x1.length : Int)) * 8)) then (call (impl_KeyedHash.R (x0, ([[L.int 223]] ++ x1))) fun v1 => ret (v1 : Int)) else none)
def pats : List Pat := [.rd (.int .i64), .rd (.sl 3)]
def res : RP := .one (.rd (.int .i64))
noncomputable abbrev E : Env := ⟨assoc Tab, conG [(277, impl_KeyedHash.con)], 10⟩
set_option maxRecDepth 100000
theorem run_eq (n : Nat) (ls : List L) : runF E (fun _ => []) Tryz.f272 res n (initS pats ls) = F (ls.headD .hole).toInt ((dropT 1 ls).headD .hole).toSl := by kernel_rfl
noncomputable def md (a0 : Int) (a1 : List Int) : Int := ((impl_KeyedHash.md a0 ([223] ++ a1)) : Int)
def gd (a0 : Int) (a1 : List Int) : Prop := (SmL (2 ^ 39) (fun y : Int => True) a1)
def acc (ls : List L) : Int × List (List L) := ((ls.headD .hole).toInt, ((dropT 1 ls).headD .hole).toSl)
noncomputable def R : (Int × List (List L)) → Option Int := RR (p2 gd) (u2 md)
theorem R_eq {a0} {a1} (h : gd a0 a1) : R (a0, (a1.map iRow)) = some (md a0 a1) := RR_eq (a := (a0, a1)) h
noncomputable def con : Con := CN pats res acc R
theorem okF (a0 : Int) (a1 : List Int) (hg : gd a0 a1) : F a0 (a1.map iRow) = ret ((md a0 a1) : Int) := by
  unfold gd at hg
  have H1 := hg
  unfold F md
  try simp only [S0]
  refine yes_ret (by
      have := (H1).1
      refine lim_t ?_
      try simp (disch := omega) only [LN, wi]
      first | omega | (simp; done) | (simp; omega)) ?_
  refine call_to (impl_KeyedHash.md a0 ([223] ++ a1)) ?_ ?_
  · have R_ := impl_KeyedHash.R_eq (a0 := a0) (a1 := ([223] ++ a1)) ⟨(by
        have := (H1).1
        try simp (disch := omega) only [LN, wi]
        first | omega | (simp; done) | (simp; omega)), fun _ _ => trivial⟩
    first | exact R_ | (simp only [MP, S0] at R_ ⊢; first | exact R_ | (rw [← R_]; rfl))
  first | rfl | (simp only [S0, MP]; first | done | rfl)
theorem valid_ : Valid Tryz.prog Ev 272 con := VV (run := fun _ x => F x.1 x.2) mix tab_ok (.cons impl_KeyedHash.valid_ .nil) Tryz.func272 (by kernel_rfl) run_eq (fun _ a _ _ hg => ⟨0, okF a.1 a.2 hg⟩)
theorem br (a0 : Int) (a1 : List Int) : md a0 a1 = spec_TagOf.md a0 a1 := by
  unfold md spec_TagOf.md
  first
  | (simp only [impl_KeyedHash.br]; done)
  | (simp only [impl_KeyedHash.br]; rfl)
  | rfl
end impl_TagOf
/-! impl.IsSigBy -/
namespace impl_IsSigBy
noncomputable def F (x0 : MSig) (x1 : List (List L)) : Ans := (call (impl_isKey.R x0.fKey) fun v1 => (bif v1 then (call (impl_TagOf.R (x0.fKey, x1)) fun v2 => ret ((x0.fTag == v2) : Bool)) else ret (false : Bool)))
def pats : List Pat := [.agg [.int .i64, .int .i64], .rd (.sl 3)]
def res : RP := .one (.rd (.bool))
noncomputable abbrev E : Env := ⟨assoc Tab, conG [(241, impl_isKey.con), (272, impl_TagOf.con)], 17⟩
set_option maxRecDepth 100000
theorem run_eq (n : Nat) (ls : List L) : runF E (fun _ => []) Tryz.f262 res n (initS pats ls) = F (MSig.dec ls) ((dropT 2 ls).headD .hole).toSl := by kernel_rfl
noncomputable def md (a0 : MSig) (a1 : List Int) : Bool := (bif (impl_isKey.md a0.fKey) then ((a0.fTag == (impl_TagOf.md a0.fKey a1)) : Bool) else (false : Bool))
def gd (a0 : MSig) (a1 : List Int) : Prop := (SmL (2 ^ 38) (fun y : Int => True) a1)
def acc (ls : List L) : MSig × List (List L) := ((MSig.dec ls), ((dropT 2 ls).headD .hole).toSl)
noncomputable def R : (MSig × List (List L)) → Option Bool := RR (p2 gd) (u2 md)
theorem R_eq {a0} {a1} (h : gd a0 a1) : R (a0, (a1.map iRow)) = some (md a0 a1) := RR_eq (a := (a0, a1)) h
noncomputable def con : Con := CN pats res acc R
theorem okF (a0 : MSig) (a1 : List Int) (hg : gd a0 a1) : F a0 (a1.map iRow) = ret ((md a0 a1) : Bool) := by
  unfold gd at hg
  have H1 := hg
  unfold F md
  try simp only [S0]
  refine call_to (impl_isKey.md a0.fKey) (impl_isKey.R_eq (a0 := a0.fKey) trivial) ?_
  refine bif_out ret (fun c1 => ?_) (fun _ => rfl)
  refine call_to (impl_TagOf.md a0.fKey a1) (impl_TagOf.R_eq (a0 := a0.fKey) (a1 := a1) (H1.mono (by decide) (fun x hx => trivial))) ?_
  first | rfl | (simp only [S0, MP]; first | done | rfl)
theorem valid_ : Valid Tryz.prog Ev 262 con := VV (run := fun _ x => F x.1 x.2) mix tab_ok (.cons impl_isKey.valid_ (.cons impl_TagOf.valid_ .nil)) Tryz.func262 (by kernel_rfl) run_eq (fun _ a _ _ hg => ⟨0, okF a.1 a.2 hg⟩)
theorem br (a0 : MSig) (a1 : List Int) : md a0 a1 = spec_IsSigBy.md a0 a1 := by
  unfold md spec_IsSigBy.md
  first
  | (simp only [impl_TagOf.br]; done)
  | (simp only [impl_TagOf.br]; rfl)
  | rfl
end impl_IsSigBy
/-! impl.CountSigs$1 -/
namespace impl_CountSigs_1
noncomputable def F (x0 : MSig) (x1 : List L) (x2 : List L) : Ans := (bif (x0.fKey == (iDec x1)) then (call (impl_IsSigBy.R (x0, (lDec x2))) fun v1 => ret (v1 : Bool)) else ret (false : Bool))
def pats : List Pat := [.agg [.int .i64, .int .i64], .ptr [.int .i64], .ptr [.sl 3]]
def res : RP := .one (.rd (.bool))
noncomputable abbrev E : Env := ⟨assoc Tab, conG [(262, impl_IsSigBy.con)], 14⟩
set_option maxRecDepth 100000
theorem run_eq (n : Nat) (ls : List L) : runF E (fun _ => []) Tryz.f261 res n (initS pats ls) = F (MSig.dec ls) (padL 1 (dropT 2 ls)) (padL 1 (dropT 3 ls)) := by kernel_rfl
noncomputable def md (a0 : MSig) (a1 : Int) (a2 : List Int) : Bool := (bif (a0.fKey == a1) then ((impl_IsSigBy.md a0 a2) : Bool) else (false : Bool))
def gd (a0 : MSig) (a1 : Int) (a2 : List Int) : Prop := (SmL (2 ^ 38) (fun y : Int => True) a2)
def acc (ls : List L) : MSig × Int × List (List L) := ((MSig.dec ls), (iDec (padL 1 (dropT 2 ls))), (lDec (padL 1 (dropT 3 ls))))
noncomputable def R : (MSig × Int × List (List L)) → Option Bool := RR (p3 gd) (u3 md)
theorem R_eq {a0} {a1} {a2} (h : gd a0 a1 a2) : R (a0, a1, (a2.map iRow)) = some (md a0 a1 a2) := RR_eq (a := (a0, a1, a2)) h
noncomputable def con : Con := CN pats res acc R
theorem okF (a0 : MSig) (a1 : Int) (a2 : List Int) (p1 : List L) (p2 : List L) (e1 : a1 = (iDec p1)) (e2 : (a2.map iRow) = (lDec p2)) (hg : gd a0 a1 a2) : F a0 p1 p2 = ret ((md a0 a1 a2) : Bool) := by
  unfold gd at hg
  have H2 := hg
  unfold F md
  try simp only [S0, ← e1, ← e2]
  refine bif_out ret (fun c1 => ?_) (fun _ => rfl)
  refine call_to (impl_IsSigBy.md a0 a2) (impl_IsSigBy.R_eq (a0 := a0) (a1 := a2) H2) ?_
  first | rfl | (simp only [S0, ← e1, ← e2, MP]; first | done | rfl)
theorem okV (ls : List L) (a : MSig × Int × List Int) (e : acc ls = Im.im a) (hg : (p3 gd) a) : ∃ n : Nat, F (MSig.dec ls) (padL 1 (dropT 2 ls)) (padL 1 (dropT 3 ls)) = ret (Im.im ((u3 md) a)) := by
  have e0 : a.1 = (MSig.dec ls) := (congrArg (fun x => x.1) e.symm)
  have hn := okF a.1 a.2.1 a.2.2 (padL 1 (dropT 2 ls)) (padL 1 (dropT 3 ls)) (congrArg (fun x => x.2.1) e.symm) (congrArg (fun x => x.2.2) e.symm) hg
  refine ⟨0, ?_⟩
  rw [← e0]
  exact hn
theorem valid_ : Valid Tryz.prog Ev 261 con := VP (accr := fun ls => ((MSig.dec ls), (padL 1 (dropT 2 ls)), (padL 1 (dropT 3 ls)))) (run := fun _ x => F x.1 x.2.1 x.2.2) mix tab_ok (.cons impl_IsSigBy.valid_ .nil) Tryz.func261 (by kernel_rfl) run_eq (fun ls a _ e hg => okV ls a e hg)
end impl_CountSigs_1
/-! slices.IndexFunc[[]impl.Sig,impl.Sig] -/
namespace slices_IndexFunc_Simpl_Sig_impl_Sig__impl_CountSigs_1
inductive Pt where
  | p0 (a : List (List L)) (b : List L) (c : List L) (d : Int) (e : Int)
def pid : Pt → Nat
  | .p0 .. => 2
def pvs : Pt → List V
  | .p0 a b c d e => [.sl none 179 a, .fn 261 [.cptr none [.int .i64] b 0, .cptr none [.sl 3] c 0], .int .i64 d, .int .i64 e]
def phs : Pt → List Root
  | .p0 a b c d e => []
noncomputable def step (J : Pt → Ans) : Pt → Ans
  | .p0 a b c d e => (bif (decide (e < d)) then (bif (decide ((0 : Int) ≤ e)) then (bif (decide (e < (a.length : Int))) then (call (impl_CountSigs_1.R ((MSig.at a (Int.toNat e)), (iDec b), (lDec c))) fun v1 => (bif v1 then ret (e : Int) else J (.p0 a b c d (IntKind.i64.wrap (e + 1))))) else none) else none) else ret ((-1) : Int))
noncomputable def start (J : Pt → Ans) (x0 : List (List L)) (x1 : List L) (x2 : List L) : Ans := J (.p0 x0 x1 x2 (x0.length : Int) 0)
def live : Nat → Live := fun i => match i with | 2 => [(0, none), (1, none), (7, none), (8, none)] | _ => []
def pats : List Pat := [.rd (.sl 179), .fn 261 [[.int .i64], [.sl 3]]]
def res : RP := .one (.rd (.int .i64))
noncomputable abbrev E : Env := ⟨assoc Tab, conG [(261, impl_CountSigs_1.con)], 19⟩
set_option maxRecDepth 100000
theorem step_eq (I : Heads) (p : Pt) : enterC E live I (pid p) (bodyOf Tryz.f271) (stOf (live (pid p)) (pvs p) (phs p)) (doneK E Tryz.f271 res) = step (fun q => I (pid q) (pvs q) (phs q)) p := by
  cases p <;> kernel_rfl
theorem start_eq (I : Heads) (ls : List L) : runC E live I (bodyOf Tryz.f271) (initS pats ls) (doneK E Tryz.f271 res) = start (fun q => I (pid q) (pvs q) (phs q)) (ls.headD .hole).toSl (padL 1 (dropT 1 ls)) (padL 1 (dropT 2 ls)) := by kernel_rfl
theorem run_eq (n : Nat) (ls : List L) : runF E live Tryz.f271 res n (initS pats ls) = start (iter step n) (ls.headD .hole).toSl (padL 1 (dropT 1 ls)) (padL 1 (dropT 2 ls)) := runF_iter (id := pid) (vs := pvs) (hs := phs) (step := step) (start := fun J => start J (ls.headD .hole).toSl (padL 1 (dropT 1 ls)) (padL 1 (dropT 2 ls))) step_eq (fun I => start_eq I ls) n
noncomputable def md (a0 : List MSig) (a1 : Int) (a2 : List Int) : Int := (eachI (S := Unit) (β := Int) (fun (i1 : Nat) (y1 : MSig) (s3 : Unit) => (bif (impl_CountSigs_1.md y1 a1 a2) then (.inr ((i1 : Int) : Int)) else (.inl ()))) (fun (s3 : Unit) => ((-1) : Int)) 0 a0 ())
def gd (a0 : List MSig) (a1 : Int) (a2 : List Int) : Prop := (SmL (2 ^ 21) (fun y : MSig => MSig.Sm (2 ^ 21) y) a0) ∧ (SmL (2 ^ 38) (fun y : Int => True) a2)
def acc (ls : List L) : List (List L) × Int × List (List L) := ((ls.headD .hole).toSl, (iDec (padL 1 (dropT 1 ls))), (lDec (padL 1 (dropT 2 ls))))
noncomputable def R : (List (List L) × Int × List (List L)) → Option Int := RR (p3 gd) (u3 md)
theorem R_eq {a0} {a1} {a2} (h : gd a0 a1 a2) : R ((a0.map MSig.row), a1, (a2.map iRow)) = some (md a0 a1 a2) := RR_eq (a := (a0, a1, a2)) h
noncomputable def con : Con := CN pats res acc R
theorem okF (a0 : List MSig) (a1 : Int) (a2 : List Int) (p1 : List L) (p2 : List L) (e1 : a1 = (iDec p1)) (e2 : (a2.map iRow) = (lDec p2)) (hg : gd a0 a1 a2) : ∃ n, start (iter step n) (a0.map MSig.row) p1 p2 = ret ((md a0 a1 a2) : Int) := by
  unfold gd at hg
  obtain ⟨H0, H2⟩ := hg
  unfold start md
  try simp only [S0, MSig.rs, ← e1, ← e2]
  have Bh2 : a0.length ≤ maxLen := (by
      have := (H0).1
      try simp only [maxLen] at *
      omega)
  refine ex_eq (out := ret) (loopM_eachI (z := MSig.zero)) ?_
  refine ex_pt (p := Pt.p0 (a0.map MSig.row) p1 p2 (a0.length : Int) 0) (by first | rfl | (simp only [S0, MSig.rs, ← e1, ← e2, MP]; done) | (simp only [MP]; rfl)) ?_
  refine loopM_ok (pt := fun (i1 : Nat) (s3 : Unit) => Pt.p0 (a0.map MSig.row) p1 p2 (a0.length : Int) (i1 : Int)) (s := (() : Unit)) (out := ret) (fun _ _ => True) (fun J i1 s3 h2 hih2 => ?_) (fun s3 hih2 => ?_) trivial
  · simp only [step, S0, MSig.rs, ← e1, ← e2]
    have bb_ := Bh2
    simp only [maxLen] at bb_
    have := (H0).1
    refine Rnd.yes (by apply decide_eq_true; omega) ?_
    refine Rnd.yes zle_dec ?_
    refine Rnd.yes (lt_dec h2) ?_
    refine Rnd.call_to (impl_CountSigs_1.md (a0.getD i1 MSig.zero) a1 a2) (impl_CountSigs_1.R_eq (a0 := (a0.getD i1 MSig.zero)) (a1 := a1) (a2 := a2) H2) ?_
    refine Rnd.bif (fun c4 => ?_) (fun c4 => ?_)
    · refine Rnd.inr ?_
      first | rfl | (simp only [S0, MSig.rs, ← e1, ← e2, MP]; first | done | rfl)
    · refine Rnd.inl trivial ?_
      rw [wrap_succ h2 Bh2]
      all_goals first | rfl | (simp only [S0, MSig.rs, ← e1, ← e2, MP]; first | done | rfl)
  · simp only [step, S0, MSig.rs, ← e1, ← e2]
    have := (H0).1
    refine ex_no (by apply decide_eq_false; omega) ?_
    refine ⟨0, ?_⟩
    first | rfl | (simp only [S0, MSig.rs, ← e1, ← e2, MP]; first | done | rfl)
theorem okV (ls : List L) (a : List MSig × Int × List Int) (e : acc ls = Im.im a) (hg : (p3 gd) a) : ∃ n : Nat, start (iter step n) ((ls.headD .hole).toSl) (padL 1 (dropT 1 ls)) (padL 1 (dropT 2 ls)) = ret (Im.im ((u3 md) a)) := by
  have e0 : (a.1.map MSig.row) = (ls.headD .hole).toSl := (congrArg (fun x => x.1) e.symm)
  obtain ⟨n, hn⟩ := okF a.1 a.2.1 a.2.2 (padL 1 (dropT 1 ls)) (padL 1 (dropT 2 ls)) (congrArg (fun x => x.2.1) e.symm) (congrArg (fun x => x.2.2) e.symm) hg
  refine ⟨n, ?_⟩
  rw [← e0]
  exact hn
theorem valid_ : Valid Tryz.prog Ev 271 con := VP (accr := fun ls => ((ls.headD .hole).toSl, (padL 1 (dropT 1 ls)), (padL 1 (dropT 2 ls)))) (run := fun n x => start (iter step n) x.1 x.2.1 x.2.2) mix tab_ok (.cons impl_CountSigs_1.valid_ .nil) Tryz.func271 (by kernel_rfl) run_eq (fun ls a _ e hg => okV ls a e hg)
theorem fa (a0 : List MSig) (a1 : Int) (a2 : List Int) : -1 ≤ md a0 a1 a2 ∧ md a0 a1 a2 < (a0.length : Int) := by
  unfold md
  refine eachI_fa0 ?_ _ _
  all_goals
    intro i x s b h
    revert h
    simp only [Bool.cond_eq_ite]
    repeat' split
    all_goals (intro h; first | (cases h; rfl) | cases h)
theorem idx_eq (a0 : List MSig) (a1 : Int) (a2 : List Int) : md a0 a1 a2 = findI (fun y => impl_CountSigs_1.md y a1 a2) 0 a0 := by
  unfold md
  exact eachI_find
end slices_IndexFunc_Simpl_Sig_impl_Sig__impl_CountSigs_1
/-! slices.ContainsFunc[[]impl.Sig,impl.Sig] -/
namespace slices_ContainsFunc_Simpl_Sig_impl_Sig__impl_CountSigs_1
noncomputable def F (x0 : List (List L)) (x1 : List L) (x2 : List L) : Ans := (call (slices_IndexFunc_Simpl_Sig_impl_Sig__impl_CountSigs_1.R (x0, (iDec x1), (lDec x2))) fun v1 => ret ((decide (v1 ≥ 0)) : Bool))
def pats : List Pat := [.rd (.sl 179), .fn 261 [[.int .i64], [.sl 3]]]
def res : RP := .one (.rd (.bool))
noncomputable abbrev E : Env := ⟨assoc Tab, conG [(271, slices_IndexFunc_Simpl_Sig_impl_Sig__impl_CountSigs_1.con)], 9⟩
set_option maxRecDepth 100000
theorem run_eq (n : Nat) (ls : List L) : runF E (fun _ => []) Tryz.f260 res n (initS pats ls) = F (ls.headD .hole).toSl (padL 1 (dropT 1 ls)) (padL 1 (dropT 2 ls)) := by kernel_rfl
noncomputable def md (a0 : List MSig) (a1 : Int) (a2 : List Int) : Bool := ((decide ((slices_IndexFunc_Simpl_Sig_impl_Sig__impl_CountSigs_1.md a0 a1 a2) ≥ 0)) : Bool)
def gd (a0 : List MSig) (a1 : Int) (a2 : List Int) : Prop := (SmL (2 ^ 21) (fun y : MSig => MSig.Sm (2 ^ 21) y) a0) ∧ (SmL (2 ^ 38) (fun y : Int => True) a2)
def acc (ls : List L) : List (List L) × Int × List (List L) := ((ls.headD .hole).toSl, (iDec (padL 1 (dropT 1 ls))), (lDec (padL 1 (dropT 2 ls))))
noncomputable def R : (List (List L) × Int × List (List L)) → Option Bool := RR (p3 gd) (u3 md)
theorem R_eq {a0} {a1} {a2} (h : gd a0 a1 a2) : R ((a0.map MSig.row), a1, (a2.map iRow)) = some (md a0 a1 a2) := RR_eq (a := (a0, a1, a2)) h
noncomputable def con : Con := CN pats res acc R
theorem okF (a0 : List MSig) (a1 : Int) (a2 : List Int) (p1 : List L) (p2 : List L) (e1 : a1 = (iDec p1)) (e2 : (a2.map iRow) = (lDec p2)) (hg : gd a0 a1 a2) : F (a0.map MSig.row) p1 p2 = ret ((md a0 a1 a2) : Bool) := by
  unfold gd at hg
  obtain ⟨H0, H2⟩ := hg
  unfold F md
  try simp only [S0, ← e1, ← e2]
  refine call_to (slices_IndexFunc_Simpl_Sig_impl_Sig__impl_CountSigs_1.md a0 a1 a2) (slices_IndexFunc_Simpl_Sig_impl_Sig__impl_CountSigs_1.R_eq (a0 := a0) (a1 := a1) (a2 := a2) ⟨H0, H2⟩) ?_
  have fv1_ := slices_IndexFunc_Simpl_Sig_impl_Sig__impl_CountSigs_1.fa a0 a1 a2
  first | rfl | (simp only [S0, ← e1, ← e2, MP]; first | done | rfl)
theorem okV (ls : List L) (a : List MSig × Int × List Int) (e : acc ls = Im.im a) (hg : (p3 gd) a) : ∃ n : Nat, F ((ls.headD .hole).toSl) (padL 1 (dropT 1 ls)) (padL 1 (dropT 2 ls)) = ret (Im.im ((u3 md) a)) := by
  have e0 : (a.1.map MSig.row) = (ls.headD .hole).toSl := (congrArg (fun x => x.1) e.symm)
  have hn := okF a.1 a.2.1 a.2.2 (padL 1 (dropT 1 ls)) (padL 1 (dropT 2 ls)) (congrArg (fun x => x.2.1) e.symm) (congrArg (fun x => x.2.2) e.symm) hg
  refine ⟨0, ?_⟩
  rw [← e0]
  exact hn
theorem valid_ : Valid Tryz.prog Ev 260 con := VP (accr := fun ls => ((ls.headD .hole).toSl, (padL 1 (dropT 1 ls)), (padL 1 (dropT 2 ls)))) (run := fun _ x => F x.1 x.2.1 x.2.2) mix tab_ok (.cons slices_IndexFunc_Simpl_Sig_impl_Sig__impl_CountSigs_1.valid_ .nil) Tryz.func260 (by kernel_rfl) run_eq (fun ls a _ e hg => okV ls a e hg)
theorem any_eq (a0 : List MSig) (a1 : Int) (a2 : List Int) : md a0 a1 a2 = a0.any (fun y => impl_CountSigs_1.md y a1 a2) := by
  unfold md
  rw [slices_IndexFunc_Simpl_Sig_impl_Sig__impl_CountSigs_1.idx_eq]
  exact findI_ge
end slices_ContainsFunc_Simpl_Sig_impl_Sig__impl_CountSigs_1
/-! impl.CountSigs -/
namespace impl_CountSigs
inductive Pt where
  | p0 (a : List (List L)) (b : Int) (c : List (List L)) (d : Int) (e : Int) (f : List (List L))
def pid : Pt → Nat
  | .p0 .. => 3
def pvs : Pt → List V
  | .p0 a b c d e f => [.sl none 179 a, .bptr 0 0, .int .i64 b, .sl none 3 c, .int .i64 d, .int .i64 e]
def phs : Pt → List Root
  | .p0 a b c d e f => [.box [.sl none 3 f]]
noncomputable def step (J : Pt → Ans) : Pt → Ans
  | .p0 a b c d e f => (bif (decide (e < d)) then (bif (decide ((0 : Int) ≤ e)) then (bif (decide (e < (c.length : Int))) then (call (slices_ContainsFunc_Simpl_Sig_impl_Sig__impl_CountSigs_1.R (a, (iAt c (Int.toNat e)), f)) fun v1 => (bif v1 then J (.p0 a (IntKind.i64.wrap (b + 1)) c d (IntKind.i64.wrap (e + 1)) f) else J (.p0 a b c d (IntKind.i64.wrap (e + 1)) f))) else none) else none) else ret (b : Int))
noncomputable def start (J : Pt → Ans) (x0 : RKeys) (x1 : List (List L)) (x2 : List (List L)) : Ans := J (.p0 x2 0 x0.fList (x0.fList.length : Int) 0 x1)
def live : Nat → Live := fun i => match i with | 3 => [(2, none), (4, none), (7, none), (11, none), (12, none), (13, none)] | _ => []
def pats : List Pat := [.agg [.sl 3, .int .i64], .rd (.sl 3), .rd (.sl 179)]
def res : RP := .one (.rd (.int .i64))
noncomputable abbrev E : Env := ⟨assoc Tab, conG [(260, slices_ContainsFunc_Simpl_Sig_impl_Sig__impl_CountSigs_1.con)], 24⟩
set_option maxRecDepth 100000
theorem step_eq (I : Heads) (p : Pt) : enterC E live I (pid p) (bodyOf Tryz.f243) (stOf (live (pid p)) (pvs p) (phs p)) (doneK E Tryz.f243 res) = step (fun q => I (pid q) (pvs q) (phs q)) p := by
  cases p <;> kernel_rfl
theorem start_eq (I : Heads) (ls : List L) : runC E live I (bodyOf Tryz.f243) (initS pats ls) (doneK E Tryz.f243 res) = start (fun q => I (pid q) (pvs q) (phs q)) (RKeys.dec ls) ((dropT 2 ls).headD .hole).toSl ((dropT 3 ls).headD .hole).toSl := by kernel_rfl
theorem run_eq (n : Nat) (ls : List L) : runF E live Tryz.f243 res n (initS pats ls) = start (iter step n) (RKeys.dec ls) ((dropT 2 ls).headD .hole).toSl ((dropT 3 ls).headD .hole).toSl := runF_iter (id := pid) (vs := pvs) (hs := phs) (step := step) (start := fun J => start J (RKeys.dec ls) ((dropT 2 ls).headD .hole).toSl ((dropT 3 ls).headD .hole).toSl) step_eq (fun I => start_eq I ls) n
noncomputable def md (a0 : MKeys) (a1 : List Int) (a2 : List MSig) : Int := (eachM (S := Int) (β := Int) (fun (y1 : Int) (s3 : Int) => (bif (slices_ContainsFunc_Simpl_Sig_impl_Sig__impl_CountSigs_1.md a2 y1 a1) then (.inl (IntKind.i64.wrap (s3 + 1))) else (.inl s3))) (fun (s3 : Int) => (s3 : Int)) a0.fList 0)
def gd (a0 : MKeys) (a1 : List Int) (a2 : List MSig) : Prop := (MKeys.Sm (2 ^ 21) a0) ∧ (SmL (2 ^ 38) (fun y : Int => True) a1) ∧ (SmL (2 ^ 21) (fun y : MSig => MSig.Sm (2 ^ 21) y) a2)
def acc (ls : List L) : RKeys × List (List L) × List (List L) := ((RKeys.dec ls), ((dropT 2 ls).headD .hole).toSl, ((dropT 3 ls).headD .hole).toSl)
noncomputable def R : (RKeys × List (List L) × List (List L)) → Option Int := RR (p3 gd) (u3 md)
theorem R_eq {a0} {a1} {a2} (h : gd a0 a1 a2) : R ((MKeys.r a0), (a1.map iRow), (a2.map MSig.row)) = some (md a0 a1 a2) := RR_eq (a := (a0, a1, a2)) h
noncomputable def con : Con := CN pats res acc R
theorem okF (a0 : MKeys) (a1 : List Int) (a2 : List MSig) (hg : gd a0 a1 a2) : ∃ n, start (iter step n) (MKeys.r a0) (a1.map iRow) (a2.map MSig.row) = ret ((md a0 a1 a2) : Int) := by
  unfold gd at hg
  obtain ⟨H0, H1, H2⟩ := hg
  unfold start md
  try simp only [S0, MKeys.rs]
  have Bh2 : a0.fList.length ≤ maxLen := (by
      have := (H0).1
      try simp only [maxLen] at *
      omega)
  refine ex_eq (out := ret) (loopM_eachM (z := 0)) ?_
  refine ex_pt (p := Pt.p0 (a2.map MSig.row) 0 (a0.fList.map iRow) (a0.fList.length : Int) 0 (a1.map iRow)) (by first | rfl | (simp only [S0, MKeys.rs, MP]; done) | (simp only [MP]; rfl)) ?_
  refine loopM_ok (pt := fun (i1 : Nat) (s3 : Int) => Pt.p0 (a2.map MSig.row) s3 (a0.fList.map iRow) (a0.fList.length : Int) (i1 : Int) (a1.map iRow)) (s := (0 : Int)) (out := ret) (fun _ _ => True) (fun J i1 s3 h2 hih2 => ?_) (fun s3 hih2 => ?_) trivial
  · simp only [step, S0, MKeys.rs]
    have bb_ := Bh2
    simp only [maxLen] at bb_
    have := (H0).1
    refine Rnd.yes (by apply decide_eq_true; omega) ?_
    refine Rnd.yes zle_dec ?_
    refine Rnd.yes (lt_dec h2) ?_
    refine Rnd.call_to (slices_ContainsFunc_Simpl_Sig_impl_Sig__impl_CountSigs_1.md a2 (a0.fList.getD i1 0) a1) (slices_ContainsFunc_Simpl_Sig_impl_Sig__impl_CountSigs_1.R_eq (a0 := a2) (a1 := (a0.fList.getD i1 0)) (a2 := a1) ⟨H2, H1⟩) ?_
    refine Rnd.bif (fun c4 => ?_) (fun c4 => ?_)
    · refine Rnd.inl trivial ?_
      rw [wrap_succ h2 Bh2]
      all_goals first | rfl | (simp only [S0, MKeys.rs, MP]; first | done | rfl)
    · refine Rnd.inl trivial ?_
      rw [wrap_succ h2 Bh2]
      all_goals first | rfl | (simp only [S0, MKeys.rs, MP]; first | done | rfl)
  · simp only [step, S0, MKeys.rs]
    have := (H0).1
    refine ex_no (by apply decide_eq_false; omega) ?_
    refine ⟨0, ?_⟩
    first | rfl | (simp only [S0, MKeys.rs, MP]; first | done | rfl)
theorem valid_ : Valid Tryz.prog Ev 243 con := VV (run := fun n x => start (iter step n) x.1 x.2.1 x.2.2) mix tab_ok (.cons slices_ContainsFunc_Simpl_Sig_impl_Sig__impl_CountSigs_1.valid_ .nil) Tryz.func243 (by kernel_rfl) run_eq (fun _ a _ _ hg => okF a.1 a.2.1 a.2.2 hg)
theorem br (a0 : MKeys) (a1 : List Int) (a2 : List MSig) : md a0 a1 a2 = spec_CountSigs.md a0 a1 a2 := by
  unfold md spec_CountSigs.md
  refine eachM_congr (fun x _ s => ?_) (fun s => rfl)
  rw [slices_ContainsFunc_Simpl_Sig_impl_Sig__impl_CountSigs_1.any_eq]
  refine Eq.trans ?_ (eachM_any' (β := Int ⊕ Int) (p := fun y => impl_CountSigs_1.md y x a1) (b := Sum.inl (IntKind.i64.wrap (s + 1))) (c := Sum.inl s) (fun y s' => ?_) a2 ()).symm
  · cases a2.any (fun y => impl_CountSigs_1.md y x a1) <;> rfl
  · unfold impl_CountSigs_1.md
    simp only [impl_IsSigBy.br]
    cases y.fKey == x <;> cases spec_IsSigBy.md y a1 <;> rfl
end impl_CountSigs
/-! impl.IsSigned -/
namespace impl_IsSigned
noncomputable def F (x0 : RKeys) (x1 : List (List L)) (x2 : List (List L)) : Ans := (call (impl_IsKeys.R x0) fun v1 => (bif v1 then (call (impl_CountSigs.R (x0, x1, x2)) fun v2 => ret ((decide (v2 ≥ x0.fNeed)) : Bool)) else ret (false : Bool)))
def pats : List Pat := [.agg [.sl 3, .int .i64], .rd (.sl 3), .rd (.sl 179)]
def res : RP := .one (.rd (.bool))
noncomputable abbrev E : Env := ⟨assoc Tab, conG [(197, impl_IsKeys.con), (243, impl_CountSigs.con)], 18⟩
set_option maxRecDepth 100000
theorem run_eq (n : Nat) (ls : List L) : runF E (fun _ => []) Tryz.f202 res n (initS pats ls) = F (RKeys.dec ls) ((dropT 2 ls).headD .hole).toSl ((dropT 3 ls).headD .hole).toSl := by kernel_rfl
noncomputable def md (a0 : MKeys) (a1 : List Int) (a2 : List MSig) : Bool := (bif (impl_IsKeys.md a0) then ((decide ((impl_CountSigs.md a0 a1 a2) ≥ a0.fNeed)) : Bool) else (false : Bool))
def gd (a0 : MKeys) (a1 : List Int) (a2 : List MSig) : Prop := (MKeys.Sm (2 ^ 21) a0) ∧ (SmL (2 ^ 38) (fun y : Int => True) a1) ∧ (SmL (2 ^ 21) (fun y : MSig => MSig.Sm (2 ^ 21) y) a2)
def acc (ls : List L) : RKeys × List (List L) × List (List L) := ((RKeys.dec ls), ((dropT 2 ls).headD .hole).toSl, ((dropT 3 ls).headD .hole).toSl)
noncomputable def R : (RKeys × List (List L) × List (List L)) → Option Bool := RR (p3 gd) (u3 md)
theorem R_eq {a0} {a1} {a2} (h : gd a0 a1 a2) : R ((MKeys.r a0), (a1.map iRow), (a2.map MSig.row)) = some (md a0 a1 a2) := RR_eq (a := (a0, a1, a2)) h
noncomputable def con : Con := CN pats res acc R
theorem okF (a0 : MKeys) (a1 : List Int) (a2 : List MSig) (hg : gd a0 a1 a2) : F (MKeys.r a0) (a1.map iRow) (a2.map MSig.row) = ret ((md a0 a1 a2) : Bool) := by
  unfold gd at hg
  obtain ⟨H0, H1, H2⟩ := hg
  unfold F md
  try simp only [S0, MKeys.rs]
  refine call_to (impl_IsKeys.md a0) (impl_IsKeys.R_eq (a0 := a0) H0) ?_
  refine bif_out ret (fun c1 => ?_) (fun _ => rfl)
  refine call_to (impl_CountSigs.md a0 a1 a2) (impl_CountSigs.R_eq (a0 := a0) (a1 := a1) (a2 := a2) ⟨H0, H1, H2⟩) ?_
  first | rfl | (simp only [S0, MKeys.rs, MP]; first | done | rfl)
theorem valid_ : Valid Tryz.prog Ev 202 con := VV (run := fun _ x => F x.1 x.2.1 x.2.2) mix tab_ok (.cons impl_IsKeys.valid_ (.cons impl_CountSigs.valid_ .nil)) Tryz.func202 (by kernel_rfl) run_eq (fun _ a _ _ hg => ⟨0, okF a.1 a.2.1 a.2.2 hg⟩)
theorem br (a0 : MKeys) (a1 : List Int) (a2 : List MSig) : md a0 a1 a2 = spec_IsSigned.md a0 a1 a2 := by
  unfold md spec_IsSigned.md
  first
  | (simp only [impl_IsKeys.br, impl_CountSigs.br]; done)
  | (simp only [impl_IsKeys.br, impl_CountSigs.br]; rfl)
  | rfl
end impl_IsSigned
/-! (impl.Signed).isSignedBy -/
namespace impl_Signed_isSignedBy
noncomputable def F (x0 : RSigned) (x1 : RKeys) : Ans := (call (impl_HeadInts.R x0.fHead) fun v1 => (call (impl_IsSigned.R (x1, v1, x0.fSigs)) fun v2 => ret (v2 : Bool)))
def pats : List Pat := [.agg [.int .i64, .int .i64, .int .i64, .int .i64, .int .i64, .int .i64, .int .i64, .int .i64, .sl 3, .int .i64, .sl 3, .int .i64, .int .i64, .sl 3, .int .i64, .bool, .sl 179], .agg [.sl 3, .int .i64]]
def res : RP := .one (.rd (.bool))
noncomputable abbrev E : Env := ⟨assoc Tab, conG [(140, impl_HeadInts.con), (202, impl_IsSigned.con)], 12⟩
set_option maxRecDepth 100000
theorem run_eq (n : Nat) (ls : List L) : runF E (fun _ => []) Tryz.f144 res n (initS pats ls) = F (RSigned.dec ls) (RKeys.dec (dropT 17 ls)) := by kernel_rfl
noncomputable def md (a0 : MSigned) (a1 : MKeys) : Bool := ((impl_IsSigned.md a1 (impl_HeadInts.md a0.fHead) a0.fSigs) : Bool)
def gd (a0 : MSigned) (a1 : MKeys) : Prop := (MSigned.Sm (2 ^ 21) a0) ∧ (MKeys.Sm (2 ^ 21) a1)
def acc (ls : List L) : RSigned × RKeys := ((RSigned.dec ls), (RKeys.dec (dropT 17 ls)))
noncomputable def R : (RSigned × RKeys) → Option Bool := RR (p2 gd) (u2 md)
theorem R_eq {a0} {a1} (h : gd a0 a1) : R ((MSigned.r a0), (MKeys.r a1)) = some (md a0 a1) := RR_eq (a := (a0, a1)) h
noncomputable def con : Con := CN pats res acc R
theorem okF (a0 : MSigned) (a1 : MKeys) (hg : gd a0 a1) : F (MSigned.r a0) (MKeys.r a1) = ret ((md a0 a1) : Bool) := by
  unfold gd at hg
  obtain ⟨H0, H1⟩ := hg
  unfold F md
  try simp only [S0, MSigned.rs]
  refine call_to ((impl_HeadInts.md a0.fHead).map iRow) (impl_HeadInts.R_eq (a0 := a0.fHead) H0.1) ?_
  try simp only [S0, MSigned.rs]
  refine call_to (impl_IsSigned.md a1 (impl_HeadInts.md a0.fHead) a0.fSigs) (impl_IsSigned.R_eq (a0 := a1) (a1 := (impl_HeadInts.md a0.fHead)) (a2 := a0.fSigs) ⟨H1, ⟨(by
      have := impl_HeadInts.len a0.fHead
      have := (H0.1.1).1
      have := (H0.1.2.1).1
      have := (H0.1.2.2).1
      try simp (disch := omega) only [LN, wi]
      first | omega | (simp; done) | (simp; omega)), fun _ _ => trivial⟩, H0.2⟩) ?_
  first | rfl | (simp only [S0, MSigned.rs, MP]; first | done | rfl)
theorem valid_ : Valid Tryz.prog Ev 144 con := VV (run := fun _ x => F x.1 x.2) mix tab_ok (.cons impl_HeadInts.valid_ (.cons impl_IsSigned.valid_ .nil)) Tryz.func144 (by kernel_rfl) run_eq (fun _ a _ _ hg => ⟨0, okF a.1 a.2 hg⟩)
end impl_Signed_isSignedBy
/-! impl.IsFirst -/
namespace impl_IsFirst
noncomputable def F (x0 : RSigned) : Ans := (call (impl_IsHead.R x0.fHead) fun v1 => (bif v1 then (bif (x0.fHead.fEpoch == 0) then (bif (x0.fHead.fKind == 1) then (bif (!x0.fHead.fFrozen) then (call (impl_ZoneOf.R (x0.fHead.fKeys, x0.fHead.fPrev)) fun v2 => (bif (x0.fHead.fZone == v2) then (call (impl_Signed_isSignedBy.R (x0, x0.fHead.fKeys)) fun v3 => ret (v3 : Bool)) else ret (false : Bool))) else ret (false : Bool)) else ret (false : Bool)) else ret (false : Bool)) else ret (false : Bool)))
def pats : List Pat := [.agg [.int .i64, .int .i64, .int .i64, .int .i64, .int .i64, .int .i64, .int .i64, .int .i64, .sl 3, .int .i64, .sl 3, .int .i64, .int .i64, .sl 3, .int .i64, .bool, .sl 179]]
def res : RP := .one (.rd (.bool))
noncomputable abbrev E : Env := ⟨assoc Tab, conG [(142, impl_IsHead.con), (143, impl_ZoneOf.con), (144, impl_Signed_isSignedBy.con)], 39⟩
set_option maxRecDepth 100000
theorem run_eq (n : Nat) (ls : List L) : runF E (fun _ => []) Tryz.f95 res n (initS pats ls) = F (RSigned.dec ls) := by kernel_rfl
noncomputable def md (a0 : MSigned) : Bool := (bif (impl_IsHead.md a0.fHead) then (bif (a0.fHead.fEpoch == 0) then (bif (a0.fHead.fKind == 1) then (bif (!a0.fHead.fFrozen) then (bif (a0.fHead.fZone == (impl_ZoneOf.md a0.fHead.fKeys a0.fHead.fPrev)) then ((impl_Signed_isSignedBy.md a0 a0.fHead.fKeys) : Bool) else (false : Bool)) else (false : Bool)) else (false : Bool)) else (false : Bool)) else (false : Bool))
def gd (a0 : MSigned) : Prop := (MSigned.Sm (2 ^ 21) a0)
def acc (ls : List L) : RSigned := (RSigned.dec ls)
noncomputable def R : RSigned → Option Bool := RR gd md
theorem R_eq {a0} (h : gd a0) : R (MSigned.r a0) = some (md a0) := RR_eq (a := a0) h
noncomputable def con : Con := CN pats res acc R
theorem okF (a0 : MSigned) (hg : gd a0) : F (MSigned.r a0) = ret ((md a0) : Bool) := by
  unfold gd at hg
  have H0 := hg
  unfold F md
  try simp only [S0, MHead.rs, MSigned.rs]
  refine call_to (impl_IsHead.md a0.fHead) (impl_IsHead.R_eq (a0 := a0.fHead) H0.1) ?_
  refine bif_out ret (fun c1 => ?_) (fun _ => rfl)
  refine bif_out ret (fun c2 => ?_) (fun _ => rfl)
  refine bif_out ret (fun c3 => ?_) (fun _ => rfl)
  refine bif_out ret (fun c4 => ?_) (fun _ => rfl)
  refine call_to (impl_ZoneOf.md a0.fHead.fKeys a0.fHead.fPrev) (impl_ZoneOf.R_eq (a0 := a0.fHead.fKeys) (a1 := a0.fHead.fPrev) H0.1.1) ?_
  refine bif_out ret (fun c5 => ?_) (fun _ => rfl)
  refine call_to (impl_Signed_isSignedBy.md a0 a0.fHead.fKeys) (impl_Signed_isSignedBy.R_eq (a0 := a0) (a1 := a0.fHead.fKeys) ⟨H0, H0.1.1⟩) ?_
  first | rfl | (simp only [S0, MHead.rs, MSigned.rs, MP]; first | done | rfl)
theorem valid_ : Valid Tryz.prog Ev 95 con := VV (run := fun _ x => F x) mix tab_ok (.cons impl_IsHead.valid_ (.cons impl_ZoneOf.valid_ (.cons impl_Signed_isSignedBy.valid_ .nil))) Tryz.func95 (by kernel_rfl) run_eq (fun _ a _ _ hg => ⟨0, okF a hg⟩)
theorem br (a0 : MSigned) : md a0 = spec_IsFirst.md a0 := by
  unfold md spec_IsFirst.md
  simp only [impl_Signed_isSignedBy.md, impl_IsSigned.br, impl_HeadInts.br, impl_IsHead.br, impl_ZoneOf.br]
end impl_IsFirst
/-! impl.HeadDigest -/
namespace impl_HeadDigest
noncomputable def F (x0 : RHead) : Ans := (call (impl_HeadInts.R x0) fun v1 => (bif (lim (((1 : Int) + (v1.length : Int)) * 8)) then (call (impl_Hash.R ([[L.int 233]] ++ v1)) fun v2 => ret (v2 : Int)) else none))
def pats : List Pat := [.agg [.int .i64, .int .i64, .int .i64, .int .i64, .int .i64, .int .i64, .int .i64, .int .i64, .sl 3, .int .i64, .sl 3, .int .i64, .int .i64, .sl 3, .int .i64, .bool]]
def res : RP := .one (.rd (.int .i64))
noncomputable abbrev E : Env := ⟨assoc Tab, conG [(140, impl_HeadInts.con), (201, impl_Hash.con)], 8⟩
set_option maxRecDepth 100000
theorem run_eq (n : Nat) (ls : List L) : runF E (fun _ => []) Tryz.f244 res n (initS pats ls) = F (RHead.dec ls) := by kernel_rfl
noncomputable def md (a0 : MHead) : Int := ((impl_Hash.md ([233] ++ (impl_HeadInts.md a0))) : Int)
def gd (a0 : MHead) : Prop := (MHead.Sm (2 ^ 21) a0)
def acc (ls : List L) : RHead := (RHead.dec ls)
noncomputable def R : RHead → Option Int := RR gd md
theorem R_eq {a0} (h : gd a0) : R (MHead.r a0) = some (md a0) := RR_eq (a := a0) h
noncomputable def con : Con := CN pats res acc R
theorem okF (a0 : MHead) (hg : gd a0) : F (MHead.r a0) = ret ((md a0) : Int) := by
  unfold gd at hg
  have H0 := hg
  unfold F md
  try simp only [S0]
  refine call_to ((impl_HeadInts.md a0).map iRow) (impl_HeadInts.R_eq (a0 := a0) H0) ?_
  try simp only [S0]
  refine yes_ret (by
      have := impl_HeadInts.len a0
      have := (H0.1).1
      have := (H0.2.1).1
      have := (H0.2.2).1
      refine lim_t ?_
      try simp (disch := omega) only [LN, wi]
      first | omega | (simp; done) | (simp; omega)) ?_
  refine call_to (impl_Hash.md ([233] ++ (impl_HeadInts.md a0))) ?_ ?_
  · have R_ := impl_Hash.R_eq (a0 := ([233] ++ (impl_HeadInts.md a0))) ⟨(by
        have := impl_HeadInts.len a0
        have := (H0.1).1
        have := (H0.2.1).1
        have := (H0.2.2).1
        try simp (disch := omega) only [LN, wi]
        first | omega | (simp; done) | (simp; omega)), fun _ _ => trivial⟩
    first | exact R_ | (simp only [MP, S0] at R_ ⊢; first | exact R_ | (rw [← R_]; rfl))
  first | rfl | (simp only [S0, MP]; first | done | rfl)
theorem valid_ : Valid Tryz.prog Ev 244 con := VV (run := fun _ x => F x) mix tab_ok (.cons impl_HeadInts.valid_ (.cons impl_Hash.valid_ .nil)) Tryz.func244 (by kernel_rfl) run_eq (fun _ a _ _ hg => ⟨0, okF a hg⟩)
theorem br (a0 : MHead) : md a0 = spec_HeadDigest.md a0 := by
  unfold md spec_HeadDigest.md
  first
  | (simp only [impl_HeadInts.br, impl_Hash.br]; done)
  | (simp only [impl_HeadInts.br, impl_Hash.br]; rfl)
  | rfl
end impl_HeadDigest
/-! impl.isNext -/
namespace impl_isNext
noncomputable def F (x0 : RHead) (x1 : RHead) : Ans := (bif (x1.fZone == x0.fZone) then (bif (x1.fEpoch == (IntKind.i64.wrap (x0.fEpoch + 1))) then (call (impl_HeadDigest.R x0) fun v1 => (bif (x1.fPrev == v1) then ret ((decide (x1.fTime ≥ x0.fTime)) : Bool) else ret (false : Bool))) else ret (false : Bool)) else ret (false : Bool))
def pats : List Pat := [.agg [.int .i64, .int .i64, .int .i64, .int .i64, .int .i64, .int .i64, .int .i64, .int .i64, .sl 3, .int .i64, .sl 3, .int .i64, .int .i64, .sl 3, .int .i64, .bool], .agg [.int .i64, .int .i64, .int .i64, .int .i64, .int .i64, .int .i64, .int .i64, .int .i64, .sl 3, .int .i64, .sl 3, .int .i64, .int .i64, .sl 3, .int .i64, .bool]]
def res : RP := .one (.rd (.bool))
noncomputable abbrev E : Env := ⟨assoc Tab, conG [(244, impl_HeadDigest.con)], 32⟩
set_option maxRecDepth 100000
theorem run_eq (n : Nat) (ls : List L) : runF E (fun _ => []) Tryz.f203 res n (initS pats ls) = F (RHead.dec ls) (RHead.dec (dropT 16 ls)) := by kernel_rfl
noncomputable def md (a0 : MHead) (a1 : MHead) : Bool := (bif (a1.fZone == a0.fZone) then (bif (a1.fEpoch == (IntKind.i64.wrap (a0.fEpoch + 1))) then (bif (a1.fPrev == (impl_HeadDigest.md a0)) then ((decide (a1.fTime ≥ a0.fTime)) : Bool) else (false : Bool)) else (false : Bool)) else (false : Bool))
def gd (a0 : MHead) (a1 : MHead) : Prop := (MHead.Sm (2 ^ 21) a0)
def acc (ls : List L) : RHead × RHead := ((RHead.dec ls), (RHead.dec (dropT 16 ls)))
noncomputable def R : (RHead × RHead) → Option Bool := RR (p2 gd) (u2 md)
theorem R_eq {a0} {a1} (h : gd a0 a1) : R ((MHead.r a0), (MHead.r a1)) = some (md a0 a1) := RR_eq (a := (a0, a1)) h
noncomputable def con : Con := CN pats res acc R
theorem okF (a0 : MHead) (a1 : MHead) (hg : gd a0 a1) : F (MHead.r a0) (MHead.r a1) = ret ((md a0 a1) : Bool) := by
  unfold gd at hg
  have H0 := hg
  unfold F md
  try simp only [S0, MHead.rs]
  refine bif_out ret (fun c1 => ?_) (fun _ => rfl)
  refine bif_out ret (fun c2 => ?_) (fun _ => rfl)
  refine call_to (impl_HeadDigest.md a0) (impl_HeadDigest.R_eq (a0 := a0) H0) ?_
  refine bif_out ret (fun c3 => ?_) (fun _ => rfl)
  first | rfl | (simp only [S0, MHead.rs, MP]; first | done | rfl)
theorem valid_ : Valid Tryz.prog Ev 203 con := VV (run := fun _ x => F x.1 x.2) mix tab_ok (.cons impl_HeadDigest.valid_ .nil) Tryz.func203 (by kernel_rfl) run_eq (fun _ a _ _ hg => ⟨0, okF a.1 a.2 hg⟩)
end impl_isNext
/-! impl.ownerCode -/
namespace impl_ownerCode
noncomputable def F (x0 : RHead) (x1 : RSigned) : Ans := (bif x0.fFrozen then ret (4 : Int) else (bif x1.fHead.fFrozen then ret (6 : Int) else (call (impl_Signed_isSignedBy.R (x1, x0.fKeys)) fun v1 => (bif (!v1) then ret (7 : Int) else ret (1 : Int)))))
def pats : List Pat := [.agg [.int .i64, .int .i64, .int .i64, .int .i64, .int .i64, .int .i64, .int .i64, .int .i64, .sl 3, .int .i64, .sl 3, .int .i64, .int .i64, .sl 3, .int .i64, .bool], .agg [.int .i64, .int .i64, .int .i64, .int .i64, .int .i64, .int .i64, .int .i64, .int .i64, .sl 3, .int .i64, .sl 3, .int .i64, .int .i64, .sl 3, .int .i64, .bool, .sl 179]]
def res : RP := .one (.rd (.int .i64))
noncomputable abbrev E : Env := ⟨assoc Tab, conG [(144, impl_Signed_isSignedBy.con)], 18⟩
set_option maxRecDepth 100000
theorem run_eq (n : Nat) (ls : List L) : runF E (fun _ => []) Tryz.f204 res n (initS pats ls) = F (RHead.dec ls) (RSigned.dec (dropT 16 ls)) := by kernel_rfl
noncomputable def md (a0 : MHead) (a1 : MSigned) : Int := (bif a0.fFrozen then (4 : Int) else (bif a1.fHead.fFrozen then (6 : Int) else (bif (!(impl_Signed_isSignedBy.md a1 a0.fKeys)) then (7 : Int) else (1 : Int))))
def gd (a0 : MHead) (a1 : MSigned) : Prop := (MHead.Sm (2 ^ 21) a0) ∧ (MSigned.Sm (2 ^ 21) a1)
def acc (ls : List L) : RHead × RSigned := ((RHead.dec ls), (RSigned.dec (dropT 16 ls)))
noncomputable def R : (RHead × RSigned) → Option Int := RR (p2 gd) (u2 md)
theorem R_eq {a0} {a1} (h : gd a0 a1) : R ((MHead.r a0), (MSigned.r a1)) = some (md a0 a1) := RR_eq (a := (a0, a1)) h
noncomputable def con : Con := CN pats res acc R
theorem okF (a0 : MHead) (a1 : MSigned) (hg : gd a0 a1) : F (MHead.r a0) (MSigned.r a1) = ret ((md a0 a1) : Int) := by
  unfold gd at hg
  obtain ⟨H0, H1⟩ := hg
  unfold F md
  try simp only [S0, MHead.rs, MSigned.rs]
  refine bif_out ret (fun _ => rfl) (fun c1 => ?_)
  refine bif_out ret (fun _ => rfl) (fun c2 => ?_)
  refine call_to (impl_Signed_isSignedBy.md a1 a0.fKeys) (impl_Signed_isSignedBy.R_eq (a0 := a1) (a1 := a0.fKeys) ⟨H1, H0.1⟩) ?_
  refine bif_out ret (fun _ => rfl) (fun _ => rfl)
theorem valid_ : Valid Tryz.prog Ev 204 con := VV (run := fun _ x => F x.1 x.2) mix tab_ok (.cons impl_Signed_isSignedBy.valid_ .nil) Tryz.func204 (by kernel_rfl) run_eq (fun _ a _ _ hg => ⟨0, okF a.1 a.2 hg⟩)
end impl_ownerCode
/-! slices.Equal[[]int,int] -/
namespace slices_Equal_Sint_int
inductive Pt where
  | p0 (a : List (List L)) (b : List (List L)) (c : Int) (d : Int)
def pid : Pt → Nat
  | .p0 .. => 4
def pvs : Pt → List V
  | .p0 a b c d => [.sl none 3 a, .sl none 3 b, .int .i64 c, .int .i64 d]
def phs : Pt → List Root
  | .p0 a b c d => []
noncomputable def step (J : Pt → Ans) : Pt → Ans
  | .p0 a b c d => (bif (decide (d < c)) then (bif (decide ((0 : Int) ≤ d)) then (bif (decide (d < (a.length : Int))) then (bif (decide ((0 : Int) ≤ d)) then (bif (decide (d < (b.length : Int))) then (bif ((iAt a (Int.toNat d)) != (iAt b (Int.toNat d))) then ret (false : Bool) else J (.p0 a b c (IntKind.i64.wrap (d + 1)))) else none) else none) else none) else none) else ret (true : Bool))
noncomputable def start (J : Pt → Ans) (x0 : List (List L)) (x1 : List (List L)) : Ans := (bif ((x0.length : Int) != (x1.length : Int)) then ret (false : Bool) else J (.p0 x0 x1 (x0.length : Int) 0))
def live : Nat → Live := fun i => match i with | 4 => [(0, none), (1, none), (12, none), (13, none)] | _ => []
def pats : List Pat := [.rd (.sl 3), .rd (.sl 3)]
def res : RP := .one (.rd (.bool))
noncomputable abbrev E : Env := ⟨assoc Tab, conG [], 26⟩
set_option maxRecDepth 100000
theorem step_eq (I : Heads) (p : Pt) : enterC E live I (pid p) (bodyOf Tryz.f114) (stOf (live (pid p)) (pvs p) (phs p)) (doneK E Tryz.f114 res) = step (fun q => I (pid q) (pvs q) (phs q)) p := by
  cases p <;> kernel_rfl
theorem start_eq (I : Heads) (ls : List L) : runC E live I (bodyOf Tryz.f114) (initS pats ls) (doneK E Tryz.f114 res) = start (fun q => I (pid q) (pvs q) (phs q)) (ls.headD .hole).toSl ((dropT 1 ls).headD .hole).toSl := by kernel_rfl
theorem run_eq (n : Nat) (ls : List L) : runF E live Tryz.f114 res n (initS pats ls) = start (iter step n) (ls.headD .hole).toSl ((dropT 1 ls).headD .hole).toSl := runF_iter (id := pid) (vs := pvs) (hs := phs) (step := step) (start := fun J => start J (ls.headD .hole).toSl ((dropT 1 ls).headD .hole).toSl) step_eq (fun I => start_eq I ls) n
noncomputable def md (a0 : List Int) (a1 : List Int) : Bool := (bif ((a0.length : Int) != (a1.length : Int)) then (false : Bool) else (loopM (S := Unit) (β := Bool) (fun (i2 : Nat) (s4 : Unit) => (bif ((a0.getD i2 0) != (a1.getD i2 0)) then (.inr (false : Bool)) else (.inl ()))) (fun (s4 : Unit) => (true : Bool)) a0.length 0 ()))
def gd (a0 : List Int) (a1 : List Int) : Prop := (SmL (2 ^ 38) (fun y : Int => True) a0) ∧ (SmL (2 ^ 38) (fun y : Int => True) a1)
def acc (ls : List L) : List (List L) × List (List L) := ((ls.headD .hole).toSl, ((dropT 1 ls).headD .hole).toSl)
noncomputable def R : (List (List L) × List (List L)) → Option Bool := RR (p2 gd) (u2 md)
theorem R_eq {a0} {a1} (h : gd a0 a1) : R ((a0.map iRow), (a1.map iRow)) = some (md a0 a1) := RR_eq (a := (a0, a1)) h
noncomputable def con : Con := CN pats res acc R
theorem okF (a0 : List Int) (a1 : List Int) (hg : gd a0 a1) : ∃ n, start (iter step n) (a0.map iRow) (a1.map iRow) = ret ((md a0 a1) : Bool) := by
  unfold gd at hg
  obtain ⟨H0, H1⟩ := hg
  unfold start md
  try simp only [S0]
  refine ex_bif ret (fun _ => ⟨0, rfl⟩) (fun c1 => ?_)
  have dc1 := c1
  try simp only [DC] at dc1
  have Bh3 : a0.length ≤ maxLen := (by
      have := (H0).1
      try simp only [maxLen] at *
      omega)
  refine ex_pt (p := Pt.p0 (a0.map iRow) (a1.map iRow) (a0.length : Int) 0) (by first | rfl | (simp only [S0, MP]; done) | (simp only [MP]; rfl)) ?_
  refine loopM_ok (pt := fun (i2 : Nat) (s4 : Unit) => Pt.p0 (a0.map iRow) (a1.map iRow) (a0.length : Int) (i2 : Int)) (s := (() : Unit)) (out := ret) (fun _ _ => True) (fun J i2 s4 h3 hih3 => ?_) (fun s4 hih3 => ?_) trivial
  · simp only [step, S0]
    have bb_ := Bh3
    simp only [maxLen] at bb_
    have := (H0).1
    refine Rnd.yes (by apply decide_eq_true; omega) ?_
    refine Rnd.yes zle_dec ?_
    refine Rnd.yes (lt_dec h3) ?_
    refine Rnd.yes zle_dec ?_
    refine Rnd.yes (by
        have := (H1).1
        refine decide_eq_true ?_
        try simp (disch := omega) only [LN, wi]
        first | omega | (simp; done) | (simp; omega)) ?_
    refine Rnd.bif (fun _ => Rnd.inr rfl) (fun c5 => ?_)
    refine Rnd.inl trivial ?_
    rw [wrap_succ h3 Bh3]
    all_goals first | rfl | (simp only [S0, MP]; first | done | rfl)
  · simp only [step, S0]
    have := (H0).1
    refine ex_no (by apply decide_eq_false; omega) ?_
    refine ⟨0, ?_⟩
    first | rfl | (simp only [S0, MP]; first | done | rfl)
theorem valid_ : Valid Tryz.prog Ev 114 con := VV (run := fun n x => start (iter step n) x.1 x.2) mix tab_ok .nil Tryz.func114 (by kernel_rfl) run_eq (fun _ a _ _ hg => okF a.1 a.2 hg)
theorem md_eq (a0 : List Int) (a1 : List Int) : md a0 a1 = eqB a0 a1 := by
  unfold md
  refine loop_eqB (0) (fun i s h h2 => ?_) (fun s => rfl)
  simp only [bne, int_beq, bool_beq, ba_beq]
  cases eqB _ _ <;> rfl
end slices_Equal_Sint_int
/-! impl.EqualKeys -/
namespace impl_EqualKeys
noncomputable def F (x0 : RKeys) (x1 : RKeys) : Ans := (call (slices_Equal_Sint_int.R (x0.fList, x1.fList)) fun v1 => (bif v1 then ret ((x0.fNeed == x1.fNeed) : Bool) else ret (false : Bool)))
def pats : List Pat := [.agg [.sl 3, .int .i64], .agg [.sl 3, .int .i64]]
def res : RP := .one (.rd (.bool))
noncomputable abbrev E : Env := ⟨assoc Tab, conG [(114, slices_Equal_Sint_int.con)], 17⟩
set_option maxRecDepth 100000
theorem run_eq (n : Nat) (ls : List L) : runF E (fun _ => []) Tryz.f139 res n (initS pats ls) = F (RKeys.dec ls) (RKeys.dec (dropT 2 ls)) := by kernel_rfl
noncomputable def md (a0 : MKeys) (a1 : MKeys) : Bool := (bif (slices_Equal_Sint_int.md a0.fList a1.fList) then ((a0.fNeed == a1.fNeed) : Bool) else (false : Bool))
def gd (a0 : MKeys) (a1 : MKeys) : Prop := (MKeys.Sm (2 ^ 21) a0) ∧ (MKeys.Sm (2 ^ 21) a1)
def acc (ls : List L) : RKeys × RKeys := ((RKeys.dec ls), (RKeys.dec (dropT 2 ls)))
noncomputable def R : (RKeys × RKeys) → Option Bool := RR (p2 gd) (u2 md)
theorem R_eq {a0} {a1} (h : gd a0 a1) : R ((MKeys.r a0), (MKeys.r a1)) = some (md a0 a1) := RR_eq (a := (a0, a1)) h
noncomputable def con : Con := CN pats res acc R
theorem okF (a0 : MKeys) (a1 : MKeys) (hg : gd a0 a1) : F (MKeys.r a0) (MKeys.r a1) = ret ((md a0 a1) : Bool) := by
  unfold gd at hg
  obtain ⟨H0, H1⟩ := hg
  unfold F md
  try simp only [S0, MKeys.rs]
  refine call_to (slices_Equal_Sint_int.md a0.fList a1.fList) (slices_Equal_Sint_int.R_eq (a0 := a0.fList) (a1 := a1.fList) ⟨(H0.mono (by decide) (fun x hx => trivial)), (H1.mono (by decide) (fun x hx => trivial))⟩) ?_
  refine bif_out ret (fun c1 => ?_) (fun _ => rfl)
  first | rfl | (simp only [S0, MKeys.rs, MP]; first | done | rfl)
theorem valid_ : Valid Tryz.prog Ev 139 con := VV (run := fun _ x => F x.1 x.2) mix tab_ok (.cons slices_Equal_Sint_int.valid_ .nil) Tryz.func139 (by kernel_rfl) run_eq (fun _ a _ _ hg => ⟨0, okF a.1 a.2 hg⟩)
theorem md_eq (a0 : MKeys) (a1 : MKeys) : md a0 a1 = eqB a0 a1 := by
  unfold md
  cases a0; cases a1
  rw [Bool.eq_iff_iff]
  simp [eqB_iff, ba_beq, MKeys.mk.injEq, slices_Equal_Sint_int.md_eq]
  try (constructor <;> (intro h; simp_all))
end impl_EqualKeys
/-! impl.SameContents -/
namespace impl_SameContents
noncomputable def F (x0 : RHead) (x1 : RHead) : Ans := (bif (x0.fCount == x1.fCount) then ret ((x0.fRoot == x1.fRoot) : Bool) else ret (false : Bool))
def pats : List Pat := [.agg [.int .i64, .int .i64, .int .i64, .int .i64, .int .i64, .int .i64, .int .i64, .int .i64, .sl 3, .int .i64, .sl 3, .int .i64, .int .i64, .sl 3, .int .i64, .bool], .agg [.int .i64, .int .i64, .int .i64, .int .i64, .int .i64, .int .i64, .int .i64, .int .i64, .sl 3, .int .i64, .sl 3, .int .i64, .int .i64, .sl 3, .int .i64, .bool]]
def res : RP := .one (.rd (.bool))
noncomputable abbrev E : Env := ⟨assoc Tab, conG [], 17⟩
set_option maxRecDepth 100000
theorem run_eq (n : Nat) (ls : List L) : runF E (fun _ => []) Tryz.f245 res n (initS pats ls) = F (RHead.dec ls) (RHead.dec (dropT 16 ls)) := by kernel_rfl
noncomputable def md (a0 : MHead) (a1 : MHead) : Bool := (bif (a0.fCount == a1.fCount) then ((a0.fRoot == a1.fRoot) : Bool) else (false : Bool))
def gd (a0 : MHead) (a1 : MHead) : Prop := True
def acc (ls : List L) : RHead × RHead := ((RHead.dec ls), (RHead.dec (dropT 16 ls)))
noncomputable def R : (RHead × RHead) → Option Bool := RR (p2 gd) (u2 md)
theorem R_eq {a0} {a1} (h : gd a0 a1) : R ((MHead.r a0), (MHead.r a1)) = some (md a0 a1) := RR_eq (a := (a0, a1)) h
noncomputable def con : Con := CN pats res acc R
theorem okF (a0 : MHead) (a1 : MHead) (hg : gd a0 a1) : F (MHead.r a0) (MHead.r a1) = ret ((md a0 a1) : Bool) := by
  unfold F md
  try simp only [S0, MHead.rs]
  refine bif_out ret (fun c1 => ?_) (fun _ => rfl)
  first | rfl | (simp only [S0, MHead.rs, MP]; first | done | rfl)
theorem valid_ : Valid Tryz.prog Ev 245 con := VV (run := fun _ x => F x.1 x.2) mix tab_ok .nil Tryz.func245 (by kernel_rfl) run_eq (fun _ a _ _ hg => ⟨0, okF a.1 a.2 hg⟩)
theorem br (a0 : MHead) (a1 : MHead) : md a0 a1 = spec_SameContents.md a0 a1 := by
  unfold md spec_SameContents.md
  first
  | (simp only [id]; done)
  | (simp only [id]; rfl)
  | rfl
end impl_SameContents
/-! impl.heirCode -/
namespace impl_heirCode
noncomputable def F (x0 : RHead) (x1 : RSigned) : Ans := (bif x0.fFrozen then ret (4 : Int) else (call (impl_NoKeys.R x0.fHeirs) fun v1 => (bif v1 then ret (5 : Int) else (bif (decide (x1.fHead.fTime < (IntKind.i64.wrap (x0.fUntil + x0.fWait)))) then ret (5 : Int) else (bif x1.fHead.fFrozen then ret (6 : Int) else (call (impl_EqualKeys.R (x1.fHead.fKeys, x0.fHeirs)) fun v2 => (bif (!v2) then ret (6 : Int) else (call (impl_SameContents.R (x1.fHead, x0)) fun v3 => (bif (!v3) then ret (6 : Int) else (call (impl_Signed_isSignedBy.R (x1, x0.fHeirs)) fun v4 => (bif (!v4) then ret (7 : Int) else ret (1 : Int))))))))))))
def pats : List Pat := [.agg [.int .i64, .int .i64, .int .i64, .int .i64, .int .i64, .int .i64, .int .i64, .int .i64, .sl 3, .int .i64, .sl 3, .int .i64, .int .i64, .sl 3, .int .i64, .bool], .agg [.int .i64, .int .i64, .int .i64, .int .i64, .int .i64, .int .i64, .int .i64, .int .i64, .sl 3, .int .i64, .sl 3, .int .i64, .int .i64, .sl 3, .int .i64, .bool, .sl 179]]
def res : RP := .one (.rd (.int .i64))
noncomputable abbrev E : Env := ⟨assoc Tab, conG [(200, impl_NoKeys.con), (139, impl_EqualKeys.con), (245, impl_SameContents.con), (144, impl_Signed_isSignedBy.con)], 48⟩
set_option maxRecDepth 100000
theorem run_eq (n : Nat) (ls : List L) : runF E (fun _ => []) Tryz.f205 res n (initS pats ls) = F (RHead.dec ls) (RSigned.dec (dropT 16 ls)) := by kernel_rfl
noncomputable def md (a0 : MHead) (a1 : MSigned) : Int := (bif a0.fFrozen then (4 : Int) else (bif (impl_NoKeys.md a0.fHeirs) then (5 : Int) else (bif (decide (a1.fHead.fTime < (IntKind.i64.wrap (a0.fUntil + a0.fWait)))) then (5 : Int) else (bif a1.fHead.fFrozen then (6 : Int) else (bif (!(impl_EqualKeys.md a1.fHead.fKeys a0.fHeirs)) then (6 : Int) else (bif (!(impl_SameContents.md a1.fHead a0)) then (6 : Int) else (bif (!(impl_Signed_isSignedBy.md a1 a0.fHeirs)) then (7 : Int) else (1 : Int))))))))
def gd (a0 : MHead) (a1 : MSigned) : Prop := (MHead.Sm (2 ^ 21) a0) ∧ (MSigned.Sm (2 ^ 21) a1)
def acc (ls : List L) : RHead × RSigned := ((RHead.dec ls), (RSigned.dec (dropT 16 ls)))
noncomputable def R : (RHead × RSigned) → Option Int := RR (p2 gd) (u2 md)
theorem R_eq {a0} {a1} (h : gd a0 a1) : R ((MHead.r a0), (MSigned.r a1)) = some (md a0 a1) := RR_eq (a := (a0, a1)) h
noncomputable def con : Con := CN pats res acc R
theorem okF (a0 : MHead) (a1 : MSigned) (hg : gd a0 a1) : F (MHead.r a0) (MSigned.r a1) = ret ((md a0 a1) : Int) := by
  unfold gd at hg
  obtain ⟨H0, H1⟩ := hg
  unfold F md
  try simp only [S0, MHead.rs, MSigned.rs]
  refine bif_out ret (fun _ => rfl) (fun c1 => ?_)
  refine call_to (impl_NoKeys.md a0.fHeirs) (impl_NoKeys.R_eq (a0 := a0.fHeirs) trivial) ?_
  refine bif_out ret (fun _ => rfl) (fun c2 => ?_)
  refine bif_out ret (fun _ => rfl) (fun c3 => ?_)
  refine bif_out ret (fun _ => rfl) (fun c4 => ?_)
  refine call_to (impl_EqualKeys.md a1.fHead.fKeys a0.fHeirs) (impl_EqualKeys.R_eq (a0 := a1.fHead.fKeys) (a1 := a0.fHeirs) ⟨H1.1.1, H0.2.1⟩) ?_
  refine bif_out ret (fun _ => rfl) (fun c5 => ?_)
  refine call_to (impl_SameContents.md a1.fHead a0) (impl_SameContents.R_eq (a0 := a1.fHead) (a1 := a0) trivial) ?_
  refine bif_out ret (fun _ => rfl) (fun c6 => ?_)
  refine call_to (impl_Signed_isSignedBy.md a1 a0.fHeirs) (impl_Signed_isSignedBy.R_eq (a0 := a1) (a1 := a0.fHeirs) ⟨H1, H0.2.1⟩) ?_
  refine bif_out ret (fun _ => rfl) (fun _ => rfl)
theorem valid_ : Valid Tryz.prog Ev 205 con := VV (run := fun _ x => F x.1 x.2) mix tab_ok (.cons impl_NoKeys.valid_ (.cons impl_EqualKeys.valid_ (.cons impl_SameContents.valid_ (.cons impl_Signed_isSignedBy.valid_ .nil)))) Tryz.func205 (by kernel_rfl) run_eq (fun _ a _ _ hg => ⟨0, okF a.1 a.2 hg⟩)
end impl_heirCode
/-! impl.judgeCode -/
namespace impl_judgeCode
noncomputable def F (x0 : RHead) (x1 : RSigned) : Ans := (call (impl_SameContents.R (x1.fHead, x0)) fun v1 => (bif v1 then (call (impl_EqualKeys.R (x1.fHead.fJudge, x0.fJudge)) fun v2 => (bif v2 then (call (impl_EqualKeys.R (x1.fHead.fHeirs, x0.fHeirs)) fun v3 => (bif v3 then (call (impl_NoKeys.R x0.fJudge) fun v4 => (bif v4 then ret (5 : Int) else (bif (x1.fHead.fFrozen == x0.fFrozen) then ret (6 : Int) else (bif (!(x1.fHead.fWait == x0.fWait)) then ret (6 : Int) else (bif x1.fHead.fFrozen then (call (impl_EqualKeys.R (x1.fHead.fKeys, x0.fKeys)) fun v5 => (bif (!v5) then ret (6 : Int) else (call (impl_Signed_isSignedBy.R (x1, x0.fJudge)) fun v6 => (bif (!v6) then ret (7 : Int) else ret (1 : Int))))) else (call (impl_Signed_isSignedBy.R (x1, x0.fJudge)) fun v7 => (bif (!v7) then ret (7 : Int) else ret (1 : Int)))))))) else (call (impl_NoKeys.R x0.fJudge) fun v8 => (bif v8 then ret (5 : Int) else (bif (x1.fHead.fFrozen == x0.fFrozen) then ret (6 : Int) else ret (6 : Int)))))) else (call (impl_NoKeys.R x0.fJudge) fun v9 => (bif v9 then ret (5 : Int) else (bif (x1.fHead.fFrozen == x0.fFrozen) then ret (6 : Int) else ret (6 : Int)))))) else (call (impl_NoKeys.R x0.fJudge) fun v10 => (bif v10 then ret (5 : Int) else (bif (x1.fHead.fFrozen == x0.fFrozen) then ret (6 : Int) else ret (6 : Int))))))
def pats : List Pat := [.agg [.int .i64, .int .i64, .int .i64, .int .i64, .int .i64, .int .i64, .int .i64, .int .i64, .sl 3, .int .i64, .sl 3, .int .i64, .int .i64, .sl 3, .int .i64, .bool], .agg [.int .i64, .int .i64, .int .i64, .int .i64, .int .i64, .int .i64, .int .i64, .int .i64, .sl 3, .int .i64, .sl 3, .int .i64, .int .i64, .sl 3, .int .i64, .bool, .sl 179]]
def res : RP := .one (.rd (.int .i64))
noncomputable abbrev E : Env := ⟨assoc Tab, conG [(245, impl_SameContents.con), (139, impl_EqualKeys.con), (200, impl_NoKeys.con), (144, impl_Signed_isSignedBy.con)], 65⟩
set_option maxRecDepth 100000
theorem run_eq (n : Nat) (ls : List L) : runF E (fun _ => []) Tryz.f206 res n (initS pats ls) = F (RHead.dec ls) (RSigned.dec (dropT 16 ls)) := by kernel_rfl
noncomputable def md (a0 : MHead) (a1 : MSigned) : Int := (bif (impl_SameContents.md a1.fHead a0) then (bif (impl_EqualKeys.md a1.fHead.fJudge a0.fJudge) then (bif (impl_EqualKeys.md a1.fHead.fHeirs a0.fHeirs) then (bif (impl_NoKeys.md a0.fJudge) then (5 : Int) else (bif (a1.fHead.fFrozen == a0.fFrozen) then (6 : Int) else (bif (!(a1.fHead.fWait == a0.fWait)) then (6 : Int) else (bif a1.fHead.fFrozen then (bif (!(impl_EqualKeys.md a1.fHead.fKeys a0.fKeys)) then (6 : Int) else (bif (!(impl_Signed_isSignedBy.md a1 a0.fJudge)) then (7 : Int) else (1 : Int))) else (bif (!(impl_Signed_isSignedBy.md a1 a0.fJudge)) then (7 : Int) else (1 : Int)))))) else (bif (impl_NoKeys.md a0.fJudge) then (5 : Int) else (bif (a1.fHead.fFrozen == a0.fFrozen) then (6 : Int) else (6 : Int)))) else (bif (impl_NoKeys.md a0.fJudge) then (5 : Int) else (bif (a1.fHead.fFrozen == a0.fFrozen) then (6 : Int) else (6 : Int)))) else (bif (impl_NoKeys.md a0.fJudge) then (5 : Int) else (bif (a1.fHead.fFrozen == a0.fFrozen) then (6 : Int) else (6 : Int))))
def gd (a0 : MHead) (a1 : MSigned) : Prop := (MHead.Sm (2 ^ 21) a0) ∧ (MSigned.Sm (2 ^ 21) a1)
def acc (ls : List L) : RHead × RSigned := ((RHead.dec ls), (RSigned.dec (dropT 16 ls)))
noncomputable def R : (RHead × RSigned) → Option Int := RR (p2 gd) (u2 md)
theorem R_eq {a0} {a1} (h : gd a0 a1) : R ((MHead.r a0), (MSigned.r a1)) = some (md a0 a1) := RR_eq (a := (a0, a1)) h
noncomputable def con : Con := CN pats res acc R
theorem okF (a0 : MHead) (a1 : MSigned) (hg : gd a0 a1) : F (MHead.r a0) (MSigned.r a1) = ret ((md a0 a1) : Int) := by
  unfold gd at hg
  obtain ⟨H0, H1⟩ := hg
  unfold F md
  try simp only [S0, MHead.rs, MSigned.rs]
  refine call_to (impl_SameContents.md a1.fHead a0) (impl_SameContents.R_eq (a0 := a1.fHead) (a1 := a0) trivial) ?_
  refine bif_out ret (fun c1 => ?_) (fun c1 => ?_)
  · refine call_to (impl_EqualKeys.md a1.fHead.fJudge a0.fJudge) (impl_EqualKeys.R_eq (a0 := a1.fHead.fJudge) (a1 := a0.fJudge) ⟨H1.1.2.2, H0.2.2⟩) ?_
    refine bif_out ret (fun c2 => ?_) (fun c2 => ?_)
    · refine call_to (impl_EqualKeys.md a1.fHead.fHeirs a0.fHeirs) (impl_EqualKeys.R_eq (a0 := a1.fHead.fHeirs) (a1 := a0.fHeirs) ⟨H1.1.2.1, H0.2.1⟩) ?_
      refine bif_out ret (fun c3 => ?_) (fun c3 => ?_)
      · refine call_to (impl_NoKeys.md a0.fJudge) (impl_NoKeys.R_eq (a0 := a0.fJudge) trivial) ?_
        refine bif_out ret (fun _ => rfl) (fun c4 => ?_)
        refine bif_out ret (fun _ => rfl) (fun c5 => ?_)
        refine bif_out ret (fun _ => rfl) (fun c6 => ?_)
        refine bif_out ret (fun c7 => ?_) (fun c7 => ?_)
        · refine call_to (impl_EqualKeys.md a1.fHead.fKeys a0.fKeys) (impl_EqualKeys.R_eq (a0 := a1.fHead.fKeys) (a1 := a0.fKeys) ⟨H1.1.1, H0.1⟩) ?_
          refine bif_out ret (fun _ => rfl) (fun c8 => ?_)
          refine call_to (impl_Signed_isSignedBy.md a1 a0.fJudge) (impl_Signed_isSignedBy.R_eq (a0 := a1) (a1 := a0.fJudge) ⟨H1, H0.2.2⟩) ?_
          refine bif_out ret (fun _ => rfl) (fun _ => rfl)
        · refine call_to (impl_Signed_isSignedBy.md a1 a0.fJudge) (impl_Signed_isSignedBy.R_eq (a0 := a1) (a1 := a0.fJudge) ⟨H1, H0.2.2⟩) ?_
          refine bif_out ret (fun _ => rfl) (fun _ => rfl)
      · refine call_to (impl_NoKeys.md a0.fJudge) (impl_NoKeys.R_eq (a0 := a0.fJudge) trivial) ?_
        refine bif_out ret (fun _ => rfl) (fun c11 => ?_)
        refine bif_out ret (fun _ => rfl) (fun _ => rfl)
    · refine call_to (impl_NoKeys.md a0.fJudge) (impl_NoKeys.R_eq (a0 := a0.fJudge) trivial) ?_
      refine bif_out ret (fun _ => rfl) (fun c13 => ?_)
      refine bif_out ret (fun _ => rfl) (fun _ => rfl)
  · refine call_to (impl_NoKeys.md a0.fJudge) (impl_NoKeys.R_eq (a0 := a0.fJudge) trivial) ?_
    refine bif_out ret (fun _ => rfl) (fun c15 => ?_)
    refine bif_out ret (fun _ => rfl) (fun _ => rfl)
theorem valid_ : Valid Tryz.prog Ev 206 con := VV (run := fun _ x => F x.1 x.2) mix tab_ok (.cons impl_SameContents.valid_ (.cons impl_EqualKeys.valid_ (.cons impl_NoKeys.valid_ (.cons impl_Signed_isSignedBy.valid_ .nil)))) Tryz.func206 (by kernel_rfl) run_eq (fun _ a _ _ hg => ⟨0, okF a.1 a.2 hg⟩)
end impl_judgeCode
/-! impl.NextCode -/
namespace impl_NextCode
noncomputable def F (x0 : RHead) (x1 : RSigned) : Ans := (call (impl_IsHead.R x0) fun v1 => (bif (!v1) then ret (2 : Int) else (call (impl_IsHead.R x1.fHead) fun v2 => (bif (!v2) then ret (2 : Int) else (call (impl_isNext.R (x0, x1.fHead)) fun v3 => (bif (!v3) then ret (3 : Int) else (bif (x1.fHead.fKind == 1) then (call (impl_ownerCode.R (x0, x1)) fun v4 => ret (v4 : Int)) else (bif (x1.fHead.fKind == 2) then (call (impl_heirCode.R (x0, x1)) fun v5 => ret (v5 : Int)) else (call (impl_judgeCode.R (x0, x1)) fun v6 => ret (v6 : Int))))))))))
def pats : List Pat := [.agg [.int .i64, .int .i64, .int .i64, .int .i64, .int .i64, .int .i64, .int .i64, .int .i64, .sl 3, .int .i64, .sl 3, .int .i64, .int .i64, .sl 3, .int .i64, .bool], .agg [.int .i64, .int .i64, .int .i64, .int .i64, .int .i64, .int .i64, .int .i64, .int .i64, .sl 3, .int .i64, .sl 3, .int .i64, .int .i64, .sl 3, .int .i64, .bool, .sl 179]]
def res : RP := .one (.rd (.int .i64))
noncomputable abbrev E : Env := ⟨assoc Tab, conG [(142, impl_IsHead.con), (203, impl_isNext.con), (204, impl_ownerCode.con), (205, impl_heirCode.con), (206, impl_judgeCode.con)], 40⟩
set_option maxRecDepth 100000
theorem run_eq (n : Nat) (ls : List L) : runF E (fun _ => []) Tryz.f145 res n (initS pats ls) = F (RHead.dec ls) (RSigned.dec (dropT 16 ls)) := by kernel_rfl
noncomputable def md (a0 : MHead) (a1 : MSigned) : Int := (bif (!(impl_IsHead.md a0)) then (2 : Int) else (bif (!(impl_IsHead.md a1.fHead)) then (2 : Int) else (bif (!(impl_isNext.md a0 a1.fHead)) then (3 : Int) else (bif (a1.fHead.fKind == 1) then ((impl_ownerCode.md a0 a1) : Int) else (bif (a1.fHead.fKind == 2) then ((impl_heirCode.md a0 a1) : Int) else ((impl_judgeCode.md a0 a1) : Int))))))
def gd (a0 : MHead) (a1 : MSigned) : Prop := (MHead.Sm (2 ^ 21) a0) ∧ (MSigned.Sm (2 ^ 21) a1)
def acc (ls : List L) : RHead × RSigned := ((RHead.dec ls), (RSigned.dec (dropT 16 ls)))
noncomputable def R : (RHead × RSigned) → Option Int := RR (p2 gd) (u2 md)
theorem R_eq {a0} {a1} (h : gd a0 a1) : R ((MHead.r a0), (MSigned.r a1)) = some (md a0 a1) := RR_eq (a := (a0, a1)) h
noncomputable def con : Con := CN pats res acc R
theorem okF (a0 : MHead) (a1 : MSigned) (hg : gd a0 a1) : F (MHead.r a0) (MSigned.r a1) = ret ((md a0 a1) : Int) := by
  unfold gd at hg
  obtain ⟨H0, H1⟩ := hg
  unfold F md
  try simp only [S0, MHead.rs, MSigned.rs]
  refine call_to (impl_IsHead.md a0) (impl_IsHead.R_eq (a0 := a0) H0) ?_
  refine bif_out ret (fun _ => rfl) (fun c1 => ?_)
  refine call_to (impl_IsHead.md a1.fHead) (impl_IsHead.R_eq (a0 := a1.fHead) H1.1) ?_
  refine bif_out ret (fun _ => rfl) (fun c2 => ?_)
  refine call_to (impl_isNext.md a0 a1.fHead) (impl_isNext.R_eq (a0 := a0) (a1 := a1.fHead) H0) ?_
  refine bif_out ret (fun _ => rfl) (fun c3 => ?_)
  refine bif_out ret (fun c4 => ?_) (fun c4 => ?_)
  · refine call_to (impl_ownerCode.md a0 a1) (impl_ownerCode.R_eq (a0 := a0) (a1 := a1) ⟨H0, H1⟩) ?_
    first | rfl | (simp only [S0, MHead.rs, MSigned.rs, MP]; first | done | rfl)
  · refine bif_out ret (fun c5 => ?_) (fun c5 => ?_)
    · refine call_to (impl_heirCode.md a0 a1) (impl_heirCode.R_eq (a0 := a0) (a1 := a1) ⟨H0, H1⟩) ?_
      first | rfl | (simp only [S0, MHead.rs, MSigned.rs, MP]; first | done | rfl)
    · refine call_to (impl_judgeCode.md a0 a1) (impl_judgeCode.R_eq (a0 := a0) (a1 := a1) ⟨H0, H1⟩) ?_
      first | rfl | (simp only [S0, MHead.rs, MSigned.rs, MP]; first | done | rfl)
theorem valid_ : Valid Tryz.prog Ev 145 con := VV (run := fun _ x => F x.1 x.2) mix tab_ok (.cons impl_IsHead.valid_ (.cons impl_isNext.valid_ (.cons impl_ownerCode.valid_ (.cons impl_heirCode.valid_ (.cons impl_judgeCode.valid_ .nil))))) Tryz.func145 (by kernel_rfl) run_eq (fun _ a _ _ hg => ⟨0, okF a.1 a.2 hg⟩)
theorem br (a0 : MHead) (a1 : MSigned) : md a0 a1 = spec_NextCode.md a0 a1 := by
  unfold md spec_NextCode.md impl_isNext.md impl_ownerCode.md impl_heirCode.md impl_judgeCode.md impl_Signed_isSignedBy.md spec_l15Owner.md spec_l15Heir.md spec_l15Judge.md
  simp only [impl_IsHead.br, impl_HeadDigest.br, impl_IsSigned.br, impl_HeadInts.br, impl_NoKeys.br, impl_EqualKeys.md_eq, spec_EqualKeys.md_eq, impl_SameContents.br, bne]
  cases spec_IsHead.md a0
  · rfl
  cases h2 : spec_IsHead.md a1.fHead
  · rfl
  obtain ⟨⟨k1, k2⟩, _⟩ := spec_IsHead.tr h2
  have ht : decide (a1.fHead.fTime < a0.fTime) = !decide (a1.fHead.fTime ≥ a0.fTime) := by
    rw [Bool.eq_iff_iff]; simp
  rw [ht]
  cases a1.fHead.fZone == a0.fZone
  · rfl
  cases a1.fHead.fEpoch == IntKind.i64.wrap (a0.fEpoch + 1)
  · rfl
  cases a1.fHead.fPrev == spec_HeadDigest.md a0
  · rfl
  cases decide (a1.fHead.fTime ≥ a0.fTime)
  · rfl
  have hk : a1.fHead.fKind = 1 ∨ a1.fHead.fKind = 2 ∨ a1.fHead.fKind = 3 := by omega
  generalize spec_IsSigned.md a0.fKeys (spec_HeadInts.md a1.fHead) a1.fSigs = s1
  generalize spec_IsSigned.md a0.fHeirs (spec_HeadInts.md a1.fHead) a1.fSigs = s2
  generalize spec_IsSigned.md a0.fJudge (spec_HeadInts.md a1.fHead) a1.fSigs = s3
  generalize spec_NoKeys.md a0.fHeirs = n1
  generalize spec_NoKeys.md a0.fJudge = n2
  generalize decide (a1.fHead.fTime < IntKind.i64.wrap (a0.fUntil + a0.fWait)) = d1
  generalize eqB a1.fHead.fKeys a0.fHeirs = e1
  generalize eqB a1.fHead.fJudge a0.fJudge = e2
  generalize eqB a1.fHead.fHeirs a0.fHeirs = e3
  generalize eqB a1.fHead.fKeys a0.fKeys = e4
  generalize spec_SameContents.md a1.fHead a0 = c1
  generalize (a1.fHead.fWait == a0.fWait) = w1
  generalize a1.fHead.fFrozen = f1
  generalize a0.fFrozen = f0
  rcases hk with hk | hk | hk <;> rw [hk]
  · cases f0 <;> cases f1 <;> cases s1 <;> rfl
  · cases f0 <;> cases n1 <;> cases d1 <;> cases f1 <;> cases e1 <;> cases c1 <;> cases s2 <;> rfl
  · cases n2
    · cases f1 <;> cases f0 <;> cases c1 <;> cases e2 <;> cases e3 <;> cases w1 <;> cases e4 <;> cases s3 <;> rfl
    · cases c1 <;> cases e2 <;> cases e3 <;> rfl
end impl_NextCode
/-! impl.MayFollow -/
namespace impl_MayFollow
noncomputable def F (x0 : RHead) (x1 : RSigned) : Ans := (call (impl_NextCode.R (x0, x1)) fun v1 => ret ((v1 == 1) : Bool))
def pats : List Pat := [.agg [.int .i64, .int .i64, .int .i64, .int .i64, .int .i64, .int .i64, .int .i64, .int .i64, .sl 3, .int .i64, .sl 3, .int .i64, .int .i64, .sl 3, .int .i64, .bool], .agg [.int .i64, .int .i64, .int .i64, .int .i64, .int .i64, .int .i64, .int .i64, .int .i64, .sl 3, .int .i64, .sl 3, .int .i64, .int .i64, .sl 3, .int .i64, .bool, .sl 179]]
def res : RP := .one (.rd (.bool))
noncomputable abbrev E : Env := ⟨assoc Tab, conG [(145, impl_NextCode.con)], 9⟩
set_option maxRecDepth 100000
theorem run_eq (n : Nat) (ls : List L) : runF E (fun _ => []) Tryz.f96 res n (initS pats ls) = F (RHead.dec ls) (RSigned.dec (dropT 16 ls)) := by kernel_rfl
noncomputable def md (a0 : MHead) (a1 : MSigned) : Bool := (((impl_NextCode.md a0 a1) == 1) : Bool)
def gd (a0 : MHead) (a1 : MSigned) : Prop := (MHead.Sm (2 ^ 21) a0) ∧ (MSigned.Sm (2 ^ 21) a1)
def acc (ls : List L) : RHead × RSigned := ((RHead.dec ls), (RSigned.dec (dropT 16 ls)))
noncomputable def R : (RHead × RSigned) → Option Bool := RR (p2 gd) (u2 md)
theorem R_eq {a0} {a1} (h : gd a0 a1) : R ((MHead.r a0), (MSigned.r a1)) = some (md a0 a1) := RR_eq (a := (a0, a1)) h
noncomputable def con : Con := CN pats res acc R
theorem okF (a0 : MHead) (a1 : MSigned) (hg : gd a0 a1) : F (MHead.r a0) (MSigned.r a1) = ret ((md a0 a1) : Bool) := by
  unfold gd at hg
  obtain ⟨H0, H1⟩ := hg
  unfold F md
  try simp only [S0]
  refine call_to (impl_NextCode.md a0 a1) (impl_NextCode.R_eq (a0 := a0) (a1 := a1) ⟨H0, H1⟩) ?_
  first | rfl | (simp only [S0, MP]; first | done | rfl)
theorem valid_ : Valid Tryz.prog Ev 96 con := VV (run := fun _ x => F x.1 x.2) mix tab_ok (.cons impl_NextCode.valid_ .nil) Tryz.func96 (by kernel_rfl) run_eq (fun _ a _ _ hg => ⟨0, okF a.1 a.2 hg⟩)
theorem br (a0 : MHead) (a1 : MSigned) : md a0 a1 = spec_MayFollow.md a0 a1 := by
  unfold md spec_MayFollow.md
  first
  | (simp only [impl_NextCode.br]; done)
  | (simp only [impl_NextCode.br]; rfl)
  | rfl
end impl_MayFollow
/-! impl.FirstWrong -/
namespace impl_FirstWrong
inductive Pt where
  | p0 (a : List (List L)) (b : List (List L)) (c : Int) (d : Int)
def pid : Pt → Nat
  | .p0 .. => 2
def pvs : Pt → List V
  | .p0 a b c d => [.sl none 92 a, .sl none 92 b, .int .i64 c, .int .i64 d]
def phs : Pt → List Root
  | .p0 a b c d => []
noncomputable def step (J : Pt → Ans) : Pt → Ans
  | .p0 a b c d => (bif (decide (d < c)) then (bif (decide ((0 : Int) ≤ d)) then (bif (decide (d < (b.length : Int))) then (bif (d == 0) then (call (impl_IsFirst.R (RSigned.at b (Int.toNat d))) fun v1 => (bif (!v1) then ret (d : Int) else (bif (decide (d > 0)) then (bif (decide ((0 : Int) ≤ (IntKind.i64.wrap (d - 1)))) then (bif (decide ((IntKind.i64.wrap (d - 1)) < (a.length : Int))) then (call (impl_MayFollow.R ((RSigned.at a (Int.toNat (IntKind.i64.wrap (d - 1)))).fHead, (RSigned.at b (Int.toNat d)))) fun v2 => (bif (!v2) then ret (d : Int) else J (.p0 a b c (IntKind.i64.wrap (d + 1))))) else none) else none) else J (.p0 a b c (IntKind.i64.wrap (d + 1)))))) else (bif (decide (d > 0)) then (bif (decide ((0 : Int) ≤ (IntKind.i64.wrap (d - 1)))) then (bif (decide ((IntKind.i64.wrap (d - 1)) < (a.length : Int))) then (call (impl_MayFollow.R ((RSigned.at a (Int.toNat (IntKind.i64.wrap (d - 1)))).fHead, (RSigned.at b (Int.toNat d)))) fun v3 => (bif (!v3) then ret (d : Int) else J (.p0 a b c (IntKind.i64.wrap (d + 1))))) else none) else none) else J (.p0 a b c (IntKind.i64.wrap (d + 1))))) else none) else none) else ret ((-1) : Int))
noncomputable def start (J : Pt → Ans) (x0 : List (List L)) : Ans := J (.p0 x0 x0 (x0.length : Int) 0)
def live : Nat → Live := fun i => match i with | 2 => [(0, none), (5, none), (6, none), (7, none)] | _ => []
def pats : List Pat := [.rd (.sl 92)]
def res : RP := .one (.rd (.int .i64))
noncomputable abbrev E : Env := ⟨assoc Tab, conG [(95, impl_IsFirst.con), (96, impl_MayFollow.con)], 36⟩
set_option maxRecDepth 100000
theorem step_eq (I : Heads) (p : Pt) : enterC E live I (pid p) (bodyOf Tryz.f89) (stOf (live (pid p)) (pvs p) (phs p)) (doneK E Tryz.f89 res) = step (fun q => I (pid q) (pvs q) (phs q)) p := by
  cases p <;> kernel_rfl
theorem start_eq (I : Heads) (ls : List L) : runC E live I (bodyOf Tryz.f89) (initS pats ls) (doneK E Tryz.f89 res) = start (fun q => I (pid q) (pvs q) (phs q)) (ls.headD .hole).toSl := by kernel_rfl
theorem run_eq (n : Nat) (ls : List L) : runF E live Tryz.f89 res n (initS pats ls) = start (iter step n) (ls.headD .hole).toSl := runF_iter (id := pid) (vs := pvs) (hs := phs) (step := step) (start := fun J => start J (ls.headD .hole).toSl) step_eq (fun I => start_eq I ls) n
noncomputable def md (a0 : List MSigned) : Int := (eachI (S := Unit) (β := Int) (fun (i1 : Nat) (y1 : MSigned) (s3 : Unit) => (bif ((i1 : Int) == 0) then (bif (!(impl_IsFirst.md y1)) then (.inr ((i1 : Int) : Int)) else (bif (decide ((i1 : Int) > 0)) then (bif (!(impl_MayFollow.md ((a0.getD (Int.toNat (IntKind.i64.wrap ((i1 : Int) - 1))) MSigned.zero).fHead) y1)) then (.inr ((i1 : Int) : Int)) else (.inl ())) else (.inl ()))) else (bif (decide ((i1 : Int) > 0)) then (bif (!(impl_MayFollow.md ((a0.getD (Int.toNat (IntKind.i64.wrap ((i1 : Int) - 1))) MSigned.zero).fHead) y1)) then (.inr ((i1 : Int) : Int)) else (.inl ())) else (.inl ())))) (fun (s3 : Unit) => ((-1) : Int)) 0 a0 ())
def gd (a0 : List MSigned) : Prop := (SmL (2 ^ 21) (fun y : MSigned => MSigned.Sm (2 ^ 21) y) a0)
def acc (ls : List L) : List (List L) := (ls.headD .hole).toSl
noncomputable def R : (List (List L)) → Option Int := RR gd md
theorem R_eq {a0} (h : gd a0) : R (a0.map MSigned.row) = some (md a0) := RR_eq (a := a0) h
noncomputable def con : Con := CN pats res acc R
theorem okF (a0 : List MSigned) (hg : gd a0) : ∃ n, start (iter step n) (a0.map MSigned.row) = ret ((md a0) : Int) := by
  unfold gd at hg
  have H0 := hg
  unfold start md
  try simp only [S0, MSigned.rs]
  have Bh2 : a0.length ≤ maxLen := (by
      have := (H0).1
      try simp only [maxLen] at *
      omega)
  refine ex_eq (out := ret) (loopM_eachI (z := MSigned.zero)) ?_
  refine ex_pt (p := Pt.p0 (a0.map MSigned.row) (a0.map MSigned.row) (a0.length : Int) 0) (by first | rfl | (simp only [S0, MSigned.rs, MP]; done) | (simp only [MP]; rfl)) ?_
  refine loopM_ok (pt := fun (i1 : Nat) (s3 : Unit) => Pt.p0 (a0.map MSigned.row) (a0.map MSigned.row) (a0.length : Int) (i1 : Int)) (s := (() : Unit)) (out := ret) (fun _ _ => True) (fun J i1 s3 h2 hih2 => ?_) (fun s3 hih2 => ?_) trivial
  · simp only [step, S0, MSigned.rs]
    have bb_ := Bh2
    simp only [maxLen] at bb_
    have := (H0).1
    refine Rnd.yes (by apply decide_eq_true; omega) ?_
    refine Rnd.yes zle_dec ?_
    refine Rnd.yes (lt_dec h2) ?_
    refine Rnd.bif (fun c4 => ?_) (fun c4 => ?_)
    · have dc4 := c4
      try simp only [DC] at dc4
      refine Rnd.call_to (impl_IsFirst.md (a0.getD i1 MSigned.zero)) (impl_IsFirst.R_eq (a0 := (a0.getD i1 MSigned.zero)) (SmL.getD (z := MSigned.zero) H0 h2)) ?_
      refine Rnd.bif (fun c5 => ?_) (fun c5 => ?_)
      · refine Rnd.inr ?_
        first | rfl | (simp only [S0, MSigned.rs, MP]; first | done | rfl)
      · have dc5 := c5
        try simp only [DC] at dc5
        refine Rnd.bif (fun c6 => ?_) (fun c6 => ?_)
        · have dc6 := c6
          try simp only [DC] at dc6
          refine Rnd.yes (by
              refine decide_eq_true ?_
              try simp (disch := omega) only [LN, wi]
              first | omega | (simp; done) | (simp; omega)) ?_
          refine Rnd.yes (by
              have := (H0).1
              refine decide_eq_true ?_
              try simp (disch := omega) only [LN, wi]
              first | omega | (simp; done) | (simp; omega)) ?_
          refine Rnd.call_to (impl_MayFollow.md ((a0.getD (Int.toNat (IntKind.i64.wrap ((i1 : Int) - 1))) MSigned.zero).fHead) (a0.getD i1 MSigned.zero)) (impl_MayFollow.R_eq (a0 := (a0.getD (Int.toNat (IntKind.i64.wrap ((i1 : Int) - 1))) MSigned.zero).fHead) (a1 := (a0.getD i1 MSigned.zero)) ⟨(SmL.getD (z := MSigned.zero) H0 (by first | assumption | omega | (simp (disch := omega) only [wi]; omega) | (simp; omega))).1, (SmL.getD (z := MSigned.zero) H0 h2)⟩) ?_
          refine Rnd.bif (fun c7 => ?_) (fun c7 => ?_)
          · refine Rnd.inr ?_
            first | rfl | (simp only [S0, MSigned.rs, MP]; first | done | rfl)
          · refine Rnd.inl trivial ?_
            rw [wrap_succ h2 Bh2]
            all_goals first | rfl | (simp only [S0, MSigned.rs, MP]; first | done | rfl)
        · refine Rnd.inl trivial ?_
          rw [wrap_succ h2 Bh2]
          all_goals first | rfl | (simp only [S0, MSigned.rs, MP]; first | done | rfl)
    · have dc4 := c4
      try simp only [DC] at dc4
      refine Rnd.bif (fun c8 => ?_) (fun c8 => ?_)
      · have dc8 := c8
        try simp only [DC] at dc8
        refine Rnd.yes (by
            refine decide_eq_true ?_
            try simp (disch := omega) only [LN, wi]
            first | omega | (simp; done) | (simp; omega)) ?_
        refine Rnd.yes (by
            have := (H0).1
            refine decide_eq_true ?_
            try simp (disch := omega) only [LN, wi]
            first | omega | (simp; done) | (simp; omega)) ?_
        refine Rnd.call_to (impl_MayFollow.md ((a0.getD (Int.toNat (IntKind.i64.wrap ((i1 : Int) - 1))) MSigned.zero).fHead) (a0.getD i1 MSigned.zero)) (impl_MayFollow.R_eq (a0 := (a0.getD (Int.toNat (IntKind.i64.wrap ((i1 : Int) - 1))) MSigned.zero).fHead) (a1 := (a0.getD i1 MSigned.zero)) ⟨(SmL.getD (z := MSigned.zero) H0 (by first | assumption | omega | (simp (disch := omega) only [wi]; omega) | (simp; omega))).1, (SmL.getD (z := MSigned.zero) H0 h2)⟩) ?_
        refine Rnd.bif (fun c9 => ?_) (fun c9 => ?_)
        · refine Rnd.inr ?_
          first | rfl | (simp only [S0, MSigned.rs, MP]; first | done | rfl)
        · refine Rnd.inl trivial ?_
          rw [wrap_succ h2 Bh2]
          all_goals first | rfl | (simp only [S0, MSigned.rs, MP]; first | done | rfl)
      · refine Rnd.inl trivial ?_
        rw [wrap_succ h2 Bh2]
        all_goals first | rfl | (simp only [S0, MSigned.rs, MP]; first | done | rfl)
  · simp only [step, S0, MSigned.rs]
    have := (H0).1
    refine ex_no (by apply decide_eq_false; omega) ?_
    refine ⟨0, ?_⟩
    first | rfl | (simp only [S0, MSigned.rs, MP]; first | done | rfl)
theorem valid_ : Valid Tryz.prog Ev 89 con := VV (run := fun n x => start (iter step n) x) mix tab_ok (.cons impl_IsFirst.valid_ (.cons impl_MayFollow.valid_ .nil)) Tryz.func89 (by kernel_rfl) run_eq (fun _ a _ _ hg => okF a hg)
theorem br (a0 : List MSigned) : md a0 = spec_FirstWrong.md a0 := by
  unfold md spec_FirstWrong.md
  rw [← loopM_eachI (z := MSigned.zero), ← loopM_eachI (z := MSigned.zero)]
  refine loopM_congr (fun _ _ => True) (fun i s hi _ => ⟨?_, fun _ _ => trivial⟩) (fun _ _ => rfl) trivial
  simp only [impl_IsFirst.br, impl_MayFollow.br]
  by_cases h0 : i = 0
  · subst h0; rfl
  · have e : ((i : Int) == 0) = false := beq_eq_false_iff_ne.2 (by omega)
    simp only [e, cond_false]
end impl_FirstWrong
/-! impl.IsChain -/
namespace impl_IsChain
noncomputable def F (x0 : List (List L)) : Ans := (call (impl_InRange.R ((x0.length : Int), 1, 12)) fun v1 => (bif v1 then (call (impl_FirstWrong.R x0) fun v2 => ret ((decide (v2 < 0)) : Bool)) else ret (false : Bool)))
def pats : List Pat := [.rd (.sl 92)]
def res : RP := .one (.rd (.bool))
noncomputable abbrev E : Env := ⟨assoc Tab, conG [(88, impl_InRange.con), (89, impl_FirstWrong.con)], 11⟩
set_option maxRecDepth 100000
theorem run_eq (n : Nat) (ls : List L) : runF E (fun _ => []) Tryz.f46 res n (initS pats ls) = F (ls.headD .hole).toSl := by kernel_rfl
noncomputable def md (a0 : List MSigned) : Bool := (bif (impl_InRange.md (a0.length : Int) 1 12) then ((decide ((impl_FirstWrong.md a0) < 0)) : Bool) else (false : Bool))
def gd (a0 : List MSigned) : Prop := (SmL (2 ^ 21) (fun y : MSigned => MSigned.Sm (2 ^ 21) y) a0)
def acc (ls : List L) : List (List L) := (ls.headD .hole).toSl
noncomputable def R : (List (List L)) → Option Bool := RR gd md
theorem R_eq {a0} (h : gd a0) : R (a0.map MSigned.row) = some (md a0) := RR_eq (a := a0) h
noncomputable def con : Con := CN pats res acc R
theorem okF (a0 : List MSigned) (hg : gd a0) : F (a0.map MSigned.row) = ret ((md a0) : Bool) := by
  unfold gd at hg
  have H0 := hg
  unfold F md
  try simp only [S0]
  refine call_to (impl_InRange.md (a0.length : Int) 1 12) (impl_InRange.R_eq (a0 := (a0.length : Int)) (a1 := 1) (a2 := 12) trivial) ?_
  refine bif_out ret (fun c1 => ?_) (fun _ => rfl)
  refine call_to (impl_FirstWrong.md a0) (impl_FirstWrong.R_eq (a0 := a0) H0) ?_
  first | rfl | (simp only [S0, MP]; first | done | rfl)
theorem valid_ : Valid Tryz.prog Ev 46 con := VV (run := fun _ x => F x) mix tab_ok (.cons impl_InRange.valid_ (.cons impl_FirstWrong.valid_ .nil)) Tryz.func46 (by kernel_rfl) run_eq (fun _ a _ _ hg => ⟨0, okF a hg⟩)
theorem tr {a0 : List MSigned} (h : md a0 = true) : 1 ≤ a0.length ∧ a0.length ≤ 12 := by simp [md, impl_InRange.md] at h; omega
theorem br (a0 : List MSigned) : md a0 = spec_IsChain.md a0 := by
  unfold md spec_IsChain.md
  first
  | (simp only [impl_InRange.br, impl_FirstWrong.br]; done)
  | (simp only [impl_InRange.br, impl_FirstWrong.br]; rfl)
  | rfl
end impl_IsChain
/-! impl.last -/
namespace impl_last
noncomputable def F (x0 : List (List L)) : Ans := (bif (decide ((0 : Int) ≤ (IntKind.i64.wrap ((x0.length : Int) - 1)))) then (bif (decide ((IntKind.i64.wrap ((x0.length : Int) - 1)) < (x0.length : Int))) then ret ((RSigned.at x0 (Int.toNat (IntKind.i64.wrap ((x0.length : Int) - 1)))).fHead : RHead) else none) else none)
def pats : List Pat := [.rd (.sl 92)]
def res : RP := .agg [.rd (.int .i64), .rd (.int .i64), .rd (.int .i64), .rd (.int .i64), .rd (.int .i64), .rd (.int .i64), .rd (.int .i64), .rd (.int .i64), .rd (.sl 3), .rd (.int .i64), .rd (.sl 3), .rd (.int .i64), .rd (.int .i64), .rd (.sl 3), .rd (.int .i64), .rd (.bool)]
noncomputable abbrev E : Env := ⟨assoc Tab, conG [], 10⟩
set_option maxRecDepth 100000
theorem run_eq (n : Nat) (ls : List L) : runF E (fun _ => []) Tryz.f124 res n (initS pats ls) = F (ls.headD .hole).toSl := by kernel_rfl
noncomputable def md (a0 : List MSigned) : MHead := (a0.getD (Int.toNat (IntKind.i64.wrap ((a0.length : Int) - 1))) MSigned.zero).fHead
def gd (a0 : List MSigned) : Prop := (SmL (2 ^ 21) (fun y : MSigned => MSigned.Sm (2 ^ 21) y) a0) ∧ (1 ≤ a0.length)
def acc (ls : List L) : List (List L) := (ls.headD .hole).toSl
noncomputable def R : (List (List L)) → Option RHead := RR gd md
theorem R_eq {a0} (h : gd a0) : R (a0.map MSigned.row) = some (MHead.r (md a0)) := RR_eq (a := a0) h
noncomputable def con : Con := CN pats res acc R
theorem okF (a0 : List MSigned) (hg : gd a0) : F (a0.map MSigned.row) = ret ((MHead.r (md a0)) : RHead) := by
  unfold gd at hg
  obtain ⟨H0, HX⟩ := hg
  unfold F md
  try simp only [S0, MSigned.rs]
  refine yes_ret (by
      have := (H0).1
      refine decide_eq_true ?_
      try simp (disch := omega) only [LN, wi]
      first | omega | (simp; done) | (simp; omega)) ?_
  refine yes_ret (by
      have := (H0).1
      refine decide_eq_true ?_
      try simp (disch := omega) only [LN, wi]
      first | omega | (simp; done) | (simp; omega)) ?_
  all_goals first | rfl | (simp only [S0, MSigned.rs]; done) | (simp only [MP]; rfl) | (simp only [S0, MSigned.rs, MP]; first | done | rfl)
theorem valid_ : Valid Tryz.prog Ev 124 con := VV (run := fun _ x => F x) mix tab_ok .nil Tryz.func124 (by kernel_rfl) run_eq (fun _ a _ _ hg => ⟨0, okF a hg⟩)
theorem sm0 {a0 : List MSigned} (hg : gd a0) : MHead.Sm (2 ^ 21) (md a0) := by
  unfold gd at hg; unfold md
  have h1 := hg.1.1
  have h2 := hg.2
  exact (SmL.getD hg.1 (by simp (disch := omega) only [Go.IntWalk.i64_in]; omega)).1
end impl_last
/-! impl.LastHead -/
namespace impl_LastHead
noncomputable def F (x0 : List (List L)) : Ans := (call (impl_IsChain.R x0) fun v1 => (bif (!v1) then ret (((⟨0, 0, 0, 0, 0, 0, 0, 0, (⟨[], 0⟩ : RKeys), (⟨[], 0⟩ : RKeys), 0, (⟨[], 0⟩ : RKeys), false⟩ : RHead), false) : RHead × Bool) else (call (impl_last.R x0) fun v2 => (call (impl_copyHead.R v2) fun v3 => ret ((v3, true) : RHead × Bool)))))
def pats : List Pat := [.rd (.sl 92)]
def res : RP := .tup [(true, [.rd (.int .i64), .rd (.int .i64), .rd (.int .i64), .rd (.int .i64), .rd (.int .i64), .rd (.int .i64), .rd (.int .i64), .rd (.int .i64), .fr 3, .rd (.int .i64), .fr 3, .rd (.int .i64), .rd (.int .i64), .fr 3, .rd (.int .i64), .rd (.bool)]), (false, [.rd (.bool)])]
noncomputable abbrev E : Env := ⟨assoc Tab, conG [(46, impl_IsChain.con), (124, impl_last.con), (123, impl_copyHead.con)], 11⟩
set_option maxRecDepth 100000
theorem run_eq (n : Nat) (ls : List L) : runF E (fun _ => []) Tryz.f69 res n (initS pats ls) = F (ls.headD .hole).toSl := by kernel_rfl
noncomputable def md (a0 : List MSigned) : MHead × Bool := (bif (!(impl_IsChain.md a0)) then ((⟨0, 0, 0, 0, 0, 0, 0, 0, (⟨[], 0⟩ : MKeys), (⟨[], 0⟩ : MKeys), 0, (⟨[], 0⟩ : MKeys), false⟩ : MHead), false) else ((impl_last.md a0), true))
def gd (a0 : List MSigned) : Prop := (SmL (2 ^ 21) (fun y : MSigned => MSigned.Sm (2 ^ 21) y) a0)
def acc (ls : List L) : List (List L) := (ls.headD .hole).toSl
noncomputable def R : (List (List L)) → Option (RHead × Bool) := RR gd md
theorem R_eq {a0} (h : gd a0) : R (a0.map MSigned.row) = some ((MHead.r (md a0).1), (md a0).2) := RR_eq (a := a0) h
noncomputable def con : Con := CN pats res acc R
theorem okF (a0 : List MSigned) (hg : gd a0) : F (a0.map MSigned.row) = ret (((MHead.r (md a0).1), (md a0).2) : RHead × Bool) := by
  unfold gd at hg
  have H0 := hg
  unfold F md
  try simp only [S0]
  refine call_to (impl_IsChain.md a0) (impl_IsChain.R_eq (a0 := a0) H0) ?_
  refine bif_out (fun b : MHead × Bool => ret (((MHead.r b.1), b.2) : RHead × Bool)) (fun c1 => ?_) (fun c1 => ?_)
  · all_goals first | rfl | (simp only [S0]; done) | (simp only [MP]; rfl) | (simp only [S0, MP]; first | done | rfl)
  · have dc1 := c1
    try simp only [DC] at dc1
    try have tc1 := impl_IsChain.tr (by simpa using c1)
    refine call_to (MHead.r (impl_last.md a0)) (impl_last.R_eq (a0 := a0) ⟨H0, (by
        have := (H0).1
        first | assumption | omega | (simp; done) | (simp; omega))⟩) ?_
    try simp only [S0]
    refine call_to (MHead.r (impl_last.md a0)) ?_ ?_
    · have R_ := impl_copyHead.R_eq (a0 := (impl_last.md a0)) (impl_last.sm0 (a0 := a0) ⟨H0, (by
          have := (H0).1
          first | assumption | omega | (simp; done) | (simp; omega))⟩)
      simp only [impl_copyHead.md] at R_
      first | exact R_ | (simp only [MP, S0] at R_ ⊢; first | exact R_ | (rw [← R_]; rfl))
    try simp only [S0]
    all_goals first | rfl | (simp only [S0]; done) | (simp only [MP]; rfl) | (simp only [S0, MP]; first | done | rfl)
theorem valid_ : Valid Tryz.prog Ev 69 con := VV (run := fun _ x => F x) mix tab_ok (.cons impl_IsChain.valid_ (.cons impl_last.valid_ (.cons impl_copyHead.valid_ .nil))) Tryz.func69 (by kernel_rfl) run_eq (fun _ a _ _ hg => ⟨0, okF a hg⟩)
theorem sm0 {a0 : List MSigned} (hg : gd a0) : MHead.Sm (2 ^ 21) ((md a0).1) := by
  unfold gd at hg; unfold md
  cases h : impl_IsChain.md a0
  · exact ⟨SmL.nil, SmL.nil, SmL.nil⟩
  · have := impl_IsChain.tr h
    exact impl_last.sm0 ⟨hg, this.1⟩
theorem br (a0 : List MSigned) : md a0 = spec_LastHead.md a0 := by
  unfold md spec_LastHead.md
  first
  | (simp only [impl_IsChain.br]; done)
  | (simp only [impl_IsChain.br]; rfl)
  | rfl
end impl_LastHead
/-! impl.AgeOf -/
namespace impl_AgeOf
noncomputable def F (x0 : RCache) (x1 : Int) (x2 : ByteArray) (x3 : Int) : Ans := (call (impl_FromCache.R (x0, x1, x2)) fun v1 => (call (impl_LastHead.R v1.fChain) fun v2 => (bif (!v2.2) then ret ((-1) : Int) else ret ((IntKind.i64.wrap (x3 - v2.1.fTime)) : Int))))
def pats : List Pat := [.agg [.sl 124], .rd (.int .i64), .rd (.str), .rd (.int .i64)]
def res : RP := .one (.rd (.int .i64))
noncomputable abbrev E : Env := ⟨assoc Tab, conG [(75, impl_FromCache.con), (69, impl_LastHead.con)], 26⟩
set_option maxRecDepth 100000
theorem run_eq (n : Nat) (ls : List L) : runF E (fun _ => []) Tryz.f36 res n (initS pats ls) = F (RCache.dec ls) ((dropT 1 ls).headD .hole).toInt ((dropT 2 ls).headD .hole).toStr ((dropT 3 ls).headD .hole).toInt := by kernel_rfl
noncomputable def md (a0 : MCache) (a1 : Int) (a2 : ByteArray) (a3 : Int) : Int := (bif (!(impl_LastHead.md ((impl_FromCache.md a0 a1 a2).fChain)).2) then ((-1) : Int) else ((IntKind.i64.wrap (a3 - (impl_LastHead.md ((impl_FromCache.md a0 a1 a2).fChain)).1.fTime)) : Int))
def gd (a0 : MCache) (a1 : Int) (a2 : ByteArray) (a3 : Int) : Prop := (MCache.Sm (2 ^ 21) a0)
def acc (ls : List L) : RCache × Int × ByteArray × Int := ((RCache.dec ls), ((dropT 1 ls).headD .hole).toInt, ((dropT 2 ls).headD .hole).toStr, ((dropT 3 ls).headD .hole).toInt)
noncomputable def R : (RCache × Int × ByteArray × Int) → Option Int := RR (p4 gd) (u4 md)
theorem R_eq {a0} {a1} {a2} {a3} (h : gd a0 a1 a2 a3) : R ((MCache.r a0), a1, a2, a3) = some (md a0 a1 a2 a3) := RR_eq (a := (a0, a1, a2, a3)) h
noncomputable def con : Con := CN pats res acc R
theorem okF (a0 : MCache) (a1 : Int) (a2 : ByteArray) (a3 : Int) (hg : gd a0 a1 a2 a3) : F (MCache.r a0) a1 a2 a3 = ret ((md a0 a1 a2 a3) : Int) := by
  unfold gd at hg
  have H0 := hg
  unfold F md
  try simp only [S0, MHead.rs, MAnswer.rs]
  refine call_to (MAnswer.r (impl_FromCache.md a0 a1 a2)) (impl_FromCache.R_eq (a0 := a0) (a1 := a1) (a2 := a2) H0) ?_
  try simp only [S0, MHead.rs, MAnswer.rs]
  refine call_to ((MHead.r (impl_LastHead.md ((impl_FromCache.md a0 a1 a2).fChain)).1), (impl_LastHead.md ((impl_FromCache.md a0 a1 a2).fChain)).2) (impl_LastHead.R_eq (a0 := (impl_FromCache.md a0 a1 a2).fChain) (impl_FromCache.sm0 (a0 := a0) (a1 := a1) (a2 := a2) H0).1) ?_
  try simp only [S0, MHead.rs, MAnswer.rs]
  refine bif_out ret (fun _ => rfl) (fun c1 => ?_)
  first | rfl | (simp only [S0, MHead.rs, MAnswer.rs, MP]; first | done | rfl)
theorem valid_ : Valid Tryz.prog Ev 36 con := VV (run := fun _ x => F x.1 x.2.1 x.2.2.1 x.2.2.2) mix tab_ok (.cons impl_FromCache.valid_ (.cons impl_LastHead.valid_ .nil)) Tryz.func36 (by kernel_rfl) run_eq (fun _ a _ _ hg => ⟨0, okF a.1 a.2.1 a.2.2.1 a.2.2.2 hg⟩)
theorem br (a0 : MCache) (a1 : Int) (a2 : ByteArray) (a3 : Int) : md a0 a1 a2 a3 = spec_AgeOf.md a0 a1 a2 a3 := by
  unfold md spec_AgeOf.md
  first
  | (simp only [impl_FromCache.br, impl_LastHead.br]; done)
  | (simp only [impl_FromCache.br, impl_LastHead.br]; rfl)
  | rfl
end impl_AgeOf
/-! laws.eqIntS -/
namespace laws_eqIntS
inductive Pt where
  | p0 (a : List (List L)) (b : List (List L)) (c : Int)
def pid : Pt → Nat
  | .p0 .. => 4
def pvs : Pt → List V
  | .p0 a b c => [.sl none 3 a, .sl none 3 b, .int .i64 c]
def phs : Pt → List Root
  | .p0 a b c => []
noncomputable def step (J : Pt → Ans) : Pt → Ans
  | .p0 a b c => (bif (decide (c < (a.length : Int))) then (bif (decide ((0 : Int) ≤ c)) then (bif (decide (c < (a.length : Int))) then (bif (decide ((0 : Int) ≤ c)) then (bif (decide (c < (b.length : Int))) then (bif ((iAt a (Int.toNat c)) != (iAt b (Int.toNat c))) then ret (false : Bool) else J (.p0 a b (IntKind.i64.wrap (c + 1)))) else none) else none) else none) else none) else ret (true : Bool))
noncomputable def start (J : Pt → Ans) (x0 : List (List L)) (x1 : List (List L)) : Ans := (bif ((x0.length : Int) != (x1.length : Int)) then ret (false : Bool) else J (.p0 x0 x1 0))
def live : Nat → Live := fun i => match i with | 4 => [(0, none), (1, none), (5, none)] | _ => []
def pats : List Pat := [.rd (.sl 3), .rd (.sl 3)]
def res : RP := .one (.rd (.bool))
noncomputable abbrev E : Env := ⟨assoc Tab, conG [], 26⟩
set_option maxRecDepth 100000
theorem step_eq (I : Heads) (p : Pt) : enterC E live I (pid p) (bodyOf Tryz.f119) (stOf (live (pid p)) (pvs p) (phs p)) (doneK E Tryz.f119 res) = step (fun q => I (pid q) (pvs q) (phs q)) p := by
  cases p <;> kernel_rfl
theorem start_eq (I : Heads) (ls : List L) : runC E live I (bodyOf Tryz.f119) (initS pats ls) (doneK E Tryz.f119 res) = start (fun q => I (pid q) (pvs q) (phs q)) (ls.headD .hole).toSl ((dropT 1 ls).headD .hole).toSl := by kernel_rfl
theorem run_eq (n : Nat) (ls : List L) : runF E live Tryz.f119 res n (initS pats ls) = start (iter step n) (ls.headD .hole).toSl ((dropT 1 ls).headD .hole).toSl := runF_iter (id := pid) (vs := pvs) (hs := phs) (step := step) (start := fun J => start J (ls.headD .hole).toSl ((dropT 1 ls).headD .hole).toSl) step_eq (fun I => start_eq I ls) n
noncomputable def md (a0 : List Int) (a1 : List Int) : Bool := eqB a0 a1
def gd (a0 : List Int) (a1 : List Int) : Prop := True
def acc (ls : List L) : List (List L) × List (List L) := ((ls.headD .hole).toSl, ((dropT 1 ls).headD .hole).toSl)
noncomputable def R : (List (List L) × List (List L)) → Option Bool := RR (p2 gd) (u2 md)
theorem R_eq {a0} {a1} (h : gd a0 a1) : R ((a0.map iRow), (a1.map iRow)) = some (md a0 a1) := RR_eq (a := (a0, a1)) h
noncomputable def con : Con := CN pats res acc R
theorem okF (a0 : List Int) (a1 : List Int) (hg : gd a0 a1) (h0 : a0.length ≤ maxLen) (h1 : a1.length ≤ maxLen) : ∃ n, start (iter step n) (a0.map iRow) (a1.map iRow) = ret ((md a0 a1) : Bool) := by
  unfold start md
  simp only [List.length_map]
  refine eq_list (pt := fun i => Pt.p0 (a0.map iRow) (a1.map iRow) (i : Int)) (fun hl J i h h2 => ?_) (fun J => ?_)
  · simp only [step, List.length_map, lt_dec h, lt_dec h2, zle_dec, cond_true, toNat_nat, iAt_row h, iAt_row h2]
    rw [wrap_succ h h0]
    simp only [bne, int_beq, bool_beq, ba_beq]
    cases eqB a0[i] a1[i] <;> rfl
  · simp only [step, List.length_map, nlt_dec, cond_false]
theorem valid_ : Valid Tryz.prog Ev 119 con := VV (run := fun n x => start (iter step n) x.1 x.2) mix tab_ok .nil Tryz.func119 (by kernel_rfl) run_eq (fun ls a hl e hg => okF a.1 a.2 hg (by have h : (ls.headD .hole).toSl.length ≤ maxLen := hl.1.len; have e : a.1.map iRow = (ls.headD .hole).toSl := (congrArg (fun x => x.1) e.symm); rw [← e] at h; simpa using h) (by have h : ((dropT 1 ls).headD .hole).toSl.length ≤ maxLen := hl.2.1.len; have e : a.2.map iRow = ((dropT 1 ls).headD .hole).toSl := (congrArg (fun x => x.2) e.symm); rw [← e] at h; simpa using h))
end laws_eqIntS
/-! laws.eqKeys -/
namespace laws_eqKeys
noncomputable def F (x0 : RKeys) (x1 : RKeys) : Ans := (call (laws_eqIntS.R (x0.fList, x1.fList)) fun v1 => (bif (!v1) then ret (false : Bool) else (bif (x0.fNeed != x1.fNeed) then ret (false : Bool) else ret (true : Bool))))
def pats : List Pat := [.agg [.sl 3, .int .i64], .agg [.sl 3, .int .i64]]
def res : RP := .one (.rd (.bool))
noncomputable abbrev E : Env := ⟨assoc Tab, conG [(119, laws_eqIntS.con)], 16⟩
set_option maxRecDepth 100000
theorem run_eq (n : Nat) (ls : List L) : runF E (fun _ => []) Tryz.f149 res n (initS pats ls) = F (RKeys.dec ls) (RKeys.dec (dropT 2 ls)) := by kernel_rfl
noncomputable def md (a0 : MKeys) (a1 : MKeys) : Bool := eqB a0 a1
def gd (a0 : MKeys) (a1 : MKeys) : Prop := True
def acc (ls : List L) : RKeys × RKeys := ((RKeys.dec ls), (RKeys.dec (dropT 2 ls)))
noncomputable def R : (RKeys × RKeys) → Option Bool := RR (p2 gd) (u2 md)
theorem R_eq {a0} {a1} (h : gd a0 a1) : R ((MKeys.r a0), (MKeys.r a1)) = some (md a0 a1) := RR_eq (a := (a0, a1)) h
noncomputable def con : Con := CN pats res acc R
theorem okF (a0 : MKeys) (a1 : MKeys) (hg : gd a0 a1) : F (MKeys.r a0) (MKeys.r a1) = ret ((md a0 a1) : Bool) := by
  unfold md
  show (call (laws_eqIntS.R ((a0.fList.map iRow), (a1.fList.map iRow))) fun v1 => (bif (!v1) then ret (false : Bool) else (bif (a0.fNeed != a1.fNeed) then ret (false : Bool) else ret (true : Bool)))) = _
  simp only [call_eq (laws_eqIntS.R_eq (a0 := a0.fList) (a1 := a1.fList) trivial), laws_eqIntS.md]
  try simp only [bne, int_beq, bool_beq, ba_beq]
  have e : eqB a0 a1 = (eqB a0.fList a1.fList && (eqB a0.fNeed a1.fNeed && true)) := by
    cases a0; cases a1
    rw [Bool.eq_iff_iff]
    simp only [eqB_iff, Bool.and_eq_true, MKeys.mk.injEq, and_true]
  rw [e]
  refine and_step fun _ => ?_
  refine and_step fun _ => ?_
  rfl
theorem valid_ : Valid Tryz.prog Ev 149 con := VV (run := fun _ x => F x.1 x.2) mix tab_ok (.cons laws_eqIntS.valid_ .nil) Tryz.func149 (by kernel_rfl) run_eq (fun _ a _ _ hg => ⟨0, okF a.1 a.2 hg⟩)
end laws_eqKeys
/-! laws.eqHead -/
namespace laws_eqHead
noncomputable def F (x0 : RHead) (x1 : RHead) : Ans := (bif (x0.fZone != x1.fZone) then ret (false : Bool) else (bif (x0.fEpoch != x1.fEpoch) then ret (false : Bool) else (bif (x0.fKind != x1.fKind) then ret (false : Bool) else (bif (x0.fTime != x1.fTime) then ret (false : Bool) else (bif (x0.fUntil != x1.fUntil) then ret (false : Bool) else (bif (x0.fCount != x1.fCount) then ret (false : Bool) else (bif (x0.fRoot != x1.fRoot) then ret (false : Bool) else (bif (x0.fPrev != x1.fPrev) then ret (false : Bool) else (call (laws_eqKeys.R (x0.fKeys, x1.fKeys)) fun v1 => (bif (!v1) then ret (false : Bool) else (call (laws_eqKeys.R (x0.fHeirs, x1.fHeirs)) fun v2 => (bif (!v2) then ret (false : Bool) else (bif (x0.fWait != x1.fWait) then ret (false : Bool) else (call (laws_eqKeys.R (x0.fJudge, x1.fJudge)) fun v3 => (bif (!v3) then ret (false : Bool) else (bif (!(x0.fFrozen == x1.fFrozen)) then ret (false : Bool) else ret (true : Bool)))))))))))))))))
def pats : List Pat := [.agg [.int .i64, .int .i64, .int .i64, .int .i64, .int .i64, .int .i64, .int .i64, .int .i64, .sl 3, .int .i64, .sl 3, .int .i64, .int .i64, .sl 3, .int .i64, .bool], .agg [.int .i64, .int .i64, .int .i64, .int .i64, .int .i64, .int .i64, .int .i64, .int .i64, .sl 3, .int .i64, .sl 3, .int .i64, .int .i64, .sl 3, .int .i64, .bool]]
def res : RP := .one (.rd (.bool))
noncomputable abbrev E : Env := ⟨assoc Tab, conG [(149, laws_eqKeys.con)], 73⟩
set_option maxRecDepth 100000
theorem run_eq (n : Nat) (ls : List L) : runF E (fun _ => []) Tryz.f102 res n (initS pats ls) = F (RHead.dec ls) (RHead.dec (dropT 16 ls)) := by kernel_rfl
noncomputable def md (a0 : MHead) (a1 : MHead) : Bool := eqB a0 a1
def gd (a0 : MHead) (a1 : MHead) : Prop := True
def acc (ls : List L) : RHead × RHead := ((RHead.dec ls), (RHead.dec (dropT 16 ls)))
noncomputable def R : (RHead × RHead) → Option Bool := RR (p2 gd) (u2 md)
theorem R_eq {a0} {a1} (h : gd a0 a1) : R ((MHead.r a0), (MHead.r a1)) = some (md a0 a1) := RR_eq (a := (a0, a1)) h
noncomputable def con : Con := CN pats res acc R
theorem okF (a0 : MHead) (a1 : MHead) (hg : gd a0 a1) : F (MHead.r a0) (MHead.r a1) = ret ((md a0 a1) : Bool) := by
  unfold md
  show (bif (a0.fZone != a1.fZone) then ret (false : Bool) else (bif (a0.fEpoch != a1.fEpoch) then ret (false : Bool) else (bif (a0.fKind != a1.fKind) then ret (false : Bool) else (bif (a0.fTime != a1.fTime) then ret (false : Bool) else (bif (a0.fUntil != a1.fUntil) then ret (false : Bool) else (bif (a0.fCount != a1.fCount) then ret (false : Bool) else (bif (a0.fRoot != a1.fRoot) then ret (false : Bool) else (bif (a0.fPrev != a1.fPrev) then ret (false : Bool) else (call (laws_eqKeys.R ((MKeys.r a0.fKeys), (MKeys.r a1.fKeys))) fun v1 => (bif (!v1) then ret (false : Bool) else (call (laws_eqKeys.R ((MKeys.r a0.fHeirs), (MKeys.r a1.fHeirs))) fun v2 => (bif (!v2) then ret (false : Bool) else (bif (a0.fWait != a1.fWait) then ret (false : Bool) else (call (laws_eqKeys.R ((MKeys.r a0.fJudge), (MKeys.r a1.fJudge))) fun v3 => (bif (!v3) then ret (false : Bool) else (bif (!(a0.fFrozen == a1.fFrozen)) then ret (false : Bool) else ret (true : Bool))))))))))))))))) = _
  simp only [call_eq (laws_eqKeys.R_eq (a0 := a0.fKeys) (a1 := a1.fKeys) trivial), laws_eqKeys.md]
  simp only [call_eq (laws_eqKeys.R_eq (a0 := a0.fHeirs) (a1 := a1.fHeirs) trivial), laws_eqKeys.md]
  simp only [call_eq (laws_eqKeys.R_eq (a0 := a0.fJudge) (a1 := a1.fJudge) trivial), laws_eqKeys.md]
  try simp only [bne, int_beq, bool_beq, ba_beq]
  have e : eqB a0 a1 = (eqB a0.fZone a1.fZone && (eqB a0.fEpoch a1.fEpoch && (eqB a0.fKind a1.fKind && (eqB a0.fTime a1.fTime && (eqB a0.fUntil a1.fUntil && (eqB a0.fCount a1.fCount && (eqB a0.fRoot a1.fRoot && (eqB a0.fPrev a1.fPrev && (eqB a0.fKeys a1.fKeys && (eqB a0.fHeirs a1.fHeirs && (eqB a0.fWait a1.fWait && (eqB a0.fJudge a1.fJudge && (eqB a0.fFrozen a1.fFrozen && true))))))))))))) := by
    cases a0; cases a1
    rw [Bool.eq_iff_iff]
    simp only [eqB_iff, Bool.and_eq_true, MHead.mk.injEq, and_true]
  rw [e]
  refine and_step fun _ => ?_
  refine and_step fun _ => ?_
  refine and_step fun _ => ?_
  refine and_step fun _ => ?_
  refine and_step fun _ => ?_
  refine and_step fun _ => ?_
  refine and_step fun _ => ?_
  refine and_step fun _ => ?_
  refine and_step fun _ => ?_
  refine and_step fun _ => ?_
  refine and_step fun _ => ?_
  refine and_step fun _ => ?_
  refine and_step fun _ => ?_
  rfl
theorem valid_ : Valid Tryz.prog Ev 102 con := VV (run := fun _ x => F x.1 x.2) mix tab_ok (.cons laws_eqKeys.valid_ .nil) Tryz.func102 (by kernel_rfl) run_eq (fun _ a _ _ hg => ⟨0, okF a.1 a.2 hg⟩)
end laws_eqHead
/-! laws.eqSig -/
namespace laws_eqSig
noncomputable def F (x0 : MSig) (x1 : MSig) : Ans := (bif (x0.fKey != x1.fKey) then ret (false : Bool) else (bif (x0.fTag != x1.fTag) then ret (false : Bool) else ret (true : Bool)))
def pats : List Pat := [.agg [.int .i64, .int .i64], .agg [.int .i64, .int .i64]]
def res : RP := .one (.rd (.bool))
noncomputable abbrev E : Env := ⟨assoc Tab, conG [], 15⟩
set_option maxRecDepth 100000
theorem run_eq (n : Nat) (ls : List L) : runF E (fun _ => []) Tryz.f150 res n (initS pats ls) = F (MSig.dec ls) (MSig.dec (dropT 2 ls)) := by kernel_rfl
noncomputable def md (a0 : MSig) (a1 : MSig) : Bool := eqB a0 a1
def gd (a0 : MSig) (a1 : MSig) : Prop := True
def acc (ls : List L) : MSig × MSig := ((MSig.dec ls), (MSig.dec (dropT 2 ls)))
noncomputable def R : (MSig × MSig) → Option Bool := RR (p2 gd) (u2 md)
theorem R_eq {a0} {a1} (h : gd a0 a1) : R (a0, a1) = some (md a0 a1) := RR_eq (a := (a0, a1)) h
noncomputable def con : Con := CN pats res acc R
theorem okF (a0 : MSig) (a1 : MSig) (hg : gd a0 a1) : F a0 a1 = ret ((md a0 a1) : Bool) := by
  unfold md
  show (bif (a0.fKey != a1.fKey) then ret (false : Bool) else (bif (a0.fTag != a1.fTag) then ret (false : Bool) else ret (true : Bool))) = _
  try simp only [bne, int_beq, bool_beq, ba_beq]
  have e : eqB a0 a1 = (eqB a0.fKey a1.fKey && (eqB a0.fTag a1.fTag && true)) := by
    cases a0; cases a1
    rw [Bool.eq_iff_iff]
    simp only [eqB_iff, Bool.and_eq_true, MSig.mk.injEq, and_true]
  rw [e]
  refine and_step fun _ => ?_
  refine and_step fun _ => ?_
  rfl
theorem valid_ : Valid Tryz.prog Ev 150 con := VV (run := fun _ x => F x.1 x.2) mix tab_ok .nil Tryz.func150 (by kernel_rfl) run_eq (fun _ a _ _ hg => ⟨0, okF a.1 a.2 hg⟩)
end laws_eqSig
/-! laws.eqSigS -/
namespace laws_eqSigS
inductive Pt where
  | p0 (a : List (List L)) (b : List (List L)) (c : Int)
def pid : Pt → Nat
  | .p0 .. => 4
def pvs : Pt → List V
  | .p0 a b c => [.sl none 179 a, .sl none 179 b, .int .i64 c]
def phs : Pt → List Root
  | .p0 a b c => []
noncomputable def step (J : Pt → Ans) : Pt → Ans
  | .p0 a b c => (bif (decide (c < (a.length : Int))) then (bif (decide ((0 : Int) ≤ c)) then (bif (decide (c < (a.length : Int))) then (bif (decide ((0 : Int) ≤ c)) then (bif (decide (c < (b.length : Int))) then (call (laws_eqSig.R ((MSig.at a (Int.toNat c)), (MSig.at b (Int.toNat c)))) fun v1 => (bif (!v1) then ret (false : Bool) else J (.p0 a b (IntKind.i64.wrap (c + 1))))) else none) else none) else none) else none) else ret (true : Bool))
noncomputable def start (J : Pt → Ans) (x0 : List (List L)) (x1 : List (List L)) : Ans := (bif ((x0.length : Int) != (x1.length : Int)) then ret (false : Bool) else J (.p0 x0 x1 0))
def live : Nat → Live := fun i => match i with | 4 => [(0, none), (1, none), (5, none)] | _ => []
def pats : List Pat := [.rd (.sl 179), .rd (.sl 179)]
def res : RP := .one (.rd (.bool))
noncomputable abbrev E : Env := ⟨assoc Tab, conG [(150, laws_eqSig.con)], 27⟩
set_option maxRecDepth 100000
theorem step_eq (I : Heads) (p : Pt) : enterC E live I (pid p) (bodyOf Tryz.f103) (stOf (live (pid p)) (pvs p) (phs p)) (doneK E Tryz.f103 res) = step (fun q => I (pid q) (pvs q) (phs q)) p := by
  cases p <;> kernel_rfl
theorem start_eq (I : Heads) (ls : List L) : runC E live I (bodyOf Tryz.f103) (initS pats ls) (doneK E Tryz.f103 res) = start (fun q => I (pid q) (pvs q) (phs q)) (ls.headD .hole).toSl ((dropT 1 ls).headD .hole).toSl := by kernel_rfl
theorem run_eq (n : Nat) (ls : List L) : runF E live Tryz.f103 res n (initS pats ls) = start (iter step n) (ls.headD .hole).toSl ((dropT 1 ls).headD .hole).toSl := runF_iter (id := pid) (vs := pvs) (hs := phs) (step := step) (start := fun J => start J (ls.headD .hole).toSl ((dropT 1 ls).headD .hole).toSl) step_eq (fun I => start_eq I ls) n
noncomputable def md (a0 : List MSig) (a1 : List MSig) : Bool := eqB a0 a1
def gd (a0 : List MSig) (a1 : List MSig) : Prop := True
def acc (ls : List L) : List (List L) × List (List L) := ((ls.headD .hole).toSl, ((dropT 1 ls).headD .hole).toSl)
noncomputable def R : (List (List L) × List (List L)) → Option Bool := RR (p2 gd) (u2 md)
theorem R_eq {a0} {a1} (h : gd a0 a1) : R ((a0.map MSig.row), (a1.map MSig.row)) = some (md a0 a1) := RR_eq (a := (a0, a1)) h
noncomputable def con : Con := CN pats res acc R
theorem okF (a0 : List MSig) (a1 : List MSig) (hg : gd a0 a1) (h0 : a0.length ≤ maxLen) (h1 : a1.length ≤ maxLen) : ∃ n, start (iter step n) (a0.map MSig.row) (a1.map MSig.row) = ret ((md a0 a1) : Bool) := by
  unfold start md
  simp only [List.length_map]
  refine eq_list (pt := fun i => Pt.p0 (a0.map MSig.row) (a1.map MSig.row) (i : Int)) (fun hl J i h h2 => ?_) (fun J => ?_)
  · simp only [step, List.length_map, lt_dec h, lt_dec h2, zle_dec, cond_true, toNat_nat, MSig.at_row h, MSig.at_row h2]
    rw [wrap_succ h h0]
    rw [call_eq (laws_eqSig.R_eq (a0 := a0[i]) (a1 := a1[i]) trivial), laws_eqSig.md]
    cases eqB a0[i] a1[i] <;> rfl
  · simp only [step, List.length_map, nlt_dec, cond_false]
theorem valid_ : Valid Tryz.prog Ev 103 con := VV (run := fun n x => start (iter step n) x.1 x.2) mix tab_ok (.cons laws_eqSig.valid_ .nil) Tryz.func103 (by kernel_rfl) run_eq (fun ls a hl e hg => okF a.1 a.2 hg (by have h : (ls.headD .hole).toSl.length ≤ maxLen := hl.1.len; have e : a.1.map MSig.row = (ls.headD .hole).toSl := (congrArg (fun x => x.1) e.symm); rw [← e] at h; simpa using h) (by have h : ((dropT 1 ls).headD .hole).toSl.length ≤ maxLen := hl.2.1.len; have e : a.2.map MSig.row = ((dropT 1 ls).headD .hole).toSl := (congrArg (fun x => x.2) e.symm); rw [← e] at h; simpa using h))
end laws_eqSigS
/-! laws.eqSigned -/
namespace laws_eqSigned
noncomputable def F (x0 : RSigned) (x1 : RSigned) : Ans := (call (laws_eqHead.R (x0.fHead, x1.fHead)) fun v1 => (bif (!v1) then ret (false : Bool) else (call (laws_eqSigS.R (x0.fSigs, x1.fSigs)) fun v2 => (bif (!v2) then ret (false : Bool) else ret (true : Bool)))))
def pats : List Pat := [.agg [.int .i64, .int .i64, .int .i64, .int .i64, .int .i64, .int .i64, .int .i64, .int .i64, .sl 3, .int .i64, .sl 3, .int .i64, .int .i64, .sl 3, .int .i64, .bool, .sl 179], .agg [.int .i64, .int .i64, .int .i64, .int .i64, .int .i64, .int .i64, .int .i64, .int .i64, .sl 3, .int .i64, .sl 3, .int .i64, .int .i64, .sl 3, .int .i64, .bool, .sl 179]]
def res : RP := .one (.rd (.bool))
noncomputable abbrev E : Env := ⟨assoc Tab, conG [(102, laws_eqHead.con), (103, laws_eqSigS.con)], 17⟩
set_option maxRecDepth 100000
theorem run_eq (n : Nat) (ls : List L) : runF E (fun _ => []) Tryz.f57 res n (initS pats ls) = F (RSigned.dec ls) (RSigned.dec (dropT 17 ls)) := by kernel_rfl
noncomputable def md (a0 : MSigned) (a1 : MSigned) : Bool := eqB a0 a1
def gd (a0 : MSigned) (a1 : MSigned) : Prop := True
def acc (ls : List L) : RSigned × RSigned := ((RSigned.dec ls), (RSigned.dec (dropT 17 ls)))
noncomputable def R : (RSigned × RSigned) → Option Bool := RR (p2 gd) (u2 md)
theorem R_eq {a0} {a1} (h : gd a0 a1) : R ((MSigned.r a0), (MSigned.r a1)) = some (md a0 a1) := RR_eq (a := (a0, a1)) h
noncomputable def con : Con := CN pats res acc R
theorem okF (a0 : MSigned) (a1 : MSigned) (hg : gd a0 a1) : F (MSigned.r a0) (MSigned.r a1) = ret ((md a0 a1) : Bool) := by
  unfold md
  show (call (laws_eqHead.R ((MHead.r a0.fHead), (MHead.r a1.fHead))) fun v1 => (bif (!v1) then ret (false : Bool) else (call (laws_eqSigS.R ((a0.fSigs.map MSig.row), (a1.fSigs.map MSig.row))) fun v2 => (bif (!v2) then ret (false : Bool) else ret (true : Bool))))) = _
  simp only [call_eq (laws_eqHead.R_eq (a0 := a0.fHead) (a1 := a1.fHead) trivial), laws_eqHead.md]
  simp only [call_eq (laws_eqSigS.R_eq (a0 := a0.fSigs) (a1 := a1.fSigs) trivial), laws_eqSigS.md]
  try simp only [bne, int_beq, bool_beq, ba_beq]
  have e : eqB a0 a1 = (eqB a0.fHead a1.fHead && (eqB a0.fSigs a1.fSigs && true)) := by
    cases a0; cases a1
    rw [Bool.eq_iff_iff]
    simp only [eqB_iff, Bool.and_eq_true, MSigned.mk.injEq, and_true]
  rw [e]
  refine and_step fun _ => ?_
  refine and_step fun _ => ?_
  rfl
theorem valid_ : Valid Tryz.prog Ev 57 con := VV (run := fun _ x => F x.1 x.2) mix tab_ok (.cons laws_eqHead.valid_ (.cons laws_eqSigS.valid_ .nil)) Tryz.func57 (by kernel_rfl) run_eq (fun _ a _ _ hg => ⟨0, okF a.1 a.2 hg⟩)
end laws_eqSigned
/-! laws.eqSignedS -/
namespace laws_eqSignedS
inductive Pt where
  | p0 (a : List (List L)) (b : List (List L)) (c : Int)
def pid : Pt → Nat
  | .p0 .. => 4
def pvs : Pt → List V
  | .p0 a b c => [.sl none 92 a, .sl none 92 b, .int .i64 c]
def phs : Pt → List Root
  | .p0 a b c => []
noncomputable def step (J : Pt → Ans) : Pt → Ans
  | .p0 a b c => (bif (decide (c < (a.length : Int))) then (bif (decide ((0 : Int) ≤ c)) then (bif (decide (c < (a.length : Int))) then (bif (decide ((0 : Int) ≤ c)) then (bif (decide (c < (b.length : Int))) then (call (laws_eqSigned.R ((RSigned.at a (Int.toNat c)), (RSigned.at b (Int.toNat c)))) fun v1 => (bif (!v1) then ret (false : Bool) else J (.p0 a b (IntKind.i64.wrap (c + 1))))) else none) else none) else none) else none) else ret (true : Bool))
noncomputable def start (J : Pt → Ans) (x0 : List (List L)) (x1 : List (List L)) : Ans := (bif ((x0.length : Int) != (x1.length : Int)) then ret (false : Bool) else J (.p0 x0 x1 0))
def live : Nat → Live := fun i => match i with | 4 => [(0, none), (1, none), (5, none)] | _ => []
def pats : List Pat := [.rd (.sl 92), .rd (.sl 92)]
def res : RP := .one (.rd (.bool))
noncomputable abbrev E : Env := ⟨assoc Tab, conG [(57, laws_eqSigned.con)], 27⟩
set_option maxRecDepth 100000
theorem step_eq (I : Heads) (p : Pt) : enterC E live I (pid p) (bodyOf Tryz.f19) (stOf (live (pid p)) (pvs p) (phs p)) (doneK E Tryz.f19 res) = step (fun q => I (pid q) (pvs q) (phs q)) p := by
  cases p <;> kernel_rfl
theorem start_eq (I : Heads) (ls : List L) : runC E live I (bodyOf Tryz.f19) (initS pats ls) (doneK E Tryz.f19 res) = start (fun q => I (pid q) (pvs q) (phs q)) (ls.headD .hole).toSl ((dropT 1 ls).headD .hole).toSl := by kernel_rfl
theorem run_eq (n : Nat) (ls : List L) : runF E live Tryz.f19 res n (initS pats ls) = start (iter step n) (ls.headD .hole).toSl ((dropT 1 ls).headD .hole).toSl := runF_iter (id := pid) (vs := pvs) (hs := phs) (step := step) (start := fun J => start J (ls.headD .hole).toSl ((dropT 1 ls).headD .hole).toSl) step_eq (fun I => start_eq I ls) n
noncomputable def md (a0 : List MSigned) (a1 : List MSigned) : Bool := eqB a0 a1
def gd (a0 : List MSigned) (a1 : List MSigned) : Prop := True
def acc (ls : List L) : List (List L) × List (List L) := ((ls.headD .hole).toSl, ((dropT 1 ls).headD .hole).toSl)
noncomputable def R : (List (List L) × List (List L)) → Option Bool := RR (p2 gd) (u2 md)
theorem R_eq {a0} {a1} (h : gd a0 a1) : R ((a0.map MSigned.row), (a1.map MSigned.row)) = some (md a0 a1) := RR_eq (a := (a0, a1)) h
noncomputable def con : Con := CN pats res acc R
theorem okF (a0 : List MSigned) (a1 : List MSigned) (hg : gd a0 a1) (h0 : a0.length ≤ maxLen) (h1 : a1.length ≤ maxLen) : ∃ n, start (iter step n) (a0.map MSigned.row) (a1.map MSigned.row) = ret ((md a0 a1) : Bool) := by
  unfold start md
  simp only [List.length_map]
  refine eq_list (pt := fun i => Pt.p0 (a0.map MSigned.row) (a1.map MSigned.row) (i : Int)) (fun hl J i h h2 => ?_) (fun J => ?_)
  · simp only [step, List.length_map, lt_dec h, lt_dec h2, zle_dec, cond_true, toNat_nat, MSigned.at_row h, MSigned.at_row h2]
    rw [wrap_succ h h0]
    rw [call_eq (laws_eqSigned.R_eq (a0 := a0[i]) (a1 := a1[i]) trivial), laws_eqSigned.md]
    cases eqB a0[i] a1[i] <;> rfl
  · simp only [step, List.length_map, nlt_dec, cond_false]
theorem valid_ : Valid Tryz.prog Ev 19 con := VV (run := fun n x => start (iter step n) x.1 x.2) mix tab_ok (.cons laws_eqSigned.valid_ .nil) Tryz.func19 (by kernel_rfl) run_eq (fun ls a hl e hg => okF a.1 a.2 hg (by have h : (ls.headD .hole).toSl.length ≤ maxLen := hl.1.len; have e : a.1.map MSigned.row = (ls.headD .hole).toSl := (congrArg (fun x => x.1) e.symm); rw [← e] at h; simpa using h) (by have h : ((dropT 1 ls).headD .hole).toSl.length ≤ maxLen := hl.2.1.len; have e : a.2.map MSigned.row = ((dropT 1 ls).headD .hole).toSl := (congrArg (fun x => x.2) e.symm); rw [← e] at h; simpa using h))
end laws_eqSignedS
/-! laws.eqStringS -/
namespace laws_eqStringS
inductive Pt where
  | p0 (a : List (List L)) (b : List (List L)) (c : Int)
def pid : Pt → Nat
  | .p0 .. => 4
def pvs : Pt → List V
  | .p0 a b c => [.sl none 9 a, .sl none 9 b, .int .i64 c]
def phs : Pt → List Root
  | .p0 a b c => []
noncomputable def step (J : Pt → Ans) : Pt → Ans
  | .p0 a b c => (bif (decide (c < (a.length : Int))) then (bif (decide ((0 : Int) ≤ c)) then (bif (decide (c < (a.length : Int))) then (bif (decide ((0 : Int) ≤ c)) then (bif (decide (c < (b.length : Int))) then (bif (!((sAt a (Int.toNat c)) == (sAt b (Int.toNat c)))) then ret (false : Bool) else J (.p0 a b (IntKind.i64.wrap (c + 1)))) else none) else none) else none) else none) else ret (true : Bool))
noncomputable def start (J : Pt → Ans) (x0 : List (List L)) (x1 : List (List L)) : Ans := (bif ((x0.length : Int) != (x1.length : Int)) then ret (false : Bool) else J (.p0 x0 x1 0))
def live : Nat → Live := fun i => match i with | 4 => [(0, none), (1, none), (5, none)] | _ => []
def pats : List Pat := [.rd (.sl 9), .rd (.sl 9)]
def res : RP := .one (.rd (.bool))
noncomputable abbrev E : Env := ⟨assoc Tab, conG [], 26⟩
set_option maxRecDepth 100000
theorem step_eq (I : Heads) (p : Pt) : enterC E live I (pid p) (bodyOf Tryz.f73) (stOf (live (pid p)) (pvs p) (phs p)) (doneK E Tryz.f73 res) = step (fun q => I (pid q) (pvs q) (phs q)) p := by
  cases p <;> kernel_rfl
theorem start_eq (I : Heads) (ls : List L) : runC E live I (bodyOf Tryz.f73) (initS pats ls) (doneK E Tryz.f73 res) = start (fun q => I (pid q) (pvs q) (phs q)) (ls.headD .hole).toSl ((dropT 1 ls).headD .hole).toSl := by kernel_rfl
theorem run_eq (n : Nat) (ls : List L) : runF E live Tryz.f73 res n (initS pats ls) = start (iter step n) (ls.headD .hole).toSl ((dropT 1 ls).headD .hole).toSl := runF_iter (id := pid) (vs := pvs) (hs := phs) (step := step) (start := fun J => start J (ls.headD .hole).toSl ((dropT 1 ls).headD .hole).toSl) step_eq (fun I => start_eq I ls) n
noncomputable def md (a0 : List ByteArray) (a1 : List ByteArray) : Bool := eqB a0 a1
def gd (a0 : List ByteArray) (a1 : List ByteArray) : Prop := True
def acc (ls : List L) : List (List L) × List (List L) := ((ls.headD .hole).toSl, ((dropT 1 ls).headD .hole).toSl)
noncomputable def R : (List (List L) × List (List L)) → Option Bool := RR (p2 gd) (u2 md)
theorem R_eq {a0} {a1} (h : gd a0 a1) : R ((a0.map sRow), (a1.map sRow)) = some (md a0 a1) := RR_eq (a := (a0, a1)) h
noncomputable def con : Con := CN pats res acc R
theorem okF (a0 : List ByteArray) (a1 : List ByteArray) (hg : gd a0 a1) (h0 : a0.length ≤ maxLen) (h1 : a1.length ≤ maxLen) : ∃ n, start (iter step n) (a0.map sRow) (a1.map sRow) = ret ((md a0 a1) : Bool) := by
  unfold start md
  simp only [List.length_map]
  refine eq_list (pt := fun i => Pt.p0 (a0.map sRow) (a1.map sRow) (i : Int)) (fun hl J i h h2 => ?_) (fun J => ?_)
  · simp only [step, List.length_map, lt_dec h, lt_dec h2, zle_dec, cond_true, toNat_nat, sAt_row h, sAt_row h2]
    rw [wrap_succ h h0]
    simp only [bne, int_beq, bool_beq, ba_beq]
    cases eqB a0[i] a1[i] <;> rfl
  · simp only [step, List.length_map, nlt_dec, cond_false]
theorem valid_ : Valid Tryz.prog Ev 73 con := VV (run := fun n x => start (iter step n) x.1 x.2) mix tab_ok .nil Tryz.func73 (by kernel_rfl) run_eq (fun ls a hl e hg => okF a.1 a.2 hg (by have h : (ls.headD .hole).toSl.length ≤ maxLen := hl.1.len; have e : a.1.map sRow = (ls.headD .hole).toSl := (congrArg (fun x => x.1) e.symm); rw [← e] at h; simpa using h) (by have h : ((dropT 1 ls).headD .hole).toSl.length ≤ maxLen := hl.2.1.len; have e : a.2.map sRow = ((dropT 1 ls).headD .hole).toSl := (congrArg (fun x => x.2) e.symm); rw [← e] at h; simpa using h))
end laws_eqStringS
/-! laws.eqEntry -/
namespace laws_eqEntry
noncomputable def F (x0 : REntry) (x1 : REntry) : Ans := (bif (!(x0.fLabel == x1.fLabel)) then ret (false : Bool) else (bif (x0.fKind != x1.fKind) then ret (false : Bool) else (bif (x0.fValue != x1.fValue) then ret (false : Bool) else (call (laws_eqStringS.R (x0.fPath, x1.fPath)) fun v1 => (bif (!v1) then ret (false : Bool) else ret (true : Bool))))))
def pats : List Pat := [.agg [.str, .int .i64, .int .i64, .sl 9], .agg [.str, .int .i64, .int .i64, .sl 9]]
def res : RP := .one (.rd (.bool))
noncomputable abbrev E : Env := ⟨assoc Tab, conG [(73, laws_eqStringS.con)], 26⟩
set_option maxRecDepth 100000
theorem run_eq (n : Nat) (ls : List L) : runF E (fun _ => []) Tryz.f118 res n (initS pats ls) = F (REntry.dec ls) (REntry.dec (dropT 4 ls)) := by kernel_rfl
noncomputable def md (a0 : MEntry) (a1 : MEntry) : Bool := eqB a0 a1
def gd (a0 : MEntry) (a1 : MEntry) : Prop := True
def acc (ls : List L) : REntry × REntry := ((REntry.dec ls), (REntry.dec (dropT 4 ls)))
noncomputable def R : (REntry × REntry) → Option Bool := RR (p2 gd) (u2 md)
theorem R_eq {a0} {a1} (h : gd a0 a1) : R ((MEntry.r a0), (MEntry.r a1)) = some (md a0 a1) := RR_eq (a := (a0, a1)) h
noncomputable def con : Con := CN pats res acc R
theorem okF (a0 : MEntry) (a1 : MEntry) (hg : gd a0 a1) : F (MEntry.r a0) (MEntry.r a1) = ret ((md a0 a1) : Bool) := by
  unfold md
  show (bif (!(a0.fLabel == a1.fLabel)) then ret (false : Bool) else (bif (a0.fKind != a1.fKind) then ret (false : Bool) else (bif (a0.fValue != a1.fValue) then ret (false : Bool) else (call (laws_eqStringS.R ((a0.fPath.map sRow), (a1.fPath.map sRow))) fun v1 => (bif (!v1) then ret (false : Bool) else ret (true : Bool)))))) = _
  simp only [call_eq (laws_eqStringS.R_eq (a0 := a0.fPath) (a1 := a1.fPath) trivial), laws_eqStringS.md]
  try simp only [bne, int_beq, bool_beq, ba_beq]
  have e : eqB a0 a1 = (eqB a0.fLabel a1.fLabel && (eqB a0.fKind a1.fKind && (eqB a0.fValue a1.fValue && (eqB a0.fPath a1.fPath && true)))) := by
    cases a0; cases a1
    rw [Bool.eq_iff_iff]
    simp only [eqB_iff, Bool.and_eq_true, MEntry.mk.injEq, and_true]
  rw [e]
  refine and_step fun _ => ?_
  refine and_step fun _ => ?_
  refine and_step fun _ => ?_
  refine and_step fun _ => ?_
  rfl
theorem valid_ : Valid Tryz.prog Ev 118 con := VV (run := fun _ x => F x.1 x.2) mix tab_ok (.cons laws_eqStringS.valid_ .nil) Tryz.func118 (by kernel_rfl) run_eq (fun _ a _ _ hg => ⟨0, okF a.1 a.2 hg⟩)
end laws_eqEntry
/-! laws.eqProof -/
namespace laws_eqProof
noncomputable def F (x0 : RProof) (x1 : RProof) : Ans := (bif (x0.fAt != x1.fAt) then ret (false : Bool) else (call (laws_eqIntS.R (x0.fPath, x1.fPath)) fun v1 => (bif (!v1) then ret (false : Bool) else ret (true : Bool))))
def pats : List Pat := [.agg [.int .i64, .sl 3], .agg [.int .i64, .sl 3]]
def res : RP := .one (.rd (.bool))
noncomputable abbrev E : Env := ⟨assoc Tab, conG [(119, laws_eqIntS.con)], 16⟩
set_option maxRecDepth 100000
theorem run_eq (n : Nat) (ls : List L) : runF E (fun _ => []) Tryz.f214 res n (initS pats ls) = F (RProof.dec ls) (RProof.dec (dropT 2 ls)) := by kernel_rfl
noncomputable def md (a0 : MProof) (a1 : MProof) : Bool := eqB a0 a1
def gd (a0 : MProof) (a1 : MProof) : Prop := True
def acc (ls : List L) : RProof × RProof := ((RProof.dec ls), (RProof.dec (dropT 2 ls)))
noncomputable def R : (RProof × RProof) → Option Bool := RR (p2 gd) (u2 md)
theorem R_eq {a0} {a1} (h : gd a0 a1) : R ((MProof.r a0), (MProof.r a1)) = some (md a0 a1) := RR_eq (a := (a0, a1)) h
noncomputable def con : Con := CN pats res acc R
theorem okF (a0 : MProof) (a1 : MProof) (hg : gd a0 a1) : F (MProof.r a0) (MProof.r a1) = ret ((md a0 a1) : Bool) := by
  unfold md
  show (bif (a0.fAt != a1.fAt) then ret (false : Bool) else (call (laws_eqIntS.R ((a0.fPath.map iRow), (a1.fPath.map iRow))) fun v1 => (bif (!v1) then ret (false : Bool) else ret (true : Bool)))) = _
  simp only [call_eq (laws_eqIntS.R_eq (a0 := a0.fPath) (a1 := a1.fPath) trivial), laws_eqIntS.md]
  try simp only [bne, int_beq, bool_beq, ba_beq]
  have e : eqB a0 a1 = (eqB a0.fAt a1.fAt && (eqB a0.fPath a1.fPath && true)) := by
    cases a0; cases a1
    rw [Bool.eq_iff_iff]
    simp only [eqB_iff, Bool.and_eq_true, MProof.mk.injEq, and_true]
  rw [e]
  refine and_step fun _ => ?_
  refine and_step fun _ => ?_
  rfl
theorem valid_ : Valid Tryz.prog Ev 214 con := VV (run := fun _ x => F x.1 x.2) mix tab_ok (.cons laws_eqIntS.valid_ .nil) Tryz.func214 (by kernel_rfl) run_eq (fun _ a _ _ hg => ⟨0, okF a.1 a.2 hg⟩)
end laws_eqProof
/-! laws.eqGap -/
namespace laws_eqGap
noncomputable def F (x0 : RGap) (x1 : RGap) : Ans := (bif (x0.fAt != x1.fAt) then ret (false : Bool) else (call (laws_eqEntry.R (x0.fBefore, x1.fBefore)) fun v1 => (bif (!v1) then ret (false : Bool) else (call (laws_eqEntry.R (x0.fAfter, x1.fAfter)) fun v2 => (bif (!v2) then ret (false : Bool) else (call (laws_eqProof.R (x0.fLeft, x1.fLeft)) fun v3 => (bif (!v3) then ret (false : Bool) else (call (laws_eqProof.R (x0.fRight, x1.fRight)) fun v4 => (bif (!v4) then ret (false : Bool) else ret (true : Bool))))))))))
def pats : List Pat := [.agg [.int .i64, .str, .int .i64, .int .i64, .sl 9, .str, .int .i64, .int .i64, .sl 9, .int .i64, .sl 3, .int .i64, .sl 3], .agg [.int .i64, .str, .int .i64, .int .i64, .sl 9, .str, .int .i64, .int .i64, .sl 9, .int .i64, .sl 3, .int .i64, .sl 3]]
def res : RP := .one (.rd (.bool))
noncomputable abbrev E : Env := ⟨assoc Tab, conG [(118, laws_eqEntry.con), (214, laws_eqProof.con)], 34⟩
set_option maxRecDepth 100000
theorem run_eq (n : Nat) (ls : List L) : runF E (fun _ => []) Tryz.f215 res n (initS pats ls) = F (RGap.dec ls) (RGap.dec (dropT 13 ls)) := by kernel_rfl
noncomputable def md (a0 : MGap) (a1 : MGap) : Bool := eqB a0 a1
def gd (a0 : MGap) (a1 : MGap) : Prop := True
def acc (ls : List L) : RGap × RGap := ((RGap.dec ls), (RGap.dec (dropT 13 ls)))
noncomputable def R : (RGap × RGap) → Option Bool := RR (p2 gd) (u2 md)
theorem R_eq {a0} {a1} (h : gd a0 a1) : R ((MGap.r a0), (MGap.r a1)) = some (md a0 a1) := RR_eq (a := (a0, a1)) h
noncomputable def con : Con := CN pats res acc R
theorem okF (a0 : MGap) (a1 : MGap) (hg : gd a0 a1) : F (MGap.r a0) (MGap.r a1) = ret ((md a0 a1) : Bool) := by
  unfold md
  show (bif (a0.fAt != a1.fAt) then ret (false : Bool) else (call (laws_eqEntry.R ((MEntry.r a0.fBefore), (MEntry.r a1.fBefore))) fun v1 => (bif (!v1) then ret (false : Bool) else (call (laws_eqEntry.R ((MEntry.r a0.fAfter), (MEntry.r a1.fAfter))) fun v2 => (bif (!v2) then ret (false : Bool) else (call (laws_eqProof.R ((MProof.r a0.fLeft), (MProof.r a1.fLeft))) fun v3 => (bif (!v3) then ret (false : Bool) else (call (laws_eqProof.R ((MProof.r a0.fRight), (MProof.r a1.fRight))) fun v4 => (bif (!v4) then ret (false : Bool) else ret (true : Bool)))))))))) = _
  simp only [call_eq (laws_eqEntry.R_eq (a0 := a0.fBefore) (a1 := a1.fBefore) trivial), laws_eqEntry.md]
  simp only [call_eq (laws_eqEntry.R_eq (a0 := a0.fAfter) (a1 := a1.fAfter) trivial), laws_eqEntry.md]
  simp only [call_eq (laws_eqProof.R_eq (a0 := a0.fLeft) (a1 := a1.fLeft) trivial), laws_eqProof.md]
  simp only [call_eq (laws_eqProof.R_eq (a0 := a0.fRight) (a1 := a1.fRight) trivial), laws_eqProof.md]
  try simp only [bne, int_beq, bool_beq, ba_beq]
  have e : eqB a0 a1 = (eqB a0.fAt a1.fAt && (eqB a0.fBefore a1.fBefore && (eqB a0.fAfter a1.fAfter && (eqB a0.fLeft a1.fLeft && (eqB a0.fRight a1.fRight && true))))) := by
    cases a0; cases a1
    rw [Bool.eq_iff_iff]
    simp only [eqB_iff, Bool.and_eq_true, MGap.mk.injEq, and_true]
  rw [e]
  refine and_step fun _ => ?_
  refine and_step fun _ => ?_
  refine and_step fun _ => ?_
  refine and_step fun _ => ?_
  refine and_step fun _ => ?_
  rfl
theorem valid_ : Valid Tryz.prog Ev 215 con := VV (run := fun _ x => F x.1 x.2) mix tab_ok (.cons laws_eqEntry.valid_ (.cons laws_eqProof.valid_ .nil)) Tryz.func215 (by kernel_rfl) run_eq (fun _ a _ _ hg => ⟨0, okF a.1 a.2 hg⟩)
end laws_eqGap
/-! laws.eqAnswer -/
namespace laws_eqAnswer
noncomputable def F (x0 : RAnswer) (x1 : RAnswer) : Ans := (call (laws_eqSignedS.R (x0.fChain, x1.fChain)) fun v1 => (bif (!v1) then ret (false : Bool) else (bif (!(x0.fFound == x1.fFound)) then ret (false : Bool) else (call (laws_eqEntry.R (x0.fEntry, x1.fEntry)) fun v2 => (bif (!v2) then ret (false : Bool) else (call (laws_eqProof.R (x0.fProof, x1.fProof)) fun v3 => (bif (!v3) then ret (false : Bool) else (call (laws_eqGap.R (x0.fGap, x1.fGap)) fun v4 => (bif (!v4) then ret (false : Bool) else ret (true : Bool))))))))))
def pats : List Pat := [.agg [.sl 92, .bool, .str, .int .i64, .int .i64, .sl 9, .int .i64, .sl 3, .int .i64, .str, .int .i64, .int .i64, .sl 9, .str, .int .i64, .int .i64, .sl 9, .int .i64, .sl 3, .int .i64, .sl 3], .agg [.sl 92, .bool, .str, .int .i64, .int .i64, .sl 9, .int .i64, .sl 3, .int .i64, .str, .int .i64, .int .i64, .sl 9, .str, .int .i64, .int .i64, .sl 9, .int .i64, .sl 3, .int .i64, .sl 3]]
def res : RP := .one (.rd (.bool))
noncomputable abbrev E : Env := ⟨assoc Tab, conG [(19, laws_eqSignedS.con), (118, laws_eqEntry.con), (214, laws_eqProof.con), (215, laws_eqGap.con)], 34⟩
set_option maxRecDepth 100000
theorem run_eq (n : Nat) (ls : List L) : runF E (fun _ => []) Tryz.f167 res n (initS pats ls) = F (RAnswer.dec ls) (RAnswer.dec (dropT 21 ls)) := by kernel_rfl
noncomputable def md (a0 : MAnswer) (a1 : MAnswer) : Bool := eqB a0 a1
def gd (a0 : MAnswer) (a1 : MAnswer) : Prop := True
def acc (ls : List L) : RAnswer × RAnswer := ((RAnswer.dec ls), (RAnswer.dec (dropT 21 ls)))
noncomputable def R : (RAnswer × RAnswer) → Option Bool := RR (p2 gd) (u2 md)
theorem R_eq {a0} {a1} (h : gd a0 a1) : R ((MAnswer.r a0), (MAnswer.r a1)) = some (md a0 a1) := RR_eq (a := (a0, a1)) h
noncomputable def con : Con := CN pats res acc R
theorem okF (a0 : MAnswer) (a1 : MAnswer) (hg : gd a0 a1) : F (MAnswer.r a0) (MAnswer.r a1) = ret ((md a0 a1) : Bool) := by
  unfold md
  show (call (laws_eqSignedS.R ((a0.fChain.map MSigned.row), (a1.fChain.map MSigned.row))) fun v1 => (bif (!v1) then ret (false : Bool) else (bif (!(a0.fFound == a1.fFound)) then ret (false : Bool) else (call (laws_eqEntry.R ((MEntry.r a0.fEntry), (MEntry.r a1.fEntry))) fun v2 => (bif (!v2) then ret (false : Bool) else (call (laws_eqProof.R ((MProof.r a0.fProof), (MProof.r a1.fProof))) fun v3 => (bif (!v3) then ret (false : Bool) else (call (laws_eqGap.R ((MGap.r a0.fGap), (MGap.r a1.fGap))) fun v4 => (bif (!v4) then ret (false : Bool) else ret (true : Bool)))))))))) = _
  simp only [call_eq (laws_eqSignedS.R_eq (a0 := a0.fChain) (a1 := a1.fChain) trivial), laws_eqSignedS.md]
  simp only [call_eq (laws_eqEntry.R_eq (a0 := a0.fEntry) (a1 := a1.fEntry) trivial), laws_eqEntry.md]
  simp only [call_eq (laws_eqProof.R_eq (a0 := a0.fProof) (a1 := a1.fProof) trivial), laws_eqProof.md]
  simp only [call_eq (laws_eqGap.R_eq (a0 := a0.fGap) (a1 := a1.fGap) trivial), laws_eqGap.md]
  try simp only [bne, int_beq, bool_beq, ba_beq]
  have e : eqB a0 a1 = (eqB a0.fChain a1.fChain && (eqB a0.fFound a1.fFound && (eqB a0.fEntry a1.fEntry && (eqB a0.fProof a1.fProof && (eqB a0.fGap a1.fGap && true))))) := by
    cases a0; cases a1
    rw [Bool.eq_iff_iff]
    simp only [eqB_iff, Bool.and_eq_true, MAnswer.mk.injEq, and_true]
  rw [e]
  refine and_step fun _ => ?_
  refine and_step fun _ => ?_
  refine and_step fun _ => ?_
  refine and_step fun _ => ?_
  refine and_step fun _ => ?_
  rfl
theorem valid_ : Valid Tryz.prog Ev 167 con := VV (run := fun _ x => F x.1 x.2) mix tab_ok (.cons laws_eqSignedS.valid_ (.cons laws_eqEntry.valid_ (.cons laws_eqProof.valid_ (.cons laws_eqGap.valid_ .nil)))) Tryz.func167 (by kernel_rfl) run_eq (fun _ a _ _ hg => ⟨0, okF a.1 a.2 hg⟩)
end laws_eqAnswer
/-! laws.eqStored -/
namespace laws_eqStored
noncomputable def F (x0 : RStored) (x1 : RStored) : Ans := (bif (x0.fZone != x1.fZone) then ret (false : Bool) else (bif (!(x0.fLabel == x1.fLabel)) then ret (false : Bool) else (call (laws_eqAnswer.R (x0.fAnswer, x1.fAnswer)) fun v1 => (bif (!v1) then ret (false : Bool) else ret (true : Bool)))))
def pats : List Pat := [.agg [.int .i64, .str, .sl 92, .bool, .str, .int .i64, .int .i64, .sl 9, .int .i64, .sl 3, .int .i64, .str, .int .i64, .int .i64, .sl 9, .str, .int .i64, .int .i64, .sl 9, .int .i64, .sl 3, .int .i64, .sl 3], .agg [.int .i64, .str, .sl 92, .bool, .str, .int .i64, .int .i64, .sl 9, .int .i64, .sl 3, .int .i64, .str, .int .i64, .int .i64, .sl 9, .str, .int .i64, .int .i64, .sl 9, .int .i64, .sl 3, .int .i64, .sl 3]]
def res : RP := .one (.rd (.bool))
noncomputable abbrev E : Env := ⟨assoc Tab, conG [(167, laws_eqAnswer.con)], 21⟩
set_option maxRecDepth 100000
theorem run_eq (n : Nat) (ls : List L) : runF E (fun _ => []) Tryz.f125 res n (initS pats ls) = F (RStored.dec ls) (RStored.dec (dropT 23 ls)) := by kernel_rfl
noncomputable def md (a0 : MStored) (a1 : MStored) : Bool := eqB a0 a1
def gd (a0 : MStored) (a1 : MStored) : Prop := True
def acc (ls : List L) : RStored × RStored := ((RStored.dec ls), (RStored.dec (dropT 23 ls)))
noncomputable def R : (RStored × RStored) → Option Bool := RR (p2 gd) (u2 md)
theorem R_eq {a0} {a1} (h : gd a0 a1) : R ((MStored.r a0), (MStored.r a1)) = some (md a0 a1) := RR_eq (a := (a0, a1)) h
noncomputable def con : Con := CN pats res acc R
theorem okF (a0 : MStored) (a1 : MStored) (hg : gd a0 a1) : F (MStored.r a0) (MStored.r a1) = ret ((md a0 a1) : Bool) := by
  unfold md
  show (bif (a0.fZone != a1.fZone) then ret (false : Bool) else (bif (!(a0.fLabel == a1.fLabel)) then ret (false : Bool) else (call (laws_eqAnswer.R ((MAnswer.r a0.fAnswer), (MAnswer.r a1.fAnswer))) fun v1 => (bif (!v1) then ret (false : Bool) else ret (true : Bool))))) = _
  simp only [call_eq (laws_eqAnswer.R_eq (a0 := a0.fAnswer) (a1 := a1.fAnswer) trivial), laws_eqAnswer.md]
  try simp only [bne, int_beq, bool_beq, ba_beq]
  have e : eqB a0 a1 = (eqB a0.fZone a1.fZone && (eqB a0.fLabel a1.fLabel && (eqB a0.fAnswer a1.fAnswer && true))) := by
    cases a0; cases a1
    rw [Bool.eq_iff_iff]
    simp only [eqB_iff, Bool.and_eq_true, MStored.mk.injEq, and_true]
  rw [e]
  refine and_step fun _ => ?_
  refine and_step fun _ => ?_
  refine and_step fun _ => ?_
  rfl
theorem valid_ : Valid Tryz.prog Ev 125 con := VV (run := fun _ x => F x.1 x.2) mix tab_ok (.cons laws_eqAnswer.valid_ .nil) Tryz.func125 (by kernel_rfl) run_eq (fun _ a _ _ hg => ⟨0, okF a.1 a.2 hg⟩)
end laws_eqStored
/-! laws.eqStoredS -/
namespace laws_eqStoredS
inductive Pt where
  | p0 (a : List (List L)) (b : List (List L)) (c : Int)
def pid : Pt → Nat
  | .p0 .. => 4
def pvs : Pt → List V
  | .p0 a b c => [.sl none 124 a, .sl none 124 b, .int .i64 c]
def phs : Pt → List Root
  | .p0 a b c => []
noncomputable def step (J : Pt → Ans) : Pt → Ans
  | .p0 a b c => (bif (decide (c < (a.length : Int))) then (bif (decide ((0 : Int) ≤ c)) then (bif (decide (c < (a.length : Int))) then (bif (decide ((0 : Int) ≤ c)) then (bif (decide (c < (b.length : Int))) then (call (laws_eqStored.R ((RStored.at a (Int.toNat c)), (RStored.at b (Int.toNat c)))) fun v1 => (bif (!v1) then ret (false : Bool) else J (.p0 a b (IntKind.i64.wrap (c + 1))))) else none) else none) else none) else none) else ret (true : Bool))
noncomputable def start (J : Pt → Ans) (x0 : List (List L)) (x1 : List (List L)) : Ans := (bif ((x0.length : Int) != (x1.length : Int)) then ret (false : Bool) else J (.p0 x0 x1 0))
def live : Nat → Live := fun i => match i with | 4 => [(0, none), (1, none), (5, none)] | _ => []
def pats : List Pat := [.rd (.sl 124), .rd (.sl 124)]
def res : RP := .one (.rd (.bool))
noncomputable abbrev E : Env := ⟨assoc Tab, conG [(125, laws_eqStored.con)], 27⟩
set_option maxRecDepth 100000
theorem step_eq (I : Heads) (p : Pt) : enterC E live I (pid p) (bodyOf Tryz.f70) (stOf (live (pid p)) (pvs p) (phs p)) (doneK E Tryz.f70 res) = step (fun q => I (pid q) (pvs q) (phs q)) p := by
  cases p <;> kernel_rfl
theorem start_eq (I : Heads) (ls : List L) : runC E live I (bodyOf Tryz.f70) (initS pats ls) (doneK E Tryz.f70 res) = start (fun q => I (pid q) (pvs q) (phs q)) (ls.headD .hole).toSl ((dropT 1 ls).headD .hole).toSl := by kernel_rfl
theorem run_eq (n : Nat) (ls : List L) : runF E live Tryz.f70 res n (initS pats ls) = start (iter step n) (ls.headD .hole).toSl ((dropT 1 ls).headD .hole).toSl := runF_iter (id := pid) (vs := pvs) (hs := phs) (step := step) (start := fun J => start J (ls.headD .hole).toSl ((dropT 1 ls).headD .hole).toSl) step_eq (fun I => start_eq I ls) n
noncomputable def md (a0 : List MStored) (a1 : List MStored) : Bool := eqB a0 a1
def gd (a0 : List MStored) (a1 : List MStored) : Prop := True
def acc (ls : List L) : List (List L) × List (List L) := ((ls.headD .hole).toSl, ((dropT 1 ls).headD .hole).toSl)
noncomputable def R : (List (List L) × List (List L)) → Option Bool := RR (p2 gd) (u2 md)
theorem R_eq {a0} {a1} (h : gd a0 a1) : R ((a0.map MStored.row), (a1.map MStored.row)) = some (md a0 a1) := RR_eq (a := (a0, a1)) h
noncomputable def con : Con := CN pats res acc R
theorem okF (a0 : List MStored) (a1 : List MStored) (hg : gd a0 a1) (h0 : a0.length ≤ maxLen) (h1 : a1.length ≤ maxLen) : ∃ n, start (iter step n) (a0.map MStored.row) (a1.map MStored.row) = ret ((md a0 a1) : Bool) := by
  unfold start md
  simp only [List.length_map]
  refine eq_list (pt := fun i => Pt.p0 (a0.map MStored.row) (a1.map MStored.row) (i : Int)) (fun hl J i h h2 => ?_) (fun J => ?_)
  · simp only [step, List.length_map, lt_dec h, lt_dec h2, zle_dec, cond_true, toNat_nat, MStored.at_row h, MStored.at_row h2]
    rw [wrap_succ h h0]
    rw [call_eq (laws_eqStored.R_eq (a0 := a0[i]) (a1 := a1[i]) trivial), laws_eqStored.md]
    cases eqB a0[i] a1[i] <;> rfl
  · simp only [step, List.length_map, nlt_dec, cond_false]
theorem valid_ : Valid Tryz.prog Ev 70 con := VV (run := fun n x => start (iter step n) x.1 x.2) mix tab_ok (.cons laws_eqStored.valid_ .nil) Tryz.func70 (by kernel_rfl) run_eq (fun ls a hl e hg => okF a.1 a.2 hg (by have h : (ls.headD .hole).toSl.length ≤ maxLen := hl.1.len; have e : a.1.map MStored.row = (ls.headD .hole).toSl := (congrArg (fun x => x.1) e.symm); rw [← e] at h; simpa using h) (by have h : ((dropT 1 ls).headD .hole).toSl.length ≤ maxLen := hl.2.1.len; have e : a.2.map MStored.row = ((dropT 1 ls).headD .hole).toSl := (congrArg (fun x => x.2) e.symm); rw [← e] at h; simpa using h))
end laws_eqStoredS
/-! laws.eqCache -/
namespace laws_eqCache
noncomputable def F (x0 : RCache) (x1 : RCache) : Ans := (call (laws_eqStoredS.R (x0.fList, x1.fList)) fun v1 => (bif (!v1) then ret (false : Bool) else ret (true : Bool)))
def pats : List Pat := [.agg [.sl 124], .agg [.sl 124]]
def res : RP := .one (.rd (.bool))
noncomputable abbrev E : Env := ⟨assoc Tab, conG [(70, laws_eqStoredS.con)], 11⟩
set_option maxRecDepth 100000
theorem run_eq (n : Nat) (ls : List L) : runF E (fun _ => []) Tryz.f29 res n (initS pats ls) = F (RCache.dec ls) (RCache.dec (dropT 1 ls)) := by kernel_rfl
noncomputable def md (a0 : MCache) (a1 : MCache) : Bool := eqB a0 a1
def gd (a0 : MCache) (a1 : MCache) : Prop := True
def acc (ls : List L) : RCache × RCache := ((RCache.dec ls), (RCache.dec (dropT 1 ls)))
noncomputable def R : (RCache × RCache) → Option Bool := RR (p2 gd) (u2 md)
theorem R_eq {a0} {a1} (h : gd a0 a1) : R ((MCache.r a0), (MCache.r a1)) = some (md a0 a1) := RR_eq (a := (a0, a1)) h
noncomputable def con : Con := CN pats res acc R
theorem okF (a0 : MCache) (a1 : MCache) (hg : gd a0 a1) : F (MCache.r a0) (MCache.r a1) = ret ((md a0 a1) : Bool) := by
  unfold md
  show (call (laws_eqStoredS.R ((a0.fList.map MStored.row), (a1.fList.map MStored.row))) fun v1 => (bif (!v1) then ret (false : Bool) else ret (true : Bool))) = _
  simp only [call_eq (laws_eqStoredS.R_eq (a0 := a0.fList) (a1 := a1.fList) trivial), laws_eqStoredS.md]
  try simp only [bne, int_beq, bool_beq, ba_beq]
  have e : eqB a0 a1 = (eqB a0.fList a1.fList && true) := by
    cases a0; cases a1
    rw [Bool.eq_iff_iff]
    simp only [eqB_iff, Bool.and_eq_true, MCache.mk.injEq, and_true]
  rw [e]
  refine and_step fun _ => ?_
  rfl
theorem valid_ : Valid Tryz.prog Ev 29 con := VV (run := fun _ x => F x.1 x.2) mix tab_ok (.cons laws_eqStoredS.valid_ .nil) Tryz.func29 (by kernel_rfl) run_eq (fun _ a _ _ hg => ⟨0, okF a.1 a.2 hg⟩)
end laws_eqCache
/-! laws.FnExactAgeOf -/
namespace laws_FnExactAgeOf
noncomputable def F (x0 : RCache) (x1 : Int) (x2 : ByteArray) (x3 : Int) : Ans := (bif (decide ((x2.size : Int) > 1048576)) then ret (true : Bool) else (call (laws_szCache.R (x0, 1048576)) fun v1 => (bif (decide (v1 < 0)) then ret (true : Bool) else (call (laws_toCache.R x0) fun v2 => (call (spec_AgeOf.R (v2, x1, x2, x3)) fun v3 => (call (laws_toCache.R x0) fun v4 => (call (impl_AgeOf.R (v4, x1, x2, x3)) fun v5 => (bif (v5 != v3) then ret (false : Bool) else (call (laws_toCache.R x0) fun v6 => (call (laws_eqCache.R (v4, v6)) fun v7 => (bif (!v7) then ret (false : Bool) else ret (true : Bool))))))))))))
def pats : List Pat := [.agg [.sl 168], .rd (.int .i64), .rd (.str), .rd (.int .i64)]
def res : RP := .one (.rd (.bool))
noncomputable abbrev E : Env := ⟨assoc Tab, conG [(25, laws_szCache.con), (27, laws_toCache.con), (35, spec_AgeOf.con), (36, impl_AgeOf.con), (29, laws_eqCache.con)], 42⟩
set_option maxRecDepth 100000
theorem run_eq (n : Nat) (ls : List L) : runF E (fun _ => []) Tryz.f8 res n (initS pats ls) = F (RCache.dec ls) ((dropT 1 ls).headD .hole).toInt ((dropT 2 ls).headD .hole).toStr ((dropT 3 ls).headD .hole).toInt := by kernel_rfl
noncomputable def md (a0 : MCache) (a1 : Int) (a2 : ByteArray) (a3 : Int) : Bool := true
def gd (a0 : MCache) (a1 : Int) (a2 : ByteArray) (a3 : Int) : Prop := (MCache.Sm maxLen a0) ∧ (a2.size ≤ maxLen)
def acc (ls : List L) : RCache × Int × ByteArray × Int := ((RCache.dec ls), ((dropT 1 ls).headD .hole).toInt, ((dropT 2 ls).headD .hole).toStr, ((dropT 3 ls).headD .hole).toInt)
noncomputable def R : (RCache × Int × ByteArray × Int) → Option Bool := RR (p4 gd) (u4 md)
theorem R_eq {a0} {a1} {a2} {a3} (h : gd a0 a1 a2 a3) : R ((MCache.r a0), a1, a2, a3) = some (md a0 a1 a2 a3) := RR_eq (a := (a0, a1, a2, a3)) h
noncomputable def con : Con := CN pats res acc R
theorem okF (a0 : MCache) (a1 : Int) (a2 : ByteArray) (a3 : Int) (hg : gd a0 a1 a2 a3) : F (MCache.r a0) a1 a2 a3 = ret ((md a0 a1 a2 a3) : Bool) := by
  unfold md
  show (bif (decide ((a2.size : Int) > 1048576)) then ret (true : Bool) else (call (laws_szCache.R ((MCache.r a0), 1048576)) fun v1 => (bif (decide (v1 < 0)) then ret (true : Bool) else (call (laws_toCache.R (MCache.r a0)) fun v2 => (call (spec_AgeOf.R (v2, a1, a2, a3)) fun v3 => (call (laws_toCache.R (MCache.r a0)) fun v4 => (call (impl_AgeOf.R (v4, a1, a2, a3)) fun v5 => (bif (v5 != v3) then ret (false : Bool) else (call (laws_toCache.R (MCache.r a0)) fun v6 => (call (laws_eqCache.R (v4, v6)) fun v7 => (bif (!v7) then ret (false : Bool) else ret (true : Bool)))))))))))) = _
  by_cases q2 : ((a2.size : Int) > 1048576)
  · rw [decide_eq_true q2]; rfl
  rw [decide_eq_false q2, cond_false]
  have s2 : a2.size ≤ 2 ^ 20 := by omega
  rw [call_eq (laws_szCache.R_eq (a1 := (1048576 : Int)) ⟨hg.1, by omega, by omega⟩)]
  unfold laws_szCache.md
  by_cases c0 : (1048576 : Int) < (((MCache.size a0) : Nat) : Int)
  · rw [szM_neg c0]; rfl
  rw [szM_pos c0, dec_neg (by omega)]
  simp only [cond_false]
  have s0 : MCache.Sm (2 ^ 20) a0 := (MCache.Sm_of (by omega))
  rw [call_eq (laws_toCache.R_eq (a0 := a0) (MCache.Sm_mono (by decide) s0))]
  simp only [laws_toCache.md]
  rw [call_eq (spec_AgeOf.R_eq (a0 := a0) (a1 := a1) (a2 := a2) (a3 := a3) (by
    have := And.intro trivial trivial
    unfold spec_AgeOf.gd
    first | exact (MCache.Sm_mono (by decide) s0) | refine ⟨(MCache.Sm_mono (by decide) s0), (Nat.le_trans s2 (by decide))⟩))]
  rw [call_eq (laws_toCache.R_eq (a0 := a0) (MCache.Sm_mono (by decide) s0))]
  simp only [laws_toCache.md]
  rw [call_eq (impl_AgeOf.R_eq (a0 := a0) (a1 := a1) (a2 := a2) (a3 := a3) (by
    have := And.intro trivial trivial
    unfold impl_AgeOf.gd
    first | exact (MCache.Sm_mono (by decide) s0) | refine ⟨(MCache.Sm_mono (by decide) s0), (Nat.le_trans s2 (by decide))⟩))]
  try simp only [impl_AgeOf.br, bne_self_eq_false, beq_self_eq_true, ba_refl, Bool.not_true, cond_false]
  rw [call_eq (laws_toCache.R_eq (a0 := a0) (MCache.Sm_mono (by decide) s0))]
  simp only [laws_toCache.md]
  rw [call_eq (laws_eqCache.R_eq (a0 := a0) (a1 := a0) trivial)]
  simp only [laws_eqCache.md, eqB_refl, Bool.not_true, cond_false]
theorem valid_ : Valid Tryz.prog Ev 8 con := VV (run := fun _ x => F x.1 x.2.1 x.2.2.1 x.2.2.2) mix tab_ok (.cons laws_szCache.valid_ (.cons laws_toCache.valid_ (.cons spec_AgeOf.valid_ (.cons impl_AgeOf.valid_ (.cons laws_eqCache.valid_ .nil))))) Tryz.func8 (by kernel_rfl) run_eq (fun _ a _ _ hg => ⟨0, okF a.1 a.2.1 a.2.2.1 a.2.2.2 hg⟩)
theorem MKeys_wf103 (r : List L) (h : WfAll Ev.cells [.sl 3, .int .i64] r) : ∃ x : MKeys, MKeys.row x = r ∧ MKeys.Sm maxLen x := by
  obtain ⟨l0, t0, rfl, g0, h1⟩ := h.uncons
  obtain ⟨x0, rfl, s0⟩ := wf_list (show Ev.cells 3 = [.int .i64] from by kernel_rfl) wf_irow g0
  obtain ⟨l1, t1, rfl, g1, h2⟩ := h1.uncons
  obtain ⟨x1, rfl⟩ := wf_int g1
  obtain rfl := h2.isnil
  exact ⟨⟨x0, x1⟩, rfl, s0⟩
theorem MHead_wf105 (r : List L) (h : WfAll Ev.cells [.int .i64, .int .i64, .int .i64, .int .i64, .int .i64, .int .i64, .int .i64, .int .i64, .sl 3, .int .i64, .sl 3, .int .i64, .int .i64, .sl 3, .int .i64, .bool] r) : ∃ x : MHead, MHead.row x = r ∧ MHead.Sm maxLen x := by
  obtain ⟨l0, t0, rfl, g0, h1⟩ := h.uncons
  obtain ⟨x0, rfl⟩ := wf_int g0
  obtain ⟨l1, t1, rfl, g1, h2⟩ := h1.uncons
  obtain ⟨x1, rfl⟩ := wf_int g1
  obtain ⟨l2, t2, rfl, g2, h3⟩ := h2.uncons
  obtain ⟨x2, rfl⟩ := wf_int g2
  obtain ⟨l3, t3, rfl, g3, h4⟩ := h3.uncons
  obtain ⟨x3, rfl⟩ := wf_int g3
  obtain ⟨l4, t4, rfl, g4, h5⟩ := h4.uncons
  obtain ⟨x4, rfl⟩ := wf_int g4
  obtain ⟨l5, t5, rfl, g5, h6⟩ := h5.uncons
  obtain ⟨x5, rfl⟩ := wf_int g5
  obtain ⟨l6, t6, rfl, g6, h7⟩ := h6.uncons
  obtain ⟨x6, rfl⟩ := wf_int g6
  obtain ⟨l7, t7, rfl, g7, h8⟩ := h7.uncons
  obtain ⟨x7, rfl⟩ := wf_int g7
  obtain ⟨r8, t8, rfl, g8, h9⟩ := WfAll.unapp (a := [.sl 3, .int .i64]) (b := [.sl 3, .int .i64, .int .i64, .sl 3, .int .i64, .bool]) h8
  obtain ⟨x8, rfl, s8⟩ := MKeys_wf103 _ g8
  obtain ⟨r9, t9, rfl, g9, h10⟩ := WfAll.unapp (a := [.sl 3, .int .i64]) (b := [.int .i64, .sl 3, .int .i64, .bool]) h9
  obtain ⟨x9, rfl, s9⟩ := MKeys_wf103 _ g9
  obtain ⟨l10, t10, rfl, g10, h11⟩ := h10.uncons
  obtain ⟨x10, rfl⟩ := wf_int g10
  obtain ⟨r11, t11, rfl, g11, h12⟩ := WfAll.unapp (a := [.sl 3, .int .i64]) (b := [.bool]) h11
  obtain ⟨x11, rfl, s11⟩ := MKeys_wf103 _ g11
  obtain ⟨l12, t12, rfl, g12, h13⟩ := h12.uncons
  obtain ⟨x12, rfl⟩ := wf_bool g12
  obtain rfl := h13.isnil
  exact ⟨⟨x0, x1, x2, x3, x4, x5, x6, x7, x8, x9, x10, x11, x12⟩, rfl, ⟨s8, s9, s11⟩⟩
theorem MSig_wf189 (r : List L) (h : WfAll Ev.cells [.int .i64, .int .i64] r) : ∃ x : MSig, MSig.row x = r ∧ MSig.Sm maxLen x := by
  obtain ⟨l0, t0, rfl, g0, h1⟩ := h.uncons
  obtain ⟨x0, rfl⟩ := wf_int g0
  obtain ⟨l1, t1, rfl, g1, h2⟩ := h1.uncons
  obtain ⟨x1, rfl⟩ := wf_int g1
  obtain rfl := h2.isnil
  exact ⟨⟨x0, x1⟩, rfl, trivial⟩
theorem MSigned_wf108 (r : List L) (h : WfAll Ev.cells [.int .i64, .int .i64, .int .i64, .int .i64, .int .i64, .int .i64, .int .i64, .int .i64, .sl 3, .int .i64, .sl 3, .int .i64, .int .i64, .sl 3, .int .i64, .bool, .sl 189] r) : ∃ x : MSigned, MSigned.row x = r ∧ MSigned.Sm maxLen x := by
  obtain ⟨r0, t0, rfl, g0, h1⟩ := WfAll.unapp (a := [.int .i64, .int .i64, .int .i64, .int .i64, .int .i64, .int .i64, .int .i64, .int .i64, .sl 3, .int .i64, .sl 3, .int .i64, .int .i64, .sl 3, .int .i64, .bool]) (b := [.sl 189]) h
  obtain ⟨x0, rfl, s0⟩ := MHead_wf105 _ g0
  obtain ⟨l1, t1, rfl, g1, h2⟩ := h1.uncons
  obtain ⟨x1, rfl, s1⟩ := wf_list (show Ev.cells 189 = [.int .i64, .int .i64] from by kernel_rfl) MSig_wf189 g1
  obtain rfl := h2.isnil
  exact ⟨⟨x0, x1⟩, rfl, ⟨s0, s1⟩⟩
theorem MEntry_wf44 (r : List L) (h : WfAll Ev.cells [.str, .int .i64, .int .i64, .sl 9] r) : ∃ x : MEntry, MEntry.row x = r ∧ MEntry.Sm maxLen x := by
  obtain ⟨l0, t0, rfl, g0, h1⟩ := h.uncons
  obtain ⟨x0, rfl, s0⟩ := wf_str g0
  obtain ⟨l1, t1, rfl, g1, h2⟩ := h1.uncons
  obtain ⟨x1, rfl⟩ := wf_int g1
  obtain ⟨l2, t2, rfl, g2, h3⟩ := h2.uncons
  obtain ⟨x2, rfl⟩ := wf_int g2
  obtain ⟨l3, t3, rfl, g3, h4⟩ := h3.uncons
  obtain ⟨x3, rfl, s3⟩ := wf_list (show Ev.cells 9 = [.str] from by kernel_rfl) wf_srow g3
  obtain rfl := h4.isnil
  exact ⟨⟨x0, x1, x2, x3⟩, rfl, ⟨s0, s3⟩⟩
theorem MProof_wf162 (r : List L) (h : WfAll Ev.cells [.int .i64, .sl 3] r) : ∃ x : MProof, MProof.row x = r ∧ MProof.Sm maxLen x := by
  obtain ⟨l0, t0, rfl, g0, h1⟩ := h.uncons
  obtain ⟨x0, rfl⟩ := wf_int g0
  obtain ⟨l1, t1, rfl, g1, h2⟩ := h1.uncons
  obtain ⟨x1, rfl, s1⟩ := wf_list (show Ev.cells 3 = [.int .i64] from by kernel_rfl) wf_irow g1
  obtain rfl := h2.isnil
  exact ⟨⟨x0, x1⟩, rfl, s1⟩
theorem MGap_wf164 (r : List L) (h : WfAll Ev.cells [.int .i64, .str, .int .i64, .int .i64, .sl 9, .str, .int .i64, .int .i64, .sl 9, .int .i64, .sl 3, .int .i64, .sl 3] r) : ∃ x : MGap, MGap.row x = r ∧ MGap.Sm maxLen x := by
  obtain ⟨l0, t0, rfl, g0, h1⟩ := h.uncons
  obtain ⟨x0, rfl⟩ := wf_int g0
  obtain ⟨r1, t1, rfl, g1, h2⟩ := WfAll.unapp (a := [.str, .int .i64, .int .i64, .sl 9]) (b := [.str, .int .i64, .int .i64, .sl 9, .int .i64, .sl 3, .int .i64, .sl 3]) h1
  obtain ⟨x1, rfl, s1⟩ := MEntry_wf44 _ g1
  obtain ⟨r2, t2, rfl, g2, h3⟩ := WfAll.unapp (a := [.str, .int .i64, .int .i64, .sl 9]) (b := [.int .i64, .sl 3, .int .i64, .sl 3]) h2
  obtain ⟨x2, rfl, s2⟩ := MEntry_wf44 _ g2
  obtain ⟨r3, t3, rfl, g3, h4⟩ := WfAll.unapp (a := [.int .i64, .sl 3]) (b := [.int .i64, .sl 3]) h3
  obtain ⟨x3, rfl, s3⟩ := MProof_wf162 _ g3
  obtain ⟨r4, t4, rfl, g4, h5⟩ := WfAll.unapp (a := [.int .i64, .sl 3]) (b := []) h4
  obtain ⟨x4, rfl, s4⟩ := MProof_wf162 _ g4
  obtain rfl := h5.isnil
  exact ⟨⟨x0, x1, x2, x3, x4⟩, rfl, ⟨s1, s2, s3, s4⟩⟩
theorem MAnswer_wf166 (r : List L) (h : WfAll Ev.cells [.sl 108, .bool, .str, .int .i64, .int .i64, .sl 9, .int .i64, .sl 3, .int .i64, .str, .int .i64, .int .i64, .sl 9, .str, .int .i64, .int .i64, .sl 9, .int .i64, .sl 3, .int .i64, .sl 3] r) : ∃ x : MAnswer, MAnswer.row x = r ∧ MAnswer.Sm maxLen x := by
  obtain ⟨l0, t0, rfl, g0, h1⟩ := h.uncons
  obtain ⟨x0, rfl, s0⟩ := wf_list (show Ev.cells 108 = [.int .i64, .int .i64, .int .i64, .int .i64, .int .i64, .int .i64, .int .i64, .int .i64, .sl 3, .int .i64, .sl 3, .int .i64, .int .i64, .sl 3, .int .i64, .bool, .sl 189] from by kernel_rfl) MSigned_wf108 g0
  obtain ⟨l1, t1, rfl, g1, h2⟩ := h1.uncons
  obtain ⟨x1, rfl⟩ := wf_bool g1
  obtain ⟨r2, t2, rfl, g2, h3⟩ := WfAll.unapp (a := [.str, .int .i64, .int .i64, .sl 9]) (b := [.int .i64, .sl 3, .int .i64, .str, .int .i64, .int .i64, .sl 9, .str, .int .i64, .int .i64, .sl 9, .int .i64, .sl 3, .int .i64, .sl 3]) h2
  obtain ⟨x2, rfl, s2⟩ := MEntry_wf44 _ g2
  obtain ⟨r3, t3, rfl, g3, h4⟩ := WfAll.unapp (a := [.int .i64, .sl 3]) (b := [.int .i64, .str, .int .i64, .int .i64, .sl 9, .str, .int .i64, .int .i64, .sl 9, .int .i64, .sl 3, .int .i64, .sl 3]) h3
  obtain ⟨x3, rfl, s3⟩ := MProof_wf162 _ g3
  obtain ⟨r4, t4, rfl, g4, h5⟩ := WfAll.unapp (a := [.int .i64, .str, .int .i64, .int .i64, .sl 9, .str, .int .i64, .int .i64, .sl 9, .int .i64, .sl 3, .int .i64, .sl 3]) (b := []) h4
  obtain ⟨x4, rfl, s4⟩ := MGap_wf164 _ g4
  obtain rfl := h5.isnil
  exact ⟨⟨x0, x1, x2, x3, x4⟩, rfl, ⟨s0, s2, s3, s4⟩⟩
theorem MStored_wf168 (r : List L) (h : WfAll Ev.cells [.int .i64, .str, .sl 108, .bool, .str, .int .i64, .int .i64, .sl 9, .int .i64, .sl 3, .int .i64, .str, .int .i64, .int .i64, .sl 9, .str, .int .i64, .int .i64, .sl 9, .int .i64, .sl 3, .int .i64, .sl 3] r) : ∃ x : MStored, MStored.row x = r ∧ MStored.Sm maxLen x := by
  obtain ⟨l0, t0, rfl, g0, h1⟩ := h.uncons
  obtain ⟨x0, rfl⟩ := wf_int g0
  obtain ⟨l1, t1, rfl, g1, h2⟩ := h1.uncons
  obtain ⟨x1, rfl, s1⟩ := wf_str g1
  obtain ⟨r2, t2, rfl, g2, h3⟩ := WfAll.unapp (a := [.sl 108, .bool, .str, .int .i64, .int .i64, .sl 9, .int .i64, .sl 3, .int .i64, .str, .int .i64, .int .i64, .sl 9, .str, .int .i64, .int .i64, .sl 9, .int .i64, .sl 3, .int .i64, .sl 3]) (b := []) h2
  obtain ⟨x2, rfl, s2⟩ := MAnswer_wf166 _ g2
  obtain rfl := h3.isnil
  exact ⟨⟨x0, x1, x2⟩, rfl, ⟨s1, s2⟩⟩
theorem MCache_wf50 (r : List L) (h : WfAll Ev.cells [.sl 168] r) : ∃ x : MCache, MCache.row x = r ∧ MCache.Sm maxLen x := by
  obtain ⟨l0, t0, rfl, g0, h1⟩ := h.uncons
  obtain ⟨x0, rfl, s0⟩ := wf_list (show Ev.cells 168 = [.int .i64, .str, .sl 108, .bool, .str, .int .i64, .int .i64, .sl 9, .int .i64, .sl 3, .int .i64, .str, .int .i64, .int .i64, .sl 9, .str, .int .i64, .int .i64, .sl 9, .int .i64, .sl 3, .int .i64, .sl 3] from by kernel_rfl) MStored_wf168 g0
  obtain rfl := h1.isnil
  exact ⟨⟨x0⟩, rfl, s0⟩
theorem holds (ls : List L) (h : WfAll Ev.cells ([50, 3, 9, 3].flatMap Ev.cells) ls) : con.sem ls = some [.bool true] := by
  have hk : [50, 3, 9, 3].flatMap Ev.cells = [.sl 168, .int .i64, .str, .int .i64] := by kernel_rfl
  rw [hk] at h
  obtain ⟨r0, t0, rfl, g0, h1⟩ := WfAll.unapp (a := [.sl 168]) (b := [.int .i64, .str, .int .i64]) h
  obtain ⟨x0, rfl, s0⟩ := MCache_wf50 _ g0
  obtain ⟨l1, t1, rfl, g1, h2⟩ := h1.uncons
  obtain ⟨x1, rfl⟩ := wf_int g1
  obtain ⟨l2, t2, rfl, g2, h3⟩ := h2.uncons
  obtain ⟨x2, rfl, s2⟩ := wf_str g2
  obtain ⟨l3, t3, rfl, g3, h4⟩ := h3.uncons
  obtain ⟨x3, rfl⟩ := wf_int g3
  obtain rfl := h4.isnil
  show (R ((MCache.r x0), x1, x2, x3)).map RT.enc = _
  rw [R_eq ⟨s0, s2⟩]
  rfl
end laws_FnExactAgeOf
end Go.DM
