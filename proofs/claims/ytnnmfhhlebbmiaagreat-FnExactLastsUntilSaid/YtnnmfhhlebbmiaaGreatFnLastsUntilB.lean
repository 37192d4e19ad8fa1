/- What the functions compute that the law reaches, and that the law returns true. Conditions: none. -/
import Derived.Test.YtnnmfhhlebbmiaaGreatTy
import Derived.Test.YtnnmfhhlebbmiaaGreatFnLastsUntilA
import Derived.Test.YtnnmfhhlebbmiaaGreatProg
import Derived.Lib.AppendZerosOnto
import Derived.Lib.Bytealg
import Derived.Laws.Externs
import Derived.Lib.Walk
import Derived.Lib.Hide
import Derived.Lib.Strings
set_option linter.all false
namespace Go.DM
open Go.Proofs
/-! spec.EqualInts -/
namespace spec_EqualInts
inductive Pt where
  | p0 (a : List (List L)) (b : List (List L)) (c : Int)
def pid : Pt → Nat
  | .p0 .. => 4
def pvs : Pt → List V
  | .p0 a b c => [.sl none 3 a, .sl none 3 b, .int .i64 c]
def phs : Pt → List Root
  | .p0 a b c => []
noncomputable def step (J : Pt → Ans) : Pt → Ans
  | .p0 a b c => (bif (decide (c < (a.length : Int))) then (bif (decide ((0 : Int) ≤ c)) then (bif (decide (c < (a.length : Int))) then (bif (decide ((0 : Int) ≤ c)) then (bif (decide (c < (b.length : Int))) then (bif ((iAt a (Int.toNat c)) != (iAt b (Int.toNat c))) then ret (false : Bool) else J (.p0 a b (IntKind.i64.wrap (c + 1)))) else none) else none) else none) else none) else ret (true : Bool))
noncomputable def start (J : Pt → Ans) (x0 : List (List L)) (x1 : List (List L)) : Ans := (bif ((x0.length : Int) != (x1.length : Int)) then ret (false : Bool) else J (.p0 x0 x1 0))
def live : Nat → Live := fun i => match i with | 4 => [(0, none), (1, none), (5, none)] | _ => []
def pats : List Pat := [.rd (.sl 3), .rd (.sl 3)]
def res : RP := .one (.rd (.bool))
noncomputable def G : List (Nat × Con) := []
noncomputable abbrev E : Env := ⟨assoc Tab, conG G, 26⟩
set_option maxRecDepth 100000
theorem step_eq (I : Heads) (p : Pt) : enterC E live I (pid p) (bodyOf Tryz.f108) (stOf (live (pid p)) (pvs p) (phs p)) (doneK E Tryz.f108 res) = step (fun q => I (pid q) (pvs q) (phs q)) p := by
  cases p <;> kernel_rfl
theorem start_eq (I : Heads) (ls : List L) : runC E live I (bodyOf Tryz.f108) (initS pats ls) (doneK E Tryz.f108 res) = start (fun q => I (pid q) (pvs q) (phs q)) (ls.headD .hole).toSl ((dropT 1 ls).headD .hole).toSl := by kernel_rfl
theorem run_eq (n : Nat) (ls : List L) : runF E live Tryz.f108 res n (initS pats ls) = start (iter step n) (ls.headD .hole).toSl ((dropT 1 ls).headD .hole).toSl := runF_iter (id := pid) (vs := pvs) (hs := phs) (step := step) (start := fun J => start J (ls.headD .hole).toSl ((dropT 1 ls).headD .hole).toSl) step_eq (fun I => start_eq I ls) n
noncomputable def md (a0 : List Int) (a1 : List Int) : Bool := (bif ((a0.length : Int) != (a1.length : Int)) then (false : Bool) else (loopM (S := Unit) (β := Bool) (fun (i2 : Nat) (s4 : Unit) => (bif ((a0.getD i2 0) != (a1.getD i2 0)) then (.inr (false : Bool)) else (.inl ()))) (fun (s4 : Unit) => (true : Bool)) a0.length 0 ()))
def gd (a0 : List Int) (a1 : List Int) : Prop := (SmL (2 ^ 38) (fun y : Int => True) a0) ∧ (SmL (2 ^ 38) (fun y : Int => True) a1)
def rf (a : List Int × List Int) : List (List L) × List (List L) := ((a.1.map iRow), (a.2.map iRow))
theorem rf_inj (a b : List Int × List Int) (h : rf a = rf b) : a = b := by
  exact (Prod.ext (map_inj iRow_inj (congrArg (fun x => x.1) h)) (map_inj iRow_inj (congrArg (fun x => x.2) h)))
noncomputable def R (x0 : List (List L)) (x1 : List (List L)) : Option (Bool) := ofM rf (fun a => gd a.1 a.2) (fun a => (md a.1 a.2)) (x0, x1)
theorem R_eq {a0 : List Int} {a1 : List Int} (h : gd a0 a1) : R (a0.map iRow) (a1.map iRow) = some (md a0 a1) := ofM_eq (r := rf) (a := (a0, a1)) rf_inj h
theorem okF (a0 : List Int) (a1 : List Int) (hg : gd a0 a1) : ∃ n, start (iter step n) (a0.map iRow) (a1.map iRow) = ret ((md a0 a1) : Bool) := by
  unfold gd at hg
  obtain ⟨H0, H1⟩ := hg
  unfold start md
  try simp only [bytesL_map, List.length_map, toNat_nat, iAt_getD, bAt_getD, sAt_getD, lAt_getD]
  refine ex_bif (fun b : Bool => ret (b : Bool)) (fun c1 => ?_) (fun c1 => ?_)
  · have dc1 := c1
    try simp only [bne_eq_false_iff_eq, bne_iff_ne, beq_iff_eq, beq_eq_false_iff_ne, ne_eq, Bool.not_eq_true', Bool.not_eq_false'] at dc1
    refine ⟨0, ?_⟩
    all_goals first | rfl | (simp only [bytesL_map, List.length_map, toNat_nat, iAt_getD, bAt_getD, sAt_getD, lAt_getD]; done) | (simp only [List.map_append, List.map_cons, List.map_nil, List.cons_append, List.nil_append, iRow, sRow, bRow, lRow, List.map_set]; rfl) | (simp only [bytesL_map, List.length_map, toNat_nat, iAt_getD, bAt_getD, sAt_getD, lAt_getD, List.map_append, List.map_cons, List.map_nil, List.cons_append, List.nil_append, iRow, sRow, bRow, lRow, List.map_set]; first | done | rfl)
  · have dc1 := c1
    try simp only [bne_eq_false_iff_eq, bne_iff_ne, beq_iff_eq, beq_eq_false_iff_ne, ne_eq, Bool.not_eq_true', Bool.not_eq_false'] at dc1
    have Bh3 : a0.length ≤ maxLen := (by
        have := (H0).1
        try simp only [maxLen] at *
        omega)
    refine ex_pt (p := Pt.p0 (a0.map iRow) (a1.map iRow) 0) (by first | rfl | (simp only [bytesL_map, List.length_map, toNat_nat, iAt_getD, bAt_getD, sAt_getD, lAt_getD, List.map_append, List.map_cons, List.map_nil, List.cons_append, List.nil_append, iRow, sRow, bRow, lRow, List.map_set]; done) | (simp only [List.map_append, List.map_cons, List.map_nil, List.cons_append, List.nil_append, iRow, sRow, bRow, lRow, List.map_set]; rfl)) ?_
    refine loopM_ok (pt := fun (i2 : Nat) (s4 : Unit) => Pt.p0 (a0.map iRow) (a1.map iRow) (i2 : Int)) (s := (() : Unit)) (out := (fun b : Bool => ret (b : Bool))) (fun _ _ => True) (fun J i2 s4 h3 hih3 => ?_) (fun s4 hih3 => ?_) trivial
    · simp only [step, bytesL_map, List.length_map, toNat_nat, iAt_getD, bAt_getD, sAt_getD, lAt_getD]
      have bb_ := Bh3
      simp only [maxLen] at bb_
      have := (H0).1
      refine Rnd.yes (by apply decide_eq_true; omega) ?_
      refine Rnd.yes (by
          refine decide_eq_true ?_
          try simp (disch := omega) only [List.sum_cons, List.sum_nil, List.map_cons, List.map_nil, bytesI_length, bytesL_length, List.length_append, List.length_cons, List.length_nil, List.length_map, List.length_set, List.length_replicate, List.length_take, List.length_drop, Go.IntWalk.i64_in]
          first | omega | (simp; done) | (simp; omega)) ?_
      refine Rnd.yes (by
          have := (H0).1
          refine decide_eq_true ?_
          try simp (disch := omega) only [List.sum_cons, List.sum_nil, List.map_cons, List.map_nil, bytesI_length, bytesL_length, List.length_append, List.length_cons, List.length_nil, List.length_map, List.length_set, List.length_replicate, List.length_take, List.length_drop, Go.IntWalk.i64_in]
          first | omega | (simp; done) | (simp; omega)) ?_
      refine Rnd.yes (by
          refine decide_eq_true ?_
          try simp (disch := omega) only [List.sum_cons, List.sum_nil, List.map_cons, List.map_nil, bytesI_length, bytesL_length, List.length_append, List.length_cons, List.length_nil, List.length_map, List.length_set, List.length_replicate, List.length_take, List.length_drop, Go.IntWalk.i64_in]
          first | omega | (simp; done) | (simp; omega)) ?_
      refine Rnd.yes (by
          have := (H1).1
          refine decide_eq_true ?_
          try simp (disch := omega) only [List.sum_cons, List.sum_nil, List.map_cons, List.map_nil, bytesI_length, bytesL_length, List.length_append, List.length_cons, List.length_nil, List.length_map, List.length_set, List.length_replicate, List.length_take, List.length_drop, Go.IntWalk.i64_in]
          first | omega | (simp; done) | (simp; omega)) ?_
      refine Rnd.bif (fun c5 => ?_) (fun c5 => ?_)
      · have dc5 := c5
        try simp only [bne_eq_false_iff_eq, bne_iff_ne, beq_iff_eq, beq_eq_false_iff_ne, ne_eq, Bool.not_eq_true', Bool.not_eq_false'] at dc5
        refine Rnd.inr ?_
        all_goals first | rfl | (simp only [bytesL_map, List.length_map, toNat_nat, iAt_getD, bAt_getD, sAt_getD, lAt_getD]; done) | (simp only [List.map_append, List.map_cons, List.map_nil, List.cons_append, List.nil_append, iRow, sRow, bRow, lRow, List.map_set]; rfl) | (simp only [bytesL_map, List.length_map, toNat_nat, iAt_getD, bAt_getD, sAt_getD, lAt_getD, List.map_append, List.map_cons, List.map_nil, List.cons_append, List.nil_append, iRow, sRow, bRow, lRow, List.map_set]; first | done | rfl)
      · have dc5 := c5
        try simp only [bne_eq_false_iff_eq, bne_iff_ne, beq_iff_eq, beq_eq_false_iff_ne, ne_eq, Bool.not_eq_true', Bool.not_eq_false'] at dc5
        refine Rnd.inl trivial ?_
        rw [wrap_succ h3 Bh3]
        all_goals first | rfl | (simp only [bytesL_map, List.length_map, toNat_nat, iAt_getD, bAt_getD, sAt_getD, lAt_getD]; done) | (simp only [List.map_append, List.map_cons, List.map_nil, List.cons_append, List.nil_append, iRow, sRow, bRow, lRow, List.map_set]; rfl) | (simp only [bytesL_map, List.length_map, toNat_nat, iAt_getD, bAt_getD, sAt_getD, lAt_getD, List.map_append, List.map_cons, List.map_nil, List.cons_append, List.nil_append, iRow, sRow, bRow, lRow, List.map_set]; first | done | rfl)
    · simp only [step, bytesL_map, List.length_map, toNat_nat, iAt_getD, bAt_getD, sAt_getD, lAt_getD]
      have := (H0).1
      refine ex_no (by apply decide_eq_false; omega) ?_
      refine ⟨0, ?_⟩
      all_goals first | rfl | (simp only [bytesL_map, List.length_map, toNat_nat, iAt_getD, bAt_getD, sAt_getD, lAt_getD]; done) | (simp only [List.map_append, List.map_cons, List.map_nil, List.cons_append, List.nil_append, iRow, sRow, bRow, lRow, List.map_set]; rfl) | (simp only [bytesL_map, List.length_map, toNat_nat, iAt_getD, bAt_getD, sAt_getD, lAt_getD, List.map_append, List.map_cons, List.map_nil, List.cons_append, List.nil_append, iRow, sRow, bRow, lRow, List.map_set]; first | done | rfl)
noncomputable def sem (ls : List L) : Option (List L) := (R (ls.headD .hole).toSl ((dropT 1 ls).headD .hole).toSl).map RT.enc
theorem ok (ls q : List L) (hl : LOKs Ev.cells pats ls) (h : sem ls = some q) : ∃ n, runF E live Tryz.f108 res n (initS pats ls) = some q := by
  obtain ⟨v, hv, hq⟩ := map_some h
  obtain ⟨⟨a0, a1⟩, hg, e, hm⟩ := ofM_some hv
  simp only [rf, Prod.mk.injEq] at e
  obtain ⟨e0, e1⟩ := e
  obtain ⟨n, hn⟩ := okF a0 a1 hg
  refine ⟨n, (run_eq n ls).trans ?_⟩
  rw [← e0, ← e1]
  rw [hn, ← hq, hm]; rfl
noncomputable def con : Con := ⟨pats, res, sem⟩
theorem chk : fnB Tryz.f108 con 26 = true := by kernel_rfl
theorem valid_ : Valid Tryz.prog Ev 108 con := valid mix tab_ok .nil Tryz.func108 chk live ok
theorem md_eq (a0 : List Int) (a1 : List Int) : md a0 a1 = eqB a0 a1 := by
  unfold md
  refine loop_eqB (0) (fun i s h h2 => ?_) (fun s => rfl)
  simp only [bne, int_beq, bool_beq, ba_beq]
  cases eqB _ _ <;> rfl
end spec_EqualInts
/-! spec.EqualKeys -/
namespace spec_EqualKeys
noncomputable def F (x0 : RKeys) (x1 : RKeys) : Ans := (bif (x0.fNeed == x1.fNeed) then (call (spec_EqualInts.R x0.fList x1.fList) fun v1 => ret (v1 : Bool)) else ret (false : Bool))
def live : Nat → Live := fun _ => []
def pats : List Pat := [.agg [.sl 3, .int .i64], .agg [.sl 3, .int .i64]]
def res : RP := .one (.rd (.bool))
noncomputable def G : List (Nat × Con) := [(108, spec_EqualInts.con)]
noncomputable abbrev E : Env := ⟨assoc Tab, conG G, 17⟩
set_option maxRecDepth 100000
theorem run_eq (n : Nat) (ls : List L) : runF E live Tryz.f237 res n (initS pats ls) = F (RKeys.dec ls) (RKeys.dec (dropT 2 ls)) := by kernel_rfl
noncomputable def md (a0 : MKeys) (a1 : MKeys) : Bool := (bif (a0.fNeed == a1.fNeed) then ((spec_EqualInts.md a0.fList a1.fList) : Bool) else (false : Bool))
def gd (a0 : MKeys) (a1 : MKeys) : Prop := (MKeys.Sm (2 ^ 21) a0) ∧ (MKeys.Sm (2 ^ 21) a1)
def rf (a : MKeys × MKeys) : RKeys × RKeys := ((MKeys.r a.1), (MKeys.r a.2))
theorem rf_inj (a b : MKeys × MKeys) (h : rf a = rf b) : a = b := by
  exact (Prod.ext (MKeys.r_inj (congrArg (fun x => x.1) h)) (MKeys.r_inj (congrArg (fun x => x.2) h)))
noncomputable def R (x0 : RKeys) (x1 : RKeys) : Option (Bool) := ofM rf (fun a => gd a.1 a.2) (fun a => (md a.1 a.2)) (x0, x1)
theorem R_eq {a0 : MKeys} {a1 : MKeys} (h : gd a0 a1) : R (MKeys.r a0) (MKeys.r a1) = some (md a0 a1) := ofM_eq (r := rf) (a := (a0, a1)) rf_inj h
theorem okF (a0 : MKeys) (a1 : MKeys) (hg : gd a0 a1) : F (MKeys.r a0) (MKeys.r a1) = ret ((md a0 a1) : Bool) := by
  unfold gd at hg
  obtain ⟨H0, H1⟩ := hg
  unfold F md
  try simp only [bytesL_map, List.length_map, toNat_nat, iAt_getD, bAt_getD, sAt_getD, lAt_getD, MKeys.r_fList, MKeys.r_fNeed]
  refine bif_out (fun b : Bool => ret (b : Bool)) (fun c1 => ?_) (fun c1 => ?_)
  · have dc1 := c1
    try simp only [bne_eq_false_iff_eq, bne_iff_ne, beq_iff_eq, beq_eq_false_iff_ne, ne_eq, Bool.not_eq_true', Bool.not_eq_false'] at dc1
    refine call_to (spec_EqualInts.md a0.fList a1.fList) ?_ ?_
    · have R_ := spec_EqualInts.R_eq (a0 := a0.fList) (a1 := a1.fList) ⟨(H0.mono (by decide) (fun x hx => trivial)), (H1.mono (by decide) (fun x hx => trivial))⟩
      first | exact R_ | (simp only [List.map_append, List.map_cons, List.map_nil, List.cons_append, List.nil_append, iRow, sRow, bRow, lRow, List.map_set, bytesL_map, List.length_map, toNat_nat, iAt_getD, bAt_getD, sAt_getD, lAt_getD, MKeys.r_fList, MKeys.r_fNeed] at R_ ⊢; first | exact R_ | (rw [← R_]; rfl))
    try simp only [bytesL_map, List.length_map, toNat_nat, iAt_getD, bAt_getD, sAt_getD, lAt_getD, MKeys.r_fList, MKeys.r_fNeed]
    all_goals first | rfl | (simp only [bytesL_map, List.length_map, toNat_nat, iAt_getD, bAt_getD, sAt_getD, lAt_getD, MKeys.r_fList, MKeys.r_fNeed]; done) | (simp only [List.map_append, List.map_cons, List.map_nil, List.cons_append, List.nil_append, iRow, sRow, bRow, lRow, List.map_set]; rfl) | (simp only [bytesL_map, List.length_map, toNat_nat, iAt_getD, bAt_getD, sAt_getD, lAt_getD, MKeys.r_fList, MKeys.r_fNeed, List.map_append, List.map_cons, List.map_nil, List.cons_append, List.nil_append, iRow, sRow, bRow, lRow, List.map_set]; first | done | rfl)
  · have dc1 := c1
    try simp only [bne_eq_false_iff_eq, bne_iff_ne, beq_iff_eq, beq_eq_false_iff_ne, ne_eq, Bool.not_eq_true', Bool.not_eq_false'] at dc1
    all_goals first | rfl | (simp only [bytesL_map, List.length_map, toNat_nat, iAt_getD, bAt_getD, sAt_getD, lAt_getD, MKeys.r_fList, MKeys.r_fNeed]; done) | (simp only [List.map_append, List.map_cons, List.map_nil, List.cons_append, List.nil_append, iRow, sRow, bRow, lRow, List.map_set]; rfl) | (simp only [bytesL_map, List.length_map, toNat_nat, iAt_getD, bAt_getD, sAt_getD, lAt_getD, MKeys.r_fList, MKeys.r_fNeed, List.map_append, List.map_cons, List.map_nil, List.cons_append, List.nil_append, iRow, sRow, bRow, lRow, List.map_set]; first | done | rfl)
noncomputable def sem (ls : List L) : Option (List L) := (R (RKeys.dec ls) (RKeys.dec (dropT 2 ls))).map RT.enc
theorem ok (ls q : List L) (hl : LOKs Ev.cells pats ls) (h : sem ls = some q) : ∃ n, runF E live Tryz.f237 res n (initS pats ls) = some q := by
  obtain ⟨v, hv, hq⟩ := map_some h
  obtain ⟨⟨a0, a1⟩, hg, e, hm⟩ := ofM_some hv
  simp only [rf, Prod.mk.injEq] at e
  obtain ⟨e0, e1⟩ := e
  have hn := okF a0 a1 hg
  refine ⟨0, (run_eq 0 ls).trans ?_⟩
  rw [← e0, ← e1]
  rw [hn, ← hq, hm]; rfl
noncomputable def con : Con := ⟨pats, res, sem⟩
theorem chk : fnB Tryz.f237 con 17 = true := by kernel_rfl
theorem valid_ : Valid Tryz.prog Ev 237 con := valid mix tab_ok (.cons spec_EqualInts.valid_ .nil) Tryz.func237 chk live ok
theorem md_eq (a0 : MKeys) (a1 : MKeys) : md a0 a1 = eqB a0 a1 := by
  unfold md
  cases a0; cases a1
  rw [Bool.eq_iff_iff]
  simp [eqB_iff, ba_beq, MKeys.mk.injEq, spec_EqualInts.md_eq]
  try (constructor <;> (intro h; simp_all))
end spec_EqualKeys
/-! spec.SameContents -/
namespace spec_SameContents
noncomputable def F (x0 : RHead) (x1 : RHead) : Ans := (bif (x0.fCount == x1.fCount) then ret ((x0.fRoot == x1.fRoot) : Bool) else ret (false : Bool))
def live : Nat → Live := fun _ => []
def pats : List Pat := [.agg [.int .i64, .int .i64, .int .i64, .int .i64, .int .i64, .int .i64, .int .i64, .int .i64, .sl 3, .int .i64, .sl 3, .int .i64, .int .i64, .sl 3, .int .i64, .bool], .agg [.int .i64, .int .i64, .int .i64, .int .i64, .int .i64, .int .i64, .int .i64, .int .i64, .sl 3, .int .i64, .sl 3, .int .i64, .int .i64, .sl 3, .int .i64, .bool]]
def res : RP := .one (.rd (.bool))
noncomputable def G : List (Nat × Con) := []
noncomputable abbrev E : Env := ⟨assoc Tab, conG G, 17⟩
set_option maxRecDepth 100000
theorem run_eq (n : Nat) (ls : List L) : runF E live Tryz.f238 res n (initS pats ls) = F (RHead.dec ls) (RHead.dec (dropT 16 ls)) := by kernel_rfl
noncomputable def md (a0 : MHead) (a1 : MHead) : Bool := (bif (a0.fCount == a1.fCount) then ((a0.fRoot == a1.fRoot) : Bool) else (false : Bool))
def gd (a0 : MHead) (a1 : MHead) : Prop := True
def rf (a : MHead × MHead) : RHead × RHead := ((MHead.r a.1), (MHead.r a.2))
theorem rf_inj (a b : MHead × MHead) (h : rf a = rf b) : a = b := by
  exact (Prod.ext (MHead.r_inj (congrArg (fun x => x.1) h)) (MHead.r_inj (congrArg (fun x => x.2) h)))
noncomputable def R (x0 : RHead) (x1 : RHead) : Option (Bool) := ofM rf (fun a => gd a.1 a.2) (fun a => (md a.1 a.2)) (x0, x1)
theorem R_eq {a0 : MHead} {a1 : MHead} (h : gd a0 a1) : R (MHead.r a0) (MHead.r a1) = some (md a0 a1) := ofM_eq (r := rf) (a := (a0, a1)) rf_inj h
theorem okF (a0 : MHead) (a1 : MHead) (hg : gd a0 a1) : F (MHead.r a0) (MHead.r a1) = ret ((md a0 a1) : Bool) := by
  unfold F md
  try simp only [bytesL_map, List.length_map, toNat_nat, iAt_getD, bAt_getD, sAt_getD, lAt_getD, MHead.r_fCount, MHead.r_fRoot]
  refine bif_out (fun b : Bool => ret (b : Bool)) (fun c1 => ?_) (fun c1 => ?_)
  · have dc1 := c1
    try simp only [bne_eq_false_iff_eq, bne_iff_ne, beq_iff_eq, beq_eq_false_iff_ne, ne_eq, Bool.not_eq_true', Bool.not_eq_false'] at dc1
    all_goals first | rfl | (simp only [bytesL_map, List.length_map, toNat_nat, iAt_getD, bAt_getD, sAt_getD, lAt_getD, MHead.r_fCount, MHead.r_fRoot]; done) | (simp only [List.map_append, List.map_cons, List.map_nil, List.cons_append, List.nil_append, iRow, sRow, bRow, lRow, List.map_set]; rfl) | (simp only [bytesL_map, List.length_map, toNat_nat, iAt_getD, bAt_getD, sAt_getD, lAt_getD, MHead.r_fCount, MHead.r_fRoot, List.map_append, List.map_cons, List.map_nil, List.cons_append, List.nil_append, iRow, sRow, bRow, lRow, List.map_set]; first | done | rfl)
  · have dc1 := c1
    try simp only [bne_eq_false_iff_eq, bne_iff_ne, beq_iff_eq, beq_eq_false_iff_ne, ne_eq, Bool.not_eq_true', Bool.not_eq_false'] at dc1
    all_goals first | rfl | (simp only [bytesL_map, List.length_map, toNat_nat, iAt_getD, bAt_getD, sAt_getD, lAt_getD, MHead.r_fCount, MHead.r_fRoot]; done) | (simp only [List.map_append, List.map_cons, List.map_nil, List.cons_append, List.nil_append, iRow, sRow, bRow, lRow, List.map_set]; rfl) | (simp only [bytesL_map, List.length_map, toNat_nat, iAt_getD, bAt_getD, sAt_getD, lAt_getD, MHead.r_fCount, MHead.r_fRoot, List.map_append, List.map_cons, List.map_nil, List.cons_append, List.nil_append, iRow, sRow, bRow, lRow, List.map_set]; first | done | rfl)
noncomputable def sem (ls : List L) : Option (List L) := (R (RHead.dec ls) (RHead.dec (dropT 16 ls))).map RT.enc
theorem ok (ls q : List L) (hl : LOKs Ev.cells pats ls) (h : sem ls = some q) : ∃ n, runF E live Tryz.f238 res n (initS pats ls) = some q := by
  obtain ⟨v, hv, hq⟩ := map_some h
  obtain ⟨⟨a0, a1⟩, hg, e, hm⟩ := ofM_some hv
  simp only [rf, Prod.mk.injEq] at e
  obtain ⟨e0, e1⟩ := e
  have hn := okF a0 a1 hg
  refine ⟨0, (run_eq 0 ls).trans ?_⟩
  rw [← e0, ← e1]
  rw [hn, ← hq, hm]; rfl
noncomputable def con : Con := ⟨pats, res, sem⟩
theorem chk : fnB Tryz.f238 con 17 = true := by kernel_rfl
theorem valid_ : Valid Tryz.prog Ev 238 con := valid mix tab_ok .nil Tryz.func238 chk live ok
end spec_SameContents
/-! spec.l15Heir -/
namespace spec_l15Heir
noncomputable def F (x0 : RHead) (x1 : RHead) : Ans := (bif x0.fFrozen then ret (4 : Int) else (call (spec_NoKeys.R x0.fHeirs) fun v1 => (bif v1 then ret (5 : Int) else (bif (decide (x1.fTime < (IntKind.i64.wrap (x0.fUntil + x0.fWait)))) then ret (5 : Int) else (bif x1.fFrozen then ret (6 : Int) else (call (spec_EqualKeys.R x1.fKeys x0.fHeirs) fun v2 => (bif (!v2) then ret (6 : Int) else (call (spec_SameContents.R x1 x0) fun v3 => (bif (!v3) then ret (6 : Int) else ret (1 : Int))))))))))
def live : Nat → Live := fun _ => []
def pats : List Pat := [.agg [.int .i64, .int .i64, .int .i64, .int .i64, .int .i64, .int .i64, .int .i64, .int .i64, .sl 3, .int .i64, .sl 3, .int .i64, .int .i64, .sl 3, .int .i64, .bool], .agg [.int .i64, .int .i64, .int .i64, .int .i64, .int .i64, .int .i64, .int .i64, .int .i64, .sl 3, .int .i64, .sl 3, .int .i64, .int .i64, .sl 3, .int .i64, .bool]]
def res : RP := .one (.rd (.int .i64))
noncomputable def G : List (Nat × Con) := [(185, spec_NoKeys.con), (237, spec_EqualKeys.con), (238, spec_SameContents.con)]
noncomputable abbrev E : Env := ⟨assoc Tab, conG G, 39⟩
set_option maxRecDepth 100000
theorem run_eq (n : Nat) (ls : List L) : runF E live Tryz.f190 res n (initS pats ls) = F (RHead.dec ls) (RHead.dec (dropT 16 ls)) := by kernel_rfl
noncomputable def md (a0 : MHead) (a1 : MHead) : Int := (bif a0.fFrozen then (4 : Int) else (bif (spec_NoKeys.md a0.fHeirs) then (5 : Int) else (bif (decide (a1.fTime < (IntKind.i64.wrap (a0.fUntil + a0.fWait)))) then (5 : Int) else (bif a1.fFrozen then (6 : Int) else (bif (!(spec_EqualKeys.md a1.fKeys a0.fHeirs)) then (6 : Int) else (bif (!(spec_SameContents.md a1 a0)) then (6 : Int) else (1 : Int)))))))
def gd (a0 : MHead) (a1 : MHead) : Prop := (MHead.Sm (2 ^ 21) a0) ∧ (MHead.Sm (2 ^ 21) a1)
def rf (a : MHead × MHead) : RHead × RHead := ((MHead.r a.1), (MHead.r a.2))
theorem rf_inj (a b : MHead × MHead) (h : rf a = rf b) : a = b := by
  exact (Prod.ext (MHead.r_inj (congrArg (fun x => x.1) h)) (MHead.r_inj (congrArg (fun x => x.2) h)))
noncomputable def R (x0 : RHead) (x1 : RHead) : Option (Int) := ofM rf (fun a => gd a.1 a.2) (fun a => (md a.1 a.2)) (x0, x1)
theorem R_eq {a0 : MHead} {a1 : MHead} (h : gd a0 a1) : R (MHead.r a0) (MHead.r a1) = some (md a0 a1) := ofM_eq (r := rf) (a := (a0, a1)) rf_inj h
theorem okF (a0 : MHead) (a1 : MHead) (hg : gd a0 a1) : F (MHead.r a0) (MHead.r a1) = ret ((md a0 a1) : Int) := by
  unfold gd at hg
  obtain ⟨H0, H1⟩ := hg
  unfold F md
  try simp only [bytesL_map, List.length_map, toNat_nat, iAt_getD, bAt_getD, sAt_getD, lAt_getD, MHead.r_fTime, MHead.r_fUntil, MHead.r_fKeys, MHead.r_fHeirs, MHead.r_fWait, MHead.r_fFrozen]
  refine bif_out (fun b : Int => ret (b : Int)) (fun c1 => ?_) (fun c1 => ?_)
  · all_goals first | rfl | (simp only [bytesL_map, List.length_map, toNat_nat, iAt_getD, bAt_getD, sAt_getD, lAt_getD, MHead.r_fTime, MHead.r_fUntil, MHead.r_fKeys, MHead.r_fHeirs, MHead.r_fWait, MHead.r_fFrozen]; done) | (simp only [List.map_append, List.map_cons, List.map_nil, List.cons_append, List.nil_append, iRow, sRow, bRow, lRow, List.map_set]; rfl) | (simp only [bytesL_map, List.length_map, toNat_nat, iAt_getD, bAt_getD, sAt_getD, lAt_getD, MHead.r_fTime, MHead.r_fUntil, MHead.r_fKeys, MHead.r_fHeirs, MHead.r_fWait, MHead.r_fFrozen, List.map_append, List.map_cons, List.map_nil, List.cons_append, List.nil_append, iRow, sRow, bRow, lRow, List.map_set]; first | done | rfl)
  · refine call_to (spec_NoKeys.md a0.fHeirs) ?_ ?_
    · have R_ := spec_NoKeys.R_eq (a0 := a0.fHeirs) trivial
      first | exact R_ | (simp only [List.map_append, List.map_cons, List.map_nil, List.cons_append, List.nil_append, iRow, sRow, bRow, lRow, List.map_set, bytesL_map, List.length_map, toNat_nat, iAt_getD, bAt_getD, sAt_getD, lAt_getD, MHead.r_fTime, MHead.r_fUntil, MHead.r_fKeys, MHead.r_fHeirs, MHead.r_fWait, MHead.r_fFrozen] at R_ ⊢; first | exact R_ | (rw [← R_]; rfl))
    try simp only [bytesL_map, List.length_map, toNat_nat, iAt_getD, bAt_getD, sAt_getD, lAt_getD, MHead.r_fTime, MHead.r_fUntil, MHead.r_fKeys, MHead.r_fHeirs, MHead.r_fWait, MHead.r_fFrozen]
    refine bif_out (fun b : Int => ret (b : Int)) (fun c2 => ?_) (fun c2 => ?_)
    · all_goals first | rfl | (simp only [bytesL_map, List.length_map, toNat_nat, iAt_getD, bAt_getD, sAt_getD, lAt_getD, MHead.r_fTime, MHead.r_fUntil, MHead.r_fKeys, MHead.r_fHeirs, MHead.r_fWait, MHead.r_fFrozen]; done) | (simp only [List.map_append, List.map_cons, List.map_nil, List.cons_append, List.nil_append, iRow, sRow, bRow, lRow, List.map_set]; rfl) | (simp only [bytesL_map, List.length_map, toNat_nat, iAt_getD, bAt_getD, sAt_getD, lAt_getD, MHead.r_fTime, MHead.r_fUntil, MHead.r_fKeys, MHead.r_fHeirs, MHead.r_fWait, MHead.r_fFrozen, List.map_append, List.map_cons, List.map_nil, List.cons_append, List.nil_append, iRow, sRow, bRow, lRow, List.map_set]; first | done | rfl)
    · refine bif_out (fun b : Int => ret (b : Int)) (fun c3 => ?_) (fun c3 => ?_)
      · have dc3 := c3
        simp only [decide_eq_true_eq, decide_eq_false_iff_not] at dc3
        all_goals first | rfl | (simp only [bytesL_map, List.length_map, toNat_nat, iAt_getD, bAt_getD, sAt_getD, lAt_getD, MHead.r_fTime, MHead.r_fUntil, MHead.r_fKeys, MHead.r_fHeirs, MHead.r_fWait, MHead.r_fFrozen]; done) | (simp only [List.map_append, List.map_cons, List.map_nil, List.cons_append, List.nil_append, iRow, sRow, bRow, lRow, List.map_set]; rfl) | (simp only [bytesL_map, List.length_map, toNat_nat, iAt_getD, bAt_getD, sAt_getD, lAt_getD, MHead.r_fTime, MHead.r_fUntil, MHead.r_fKeys, MHead.r_fHeirs, MHead.r_fWait, MHead.r_fFrozen, List.map_append, List.map_cons, List.map_nil, List.cons_append, List.nil_append, iRow, sRow, bRow, lRow, List.map_set]; first | done | rfl)
      · have dc3 := c3
        simp only [decide_eq_true_eq, decide_eq_false_iff_not] at dc3
        refine bif_out (fun b : Int => ret (b : Int)) (fun c4 => ?_) (fun c4 => ?_)
        · all_goals first | rfl | (simp only [bytesL_map, List.length_map, toNat_nat, iAt_getD, bAt_getD, sAt_getD, lAt_getD, MHead.r_fTime, MHead.r_fUntil, MHead.r_fKeys, MHead.r_fHeirs, MHead.r_fWait, MHead.r_fFrozen]; done) | (simp only [List.map_append, List.map_cons, List.map_nil, List.cons_append, List.nil_append, iRow, sRow, bRow, lRow, List.map_set]; rfl) | (simp only [bytesL_map, List.length_map, toNat_nat, iAt_getD, bAt_getD, sAt_getD, lAt_getD, MHead.r_fTime, MHead.r_fUntil, MHead.r_fKeys, MHead.r_fHeirs, MHead.r_fWait, MHead.r_fFrozen, List.map_append, List.map_cons, List.map_nil, List.cons_append, List.nil_append, iRow, sRow, bRow, lRow, List.map_set]; first | done | rfl)
        · refine call_to (spec_EqualKeys.md a1.fKeys a0.fHeirs) ?_ ?_
          · have R_ := spec_EqualKeys.R_eq (a0 := a1.fKeys) (a1 := a0.fHeirs) ⟨H1.1, H0.2.1⟩
            first | exact R_ | (simp only [List.map_append, List.map_cons, List.map_nil, List.cons_append, List.nil_append, iRow, sRow, bRow, lRow, List.map_set, bytesL_map, List.length_map, toNat_nat, iAt_getD, bAt_getD, sAt_getD, lAt_getD, MHead.r_fTime, MHead.r_fUntil, MHead.r_fKeys, MHead.r_fHeirs, MHead.r_fWait, MHead.r_fFrozen] at R_ ⊢; first | exact R_ | (rw [← R_]; rfl))
          try simp only [bytesL_map, List.length_map, toNat_nat, iAt_getD, bAt_getD, sAt_getD, lAt_getD, MHead.r_fTime, MHead.r_fUntil, MHead.r_fKeys, MHead.r_fHeirs, MHead.r_fWait, MHead.r_fFrozen]
          refine bif_out (fun b : Int => ret (b : Int)) (fun c5 => ?_) (fun c5 => ?_)
          · have dc5 := c5
            try simp only [bne_eq_false_iff_eq, bne_iff_ne, beq_iff_eq, beq_eq_false_iff_ne, ne_eq, Bool.not_eq_true', Bool.not_eq_false'] at dc5
            all_goals first | rfl | (simp only [bytesL_map, List.length_map, toNat_nat, iAt_getD, bAt_getD, sAt_getD, lAt_getD, MHead.r_fTime, MHead.r_fUntil, MHead.r_fKeys, MHead.r_fHeirs, MHead.r_fWait, MHead.r_fFrozen]; done) | (simp only [List.map_append, List.map_cons, List.map_nil, List.cons_append, List.nil_append, iRow, sRow, bRow, lRow, List.map_set]; rfl) | (simp only [bytesL_map, List.length_map, toNat_nat, iAt_getD, bAt_getD, sAt_getD, lAt_getD, MHead.r_fTime, MHead.r_fUntil, MHead.r_fKeys, MHead.r_fHeirs, MHead.r_fWait, MHead.r_fFrozen, List.map_append, List.map_cons, List.map_nil, List.cons_append, List.nil_append, iRow, sRow, bRow, lRow, List.map_set]; first | done | rfl)
          · have dc5 := c5
            try simp only [bne_eq_false_iff_eq, bne_iff_ne, beq_iff_eq, beq_eq_false_iff_ne, ne_eq, Bool.not_eq_true', Bool.not_eq_false'] at dc5
            refine call_to (spec_SameContents.md a1 a0) ?_ ?_
            · have R_ := spec_SameContents.R_eq (a0 := a1) (a1 := a0) trivial
              first | exact R_ | (simp only [List.map_append, List.map_cons, List.map_nil, List.cons_append, List.nil_append, iRow, sRow, bRow, lRow, List.map_set, bytesL_map, List.length_map, toNat_nat, iAt_getD, bAt_getD, sAt_getD, lAt_getD, MHead.r_fTime, MHead.r_fUntil, MHead.r_fKeys, MHead.r_fHeirs, MHead.r_fWait, MHead.r_fFrozen] at R_ ⊢; first | exact R_ | (rw [← R_]; rfl))
            try simp only [bytesL_map, List.length_map, toNat_nat, iAt_getD, bAt_getD, sAt_getD, lAt_getD, MHead.r_fTime, MHead.r_fUntil, MHead.r_fKeys, MHead.r_fHeirs, MHead.r_fWait, MHead.r_fFrozen]
            refine bif_out (fun b : Int => ret (b : Int)) (fun c6 => ?_) (fun c6 => ?_)
            · have dc6 := c6
              try simp only [bne_eq_false_iff_eq, bne_iff_ne, beq_iff_eq, beq_eq_false_iff_ne, ne_eq, Bool.not_eq_true', Bool.not_eq_false'] at dc6
              all_goals first | rfl | (simp only [bytesL_map, List.length_map, toNat_nat, iAt_getD, bAt_getD, sAt_getD, lAt_getD, MHead.r_fTime, MHead.r_fUntil, MHead.r_fKeys, MHead.r_fHeirs, MHead.r_fWait, MHead.r_fFrozen]; done) | (simp only [List.map_append, List.map_cons, List.map_nil, List.cons_append, List.nil_append, iRow, sRow, bRow, lRow, List.map_set]; rfl) | (simp only [bytesL_map, List.length_map, toNat_nat, iAt_getD, bAt_getD, sAt_getD, lAt_getD, MHead.r_fTime, MHead.r_fUntil, MHead.r_fKeys, MHead.r_fHeirs, MHead.r_fWait, MHead.r_fFrozen, List.map_append, List.map_cons, List.map_nil, List.cons_append, List.nil_append, iRow, sRow, bRow, lRow, List.map_set]; first | done | rfl)
            · have dc6 := c6
              try simp only [bne_eq_false_iff_eq, bne_iff_ne, beq_iff_eq, beq_eq_false_iff_ne, ne_eq, Bool.not_eq_true', Bool.not_eq_false'] at dc6
              all_goals first | rfl | (simp only [bytesL_map, List.length_map, toNat_nat, iAt_getD, bAt_getD, sAt_getD, lAt_getD, MHead.r_fTime, MHead.r_fUntil, MHead.r_fKeys, MHead.r_fHeirs, MHead.r_fWait, MHead.r_fFrozen]; done) | (simp only [List.map_append, List.map_cons, List.map_nil, List.cons_append, List.nil_append, iRow, sRow, bRow, lRow, List.map_set]; rfl) | (simp only [bytesL_map, List.length_map, toNat_nat, iAt_getD, bAt_getD, sAt_getD, lAt_getD, MHead.r_fTime, MHead.r_fUntil, MHead.r_fKeys, MHead.r_fHeirs, MHead.r_fWait, MHead.r_fFrozen, List.map_append, List.map_cons, List.map_nil, List.cons_append, List.nil_append, iRow, sRow, bRow, lRow, List.map_set]; first | done | rfl)
noncomputable def sem (ls : List L) : Option (List L) := (R (RHead.dec ls) (RHead.dec (dropT 16 ls))).map RT.enc
theorem ok (ls q : List L) (hl : LOKs Ev.cells pats ls) (h : sem ls = some q) : ∃ n, runF E live Tryz.f190 res n (initS pats ls) = some q := by
  obtain ⟨v, hv, hq⟩ := map_some h
  obtain ⟨⟨a0, a1⟩, hg, e, hm⟩ := ofM_some hv
  simp only [rf, Prod.mk.injEq] at e
  obtain ⟨e0, e1⟩ := e
  have hn := okF a0 a1 hg
  refine ⟨0, (run_eq 0 ls).trans ?_⟩
  rw [← e0, ← e1]
  rw [hn, ← hq, hm]; rfl
noncomputable def con : Con := ⟨pats, res, sem⟩
theorem chk : fnB Tryz.f190 con 39 = true := by kernel_rfl
theorem valid_ : Valid Tryz.prog Ev 190 con := valid mix tab_ok (.cons spec_NoKeys.valid_ (.cons spec_EqualKeys.valid_ (.cons spec_SameContents.valid_ .nil))) Tryz.func190 chk live ok
end spec_l15Heir
/-! spec.l15Judge -/
namespace spec_l15Judge
noncomputable def F (x0 : RHead) (x1 : RHead) : Ans := (call (spec_NoKeys.R x0.fJudge) fun v1 => (bif v1 then ret (5 : Int) else (bif (x1.fFrozen == x0.fFrozen) then ret (6 : Int) else (call (spec_SameContents.R x1 x0) fun v2 => (bif (!v2) then ret (6 : Int) else (call (spec_EqualKeys.R x1.fJudge x0.fJudge) fun v3 => (bif (!v3) then ret (6 : Int) else (call (spec_EqualKeys.R x1.fHeirs x0.fHeirs) fun v4 => (bif (!v4) then ret (6 : Int) else (bif (x1.fWait != x0.fWait) then ret (6 : Int) else (bif x1.fFrozen then (call (spec_EqualKeys.R x1.fKeys x0.fKeys) fun v5 => (bif (!v5) then ret (6 : Int) else ret (1 : Int))) else ret (1 : Int))))))))))))
def live : Nat → Live := fun _ => []
def pats : List Pat := [.agg [.int .i64, .int .i64, .int .i64, .int .i64, .int .i64, .int .i64, .int .i64, .int .i64, .sl 3, .int .i64, .sl 3, .int .i64, .int .i64, .sl 3, .int .i64, .bool], .agg [.int .i64, .int .i64, .int .i64, .int .i64, .int .i64, .int .i64, .int .i64, .int .i64, .sl 3, .int .i64, .sl 3, .int .i64, .int .i64, .sl 3, .int .i64, .bool]]
def res : RP := .one (.rd (.int .i64))
noncomputable def G : List (Nat × Con) := [(185, spec_NoKeys.con), (238, spec_SameContents.con), (237, spec_EqualKeys.con)]
noncomputable abbrev E : Env := ⟨assoc Tab, conG G, 55⟩
set_option maxRecDepth 100000
theorem run_eq (n : Nat) (ls : List L) : runF E live Tryz.f191 res n (initS pats ls) = F (RHead.dec ls) (RHead.dec (dropT 16 ls)) := by kernel_rfl
noncomputable def md (a0 : MHead) (a1 : MHead) : Int := (bif (spec_NoKeys.md a0.fJudge) then (5 : Int) else (bif (a1.fFrozen == a0.fFrozen) then (6 : Int) else (bif (!(spec_SameContents.md a1 a0)) then (6 : Int) else (bif (!(spec_EqualKeys.md a1.fJudge a0.fJudge)) then (6 : Int) else (bif (!(spec_EqualKeys.md a1.fHeirs a0.fHeirs)) then (6 : Int) else (bif (a1.fWait != a0.fWait) then (6 : Int) else (bif a1.fFrozen then (bif (!(spec_EqualKeys.md a1.fKeys a0.fKeys)) then (6 : Int) else (1 : Int)) else (1 : Int))))))))
def gd (a0 : MHead) (a1 : MHead) : Prop := (MHead.Sm (2 ^ 21) a0) ∧ (MHead.Sm (2 ^ 21) a1)
def rf (a : MHead × MHead) : RHead × RHead := ((MHead.r a.1), (MHead.r a.2))
theorem rf_inj (a b : MHead × MHead) (h : rf a = rf b) : a = b := by
  exact (Prod.ext (MHead.r_inj (congrArg (fun x => x.1) h)) (MHead.r_inj (congrArg (fun x => x.2) h)))
noncomputable def R (x0 : RHead) (x1 : RHead) : Option (Int) := ofM rf (fun a => gd a.1 a.2) (fun a => (md a.1 a.2)) (x0, x1)
theorem R_eq {a0 : MHead} {a1 : MHead} (h : gd a0 a1) : R (MHead.r a0) (MHead.r a1) = some (md a0 a1) := ofM_eq (r := rf) (a := (a0, a1)) rf_inj h
theorem okF (a0 : MHead) (a1 : MHead) (hg : gd a0 a1) : F (MHead.r a0) (MHead.r a1) = ret ((md a0 a1) : Int) := by
  unfold gd at hg
  obtain ⟨H0, H1⟩ := hg
  unfold F md
  try simp only [bytesL_map, List.length_map, toNat_nat, iAt_getD, bAt_getD, sAt_getD, lAt_getD, MHead.r_fKeys, MHead.r_fHeirs, MHead.r_fWait, MHead.r_fJudge, MHead.r_fFrozen]
  refine call_to (spec_NoKeys.md a0.fJudge) ?_ ?_
  · have R_ := spec_NoKeys.R_eq (a0 := a0.fJudge) trivial
    first | exact R_ | (simp only [List.map_append, List.map_cons, List.map_nil, List.cons_append, List.nil_append, iRow, sRow, bRow, lRow, List.map_set, bytesL_map, List.length_map, toNat_nat, iAt_getD, bAt_getD, sAt_getD, lAt_getD, MHead.r_fKeys, MHead.r_fHeirs, MHead.r_fWait, MHead.r_fJudge, MHead.r_fFrozen] at R_ ⊢; first | exact R_ | (rw [← R_]; rfl))
  try simp only [bytesL_map, List.length_map, toNat_nat, iAt_getD, bAt_getD, sAt_getD, lAt_getD, MHead.r_fKeys, MHead.r_fHeirs, MHead.r_fWait, MHead.r_fJudge, MHead.r_fFrozen]
  refine bif_out (fun b : Int => ret (b : Int)) (fun c1 => ?_) (fun c1 => ?_)
  · all_goals first | rfl | (simp only [bytesL_map, List.length_map, toNat_nat, iAt_getD, bAt_getD, sAt_getD, lAt_getD, MHead.r_fKeys, MHead.r_fHeirs, MHead.r_fWait, MHead.r_fJudge, MHead.r_fFrozen]; done) | (simp only [List.map_append, List.map_cons, List.map_nil, List.cons_append, List.nil_append, iRow, sRow, bRow, lRow, List.map_set]; rfl) | (simp only [bytesL_map, List.length_map, toNat_nat, iAt_getD, bAt_getD, sAt_getD, lAt_getD, MHead.r_fKeys, MHead.r_fHeirs, MHead.r_fWait, MHead.r_fJudge, MHead.r_fFrozen, List.map_append, List.map_cons, List.map_nil, List.cons_append, List.nil_append, iRow, sRow, bRow, lRow, List.map_set]; first | done | rfl)
  · refine bif_out (fun b : Int => ret (b : Int)) (fun c2 => ?_) (fun c2 => ?_)
    · have dc2 := c2
      try simp only [bne_eq_false_iff_eq, bne_iff_ne, beq_iff_eq, beq_eq_false_iff_ne, ne_eq, Bool.not_eq_true', Bool.not_eq_false'] at dc2
      all_goals first | rfl | (simp only [bytesL_map, List.length_map, toNat_nat, iAt_getD, bAt_getD, sAt_getD, lAt_getD, MHead.r_fKeys, MHead.r_fHeirs, MHead.r_fWait, MHead.r_fJudge, MHead.r_fFrozen]; done) | (simp only [List.map_append, List.map_cons, List.map_nil, List.cons_append, List.nil_append, iRow, sRow, bRow, lRow, List.map_set]; rfl) | (simp only [bytesL_map, List.length_map, toNat_nat, iAt_getD, bAt_getD, sAt_getD, lAt_getD, MHead.r_fKeys, MHead.r_fHeirs, MHead.r_fWait, MHead.r_fJudge, MHead.r_fFrozen, List.map_append, List.map_cons, List.map_nil, List.cons_append, List.nil_append, iRow, sRow, bRow, lRow, List.map_set]; first | done | rfl)
    · have dc2 := c2
      try simp only [bne_eq_false_iff_eq, bne_iff_ne, beq_iff_eq, beq_eq_false_iff_ne, ne_eq, Bool.not_eq_true', Bool.not_eq_false'] at dc2
      refine call_to (spec_SameContents.md a1 a0) ?_ ?_
      · have R_ := spec_SameContents.R_eq (a0 := a1) (a1 := a0) trivial
        first | exact R_ | (simp only [List.map_append, List.map_cons, List.map_nil, List.cons_append, List.nil_append, iRow, sRow, bRow, lRow, List.map_set, bytesL_map, List.length_map, toNat_nat, iAt_getD, bAt_getD, sAt_getD, lAt_getD, MHead.r_fKeys, MHead.r_fHeirs, MHead.r_fWait, MHead.r_fJudge, MHead.r_fFrozen] at R_ ⊢; first | exact R_ | (rw [← R_]; rfl))
      try simp only [bytesL_map, List.length_map, toNat_nat, iAt_getD, bAt_getD, sAt_getD, lAt_getD, MHead.r_fKeys, MHead.r_fHeirs, MHead.r_fWait, MHead.r_fJudge, MHead.r_fFrozen]
      refine bif_out (fun b : Int => ret (b : Int)) (fun c3 => ?_) (fun c3 => ?_)
      · have dc3 := c3
        try simp only [bne_eq_false_iff_eq, bne_iff_ne, beq_iff_eq, beq_eq_false_iff_ne, ne_eq, Bool.not_eq_true', Bool.not_eq_false'] at dc3
        all_goals first | rfl | (simp only [bytesL_map, List.length_map, toNat_nat, iAt_getD, bAt_getD, sAt_getD, lAt_getD, MHead.r_fKeys, MHead.r_fHeirs, MHead.r_fWait, MHead.r_fJudge, MHead.r_fFrozen]; done) | (simp only [List.map_append, List.map_cons, List.map_nil, List.cons_append, List.nil_append, iRow, sRow, bRow, lRow, List.map_set]; rfl) | (simp only [bytesL_map, List.length_map, toNat_nat, iAt_getD, bAt_getD, sAt_getD, lAt_getD, MHead.r_fKeys, MHead.r_fHeirs, MHead.r_fWait, MHead.r_fJudge, MHead.r_fFrozen, List.map_append, List.map_cons, List.map_nil, List.cons_append, List.nil_append, iRow, sRow, bRow, lRow, List.map_set]; first | done | rfl)
      · have dc3 := c3
        try simp only [bne_eq_false_iff_eq, bne_iff_ne, beq_iff_eq, beq_eq_false_iff_ne, ne_eq, Bool.not_eq_true', Bool.not_eq_false'] at dc3
        refine call_to (spec_EqualKeys.md a1.fJudge a0.fJudge) ?_ ?_
        · have R_ := spec_EqualKeys.R_eq (a0 := a1.fJudge) (a1 := a0.fJudge) ⟨H1.2.2, H0.2.2⟩
          first | exact R_ | (simp only [List.map_append, List.map_cons, List.map_nil, List.cons_append, List.nil_append, iRow, sRow, bRow, lRow, List.map_set, bytesL_map, List.length_map, toNat_nat, iAt_getD, bAt_getD, sAt_getD, lAt_getD, MHead.r_fKeys, MHead.r_fHeirs, MHead.r_fWait, MHead.r_fJudge, MHead.r_fFrozen] at R_ ⊢; first | exact R_ | (rw [← R_]; rfl))
        try simp only [bytesL_map, List.length_map, toNat_nat, iAt_getD, bAt_getD, sAt_getD, lAt_getD, MHead.r_fKeys, MHead.r_fHeirs, MHead.r_fWait, MHead.r_fJudge, MHead.r_fFrozen]
        refine bif_out (fun b : Int => ret (b : Int)) (fun c4 => ?_) (fun c4 => ?_)
        · have dc4 := c4
          try simp only [bne_eq_false_iff_eq, bne_iff_ne, beq_iff_eq, beq_eq_false_iff_ne, ne_eq, Bool.not_eq_true', Bool.not_eq_false'] at dc4
          all_goals first | rfl | (simp only [bytesL_map, List.length_map, toNat_nat, iAt_getD, bAt_getD, sAt_getD, lAt_getD, MHead.r_fKeys, MHead.r_fHeirs, MHead.r_fWait, MHead.r_fJudge, MHead.r_fFrozen]; done) | (simp only [List.map_append, List.map_cons, List.map_nil, List.cons_append, List.nil_append, iRow, sRow, bRow, lRow, List.map_set]; rfl) | (simp only [bytesL_map, List.length_map, toNat_nat, iAt_getD, bAt_getD, sAt_getD, lAt_getD, MHead.r_fKeys, MHead.r_fHeirs, MHead.r_fWait, MHead.r_fJudge, MHead.r_fFrozen, List.map_append, List.map_cons, List.map_nil, List.cons_append, List.nil_append, iRow, sRow, bRow, lRow, List.map_set]; first | done | rfl)
        · have dc4 := c4
          try simp only [bne_eq_false_iff_eq, bne_iff_ne, beq_iff_eq, beq_eq_false_iff_ne, ne_eq, Bool.not_eq_true', Bool.not_eq_false'] at dc4
          refine call_to (spec_EqualKeys.md a1.fHeirs a0.fHeirs) ?_ ?_
          · have R_ := spec_EqualKeys.R_eq (a0 := a1.fHeirs) (a1 := a0.fHeirs) ⟨H1.2.1, H0.2.1⟩
            first | exact R_ | (simp only [List.map_append, List.map_cons, List.map_nil, List.cons_append, List.nil_append, iRow, sRow, bRow, lRow, List.map_set, bytesL_map, List.length_map, toNat_nat, iAt_getD, bAt_getD, sAt_getD, lAt_getD, MHead.r_fKeys, MHead.r_fHeirs, MHead.r_fWait, MHead.r_fJudge, MHead.r_fFrozen] at R_ ⊢; first | exact R_ | (rw [← R_]; rfl))
          try simp only [bytesL_map, List.length_map, toNat_nat, iAt_getD, bAt_getD, sAt_getD, lAt_getD, MHead.r_fKeys, MHead.r_fHeirs, MHead.r_fWait, MHead.r_fJudge, MHead.r_fFrozen]
          refine bif_out (fun b : Int => ret (b : Int)) (fun c5 => ?_) (fun c5 => ?_)
          · have dc5 := c5
            try simp only [bne_eq_false_iff_eq, bne_iff_ne, beq_iff_eq, beq_eq_false_iff_ne, ne_eq, Bool.not_eq_true', Bool.not_eq_false'] at dc5
            all_goals first | rfl | (simp only [bytesL_map, List.length_map, toNat_nat, iAt_getD, bAt_getD, sAt_getD, lAt_getD, MHead.r_fKeys, MHead.r_fHeirs, MHead.r_fWait, MHead.r_fJudge, MHead.r_fFrozen]; done) | (simp only [List.map_append, List.map_cons, List.map_nil, List.cons_append, List.nil_append, iRow, sRow, bRow, lRow, List.map_set]; rfl) | (simp only [bytesL_map, List.length_map, toNat_nat, iAt_getD, bAt_getD, sAt_getD, lAt_getD, MHead.r_fKeys, MHead.r_fHeirs, MHead.r_fWait, MHead.r_fJudge, MHead.r_fFrozen, List.map_append, List.map_cons, List.map_nil, List.cons_append, List.nil_append, iRow, sRow, bRow, lRow, List.map_set]; first | done | rfl)
          · have dc5 := c5
            try simp only [bne_eq_false_iff_eq, bne_iff_ne, beq_iff_eq, beq_eq_false_iff_ne, ne_eq, Bool.not_eq_true', Bool.not_eq_false'] at dc5
            refine bif_out (fun b : Int => ret (b : Int)) (fun c6 => ?_) (fun c6 => ?_)
            · have dc6 := c6
              try simp only [bne_eq_false_iff_eq, bne_iff_ne, beq_iff_eq, beq_eq_false_iff_ne, ne_eq, Bool.not_eq_true', Bool.not_eq_false'] at dc6
              all_goals first | rfl | (simp only [bytesL_map, List.length_map, toNat_nat, iAt_getD, bAt_getD, sAt_getD, lAt_getD, MHead.r_fKeys, MHead.r_fHeirs, MHead.r_fWait, MHead.r_fJudge, MHead.r_fFrozen]; done) | (simp only [List.map_append, List.map_cons, List.map_nil, List.cons_append, List.nil_append, iRow, sRow, bRow, lRow, List.map_set]; rfl) | (simp only [bytesL_map, List.length_map, toNat_nat, iAt_getD, bAt_getD, sAt_getD, lAt_getD, MHead.r_fKeys, MHead.r_fHeirs, MHead.r_fWait, MHead.r_fJudge, MHead.r_fFrozen, List.map_append, List.map_cons, List.map_nil, List.cons_append, List.nil_append, iRow, sRow, bRow, lRow, List.map_set]; first | done | rfl)
            · have dc6 := c6
              try simp only [bne_eq_false_iff_eq, bne_iff_ne, beq_iff_eq, beq_eq_false_iff_ne, ne_eq, Bool.not_eq_true', Bool.not_eq_false'] at dc6
              refine bif_out (fun b : Int => ret (b : Int)) (fun c7 => ?_) (fun c7 => ?_)
              · refine call_to (spec_EqualKeys.md a1.fKeys a0.fKeys) ?_ ?_
                · have R_ := spec_EqualKeys.R_eq (a0 := a1.fKeys) (a1 := a0.fKeys) ⟨H1.1, H0.1⟩
                  first | exact R_ | (simp only [List.map_append, List.map_cons, List.map_nil, List.cons_append, List.nil_append, iRow, sRow, bRow, lRow, List.map_set, bytesL_map, List.length_map, toNat_nat, iAt_getD, bAt_getD, sAt_getD, lAt_getD, MHead.r_fKeys, MHead.r_fHeirs, MHead.r_fWait, MHead.r_fJudge, MHead.r_fFrozen] at R_ ⊢; first | exact R_ | (rw [← R_]; rfl))
                try simp only [bytesL_map, List.length_map, toNat_nat, iAt_getD, bAt_getD, sAt_getD, lAt_getD, MHead.r_fKeys, MHead.r_fHeirs, MHead.r_fWait, MHead.r_fJudge, MHead.r_fFrozen]
                refine bif_out (fun b : Int => ret (b : Int)) (fun c8 => ?_) (fun c8 => ?_)
                · have dc8 := c8
                  try simp only [bne_eq_false_iff_eq, bne_iff_ne, beq_iff_eq, beq_eq_false_iff_ne, ne_eq, Bool.not_eq_true', Bool.not_eq_false'] at dc8
                  all_goals first | rfl | (simp only [bytesL_map, List.length_map, toNat_nat, iAt_getD, bAt_getD, sAt_getD, lAt_getD, MHead.r_fKeys, MHead.r_fHeirs, MHead.r_fWait, MHead.r_fJudge, MHead.r_fFrozen]; done) | (simp only [List.map_append, List.map_cons, List.map_nil, List.cons_append, List.nil_append, iRow, sRow, bRow, lRow, List.map_set]; rfl) | (simp only [bytesL_map, List.length_map, toNat_nat, iAt_getD, bAt_getD, sAt_getD, lAt_getD, MHead.r_fKeys, MHead.r_fHeirs, MHead.r_fWait, MHead.r_fJudge, MHead.r_fFrozen, List.map_append, List.map_cons, List.map_nil, List.cons_append, List.nil_append, iRow, sRow, bRow, lRow, List.map_set]; first | done | rfl)
                · have dc8 := c8
                  try simp only [bne_eq_false_iff_eq, bne_iff_ne, beq_iff_eq, beq_eq_false_iff_ne, ne_eq, Bool.not_eq_true', Bool.not_eq_false'] at dc8
                  all_goals first | rfl | (simp only [bytesL_map, List.length_map, toNat_nat, iAt_getD, bAt_getD, sAt_getD, lAt_getD, MHead.r_fKeys, MHead.r_fHeirs, MHead.r_fWait, MHead.r_fJudge, MHead.r_fFrozen]; done) | (simp only [List.map_append, List.map_cons, List.map_nil, List.cons_append, List.nil_append, iRow, sRow, bRow, lRow, List.map_set]; rfl) | (simp only [bytesL_map, List.length_map, toNat_nat, iAt_getD, bAt_getD, sAt_getD, lAt_getD, MHead.r_fKeys, MHead.r_fHeirs, MHead.r_fWait, MHead.r_fJudge, MHead.r_fFrozen, List.map_append, List.map_cons, List.map_nil, List.cons_append, List.nil_append, iRow, sRow, bRow, lRow, List.map_set]; first | done | rfl)
              · all_goals first | rfl | (simp only [bytesL_map, List.length_map, toNat_nat, iAt_getD, bAt_getD, sAt_getD, lAt_getD, MHead.r_fKeys, MHead.r_fHeirs, MHead.r_fWait, MHead.r_fJudge, MHead.r_fFrozen]; done) | (simp only [List.map_append, List.map_cons, List.map_nil, List.cons_append, List.nil_append, iRow, sRow, bRow, lRow, List.map_set]; rfl) | (simp only [bytesL_map, List.length_map, toNat_nat, iAt_getD, bAt_getD, sAt_getD, lAt_getD, MHead.r_fKeys, MHead.r_fHeirs, MHead.r_fWait, MHead.r_fJudge, MHead.r_fFrozen, List.map_append, List.map_cons, List.map_nil, List.cons_append, List.nil_append, iRow, sRow, bRow, lRow, List.map_set]; first | done | rfl)
noncomputable def sem (ls : List L) : Option (List L) := (R (RHead.dec ls) (RHead.dec (dropT 16 ls))).map RT.enc
theorem ok (ls q : List L) (hl : LOKs Ev.cells pats ls) (h : sem ls = some q) : ∃ n, runF E live Tryz.f191 res n (initS pats ls) = some q := by
  obtain ⟨v, hv, hq⟩ := map_some h
  obtain ⟨⟨a0, a1⟩, hg, e, hm⟩ := ofM_some hv
  simp only [rf, Prod.mk.injEq] at e
  obtain ⟨e0, e1⟩ := e
  have hn := okF a0 a1 hg
  refine ⟨0, (run_eq 0 ls).trans ?_⟩
  rw [← e0, ← e1]
  rw [hn, ← hq, hm]; rfl
noncomputable def con : Con := ⟨pats, res, sem⟩
theorem chk : fnB Tryz.f191 con 55 = true := by kernel_rfl
theorem valid_ : Valid Tryz.prog Ev 191 con := valid mix tab_ok (.cons spec_NoKeys.valid_ (.cons spec_SameContents.valid_ (.cons spec_EqualKeys.valid_ .nil))) Tryz.func191 chk live ok
end spec_l15Judge
/-! spec.NextCode -/
namespace spec_NextCode
noncomputable def F (x0 : RHead) (x1 : RSigned) : Ans := (call (spec_IsHead.R x0) fun v1 => (bif (!v1) then ret (2 : Int) else (call (spec_IsHead.R x1.fHead) fun v2 => (bif (!v2) then ret (2 : Int) else (bif (x1.fHead.fZone != x0.fZone) then ret (3 : Int) else (bif (x1.fHead.fEpoch != (IntKind.i64.wrap (x0.fEpoch + 1))) then ret (3 : Int) else (call (spec_HeadDigest.R x0) fun v3 => (bif (x1.fHead.fPrev != v3) then ret (3 : Int) else (bif (decide (x1.fHead.fTime < x0.fTime)) then ret (3 : Int) else (call (spec_l15Owner.R x0 x1.fHead) fun v4 => (bif (x1.fHead.fKind == 2) then (call (spec_l15Heir.R x0 x1.fHead) fun v5 => (bif (v5 == 1) then (call (spec_HeadInts.R x1.fHead) fun v6 => (call (spec_IsSigned.R x0.fHeirs v6 x1.fSigs) fun v7 => (bif (!v7) then ret (7 : Int) else ret (v5 : Int)))) else ret (v5 : Int))) else (bif (x1.fHead.fKind == 3) then (call (spec_l15Judge.R x0 x1.fHead) fun v8 => (bif (v8 == 1) then (call (spec_HeadInts.R x1.fHead) fun v9 => (call (spec_IsSigned.R x0.fJudge v9 x1.fSigs) fun v10 => (bif (!v10) then ret (7 : Int) else ret (v8 : Int)))) else ret (v8 : Int))) else (bif (v4 == 1) then (call (spec_HeadInts.R x1.fHead) fun v11 => (call (spec_IsSigned.R x0.fKeys v11 x1.fSigs) fun v12 => (bif (!v12) then ret (7 : Int) else ret (v4 : Int)))) else ret (v4 : Int))))))))))))))
def live : Nat → Live := fun _ => []
def pats : List Pat := [.agg [.int .i64, .int .i64, .int .i64, .int .i64, .int .i64, .int .i64, .int .i64, .int .i64, .sl 3, .int .i64, .sl 3, .int .i64, .int .i64, .sl 3, .int .i64, .bool], .agg [.int .i64, .int .i64, .int .i64, .int .i64, .int .i64, .int .i64, .int .i64, .int .i64, .sl 3, .int .i64, .sl 3, .int .i64, .int .i64, .sl 3, .int .i64, .bool, .sl 179]]
def res : RP := .one (.rd (.int .i64))
noncomputable def G : List (Nat × Con) := [(135, spec_IsHead.con), (188, spec_HeadDigest.con), (189, spec_l15Owner.con), (190, spec_l15Heir.con), (134, spec_HeadInts.con), (137, spec_IsSigned.con), (191, spec_l15Judge.con)]
noncomputable abbrev E : Env := ⟨assoc Tab, conG G, 78⟩
set_option maxRecDepth 100000
theorem run_eq (n : Nat) (ls : List L) : runF E live Tryz.f138 res n (initS pats ls) = F (RHead.dec ls) (RSigned.dec (dropT 16 ls)) := by kernel_rfl
noncomputable def md (a0 : MHead) (a1 : MSigned) : Int := (bif (!(spec_IsHead.md a0)) then (2 : Int) else (bif (!(spec_IsHead.md a1.fHead)) then (2 : Int) else (bif (a1.fHead.fZone != a0.fZone) then (3 : Int) else (bif (a1.fHead.fEpoch != (IntKind.i64.wrap (a0.fEpoch + 1))) then (3 : Int) else (bif (a1.fHead.fPrev != (spec_HeadDigest.md a0)) then (3 : Int) else (bif (decide (a1.fHead.fTime < a0.fTime)) then (3 : Int) else (bif (a1.fHead.fKind == 2) then (bif ((spec_l15Heir.md a0 a1.fHead) == 1) then (bif (!(spec_IsSigned.md a0.fHeirs (spec_HeadInts.md a1.fHead) a1.fSigs)) then (7 : Int) else ((spec_l15Heir.md a0 a1.fHead) : Int)) else ((spec_l15Heir.md a0 a1.fHead) : Int)) else (bif (a1.fHead.fKind == 3) then (bif ((spec_l15Judge.md a0 a1.fHead) == 1) then (bif (!(spec_IsSigned.md a0.fJudge (spec_HeadInts.md a1.fHead) a1.fSigs)) then (7 : Int) else ((spec_l15Judge.md a0 a1.fHead) : Int)) else ((spec_l15Judge.md a0 a1.fHead) : Int)) else (bif ((spec_l15Owner.md a0 a1.fHead) == 1) then (bif (!(spec_IsSigned.md a0.fKeys (spec_HeadInts.md a1.fHead) a1.fSigs)) then (7 : Int) else ((spec_l15Owner.md a0 a1.fHead) : Int)) else ((spec_l15Owner.md a0 a1.fHead) : Int))))))))))
def gd (a0 : MHead) (a1 : MSigned) : Prop := (MHead.Sm (2 ^ 21) a0) ∧ (MSigned.Sm (2 ^ 21) a1)
def rf (a : MHead × MSigned) : RHead × RSigned := ((MHead.r a.1), (MSigned.r a.2))
theorem rf_inj (a b : MHead × MSigned) (h : rf a = rf b) : a = b := by
  exact (Prod.ext (MHead.r_inj (congrArg (fun x => x.1) h)) (MSigned.r_inj (congrArg (fun x => x.2) h)))
noncomputable def R (x0 : RHead) (x1 : RSigned) : Option (Int) := ofM rf (fun a => gd a.1 a.2) (fun a => (md a.1 a.2)) (x0, x1)
theorem R_eq {a0 : MHead} {a1 : MSigned} (h : gd a0 a1) : R (MHead.r a0) (MSigned.r a1) = some (md a0 a1) := ofM_eq (r := rf) (a := (a0, a1)) rf_inj h
theorem okF (a0 : MHead) (a1 : MSigned) (hg : gd a0 a1) : F (MHead.r a0) (MSigned.r a1) = ret ((md a0 a1) : Int) := by
  unfold gd at hg
  obtain ⟨H0, H1⟩ := hg
  unfold F md
  try simp only [bytesL_map, List.length_map, toNat_nat, iAt_getD, bAt_getD, sAt_getD, lAt_getD, MHead.r_fZone, MHead.r_fEpoch, MHead.r_fKind, MHead.r_fTime, MHead.r_fPrev, MHead.r_fKeys, MHead.r_fHeirs, MHead.r_fJudge, MSigned.r_fHead, MSigned.r_fSigs]
  refine call_to (spec_IsHead.md a0) ?_ ?_
  · have R_ := spec_IsHead.R_eq (a0 := a0) H0
    first | exact R_ | (simp only [List.map_append, List.map_cons, List.map_nil, List.cons_append, List.nil_append, iRow, sRow, bRow, lRow, List.map_set, bytesL_map, List.length_map, toNat_nat, iAt_getD, bAt_getD, sAt_getD, lAt_getD, MHead.r_fZone, MHead.r_fEpoch, MHead.r_fKind, MHead.r_fTime, MHead.r_fPrev, MHead.r_fKeys, MHead.r_fHeirs, MHead.r_fJudge, MSigned.r_fHead, MSigned.r_fSigs] at R_ ⊢; first | exact R_ | (rw [← R_]; rfl))
  try simp only [bytesL_map, List.length_map, toNat_nat, iAt_getD, bAt_getD, sAt_getD, lAt_getD, MHead.r_fZone, MHead.r_fEpoch, MHead.r_fKind, MHead.r_fTime, MHead.r_fPrev, MHead.r_fKeys, MHead.r_fHeirs, MHead.r_fJudge, MSigned.r_fHead, MSigned.r_fSigs]
  refine bif_out (fun b : Int => ret (b : Int)) (fun c1 => ?_) (fun c1 => ?_)
  · have dc1 := c1
    try simp only [bne_eq_false_iff_eq, bne_iff_ne, beq_iff_eq, beq_eq_false_iff_ne, ne_eq, Bool.not_eq_true', Bool.not_eq_false'] at dc1
    try have tc1 := spec_IsHead.tr (by simpa using c1)
    all_goals first | rfl | (simp only [bytesL_map, List.length_map, toNat_nat, iAt_getD, bAt_getD, sAt_getD, lAt_getD, MHead.r_fZone, MHead.r_fEpoch, MHead.r_fKind, MHead.r_fTime, MHead.r_fPrev, MHead.r_fKeys, MHead.r_fHeirs, MHead.r_fJudge, MSigned.r_fHead, MSigned.r_fSigs]; done) | (simp only [List.map_append, List.map_cons, List.map_nil, List.cons_append, List.nil_append, iRow, sRow, bRow, lRow, List.map_set]; rfl) | (simp only [bytesL_map, List.length_map, toNat_nat, iAt_getD, bAt_getD, sAt_getD, lAt_getD, MHead.r_fZone, MHead.r_fEpoch, MHead.r_fKind, MHead.r_fTime, MHead.r_fPrev, MHead.r_fKeys, MHead.r_fHeirs, MHead.r_fJudge, MSigned.r_fHead, MSigned.r_fSigs, List.map_append, List.map_cons, List.map_nil, List.cons_append, List.nil_append, iRow, sRow, bRow, lRow, List.map_set]; first | done | rfl)
  · have dc1 := c1
    try simp only [bne_eq_false_iff_eq, bne_iff_ne, beq_iff_eq, beq_eq_false_iff_ne, ne_eq, Bool.not_eq_true', Bool.not_eq_false'] at dc1
    try have tc1 := spec_IsHead.tr (by simpa using c1)
    refine call_to (spec_IsHead.md a1.fHead) ?_ ?_
    · have R_ := spec_IsHead.R_eq (a0 := a1.fHead) H1.1
      first | exact R_ | (simp only [List.map_append, List.map_cons, List.map_nil, List.cons_append, List.nil_append, iRow, sRow, bRow, lRow, List.map_set, bytesL_map, List.length_map, toNat_nat, iAt_getD, bAt_getD, sAt_getD, lAt_getD, MHead.r_fZone, MHead.r_fEpoch, MHead.r_fKind, MHead.r_fTime, MHead.r_fPrev, MHead.r_fKeys, MHead.r_fHeirs, MHead.r_fJudge, MSigned.r_fHead, MSigned.r_fSigs] at R_ ⊢; first | exact R_ | (rw [← R_]; rfl))
    try simp only [bytesL_map, List.length_map, toNat_nat, iAt_getD, bAt_getD, sAt_getD, lAt_getD, MHead.r_fZone, MHead.r_fEpoch, MHead.r_fKind, MHead.r_fTime, MHead.r_fPrev, MHead.r_fKeys, MHead.r_fHeirs, MHead.r_fJudge, MSigned.r_fHead, MSigned.r_fSigs]
    refine bif_out (fun b : Int => ret (b : Int)) (fun c2 => ?_) (fun c2 => ?_)
    · have dc2 := c2
      try simp only [bne_eq_false_iff_eq, bne_iff_ne, beq_iff_eq, beq_eq_false_iff_ne, ne_eq, Bool.not_eq_true', Bool.not_eq_false'] at dc2
      try have tc2 := spec_IsHead.tr (by simpa using c2)
      all_goals first | rfl | (simp only [bytesL_map, List.length_map, toNat_nat, iAt_getD, bAt_getD, sAt_getD, lAt_getD, MHead.r_fZone, MHead.r_fEpoch, MHead.r_fKind, MHead.r_fTime, MHead.r_fPrev, MHead.r_fKeys, MHead.r_fHeirs, MHead.r_fJudge, MSigned.r_fHead, MSigned.r_fSigs]; done) | (simp only [List.map_append, List.map_cons, List.map_nil, List.cons_append, List.nil_append, iRow, sRow, bRow, lRow, List.map_set]; rfl) | (simp only [bytesL_map, List.length_map, toNat_nat, iAt_getD, bAt_getD, sAt_getD, lAt_getD, MHead.r_fZone, MHead.r_fEpoch, MHead.r_fKind, MHead.r_fTime, MHead.r_fPrev, MHead.r_fKeys, MHead.r_fHeirs, MHead.r_fJudge, MSigned.r_fHead, MSigned.r_fSigs, List.map_append, List.map_cons, List.map_nil, List.cons_append, List.nil_append, iRow, sRow, bRow, lRow, List.map_set]; first | done | rfl)
    · have dc2 := c2
      try simp only [bne_eq_false_iff_eq, bne_iff_ne, beq_iff_eq, beq_eq_false_iff_ne, ne_eq, Bool.not_eq_true', Bool.not_eq_false'] at dc2
      try have tc2 := spec_IsHead.tr (by simpa using c2)
      refine bif_out (fun b : Int => ret (b : Int)) (fun c3 => ?_) (fun c3 => ?_)
      · have dc3 := c3
        try simp only [bne_eq_false_iff_eq, bne_iff_ne, beq_iff_eq, beq_eq_false_iff_ne, ne_eq, Bool.not_eq_true', Bool.not_eq_false'] at dc3
        all_goals first | rfl | (simp only [bytesL_map, List.length_map, toNat_nat, iAt_getD, bAt_getD, sAt_getD, lAt_getD, MHead.r_fZone, MHead.r_fEpoch, MHead.r_fKind, MHead.r_fTime, MHead.r_fPrev, MHead.r_fKeys, MHead.r_fHeirs, MHead.r_fJudge, MSigned.r_fHead, MSigned.r_fSigs]; done) | (simp only [List.map_append, List.map_cons, List.map_nil, List.cons_append, List.nil_append, iRow, sRow, bRow, lRow, List.map_set]; rfl) | (simp only [bytesL_map, List.length_map, toNat_nat, iAt_getD, bAt_getD, sAt_getD, lAt_getD, MHead.r_fZone, MHead.r_fEpoch, MHead.r_fKind, MHead.r_fTime, MHead.r_fPrev, MHead.r_fKeys, MHead.r_fHeirs, MHead.r_fJudge, MSigned.r_fHead, MSigned.r_fSigs, List.map_append, List.map_cons, List.map_nil, List.cons_append, List.nil_append, iRow, sRow, bRow, lRow, List.map_set]; first | done | rfl)
      · have dc3 := c3
        try simp only [bne_eq_false_iff_eq, bne_iff_ne, beq_iff_eq, beq_eq_false_iff_ne, ne_eq, Bool.not_eq_true', Bool.not_eq_false'] at dc3
        refine bif_out (fun b : Int => ret (b : Int)) (fun c4 => ?_) (fun c4 => ?_)
        · have dc4 := c4
          try simp only [bne_eq_false_iff_eq, bne_iff_ne, beq_iff_eq, beq_eq_false_iff_ne, ne_eq, Bool.not_eq_true', Bool.not_eq_false'] at dc4
          all_goals first | rfl | (simp only [bytesL_map, List.length_map, toNat_nat, iAt_getD, bAt_getD, sAt_getD, lAt_getD, MHead.r_fZone, MHead.r_fEpoch, MHead.r_fKind, MHead.r_fTime, MHead.r_fPrev, MHead.r_fKeys, MHead.r_fHeirs, MHead.r_fJudge, MSigned.r_fHead, MSigned.r_fSigs]; done) | (simp only [List.map_append, List.map_cons, List.map_nil, List.cons_append, List.nil_append, iRow, sRow, bRow, lRow, List.map_set]; rfl) | (simp only [bytesL_map, List.length_map, toNat_nat, iAt_getD, bAt_getD, sAt_getD, lAt_getD, MHead.r_fZone, MHead.r_fEpoch, MHead.r_fKind, MHead.r_fTime, MHead.r_fPrev, MHead.r_fKeys, MHead.r_fHeirs, MHead.r_fJudge, MSigned.r_fHead, MSigned.r_fSigs, List.map_append, List.map_cons, List.map_nil, List.cons_append, List.nil_append, iRow, sRow, bRow, lRow, List.map_set]; first | done | rfl)
        · have dc4 := c4
          try simp only [bne_eq_false_iff_eq, bne_iff_ne, beq_iff_eq, beq_eq_false_iff_ne, ne_eq, Bool.not_eq_true', Bool.not_eq_false'] at dc4
          refine call_to (spec_HeadDigest.md a0) ?_ ?_
          · have R_ := spec_HeadDigest.R_eq (a0 := a0) H0
            first | exact R_ | (simp only [List.map_append, List.map_cons, List.map_nil, List.cons_append, List.nil_append, iRow, sRow, bRow, lRow, List.map_set, bytesL_map, List.length_map, toNat_nat, iAt_getD, bAt_getD, sAt_getD, lAt_getD, MHead.r_fZone, MHead.r_fEpoch, MHead.r_fKind, MHead.r_fTime, MHead.r_fPrev, MHead.r_fKeys, MHead.r_fHeirs, MHead.r_fJudge, MSigned.r_fHead, MSigned.r_fSigs] at R_ ⊢; first | exact R_ | (rw [← R_]; rfl))
          try simp only [bytesL_map, List.length_map, toNat_nat, iAt_getD, bAt_getD, sAt_getD, lAt_getD, MHead.r_fZone, MHead.r_fEpoch, MHead.r_fKind, MHead.r_fTime, MHead.r_fPrev, MHead.r_fKeys, MHead.r_fHeirs, MHead.r_fJudge, MSigned.r_fHead, MSigned.r_fSigs]
          refine bif_out (fun b : Int => ret (b : Int)) (fun c5 => ?_) (fun c5 => ?_)
          · have dc5 := c5
            try simp only [bne_eq_false_iff_eq, bne_iff_ne, beq_iff_eq, beq_eq_false_iff_ne, ne_eq, Bool.not_eq_true', Bool.not_eq_false'] at dc5
            all_goals first | rfl | (simp only [bytesL_map, List.length_map, toNat_nat, iAt_getD, bAt_getD, sAt_getD, lAt_getD, MHead.r_fZone, MHead.r_fEpoch, MHead.r_fKind, MHead.r_fTime, MHead.r_fPrev, MHead.r_fKeys, MHead.r_fHeirs, MHead.r_fJudge, MSigned.r_fHead, MSigned.r_fSigs]; done) | (simp only [List.map_append, List.map_cons, List.map_nil, List.cons_append, List.nil_append, iRow, sRow, bRow, lRow, List.map_set]; rfl) | (simp only [bytesL_map, List.length_map, toNat_nat, iAt_getD, bAt_getD, sAt_getD, lAt_getD, MHead.r_fZone, MHead.r_fEpoch, MHead.r_fKind, MHead.r_fTime, MHead.r_fPrev, MHead.r_fKeys, MHead.r_fHeirs, MHead.r_fJudge, MSigned.r_fHead, MSigned.r_fSigs, List.map_append, List.map_cons, List.map_nil, List.cons_append, List.nil_append, iRow, sRow, bRow, lRow, List.map_set]; first | done | rfl)
          · have dc5 := c5
            try simp only [bne_eq_false_iff_eq, bne_iff_ne, beq_iff_eq, beq_eq_false_iff_ne, ne_eq, Bool.not_eq_true', Bool.not_eq_false'] at dc5
            refine bif_out (fun b : Int => ret (b : Int)) (fun c6 => ?_) (fun c6 => ?_)
            · have dc6 := c6
              simp only [decide_eq_true_eq, decide_eq_false_iff_not] at dc6
              all_goals first | rfl | (simp only [bytesL_map, List.length_map, toNat_nat, iAt_getD, bAt_getD, sAt_getD, lAt_getD, MHead.r_fZone, MHead.r_fEpoch, MHead.r_fKind, MHead.r_fTime, MHead.r_fPrev, MHead.r_fKeys, MHead.r_fHeirs, MHead.r_fJudge, MSigned.r_fHead, MSigned.r_fSigs]; done) | (simp only [List.map_append, List.map_cons, List.map_nil, List.cons_append, List.nil_append, iRow, sRow, bRow, lRow, List.map_set]; rfl) | (simp only [bytesL_map, List.length_map, toNat_nat, iAt_getD, bAt_getD, sAt_getD, lAt_getD, MHead.r_fZone, MHead.r_fEpoch, MHead.r_fKind, MHead.r_fTime, MHead.r_fPrev, MHead.r_fKeys, MHead.r_fHeirs, MHead.r_fJudge, MSigned.r_fHead, MSigned.r_fSigs, List.map_append, List.map_cons, List.map_nil, List.cons_append, List.nil_append, iRow, sRow, bRow, lRow, List.map_set]; first | done | rfl)
            · have dc6 := c6
              simp only [decide_eq_true_eq, decide_eq_false_iff_not] at dc6
              refine call_to (spec_l15Owner.md a0 a1.fHead) ?_ ?_
              · have R_ := spec_l15Owner.R_eq (a0 := a0) (a1 := a1.fHead) trivial
                first | exact R_ | (simp only [List.map_append, List.map_cons, List.map_nil, List.cons_append, List.nil_append, iRow, sRow, bRow, lRow, List.map_set, bytesL_map, List.length_map, toNat_nat, iAt_getD, bAt_getD, sAt_getD, lAt_getD, MHead.r_fZone, MHead.r_fEpoch, MHead.r_fKind, MHead.r_fTime, MHead.r_fPrev, MHead.r_fKeys, MHead.r_fHeirs, MHead.r_fJudge, MSigned.r_fHead, MSigned.r_fSigs] at R_ ⊢; first | exact R_ | (rw [← R_]; rfl))
              try simp only [bytesL_map, List.length_map, toNat_nat, iAt_getD, bAt_getD, sAt_getD, lAt_getD, MHead.r_fZone, MHead.r_fEpoch, MHead.r_fKind, MHead.r_fTime, MHead.r_fPrev, MHead.r_fKeys, MHead.r_fHeirs, MHead.r_fJudge, MSigned.r_fHead, MSigned.r_fSigs]
              refine bif_out (fun b : Int => ret (b : Int)) (fun c7 => ?_) (fun c7 => ?_)
              · have dc7 := c7
                try simp only [bne_eq_false_iff_eq, bne_iff_ne, beq_iff_eq, beq_eq_false_iff_ne, ne_eq, Bool.not_eq_true', Bool.not_eq_false'] at dc7
                refine call_to (spec_l15Heir.md a0 a1.fHead) ?_ ?_
                · have R_ := spec_l15Heir.R_eq (a0 := a0) (a1 := a1.fHead) ⟨H0, H1.1⟩
                  first | exact R_ | (simp only [List.map_append, List.map_cons, List.map_nil, List.cons_append, List.nil_append, iRow, sRow, bRow, lRow, List.map_set, bytesL_map, List.length_map, toNat_nat, iAt_getD, bAt_getD, sAt_getD, lAt_getD, MHead.r_fZone, MHead.r_fEpoch, MHead.r_fKind, MHead.r_fTime, MHead.r_fPrev, MHead.r_fKeys, MHead.r_fHeirs, MHead.r_fJudge, MSigned.r_fHead, MSigned.r_fSigs] at R_ ⊢; first | exact R_ | (rw [← R_]; rfl))
                try simp only [bytesL_map, List.length_map, toNat_nat, iAt_getD, bAt_getD, sAt_getD, lAt_getD, MHead.r_fZone, MHead.r_fEpoch, MHead.r_fKind, MHead.r_fTime, MHead.r_fPrev, MHead.r_fKeys, MHead.r_fHeirs, MHead.r_fJudge, MSigned.r_fHead, MSigned.r_fSigs]
                refine bif_out (fun b : Int => ret (b : Int)) (fun c8 => ?_) (fun c8 => ?_)
                · have dc8 := c8
                  try simp only [bne_eq_false_iff_eq, bne_iff_ne, beq_iff_eq, beq_eq_false_iff_ne, ne_eq, Bool.not_eq_true', Bool.not_eq_false'] at dc8
                  refine call_to ((spec_HeadInts.md a1.fHead).map iRow) ?_ ?_
                  · have R_ := spec_HeadInts.R_eq (a0 := a1.fHead) H1.1
                    first | exact R_ | (simp only [List.map_append, List.map_cons, List.map_nil, List.cons_append, List.nil_append, iRow, sRow, bRow, lRow, List.map_set, bytesL_map, List.length_map, toNat_nat, iAt_getD, bAt_getD, sAt_getD, lAt_getD, MHead.r_fZone, MHead.r_fEpoch, MHead.r_fKind, MHead.r_fTime, MHead.r_fPrev, MHead.r_fKeys, MHead.r_fHeirs, MHead.r_fJudge, MSigned.r_fHead, MSigned.r_fSigs] at R_ ⊢; first | exact R_ | (rw [← R_]; rfl))
                  try simp only [bytesL_map, List.length_map, toNat_nat, iAt_getD, bAt_getD, sAt_getD, lAt_getD, MHead.r_fZone, MHead.r_fEpoch, MHead.r_fKind, MHead.r_fTime, MHead.r_fPrev, MHead.r_fKeys, MHead.r_fHeirs, MHead.r_fJudge, MSigned.r_fHead, MSigned.r_fSigs]
                  refine call_to (spec_IsSigned.md a0.fHeirs (spec_HeadInts.md a1.fHead) a1.fSigs) ?_ ?_
                  · have R_ := spec_IsSigned.R_eq (a0 := a0.fHeirs) (a1 := (spec_HeadInts.md a1.fHead)) (a2 := a1.fSigs) ⟨H0.2.1, ⟨(by
                        have := spec_HeadInts.len a1.fHead
                        have := (H1.1.1).1
                        have := (H1.1.2.1).1
                        have := (H1.1.2.2).1
                        try simp (disch := omega) only [List.sum_cons, List.sum_nil, List.map_cons, List.map_nil, bytesI_length, bytesL_length, List.length_append, List.length_cons, List.length_nil, List.length_map, List.length_set, List.length_replicate, List.length_take, List.length_drop, Go.IntWalk.i64_in]
                        first | omega | (simp; done) | (simp; omega)), fun _ _ => trivial⟩, H1.2⟩
                    first | exact R_ | (simp only [List.map_append, List.map_cons, List.map_nil, List.cons_append, List.nil_append, iRow, sRow, bRow, lRow, List.map_set, bytesL_map, List.length_map, toNat_nat, iAt_getD, bAt_getD, sAt_getD, lAt_getD, MHead.r_fZone, MHead.r_fEpoch, MHead.r_fKind, MHead.r_fTime, MHead.r_fPrev, MHead.r_fKeys, MHead.r_fHeirs, MHead.r_fJudge, MSigned.r_fHead, MSigned.r_fSigs] at R_ ⊢; first | exact R_ | (rw [← R_]; rfl))
                  try simp only [bytesL_map, List.length_map, toNat_nat, iAt_getD, bAt_getD, sAt_getD, lAt_getD, MHead.r_fZone, MHead.r_fEpoch, MHead.r_fKind, MHead.r_fTime, MHead.r_fPrev, MHead.r_fKeys, MHead.r_fHeirs, MHead.r_fJudge, MSigned.r_fHead, MSigned.r_fSigs]
                  refine bif_out (fun b : Int => ret (b : Int)) (fun c9 => ?_) (fun c9 => ?_)
                  · have dc9 := c9
                    try simp only [bne_eq_false_iff_eq, bne_iff_ne, beq_iff_eq, beq_eq_false_iff_ne, ne_eq, Bool.not_eq_true', Bool.not_eq_false'] at dc9
                    all_goals first | rfl | (simp only [bytesL_map, List.length_map, toNat_nat, iAt_getD, bAt_getD, sAt_getD, lAt_getD, MHead.r_fZone, MHead.r_fEpoch, MHead.r_fKind, MHead.r_fTime, MHead.r_fPrev, MHead.r_fKeys, MHead.r_fHeirs, MHead.r_fJudge, MSigned.r_fHead, MSigned.r_fSigs]; done) | (simp only [List.map_append, List.map_cons, List.map_nil, List.cons_append, List.nil_append, iRow, sRow, bRow, lRow, List.map_set]; rfl) | (simp only [bytesL_map, List.length_map, toNat_nat, iAt_getD, bAt_getD, sAt_getD, lAt_getD, MHead.r_fZone, MHead.r_fEpoch, MHead.r_fKind, MHead.r_fTime, MHead.r_fPrev, MHead.r_fKeys, MHead.r_fHeirs, MHead.r_fJudge, MSigned.r_fHead, MSigned.r_fSigs, List.map_append, List.map_cons, List.map_nil, List.cons_append, List.nil_append, iRow, sRow, bRow, lRow, List.map_set]; first | done | rfl)
                  · have dc9 := c9
                    try simp only [bne_eq_false_iff_eq, bne_iff_ne, beq_iff_eq, beq_eq_false_iff_ne, ne_eq, Bool.not_eq_true', Bool.not_eq_false'] at dc9
                    all_goals first | rfl | (simp only [bytesL_map, List.length_map, toNat_nat, iAt_getD, bAt_getD, sAt_getD, lAt_getD, MHead.r_fZone, MHead.r_fEpoch, MHead.r_fKind, MHead.r_fTime, MHead.r_fPrev, MHead.r_fKeys, MHead.r_fHeirs, MHead.r_fJudge, MSigned.r_fHead, MSigned.r_fSigs]; done) | (simp only [List.map_append, List.map_cons, List.map_nil, List.cons_append, List.nil_append, iRow, sRow, bRow, lRow, List.map_set]; rfl) | (simp only [bytesL_map, List.length_map, toNat_nat, iAt_getD, bAt_getD, sAt_getD, lAt_getD, MHead.r_fZone, MHead.r_fEpoch, MHead.r_fKind, MHead.r_fTime, MHead.r_fPrev, MHead.r_fKeys, MHead.r_fHeirs, MHead.r_fJudge, MSigned.r_fHead, MSigned.r_fSigs, List.map_append, List.map_cons, List.map_nil, List.cons_append, List.nil_append, iRow, sRow, bRow, lRow, List.map_set]; first | done | rfl)
                · have dc8 := c8
                  try simp only [bne_eq_false_iff_eq, bne_iff_ne, beq_iff_eq, beq_eq_false_iff_ne, ne_eq, Bool.not_eq_true', Bool.not_eq_false'] at dc8
                  all_goals first | rfl | (simp only [bytesL_map, List.length_map, toNat_nat, iAt_getD, bAt_getD, sAt_getD, lAt_getD, MHead.r_fZone, MHead.r_fEpoch, MHead.r_fKind, MHead.r_fTime, MHead.r_fPrev, MHead.r_fKeys, MHead.r_fHeirs, MHead.r_fJudge, MSigned.r_fHead, MSigned.r_fSigs]; done) | (simp only [List.map_append, List.map_cons, List.map_nil, List.cons_append, List.nil_append, iRow, sRow, bRow, lRow, List.map_set]; rfl) | (simp only [bytesL_map, List.length_map, toNat_nat, iAt_getD, bAt_getD, sAt_getD, lAt_getD, MHead.r_fZone, MHead.r_fEpoch, MHead.r_fKind, MHead.r_fTime, MHead.r_fPrev, MHead.r_fKeys, MHead.r_fHeirs, MHead.r_fJudge, MSigned.r_fHead, MSigned.r_fSigs, List.map_append, List.map_cons, List.map_nil, List.cons_append, List.nil_append, iRow, sRow, bRow, lRow, List.map_set]; first | done | rfl)
              · have dc7 := c7
                try simp only [bne_eq_false_iff_eq, bne_iff_ne, beq_iff_eq, beq_eq_false_iff_ne, ne_eq, Bool.not_eq_true', Bool.not_eq_false'] at dc7
                refine bif_out (fun b : Int => ret (b : Int)) (fun c10 => ?_) (fun c10 => ?_)
                · have dc10 := c10
                  try simp only [bne_eq_false_iff_eq, bne_iff_ne, beq_iff_eq, beq_eq_false_iff_ne, ne_eq, Bool.not_eq_true', Bool.not_eq_false'] at dc10
                  refine call_to (spec_l15Judge.md a0 a1.fHead) ?_ ?_
                  · have R_ := spec_l15Judge.R_eq (a0 := a0) (a1 := a1.fHead) ⟨H0, H1.1⟩
                    first | exact R_ | (simp only [List.map_append, List.map_cons, List.map_nil, List.cons_append, List.nil_append, iRow, sRow, bRow, lRow, List.map_set, bytesL_map, List.length_map, toNat_nat, iAt_getD, bAt_getD, sAt_getD, lAt_getD, MHead.r_fZone, MHead.r_fEpoch, MHead.r_fKind, MHead.r_fTime, MHead.r_fPrev, MHead.r_fKeys, MHead.r_fHeirs, MHead.r_fJudge, MSigned.r_fHead, MSigned.r_fSigs] at R_ ⊢; first | exact R_ | (rw [← R_]; rfl))
                  try simp only [bytesL_map, List.length_map, toNat_nat, iAt_getD, bAt_getD, sAt_getD, lAt_getD, MHead.r_fZone, MHead.r_fEpoch, MHead.r_fKind, MHead.r_fTime, MHead.r_fPrev, MHead.r_fKeys, MHead.r_fHeirs, MHead.r_fJudge, MSigned.r_fHead, MSigned.r_fSigs]
                  refine bif_out (fun b : Int => ret (b : Int)) (fun c11 => ?_) (fun c11 => ?_)
                  · have dc11 := c11
                    try simp only [bne_eq_false_iff_eq, bne_iff_ne, beq_iff_eq, beq_eq_false_iff_ne, ne_eq, Bool.not_eq_true', Bool.not_eq_false'] at dc11
                    refine call_to ((spec_HeadInts.md a1.fHead).map iRow) ?_ ?_
                    · have R_ := spec_HeadInts.R_eq (a0 := a1.fHead) H1.1
                      first | exact R_ | (simp only [List.map_append, List.map_cons, List.map_nil, List.cons_append, List.nil_append, iRow, sRow, bRow, lRow, List.map_set, bytesL_map, List.length_map, toNat_nat, iAt_getD, bAt_getD, sAt_getD, lAt_getD, MHead.r_fZone, MHead.r_fEpoch, MHead.r_fKind, MHead.r_fTime, MHead.r_fPrev, MHead.r_fKeys, MHead.r_fHeirs, MHead.r_fJudge, MSigned.r_fHead, MSigned.r_fSigs] at R_ ⊢; first | exact R_ | (rw [← R_]; rfl))
                    try simp only [bytesL_map, List.length_map, toNat_nat, iAt_getD, bAt_getD, sAt_getD, lAt_getD, MHead.r_fZone, MHead.r_fEpoch, MHead.r_fKind, MHead.r_fTime, MHead.r_fPrev, MHead.r_fKeys, MHead.r_fHeirs, MHead.r_fJudge, MSigned.r_fHead, MSigned.r_fSigs]
                    refine call_to (spec_IsSigned.md a0.fJudge (spec_HeadInts.md a1.fHead) a1.fSigs) ?_ ?_
                    · have R_ := spec_IsSigned.R_eq (a0 := a0.fJudge) (a1 := (spec_HeadInts.md a1.fHead)) (a2 := a1.fSigs) ⟨H0.2.2, ⟨(by
                          have := spec_HeadInts.len a1.fHead
                          have := (H1.1.1).1
                          have := (H1.1.2.1).1
                          have := (H1.1.2.2).1
                          try simp (disch := omega) only [List.sum_cons, List.sum_nil, List.map_cons, List.map_nil, bytesI_length, bytesL_length, List.length_append, List.length_cons, List.length_nil, List.length_map, List.length_set, List.length_replicate, List.length_take, List.length_drop, Go.IntWalk.i64_in]
                          first | omega | (simp; done) | (simp; omega)), fun _ _ => trivial⟩, H1.2⟩
                      first | exact R_ | (simp only [List.map_append, List.map_cons, List.map_nil, List.cons_append, List.nil_append, iRow, sRow, bRow, lRow, List.map_set, bytesL_map, List.length_map, toNat_nat, iAt_getD, bAt_getD, sAt_getD, lAt_getD, MHead.r_fZone, MHead.r_fEpoch, MHead.r_fKind, MHead.r_fTime, MHead.r_fPrev, MHead.r_fKeys, MHead.r_fHeirs, MHead.r_fJudge, MSigned.r_fHead, MSigned.r_fSigs] at R_ ⊢; first | exact R_ | (rw [← R_]; rfl))
                    try simp only [bytesL_map, List.length_map, toNat_nat, iAt_getD, bAt_getD, sAt_getD, lAt_getD, MHead.r_fZone, MHead.r_fEpoch, MHead.r_fKind, MHead.r_fTime, MHead.r_fPrev, MHead.r_fKeys, MHead.r_fHeirs, MHead.r_fJudge, MSigned.r_fHead, MSigned.r_fSigs]
                    refine bif_out (fun b : Int => ret (b : Int)) (fun c12 => ?_) (fun c12 => ?_)
                    · have dc12 := c12
                      try simp only [bne_eq_false_iff_eq, bne_iff_ne, beq_iff_eq, beq_eq_false_iff_ne, ne_eq, Bool.not_eq_true', Bool.not_eq_false'] at dc12
                      all_goals first | rfl | (simp only [bytesL_map, List.length_map, toNat_nat, iAt_getD, bAt_getD, sAt_getD, lAt_getD, MHead.r_fZone, MHead.r_fEpoch, MHead.r_fKind, MHead.r_fTime, MHead.r_fPrev, MHead.r_fKeys, MHead.r_fHeirs, MHead.r_fJudge, MSigned.r_fHead, MSigned.r_fSigs]; done) | (simp only [List.map_append, List.map_cons, List.map_nil, List.cons_append, List.nil_append, iRow, sRow, bRow, lRow, List.map_set]; rfl) | (simp only [bytesL_map, List.length_map, toNat_nat, iAt_getD, bAt_getD, sAt_getD, lAt_getD, MHead.r_fZone, MHead.r_fEpoch, MHead.r_fKind, MHead.r_fTime, MHead.r_fPrev, MHead.r_fKeys, MHead.r_fHeirs, MHead.r_fJudge, MSigned.r_fHead, MSigned.r_fSigs, List.map_append, List.map_cons, List.map_nil, List.cons_append, List.nil_append, iRow, sRow, bRow, lRow, List.map_set]; first | done | rfl)
                    · have dc12 := c12
                      try simp only [bne_eq_false_iff_eq, bne_iff_ne, beq_iff_eq, beq_eq_false_iff_ne, ne_eq, Bool.not_eq_true', Bool.not_eq_false'] at dc12
                      all_goals first | rfl | (simp only [bytesL_map, List.length_map, toNat_nat, iAt_getD, bAt_getD, sAt_getD, lAt_getD, MHead.r_fZone, MHead.r_fEpoch, MHead.r_fKind, MHead.r_fTime, MHead.r_fPrev, MHead.r_fKeys, MHead.r_fHeirs, MHead.r_fJudge, MSigned.r_fHead, MSigned.r_fSigs]; done) | (simp only [List.map_append, List.map_cons, List.map_nil, List.cons_append, List.nil_append, iRow, sRow, bRow, lRow, List.map_set]; rfl) | (simp only [bytesL_map, List.length_map, toNat_nat, iAt_getD, bAt_getD, sAt_getD, lAt_getD, MHead.r_fZone, MHead.r_fEpoch, MHead.r_fKind, MHead.r_fTime, MHead.r_fPrev, MHead.r_fKeys, MHead.r_fHeirs, MHead.r_fJudge, MSigned.r_fHead, MSigned.r_fSigs, List.map_append, List.map_cons, List.map_nil, List.cons_append, List.nil_append, iRow, sRow, bRow, lRow, List.map_set]; first | done | rfl)
                  · have dc11 := c11
                    try simp only [bne_eq_false_iff_eq, bne_iff_ne, beq_iff_eq, beq_eq_false_iff_ne, ne_eq, Bool.not_eq_true', Bool.not_eq_false'] at dc11
                    all_goals first | rfl | (simp only [bytesL_map, List.length_map, toNat_nat, iAt_getD, bAt_getD, sAt_getD, lAt_getD, MHead.r_fZone, MHead.r_fEpoch, MHead.r_fKind, MHead.r_fTime, MHead.r_fPrev, MHead.r_fKeys, MHead.r_fHeirs, MHead.r_fJudge, MSigned.r_fHead, MSigned.r_fSigs]; done) | (simp only [List.map_append, List.map_cons, List.map_nil, List.cons_append, List.nil_append, iRow, sRow, bRow, lRow, List.map_set]; rfl) | (simp only [bytesL_map, List.length_map, toNat_nat, iAt_getD, bAt_getD, sAt_getD, lAt_getD, MHead.r_fZone, MHead.r_fEpoch, MHead.r_fKind, MHead.r_fTime, MHead.r_fPrev, MHead.r_fKeys, MHead.r_fHeirs, MHead.r_fJudge, MSigned.r_fHead, MSigned.r_fSigs, List.map_append, List.map_cons, List.map_nil, List.cons_append, List.nil_append, iRow, sRow, bRow, lRow, List.map_set]; first | done | rfl)
                · have dc10 := c10
                  try simp only [bne_eq_false_iff_eq, bne_iff_ne, beq_iff_eq, beq_eq_false_iff_ne, ne_eq, Bool.not_eq_true', Bool.not_eq_false'] at dc10
                  refine bif_out (fun b : Int => ret (b : Int)) (fun c13 => ?_) (fun c13 => ?_)
                  · have dc13 := c13
                    try simp only [bne_eq_false_iff_eq, bne_iff_ne, beq_iff_eq, beq_eq_false_iff_ne, ne_eq, Bool.not_eq_true', Bool.not_eq_false'] at dc13
                    refine call_to ((spec_HeadInts.md a1.fHead).map iRow) ?_ ?_
                    · have R_ := spec_HeadInts.R_eq (a0 := a1.fHead) H1.1
                      first | exact R_ | (simp only [List.map_append, List.map_cons, List.map_nil, List.cons_append, List.nil_append, iRow, sRow, bRow, lRow, List.map_set, bytesL_map, List.length_map, toNat_nat, iAt_getD, bAt_getD, sAt_getD, lAt_getD, MHead.r_fZone, MHead.r_fEpoch, MHead.r_fKind, MHead.r_fTime, MHead.r_fPrev, MHead.r_fKeys, MHead.r_fHeirs, MHead.r_fJudge, MSigned.r_fHead, MSigned.r_fSigs] at R_ ⊢; first | exact R_ | (rw [← R_]; rfl))
                    try simp only [bytesL_map, List.length_map, toNat_nat, iAt_getD, bAt_getD, sAt_getD, lAt_getD, MHead.r_fZone, MHead.r_fEpoch, MHead.r_fKind, MHead.r_fTime, MHead.r_fPrev, MHead.r_fKeys, MHead.r_fHeirs, MHead.r_fJudge, MSigned.r_fHead, MSigned.r_fSigs]
                    refine call_to (spec_IsSigned.md a0.fKeys (spec_HeadInts.md a1.fHead) a1.fSigs) ?_ ?_
                    · have R_ := spec_IsSigned.R_eq (a0 := a0.fKeys) (a1 := (spec_HeadInts.md a1.fHead)) (a2 := a1.fSigs) ⟨H0.1, ⟨(by
                          have := spec_HeadInts.len a1.fHead
                          have := (H1.1.1).1
                          have := (H1.1.2.1).1
                          have := (H1.1.2.2).1
                          try simp (disch := omega) only [List.sum_cons, List.sum_nil, List.map_cons, List.map_nil, bytesI_length, bytesL_length, List.length_append, List.length_cons, List.length_nil, List.length_map, List.length_set, List.length_replicate, List.length_take, List.length_drop, Go.IntWalk.i64_in]
                          first | omega | (simp; done) | (simp; omega)), fun _ _ => trivial⟩, H1.2⟩
                      first | exact R_ | (simp only [List.map_append, List.map_cons, List.map_nil, List.cons_append, List.nil_append, iRow, sRow, bRow, lRow, List.map_set, bytesL_map, List.length_map, toNat_nat, iAt_getD, bAt_getD, sAt_getD, lAt_getD, MHead.r_fZone, MHead.r_fEpoch, MHead.r_fKind, MHead.r_fTime, MHead.r_fPrev, MHead.r_fKeys, MHead.r_fHeirs, MHead.r_fJudge, MSigned.r_fHead, MSigned.r_fSigs] at R_ ⊢; first | exact R_ | (rw [← R_]; rfl))
                    try simp only [bytesL_map, List.length_map, toNat_nat, iAt_getD, bAt_getD, sAt_getD, lAt_getD, MHead.r_fZone, MHead.r_fEpoch, MHead.r_fKind, MHead.r_fTime, MHead.r_fPrev, MHead.r_fKeys, MHead.r_fHeirs, MHead.r_fJudge, MSigned.r_fHead, MSigned.r_fSigs]
                    refine bif_out (fun b : Int => ret (b : Int)) (fun c14 => ?_) (fun c14 => ?_)
                    · have dc14 := c14
                      try simp only [bne_eq_false_iff_eq, bne_iff_ne, beq_iff_eq, beq_eq_false_iff_ne, ne_eq, Bool.not_eq_true', Bool.not_eq_false'] at dc14
                      all_goals first | rfl | (simp only [bytesL_map, List.length_map, toNat_nat, iAt_getD, bAt_getD, sAt_getD, lAt_getD, MHead.r_fZone, MHead.r_fEpoch, MHead.r_fKind, MHead.r_fTime, MHead.r_fPrev, MHead.r_fKeys, MHead.r_fHeirs, MHead.r_fJudge, MSigned.r_fHead, MSigned.r_fSigs]; done) | (simp only [List.map_append, List.map_cons, List.map_nil, List.cons_append, List.nil_append, iRow, sRow, bRow, lRow, List.map_set]; rfl) | (simp only [bytesL_map, List.length_map, toNat_nat, iAt_getD, bAt_getD, sAt_getD, lAt_getD, MHead.r_fZone, MHead.r_fEpoch, MHead.r_fKind, MHead.r_fTime, MHead.r_fPrev, MHead.r_fKeys, MHead.r_fHeirs, MHead.r_fJudge, MSigned.r_fHead, MSigned.r_fSigs, List.map_append, List.map_cons, List.map_nil, List.cons_append, List.nil_append, iRow, sRow, bRow, lRow, List.map_set]; first | done | rfl)
                    · have dc14 := c14
                      try simp only [bne_eq_false_iff_eq, bne_iff_ne, beq_iff_eq, beq_eq_false_iff_ne, ne_eq, Bool.not_eq_true', Bool.not_eq_false'] at dc14
                      all_goals first | rfl | (simp only [bytesL_map, List.length_map, toNat_nat, iAt_getD, bAt_getD, sAt_getD, lAt_getD, MHead.r_fZone, MHead.r_fEpoch, MHead.r_fKind, MHead.r_fTime, MHead.r_fPrev, MHead.r_fKeys, MHead.r_fHeirs, MHead.r_fJudge, MSigned.r_fHead, MSigned.r_fSigs]; done) | (simp only [List.map_append, List.map_cons, List.map_nil, List.cons_append, List.nil_append, iRow, sRow, bRow, lRow, List.map_set]; rfl) | (simp only [bytesL_map, List.length_map, toNat_nat, iAt_getD, bAt_getD, sAt_getD, lAt_getD, MHead.r_fZone, MHead.r_fEpoch, MHead.r_fKind, MHead.r_fTime, MHead.r_fPrev, MHead.r_fKeys, MHead.r_fHeirs, MHead.r_fJudge, MSigned.r_fHead, MSigned.r_fSigs, List.map_append, List.map_cons, List.map_nil, List.cons_append, List.nil_append, iRow, sRow, bRow, lRow, List.map_set]; first | done | rfl)
                  · have dc13 := c13
                    try simp only [bne_eq_false_iff_eq, bne_iff_ne, beq_iff_eq, beq_eq_false_iff_ne, ne_eq, Bool.not_eq_true', Bool.not_eq_false'] at dc13
                    all_goals first | rfl | (simp only [bytesL_map, List.length_map, toNat_nat, iAt_getD, bAt_getD, sAt_getD, lAt_getD, MHead.r_fZone, MHead.r_fEpoch, MHead.r_fKind, MHead.r_fTime, MHead.r_fPrev, MHead.r_fKeys, MHead.r_fHeirs, MHead.r_fJudge, MSigned.r_fHead, MSigned.r_fSigs]; done) | (simp only [List.map_append, List.map_cons, List.map_nil, List.cons_append, List.nil_append, iRow, sRow, bRow, lRow, List.map_set]; rfl) | (simp only [bytesL_map, List.length_map, toNat_nat, iAt_getD, bAt_getD, sAt_getD, lAt_getD, MHead.r_fZone, MHead.r_fEpoch, MHead.r_fKind, MHead.r_fTime, MHead.r_fPrev, MHead.r_fKeys, MHead.r_fHeirs, MHead.r_fJudge, MSigned.r_fHead, MSigned.r_fSigs, List.map_append, List.map_cons, List.map_nil, List.cons_append, List.nil_append, iRow, sRow, bRow, lRow, List.map_set]; first | done | rfl)
noncomputable def sem (ls : List L) : Option (List L) := (R (RHead.dec ls) (RSigned.dec (dropT 16 ls))).map RT.enc
theorem ok (ls q : List L) (hl : LOKs Ev.cells pats ls) (h : sem ls = some q) : ∃ n, runF E live Tryz.f138 res n (initS pats ls) = some q := by
  obtain ⟨v, hv, hq⟩ := map_some h
  obtain ⟨⟨a0, a1⟩, hg, e, hm⟩ := ofM_some hv
  simp only [rf, Prod.mk.injEq] at e
  obtain ⟨e0, e1⟩ := e
  have hn := okF a0 a1 hg
  refine ⟨0, (run_eq 0 ls).trans ?_⟩
  rw [← e0, ← e1]
  rw [hn, ← hq, hm]; rfl
noncomputable def con : Con := ⟨pats, res, sem⟩
theorem chk : fnB Tryz.f138 con 78 = true := by kernel_rfl
theorem valid_ : Valid Tryz.prog Ev 138 con := valid mix tab_ok (.cons spec_IsHead.valid_ (.cons spec_HeadDigest.valid_ (.cons spec_l15Owner.valid_ (.cons spec_l15Heir.valid_ (.cons spec_HeadInts.valid_ (.cons spec_IsSigned.valid_ (.cons spec_l15Judge.valid_ .nil))))))) Tryz.func138 chk live ok
end spec_NextCode
/-! spec.MayFollow -/
namespace spec_MayFollow
noncomputable def F (x0 : RHead) (x1 : RSigned) : Ans := (call (spec_NextCode.R x0 x1) fun v1 => ret ((v1 == 1) : Bool))
def live : Nat → Live := fun _ => []
def pats : List Pat := [.agg [.int .i64, .int .i64, .int .i64, .int .i64, .int .i64, .int .i64, .int .i64, .int .i64, .sl 3, .int .i64, .sl 3, .int .i64, .int .i64, .sl 3, .int .i64, .bool], .agg [.int .i64, .int .i64, .int .i64, .int .i64, .int .i64, .int .i64, .int .i64, .int .i64, .sl 3, .int .i64, .sl 3, .int .i64, .int .i64, .sl 3, .int .i64, .bool, .sl 179]]
def res : RP := .one (.rd (.bool))
noncomputable def G : List (Nat × Con) := [(138, spec_NextCode.con)]
noncomputable abbrev E : Env := ⟨assoc Tab, conG G, 9⟩
set_option maxRecDepth 100000
theorem run_eq (n : Nat) (ls : List L) : runF E live Tryz.f86 res n (initS pats ls) = F (RHead.dec ls) (RSigned.dec (dropT 16 ls)) := by kernel_rfl
noncomputable def md (a0 : MHead) (a1 : MSigned) : Bool := (((spec_NextCode.md a0 a1) == 1) : Bool)
def gd (a0 : MHead) (a1 : MSigned) : Prop := (MHead.Sm (2 ^ 21) a0) ∧ (MSigned.Sm (2 ^ 21) a1)
def rf (a : MHead × MSigned) : RHead × RSigned := ((MHead.r a.1), (MSigned.r a.2))
theorem rf_inj (a b : MHead × MSigned) (h : rf a = rf b) : a = b := by
  exact (Prod.ext (MHead.r_inj (congrArg (fun x => x.1) h)) (MSigned.r_inj (congrArg (fun x => x.2) h)))
noncomputable def R (x0 : RHead) (x1 : RSigned) : Option (Bool) := ofM rf (fun a => gd a.1 a.2) (fun a => (md a.1 a.2)) (x0, x1)
theorem R_eq {a0 : MHead} {a1 : MSigned} (h : gd a0 a1) : R (MHead.r a0) (MSigned.r a1) = some (md a0 a1) := ofM_eq (r := rf) (a := (a0, a1)) rf_inj h
theorem okF (a0 : MHead) (a1 : MSigned) (hg : gd a0 a1) : F (MHead.r a0) (MSigned.r a1) = ret ((md a0 a1) : Bool) := by
  unfold gd at hg
  obtain ⟨H0, H1⟩ := hg
  unfold F md
  try simp only [bytesL_map, List.length_map, toNat_nat, iAt_getD, bAt_getD, sAt_getD, lAt_getD]
  refine call_to (spec_NextCode.md a0 a1) ?_ ?_
  · have R_ := spec_NextCode.R_eq (a0 := a0) (a1 := a1) ⟨H0, H1⟩
    first | exact R_ | (simp only [List.map_append, List.map_cons, List.map_nil, List.cons_append, List.nil_append, iRow, sRow, bRow, lRow, List.map_set, bytesL_map, List.length_map, toNat_nat, iAt_getD, bAt_getD, sAt_getD, lAt_getD] at R_ ⊢; first | exact R_ | (rw [← R_]; rfl))
  try simp only [bytesL_map, List.length_map, toNat_nat, iAt_getD, bAt_getD, sAt_getD, lAt_getD]
  all_goals first | rfl | (simp only [bytesL_map, List.length_map, toNat_nat, iAt_getD, bAt_getD, sAt_getD, lAt_getD]; done) | (simp only [List.map_append, List.map_cons, List.map_nil, List.cons_append, List.nil_append, iRow, sRow, bRow, lRow, List.map_set]; rfl) | (simp only [bytesL_map, List.length_map, toNat_nat, iAt_getD, bAt_getD, sAt_getD, lAt_getD, List.map_append, List.map_cons, List.map_nil, List.cons_append, List.nil_append, iRow, sRow, bRow, lRow, List.map_set]; first | done | rfl)
noncomputable def sem (ls : List L) : Option (List L) := (R (RHead.dec ls) (RSigned.dec (dropT 16 ls))).map RT.enc
theorem ok (ls q : List L) (hl : LOKs Ev.cells pats ls) (h : sem ls = some q) : ∃ n, runF E live Tryz.f86 res n (initS pats ls) = some q := by
  obtain ⟨v, hv, hq⟩ := map_some h
  obtain ⟨⟨a0, a1⟩, hg, e, hm⟩ := ofM_some hv
  simp only [rf, Prod.mk.injEq] at e
  obtain ⟨e0, e1⟩ := e
  have hn := okF a0 a1 hg
  refine ⟨0, (run_eq 0 ls).trans ?_⟩
  rw [← e0, ← e1]
  rw [hn, ← hq, hm]; rfl
noncomputable def con : Con := ⟨pats, res, sem⟩
theorem chk : fnB Tryz.f86 con 9 = true := by kernel_rfl
theorem valid_ : Valid Tryz.prog Ev 86 con := valid mix tab_ok (.cons spec_NextCode.valid_ .nil) Tryz.func86 chk live ok
end spec_MayFollow
/-! spec.FirstWrong -/
namespace spec_FirstWrong
inductive Pt where
  | p0 (a : List (List L)) (b : Int)
def pid : Pt → Nat
  | .p0 .. => 2
def pvs : Pt → List V
  | .p0 a b => [.sl none 92 a, .int .i64 b]
def phs : Pt → List Root
  | .p0 a b => []
noncomputable def step (J : Pt → Ans) : Pt → Ans
  | .p0 a b => (bif (decide (b < (a.length : Int))) then (bif (b == 0) then (bif (decide ((0 : Int) < (a.length : Int))) then (call (spec_IsFirst.R (RSigned.at a 0)) fun v1 => (bif (!v1) then ret (b : Int) else (bif (decide (b > 0)) then (bif (decide ((0 : Int) ≤ (IntKind.i64.wrap (b - 1)))) then (bif (decide ((IntKind.i64.wrap (b - 1)) < (a.length : Int))) then (bif (decide ((0 : Int) ≤ b)) then (bif (decide (b < (a.length : Int))) then (call (spec_MayFollow.R ((RSigned.at a (Int.toNat (IntKind.i64.wrap (b - 1)))).fHead) (RSigned.at a (Int.toNat b))) fun v2 => (bif (!v2) then ret (b : Int) else J (.p0 a (IntKind.i64.wrap (b + 1))))) else none) else none) else none) else none) else J (.p0 a (IntKind.i64.wrap (b + 1)))))) else none) else (bif (decide (b > 0)) then (bif (decide ((0 : Int) ≤ (IntKind.i64.wrap (b - 1)))) then (bif (decide ((IntKind.i64.wrap (b - 1)) < (a.length : Int))) then (bif (decide ((0 : Int) ≤ b)) then (bif (decide (b < (a.length : Int))) then (call (spec_MayFollow.R ((RSigned.at a (Int.toNat (IntKind.i64.wrap (b - 1)))).fHead) (RSigned.at a (Int.toNat b))) fun v3 => (bif (!v3) then ret (b : Int) else J (.p0 a (IntKind.i64.wrap (b + 1))))) else none) else none) else none) else none) else J (.p0 a (IntKind.i64.wrap (b + 1))))) else ret ((-1) : Int))
noncomputable def start (J : Pt → Ans) (x0 : List (List L)) : Ans := J (.p0 x0 0)
def live : Nat → Live := fun i => match i with | 2 => [(0, none), (3, none)] | _ => []
def pats : List Pat := [.rd (.sl 92)]
def res : RP := .one (.rd (.int .i64))
noncomputable def G : List (Nat × Con) := [(85, spec_IsFirst.con), (86, spec_MayFollow.con)]
noncomputable abbrev E : Env := ⟨assoc Tab, conG G, 38⟩
set_option maxRecDepth 100000
theorem step_eq (I : Heads) (p : Pt) : enterC E live I (pid p) (bodyOf Tryz.f82) (stOf (live (pid p)) (pvs p) (phs p)) (doneK E Tryz.f82 res) = step (fun q => I (pid q) (pvs q) (phs q)) p := by
  cases p <;> kernel_rfl
theorem start_eq (I : Heads) (ls : List L) : runC E live I (bodyOf Tryz.f82) (initS pats ls) (doneK E Tryz.f82 res) = start (fun q => I (pid q) (pvs q) (phs q)) (ls.headD .hole).toSl := by kernel_rfl
theorem run_eq (n : Nat) (ls : List L) : runF E live Tryz.f82 res n (initS pats ls) = start (iter step n) (ls.headD .hole).toSl := runF_iter (id := pid) (vs := pvs) (hs := phs) (step := step) (start := fun J => start J (ls.headD .hole).toSl) step_eq (fun I => start_eq I ls) n
noncomputable def md (a0 : List MSigned) : Int := (eachI (S := Unit) (β := Int) (fun (i1 : Nat) (y1 : MSigned) (s3 : Unit) => (bif ((i1 : Int) == 0) then (bif (!(spec_IsFirst.md (a0.getD 0 MSigned.zero))) then (.inr ((i1 : Int) : Int)) else (bif (decide ((i1 : Int) > 0)) then (bif (!(spec_MayFollow.md ((a0.getD (Int.toNat (IntKind.i64.wrap ((i1 : Int) - 1))) MSigned.zero).fHead) y1)) then (.inr ((i1 : Int) : Int)) else (.inl ())) else (.inl ()))) else (bif (decide ((i1 : Int) > 0)) then (bif (!(spec_MayFollow.md ((a0.getD (Int.toNat (IntKind.i64.wrap ((i1 : Int) - 1))) MSigned.zero).fHead) y1)) then (.inr ((i1 : Int) : Int)) else (.inl ())) else (.inl ())))) (fun (s3 : Unit) => ((-1) : Int)) 0 a0 ())
def gd (a0 : List MSigned) : Prop := (SmL (2 ^ 21) (fun y : MSigned => MSigned.Sm (2 ^ 21) y) a0)
def rf (a : List MSigned) : List (List L) := (a.map MSigned.row)
theorem rf_inj (a b : List MSigned) (h : rf a = rf b) : a = b := by
  exact (map_inj MSigned.row_inj h)
noncomputable def R (x0 : List (List L)) : Option (Int) := ofM rf (fun a => gd a) (fun a => (md a)) x0
theorem R_eq {a0 : List MSigned} (h : gd a0) : R (a0.map MSigned.row) = some (md a0) := ofM_eq (r := rf) (a := a0) rf_inj h
theorem okF (a0 : List MSigned) (hg : gd a0) : ∃ n, start (iter step n) (a0.map MSigned.row) = ret ((md a0) : Int) := by
  unfold gd at hg
  have H0 := hg
  unfold start md
  try simp only [bytesL_map, List.length_map, toNat_nat, iAt_getD, bAt_getD, sAt_getD, lAt_getD, MSigned.at_getD, MSigned.r_fHead]
  have Bh2 : a0.length ≤ maxLen := (by
      have := (H0).1
      try simp only [maxLen] at *
      omega)
  refine ex_eq (out := (fun b : Int => ret (b : Int))) (show (loopM (S := Unit) (β := Int) (fun (i1 : Nat) (s3 : Unit) => (bif ((i1 : Int) == 0) then (bif (!(spec_IsFirst.md (a0.getD 0 MSigned.zero))) then (.inr ((i1 : Int) : Int)) else (bif (decide ((i1 : Int) > 0)) then (bif (!(spec_MayFollow.md ((a0.getD (Int.toNat (IntKind.i64.wrap ((i1 : Int) - 1))) MSigned.zero).fHead) (a0.getD i1 MSigned.zero))) then (.inr ((i1 : Int) : Int)) else (.inl ())) else (.inl ()))) else (bif (decide ((i1 : Int) > 0)) then (bif (!(spec_MayFollow.md ((a0.getD (Int.toNat (IntKind.i64.wrap ((i1 : Int) - 1))) MSigned.zero).fHead) (a0.getD i1 MSigned.zero))) then (.inr ((i1 : Int) : Int)) else (.inl ())) else (.inl ())))) (fun (s3 : Unit) => ((-1) : Int)) a0.length 0 ()) = (eachI (S := Unit) (β := Int) (fun (i1 : Nat) (y1 : MSigned) (s3 : Unit) => (bif ((i1 : Int) == 0) then (bif (!(spec_IsFirst.md (a0.getD 0 MSigned.zero))) then (.inr ((i1 : Int) : Int)) else (bif (decide ((i1 : Int) > 0)) then (bif (!(spec_MayFollow.md ((a0.getD (Int.toNat (IntKind.i64.wrap ((i1 : Int) - 1))) MSigned.zero).fHead) y1)) then (.inr ((i1 : Int) : Int)) else (.inl ())) else (.inl ()))) else (bif (decide ((i1 : Int) > 0)) then (bif (!(spec_MayFollow.md ((a0.getD (Int.toNat (IntKind.i64.wrap ((i1 : Int) - 1))) MSigned.zero).fHead) y1)) then (.inr ((i1 : Int) : Int)) else (.inl ())) else (.inl ())))) (fun (s3 : Unit) => ((-1) : Int)) 0 a0 ()) from loopM_eachI (S := Unit) (β := Int) (f := fun (i1 : Nat) (y1 : MSigned) (s3 : Unit) => (bif ((i1 : Int) == 0) then (bif (!(spec_IsFirst.md (a0.getD 0 MSigned.zero))) then (.inr ((i1 : Int) : Int)) else (bif (decide ((i1 : Int) > 0)) then (bif (!(spec_MayFollow.md ((a0.getD (Int.toNat (IntKind.i64.wrap ((i1 : Int) - 1))) MSigned.zero).fHead) y1)) then (.inr ((i1 : Int) : Int)) else (.inl ())) else (.inl ()))) else (bif (decide ((i1 : Int) > 0)) then (bif (!(spec_MayFollow.md ((a0.getD (Int.toNat (IntKind.i64.wrap ((i1 : Int) - 1))) MSigned.zero).fHead) y1)) then (.inr ((i1 : Int) : Int)) else (.inl ())) else (.inl ())))) (t := fun (s3 : Unit) => ((-1) : Int)) (xs := a0) (z := MSigned.zero)) ?_
  refine ex_pt (p := Pt.p0 (a0.map MSigned.row) 0) (by first | rfl | (simp only [bytesL_map, List.length_map, toNat_nat, iAt_getD, bAt_getD, sAt_getD, lAt_getD, MSigned.at_getD, MSigned.r_fHead, List.map_append, List.map_cons, List.map_nil, List.cons_append, List.nil_append, iRow, sRow, bRow, lRow, List.map_set]; done) | (simp only [List.map_append, List.map_cons, List.map_nil, List.cons_append, List.nil_append, iRow, sRow, bRow, lRow, List.map_set]; rfl)) ?_
  refine loopM_ok (pt := fun (i1 : Nat) (s3 : Unit) => Pt.p0 (a0.map MSigned.row) (i1 : Int)) (s := (() : Unit)) (out := (fun b : Int => ret (b : Int))) (fun _ _ => True) (fun J i1 s3 h2 hih2 => ?_) (fun s3 hih2 => ?_) trivial
  · simp only [step, bytesL_map, List.length_map, toNat_nat, iAt_getD, bAt_getD, sAt_getD, lAt_getD, MSigned.at_getD, MSigned.r_fHead]
    have bb_ := Bh2
    simp only [maxLen] at bb_
    have := (H0).1
    refine Rnd.yes (by apply decide_eq_true; omega) ?_
    refine Rnd.bif (fun c4 => ?_) (fun c4 => ?_)
    · have dc4 := c4
      try simp only [bne_eq_false_iff_eq, bne_iff_ne, beq_iff_eq, beq_eq_false_iff_ne, ne_eq, Bool.not_eq_true', Bool.not_eq_false'] at dc4
      refine Rnd.yes (by
          have := (H0).1
          refine decide_eq_true ?_
          try simp (disch := omega) only [List.sum_cons, List.sum_nil, List.map_cons, List.map_nil, bytesI_length, bytesL_length, List.length_append, List.length_cons, List.length_nil, List.length_map, List.length_set, List.length_replicate, List.length_take, List.length_drop, Go.IntWalk.i64_in]
          first | omega | (simp; done) | (simp; omega)) ?_
      refine Rnd.call_to (spec_IsFirst.md (a0.getD 0 MSigned.zero)) ?_ ?_
      · have R_ := spec_IsFirst.R_eq (a0 := (a0.getD 0 MSigned.zero)) (SmL.getD (z := MSigned.zero) H0 (by first | assumption | omega | (simp (disch := omega) only [Go.IntWalk.i64_in]; omega) | (simp; omega)))
        first | exact R_ | (simp only [List.map_append, List.map_cons, List.map_nil, List.cons_append, List.nil_append, iRow, sRow, bRow, lRow, List.map_set, bytesL_map, List.length_map, toNat_nat, iAt_getD, bAt_getD, sAt_getD, lAt_getD, MSigned.at_getD, MSigned.r_fHead] at R_ ⊢; first | exact R_ | (rw [← R_]; rfl))
      try simp only [bytesL_map, List.length_map, toNat_nat, iAt_getD, bAt_getD, sAt_getD, lAt_getD, MSigned.at_getD, MSigned.r_fHead]
      refine Rnd.bif (fun c5 => ?_) (fun c5 => ?_)
      · have dc5 := c5
        try simp only [bne_eq_false_iff_eq, bne_iff_ne, beq_iff_eq, beq_eq_false_iff_ne, ne_eq, Bool.not_eq_true', Bool.not_eq_false'] at dc5
        refine Rnd.inr ?_
        all_goals first | rfl | (simp only [bytesL_map, List.length_map, toNat_nat, iAt_getD, bAt_getD, sAt_getD, lAt_getD, MSigned.at_getD, MSigned.r_fHead]; done) | (simp only [List.map_append, List.map_cons, List.map_nil, List.cons_append, List.nil_append, iRow, sRow, bRow, lRow, List.map_set]; rfl) | (simp only [bytesL_map, List.length_map, toNat_nat, iAt_getD, bAt_getD, sAt_getD, lAt_getD, MSigned.at_getD, MSigned.r_fHead, List.map_append, List.map_cons, List.map_nil, List.cons_append, List.nil_append, iRow, sRow, bRow, lRow, List.map_set]; first | done | rfl)
      · have dc5 := c5
        try simp only [bne_eq_false_iff_eq, bne_iff_ne, beq_iff_eq, beq_eq_false_iff_ne, ne_eq, Bool.not_eq_true', Bool.not_eq_false'] at dc5
        refine Rnd.bif (fun c6 => ?_) (fun c6 => ?_)
        · have dc6 := c6
          simp only [decide_eq_true_eq, decide_eq_false_iff_not] at dc6
          refine Rnd.yes (by
              refine decide_eq_true ?_
              try simp (disch := omega) only [List.sum_cons, List.sum_nil, List.map_cons, List.map_nil, bytesI_length, bytesL_length, List.length_append, List.length_cons, List.length_nil, List.length_map, List.length_set, List.length_replicate, List.length_take, List.length_drop, Go.IntWalk.i64_in]
              first | omega | (simp; done) | (simp; omega)) ?_
          refine Rnd.yes (by
              have := (H0).1
              refine decide_eq_true ?_
              try simp (disch := omega) only [List.sum_cons, List.sum_nil, List.map_cons, List.map_nil, bytesI_length, bytesL_length, List.length_append, List.length_cons, List.length_nil, List.length_map, List.length_set, List.length_replicate, List.length_take, List.length_drop, Go.IntWalk.i64_in]
              first | omega | (simp; done) | (simp; omega)) ?_
          refine Rnd.yes (by
              refine decide_eq_true ?_
              try simp (disch := omega) only [List.sum_cons, List.sum_nil, List.map_cons, List.map_nil, bytesI_length, bytesL_length, List.length_append, List.length_cons, List.length_nil, List.length_map, List.length_set, List.length_replicate, List.length_take, List.length_drop, Go.IntWalk.i64_in]
              first | omega | (simp; done) | (simp; omega)) ?_
          refine Rnd.yes (by
              have := (H0).1
              refine decide_eq_true ?_
              try simp (disch := omega) only [List.sum_cons, List.sum_nil, List.map_cons, List.map_nil, bytesI_length, bytesL_length, List.length_append, List.length_cons, List.length_nil, List.length_map, List.length_set, List.length_replicate, List.length_take, List.length_drop, Go.IntWalk.i64_in]
              first | omega | (simp; done) | (simp; omega)) ?_
          refine Rnd.call_to (spec_MayFollow.md ((a0.getD (Int.toNat (IntKind.i64.wrap ((i1 : Int) - 1))) MSigned.zero).fHead) (a0.getD i1 MSigned.zero)) ?_ ?_
          · have R_ := spec_MayFollow.R_eq (a0 := (a0.getD (Int.toNat (IntKind.i64.wrap ((i1 : Int) - 1))) MSigned.zero).fHead) (a1 := (a0.getD i1 MSigned.zero)) ⟨(SmL.getD (z := MSigned.zero) H0 (by first | assumption | omega | (simp (disch := omega) only [Go.IntWalk.i64_in]; omega) | (simp; omega))).1, (SmL.getD (z := MSigned.zero) H0 h2)⟩
            first | exact R_ | (simp only [List.map_append, List.map_cons, List.map_nil, List.cons_append, List.nil_append, iRow, sRow, bRow, lRow, List.map_set, bytesL_map, List.length_map, toNat_nat, iAt_getD, bAt_getD, sAt_getD, lAt_getD, MSigned.at_getD, MSigned.r_fHead] at R_ ⊢; first | exact R_ | (rw [← R_]; rfl))
          try simp only [bytesL_map, List.length_map, toNat_nat, iAt_getD, bAt_getD, sAt_getD, lAt_getD, MSigned.at_getD, MSigned.r_fHead]
          refine Rnd.bif (fun c7 => ?_) (fun c7 => ?_)
          · have dc7 := c7
            try simp only [bne_eq_false_iff_eq, bne_iff_ne, beq_iff_eq, beq_eq_false_iff_ne, ne_eq, Bool.not_eq_true', Bool.not_eq_false'] at dc7
            refine Rnd.inr ?_
            all_goals first | rfl | (simp only [bytesL_map, List.length_map, toNat_nat, iAt_getD, bAt_getD, sAt_getD, lAt_getD, MSigned.at_getD, MSigned.r_fHead]; done) | (simp only [List.map_append, List.map_cons, List.map_nil, List.cons_append, List.nil_append, iRow, sRow, bRow, lRow, List.map_set]; rfl) | (simp only [bytesL_map, List.length_map, toNat_nat, iAt_getD, bAt_getD, sAt_getD, lAt_getD, MSigned.at_getD, MSigned.r_fHead, List.map_append, List.map_cons, List.map_nil, List.cons_append, List.nil_append, iRow, sRow, bRow, lRow, List.map_set]; first | done | rfl)
          · have dc7 := c7
            try simp only [bne_eq_false_iff_eq, bne_iff_ne, beq_iff_eq, beq_eq_false_iff_ne, ne_eq, Bool.not_eq_true', Bool.not_eq_false'] at dc7
            refine Rnd.inl trivial ?_
            rw [wrap_succ h2 Bh2]
            all_goals first | rfl | (simp only [bytesL_map, List.length_map, toNat_nat, iAt_getD, bAt_getD, sAt_getD, lAt_getD, MSigned.at_getD, MSigned.r_fHead]; done) | (simp only [List.map_append, List.map_cons, List.map_nil, List.cons_append, List.nil_append, iRow, sRow, bRow, lRow, List.map_set]; rfl) | (simp only [bytesL_map, List.length_map, toNat_nat, iAt_getD, bAt_getD, sAt_getD, lAt_getD, MSigned.at_getD, MSigned.r_fHead, List.map_append, List.map_cons, List.map_nil, List.cons_append, List.nil_append, iRow, sRow, bRow, lRow, List.map_set]; first | done | rfl)
        · have dc6 := c6
          simp only [decide_eq_true_eq, decide_eq_false_iff_not] at dc6
          refine Rnd.inl trivial ?_
          rw [wrap_succ h2 Bh2]
          all_goals first | rfl | (simp only [bytesL_map, List.length_map, toNat_nat, iAt_getD, bAt_getD, sAt_getD, lAt_getD, MSigned.at_getD, MSigned.r_fHead]; done) | (simp only [List.map_append, List.map_cons, List.map_nil, List.cons_append, List.nil_append, iRow, sRow, bRow, lRow, List.map_set]; rfl) | (simp only [bytesL_map, List.length_map, toNat_nat, iAt_getD, bAt_getD, sAt_getD, lAt_getD, MSigned.at_getD, MSigned.r_fHead, List.map_append, List.map_cons, List.map_nil, List.cons_append, List.nil_append, iRow, sRow, bRow, lRow, List.map_set]; first | done | rfl)
    · have dc4 := c4
      try simp only [bne_eq_false_iff_eq, bne_iff_ne, beq_iff_eq, beq_eq_false_iff_ne, ne_eq, Bool.not_eq_true', Bool.not_eq_false'] at dc4
      refine Rnd.bif (fun c8 => ?_) (fun c8 => ?_)
      · have dc8 := c8
        simp only [decide_eq_true_eq, decide_eq_false_iff_not] at dc8
        refine Rnd.yes (by
            refine decide_eq_true ?_
            try simp (disch := omega) only [List.sum_cons, List.sum_nil, List.map_cons, List.map_nil, bytesI_length, bytesL_length, List.length_append, List.length_cons, List.length_nil, List.length_map, List.length_set, List.length_replicate, List.length_take, List.length_drop, Go.IntWalk.i64_in]
            first | omega | (simp; done) | (simp; omega)) ?_
        refine Rnd.yes (by
            have := (H0).1
            refine decide_eq_true ?_
            try simp (disch := omega) only [List.sum_cons, List.sum_nil, List.map_cons, List.map_nil, bytesI_length, bytesL_length, List.length_append, List.length_cons, List.length_nil, List.length_map, List.length_set, List.length_replicate, List.length_take, List.length_drop, Go.IntWalk.i64_in]
            first | omega | (simp; done) | (simp; omega)) ?_
        refine Rnd.yes (by
            refine decide_eq_true ?_
            try simp (disch := omega) only [List.sum_cons, List.sum_nil, List.map_cons, List.map_nil, bytesI_length, bytesL_length, List.length_append, List.length_cons, List.length_nil, List.length_map, List.length_set, List.length_replicate, List.length_take, List.length_drop, Go.IntWalk.i64_in]
            first | omega | (simp; done) | (simp; omega)) ?_
        refine Rnd.yes (by
            have := (H0).1
            refine decide_eq_true ?_
            try simp (disch := omega) only [List.sum_cons, List.sum_nil, List.map_cons, List.map_nil, bytesI_length, bytesL_length, List.length_append, List.length_cons, List.length_nil, List.length_map, List.length_set, List.length_replicate, List.length_take, List.length_drop, Go.IntWalk.i64_in]
            first | omega | (simp; done) | (simp; omega)) ?_
        refine Rnd.call_to (spec_MayFollow.md ((a0.getD (Int.toNat (IntKind.i64.wrap ((i1 : Int) - 1))) MSigned.zero).fHead) (a0.getD i1 MSigned.zero)) ?_ ?_
        · have R_ := spec_MayFollow.R_eq (a0 := (a0.getD (Int.toNat (IntKind.i64.wrap ((i1 : Int) - 1))) MSigned.zero).fHead) (a1 := (a0.getD i1 MSigned.zero)) ⟨(SmL.getD (z := MSigned.zero) H0 (by first | assumption | omega | (simp (disch := omega) only [Go.IntWalk.i64_in]; omega) | (simp; omega))).1, (SmL.getD (z := MSigned.zero) H0 h2)⟩
          first | exact R_ | (simp only [List.map_append, List.map_cons, List.map_nil, List.cons_append, List.nil_append, iRow, sRow, bRow, lRow, List.map_set, bytesL_map, List.length_map, toNat_nat, iAt_getD, bAt_getD, sAt_getD, lAt_getD, MSigned.at_getD, MSigned.r_fHead] at R_ ⊢; first | exact R_ | (rw [← R_]; rfl))
        try simp only [bytesL_map, List.length_map, toNat_nat, iAt_getD, bAt_getD, sAt_getD, lAt_getD, MSigned.at_getD, MSigned.r_fHead]
        refine Rnd.bif (fun c9 => ?_) (fun c9 => ?_)
        · have dc9 := c9
          try simp only [bne_eq_false_iff_eq, bne_iff_ne, beq_iff_eq, beq_eq_false_iff_ne, ne_eq, Bool.not_eq_true', Bool.not_eq_false'] at dc9
          refine Rnd.inr ?_
          all_goals first | rfl | (simp only [bytesL_map, List.length_map, toNat_nat, iAt_getD, bAt_getD, sAt_getD, lAt_getD, MSigned.at_getD, MSigned.r_fHead]; done) | (simp only [List.map_append, List.map_cons, List.map_nil, List.cons_append, List.nil_append, iRow, sRow, bRow, lRow, List.map_set]; rfl) | (simp only [bytesL_map, List.length_map, toNat_nat, iAt_getD, bAt_getD, sAt_getD, lAt_getD, MSigned.at_getD, MSigned.r_fHead, List.map_append, List.map_cons, List.map_nil, List.cons_append, List.nil_append, iRow, sRow, bRow, lRow, List.map_set]; first | done | rfl)
        · have dc9 := c9
          try simp only [bne_eq_false_iff_eq, bne_iff_ne, beq_iff_eq, beq_eq_false_iff_ne, ne_eq, Bool.not_eq_true', Bool.not_eq_false'] at dc9
          refine Rnd.inl trivial ?_
          rw [wrap_succ h2 Bh2]
          all_goals first | rfl | (simp only [bytesL_map, List.length_map, toNat_nat, iAt_getD, bAt_getD, sAt_getD, lAt_getD, MSigned.at_getD, MSigned.r_fHead]; done) | (simp only [List.map_append, List.map_cons, List.map_nil, List.cons_append, List.nil_append, iRow, sRow, bRow, lRow, List.map_set]; rfl) | (simp only [bytesL_map, List.length_map, toNat_nat, iAt_getD, bAt_getD, sAt_getD, lAt_getD, MSigned.at_getD, MSigned.r_fHead, List.map_append, List.map_cons, List.map_nil, List.cons_append, List.nil_append, iRow, sRow, bRow, lRow, List.map_set]; first | done | rfl)
      · have dc8 := c8
        simp only [decide_eq_true_eq, decide_eq_false_iff_not] at dc8
        refine Rnd.inl trivial ?_
        rw [wrap_succ h2 Bh2]
        all_goals first | rfl | (simp only [bytesL_map, List.length_map, toNat_nat, iAt_getD, bAt_getD, sAt_getD, lAt_getD, MSigned.at_getD, MSigned.r_fHead]; done) | (simp only [List.map_append, List.map_cons, List.map_nil, List.cons_append, List.nil_append, iRow, sRow, bRow, lRow, List.map_set]; rfl) | (simp only [bytesL_map, List.length_map, toNat_nat, iAt_getD, bAt_getD, sAt_getD, lAt_getD, MSigned.at_getD, MSigned.r_fHead, List.map_append, List.map_cons, List.map_nil, List.cons_append, List.nil_append, iRow, sRow, bRow, lRow, List.map_set]; first | done | rfl)
  · simp only [step, bytesL_map, List.length_map, toNat_nat, iAt_getD, bAt_getD, sAt_getD, lAt_getD, MSigned.at_getD, MSigned.r_fHead]
    have := (H0).1
    refine ex_no (by apply decide_eq_false; omega) ?_
    refine ⟨0, ?_⟩
    all_goals first | rfl | (simp only [bytesL_map, List.length_map, toNat_nat, iAt_getD, bAt_getD, sAt_getD, lAt_getD, MSigned.at_getD, MSigned.r_fHead]; done) | (simp only [List.map_append, List.map_cons, List.map_nil, List.cons_append, List.nil_append, iRow, sRow, bRow, lRow, List.map_set]; rfl) | (simp only [bytesL_map, List.length_map, toNat_nat, iAt_getD, bAt_getD, sAt_getD, lAt_getD, MSigned.at_getD, MSigned.r_fHead, List.map_append, List.map_cons, List.map_nil, List.cons_append, List.nil_append, iRow, sRow, bRow, lRow, List.map_set]; first | done | rfl)
noncomputable def sem (ls : List L) : Option (List L) := (R (ls.headD .hole).toSl).map RT.enc
theorem ok (ls q : List L) (hl : LOKs Ev.cells pats ls) (h : sem ls = some q) : ∃ n, runF E live Tryz.f82 res n (initS pats ls) = some q := by
  obtain ⟨v, hv, hq⟩ := map_some h
  obtain ⟨a0, hg, e, hm⟩ := ofM_some hv
  have e0 : (a0.map MSigned.row) = _ := e
  obtain ⟨n, hn⟩ := okF a0 hg
  refine ⟨n, (run_eq n ls).trans ?_⟩
  rw [← e0]
  rw [hn, ← hq, hm]; rfl
noncomputable def con : Con := ⟨pats, res, sem⟩
theorem chk : fnB Tryz.f82 con 38 = true := by kernel_rfl
theorem valid_ : Valid Tryz.prog Ev 82 con := valid mix tab_ok (.cons spec_IsFirst.valid_ (.cons spec_MayFollow.valid_ .nil)) Tryz.func82 chk live ok
end spec_FirstWrong
/-! spec.IsChain -/
namespace spec_IsChain
noncomputable def F (x0 : List (List L)) : Ans := (call (spec_l1In.R (x0.length : Int) 1 12) fun v1 => (bif v1 then (call (spec_FirstWrong.R x0) fun v2 => ret ((decide (v2 < 0)) : Bool)) else ret (false : Bool)))
def live : Nat → Live := fun _ => []
def pats : List Pat := [.rd (.sl 92)]
def res : RP := .one (.rd (.bool))
noncomputable def G : List (Nat × Con) := [(81, spec_l1In.con), (82, spec_FirstWrong.con)]
noncomputable abbrev E : Env := ⟨assoc Tab, conG G, 11⟩
set_option maxRecDepth 100000
theorem run_eq (n : Nat) (ls : List L) : runF E live Tryz.f41 res n (initS pats ls) = F (ls.headD .hole).toSl := by kernel_rfl
noncomputable def md (a0 : List MSigned) : Bool := (bif (spec_l1In.md (a0.length : Int) 1 12) then ((decide ((spec_FirstWrong.md a0) < 0)) : Bool) else (false : Bool))
def gd (a0 : List MSigned) : Prop := (SmL (2 ^ 21) (fun y : MSigned => MSigned.Sm (2 ^ 21) y) a0)
def rf (a : List MSigned) : List (List L) := (a.map MSigned.row)
theorem rf_inj (a b : List MSigned) (h : rf a = rf b) : a = b := by
  exact (map_inj MSigned.row_inj h)
noncomputable def R (x0 : List (List L)) : Option (Bool) := ofM rf (fun a => gd a) (fun a => (md a)) x0
theorem R_eq {a0 : List MSigned} (h : gd a0) : R (a0.map MSigned.row) = some (md a0) := ofM_eq (r := rf) (a := a0) rf_inj h
theorem okF (a0 : List MSigned) (hg : gd a0) : F (a0.map MSigned.row) = ret ((md a0) : Bool) := by
  unfold gd at hg
  have H0 := hg
  unfold F md
  try simp only [bytesL_map, List.length_map, toNat_nat, iAt_getD, bAt_getD, sAt_getD, lAt_getD]
  refine call_to (spec_l1In.md (a0.length : Int) 1 12) ?_ ?_
  · have R_ := spec_l1In.R_eq (a0 := (a0.length : Int)) (a1 := 1) (a2 := 12) trivial
    first | exact R_ | (simp only [List.map_append, List.map_cons, List.map_nil, List.cons_append, List.nil_append, iRow, sRow, bRow, lRow, List.map_set, bytesL_map, List.length_map, toNat_nat, iAt_getD, bAt_getD, sAt_getD, lAt_getD] at R_ ⊢; first | exact R_ | (rw [← R_]; rfl))
  try simp only [bytesL_map, List.length_map, toNat_nat, iAt_getD, bAt_getD, sAt_getD, lAt_getD]
  refine bif_out (fun b : Bool => ret (b : Bool)) (fun c1 => ?_) (fun c1 => ?_)
  · have dc1 := c1
    try simp [spec_l1In.md] at dc1
    refine call_to (spec_FirstWrong.md a0) ?_ ?_
    · have R_ := spec_FirstWrong.R_eq (a0 := a0) H0
      first | exact R_ | (simp only [List.map_append, List.map_cons, List.map_nil, List.cons_append, List.nil_append, iRow, sRow, bRow, lRow, List.map_set, bytesL_map, List.length_map, toNat_nat, iAt_getD, bAt_getD, sAt_getD, lAt_getD] at R_ ⊢; first | exact R_ | (rw [← R_]; rfl))
    try simp only [bytesL_map, List.length_map, toNat_nat, iAt_getD, bAt_getD, sAt_getD, lAt_getD]
    all_goals first | rfl | (simp only [bytesL_map, List.length_map, toNat_nat, iAt_getD, bAt_getD, sAt_getD, lAt_getD]; done) | (simp only [List.map_append, List.map_cons, List.map_nil, List.cons_append, List.nil_append, iRow, sRow, bRow, lRow, List.map_set]; rfl) | (simp only [bytesL_map, List.length_map, toNat_nat, iAt_getD, bAt_getD, sAt_getD, lAt_getD, List.map_append, List.map_cons, List.map_nil, List.cons_append, List.nil_append, iRow, sRow, bRow, lRow, List.map_set]; first | done | rfl)
  · have dc1 := c1
    try simp [spec_l1In.md] at dc1
    all_goals first | rfl | (simp only [bytesL_map, List.length_map, toNat_nat, iAt_getD, bAt_getD, sAt_getD, lAt_getD]; done) | (simp only [List.map_append, List.map_cons, List.map_nil, List.cons_append, List.nil_append, iRow, sRow, bRow, lRow, List.map_set]; rfl) | (simp only [bytesL_map, List.length_map, toNat_nat, iAt_getD, bAt_getD, sAt_getD, lAt_getD, List.map_append, List.map_cons, List.map_nil, List.cons_append, List.nil_append, iRow, sRow, bRow, lRow, List.map_set]; first | done | rfl)
noncomputable def sem (ls : List L) : Option (List L) := (R (ls.headD .hole).toSl).map RT.enc
theorem ok (ls q : List L) (hl : LOKs Ev.cells pats ls) (h : sem ls = some q) : ∃ n, runF E live Tryz.f41 res n (initS pats ls) = some q := by
  obtain ⟨v, hv, hq⟩ := map_some h
  obtain ⟨a0, hg, e, hm⟩ := ofM_some hv
  have e0 : (a0.map MSigned.row) = _ := e
  have hn := okF a0 hg
  refine ⟨0, (run_eq 0 ls).trans ?_⟩
  rw [← e0]
  rw [hn, ← hq, hm]; rfl
noncomputable def con : Con := ⟨pats, res, sem⟩
theorem chk : fnB Tryz.f41 con 11 = true := by kernel_rfl
theorem valid_ : Valid Tryz.prog Ev 41 con := valid mix tab_ok (.cons spec_l1In.valid_ (.cons spec_FirstWrong.valid_ .nil)) Tryz.func41 chk live ok
theorem tr {a0 : List MSigned} (h : md a0 = true) : 1 ≤ a0.length ∧ a0.length ≤ 12 := by simp [md, spec_l1In.md] at h; omega
theorem heads {l : List MSigned} (h : md l = true) : ∀ i, i < l.length → spec_IsHead.md (l.getD i MSigned.zero).fHead = true := by
  intro i hi
  have hl := tr h
  have h1 : spec_FirstWrong.md l < 0 := by
    unfold md at h
    cases hc : spec_l1In.md (l.length : Int) 1 12 <;> rw [hc] at h
    · cases h
    · simpa using h
  unfold spec_FirstWrong.md at h1
  have h2 := eachI_neg (z := MSigned.zero) (by
    intro i x s b h
    revert h
    simp only [Bool.cond_eq_ite]
    repeat' split
    all_goals (intro h; first | (cases h; rfl) | cases h)) h1 i hi
  by_cases h0 : i = 0
  · subst h0
    cases hf : spec_IsFirst.md (l.getD 0 MSigned.zero)
    · rw [hf] at h2; cases h2
    · unfold spec_IsFirst.md at hf
      cases hh : spec_IsHead.md (l.getD 0 MSigned.zero).fHead
      · rw [hh] at hf; cases hf
      · rfl
  · have e : ((i : Int) == 0) = false := beq_eq_false_iff_ne.2 (by omega)
    have e2 : decide ((i : Int) > 0) = true := by simpa using by omega
    simp only [e, e2, cond_false, cond_true] at h2
    cases hf : spec_MayFollow.md ((l.getD (Int.toNat (IntKind.i64.wrap ((i : Int) - 1))) MSigned.zero).fHead) (l.getD i MSigned.zero)
    · rw [hf] at h2; cases h2
    · unfold spec_MayFollow.md spec_NextCode.md at hf
      cases hh : spec_IsHead.md (l.getD i MSigned.zero).fHead
      · rw [hh] at hf
        cases hp : spec_IsHead.md ((l.getD (Int.toNat (IntKind.i64.wrap ((i : Int) - 1))) MSigned.zero).fHead) <;> rw [hp] at hf <;> cases hf
      · rfl
end spec_IsChain
/-! spec.l6Copy -/
namespace spec_l6Copy
noncomputable def F (x0 : RKeys) : Ans := (bif (lim ((x0.fList.length : Int) * 8)) then ret (x0 : RKeys) else none)
def live : Nat → Live := fun _ => []
def pats : List Pat := [.agg [.sl 3, .int .i64]]
def res : RP := .agg [.fr 3, .rd (.int .i64)]
noncomputable def G : List (Nat × Con) := []
noncomputable abbrev E : Env := ⟨assoc Tab, conG G, 10⟩
set_option maxRecDepth 100000
theorem run_eq (n : Nat) (ls : List L) : runF E live Tryz.f164 res n (initS pats ls) = F (RKeys.dec ls) := by kernel_rfl
noncomputable def md (a0 : MKeys) : MKeys := a0
def gd (a0 : MKeys) : Prop := (MKeys.Sm (2 ^ 21) a0)
def rf (a : MKeys) : RKeys := (MKeys.r a)
theorem rf_inj (a b : MKeys) (h : rf a = rf b) : a = b := by
  exact (MKeys.r_inj h)
noncomputable def R (x0 : RKeys) : Option (RKeys) := ofM rf (fun a => gd a) (fun a => (MKeys.r (md a))) x0
theorem R_eq {a0 : MKeys} (h : gd a0) : R (MKeys.r a0) = some (MKeys.r (md a0)) := ofM_eq (r := rf) (a := a0) rf_inj h
theorem okF (a0 : MKeys) (hg : gd a0) : F (MKeys.r a0) = ret ((MKeys.r (md a0)) : RKeys) := by
  unfold gd at hg
  have H0 := hg
  unfold F md
  try simp only [bytesL_map, List.length_map, toNat_nat, iAt_getD, bAt_getD, sAt_getD, lAt_getD, MKeys.r_fList]
  refine yes_ret (by
      have := (H0).1
      refine lim_t ?_
      try simp (disch := omega) only [List.sum_cons, List.sum_nil, List.map_cons, List.map_nil, bytesI_length, bytesL_length, List.length_append, List.length_cons, List.length_nil, List.length_map, List.length_set, List.length_replicate, List.length_take, List.length_drop, Go.IntWalk.i64_in]
      first | omega | (simp; done) | (simp; omega)) ?_
  all_goals first | rfl | (simp only [bytesL_map, List.length_map, toNat_nat, iAt_getD, bAt_getD, sAt_getD, lAt_getD, MKeys.r_fList]; done) | (simp only [List.map_append, List.map_cons, List.map_nil, List.cons_append, List.nil_append, iRow, sRow, bRow, lRow, List.map_set]; rfl) | (simp only [bytesL_map, List.length_map, toNat_nat, iAt_getD, bAt_getD, sAt_getD, lAt_getD, MKeys.r_fList, List.map_append, List.map_cons, List.map_nil, List.cons_append, List.nil_append, iRow, sRow, bRow, lRow, List.map_set]; first | done | rfl)
noncomputable def sem (ls : List L) : Option (List L) := (R (RKeys.dec ls)).map RT.enc
theorem ok (ls q : List L) (hl : LOKs Ev.cells pats ls) (h : sem ls = some q) : ∃ n, runF E live Tryz.f164 res n (initS pats ls) = some q := by
  obtain ⟨v, hv, hq⟩ := map_some h
  obtain ⟨a0, hg, e, hm⟩ := ofM_some hv
  have e0 : (MKeys.r a0) = _ := e
  have hn := okF a0 hg
  refine ⟨0, (run_eq 0 ls).trans ?_⟩
  rw [← e0]
  rw [hn, ← hq, hm]; rfl
noncomputable def con : Con := ⟨pats, res, sem⟩
theorem chk : fnB Tryz.f164 con 10 = true := by kernel_rfl
theorem valid_ : Valid Tryz.prog Ev 164 con := valid mix tab_ok .nil Tryz.func164 chk live ok
end spec_l6Copy
/-! spec.l13Copy -/
namespace spec_l13Copy
noncomputable def F (x0 : RHead) : Ans := (call (spec_l6Copy.R x0.fKeys) fun v1 => (call (spec_l6Copy.R x0.fHeirs) fun v2 => (call (spec_l6Copy.R x0.fJudge) fun v3 => ret ((⟨x0.fZone, x0.fEpoch, x0.fKind, x0.fTime, x0.fUntil, x0.fCount, x0.fRoot, x0.fPrev, v1, v2, x0.fWait, v3, x0.fFrozen⟩ : RHead) : RHead))))
def live : Nat → Live := fun _ => []
def pats : List Pat := [.agg [.int .i64, .int .i64, .int .i64, .int .i64, .int .i64, .int .i64, .int .i64, .int .i64, .sl 3, .int .i64, .sl 3, .int .i64, .int .i64, .sl 3, .int .i64, .bool]]
def res : RP := .agg [.rd (.int .i64), .rd (.int .i64), .rd (.int .i64), .rd (.int .i64), .rd (.int .i64), .rd (.int .i64), .rd (.int .i64), .rd (.int .i64), .fr 3, .rd (.int .i64), .fr 3, .rd (.int .i64), .rd (.int .i64), .fr 3, .rd (.int .i64), .rd (.bool)]
noncomputable def G : List (Nat × Con) := [(164, spec_l6Copy.con)]
noncomputable abbrev E : Env := ⟨assoc Tab, conG G, 18⟩
set_option maxRecDepth 100000
theorem run_eq (n : Nat) (ls : List L) : runF E live Tryz.f121 res n (initS pats ls) = F (RHead.dec ls) := by kernel_rfl
noncomputable def md (a0 : MHead) : MHead := a0
def gd (a0 : MHead) : Prop := (MHead.Sm (2 ^ 21) a0)
def rf (a : MHead) : RHead := (MHead.r a)
theorem rf_inj (a b : MHead) (h : rf a = rf b) : a = b := by
  exact (MHead.r_inj h)
noncomputable def R (x0 : RHead) : Option (RHead) := ofM rf (fun a => gd a) (fun a => (MHead.r (md a))) x0
theorem R_eq {a0 : MHead} (h : gd a0) : R (MHead.r a0) = some (MHead.r (md a0)) := ofM_eq (r := rf) (a := a0) rf_inj h
theorem okF (a0 : MHead) (hg : gd a0) : F (MHead.r a0) = ret ((MHead.r (md a0)) : RHead) := by
  unfold gd at hg
  have H0 := hg
  unfold F md
  try simp only [bytesL_map, List.length_map, toNat_nat, iAt_getD, bAt_getD, sAt_getD, lAt_getD, MHead.r_fZone, MHead.r_fEpoch, MHead.r_fKind, MHead.r_fTime, MHead.r_fUntil, MHead.r_fCount, MHead.r_fRoot, MHead.r_fPrev, MHead.r_fKeys, MHead.r_fHeirs, MHead.r_fWait, MHead.r_fJudge, MHead.r_fFrozen]
  refine call_to (MKeys.r a0.fKeys) ?_ ?_
  · have R_ := spec_l6Copy.R_eq (a0 := a0.fKeys) H0.1
    simp only [spec_l6Copy.md] at R_
    first | exact R_ | (simp only [List.map_append, List.map_cons, List.map_nil, List.cons_append, List.nil_append, iRow, sRow, bRow, lRow, List.map_set, bytesL_map, List.length_map, toNat_nat, iAt_getD, bAt_getD, sAt_getD, lAt_getD, MHead.r_fZone, MHead.r_fEpoch, MHead.r_fKind, MHead.r_fTime, MHead.r_fUntil, MHead.r_fCount, MHead.r_fRoot, MHead.r_fPrev, MHead.r_fKeys, MHead.r_fHeirs, MHead.r_fWait, MHead.r_fJudge, MHead.r_fFrozen] at R_ ⊢; first | exact R_ | (rw [← R_]; rfl))
  try simp only [bytesL_map, List.length_map, toNat_nat, iAt_getD, bAt_getD, sAt_getD, lAt_getD, MHead.r_fZone, MHead.r_fEpoch, MHead.r_fKind, MHead.r_fTime, MHead.r_fUntil, MHead.r_fCount, MHead.r_fRoot, MHead.r_fPrev, MHead.r_fKeys, MHead.r_fHeirs, MHead.r_fWait, MHead.r_fJudge, MHead.r_fFrozen]
  refine call_to (MKeys.r a0.fHeirs) ?_ ?_
  · have R_ := spec_l6Copy.R_eq (a0 := a0.fHeirs) H0.2.1
    simp only [spec_l6Copy.md] at R_
    first | exact R_ | (simp only [List.map_append, List.map_cons, List.map_nil, List.cons_append, List.nil_append, iRow, sRow, bRow, lRow, List.map_set, bytesL_map, List.length_map, toNat_nat, iAt_getD, bAt_getD, sAt_getD, lAt_getD, MHead.r_fZone, MHead.r_fEpoch, MHead.r_fKind, MHead.r_fTime, MHead.r_fUntil, MHead.r_fCount, MHead.r_fRoot, MHead.r_fPrev, MHead.r_fKeys, MHead.r_fHeirs, MHead.r_fWait, MHead.r_fJudge, MHead.r_fFrozen] at R_ ⊢; first | exact R_ | (rw [← R_]; rfl))
  try simp only [bytesL_map, List.length_map, toNat_nat, iAt_getD, bAt_getD, sAt_getD, lAt_getD, MHead.r_fZone, MHead.r_fEpoch, MHead.r_fKind, MHead.r_fTime, MHead.r_fUntil, MHead.r_fCount, MHead.r_fRoot, MHead.r_fPrev, MHead.r_fKeys, MHead.r_fHeirs, MHead.r_fWait, MHead.r_fJudge, MHead.r_fFrozen]
  refine call_to (MKeys.r a0.fJudge) ?_ ?_
  · have R_ := spec_l6Copy.R_eq (a0 := a0.fJudge) H0.2.2
    simp only [spec_l6Copy.md] at R_
    first | exact R_ | (simp only [List.map_append, List.map_cons, List.map_nil, List.cons_append, List.nil_append, iRow, sRow, bRow, lRow, List.map_set, bytesL_map, List.length_map, toNat_nat, iAt_getD, bAt_getD, sAt_getD, lAt_getD, MHead.r_fZone, MHead.r_fEpoch, MHead.r_fKind, MHead.r_fTime, MHead.r_fUntil, MHead.r_fCount, MHead.r_fRoot, MHead.r_fPrev, MHead.r_fKeys, MHead.r_fHeirs, MHead.r_fWait, MHead.r_fJudge, MHead.r_fFrozen] at R_ ⊢; first | exact R_ | (rw [← R_]; rfl))
  try simp only [bytesL_map, List.length_map, toNat_nat, iAt_getD, bAt_getD, sAt_getD, lAt_getD, MHead.r_fZone, MHead.r_fEpoch, MHead.r_fKind, MHead.r_fTime, MHead.r_fUntil, MHead.r_fCount, MHead.r_fRoot, MHead.r_fPrev, MHead.r_fKeys, MHead.r_fHeirs, MHead.r_fWait, MHead.r_fJudge, MHead.r_fFrozen]
  all_goals first | rfl | (simp only [bytesL_map, List.length_map, toNat_nat, iAt_getD, bAt_getD, sAt_getD, lAt_getD, MHead.r_fZone, MHead.r_fEpoch, MHead.r_fKind, MHead.r_fTime, MHead.r_fUntil, MHead.r_fCount, MHead.r_fRoot, MHead.r_fPrev, MHead.r_fKeys, MHead.r_fHeirs, MHead.r_fWait, MHead.r_fJudge, MHead.r_fFrozen]; done) | (simp only [List.map_append, List.map_cons, List.map_nil, List.cons_append, List.nil_append, iRow, sRow, bRow, lRow, List.map_set]; rfl) | (simp only [bytesL_map, List.length_map, toNat_nat, iAt_getD, bAt_getD, sAt_getD, lAt_getD, MHead.r_fZone, MHead.r_fEpoch, MHead.r_fKind, MHead.r_fTime, MHead.r_fUntil, MHead.r_fCount, MHead.r_fRoot, MHead.r_fPrev, MHead.r_fKeys, MHead.r_fHeirs, MHead.r_fWait, MHead.r_fJudge, MHead.r_fFrozen, List.map_append, List.map_cons, List.map_nil, List.cons_append, List.nil_append, iRow, sRow, bRow, lRow, List.map_set]; first | done | rfl)
noncomputable def sem (ls : List L) : Option (List L) := (R (RHead.dec ls)).map RT.enc
theorem ok (ls q : List L) (hl : LOKs Ev.cells pats ls) (h : sem ls = some q) : ∃ n, runF E live Tryz.f121 res n (initS pats ls) = some q := by
  obtain ⟨v, hv, hq⟩ := map_some h
  obtain ⟨a0, hg, e, hm⟩ := ofM_some hv
  have e0 : (MHead.r a0) = _ := e
  have hn := okF a0 hg
  refine ⟨0, (run_eq 0 ls).trans ?_⟩
  rw [← e0]
  rw [hn, ← hq, hm]; rfl
noncomputable def con : Con := ⟨pats, res, sem⟩
theorem chk : fnB Tryz.f121 con 18 = true := by kernel_rfl
theorem valid_ : Valid Tryz.prog Ev 121 con := valid mix tab_ok (.cons spec_l6Copy.valid_ .nil) Tryz.func121 chk live ok
end spec_l13Copy
/-! spec.LastHead -/
namespace spec_LastHead
noncomputable def F (x0 : List (List L)) : Ans := (call (spec_IsChain.R x0) fun v1 => (bif (!v1) then ret (((⟨0, 0, 0, 0, 0, 0, 0, 0, (⟨[], 0⟩ : RKeys), (⟨[], 0⟩ : RKeys), 0, (⟨[], 0⟩ : RKeys), false⟩ : RHead), false) : RHead × Bool) else (bif (decide ((0 : Int) ≤ (IntKind.i64.wrap ((x0.length : Int) - 1)))) then (bif (decide ((IntKind.i64.wrap ((x0.length : Int) - 1)) < (x0.length : Int))) then (call (spec_l13Copy.R ((RSigned.at x0 (Int.toNat (IntKind.i64.wrap ((x0.length : Int) - 1)))).fHead)) fun v2 => ret ((v2, true) : RHead × Bool)) else none) else none)))
def live : Nat → Live := fun _ => []
def pats : List Pat := [.rd (.sl 92)]
def res : RP := .tup [(true, [.rd (.int .i64), .rd (.int .i64), .rd (.int .i64), .rd (.int .i64), .rd (.int .i64), .rd (.int .i64), .rd (.int .i64), .rd (.int .i64), .fr 3, .rd (.int .i64), .fr 3, .rd (.int .i64), .rd (.int .i64), .fr 3, .rd (.int .i64), .rd (.bool)]), (false, [.rd (.bool)])]
noncomputable def G : List (Nat × Con) := [(41, spec_IsChain.con), (121, spec_l13Copy.con)]
noncomputable abbrev E : Env := ⟨assoc Tab, conG G, 16⟩
set_option maxRecDepth 100000
theorem run_eq (n : Nat) (ls : List L) : runF E live Tryz.f66 res n (initS pats ls) = F (ls.headD .hole).toSl := by kernel_rfl
noncomputable def md (a0 : List MSigned) : MHead × Bool := (bif (!(spec_IsChain.md a0)) then ((⟨0, 0, 0, 0, 0, 0, 0, 0, (⟨[], 0⟩ : MKeys), (⟨[], 0⟩ : MKeys), 0, (⟨[], 0⟩ : MKeys), false⟩ : MHead), false) else (((a0.getD (Int.toNat (IntKind.i64.wrap ((a0.length : Int) - 1))) MSigned.zero).fHead), true))
def gd (a0 : List MSigned) : Prop := (SmL (2 ^ 21) (fun y : MSigned => MSigned.Sm (2 ^ 21) y) a0)
def rf (a : List MSigned) : List (List L) := (a.map MSigned.row)
theorem rf_inj (a b : List MSigned) (h : rf a = rf b) : a = b := by
  exact (map_inj MSigned.row_inj h)
noncomputable def R (x0 : List (List L)) : Option (RHead × Bool) := ofM rf (fun a => gd a) (fun a => ((MHead.r (md a).1), (md a).2)) x0
theorem R_eq {a0 : List MSigned} (h : gd a0) : R (a0.map MSigned.row) = some ((MHead.r (md a0).1), (md a0).2) := ofM_eq (r := rf) (a := a0) rf_inj h
theorem okF (a0 : List MSigned) (hg : gd a0) : F (a0.map MSigned.row) = ret (((MHead.r (md a0).1), (md a0).2) : RHead × Bool) := by
  unfold gd at hg
  have H0 := hg
  unfold F md
  try simp only [bytesL_map, List.length_map, toNat_nat, iAt_getD, bAt_getD, sAt_getD, lAt_getD, MSigned.at_getD, MSigned.r_fHead]
  refine call_to (spec_IsChain.md a0) ?_ ?_
  · have R_ := spec_IsChain.R_eq (a0 := a0) H0
    first | exact R_ | (simp only [List.map_append, List.map_cons, List.map_nil, List.cons_append, List.nil_append, iRow, sRow, bRow, lRow, List.map_set, bytesL_map, List.length_map, toNat_nat, iAt_getD, bAt_getD, sAt_getD, lAt_getD, MSigned.at_getD, MSigned.r_fHead] at R_ ⊢; first | exact R_ | (rw [← R_]; rfl))
  try simp only [bytesL_map, List.length_map, toNat_nat, iAt_getD, bAt_getD, sAt_getD, lAt_getD, MSigned.at_getD, MSigned.r_fHead]
  refine bif_out (fun b : MHead × Bool => ret (((MHead.r b.1), b.2) : RHead × Bool)) (fun c1 => ?_) (fun c1 => ?_)
  · have dc1 := c1
    try simp only [bne_eq_false_iff_eq, bne_iff_ne, beq_iff_eq, beq_eq_false_iff_ne, ne_eq, Bool.not_eq_true', Bool.not_eq_false'] at dc1
    try have tc1 := spec_IsChain.tr (by simpa using c1)
    all_goals first | rfl | (simp only [bytesL_map, List.length_map, toNat_nat, iAt_getD, bAt_getD, sAt_getD, lAt_getD, MSigned.at_getD, MSigned.r_fHead]; done) | (simp only [List.map_append, List.map_cons, List.map_nil, List.cons_append, List.nil_append, iRow, sRow, bRow, lRow, List.map_set]; rfl) | (simp only [bytesL_map, List.length_map, toNat_nat, iAt_getD, bAt_getD, sAt_getD, lAt_getD, MSigned.at_getD, MSigned.r_fHead, List.map_append, List.map_cons, List.map_nil, List.cons_append, List.nil_append, iRow, sRow, bRow, lRow, List.map_set]; first | done | rfl)
  · have dc1 := c1
    try simp only [bne_eq_false_iff_eq, bne_iff_ne, beq_iff_eq, beq_eq_false_iff_ne, ne_eq, Bool.not_eq_true', Bool.not_eq_false'] at dc1
    try have tc1 := spec_IsChain.tr (by simpa using c1)
    refine yes_ret (by
        have := (H0).1
        refine decide_eq_true ?_
        try simp (disch := omega) only [List.sum_cons, List.sum_nil, List.map_cons, List.map_nil, bytesI_length, bytesL_length, List.length_append, List.length_cons, List.length_nil, List.length_map, List.length_set, List.length_replicate, List.length_take, List.length_drop, Go.IntWalk.i64_in]
        first | omega | (simp; done) | (simp; omega)) ?_
    refine yes_ret (by
        have := (H0).1
        refine decide_eq_true ?_
        try simp (disch := omega) only [List.sum_cons, List.sum_nil, List.map_cons, List.map_nil, bytesI_length, bytesL_length, List.length_append, List.length_cons, List.length_nil, List.length_map, List.length_set, List.length_replicate, List.length_take, List.length_drop, Go.IntWalk.i64_in]
        first | omega | (simp; done) | (simp; omega)) ?_
    refine call_to (MHead.r ((a0.getD (Int.toNat (IntKind.i64.wrap ((a0.length : Int) - 1))) MSigned.zero).fHead)) ?_ ?_
    · have R_ := spec_l13Copy.R_eq (a0 := (a0.getD (Int.toNat (IntKind.i64.wrap ((a0.length : Int) - 1))) MSigned.zero).fHead) (SmL.getD (z := MSigned.zero) H0 (by first | assumption | omega | (simp (disch := omega) only [Go.IntWalk.i64_in]; omega) | (simp; omega))).1
      simp only [spec_l13Copy.md] at R_
      first | exact R_ | (simp only [List.map_append, List.map_cons, List.map_nil, List.cons_append, List.nil_append, iRow, sRow, bRow, lRow, List.map_set, bytesL_map, List.length_map, toNat_nat, iAt_getD, bAt_getD, sAt_getD, lAt_getD, MSigned.at_getD, MSigned.r_fHead] at R_ ⊢; first | exact R_ | (rw [← R_]; rfl))
    try simp only [bytesL_map, List.length_map, toNat_nat, iAt_getD, bAt_getD, sAt_getD, lAt_getD, MSigned.at_getD, MSigned.r_fHead]
    all_goals first | rfl | (simp only [bytesL_map, List.length_map, toNat_nat, iAt_getD, bAt_getD, sAt_getD, lAt_getD, MSigned.at_getD, MSigned.r_fHead]; done) | (simp only [List.map_append, List.map_cons, List.map_nil, List.cons_append, List.nil_append, iRow, sRow, bRow, lRow, List.map_set]; rfl) | (simp only [bytesL_map, List.length_map, toNat_nat, iAt_getD, bAt_getD, sAt_getD, lAt_getD, MSigned.at_getD, MSigned.r_fHead, List.map_append, List.map_cons, List.map_nil, List.cons_append, List.nil_append, iRow, sRow, bRow, lRow, List.map_set]; first | done | rfl)
noncomputable def sem (ls : List L) : Option (List L) := (R (ls.headD .hole).toSl).map RT.enc
theorem ok (ls q : List L) (hl : LOKs Ev.cells pats ls) (h : sem ls = some q) : ∃ n, runF E live Tryz.f66 res n (initS pats ls) = some q := by
  obtain ⟨v, hv, hq⟩ := map_some h
  obtain ⟨a0, hg, e, hm⟩ := ofM_some hv
  have e0 : (a0.map MSigned.row) = _ := e
  have hn := okF a0 hg
  refine ⟨0, (run_eq 0 ls).trans ?_⟩
  rw [← e0]
  rw [hn, ← hq, hm]; rfl
noncomputable def con : Con := ⟨pats, res, sem⟩
theorem chk : fnB Tryz.f66 con 16 = true := by kernel_rfl
theorem valid_ : Valid Tryz.prog Ev 66 con := valid mix tab_ok (.cons spec_IsChain.valid_ (.cons spec_l13Copy.valid_ .nil)) Tryz.func66 chk live ok
theorem sm0 {a0 : List MSigned} (hg : gd a0) : MHead.Sm (2 ^ 21) ((md a0).1) := by
  unfold gd at hg; unfold md
  cases h : spec_IsChain.md a0
  · exact ⟨SmL.nil, SmL.nil, SmL.nil⟩
  · have := spec_IsChain.tr h
    exact (SmL.getD hg (by simp (disch := omega) only [Go.IntWalk.i64_in]; omega)).1
theorem head {l : List MSigned} (h : (md l).2 = true) : spec_IsChain.md l = true ∧ (md l).1 = (l.getD (l.length - 1) MSigned.zero).fHead ∧ spec_IsHead.md (md l).1 = true := by
  unfold md at h ⊢
  cases hc : spec_IsChain.md l
  · rw [hc] at h; cases h
  · have hl := spec_IsChain.tr hc
    have hw : Int.toNat (IntKind.i64.wrap ((l.length : Int) - 1)) = l.length - 1 := by
      rw [Go.IntWalk.i64_in _ (by omega)]; omega
    simp only [Bool.not_true, cond_false, hw]
    exact ⟨trivial, trivial, spec_IsChain.heads hc _ (by omega)⟩
theorem pos {l : List MSigned} (h : (md l).2 = true) : 0 ≤ (md l).1.fUntil := by
  have := spec_IsHead.tr (head h).2.2
  omega
end spec_LastHead
/-! spec.LastsUntil -/
namespace spec_LastsUntil
inductive Pt where
  | p0 (a : Int) (b : Int) (c : RBundle)
def pid : Pt → Nat
  | .p0 .. => 3
def pvs : Pt → List V
  | .p0 a b c => [.bptr 0 0, .int .i64 a, .int .i64 b]
def phs : Pt → List Root
  | .p0 a b c => [.box [.int .i64 c.fRoot, .sl none 9 c.fPath, .sl none 124 c.fSteps]]
noncomputable def step (J : Pt → Ans) : Pt → Ans
  | .p0 a b c => (bif (decide (b < (c.fSteps.length : Int))) then (bif (decide ((0 : Int) ≤ b)) then (bif (decide (b < (c.fSteps.length : Int))) then (call (spec_LastHead.R ((RStored.at c.fSteps (Int.toNat b)).fAnswer.fChain)) fun v1 => (bif (!v1.2) then ret ((-1) : Int) else (bif (b == 0) then J (.p0 v1.1.fUntil (IntKind.i64.wrap (b + 1)) c) else (bif (decide (v1.1.fUntil < a)) then J (.p0 v1.1.fUntil (IntKind.i64.wrap (b + 1)) c) else J (.p0 a (IntKind.i64.wrap (b + 1)) c))))) else none) else none) else ret (a : Int))
noncomputable def start (J : Pt → Ans) (x0 : RBundle) : Ans := J (.p0 (-1) 0 x0)
def live : Nat → Live := fun i => match i with | 3 => [(1, none), (3, none), (4, none)] | _ => []
def pats : List Pat := [.agg [.int .i64, .sl 9, .sl 124]]
def res : RP := .one (.rd (.int .i64))
noncomputable def G : List (Nat × Con) := [(66, spec_LastHead.con)]
noncomputable abbrev E : Env := ⟨assoc Tab, conG G, 38⟩
set_option maxRecDepth 100000
theorem step_eq (I : Heads) (p : Pt) : enterC E live I (pid p) (bodyOf Tryz.f31) (stOf (live (pid p)) (pvs p) (phs p)) (doneK E Tryz.f31 res) = step (fun q => I (pid q) (pvs q) (phs q)) p := by
  cases p <;> kernel_rfl
theorem start_eq (I : Heads) (ls : List L) : runC E live I (bodyOf Tryz.f31) (initS pats ls) (doneK E Tryz.f31 res) = start (fun q => I (pid q) (pvs q) (phs q)) (RBundle.dec ls) := by kernel_rfl
theorem run_eq (n : Nat) (ls : List L) : runF E live Tryz.f31 res n (initS pats ls) = start (iter step n) (RBundle.dec ls) := runF_iter (id := pid) (vs := pvs) (hs := phs) (step := step) (start := fun J => start J (RBundle.dec ls)) step_eq (fun I => start_eq I ls) n
noncomputable def md (a0 : MBundle) : Int := (eachI (S := Int) (β := Int) (fun (i1 : Nat) (y1 : MStored) (s3 : Int) => (bif (!(spec_LastHead.md ((y1.fAnswer).fChain)).2) then (.inr ((-1) : Int)) else (bif ((i1 : Int) == 0) then (.inl (spec_LastHead.md ((y1.fAnswer).fChain)).1.fUntil) else (bif (decide ((spec_LastHead.md ((y1.fAnswer).fChain)).1.fUntil < s3)) then (.inl (spec_LastHead.md ((y1.fAnswer).fChain)).1.fUntil) else (.inl s3))))) (fun (s3 : Int) => (s3 : Int)) 0 a0.fSteps (-1))
def gd (a0 : MBundle) : Prop := (MBundle.Sm (2 ^ 21) a0)
def rf (a : MBundle) : RBundle := (MBundle.r a)
theorem rf_inj (a b : MBundle) (h : rf a = rf b) : a = b := by
  exact (MBundle.r_inj h)
noncomputable def R (x0 : RBundle) : Option (Int) := ofM rf (fun a => gd a) (fun a => (md a)) x0
theorem R_eq {a0 : MBundle} (h : gd a0) : R (MBundle.r a0) = some (md a0) := ofM_eq (r := rf) (a := a0) rf_inj h
theorem okF (a0 : MBundle) (hg : gd a0) : ∃ n, start (iter step n) (MBundle.r a0) = ret ((md a0) : Int) := by
  unfold gd at hg
  have H0 := hg
  unfold start md
  try simp only [bytesL_map, List.length_map, toNat_nat, iAt_getD, bAt_getD, sAt_getD, lAt_getD, MHead.r_fUntil, MAnswer.r_fChain, MStored.at_getD, MStored.r_fAnswer, MBundle.r_fSteps]
  have Bh2 : a0.fSteps.length ≤ maxLen := (by
      have := (H0.2).1
      try simp only [maxLen] at *
      omega)
  refine ex_eq (out := (fun b : Int => ret (b : Int))) (show (loopM (S := Int) (β := Int) (fun (i1 : Nat) (s3 : Int) => (bif (!(spec_LastHead.md (((a0.fSteps.getD i1 MStored.zero).fAnswer).fChain)).2) then (.inr ((-1) : Int)) else (bif ((i1 : Int) == 0) then (.inl (spec_LastHead.md (((a0.fSteps.getD i1 MStored.zero).fAnswer).fChain)).1.fUntil) else (bif (decide ((spec_LastHead.md (((a0.fSteps.getD i1 MStored.zero).fAnswer).fChain)).1.fUntil < s3)) then (.inl (spec_LastHead.md (((a0.fSteps.getD i1 MStored.zero).fAnswer).fChain)).1.fUntil) else (.inl s3))))) (fun (s3 : Int) => (s3 : Int)) a0.fSteps.length 0 (-1)) = (eachI (S := Int) (β := Int) (fun (i1 : Nat) (y1 : MStored) (s3 : Int) => (bif (!(spec_LastHead.md ((y1.fAnswer).fChain)).2) then (.inr ((-1) : Int)) else (bif ((i1 : Int) == 0) then (.inl (spec_LastHead.md ((y1.fAnswer).fChain)).1.fUntil) else (bif (decide ((spec_LastHead.md ((y1.fAnswer).fChain)).1.fUntil < s3)) then (.inl (spec_LastHead.md ((y1.fAnswer).fChain)).1.fUntil) else (.inl s3))))) (fun (s3 : Int) => (s3 : Int)) 0 a0.fSteps (-1)) from loopM_eachI (S := Int) (β := Int) (f := fun (i1 : Nat) (y1 : MStored) (s3 : Int) => (bif (!(spec_LastHead.md ((y1.fAnswer).fChain)).2) then (.inr ((-1) : Int)) else (bif ((i1 : Int) == 0) then (.inl (spec_LastHead.md ((y1.fAnswer).fChain)).1.fUntil) else (bif (decide ((spec_LastHead.md ((y1.fAnswer).fChain)).1.fUntil < s3)) then (.inl (spec_LastHead.md ((y1.fAnswer).fChain)).1.fUntil) else (.inl s3))))) (t := fun (s3 : Int) => (s3 : Int)) (xs := a0.fSteps) (z := MStored.zero)) ?_
  refine ex_pt (p := Pt.p0 (-1) 0 (MBundle.r a0)) (by first | rfl | (simp only [bytesL_map, List.length_map, toNat_nat, iAt_getD, bAt_getD, sAt_getD, lAt_getD, MHead.r_fUntil, MAnswer.r_fChain, MStored.at_getD, MStored.r_fAnswer, MBundle.r_fSteps, List.map_append, List.map_cons, List.map_nil, List.cons_append, List.nil_append, iRow, sRow, bRow, lRow, List.map_set]; done) | (simp only [List.map_append, List.map_cons, List.map_nil, List.cons_append, List.nil_append, iRow, sRow, bRow, lRow, List.map_set]; rfl)) ?_
  refine loopM_ok (pt := fun (i1 : Nat) (s3 : Int) => Pt.p0 s3 (i1 : Int) (MBundle.r a0)) (s := ((-1) : Int)) (out := (fun b : Int => ret (b : Int))) (fun _ _ => True) (fun J i1 s3 h2 hih2 => ?_) (fun s3 hih2 => ?_) trivial
  · simp only [step, bytesL_map, List.length_map, toNat_nat, iAt_getD, bAt_getD, sAt_getD, lAt_getD, MHead.r_fUntil, MAnswer.r_fChain, MStored.at_getD, MStored.r_fAnswer, MBundle.r_fSteps]
    have bb_ := Bh2
    simp only [maxLen] at bb_
    have := (H0.2).1
    refine Rnd.yes (by apply decide_eq_true; omega) ?_
    refine Rnd.yes (by
        refine decide_eq_true ?_
        try simp (disch := omega) only [List.sum_cons, List.sum_nil, List.map_cons, List.map_nil, bytesI_length, bytesL_length, List.length_append, List.length_cons, List.length_nil, List.length_map, List.length_set, List.length_replicate, List.length_take, List.length_drop, Go.IntWalk.i64_in]
        first | omega | (simp; done) | (simp; omega)) ?_
    refine Rnd.yes (by
        have := (H0.2).1
        refine decide_eq_true ?_
        try simp (disch := omega) only [List.sum_cons, List.sum_nil, List.map_cons, List.map_nil, bytesI_length, bytesL_length, List.length_append, List.length_cons, List.length_nil, List.length_map, List.length_set, List.length_replicate, List.length_take, List.length_drop, Go.IntWalk.i64_in]
        first | omega | (simp; done) | (simp; omega)) ?_
    refine Rnd.call_to ((MHead.r (spec_LastHead.md (((a0.fSteps.getD i1 MStored.zero).fAnswer).fChain)).1), (spec_LastHead.md (((a0.fSteps.getD i1 MStored.zero).fAnswer).fChain)).2) ?_ ?_
    · have R_ := spec_LastHead.R_eq (a0 := ((a0.fSteps.getD i1 MStored.zero).fAnswer).fChain) (SmL.getD (z := MStored.zero) H0.2 h2).2.1
      first | exact R_ | (simp only [List.map_append, List.map_cons, List.map_nil, List.cons_append, List.nil_append, iRow, sRow, bRow, lRow, List.map_set, bytesL_map, List.length_map, toNat_nat, iAt_getD, bAt_getD, sAt_getD, lAt_getD, MHead.r_fUntil, MAnswer.r_fChain, MStored.at_getD, MStored.r_fAnswer, MBundle.r_fSteps] at R_ ⊢; first | exact R_ | (rw [← R_]; rfl))
    try simp only [bytesL_map, List.length_map, toNat_nat, iAt_getD, bAt_getD, sAt_getD, lAt_getD, MHead.r_fUntil, MAnswer.r_fChain, MStored.at_getD, MStored.r_fAnswer, MBundle.r_fSteps]
    refine Rnd.bif (fun c4 => ?_) (fun c4 => ?_)
    · have dc4 := c4
      try simp only [bne_eq_false_iff_eq, bne_iff_ne, beq_iff_eq, beq_eq_false_iff_ne, ne_eq, Bool.not_eq_true', Bool.not_eq_false'] at dc4
      refine Rnd.inr ?_
      all_goals first | rfl | (simp only [bytesL_map, List.length_map, toNat_nat, iAt_getD, bAt_getD, sAt_getD, lAt_getD, MHead.r_fUntil, MAnswer.r_fChain, MStored.at_getD, MStored.r_fAnswer, MBundle.r_fSteps]; done) | (simp only [List.map_append, List.map_cons, List.map_nil, List.cons_append, List.nil_append, iRow, sRow, bRow, lRow, List.map_set]; rfl) | (simp only [bytesL_map, List.length_map, toNat_nat, iAt_getD, bAt_getD, sAt_getD, lAt_getD, MHead.r_fUntil, MAnswer.r_fChain, MStored.at_getD, MStored.r_fAnswer, MBundle.r_fSteps, List.map_append, List.map_cons, List.map_nil, List.cons_append, List.nil_append, iRow, sRow, bRow, lRow, List.map_set]; first | done | rfl)
    · have dc4 := c4
      try simp only [bne_eq_false_iff_eq, bne_iff_ne, beq_iff_eq, beq_eq_false_iff_ne, ne_eq, Bool.not_eq_true', Bool.not_eq_false'] at dc4
      refine Rnd.bif (fun c5 => ?_) (fun c5 => ?_)
      · have dc5 := c5
        try simp only [bne_eq_false_iff_eq, bne_iff_ne, beq_iff_eq, beq_eq_false_iff_ne, ne_eq, Bool.not_eq_true', Bool.not_eq_false'] at dc5
        refine Rnd.inl trivial ?_
        rw [wrap_succ h2 Bh2]
        all_goals first | rfl | (simp only [bytesL_map, List.length_map, toNat_nat, iAt_getD, bAt_getD, sAt_getD, lAt_getD, MHead.r_fUntil, MAnswer.r_fChain, MStored.at_getD, MStored.r_fAnswer, MBundle.r_fSteps]; done) | (simp only [List.map_append, List.map_cons, List.map_nil, List.cons_append, List.nil_append, iRow, sRow, bRow, lRow, List.map_set]; rfl) | (simp only [bytesL_map, List.length_map, toNat_nat, iAt_getD, bAt_getD, sAt_getD, lAt_getD, MHead.r_fUntil, MAnswer.r_fChain, MStored.at_getD, MStored.r_fAnswer, MBundle.r_fSteps, List.map_append, List.map_cons, List.map_nil, List.cons_append, List.nil_append, iRow, sRow, bRow, lRow, List.map_set]; first | done | rfl)
      · have dc5 := c5
        try simp only [bne_eq_false_iff_eq, bne_iff_ne, beq_iff_eq, beq_eq_false_iff_ne, ne_eq, Bool.not_eq_true', Bool.not_eq_false'] at dc5
        refine Rnd.bif (fun c6 => ?_) (fun c6 => ?_)
        · have dc6 := c6
          simp only [decide_eq_true_eq, decide_eq_false_iff_not] at dc6
          refine Rnd.inl trivial ?_
          rw [wrap_succ h2 Bh2]
          all_goals first | rfl | (simp only [bytesL_map, List.length_map, toNat_nat, iAt_getD, bAt_getD, sAt_getD, lAt_getD, MHead.r_fUntil, MAnswer.r_fChain, MStored.at_getD, MStored.r_fAnswer, MBundle.r_fSteps]; done) | (simp only [List.map_append, List.map_cons, List.map_nil, List.cons_append, List.nil_append, iRow, sRow, bRow, lRow, List.map_set]; rfl) | (simp only [bytesL_map, List.length_map, toNat_nat, iAt_getD, bAt_getD, sAt_getD, lAt_getD, MHead.r_fUntil, MAnswer.r_fChain, MStored.at_getD, MStored.r_fAnswer, MBundle.r_fSteps, List.map_append, List.map_cons, List.map_nil, List.cons_append, List.nil_append, iRow, sRow, bRow, lRow, List.map_set]; first | done | rfl)
        · have dc6 := c6
          simp only [decide_eq_true_eq, decide_eq_false_iff_not] at dc6
          refine Rnd.inl trivial ?_
          rw [wrap_succ h2 Bh2]
          all_goals first | rfl | (simp only [bytesL_map, List.length_map, toNat_nat, iAt_getD, bAt_getD, sAt_getD, lAt_getD, MHead.r_fUntil, MAnswer.r_fChain, MStored.at_getD, MStored.r_fAnswer, MBundle.r_fSteps]; done) | (simp only [List.map_append, List.map_cons, List.map_nil, List.cons_append, List.nil_append, iRow, sRow, bRow, lRow, List.map_set]; rfl) | (simp only [bytesL_map, List.length_map, toNat_nat, iAt_getD, bAt_getD, sAt_getD, lAt_getD, MHead.r_fUntil, MAnswer.r_fChain, MStored.at_getD, MStored.r_fAnswer, MBundle.r_fSteps, List.map_append, List.map_cons, List.map_nil, List.cons_append, List.nil_append, iRow, sRow, bRow, lRow, List.map_set]; first | done | rfl)
  · simp only [step, bytesL_map, List.length_map, toNat_nat, iAt_getD, bAt_getD, sAt_getD, lAt_getD, MHead.r_fUntil, MAnswer.r_fChain, MStored.at_getD, MStored.r_fAnswer, MBundle.r_fSteps]
    have := (H0.2).1
    refine ex_no (by apply decide_eq_false; omega) ?_
    refine ⟨0, ?_⟩
    all_goals first | rfl | (simp only [bytesL_map, List.length_map, toNat_nat, iAt_getD, bAt_getD, sAt_getD, lAt_getD, MHead.r_fUntil, MAnswer.r_fChain, MStored.at_getD, MStored.r_fAnswer, MBundle.r_fSteps]; done) | (simp only [List.map_append, List.map_cons, List.map_nil, List.cons_append, List.nil_append, iRow, sRow, bRow, lRow, List.map_set]; rfl) | (simp only [bytesL_map, List.length_map, toNat_nat, iAt_getD, bAt_getD, sAt_getD, lAt_getD, MHead.r_fUntil, MAnswer.r_fChain, MStored.at_getD, MStored.r_fAnswer, MBundle.r_fSteps, List.map_append, List.map_cons, List.map_nil, List.cons_append, List.nil_append, iRow, sRow, bRow, lRow, List.map_set]; first | done | rfl)
noncomputable def sem (ls : List L) : Option (List L) := (R (RBundle.dec ls)).map RT.enc
theorem ok (ls q : List L) (hl : LOKs Ev.cells pats ls) (h : sem ls = some q) : ∃ n, runF E live Tryz.f31 res n (initS pats ls) = some q := by
  obtain ⟨v, hv, hq⟩ := map_some h
  obtain ⟨a0, hg, e, hm⟩ := ofM_some hv
  have e0 : (MBundle.r a0) = _ := e
  obtain ⟨n, hn⟩ := okF a0 hg
  refine ⟨n, (run_eq n ls).trans ?_⟩
  rw [← e0]
  rw [hn, ← hq, hm]; rfl
noncomputable def con : Con := ⟨pats, res, sem⟩
theorem chk : fnB Tryz.f31 con 38 = true := by kernel_rfl
theorem valid_ : Valid Tryz.prog Ev 31 con := valid mix tab_ok (.cons spec_LastHead.valid_ .nil) Tryz.func31 chk live ok
end spec_LastsUntil
/-! impl.InRange -/
namespace impl_InRange
noncomputable def F (x0 : Int) (x1 : Int) (x2 : Int) : Ans := (bif (decide (x1 ≤ x0)) then ret ((decide (x0 ≤ x2)) : Bool) else ret (false : Bool))
def live : Nat → Live := fun _ => []
def pats : List Pat := [.rd (.int .i64), .rd (.int .i64), .rd (.int .i64)]
def res : RP := .one (.rd (.bool))
noncomputable def G : List (Nat × Con) := []
noncomputable abbrev E : Env := ⟨assoc Tab, conG G, 15⟩
set_option maxRecDepth 100000
theorem run_eq (n : Nat) (ls : List L) : runF E live Tryz.f88 res n (initS pats ls) = F (ls.headD .hole).toInt ((dropT 1 ls).headD .hole).toInt ((dropT 2 ls).headD .hole).toInt := by kernel_rfl
noncomputable def md (a0 : Int) (a1 : Int) (a2 : Int) : Bool := (bif (decide (a1 ≤ a0)) then ((decide (a0 ≤ a2)) : Bool) else (false : Bool))
def gd (a0 : Int) (a1 : Int) (a2 : Int) : Prop := True
def rf (a : Int × Int × Int) : Int × Int × Int := (a.1, a.2.1, a.2.2)
theorem rf_inj (a b : Int × Int × Int) (h : rf a = rf b) : a = b := by
  exact (Prod.ext (congrArg (fun x => x.1) h) (Prod.ext (congrArg (fun x => x.2.1) h) (congrArg (fun x => x.2.2) h)))
noncomputable def R (x0 : Int) (x1 : Int) (x2 : Int) : Option (Bool) := ofM rf (fun a => gd a.1 a.2.1 a.2.2) (fun a => (md a.1 a.2.1 a.2.2)) (x0, x1, x2)
theorem R_eq {a0 : Int} {a1 : Int} {a2 : Int} (h : gd a0 a1 a2) : R a0 a1 a2 = some (md a0 a1 a2) := ofM_eq (r := rf) (a := (a0, a1, a2)) rf_inj h
theorem okF (a0 : Int) (a1 : Int) (a2 : Int) (hg : gd a0 a1 a2) : F a0 a1 a2 = ret ((md a0 a1 a2) : Bool) := by
  unfold F md
  try simp only [bytesL_map, List.length_map, toNat_nat, iAt_getD, bAt_getD, sAt_getD, lAt_getD]
  refine bif_out (fun b : Bool => ret (b : Bool)) (fun c1 => ?_) (fun c1 => ?_)
  · have dc1 := c1
    simp only [decide_eq_true_eq, decide_eq_false_iff_not] at dc1
    all_goals first | rfl | (simp only [bytesL_map, List.length_map, toNat_nat, iAt_getD, bAt_getD, sAt_getD, lAt_getD]; done) | (simp only [List.map_append, List.map_cons, List.map_nil, List.cons_append, List.nil_append, iRow, sRow, bRow, lRow, List.map_set]; rfl) | (simp only [bytesL_map, List.length_map, toNat_nat, iAt_getD, bAt_getD, sAt_getD, lAt_getD, List.map_append, List.map_cons, List.map_nil, List.cons_append, List.nil_append, iRow, sRow, bRow, lRow, List.map_set]; first | done | rfl)
  · have dc1 := c1
    simp only [decide_eq_true_eq, decide_eq_false_iff_not] at dc1
    all_goals first | rfl | (simp only [bytesL_map, List.length_map, toNat_nat, iAt_getD, bAt_getD, sAt_getD, lAt_getD]; done) | (simp only [List.map_append, List.map_cons, List.map_nil, List.cons_append, List.nil_append, iRow, sRow, bRow, lRow, List.map_set]; rfl) | (simp only [bytesL_map, List.length_map, toNat_nat, iAt_getD, bAt_getD, sAt_getD, lAt_getD, List.map_append, List.map_cons, List.map_nil, List.cons_append, List.nil_append, iRow, sRow, bRow, lRow, List.map_set]; first | done | rfl)
noncomputable def sem (ls : List L) : Option (List L) := (R (ls.headD .hole).toInt ((dropT 1 ls).headD .hole).toInt ((dropT 2 ls).headD .hole).toInt).map RT.enc
theorem ok (ls q : List L) (hl : LOKs Ev.cells pats ls) (h : sem ls = some q) : ∃ n, runF E live Tryz.f88 res n (initS pats ls) = some q := by
  obtain ⟨v, hv, hq⟩ := map_some h
  obtain ⟨⟨a0, a1, a2⟩, hg, e, hm⟩ := ofM_some hv
  simp only [rf, Prod.mk.injEq] at e
  obtain ⟨e0, e1, e2⟩ := e
  have hn := okF a0 a1 a2 hg
  refine ⟨0, (run_eq 0 ls).trans ?_⟩
  rw [← e0, ← e1, ← e2]
  rw [hn, ← hq, hm]; rfl
noncomputable def con : Con := ⟨pats, res, sem⟩
theorem chk : fnB Tryz.f88 con 15 = true := by kernel_rfl
theorem valid_ : Valid Tryz.prog Ev 88 con := valid mix tab_ok .nil Tryz.func88 chk live ok
theorem br (a0 : Int) (a1 : Int) (a2 : Int) : md a0 a1 a2 = spec_l1In.md a0 a1 a2 := by
  unfold md spec_l1In.md
  first | rfl | (rw [Bool.eq_iff_iff]; simp)
end impl_InRange
/-! impl.isDigest -/
namespace impl_isDigest
noncomputable def F (x0 : Int) : Ans := (call (impl_InRange.R x0 0 2147483646) fun v1 => ret (v1 : Bool))
def live : Nat → Live := fun _ => []
def pats : List Pat := [.rd (.int .i64)]
def res : RP := .one (.rd (.bool))
noncomputable def G : List (Nat × Con) := [(88, impl_InRange.con)]
noncomputable abbrev E : Env := ⟨assoc Tab, conG G, 5⟩
set_option maxRecDepth 100000
theorem run_eq (n : Nat) (ls : List L) : runF E live Tryz.f195 res n (initS pats ls) = F (ls.headD .hole).toInt := by kernel_rfl
noncomputable def md (a0 : Int) : Bool := ((impl_InRange.md a0 0 2147483646) : Bool)
def gd (a0 : Int) : Prop := True
def rf (a : Int) : Int := a
theorem rf_inj (a b : Int) (h : rf a = rf b) : a = b := by
  exact h
noncomputable def R (x0 : Int) : Option (Bool) := ofM rf (fun a => gd a) (fun a => (md a)) x0
theorem R_eq {a0 : Int} (h : gd a0) : R a0 = some (md a0) := ofM_eq (r := rf) (a := a0) rf_inj h
theorem okF (a0 : Int) (hg : gd a0) : F a0 = ret ((md a0) : Bool) := by
  unfold F md
  try simp only [bytesL_map, List.length_map, toNat_nat, iAt_getD, bAt_getD, sAt_getD, lAt_getD]
  refine call_to (impl_InRange.md a0 0 2147483646) ?_ ?_
  · have R_ := impl_InRange.R_eq (a0 := a0) (a1 := 0) (a2 := 2147483646) trivial
    first | exact R_ | (simp only [List.map_append, List.map_cons, List.map_nil, List.cons_append, List.nil_append, iRow, sRow, bRow, lRow, List.map_set, bytesL_map, List.length_map, toNat_nat, iAt_getD, bAt_getD, sAt_getD, lAt_getD] at R_ ⊢; first | exact R_ | (rw [← R_]; rfl))
  try simp only [bytesL_map, List.length_map, toNat_nat, iAt_getD, bAt_getD, sAt_getD, lAt_getD]
  all_goals first | rfl | (simp only [bytesL_map, List.length_map, toNat_nat, iAt_getD, bAt_getD, sAt_getD, lAt_getD]; done) | (simp only [List.map_append, List.map_cons, List.map_nil, List.cons_append, List.nil_append, iRow, sRow, bRow, lRow, List.map_set]; rfl) | (simp only [bytesL_map, List.length_map, toNat_nat, iAt_getD, bAt_getD, sAt_getD, lAt_getD, List.map_append, List.map_cons, List.map_nil, List.cons_append, List.nil_append, iRow, sRow, bRow, lRow, List.map_set]; first | done | rfl)
noncomputable def sem (ls : List L) : Option (List L) := (R (ls.headD .hole).toInt).map RT.enc
theorem ok (ls q : List L) (hl : LOKs Ev.cells pats ls) (h : sem ls = some q) : ∃ n, runF E live Tryz.f195 res n (initS pats ls) = some q := by
  obtain ⟨v, hv, hq⟩ := map_some h
  obtain ⟨a0, hg, e, hm⟩ := ofM_some hv
  have e0 : a0 = _ := e
  have hn := okF a0 hg
  refine ⟨0, (run_eq 0 ls).trans ?_⟩
  rw [← e0]
  rw [hn, ← hq, hm]; rfl
noncomputable def con : Con := ⟨pats, res, sem⟩
theorem chk : fnB Tryz.f195 con 5 = true := by kernel_rfl
theorem valid_ : Valid Tryz.prog Ev 195 con := valid mix tab_ok (.cons impl_InRange.valid_ .nil) Tryz.func195 chk live ok
end impl_isDigest
/-! impl.isSpan -/
namespace impl_isSpan
noncomputable def F (x0 : RHead) : Ans := (bif (decide (x0.fTime ≥ 0)) then (bif (decide (x0.fTime ≤ x0.fUntil)) then (bif (decide (x0.fUntil ≤ 100000)) then ret ((decide ((IntKind.i64.wrap (x0.fUntil - x0.fTime)) ≤ 200)) : Bool) else ret (false : Bool)) else ret (false : Bool)) else ret (false : Bool))
def live : Nat → Live := fun _ => []
def pats : List Pat := [.agg [.int .i64, .int .i64, .int .i64, .int .i64, .int .i64, .int .i64, .int .i64, .int .i64, .sl 3, .int .i64, .sl 3, .int .i64, .int .i64, .sl 3, .int .i64, .bool]]
def res : RP := .one (.rd (.bool))
noncomputable def G : List (Nat × Con) := []
noncomputable abbrev E : Env := ⟨assoc Tab, conG G, 26⟩
set_option maxRecDepth 100000
theorem run_eq (n : Nat) (ls : List L) : runF E live Tryz.f196 res n (initS pats ls) = F (RHead.dec ls) := by kernel_rfl
noncomputable def md (a0 : MHead) : Bool := (bif (decide (a0.fTime ≥ 0)) then (bif (decide (a0.fTime ≤ a0.fUntil)) then (bif (decide (a0.fUntil ≤ 100000)) then ((decide ((IntKind.i64.wrap (a0.fUntil - a0.fTime)) ≤ 200)) : Bool) else (false : Bool)) else (false : Bool)) else (false : Bool))
def gd (a0 : MHead) : Prop := True
def rf (a : MHead) : RHead := (MHead.r a)
theorem rf_inj (a b : MHead) (h : rf a = rf b) : a = b := by
  exact (MHead.r_inj h)
noncomputable def R (x0 : RHead) : Option (Bool) := ofM rf (fun a => gd a) (fun a => (md a)) x0
theorem R_eq {a0 : MHead} (h : gd a0) : R (MHead.r a0) = some (md a0) := ofM_eq (r := rf) (a := a0) rf_inj h
theorem okF (a0 : MHead) (hg : gd a0) : F (MHead.r a0) = ret ((md a0) : Bool) := by
  unfold F md
  try simp only [bytesL_map, List.length_map, toNat_nat, iAt_getD, bAt_getD, sAt_getD, lAt_getD, MHead.r_fTime, MHead.r_fUntil]
  refine bif_out (fun b : Bool => ret (b : Bool)) (fun c1 => ?_) (fun c1 => ?_)
  · have dc1 := c1
    simp only [decide_eq_true_eq, decide_eq_false_iff_not] at dc1
    refine bif_out (fun b : Bool => ret (b : Bool)) (fun c2 => ?_) (fun c2 => ?_)
    · have dc2 := c2
      simp only [decide_eq_true_eq, decide_eq_false_iff_not] at dc2
      refine bif_out (fun b : Bool => ret (b : Bool)) (fun c3 => ?_) (fun c3 => ?_)
      · have dc3 := c3
        simp only [decide_eq_true_eq, decide_eq_false_iff_not] at dc3
        all_goals first | rfl | (simp only [bytesL_map, List.length_map, toNat_nat, iAt_getD, bAt_getD, sAt_getD, lAt_getD, MHead.r_fTime, MHead.r_fUntil]; done) | (simp only [List.map_append, List.map_cons, List.map_nil, List.cons_append, List.nil_append, iRow, sRow, bRow, lRow, List.map_set]; rfl) | (simp only [bytesL_map, List.length_map, toNat_nat, iAt_getD, bAt_getD, sAt_getD, lAt_getD, MHead.r_fTime, MHead.r_fUntil, List.map_append, List.map_cons, List.map_nil, List.cons_append, List.nil_append, iRow, sRow, bRow, lRow, List.map_set]; first | done | rfl)
      · have dc3 := c3
        simp only [decide_eq_true_eq, decide_eq_false_iff_not] at dc3
        all_goals first | rfl | (simp only [bytesL_map, List.length_map, toNat_nat, iAt_getD, bAt_getD, sAt_getD, lAt_getD, MHead.r_fTime, MHead.r_fUntil]; done) | (simp only [List.map_append, List.map_cons, List.map_nil, List.cons_append, List.nil_append, iRow, sRow, bRow, lRow, List.map_set]; rfl) | (simp only [bytesL_map, List.length_map, toNat_nat, iAt_getD, bAt_getD, sAt_getD, lAt_getD, MHead.r_fTime, MHead.r_fUntil, List.map_append, List.map_cons, List.map_nil, List.cons_append, List.nil_append, iRow, sRow, bRow, lRow, List.map_set]; first | done | rfl)
    · have dc2 := c2
      simp only [decide_eq_true_eq, decide_eq_false_iff_not] at dc2
      all_goals first | rfl | (simp only [bytesL_map, List.length_map, toNat_nat, iAt_getD, bAt_getD, sAt_getD, lAt_getD, MHead.r_fTime, MHead.r_fUntil]; done) | (simp only [List.map_append, List.map_cons, List.map_nil, List.cons_append, List.nil_append, iRow, sRow, bRow, lRow, List.map_set]; rfl) | (simp only [bytesL_map, List.length_map, toNat_nat, iAt_getD, bAt_getD, sAt_getD, lAt_getD, MHead.r_fTime, MHead.r_fUntil, List.map_append, List.map_cons, List.map_nil, List.cons_append, List.nil_append, iRow, sRow, bRow, lRow, List.map_set]; first | done | rfl)
  · have dc1 := c1
    simp only [decide_eq_true_eq, decide_eq_false_iff_not] at dc1
    all_goals first | rfl | (simp only [bytesL_map, List.length_map, toNat_nat, iAt_getD, bAt_getD, sAt_getD, lAt_getD, MHead.r_fTime, MHead.r_fUntil]; done) | (simp only [List.map_append, List.map_cons, List.map_nil, List.cons_append, List.nil_append, iRow, sRow, bRow, lRow, List.map_set]; rfl) | (simp only [bytesL_map, List.length_map, toNat_nat, iAt_getD, bAt_getD, sAt_getD, lAt_getD, MHead.r_fTime, MHead.r_fUntil, List.map_append, List.map_cons, List.map_nil, List.cons_append, List.nil_append, iRow, sRow, bRow, lRow, List.map_set]; first | done | rfl)
noncomputable def sem (ls : List L) : Option (List L) := (R (RHead.dec ls)).map RT.enc
theorem ok (ls q : List L) (hl : LOKs Ev.cells pats ls) (h : sem ls = some q) : ∃ n, runF E live Tryz.f196 res n (initS pats ls) = some q := by
  obtain ⟨v, hv, hq⟩ := map_some h
  obtain ⟨a0, hg, e, hm⟩ := ofM_some hv
  have e0 : (MHead.r a0) = _ := e
  have hn := okF a0 hg
  refine ⟨0, (run_eq 0 ls).trans ?_⟩
  rw [← e0]
  rw [hn, ← hq, hm]; rfl
noncomputable def con : Con := ⟨pats, res, sem⟩
theorem chk : fnB Tryz.f196 con 26 = true := by kernel_rfl
theorem valid_ : Valid Tryz.prog Ev 196 con := valid mix tab_ok .nil Tryz.func196 chk live ok
end impl_isSpan
/-! impl.ascending -/
namespace impl_ascending
inductive Pt where
  | p0 (a : List (List L)) (b : Int) (c : Int)
def pid : Pt → Nat
  | .p0 .. => 2
def pvs : Pt → List V
  | .p0 a b c => [.sl none 3 a, .int .i64 b, .int .i64 c]
def phs : Pt → List Root
  | .p0 a b c => []
noncomputable def step (J : Pt → Ans) : Pt → Ans
  | .p0 a b c => (bif (decide (c < b)) then (bif (decide (c > 0)) then (bif (decide ((0 : Int) ≤ c)) then (bif (decide (c < (a.length : Int))) then (bif (decide ((0 : Int) ≤ (IntKind.i64.wrap (c - 1)))) then (bif (decide ((IntKind.i64.wrap (c - 1)) < (a.length : Int))) then (bif (decide ((iAt a (Int.toNat c)) ≤ (iAt a (Int.toNat (IntKind.i64.wrap (c - 1)))))) then ret (false : Bool) else J (.p0 a b (IntKind.i64.wrap (c + 1)))) else none) else none) else none) else none) else J (.p0 a b (IntKind.i64.wrap (c + 1)))) else ret (true : Bool))
noncomputable def start (J : Pt → Ans) (x0 : List (List L)) : Ans := J (.p0 x0 (x0.length : Int) 0)
def live : Nat → Live := fun i => match i with | 2 => [(0, none), (5, none), (6, none)] | _ => []
def pats : List Pat := [.rd (.sl 3)]
def res : RP := .one (.rd (.bool))
noncomputable def G : List (Nat × Con) := []
noncomputable abbrev E : Env := ⟨assoc Tab, conG G, 24⟩
set_option maxRecDepth 100000
theorem step_eq (I : Heads) (p : Pt) : enterC E live I (pid p) (bodyOf Tryz.f240) (stOf (live (pid p)) (pvs p) (phs p)) (doneK E Tryz.f240 res) = step (fun q => I (pid q) (pvs q) (phs q)) p := by
  cases p <;> kernel_rfl
theorem start_eq (I : Heads) (ls : List L) : runC E live I (bodyOf Tryz.f240) (initS pats ls) (doneK E Tryz.f240 res) = start (fun q => I (pid q) (pvs q) (phs q)) (ls.headD .hole).toSl := by kernel_rfl
theorem run_eq (n : Nat) (ls : List L) : runF E live Tryz.f240 res n (initS pats ls) = start (iter step n) (ls.headD .hole).toSl := runF_iter (id := pid) (vs := pvs) (hs := phs) (step := step) (start := fun J => start J (ls.headD .hole).toSl) step_eq (fun I => start_eq I ls) n
noncomputable def md (a0 : List Int) : Bool := (eachI (S := Unit) (β := Bool) (fun (i1 : Nat) (y1 : Int) (s3 : Unit) => (bif (decide ((i1 : Int) > 0)) then (bif (decide (y1 ≤ (a0.getD (Int.toNat (IntKind.i64.wrap ((i1 : Int) - 1))) 0))) then (.inr (false : Bool)) else (.inl ())) else (.inl ()))) (fun (s3 : Unit) => (true : Bool)) 0 a0 ())
def gd (a0 : List Int) : Prop := (SmL (2 ^ 38) (fun y : Int => True) a0)
def rf (a : List Int) : List (List L) := (a.map iRow)
theorem rf_inj (a b : List Int) (h : rf a = rf b) : a = b := by
  exact (map_inj iRow_inj h)
noncomputable def R (x0 : List (List L)) : Option (Bool) := ofM rf (fun a => gd a) (fun a => (md a)) x0
theorem R_eq {a0 : List Int} (h : gd a0) : R (a0.map iRow) = some (md a0) := ofM_eq (r := rf) (a := a0) rf_inj h
theorem okF (a0 : List Int) (hg : gd a0) : ∃ n, start (iter step n) (a0.map iRow) = ret ((md a0) : Bool) := by
  unfold gd at hg
  have H0 := hg
  unfold start md
  try simp only [bytesL_map, List.length_map, toNat_nat, iAt_getD, bAt_getD, sAt_getD, lAt_getD]
  have Bh2 : a0.length ≤ maxLen := (by
      have := (H0).1
      try simp only [maxLen] at *
      omega)
  refine ex_eq (out := (fun b : Bool => ret (b : Bool))) (show (loopM (S := Unit) (β := Bool) (fun (i1 : Nat) (s3 : Unit) => (bif (decide ((i1 : Int) > 0)) then (bif (decide ((a0.getD i1 0) ≤ (a0.getD (Int.toNat (IntKind.i64.wrap ((i1 : Int) - 1))) 0))) then (.inr (false : Bool)) else (.inl ())) else (.inl ()))) (fun (s3 : Unit) => (true : Bool)) a0.length 0 ()) = (eachI (S := Unit) (β := Bool) (fun (i1 : Nat) (y1 : Int) (s3 : Unit) => (bif (decide ((i1 : Int) > 0)) then (bif (decide (y1 ≤ (a0.getD (Int.toNat (IntKind.i64.wrap ((i1 : Int) - 1))) 0))) then (.inr (false : Bool)) else (.inl ())) else (.inl ()))) (fun (s3 : Unit) => (true : Bool)) 0 a0 ()) from loopM_eachI (S := Unit) (β := Bool) (f := fun (i1 : Nat) (y1 : Int) (s3 : Unit) => (bif (decide ((i1 : Int) > 0)) then (bif (decide (y1 ≤ (a0.getD (Int.toNat (IntKind.i64.wrap ((i1 : Int) - 1))) 0))) then (.inr (false : Bool)) else (.inl ())) else (.inl ()))) (t := fun (s3 : Unit) => (true : Bool)) (xs := a0) (z := 0)) ?_
  refine ex_pt (p := Pt.p0 (a0.map iRow) (a0.length : Int) 0) (by first | rfl | (simp only [bytesL_map, List.length_map, toNat_nat, iAt_getD, bAt_getD, sAt_getD, lAt_getD, List.map_append, List.map_cons, List.map_nil, List.cons_append, List.nil_append, iRow, sRow, bRow, lRow, List.map_set]; done) | (simp only [List.map_append, List.map_cons, List.map_nil, List.cons_append, List.nil_append, iRow, sRow, bRow, lRow, List.map_set]; rfl)) ?_
  refine loopM_ok (pt := fun (i1 : Nat) (s3 : Unit) => Pt.p0 (a0.map iRow) (a0.length : Int) (i1 : Int)) (s := (() : Unit)) (out := (fun b : Bool => ret (b : Bool))) (fun _ _ => True) (fun J i1 s3 h2 hih2 => ?_) (fun s3 hih2 => ?_) trivial
  · simp only [step, bytesL_map, List.length_map, toNat_nat, iAt_getD, bAt_getD, sAt_getD, lAt_getD]
    have bb_ := Bh2
    simp only [maxLen] at bb_
    have := (H0).1
    refine Rnd.yes (by apply decide_eq_true; omega) ?_
    refine Rnd.bif (fun c4 => ?_) (fun c4 => ?_)
    · have dc4 := c4
      simp only [decide_eq_true_eq, decide_eq_false_iff_not] at dc4
      refine Rnd.yes (by
          refine decide_eq_true ?_
          try simp (disch := omega) only [List.sum_cons, List.sum_nil, List.map_cons, List.map_nil, bytesI_length, bytesL_length, List.length_append, List.length_cons, List.length_nil, List.length_map, List.length_set, List.length_replicate, List.length_take, List.length_drop, Go.IntWalk.i64_in]
          first | omega | (simp; done) | (simp; omega)) ?_
      refine Rnd.yes (by
          have := (H0).1
          refine decide_eq_true ?_
          try simp (disch := omega) only [List.sum_cons, List.sum_nil, List.map_cons, List.map_nil, bytesI_length, bytesL_length, List.length_append, List.length_cons, List.length_nil, List.length_map, List.length_set, List.length_replicate, List.length_take, List.length_drop, Go.IntWalk.i64_in]
          first | omega | (simp; done) | (simp; omega)) ?_
      refine Rnd.yes (by
          refine decide_eq_true ?_
          try simp (disch := omega) only [List.sum_cons, List.sum_nil, List.map_cons, List.map_nil, bytesI_length, bytesL_length, List.length_append, List.length_cons, List.length_nil, List.length_map, List.length_set, List.length_replicate, List.length_take, List.length_drop, Go.IntWalk.i64_in]
          first | omega | (simp; done) | (simp; omega)) ?_
      refine Rnd.yes (by
          have := (H0).1
          refine decide_eq_true ?_
          try simp (disch := omega) only [List.sum_cons, List.sum_nil, List.map_cons, List.map_nil, bytesI_length, bytesL_length, List.length_append, List.length_cons, List.length_nil, List.length_map, List.length_set, List.length_replicate, List.length_take, List.length_drop, Go.IntWalk.i64_in]
          first | omega | (simp; done) | (simp; omega)) ?_
      refine Rnd.bif (fun c5 => ?_) (fun c5 => ?_)
      · have dc5 := c5
        simp only [decide_eq_true_eq, decide_eq_false_iff_not] at dc5
        refine Rnd.inr ?_
        all_goals first | rfl | (simp only [bytesL_map, List.length_map, toNat_nat, iAt_getD, bAt_getD, sAt_getD, lAt_getD]; done) | (simp only [List.map_append, List.map_cons, List.map_nil, List.cons_append, List.nil_append, iRow, sRow, bRow, lRow, List.map_set]; rfl) | (simp only [bytesL_map, List.length_map, toNat_nat, iAt_getD, bAt_getD, sAt_getD, lAt_getD, List.map_append, List.map_cons, List.map_nil, List.cons_append, List.nil_append, iRow, sRow, bRow, lRow, List.map_set]; first | done | rfl)
      · have dc5 := c5
        simp only [decide_eq_true_eq, decide_eq_false_iff_not] at dc5
        refine Rnd.inl trivial ?_
        rw [wrap_succ h2 Bh2]
        all_goals first | rfl | (simp only [bytesL_map, List.length_map, toNat_nat, iAt_getD, bAt_getD, sAt_getD, lAt_getD]; done) | (simp only [List.map_append, List.map_cons, List.map_nil, List.cons_append, List.nil_append, iRow, sRow, bRow, lRow, List.map_set]; rfl) | (simp only [bytesL_map, List.length_map, toNat_nat, iAt_getD, bAt_getD, sAt_getD, lAt_getD, List.map_append, List.map_cons, List.map_nil, List.cons_append, List.nil_append, iRow, sRow, bRow, lRow, List.map_set]; first | done | rfl)
    · have dc4 := c4
      simp only [decide_eq_true_eq, decide_eq_false_iff_not] at dc4
      refine Rnd.inl trivial ?_
      rw [wrap_succ h2 Bh2]
      all_goals first | rfl | (simp only [bytesL_map, List.length_map, toNat_nat, iAt_getD, bAt_getD, sAt_getD, lAt_getD]; done) | (simp only [List.map_append, List.map_cons, List.map_nil, List.cons_append, List.nil_append, iRow, sRow, bRow, lRow, List.map_set]; rfl) | (simp only [bytesL_map, List.length_map, toNat_nat, iAt_getD, bAt_getD, sAt_getD, lAt_getD, List.map_append, List.map_cons, List.map_nil, List.cons_append, List.nil_append, iRow, sRow, bRow, lRow, List.map_set]; first | done | rfl)
  · simp only [step, bytesL_map, List.length_map, toNat_nat, iAt_getD, bAt_getD, sAt_getD, lAt_getD]
    have := (H0).1
    refine ex_no (by apply decide_eq_false; omega) ?_
    refine ⟨0, ?_⟩
    all_goals first | rfl | (simp only [bytesL_map, List.length_map, toNat_nat, iAt_getD, bAt_getD, sAt_getD, lAt_getD]; done) | (simp only [List.map_append, List.map_cons, List.map_nil, List.cons_append, List.nil_append, iRow, sRow, bRow, lRow, List.map_set]; rfl) | (simp only [bytesL_map, List.length_map, toNat_nat, iAt_getD, bAt_getD, sAt_getD, lAt_getD, List.map_append, List.map_cons, List.map_nil, List.cons_append, List.nil_append, iRow, sRow, bRow, lRow, List.map_set]; first | done | rfl)
noncomputable def sem (ls : List L) : Option (List L) := (R (ls.headD .hole).toSl).map RT.enc
theorem ok (ls q : List L) (hl : LOKs Ev.cells pats ls) (h : sem ls = some q) : ∃ n, runF E live Tryz.f240 res n (initS pats ls) = some q := by
  obtain ⟨v, hv, hq⟩ := map_some h
  obtain ⟨a0, hg, e, hm⟩ := ofM_some hv
  have e0 : (a0.map iRow) = _ := e
  obtain ⟨n, hn⟩ := okF a0 hg
  refine ⟨n, (run_eq n ls).trans ?_⟩
  rw [← e0]
  rw [hn, ← hq, hm]; rfl
noncomputable def con : Con := ⟨pats, res, sem⟩
theorem chk : fnB Tryz.f240 con 24 = true := by kernel_rfl
theorem valid_ : Valid Tryz.prog Ev 240 con := valid mix tab_ok .nil Tryz.func240 chk live ok
end impl_ascending
/-! impl.isKey -/
namespace impl_isKey
noncomputable def F (x0 : Int) : Ans := (call (impl_InRange.R x0 1 99) fun v1 => ret (v1 : Bool))
def live : Nat → Live := fun _ => []
def pats : List Pat := [.rd (.int .i64)]
def res : RP := .one (.rd (.bool))
noncomputable def G : List (Nat × Con) := [(88, impl_InRange.con)]
noncomputable abbrev E : Env := ⟨assoc Tab, conG G, 5⟩
set_option maxRecDepth 100000
theorem run_eq (n : Nat) (ls : List L) : runF E live Tryz.f241 res n (initS pats ls) = F (ls.headD .hole).toInt := by kernel_rfl
noncomputable def md (a0 : Int) : Bool := ((impl_InRange.md a0 1 99) : Bool)
def gd (a0 : Int) : Prop := True
def rf (a : Int) : Int := a
theorem rf_inj (a b : Int) (h : rf a = rf b) : a = b := by
  exact h
noncomputable def R (x0 : Int) : Option (Bool) := ofM rf (fun a => gd a) (fun a => (md a)) x0
theorem R_eq {a0 : Int} (h : gd a0) : R a0 = some (md a0) := ofM_eq (r := rf) (a := a0) rf_inj h
theorem okF (a0 : Int) (hg : gd a0) : F a0 = ret ((md a0) : Bool) := by
  unfold F md
  try simp only [bytesL_map, List.length_map, toNat_nat, iAt_getD, bAt_getD, sAt_getD, lAt_getD]
  refine call_to (impl_InRange.md a0 1 99) ?_ ?_
  · have R_ := impl_InRange.R_eq (a0 := a0) (a1 := 1) (a2 := 99) trivial
    first | exact R_ | (simp only [List.map_append, List.map_cons, List.map_nil, List.cons_append, List.nil_append, iRow, sRow, bRow, lRow, List.map_set, bytesL_map, List.length_map, toNat_nat, iAt_getD, bAt_getD, sAt_getD, lAt_getD] at R_ ⊢; first | exact R_ | (rw [← R_]; rfl))
  try simp only [bytesL_map, List.length_map, toNat_nat, iAt_getD, bAt_getD, sAt_getD, lAt_getD]
  all_goals first | rfl | (simp only [bytesL_map, List.length_map, toNat_nat, iAt_getD, bAt_getD, sAt_getD, lAt_getD]; done) | (simp only [List.map_append, List.map_cons, List.map_nil, List.cons_append, List.nil_append, iRow, sRow, bRow, lRow, List.map_set]; rfl) | (simp only [bytesL_map, List.length_map, toNat_nat, iAt_getD, bAt_getD, sAt_getD, lAt_getD, List.map_append, List.map_cons, List.map_nil, List.cons_append, List.nil_append, iRow, sRow, bRow, lRow, List.map_set]; first | done | rfl)
noncomputable def sem (ls : List L) : Option (List L) := (R (ls.headD .hole).toInt).map RT.enc
theorem ok (ls q : List L) (hl : LOKs Ev.cells pats ls) (h : sem ls = some q) : ∃ n, runF E live Tryz.f241 res n (initS pats ls) = some q := by
  obtain ⟨v, hv, hq⟩ := map_some h
  obtain ⟨a0, hg, e, hm⟩ := ofM_some hv
  have e0 : a0 = _ := e
  have hn := okF a0 hg
  refine ⟨0, (run_eq 0 ls).trans ?_⟩
  rw [← e0]
  rw [hn, ← hq, hm]; rfl
noncomputable def con : Con := ⟨pats, res, sem⟩
theorem chk : fnB Tryz.f241 con 5 = true := by kernel_rfl
theorem valid_ : Valid Tryz.prog Ev 241 con := valid mix tab_ok (.cons impl_InRange.valid_ .nil) Tryz.func241 chk live ok
end impl_isKey
/-! impl.IsKeys -/
namespace impl_IsKeys
noncomputable def F (x0 : RKeys) : Ans := (call (impl_InRange.R (x0.fList.length : Int) 1 4) fun v1 => (bif v1 then (call (impl_ascending.R x0.fList) fun v2 => (bif v2 then (bif (decide ((0 : Int) < (x0.fList.length : Int))) then (call (impl_isKey.R (iAt x0.fList 0)) fun v3 => (bif v3 then (bif (decide ((0 : Int) ≤ (IntKind.i64.wrap ((x0.fList.length : Int) - 1)))) then (bif (decide ((IntKind.i64.wrap ((x0.fList.length : Int) - 1)) < (x0.fList.length : Int))) then (call (impl_isKey.R (iAt x0.fList (Int.toNat (IntKind.i64.wrap ((x0.fList.length : Int) - 1))))) fun v4 => (bif v4 then (call (impl_InRange.R x0.fNeed 1 (x0.fList.length : Int)) fun v5 => ret (v5 : Bool)) else ret (false : Bool))) else none) else none) else ret (false : Bool))) else none) else ret (false : Bool))) else ret (false : Bool)))
def live : Nat → Live := fun _ => []
def pats : List Pat := [.agg [.sl 3, .int .i64]]
def res : RP := .one (.rd (.bool))
noncomputable def G : List (Nat × Con) := [(88, impl_InRange.con), (240, impl_ascending.con), (241, impl_isKey.con)]
noncomputable abbrev E : Env := ⟨assoc Tab, conG G, 38⟩
set_option maxRecDepth 100000
theorem run_eq (n : Nat) (ls : List L) : runF E live Tryz.f197 res n (initS pats ls) = F (RKeys.dec ls) := by kernel_rfl
noncomputable def md (a0 : MKeys) : Bool := (bif (impl_InRange.md (a0.fList.length : Int) 1 4) then (bif (impl_ascending.md a0.fList) then (bif (impl_isKey.md (a0.fList.getD 0 0)) then (bif (impl_isKey.md (a0.fList.getD (Int.toNat (IntKind.i64.wrap ((a0.fList.length : Int) - 1))) 0)) then ((impl_InRange.md a0.fNeed 1 (a0.fList.length : Int)) : Bool) else (false : Bool)) else (false : Bool)) else (false : Bool)) else (false : Bool))
def gd (a0 : MKeys) : Prop := (MKeys.Sm (2 ^ 21) a0)
def rf (a : MKeys) : RKeys := (MKeys.r a)
theorem rf_inj (a b : MKeys) (h : rf a = rf b) : a = b := by
  exact (MKeys.r_inj h)
noncomputable def R (x0 : RKeys) : Option (Bool) := ofM rf (fun a => gd a) (fun a => (md a)) x0
theorem R_eq {a0 : MKeys} (h : gd a0) : R (MKeys.r a0) = some (md a0) := ofM_eq (r := rf) (a := a0) rf_inj h
theorem okF (a0 : MKeys) (hg : gd a0) : F (MKeys.r a0) = ret ((md a0) : Bool) := by
  unfold gd at hg
  have H0 := hg
  unfold F md
  try simp only [bytesL_map, List.length_map, toNat_nat, iAt_getD, bAt_getD, sAt_getD, lAt_getD, MKeys.r_fList, MKeys.r_fNeed]
  refine call_to (impl_InRange.md (a0.fList.length : Int) 1 4) ?_ ?_
  · have R_ := impl_InRange.R_eq (a0 := (a0.fList.length : Int)) (a1 := 1) (a2 := 4) trivial
    first | exact R_ | (simp only [List.map_append, List.map_cons, List.map_nil, List.cons_append, List.nil_append, iRow, sRow, bRow, lRow, List.map_set, bytesL_map, List.length_map, toNat_nat, iAt_getD, bAt_getD, sAt_getD, lAt_getD, MKeys.r_fList, MKeys.r_fNeed] at R_ ⊢; first | exact R_ | (rw [← R_]; rfl))
  try simp only [bytesL_map, List.length_map, toNat_nat, iAt_getD, bAt_getD, sAt_getD, lAt_getD, MKeys.r_fList, MKeys.r_fNeed]
  refine bif_out (fun b : Bool => ret (b : Bool)) (fun c1 => ?_) (fun c1 => ?_)
  · have dc1 := c1
    try simp [impl_InRange.md] at dc1
    refine call_to (impl_ascending.md a0.fList) ?_ ?_
    · have R_ := impl_ascending.R_eq (a0 := a0.fList) (H0.mono (by decide) (fun x hx => trivial))
      first | exact R_ | (simp only [List.map_append, List.map_cons, List.map_nil, List.cons_append, List.nil_append, iRow, sRow, bRow, lRow, List.map_set, bytesL_map, List.length_map, toNat_nat, iAt_getD, bAt_getD, sAt_getD, lAt_getD, MKeys.r_fList, MKeys.r_fNeed] at R_ ⊢; first | exact R_ | (rw [← R_]; rfl))
    try simp only [bytesL_map, List.length_map, toNat_nat, iAt_getD, bAt_getD, sAt_getD, lAt_getD, MKeys.r_fList, MKeys.r_fNeed]
    refine bif_out (fun b : Bool => ret (b : Bool)) (fun c2 => ?_) (fun c2 => ?_)
    · refine yes_ret (by
          have := (H0).1
          refine decide_eq_true ?_
          try simp (disch := omega) only [List.sum_cons, List.sum_nil, List.map_cons, List.map_nil, bytesI_length, bytesL_length, List.length_append, List.length_cons, List.length_nil, List.length_map, List.length_set, List.length_replicate, List.length_take, List.length_drop, Go.IntWalk.i64_in]
          first | omega | (simp; done) | (simp; omega)) ?_
      refine call_to (impl_isKey.md (a0.fList.getD 0 0)) ?_ ?_
      · have R_ := impl_isKey.R_eq (a0 := (a0.fList.getD 0 0)) trivial
        first | exact R_ | (simp only [List.map_append, List.map_cons, List.map_nil, List.cons_append, List.nil_append, iRow, sRow, bRow, lRow, List.map_set, bytesL_map, List.length_map, toNat_nat, iAt_getD, bAt_getD, sAt_getD, lAt_getD, MKeys.r_fList, MKeys.r_fNeed] at R_ ⊢; first | exact R_ | (rw [← R_]; rfl))
      try simp only [bytesL_map, List.length_map, toNat_nat, iAt_getD, bAt_getD, sAt_getD, lAt_getD, MKeys.r_fList, MKeys.r_fNeed]
      refine bif_out (fun b : Bool => ret (b : Bool)) (fun c3 => ?_) (fun c3 => ?_)
      · refine yes_ret (by
            have := (H0).1
            refine decide_eq_true ?_
            try simp (disch := omega) only [List.sum_cons, List.sum_nil, List.map_cons, List.map_nil, bytesI_length, bytesL_length, List.length_append, List.length_cons, List.length_nil, List.length_map, List.length_set, List.length_replicate, List.length_take, List.length_drop, Go.IntWalk.i64_in]
            first | omega | (simp; done) | (simp; omega)) ?_
        refine yes_ret (by
            have := (H0).1
            refine decide_eq_true ?_
            try simp (disch := omega) only [List.sum_cons, List.sum_nil, List.map_cons, List.map_nil, bytesI_length, bytesL_length, List.length_append, List.length_cons, List.length_nil, List.length_map, List.length_set, List.length_replicate, List.length_take, List.length_drop, Go.IntWalk.i64_in]
            first | omega | (simp; done) | (simp; omega)) ?_
        refine call_to (impl_isKey.md (a0.fList.getD (Int.toNat (IntKind.i64.wrap ((a0.fList.length : Int) - 1))) 0)) ?_ ?_
        · have R_ := impl_isKey.R_eq (a0 := (a0.fList.getD (Int.toNat (IntKind.i64.wrap ((a0.fList.length : Int) - 1))) 0)) trivial
          first | exact R_ | (simp only [List.map_append, List.map_cons, List.map_nil, List.cons_append, List.nil_append, iRow, sRow, bRow, lRow, List.map_set, bytesL_map, List.length_map, toNat_nat, iAt_getD, bAt_getD, sAt_getD, lAt_getD, MKeys.r_fList, MKeys.r_fNeed] at R_ ⊢; first | exact R_ | (rw [← R_]; rfl))
        try simp only [bytesL_map, List.length_map, toNat_nat, iAt_getD, bAt_getD, sAt_getD, lAt_getD, MKeys.r_fList, MKeys.r_fNeed]
        refine bif_out (fun b : Bool => ret (b : Bool)) (fun c4 => ?_) (fun c4 => ?_)
        · refine call_to (impl_InRange.md a0.fNeed 1 (a0.fList.length : Int)) ?_ ?_
          · have R_ := impl_InRange.R_eq (a0 := a0.fNeed) (a1 := 1) (a2 := (a0.fList.length : Int)) trivial
            first | exact R_ | (simp only [List.map_append, List.map_cons, List.map_nil, List.cons_append, List.nil_append, iRow, sRow, bRow, lRow, List.map_set, bytesL_map, List.length_map, toNat_nat, iAt_getD, bAt_getD, sAt_getD, lAt_getD, MKeys.r_fList, MKeys.r_fNeed] at R_ ⊢; first | exact R_ | (rw [← R_]; rfl))
          try simp only [bytesL_map, List.length_map, toNat_nat, iAt_getD, bAt_getD, sAt_getD, lAt_getD, MKeys.r_fList, MKeys.r_fNeed]
          all_goals first | rfl | (simp only [bytesL_map, List.length_map, toNat_nat, iAt_getD, bAt_getD, sAt_getD, lAt_getD, MKeys.r_fList, MKeys.r_fNeed]; done) | (simp only [List.map_append, List.map_cons, List.map_nil, List.cons_append, List.nil_append, iRow, sRow, bRow, lRow, List.map_set]; rfl) | (simp only [bytesL_map, List.length_map, toNat_nat, iAt_getD, bAt_getD, sAt_getD, lAt_getD, MKeys.r_fList, MKeys.r_fNeed, List.map_append, List.map_cons, List.map_nil, List.cons_append, List.nil_append, iRow, sRow, bRow, lRow, List.map_set]; first | done | rfl)
        · all_goals first | rfl | (simp only [bytesL_map, List.length_map, toNat_nat, iAt_getD, bAt_getD, sAt_getD, lAt_getD, MKeys.r_fList, MKeys.r_fNeed]; done) | (simp only [List.map_append, List.map_cons, List.map_nil, List.cons_append, List.nil_append, iRow, sRow, bRow, lRow, List.map_set]; rfl) | (simp only [bytesL_map, List.length_map, toNat_nat, iAt_getD, bAt_getD, sAt_getD, lAt_getD, MKeys.r_fList, MKeys.r_fNeed, List.map_append, List.map_cons, List.map_nil, List.cons_append, List.nil_append, iRow, sRow, bRow, lRow, List.map_set]; first | done | rfl)
      · all_goals first | rfl | (simp only [bytesL_map, List.length_map, toNat_nat, iAt_getD, bAt_getD, sAt_getD, lAt_getD, MKeys.r_fList, MKeys.r_fNeed]; done) | (simp only [List.map_append, List.map_cons, List.map_nil, List.cons_append, List.nil_append, iRow, sRow, bRow, lRow, List.map_set]; rfl) | (simp only [bytesL_map, List.length_map, toNat_nat, iAt_getD, bAt_getD, sAt_getD, lAt_getD, MKeys.r_fList, MKeys.r_fNeed, List.map_append, List.map_cons, List.map_nil, List.cons_append, List.nil_append, iRow, sRow, bRow, lRow, List.map_set]; first | done | rfl)
    · all_goals first | rfl | (simp only [bytesL_map, List.length_map, toNat_nat, iAt_getD, bAt_getD, sAt_getD, lAt_getD, MKeys.r_fList, MKeys.r_fNeed]; done) | (simp only [List.map_append, List.map_cons, List.map_nil, List.cons_append, List.nil_append, iRow, sRow, bRow, lRow, List.map_set]; rfl) | (simp only [bytesL_map, List.length_map, toNat_nat, iAt_getD, bAt_getD, sAt_getD, lAt_getD, MKeys.r_fList, MKeys.r_fNeed, List.map_append, List.map_cons, List.map_nil, List.cons_append, List.nil_append, iRow, sRow, bRow, lRow, List.map_set]; first | done | rfl)
  · have dc1 := c1
    try simp [impl_InRange.md] at dc1
    all_goals first | rfl | (simp only [bytesL_map, List.length_map, toNat_nat, iAt_getD, bAt_getD, sAt_getD, lAt_getD, MKeys.r_fList, MKeys.r_fNeed]; done) | (simp only [List.map_append, List.map_cons, List.map_nil, List.cons_append, List.nil_append, iRow, sRow, bRow, lRow, List.map_set]; rfl) | (simp only [bytesL_map, List.length_map, toNat_nat, iAt_getD, bAt_getD, sAt_getD, lAt_getD, MKeys.r_fList, MKeys.r_fNeed, List.map_append, List.map_cons, List.map_nil, List.cons_append, List.nil_append, iRow, sRow, bRow, lRow, List.map_set]; first | done | rfl)
noncomputable def sem (ls : List L) : Option (List L) := (R (RKeys.dec ls)).map RT.enc
theorem ok (ls q : List L) (hl : LOKs Ev.cells pats ls) (h : sem ls = some q) : ∃ n, runF E live Tryz.f197 res n (initS pats ls) = some q := by
  obtain ⟨v, hv, hq⟩ := map_some h
  obtain ⟨a0, hg, e, hm⟩ := ofM_some hv
  have e0 : (MKeys.r a0) = _ := e
  have hn := okF a0 hg
  refine ⟨0, (run_eq 0 ls).trans ?_⟩
  rw [← e0]
  rw [hn, ← hq, hm]; rfl
noncomputable def con : Con := ⟨pats, res, sem⟩
theorem chk : fnB Tryz.f197 con 38 = true := by kernel_rfl
theorem valid_ : Valid Tryz.prog Ev 197 con := valid mix tab_ok (.cons impl_InRange.valid_ (.cons impl_ascending.valid_ (.cons impl_isKey.valid_ .nil))) Tryz.func197 chk live ok
-- uses spec_IsKeys
theorem asc {l : List Int} (h : ∀ i : Nat, i < l.length → 0 < i → l.getD (i - 1) 0 < l.getD i 0) : ∀ (k i : Nat), i + k < l.length → l.getD i 0 ≤ l.getD (i + k) 0
  | 0, i, _ => Int.le_refl _
  | k + 1, i, hi => by
    have h1 := asc h k i (by omega)
    have h2 := h (i + (k + 1)) hi (by omega)
    rw [show i + (k + 1) - 1 = i + k by omega] at h2
    omega
theorem br (a0 : MKeys) : md a0 = spec_IsKeys.md a0 := by
  unfold md spec_IsKeys.md impl_ascending.md
  simp only [impl_InRange.br, impl_isKey.md]
  by_cases hl : 1 ≤ a0.fList.length ∧ a0.fList.length ≤ 4
  · have e1 : spec_l1In.md (a0.fList.length : Int) 1 4 = true := by simp [spec_l1In.md]; omega
    rw [e1]
    have wp : ∀ i : Nat, 0 < i → i ≤ 4 → Int.toNat (IntKind.i64.wrap ((i : Int) - 1)) = i - 1 := fun i h1 h2 => by
      rw [Go.IntWalk.i64_in _ (by omega)]; omega
    rw [wp _ (by omega) (by omega)]
    generalize a0.fNeed = n
    generalize a0.fList = l at *
    have i1 : ∀ x a b : Int, spec_l1In.md x a b = true ↔ a ≤ x ∧ x ≤ b := fun x a b => by simp [spec_l1In.md]
    have i2 : ∀ x a b : Int, spec_l1In.md x a b = false ↔ ¬ (a ≤ x ∧ x ≤ b) := fun x a b => by rw [← i1]; simp
    have w2 : ∀ i : Nat, i < l.length → 0 < i → Int.toNat (IntKind.i64.wrap ((i : Int) - 1)) = i - 1 := fun i h1 h2 => wp i h2 (by omega)
    rw [Bool.eq_iff_iff, ← loopM_eachI (z := 0), ← loopM_eachI (z := 0)]
    have e3 : ∀ a b c d : Bool, (bif true then (bif a then (bif b then (bif c then d else false) else false) else false) else false) = true ↔ a = true ∧ b = true ∧ c = true ∧ d = true := by
      intro a b c d; cases a <;> cases b <;> cases c <;> simp
    have pos : ∀ i : Nat, 0 < i → decide ((i : Int) > 0) = true := fun i h => by simpa using h
    have npos : ∀ i : Nat, ¬ 0 < i → decide ((i : Int) > 0) = false := fun i h => by simpa using h
    rw [e3]
    rw [loopM_true (fun i => 0 < i → l.getD (i - 1) 0 < l.getD i 0) (fun i hi h => ?_) (fun i hi h => ?_), loopM_true (fun i => (1 ≤ l.getD i 0 ∧ l.getD i 0 ≤ 99) ∧ (0 < i → l.getD (i - 1) 0 < l.getD i 0)) (fun i hi h => ?_) (fun i hi h => ?_)]
    · simp only [i1, and_true, cond_true]
      constructor
      · rintro ⟨h1, ⟨h2, h3⟩, ⟨h4, h5⟩, h6⟩
        refine ⟨fun i hi => ⟨⟨?_, ?_⟩, h1 i hi⟩, h6⟩
        · have := asc h1 i 0 (by omega)
          rw [Nat.zero_add] at this; omega
        · have := asc h1 (l.length - 1 - i) i (by omega)
          rw [show i + (l.length - 1 - i) = l.length - 1 by omega] at this; omega
      · rintro ⟨h1, h6⟩
        exact ⟨fun i hi => (h1 i hi).2, (h1 0 (by omega)).1, (h1 (l.length - 1) (by omega)).1, h6⟩
    · have e2 := (i1 (l.getD i 0) 1 99).2 h.1
      rw [e2]
      by_cases h0 : 0 < i
      · have := h.2 h0
        rw [pos i h0, w2 i hi h0, decide_eq_false (by omega)]; rfl
      · rw [npos i h0]; rfl
    · by_cases h1 : 1 ≤ l.getD i 0 ∧ l.getD i 0 ≤ 99
      · have e2 := (i1 (l.getD i 0) 1 99).2 h1
        have h0 : 0 < i := Classical.byContradiction fun hc => h ⟨h1, fun h => (hc h).elim⟩
        have h2 : ¬ l.getD (i - 1) 0 < l.getD i 0 := fun hc => h ⟨h1, fun _ => hc⟩
        rw [e2, pos i h0, w2 i hi h0, decide_eq_true (by omega)]; rfl
      · rw [(i2 _ _ _).2 h1]; rfl
    · by_cases h0 : 0 < i
      · have := h h0
        rw [pos i h0, w2 i hi h0, decide_eq_false (by omega)]; rfl
      · rw [npos i h0]; rfl
    · have h0 : 0 < i := Classical.byContradiction fun hc => h fun h => (hc h).elim
      have h2 : ¬ l.getD (i - 1) 0 < l.getD i 0 := fun hc => h fun _ => hc
      rw [pos i h0, w2 i hi h0, decide_eq_true (by omega)]; rfl
  · have e1 : spec_l1In.md (a0.fList.length : Int) 1 4 = false := by simp [spec_l1In.md]; omega
    rw [e1]
    simp only [cond_false]
    symm
    exact eachI_const (by
      intro i x s b h
      revert h
      simp only [Bool.cond_eq_ite]
      repeat' split
      all_goals (intro h; first | (cases h; rfl) | cases h)) _ _ _
end impl_IsKeys
/-! impl.NoKeys -/
namespace impl_NoKeys
noncomputable def F (x0 : RKeys) : Ans := (bif (x0.fNeed == 0) then ret (((x0.fList.length : Int) == 0) : Bool) else ret (false : Bool))
def live : Nat → Live := fun _ => []
def pats : List Pat := [.agg [.sl 3, .int .i64]]
def res : RP := .one (.rd (.bool))
noncomputable def G : List (Nat × Con) := []
noncomputable abbrev E : Env := ⟨assoc Tab, conG G, 12⟩
set_option maxRecDepth 100000
theorem run_eq (n : Nat) (ls : List L) : runF E live Tryz.f200 res n (initS pats ls) = F (RKeys.dec ls) := by kernel_rfl
noncomputable def md (a0 : MKeys) : Bool := (bif (a0.fNeed == 0) then (((a0.fList.length : Int) == 0) : Bool) else (false : Bool))
def gd (a0 : MKeys) : Prop := True
def rf (a : MKeys) : RKeys := (MKeys.r a)
theorem rf_inj (a b : MKeys) (h : rf a = rf b) : a = b := by
  exact (MKeys.r_inj h)
noncomputable def R (x0 : RKeys) : Option (Bool) := ofM rf (fun a => gd a) (fun a => (md a)) x0
theorem R_eq {a0 : MKeys} (h : gd a0) : R (MKeys.r a0) = some (md a0) := ofM_eq (r := rf) (a := a0) rf_inj h
theorem okF (a0 : MKeys) (hg : gd a0) : F (MKeys.r a0) = ret ((md a0) : Bool) := by
  unfold F md
  try simp only [bytesL_map, List.length_map, toNat_nat, iAt_getD, bAt_getD, sAt_getD, lAt_getD, MKeys.r_fList, MKeys.r_fNeed]
  refine bif_out (fun b : Bool => ret (b : Bool)) (fun c1 => ?_) (fun c1 => ?_)
  · have dc1 := c1
    try simp only [bne_eq_false_iff_eq, bne_iff_ne, beq_iff_eq, beq_eq_false_iff_ne, ne_eq, Bool.not_eq_true', Bool.not_eq_false'] at dc1
    all_goals first | rfl | (simp only [bytesL_map, List.length_map, toNat_nat, iAt_getD, bAt_getD, sAt_getD, lAt_getD, MKeys.r_fList, MKeys.r_fNeed]; done) | (simp only [List.map_append, List.map_cons, List.map_nil, List.cons_append, List.nil_append, iRow, sRow, bRow, lRow, List.map_set]; rfl) | (simp only [bytesL_map, List.length_map, toNat_nat, iAt_getD, bAt_getD, sAt_getD, lAt_getD, MKeys.r_fList, MKeys.r_fNeed, List.map_append, List.map_cons, List.map_nil, List.cons_append, List.nil_append, iRow, sRow, bRow, lRow, List.map_set]; first | done | rfl)
  · have dc1 := c1
    try simp only [bne_eq_false_iff_eq, bne_iff_ne, beq_iff_eq, beq_eq_false_iff_ne, ne_eq, Bool.not_eq_true', Bool.not_eq_false'] at dc1
    all_goals first | rfl | (simp only [bytesL_map, List.length_map, toNat_nat, iAt_getD, bAt_getD, sAt_getD, lAt_getD, MKeys.r_fList, MKeys.r_fNeed]; done) | (simp only [List.map_append, List.map_cons, List.map_nil, List.cons_append, List.nil_append, iRow, sRow, bRow, lRow, List.map_set]; rfl) | (simp only [bytesL_map, List.length_map, toNat_nat, iAt_getD, bAt_getD, sAt_getD, lAt_getD, MKeys.r_fList, MKeys.r_fNeed, List.map_append, List.map_cons, List.map_nil, List.cons_append, List.nil_append, iRow, sRow, bRow, lRow, List.map_set]; first | done | rfl)
noncomputable def sem (ls : List L) : Option (List L) := (R (RKeys.dec ls)).map RT.enc
theorem ok (ls q : List L) (hl : LOKs Ev.cells pats ls) (h : sem ls = some q) : ∃ n, runF E live Tryz.f200 res n (initS pats ls) = some q := by
  obtain ⟨v, hv, hq⟩ := map_some h
  obtain ⟨a0, hg, e, hm⟩ := ofM_some hv
  have e0 : (MKeys.r a0) = _ := e
  have hn := okF a0 hg
  refine ⟨0, (run_eq 0 ls).trans ?_⟩
  rw [← e0]
  rw [hn, ← hq, hm]; rfl
noncomputable def con : Con := ⟨pats, res, sem⟩
theorem chk : fnB Tryz.f200 con 12 = true := by kernel_rfl
theorem valid_ : Valid Tryz.prog Ev 200 con := valid mix tab_ok .nil Tryz.func200 chk live ok
theorem br (a0 : MKeys) : md a0 = spec_NoKeys.md a0 := by
  unfold md spec_NoKeys.md
  first
  | (simp only [id]; done)
  | (simp only [id]; rfl)
  | rfl
end impl_NoKeys
/-! impl.isMaybe -/
namespace impl_isMaybe
noncomputable def F (x0 : RKeys) : Ans := (call (impl_NoKeys.R x0) fun v1 => (bif v1 then ret (true : Bool) else (call (impl_IsKeys.R x0) fun v2 => ret (v2 : Bool))))
def live : Nat → Live := fun _ => []
def pats : List Pat := [.agg [.sl 3, .int .i64]]
def res : RP := .one (.rd (.bool))
noncomputable def G : List (Nat × Con) := [(200, impl_NoKeys.con), (197, impl_IsKeys.con)]
noncomputable abbrev E : Env := ⟨assoc Tab, conG G, 9⟩
set_option maxRecDepth 100000
theorem run_eq (n : Nat) (ls : List L) : runF E live Tryz.f198 res n (initS pats ls) = F (RKeys.dec ls) := by kernel_rfl
noncomputable def md (a0 : MKeys) : Bool := (bif (impl_NoKeys.md a0) then (true : Bool) else ((impl_IsKeys.md a0) : Bool))
def gd (a0 : MKeys) : Prop := (MKeys.Sm (2 ^ 21) a0)
def rf (a : MKeys) : RKeys := (MKeys.r a)
theorem rf_inj (a b : MKeys) (h : rf a = rf b) : a = b := by
  exact (MKeys.r_inj h)
noncomputable def R (x0 : RKeys) : Option (Bool) := ofM rf (fun a => gd a) (fun a => (md a)) x0
theorem R_eq {a0 : MKeys} (h : gd a0) : R (MKeys.r a0) = some (md a0) := ofM_eq (r := rf) (a := a0) rf_inj h
theorem okF (a0 : MKeys) (hg : gd a0) : F (MKeys.r a0) = ret ((md a0) : Bool) := by
  unfold gd at hg
  have H0 := hg
  unfold F md
  try simp only [bytesL_map, List.length_map, toNat_nat, iAt_getD, bAt_getD, sAt_getD, lAt_getD]
  refine call_to (impl_NoKeys.md a0) ?_ ?_
  · have R_ := impl_NoKeys.R_eq (a0 := a0) trivial
    first | exact R_ | (simp only [List.map_append, List.map_cons, List.map_nil, List.cons_append, List.nil_append, iRow, sRow, bRow, lRow, List.map_set, bytesL_map, List.length_map, toNat_nat, iAt_getD, bAt_getD, sAt_getD, lAt_getD] at R_ ⊢; first | exact R_ | (rw [← R_]; rfl))
  try simp only [bytesL_map, List.length_map, toNat_nat, iAt_getD, bAt_getD, sAt_getD, lAt_getD]
  refine bif_out (fun b : Bool => ret (b : Bool)) (fun c1 => ?_) (fun c1 => ?_)
  · all_goals first | rfl | (simp only [bytesL_map, List.length_map, toNat_nat, iAt_getD, bAt_getD, sAt_getD, lAt_getD]; done) | (simp only [List.map_append, List.map_cons, List.map_nil, List.cons_append, List.nil_append, iRow, sRow, bRow, lRow, List.map_set]; rfl) | (simp only [bytesL_map, List.length_map, toNat_nat, iAt_getD, bAt_getD, sAt_getD, lAt_getD, List.map_append, List.map_cons, List.map_nil, List.cons_append, List.nil_append, iRow, sRow, bRow, lRow, List.map_set]; first | done | rfl)
  · refine call_to (impl_IsKeys.md a0) ?_ ?_
    · have R_ := impl_IsKeys.R_eq (a0 := a0) H0
      first | exact R_ | (simp only [List.map_append, List.map_cons, List.map_nil, List.cons_append, List.nil_append, iRow, sRow, bRow, lRow, List.map_set, bytesL_map, List.length_map, toNat_nat, iAt_getD, bAt_getD, sAt_getD, lAt_getD] at R_ ⊢; first | exact R_ | (rw [← R_]; rfl))
    try simp only [bytesL_map, List.length_map, toNat_nat, iAt_getD, bAt_getD, sAt_getD, lAt_getD]
    all_goals first | rfl | (simp only [bytesL_map, List.length_map, toNat_nat, iAt_getD, bAt_getD, sAt_getD, lAt_getD]; done) | (simp only [List.map_append, List.map_cons, List.map_nil, List.cons_append, List.nil_append, iRow, sRow, bRow, lRow, List.map_set]; rfl) | (simp only [bytesL_map, List.length_map, toNat_nat, iAt_getD, bAt_getD, sAt_getD, lAt_getD, List.map_append, List.map_cons, List.map_nil, List.cons_append, List.nil_append, iRow, sRow, bRow, lRow, List.map_set]; first | done | rfl)
noncomputable def sem (ls : List L) : Option (List L) := (R (RKeys.dec ls)).map RT.enc
theorem ok (ls q : List L) (hl : LOKs Ev.cells pats ls) (h : sem ls = some q) : ∃ n, runF E live Tryz.f198 res n (initS pats ls) = some q := by
  obtain ⟨v, hv, hq⟩ := map_some h
  obtain ⟨a0, hg, e, hm⟩ := ofM_some hv
  have e0 : (MKeys.r a0) = _ := e
  have hn := okF a0 hg
  refine ⟨0, (run_eq 0 ls).trans ?_⟩
  rw [← e0]
  rw [hn, ← hq, hm]; rfl
noncomputable def con : Con := ⟨pats, res, sem⟩
theorem chk : fnB Tryz.f198 con 9 = true := by kernel_rfl
theorem valid_ : Valid Tryz.prog Ev 198 con := valid mix tab_ok (.cons impl_NoKeys.valid_ (.cons impl_IsKeys.valid_ .nil)) Tryz.func198 chk live ok
end impl_isMaybe
/-! impl.isWait -/
namespace impl_isWait
noncomputable def F (x0 : Int) (x1 : RKeys) : Ans := (call (impl_NoKeys.R x1) fun v1 => (bif v1 then ret ((x0 == 0) : Bool) else (call (impl_InRange.R x0 1 500) fun v2 => ret (v2 : Bool))))
def live : Nat → Live := fun _ => []
def pats : List Pat := [.rd (.int .i64), .agg [.sl 3, .int .i64]]
def res : RP := .one (.rd (.bool))
noncomputable def G : List (Nat × Con) := [(200, impl_NoKeys.con), (88, impl_InRange.con)]
noncomputable abbrev E : Env := ⟨assoc Tab, conG G, 11⟩
set_option maxRecDepth 100000
theorem run_eq (n : Nat) (ls : List L) : runF E live Tryz.f199 res n (initS pats ls) = F (ls.headD .hole).toInt (RKeys.dec (dropT 1 ls)) := by kernel_rfl
noncomputable def md (a0 : Int) (a1 : MKeys) : Bool := (bif (impl_NoKeys.md a1) then ((a0 == 0) : Bool) else ((impl_InRange.md a0 1 500) : Bool))
def gd (a0 : Int) (a1 : MKeys) : Prop := True
def rf (a : Int × MKeys) : Int × RKeys := (a.1, (MKeys.r a.2))
theorem rf_inj (a b : Int × MKeys) (h : rf a = rf b) : a = b := by
  exact (Prod.ext (congrArg (fun x => x.1) h) (MKeys.r_inj (congrArg (fun x => x.2) h)))
noncomputable def R (x0 : Int) (x1 : RKeys) : Option (Bool) := ofM rf (fun a => gd a.1 a.2) (fun a => (md a.1 a.2)) (x0, x1)
theorem R_eq {a0 : Int} {a1 : MKeys} (h : gd a0 a1) : R a0 (MKeys.r a1) = some (md a0 a1) := ofM_eq (r := rf) (a := (a0, a1)) rf_inj h
theorem okF (a0 : Int) (a1 : MKeys) (hg : gd a0 a1) : F a0 (MKeys.r a1) = ret ((md a0 a1) : Bool) := by
  unfold F md
  try simp only [bytesL_map, List.length_map, toNat_nat, iAt_getD, bAt_getD, sAt_getD, lAt_getD]
  refine call_to (impl_NoKeys.md a1) ?_ ?_
  · have R_ := impl_NoKeys.R_eq (a0 := a1) trivial
    first | exact R_ | (simp only [List.map_append, List.map_cons, List.map_nil, List.cons_append, List.nil_append, iRow, sRow, bRow, lRow, List.map_set, bytesL_map, List.length_map, toNat_nat, iAt_getD, bAt_getD, sAt_getD, lAt_getD] at R_ ⊢; first | exact R_ | (rw [← R_]; rfl))
  try simp only [bytesL_map, List.length_map, toNat_nat, iAt_getD, bAt_getD, sAt_getD, lAt_getD]
  refine bif_out (fun b : Bool => ret (b : Bool)) (fun c1 => ?_) (fun c1 => ?_)
  · all_goals first | rfl | (simp only [bytesL_map, List.length_map, toNat_nat, iAt_getD, bAt_getD, sAt_getD, lAt_getD]; done) | (simp only [List.map_append, List.map_cons, List.map_nil, List.cons_append, List.nil_append, iRow, sRow, bRow, lRow, List.map_set]; rfl) | (simp only [bytesL_map, List.length_map, toNat_nat, iAt_getD, bAt_getD, sAt_getD, lAt_getD, List.map_append, List.map_cons, List.map_nil, List.cons_append, List.nil_append, iRow, sRow, bRow, lRow, List.map_set]; first | done | rfl)
  · refine call_to (impl_InRange.md a0 1 500) ?_ ?_
    · have R_ := impl_InRange.R_eq (a0 := a0) (a1 := 1) (a2 := 500) trivial
      first | exact R_ | (simp only [List.map_append, List.map_cons, List.map_nil, List.cons_append, List.nil_append, iRow, sRow, bRow, lRow, List.map_set, bytesL_map, List.length_map, toNat_nat, iAt_getD, bAt_getD, sAt_getD, lAt_getD] at R_ ⊢; first | exact R_ | (rw [← R_]; rfl))
    try simp only [bytesL_map, List.length_map, toNat_nat, iAt_getD, bAt_getD, sAt_getD, lAt_getD]
    all_goals first | rfl | (simp only [bytesL_map, List.length_map, toNat_nat, iAt_getD, bAt_getD, sAt_getD, lAt_getD]; done) | (simp only [List.map_append, List.map_cons, List.map_nil, List.cons_append, List.nil_append, iRow, sRow, bRow, lRow, List.map_set]; rfl) | (simp only [bytesL_map, List.length_map, toNat_nat, iAt_getD, bAt_getD, sAt_getD, lAt_getD, List.map_append, List.map_cons, List.map_nil, List.cons_append, List.nil_append, iRow, sRow, bRow, lRow, List.map_set]; first | done | rfl)
noncomputable def sem (ls : List L) : Option (List L) := (R (ls.headD .hole).toInt (RKeys.dec (dropT 1 ls))).map RT.enc
theorem ok (ls q : List L) (hl : LOKs Ev.cells pats ls) (h : sem ls = some q) : ∃ n, runF E live Tryz.f199 res n (initS pats ls) = some q := by
  obtain ⟨v, hv, hq⟩ := map_some h
  obtain ⟨⟨a0, a1⟩, hg, e, hm⟩ := ofM_some hv
  simp only [rf, Prod.mk.injEq] at e
  obtain ⟨e0, e1⟩ := e
  have hn := okF a0 a1 hg
  refine ⟨0, (run_eq 0 ls).trans ?_⟩
  rw [← e0, ← e1]
  rw [hn, ← hq, hm]; rfl
noncomputable def con : Con := ⟨pats, res, sem⟩
theorem chk : fnB Tryz.f199 con 11 = true := by kernel_rfl
theorem valid_ : Valid Tryz.prog Ev 199 con := valid mix tab_ok (.cons impl_NoKeys.valid_ (.cons impl_InRange.valid_ .nil)) Tryz.func199 chk live ok
end impl_isWait
/-! impl.IsHead -/
namespace impl_IsHead
noncomputable def F (x0 : RHead) : Ans := (call (impl_isDigest.R x0.fZone) fun v1 => (bif v1 then (call (impl_isDigest.R x0.fRoot) fun v2 => (bif v2 then (call (impl_isDigest.R x0.fPrev) fun v3 => (bif v3 then (call (impl_InRange.R x0.fEpoch 0 200) fun v4 => (bif v4 then (call (impl_InRange.R x0.fKind 1 3) fun v5 => (bif v5 then (call (impl_isSpan.R x0) fun v6 => (bif v6 then (call (impl_InRange.R x0.fCount 0 12) fun v7 => (bif v7 then (call (impl_IsKeys.R x0.fKeys) fun v8 => (bif v8 then (call (impl_isMaybe.R x0.fHeirs) fun v9 => (bif v9 then (call (impl_isMaybe.R x0.fJudge) fun v10 => (bif v10 then (call (impl_isWait.R x0.fWait x0.fHeirs) fun v11 => (bif v11 then (bif x0.fFrozen then (call (impl_NoKeys.R x0.fJudge) fun v12 => ret ((!v12) : Bool)) else ret (true : Bool)) else ret (false : Bool))) else ret (false : Bool))) else ret (false : Bool))) else ret (false : Bool))) else ret (false : Bool))) else ret (false : Bool))) else ret (false : Bool))) else ret (false : Bool))) else ret (false : Bool))) else ret (false : Bool))) else ret (false : Bool)))
def live : Nat → Live := fun _ => []
def pats : List Pat := [.agg [.int .i64, .int .i64, .int .i64, .int .i64, .int .i64, .int .i64, .int .i64, .int .i64, .sl 3, .int .i64, .sl 3, .int .i64, .int .i64, .sl 3, .int .i64, .bool]]
def res : RP := .one (.rd (.bool))
noncomputable def G : List (Nat × Con) := [(195, impl_isDigest.con), (88, impl_InRange.con), (196, impl_isSpan.con), (197, impl_IsKeys.con), (198, impl_isMaybe.con), (199, impl_isWait.con), (200, impl_NoKeys.con)]
noncomputable abbrev E : Env := ⟨assoc Tab, conG G, 67⟩
set_option maxRecDepth 100000
theorem run_eq (n : Nat) (ls : List L) : runF E live Tryz.f142 res n (initS pats ls) = F (RHead.dec ls) := by kernel_rfl
noncomputable def md (a0 : MHead) : Bool := (bif (impl_isDigest.md a0.fZone) then (bif (impl_isDigest.md a0.fRoot) then (bif (impl_isDigest.md a0.fPrev) then (bif (impl_InRange.md a0.fEpoch 0 200) then (bif (impl_InRange.md a0.fKind 1 3) then (bif (impl_isSpan.md a0) then (bif (impl_InRange.md a0.fCount 0 12) then (bif (impl_IsKeys.md a0.fKeys) then (bif (impl_isMaybe.md a0.fHeirs) then (bif (impl_isMaybe.md a0.fJudge) then (bif (impl_isWait.md a0.fWait a0.fHeirs) then (bif a0.fFrozen then ((!(impl_NoKeys.md a0.fJudge)) : Bool) else (true : Bool)) else (false : Bool)) else (false : Bool)) else (false : Bool)) else (false : Bool)) else (false : Bool)) else (false : Bool)) else (false : Bool)) else (false : Bool)) else (false : Bool)) else (false : Bool)) else (false : Bool))
def gd (a0 : MHead) : Prop := (MHead.Sm (2 ^ 21) a0)
def rf (a : MHead) : RHead := (MHead.r a)
theorem rf_inj (a b : MHead) (h : rf a = rf b) : a = b := by
  exact (MHead.r_inj h)
noncomputable def R (x0 : RHead) : Option (Bool) := ofM rf (fun a => gd a) (fun a => (md a)) x0
theorem R_eq {a0 : MHead} (h : gd a0) : R (MHead.r a0) = some (md a0) := ofM_eq (r := rf) (a := a0) rf_inj h
theorem okF (a0 : MHead) (hg : gd a0) : F (MHead.r a0) = ret ((md a0) : Bool) := by
  unfold gd at hg
  have H0 := hg
  unfold F md
  try simp only [bytesL_map, List.length_map, toNat_nat, iAt_getD, bAt_getD, sAt_getD, lAt_getD, MHead.r_fZone, MHead.r_fEpoch, MHead.r_fKind, MHead.r_fCount, MHead.r_fRoot, MHead.r_fPrev, MHead.r_fKeys, MHead.r_fHeirs, MHead.r_fWait, MHead.r_fJudge, MHead.r_fFrozen]
  refine call_to (impl_isDigest.md a0.fZone) ?_ ?_
  · have R_ := impl_isDigest.R_eq (a0 := a0.fZone) trivial
    first | exact R_ | (simp only [List.map_append, List.map_cons, List.map_nil, List.cons_append, List.nil_append, iRow, sRow, bRow, lRow, List.map_set, bytesL_map, List.length_map, toNat_nat, iAt_getD, bAt_getD, sAt_getD, lAt_getD, MHead.r_fZone, MHead.r_fEpoch, MHead.r_fKind, MHead.r_fCount, MHead.r_fRoot, MHead.r_fPrev, MHead.r_fKeys, MHead.r_fHeirs, MHead.r_fWait, MHead.r_fJudge, MHead.r_fFrozen] at R_ ⊢; first | exact R_ | (rw [← R_]; rfl))
  try simp only [bytesL_map, List.length_map, toNat_nat, iAt_getD, bAt_getD, sAt_getD, lAt_getD, MHead.r_fZone, MHead.r_fEpoch, MHead.r_fKind, MHead.r_fCount, MHead.r_fRoot, MHead.r_fPrev, MHead.r_fKeys, MHead.r_fHeirs, MHead.r_fWait, MHead.r_fJudge, MHead.r_fFrozen]
  refine bif_out (fun b : Bool => ret (b : Bool)) (fun c1 => ?_) (fun c1 => ?_)
  · refine call_to (impl_isDigest.md a0.fRoot) ?_ ?_
    · have R_ := impl_isDigest.R_eq (a0 := a0.fRoot) trivial
      first | exact R_ | (simp only [List.map_append, List.map_cons, List.map_nil, List.cons_append, List.nil_append, iRow, sRow, bRow, lRow, List.map_set, bytesL_map, List.length_map, toNat_nat, iAt_getD, bAt_getD, sAt_getD, lAt_getD, MHead.r_fZone, MHead.r_fEpoch, MHead.r_fKind, MHead.r_fCount, MHead.r_fRoot, MHead.r_fPrev, MHead.r_fKeys, MHead.r_fHeirs, MHead.r_fWait, MHead.r_fJudge, MHead.r_fFrozen] at R_ ⊢; first | exact R_ | (rw [← R_]; rfl))
    try simp only [bytesL_map, List.length_map, toNat_nat, iAt_getD, bAt_getD, sAt_getD, lAt_getD, MHead.r_fZone, MHead.r_fEpoch, MHead.r_fKind, MHead.r_fCount, MHead.r_fRoot, MHead.r_fPrev, MHead.r_fKeys, MHead.r_fHeirs, MHead.r_fWait, MHead.r_fJudge, MHead.r_fFrozen]
    refine bif_out (fun b : Bool => ret (b : Bool)) (fun c2 => ?_) (fun c2 => ?_)
    · refine call_to (impl_isDigest.md a0.fPrev) ?_ ?_
      · have R_ := impl_isDigest.R_eq (a0 := a0.fPrev) trivial
        first | exact R_ | (simp only [List.map_append, List.map_cons, List.map_nil, List.cons_append, List.nil_append, iRow, sRow, bRow, lRow, List.map_set, bytesL_map, List.length_map, toNat_nat, iAt_getD, bAt_getD, sAt_getD, lAt_getD, MHead.r_fZone, MHead.r_fEpoch, MHead.r_fKind, MHead.r_fCount, MHead.r_fRoot, MHead.r_fPrev, MHead.r_fKeys, MHead.r_fHeirs, MHead.r_fWait, MHead.r_fJudge, MHead.r_fFrozen] at R_ ⊢; first | exact R_ | (rw [← R_]; rfl))
      try simp only [bytesL_map, List.length_map, toNat_nat, iAt_getD, bAt_getD, sAt_getD, lAt_getD, MHead.r_fZone, MHead.r_fEpoch, MHead.r_fKind, MHead.r_fCount, MHead.r_fRoot, MHead.r_fPrev, MHead.r_fKeys, MHead.r_fHeirs, MHead.r_fWait, MHead.r_fJudge, MHead.r_fFrozen]
      refine bif_out (fun b : Bool => ret (b : Bool)) (fun c3 => ?_) (fun c3 => ?_)
      · refine call_to (impl_InRange.md a0.fEpoch 0 200) ?_ ?_
        · have R_ := impl_InRange.R_eq (a0 := a0.fEpoch) (a1 := 0) (a2 := 200) trivial
          first | exact R_ | (simp only [List.map_append, List.map_cons, List.map_nil, List.cons_append, List.nil_append, iRow, sRow, bRow, lRow, List.map_set, bytesL_map, List.length_map, toNat_nat, iAt_getD, bAt_getD, sAt_getD, lAt_getD, MHead.r_fZone, MHead.r_fEpoch, MHead.r_fKind, MHead.r_fCount, MHead.r_fRoot, MHead.r_fPrev, MHead.r_fKeys, MHead.r_fHeirs, MHead.r_fWait, MHead.r_fJudge, MHead.r_fFrozen] at R_ ⊢; first | exact R_ | (rw [← R_]; rfl))
        try simp only [bytesL_map, List.length_map, toNat_nat, iAt_getD, bAt_getD, sAt_getD, lAt_getD, MHead.r_fZone, MHead.r_fEpoch, MHead.r_fKind, MHead.r_fCount, MHead.r_fRoot, MHead.r_fPrev, MHead.r_fKeys, MHead.r_fHeirs, MHead.r_fWait, MHead.r_fJudge, MHead.r_fFrozen]
        refine bif_out (fun b : Bool => ret (b : Bool)) (fun c4 => ?_) (fun c4 => ?_)
        · have dc4 := c4
          try simp [impl_InRange.md] at dc4
          refine call_to (impl_InRange.md a0.fKind 1 3) ?_ ?_
          · have R_ := impl_InRange.R_eq (a0 := a0.fKind) (a1 := 1) (a2 := 3) trivial
            first | exact R_ | (simp only [List.map_append, List.map_cons, List.map_nil, List.cons_append, List.nil_append, iRow, sRow, bRow, lRow, List.map_set, bytesL_map, List.length_map, toNat_nat, iAt_getD, bAt_getD, sAt_getD, lAt_getD, MHead.r_fZone, MHead.r_fEpoch, MHead.r_fKind, MHead.r_fCount, MHead.r_fRoot, MHead.r_fPrev, MHead.r_fKeys, MHead.r_fHeirs, MHead.r_fWait, MHead.r_fJudge, MHead.r_fFrozen] at R_ ⊢; first | exact R_ | (rw [← R_]; rfl))
          try simp only [bytesL_map, List.length_map, toNat_nat, iAt_getD, bAt_getD, sAt_getD, lAt_getD, MHead.r_fZone, MHead.r_fEpoch, MHead.r_fKind, MHead.r_fCount, MHead.r_fRoot, MHead.r_fPrev, MHead.r_fKeys, MHead.r_fHeirs, MHead.r_fWait, MHead.r_fJudge, MHead.r_fFrozen]
          refine bif_out (fun b : Bool => ret (b : Bool)) (fun c5 => ?_) (fun c5 => ?_)
          · have dc5 := c5
            try simp [impl_InRange.md] at dc5
            refine call_to (impl_isSpan.md a0) ?_ ?_
            · have R_ := impl_isSpan.R_eq (a0 := a0) trivial
              first | exact R_ | (simp only [List.map_append, List.map_cons, List.map_nil, List.cons_append, List.nil_append, iRow, sRow, bRow, lRow, List.map_set, bytesL_map, List.length_map, toNat_nat, iAt_getD, bAt_getD, sAt_getD, lAt_getD, MHead.r_fZone, MHead.r_fEpoch, MHead.r_fKind, MHead.r_fCount, MHead.r_fRoot, MHead.r_fPrev, MHead.r_fKeys, MHead.r_fHeirs, MHead.r_fWait, MHead.r_fJudge, MHead.r_fFrozen] at R_ ⊢; first | exact R_ | (rw [← R_]; rfl))
            try simp only [bytesL_map, List.length_map, toNat_nat, iAt_getD, bAt_getD, sAt_getD, lAt_getD, MHead.r_fZone, MHead.r_fEpoch, MHead.r_fKind, MHead.r_fCount, MHead.r_fRoot, MHead.r_fPrev, MHead.r_fKeys, MHead.r_fHeirs, MHead.r_fWait, MHead.r_fJudge, MHead.r_fFrozen]
            refine bif_out (fun b : Bool => ret (b : Bool)) (fun c6 => ?_) (fun c6 => ?_)
            · refine call_to (impl_InRange.md a0.fCount 0 12) ?_ ?_
              · have R_ := impl_InRange.R_eq (a0 := a0.fCount) (a1 := 0) (a2 := 12) trivial
                first | exact R_ | (simp only [List.map_append, List.map_cons, List.map_nil, List.cons_append, List.nil_append, iRow, sRow, bRow, lRow, List.map_set, bytesL_map, List.length_map, toNat_nat, iAt_getD, bAt_getD, sAt_getD, lAt_getD, MHead.r_fZone, MHead.r_fEpoch, MHead.r_fKind, MHead.r_fCount, MHead.r_fRoot, MHead.r_fPrev, MHead.r_fKeys, MHead.r_fHeirs, MHead.r_fWait, MHead.r_fJudge, MHead.r_fFrozen] at R_ ⊢; first | exact R_ | (rw [← R_]; rfl))
              try simp only [bytesL_map, List.length_map, toNat_nat, iAt_getD, bAt_getD, sAt_getD, lAt_getD, MHead.r_fZone, MHead.r_fEpoch, MHead.r_fKind, MHead.r_fCount, MHead.r_fRoot, MHead.r_fPrev, MHead.r_fKeys, MHead.r_fHeirs, MHead.r_fWait, MHead.r_fJudge, MHead.r_fFrozen]
              refine bif_out (fun b : Bool => ret (b : Bool)) (fun c7 => ?_) (fun c7 => ?_)
              · have dc7 := c7
                try simp [impl_InRange.md] at dc7
                refine call_to (impl_IsKeys.md a0.fKeys) ?_ ?_
                · have R_ := impl_IsKeys.R_eq (a0 := a0.fKeys) H0.1
                  first | exact R_ | (simp only [List.map_append, List.map_cons, List.map_nil, List.cons_append, List.nil_append, iRow, sRow, bRow, lRow, List.map_set, bytesL_map, List.length_map, toNat_nat, iAt_getD, bAt_getD, sAt_getD, lAt_getD, MHead.r_fZone, MHead.r_fEpoch, MHead.r_fKind, MHead.r_fCount, MHead.r_fRoot, MHead.r_fPrev, MHead.r_fKeys, MHead.r_fHeirs, MHead.r_fWait, MHead.r_fJudge, MHead.r_fFrozen] at R_ ⊢; first | exact R_ | (rw [← R_]; rfl))
                try simp only [bytesL_map, List.length_map, toNat_nat, iAt_getD, bAt_getD, sAt_getD, lAt_getD, MHead.r_fZone, MHead.r_fEpoch, MHead.r_fKind, MHead.r_fCount, MHead.r_fRoot, MHead.r_fPrev, MHead.r_fKeys, MHead.r_fHeirs, MHead.r_fWait, MHead.r_fJudge, MHead.r_fFrozen]
                refine bif_out (fun b : Bool => ret (b : Bool)) (fun c8 => ?_) (fun c8 => ?_)
                · refine call_to (impl_isMaybe.md a0.fHeirs) ?_ ?_
                  · have R_ := impl_isMaybe.R_eq (a0 := a0.fHeirs) H0.2.1
                    first | exact R_ | (simp only [List.map_append, List.map_cons, List.map_nil, List.cons_append, List.nil_append, iRow, sRow, bRow, lRow, List.map_set, bytesL_map, List.length_map, toNat_nat, iAt_getD, bAt_getD, sAt_getD, lAt_getD, MHead.r_fZone, MHead.r_fEpoch, MHead.r_fKind, MHead.r_fCount, MHead.r_fRoot, MHead.r_fPrev, MHead.r_fKeys, MHead.r_fHeirs, MHead.r_fWait, MHead.r_fJudge, MHead.r_fFrozen] at R_ ⊢; first | exact R_ | (rw [← R_]; rfl))
                  try simp only [bytesL_map, List.length_map, toNat_nat, iAt_getD, bAt_getD, sAt_getD, lAt_getD, MHead.r_fZone, MHead.r_fEpoch, MHead.r_fKind, MHead.r_fCount, MHead.r_fRoot, MHead.r_fPrev, MHead.r_fKeys, MHead.r_fHeirs, MHead.r_fWait, MHead.r_fJudge, MHead.r_fFrozen]
                  refine bif_out (fun b : Bool => ret (b : Bool)) (fun c9 => ?_) (fun c9 => ?_)
                  · refine call_to (impl_isMaybe.md a0.fJudge) ?_ ?_
                    · have R_ := impl_isMaybe.R_eq (a0 := a0.fJudge) H0.2.2
                      first | exact R_ | (simp only [List.map_append, List.map_cons, List.map_nil, List.cons_append, List.nil_append, iRow, sRow, bRow, lRow, List.map_set, bytesL_map, List.length_map, toNat_nat, iAt_getD, bAt_getD, sAt_getD, lAt_getD, MHead.r_fZone, MHead.r_fEpoch, MHead.r_fKind, MHead.r_fCount, MHead.r_fRoot, MHead.r_fPrev, MHead.r_fKeys, MHead.r_fHeirs, MHead.r_fWait, MHead.r_fJudge, MHead.r_fFrozen] at R_ ⊢; first | exact R_ | (rw [← R_]; rfl))
                    try simp only [bytesL_map, List.length_map, toNat_nat, iAt_getD, bAt_getD, sAt_getD, lAt_getD, MHead.r_fZone, MHead.r_fEpoch, MHead.r_fKind, MHead.r_fCount, MHead.r_fRoot, MHead.r_fPrev, MHead.r_fKeys, MHead.r_fHeirs, MHead.r_fWait, MHead.r_fJudge, MHead.r_fFrozen]
                    refine bif_out (fun b : Bool => ret (b : Bool)) (fun c10 => ?_) (fun c10 => ?_)
                    · refine call_to (impl_isWait.md a0.fWait a0.fHeirs) ?_ ?_
                      · have R_ := impl_isWait.R_eq (a0 := a0.fWait) (a1 := a0.fHeirs) trivial
                        first | exact R_ | (simp only [List.map_append, List.map_cons, List.map_nil, List.cons_append, List.nil_append, iRow, sRow, bRow, lRow, List.map_set, bytesL_map, List.length_map, toNat_nat, iAt_getD, bAt_getD, sAt_getD, lAt_getD, MHead.r_fZone, MHead.r_fEpoch, MHead.r_fKind, MHead.r_fCount, MHead.r_fRoot, MHead.r_fPrev, MHead.r_fKeys, MHead.r_fHeirs, MHead.r_fWait, MHead.r_fJudge, MHead.r_fFrozen] at R_ ⊢; first | exact R_ | (rw [← R_]; rfl))
                      try simp only [bytesL_map, List.length_map, toNat_nat, iAt_getD, bAt_getD, sAt_getD, lAt_getD, MHead.r_fZone, MHead.r_fEpoch, MHead.r_fKind, MHead.r_fCount, MHead.r_fRoot, MHead.r_fPrev, MHead.r_fKeys, MHead.r_fHeirs, MHead.r_fWait, MHead.r_fJudge, MHead.r_fFrozen]
                      refine bif_out (fun b : Bool => ret (b : Bool)) (fun c11 => ?_) (fun c11 => ?_)
                      · refine bif_out (fun b : Bool => ret (b : Bool)) (fun c12 => ?_) (fun c12 => ?_)
                        · refine call_to (impl_NoKeys.md a0.fJudge) ?_ ?_
                          · have R_ := impl_NoKeys.R_eq (a0 := a0.fJudge) trivial
                            first | exact R_ | (simp only [List.map_append, List.map_cons, List.map_nil, List.cons_append, List.nil_append, iRow, sRow, bRow, lRow, List.map_set, bytesL_map, List.length_map, toNat_nat, iAt_getD, bAt_getD, sAt_getD, lAt_getD, MHead.r_fZone, MHead.r_fEpoch, MHead.r_fKind, MHead.r_fCount, MHead.r_fRoot, MHead.r_fPrev, MHead.r_fKeys, MHead.r_fHeirs, MHead.r_fWait, MHead.r_fJudge, MHead.r_fFrozen] at R_ ⊢; first | exact R_ | (rw [← R_]; rfl))
                          try simp only [bytesL_map, List.length_map, toNat_nat, iAt_getD, bAt_getD, sAt_getD, lAt_getD, MHead.r_fZone, MHead.r_fEpoch, MHead.r_fKind, MHead.r_fCount, MHead.r_fRoot, MHead.r_fPrev, MHead.r_fKeys, MHead.r_fHeirs, MHead.r_fWait, MHead.r_fJudge, MHead.r_fFrozen]
                          all_goals first | rfl | (simp only [bytesL_map, List.length_map, toNat_nat, iAt_getD, bAt_getD, sAt_getD, lAt_getD, MHead.r_fZone, MHead.r_fEpoch, MHead.r_fKind, MHead.r_fCount, MHead.r_fRoot, MHead.r_fPrev, MHead.r_fKeys, MHead.r_fHeirs, MHead.r_fWait, MHead.r_fJudge, MHead.r_fFrozen]; done) | (simp only [List.map_append, List.map_cons, List.map_nil, List.cons_append, List.nil_append, iRow, sRow, bRow, lRow, List.map_set]; rfl) | (simp only [bytesL_map, List.length_map, toNat_nat, iAt_getD, bAt_getD, sAt_getD, lAt_getD, MHead.r_fZone, MHead.r_fEpoch, MHead.r_fKind, MHead.r_fCount, MHead.r_fRoot, MHead.r_fPrev, MHead.r_fKeys, MHead.r_fHeirs, MHead.r_fWait, MHead.r_fJudge, MHead.r_fFrozen, List.map_append, List.map_cons, List.map_nil, List.cons_append, List.nil_append, iRow, sRow, bRow, lRow, List.map_set]; first | done | rfl)
                        · all_goals first | rfl | (simp only [bytesL_map, List.length_map, toNat_nat, iAt_getD, bAt_getD, sAt_getD, lAt_getD, MHead.r_fZone, MHead.r_fEpoch, MHead.r_fKind, MHead.r_fCount, MHead.r_fRoot, MHead.r_fPrev, MHead.r_fKeys, MHead.r_fHeirs, MHead.r_fWait, MHead.r_fJudge, MHead.r_fFrozen]; done) | (simp only [List.map_append, List.map_cons, List.map_nil, List.cons_append, List.nil_append, iRow, sRow, bRow, lRow, List.map_set]; rfl) | (simp only [bytesL_map, List.length_map, toNat_nat, iAt_getD, bAt_getD, sAt_getD, lAt_getD, MHead.r_fZone, MHead.r_fEpoch, MHead.r_fKind, MHead.r_fCount, MHead.r_fRoot, MHead.r_fPrev, MHead.r_fKeys, MHead.r_fHeirs, MHead.r_fWait, MHead.r_fJudge, MHead.r_fFrozen, List.map_append, List.map_cons, List.map_nil, List.cons_append, List.nil_append, iRow, sRow, bRow, lRow, List.map_set]; first | done | rfl)
                      · all_goals first | rfl | (simp only [bytesL_map, List.length_map, toNat_nat, iAt_getD, bAt_getD, sAt_getD, lAt_getD, MHead.r_fZone, MHead.r_fEpoch, MHead.r_fKind, MHead.r_fCount, MHead.r_fRoot, MHead.r_fPrev, MHead.r_fKeys, MHead.r_fHeirs, MHead.r_fWait, MHead.r_fJudge, MHead.r_fFrozen]; done) | (simp only [List.map_append, List.map_cons, List.map_nil, List.cons_append, List.nil_append, iRow, sRow, bRow, lRow, List.map_set]; rfl) | (simp only [bytesL_map, List.length_map, toNat_nat, iAt_getD, bAt_getD, sAt_getD, lAt_getD, MHead.r_fZone, MHead.r_fEpoch, MHead.r_fKind, MHead.r_fCount, MHead.r_fRoot, MHead.r_fPrev, MHead.r_fKeys, MHead.r_fHeirs, MHead.r_fWait, MHead.r_fJudge, MHead.r_fFrozen, List.map_append, List.map_cons, List.map_nil, List.cons_append, List.nil_append, iRow, sRow, bRow, lRow, List.map_set]; first | done | rfl)
                    · all_goals first | rfl | (simp only [bytesL_map, List.length_map, toNat_nat, iAt_getD, bAt_getD, sAt_getD, lAt_getD, MHead.r_fZone, MHead.r_fEpoch, MHead.r_fKind, MHead.r_fCount, MHead.r_fRoot, MHead.r_fPrev, MHead.r_fKeys, MHead.r_fHeirs, MHead.r_fWait, MHead.r_fJudge, MHead.r_fFrozen]; done) | (simp only [List.map_append, List.map_cons, List.map_nil, List.cons_append, List.nil_append, iRow, sRow, bRow, lRow, List.map_set]; rfl) | (simp only [bytesL_map, List.length_map, toNat_nat, iAt_getD, bAt_getD, sAt_getD, lAt_getD, MHead.r_fZone, MHead.r_fEpoch, MHead.r_fKind, MHead.r_fCount, MHead.r_fRoot, MHead.r_fPrev, MHead.r_fKeys, MHead.r_fHeirs, MHead.r_fWait, MHead.r_fJudge, MHead.r_fFrozen, List.map_append, List.map_cons, List.map_nil, List.cons_append, List.nil_append, iRow, sRow, bRow, lRow, List.map_set]; first | done | rfl)
                  · all_goals first | rfl | (simp only [bytesL_map, List.length_map, toNat_nat, iAt_getD, bAt_getD, sAt_getD, lAt_getD, MHead.r_fZone, MHead.r_fEpoch, MHead.r_fKind, MHead.r_fCount, MHead.r_fRoot, MHead.r_fPrev, MHead.r_fKeys, MHead.r_fHeirs, MHead.r_fWait, MHead.r_fJudge, MHead.r_fFrozen]; done) | (simp only [List.map_append, List.map_cons, List.map_nil, List.cons_append, List.nil_append, iRow, sRow, bRow, lRow, List.map_set]; rfl) | (simp only [bytesL_map, List.length_map, toNat_nat, iAt_getD, bAt_getD, sAt_getD, lAt_getD, MHead.r_fZone, MHead.r_fEpoch, MHead.r_fKind, MHead.r_fCount, MHead.r_fRoot, MHead.r_fPrev, MHead.r_fKeys, MHead.r_fHeirs, MHead.r_fWait, MHead.r_fJudge, MHead.r_fFrozen, List.map_append, List.map_cons, List.map_nil, List.cons_append, List.nil_append, iRow, sRow, bRow, lRow, List.map_set]; first | done | rfl)
                · all_goals first | rfl | (simp only [bytesL_map, List.length_map, toNat_nat, iAt_getD, bAt_getD, sAt_getD, lAt_getD, MHead.r_fZone, MHead.r_fEpoch, MHead.r_fKind, MHead.r_fCount, MHead.r_fRoot, MHead.r_fPrev, MHead.r_fKeys, MHead.r_fHeirs, MHead.r_fWait, MHead.r_fJudge, MHead.r_fFrozen]; done) | (simp only [List.map_append, List.map_cons, List.map_nil, List.cons_append, List.nil_append, iRow, sRow, bRow, lRow, List.map_set]; rfl) | (simp only [bytesL_map, List.length_map, toNat_nat, iAt_getD, bAt_getD, sAt_getD, lAt_getD, MHead.r_fZone, MHead.r_fEpoch, MHead.r_fKind, MHead.r_fCount, MHead.r_fRoot, MHead.r_fPrev, MHead.r_fKeys, MHead.r_fHeirs, MHead.r_fWait, MHead.r_fJudge, MHead.r_fFrozen, List.map_append, List.map_cons, List.map_nil, List.cons_append, List.nil_append, iRow, sRow, bRow, lRow, List.map_set]; first | done | rfl)
              · have dc7 := c7
                try simp [impl_InRange.md] at dc7
                all_goals first | rfl | (simp only [bytesL_map, List.length_map, toNat_nat, iAt_getD, bAt_getD, sAt_getD, lAt_getD, MHead.r_fZone, MHead.r_fEpoch, MHead.r_fKind, MHead.r_fCount, MHead.r_fRoot, MHead.r_fPrev, MHead.r_fKeys, MHead.r_fHeirs, MHead.r_fWait, MHead.r_fJudge, MHead.r_fFrozen]; done) | (simp only [List.map_append, List.map_cons, List.map_nil, List.cons_append, List.nil_append, iRow, sRow, bRow, lRow, List.map_set]; rfl) | (simp only [bytesL_map, List.length_map, toNat_nat, iAt_getD, bAt_getD, sAt_getD, lAt_getD, MHead.r_fZone, MHead.r_fEpoch, MHead.r_fKind, MHead.r_fCount, MHead.r_fRoot, MHead.r_fPrev, MHead.r_fKeys, MHead.r_fHeirs, MHead.r_fWait, MHead.r_fJudge, MHead.r_fFrozen, List.map_append, List.map_cons, List.map_nil, List.cons_append, List.nil_append, iRow, sRow, bRow, lRow, List.map_set]; first | done | rfl)
            · all_goals first | rfl | (simp only [bytesL_map, List.length_map, toNat_nat, iAt_getD, bAt_getD, sAt_getD, lAt_getD, MHead.r_fZone, MHead.r_fEpoch, MHead.r_fKind, MHead.r_fCount, MHead.r_fRoot, MHead.r_fPrev, MHead.r_fKeys, MHead.r_fHeirs, MHead.r_fWait, MHead.r_fJudge, MHead.r_fFrozen]; done) | (simp only [List.map_append, List.map_cons, List.map_nil, List.cons_append, List.nil_append, iRow, sRow, bRow, lRow, List.map_set]; rfl) | (simp only [bytesL_map, List.length_map, toNat_nat, iAt_getD, bAt_getD, sAt_getD, lAt_getD, MHead.r_fZone, MHead.r_fEpoch, MHead.r_fKind, MHead.r_fCount, MHead.r_fRoot, MHead.r_fPrev, MHead.r_fKeys, MHead.r_fHeirs, MHead.r_fWait, MHead.r_fJudge, MHead.r_fFrozen, List.map_append, List.map_cons, List.map_nil, List.cons_append, List.nil_append, iRow, sRow, bRow, lRow, List.map_set]; first | done | rfl)
          · have dc5 := c5
            try simp [impl_InRange.md] at dc5
            all_goals first | rfl | (simp only [bytesL_map, List.length_map, toNat_nat, iAt_getD, bAt_getD, sAt_getD, lAt_getD, MHead.r_fZone, MHead.r_fEpoch, MHead.r_fKind, MHead.r_fCount, MHead.r_fRoot, MHead.r_fPrev, MHead.r_fKeys, MHead.r_fHeirs, MHead.r_fWait, MHead.r_fJudge, MHead.r_fFrozen]; done) | (simp only [List.map_append, List.map_cons, List.map_nil, List.cons_append, List.nil_append, iRow, sRow, bRow, lRow, List.map_set]; rfl) | (simp only [bytesL_map, List.length_map, toNat_nat, iAt_getD, bAt_getD, sAt_getD, lAt_getD, MHead.r_fZone, MHead.r_fEpoch, MHead.r_fKind, MHead.r_fCount, MHead.r_fRoot, MHead.r_fPrev, MHead.r_fKeys, MHead.r_fHeirs, MHead.r_fWait, MHead.r_fJudge, MHead.r_fFrozen, List.map_append, List.map_cons, List.map_nil, List.cons_append, List.nil_append, iRow, sRow, bRow, lRow, List.map_set]; first | done | rfl)
        · have dc4 := c4
          try simp [impl_InRange.md] at dc4
          all_goals first | rfl | (simp only [bytesL_map, List.length_map, toNat_nat, iAt_getD, bAt_getD, sAt_getD, lAt_getD, MHead.r_fZone, MHead.r_fEpoch, MHead.r_fKind, MHead.r_fCount, MHead.r_fRoot, MHead.r_fPrev, MHead.r_fKeys, MHead.r_fHeirs, MHead.r_fWait, MHead.r_fJudge, MHead.r_fFrozen]; done) | (simp only [List.map_append, List.map_cons, List.map_nil, List.cons_append, List.nil_append, iRow, sRow, bRow, lRow, List.map_set]; rfl) | (simp only [bytesL_map, List.length_map, toNat_nat, iAt_getD, bAt_getD, sAt_getD, lAt_getD, MHead.r_fZone, MHead.r_fEpoch, MHead.r_fKind, MHead.r_fCount, MHead.r_fRoot, MHead.r_fPrev, MHead.r_fKeys, MHead.r_fHeirs, MHead.r_fWait, MHead.r_fJudge, MHead.r_fFrozen, List.map_append, List.map_cons, List.map_nil, List.cons_append, List.nil_append, iRow, sRow, bRow, lRow, List.map_set]; first | done | rfl)
      · all_goals first | rfl | (simp only [bytesL_map, List.length_map, toNat_nat, iAt_getD, bAt_getD, sAt_getD, lAt_getD, MHead.r_fZone, MHead.r_fEpoch, MHead.r_fKind, MHead.r_fCount, MHead.r_fRoot, MHead.r_fPrev, MHead.r_fKeys, MHead.r_fHeirs, MHead.r_fWait, MHead.r_fJudge, MHead.r_fFrozen]; done) | (simp only [List.map_append, List.map_cons, List.map_nil, List.cons_append, List.nil_append, iRow, sRow, bRow, lRow, List.map_set]; rfl) | (simp only [bytesL_map, List.length_map, toNat_nat, iAt_getD, bAt_getD, sAt_getD, lAt_getD, MHead.r_fZone, MHead.r_fEpoch, MHead.r_fKind, MHead.r_fCount, MHead.r_fRoot, MHead.r_fPrev, MHead.r_fKeys, MHead.r_fHeirs, MHead.r_fWait, MHead.r_fJudge, MHead.r_fFrozen, List.map_append, List.map_cons, List.map_nil, List.cons_append, List.nil_append, iRow, sRow, bRow, lRow, List.map_set]; first | done | rfl)
    · all_goals first | rfl | (simp only [bytesL_map, List.length_map, toNat_nat, iAt_getD, bAt_getD, sAt_getD, lAt_getD, MHead.r_fZone, MHead.r_fEpoch, MHead.r_fKind, MHead.r_fCount, MHead.r_fRoot, MHead.r_fPrev, MHead.r_fKeys, MHead.r_fHeirs, MHead.r_fWait, MHead.r_fJudge, MHead.r_fFrozen]; done) | (simp only [List.map_append, List.map_cons, List.map_nil, List.cons_append, List.nil_append, iRow, sRow, bRow, lRow, List.map_set]; rfl) | (simp only [bytesL_map, List.length_map, toNat_nat, iAt_getD, bAt_getD, sAt_getD, lAt_getD, MHead.r_fZone, MHead.r_fEpoch, MHead.r_fKind, MHead.r_fCount, MHead.r_fRoot, MHead.r_fPrev, MHead.r_fKeys, MHead.r_fHeirs, MHead.r_fWait, MHead.r_fJudge, MHead.r_fFrozen, List.map_append, List.map_cons, List.map_nil, List.cons_append, List.nil_append, iRow, sRow, bRow, lRow, List.map_set]; first | done | rfl)
  · all_goals first | rfl | (simp only [bytesL_map, List.length_map, toNat_nat, iAt_getD, bAt_getD, sAt_getD, lAt_getD, MHead.r_fZone, MHead.r_fEpoch, MHead.r_fKind, MHead.r_fCount, MHead.r_fRoot, MHead.r_fPrev, MHead.r_fKeys, MHead.r_fHeirs, MHead.r_fWait, MHead.r_fJudge, MHead.r_fFrozen]; done) | (simp only [List.map_append, List.map_cons, List.map_nil, List.cons_append, List.nil_append, iRow, sRow, bRow, lRow, List.map_set]; rfl) | (simp only [bytesL_map, List.length_map, toNat_nat, iAt_getD, bAt_getD, sAt_getD, lAt_getD, MHead.r_fZone, MHead.r_fEpoch, MHead.r_fKind, MHead.r_fCount, MHead.r_fRoot, MHead.r_fPrev, MHead.r_fKeys, MHead.r_fHeirs, MHead.r_fWait, MHead.r_fJudge, MHead.r_fFrozen, List.map_append, List.map_cons, List.map_nil, List.cons_append, List.nil_append, iRow, sRow, bRow, lRow, List.map_set]; first | done | rfl)
noncomputable def sem (ls : List L) : Option (List L) := (R (RHead.dec ls)).map RT.enc
theorem ok (ls q : List L) (hl : LOKs Ev.cells pats ls) (h : sem ls = some q) : ∃ n, runF E live Tryz.f142 res n (initS pats ls) = some q := by
  obtain ⟨v, hv, hq⟩ := map_some h
  obtain ⟨a0, hg, e, hm⟩ := ofM_some hv
  have e0 : (MHead.r a0) = _ := e
  have hn := okF a0 hg
  refine ⟨0, (run_eq 0 ls).trans ?_⟩
  rw [← e0]
  rw [hn, ← hq, hm]; rfl
noncomputable def con : Con := ⟨pats, res, sem⟩
theorem chk : fnB Tryz.f142 con 67 = true := by kernel_rfl
theorem valid_ : Valid Tryz.prog Ev 142 con := valid mix tab_ok (.cons impl_isDigest.valid_ (.cons impl_InRange.valid_ (.cons impl_isSpan.valid_ (.cons impl_IsKeys.valid_ (.cons impl_isMaybe.valid_ (.cons impl_isWait.valid_ (.cons impl_NoKeys.valid_ .nil))))))) Tryz.func142 chk live ok
theorem br (a0 : MHead) : md a0 = spec_IsHead.md a0 := by
  unfold md spec_IsHead.md
  simp only [impl_IsKeys.br, impl_InRange.br, impl_isDigest.md, impl_isMaybe.md, impl_isWait.md, impl_NoKeys.br]
  have hs : impl_isSpan.md a0 = (spec_l1In.md a0.fTime 0 100000 && (spec_l1In.md a0.fUntil a0.fTime 100000 && !decide ((IntKind.i64.wrap (a0.fUntil - a0.fTime)) > 200))) := by
    rw [Bool.eq_iff_iff]
    simp [impl_isSpan.md, spec_l1In.md]
    omega
  have hk : spec_IsKeys.md a0.fJudge = true → spec_NoKeys.md a0.fJudge = false := fun h => by
    have := spec_IsKeys.tr h
    have e : ((a0.fJudge.fList.length : Int) == 0) = false := beq_eq_false_iff_ne.2 (by omega)
    unfold spec_NoKeys.md
    rw [e]
    cases a0.fJudge.fNeed == 0 <;> rfl
  rw [hs]
  revert hk
  simp only [and_n, and_p, Bool.and_assoc]
  generalize spec_l1In.md a0.fZone 0 2147483646 = b1
  generalize spec_l1In.md a0.fRoot 0 2147483646 = b2
  generalize spec_l1In.md a0.fPrev 0 2147483646 = b3
  generalize spec_l1In.md a0.fEpoch 0 200 = b4
  generalize spec_l1In.md a0.fKind 1 3 = b5
  generalize spec_l1In.md a0.fTime 0 100000 = b6
  generalize spec_l1In.md a0.fUntil a0.fTime 100000 = b7
  generalize decide ((IntKind.i64.wrap (a0.fUntil - a0.fTime)) > 200) = b8
  generalize spec_l1In.md a0.fCount 0 12 = b9
  generalize spec_IsKeys.md a0.fKeys = b10
  generalize spec_IsKeys.md a0.fHeirs = kh
  generalize spec_NoKeys.md a0.fHeirs = nh
  generalize spec_IsKeys.md a0.fJudge = kj
  generalize spec_NoKeys.md a0.fJudge = nj
  generalize spec_l1In.md a0.fWait 1 500 = lw
  have hw : (a0.fWait != 0) = !(a0.fWait == 0) := rfl
  rw [hw]
  generalize (a0.fWait == 0) = w0
  generalize a0.fFrozen = fz
  intro hk
  cases b1; · rfl
  cases b2; · rfl
  cases b3; · rfl
  cases b4; · rfl
  cases b5; · rfl
  cases b6; · rfl
  cases b7; · rfl
  cases b8; rotate_left; · rfl
  cases b9; · rfl
  cases b10; · rfl
  revert hk
  revert kh nh kj nj lw w0 fz
  decide
end impl_IsHead
/-! impl.KeysInts -/
namespace impl_KeysInts
noncomputable def F (x0 : RKeys) : Ans := (bif (lim (((2 : Int) + (x0.fList.length : Int)) * 8)) then ret (([[L.int x0.fNeed], [L.int (x0.fList.length : Int)]] ++ x0.fList) : List (List L)) else none)
def live : Nat → Live := fun _ => []
def pats : List Pat := [.agg [.sl 3, .int .i64]]
def res : RP := .one (.fr 3)
noncomputable def G : List (Nat × Con) := []
noncomputable abbrev E : Env := ⟨assoc Tab, conG G, 12⟩
set_option maxRecDepth 100000
theorem run_eq (n : Nat) (ls : List L) : runF E live Tryz.f193 res n (initS pats ls) = F (RKeys.dec ls) := by kernel_rfl
noncomputable def md (a0 : MKeys) : List Int := ([a0.fNeed, (a0.fList.length : Int)] ++ a0.fList)
def gd (a0 : MKeys) : Prop := (MKeys.Sm (2 ^ 21) a0)
def rf (a : MKeys) : RKeys := (MKeys.r a)
theorem rf_inj (a b : MKeys) (h : rf a = rf b) : a = b := by
  exact (MKeys.r_inj h)
noncomputable def R (x0 : RKeys) : Option (List (List L)) := ofM rf (fun a => gd a) (fun a => ((md a).map iRow)) x0
theorem R_eq {a0 : MKeys} (h : gd a0) : R (MKeys.r a0) = some ((md a0).map iRow) := ofM_eq (r := rf) (a := a0) rf_inj h
theorem okF (a0 : MKeys) (hg : gd a0) : F (MKeys.r a0) = ret (((md a0).map iRow) : List (List L)) := by
  unfold gd at hg
  have H0 := hg
  unfold F md
  try simp only [bytesL_map, List.length_map, toNat_nat, iAt_getD, bAt_getD, sAt_getD, lAt_getD, MKeys.r_fList, MKeys.r_fNeed]
  refine yes_ret (by
      have := (H0).1
      refine lim_t ?_
      try simp (disch := omega) only [List.sum_cons, List.sum_nil, List.map_cons, List.map_nil, bytesI_length, bytesL_length, List.length_append, List.length_cons, List.length_nil, List.length_map, List.length_set, List.length_replicate, List.length_take, List.length_drop, Go.IntWalk.i64_in]
      first | omega | (simp; done) | (simp; omega)) ?_
  all_goals first | rfl | (simp only [bytesL_map, List.length_map, toNat_nat, iAt_getD, bAt_getD, sAt_getD, lAt_getD, MKeys.r_fList, MKeys.r_fNeed]; done) | (simp only [List.map_append, List.map_cons, List.map_nil, List.cons_append, List.nil_append, iRow, sRow, bRow, lRow, List.map_set]; rfl) | (simp only [bytesL_map, List.length_map, toNat_nat, iAt_getD, bAt_getD, sAt_getD, lAt_getD, MKeys.r_fList, MKeys.r_fNeed, List.map_append, List.map_cons, List.map_nil, List.cons_append, List.nil_append, iRow, sRow, bRow, lRow, List.map_set]; first | done | rfl)
noncomputable def sem (ls : List L) : Option (List L) := (R (RKeys.dec ls)).map RT.enc
theorem ok (ls q : List L) (hl : LOKs Ev.cells pats ls) (h : sem ls = some q) : ∃ n, runF E live Tryz.f193 res n (initS pats ls) = some q := by
  obtain ⟨v, hv, hq⟩ := map_some h
  obtain ⟨a0, hg, e, hm⟩ := ofM_some hv
  have e0 : (MKeys.r a0) = _ := e
  have hn := okF a0 hg
  refine ⟨0, (run_eq 0 ls).trans ?_⟩
  rw [← e0]
  rw [hn, ← hq, hm]; rfl
noncomputable def con : Con := ⟨pats, res, sem⟩
theorem chk : fnB Tryz.f193 con 12 = true := by kernel_rfl
theorem valid_ : Valid Tryz.prog Ev 193 con := valid mix tab_ok .nil Tryz.func193 chk live ok
theorem len (a0 : MKeys) : (md a0).length = 2 + a0.fList.length := by simp [md]; omega
theorem br (a0 : MKeys) : md a0 = spec_KeysInts.md a0 := by
  unfold md spec_KeysInts.md
  first
  | (simp only [id]; done)
  | (simp only [id]; rfl)
  | rfl
end impl_KeysInts
/-! impl.Mod -/
namespace impl_Mod
noncomputable def F (x0 : Int) (x1 : Int) : Ans := (call (impl_InRange.R x1 1 1000000000000) fun v1 => (bif (!v1) then ret (0 : Int) else (bif (decide (x1 = 0)) then none else (bif (decide (x1 = 0)) then none else ret ((Int.tmod (IntKind.i64.wrap ((Int.tmod x0 x1) + x1)) x1) : Int)))))
def live : Nat → Live := fun _ => []
def pats : List Pat := [.rd (.int .i64), .rd (.int .i64)]
def res : RP := .one (.rd (.int .i64))
noncomputable def G : List (Nat × Con) := [(88, impl_InRange.con)]
noncomputable abbrev E : Env := ⟨assoc Tab, conG G, 15⟩
set_option maxRecDepth 100000
theorem run_eq (n : Nat) (ls : List L) : runF E live Tryz.f242 res n (initS pats ls) = F (ls.headD .hole).toInt ((dropT 1 ls).headD .hole).toInt := by kernel_rfl
noncomputable def md (a0 : Int) (a1 : Int) : Int := (bif (!(impl_InRange.md a1 1 1000000000000)) then (0 : Int) else ((Int.tmod (IntKind.i64.wrap ((Int.tmod a0 a1) + a1)) a1) : Int))
def gd (a0 : Int) (a1 : Int) : Prop := True
def rf (a : Int × Int) : Int × Int := (a.1, a.2)
theorem rf_inj (a b : Int × Int) (h : rf a = rf b) : a = b := by
  exact (Prod.ext (congrArg (fun x => x.1) h) (congrArg (fun x => x.2) h))
noncomputable def R (x0 : Int) (x1 : Int) : Option (Int) := ofM rf (fun a => gd a.1 a.2) (fun a => (md a.1 a.2)) (x0, x1)
theorem R_eq {a0 : Int} {a1 : Int} (h : gd a0 a1) : R a0 a1 = some (md a0 a1) := ofM_eq (r := rf) (a := (a0, a1)) rf_inj h
theorem okF (a0 : Int) (a1 : Int) (hg : gd a0 a1) : F a0 a1 = ret ((md a0 a1) : Int) := by
  unfold F md
  try simp only [bytesL_map, List.length_map, toNat_nat, iAt_getD, bAt_getD, sAt_getD, lAt_getD]
  refine call_to (impl_InRange.md a1 1 1000000000000) ?_ ?_
  · have R_ := impl_InRange.R_eq (a0 := a1) (a1 := 1) (a2 := 1000000000000) trivial
    first | exact R_ | (simp only [List.map_append, List.map_cons, List.map_nil, List.cons_append, List.nil_append, iRow, sRow, bRow, lRow, List.map_set, bytesL_map, List.length_map, toNat_nat, iAt_getD, bAt_getD, sAt_getD, lAt_getD] at R_ ⊢; first | exact R_ | (rw [← R_]; rfl))
  try simp only [bytesL_map, List.length_map, toNat_nat, iAt_getD, bAt_getD, sAt_getD, lAt_getD]
  refine bif_out (fun b : Int => ret (b : Int)) (fun c1 => ?_) (fun c1 => ?_)
  · have dc1 := c1
    try simp only [bne_eq_false_iff_eq, bne_iff_ne, beq_iff_eq, beq_eq_false_iff_ne, ne_eq, Bool.not_eq_true', Bool.not_eq_false'] at dc1
    have dc1 := c1
    try simp [impl_InRange.md] at dc1
    all_goals first | rfl | (simp only [bytesL_map, List.length_map, toNat_nat, iAt_getD, bAt_getD, sAt_getD, lAt_getD]; done) | (simp only [List.map_append, List.map_cons, List.map_nil, List.cons_append, List.nil_append, iRow, sRow, bRow, lRow, List.map_set]; rfl) | (simp only [bytesL_map, List.length_map, toNat_nat, iAt_getD, bAt_getD, sAt_getD, lAt_getD, List.map_append, List.map_cons, List.map_nil, List.cons_append, List.nil_append, iRow, sRow, bRow, lRow, List.map_set]; first | done | rfl)
  · have dc1 := c1
    try simp only [bne_eq_false_iff_eq, bne_iff_ne, beq_iff_eq, beq_eq_false_iff_ne, ne_eq, Bool.not_eq_true', Bool.not_eq_false'] at dc1
    have dc1 := c1
    try simp [impl_InRange.md] at dc1
    refine no_ret (by
        refine decide_eq_false ?_
        try simp (disch := omega) only [List.sum_cons, List.sum_nil, List.map_cons, List.map_nil, bytesI_length, bytesL_length, List.length_append, List.length_cons, List.length_nil, List.length_map, List.length_set, List.length_replicate, List.length_take, List.length_drop, Go.IntWalk.i64_in]
        first | omega | (simp; done) | (simp; omega)) ?_
    refine no_ret (by
        refine decide_eq_false ?_
        try simp (disch := omega) only [List.sum_cons, List.sum_nil, List.map_cons, List.map_nil, bytesI_length, bytesL_length, List.length_append, List.length_cons, List.length_nil, List.length_map, List.length_set, List.length_replicate, List.length_take, List.length_drop, Go.IntWalk.i64_in]
        first | omega | (simp; done) | (simp; omega)) ?_
    all_goals first | rfl | (simp only [bytesL_map, List.length_map, toNat_nat, iAt_getD, bAt_getD, sAt_getD, lAt_getD]; done) | (simp only [List.map_append, List.map_cons, List.map_nil, List.cons_append, List.nil_append, iRow, sRow, bRow, lRow, List.map_set]; rfl) | (simp only [bytesL_map, List.length_map, toNat_nat, iAt_getD, bAt_getD, sAt_getD, lAt_getD, List.map_append, List.map_cons, List.map_nil, List.cons_append, List.nil_append, iRow, sRow, bRow, lRow, List.map_set]; first | done | rfl)
noncomputable def sem (ls : List L) : Option (List L) := (R (ls.headD .hole).toInt ((dropT 1 ls).headD .hole).toInt).map RT.enc
theorem ok (ls q : List L) (hl : LOKs Ev.cells pats ls) (h : sem ls = some q) : ∃ n, runF E live Tryz.f242 res n (initS pats ls) = some q := by
  obtain ⟨v, hv, hq⟩ := map_some h
  obtain ⟨⟨a0, a1⟩, hg, e, hm⟩ := ofM_some hv
  simp only [rf, Prod.mk.injEq] at e
  obtain ⟨e0, e1⟩ := e
  have hn := okF a0 a1 hg
  refine ⟨0, (run_eq 0 ls).trans ?_⟩
  rw [← e0, ← e1]
  rw [hn, ← hq, hm]; rfl
noncomputable def con : Con := ⟨pats, res, sem⟩
theorem chk : fnB Tryz.f242 con 15 = true := by kernel_rfl
theorem valid_ : Valid Tryz.prog Ev 242 con := valid mix tab_ok (.cons impl_InRange.valid_ .nil) Tryz.func242 chk live ok
theorem br (a0 : Int) (a1 : Int) : md a0 a1 = spec_Mod.md a0 a1 := by
  unfold md spec_Mod.md
  first
  | (simp only [impl_InRange.br]; done)
  | (simp only [impl_InRange.br]; rfl)
  | rfl
end impl_Mod
/-! impl.Hash -/
namespace impl_Hash
inductive Pt where
  | p0 (a : Int) (b : List (List L)) (c : Int) (d : Int)
def pid : Pt → Nat
  | .p0 .. => 3
def pvs : Pt → List V
  | .p0 a b c d => [.int .i64 a, .sl none 3 b, .int .i64 c, .int .i64 d]
def phs : Pt → List Root
  | .p0 a b c d => []
noncomputable def step (J : Pt → Ans) : Pt → Ans
  | .p0 a b c d => (bif (decide (d < c)) then (bif (decide ((0 : Int) ≤ d)) then (bif (decide (d < (b.length : Int))) then (call (impl_Mod.R (iAt b (Int.toNat d)) 2147483647) fun v1 => J (.p0 (Int.tmod (IntKind.i64.wrap ((IntKind.i64.wrap ((IntKind.i64.wrap (a * 1000003)) + v1)) + 13)) 2147483647) b c (IntKind.i64.wrap (d + 1)))) else none) else none) else ret (a : Int))
noncomputable def start (J : Pt → Ans) (x0 : List (List L)) : Ans := J (.p0 11 x0 (x0.length : Int) 0)
def live : Nat → Live := fun i => match i with | 3 => [(3, none), (6, none), (7, none), (8, none)] | _ => []
def pats : List Pat := [.rd (.sl 3)]
def res : RP := .one (.rd (.int .i64))
noncomputable def G : List (Nat × Con) := [(242, impl_Mod.con)]
noncomputable abbrev E : Env := ⟨assoc Tab, conG G, 21⟩
set_option maxRecDepth 100000
theorem step_eq (I : Heads) (p : Pt) : enterC E live I (pid p) (bodyOf Tryz.f201) (stOf (live (pid p)) (pvs p) (phs p)) (doneK E Tryz.f201 res) = step (fun q => I (pid q) (pvs q) (phs q)) p := by
  cases p <;> kernel_rfl
theorem start_eq (I : Heads) (ls : List L) : runC E live I (bodyOf Tryz.f201) (initS pats ls) (doneK E Tryz.f201 res) = start (fun q => I (pid q) (pvs q) (phs q)) (ls.headD .hole).toSl := by kernel_rfl
theorem run_eq (n : Nat) (ls : List L) : runF E live Tryz.f201 res n (initS pats ls) = start (iter step n) (ls.headD .hole).toSl := runF_iter (id := pid) (vs := pvs) (hs := phs) (step := step) (start := fun J => start J (ls.headD .hole).toSl) step_eq (fun I => start_eq I ls) n
noncomputable def md (a0 : List Int) : Int := (eachM (S := Int) (β := Int) (fun (y1 : Int) (s3 : Int) => (.inl (Int.tmod (IntKind.i64.wrap ((IntKind.i64.wrap ((IntKind.i64.wrap (s3 * 1000003)) + (impl_Mod.md y1 2147483647))) + 13)) 2147483647))) (fun (s3 : Int) => (s3 : Int)) a0 11)
def gd (a0 : List Int) : Prop := (SmL (2 ^ 43) (fun y : Int => True) a0)
def rf (a : List Int) : List (List L) := (a.map iRow)
theorem rf_inj (a b : List Int) (h : rf a = rf b) : a = b := by
  exact (map_inj iRow_inj h)
noncomputable def R (x0 : List (List L)) : Option (Int) := ofM rf (fun a => gd a) (fun a => (md a)) x0
theorem R_eq {a0 : List Int} (h : gd a0) : R (a0.map iRow) = some (md a0) := ofM_eq (r := rf) (a := a0) rf_inj h
theorem okF (a0 : List Int) (hg : gd a0) : ∃ n, start (iter step n) (a0.map iRow) = ret ((md a0) : Int) := by
  unfold gd at hg
  have H0 := hg
  unfold start md
  try simp only [bytesL_map, List.length_map, toNat_nat, iAt_getD, bAt_getD, sAt_getD, lAt_getD]
  have Bh2 : a0.length ≤ maxLen := (by
      have := (H0).1
      try simp only [maxLen] at *
      omega)
  refine ex_eq (out := (fun b : Int => ret (b : Int))) (show (loopM (S := Int) (β := Int) (fun (i1 : Nat) (s3 : Int) => (.inl (Int.tmod (IntKind.i64.wrap ((IntKind.i64.wrap ((IntKind.i64.wrap (s3 * 1000003)) + (impl_Mod.md (a0.getD i1 0) 2147483647))) + 13)) 2147483647))) (fun (s3 : Int) => (s3 : Int)) a0.length 0 11) = (eachM (S := Int) (β := Int) (fun (y1 : Int) (s3 : Int) => (.inl (Int.tmod (IntKind.i64.wrap ((IntKind.i64.wrap ((IntKind.i64.wrap (s3 * 1000003)) + (impl_Mod.md y1 2147483647))) + 13)) 2147483647))) (fun (s3 : Int) => (s3 : Int)) a0 11) from loopM_eachM (S := Int) (β := Int) (f := fun (y1 : Int) (s3 : Int) => (.inl (Int.tmod (IntKind.i64.wrap ((IntKind.i64.wrap ((IntKind.i64.wrap (s3 * 1000003)) + (impl_Mod.md y1 2147483647))) + 13)) 2147483647))) (t := fun (s3 : Int) => (s3 : Int)) (xs := a0) (z := 0)) ?_
  refine ex_pt (p := Pt.p0 11 (a0.map iRow) (a0.length : Int) 0) (by first | rfl | (simp only [bytesL_map, List.length_map, toNat_nat, iAt_getD, bAt_getD, sAt_getD, lAt_getD, List.map_append, List.map_cons, List.map_nil, List.cons_append, List.nil_append, iRow, sRow, bRow, lRow, List.map_set]; done) | (simp only [List.map_append, List.map_cons, List.map_nil, List.cons_append, List.nil_append, iRow, sRow, bRow, lRow, List.map_set]; rfl)) ?_
  refine loopM_ok (pt := fun (i1 : Nat) (s3 : Int) => Pt.p0 s3 (a0.map iRow) (a0.length : Int) (i1 : Int)) (s := (11 : Int)) (out := (fun b : Int => ret (b : Int))) (fun _ _ => True) (fun J i1 s3 h2 hih2 => ?_) (fun s3 hih2 => ?_) trivial
  · simp only [step, bytesL_map, List.length_map, toNat_nat, iAt_getD, bAt_getD, sAt_getD, lAt_getD]
    have bb_ := Bh2
    simp only [maxLen] at bb_
    have := (H0).1
    refine Rnd.yes (by apply decide_eq_true; omega) ?_
    refine Rnd.yes (by
        refine decide_eq_true ?_
        try simp (disch := omega) only [List.sum_cons, List.sum_nil, List.map_cons, List.map_nil, bytesI_length, bytesL_length, List.length_append, List.length_cons, List.length_nil, List.length_map, List.length_set, List.length_replicate, List.length_take, List.length_drop, Go.IntWalk.i64_in]
        first | omega | (simp; done) | (simp; omega)) ?_
    refine Rnd.yes (by
        have := (H0).1
        refine decide_eq_true ?_
        try simp (disch := omega) only [List.sum_cons, List.sum_nil, List.map_cons, List.map_nil, bytesI_length, bytesL_length, List.length_append, List.length_cons, List.length_nil, List.length_map, List.length_set, List.length_replicate, List.length_take, List.length_drop, Go.IntWalk.i64_in]
        first | omega | (simp; done) | (simp; omega)) ?_
    refine Rnd.call_to (impl_Mod.md (a0.getD i1 0) 2147483647) ?_ ?_
    · have R_ := impl_Mod.R_eq (a0 := (a0.getD i1 0)) (a1 := 2147483647) trivial
      first | exact R_ | (simp only [List.map_append, List.map_cons, List.map_nil, List.cons_append, List.nil_append, iRow, sRow, bRow, lRow, List.map_set, bytesL_map, List.length_map, toNat_nat, iAt_getD, bAt_getD, sAt_getD, lAt_getD] at R_ ⊢; first | exact R_ | (rw [← R_]; rfl))
    try simp only [bytesL_map, List.length_map, toNat_nat, iAt_getD, bAt_getD, sAt_getD, lAt_getD]
    refine Rnd.inl trivial ?_
    rw [wrap_succ h2 Bh2]
    all_goals first | rfl | (simp only [bytesL_map, List.length_map, toNat_nat, iAt_getD, bAt_getD, sAt_getD, lAt_getD]; done) | (simp only [List.map_append, List.map_cons, List.map_nil, List.cons_append, List.nil_append, iRow, sRow, bRow, lRow, List.map_set]; rfl) | (simp only [bytesL_map, List.length_map, toNat_nat, iAt_getD, bAt_getD, sAt_getD, lAt_getD, List.map_append, List.map_cons, List.map_nil, List.cons_append, List.nil_append, iRow, sRow, bRow, lRow, List.map_set]; first | done | rfl)
  · simp only [step, bytesL_map, List.length_map, toNat_nat, iAt_getD, bAt_getD, sAt_getD, lAt_getD]
    have := (H0).1
    refine ex_no (by apply decide_eq_false; omega) ?_
    refine ⟨0, ?_⟩
    all_goals first | rfl | (simp only [bytesL_map, List.length_map, toNat_nat, iAt_getD, bAt_getD, sAt_getD, lAt_getD]; done) | (simp only [List.map_append, List.map_cons, List.map_nil, List.cons_append, List.nil_append, iRow, sRow, bRow, lRow, List.map_set]; rfl) | (simp only [bytesL_map, List.length_map, toNat_nat, iAt_getD, bAt_getD, sAt_getD, lAt_getD, List.map_append, List.map_cons, List.map_nil, List.cons_append, List.nil_append, iRow, sRow, bRow, lRow, List.map_set]; first | done | rfl)
noncomputable def sem (ls : List L) : Option (List L) := (R (ls.headD .hole).toSl).map RT.enc
theorem ok (ls q : List L) (hl : LOKs Ev.cells pats ls) (h : sem ls = some q) : ∃ n, runF E live Tryz.f201 res n (initS pats ls) = some q := by
  obtain ⟨v, hv, hq⟩ := map_some h
  obtain ⟨a0, hg, e, hm⟩ := ofM_some hv
  have e0 : (a0.map iRow) = _ := e
  obtain ⟨n, hn⟩ := okF a0 hg
  refine ⟨n, (run_eq n ls).trans ?_⟩
  rw [← e0]
  rw [hn, ← hq, hm]; rfl
noncomputable def con : Con := ⟨pats, res, sem⟩
theorem chk : fnB Tryz.f201 con 21 = true := by kernel_rfl
theorem valid_ : Valid Tryz.prog Ev 201 con := valid mix tab_ok (.cons impl_Mod.valid_ .nil) Tryz.func201 chk live ok
theorem br (a0 : List Int) : md a0 = spec_Hash.md a0 := by
  unfold md spec_Hash.md
  first
  | (simp only [impl_Mod.br]; done)
  | (simp only [impl_Mod.br]; rfl)
  | rfl
end impl_Hash
/-! impl.ZoneOf -/
namespace impl_ZoneOf
noncomputable def F (x0 : RKeys) (x1 : Int) : Ans := (call (impl_KeysInts.R x0) fun v1 => (bif (lim (((2 : Int) + (v1.length : Int)) * 8)) then (call (impl_Hash.R ([[L.int 239], [L.int x1]] ++ v1)) fun v2 => ret (v2 : Int)) else none))
def live : Nat → Live := fun _ => []
def pats : List Pat := [.agg [.sl 3, .int .i64], .rd (.int .i64)]
def res : RP := .one (.rd (.int .i64))
noncomputable def G : List (Nat × Con) := [(193, impl_KeysInts.con), (201, impl_Hash.con)]
noncomputable abbrev E : Env := ⟨assoc Tab, conG G, 11⟩
set_option maxRecDepth 100000
theorem run_eq (n : Nat) (ls : List L) : runF E live Tryz.f143 res n (initS pats ls) = F (RKeys.dec ls) ((dropT 2 ls).headD .hole).toInt := by kernel_rfl
noncomputable def md (a0 : MKeys) (a1 : Int) : Int := ((impl_Hash.md ([239, a1] ++ (impl_KeysInts.md a0))) : Int)
def gd (a0 : MKeys) (a1 : Int) : Prop := (MKeys.Sm (2 ^ 21) a0)
def rf (a : MKeys × Int) : RKeys × Int := ((MKeys.r a.1), a.2)
theorem rf_inj (a b : MKeys × Int) (h : rf a = rf b) : a = b := by
  exact (Prod.ext (MKeys.r_inj (congrArg (fun x => x.1) h)) (congrArg (fun x => x.2) h))
noncomputable def R (x0 : RKeys) (x1 : Int) : Option (Int) := ofM rf (fun a => gd a.1 a.2) (fun a => (md a.1 a.2)) (x0, x1)
theorem R_eq {a0 : MKeys} {a1 : Int} (h : gd a0 a1) : R (MKeys.r a0) a1 = some (md a0 a1) := ofM_eq (r := rf) (a := (a0, a1)) rf_inj h
theorem okF (a0 : MKeys) (a1 : Int) (hg : gd a0 a1) : F (MKeys.r a0) a1 = ret ((md a0 a1) : Int) := by
  unfold gd at hg
  have H0 := hg
  unfold F md
  try simp only [bytesL_map, List.length_map, toNat_nat, iAt_getD, bAt_getD, sAt_getD, lAt_getD]
  refine call_to ((impl_KeysInts.md a0).map iRow) ?_ ?_
  · have R_ := impl_KeysInts.R_eq (a0 := a0) H0
    first | exact R_ | (simp only [List.map_append, List.map_cons, List.map_nil, List.cons_append, List.nil_append, iRow, sRow, bRow, lRow, List.map_set, bytesL_map, List.length_map, toNat_nat, iAt_getD, bAt_getD, sAt_getD, lAt_getD] at R_ ⊢; first | exact R_ | (rw [← R_]; rfl))
  try simp only [bytesL_map, List.length_map, toNat_nat, iAt_getD, bAt_getD, sAt_getD, lAt_getD]
  refine yes_ret (by
      have := impl_KeysInts.len a0
      have := (H0).1
      refine lim_t ?_
      try simp (disch := omega) only [List.sum_cons, List.sum_nil, List.map_cons, List.map_nil, bytesI_length, bytesL_length, List.length_append, List.length_cons, List.length_nil, List.length_map, List.length_set, List.length_replicate, List.length_take, List.length_drop, Go.IntWalk.i64_in]
      first | omega | (simp; done) | (simp; omega)) ?_
  refine call_to (impl_Hash.md ([239, a1] ++ (impl_KeysInts.md a0))) ?_ ?_
  · have R_ := impl_Hash.R_eq (a0 := ([239, a1] ++ (impl_KeysInts.md a0))) ⟨(by
        have := impl_KeysInts.len a0
        have := (H0).1
        try simp (disch := omega) only [List.sum_cons, List.sum_nil, List.map_cons, List.map_nil, bytesI_length, bytesL_length, List.length_append, List.length_cons, List.length_nil, List.length_map, List.length_set, List.length_replicate, List.length_take, List.length_drop, Go.IntWalk.i64_in]
        first | omega | (simp; done) | (simp; omega)), fun _ _ => trivial⟩
    first | exact R_ | (simp only [List.map_append, List.map_cons, List.map_nil, List.cons_append, List.nil_append, iRow, sRow, bRow, lRow, List.map_set, bytesL_map, List.length_map, toNat_nat, iAt_getD, bAt_getD, sAt_getD, lAt_getD] at R_ ⊢; first | exact R_ | (rw [← R_]; rfl))
  try simp only [bytesL_map, List.length_map, toNat_nat, iAt_getD, bAt_getD, sAt_getD, lAt_getD]
  all_goals first | rfl | (simp only [bytesL_map, List.length_map, toNat_nat, iAt_getD, bAt_getD, sAt_getD, lAt_getD]; done) | (simp only [List.map_append, List.map_cons, List.map_nil, List.cons_append, List.nil_append, iRow, sRow, bRow, lRow, List.map_set]; rfl) | (simp only [bytesL_map, List.length_map, toNat_nat, iAt_getD, bAt_getD, sAt_getD, lAt_getD, List.map_append, List.map_cons, List.map_nil, List.cons_append, List.nil_append, iRow, sRow, bRow, lRow, List.map_set]; first | done | rfl)
noncomputable def sem (ls : List L) : Option (List L) := (R (RKeys.dec ls) ((dropT 2 ls).headD .hole).toInt).map RT.enc
theorem ok (ls q : List L) (hl : LOKs Ev.cells pats ls) (h : sem ls = some q) : ∃ n, runF E live Tryz.f143 res n (initS pats ls) = some q := by
  obtain ⟨v, hv, hq⟩ := map_some h
  obtain ⟨⟨a0, a1⟩, hg, e, hm⟩ := ofM_some hv
  simp only [rf, Prod.mk.injEq] at e
  obtain ⟨e0, e1⟩ := e
  have hn := okF a0 a1 hg
  refine ⟨0, (run_eq 0 ls).trans ?_⟩
  rw [← e0, ← e1]
  rw [hn, ← hq, hm]; rfl
noncomputable def con : Con := ⟨pats, res, sem⟩
theorem chk : fnB Tryz.f143 con 11 = true := by kernel_rfl
theorem valid_ : Valid Tryz.prog Ev 143 con := valid mix tab_ok (.cons impl_KeysInts.valid_ (.cons impl_Hash.valid_ .nil)) Tryz.func143 chk live ok
theorem br (a0 : MKeys) (a1 : Int) : md a0 a1 = spec_ZoneOf.md a0 a1 := by
  unfold md spec_ZoneOf.md
  first
  | (simp only [impl_KeysInts.br, impl_Hash.br]; done)
  | (simp only [impl_KeysInts.br, impl_Hash.br]; rfl)
  | rfl
end impl_ZoneOf
/-! impl.bit -/
namespace impl_bit
noncomputable def F (x0 : Bool) : Ans := (bif x0 then ret (1 : Int) else ret (0 : Int))
def live : Nat → Live := fun _ => []
def pats : List Pat := [.rd (.bool)]
def res : RP := .one (.rd (.int .i64))
noncomputable def G : List (Nat × Con) := []
noncomputable abbrev E : Env := ⟨assoc Tab, conG G, 4⟩
set_option maxRecDepth 100000
theorem run_eq (n : Nat) (ls : List L) : runF E live Tryz.f194 res n (initS pats ls) = F (ls.headD .hole).toBool := by kernel_rfl
noncomputable def md (a0 : Bool) : Int := (bif a0 then (1 : Int) else (0 : Int))
def gd (a0 : Bool) : Prop := True
def rf (a : Bool) : Bool := a
theorem rf_inj (a b : Bool) (h : rf a = rf b) : a = b := by
  exact h
noncomputable def R (x0 : Bool) : Option (Int) := ofM rf (fun a => gd a) (fun a => (md a)) x0
theorem R_eq {a0 : Bool} (h : gd a0) : R a0 = some (md a0) := ofM_eq (r := rf) (a := a0) rf_inj h
theorem okF (a0 : Bool) (hg : gd a0) : F a0 = ret ((md a0) : Int) := by
  unfold F md
  try simp only [bytesL_map, List.length_map, toNat_nat, iAt_getD, bAt_getD, sAt_getD, lAt_getD]
  refine bif_out (fun b : Int => ret (b : Int)) (fun c1 => ?_) (fun c1 => ?_)
  · all_goals first | rfl | (simp only [bytesL_map, List.length_map, toNat_nat, iAt_getD, bAt_getD, sAt_getD, lAt_getD]; done) | (simp only [List.map_append, List.map_cons, List.map_nil, List.cons_append, List.nil_append, iRow, sRow, bRow, lRow, List.map_set]; rfl) | (simp only [bytesL_map, List.length_map, toNat_nat, iAt_getD, bAt_getD, sAt_getD, lAt_getD, List.map_append, List.map_cons, List.map_nil, List.cons_append, List.nil_append, iRow, sRow, bRow, lRow, List.map_set]; first | done | rfl)
  · all_goals first | rfl | (simp only [bytesL_map, List.length_map, toNat_nat, iAt_getD, bAt_getD, sAt_getD, lAt_getD]; done) | (simp only [List.map_append, List.map_cons, List.map_nil, List.cons_append, List.nil_append, iRow, sRow, bRow, lRow, List.map_set]; rfl) | (simp only [bytesL_map, List.length_map, toNat_nat, iAt_getD, bAt_getD, sAt_getD, lAt_getD, List.map_append, List.map_cons, List.map_nil, List.cons_append, List.nil_append, iRow, sRow, bRow, lRow, List.map_set]; first | done | rfl)
noncomputable def sem (ls : List L) : Option (List L) := (R (ls.headD .hole).toBool).map RT.enc
theorem ok (ls q : List L) (hl : LOKs Ev.cells pats ls) (h : sem ls = some q) : ∃ n, runF E live Tryz.f194 res n (initS pats ls) = some q := by
  obtain ⟨v, hv, hq⟩ := map_some h
  obtain ⟨a0, hg, e, hm⟩ := ofM_some hv
  have e0 : a0 = _ := e
  have hn := okF a0 hg
  refine ⟨0, (run_eq 0 ls).trans ?_⟩
  rw [← e0]
  rw [hn, ← hq, hm]; rfl
noncomputable def con : Con := ⟨pats, res, sem⟩
theorem chk : fnB Tryz.f194 con 4 = true := by kernel_rfl
theorem valid_ : Valid Tryz.prog Ev 194 con := valid mix tab_ok .nil Tryz.func194 chk live ok
end impl_bit
namespace slices_Grow_Sint_int
set_option maxHeartbeats 1000000 in
set_option maxRecDepth 100000 in
open Go.RowKit in
theorem calls0 (b : Option Addr) (w : World) : Calls Tryz.prog 239 #[.slice b 0 0, .int .i64 0] w fun e w' => e = .returned (.slice b 0 0) ∧ w' = w := by
  go_enter Tryz.func239, Tryz.ntmps239
  go_wp2
  go_ret
  exact ⟨rfl, rfl⟩
theorem size3 : Tryz.t3.size = 1 := by kernel_rfl
theorem bytes3 : Tryz.t3.bytes = 8 := by kernel_rfl
set_option maxHeartbeats 1000000 in
set_option maxRecDepth 100000 in
open Go.RowKit in
theorem calls1 (b : Option Addr) (n : Nat) (w : World) (h0 : 0 < n) (h1 : n * 8 ≤ 140737488355328) : Calls Tryz.prog 239 #[.slice b 0 0, .int .i64 n] w fun e w' => e = .returned (.slice (some ⟨w.heap.size, 0, none⟩) 0 (grownCap w n 0 3)) ∧ w' = (w.drew.alloc (.cells (Builtin.zeroCells #[.int .i64 0] n ++ Builtin.zeroCells #[.int .i64 0] (grownCap w n 0 3 - n)) 3)) := by
  have hp : (0 : Int) < n := by omega
  have hnn : ¬ ((n : Int) < 0) := by omega
  have hold : (Builtin.firstCells Tryz.t3.size 0 (.slice b 0 0)).run Tryz.prog w.drew = .ok ([] : List Value).toArray w.drew := by
    cases b with
    | none => exact run_firstCells_none _ _ _ _ _
    | some b => exact run_firstCells_some _ _ _ _ _ _ [] (by simp) (fun j v hj => by simp at hj)
  have H := fun ty => Lib.run_append_grow_zeros (P := Tryz.prog) w 45 3 ty 3 Tryz.t3 (.int .i64 0) .i64 .i64 (by kernel_rfl) (by kernel_rfl) (by kernel_rfl) (by kernel_rfl) b 0 0 [] hold n h0 (by rw [size3]; omega) (by omega) (by omega) (by rw [bytes3]; omega) (by
    rw [Nat.zero_add, nextslicecap_zero h0, bytes3]; omega)
  simp only [Nat.zero_add, Array.empty_append] at H
  have H2 := Lib.hid H
  clear H hold
  go_enter Tryz.func239, Tryz.ntmps239
  go_wp2_with (at_builtin; refine Lib.wpList_append_run _ rfl _ _ _ _ rfl _ _ rfl rfl _ _ (H2.out _) ?_)
  go_ret
  exact ⟨rfl, rfl⟩
noncomputable def md (_ : Int) : List Int := []
noncomputable def R (x0 : Int) : Option (List (List L)) := bif decide (0 ≤ x0) && decide (x0 * 8 ≤ 140737488355328) then some [] else none
theorem R_eq {a0 : Int} (h : 0 ≤ a0 ∧ a0 * 8 ≤ 140737488355328) : R a0 = some [] := by simp [R, h.1, h.2]
noncomputable def sem : List L → Option (List L)
  | [y0] => (R y0.toInt).map RT.enc
  | _ => none
noncomputable def con : Con := ⟨[.nil, .rd (.int .i64)], .one (.fr 3), sem⟩
theorem cells3 : Ev.cells 3 = [.int .i64] := by kernel_rfl
theorem valid_ : Valid Tryz.prog Ev 239 con := by
  refine valid_row ⟨Tryz.f239, Tryz.func239, by kernel_rfl, by kernel_rfl⟩ rfl fun ls r w vs Z hs hf => ?_
  simp only [con] at hs
  unfold sem at hs
  split at hs
  · rename_i y
    obtain ⟨v, hv, hq⟩ := map_some hs
    unfold R at hv
    cases hc : (decide (0 ≤ y.toInt) && decide (y.toInt * 8 ≤ 140737488355328)) <;> simp only [hc, cond_true, cond_false] at hv
    · cases hv
    injection hv with hv
    subst hv
    subst hq
    simp only [Bool.and_eq_true, decide_eq_true_eq] at hc
    cases hf with
    | cons h1 ht =>
      cases ht with
      | cons h2 ht =>
        cases ht
        obtain ⟨b, rfl⟩ := (show V0 Ev.cells w (A0 Z w) .nil _ from h1)
        have e2 : _ = Value.int .i64 y.toInt := h2
        subst e2
        obtain ⟨n, hn⟩ : ∃ n : Nat, y.toInt = n := ⟨y.toInt.toNat, by omega⟩
        rw [hn] at hc ⊢
        rcases Nat.eq_zero_or_pos n with h0 | h0
        · subst h0
          exact (calls0 b w).mono fun e w' ⟨h3, h4⟩ => ⟨_, fun _ => False, h3, by rw [h4]; exact Fr.refl _ _, fun b hb => hb.elim, .nil _ _ _ _ rfl⟩
        · refine (calls1 b n w h0 (by omega)).mono fun e w' ⟨h3, h4⟩ => ⟨_, fun b => b = w.heap.size, h3, ?_, fun b hb => ?_, ?_⟩
          · rw [h4]; exact ((Fr.refl w _).drew).alloc _
          · subst hb; rw [h4]; simp
          · have hge := grownCap_ge w n 0 3
            have hle : grownCap w n 0 3 ≤ maxLen := grownCap_le_maxLen w n 0 3 (by simp only [maxLen]; omega)
            rw [h4]
            refine .sl _ 3 0 _ w.heap.size 3 _ _ (fun _ _ => Go.undef) (fun _ _ _ => False) rfl (Nat.zero_le _) hle (heap_alloc_new w.drew _) ?_ rfl (fun _ _ _ h => h.elim) (fun _ _ _ _ _ h => h.elim) (fun i j k hi => by omega) (fun i j k hi => by omega)
            rw [cells3]
            simp only [Array.size_append, size_zeroCells, List.length_singleton]
            simp
            omega
  · cases hs
end slices_Grow_Sint_int
/-! slices.Concat[[]int,int] -/
namespace slices_Concat_Sint_int
inductive Pt where
  | p0 (a : List (List L)) (b : Int) (c : List (List L)) (d : Int) (e : Int)
  | p1 (a : List (List L)) (b : Int) (c : Int) (d : List (List L))
def pid : Pt → Nat
  | .p0 .. => 3
  | .p1 .. => 11
def pvs : Pt → List V
  | .p0 a b c d e => [.sl none 45 a, .int .i64 b, .sl none 45 c, .int .i64 d, .int .i64 e]
  | .p1 a b c d => [.own 0, .sl none 45 a, .int .i64 b, .int .i64 c]
def phs : Pt → List Root
  | .p0 a b c d e => []
  | .p1 a b c d => [.row 3 d]
noncomputable def step (J : Pt → Ans) : Pt → Ans
  | .p0 a b c d e => (bif (decide (e < d)) then (bif (decide ((0 : Int) ≤ e)) then (bif (decide (e < (c.length : Int))) then (bif (decide ((IntKind.i64.wrap (b + ((lAt c (Int.toNat e)).length : Int))) < 0)) then none else J (.p0 a (IntKind.i64.wrap (b + ((lAt c (Int.toNat e)).length : Int))) c d (IntKind.i64.wrap (e + 1)))) else none) else none) else (call (slices_Grow_Sint_int.R b) fun v1 => J (.p1 a (a.length : Int) 0 v1)))
  | .p1 a b c d => (bif (decide (c < b)) then (bif (decide ((0 : Int) ≤ c)) then (bif (decide (c < (a.length : Int))) then (bif (lim (((d.length : Int) + ((lAt a (Int.toNat c)).length : Int)) * 8)) then J (.p1 a b (IntKind.i64.wrap (c + 1)) (d ++ (lAt a (Int.toNat c)))) else none) else none) else none) else ret (d : List (List L)))
noncomputable def start (J : Pt → Ans) (x0 : List (List L)) : Ans := J (.p0 x0 0 x0 (x0.length : Int) 0)
def live : Nat → Live := fun i => match i with | 3 => [(0, none), (3, none), (9, none), (10, none), (11, none)] | 11 => [(6, none), (25, none), (26, none), (27, none)] | _ => []
def pats : List Pat := [.rd (.sl 45)]
def res : RP := .one (.fr 3)
noncomputable def G : List (Nat × Con) := [(239, slices_Grow_Sint_int.con)]
noncomputable abbrev E : Env := ⟨assoc Tab, conG G, 36⟩
set_option maxRecDepth 100000
theorem step_eq (I : Heads) (p : Pt) : enterC E live I (pid p) (bodyOf Tryz.f192) (stOf (live (pid p)) (pvs p) (phs p)) (doneK E Tryz.f192 res) = step (fun q => I (pid q) (pvs q) (phs q)) p := by
  cases p <;> kernel_rfl
theorem start_eq (I : Heads) (ls : List L) : runC E live I (bodyOf Tryz.f192) (initS pats ls) (doneK E Tryz.f192 res) = start (fun q => I (pid q) (pvs q) (phs q)) (ls.headD .hole).toSl := by kernel_rfl
theorem run_eq (n : Nat) (ls : List L) : runF E live Tryz.f192 res n (initS pats ls) = start (iter step n) (ls.headD .hole).toSl := runF_iter (id := pid) (vs := pvs) (hs := phs) (step := step) (start := fun J => start J (ls.headD .hole).toSl) step_eq (fun I => start_eq I ls) n
noncomputable def md (a0 : List (List Int)) : List Int := a0.flatten
def gd (a0 : List (List Int)) : Prop := a0.length ≤ 8 ∧ ∀ x ∈ a0, x.length ≤ 2 ^ 40
def rf (a : List (List Int)) : List (List L) := (a.map (lRow iRow))
theorem rf_inj (a b : List (List Int)) (h : rf a = rf b) : a = b := by
  exact (map_inj (lRow_inj iRow_inj) h)
noncomputable def R (x0 : List (List L)) : Option (List (List L)) := ofM rf (fun a => gd a) (fun a => ((md a).map iRow)) x0
theorem R_eq {a0 : List (List Int)} (h : gd a0) : R (a0.map (lRow iRow)) = some ((md a0).map iRow) := ofM_eq (r := rf) (a := a0) rf_inj h
theorem okF (a0 : List (List Int)) (hg : gd a0) : ∃ n, start (iter step n) (a0.map (lRow iRow)) = ret (((md a0).map iRow) : List (List L)) := by
  obtain ⟨hl, hx⟩ := hg
  have hs : ∀ i, i ≤ a0.length → ((a0.take i).map List.length).sum ≤ i * 2 ^ 40 := by
    intro i
    induction i with
    | zero => intro _; simp
    | succ i ih =>
      intro hi
      rw [List.take_succ_eq_append_getElem (by omega)]
      have h1 := hx a0[i] (List.getElem_mem _)
      have h2 := ih (by omega)
      simp only [List.map_append, List.map_cons, List.map_nil, List.sum_append, List.sum_cons, List.sum_nil]
      omega
  have hstep : ∀ i (h : i < a0.length), ((a0.take (i + 1)).map List.length).sum = ((a0.take i).map List.length).sum + a0[i].length := by
    intro i hi
    rw [List.take_succ_eq_append_getElem (by omega)]
    simp only [List.map_append, List.map_cons, List.map_nil, List.sum_append, List.sum_cons, List.sum_nil]
    omega
  have hf : ∀ i, (a0.take i).flatten.length = ((a0.take i).map List.length).sum := fun i => List.length_flatten
  have second : ∀ k i, i + k = a0.length → ∃ n, iter step n (Pt.p1 (a0.map (lRow iRow)) (a0.length : Int) (i : Int) ((a0.take i).flatten.map iRow)) = ret (a0.flatten.map iRow : List (List L)) := by
    intro k
    induction k with
    | zero =>
      intro i hi
      obtain rfl : i = a0.length := by omega
      refine ⟨1, ?_⟩
      show step (iter step 0) (Pt.p1 _ _ _ _) = _
      simp only [step]
      refine no_ret (by simp) ?_
      rw [List.take_length]
    | succ k ih =>
      intro i hi
      obtain ⟨n, hn⟩ := ih (i + 1) (by omega)
      refine ⟨n + 1, ?_⟩
      show step (iter step n) (Pt.p1 _ _ _ _) = _
      have hlt : i < a0.length := by omega
      have b1 := hs (i + 1) (by omega)
      have b2 := hstep i hlt
      simp only [step, List.length_map, toNat_nat, lAt_getD]
      refine yes_ret (by simp; omega) (yes_ret (by simp) (yes_ret (by simp; omega) (yes_ret (lim_t ?_) ?_)))
      · rw [getD_lt hlt, hf]; omega
      · rw [wrap_succ hlt (by simp only [maxLen]; omega), getD_lt hlt, ← List.map_append]
        have e : (a0.take i).flatten ++ a0[i] = (a0.take (i + 1)).flatten := by
          rw [List.take_succ_eq_append_getElem (by omega)]
          simp only [List.flatten_append, List.flatten_cons, List.flatten_nil, List.append_nil]
        rw [e]; exact hn
  have first : ∀ k i, i + k = a0.length → ∃ n, iter step n (Pt.p0 (a0.map (lRow iRow)) ((((a0.take i).map List.length).sum : Nat) : Int) (a0.map (lRow iRow)) (a0.length : Int) (i : Int)) = ret (a0.flatten.map iRow : List (List L)) := by
    intro k
    induction k with
    | zero =>
      intro i hi
      obtain rfl : i = a0.length := by omega
      obtain ⟨n, hn⟩ := second a0.length 0 (by omega)
      refine ⟨n + 1, ?_⟩
      show step (iter step n) (Pt.p0 _ _ _ _ _) = _
      have b1 := hs a0.length (by omega)
      simp only [step]
      refine no_ret (by simp) (call_to [] (slices_Grow_Sint_int.R_eq ⟨by omega, by omega⟩) ?_)
      simpa using hn
    | succ k ih =>
      intro i hi
      obtain ⟨n, hn⟩ := ih (i + 1) (by omega)
      refine ⟨n + 1, ?_⟩
      show step (iter step n) (Pt.p0 _ _ _ _ _) = _
      have hlt : i < a0.length := by omega
      have b1 := hs (i + 1) (by omega)
      have b2 := hstep i hlt
      simp only [step, List.length_map, toNat_nat, lAt_getD, getD_lt hlt]
      have e : IntKind.i64.wrap (((((a0.take i).map List.length).sum : Nat) : Int) + (a0[i].length : Int)) = ((((a0.take (i + 1)).map List.length).sum : Nat) : Int) := by
        rw [Go.IntWalk.i64_in _ (by omega)]; omega
      rw [e]
      refine yes_ret (by simp; omega) (yes_ret (by simp) (yes_ret (by simp; omega) (no_ret (by simp) ?_)))
      rw [wrap_succ hlt (by simp only [maxLen]; omega)]
      exact hn
  unfold md
  obtain ⟨n, hn⟩ := first a0.length 0 (by omega)
  refine ⟨n, ?_⟩
  unfold start
  simpa using hn
noncomputable def sem (ls : List L) : Option (List L) := (R (ls.headD .hole).toSl).map RT.enc
theorem ok (ls q : List L) (hl : LOKs Ev.cells pats ls) (h : sem ls = some q) : ∃ n, runF E live Tryz.f192 res n (initS pats ls) = some q := by
  obtain ⟨v, hv, hq⟩ := map_some h
  obtain ⟨a0, hg, e, hm⟩ := ofM_some hv
  have e0 : (a0.map (lRow iRow)) = _ := e
  obtain ⟨n, hn⟩ := okF a0 hg
  refine ⟨n, (run_eq n ls).trans ?_⟩
  rw [← e0]
  rw [hn, ← hq, hm]; rfl
noncomputable def con : Con := ⟨pats, res, sem⟩
theorem chk : fnB Tryz.f192 con 36 = true := by kernel_rfl
theorem valid_ : Valid Tryz.prog Ev 192 con := valid mix tab_ok (.cons slices_Grow_Sint_int.valid_ .nil) Tryz.func192 chk live ok
theorem len (a0 : List (List Int)) : (md a0).length = (a0.map List.length).sum := by simp [md]
end slices_Concat_Sint_int
/-! impl.HeadInts -/
namespace impl_HeadInts
noncomputable def F (x0 : RHead) : Ans := (call (impl_KeysInts.R x0.fKeys) fun v1 => (call (impl_KeysInts.R x0.fHeirs) fun v2 => (call (impl_KeysInts.R x0.fJudge) fun v3 => (call (impl_bit.R x0.fFrozen) fun v4 => (call (slices_Concat_Sint_int.R [[L.sl [[L.int x0.fZone], [L.int x0.fEpoch], [L.int x0.fKind], [L.int x0.fTime], [L.int x0.fUntil], [L.int x0.fCount], [L.int x0.fRoot], [L.int x0.fPrev]]], [L.sl v1], [L.sl v2], [L.sl [[L.int x0.fWait]]], [L.sl v3], [L.sl [[L.int v4]]]]) fun v5 => ret (v5 : List (List L)))))))
def live : Nat → Live := fun _ => []
def pats : List Pat := [.agg [.int .i64, .int .i64, .int .i64, .int .i64, .int .i64, .int .i64, .int .i64, .int .i64, .sl 3, .int .i64, .sl 3, .int .i64, .int .i64, .sl 3, .int .i64, .bool]]
def res : RP := .one (.fr 3)
noncomputable def G : List (Nat × Con) := [(193, impl_KeysInts.con), (194, impl_bit.con), (192, slices_Concat_Sint_int.con)]
noncomputable abbrev E : Env := ⟨assoc Tab, conG G, 38⟩
set_option maxRecDepth 100000
theorem run_eq (n : Nat) (ls : List L) : runF E live Tryz.f140 res n (initS pats ls) = F (RHead.dec ls) := by kernel_rfl
noncomputable def md (a0 : MHead) : List Int := (slices_Concat_Sint_int.md [[a0.fZone, a0.fEpoch, a0.fKind, a0.fTime, a0.fUntil, a0.fCount, a0.fRoot, a0.fPrev], (impl_KeysInts.md a0.fKeys), (impl_KeysInts.md a0.fHeirs), [a0.fWait], (impl_KeysInts.md a0.fJudge), [(impl_bit.md a0.fFrozen)]])
def gd (a0 : MHead) : Prop := (MHead.Sm (2 ^ 21) a0)
def rf (a : MHead) : RHead := (MHead.r a)
theorem rf_inj (a b : MHead) (h : rf a = rf b) : a = b := by
  exact (MHead.r_inj h)
noncomputable def R (x0 : RHead) : Option (List (List L)) := ofM rf (fun a => gd a) (fun a => ((md a).map iRow)) x0
theorem R_eq {a0 : MHead} (h : gd a0) : R (MHead.r a0) = some ((md a0).map iRow) := ofM_eq (r := rf) (a := a0) rf_inj h
theorem okF (a0 : MHead) (hg : gd a0) : F (MHead.r a0) = ret (((md a0).map iRow) : List (List L)) := by
  unfold gd at hg
  have H0 := hg
  unfold F md
  try simp only [bytesL_map, List.length_map, toNat_nat, iAt_getD, bAt_getD, sAt_getD, lAt_getD, MHead.r_fZone, MHead.r_fEpoch, MHead.r_fKind, MHead.r_fTime, MHead.r_fUntil, MHead.r_fCount, MHead.r_fRoot, MHead.r_fPrev, MHead.r_fKeys, MHead.r_fHeirs, MHead.r_fWait, MHead.r_fJudge, MHead.r_fFrozen]
  refine call_to ((impl_KeysInts.md a0.fKeys).map iRow) ?_ ?_
  · have R_ := impl_KeysInts.R_eq (a0 := a0.fKeys) H0.1
    first | exact R_ | (simp only [List.map_append, List.map_cons, List.map_nil, List.cons_append, List.nil_append, iRow, sRow, bRow, lRow, List.map_set, bytesL_map, List.length_map, toNat_nat, iAt_getD, bAt_getD, sAt_getD, lAt_getD, MHead.r_fZone, MHead.r_fEpoch, MHead.r_fKind, MHead.r_fTime, MHead.r_fUntil, MHead.r_fCount, MHead.r_fRoot, MHead.r_fPrev, MHead.r_fKeys, MHead.r_fHeirs, MHead.r_fWait, MHead.r_fJudge, MHead.r_fFrozen] at R_ ⊢; first | exact R_ | (rw [← R_]; rfl))
  try simp only [bytesL_map, List.length_map, toNat_nat, iAt_getD, bAt_getD, sAt_getD, lAt_getD, MHead.r_fZone, MHead.r_fEpoch, MHead.r_fKind, MHead.r_fTime, MHead.r_fUntil, MHead.r_fCount, MHead.r_fRoot, MHead.r_fPrev, MHead.r_fKeys, MHead.r_fHeirs, MHead.r_fWait, MHead.r_fJudge, MHead.r_fFrozen]
  refine call_to ((impl_KeysInts.md a0.fHeirs).map iRow) ?_ ?_
  · have R_ := impl_KeysInts.R_eq (a0 := a0.fHeirs) H0.2.1
    first | exact R_ | (simp only [List.map_append, List.map_cons, List.map_nil, List.cons_append, List.nil_append, iRow, sRow, bRow, lRow, List.map_set, bytesL_map, List.length_map, toNat_nat, iAt_getD, bAt_getD, sAt_getD, lAt_getD, MHead.r_fZone, MHead.r_fEpoch, MHead.r_fKind, MHead.r_fTime, MHead.r_fUntil, MHead.r_fCount, MHead.r_fRoot, MHead.r_fPrev, MHead.r_fKeys, MHead.r_fHeirs, MHead.r_fWait, MHead.r_fJudge, MHead.r_fFrozen] at R_ ⊢; first | exact R_ | (rw [← R_]; rfl))
  try simp only [bytesL_map, List.length_map, toNat_nat, iAt_getD, bAt_getD, sAt_getD, lAt_getD, MHead.r_fZone, MHead.r_fEpoch, MHead.r_fKind, MHead.r_fTime, MHead.r_fUntil, MHead.r_fCount, MHead.r_fRoot, MHead.r_fPrev, MHead.r_fKeys, MHead.r_fHeirs, MHead.r_fWait, MHead.r_fJudge, MHead.r_fFrozen]
  refine call_to ((impl_KeysInts.md a0.fJudge).map iRow) ?_ ?_
  · have R_ := impl_KeysInts.R_eq (a0 := a0.fJudge) H0.2.2
    first | exact R_ | (simp only [List.map_append, List.map_cons, List.map_nil, List.cons_append, List.nil_append, iRow, sRow, bRow, lRow, List.map_set, bytesL_map, List.length_map, toNat_nat, iAt_getD, bAt_getD, sAt_getD, lAt_getD, MHead.r_fZone, MHead.r_fEpoch, MHead.r_fKind, MHead.r_fTime, MHead.r_fUntil, MHead.r_fCount, MHead.r_fRoot, MHead.r_fPrev, MHead.r_fKeys, MHead.r_fHeirs, MHead.r_fWait, MHead.r_fJudge, MHead.r_fFrozen] at R_ ⊢; first | exact R_ | (rw [← R_]; rfl))
  try simp only [bytesL_map, List.length_map, toNat_nat, iAt_getD, bAt_getD, sAt_getD, lAt_getD, MHead.r_fZone, MHead.r_fEpoch, MHead.r_fKind, MHead.r_fTime, MHead.r_fUntil, MHead.r_fCount, MHead.r_fRoot, MHead.r_fPrev, MHead.r_fKeys, MHead.r_fHeirs, MHead.r_fWait, MHead.r_fJudge, MHead.r_fFrozen]
  refine call_to (impl_bit.md a0.fFrozen) ?_ ?_
  · have R_ := impl_bit.R_eq (a0 := a0.fFrozen) trivial
    first | exact R_ | (simp only [List.map_append, List.map_cons, List.map_nil, List.cons_append, List.nil_append, iRow, sRow, bRow, lRow, List.map_set, bytesL_map, List.length_map, toNat_nat, iAt_getD, bAt_getD, sAt_getD, lAt_getD, MHead.r_fZone, MHead.r_fEpoch, MHead.r_fKind, MHead.r_fTime, MHead.r_fUntil, MHead.r_fCount, MHead.r_fRoot, MHead.r_fPrev, MHead.r_fKeys, MHead.r_fHeirs, MHead.r_fWait, MHead.r_fJudge, MHead.r_fFrozen] at R_ ⊢; first | exact R_ | (rw [← R_]; rfl))
  try simp only [bytesL_map, List.length_map, toNat_nat, iAt_getD, bAt_getD, sAt_getD, lAt_getD, MHead.r_fZone, MHead.r_fEpoch, MHead.r_fKind, MHead.r_fTime, MHead.r_fUntil, MHead.r_fCount, MHead.r_fRoot, MHead.r_fPrev, MHead.r_fKeys, MHead.r_fHeirs, MHead.r_fWait, MHead.r_fJudge, MHead.r_fFrozen]
  refine call_to ((slices_Concat_Sint_int.md [[a0.fZone, a0.fEpoch, a0.fKind, a0.fTime, a0.fUntil, a0.fCount, a0.fRoot, a0.fPrev], (impl_KeysInts.md a0.fKeys), (impl_KeysInts.md a0.fHeirs), [a0.fWait], (impl_KeysInts.md a0.fJudge), [(impl_bit.md a0.fFrozen)]]).map iRow) ?_ ?_
  · have R_ := slices_Concat_Sint_int.R_eq (a0 := [[a0.fZone, a0.fEpoch, a0.fKind, a0.fTime, a0.fUntil, a0.fCount, a0.fRoot, a0.fPrev], (impl_KeysInts.md a0.fKeys), (impl_KeysInts.md a0.fHeirs), [a0.fWait], (impl_KeysInts.md a0.fJudge), [(impl_bit.md a0.fFrozen)]]) ⟨(by simp), (by
        have := impl_KeysInts.len a0.fKeys
        have := (H0.1).1
        have := impl_KeysInts.len a0.fHeirs
        have := (H0.2.1).1
        have := impl_KeysInts.len a0.fJudge
        have := (H0.2.2).1
        intro x_ hx_
        simp only [List.mem_cons, List.not_mem_nil, or_false] at hx_
        rcases hx_ with hx_ | hx_ | hx_ | hx_ | hx_ | hx_
        all_goals (subst hx_; first | omega | (simp only [List.sum_cons, List.sum_nil, List.map_cons, List.map_nil, bytesI_length, bytesL_length, List.length_append, List.length_cons, List.length_nil, List.length_map, List.length_set, List.length_replicate, List.length_take, List.length_drop]; omega)))⟩
    first | exact R_ | (simp only [List.map_append, List.map_cons, List.map_nil, List.cons_append, List.nil_append, iRow, sRow, bRow, lRow, List.map_set, bytesL_map, List.length_map, toNat_nat, iAt_getD, bAt_getD, sAt_getD, lAt_getD, MHead.r_fZone, MHead.r_fEpoch, MHead.r_fKind, MHead.r_fTime, MHead.r_fUntil, MHead.r_fCount, MHead.r_fRoot, MHead.r_fPrev, MHead.r_fKeys, MHead.r_fHeirs, MHead.r_fWait, MHead.r_fJudge, MHead.r_fFrozen] at R_ ⊢; first | exact R_ | (rw [← R_]; rfl))
  try simp only [bytesL_map, List.length_map, toNat_nat, iAt_getD, bAt_getD, sAt_getD, lAt_getD, MHead.r_fZone, MHead.r_fEpoch, MHead.r_fKind, MHead.r_fTime, MHead.r_fUntil, MHead.r_fCount, MHead.r_fRoot, MHead.r_fPrev, MHead.r_fKeys, MHead.r_fHeirs, MHead.r_fWait, MHead.r_fJudge, MHead.r_fFrozen]
  all_goals first | rfl | (simp only [bytesL_map, List.length_map, toNat_nat, iAt_getD, bAt_getD, sAt_getD, lAt_getD, MHead.r_fZone, MHead.r_fEpoch, MHead.r_fKind, MHead.r_fTime, MHead.r_fUntil, MHead.r_fCount, MHead.r_fRoot, MHead.r_fPrev, MHead.r_fKeys, MHead.r_fHeirs, MHead.r_fWait, MHead.r_fJudge, MHead.r_fFrozen]; done) | (simp only [List.map_append, List.map_cons, List.map_nil, List.cons_append, List.nil_append, iRow, sRow, bRow, lRow, List.map_set]; rfl) | (simp only [bytesL_map, List.length_map, toNat_nat, iAt_getD, bAt_getD, sAt_getD, lAt_getD, MHead.r_fZone, MHead.r_fEpoch, MHead.r_fKind, MHead.r_fTime, MHead.r_fUntil, MHead.r_fCount, MHead.r_fRoot, MHead.r_fPrev, MHead.r_fKeys, MHead.r_fHeirs, MHead.r_fWait, MHead.r_fJudge, MHead.r_fFrozen, List.map_append, List.map_cons, List.map_nil, List.cons_append, List.nil_append, iRow, sRow, bRow, lRow, List.map_set]; first | done | rfl)
noncomputable def sem (ls : List L) : Option (List L) := (R (RHead.dec ls)).map RT.enc
theorem ok (ls q : List L) (hl : LOKs Ev.cells pats ls) (h : sem ls = some q) : ∃ n, runF E live Tryz.f140 res n (initS pats ls) = some q := by
  obtain ⟨v, hv, hq⟩ := map_some h
  obtain ⟨a0, hg, e, hm⟩ := ofM_some hv
  have e0 : (MHead.r a0) = _ := e
  have hn := okF a0 hg
  refine ⟨0, (run_eq 0 ls).trans ?_⟩
  rw [← e0]
  rw [hn, ← hq, hm]; rfl
noncomputable def con : Con := ⟨pats, res, sem⟩
theorem chk : fnB Tryz.f140 con 38 = true := by kernel_rfl
theorem valid_ : Valid Tryz.prog Ev 140 con := valid mix tab_ok (.cons impl_KeysInts.valid_ (.cons impl_bit.valid_ (.cons slices_Concat_Sint_int.valid_ .nil))) Tryz.func140 chk live ok
theorem len (a0 : MHead) : (md a0).length = 16 + a0.fKeys.fList.length + a0.fHeirs.fList.length + a0.fJudge.fList.length := by unfold md; simp [slices_Concat_Sint_int.md, impl_KeysInts.len]; omega
theorem br (a0 : MHead) : md a0 = spec_HeadInts.md a0 := by
  rw [spec_HeadInts.md_form]
  unfold md slices_Concat_Sint_int.md
  simp only [impl_KeysInts.br, impl_bit.md, List.flatten_cons, List.flatten_nil, List.cons_append, List.nil_append, List.append_nil]
end impl_HeadInts
end Go.DM
