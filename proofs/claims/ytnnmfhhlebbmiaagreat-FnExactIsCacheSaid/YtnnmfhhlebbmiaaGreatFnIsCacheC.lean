/- What the functions compute that the law reaches, and that the law returns true. Conditions: none. -/
import Derived.Test.YtnnmfhhlebbmiaaGreatTy
import Derived.Test.YtnnmfhhlebbmiaaGreatFnIsCacheB
import Derived.Test.YtnnmfhhlebbmiaaGreatProg
import Derived.Lib.AppendZerosOnto
import Derived.Lib.Bytealg
import Derived.Laws.Externs
import Derived.Lib.Walk
import Derived.Lib.Hide
import Derived.Lib.Strings
set_option linter.all false
namespace Go.DM
open Go.Proofs
/-! impl.EqualEntries -/
namespace impl_EqualEntries
noncomputable def F (x0 : REntry) (x1 : REntry) : Ans := (bif (x0.fLabel == x1.fLabel) then (bif (x0.fKind == x1.fKind) then (bif (x0.fValue == x1.fValue) then (call (slices_Equal_Sstring_string.R (x0.fPath, x1.fPath)) fun v1 => ret (v1 : Bool)) else ret (false : Bool)) else ret (false : Bool)) else ret (false : Bool))
def pats : List Pat := [.agg [.str, .int .i64, .int .i64, .sl 9], .agg [.str, .int .i64, .int .i64, .sl 9]]
def res : RP := .one (.rd (.bool))
noncomputable abbrev E : Env := ⟨assoc Tab, conG [(160, slices_Equal_Sstring_string.con)], 31⟩
set_option maxRecDepth 100000
theorem run_eq (n : Nat) (ls : List L) : runF E (fun _ => []) Tryz.f113 res n (initS pats ls) = F (REntry.dec ls) (REntry.dec (dropT 4 ls)) := by kernel_rfl
noncomputable def md (a0 : MEntry) (a1 : MEntry) : Bool := (bif (a0.fLabel == a1.fLabel) then (bif (a0.fKind == a1.fKind) then (bif (a0.fValue == a1.fValue) then ((slices_Equal_Sstring_string.md a0.fPath a1.fPath) : Bool) else (false : Bool)) else (false : Bool)) else (false : Bool))
def gd (a0 : MEntry) (a1 : MEntry) : Prop := (MEntry.Sm (2 ^ 21) a0) ∧ (MEntry.Sm (2 ^ 21) a1)
def acc (ls : List L) : REntry × REntry := ((REntry.dec ls), (REntry.dec (dropT 4 ls)))
noncomputable def R : (REntry × REntry) → Option Bool := RR (p2 gd) (u2 md)
theorem R_eq {a0} {a1} (h : gd a0 a1) : R ((MEntry.r a0), (MEntry.r a1)) = some (md a0 a1) := RR_eq (a := (a0, a1)) h
noncomputable def con : Con := CN pats res acc R
theorem okF (a0 : MEntry) (a1 : MEntry) (hg : gd a0 a1) : F (MEntry.r a0) (MEntry.r a1) = ret ((md a0 a1) : Bool) := by
  unfold gd at hg
  obtain ⟨H0, H1⟩ := hg
  unfold F md
  try simp only [S0, MEntry.rs]
  refine bif_out ret (fun c1 => ?_) (fun _ => rfl)
  refine bif_out ret (fun c2 => ?_) (fun _ => rfl)
  refine bif_out ret (fun c3 => ?_) (fun _ => rfl)
  refine call_to (slices_Equal_Sstring_string.md a0.fPath a1.fPath) (slices_Equal_Sstring_string.R_eq (a0 := a0.fPath) (a1 := a1.fPath) ⟨H0.2, H1.2⟩) ?_
  first | rfl | (simp only [S0, MEntry.rs, MP]; first | done | rfl)
theorem valid_ : Valid Tryz.prog Ev 113 con := VV (run := fun _ x => F x.1 x.2) mix tab_ok (.cons slices_Equal_Sstring_string.valid_ .nil) Tryz.func113 (by kernel_rfl) run_eq (fun _ a _ _ hg => ⟨0, okF a.1 a.2 hg⟩)
theorem md_eq (a0 : MEntry) (a1 : MEntry) : md a0 a1 = eqB a0 a1 := by
  unfold md
  cases a0; cases a1
  rw [Bool.eq_iff_iff]
  simp [eqB_iff, ba_beq, MEntry.mk.injEq, slices_Equal_Sstring_string.md_eq]
  try (constructor <;> (intro h; simp_all))
end impl_EqualEntries
/-! impl.EqualProofs -/
namespace impl_EqualProofs
noncomputable def F (x0 : RProof) (x1 : RProof) : Ans := (bif (x0.fAt == x1.fAt) then (call (slices_Equal_Sint_int.R (x0.fPath, x1.fPath)) fun v1 => ret (v1 : Bool)) else ret (false : Bool))
def pats : List Pat := [.agg [.int .i64, .sl 3], .agg [.int .i64, .sl 3]]
def res : RP := .one (.rd (.bool))
noncomputable abbrev E : Env := ⟨assoc Tab, conG [(114, slices_Equal_Sint_int.con)], 17⟩
set_option maxRecDepth 100000
theorem run_eq (n : Nat) (ls : List L) : runF E (fun _ => []) Tryz.f161 res n (initS pats ls) = F (RProof.dec ls) (RProof.dec (dropT 2 ls)) := by kernel_rfl
noncomputable def md (a0 : MProof) (a1 : MProof) : Bool := (bif (a0.fAt == a1.fAt) then ((slices_Equal_Sint_int.md a0.fPath a1.fPath) : Bool) else (false : Bool))
def gd (a0 : MProof) (a1 : MProof) : Prop := (MProof.Sm (2 ^ 21) a0) ∧ (MProof.Sm (2 ^ 21) a1)
def acc (ls : List L) : RProof × RProof := ((RProof.dec ls), (RProof.dec (dropT 2 ls)))
noncomputable def R : (RProof × RProof) → Option Bool := RR (p2 gd) (u2 md)
theorem R_eq {a0} {a1} (h : gd a0 a1) : R ((MProof.r a0), (MProof.r a1)) = some (md a0 a1) := RR_eq (a := (a0, a1)) h
noncomputable def con : Con := CN pats res acc R
theorem okF (a0 : MProof) (a1 : MProof) (hg : gd a0 a1) : F (MProof.r a0) (MProof.r a1) = ret ((md a0 a1) : Bool) := by
  unfold gd at hg
  obtain ⟨H0, H1⟩ := hg
  unfold F md
  try simp only [S0, MProof.rs]
  refine bif_out ret (fun c1 => ?_) (fun _ => rfl)
  refine call_to (slices_Equal_Sint_int.md a0.fPath a1.fPath) (slices_Equal_Sint_int.R_eq (a0 := a0.fPath) (a1 := a1.fPath) ⟨(H0.mono (by decide) (fun x hx => trivial)), (H1.mono (by decide) (fun x hx => trivial))⟩) ?_
  first | rfl | (simp only [S0, MProof.rs, MP]; first | done | rfl)
theorem valid_ : Valid Tryz.prog Ev 161 con := VV (run := fun _ x => F x.1 x.2) mix tab_ok (.cons slices_Equal_Sint_int.valid_ .nil) Tryz.func161 (by kernel_rfl) run_eq (fun _ a _ _ hg => ⟨0, okF a.1 a.2 hg⟩)
theorem md_eq (a0 : MProof) (a1 : MProof) : md a0 a1 = eqB a0 a1 := by
  unfold md
  cases a0; cases a1
  rw [Bool.eq_iff_iff]
  simp [eqB_iff, ba_beq, MProof.mk.injEq, slices_Equal_Sint_int.md_eq]
  try (constructor <;> (intro h; simp_all))
end impl_EqualProofs
/-! impl.EqualGaps -/
namespace impl_EqualGaps
noncomputable def F (x0 : RGap) (x1 : RGap) : Ans := (bif (x0.fAt == x1.fAt) then (call (impl_EqualEntries.R (x0.fBefore, x1.fBefore)) fun v1 => (bif v1 then (call (impl_EqualEntries.R (x0.fAfter, x1.fAfter)) fun v2 => (bif v2 then (call (impl_EqualProofs.R (x0.fLeft, x1.fLeft)) fun v3 => (bif v3 then (call (impl_EqualProofs.R (x0.fRight, x1.fRight)) fun v4 => ret (v4 : Bool)) else ret (false : Bool))) else ret (false : Bool))) else ret (false : Bool))) else ret (false : Bool))
def pats : List Pat := [.agg [.int .i64, .str, .int .i64, .int .i64, .sl 9, .str, .int .i64, .int .i64, .sl 9, .int .i64, .sl 3, .int .i64, .sl 3], .agg [.int .i64, .str, .int .i64, .int .i64, .sl 9, .str, .int .i64, .int .i64, .sl 9, .int .i64, .sl 3, .int .i64, .sl 3]]
def res : RP := .one (.rd (.bool))
noncomputable abbrev E : Env := ⟨assoc Tab, conG [(113, impl_EqualEntries.con), (161, impl_EqualProofs.con)], 38⟩
set_option maxRecDepth 100000
theorem run_eq (n : Nat) (ls : List L) : runF E (fun _ => []) Tryz.f162 res n (initS pats ls) = F (RGap.dec ls) (RGap.dec (dropT 13 ls)) := by kernel_rfl
noncomputable def md (a0 : MGap) (a1 : MGap) : Bool := (bif (a0.fAt == a1.fAt) then (bif (impl_EqualEntries.md a0.fBefore a1.fBefore) then (bif (impl_EqualEntries.md a0.fAfter a1.fAfter) then (bif (impl_EqualProofs.md a0.fLeft a1.fLeft) then ((impl_EqualProofs.md a0.fRight a1.fRight) : Bool) else (false : Bool)) else (false : Bool)) else (false : Bool)) else (false : Bool))
def gd (a0 : MGap) (a1 : MGap) : Prop := (MGap.Sm (2 ^ 21) a0) ∧ (MGap.Sm (2 ^ 21) a1)
def acc (ls : List L) : RGap × RGap := ((RGap.dec ls), (RGap.dec (dropT 13 ls)))
noncomputable def R : (RGap × RGap) → Option Bool := RR (p2 gd) (u2 md)
theorem R_eq {a0} {a1} (h : gd a0 a1) : R ((MGap.r a0), (MGap.r a1)) = some (md a0 a1) := RR_eq (a := (a0, a1)) h
noncomputable def con : Con := CN pats res acc R
theorem okF (a0 : MGap) (a1 : MGap) (hg : gd a0 a1) : F (MGap.r a0) (MGap.r a1) = ret ((md a0 a1) : Bool) := by
  unfold gd at hg
  obtain ⟨H0, H1⟩ := hg
  unfold F md
  try simp only [S0, MProof.rs, MGap.rs]
  refine bif_out ret (fun c1 => ?_) (fun _ => rfl)
  refine call_to (impl_EqualEntries.md a0.fBefore a1.fBefore) (impl_EqualEntries.R_eq (a0 := a0.fBefore) (a1 := a1.fBefore) ⟨H0.1, H1.1⟩) ?_
  refine bif_out ret (fun c2 => ?_) (fun _ => rfl)
  refine call_to (impl_EqualEntries.md a0.fAfter a1.fAfter) (impl_EqualEntries.R_eq (a0 := a0.fAfter) (a1 := a1.fAfter) ⟨H0.2.1, H1.2.1⟩) ?_
  refine bif_out ret (fun c3 => ?_) (fun _ => rfl)
  refine call_to (impl_EqualProofs.md a0.fLeft a1.fLeft) (impl_EqualProofs.R_eq (a0 := a0.fLeft) (a1 := a1.fLeft) ⟨H0.2.2.1, H1.2.2.1⟩) ?_
  refine bif_out ret (fun c4 => ?_) (fun _ => rfl)
  refine call_to (impl_EqualProofs.md a0.fRight a1.fRight) (impl_EqualProofs.R_eq (a0 := a0.fRight) (a1 := a1.fRight) ⟨H0.2.2.2, H1.2.2.2⟩) ?_
  first | rfl | (simp only [S0, MProof.rs, MGap.rs, MP]; first | done | rfl)
theorem valid_ : Valid Tryz.prog Ev 162 con := VV (run := fun _ x => F x.1 x.2) mix tab_ok (.cons impl_EqualEntries.valid_ (.cons impl_EqualProofs.valid_ .nil)) Tryz.func162 (by kernel_rfl) run_eq (fun _ a _ _ hg => ⟨0, okF a.1 a.2 hg⟩)
theorem md_eq (a0 : MGap) (a1 : MGap) : md a0 a1 = eqB a0 a1 := by
  unfold md
  cases a0; cases a1
  rw [Bool.eq_iff_iff]
  simp [eqB_iff, ba_beq, MGap.mk.injEq, impl_EqualEntries.md_eq, impl_EqualProofs.md_eq]
  try (constructor <;> (intro h; simp_all))
end impl_EqualGaps
/-! impl.LeavesOf -/
namespace impl_LeavesOf
inductive Pt where
  | p0 (a : List (List L)) (b : Int) (c : Int) (d : List (List L))
def pid : Pt → Nat
  | .p0 .. => 3
def pvs : Pt → List V
  | .p0 a b c d => [.own 0, .sl none 55 a, .int .i64 b, .int .i64 c]
def phs : Pt → List Root
  | .p0 a b c d => [.row 3 d]
noncomputable def step (J : Pt → Ans) : Pt → Ans
  | .p0 a b c d => (bif (decide (c < b)) then (bif (decide ((0 : Int) ≤ c)) then (bif (decide (c < (a.length : Int))) then (call (impl_LeafOf.R (REntry.at a (Int.toNat c))) fun v1 => (bif (lim (((d.length : Int) + 1) * 8)) then J (.p0 a b (IntKind.i64.wrap (c + 1)) (d ++ [[L.int v1]])) else none)) else none) else none) else ret (d : List (List L)))
noncomputable def start (J : Pt → Ans) (x0 : List (List L)) : Ans := J (.p0 x0 (x0.length : Int) 0 [])
def live : Nat → Live := fun i => match i with | 3 => [(3, some 3), (7, none), (8, none), (9, none)] | _ => []
def pats : List Pat := [.rd (.sl 55)]
def res : RP := .one (.fr 3)
noncomputable abbrev E : Env := ⟨assoc Tab, conG [(228, impl_LeafOf.con)], 20⟩
set_option maxRecDepth 100000
theorem step_eq (I : Heads) (p : Pt) : enterC E live I (pid p) (bodyOf Tryz.f257) (stOf (live (pid p)) (pvs p) (phs p)) (doneK E Tryz.f257 res) = step (fun q => I (pid q) (pvs q) (phs q)) p := by
  cases p <;> kernel_rfl
theorem start_eq (I : Heads) (ls : List L) : runC E live I (bodyOf Tryz.f257) (initS pats ls) (doneK E Tryz.f257 res) = start (fun q => I (pid q) (pvs q) (phs q)) (ls.headD .hole).toSl := by kernel_rfl
theorem run_eq (n : Nat) (ls : List L) : runF E live Tryz.f257 res n (initS pats ls) = start (iter step n) (ls.headD .hole).toSl := runF_iter (id := pid) (vs := pvs) (hs := phs) (step := step) (start := fun J => start J (ls.headD .hole).toSl) step_eq (fun I => start_eq I ls) n
noncomputable def md (a0 : List MEntry) : List Int := (a0.map (fun (y1 : MEntry) => (impl_LeafOf.md y1)))
def gd (a0 : List MEntry) : Prop := (SmL (2 ^ 21) (fun y : MEntry => MEntry.Sm (2 ^ 21) y) a0)
def acc (ls : List L) : List (List L) := (ls.headD .hole).toSl
noncomputable def R : (List (List L)) → Option (List (List L)) := RR gd md
theorem R_eq {a0} (h : gd a0) : R (a0.map MEntry.row) = some ((md a0).map iRow) := RR_eq (a := a0) h
noncomputable def con : Con := CN pats res acc R
theorem okF (a0 : List MEntry) (hg : gd a0) : ∃ n, start (iter step n) (a0.map MEntry.row) = ret (((md a0).map iRow) : List (List L)) := by
  unfold gd at hg
  have H0 := hg
  unfold start md
  try simp only [S0, MEntry.rs]
  have Bh2 : a0.length ≤ maxLen := (by
      have := (H0).1
      try simp only [maxLen] at *
      omega)
  refine ex_eq (out := (fun b : List Int => ret ((b.map iRow) : List (List L)))) (loopM_map0 (g := fun (y1 : MEntry) => (impl_LeafOf.md y1)) (z := MEntry.zero) (t := fun (s3 : List Int) => s3)) ?_
  refine ex_pt (p := Pt.p0 (a0.map MEntry.row) (a0.length : Int) 0 ([].map iRow)) (by first | rfl | (simp only [S0, MEntry.rs, MP]; done) | (simp only [MP]; rfl)) ?_
  refine loopM_ok (pt := fun (i1 : Nat) (s3 : List Int) => Pt.p0 (a0.map MEntry.row) (a0.length : Int) (i1 : Int) (s3.map iRow)) (s := ([] : List Int)) (out := (fun b : List Int => ret ((b.map iRow) : List (List L)))) (fun (i1 : Nat) (s3 : List Int) => s3.length ≤ ([] : List Int).length + 1 * i1) (fun J i1 s3 h2 hih2 => ?_) (fun s3 hih2 => ?_) (by simp)
  · simp only [step, S0, MEntry.rs]
    have gr_ := hih2
    try simp only [LN] at gr_
    have bb_ := Bh2
    simp only [maxLen] at bb_
    have := (H0).1
    refine Rnd.yes (by apply decide_eq_true; omega) ?_
    refine Rnd.yes zle_dec ?_
    refine Rnd.yes (lt_dec h2) ?_
    refine Rnd.call_to (impl_LeafOf.md (a0.getD i1 MEntry.zero)) (impl_LeafOf.R_eq (a0 := (a0.getD i1 MEntry.zero)) (SmL.getD (z := MEntry.zero) H0 h2)) ?_
    refine Rnd.yes (by
        refine lim_t ?_
        try simp (disch := omega) only [LN, wi]
        first | omega | (simp; done) | (simp; omega)) ?_
    refine Rnd.inl (by
        have g_ := hih2
        try simp only [LN] at g_ ⊢
        first | omega | (simp; done) | (simp; omega)) ?_
    rw [wrap_succ h2 Bh2]
    all_goals first | rfl | (simp only [S0, MEntry.rs]; done) | (simp only [MP]; rfl) | (simp only [S0, MEntry.rs, MP]; first | done | rfl)
  · simp only [step, S0, MEntry.rs]
    have gr_ := hih2
    try simp only [LN] at gr_
    have := (H0).1
    refine ex_no (by apply decide_eq_false; omega) ?_
    refine ⟨0, ?_⟩
    all_goals first | rfl | (simp only [S0, MEntry.rs]; done) | (simp only [MP]; rfl) | (simp only [S0, MEntry.rs, MP]; first | done | rfl)
theorem valid_ : Valid Tryz.prog Ev 257 con := VV (run := fun n x => start (iter step n) x) mix tab_ok (.cons impl_LeafOf.valid_ .nil) Tryz.func257 (by kernel_rfl) run_eq (fun _ a _ _ hg => okF a hg)
theorem len (a0 : List MEntry) : (md a0).length = a0.length := by simp [md]
theorem br (a0 : List MEntry) : md a0 = spec_LeavesOf.md a0 := by
  unfold md spec_LeavesOf.md
  first
  | (simp only [impl_LeafOf.br]; done)
  | (simp only [impl_LeafOf.br]; rfl)
  | rfl
end impl_LeavesOf
/-! impl.above -/
namespace impl_above
inductive Pt where
  | p0 (a : List (List L)) (b : Int) (c : List (List L))
def pid : Pt → Nat
  | .p0 .. => 3
def pvs : Pt → List V
  | .p0 a b c => [.sl none 3 a, .own 0, .int .i64 b]
def phs : Pt → List Root
  | .p0 a b c => [.row 3 c]
noncomputable def step (J : Pt → Ans) : Pt → Ans
  | .p0 a b c => (bif (decide (b < (a.length : Int))) then (bif (decide ((IntKind.i64.wrap (b + 1)) < (a.length : Int))) then (bif (decide ((0 : Int) ≤ b)) then (bif (decide (b < (a.length : Int))) then (bif (decide ((0 : Int) ≤ (IntKind.i64.wrap (b + 1)))) then (bif (decide ((IntKind.i64.wrap (b + 1)) < (a.length : Int))) then (call (impl_NodeOf.R ((iAt a (Int.toNat b)), (iAt a (Int.toNat (IntKind.i64.wrap (b + 1)))))) fun v1 => (bif (lim (((c.length : Int) + 1) * 8)) then J (.p0 a (IntKind.i64.wrap (b + 2)) (c ++ [[L.int v1]])) else none)) else none) else none) else none) else none) else (bif (decide ((0 : Int) ≤ b)) then (bif (decide (b < (a.length : Int))) then (bif (lim (((c.length : Int) + 1) * 8)) then J (.p0 a (IntKind.i64.wrap (b + 2)) (c ++ [[L.int (iAt a (Int.toNat b))]])) else none) else none) else none)) else ret (c : List (List L)))
noncomputable def start (J : Pt → Ans) (x0 : List (List L)) : Ans := J (.p0 x0 0 [])
def live : Nat → Live := fun i => match i with | 3 => [(0, none), (3, some 3), (4, none)] | _ => []
def pats : List Pat := [.rd (.sl 3)]
def res : RP := .one (.fr 3)
noncomputable abbrev E : Env := ⟨assoc Tab, conG [(252, impl_NodeOf.con)], 38⟩
set_option maxRecDepth 100000
theorem step_eq (I : Heads) (p : Pt) : enterC E live I (pid p) (bodyOf Tryz.f268) (stOf (live (pid p)) (pvs p) (phs p)) (doneK E Tryz.f268 res) = step (fun q => I (pid q) (pvs q) (phs q)) p := by
  cases p <;> kernel_rfl
theorem start_eq (I : Heads) (ls : List L) : runC E live I (bodyOf Tryz.f268) (initS pats ls) (doneK E Tryz.f268 res) = start (fun q => I (pid q) (pvs q) (phs q)) (ls.headD .hole).toSl := by kernel_rfl
theorem run_eq (n : Nat) (ls : List L) : runF E live Tryz.f268 res n (initS pats ls) = start (iter step n) (ls.headD .hole).toSl := runF_iter (id := pid) (vs := pvs) (hs := phs) (step := step) (start := fun J => start J (ls.headD .hole).toSl) step_eq (fun I => start_eq I ls) n
noncomputable def md (a0 : List Int) : List Int := spec_l10Up.md a0
def gd (a0 : List Int) : Prop := SmL (2 ^ 38) (fun y : Int => True) a0
def acc (ls : List L) : List (List L) := (ls.headD .hole).toSl
noncomputable def R : (List (List L)) → Option (List (List L)) := RR gd md
theorem R_eq {a0} (h : gd a0) : R (a0.map iRow) = some ((md a0).map iRow) := RR_eq (a := a0) h
noncomputable def con : Con := CN pats res acc R
theorem okF (a0 : List Int) (hg : gd a0) : ∃ n, start (iter step n) (a0.map iRow) = ret (((md a0).map iRow) : List (List L)) := by
  obtain ⟨H1, _⟩ := hg
  have key : ∀ (k i : Nat) (c : List Int), i + k = a0.length → c.length ≤ i → ∃ n, iter step n (Pt.p0 (a0.map iRow) (i : Int) (c.map iRow)) = ret ((c ++ spec_l10Up.up (a0.drop i)).map iRow : List (List L)) := by
    intro k
    induction k using Nat.strongRecOn with
    | _ k ih =>
    intro i c hi hc
    match k, hi, ih with
    | 0, hi, _ =>
      refine ⟨1, ?_⟩
      show step (iter step 0) (Pt.p0 _ _ _) = _
      simp only [step, List.length_map]
      refine no_ret (decide_eq_false (by omega)) ?_
      rw [List.drop_eq_nil_of_le (by omega)]
      simp only [spec_l10Up.up, List.append_nil]
    | 1, hi, ih =>
      obtain ⟨n, hn⟩ := ih 0 (by omega) (i + 1) (c ++ [a0.getD i 0]) (by omega) (by simp; omega)
      have h2 : ∃ n, iter step n (Pt.p0 (a0.map iRow) (IntKind.i64.wrap ((i : Int) + 2)) ((c ++ [a0.getD i 0]).map iRow)) = ret ((c ++ [a0.getD i 0]).map iRow : List (List L)) := by
        refine ⟨1, ?_⟩
        show step (iter step 0) (Pt.p0 _ _ _) = _
        simp only [step, List.length_map]
        refine no_ret (decide_eq_false ?_) rfl
        rw [Go.IntWalk.i64_in _ (by omega)]; omega
      obtain ⟨n, hn⟩ := h2
      refine ⟨n + 1, ?_⟩
      show step (iter step n) (Pt.p0 _ _ _) = _
      simp only [step, List.length_map, toNat_nat, iAt_getD]
      refine yes_ret (decide_eq_true (by omega)) (no_ret (decide_eq_false ?_) (yes_ret (decide_eq_true (by omega)) (yes_ret (decide_eq_true (by omega)) (yes_ret (lim_t (by omega)) ?_))))
      · rw [Go.IntWalk.i64_in _ (by omega)]; omega
      · rw [List.map_append] at hn
        refine Eq.trans hn ?_
        rw [List.drop_eq_getElem_cons (by omega), List.drop_eq_nil_of_le (by omega), getD_lt (by omega : i < a0.length)]
        simp only [spec_l10Up.up, List.map_append]
    | k + 2, hi, ih =>
      obtain ⟨n, hn⟩ := ih k (by omega) (i + 2) (c ++ [spec_NodeOf.md (a0.getD i 0) (a0.getD (i + 1) 0)]) (by omega) (by simp; omega)
      refine ⟨n + 1, ?_⟩
      show step (iter step n) (Pt.p0 _ _ _) = _
      have w1 : IntKind.i64.wrap ((i : Int) + 1) = ((i + 1 : Nat) : Int) := by rw [Go.IntWalk.i64_in _ (by omega)]; omega
      have w2 : IntKind.i64.wrap ((i : Int) + 2) = ((i + 2 : Nat) : Int) := by rw [Go.IntWalk.i64_in _ (by omega)]; omega
      simp only [step, List.length_map, w1, w2, toNat_nat, iAt_getD]
      refine yes_ret (decide_eq_true (by omega)) (yes_ret (decide_eq_true (by omega)) (yes_ret (decide_eq_true (by omega)) (yes_ret (decide_eq_true (by omega)) (yes_ret (decide_eq_true (by omega)) (yes_ret (decide_eq_true (by omega)) ?_)))))
      refine call_to (spec_NodeOf.md (a0.getD i 0) (a0.getD (i + 1) 0)) (by have := impl_NodeOf.R_eq (a0 := a0.getD i 0) (a1 := a0.getD (i + 1) 0) trivial; rw [impl_NodeOf.br] at this; exact this) (yes_ret (lim_t (by omega)) ?_)
      rw [List.map_append] at hn
      refine Eq.trans hn ?_
      rw [List.drop_eq_getElem_cons (by omega : i < a0.length), List.drop_eq_getElem_cons (by omega : i + 1 < a0.length), getD_lt (by omega : i < a0.length), getD_lt (by omega : i + 1 < a0.length)]
      simp only [spec_l10Up.up, List.append_assoc, List.cons_append, List.nil_append]
  have := key a0.length 0 [] (by omega) (by simp)
  unfold start md spec_l10Up.md
  simpa using this
theorem valid_ : Valid Tryz.prog Ev 268 con := VV (run := fun n x => start (iter step n) x) mix tab_ok (.cons impl_NodeOf.valid_ .nil) Tryz.func268 (by kernel_rfl) run_eq (fun _ a _ _ hg => okF a hg)
theorem br (a0 : List Int) : md a0 = spec_l10Up.md a0 := by
  unfold md spec_l10Up.md
  first
  | (simp only [impl_NodeOf.br]; done)
  | (simp only [impl_NodeOf.br]; rfl)
  | rfl
end impl_above
/-! impl.TopOf -/
namespace impl_TopOf
inductive Pt where
  | p0 (a : List (List L))
  | p1 (a : List (List L))
def pid : Pt → Nat
  | .p0 .. => 3
  | .p1 .. => 3
def pvs : Pt → List V
  | .p0 a => [.sl none 3 a]
  | .p1 a => [.own 0]
def phs : Pt → List Root
  | .p0 a => []
  | .p1 a => [.row 3 a]
noncomputable def step (J : Pt → Ans) : Pt → Ans
  | .p0 a => (bif (decide ((a.length : Int) > 1)) then (call (impl_above.R a) fun v1 => J (.p1 v1)) else (bif (decide ((0 : Int) < (a.length : Int))) then ret ((iAt a 0) : Int) else none))
  | .p1 a => (bif (decide ((a.length : Int) > 1)) then (call (impl_above.R a) fun v1 => J (.p1 v1)) else (bif (decide ((0 : Int) < (a.length : Int))) then ret ((iAt a 0) : Int) else none))
noncomputable def start (J : Pt → Ans) (x0 : List (List L)) : Ans := (bif ((x0.length : Int) == 0) then (call (impl_hash.R [[L.int 229]]) fun v1 => ret (v1 : Int)) else J (.p0 x0))
def live : Nat → Live := fun i => match i with | 3 => [(0, none)] | _ => []
def pats : List Pat := [.rd (.sl 3)]
def res : RP := .one (.rd (.int .i64))
noncomputable abbrev E : Env := ⟨assoc Tab, conG [(255, impl_hash.con), (268, impl_above.con)], 16⟩
set_option maxRecDepth 100000
theorem step_eq (I : Heads) (p : Pt) : enterC E live I (pid p) (bodyOf Tryz.f256) (stOf (live (pid p)) (pvs p) (phs p)) (doneK E Tryz.f256 res) = step (fun q => I (pid q) (pvs q) (phs q)) p := by
  cases p <;> kernel_rfl
theorem start_eq (I : Heads) (ls : List L) : runC E live I (bodyOf Tryz.f256) (initS pats ls) (doneK E Tryz.f256 res) = start (fun q => I (pid q) (pvs q) (phs q)) (ls.headD .hole).toSl := by kernel_rfl
theorem run_eq (n : Nat) (ls : List L) : runF E live Tryz.f256 res n (initS pats ls) = start (iter step n) (ls.headD .hole).toSl := runF_iter (id := pid) (vs := pvs) (hs := phs) (step := step) (start := fun J => start J (ls.headD .hole).toSl) step_eq (fun I => start_eq I ls) n
noncomputable def md (a0 : List Int) : Int := spec_TopOf.md a0
def gd (a0 : List Int) : Prop := SmL (2 ^ 38) (fun y : Int => True) a0
def acc (ls : List L) : List (List L) := (ls.headD .hole).toSl
noncomputable def R : (List (List L)) → Option Int := RR gd md
theorem R_eq {a0} (h : gd a0) : R (a0.map iRow) = some (md a0) := RR_eq (a := a0) h
noncomputable def con : Con := CN pats res acc R
theorem okF (a0 : List Int) (hg : gd a0) : ∃ n, start (iter step n) (a0.map iRow) = ret ((md a0) : Int) := by
  have one : ∀ (l : List Int) (r : Int) (n : Nat), SmL (2 ^ 38) (fun y : Int => True) l → 0 < l.length → (if l.length > 1 then iter step n (Pt.p1 ((spec_l10Up.up l).map iRow)) = ret r else ret (l.getD 0 0 : Int) = ret r) → step (iter step n) (Pt.p0 (l.map iRow)) = ret r ∧ step (iter step n) (Pt.p1 (l.map iRow)) = ret r := by
    intro l r n hl hp h
    simp only [step, List.length_map, iAt_getD]
    by_cases h1 : l.length > 1
    · rw [if_pos h1] at h
      have hx : ∀ y : Ans, (bif decide ((l.length : Int) > 1) then call (impl_above.R (l.map iRow)) (fun v1 => iter step n (Pt.p1 v1)) else y) = ret r := fun y =>
        yes_ret (decide_eq_true (by omega)) (call_to ((spec_l10Up.up l).map iRow) (impl_above.R_eq hl) h)
      exact ⟨hx _, hx _⟩
    · rw [if_neg h1] at h
      have hx : ∀ y : Ans, (bif decide ((l.length : Int) > 1) then y else (bif decide ((0 : Int) < (l.length : Int)) then ret (l.getD 0 0 : Int) else none)) = ret r := fun y =>
        no_ret (decide_eq_false (by omega)) (yes_ret (decide_eq_true (by omega)) h)
      exact ⟨hx _, hx _⟩
  have key : ∀ (k : Nat) (l : List Int), SmL (2 ^ 38) (fun y : Int => True) l → 0 < l.length → l.length ≤ k + 1 → ∃ n, step (iter step n) (Pt.p0 (l.map iRow)) = ret (spec_TopOf.top k l) ∧ step (iter step n) (Pt.p1 (l.map iRow)) = ret (spec_TopOf.top k l) := by
    intro k
    induction k with
    | zero =>
      intro l hl hp hk
      exact ⟨0, one l _ 0 hl hp (by rw [if_neg (by omega)]; rfl)⟩
    | succ k ih =>
      intro l hl hp hk
      by_cases h1 : l.length > 1
      · have hu := spec_l10Up.up_length l
        have hl1 := hl.1
        obtain ⟨n, _, hn⟩ := ih (spec_l10Up.up l) ⟨by omega, fun _ _ => trivial⟩ (by omega) (by omega)
        refine ⟨n + 1, one l _ (n + 1) hl hp ?_⟩
        rw [if_pos h1]
        refine Eq.trans hn ?_
        unfold spec_TopOf.top
        rw [if_pos h1]
        cases k <;> rfl
      · refine ⟨0, one l _ 0 hl hp ?_⟩
        rw [if_neg h1]
        unfold spec_TopOf.top
        rw [if_neg h1]
  unfold md spec_TopOf.md
  unfold start
  simp only [List.length_map]
  by_cases h0 : a0.length = 0
  · have e : ((a0.length : Int) == 0) = true := by simpa using List.length_eq_zero_iff.1 h0
    refine ⟨0, ?_⟩
    rw [e]
    refine call_to (spec_Hash.md [229]) (by have := impl_hash.R_eq (a0 := [229]) ⟨by decide, fun _ _ => trivial⟩; rw [impl_hash.br] at this; exact this) ?_
    rw [if_pos h0]
  · have e : ((a0.length : Int) == 0) = false := beq_eq_false_iff_ne.2 (by omega)
    obtain ⟨n, hn, _⟩ := key a0.length a0 hg (by omega) (by omega)
    refine ⟨n + 1, ?_⟩
    rw [e, if_neg h0]
    exact hn
theorem valid_ : Valid Tryz.prog Ev 256 con := VV (run := fun n x => start (iter step n) x) mix tab_ok (.cons impl_hash.valid_ (.cons impl_above.valid_ .nil)) Tryz.func256 (by kernel_rfl) run_eq (fun _ a _ _ hg => okF a hg)
theorem br (a0 : List Int) : md a0 = spec_TopOf.md a0 := by
  unfold md spec_TopOf.md
  first
  | (simp only [impl_hash.br, impl_above.br]; done)
  | (simp only [impl_hash.br, impl_above.br]; rfl)
  | rfl
end impl_TopOf
/-! impl.RootOf -/
namespace impl_RootOf
noncomputable def F (x0 : List (List L)) : Ans := (call (impl_LeavesOf.R x0) fun v1 => (call (impl_TopOf.R v1) fun v2 => (call (impl_rootFrom.R ((x0.length : Int), v2)) fun v3 => ret (v3 : Int))))
def pats : List Pat := [.rd (.sl 55)]
def res : RP := .one (.rd (.int .i64))
noncomputable abbrev E : Env := ⟨assoc Tab, conG [(257, impl_LeavesOf.con), (256, impl_TopOf.con), (230, impl_rootFrom.con)], 9⟩
set_option maxRecDepth 100000
theorem run_eq (n : Nat) (ls : List L) : runF E (fun _ => []) Tryz.f232 res n (initS pats ls) = F (ls.headD .hole).toSl := by kernel_rfl
noncomputable def md (a0 : List MEntry) : Int := ((impl_rootFrom.md (a0.length : Int) (impl_TopOf.md (impl_LeavesOf.md a0))) : Int)
def gd (a0 : List MEntry) : Prop := (SmL (2 ^ 21) (fun y : MEntry => MEntry.Sm (2 ^ 21) y) a0)
def acc (ls : List L) : List (List L) := (ls.headD .hole).toSl
noncomputable def R : (List (List L)) → Option Int := RR gd md
theorem R_eq {a0} (h : gd a0) : R (a0.map MEntry.row) = some (md a0) := RR_eq (a := a0) h
noncomputable def con : Con := CN pats res acc R
theorem okF (a0 : List MEntry) (hg : gd a0) : F (a0.map MEntry.row) = ret ((md a0) : Int) := by
  unfold gd at hg
  have H0 := hg
  unfold F md
  try simp only [S0]
  refine call_to ((impl_LeavesOf.md a0).map iRow) (impl_LeavesOf.R_eq (a0 := a0) H0) ?_
  try simp only [S0]
  refine call_to (impl_TopOf.md (impl_LeavesOf.md a0)) (impl_TopOf.R_eq (a0 := (impl_LeavesOf.md a0)) ⟨(by
      have := impl_LeavesOf.len a0
      have := (H0).1
      try simp (disch := omega) only [LN, wi]
      first | omega | (simp; done) | (simp; omega)), fun _ _ => trivial⟩) ?_
  refine call_to (impl_rootFrom.md (a0.length : Int) (impl_TopOf.md (impl_LeavesOf.md a0))) (impl_rootFrom.R_eq (a0 := (a0.length : Int)) (a1 := (impl_TopOf.md (impl_LeavesOf.md a0))) trivial) ?_
  first | rfl | (simp only [S0, MP]; first | done | rfl)
theorem valid_ : Valid Tryz.prog Ev 232 con := VV (run := fun _ x => F x) mix tab_ok (.cons impl_LeavesOf.valid_ (.cons impl_TopOf.valid_ (.cons impl_rootFrom.valid_ .nil))) Tryz.func232 (by kernel_rfl) run_eq (fun _ a _ _ hg => ⟨0, okF a hg⟩)
theorem br (a0 : List MEntry) : md a0 = spec_RootOf.md a0 := by
  unfold md spec_RootOf.md
  first
  | (simp only [impl_LeavesOf.br, impl_TopOf.br, impl_rootFrom.br]; done)
  | (simp only [impl_LeavesOf.br, impl_TopOf.br, impl_rootFrom.br]; rfl)
  | rfl
end impl_RootOf
/-! impl.isZeroEntry -/
namespace impl_isZeroEntry
noncomputable def F (x0 : REntry) : Ans := (call (impl_EqualEntries.R (x0, (⟨(⟨#[]⟩ : ByteArray), 0, 0, []⟩ : REntry))) fun v1 => ret (v1 : Bool))
def pats : List Pat := [.agg [.str, .int .i64, .int .i64, .sl 9]]
def res : RP := .one (.rd (.bool))
noncomputable abbrev E : Env := ⟨assoc Tab, conG [(113, impl_EqualEntries.con)], 6⟩
set_option maxRecDepth 100000
theorem run_eq (n : Nat) (ls : List L) : runF E (fun _ => []) Tryz.f181 res n (initS pats ls) = F (REntry.dec ls) := by kernel_rfl
noncomputable def md (a0 : MEntry) : Bool := ((impl_EqualEntries.md a0 (⟨((⟨#[]⟩ : ByteArray) : ByteArray), 0, 0, []⟩ : MEntry)) : Bool)
def gd (a0 : MEntry) : Prop := (MEntry.Sm (2 ^ 21) a0)
def acc (ls : List L) : REntry := (REntry.dec ls)
noncomputable def R : REntry → Option Bool := RR gd md
theorem R_eq {a0} (h : gd a0) : R (MEntry.r a0) = some (md a0) := RR_eq (a := a0) h
noncomputable def con : Con := CN pats res acc R
theorem okF (a0 : MEntry) (hg : gd a0) : F (MEntry.r a0) = ret ((md a0) : Bool) := by
  unfold gd at hg
  have H0 := hg
  unfold F md
  try simp only [S0]
  refine call_to (impl_EqualEntries.md a0 (⟨((⟨#[]⟩ : ByteArray) : ByteArray), 0, 0, []⟩ : MEntry)) (impl_EqualEntries.R_eq (a0 := a0) (a1 := (⟨((⟨#[]⟩ : ByteArray) : ByteArray), 0, 0, []⟩ : MEntry)) ⟨H0, ⟨(by decide), SmL.nil⟩⟩) ?_
  first | rfl | (simp only [S0, MP]; first | done | rfl)
theorem valid_ : Valid Tryz.prog Ev 181 con := VV (run := fun _ x => F x) mix tab_ok (.cons impl_EqualEntries.valid_ .nil) Tryz.func181 (by kernel_rfl) run_eq (fun _ a _ _ hg => ⟨0, okF a hg⟩)
end impl_isZeroEntry
/-! impl.isZeroProof -/
namespace impl_isZeroProof
noncomputable def F (x0 : RProof) : Ans := (call (impl_EqualProofs.R (x0, (⟨0, []⟩ : RProof))) fun v1 => ret (v1 : Bool))
def pats : List Pat := [.agg [.int .i64, .sl 3]]
def res : RP := .one (.rd (.bool))
noncomputable abbrev E : Env := ⟨assoc Tab, conG [(161, impl_EqualProofs.con)], 6⟩
set_option maxRecDepth 100000
theorem run_eq (n : Nat) (ls : List L) : runF E (fun _ => []) Tryz.f182 res n (initS pats ls) = F (RProof.dec ls) := by kernel_rfl
noncomputable def md (a0 : MProof) : Bool := ((impl_EqualProofs.md a0 (⟨0, []⟩ : MProof)) : Bool)
def gd (a0 : MProof) : Prop := (MProof.Sm (2 ^ 21) a0)
def acc (ls : List L) : RProof := (RProof.dec ls)
noncomputable def R : RProof → Option Bool := RR gd md
theorem R_eq {a0} (h : gd a0) : R (MProof.r a0) = some (md a0) := RR_eq (a := a0) h
noncomputable def con : Con := CN pats res acc R
theorem okF (a0 : MProof) (hg : gd a0) : F (MProof.r a0) = ret ((md a0) : Bool) := by
  unfold gd at hg
  have H0 := hg
  unfold F md
  try simp only [S0]
  refine call_to (impl_EqualProofs.md a0 (⟨0, []⟩ : MProof)) (impl_EqualProofs.R_eq (a0 := a0) (a1 := (⟨0, []⟩ : MProof)) ⟨H0, SmL.nil⟩) ?_
  first | rfl | (simp only [S0, MP]; first | done | rfl)
theorem valid_ : Valid Tryz.prog Ev 182 con := VV (run := fun _ x => F x) mix tab_ok (.cons impl_EqualProofs.valid_ .nil) Tryz.func182 (by kernel_rfl) run_eq (fun _ a _ _ hg => ⟨0, okF a hg⟩)
end impl_isZeroProof
/-! impl.neighbourHolds -/
namespace impl_neighbourHolds
noncomputable def F (x0 : Int) (x1 : Int) (x2 : REntry) (x3 : RProof) (x4 : Int) : Ans := (call (impl_InRange.R (x4, 0, (IntKind.i64.wrap (x1 - 1)))) fun v1 => (bif (!v1) then (call (impl_isZeroEntry.R x2) fun v2 => (bif v2 then (call (impl_isZeroProof.R x3) fun v3 => ret (v3 : Bool)) else ret (false : Bool))) else (call (impl_CheckEntry.R (x0, x1, x2, x3)) fun v4 => (bif v4 then ret ((x3.fAt == x4) : Bool) else ret (false : Bool)))))
def pats : List Pat := [.rd (.int .i64), .rd (.int .i64), .agg [.str, .int .i64, .int .i64, .sl 9], .agg [.int .i64, .sl 3], .rd (.int .i64)]
def res : RP := .one (.rd (.bool))
noncomputable abbrev E : Env := ⟨assoc Tab, conG [(88, impl_InRange.con), (181, impl_isZeroEntry.con), (182, impl_isZeroProof.con), (179, impl_CheckEntry.con)], 33⟩
set_option maxRecDepth 100000
theorem run_eq (n : Nat) (ls : List L) : runF E (fun _ => []) Tryz.f233 res n (initS pats ls) = F (ls.headD .hole).toInt ((dropT 1 ls).headD .hole).toInt (REntry.dec (dropT 2 ls)) (RProof.dec (dropT 6 ls)) ((dropT 8 ls).headD .hole).toInt := by kernel_rfl
noncomputable def md (a0 : Int) (a1 : Int) (a2 : MEntry) (a3 : MProof) (a4 : Int) : Bool := (bif (!(impl_InRange.md a4 0 (IntKind.i64.wrap (a1 - 1)))) then (bif (impl_isZeroEntry.md a2) then ((impl_isZeroProof.md a3) : Bool) else (false : Bool)) else (bif (impl_CheckEntry.md a0 a1 a2 a3) then ((a3.fAt == a4) : Bool) else (false : Bool)))
def gd (a0 : Int) (a1 : Int) (a2 : MEntry) (a3 : MProof) (a4 : Int) : Prop := (MEntry.Sm (2 ^ 21) a2) ∧ (MProof.Sm (2 ^ 21) a3)
def acc (ls : List L) : Int × Int × REntry × RProof × Int := ((ls.headD .hole).toInt, ((dropT 1 ls).headD .hole).toInt, (REntry.dec (dropT 2 ls)), (RProof.dec (dropT 6 ls)), ((dropT 8 ls).headD .hole).toInt)
noncomputable def R : (Int × Int × REntry × RProof × Int) → Option Bool := RR (p5 gd) (u5 md)
theorem R_eq {a0} {a1} {a2} {a3} {a4} (h : gd a0 a1 a2 a3 a4) : R (a0, a1, (MEntry.r a2), (MProof.r a3), a4) = some (md a0 a1 a2 a3 a4) := RR_eq (a := (a0, a1, a2, a3, a4)) h
noncomputable def con : Con := CN pats res acc R
theorem okF (a0 : Int) (a1 : Int) (a2 : MEntry) (a3 : MProof) (a4 : Int) (hg : gd a0 a1 a2 a3 a4) : F a0 a1 (MEntry.r a2) (MProof.r a3) a4 = ret ((md a0 a1 a2 a3 a4) : Bool) := by
  unfold gd at hg
  obtain ⟨H2, H3⟩ := hg
  unfold F md
  try simp only [S0, MProof.rs]
  refine call_to (impl_InRange.md a4 0 (IntKind.i64.wrap (a1 - 1))) (impl_InRange.R_eq (a0 := a4) (a1 := 0) (a2 := (IntKind.i64.wrap (a1 - 1))) trivial) ?_
  refine bif_out ret (fun c1 => ?_) (fun c1 => ?_)
  · refine call_to (impl_isZeroEntry.md a2) (impl_isZeroEntry.R_eq (a0 := a2) H2) ?_
    refine bif_out ret (fun c2 => ?_) (fun _ => rfl)
    refine call_to (impl_isZeroProof.md a3) (impl_isZeroProof.R_eq (a0 := a3) H3) ?_
    first | rfl | (simp only [S0, MProof.rs, MP]; first | done | rfl)
  · refine call_to (impl_CheckEntry.md a0 a1 a2 a3) (impl_CheckEntry.R_eq (a0 := a0) (a1 := a1) (a2 := a2) (a3 := a3) ⟨H2, H3⟩) ?_
    refine bif_out ret (fun c3 => ?_) (fun _ => rfl)
    first | rfl | (simp only [S0, MProof.rs, MP]; first | done | rfl)
theorem valid_ : Valid Tryz.prog Ev 233 con := VV (run := fun _ x => F x.1 x.2.1 x.2.2.1 x.2.2.2.1 x.2.2.2.2) mix tab_ok (.cons impl_InRange.valid_ (.cons impl_isZeroEntry.valid_ (.cons impl_isZeroProof.valid_ (.cons impl_CheckEntry.valid_ .nil)))) Tryz.func233 (by kernel_rfl) run_eq (fun _ a _ _ hg => ⟨0, okF a.1 a.2.1 a.2.2.1 a.2.2.2.1 a.2.2.2.2 hg⟩)
end impl_neighbourHolds
namespace internal_bytealg_CompareString
set_option maxHeartbeats 1000000 in
set_option maxRecDepth 100000 in
open Go.RowKit in
theorem calls (a b : ByteArray) (w : World) : Calls Tryz.prog 269 #[.string a, .string b] w fun e w' => e = .returned (.int .i64 (Lib.compareBytes a.data.toList b.data.toList)) ∧ w' = w := by
  go_enter Tryz.func269, Tryz.ntmps269
  go_wp2
  rw [run_callFunc_extern Tryz.func276 (by kernel_rfl) (by kernel_rfl) (by kernel_rfl) (e := Extern.BytealgCompare.compare) (by kernel_rfl), Lib.run_compareString]
  simp only [Result.andThen]
  rw [Oper.upon_value]
  go_wp2
  go_ret
  exact ⟨rfl, rfl⟩
noncomputable def md (a0 a1 : ByteArray) : Int := Lib.compareBytes a0.data.toList a1.data.toList
noncomputable def R (x : ByteArray × ByteArray) : Option Int := some (md x.1 x.2)
theorem R_eq {a0 a1 : ByteArray} (_ : True) : R (a0, a1) = some (md a0 a1) := rfl
noncomputable def sem : List L → Option (List L)
  | [y0, y1] => (R (y0.toStr, y1.toStr)).map RT.enc
  | _ => none
noncomputable def con : Con := ⟨[.rd .str, .rd .str], .one (.rd (.int .i64)), sem⟩
theorem valid_ : Valid Tryz.prog Ev 269 con := by
  refine valid_still ⟨Tryz.f269, Tryz.func269, by kernel_rfl, by kernel_rfl⟩ rfl (fun _ => rfl) fun ls r w vs Z hs hf => ?_
  simp only [con] at hs
  unfold sem at hs
  split at hs
  · rename_i a b
    cases hf with
    | cons h1 ht =>
      cases ht with
      | cons h2 ht =>
        cases ht
        have e1 : _ = Value.string a.toStr := h1
        have e2 : _ = Value.string b.toStr := h2
        subst e1; subst e2
        refine (calls a.toStr b.toStr w).mono fun e w' ⟨h3, h4⟩ => ⟨_, h3, h4, ?_⟩
        injection hs with hs
        subst hs
        rfl
  · cases hs
end internal_bytealg_CompareString
/-! strings.Compare -/
namespace strings_Compare
noncomputable def F (x0 : ByteArray) (x1 : ByteArray) : Ans := (call (internal_bytealg_CompareString.R (x0, x1)) fun v1 => ret (v1 : Int))
def pats : List Pat := [.rd (.str), .rd (.str)]
def res : RP := .one (.rd (.int .i64))
noncomputable abbrev E : Env := ⟨assoc Tab, conG [(269, internal_bytealg_CompareString.con)], 8⟩
set_option maxRecDepth 100000
theorem run_eq (n : Nat) (ls : List L) : runF E (fun _ => []) Tryz.f258 res n (initS pats ls) = F (ls.headD .hole).toStr ((dropT 1 ls).headD .hole).toStr := by kernel_rfl
noncomputable def md (a0 : ByteArray) (a1 : ByteArray) : Int := ((internal_bytealg_CompareString.md a0 a1) : Int)
def gd (a0 : ByteArray) (a1 : ByteArray) : Prop := True
def acc (ls : List L) : ByteArray × ByteArray := ((ls.headD .hole).toStr, ((dropT 1 ls).headD .hole).toStr)
noncomputable def R : (ByteArray × ByteArray) → Option Int := RR (p2 gd) (u2 md)
theorem R_eq {a0} {a1} (h : gd a0 a1) : R (a0, a1) = some (md a0 a1) := RR_eq (a := (a0, a1)) h
noncomputable def con : Con := CN pats res acc R
theorem okF (a0 : ByteArray) (a1 : ByteArray) (hg : gd a0 a1) : F a0 a1 = ret ((md a0 a1) : Int) := by
  unfold F md
  try simp only [S0]
  refine call_to (internal_bytealg_CompareString.md a0 a1) (internal_bytealg_CompareString.R_eq (a0 := a0) (a1 := a1) trivial) ?_
  first | rfl | (simp only [S0, MP]; first | done | rfl)
theorem valid_ : Valid Tryz.prog Ev 258 con := VV (run := fun _ x => F x.1 x.2) mix tab_ok (.cons internal_bytealg_CompareString.valid_ .nil) Tryz.func258 (by kernel_rfl) run_eq (fun _ a _ _ hg => ⟨0, okF a.1 a.2 hg⟩)
end strings_Compare
/-! impl.CompareLabels -/
namespace impl_CompareLabels
noncomputable def F (x0 : ByteArray) (x1 : ByteArray) : Ans := (call (strings_Compare.R (x0, x1)) fun v1 => ret (v1 : Int))
def pats : List Pat := [.rd (.str), .rd (.str)]
def res : RP := .one (.rd (.int .i64))
noncomputable abbrev E : Env := ⟨assoc Tab, conG [(258, strings_Compare.con)], 8⟩
set_option maxRecDepth 100000
theorem run_eq (n : Nat) (ls : List L) : runF E (fun _ => []) Tryz.f234 res n (initS pats ls) = F (ls.headD .hole).toStr ((dropT 1 ls).headD .hole).toStr := by kernel_rfl
noncomputable def md (a0 : ByteArray) (a1 : ByteArray) : Int := ((strings_Compare.md a0 a1) : Int)
def gd (a0 : ByteArray) (a1 : ByteArray) : Prop := True
def acc (ls : List L) : ByteArray × ByteArray := ((ls.headD .hole).toStr, ((dropT 1 ls).headD .hole).toStr)
noncomputable def R : (ByteArray × ByteArray) → Option Int := RR (p2 gd) (u2 md)
theorem R_eq {a0} {a1} (h : gd a0 a1) : R (a0, a1) = some (md a0 a1) := RR_eq (a := (a0, a1)) h
noncomputable def con : Con := CN pats res acc R
theorem okF (a0 : ByteArray) (a1 : ByteArray) (hg : gd a0 a1) : F a0 a1 = ret ((md a0 a1) : Int) := by
  unfold F md
  try simp only [S0]
  refine call_to (strings_Compare.md a0 a1) (strings_Compare.R_eq (a0 := a0) (a1 := a1) trivial) ?_
  first | rfl | (simp only [S0, MP]; first | done | rfl)
theorem valid_ : Valid Tryz.prog Ev 234 con := VV (run := fun _ x => F x.1 x.2) mix tab_ok (.cons strings_Compare.valid_ .nil) Tryz.func234 (by kernel_rfl) run_eq (fun _ a _ _ hg => ⟨0, okF a.1 a.2 hg⟩)
theorem cmp : ∀ a b : List UInt8, Lib.compareBytes a b = (bif Op.bytesLess a b then ((-1) : Int) else (bif (!((Op.bytesLess a b) || (a == b))) then (1 : Int) else (0 : Int)))
  | [], [] => by simp [Lib.compareBytes, Op.bytesLess]
  | [], _ :: _ => by simp [Lib.compareBytes, Op.bytesLess]
  | _ :: _, [] => by simp [Lib.compareBytes, Op.bytesLess]
  | a :: xs, b :: ys => by
    simp only [Lib.compareBytes, Op.bytesLess]
    rw [cmp xs ys]
    by_cases h1 : a < b
    · simp [h1]
    · by_cases h2 : b < a
      · have hne : a ≠ b := fun e => by subst e; exact h1 h2
        have hb : (a == b) = false := beq_eq_false_iff_ne.2 hne
        simp [h1, h2, hb, hne]
      · have he : a = b := by
          have := UInt8.lt_or_eq_of_le (UInt8.not_lt.1 h1)
          rcases this with h | h
          · exact (h2 h).elim
          · exact h.symm
        subst he
        simp [h1]
theorem br (a0 : ByteArray) (a1 : ByteArray) : md a0 a1 = spec_CompareLabels.md a0 a1 := by
  unfold md spec_CompareLabels.md strings_Compare.md internal_bytealg_CompareString.md
  rw [cmp, ByteArray.toList_eq, ByteArray.toList_eq]
end impl_CompareLabels
/-! impl.CheckAbsence -/
namespace impl_CheckAbsence
noncomputable def F (x0 : Int) (x1 : Int) (x2 : ByteArray) (x3 : RGap) : Ans := (call (impl_IsLabel.R x2) fun v1 => (bif (!v1) then ret (false : Bool) else (call (impl_InRange.R (x3.fAt, 0, x1)) fun v2 => (bif (!v2) then ret (false : Bool) else (bif (x1 == 0) then (call (impl_RootOf.R []) fun v3 => (bif (x0 != v3) then ret (false : Bool) else (call (impl_neighbourHolds.R (x0, x1, x3.fBefore, x3.fLeft, (IntKind.i64.wrap (x3.fAt - 1)))) fun v4 => (bif (!v4) then ret (false : Bool) else (call (impl_neighbourHolds.R (x0, x1, x3.fAfter, x3.fRight, x3.fAt)) fun v5 => (bif (!v5) then ret (false : Bool) else (bif (x3.fAt == 0) then (bif (x3.fAt == x1) then ret (true : Bool) else (call (impl_CompareLabels.R (x3.fAfter.fLabel, x2)) fun v6 => ret ((decide (v6 > 0)) : Bool))) else (call (impl_CompareLabels.R (x3.fBefore.fLabel, x2)) fun v7 => (bif (decide (v7 < 0)) then (bif (x3.fAt == x1) then ret (true : Bool) else (call (impl_CompareLabels.R (x3.fAfter.fLabel, x2)) fun v8 => ret ((decide (v8 > 0)) : Bool))) else ret (false : Bool)))))))))) else (call (impl_neighbourHolds.R (x0, x1, x3.fBefore, x3.fLeft, (IntKind.i64.wrap (x3.fAt - 1)))) fun v9 => (bif (!v9) then ret (false : Bool) else (call (impl_neighbourHolds.R (x0, x1, x3.fAfter, x3.fRight, x3.fAt)) fun v10 => (bif (!v10) then ret (false : Bool) else (bif (x3.fAt == 0) then (bif (x3.fAt == x1) then ret (true : Bool) else (call (impl_CompareLabels.R (x3.fAfter.fLabel, x2)) fun v11 => ret ((decide (v11 > 0)) : Bool))) else (call (impl_CompareLabels.R (x3.fBefore.fLabel, x2)) fun v12 => (bif (decide (v12 < 0)) then (bif (x3.fAt == x1) then ret (true : Bool) else (call (impl_CompareLabels.R (x3.fAfter.fLabel, x2)) fun v13 => ret ((decide (v13 > 0)) : Bool))) else ret (false : Bool)))))))))))))
def pats : List Pat := [.rd (.int .i64), .rd (.int .i64), .rd (.str), .agg [.int .i64, .str, .int .i64, .int .i64, .sl 9, .str, .int .i64, .int .i64, .sl 9, .int .i64, .sl 3, .int .i64, .sl 3]]
def res : RP := .one (.rd (.bool))
noncomputable abbrev E : Env := ⟨assoc Tab, conG [(231, impl_IsLabel.con), (88, impl_InRange.con), (232, impl_RootOf.con), (233, impl_neighbourHolds.con), (234, impl_CompareLabels.con)], 76⟩
set_option maxRecDepth 100000
theorem run_eq (n : Nat) (ls : List L) : runF E (fun _ => []) Tryz.f180 res n (initS pats ls) = F (ls.headD .hole).toInt ((dropT 1 ls).headD .hole).toInt ((dropT 2 ls).headD .hole).toStr (RGap.dec (dropT 3 ls)) := by kernel_rfl
noncomputable def md (a0 : Int) (a1 : Int) (a2 : ByteArray) (a3 : MGap) : Bool := (bif (!(impl_IsLabel.md a2)) then (false : Bool) else (bif (!(impl_InRange.md a3.fAt 0 a1)) then (false : Bool) else (bif (a1 == 0) then (bif (a0 != (impl_RootOf.md [])) then (false : Bool) else (bif (!(impl_neighbourHolds.md a0 a1 a3.fBefore a3.fLeft (IntKind.i64.wrap (a3.fAt - 1)))) then (false : Bool) else (bif (!(impl_neighbourHolds.md a0 a1 a3.fAfter a3.fRight a3.fAt)) then (false : Bool) else (bif (a3.fAt == 0) then (bif (a3.fAt == a1) then (true : Bool) else ((decide ((impl_CompareLabels.md a3.fAfter.fLabel a2) > 0)) : Bool)) else (bif (decide ((impl_CompareLabels.md a3.fBefore.fLabel a2) < 0)) then (bif (a3.fAt == a1) then (true : Bool) else ((decide ((impl_CompareLabels.md a3.fAfter.fLabel a2) > 0)) : Bool)) else (false : Bool)))))) else (bif (!(impl_neighbourHolds.md a0 a1 a3.fBefore a3.fLeft (IntKind.i64.wrap (a3.fAt - 1)))) then (false : Bool) else (bif (!(impl_neighbourHolds.md a0 a1 a3.fAfter a3.fRight a3.fAt)) then (false : Bool) else (bif (a3.fAt == 0) then (bif (a3.fAt == a1) then (true : Bool) else ((decide ((impl_CompareLabels.md a3.fAfter.fLabel a2) > 0)) : Bool)) else (bif (decide ((impl_CompareLabels.md a3.fBefore.fLabel a2) < 0)) then (bif (a3.fAt == a1) then (true : Bool) else ((decide ((impl_CompareLabels.md a3.fAfter.fLabel a2) > 0)) : Bool)) else (false : Bool))))))))
def gd (a0 : Int) (a1 : Int) (a2 : ByteArray) (a3 : MGap) : Prop := (a2.size ≤ (2 ^ 21)) ∧ (MGap.Sm (2 ^ 21) a3)
def acc (ls : List L) : Int × Int × ByteArray × RGap := ((ls.headD .hole).toInt, ((dropT 1 ls).headD .hole).toInt, ((dropT 2 ls).headD .hole).toStr, (RGap.dec (dropT 3 ls)))
noncomputable def R : (Int × Int × ByteArray × RGap) → Option Bool := RR (p4 gd) (u4 md)
theorem R_eq {a0} {a1} {a2} {a3} (h : gd a0 a1 a2 a3) : R (a0, a1, a2, (MGap.r a3)) = some (md a0 a1 a2 a3) := RR_eq (a := (a0, a1, a2, a3)) h
noncomputable def con : Con := CN pats res acc R
theorem okF (a0 : Int) (a1 : Int) (a2 : ByteArray) (a3 : MGap) (hg : gd a0 a1 a2 a3) : F a0 a1 a2 (MGap.r a3) = ret ((md a0 a1 a2 a3) : Bool) := by
  unfold gd at hg
  obtain ⟨H2, H3⟩ := hg
  unfold F md
  try simp only [S0, MEntry.rs, MProof.rs, MGap.rs]
  refine call_to (impl_IsLabel.md a2) (impl_IsLabel.R_eq (a0 := a2) H2) ?_
  refine bif_out ret (fun _ => rfl) (fun c1 => ?_)
  refine call_to (impl_InRange.md a3.fAt 0 a1) (impl_InRange.R_eq (a0 := a3.fAt) (a1 := 0) (a2 := a1) trivial) ?_
  refine bif_out ret (fun _ => rfl) (fun c2 => ?_)
  refine bif_out ret (fun c3 => ?_) (fun c3 => ?_)
  · refine call_to (impl_RootOf.md []) ?_ ?_
    · have R_ := impl_RootOf.R_eq (a0 := []) SmL.nil
      first | exact R_ | (simp only [MP, S0, MEntry.rs, MProof.rs, MGap.rs] at R_ ⊢; first | exact R_ | (rw [← R_]; rfl))
    refine bif_out ret (fun _ => rfl) (fun c4 => ?_)
    refine call_to (impl_neighbourHolds.md a0 a1 a3.fBefore a3.fLeft (IntKind.i64.wrap (a3.fAt - 1))) (impl_neighbourHolds.R_eq (a0 := a0) (a1 := a1) (a2 := a3.fBefore) (a3 := a3.fLeft) (a4 := (IntKind.i64.wrap (a3.fAt - 1))) ⟨H3.1, H3.2.2.1⟩) ?_
    refine bif_out ret (fun _ => rfl) (fun c5 => ?_)
    refine call_to (impl_neighbourHolds.md a0 a1 a3.fAfter a3.fRight a3.fAt) (impl_neighbourHolds.R_eq (a0 := a0) (a1 := a1) (a2 := a3.fAfter) (a3 := a3.fRight) (a4 := a3.fAt) ⟨H3.2.1, H3.2.2.2⟩) ?_
    refine bif_out ret (fun _ => rfl) (fun c6 => ?_)
    refine bif_out ret (fun c7 => ?_) (fun c7 => ?_)
    · refine bif_out ret (fun _ => rfl) (fun c8 => ?_)
      refine call_to (impl_CompareLabels.md a3.fAfter.fLabel a2) (impl_CompareLabels.R_eq (a0 := a3.fAfter.fLabel) (a1 := a2) trivial) ?_
      first | rfl | (simp only [S0, MEntry.rs, MProof.rs, MGap.rs, MP]; first | done | rfl)
    · refine call_to (impl_CompareLabels.md a3.fBefore.fLabel a2) (impl_CompareLabels.R_eq (a0 := a3.fBefore.fLabel) (a1 := a2) trivial) ?_
      refine bif_out ret (fun c9 => ?_) (fun _ => rfl)
      refine bif_out ret (fun _ => rfl) (fun c10 => ?_)
      refine call_to (impl_CompareLabels.md a3.fAfter.fLabel a2) (impl_CompareLabels.R_eq (a0 := a3.fAfter.fLabel) (a1 := a2) trivial) ?_
      first | rfl | (simp only [S0, MEntry.rs, MProof.rs, MGap.rs, MP]; first | done | rfl)
  · refine call_to (impl_neighbourHolds.md a0 a1 a3.fBefore a3.fLeft (IntKind.i64.wrap (a3.fAt - 1))) (impl_neighbourHolds.R_eq (a0 := a0) (a1 := a1) (a2 := a3.fBefore) (a3 := a3.fLeft) (a4 := (IntKind.i64.wrap (a3.fAt - 1))) ⟨H3.1, H3.2.2.1⟩) ?_
    refine bif_out ret (fun _ => rfl) (fun c11 => ?_)
    refine call_to (impl_neighbourHolds.md a0 a1 a3.fAfter a3.fRight a3.fAt) (impl_neighbourHolds.R_eq (a0 := a0) (a1 := a1) (a2 := a3.fAfter) (a3 := a3.fRight) (a4 := a3.fAt) ⟨H3.2.1, H3.2.2.2⟩) ?_
    refine bif_out ret (fun _ => rfl) (fun c12 => ?_)
    refine bif_out ret (fun c13 => ?_) (fun c13 => ?_)
    · refine bif_out ret (fun _ => rfl) (fun c14 => ?_)
      refine call_to (impl_CompareLabels.md a3.fAfter.fLabel a2) (impl_CompareLabels.R_eq (a0 := a3.fAfter.fLabel) (a1 := a2) trivial) ?_
      first | rfl | (simp only [S0, MEntry.rs, MProof.rs, MGap.rs, MP]; first | done | rfl)
    · refine call_to (impl_CompareLabels.md a3.fBefore.fLabel a2) (impl_CompareLabels.R_eq (a0 := a3.fBefore.fLabel) (a1 := a2) trivial) ?_
      refine bif_out ret (fun c15 => ?_) (fun _ => rfl)
      refine bif_out ret (fun _ => rfl) (fun c16 => ?_)
      refine call_to (impl_CompareLabels.md a3.fAfter.fLabel a2) (impl_CompareLabels.R_eq (a0 := a3.fAfter.fLabel) (a1 := a2) trivial) ?_
      first | rfl | (simp only [S0, MEntry.rs, MProof.rs, MGap.rs, MP]; first | done | rfl)
theorem valid_ : Valid Tryz.prog Ev 180 con := VV (run := fun _ x => F x.1 x.2.1 x.2.2.1 x.2.2.2) mix tab_ok (.cons impl_IsLabel.valid_ (.cons impl_InRange.valid_ (.cons impl_RootOf.valid_ (.cons impl_neighbourHolds.valid_ (.cons impl_CompareLabels.valid_ .nil))))) Tryz.func180 (by kernel_rfl) run_eq (fun _ a _ _ hg => ⟨0, okF a.1 a.2.1 a.2.2.1 a.2.2.2 hg⟩)
theorem brh (a0 : Int) (a1 : Int) (a2 : ByteArray) (a3 : MGap) (hc : a1 ≤ 1000) : md a0 a1 a2 a3 = spec_CheckAbsence.md a0 a1 a2 a3 := by
  unfold md spec_CheckAbsence.md impl_neighbourHolds.md spec_l12None.md impl_isZeroEntry.md impl_isZeroProof.md
  simp only [impl_IsLabel.br, impl_InRange.br, impl_RootOf.br, impl_CheckEntry.br, impl_EqualEntries.md_eq, spec_EqualEntries.md_eq, impl_EqualProofs.md_eq, spec_EqualProofs.md_eq, impl_CompareLabels.br, spec_CompareLabels.lt, spec_CompareLabels.gt]
  cases spec_IsLabel.md a2
  · rfl
  cases hr : spec_l1In.md a3.fAt 0 a1
  · rfl
  have hi : 0 ≤ a3.fAt ∧ a3.fAt ≤ a1 := by simpa [spec_l1In.md] using hr
  have w1 : IntKind.i64.wrap (a1 - 1) = a1 - 1 := Go.IntWalk.i64_in _ (by omega)
  have w2 : IntKind.i64.wrap (a3.fAt - 1) = a3.fAt - 1 := Go.IntWalk.i64_in _ (by omega)
  have e1 : spec_l1In.md (a3.fAt - 1) 0 (a1 - 1) = !(a3.fAt == 0) := by
    rw [Bool.eq_iff_iff]; simp [spec_l1In.md]; omega
  have e2 : spec_l1In.md a3.fAt 0 (a1 - 1) = !(a3.fAt == a1) := by
    rw [Bool.eq_iff_iff]; simp [spec_l1In.md]; omega
  simp only [w1, w2, e1, e2, bne]
  generalize (a3.fAt == 0) = z
  generalize (a3.fAt == a1) = e
  generalize (a1 == 0) = c0
  generalize (a0 == spec_RootOf.md []) = rt
  generalize eqB a3.fBefore _ = x1
  generalize eqB a3.fLeft _ = x2
  generalize eqB a3.fAfter _ = x3
  generalize eqB a3.fRight _ = x4
  generalize spec_CheckEntry.md a0 a1 a3.fBefore a3.fLeft = k1
  generalize spec_CheckEntry.md a0 a1 a3.fAfter a3.fRight = k2
  generalize (a3.fLeft.fAt == a3.fAt - 1) = p1
  generalize (a3.fRight.fAt == a3.fAt) = p2
  generalize (spec_CompareLabels.md a3.fBefore.fLabel a2 == -1) = m1
  generalize (spec_CompareLabels.md a3.fAfter.fLabel a2 == 1) = m2
  cases c0 <;> cases rt <;> cases z <;> cases e <;> cases x1 <;> cases x2 <;> cases k1 <;> cases p1 <;> cases m1 <;> first | rfl | (cases x3 <;> cases x4 <;> rfl) | (cases k2 <;> cases p2 <;> cases m2 <;> rfl)
end impl_CheckAbsence
/-! impl.isProved -/
namespace impl_isProved
noncomputable def F (x0 : RHead) (x1 : ByteArray) (x2 : RAnswer) : Ans := (bif x2.fFound then (bif (x2.fEntry.fLabel == x1) then (call (impl_CheckEntry.R (x0.fRoot, x0.fCount, x2.fEntry, x2.fProof)) fun v1 => (bif v1 then (call (impl_EqualGaps.R (x2.fGap, (⟨0, (⟨(⟨#[]⟩ : ByteArray), 0, 0, []⟩ : REntry), (⟨(⟨#[]⟩ : ByteArray), 0, 0, []⟩ : REntry), (⟨0, []⟩ : RProof), (⟨0, []⟩ : RProof)⟩ : RGap))) fun v2 => ret (v2 : Bool)) else ret (false : Bool))) else ret (false : Bool)) else (call (impl_CheckAbsence.R (x0.fRoot, x0.fCount, x1, x2.fGap)) fun v3 => (bif v3 then (call (impl_isZeroEntry.R x2.fEntry) fun v4 => (bif v4 then (call (impl_isZeroProof.R x2.fProof) fun v5 => ret (v5 : Bool)) else ret (false : Bool))) else ret (false : Bool))))
def pats : List Pat := [.agg [.int .i64, .int .i64, .int .i64, .int .i64, .int .i64, .int .i64, .int .i64, .int .i64, .sl 3, .int .i64, .sl 3, .int .i64, .int .i64, .sl 3, .int .i64, .bool], .rd (.str), .agg [.sl 92, .bool, .str, .int .i64, .int .i64, .sl 9, .int .i64, .sl 3, .int .i64, .str, .int .i64, .int .i64, .sl 9, .str, .int .i64, .int .i64, .sl 9, .int .i64, .sl 3, .int .i64, .sl 3]]
def res : RP := .one (.rd (.bool))
noncomputable abbrev E : Env := ⟨assoc Tab, conG [(179, impl_CheckEntry.con), (162, impl_EqualGaps.con), (180, impl_CheckAbsence.con), (181, impl_isZeroEntry.con), (182, impl_isZeroProof.con)], 49⟩
set_option maxRecDepth 100000
theorem run_eq (n : Nat) (ls : List L) : runF E (fun _ => []) Tryz.f133 res n (initS pats ls) = F (RHead.dec ls) ((dropT 16 ls).headD .hole).toStr (RAnswer.dec (dropT 17 ls)) := by kernel_rfl
noncomputable def md (a0 : MHead) (a1 : ByteArray) (a2 : MAnswer) : Bool := (bif a2.fFound then (bif (a2.fEntry.fLabel == a1) then (bif (impl_CheckEntry.md a0.fRoot a0.fCount a2.fEntry a2.fProof) then ((impl_EqualGaps.md a2.fGap (⟨0, (⟨((⟨#[]⟩ : ByteArray) : ByteArray), 0, 0, []⟩ : MEntry), (⟨((⟨#[]⟩ : ByteArray) : ByteArray), 0, 0, []⟩ : MEntry), (⟨0, []⟩ : MProof), (⟨0, []⟩ : MProof)⟩ : MGap)) : Bool) else (false : Bool)) else (false : Bool)) else (bif (impl_CheckAbsence.md a0.fRoot a0.fCount a1 a2.fGap) then (bif (impl_isZeroEntry.md a2.fEntry) then ((impl_isZeroProof.md a2.fProof) : Bool) else (false : Bool)) else (false : Bool)))
def gd (a0 : MHead) (a1 : ByteArray) (a2 : MAnswer) : Prop := (a1.size ≤ (2 ^ 21)) ∧ (MAnswer.Sm (2 ^ 21) a2)
def acc (ls : List L) : RHead × ByteArray × RAnswer := ((RHead.dec ls), ((dropT 16 ls).headD .hole).toStr, (RAnswer.dec (dropT 17 ls)))
noncomputable def R : (RHead × ByteArray × RAnswer) → Option Bool := RR (p3 gd) (u3 md)
theorem R_eq {a0} {a1} {a2} (h : gd a0 a1 a2) : R ((MHead.r a0), a1, (MAnswer.r a2)) = some (md a0 a1 a2) := RR_eq (a := (a0, a1, a2)) h
noncomputable def con : Con := CN pats res acc R
theorem okF (a0 : MHead) (a1 : ByteArray) (a2 : MAnswer) (hg : gd a0 a1 a2) : F (MHead.r a0) a1 (MAnswer.r a2) = ret ((md a0 a1 a2) : Bool) := by
  unfold gd at hg
  obtain ⟨H1, H2⟩ := hg
  unfold F md
  try simp only [S0, MHead.rs, MEntry.rs, MAnswer.rs]
  refine bif_out ret (fun c1 => ?_) (fun c1 => ?_)
  · refine bif_out ret (fun c2 => ?_) (fun _ => rfl)
    refine call_to (impl_CheckEntry.md a0.fRoot a0.fCount a2.fEntry a2.fProof) (impl_CheckEntry.R_eq (a0 := a0.fRoot) (a1 := a0.fCount) (a2 := a2.fEntry) (a3 := a2.fProof) ⟨H2.2.1, H2.2.2.1⟩) ?_
    refine bif_out ret (fun c3 => ?_) (fun _ => rfl)
    refine call_to (impl_EqualGaps.md a2.fGap (⟨0, (⟨((⟨#[]⟩ : ByteArray) : ByteArray), 0, 0, []⟩ : MEntry), (⟨((⟨#[]⟩ : ByteArray) : ByteArray), 0, 0, []⟩ : MEntry), (⟨0, []⟩ : MProof), (⟨0, []⟩ : MProof)⟩ : MGap)) (impl_EqualGaps.R_eq (a0 := a2.fGap) (a1 := (⟨0, (⟨((⟨#[]⟩ : ByteArray) : ByteArray), 0, 0, []⟩ : MEntry), (⟨((⟨#[]⟩ : ByteArray) : ByteArray), 0, 0, []⟩ : MEntry), (⟨0, []⟩ : MProof), (⟨0, []⟩ : MProof)⟩ : MGap)) ⟨H2.2.2.2, ⟨⟨(by decide), SmL.nil⟩, ⟨(by decide), SmL.nil⟩, SmL.nil, SmL.nil⟩⟩) ?_
    first | rfl | (simp only [S0, MHead.rs, MEntry.rs, MAnswer.rs, MP]; first | done | rfl)
  · refine call_to (impl_CheckAbsence.md a0.fRoot a0.fCount a1 a2.fGap) (impl_CheckAbsence.R_eq (a0 := a0.fRoot) (a1 := a0.fCount) (a2 := a1) (a3 := a2.fGap) ⟨H1, H2.2.2.2⟩) ?_
    refine bif_out ret (fun c4 => ?_) (fun _ => rfl)
    refine call_to (impl_isZeroEntry.md a2.fEntry) (impl_isZeroEntry.R_eq (a0 := a2.fEntry) H2.2.1) ?_
    refine bif_out ret (fun c5 => ?_) (fun _ => rfl)
    refine call_to (impl_isZeroProof.md a2.fProof) (impl_isZeroProof.R_eq (a0 := a2.fProof) H2.2.2.1) ?_
    first | rfl | (simp only [S0, MHead.rs, MEntry.rs, MAnswer.rs, MP]; first | done | rfl)
theorem valid_ : Valid Tryz.prog Ev 133 con := VV (run := fun _ x => F x.1 x.2.1 x.2.2) mix tab_ok (.cons impl_CheckEntry.valid_ (.cons impl_EqualGaps.valid_ (.cons impl_CheckAbsence.valid_ (.cons impl_isZeroEntry.valid_ (.cons impl_isZeroProof.valid_ .nil))))) Tryz.func133 (by kernel_rfl) run_eq (fun _ a _ _ hg => ⟨0, okF a.1 a.2.1 a.2.2 hg⟩)
theorem brh (a0 : MHead) (a1 : ByteArray) (a2 : MAnswer) (hc : a0.fCount ≤ 1000) : md a0 a1 a2 = spec_l21Proved.md a0 a1 a2 := by
  unfold md spec_l21Proved.md spec_l12None.md impl_isZeroEntry.md impl_isZeroProof.md
  simp only [impl_CheckAbsence.brh _ _ _ _ hc, impl_CheckEntry.br, impl_EqualEntries.md_eq, spec_EqualEntries.md_eq, impl_EqualProofs.md_eq, spec_EqualProofs.md_eq, impl_EqualGaps.md_eq, spec_EqualGaps.md_eq]
end impl_isProved
/-! impl.CheckAnswer -/
namespace impl_CheckAnswer
noncomputable def F (x0 : Int) (x1 : ByteArray) (x2 : RAnswer) (x3 : Int) : Ans := (call (impl_LastHead.R x2.fChain) fun v1 => (bif (!v1.2) then ret (3 : Int) else (bif (v1.1.fZone != x0) then ret (2 : Int) else (call (impl_IsFresh.R (v1.1, x3)) fun v2 => (bif (!v2) then ret (4 : Int) else (bif v1.1.fFrozen then ret (5 : Int) else (call (impl_isProved.R (v1.1, x1, x2)) fun v3 => (bif (!v3) then ret (6 : Int) else ret (1 : Int)))))))))
def pats : List Pat := [.rd (.int .i64), .rd (.str), .agg [.sl 92, .bool, .str, .int .i64, .int .i64, .sl 9, .int .i64, .sl 3, .int .i64, .str, .int .i64, .int .i64, .sl 9, .str, .int .i64, .int .i64, .sl 9, .int .i64, .sl 3, .int .i64, .sl 3], .rd (.int .i64)]
def res : RP := .one (.rd (.int .i64))
noncomputable abbrev E : Env := ⟨assoc Tab, conG [(69, impl_LastHead.con), (132, impl_IsFresh.con), (133, impl_isProved.con)], 39⟩
set_option maxRecDepth 100000
theorem run_eq (n : Nat) (ls : List L) : runF E (fun _ => []) Tryz.f79 res n (initS pats ls) = F (ls.headD .hole).toInt ((dropT 1 ls).headD .hole).toStr (RAnswer.dec (dropT 2 ls)) ((dropT 23 ls).headD .hole).toInt := by kernel_rfl
noncomputable def md (a0 : Int) (a1 : ByteArray) (a2 : MAnswer) (a3 : Int) : Int := (bif (!(impl_LastHead.md a2.fChain).2) then (3 : Int) else (bif ((impl_LastHead.md a2.fChain).1.fZone != a0) then (2 : Int) else (bif (!(impl_IsFresh.md ((impl_LastHead.md a2.fChain).1) a3)) then (4 : Int) else (bif (impl_LastHead.md a2.fChain).1.fFrozen then (5 : Int) else (bif (!(impl_isProved.md ((impl_LastHead.md a2.fChain).1) a1 a2)) then (6 : Int) else (1 : Int))))))
def gd (a0 : Int) (a1 : ByteArray) (a2 : MAnswer) (a3 : Int) : Prop := (a1.size ≤ (2 ^ 21)) ∧ (MAnswer.Sm (2 ^ 21) a2)
def acc (ls : List L) : Int × ByteArray × RAnswer × Int := ((ls.headD .hole).toInt, ((dropT 1 ls).headD .hole).toStr, (RAnswer.dec (dropT 2 ls)), ((dropT 23 ls).headD .hole).toInt)
noncomputable def R : (Int × ByteArray × RAnswer × Int) → Option Int := RR (p4 gd) (u4 md)
theorem R_eq {a0} {a1} {a2} {a3} (h : gd a0 a1 a2 a3) : R (a0, a1, (MAnswer.r a2), a3) = some (md a0 a1 a2 a3) := RR_eq (a := (a0, a1, a2, a3)) h
noncomputable def con : Con := CN pats res acc R
theorem okF (a0 : Int) (a1 : ByteArray) (a2 : MAnswer) (a3 : Int) (hg : gd a0 a1 a2 a3) : F a0 a1 (MAnswer.r a2) a3 = ret ((md a0 a1 a2 a3) : Int) := by
  unfold gd at hg
  obtain ⟨H1, H2⟩ := hg
  unfold F md
  try simp only [S0, MHead.rs, MAnswer.rs]
  refine call_to ((MHead.r (impl_LastHead.md a2.fChain).1), (impl_LastHead.md a2.fChain).2) (impl_LastHead.R_eq (a0 := a2.fChain) H2.1) ?_
  try simp only [S0, MHead.rs, MAnswer.rs]
  refine bif_out ret (fun _ => rfl) (fun c1 => ?_)
  refine bif_out ret (fun _ => rfl) (fun c2 => ?_)
  refine call_to (impl_IsFresh.md ((impl_LastHead.md a2.fChain).1) a3) (impl_IsFresh.R_eq (a0 := (impl_LastHead.md a2.fChain).1) (a1 := a3) trivial) ?_
  refine bif_out ret (fun _ => rfl) (fun c3 => ?_)
  refine bif_out ret (fun _ => rfl) (fun c4 => ?_)
  refine call_to (impl_isProved.md ((impl_LastHead.md a2.fChain).1) a1 a2) (impl_isProved.R_eq (a0 := (impl_LastHead.md a2.fChain).1) (a1 := a1) (a2 := a2) ⟨H1, H2⟩) ?_
  refine bif_out ret (fun _ => rfl) (fun _ => rfl)
theorem valid_ : Valid Tryz.prog Ev 79 con := VV (run := fun _ x => F x.1 x.2.1 x.2.2.1 x.2.2.2) mix tab_ok (.cons impl_LastHead.valid_ (.cons impl_IsFresh.valid_ (.cons impl_isProved.valid_ .nil))) Tryz.func79 (by kernel_rfl) run_eq (fun _ a _ _ hg => ⟨0, okF a.1 a.2.1 a.2.2.1 a.2.2.2 hg⟩)
theorem br (a0 : Int) (a1 : ByteArray) (a2 : MAnswer) (a3 : Int) : md a0 a1 a2 a3 = spec_CheckAnswer.md a0 a1 a2 a3 := by
  unfold md spec_CheckAnswer.md
  simp only [impl_LastHead.br, impl_IsFresh.br]
  cases hok : (spec_LastHead.md a2.fChain).2
  · rfl
  · have := spec_IsHead.tr (spec_LastHead.head hok).2.2
    rw [impl_isProved.brh _ _ _ (by omega)]
end impl_CheckAnswer
/-! impl.IsCache -/
namespace impl_IsCache
inductive Pt where
  | p0 (a : List (List L)) (b : Int) (c : Int) (d : RCache)
def pid : Pt → Nat
  | .p0 .. => 2
def pvs : Pt → List V
  | .p0 a b c d => [.bptr 0 0, .sl none 124 a, .int .i64 b, .int .i64 c]
def phs : Pt → List Root
  | .p0 a b c d => [.box [.sl none 124 d.fList]]
noncomputable def step (J : Pt → Ans) : Pt → Ans
  | .p0 a b c d => (bif (decide (c < b)) then (bif (decide ((0 : Int) ≤ c)) then (bif (decide (c < (a.length : Int))) then (call (impl_LastHead.R ((RStored.at a (Int.toNat c)).fAnswer.fChain)) fun v1 => (bif (!v1.2) then ret (false : Bool) else (call (impl_Cache_find.R (d, (RStored.at a (Int.toNat c)).fZone, (RStored.at a (Int.toNat c)).fLabel)) fun v2 => (bif (v2 != c) then ret (false : Bool) else (call (impl_CheckAnswer.R ((RStored.at a (Int.toNat c)).fZone, (RStored.at a (Int.toNat c)).fLabel, (RStored.at a (Int.toNat c)).fAnswer, v1.1.fTime)) fun v3 => (bif (v3 != 1) then ret (false : Bool) else J (.p0 a b (IntKind.i64.wrap (c + 1)) d))))))) else none) else none) else ret ((decide ((d.fList.length : Int) ≤ 16)) : Bool))
noncomputable def start (J : Pt → Ans) (x0 : RCache) : Ans := J (.p0 x0.fList (x0.fList.length : Int) 0 x0)
def live : Nat → Live := fun i => match i with | 2 => [(1, none), (8, none), (9, none), (10, none)] | _ => []
def pats : List Pat := [.agg [.sl 124]]
def res : RP := .one (.rd (.bool))
noncomputable abbrev E : Env := ⟨assoc Tab, conG [(69, impl_LastHead.con), (78, impl_Cache_find.con), (79, impl_CheckAnswer.con)], 51⟩
set_option maxRecDepth 100000
theorem step_eq (I : Heads) (p : Pt) : enterC E live I (pid p) (bodyOf Tryz.f38) (stOf (live (pid p)) (pvs p) (phs p)) (doneK E Tryz.f38 res) = step (fun q => I (pid q) (pvs q) (phs q)) p := by
  cases p <;> kernel_rfl
theorem start_eq (I : Heads) (ls : List L) : runC E live I (bodyOf Tryz.f38) (initS pats ls) (doneK E Tryz.f38 res) = start (fun q => I (pid q) (pvs q) (phs q)) (RCache.dec ls) := by kernel_rfl
theorem run_eq (n : Nat) (ls : List L) : runF E live Tryz.f38 res n (initS pats ls) = start (iter step n) (RCache.dec ls) := runF_iter (id := pid) (vs := pvs) (hs := phs) (step := step) (start := fun J => start J (RCache.dec ls)) step_eq (fun I => start_eq I ls) n
noncomputable def md (a0 : MCache) : Bool := (eachI (S := Unit) (β := Bool) (fun (i1 : Nat) (y1 : MStored) (s3 : Unit) => (bif (!(impl_LastHead.md ((y1.fAnswer).fChain)).2) then (.inr (false : Bool)) else (bif ((impl_Cache_find.md a0 (y1.fZone) (y1.fLabel)) != (i1 : Int)) then (.inr (false : Bool)) else (bif ((impl_CheckAnswer.md (y1.fZone) (y1.fLabel) (y1.fAnswer) ((impl_LastHead.md ((y1.fAnswer).fChain)).1.fTime)) != 1) then (.inr (false : Bool)) else (.inl ()))))) (fun (s3 : Unit) => ((decide ((a0.fList.length : Int) ≤ 16)) : Bool)) 0 a0.fList ())
def gd (a0 : MCache) : Prop := (MCache.Sm (2 ^ 21) a0)
def acc (ls : List L) : RCache := (RCache.dec ls)
noncomputable def R : RCache → Option Bool := RR gd md
theorem R_eq {a0} (h : gd a0) : R (MCache.r a0) = some (md a0) := RR_eq (a := a0) h
noncomputable def con : Con := CN pats res acc R
theorem okF (a0 : MCache) (hg : gd a0) : ∃ n, start (iter step n) (MCache.r a0) = ret ((md a0) : Bool) := by
  unfold gd at hg
  have H0 := hg
  unfold start md
  try simp only [S0, MKeys.rs, MHead.rs, MEntry.rs, MAnswer.rs, MStored.rs, MCache.rs]
  have Bh2 : a0.fList.length ≤ maxLen := (by
      have := (H0).1
      try simp only [maxLen] at *
      omega)
  refine ex_eq (out := ret) (loopM_eachI (z := MStored.zero)) ?_
  refine ex_pt (p := Pt.p0 (a0.fList.map MStored.row) (a0.fList.length : Int) 0 (MCache.r a0)) (by first | rfl | (simp only [S0, MKeys.rs, MHead.rs, MEntry.rs, MAnswer.rs, MStored.rs, MCache.rs, MP]; done) | (simp only [MP]; rfl)) ?_
  refine loopM_ok (pt := fun (i1 : Nat) (s3 : Unit) => Pt.p0 (a0.fList.map MStored.row) (a0.fList.length : Int) (i1 : Int) (MCache.r a0)) (s := (() : Unit)) (out := ret) (fun _ _ => True) (fun J i1 s3 h2 hih2 => ?_) (fun s3 hih2 => ?_) trivial
  · simp only [step, S0, MKeys.rs, MHead.rs, MEntry.rs, MAnswer.rs, MStored.rs, MCache.rs]
    have bb_ := Bh2
    simp only [maxLen] at bb_
    have := (H0).1
    refine Rnd.yes (by apply decide_eq_true; omega) ?_
    refine Rnd.yes zle_dec ?_
    refine Rnd.yes (lt_dec h2) ?_
    refine Rnd.call_to ((MHead.r (impl_LastHead.md (((a0.fList.getD i1 MStored.zero).fAnswer).fChain)).1), (impl_LastHead.md (((a0.fList.getD i1 MStored.zero).fAnswer).fChain)).2) (impl_LastHead.R_eq (a0 := ((a0.fList.getD i1 MStored.zero).fAnswer).fChain) (SmL.getD (z := MStored.zero) H0 h2).2.1) ?_
    try simp only [S0, MKeys.rs, MHead.rs, MEntry.rs, MAnswer.rs, MStored.rs, MCache.rs]
    refine Rnd.bif (fun _ => Rnd.inr rfl) (fun c4 => ?_)
    refine Rnd.call_to (impl_Cache_find.md a0 ((a0.fList.getD i1 MStored.zero).fZone) ((a0.fList.getD i1 MStored.zero).fLabel)) (impl_Cache_find.R_eq (a0 := a0) (a1 := (a0.fList.getD i1 MStored.zero).fZone) (a2 := (a0.fList.getD i1 MStored.zero).fLabel) H0) ?_
    have fv2_ := impl_Cache_find.fa a0 ((a0.fList.getD i1 MStored.zero).fZone) ((a0.fList.getD i1 MStored.zero).fLabel)
    refine Rnd.bif (fun _ => Rnd.inr rfl) (fun c5 => ?_)
    refine Rnd.call_to (impl_CheckAnswer.md ((a0.fList.getD i1 MStored.zero).fZone) ((a0.fList.getD i1 MStored.zero).fLabel) ((a0.fList.getD i1 MStored.zero).fAnswer) ((impl_LastHead.md (((a0.fList.getD i1 MStored.zero).fAnswer).fChain)).1.fTime)) (impl_CheckAnswer.R_eq (a0 := (a0.fList.getD i1 MStored.zero).fZone) (a1 := (a0.fList.getD i1 MStored.zero).fLabel) (a2 := (a0.fList.getD i1 MStored.zero).fAnswer) (a3 := (impl_LastHead.md (((a0.fList.getD i1 MStored.zero).fAnswer).fChain)).1.fTime) ⟨(SmL.getD (z := MStored.zero) H0 h2).1, (SmL.getD (z := MStored.zero) H0 h2).2⟩) ?_
    refine Rnd.bif (fun _ => Rnd.inr rfl) (fun c6 => ?_)
    refine Rnd.inl trivial ?_
    rw [wrap_succ h2 Bh2]
    all_goals first | rfl | (simp only [S0, MKeys.rs, MHead.rs, MEntry.rs, MAnswer.rs, MStored.rs, MCache.rs, MP]; first | done | rfl)
  · simp only [step, S0, MKeys.rs, MHead.rs, MEntry.rs, MAnswer.rs, MStored.rs, MCache.rs]
    have := (H0).1
    refine ex_no (by apply decide_eq_false; omega) ?_
    refine ⟨0, ?_⟩
    first | rfl | (simp only [S0, MKeys.rs, MHead.rs, MEntry.rs, MAnswer.rs, MStored.rs, MCache.rs, MP]; first | done | rfl)
theorem valid_ : Valid Tryz.prog Ev 38 con := VV (run := fun n x => start (iter step n) x) mix tab_ok (.cons impl_LastHead.valid_ (.cons impl_Cache_find.valid_ (.cons impl_CheckAnswer.valid_ .nil))) Tryz.func38 (by kernel_rfl) run_eq (fun _ a _ _ hg => okF a hg)
theorem br (a0 : MCache) : md a0 = spec_IsCache.md a0 := by
  unfold md spec_IsCache.md
  refine eachI_congr (fun i x _ s => ?_) (fun s => rfl)
  simp only [impl_LastHead.br, impl_CheckAnswer.br, impl_Cache_find.br]
  cases hok : (spec_LastHead.md x.fAnswer.fChain).2
  · have : spec_CheckAnswer.md x.fZone x.fLabel x.fAnswer (spec_LastHead.md x.fAnswer.fChain).1.fTime = 3 := by
      unfold spec_CheckAnswer.md
      rw [hok]; rfl
    rw [this]
    cases (spec_l26Find.md a0 x.fZone x.fLabel != (i : Int)) <;> rfl
  · rfl
end impl_IsCache
/-! laws.eqIntS -/
namespace laws_eqIntS
inductive Pt where
  | p0 (a : List (List L)) (b : List (List L)) (c : Int)
def pid : Pt → Nat
  | .p0 .. => 4
def pvs : Pt → List V
  | .p0 a b c => [.sl none 3 a, .sl none 3 b, .int .i64 c]
def phs : Pt → List Root
  | .p0 a b c => []
noncomputable def step (J : Pt → Ans) : Pt → Ans
  | .p0 a b c => (bif (decide (c < (a.length : Int))) then (bif (decide ((0 : Int) ≤ c)) then (bif (decide (c < (a.length : Int))) then (bif (decide ((0 : Int) ≤ c)) then (bif (decide (c < (b.length : Int))) then (bif ((iAt a (Int.toNat c)) != (iAt b (Int.toNat c))) then ret (false : Bool) else J (.p0 a b (IntKind.i64.wrap (c + 1)))) else none) else none) else none) else none) else ret (true : Bool))
noncomputable def start (J : Pt → Ans) (x0 : List (List L)) (x1 : List (List L)) : Ans := (bif ((x0.length : Int) != (x1.length : Int)) then ret (false : Bool) else J (.p0 x0 x1 0))
def live : Nat → Live := fun i => match i with | 4 => [(0, none), (1, none), (5, none)] | _ => []
def pats : List Pat := [.rd (.sl 3), .rd (.sl 3)]
def res : RP := .one (.rd (.bool))
noncomputable abbrev E : Env := ⟨assoc Tab, conG [], 26⟩
set_option maxRecDepth 100000
theorem step_eq (I : Heads) (p : Pt) : enterC E live I (pid p) (bodyOf Tryz.f119) (stOf (live (pid p)) (pvs p) (phs p)) (doneK E Tryz.f119 res) = step (fun q => I (pid q) (pvs q) (phs q)) p := by
  cases p <;> kernel_rfl
theorem start_eq (I : Heads) (ls : List L) : runC E live I (bodyOf Tryz.f119) (initS pats ls) (doneK E Tryz.f119 res) = start (fun q => I (pid q) (pvs q) (phs q)) (ls.headD .hole).toSl ((dropT 1 ls).headD .hole).toSl := by kernel_rfl
theorem run_eq (n : Nat) (ls : List L) : runF E live Tryz.f119 res n (initS pats ls) = start (iter step n) (ls.headD .hole).toSl ((dropT 1 ls).headD .hole).toSl := runF_iter (id := pid) (vs := pvs) (hs := phs) (step := step) (start := fun J => start J (ls.headD .hole).toSl ((dropT 1 ls).headD .hole).toSl) step_eq (fun I => start_eq I ls) n
noncomputable def md (a0 : List Int) (a1 : List Int) : Bool := eqB a0 a1
def gd (a0 : List Int) (a1 : List Int) : Prop := True
def acc (ls : List L) : List (List L) × List (List L) := ((ls.headD .hole).toSl, ((dropT 1 ls).headD .hole).toSl)
noncomputable def R : (List (List L) × List (List L)) → Option Bool := RR (p2 gd) (u2 md)
theorem R_eq {a0} {a1} (h : gd a0 a1) : R ((a0.map iRow), (a1.map iRow)) = some (md a0 a1) := RR_eq (a := (a0, a1)) h
noncomputable def con : Con := CN pats res acc R
theorem okF (a0 : List Int) (a1 : List Int) (hg : gd a0 a1) (h0 : a0.length ≤ maxLen) (h1 : a1.length ≤ maxLen) : ∃ n, start (iter step n) (a0.map iRow) (a1.map iRow) = ret ((md a0 a1) : Bool) := by
  unfold start md
  simp only [List.length_map]
  refine eq_list (pt := fun i => Pt.p0 (a0.map iRow) (a1.map iRow) (i : Int)) (fun hl J i h h2 => ?_) (fun J => ?_)
  · simp only [step, List.length_map, lt_dec h, lt_dec h2, zle_dec, cond_true, toNat_nat, iAt_row h, iAt_row h2]
    rw [wrap_succ h h0]
    simp only [bne, int_beq, bool_beq, ba_beq]
    cases eqB a0[i] a1[i] <;> rfl
  · simp only [step, List.length_map, nlt_dec, cond_false]
theorem valid_ : Valid Tryz.prog Ev 119 con := VV (run := fun n x => start (iter step n) x.1 x.2) mix tab_ok .nil Tryz.func119 (by kernel_rfl) run_eq (fun ls a hl e hg => okF a.1 a.2 hg (by have h : (ls.headD .hole).toSl.length ≤ maxLen := hl.1.len; have e : a.1.map iRow = (ls.headD .hole).toSl := (congrArg (fun x => x.1) e.symm); rw [← e] at h; simpa using h) (by have h : ((dropT 1 ls).headD .hole).toSl.length ≤ maxLen := hl.2.1.len; have e : a.2.map iRow = ((dropT 1 ls).headD .hole).toSl := (congrArg (fun x => x.2) e.symm); rw [← e] at h; simpa using h))
end laws_eqIntS
/-! laws.eqKeys -/
namespace laws_eqKeys
noncomputable def F (x0 : RKeys) (x1 : RKeys) : Ans := (call (laws_eqIntS.R (x0.fList, x1.fList)) fun v1 => (bif (!v1) then ret (false : Bool) else (bif (x0.fNeed != x1.fNeed) then ret (false : Bool) else ret (true : Bool))))
def pats : List Pat := [.agg [.sl 3, .int .i64], .agg [.sl 3, .int .i64]]
def res : RP := .one (.rd (.bool))
noncomputable abbrev E : Env := ⟨assoc Tab, conG [(119, laws_eqIntS.con)], 16⟩
set_option maxRecDepth 100000
theorem run_eq (n : Nat) (ls : List L) : runF E (fun _ => []) Tryz.f149 res n (initS pats ls) = F (RKeys.dec ls) (RKeys.dec (dropT 2 ls)) := by kernel_rfl
noncomputable def md (a0 : MKeys) (a1 : MKeys) : Bool := eqB a0 a1
def gd (a0 : MKeys) (a1 : MKeys) : Prop := True
def acc (ls : List L) : RKeys × RKeys := ((RKeys.dec ls), (RKeys.dec (dropT 2 ls)))
noncomputable def R : (RKeys × RKeys) → Option Bool := RR (p2 gd) (u2 md)
theorem R_eq {a0} {a1} (h : gd a0 a1) : R ((MKeys.r a0), (MKeys.r a1)) = some (md a0 a1) := RR_eq (a := (a0, a1)) h
noncomputable def con : Con := CN pats res acc R
theorem okF (a0 : MKeys) (a1 : MKeys) (hg : gd a0 a1) : F (MKeys.r a0) (MKeys.r a1) = ret ((md a0 a1) : Bool) := by
  unfold md
  show (call (laws_eqIntS.R ((a0.fList.map iRow), (a1.fList.map iRow))) fun v1 => (bif (!v1) then ret (false : Bool) else (bif (a0.fNeed != a1.fNeed) then ret (false : Bool) else ret (true : Bool)))) = _
  simp only [call_eq (laws_eqIntS.R_eq (a0 := a0.fList) (a1 := a1.fList) trivial), laws_eqIntS.md]
  try simp only [bne, int_beq, bool_beq, ba_beq]
  have e : eqB a0 a1 = (eqB a0.fList a1.fList && (eqB a0.fNeed a1.fNeed && true)) := by
    cases a0; cases a1
    rw [Bool.eq_iff_iff]
    simp only [eqB_iff, Bool.and_eq_true, MKeys.mk.injEq, and_true]
  rw [e]
  refine and_step fun _ => ?_
  refine and_step fun _ => ?_
  rfl
theorem valid_ : Valid Tryz.prog Ev 149 con := VV (run := fun _ x => F x.1 x.2) mix tab_ok (.cons laws_eqIntS.valid_ .nil) Tryz.func149 (by kernel_rfl) run_eq (fun _ a _ _ hg => ⟨0, okF a.1 a.2 hg⟩)
end laws_eqKeys
/-! laws.eqHead -/
namespace laws_eqHead
noncomputable def F (x0 : RHead) (x1 : RHead) : Ans := (bif (x0.fZone != x1.fZone) then ret (false : Bool) else (bif (x0.fEpoch != x1.fEpoch) then ret (false : Bool) else (bif (x0.fKind != x1.fKind) then ret (false : Bool) else (bif (x0.fTime != x1.fTime) then ret (false : Bool) else (bif (x0.fUntil != x1.fUntil) then ret (false : Bool) else (bif (x0.fCount != x1.fCount) then ret (false : Bool) else (bif (x0.fRoot != x1.fRoot) then ret (false : Bool) else (bif (x0.fPrev != x1.fPrev) then ret (false : Bool) else (call (laws_eqKeys.R (x0.fKeys, x1.fKeys)) fun v1 => (bif (!v1) then ret (false : Bool) else (call (laws_eqKeys.R (x0.fHeirs, x1.fHeirs)) fun v2 => (bif (!v2) then ret (false : Bool) else (bif (x0.fWait != x1.fWait) then ret (false : Bool) else (call (laws_eqKeys.R (x0.fJudge, x1.fJudge)) fun v3 => (bif (!v3) then ret (false : Bool) else (bif (!(x0.fFrozen == x1.fFrozen)) then ret (false : Bool) else ret (true : Bool)))))))))))))))))
def pats : List Pat := [.agg [.int .i64, .int .i64, .int .i64, .int .i64, .int .i64, .int .i64, .int .i64, .int .i64, .sl 3, .int .i64, .sl 3, .int .i64, .int .i64, .sl 3, .int .i64, .bool], .agg [.int .i64, .int .i64, .int .i64, .int .i64, .int .i64, .int .i64, .int .i64, .int .i64, .sl 3, .int .i64, .sl 3, .int .i64, .int .i64, .sl 3, .int .i64, .bool]]
def res : RP := .one (.rd (.bool))
noncomputable abbrev E : Env := ⟨assoc Tab, conG [(149, laws_eqKeys.con)], 73⟩
set_option maxRecDepth 100000
theorem run_eq (n : Nat) (ls : List L) : runF E (fun _ => []) Tryz.f102 res n (initS pats ls) = F (RHead.dec ls) (RHead.dec (dropT 16 ls)) := by kernel_rfl
noncomputable def md (a0 : MHead) (a1 : MHead) : Bool := eqB a0 a1
def gd (a0 : MHead) (a1 : MHead) : Prop := True
def acc (ls : List L) : RHead × RHead := ((RHead.dec ls), (RHead.dec (dropT 16 ls)))
noncomputable def R : (RHead × RHead) → Option Bool := RR (p2 gd) (u2 md)
theorem R_eq {a0} {a1} (h : gd a0 a1) : R ((MHead.r a0), (MHead.r a1)) = some (md a0 a1) := RR_eq (a := (a0, a1)) h
noncomputable def con : Con := CN pats res acc R
theorem okF (a0 : MHead) (a1 : MHead) (hg : gd a0 a1) : F (MHead.r a0) (MHead.r a1) = ret ((md a0 a1) : Bool) := by
  unfold md
  show (bif (a0.fZone != a1.fZone) then ret (false : Bool) else (bif (a0.fEpoch != a1.fEpoch) then ret (false : Bool) else (bif (a0.fKind != a1.fKind) then ret (false : Bool) else (bif (a0.fTime != a1.fTime) then ret (false : Bool) else (bif (a0.fUntil != a1.fUntil) then ret (false : Bool) else (bif (a0.fCount != a1.fCount) then ret (false : Bool) else (bif (a0.fRoot != a1.fRoot) then ret (false : Bool) else (bif (a0.fPrev != a1.fPrev) then ret (false : Bool) else (call (laws_eqKeys.R ((MKeys.r a0.fKeys), (MKeys.r a1.fKeys))) fun v1 => (bif (!v1) then ret (false : Bool) else (call (laws_eqKeys.R ((MKeys.r a0.fHeirs), (MKeys.r a1.fHeirs))) fun v2 => (bif (!v2) then ret (false : Bool) else (bif (a0.fWait != a1.fWait) then ret (false : Bool) else (call (laws_eqKeys.R ((MKeys.r a0.fJudge), (MKeys.r a1.fJudge))) fun v3 => (bif (!v3) then ret (false : Bool) else (bif (!(a0.fFrozen == a1.fFrozen)) then ret (false : Bool) else ret (true : Bool))))))))))))))))) = _
  simp only [call_eq (laws_eqKeys.R_eq (a0 := a0.fKeys) (a1 := a1.fKeys) trivial), laws_eqKeys.md]
  simp only [call_eq (laws_eqKeys.R_eq (a0 := a0.fHeirs) (a1 := a1.fHeirs) trivial), laws_eqKeys.md]
  simp only [call_eq (laws_eqKeys.R_eq (a0 := a0.fJudge) (a1 := a1.fJudge) trivial), laws_eqKeys.md]
  try simp only [bne, int_beq, bool_beq, ba_beq]
  have e : eqB a0 a1 = (eqB a0.fZone a1.fZone && (eqB a0.fEpoch a1.fEpoch && (eqB a0.fKind a1.fKind && (eqB a0.fTime a1.fTime && (eqB a0.fUntil a1.fUntil && (eqB a0.fCount a1.fCount && (eqB a0.fRoot a1.fRoot && (eqB a0.fPrev a1.fPrev && (eqB a0.fKeys a1.fKeys && (eqB a0.fHeirs a1.fHeirs && (eqB a0.fWait a1.fWait && (eqB a0.fJudge a1.fJudge && (eqB a0.fFrozen a1.fFrozen && true))))))))))))) := by
    cases a0; cases a1
    rw [Bool.eq_iff_iff]
    simp only [eqB_iff, Bool.and_eq_true, MHead.mk.injEq, and_true]
  rw [e]
  refine and_step fun _ => ?_
  refine and_step fun _ => ?_
  refine and_step fun _ => ?_
  refine and_step fun _ => ?_
  refine and_step fun _ => ?_
  refine and_step fun _ => ?_
  refine and_step fun _ => ?_
  refine and_step fun _ => ?_
  refine and_step fun _ => ?_
  refine and_step fun _ => ?_
  refine and_step fun _ => ?_
  refine and_step fun _ => ?_
  refine and_step fun _ => ?_
  rfl
theorem valid_ : Valid Tryz.prog Ev 102 con := VV (run := fun _ x => F x.1 x.2) mix tab_ok (.cons laws_eqKeys.valid_ .nil) Tryz.func102 (by kernel_rfl) run_eq (fun _ a _ _ hg => ⟨0, okF a.1 a.2 hg⟩)
end laws_eqHead
/-! laws.eqSig -/
namespace laws_eqSig
noncomputable def F (x0 : MSig) (x1 : MSig) : Ans := (bif (x0.fKey != x1.fKey) then ret (false : Bool) else (bif (x0.fTag != x1.fTag) then ret (false : Bool) else ret (true : Bool)))
def pats : List Pat := [.agg [.int .i64, .int .i64], .agg [.int .i64, .int .i64]]
def res : RP := .one (.rd (.bool))
noncomputable abbrev E : Env := ⟨assoc Tab, conG [], 15⟩
set_option maxRecDepth 100000
theorem run_eq (n : Nat) (ls : List L) : runF E (fun _ => []) Tryz.f150 res n (initS pats ls) = F (MSig.dec ls) (MSig.dec (dropT 2 ls)) := by kernel_rfl
noncomputable def md (a0 : MSig) (a1 : MSig) : Bool := eqB a0 a1
def gd (a0 : MSig) (a1 : MSig) : Prop := True
def acc (ls : List L) : MSig × MSig := ((MSig.dec ls), (MSig.dec (dropT 2 ls)))
noncomputable def R : (MSig × MSig) → Option Bool := RR (p2 gd) (u2 md)
theorem R_eq {a0} {a1} (h : gd a0 a1) : R (a0, a1) = some (md a0 a1) := RR_eq (a := (a0, a1)) h
noncomputable def con : Con := CN pats res acc R
theorem okF (a0 : MSig) (a1 : MSig) (hg : gd a0 a1) : F a0 a1 = ret ((md a0 a1) : Bool) := by
  unfold md
  show (bif (a0.fKey != a1.fKey) then ret (false : Bool) else (bif (a0.fTag != a1.fTag) then ret (false : Bool) else ret (true : Bool))) = _
  try simp only [bne, int_beq, bool_beq, ba_beq]
  have e : eqB a0 a1 = (eqB a0.fKey a1.fKey && (eqB a0.fTag a1.fTag && true)) := by
    cases a0; cases a1
    rw [Bool.eq_iff_iff]
    simp only [eqB_iff, Bool.and_eq_true, MSig.mk.injEq, and_true]
  rw [e]
  refine and_step fun _ => ?_
  refine and_step fun _ => ?_
  rfl
theorem valid_ : Valid Tryz.prog Ev 150 con := VV (run := fun _ x => F x.1 x.2) mix tab_ok .nil Tryz.func150 (by kernel_rfl) run_eq (fun _ a _ _ hg => ⟨0, okF a.1 a.2 hg⟩)
end laws_eqSig
/-! laws.eqSigS -/
namespace laws_eqSigS
inductive Pt where
  | p0 (a : List (List L)) (b : List (List L)) (c : Int)
def pid : Pt → Nat
  | .p0 .. => 4
def pvs : Pt → List V
  | .p0 a b c => [.sl none 179 a, .sl none 179 b, .int .i64 c]
def phs : Pt → List Root
  | .p0 a b c => []
noncomputable def step (J : Pt → Ans) : Pt → Ans
  | .p0 a b c => (bif (decide (c < (a.length : Int))) then (bif (decide ((0 : Int) ≤ c)) then (bif (decide (c < (a.length : Int))) then (bif (decide ((0 : Int) ≤ c)) then (bif (decide (c < (b.length : Int))) then (call (laws_eqSig.R ((MSig.at a (Int.toNat c)), (MSig.at b (Int.toNat c)))) fun v1 => (bif (!v1) then ret (false : Bool) else J (.p0 a b (IntKind.i64.wrap (c + 1))))) else none) else none) else none) else none) else ret (true : Bool))
noncomputable def start (J : Pt → Ans) (x0 : List (List L)) (x1 : List (List L)) : Ans := (bif ((x0.length : Int) != (x1.length : Int)) then ret (false : Bool) else J (.p0 x0 x1 0))
def live : Nat → Live := fun i => match i with | 4 => [(0, none), (1, none), (5, none)] | _ => []
def pats : List Pat := [.rd (.sl 179), .rd (.sl 179)]
def res : RP := .one (.rd (.bool))
noncomputable abbrev E : Env := ⟨assoc Tab, conG [(150, laws_eqSig.con)], 27⟩
set_option maxRecDepth 100000
theorem step_eq (I : Heads) (p : Pt) : enterC E live I (pid p) (bodyOf Tryz.f103) (stOf (live (pid p)) (pvs p) (phs p)) (doneK E Tryz.f103 res) = step (fun q => I (pid q) (pvs q) (phs q)) p := by
  cases p <;> kernel_rfl
theorem start_eq (I : Heads) (ls : List L) : runC E live I (bodyOf Tryz.f103) (initS pats ls) (doneK E Tryz.f103 res) = start (fun q => I (pid q) (pvs q) (phs q)) (ls.headD .hole).toSl ((dropT 1 ls).headD .hole).toSl := by kernel_rfl
theorem run_eq (n : Nat) (ls : List L) : runF E live Tryz.f103 res n (initS pats ls) = start (iter step n) (ls.headD .hole).toSl ((dropT 1 ls).headD .hole).toSl := runF_iter (id := pid) (vs := pvs) (hs := phs) (step := step) (start := fun J => start J (ls.headD .hole).toSl ((dropT 1 ls).headD .hole).toSl) step_eq (fun I => start_eq I ls) n
noncomputable def md (a0 : List MSig) (a1 : List MSig) : Bool := eqB a0 a1
def gd (a0 : List MSig) (a1 : List MSig) : Prop := True
def acc (ls : List L) : List (List L) × List (List L) := ((ls.headD .hole).toSl, ((dropT 1 ls).headD .hole).toSl)
noncomputable def R : (List (List L) × List (List L)) → Option Bool := RR (p2 gd) (u2 md)
theorem R_eq {a0} {a1} (h : gd a0 a1) : R ((a0.map MSig.row), (a1.map MSig.row)) = some (md a0 a1) := RR_eq (a := (a0, a1)) h
noncomputable def con : Con := CN pats res acc R
theorem okF (a0 : List MSig) (a1 : List MSig) (hg : gd a0 a1) (h0 : a0.length ≤ maxLen) (h1 : a1.length ≤ maxLen) : ∃ n, start (iter step n) (a0.map MSig.row) (a1.map MSig.row) = ret ((md a0 a1) : Bool) := by
  unfold start md
  simp only [List.length_map]
  refine eq_list (pt := fun i => Pt.p0 (a0.map MSig.row) (a1.map MSig.row) (i : Int)) (fun hl J i h h2 => ?_) (fun J => ?_)
  · simp only [step, List.length_map, lt_dec h, lt_dec h2, zle_dec, cond_true, toNat_nat, MSig.at_row h, MSig.at_row h2]
    rw [wrap_succ h h0]
    rw [call_eq (laws_eqSig.R_eq (a0 := a0[i]) (a1 := a1[i]) trivial), laws_eqSig.md]
    cases eqB a0[i] a1[i] <;> rfl
  · simp only [step, List.length_map, nlt_dec, cond_false]
theorem valid_ : Valid Tryz.prog Ev 103 con := VV (run := fun n x => start (iter step n) x.1 x.2) mix tab_ok (.cons laws_eqSig.valid_ .nil) Tryz.func103 (by kernel_rfl) run_eq (fun ls a hl e hg => okF a.1 a.2 hg (by have h : (ls.headD .hole).toSl.length ≤ maxLen := hl.1.len; have e : a.1.map MSig.row = (ls.headD .hole).toSl := (congrArg (fun x => x.1) e.symm); rw [← e] at h; simpa using h) (by have h : ((dropT 1 ls).headD .hole).toSl.length ≤ maxLen := hl.2.1.len; have e : a.2.map MSig.row = ((dropT 1 ls).headD .hole).toSl := (congrArg (fun x => x.2) e.symm); rw [← e] at h; simpa using h))
end laws_eqSigS
/-! laws.eqSigned -/
namespace laws_eqSigned
noncomputable def F (x0 : RSigned) (x1 : RSigned) : Ans := (call (laws_eqHead.R (x0.fHead, x1.fHead)) fun v1 => (bif (!v1) then ret (false : Bool) else (call (laws_eqSigS.R (x0.fSigs, x1.fSigs)) fun v2 => (bif (!v2) then ret (false : Bool) else ret (true : Bool)))))
def pats : List Pat := [.agg [.int .i64, .int .i64, .int .i64, .int .i64, .int .i64, .int .i64, .int .i64, .int .i64, .sl 3, .int .i64, .sl 3, .int .i64, .int .i64, .sl 3, .int .i64, .bool, .sl 179], .agg [.int .i64, .int .i64, .int .i64, .int .i64, .int .i64, .int .i64, .int .i64, .int .i64, .sl 3, .int .i64, .sl 3, .int .i64, .int .i64, .sl 3, .int .i64, .bool, .sl 179]]
def res : RP := .one (.rd (.bool))
noncomputable abbrev E : Env := ⟨assoc Tab, conG [(102, laws_eqHead.con), (103, laws_eqSigS.con)], 17⟩
set_option maxRecDepth 100000
theorem run_eq (n : Nat) (ls : List L) : runF E (fun _ => []) Tryz.f57 res n (initS pats ls) = F (RSigned.dec ls) (RSigned.dec (dropT 17 ls)) := by kernel_rfl
noncomputable def md (a0 : MSigned) (a1 : MSigned) : Bool := eqB a0 a1
def gd (a0 : MSigned) (a1 : MSigned) : Prop := True
def acc (ls : List L) : RSigned × RSigned := ((RSigned.dec ls), (RSigned.dec (dropT 17 ls)))
noncomputable def R : (RSigned × RSigned) → Option Bool := RR (p2 gd) (u2 md)
theorem R_eq {a0} {a1} (h : gd a0 a1) : R ((MSigned.r a0), (MSigned.r a1)) = some (md a0 a1) := RR_eq (a := (a0, a1)) h
noncomputable def con : Con := CN pats res acc R
theorem okF (a0 : MSigned) (a1 : MSigned) (hg : gd a0 a1) : F (MSigned.r a0) (MSigned.r a1) = ret ((md a0 a1) : Bool) := by
  unfold md
  show (call (laws_eqHead.R ((MHead.r a0.fHead), (MHead.r a1.fHead))) fun v1 => (bif (!v1) then ret (false : Bool) else (call (laws_eqSigS.R ((a0.fSigs.map MSig.row), (a1.fSigs.map MSig.row))) fun v2 => (bif (!v2) then ret (false : Bool) else ret (true : Bool))))) = _
  simp only [call_eq (laws_eqHead.R_eq (a0 := a0.fHead) (a1 := a1.fHead) trivial), laws_eqHead.md]
  simp only [call_eq (laws_eqSigS.R_eq (a0 := a0.fSigs) (a1 := a1.fSigs) trivial), laws_eqSigS.md]
  try simp only [bne, int_beq, bool_beq, ba_beq]
  have e : eqB a0 a1 = (eqB a0.fHead a1.fHead && (eqB a0.fSigs a1.fSigs && true)) := by
    cases a0; cases a1
    rw [Bool.eq_iff_iff]
    simp only [eqB_iff, Bool.and_eq_true, MSigned.mk.injEq, and_true]
  rw [e]
  refine and_step fun _ => ?_
  refine and_step fun _ => ?_
  rfl
theorem valid_ : Valid Tryz.prog Ev 57 con := VV (run := fun _ x => F x.1 x.2) mix tab_ok (.cons laws_eqHead.valid_ (.cons laws_eqSigS.valid_ .nil)) Tryz.func57 (by kernel_rfl) run_eq (fun _ a _ _ hg => ⟨0, okF a.1 a.2 hg⟩)
end laws_eqSigned
/-! laws.eqSignedS -/
namespace laws_eqSignedS
inductive Pt where
  | p0 (a : List (List L)) (b : List (List L)) (c : Int)
def pid : Pt → Nat
  | .p0 .. => 4
def pvs : Pt → List V
  | .p0 a b c => [.sl none 92 a, .sl none 92 b, .int .i64 c]
def phs : Pt → List Root
  | .p0 a b c => []
noncomputable def step (J : Pt → Ans) : Pt → Ans
  | .p0 a b c => (bif (decide (c < (a.length : Int))) then (bif (decide ((0 : Int) ≤ c)) then (bif (decide (c < (a.length : Int))) then (bif (decide ((0 : Int) ≤ c)) then (bif (decide (c < (b.length : Int))) then (call (laws_eqSigned.R ((RSigned.at a (Int.toNat c)), (RSigned.at b (Int.toNat c)))) fun v1 => (bif (!v1) then ret (false : Bool) else J (.p0 a b (IntKind.i64.wrap (c + 1))))) else none) else none) else none) else none) else ret (true : Bool))
noncomputable def start (J : Pt → Ans) (x0 : List (List L)) (x1 : List (List L)) : Ans := (bif ((x0.length : Int) != (x1.length : Int)) then ret (false : Bool) else J (.p0 x0 x1 0))
def live : Nat → Live := fun i => match i with | 4 => [(0, none), (1, none), (5, none)] | _ => []
def pats : List Pat := [.rd (.sl 92), .rd (.sl 92)]
def res : RP := .one (.rd (.bool))
noncomputable abbrev E : Env := ⟨assoc Tab, conG [(57, laws_eqSigned.con)], 27⟩
set_option maxRecDepth 100000
theorem step_eq (I : Heads) (p : Pt) : enterC E live I (pid p) (bodyOf Tryz.f19) (stOf (live (pid p)) (pvs p) (phs p)) (doneK E Tryz.f19 res) = step (fun q => I (pid q) (pvs q) (phs q)) p := by
  cases p <;> kernel_rfl
theorem start_eq (I : Heads) (ls : List L) : runC E live I (bodyOf Tryz.f19) (initS pats ls) (doneK E Tryz.f19 res) = start (fun q => I (pid q) (pvs q) (phs q)) (ls.headD .hole).toSl ((dropT 1 ls).headD .hole).toSl := by kernel_rfl
theorem run_eq (n : Nat) (ls : List L) : runF E live Tryz.f19 res n (initS pats ls) = start (iter step n) (ls.headD .hole).toSl ((dropT 1 ls).headD .hole).toSl := runF_iter (id := pid) (vs := pvs) (hs := phs) (step := step) (start := fun J => start J (ls.headD .hole).toSl ((dropT 1 ls).headD .hole).toSl) step_eq (fun I => start_eq I ls) n
noncomputable def md (a0 : List MSigned) (a1 : List MSigned) : Bool := eqB a0 a1
def gd (a0 : List MSigned) (a1 : List MSigned) : Prop := True
def acc (ls : List L) : List (List L) × List (List L) := ((ls.headD .hole).toSl, ((dropT 1 ls).headD .hole).toSl)
noncomputable def R : (List (List L) × List (List L)) → Option Bool := RR (p2 gd) (u2 md)
theorem R_eq {a0} {a1} (h : gd a0 a1) : R ((a0.map MSigned.row), (a1.map MSigned.row)) = some (md a0 a1) := RR_eq (a := (a0, a1)) h
noncomputable def con : Con := CN pats res acc R
theorem okF (a0 : List MSigned) (a1 : List MSigned) (hg : gd a0 a1) (h0 : a0.length ≤ maxLen) (h1 : a1.length ≤ maxLen) : ∃ n, start (iter step n) (a0.map MSigned.row) (a1.map MSigned.row) = ret ((md a0 a1) : Bool) := by
  unfold start md
  simp only [List.length_map]
  refine eq_list (pt := fun i => Pt.p0 (a0.map MSigned.row) (a1.map MSigned.row) (i : Int)) (fun hl J i h h2 => ?_) (fun J => ?_)
  · simp only [step, List.length_map, lt_dec h, lt_dec h2, zle_dec, cond_true, toNat_nat, MSigned.at_row h, MSigned.at_row h2]
    rw [wrap_succ h h0]
    rw [call_eq (laws_eqSigned.R_eq (a0 := a0[i]) (a1 := a1[i]) trivial), laws_eqSigned.md]
    cases eqB a0[i] a1[i] <;> rfl
  · simp only [step, List.length_map, nlt_dec, cond_false]
theorem valid_ : Valid Tryz.prog Ev 19 con := VV (run := fun n x => start (iter step n) x.1 x.2) mix tab_ok (.cons laws_eqSigned.valid_ .nil) Tryz.func19 (by kernel_rfl) run_eq (fun ls a hl e hg => okF a.1 a.2 hg (by have h : (ls.headD .hole).toSl.length ≤ maxLen := hl.1.len; have e : a.1.map MSigned.row = (ls.headD .hole).toSl := (congrArg (fun x => x.1) e.symm); rw [← e] at h; simpa using h) (by have h : ((dropT 1 ls).headD .hole).toSl.length ≤ maxLen := hl.2.1.len; have e : a.2.map MSigned.row = ((dropT 1 ls).headD .hole).toSl := (congrArg (fun x => x.2) e.symm); rw [← e] at h; simpa using h))
end laws_eqSignedS
/-! laws.eqStringS -/
namespace laws_eqStringS
inductive Pt where
  | p0 (a : List (List L)) (b : List (List L)) (c : Int)
def pid : Pt → Nat
  | .p0 .. => 4
def pvs : Pt → List V
  | .p0 a b c => [.sl none 9 a, .sl none 9 b, .int .i64 c]
def phs : Pt → List Root
  | .p0 a b c => []
noncomputable def step (J : Pt → Ans) : Pt → Ans
  | .p0 a b c => (bif (decide (c < (a.length : Int))) then (bif (decide ((0 : Int) ≤ c)) then (bif (decide (c < (a.length : Int))) then (bif (decide ((0 : Int) ≤ c)) then (bif (decide (c < (b.length : Int))) then (bif (!((sAt a (Int.toNat c)) == (sAt b (Int.toNat c)))) then ret (false : Bool) else J (.p0 a b (IntKind.i64.wrap (c + 1)))) else none) else none) else none) else none) else ret (true : Bool))
noncomputable def start (J : Pt → Ans) (x0 : List (List L)) (x1 : List (List L)) : Ans := (bif ((x0.length : Int) != (x1.length : Int)) then ret (false : Bool) else J (.p0 x0 x1 0))
def live : Nat → Live := fun i => match i with | 4 => [(0, none), (1, none), (5, none)] | _ => []
def pats : List Pat := [.rd (.sl 9), .rd (.sl 9)]
def res : RP := .one (.rd (.bool))
noncomputable abbrev E : Env := ⟨assoc Tab, conG [], 26⟩
set_option maxRecDepth 100000
theorem step_eq (I : Heads) (p : Pt) : enterC E live I (pid p) (bodyOf Tryz.f73) (stOf (live (pid p)) (pvs p) (phs p)) (doneK E Tryz.f73 res) = step (fun q => I (pid q) (pvs q) (phs q)) p := by
  cases p <;> kernel_rfl
theorem start_eq (I : Heads) (ls : List L) : runC E live I (bodyOf Tryz.f73) (initS pats ls) (doneK E Tryz.f73 res) = start (fun q => I (pid q) (pvs q) (phs q)) (ls.headD .hole).toSl ((dropT 1 ls).headD .hole).toSl := by kernel_rfl
theorem run_eq (n : Nat) (ls : List L) : runF E live Tryz.f73 res n (initS pats ls) = start (iter step n) (ls.headD .hole).toSl ((dropT 1 ls).headD .hole).toSl := runF_iter (id := pid) (vs := pvs) (hs := phs) (step := step) (start := fun J => start J (ls.headD .hole).toSl ((dropT 1 ls).headD .hole).toSl) step_eq (fun I => start_eq I ls) n
noncomputable def md (a0 : List ByteArray) (a1 : List ByteArray) : Bool := eqB a0 a1
def gd (a0 : List ByteArray) (a1 : List ByteArray) : Prop := True
def acc (ls : List L) : List (List L) × List (List L) := ((ls.headD .hole).toSl, ((dropT 1 ls).headD .hole).toSl)
noncomputable def R : (List (List L) × List (List L)) → Option Bool := RR (p2 gd) (u2 md)
theorem R_eq {a0} {a1} (h : gd a0 a1) : R ((a0.map sRow), (a1.map sRow)) = some (md a0 a1) := RR_eq (a := (a0, a1)) h
noncomputable def con : Con := CN pats res acc R
theorem okF (a0 : List ByteArray) (a1 : List ByteArray) (hg : gd a0 a1) (h0 : a0.length ≤ maxLen) (h1 : a1.length ≤ maxLen) : ∃ n, start (iter step n) (a0.map sRow) (a1.map sRow) = ret ((md a0 a1) : Bool) := by
  unfold start md
  simp only [List.length_map]
  refine eq_list (pt := fun i => Pt.p0 (a0.map sRow) (a1.map sRow) (i : Int)) (fun hl J i h h2 => ?_) (fun J => ?_)
  · simp only [step, List.length_map, lt_dec h, lt_dec h2, zle_dec, cond_true, toNat_nat, sAt_row h, sAt_row h2]
    rw [wrap_succ h h0]
    simp only [bne, int_beq, bool_beq, ba_beq]
    cases eqB a0[i] a1[i] <;> rfl
  · simp only [step, List.length_map, nlt_dec, cond_false]
theorem valid_ : Valid Tryz.prog Ev 73 con := VV (run := fun n x => start (iter step n) x.1 x.2) mix tab_ok .nil Tryz.func73 (by kernel_rfl) run_eq (fun ls a hl e hg => okF a.1 a.2 hg (by have h : (ls.headD .hole).toSl.length ≤ maxLen := hl.1.len; have e : a.1.map sRow = (ls.headD .hole).toSl := (congrArg (fun x => x.1) e.symm); rw [← e] at h; simpa using h) (by have h : ((dropT 1 ls).headD .hole).toSl.length ≤ maxLen := hl.2.1.len; have e : a.2.map sRow = ((dropT 1 ls).headD .hole).toSl := (congrArg (fun x => x.2) e.symm); rw [← e] at h; simpa using h))
end laws_eqStringS
/-! laws.eqEntry -/
namespace laws_eqEntry
noncomputable def F (x0 : REntry) (x1 : REntry) : Ans := (bif (!(x0.fLabel == x1.fLabel)) then ret (false : Bool) else (bif (x0.fKind != x1.fKind) then ret (false : Bool) else (bif (x0.fValue != x1.fValue) then ret (false : Bool) else (call (laws_eqStringS.R (x0.fPath, x1.fPath)) fun v1 => (bif (!v1) then ret (false : Bool) else ret (true : Bool))))))
def pats : List Pat := [.agg [.str, .int .i64, .int .i64, .sl 9], .agg [.str, .int .i64, .int .i64, .sl 9]]
def res : RP := .one (.rd (.bool))
noncomputable abbrev E : Env := ⟨assoc Tab, conG [(73, laws_eqStringS.con)], 26⟩
set_option maxRecDepth 100000
theorem run_eq (n : Nat) (ls : List L) : runF E (fun _ => []) Tryz.f118 res n (initS pats ls) = F (REntry.dec ls) (REntry.dec (dropT 4 ls)) := by kernel_rfl
noncomputable def md (a0 : MEntry) (a1 : MEntry) : Bool := eqB a0 a1
def gd (a0 : MEntry) (a1 : MEntry) : Prop := True
def acc (ls : List L) : REntry × REntry := ((REntry.dec ls), (REntry.dec (dropT 4 ls)))
noncomputable def R : (REntry × REntry) → Option Bool := RR (p2 gd) (u2 md)
theorem R_eq {a0} {a1} (h : gd a0 a1) : R ((MEntry.r a0), (MEntry.r a1)) = some (md a0 a1) := RR_eq (a := (a0, a1)) h
noncomputable def con : Con := CN pats res acc R
theorem okF (a0 : MEntry) (a1 : MEntry) (hg : gd a0 a1) : F (MEntry.r a0) (MEntry.r a1) = ret ((md a0 a1) : Bool) := by
  unfold md
  show (bif (!(a0.fLabel == a1.fLabel)) then ret (false : Bool) else (bif (a0.fKind != a1.fKind) then ret (false : Bool) else (bif (a0.fValue != a1.fValue) then ret (false : Bool) else (call (laws_eqStringS.R ((a0.fPath.map sRow), (a1.fPath.map sRow))) fun v1 => (bif (!v1) then ret (false : Bool) else ret (true : Bool)))))) = _
  simp only [call_eq (laws_eqStringS.R_eq (a0 := a0.fPath) (a1 := a1.fPath) trivial), laws_eqStringS.md]
  try simp only [bne, int_beq, bool_beq, ba_beq]
  have e : eqB a0 a1 = (eqB a0.fLabel a1.fLabel && (eqB a0.fKind a1.fKind && (eqB a0.fValue a1.fValue && (eqB a0.fPath a1.fPath && true)))) := by
    cases a0; cases a1
    rw [Bool.eq_iff_iff]
    simp only [eqB_iff, Bool.and_eq_true, MEntry.mk.injEq, and_true]
  rw [e]
  refine and_step fun _ => ?_
  refine and_step fun _ => ?_
  refine and_step fun _ => ?_
  refine and_step fun _ => ?_
  rfl
theorem valid_ : Valid Tryz.prog Ev 118 con := VV (run := fun _ x => F x.1 x.2) mix tab_ok (.cons laws_eqStringS.valid_ .nil) Tryz.func118 (by kernel_rfl) run_eq (fun _ a _ _ hg => ⟨0, okF a.1 a.2 hg⟩)
end laws_eqEntry
/-! laws.eqProof -/
namespace laws_eqProof
noncomputable def F (x0 : RProof) (x1 : RProof) : Ans := (bif (x0.fAt != x1.fAt) then ret (false : Bool) else (call (laws_eqIntS.R (x0.fPath, x1.fPath)) fun v1 => (bif (!v1) then ret (false : Bool) else ret (true : Bool))))
def pats : List Pat := [.agg [.int .i64, .sl 3], .agg [.int .i64, .sl 3]]
def res : RP := .one (.rd (.bool))
noncomputable abbrev E : Env := ⟨assoc Tab, conG [(119, laws_eqIntS.con)], 16⟩
set_option maxRecDepth 100000
theorem run_eq (n : Nat) (ls : List L) : runF E (fun _ => []) Tryz.f214 res n (initS pats ls) = F (RProof.dec ls) (RProof.dec (dropT 2 ls)) := by kernel_rfl
noncomputable def md (a0 : MProof) (a1 : MProof) : Bool := eqB a0 a1
def gd (a0 : MProof) (a1 : MProof) : Prop := True
def acc (ls : List L) : RProof × RProof := ((RProof.dec ls), (RProof.dec (dropT 2 ls)))
noncomputable def R : (RProof × RProof) → Option Bool := RR (p2 gd) (u2 md)
theorem R_eq {a0} {a1} (h : gd a0 a1) : R ((MProof.r a0), (MProof.r a1)) = some (md a0 a1) := RR_eq (a := (a0, a1)) h
noncomputable def con : Con := CN pats res acc R
theorem okF (a0 : MProof) (a1 : MProof) (hg : gd a0 a1) : F (MProof.r a0) (MProof.r a1) = ret ((md a0 a1) : Bool) := by
  unfold md
  show (bif (a0.fAt != a1.fAt) then ret (false : Bool) else (call (laws_eqIntS.R ((a0.fPath.map iRow), (a1.fPath.map iRow))) fun v1 => (bif (!v1) then ret (false : Bool) else ret (true : Bool)))) = _
  simp only [call_eq (laws_eqIntS.R_eq (a0 := a0.fPath) (a1 := a1.fPath) trivial), laws_eqIntS.md]
  try simp only [bne, int_beq, bool_beq, ba_beq]
  have e : eqB a0 a1 = (eqB a0.fAt a1.fAt && (eqB a0.fPath a1.fPath && true)) := by
    cases a0; cases a1
    rw [Bool.eq_iff_iff]
    simp only [eqB_iff, Bool.and_eq_true, MProof.mk.injEq, and_true]
  rw [e]
  refine and_step fun _ => ?_
  refine and_step fun _ => ?_
  rfl
theorem valid_ : Valid Tryz.prog Ev 214 con := VV (run := fun _ x => F x.1 x.2) mix tab_ok (.cons laws_eqIntS.valid_ .nil) Tryz.func214 (by kernel_rfl) run_eq (fun _ a _ _ hg => ⟨0, okF a.1 a.2 hg⟩)
end laws_eqProof
/-! laws.eqGap -/
namespace laws_eqGap
noncomputable def F (x0 : RGap) (x1 : RGap) : Ans := (bif (x0.fAt != x1.fAt) then ret (false : Bool) else (call (laws_eqEntry.R (x0.fBefore, x1.fBefore)) fun v1 => (bif (!v1) then ret (false : Bool) else (call (laws_eqEntry.R (x0.fAfter, x1.fAfter)) fun v2 => (bif (!v2) then ret (false : Bool) else (call (laws_eqProof.R (x0.fLeft, x1.fLeft)) fun v3 => (bif (!v3) then ret (false : Bool) else (call (laws_eqProof.R (x0.fRight, x1.fRight)) fun v4 => (bif (!v4) then ret (false : Bool) else ret (true : Bool))))))))))
def pats : List Pat := [.agg [.int .i64, .str, .int .i64, .int .i64, .sl 9, .str, .int .i64, .int .i64, .sl 9, .int .i64, .sl 3, .int .i64, .sl 3], .agg [.int .i64, .str, .int .i64, .int .i64, .sl 9, .str, .int .i64, .int .i64, .sl 9, .int .i64, .sl 3, .int .i64, .sl 3]]
def res : RP := .one (.rd (.bool))
noncomputable abbrev E : Env := ⟨assoc Tab, conG [(118, laws_eqEntry.con), (214, laws_eqProof.con)], 34⟩
set_option maxRecDepth 100000
theorem run_eq (n : Nat) (ls : List L) : runF E (fun _ => []) Tryz.f215 res n (initS pats ls) = F (RGap.dec ls) (RGap.dec (dropT 13 ls)) := by kernel_rfl
noncomputable def md (a0 : MGap) (a1 : MGap) : Bool := eqB a0 a1
def gd (a0 : MGap) (a1 : MGap) : Prop := True
def acc (ls : List L) : RGap × RGap := ((RGap.dec ls), (RGap.dec (dropT 13 ls)))
noncomputable def R : (RGap × RGap) → Option Bool := RR (p2 gd) (u2 md)
theorem R_eq {a0} {a1} (h : gd a0 a1) : R ((MGap.r a0), (MGap.r a1)) = some (md a0 a1) := RR_eq (a := (a0, a1)) h
noncomputable def con : Con := CN pats res acc R
theorem okF (a0 : MGap) (a1 : MGap) (hg : gd a0 a1) : F (MGap.r a0) (MGap.r a1) = ret ((md a0 a1) : Bool) := by
  unfold md
  show (bif (a0.fAt != a1.fAt) then ret (false : Bool) else (call (laws_eqEntry.R ((MEntry.r a0.fBefore), (MEntry.r a1.fBefore))) fun v1 => (bif (!v1) then ret (false : Bool) else (call (laws_eqEntry.R ((MEntry.r a0.fAfter), (MEntry.r a1.fAfter))) fun v2 => (bif (!v2) then ret (false : Bool) else (call (laws_eqProof.R ((MProof.r a0.fLeft), (MProof.r a1.fLeft))) fun v3 => (bif (!v3) then ret (false : Bool) else (call (laws_eqProof.R ((MProof.r a0.fRight), (MProof.r a1.fRight))) fun v4 => (bif (!v4) then ret (false : Bool) else ret (true : Bool)))))))))) = _
  simp only [call_eq (laws_eqEntry.R_eq (a0 := a0.fBefore) (a1 := a1.fBefore) trivial), laws_eqEntry.md]
  simp only [call_eq (laws_eqEntry.R_eq (a0 := a0.fAfter) (a1 := a1.fAfter) trivial), laws_eqEntry.md]
  simp only [call_eq (laws_eqProof.R_eq (a0 := a0.fLeft) (a1 := a1.fLeft) trivial), laws_eqProof.md]
  simp only [call_eq (laws_eqProof.R_eq (a0 := a0.fRight) (a1 := a1.fRight) trivial), laws_eqProof.md]
  try simp only [bne, int_beq, bool_beq, ba_beq]
  have e : eqB a0 a1 = (eqB a0.fAt a1.fAt && (eqB a0.fBefore a1.fBefore && (eqB a0.fAfter a1.fAfter && (eqB a0.fLeft a1.fLeft && (eqB a0.fRight a1.fRight && true))))) := by
    cases a0; cases a1
    rw [Bool.eq_iff_iff]
    simp only [eqB_iff, Bool.and_eq_true, MGap.mk.injEq, and_true]
  rw [e]
  refine and_step fun _ => ?_
  refine and_step fun _ => ?_
  refine and_step fun _ => ?_
  refine and_step fun _ => ?_
  refine and_step fun _ => ?_
  rfl
theorem valid_ : Valid Tryz.prog Ev 215 con := VV (run := fun _ x => F x.1 x.2) mix tab_ok (.cons laws_eqEntry.valid_ (.cons laws_eqProof.valid_ .nil)) Tryz.func215 (by kernel_rfl) run_eq (fun _ a _ _ hg => ⟨0, okF a.1 a.2 hg⟩)
end laws_eqGap
/-! laws.eqAnswer -/
namespace laws_eqAnswer
noncomputable def F (x0 : RAnswer) (x1 : RAnswer) : Ans := (call (laws_eqSignedS.R (x0.fChain, x1.fChain)) fun v1 => (bif (!v1) then ret (false : Bool) else (bif (!(x0.fFound == x1.fFound)) then ret (false : Bool) else (call (laws_eqEntry.R (x0.fEntry, x1.fEntry)) fun v2 => (bif (!v2) then ret (false : Bool) else (call (laws_eqProof.R (x0.fProof, x1.fProof)) fun v3 => (bif (!v3) then ret (false : Bool) else (call (laws_eqGap.R (x0.fGap, x1.fGap)) fun v4 => (bif (!v4) then ret (false : Bool) else ret (true : Bool))))))))))
def pats : List Pat := [.agg [.sl 92, .bool, .str, .int .i64, .int .i64, .sl 9, .int .i64, .sl 3, .int .i64, .str, .int .i64, .int .i64, .sl 9, .str, .int .i64, .int .i64, .sl 9, .int .i64, .sl 3, .int .i64, .sl 3], .agg [.sl 92, .bool, .str, .int .i64, .int .i64, .sl 9, .int .i64, .sl 3, .int .i64, .str, .int .i64, .int .i64, .sl 9, .str, .int .i64, .int .i64, .sl 9, .int .i64, .sl 3, .int .i64, .sl 3]]
def res : RP := .one (.rd (.bool))
noncomputable abbrev E : Env := ⟨assoc Tab, conG [(19, laws_eqSignedS.con), (118, laws_eqEntry.con), (214, laws_eqProof.con), (215, laws_eqGap.con)], 34⟩
set_option maxRecDepth 100000
theorem run_eq (n : Nat) (ls : List L) : runF E (fun _ => []) Tryz.f167 res n (initS pats ls) = F (RAnswer.dec ls) (RAnswer.dec (dropT 21 ls)) := by kernel_rfl
noncomputable def md (a0 : MAnswer) (a1 : MAnswer) : Bool := eqB a0 a1
def gd (a0 : MAnswer) (a1 : MAnswer) : Prop := True
def acc (ls : List L) : RAnswer × RAnswer := ((RAnswer.dec ls), (RAnswer.dec (dropT 21 ls)))
noncomputable def R : (RAnswer × RAnswer) → Option Bool := RR (p2 gd) (u2 md)
theorem R_eq {a0} {a1} (h : gd a0 a1) : R ((MAnswer.r a0), (MAnswer.r a1)) = some (md a0 a1) := RR_eq (a := (a0, a1)) h
noncomputable def con : Con := CN pats res acc R
theorem okF (a0 : MAnswer) (a1 : MAnswer) (hg : gd a0 a1) : F (MAnswer.r a0) (MAnswer.r a1) = ret ((md a0 a1) : Bool) := by
  unfold md
  show (call (laws_eqSignedS.R ((a0.fChain.map MSigned.row), (a1.fChain.map MSigned.row))) fun v1 => (bif (!v1) then ret (false : Bool) else (bif (!(a0.fFound == a1.fFound)) then ret (false : Bool) else (call (laws_eqEntry.R ((MEntry.r a0.fEntry), (MEntry.r a1.fEntry))) fun v2 => (bif (!v2) then ret (false : Bool) else (call (laws_eqProof.R ((MProof.r a0.fProof), (MProof.r a1.fProof))) fun v3 => (bif (!v3) then ret (false : Bool) else (call (laws_eqGap.R ((MGap.r a0.fGap), (MGap.r a1.fGap))) fun v4 => (bif (!v4) then ret (false : Bool) else ret (true : Bool)))))))))) = _
  simp only [call_eq (laws_eqSignedS.R_eq (a0 := a0.fChain) (a1 := a1.fChain) trivial), laws_eqSignedS.md]
  simp only [call_eq (laws_eqEntry.R_eq (a0 := a0.fEntry) (a1 := a1.fEntry) trivial), laws_eqEntry.md]
  simp only [call_eq (laws_eqProof.R_eq (a0 := a0.fProof) (a1 := a1.fProof) trivial), laws_eqProof.md]
  simp only [call_eq (laws_eqGap.R_eq (a0 := a0.fGap) (a1 := a1.fGap) trivial), laws_eqGap.md]
  try simp only [bne, int_beq, bool_beq, ba_beq]
  have e : eqB a0 a1 = (eqB a0.fChain a1.fChain && (eqB a0.fFound a1.fFound && (eqB a0.fEntry a1.fEntry && (eqB a0.fProof a1.fProof && (eqB a0.fGap a1.fGap && true))))) := by
    cases a0; cases a1
    rw [Bool.eq_iff_iff]
    simp only [eqB_iff, Bool.and_eq_true, MAnswer.mk.injEq, and_true]
  rw [e]
  refine and_step fun _ => ?_
  refine and_step fun _ => ?_
  refine and_step fun _ => ?_
  refine and_step fun _ => ?_
  refine and_step fun _ => ?_
  rfl
theorem valid_ : Valid Tryz.prog Ev 167 con := VV (run := fun _ x => F x.1 x.2) mix tab_ok (.cons laws_eqSignedS.valid_ (.cons laws_eqEntry.valid_ (.cons laws_eqProof.valid_ (.cons laws_eqGap.valid_ .nil)))) Tryz.func167 (by kernel_rfl) run_eq (fun _ a _ _ hg => ⟨0, okF a.1 a.2 hg⟩)
end laws_eqAnswer
/-! laws.eqStored -/
namespace laws_eqStored
noncomputable def F (x0 : RStored) (x1 : RStored) : Ans := (bif (x0.fZone != x1.fZone) then ret (false : Bool) else (bif (!(x0.fLabel == x1.fLabel)) then ret (false : Bool) else (call (laws_eqAnswer.R (x0.fAnswer, x1.fAnswer)) fun v1 => (bif (!v1) then ret (false : Bool) else ret (true : Bool)))))
def pats : List Pat := [.agg [.int .i64, .str, .sl 92, .bool, .str, .int .i64, .int .i64, .sl 9, .int .i64, .sl 3, .int .i64, .str, .int .i64, .int .i64, .sl 9, .str, .int .i64, .int .i64, .sl 9, .int .i64, .sl 3, .int .i64, .sl 3], .agg [.int .i64, .str, .sl 92, .bool, .str, .int .i64, .int .i64, .sl 9, .int .i64, .sl 3, .int .i64, .str, .int .i64, .int .i64, .sl 9, .str, .int .i64, .int .i64, .sl 9, .int .i64, .sl 3, .int .i64, .sl 3]]
def res : RP := .one (.rd (.bool))
noncomputable abbrev E : Env := ⟨assoc Tab, conG [(167, laws_eqAnswer.con)], 21⟩
set_option maxRecDepth 100000
theorem run_eq (n : Nat) (ls : List L) : runF E (fun _ => []) Tryz.f125 res n (initS pats ls) = F (RStored.dec ls) (RStored.dec (dropT 23 ls)) := by kernel_rfl
noncomputable def md (a0 : MStored) (a1 : MStored) : Bool := eqB a0 a1
def gd (a0 : MStored) (a1 : MStored) : Prop := True
def acc (ls : List L) : RStored × RStored := ((RStored.dec ls), (RStored.dec (dropT 23 ls)))
noncomputable def R : (RStored × RStored) → Option Bool := RR (p2 gd) (u2 md)
theorem R_eq {a0} {a1} (h : gd a0 a1) : R ((MStored.r a0), (MStored.r a1)) = some (md a0 a1) := RR_eq (a := (a0, a1)) h
noncomputable def con : Con := CN pats res acc R
theorem okF (a0 : MStored) (a1 : MStored) (hg : gd a0 a1) : F (MStored.r a0) (MStored.r a1) = ret ((md a0 a1) : Bool) := by
  unfold md
  show (bif (a0.fZone != a1.fZone) then ret (false : Bool) else (bif (!(a0.fLabel == a1.fLabel)) then ret (false : Bool) else (call (laws_eqAnswer.R ((MAnswer.r a0.fAnswer), (MAnswer.r a1.fAnswer))) fun v1 => (bif (!v1) then ret (false : Bool) else ret (true : Bool))))) = _
  simp only [call_eq (laws_eqAnswer.R_eq (a0 := a0.fAnswer) (a1 := a1.fAnswer) trivial), laws_eqAnswer.md]
  try simp only [bne, int_beq, bool_beq, ba_beq]
  have e : eqB a0 a1 = (eqB a0.fZone a1.fZone && (eqB a0.fLabel a1.fLabel && (eqB a0.fAnswer a1.fAnswer && true))) := by
    cases a0; cases a1
    rw [Bool.eq_iff_iff]
    simp only [eqB_iff, Bool.and_eq_true, MStored.mk.injEq, and_true]
  rw [e]
  refine and_step fun _ => ?_
  refine and_step fun _ => ?_
  refine and_step fun _ => ?_
  rfl
theorem valid_ : Valid Tryz.prog Ev 125 con := VV (run := fun _ x => F x.1 x.2) mix tab_ok (.cons laws_eqAnswer.valid_ .nil) Tryz.func125 (by kernel_rfl) run_eq (fun _ a _ _ hg => ⟨0, okF a.1 a.2 hg⟩)
end laws_eqStored
/-! laws.eqStoredS -/
namespace laws_eqStoredS
inductive Pt where
  | p0 (a : List (List L)) (b : List (List L)) (c : Int)
def pid : Pt → Nat
  | .p0 .. => 4
def pvs : Pt → List V
  | .p0 a b c => [.sl none 124 a, .sl none 124 b, .int .i64 c]
def phs : Pt → List Root
  | .p0 a b c => []
noncomputable def step (J : Pt → Ans) : Pt → Ans
  | .p0 a b c => (bif (decide (c < (a.length : Int))) then (bif (decide ((0 : Int) ≤ c)) then (bif (decide (c < (a.length : Int))) then (bif (decide ((0 : Int) ≤ c)) then (bif (decide (c < (b.length : Int))) then (call (laws_eqStored.R ((RStored.at a (Int.toNat c)), (RStored.at b (Int.toNat c)))) fun v1 => (bif (!v1) then ret (false : Bool) else J (.p0 a b (IntKind.i64.wrap (c + 1))))) else none) else none) else none) else none) else ret (true : Bool))
noncomputable def start (J : Pt → Ans) (x0 : List (List L)) (x1 : List (List L)) : Ans := (bif ((x0.length : Int) != (x1.length : Int)) then ret (false : Bool) else J (.p0 x0 x1 0))
def live : Nat → Live := fun i => match i with | 4 => [(0, none), (1, none), (5, none)] | _ => []
def pats : List Pat := [.rd (.sl 124), .rd (.sl 124)]
def res : RP := .one (.rd (.bool))
noncomputable abbrev E : Env := ⟨assoc Tab, conG [(125, laws_eqStored.con)], 27⟩
set_option maxRecDepth 100000
theorem step_eq (I : Heads) (p : Pt) : enterC E live I (pid p) (bodyOf Tryz.f70) (stOf (live (pid p)) (pvs p) (phs p)) (doneK E Tryz.f70 res) = step (fun q => I (pid q) (pvs q) (phs q)) p := by
  cases p <;> kernel_rfl
theorem start_eq (I : Heads) (ls : List L) : runC E live I (bodyOf Tryz.f70) (initS pats ls) (doneK E Tryz.f70 res) = start (fun q => I (pid q) (pvs q) (phs q)) (ls.headD .hole).toSl ((dropT 1 ls).headD .hole).toSl := by kernel_rfl
theorem run_eq (n : Nat) (ls : List L) : runF E live Tryz.f70 res n (initS pats ls) = start (iter step n) (ls.headD .hole).toSl ((dropT 1 ls).headD .hole).toSl := runF_iter (id := pid) (vs := pvs) (hs := phs) (step := step) (start := fun J => start J (ls.headD .hole).toSl ((dropT 1 ls).headD .hole).toSl) step_eq (fun I => start_eq I ls) n
noncomputable def md (a0 : List MStored) (a1 : List MStored) : Bool := eqB a0 a1
def gd (a0 : List MStored) (a1 : List MStored) : Prop := True
def acc (ls : List L) : List (List L) × List (List L) := ((ls.headD .hole).toSl, ((dropT 1 ls).headD .hole).toSl)
noncomputable def R : (List (List L) × List (List L)) → Option Bool := RR (p2 gd) (u2 md)
theorem R_eq {a0} {a1} (h : gd a0 a1) : R ((a0.map MStored.row), (a1.map MStored.row)) = some (md a0 a1) := RR_eq (a := (a0, a1)) h
noncomputable def con : Con := CN pats res acc R
theorem okF (a0 : List MStored) (a1 : List MStored) (hg : gd a0 a1) (h0 : a0.length ≤ maxLen) (h1 : a1.length ≤ maxLen) : ∃ n, start (iter step n) (a0.map MStored.row) (a1.map MStored.row) = ret ((md a0 a1) : Bool) := by
  unfold start md
  simp only [List.length_map]
  refine eq_list (pt := fun i => Pt.p0 (a0.map MStored.row) (a1.map MStored.row) (i : Int)) (fun hl J i h h2 => ?_) (fun J => ?_)
  · simp only [step, List.length_map, lt_dec h, lt_dec h2, zle_dec, cond_true, toNat_nat, MStored.at_row h, MStored.at_row h2]
    rw [wrap_succ h h0]
    rw [call_eq (laws_eqStored.R_eq (a0 := a0[i]) (a1 := a1[i]) trivial), laws_eqStored.md]
    cases eqB a0[i] a1[i] <;> rfl
  · simp only [step, List.length_map, nlt_dec, cond_false]
theorem valid_ : Valid Tryz.prog Ev 70 con := VV (run := fun n x => start (iter step n) x.1 x.2) mix tab_ok (.cons laws_eqStored.valid_ .nil) Tryz.func70 (by kernel_rfl) run_eq (fun ls a hl e hg => okF a.1 a.2 hg (by have h : (ls.headD .hole).toSl.length ≤ maxLen := hl.1.len; have e : a.1.map MStored.row = (ls.headD .hole).toSl := (congrArg (fun x => x.1) e.symm); rw [← e] at h; simpa using h) (by have h : ((dropT 1 ls).headD .hole).toSl.length ≤ maxLen := hl.2.1.len; have e : a.2.map MStored.row = ((dropT 1 ls).headD .hole).toSl := (congrArg (fun x => x.2) e.symm); rw [← e] at h; simpa using h))
end laws_eqStoredS
/-! laws.eqCache -/
namespace laws_eqCache
noncomputable def F (x0 : RCache) (x1 : RCache) : Ans := (call (laws_eqStoredS.R (x0.fList, x1.fList)) fun v1 => (bif (!v1) then ret (false : Bool) else ret (true : Bool)))
def pats : List Pat := [.agg [.sl 124], .agg [.sl 124]]
def res : RP := .one (.rd (.bool))
noncomputable abbrev E : Env := ⟨assoc Tab, conG [(70, laws_eqStoredS.con)], 11⟩
set_option maxRecDepth 100000
theorem run_eq (n : Nat) (ls : List L) : runF E (fun _ => []) Tryz.f29 res n (initS pats ls) = F (RCache.dec ls) (RCache.dec (dropT 1 ls)) := by kernel_rfl
noncomputable def md (a0 : MCache) (a1 : MCache) : Bool := eqB a0 a1
def gd (a0 : MCache) (a1 : MCache) : Prop := True
def acc (ls : List L) : RCache × RCache := ((RCache.dec ls), (RCache.dec (dropT 1 ls)))
noncomputable def R : (RCache × RCache) → Option Bool := RR (p2 gd) (u2 md)
theorem R_eq {a0} {a1} (h : gd a0 a1) : R ((MCache.r a0), (MCache.r a1)) = some (md a0 a1) := RR_eq (a := (a0, a1)) h
noncomputable def con : Con := CN pats res acc R
theorem okF (a0 : MCache) (a1 : MCache) (hg : gd a0 a1) : F (MCache.r a0) (MCache.r a1) = ret ((md a0 a1) : Bool) := by
  unfold md
  show (call (laws_eqStoredS.R ((a0.fList.map MStored.row), (a1.fList.map MStored.row))) fun v1 => (bif (!v1) then ret (false : Bool) else ret (true : Bool))) = _
  simp only [call_eq (laws_eqStoredS.R_eq (a0 := a0.fList) (a1 := a1.fList) trivial), laws_eqStoredS.md]
  try simp only [bne, int_beq, bool_beq, ba_beq]
  have e : eqB a0 a1 = (eqB a0.fList a1.fList && true) := by
    cases a0; cases a1
    rw [Bool.eq_iff_iff]
    simp only [eqB_iff, Bool.and_eq_true, MCache.mk.injEq, and_true]
  rw [e]
  refine and_step fun _ => ?_
  rfl
theorem valid_ : Valid Tryz.prog Ev 29 con := VV (run := fun _ x => F x.1 x.2) mix tab_ok (.cons laws_eqStoredS.valid_ .nil) Tryz.func29 (by kernel_rfl) run_eq (fun _ a _ _ hg => ⟨0, okF a.1 a.2 hg⟩)
end laws_eqCache
/-! laws.FnExactIsCache -/
namespace laws_FnExactIsCache
noncomputable def F (x0 : RCache) : Ans := (call (laws_szCache.R (x0, 1048576)) fun v1 => (bif (decide (v1 < 0)) then ret (true : Bool) else (call (laws_toCache.R x0) fun v2 => (call (spec_IsCache.R v2) fun v3 => (call (laws_toCache.R x0) fun v4 => (call (impl_IsCache.R v4) fun v5 => (bif (!(v5 == v3)) then ret (false : Bool) else (call (laws_toCache.R x0) fun v6 => (call (laws_eqCache.R (v4, v6)) fun v7 => (bif (!v7) then ret (false : Bool) else ret (true : Bool)))))))))))
def pats : List Pat := [.agg [.sl 168]]
def res : RP := .one (.rd (.bool))
noncomputable abbrev E : Env := ⟨assoc Tab, conG [(25, laws_szCache.con), (27, laws_toCache.con), (37, spec_IsCache.con), (38, impl_IsCache.con), (29, laws_eqCache.con)], 27⟩
set_option maxRecDepth 100000
theorem run_eq (n : Nat) (ls : List L) : runF E (fun _ => []) Tryz.f9 res n (initS pats ls) = F (RCache.dec ls) := by kernel_rfl
noncomputable def md (a0 : MCache) : Bool := true
def gd (a0 : MCache) : Prop := (MCache.Sm maxLen a0)
def acc (ls : List L) : RCache := (RCache.dec ls)
noncomputable def R : RCache → Option Bool := RR gd md
theorem R_eq {a0} (h : gd a0) : R (MCache.r a0) = some (md a0) := RR_eq (a := a0) h
noncomputable def con : Con := CN pats res acc R
theorem okF (a0 : MCache) (hg : gd a0) : F (MCache.r a0) = ret ((md a0) : Bool) := by
  unfold md
  show (call (laws_szCache.R ((MCache.r a0), 1048576)) fun v1 => (bif (decide (v1 < 0)) then ret (true : Bool) else (call (laws_toCache.R (MCache.r a0)) fun v2 => (call (spec_IsCache.R v2) fun v3 => (call (laws_toCache.R (MCache.r a0)) fun v4 => (call (impl_IsCache.R v4) fun v5 => (bif (!(v5 == v3)) then ret (false : Bool) else (call (laws_toCache.R (MCache.r a0)) fun v6 => (call (laws_eqCache.R (v4, v6)) fun v7 => (bif (!v7) then ret (false : Bool) else ret (true : Bool))))))))))) = _
  rw [call_eq (laws_szCache.R_eq (a1 := (1048576 : Int)) ⟨hg, by omega, by omega⟩)]
  unfold laws_szCache.md
  by_cases c0 : (1048576 : Int) < (((MCache.size a0) : Nat) : Int)
  · rw [szM_neg c0]; rfl
  rw [szM_pos c0, dec_neg (by omega)]
  simp only [cond_false]
  have s0 : MCache.Sm (2 ^ 20) a0 := (MCache.Sm_of (by omega))
  rw [call_eq (laws_toCache.R_eq (a0 := a0) (MCache.Sm_mono (by decide) s0))]
  simp only [laws_toCache.md]
  rw [call_eq (spec_IsCache.R_eq (a0 := a0) (by
    have := And.intro trivial trivial
    unfold spec_IsCache.gd
    first | exact (MCache.Sm_mono (by decide) s0) | refine ⟨(MCache.Sm_mono (by decide) s0)⟩))]
  rw [call_eq (laws_toCache.R_eq (a0 := a0) (MCache.Sm_mono (by decide) s0))]
  simp only [laws_toCache.md]
  rw [call_eq (impl_IsCache.R_eq (a0 := a0) (by
    have := And.intro trivial trivial
    unfold impl_IsCache.gd
    first | exact (MCache.Sm_mono (by decide) s0) | refine ⟨(MCache.Sm_mono (by decide) s0)⟩))]
  try simp only [impl_IsCache.br, bne_self_eq_false, beq_self_eq_true, ba_refl, Bool.not_true, cond_false]
  rw [call_eq (laws_toCache.R_eq (a0 := a0) (MCache.Sm_mono (by decide) s0))]
  simp only [laws_toCache.md]
  rw [call_eq (laws_eqCache.R_eq (a0 := a0) (a1 := a0) trivial)]
  simp only [laws_eqCache.md, eqB_refl, Bool.not_true, cond_false]
theorem valid_ : Valid Tryz.prog Ev 9 con := VV (run := fun _ x => F x) mix tab_ok (.cons laws_szCache.valid_ (.cons laws_toCache.valid_ (.cons spec_IsCache.valid_ (.cons impl_IsCache.valid_ (.cons laws_eqCache.valid_ .nil))))) Tryz.func9 (by kernel_rfl) run_eq (fun _ a _ _ hg => ⟨0, okF a hg⟩)
theorem MKeys_wf103 (r : List L) (h : WfAll Ev.cells [.sl 3, .int .i64] r) : ∃ x : MKeys, MKeys.row x = r ∧ MKeys.Sm maxLen x := by
  obtain ⟨l0, t0, rfl, g0, h1⟩ := h.uncons
  obtain ⟨x0, rfl, s0⟩ := wf_list (show Ev.cells 3 = [.int .i64] from by kernel_rfl) wf_irow g0
  obtain ⟨l1, t1, rfl, g1, h2⟩ := h1.uncons
  obtain ⟨x1, rfl⟩ := wf_int g1
  obtain rfl := h2.isnil
  exact ⟨⟨x0, x1⟩, rfl, s0⟩
theorem MHead_wf105 (r : List L) (h : WfAll Ev.cells [.int .i64, .int .i64, .int .i64, .int .i64, .int .i64, .int .i64, .int .i64, .int .i64, .sl 3, .int .i64, .sl 3, .int .i64, .int .i64, .sl 3, .int .i64, .bool] r) : ∃ x : MHead, MHead.row x = r ∧ MHead.Sm maxLen x := by
  obtain ⟨l0, t0, rfl, g0, h1⟩ := h.uncons
  obtain ⟨x0, rfl⟩ := wf_int g0
  obtain ⟨l1, t1, rfl, g1, h2⟩ := h1.uncons
  obtain ⟨x1, rfl⟩ := wf_int g1
  obtain ⟨l2, t2, rfl, g2, h3⟩ := h2.uncons
  obtain ⟨x2, rfl⟩ := wf_int g2
  obtain ⟨l3, t3, rfl, g3, h4⟩ := h3.uncons
  obtain ⟨x3, rfl⟩ := wf_int g3
  obtain ⟨l4, t4, rfl, g4, h5⟩ := h4.uncons
  obtain ⟨x4, rfl⟩ := wf_int g4
  obtain ⟨l5, t5, rfl, g5, h6⟩ := h5.uncons
  obtain ⟨x5, rfl⟩ := wf_int g5
  obtain ⟨l6, t6, rfl, g6, h7⟩ := h6.uncons
  obtain ⟨x6, rfl⟩ := wf_int g6
  obtain ⟨l7, t7, rfl, g7, h8⟩ := h7.uncons
  obtain ⟨x7, rfl⟩ := wf_int g7
  obtain ⟨r8, t8, rfl, g8, h9⟩ := WfAll.unapp (a := [.sl 3, .int .i64]) (b := [.sl 3, .int .i64, .int .i64, .sl 3, .int .i64, .bool]) h8
  obtain ⟨x8, rfl, s8⟩ := MKeys_wf103 _ g8
  obtain ⟨r9, t9, rfl, g9, h10⟩ := WfAll.unapp (a := [.sl 3, .int .i64]) (b := [.int .i64, .sl 3, .int .i64, .bool]) h9
  obtain ⟨x9, rfl, s9⟩ := MKeys_wf103 _ g9
  obtain ⟨l10, t10, rfl, g10, h11⟩ := h10.uncons
  obtain ⟨x10, rfl⟩ := wf_int g10
  obtain ⟨r11, t11, rfl, g11, h12⟩ := WfAll.unapp (a := [.sl 3, .int .i64]) (b := [.bool]) h11
  obtain ⟨x11, rfl, s11⟩ := MKeys_wf103 _ g11
  obtain ⟨l12, t12, rfl, g12, h13⟩ := h12.uncons
  obtain ⟨x12, rfl⟩ := wf_bool g12
  obtain rfl := h13.isnil
  exact ⟨⟨x0, x1, x2, x3, x4, x5, x6, x7, x8, x9, x10, x11, x12⟩, rfl, ⟨s8, s9, s11⟩⟩
theorem MSig_wf189 (r : List L) (h : WfAll Ev.cells [.int .i64, .int .i64] r) : ∃ x : MSig, MSig.row x = r ∧ MSig.Sm maxLen x := by
  obtain ⟨l0, t0, rfl, g0, h1⟩ := h.uncons
  obtain ⟨x0, rfl⟩ := wf_int g0
  obtain ⟨l1, t1, rfl, g1, h2⟩ := h1.uncons
  obtain ⟨x1, rfl⟩ := wf_int g1
  obtain rfl := h2.isnil
  exact ⟨⟨x0, x1⟩, rfl, trivial⟩
theorem MSigned_wf108 (r : List L) (h : WfAll Ev.cells [.int .i64, .int .i64, .int .i64, .int .i64, .int .i64, .int .i64, .int .i64, .int .i64, .sl 3, .int .i64, .sl 3, .int .i64, .int .i64, .sl 3, .int .i64, .bool, .sl 189] r) : ∃ x : MSigned, MSigned.row x = r ∧ MSigned.Sm maxLen x := by
  obtain ⟨r0, t0, rfl, g0, h1⟩ := WfAll.unapp (a := [.int .i64, .int .i64, .int .i64, .int .i64, .int .i64, .int .i64, .int .i64, .int .i64, .sl 3, .int .i64, .sl 3, .int .i64, .int .i64, .sl 3, .int .i64, .bool]) (b := [.sl 189]) h
  obtain ⟨x0, rfl, s0⟩ := MHead_wf105 _ g0
  obtain ⟨l1, t1, rfl, g1, h2⟩ := h1.uncons
  obtain ⟨x1, rfl, s1⟩ := wf_list (show Ev.cells 189 = [.int .i64, .int .i64] from by kernel_rfl) MSig_wf189 g1
  obtain rfl := h2.isnil
  exact ⟨⟨x0, x1⟩, rfl, ⟨s0, s1⟩⟩
theorem MEntry_wf44 (r : List L) (h : WfAll Ev.cells [.str, .int .i64, .int .i64, .sl 9] r) : ∃ x : MEntry, MEntry.row x = r ∧ MEntry.Sm maxLen x := by
  obtain ⟨l0, t0, rfl, g0, h1⟩ := h.uncons
  obtain ⟨x0, rfl, s0⟩ := wf_str g0
  obtain ⟨l1, t1, rfl, g1, h2⟩ := h1.uncons
  obtain ⟨x1, rfl⟩ := wf_int g1
  obtain ⟨l2, t2, rfl, g2, h3⟩ := h2.uncons
  obtain ⟨x2, rfl⟩ := wf_int g2
  obtain ⟨l3, t3, rfl, g3, h4⟩ := h3.uncons
  obtain ⟨x3, rfl, s3⟩ := wf_list (show Ev.cells 9 = [.str] from by kernel_rfl) wf_srow g3
  obtain rfl := h4.isnil
  exact ⟨⟨x0, x1, x2, x3⟩, rfl, ⟨s0, s3⟩⟩
theorem MProof_wf162 (r : List L) (h : WfAll Ev.cells [.int .i64, .sl 3] r) : ∃ x : MProof, MProof.row x = r ∧ MProof.Sm maxLen x := by
  obtain ⟨l0, t0, rfl, g0, h1⟩ := h.uncons
  obtain ⟨x0, rfl⟩ := wf_int g0
  obtain ⟨l1, t1, rfl, g1, h2⟩ := h1.uncons
  obtain ⟨x1, rfl, s1⟩ := wf_list (show Ev.cells 3 = [.int .i64] from by kernel_rfl) wf_irow g1
  obtain rfl := h2.isnil
  exact ⟨⟨x0, x1⟩, rfl, s1⟩
theorem MGap_wf164 (r : List L) (h : WfAll Ev.cells [.int .i64, .str, .int .i64, .int .i64, .sl 9, .str, .int .i64, .int .i64, .sl 9, .int .i64, .sl 3, .int .i64, .sl 3] r) : ∃ x : MGap, MGap.row x = r ∧ MGap.Sm maxLen x := by
  obtain ⟨l0, t0, rfl, g0, h1⟩ := h.uncons
  obtain ⟨x0, rfl⟩ := wf_int g0
  obtain ⟨r1, t1, rfl, g1, h2⟩ := WfAll.unapp (a := [.str, .int .i64, .int .i64, .sl 9]) (b := [.str, .int .i64, .int .i64, .sl 9, .int .i64, .sl 3, .int .i64, .sl 3]) h1
  obtain ⟨x1, rfl, s1⟩ := MEntry_wf44 _ g1
  obtain ⟨r2, t2, rfl, g2, h3⟩ := WfAll.unapp (a := [.str, .int .i64, .int .i64, .sl 9]) (b := [.int .i64, .sl 3, .int .i64, .sl 3]) h2
  obtain ⟨x2, rfl, s2⟩ := MEntry_wf44 _ g2
  obtain ⟨r3, t3, rfl, g3, h4⟩ := WfAll.unapp (a := [.int .i64, .sl 3]) (b := [.int .i64, .sl 3]) h3
  obtain ⟨x3, rfl, s3⟩ := MProof_wf162 _ g3
  obtain ⟨r4, t4, rfl, g4, h5⟩ := WfAll.unapp (a := [.int .i64, .sl 3]) (b := []) h4
  obtain ⟨x4, rfl, s4⟩ := MProof_wf162 _ g4
  obtain rfl := h5.isnil
  exact ⟨⟨x0, x1, x2, x3, x4⟩, rfl, ⟨s1, s2, s3, s4⟩⟩
theorem MAnswer_wf166 (r : List L) (h : WfAll Ev.cells [.sl 108, .bool, .str, .int .i64, .int .i64, .sl 9, .int .i64, .sl 3, .int .i64, .str, .int .i64, .int .i64, .sl 9, .str, .int .i64, .int .i64, .sl 9, .int .i64, .sl 3, .int .i64, .sl 3] r) : ∃ x : MAnswer, MAnswer.row x = r ∧ MAnswer.Sm maxLen x := by
  obtain ⟨l0, t0, rfl, g0, h1⟩ := h.uncons
  obtain ⟨x0, rfl, s0⟩ := wf_list (show Ev.cells 108 = [.int .i64, .int .i64, .int .i64, .int .i64, .int .i64, .int .i64, .int .i64, .int .i64, .sl 3, .int .i64, .sl 3, .int .i64, .int .i64, .sl 3, .int .i64, .bool, .sl 189] from by kernel_rfl) MSigned_wf108 g0
  obtain ⟨l1, t1, rfl, g1, h2⟩ := h1.uncons
  obtain ⟨x1, rfl⟩ := wf_bool g1
  obtain ⟨r2, t2, rfl, g2, h3⟩ := WfAll.unapp (a := [.str, .int .i64, .int .i64, .sl 9]) (b := [.int .i64, .sl 3, .int .i64, .str, .int .i64, .int .i64, .sl 9, .str, .int .i64, .int .i64, .sl 9, .int .i64, .sl 3, .int .i64, .sl 3]) h2
  obtain ⟨x2, rfl, s2⟩ := MEntry_wf44 _ g2
  obtain ⟨r3, t3, rfl, g3, h4⟩ := WfAll.unapp (a := [.int .i64, .sl 3]) (b := [.int .i64, .str, .int .i64, .int .i64, .sl 9, .str, .int .i64, .int .i64, .sl 9, .int .i64, .sl 3, .int .i64, .sl 3]) h3
  obtain ⟨x3, rfl, s3⟩ := MProof_wf162 _ g3
  obtain ⟨r4, t4, rfl, g4, h5⟩ := WfAll.unapp (a := [.int .i64, .str, .int .i64, .int .i64, .sl 9, .str, .int .i64, .int .i64, .sl 9, .int .i64, .sl 3, .int .i64, .sl 3]) (b := []) h4
  obtain ⟨x4, rfl, s4⟩ := MGap_wf164 _ g4
  obtain rfl := h5.isnil
  exact ⟨⟨x0, x1, x2, x3, x4⟩, rfl, ⟨s0, s2, s3, s4⟩⟩
theorem MStored_wf168 (r : List L) (h : WfAll Ev.cells [.int .i64, .str, .sl 108, .bool, .str, .int .i64, .int .i64, .sl 9, .int .i64, .sl 3, .int .i64, .str, .int .i64, .int .i64, .sl 9, .str, .int .i64, .int .i64, .sl 9, .int .i64, .sl 3, .int .i64, .sl 3] r) : ∃ x : MStored, MStored.row x = r ∧ MStored.Sm maxLen x := by
  obtain ⟨l0, t0, rfl, g0, h1⟩ := h.uncons
  obtain ⟨x0, rfl⟩ := wf_int g0
  obtain ⟨l1, t1, rfl, g1, h2⟩ := h1.uncons
  obtain ⟨x1, rfl, s1⟩ := wf_str g1
  obtain ⟨r2, t2, rfl, g2, h3⟩ := WfAll.unapp (a := [.sl 108, .bool, .str, .int .i64, .int .i64, .sl 9, .int .i64, .sl 3, .int .i64, .str, .int .i64, .int .i64, .sl 9, .str, .int .i64, .int .i64, .sl 9, .int .i64, .sl 3, .int .i64, .sl 3]) (b := []) h2
  obtain ⟨x2, rfl, s2⟩ := MAnswer_wf166 _ g2
  obtain rfl := h3.isnil
  exact ⟨⟨x0, x1, x2⟩, rfl, ⟨s1, s2⟩⟩
theorem MCache_wf50 (r : List L) (h : WfAll Ev.cells [.sl 168] r) : ∃ x : MCache, MCache.row x = r ∧ MCache.Sm maxLen x := by
  obtain ⟨l0, t0, rfl, g0, h1⟩ := h.uncons
  obtain ⟨x0, rfl, s0⟩ := wf_list (show Ev.cells 168 = [.int .i64, .str, .sl 108, .bool, .str, .int .i64, .int .i64, .sl 9, .int .i64, .sl 3, .int .i64, .str, .int .i64, .int .i64, .sl 9, .str, .int .i64, .int .i64, .sl 9, .int .i64, .sl 3, .int .i64, .sl 3] from by kernel_rfl) MStored_wf168 g0
  obtain rfl := h1.isnil
  exact ⟨⟨x0⟩, rfl, s0⟩
theorem holds (ls : List L) (h : WfAll Ev.cells ([50].flatMap Ev.cells) ls) : con.sem ls = some [.bool true] := by
  have hk : [50].flatMap Ev.cells = [.sl 168] := by kernel_rfl
  rw [hk] at h
  obtain ⟨r0, t0, rfl, g0, h1⟩ := WfAll.unapp (a := [.sl 168]) (b := []) h
  obtain ⟨x0, rfl, s0⟩ := MCache_wf50 _ g0
  obtain rfl := h1.isnil
  show (R (MCache.r x0)).map RT.enc = _
  rw [R_eq s0]
  rfl
end laws_FnExactIsCache
end Go.DM
