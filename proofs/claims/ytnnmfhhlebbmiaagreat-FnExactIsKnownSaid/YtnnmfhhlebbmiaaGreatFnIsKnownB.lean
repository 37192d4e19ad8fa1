/- What the functions compute that the law reaches, and that the law returns true. Conditions: none. -/
import Derived.Test.YtnnmfhhlebbmiaaGreatTy
import Derived.Test.YtnnmfhhlebbmiaaGreatFnIsKnownA
import Derived.Test.YtnnmfhhlebbmiaaGreatProg
import Derived.Lib.AppendZerosOnto
import Derived.Lib.Bytealg
import Derived.Laws.Externs
import Derived.Lib.Walk
import Derived.Lib.Hide
import Derived.Lib.Strings
set_option linter.all false
namespace Go.DM
open Go.Proofs
/-! impl.CountSigs -/
namespace impl_CountSigs
inductive Pt where
  | p0 (a : List (List L)) (b : Int) (c : List (List L)) (d : Int) (e : Int) (f : List (List L))
def pid : Pt → Nat
  | .p0 .. => 3
def pvs : Pt → List V
  | .p0 a b c d e f => [.sl none 179 a, .bptr 0 0, .int .i64 b, .sl none 3 c, .int .i64 d, .int .i64 e]
def phs : Pt → List Root
  | .p0 a b c d e f => [.box [.sl none 3 f]]
noncomputable def step (J : Pt → Ans) : Pt → Ans
  | .p0 a b c d e f => (bif (decide (e < d)) then (bif (decide ((0 : Int) ≤ e)) then (bif (decide (e < (c.length : Int))) then (call (slices_ContainsFunc_Simpl_Sig_impl_Sig__impl_CountSigs_1.R (a, (iAt c (Int.toNat e)), f)) fun v1 => (bif v1 then J (.p0 a (IntKind.i64.wrap (b + 1)) c d (IntKind.i64.wrap (e + 1)) f) else J (.p0 a b c d (IntKind.i64.wrap (e + 1)) f))) else none) else none) else ret (b : Int))
noncomputable def start (J : Pt → Ans) (x0 : RKeys) (x1 : List (List L)) (x2 : List (List L)) : Ans := J (.p0 x2 0 x0.fList (x0.fList.length : Int) 0 x1)
def live : Nat → Live := fun i => match i with | 3 => [(2, none), (4, none), (7, none), (11, none), (12, none), (13, none)] | _ => []
def pats : List Pat := [.agg [.sl 3, .int .i64], .rd (.sl 3), .rd (.sl 179)]
def res : RP := .one (.rd (.int .i64))
noncomputable abbrev E : Env := ⟨assoc Tab, conG [(260, slices_ContainsFunc_Simpl_Sig_impl_Sig__impl_CountSigs_1.con)], 24⟩
set_option maxRecDepth 100000
theorem step_eq (I : Heads) (p : Pt) : enterC E live I (pid p) (bodyOf Tryz.f243) (stOf (live (pid p)) (pvs p) (phs p)) (doneK E Tryz.f243 res) = step (fun q => I (pid q) (pvs q) (phs q)) p := by
  cases p <;> kernel_rfl
theorem start_eq (I : Heads) (ls : List L) : runC E live I (bodyOf Tryz.f243) (initS pats ls) (doneK E Tryz.f243 res) = start (fun q => I (pid q) (pvs q) (phs q)) (RKeys.dec ls) ((dropT 2 ls).headD .hole).toSl ((dropT 3 ls).headD .hole).toSl := by kernel_rfl
theorem run_eq (n : Nat) (ls : List L) : runF E live Tryz.f243 res n (initS pats ls) = start (iter step n) (RKeys.dec ls) ((dropT 2 ls).headD .hole).toSl ((dropT 3 ls).headD .hole).toSl := runF_iter (id := pid) (vs := pvs) (hs := phs) (step := step) (start := fun J => start J (RKeys.dec ls) ((dropT 2 ls).headD .hole).toSl ((dropT 3 ls).headD .hole).toSl) step_eq (fun I => start_eq I ls) n
noncomputable def md (a0 : MKeys) (a1 : List Int) (a2 : List MSig) : Int := (eachM (S := Int) (β := Int) (fun (y1 : Int) (s3 : Int) => (bif (slices_ContainsFunc_Simpl_Sig_impl_Sig__impl_CountSigs_1.md a2 y1 a1) then (.inl (IntKind.i64.wrap (s3 + 1))) else (.inl s3))) (fun (s3 : Int) => (s3 : Int)) a0.fList 0)
def gd (a0 : MKeys) (a1 : List Int) (a2 : List MSig) : Prop := (MKeys.Sm (2 ^ 21) a0) ∧ (SmL (2 ^ 38) (fun y : Int => True) a1) ∧ (SmL (2 ^ 21) (fun y : MSig => MSig.Sm (2 ^ 21) y) a2)
def acc (ls : List L) : RKeys × List (List L) × List (List L) := ((RKeys.dec ls), ((dropT 2 ls).headD .hole).toSl, ((dropT 3 ls).headD .hole).toSl)
noncomputable def R : (RKeys × List (List L) × List (List L)) → Option Int := RR (p3 gd) (u3 md)
theorem R_eq {a0} {a1} {a2} (h : gd a0 a1 a2) : R ((MKeys.r a0), (a1.map iRow), (a2.map MSig.row)) = some (md a0 a1 a2) := RR_eq (a := (a0, a1, a2)) h
noncomputable def con : Con := CN pats res acc R
theorem okF (a0 : MKeys) (a1 : List Int) (a2 : List MSig) (hg : gd a0 a1 a2) : ∃ n, start (iter step n) (MKeys.r a0) (a1.map iRow) (a2.map MSig.row) = ret ((md a0 a1 a2) : Int) := by
  unfold gd at hg
  obtain ⟨H0, H1, H2⟩ := hg
  unfold start md
  try simp only [S0, MKeys.rs]
  have Bh2 : a0.fList.length ≤ maxLen := (by
      have := (H0).1
      try simp only [maxLen] at *
      omega)
  refine ex_eq (out := ret) (loopM_eachM (z := 0)) ?_
  refine ex_pt (p := Pt.p0 (a2.map MSig.row) 0 (a0.fList.map iRow) (a0.fList.length : Int) 0 (a1.map iRow)) (by first | rfl | (simp only [S0, MKeys.rs, MP]; done) | (simp only [MP]; rfl)) ?_
  refine loopM_ok (pt := fun (i1 : Nat) (s3 : Int) => Pt.p0 (a2.map MSig.row) s3 (a0.fList.map iRow) (a0.fList.length : Int) (i1 : Int) (a1.map iRow)) (s := (0 : Int)) (out := ret) (fun _ _ => True) (fun J i1 s3 h2 hih2 => ?_) (fun s3 hih2 => ?_) trivial
  · simp only [step, S0, MKeys.rs]
    have bb_ := Bh2
    simp only [maxLen] at bb_
    have := (H0).1
    refine Rnd.yes (by apply decide_eq_true; omega) ?_
    refine Rnd.yes zle_dec ?_
    refine Rnd.yes (lt_dec h2) ?_
    refine Rnd.call_to (slices_ContainsFunc_Simpl_Sig_impl_Sig__impl_CountSigs_1.md a2 (a0.fList.getD i1 0) a1) (slices_ContainsFunc_Simpl_Sig_impl_Sig__impl_CountSigs_1.R_eq (a0 := a2) (a1 := (a0.fList.getD i1 0)) (a2 := a1) ⟨H2, H1⟩) ?_
    refine Rnd.bif (fun c4 => ?_) (fun c4 => ?_)
    · refine Rnd.inl trivial ?_
      rw [wrap_succ h2 Bh2]
      all_goals first | rfl | (simp only [S0, MKeys.rs, MP]; first | done | rfl)
    · refine Rnd.inl trivial ?_
      rw [wrap_succ h2 Bh2]
      all_goals first | rfl | (simp only [S0, MKeys.rs, MP]; first | done | rfl)
  · simp only [step, S0, MKeys.rs]
    have := (H0).1
    refine ex_no (by apply decide_eq_false; omega) ?_
    refine ⟨0, ?_⟩
    first | rfl | (simp only [S0, MKeys.rs, MP]; first | done | rfl)
theorem valid_ : Valid Tryz.prog Ev 243 con := VV (run := fun n x => start (iter step n) x.1 x.2.1 x.2.2) mix tab_ok (.cons slices_ContainsFunc_Simpl_Sig_impl_Sig__impl_CountSigs_1.valid_ .nil) Tryz.func243 (by kernel_rfl) run_eq (fun _ a _ _ hg => okF a.1 a.2.1 a.2.2 hg)
theorem br (a0 : MKeys) (a1 : List Int) (a2 : List MSig) : md a0 a1 a2 = spec_CountSigs.md a0 a1 a2 := by
  unfold md spec_CountSigs.md
  refine eachM_congr (fun x _ s => ?_) (fun s => rfl)
  rw [slices_ContainsFunc_Simpl_Sig_impl_Sig__impl_CountSigs_1.any_eq]
  refine Eq.trans ?_ (eachM_any' (β := Int ⊕ Int) (p := fun y => impl_CountSigs_1.md y x a1) (b := Sum.inl (IntKind.i64.wrap (s + 1))) (c := Sum.inl s) (fun y s' => ?_) a2 ()).symm
  · cases a2.any (fun y => impl_CountSigs_1.md y x a1) <;> rfl
  · unfold impl_CountSigs_1.md
    simp only [impl_IsSigBy.br]
    cases y.fKey == x <;> cases spec_IsSigBy.md y a1 <;> rfl
end impl_CountSigs
/-! impl.IsSigned -/
namespace impl_IsSigned
noncomputable def F (x0 : RKeys) (x1 : List (List L)) (x2 : List (List L)) : Ans := (call (impl_IsKeys.R x0) fun v1 => (bif v1 then (call (impl_CountSigs.R (x0, x1, x2)) fun v2 => ret ((decide (v2 ≥ x0.fNeed)) : Bool)) else ret (false : Bool)))
def pats : List Pat := [.agg [.sl 3, .int .i64], .rd (.sl 3), .rd (.sl 179)]
def res : RP := .one (.rd (.bool))
noncomputable abbrev E : Env := ⟨assoc Tab, conG [(197, impl_IsKeys.con), (243, impl_CountSigs.con)], 18⟩
set_option maxRecDepth 100000
theorem run_eq (n : Nat) (ls : List L) : runF E (fun _ => []) Tryz.f202 res n (initS pats ls) = F (RKeys.dec ls) ((dropT 2 ls).headD .hole).toSl ((dropT 3 ls).headD .hole).toSl := by kernel_rfl
noncomputable def md (a0 : MKeys) (a1 : List Int) (a2 : List MSig) : Bool := (bif (impl_IsKeys.md a0) then ((decide ((impl_CountSigs.md a0 a1 a2) ≥ a0.fNeed)) : Bool) else (false : Bool))
def gd (a0 : MKeys) (a1 : List Int) (a2 : List MSig) : Prop := (MKeys.Sm (2 ^ 21) a0) ∧ (SmL (2 ^ 38) (fun y : Int => True) a1) ∧ (SmL (2 ^ 21) (fun y : MSig => MSig.Sm (2 ^ 21) y) a2)
def acc (ls : List L) : RKeys × List (List L) × List (List L) := ((RKeys.dec ls), ((dropT 2 ls).headD .hole).toSl, ((dropT 3 ls).headD .hole).toSl)
noncomputable def R : (RKeys × List (List L) × List (List L)) → Option Bool := RR (p3 gd) (u3 md)
theorem R_eq {a0} {a1} {a2} (h : gd a0 a1 a2) : R ((MKeys.r a0), (a1.map iRow), (a2.map MSig.row)) = some (md a0 a1 a2) := RR_eq (a := (a0, a1, a2)) h
noncomputable def con : Con := CN pats res acc R
theorem okF (a0 : MKeys) (a1 : List Int) (a2 : List MSig) (hg : gd a0 a1 a2) : F (MKeys.r a0) (a1.map iRow) (a2.map MSig.row) = ret ((md a0 a1 a2) : Bool) := by
  unfold gd at hg
  obtain ⟨H0, H1, H2⟩ := hg
  unfold F md
  try simp only [S0, MKeys.rs]
  refine call_to (impl_IsKeys.md a0) (impl_IsKeys.R_eq (a0 := a0) H0) ?_
  refine bif_out ret (fun c1 => ?_) (fun _ => rfl)
  refine call_to (impl_CountSigs.md a0 a1 a2) (impl_CountSigs.R_eq (a0 := a0) (a1 := a1) (a2 := a2) ⟨H0, H1, H2⟩) ?_
  first | rfl | (simp only [S0, MKeys.rs, MP]; first | done | rfl)
theorem valid_ : Valid Tryz.prog Ev 202 con := VV (run := fun _ x => F x.1 x.2.1 x.2.2) mix tab_ok (.cons impl_IsKeys.valid_ (.cons impl_CountSigs.valid_ .nil)) Tryz.func202 (by kernel_rfl) run_eq (fun _ a _ _ hg => ⟨0, okF a.1 a.2.1 a.2.2 hg⟩)
theorem br (a0 : MKeys) (a1 : List Int) (a2 : List MSig) : md a0 a1 a2 = spec_IsSigned.md a0 a1 a2 := by
  unfold md spec_IsSigned.md
  first
  | (simp only [impl_IsKeys.br, impl_CountSigs.br]; done)
  | (simp only [impl_IsKeys.br, impl_CountSigs.br]; rfl)
  | rfl
end impl_IsSigned
/-! (impl.Signed).isSignedBy -/
namespace impl_Signed_isSignedBy
noncomputable def F (x0 : RSigned) (x1 : RKeys) : Ans := (call (impl_HeadInts.R x0.fHead) fun v1 => (call (impl_IsSigned.R (x1, v1, x0.fSigs)) fun v2 => ret (v2 : Bool)))
def pats : List Pat := [.agg [.int .i64, .int .i64, .int .i64, .int .i64, .int .i64, .int .i64, .int .i64, .int .i64, .sl 3, .int .i64, .sl 3, .int .i64, .int .i64, .sl 3, .int .i64, .bool, .sl 179], .agg [.sl 3, .int .i64]]
def res : RP := .one (.rd (.bool))
noncomputable abbrev E : Env := ⟨assoc Tab, conG [(140, impl_HeadInts.con), (202, impl_IsSigned.con)], 12⟩
set_option maxRecDepth 100000
theorem run_eq (n : Nat) (ls : List L) : runF E (fun _ => []) Tryz.f144 res n (initS pats ls) = F (RSigned.dec ls) (RKeys.dec (dropT 17 ls)) := by kernel_rfl
noncomputable def md (a0 : MSigned) (a1 : MKeys) : Bool := ((impl_IsSigned.md a1 (impl_HeadInts.md a0.fHead) a0.fSigs) : Bool)
def gd (a0 : MSigned) (a1 : MKeys) : Prop := (MSigned.Sm (2 ^ 21) a0) ∧ (MKeys.Sm (2 ^ 21) a1)
def acc (ls : List L) : RSigned × RKeys := ((RSigned.dec ls), (RKeys.dec (dropT 17 ls)))
noncomputable def R : (RSigned × RKeys) → Option Bool := RR (p2 gd) (u2 md)
theorem R_eq {a0} {a1} (h : gd a0 a1) : R ((MSigned.r a0), (MKeys.r a1)) = some (md a0 a1) := RR_eq (a := (a0, a1)) h
noncomputable def con : Con := CN pats res acc R
theorem okF (a0 : MSigned) (a1 : MKeys) (hg : gd a0 a1) : F (MSigned.r a0) (MKeys.r a1) = ret ((md a0 a1) : Bool) := by
  unfold gd at hg
  obtain ⟨H0, H1⟩ := hg
  unfold F md
  try simp only [S0, MSigned.rs]
  refine call_to ((impl_HeadInts.md a0.fHead).map iRow) (impl_HeadInts.R_eq (a0 := a0.fHead) H0.1) ?_
  try simp only [S0, MSigned.rs]
  refine call_to (impl_IsSigned.md a1 (impl_HeadInts.md a0.fHead) a0.fSigs) (impl_IsSigned.R_eq (a0 := a1) (a1 := (impl_HeadInts.md a0.fHead)) (a2 := a0.fSigs) ⟨H1, ⟨(by
      have := impl_HeadInts.len a0.fHead
      have := (H0.1.1).1
      have := (H0.1.2.1).1
      have := (H0.1.2.2).1
      try simp (disch := omega) only [LN, wi]
      first | omega | (simp; done) | (simp; omega)), fun _ _ => trivial⟩, H0.2⟩) ?_
  first | rfl | (simp only [S0, MSigned.rs, MP]; first | done | rfl)
theorem valid_ : Valid Tryz.prog Ev 144 con := VV (run := fun _ x => F x.1 x.2) mix tab_ok (.cons impl_HeadInts.valid_ (.cons impl_IsSigned.valid_ .nil)) Tryz.func144 (by kernel_rfl) run_eq (fun _ a _ _ hg => ⟨0, okF a.1 a.2 hg⟩)
end impl_Signed_isSignedBy
/-! impl.IsFirst -/
namespace impl_IsFirst
noncomputable def F (x0 : RSigned) : Ans := (call (impl_IsHead.R x0.fHead) fun v1 => (bif v1 then (bif (x0.fHead.fEpoch == 0) then (bif (x0.fHead.fKind == 1) then (bif (!x0.fHead.fFrozen) then (call (impl_ZoneOf.R (x0.fHead.fKeys, x0.fHead.fPrev)) fun v2 => (bif (x0.fHead.fZone == v2) then (call (impl_Signed_isSignedBy.R (x0, x0.fHead.fKeys)) fun v3 => ret (v3 : Bool)) else ret (false : Bool))) else ret (false : Bool)) else ret (false : Bool)) else ret (false : Bool)) else ret (false : Bool)))
def pats : List Pat := [.agg [.int .i64, .int .i64, .int .i64, .int .i64, .int .i64, .int .i64, .int .i64, .int .i64, .sl 3, .int .i64, .sl 3, .int .i64, .int .i64, .sl 3, .int .i64, .bool, .sl 179]]
def res : RP := .one (.rd (.bool))
noncomputable abbrev E : Env := ⟨assoc Tab, conG [(142, impl_IsHead.con), (143, impl_ZoneOf.con), (144, impl_Signed_isSignedBy.con)], 39⟩
set_option maxRecDepth 100000
theorem run_eq (n : Nat) (ls : List L) : runF E (fun _ => []) Tryz.f95 res n (initS pats ls) = F (RSigned.dec ls) := by kernel_rfl
noncomputable def md (a0 : MSigned) : Bool := (bif (impl_IsHead.md a0.fHead) then (bif (a0.fHead.fEpoch == 0) then (bif (a0.fHead.fKind == 1) then (bif (!a0.fHead.fFrozen) then (bif (a0.fHead.fZone == (impl_ZoneOf.md a0.fHead.fKeys a0.fHead.fPrev)) then ((impl_Signed_isSignedBy.md a0 a0.fHead.fKeys) : Bool) else (false : Bool)) else (false : Bool)) else (false : Bool)) else (false : Bool)) else (false : Bool))
def gd (a0 : MSigned) : Prop := (MSigned.Sm (2 ^ 21) a0)
def acc (ls : List L) : RSigned := (RSigned.dec ls)
noncomputable def R : RSigned → Option Bool := RR gd md
theorem R_eq {a0} (h : gd a0) : R (MSigned.r a0) = some (md a0) := RR_eq (a := a0) h
noncomputable def con : Con := CN pats res acc R
theorem okF (a0 : MSigned) (hg : gd a0) : F (MSigned.r a0) = ret ((md a0) : Bool) := by
  unfold gd at hg
  have H0 := hg
  unfold F md
  try simp only [S0, MHead.rs, MSigned.rs]
  refine call_to (impl_IsHead.md a0.fHead) (impl_IsHead.R_eq (a0 := a0.fHead) H0.1) ?_
  refine bif_out ret (fun c1 => ?_) (fun _ => rfl)
  refine bif_out ret (fun c2 => ?_) (fun _ => rfl)
  refine bif_out ret (fun c3 => ?_) (fun _ => rfl)
  refine bif_out ret (fun c4 => ?_) (fun _ => rfl)
  refine call_to (impl_ZoneOf.md a0.fHead.fKeys a0.fHead.fPrev) (impl_ZoneOf.R_eq (a0 := a0.fHead.fKeys) (a1 := a0.fHead.fPrev) H0.1.1) ?_
  refine bif_out ret (fun c5 => ?_) (fun _ => rfl)
  refine call_to (impl_Signed_isSignedBy.md a0 a0.fHead.fKeys) (impl_Signed_isSignedBy.R_eq (a0 := a0) (a1 := a0.fHead.fKeys) ⟨H0, H0.1.1⟩) ?_
  first | rfl | (simp only [S0, MHead.rs, MSigned.rs, MP]; first | done | rfl)
theorem valid_ : Valid Tryz.prog Ev 95 con := VV (run := fun _ x => F x) mix tab_ok (.cons impl_IsHead.valid_ (.cons impl_ZoneOf.valid_ (.cons impl_Signed_isSignedBy.valid_ .nil))) Tryz.func95 (by kernel_rfl) run_eq (fun _ a _ _ hg => ⟨0, okF a hg⟩)
theorem br (a0 : MSigned) : md a0 = spec_IsFirst.md a0 := by
  unfold md spec_IsFirst.md
  simp only [impl_Signed_isSignedBy.md, impl_IsSigned.br, impl_HeadInts.br, impl_IsHead.br, impl_ZoneOf.br]
end impl_IsFirst
/-! impl.HeadDigest -/
namespace impl_HeadDigest
noncomputable def F (x0 : RHead) : Ans := (call (impl_HeadInts.R x0) fun v1 => (bif (lim (((1 : Int) + (v1.length : Int)) * 8)) then (call (impl_Hash.R ([[L.int 233]] ++ v1)) fun v2 => ret (v2 : Int)) else none))
def pats : List Pat := [.agg [.int .i64, .int .i64, .int .i64, .int .i64, .int .i64, .int .i64, .int .i64, .int .i64, .sl 3, .int .i64, .sl 3, .int .i64, .int .i64, .sl 3, .int .i64, .bool]]
def res : RP := .one (.rd (.int .i64))
noncomputable abbrev E : Env := ⟨assoc Tab, conG [(140, impl_HeadInts.con), (201, impl_Hash.con)], 8⟩
set_option maxRecDepth 100000
theorem run_eq (n : Nat) (ls : List L) : runF E (fun _ => []) Tryz.f244 res n (initS pats ls) = F (RHead.dec ls) := by kernel_rfl
noncomputable def md (a0 : MHead) : Int := ((impl_Hash.md ([233] ++ (impl_HeadInts.md a0))) : Int)
def gd (a0 : MHead) : Prop := (MHead.Sm (2 ^ 21) a0)
def acc (ls : List L) : RHead := (RHead.dec ls)
noncomputable def R : RHead → Option Int := RR gd md
theorem R_eq {a0} (h : gd a0) : R (MHead.r a0) = some (md a0) := RR_eq (a := a0) h
noncomputable def con : Con := CN pats res acc R
theorem okF (a0 : MHead) (hg : gd a0) : F (MHead.r a0) = ret ((md a0) : Int) := by
  unfold gd at hg
  have H0 := hg
  unfold F md
  try simp only [S0]
  refine call_to ((impl_HeadInts.md a0).map iRow) (impl_HeadInts.R_eq (a0 := a0) H0) ?_
  try simp only [S0]
  refine yes_ret (by
      have := impl_HeadInts.len a0
      have := (H0.1).1
      have := (H0.2.1).1
      have := (H0.2.2).1
      refine lim_t ?_
      try simp (disch := omega) only [LN, wi]
      first | omega | (simp; done) | (simp; omega)) ?_
  refine call_to (impl_Hash.md ([233] ++ (impl_HeadInts.md a0))) ?_ ?_
  · have R_ := impl_Hash.R_eq (a0 := ([233] ++ (impl_HeadInts.md a0))) ⟨(by
        have := impl_HeadInts.len a0
        have := (H0.1).1
        have := (H0.2.1).1
        have := (H0.2.2).1
        try simp (disch := omega) only [LN, wi]
        first | omega | (simp; done) | (simp; omega)), fun _ _ => trivial⟩
    first | exact R_ | (simp only [MP, S0] at R_ ⊢; first | exact R_ | (rw [← R_]; rfl))
  first | rfl | (simp only [S0, MP]; first | done | rfl)
theorem valid_ : Valid Tryz.prog Ev 244 con := VV (run := fun _ x => F x) mix tab_ok (.cons impl_HeadInts.valid_ (.cons impl_Hash.valid_ .nil)) Tryz.func244 (by kernel_rfl) run_eq (fun _ a _ _ hg => ⟨0, okF a hg⟩)
theorem br (a0 : MHead) : md a0 = spec_HeadDigest.md a0 := by
  unfold md spec_HeadDigest.md
  first
  | (simp only [impl_HeadInts.br, impl_Hash.br]; done)
  | (simp only [impl_HeadInts.br, impl_Hash.br]; rfl)
  | rfl
end impl_HeadDigest
/-! impl.isNext -/
namespace impl_isNext
noncomputable def F (x0 : RHead) (x1 : RHead) : Ans := (bif (x1.fZone == x0.fZone) then (bif (x1.fEpoch == (IntKind.i64.wrap (x0.fEpoch + 1))) then (call (impl_HeadDigest.R x0) fun v1 => (bif (x1.fPrev == v1) then ret ((decide (x1.fTime ≥ x0.fTime)) : Bool) else ret (false : Bool))) else ret (false : Bool)) else ret (false : Bool))
def pats : List Pat := [.agg [.int .i64, .int .i64, .int .i64, .int .i64, .int .i64, .int .i64, .int .i64, .int .i64, .sl 3, .int .i64, .sl 3, .int .i64, .int .i64, .sl 3, .int .i64, .bool], .agg [.int .i64, .int .i64, .int .i64, .int .i64, .int .i64, .int .i64, .int .i64, .int .i64, .sl 3, .int .i64, .sl 3, .int .i64, .int .i64, .sl 3, .int .i64, .bool]]
def res : RP := .one (.rd (.bool))
noncomputable abbrev E : Env := ⟨assoc Tab, conG [(244, impl_HeadDigest.con)], 32⟩
set_option maxRecDepth 100000
theorem run_eq (n : Nat) (ls : List L) : runF E (fun _ => []) Tryz.f203 res n (initS pats ls) = F (RHead.dec ls) (RHead.dec (dropT 16 ls)) := by kernel_rfl
noncomputable def md (a0 : MHead) (a1 : MHead) : Bool := (bif (a1.fZone == a0.fZone) then (bif (a1.fEpoch == (IntKind.i64.wrap (a0.fEpoch + 1))) then (bif (a1.fPrev == (impl_HeadDigest.md a0)) then ((decide (a1.fTime ≥ a0.fTime)) : Bool) else (false : Bool)) else (false : Bool)) else (false : Bool))
def gd (a0 : MHead) (a1 : MHead) : Prop := (MHead.Sm (2 ^ 21) a0)
def acc (ls : List L) : RHead × RHead := ((RHead.dec ls), (RHead.dec (dropT 16 ls)))
noncomputable def R : (RHead × RHead) → Option Bool := RR (p2 gd) (u2 md)
theorem R_eq {a0} {a1} (h : gd a0 a1) : R ((MHead.r a0), (MHead.r a1)) = some (md a0 a1) := RR_eq (a := (a0, a1)) h
noncomputable def con : Con := CN pats res acc R
theorem okF (a0 : MHead) (a1 : MHead) (hg : gd a0 a1) : F (MHead.r a0) (MHead.r a1) = ret ((md a0 a1) : Bool) := by
  unfold gd at hg
  have H0 := hg
  unfold F md
  try simp only [S0, MHead.rs]
  refine bif_out ret (fun c1 => ?_) (fun _ => rfl)
  refine bif_out ret (fun c2 => ?_) (fun _ => rfl)
  refine call_to (impl_HeadDigest.md a0) (impl_HeadDigest.R_eq (a0 := a0) H0) ?_
  refine bif_out ret (fun c3 => ?_) (fun _ => rfl)
  first | rfl | (simp only [S0, MHead.rs, MP]; first | done | rfl)
theorem valid_ : Valid Tryz.prog Ev 203 con := VV (run := fun _ x => F x.1 x.2) mix tab_ok (.cons impl_HeadDigest.valid_ .nil) Tryz.func203 (by kernel_rfl) run_eq (fun _ a _ _ hg => ⟨0, okF a.1 a.2 hg⟩)
end impl_isNext
/-! impl.ownerCode -/
namespace impl_ownerCode
noncomputable def F (x0 : RHead) (x1 : RSigned) : Ans := (bif x0.fFrozen then ret (4 : Int) else (bif x1.fHead.fFrozen then ret (6 : Int) else (call (impl_Signed_isSignedBy.R (x1, x0.fKeys)) fun v1 => (bif (!v1) then ret (7 : Int) else ret (1 : Int)))))
def pats : List Pat := [.agg [.int .i64, .int .i64, .int .i64, .int .i64, .int .i64, .int .i64, .int .i64, .int .i64, .sl 3, .int .i64, .sl 3, .int .i64, .int .i64, .sl 3, .int .i64, .bool], .agg [.int .i64, .int .i64, .int .i64, .int .i64, .int .i64, .int .i64, .int .i64, .int .i64, .sl 3, .int .i64, .sl 3, .int .i64, .int .i64, .sl 3, .int .i64, .bool, .sl 179]]
def res : RP := .one (.rd (.int .i64))
noncomputable abbrev E : Env := ⟨assoc Tab, conG [(144, impl_Signed_isSignedBy.con)], 18⟩
set_option maxRecDepth 100000
theorem run_eq (n : Nat) (ls : List L) : runF E (fun _ => []) Tryz.f204 res n (initS pats ls) = F (RHead.dec ls) (RSigned.dec (dropT 16 ls)) := by kernel_rfl
noncomputable def md (a0 : MHead) (a1 : MSigned) : Int := (bif a0.fFrozen then (4 : Int) else (bif a1.fHead.fFrozen then (6 : Int) else (bif (!(impl_Signed_isSignedBy.md a1 a0.fKeys)) then (7 : Int) else (1 : Int))))
def gd (a0 : MHead) (a1 : MSigned) : Prop := (MHead.Sm (2 ^ 21) a0) ∧ (MSigned.Sm (2 ^ 21) a1)
def acc (ls : List L) : RHead × RSigned := ((RHead.dec ls), (RSigned.dec (dropT 16 ls)))
noncomputable def R : (RHead × RSigned) → Option Int := RR (p2 gd) (u2 md)
theorem R_eq {a0} {a1} (h : gd a0 a1) : R ((MHead.r a0), (MSigned.r a1)) = some (md a0 a1) := RR_eq (a := (a0, a1)) h
noncomputable def con : Con := CN pats res acc R
theorem okF (a0 : MHead) (a1 : MSigned) (hg : gd a0 a1) : F (MHead.r a0) (MSigned.r a1) = ret ((md a0 a1) : Int) := by
  unfold gd at hg
  obtain ⟨H0, H1⟩ := hg
  unfold F md
  try simp only [S0, MHead.rs, MSigned.rs]
  refine bif_out ret (fun _ => rfl) (fun c1 => ?_)
  refine bif_out ret (fun _ => rfl) (fun c2 => ?_)
  refine call_to (impl_Signed_isSignedBy.md a1 a0.fKeys) (impl_Signed_isSignedBy.R_eq (a0 := a1) (a1 := a0.fKeys) ⟨H1, H0.1⟩) ?_
  refine bif_out ret (fun _ => rfl) (fun _ => rfl)
theorem valid_ : Valid Tryz.prog Ev 204 con := VV (run := fun _ x => F x.1 x.2) mix tab_ok (.cons impl_Signed_isSignedBy.valid_ .nil) Tryz.func204 (by kernel_rfl) run_eq (fun _ a _ _ hg => ⟨0, okF a.1 a.2 hg⟩)
end impl_ownerCode
/-! slices.Equal[[]int,int] -/
namespace slices_Equal_Sint_int
inductive Pt where
  | p0 (a : List (List L)) (b : List (List L)) (c : Int) (d : Int)
def pid : Pt → Nat
  | .p0 .. => 4
def pvs : Pt → List V
  | .p0 a b c d => [.sl none 3 a, .sl none 3 b, .int .i64 c, .int .i64 d]
def phs : Pt → List Root
  | .p0 a b c d => []
noncomputable def step (J : Pt → Ans) : Pt → Ans
  | .p0 a b c d => (bif (decide (d < c)) then (bif (decide ((0 : Int) ≤ d)) then (bif (decide (d < (a.length : Int))) then (bif (decide ((0 : Int) ≤ d)) then (bif (decide (d < (b.length : Int))) then (bif ((iAt a (Int.toNat d)) != (iAt b (Int.toNat d))) then ret (false : Bool) else J (.p0 a b c (IntKind.i64.wrap (d + 1)))) else none) else none) else none) else none) else ret (true : Bool))
noncomputable def start (J : Pt → Ans) (x0 : List (List L)) (x1 : List (List L)) : Ans := (bif ((x0.length : Int) != (x1.length : Int)) then ret (false : Bool) else J (.p0 x0 x1 (x0.length : Int) 0))
def live : Nat → Live := fun i => match i with | 4 => [(0, none), (1, none), (12, none), (13, none)] | _ => []
def pats : List Pat := [.rd (.sl 3), .rd (.sl 3)]
def res : RP := .one (.rd (.bool))
noncomputable abbrev E : Env := ⟨assoc Tab, conG [], 26⟩
set_option maxRecDepth 100000
theorem step_eq (I : Heads) (p : Pt) : enterC E live I (pid p) (bodyOf Tryz.f114) (stOf (live (pid p)) (pvs p) (phs p)) (doneK E Tryz.f114 res) = step (fun q => I (pid q) (pvs q) (phs q)) p := by
  cases p <;> kernel_rfl
theorem start_eq (I : Heads) (ls : List L) : runC E live I (bodyOf Tryz.f114) (initS pats ls) (doneK E Tryz.f114 res) = start (fun q => I (pid q) (pvs q) (phs q)) (ls.headD .hole).toSl ((dropT 1 ls).headD .hole).toSl := by kernel_rfl
theorem run_eq (n : Nat) (ls : List L) : runF E live Tryz.f114 res n (initS pats ls) = start (iter step n) (ls.headD .hole).toSl ((dropT 1 ls).headD .hole).toSl := runF_iter (id := pid) (vs := pvs) (hs := phs) (step := step) (start := fun J => start J (ls.headD .hole).toSl ((dropT 1 ls).headD .hole).toSl) step_eq (fun I => start_eq I ls) n
noncomputable def md (a0 : List Int) (a1 : List Int) : Bool := (bif ((a0.length : Int) != (a1.length : Int)) then (false : Bool) else (loopM (S := Unit) (β := Bool) (fun (i2 : Nat) (s4 : Unit) => (bif ((a0.getD i2 0) != (a1.getD i2 0)) then (.inr (false : Bool)) else (.inl ()))) (fun (s4 : Unit) => (true : Bool)) a0.length 0 ()))
def gd (a0 : List Int) (a1 : List Int) : Prop := (SmL (2 ^ 38) (fun y : Int => True) a0) ∧ (SmL (2 ^ 38) (fun y : Int => True) a1)
def acc (ls : List L) : List (List L) × List (List L) := ((ls.headD .hole).toSl, ((dropT 1 ls).headD .hole).toSl)
noncomputable def R : (List (List L) × List (List L)) → Option Bool := RR (p2 gd) (u2 md)
theorem R_eq {a0} {a1} (h : gd a0 a1) : R ((a0.map iRow), (a1.map iRow)) = some (md a0 a1) := RR_eq (a := (a0, a1)) h
noncomputable def con : Con := CN pats res acc R
theorem okF (a0 : List Int) (a1 : List Int) (hg : gd a0 a1) : ∃ n, start (iter step n) (a0.map iRow) (a1.map iRow) = ret ((md a0 a1) : Bool) := by
  unfold gd at hg
  obtain ⟨H0, H1⟩ := hg
  unfold start md
  try simp only [S0]
  refine ex_bif ret (fun _ => ⟨0, rfl⟩) (fun c1 => ?_)
  have dc1 := c1
  try simp only [DC] at dc1
  have Bh3 : a0.length ≤ maxLen := (by
      have := (H0).1
      try simp only [maxLen] at *
      omega)
  refine ex_pt (p := Pt.p0 (a0.map iRow) (a1.map iRow) (a0.length : Int) 0) (by first | rfl | (simp only [S0, MP]; done) | (simp only [MP]; rfl)) ?_
  refine loopM_ok (pt := fun (i2 : Nat) (s4 : Unit) => Pt.p0 (a0.map iRow) (a1.map iRow) (a0.length : Int) (i2 : Int)) (s := (() : Unit)) (out := ret) (fun _ _ => True) (fun J i2 s4 h3 hih3 => ?_) (fun s4 hih3 => ?_) trivial
  · simp only [step, S0]
    have bb_ := Bh3
    simp only [maxLen] at bb_
    have := (H0).1
    refine Rnd.yes (by apply decide_eq_true; omega) ?_
    refine Rnd.yes zle_dec ?_
    refine Rnd.yes (lt_dec h3) ?_
    refine Rnd.yes zle_dec ?_
    refine Rnd.yes (by
        have := (H1).1
        refine decide_eq_true ?_
        try simp (disch := omega) only [LN, wi]
        first | omega | (simp; done) | (simp; omega)) ?_
    refine Rnd.bif (fun _ => Rnd.inr rfl) (fun c5 => ?_)
    refine Rnd.inl trivial ?_
    rw [wrap_succ h3 Bh3]
    all_goals first | rfl | (simp only [S0, MP]; first | done | rfl)
  · simp only [step, S0]
    have := (H0).1
    refine ex_no (by apply decide_eq_false; omega) ?_
    refine ⟨0, ?_⟩
    first | rfl | (simp only [S0, MP]; first | done | rfl)
theorem valid_ : Valid Tryz.prog Ev 114 con := VV (run := fun n x => start (iter step n) x.1 x.2) mix tab_ok .nil Tryz.func114 (by kernel_rfl) run_eq (fun _ a _ _ hg => okF a.1 a.2 hg)
theorem md_eq (a0 : List Int) (a1 : List Int) : md a0 a1 = eqB a0 a1 := by
  unfold md
  refine loop_eqB (0) (fun i s h h2 => ?_) (fun s => rfl)
  simp only [bne, int_beq, bool_beq, ba_beq]
  cases eqB _ _ <;> rfl
end slices_Equal_Sint_int
/-! impl.EqualKeys -/
namespace impl_EqualKeys
noncomputable def F (x0 : RKeys) (x1 : RKeys) : Ans := (call (slices_Equal_Sint_int.R (x0.fList, x1.fList)) fun v1 => (bif v1 then ret ((x0.fNeed == x1.fNeed) : Bool) else ret (false : Bool)))
def pats : List Pat := [.agg [.sl 3, .int .i64], .agg [.sl 3, .int .i64]]
def res : RP := .one (.rd (.bool))
noncomputable abbrev E : Env := ⟨assoc Tab, conG [(114, slices_Equal_Sint_int.con)], 17⟩
set_option maxRecDepth 100000
theorem run_eq (n : Nat) (ls : List L) : runF E (fun _ => []) Tryz.f139 res n (initS pats ls) = F (RKeys.dec ls) (RKeys.dec (dropT 2 ls)) := by kernel_rfl
noncomputable def md (a0 : MKeys) (a1 : MKeys) : Bool := (bif (slices_Equal_Sint_int.md a0.fList a1.fList) then ((a0.fNeed == a1.fNeed) : Bool) else (false : Bool))
def gd (a0 : MKeys) (a1 : MKeys) : Prop := (MKeys.Sm (2 ^ 21) a0) ∧ (MKeys.Sm (2 ^ 21) a1)
def acc (ls : List L) : RKeys × RKeys := ((RKeys.dec ls), (RKeys.dec (dropT 2 ls)))
noncomputable def R : (RKeys × RKeys) → Option Bool := RR (p2 gd) (u2 md)
theorem R_eq {a0} {a1} (h : gd a0 a1) : R ((MKeys.r a0), (MKeys.r a1)) = some (md a0 a1) := RR_eq (a := (a0, a1)) h
noncomputable def con : Con := CN pats res acc R
theorem okF (a0 : MKeys) (a1 : MKeys) (hg : gd a0 a1) : F (MKeys.r a0) (MKeys.r a1) = ret ((md a0 a1) : Bool) := by
  unfold gd at hg
  obtain ⟨H0, H1⟩ := hg
  unfold F md
  try simp only [S0, MKeys.rs]
  refine call_to (slices_Equal_Sint_int.md a0.fList a1.fList) (slices_Equal_Sint_int.R_eq (a0 := a0.fList) (a1 := a1.fList) ⟨(H0.mono (by decide) (fun x hx => trivial)), (H1.mono (by decide) (fun x hx => trivial))⟩) ?_
  refine bif_out ret (fun c1 => ?_) (fun _ => rfl)
  first | rfl | (simp only [S0, MKeys.rs, MP]; first | done | rfl)
theorem valid_ : Valid Tryz.prog Ev 139 con := VV (run := fun _ x => F x.1 x.2) mix tab_ok (.cons slices_Equal_Sint_int.valid_ .nil) Tryz.func139 (by kernel_rfl) run_eq (fun _ a _ _ hg => ⟨0, okF a.1 a.2 hg⟩)
theorem md_eq (a0 : MKeys) (a1 : MKeys) : md a0 a1 = eqB a0 a1 := by
  unfold md
  cases a0; cases a1
  rw [Bool.eq_iff_iff]
  simp [eqB_iff, ba_beq, MKeys.mk.injEq, slices_Equal_Sint_int.md_eq]
  try (constructor <;> (intro h; simp_all))
end impl_EqualKeys
/-! impl.SameContents -/
namespace impl_SameContents
noncomputable def F (x0 : RHead) (x1 : RHead) : Ans := (bif (x0.fCount == x1.fCount) then ret ((x0.fRoot == x1.fRoot) : Bool) else ret (false : Bool))
def pats : List Pat := [.agg [.int .i64, .int .i64, .int .i64, .int .i64, .int .i64, .int .i64, .int .i64, .int .i64, .sl 3, .int .i64, .sl 3, .int .i64, .int .i64, .sl 3, .int .i64, .bool], .agg [.int .i64, .int .i64, .int .i64, .int .i64, .int .i64, .int .i64, .int .i64, .int .i64, .sl 3, .int .i64, .sl 3, .int .i64, .int .i64, .sl 3, .int .i64, .bool]]
def res : RP := .one (.rd (.bool))
noncomputable abbrev E : Env := ⟨assoc Tab, conG [], 17⟩
set_option maxRecDepth 100000
theorem run_eq (n : Nat) (ls : List L) : runF E (fun _ => []) Tryz.f245 res n (initS pats ls) = F (RHead.dec ls) (RHead.dec (dropT 16 ls)) := by kernel_rfl
noncomputable def md (a0 : MHead) (a1 : MHead) : Bool := (bif (a0.fCount == a1.fCount) then ((a0.fRoot == a1.fRoot) : Bool) else (false : Bool))
def gd (a0 : MHead) (a1 : MHead) : Prop := True
def acc (ls : List L) : RHead × RHead := ((RHead.dec ls), (RHead.dec (dropT 16 ls)))
noncomputable def R : (RHead × RHead) → Option Bool := RR (p2 gd) (u2 md)
theorem R_eq {a0} {a1} (h : gd a0 a1) : R ((MHead.r a0), (MHead.r a1)) = some (md a0 a1) := RR_eq (a := (a0, a1)) h
noncomputable def con : Con := CN pats res acc R
theorem okF (a0 : MHead) (a1 : MHead) (hg : gd a0 a1) : F (MHead.r a0) (MHead.r a1) = ret ((md a0 a1) : Bool) := by
  unfold F md
  try simp only [S0, MHead.rs]
  refine bif_out ret (fun c1 => ?_) (fun _ => rfl)
  first | rfl | (simp only [S0, MHead.rs, MP]; first | done | rfl)
theorem valid_ : Valid Tryz.prog Ev 245 con := VV (run := fun _ x => F x.1 x.2) mix tab_ok .nil Tryz.func245 (by kernel_rfl) run_eq (fun _ a _ _ hg => ⟨0, okF a.1 a.2 hg⟩)
theorem br (a0 : MHead) (a1 : MHead) : md a0 a1 = spec_SameContents.md a0 a1 := by
  unfold md spec_SameContents.md
  first
  | (simp only [id]; done)
  | (simp only [id]; rfl)
  | rfl
end impl_SameContents
/-! impl.heirCode -/
namespace impl_heirCode
noncomputable def F (x0 : RHead) (x1 : RSigned) : Ans := (bif x0.fFrozen then ret (4 : Int) else (call (impl_NoKeys.R x0.fHeirs) fun v1 => (bif v1 then ret (5 : Int) else (bif (decide (x1.fHead.fTime < (IntKind.i64.wrap (x0.fUntil + x0.fWait)))) then ret (5 : Int) else (bif x1.fHead.fFrozen then ret (6 : Int) else (call (impl_EqualKeys.R (x1.fHead.fKeys, x0.fHeirs)) fun v2 => (bif (!v2) then ret (6 : Int) else (call (impl_SameContents.R (x1.fHead, x0)) fun v3 => (bif (!v3) then ret (6 : Int) else (call (impl_Signed_isSignedBy.R (x1, x0.fHeirs)) fun v4 => (bif (!v4) then ret (7 : Int) else ret (1 : Int))))))))))))
def pats : List Pat := [.agg [.int .i64, .int .i64, .int .i64, .int .i64, .int .i64, .int .i64, .int .i64, .int .i64, .sl 3, .int .i64, .sl 3, .int .i64, .int .i64, .sl 3, .int .i64, .bool], .agg [.int .i64, .int .i64, .int .i64, .int .i64, .int .i64, .int .i64, .int .i64, .int .i64, .sl 3, .int .i64, .sl 3, .int .i64, .int .i64, .sl 3, .int .i64, .bool, .sl 179]]
def res : RP := .one (.rd (.int .i64))
noncomputable abbrev E : Env := ⟨assoc Tab, conG [(200, impl_NoKeys.con), (139, impl_EqualKeys.con), (245, impl_SameContents.con), (144, impl_Signed_isSignedBy.con)], 48⟩
set_option maxRecDepth 100000
theorem run_eq (n : Nat) (ls : List L) : runF E (fun _ => []) Tryz.f205 res n (initS pats ls) = F (RHead.dec ls) (RSigned.dec (dropT 16 ls)) := by kernel_rfl
noncomputable def md (a0 : MHead) (a1 : MSigned) : Int := (bif a0.fFrozen then (4 : Int) else (bif (impl_NoKeys.md a0.fHeirs) then (5 : Int) else (bif (decide (a1.fHead.fTime < (IntKind.i64.wrap (a0.fUntil + a0.fWait)))) then (5 : Int) else (bif a1.fHead.fFrozen then (6 : Int) else (bif (!(impl_EqualKeys.md a1.fHead.fKeys a0.fHeirs)) then (6 : Int) else (bif (!(impl_SameContents.md a1.fHead a0)) then (6 : Int) else (bif (!(impl_Signed_isSignedBy.md a1 a0.fHeirs)) then (7 : Int) else (1 : Int))))))))
def gd (a0 : MHead) (a1 : MSigned) : Prop := (MHead.Sm (2 ^ 21) a0) ∧ (MSigned.Sm (2 ^ 21) a1)
def acc (ls : List L) : RHead × RSigned := ((RHead.dec ls), (RSigned.dec (dropT 16 ls)))
noncomputable def R : (RHead × RSigned) → Option Int := RR (p2 gd) (u2 md)
theorem R_eq {a0} {a1} (h : gd a0 a1) : R ((MHead.r a0), (MSigned.r a1)) = some (md a0 a1) := RR_eq (a := (a0, a1)) h
noncomputable def con : Con := CN pats res acc R
theorem okF (a0 : MHead) (a1 : MSigned) (hg : gd a0 a1) : F (MHead.r a0) (MSigned.r a1) = ret ((md a0 a1) : Int) := by
  unfold gd at hg
  obtain ⟨H0, H1⟩ := hg
  unfold F md
  try simp only [S0, MHead.rs, MSigned.rs]
  refine bif_out ret (fun _ => rfl) (fun c1 => ?_)
  refine call_to (impl_NoKeys.md a0.fHeirs) (impl_NoKeys.R_eq (a0 := a0.fHeirs) trivial) ?_
  refine bif_out ret (fun _ => rfl) (fun c2 => ?_)
  refine bif_out ret (fun _ => rfl) (fun c3 => ?_)
  refine bif_out ret (fun _ => rfl) (fun c4 => ?_)
  refine call_to (impl_EqualKeys.md a1.fHead.fKeys a0.fHeirs) (impl_EqualKeys.R_eq (a0 := a1.fHead.fKeys) (a1 := a0.fHeirs) ⟨H1.1.1, H0.2.1⟩) ?_
  refine bif_out ret (fun _ => rfl) (fun c5 => ?_)
  refine call_to (impl_SameContents.md a1.fHead a0) (impl_SameContents.R_eq (a0 := a1.fHead) (a1 := a0) trivial) ?_
  refine bif_out ret (fun _ => rfl) (fun c6 => ?_)
  refine call_to (impl_Signed_isSignedBy.md a1 a0.fHeirs) (impl_Signed_isSignedBy.R_eq (a0 := a1) (a1 := a0.fHeirs) ⟨H1, H0.2.1⟩) ?_
  refine bif_out ret (fun _ => rfl) (fun _ => rfl)
theorem valid_ : Valid Tryz.prog Ev 205 con := VV (run := fun _ x => F x.1 x.2) mix tab_ok (.cons impl_NoKeys.valid_ (.cons impl_EqualKeys.valid_ (.cons impl_SameContents.valid_ (.cons impl_Signed_isSignedBy.valid_ .nil)))) Tryz.func205 (by kernel_rfl) run_eq (fun _ a _ _ hg => ⟨0, okF a.1 a.2 hg⟩)
end impl_heirCode
/-! impl.judgeCode -/
namespace impl_judgeCode
noncomputable def F (x0 : RHead) (x1 : RSigned) : Ans := (call (impl_SameContents.R (x1.fHead, x0)) fun v1 => (bif v1 then (call (impl_EqualKeys.R (x1.fHead.fJudge, x0.fJudge)) fun v2 => (bif v2 then (call (impl_EqualKeys.R (x1.fHead.fHeirs, x0.fHeirs)) fun v3 => (bif v3 then (call (impl_NoKeys.R x0.fJudge) fun v4 => (bif v4 then ret (5 : Int) else (bif (x1.fHead.fFrozen == x0.fFrozen) then ret (6 : Int) else (bif (!(x1.fHead.fWait == x0.fWait)) then ret (6 : Int) else (bif x1.fHead.fFrozen then (call (impl_EqualKeys.R (x1.fHead.fKeys, x0.fKeys)) fun v5 => (bif (!v5) then ret (6 : Int) else (call (impl_Signed_isSignedBy.R (x1, x0.fJudge)) fun v6 => (bif (!v6) then ret (7 : Int) else ret (1 : Int))))) else (call (impl_Signed_isSignedBy.R (x1, x0.fJudge)) fun v7 => (bif (!v7) then ret (7 : Int) else ret (1 : Int)))))))) else (call (impl_NoKeys.R x0.fJudge) fun v8 => (bif v8 then ret (5 : Int) else (bif (x1.fHead.fFrozen == x0.fFrozen) then ret (6 : Int) else ret (6 : Int)))))) else (call (impl_NoKeys.R x0.fJudge) fun v9 => (bif v9 then ret (5 : Int) else (bif (x1.fHead.fFrozen == x0.fFrozen) then ret (6 : Int) else ret (6 : Int)))))) else (call (impl_NoKeys.R x0.fJudge) fun v10 => (bif v10 then ret (5 : Int) else (bif (x1.fHead.fFrozen == x0.fFrozen) then ret (6 : Int) else ret (6 : Int))))))
def pats : List Pat := [.agg [.int .i64, .int .i64, .int .i64, .int .i64, .int .i64, .int .i64, .int .i64, .int .i64, .sl 3, .int .i64, .sl 3, .int .i64, .int .i64, .sl 3, .int .i64, .bool], .agg [.int .i64, .int .i64, .int .i64, .int .i64, .int .i64, .int .i64, .int .i64, .int .i64, .sl 3, .int .i64, .sl 3, .int .i64, .int .i64, .sl 3, .int .i64, .bool, .sl 179]]
def res : RP := .one (.rd (.int .i64))
noncomputable abbrev E : Env := ⟨assoc Tab, conG [(245, impl_SameContents.con), (139, impl_EqualKeys.con), (200, impl_NoKeys.con), (144, impl_Signed_isSignedBy.con)], 65⟩
set_option maxRecDepth 100000
theorem run_eq (n : Nat) (ls : List L) : runF E (fun _ => []) Tryz.f206 res n (initS pats ls) = F (RHead.dec ls) (RSigned.dec (dropT 16 ls)) := by kernel_rfl
noncomputable def md (a0 : MHead) (a1 : MSigned) : Int := (bif (impl_SameContents.md a1.fHead a0) then (bif (impl_EqualKeys.md a1.fHead.fJudge a0.fJudge) then (bif (impl_EqualKeys.md a1.fHead.fHeirs a0.fHeirs) then (bif (impl_NoKeys.md a0.fJudge) then (5 : Int) else (bif (a1.fHead.fFrozen == a0.fFrozen) then (6 : Int) else (bif (!(a1.fHead.fWait == a0.fWait)) then (6 : Int) else (bif a1.fHead.fFrozen then (bif (!(impl_EqualKeys.md a1.fHead.fKeys a0.fKeys)) then (6 : Int) else (bif (!(impl_Signed_isSignedBy.md a1 a0.fJudge)) then (7 : Int) else (1 : Int))) else (bif (!(impl_Signed_isSignedBy.md a1 a0.fJudge)) then (7 : Int) else (1 : Int)))))) else (bif (impl_NoKeys.md a0.fJudge) then (5 : Int) else (bif (a1.fHead.fFrozen == a0.fFrozen) then (6 : Int) else (6 : Int)))) else (bif (impl_NoKeys.md a0.fJudge) then (5 : Int) else (bif (a1.fHead.fFrozen == a0.fFrozen) then (6 : Int) else (6 : Int)))) else (bif (impl_NoKeys.md a0.fJudge) then (5 : Int) else (bif (a1.fHead.fFrozen == a0.fFrozen) then (6 : Int) else (6 : Int))))
def gd (a0 : MHead) (a1 : MSigned) : Prop := (MHead.Sm (2 ^ 21) a0) ∧ (MSigned.Sm (2 ^ 21) a1)
def acc (ls : List L) : RHead × RSigned := ((RHead.dec ls), (RSigned.dec (dropT 16 ls)))
noncomputable def R : (RHead × RSigned) → Option Int := RR (p2 gd) (u2 md)
theorem R_eq {a0} {a1} (h : gd a0 a1) : R ((MHead.r a0), (MSigned.r a1)) = some (md a0 a1) := RR_eq (a := (a0, a1)) h
noncomputable def con : Con := CN pats res acc R
theorem okF (a0 : MHead) (a1 : MSigned) (hg : gd a0 a1) : F (MHead.r a0) (MSigned.r a1) = ret ((md a0 a1) : Int) := by
  unfold gd at hg
  obtain ⟨H0, H1⟩ := hg
  unfold F md
  try simp only [S0, MHead.rs, MSigned.rs]
  refine call_to (impl_SameContents.md a1.fHead a0) (impl_SameContents.R_eq (a0 := a1.fHead) (a1 := a0) trivial) ?_
  refine bif_out ret (fun c1 => ?_) (fun c1 => ?_)
  · refine call_to (impl_EqualKeys.md a1.fHead.fJudge a0.fJudge) (impl_EqualKeys.R_eq (a0 := a1.fHead.fJudge) (a1 := a0.fJudge) ⟨H1.1.2.2, H0.2.2⟩) ?_
    refine bif_out ret (fun c2 => ?_) (fun c2 => ?_)
    · refine call_to (impl_EqualKeys.md a1.fHead.fHeirs a0.fHeirs) (impl_EqualKeys.R_eq (a0 := a1.fHead.fHeirs) (a1 := a0.fHeirs) ⟨H1.1.2.1, H0.2.1⟩) ?_
      refine bif_out ret (fun c3 => ?_) (fun c3 => ?_)
      · refine call_to (impl_NoKeys.md a0.fJudge) (impl_NoKeys.R_eq (a0 := a0.fJudge) trivial) ?_
        refine bif_out ret (fun _ => rfl) (fun c4 => ?_)
        refine bif_out ret (fun _ => rfl) (fun c5 => ?_)
        refine bif_out ret (fun _ => rfl) (fun c6 => ?_)
        refine bif_out ret (fun c7 => ?_) (fun c7 => ?_)
        · refine call_to (impl_EqualKeys.md a1.fHead.fKeys a0.fKeys) (impl_EqualKeys.R_eq (a0 := a1.fHead.fKeys) (a1 := a0.fKeys) ⟨H1.1.1, H0.1⟩) ?_
          refine bif_out ret (fun _ => rfl) (fun c8 => ?_)
          refine call_to (impl_Signed_isSignedBy.md a1 a0.fJudge) (impl_Signed_isSignedBy.R_eq (a0 := a1) (a1 := a0.fJudge) ⟨H1, H0.2.2⟩) ?_
          refine bif_out ret (fun _ => rfl) (fun _ => rfl)
        · refine call_to (impl_Signed_isSignedBy.md a1 a0.fJudge) (impl_Signed_isSignedBy.R_eq (a0 := a1) (a1 := a0.fJudge) ⟨H1, H0.2.2⟩) ?_
          refine bif_out ret (fun _ => rfl) (fun _ => rfl)
      · refine call_to (impl_NoKeys.md a0.fJudge) (impl_NoKeys.R_eq (a0 := a0.fJudge) trivial) ?_
        refine bif_out ret (fun _ => rfl) (fun c11 => ?_)
        refine bif_out ret (fun _ => rfl) (fun _ => rfl)
    · refine call_to (impl_NoKeys.md a0.fJudge) (impl_NoKeys.R_eq (a0 := a0.fJudge) trivial) ?_
      refine bif_out ret (fun _ => rfl) (fun c13 => ?_)
      refine bif_out ret (fun _ => rfl) (fun _ => rfl)
  · refine call_to (impl_NoKeys.md a0.fJudge) (impl_NoKeys.R_eq (a0 := a0.fJudge) trivial) ?_
    refine bif_out ret (fun _ => rfl) (fun c15 => ?_)
    refine bif_out ret (fun _ => rfl) (fun _ => rfl)
theorem valid_ : Valid Tryz.prog Ev 206 con := VV (run := fun _ x => F x.1 x.2) mix tab_ok (.cons impl_SameContents.valid_ (.cons impl_EqualKeys.valid_ (.cons impl_NoKeys.valid_ (.cons impl_Signed_isSignedBy.valid_ .nil)))) Tryz.func206 (by kernel_rfl) run_eq (fun _ a _ _ hg => ⟨0, okF a.1 a.2 hg⟩)
end impl_judgeCode
/-! impl.NextCode -/
namespace impl_NextCode
noncomputable def F (x0 : RHead) (x1 : RSigned) : Ans := (call (impl_IsHead.R x0) fun v1 => (bif (!v1) then ret (2 : Int) else (call (impl_IsHead.R x1.fHead) fun v2 => (bif (!v2) then ret (2 : Int) else (call (impl_isNext.R (x0, x1.fHead)) fun v3 => (bif (!v3) then ret (3 : Int) else (bif (x1.fHead.fKind == 1) then (call (impl_ownerCode.R (x0, x1)) fun v4 => ret (v4 : Int)) else (bif (x1.fHead.fKind == 2) then (call (impl_heirCode.R (x0, x1)) fun v5 => ret (v5 : Int)) else (call (impl_judgeCode.R (x0, x1)) fun v6 => ret (v6 : Int))))))))))
def pats : List Pat := [.agg [.int .i64, .int .i64, .int .i64, .int .i64, .int .i64, .int .i64, .int .i64, .int .i64, .sl 3, .int .i64, .sl 3, .int .i64, .int .i64, .sl 3, .int .i64, .bool], .agg [.int .i64, .int .i64, .int .i64, .int .i64, .int .i64, .int .i64, .int .i64, .int .i64, .sl 3, .int .i64, .sl 3, .int .i64, .int .i64, .sl 3, .int .i64, .bool, .sl 179]]
def res : RP := .one (.rd (.int .i64))
noncomputable abbrev E : Env := ⟨assoc Tab, conG [(142, impl_IsHead.con), (203, impl_isNext.con), (204, impl_ownerCode.con), (205, impl_heirCode.con), (206, impl_judgeCode.con)], 40⟩
set_option maxRecDepth 100000
theorem run_eq (n : Nat) (ls : List L) : runF E (fun _ => []) Tryz.f145 res n (initS pats ls) = F (RHead.dec ls) (RSigned.dec (dropT 16 ls)) := by kernel_rfl
noncomputable def md (a0 : MHead) (a1 : MSigned) : Int := (bif (!(impl_IsHead.md a0)) then (2 : Int) else (bif (!(impl_IsHead.md a1.fHead)) then (2 : Int) else (bif (!(impl_isNext.md a0 a1.fHead)) then (3 : Int) else (bif (a1.fHead.fKind == 1) then ((impl_ownerCode.md a0 a1) : Int) else (bif (a1.fHead.fKind == 2) then ((impl_heirCode.md a0 a1) : Int) else ((impl_judgeCode.md a0 a1) : Int))))))
def gd (a0 : MHead) (a1 : MSigned) : Prop := (MHead.Sm (2 ^ 21) a0) ∧ (MSigned.Sm (2 ^ 21) a1)
def acc (ls : List L) : RHead × RSigned := ((RHead.dec ls), (RSigned.dec (dropT 16 ls)))
noncomputable def R : (RHead × RSigned) → Option Int := RR (p2 gd) (u2 md)
theorem R_eq {a0} {a1} (h : gd a0 a1) : R ((MHead.r a0), (MSigned.r a1)) = some (md a0 a1) := RR_eq (a := (a0, a1)) h
noncomputable def con : Con := CN pats res acc R
theorem okF (a0 : MHead) (a1 : MSigned) (hg : gd a0 a1) : F (MHead.r a0) (MSigned.r a1) = ret ((md a0 a1) : Int) := by
  unfold gd at hg
  obtain ⟨H0, H1⟩ := hg
  unfold F md
  try simp only [S0, MHead.rs, MSigned.rs]
  refine call_to (impl_IsHead.md a0) (impl_IsHead.R_eq (a0 := a0) H0) ?_
  refine bif_out ret (fun _ => rfl) (fun c1 => ?_)
  refine call_to (impl_IsHead.md a1.fHead) (impl_IsHead.R_eq (a0 := a1.fHead) H1.1) ?_
  refine bif_out ret (fun _ => rfl) (fun c2 => ?_)
  refine call_to (impl_isNext.md a0 a1.fHead) (impl_isNext.R_eq (a0 := a0) (a1 := a1.fHead) H0) ?_
  refine bif_out ret (fun _ => rfl) (fun c3 => ?_)
  refine bif_out ret (fun c4 => ?_) (fun c4 => ?_)
  · refine call_to (impl_ownerCode.md a0 a1) (impl_ownerCode.R_eq (a0 := a0) (a1 := a1) ⟨H0, H1⟩) ?_
    first | rfl | (simp only [S0, MHead.rs, MSigned.rs, MP]; first | done | rfl)
  · refine bif_out ret (fun c5 => ?_) (fun c5 => ?_)
    · refine call_to (impl_heirCode.md a0 a1) (impl_heirCode.R_eq (a0 := a0) (a1 := a1) ⟨H0, H1⟩) ?_
      first | rfl | (simp only [S0, MHead.rs, MSigned.rs, MP]; first | done | rfl)
    · refine call_to (impl_judgeCode.md a0 a1) (impl_judgeCode.R_eq (a0 := a0) (a1 := a1) ⟨H0, H1⟩) ?_
      first | rfl | (simp only [S0, MHead.rs, MSigned.rs, MP]; first | done | rfl)
theorem valid_ : Valid Tryz.prog Ev 145 con := VV (run := fun _ x => F x.1 x.2) mix tab_ok (.cons impl_IsHead.valid_ (.cons impl_isNext.valid_ (.cons impl_ownerCode.valid_ (.cons impl_heirCode.valid_ (.cons impl_judgeCode.valid_ .nil))))) Tryz.func145 (by kernel_rfl) run_eq (fun _ a _ _ hg => ⟨0, okF a.1 a.2 hg⟩)
theorem br (a0 : MHead) (a1 : MSigned) : md a0 a1 = spec_NextCode.md a0 a1 := by
  unfold md spec_NextCode.md impl_isNext.md impl_ownerCode.md impl_heirCode.md impl_judgeCode.md impl_Signed_isSignedBy.md spec_l15Owner.md spec_l15Heir.md spec_l15Judge.md
  simp only [impl_IsHead.br, impl_HeadDigest.br, impl_IsSigned.br, impl_HeadInts.br, impl_NoKeys.br, impl_EqualKeys.md_eq, spec_EqualKeys.md_eq, impl_SameContents.br, bne]
  cases spec_IsHead.md a0
  · rfl
  cases h2 : spec_IsHead.md a1.fHead
  · rfl
  obtain ⟨⟨k1, k2⟩, _⟩ := spec_IsHead.tr h2
  have ht : decide (a1.fHead.fTime < a0.fTime) = !decide (a1.fHead.fTime ≥ a0.fTime) := by
    rw [Bool.eq_iff_iff]; simp
  rw [ht]
  cases a1.fHead.fZone == a0.fZone
  · rfl
  cases a1.fHead.fEpoch == IntKind.i64.wrap (a0.fEpoch + 1)
  · rfl
  cases a1.fHead.fPrev == spec_HeadDigest.md a0
  · rfl
  cases decide (a1.fHead.fTime ≥ a0.fTime)
  · rfl
  have hk : a1.fHead.fKind = 1 ∨ a1.fHead.fKind = 2 ∨ a1.fHead.fKind = 3 := by omega
  generalize spec_IsSigned.md a0.fKeys (spec_HeadInts.md a1.fHead) a1.fSigs = s1
  generalize spec_IsSigned.md a0.fHeirs (spec_HeadInts.md a1.fHead) a1.fSigs = s2
  generalize spec_IsSigned.md a0.fJudge (spec_HeadInts.md a1.fHead) a1.fSigs = s3
  generalize spec_NoKeys.md a0.fHeirs = n1
  generalize spec_NoKeys.md a0.fJudge = n2
  generalize decide (a1.fHead.fTime < IntKind.i64.wrap (a0.fUntil + a0.fWait)) = d1
  generalize eqB a1.fHead.fKeys a0.fHeirs = e1
  generalize eqB a1.fHead.fJudge a0.fJudge = e2
  generalize eqB a1.fHead.fHeirs a0.fHeirs = e3
  generalize eqB a1.fHead.fKeys a0.fKeys = e4
  generalize spec_SameContents.md a1.fHead a0 = c1
  generalize (a1.fHead.fWait == a0.fWait) = w1
  generalize a1.fHead.fFrozen = f1
  generalize a0.fFrozen = f0
  rcases hk with hk | hk | hk <;> rw [hk]
  · cases f0 <;> cases f1 <;> cases s1 <;> rfl
  · cases f0 <;> cases n1 <;> cases d1 <;> cases f1 <;> cases e1 <;> cases c1 <;> cases s2 <;> rfl
  · cases n2
    · cases f1 <;> cases f0 <;> cases c1 <;> cases e2 <;> cases e3 <;> cases w1 <;> cases e4 <;> cases s3 <;> rfl
    · cases c1 <;> cases e2 <;> cases e3 <;> rfl
end impl_NextCode
/-! impl.MayFollow -/
namespace impl_MayFollow
noncomputable def F (x0 : RHead) (x1 : RSigned) : Ans := (call (impl_NextCode.R (x0, x1)) fun v1 => ret ((v1 == 1) : Bool))
def pats : List Pat := [.agg [.int .i64, .int .i64, .int .i64, .int .i64, .int .i64, .int .i64, .int .i64, .int .i64, .sl 3, .int .i64, .sl 3, .int .i64, .int .i64, .sl 3, .int .i64, .bool], .agg [.int .i64, .int .i64, .int .i64, .int .i64, .int .i64, .int .i64, .int .i64, .int .i64, .sl 3, .int .i64, .sl 3, .int .i64, .int .i64, .sl 3, .int .i64, .bool, .sl 179]]
def res : RP := .one (.rd (.bool))
noncomputable abbrev E : Env := ⟨assoc Tab, conG [(145, impl_NextCode.con)], 9⟩
set_option maxRecDepth 100000
theorem run_eq (n : Nat) (ls : List L) : runF E (fun _ => []) Tryz.f96 res n (initS pats ls) = F (RHead.dec ls) (RSigned.dec (dropT 16 ls)) := by kernel_rfl
noncomputable def md (a0 : MHead) (a1 : MSigned) : Bool := (((impl_NextCode.md a0 a1) == 1) : Bool)
def gd (a0 : MHead) (a1 : MSigned) : Prop := (MHead.Sm (2 ^ 21) a0) ∧ (MSigned.Sm (2 ^ 21) a1)
def acc (ls : List L) : RHead × RSigned := ((RHead.dec ls), (RSigned.dec (dropT 16 ls)))
noncomputable def R : (RHead × RSigned) → Option Bool := RR (p2 gd) (u2 md)
theorem R_eq {a0} {a1} (h : gd a0 a1) : R ((MHead.r a0), (MSigned.r a1)) = some (md a0 a1) := RR_eq (a := (a0, a1)) h
noncomputable def con : Con := CN pats res acc R
theorem okF (a0 : MHead) (a1 : MSigned) (hg : gd a0 a1) : F (MHead.r a0) (MSigned.r a1) = ret ((md a0 a1) : Bool) := by
  unfold gd at hg
  obtain ⟨H0, H1⟩ := hg
  unfold F md
  try simp only [S0]
  refine call_to (impl_NextCode.md a0 a1) (impl_NextCode.R_eq (a0 := a0) (a1 := a1) ⟨H0, H1⟩) ?_
  first | rfl | (simp only [S0, MP]; first | done | rfl)
theorem valid_ : Valid Tryz.prog Ev 96 con := VV (run := fun _ x => F x.1 x.2) mix tab_ok (.cons impl_NextCode.valid_ .nil) Tryz.func96 (by kernel_rfl) run_eq (fun _ a _ _ hg => ⟨0, okF a.1 a.2 hg⟩)
theorem br (a0 : MHead) (a1 : MSigned) : md a0 a1 = spec_MayFollow.md a0 a1 := by
  unfold md spec_MayFollow.md
  first
  | (simp only [impl_NextCode.br]; done)
  | (simp only [impl_NextCode.br]; rfl)
  | rfl
end impl_MayFollow
/-! impl.FirstWrong -/
namespace impl_FirstWrong
inductive Pt where
  | p0 (a : List (List L)) (b : List (List L)) (c : Int) (d : Int)
def pid : Pt → Nat
  | .p0 .. => 2
def pvs : Pt → List V
  | .p0 a b c d => [.sl none 92 a, .sl none 92 b, .int .i64 c, .int .i64 d]
def phs : Pt → List Root
  | .p0 a b c d => []
noncomputable def step (J : Pt → Ans) : Pt → Ans
  | .p0 a b c d => (bif (decide (d < c)) then (bif (decide ((0 : Int) ≤ d)) then (bif (decide (d < (b.length : Int))) then (bif (d == 0) then (call (impl_IsFirst.R (RSigned.at b (Int.toNat d))) fun v1 => (bif (!v1) then ret (d : Int) else (bif (decide (d > 0)) then (bif (decide ((0 : Int) ≤ (IntKind.i64.wrap (d - 1)))) then (bif (decide ((IntKind.i64.wrap (d - 1)) < (a.length : Int))) then (call (impl_MayFollow.R ((RSigned.at a (Int.toNat (IntKind.i64.wrap (d - 1)))).fHead, (RSigned.at b (Int.toNat d)))) fun v2 => (bif (!v2) then ret (d : Int) else J (.p0 a b c (IntKind.i64.wrap (d + 1))))) else none) else none) else J (.p0 a b c (IntKind.i64.wrap (d + 1)))))) else (bif (decide (d > 0)) then (bif (decide ((0 : Int) ≤ (IntKind.i64.wrap (d - 1)))) then (bif (decide ((IntKind.i64.wrap (d - 1)) < (a.length : Int))) then (call (impl_MayFollow.R ((RSigned.at a (Int.toNat (IntKind.i64.wrap (d - 1)))).fHead, (RSigned.at b (Int.toNat d)))) fun v3 => (bif (!v3) then ret (d : Int) else J (.p0 a b c (IntKind.i64.wrap (d + 1))))) else none) else none) else J (.p0 a b c (IntKind.i64.wrap (d + 1))))) else none) else none) else ret ((-1) : Int))
noncomputable def start (J : Pt → Ans) (x0 : List (List L)) : Ans := J (.p0 x0 x0 (x0.length : Int) 0)
def live : Nat → Live := fun i => match i with | 2 => [(0, none), (5, none), (6, none), (7, none)] | _ => []
def pats : List Pat := [.rd (.sl 92)]
def res : RP := .one (.rd (.int .i64))
noncomputable abbrev E : Env := ⟨assoc Tab, conG [(95, impl_IsFirst.con), (96, impl_MayFollow.con)], 36⟩
set_option maxRecDepth 100000
theorem step_eq (I : Heads) (p : Pt) : enterC E live I (pid p) (bodyOf Tryz.f89) (stOf (live (pid p)) (pvs p) (phs p)) (doneK E Tryz.f89 res) = step (fun q => I (pid q) (pvs q) (phs q)) p := by
  cases p <;> kernel_rfl
theorem start_eq (I : Heads) (ls : List L) : runC E live I (bodyOf Tryz.f89) (initS pats ls) (doneK E Tryz.f89 res) = start (fun q => I (pid q) (pvs q) (phs q)) (ls.headD .hole).toSl := by kernel_rfl
theorem run_eq (n : Nat) (ls : List L) : runF E live Tryz.f89 res n (initS pats ls) = start (iter step n) (ls.headD .hole).toSl := runF_iter (id := pid) (vs := pvs) (hs := phs) (step := step) (start := fun J => start J (ls.headD .hole).toSl) step_eq (fun I => start_eq I ls) n
noncomputable def md (a0 : List MSigned) : Int := (eachI (S := Unit) (β := Int) (fun (i1 : Nat) (y1 : MSigned) (s3 : Unit) => (bif ((i1 : Int) == 0) then (bif (!(impl_IsFirst.md y1)) then (.inr ((i1 : Int) : Int)) else (bif (decide ((i1 : Int) > 0)) then (bif (!(impl_MayFollow.md ((a0.getD (Int.toNat (IntKind.i64.wrap ((i1 : Int) - 1))) MSigned.zero).fHead) y1)) then (.inr ((i1 : Int) : Int)) else (.inl ())) else (.inl ()))) else (bif (decide ((i1 : Int) > 0)) then (bif (!(impl_MayFollow.md ((a0.getD (Int.toNat (IntKind.i64.wrap ((i1 : Int) - 1))) MSigned.zero).fHead) y1)) then (.inr ((i1 : Int) : Int)) else (.inl ())) else (.inl ())))) (fun (s3 : Unit) => ((-1) : Int)) 0 a0 ())
def gd (a0 : List MSigned) : Prop := (SmL (2 ^ 21) (fun y : MSigned => MSigned.Sm (2 ^ 21) y) a0)
def acc (ls : List L) : List (List L) := (ls.headD .hole).toSl
noncomputable def R : (List (List L)) → Option Int := RR gd md
theorem R_eq {a0} (h : gd a0) : R (a0.map MSigned.row) = some (md a0) := RR_eq (a := a0) h
noncomputable def con : Con := CN pats res acc R
theorem okF (a0 : List MSigned) (hg : gd a0) : ∃ n, start (iter step n) (a0.map MSigned.row) = ret ((md a0) : Int) := by
  unfold gd at hg
  have H0 := hg
  unfold start md
  try simp only [S0, MSigned.rs]
  have Bh2 : a0.length ≤ maxLen := (by
      have := (H0).1
      try simp only [maxLen] at *
      omega)
  refine ex_eq (out := ret) (loopM_eachI (z := MSigned.zero)) ?_
  refine ex_pt (p := Pt.p0 (a0.map MSigned.row) (a0.map MSigned.row) (a0.length : Int) 0) (by first | rfl | (simp only [S0, MSigned.rs, MP]; done) | (simp only [MP]; rfl)) ?_
  refine loopM_ok (pt := fun (i1 : Nat) (s3 : Unit) => Pt.p0 (a0.map MSigned.row) (a0.map MSigned.row) (a0.length : Int) (i1 : Int)) (s := (() : Unit)) (out := ret) (fun _ _ => True) (fun J i1 s3 h2 hih2 => ?_) (fun s3 hih2 => ?_) trivial
  · simp only [step, S0, MSigned.rs]
    have bb_ := Bh2
    simp only [maxLen] at bb_
    have := (H0).1
    refine Rnd.yes (by apply decide_eq_true; omega) ?_
    refine Rnd.yes zle_dec ?_
    refine Rnd.yes (lt_dec h2) ?_
    refine Rnd.bif (fun c4 => ?_) (fun c4 => ?_)
    · have dc4 := c4
      try simp only [DC] at dc4
      refine Rnd.call_to (impl_IsFirst.md (a0.getD i1 MSigned.zero)) (impl_IsFirst.R_eq (a0 := (a0.getD i1 MSigned.zero)) (SmL.getD (z := MSigned.zero) H0 h2)) ?_
      refine Rnd.bif (fun c5 => ?_) (fun c5 => ?_)
      · refine Rnd.inr ?_
        first | rfl | (simp only [S0, MSigned.rs, MP]; first | done | rfl)
      · have dc5 := c5
        try simp only [DC] at dc5
        refine Rnd.bif (fun c6 => ?_) (fun c6 => ?_)
        · have dc6 := c6
          try simp only [DC] at dc6
          refine Rnd.yes (by
              refine decide_eq_true ?_
              try simp (disch := omega) only [LN, wi]
              first | omega | (simp; done) | (simp; omega)) ?_
          refine Rnd.yes (by
              have := (H0).1
              refine decide_eq_true ?_
              try simp (disch := omega) only [LN, wi]
              first | omega | (simp; done) | (simp; omega)) ?_
          refine Rnd.call_to (impl_MayFollow.md ((a0.getD (Int.toNat (IntKind.i64.wrap ((i1 : Int) - 1))) MSigned.zero).fHead) (a0.getD i1 MSigned.zero)) (impl_MayFollow.R_eq (a0 := (a0.getD (Int.toNat (IntKind.i64.wrap ((i1 : Int) - 1))) MSigned.zero).fHead) (a1 := (a0.getD i1 MSigned.zero)) ⟨(SmL.getD (z := MSigned.zero) H0 (by first | assumption | omega | (simp (disch := omega) only [wi]; omega) | (simp; omega))).1, (SmL.getD (z := MSigned.zero) H0 h2)⟩) ?_
          refine Rnd.bif (fun c7 => ?_) (fun c7 => ?_)
          · refine Rnd.inr ?_
            first | rfl | (simp only [S0, MSigned.rs, MP]; first | done | rfl)
          · refine Rnd.inl trivial ?_
            rw [wrap_succ h2 Bh2]
            all_goals first | rfl | (simp only [S0, MSigned.rs, MP]; first | done | rfl)
        · refine Rnd.inl trivial ?_
          rw [wrap_succ h2 Bh2]
          all_goals first | rfl | (simp only [S0, MSigned.rs, MP]; first | done | rfl)
    · have dc4 := c4
      try simp only [DC] at dc4
      refine Rnd.bif (fun c8 => ?_) (fun c8 => ?_)
      · have dc8 := c8
        try simp only [DC] at dc8
        refine Rnd.yes (by
            refine decide_eq_true ?_
            try simp (disch := omega) only [LN, wi]
            first | omega | (simp; done) | (simp; omega)) ?_
        refine Rnd.yes (by
            have := (H0).1
            refine decide_eq_true ?_
            try simp (disch := omega) only [LN, wi]
            first | omega | (simp; done) | (simp; omega)) ?_
        refine Rnd.call_to (impl_MayFollow.md ((a0.getD (Int.toNat (IntKind.i64.wrap ((i1 : Int) - 1))) MSigned.zero).fHead) (a0.getD i1 MSigned.zero)) (impl_MayFollow.R_eq (a0 := (a0.getD (Int.toNat (IntKind.i64.wrap ((i1 : Int) - 1))) MSigned.zero).fHead) (a1 := (a0.getD i1 MSigned.zero)) ⟨(SmL.getD (z := MSigned.zero) H0 (by first | assumption | omega | (simp (disch := omega) only [wi]; omega) | (simp; omega))).1, (SmL.getD (z := MSigned.zero) H0 h2)⟩) ?_
        refine Rnd.bif (fun c9 => ?_) (fun c9 => ?_)
        · refine Rnd.inr ?_
          first | rfl | (simp only [S0, MSigned.rs, MP]; first | done | rfl)
        · refine Rnd.inl trivial ?_
          rw [wrap_succ h2 Bh2]
          all_goals first | rfl | (simp only [S0, MSigned.rs, MP]; first | done | rfl)
      · refine Rnd.inl trivial ?_
        rw [wrap_succ h2 Bh2]
        all_goals first | rfl | (simp only [S0, MSigned.rs, MP]; first | done | rfl)
  · simp only [step, S0, MSigned.rs]
    have := (H0).1
    refine ex_no (by apply decide_eq_false; omega) ?_
    refine ⟨0, ?_⟩
    first | rfl | (simp only [S0, MSigned.rs, MP]; first | done | rfl)
theorem valid_ : Valid Tryz.prog Ev 89 con := VV (run := fun n x => start (iter step n) x) mix tab_ok (.cons impl_IsFirst.valid_ (.cons impl_MayFollow.valid_ .nil)) Tryz.func89 (by kernel_rfl) run_eq (fun _ a _ _ hg => okF a hg)
theorem br (a0 : List MSigned) : md a0 = spec_FirstWrong.md a0 := by
  unfold md spec_FirstWrong.md
  rw [← loopM_eachI (z := MSigned.zero), ← loopM_eachI (z := MSigned.zero)]
  refine loopM_congr (fun _ _ => True) (fun i s hi _ => ⟨?_, fun _ _ => trivial⟩) (fun _ _ => rfl) trivial
  simp only [impl_IsFirst.br, impl_MayFollow.br]
  by_cases h0 : i = 0
  · subst h0; rfl
  · have e : ((i : Int) == 0) = false := beq_eq_false_iff_ne.2 (by omega)
    simp only [e, cond_false]
end impl_FirstWrong
/-! impl.IsChain -/
namespace impl_IsChain
noncomputable def F (x0 : List (List L)) : Ans := (call (impl_InRange.R ((x0.length : Int), 1, 12)) fun v1 => (bif v1 then (call (impl_FirstWrong.R x0) fun v2 => ret ((decide (v2 < 0)) : Bool)) else ret (false : Bool)))
def pats : List Pat := [.rd (.sl 92)]
def res : RP := .one (.rd (.bool))
noncomputable abbrev E : Env := ⟨assoc Tab, conG [(88, impl_InRange.con), (89, impl_FirstWrong.con)], 11⟩
set_option maxRecDepth 100000
theorem run_eq (n : Nat) (ls : List L) : runF E (fun _ => []) Tryz.f46 res n (initS pats ls) = F (ls.headD .hole).toSl := by kernel_rfl
noncomputable def md (a0 : List MSigned) : Bool := (bif (impl_InRange.md (a0.length : Int) 1 12) then ((decide ((impl_FirstWrong.md a0) < 0)) : Bool) else (false : Bool))
def gd (a0 : List MSigned) : Prop := (SmL (2 ^ 21) (fun y : MSigned => MSigned.Sm (2 ^ 21) y) a0)
def acc (ls : List L) : List (List L) := (ls.headD .hole).toSl
noncomputable def R : (List (List L)) → Option Bool := RR gd md
theorem R_eq {a0} (h : gd a0) : R (a0.map MSigned.row) = some (md a0) := RR_eq (a := a0) h
noncomputable def con : Con := CN pats res acc R
theorem okF (a0 : List MSigned) (hg : gd a0) : F (a0.map MSigned.row) = ret ((md a0) : Bool) := by
  unfold gd at hg
  have H0 := hg
  unfold F md
  try simp only [S0]
  refine call_to (impl_InRange.md (a0.length : Int) 1 12) (impl_InRange.R_eq (a0 := (a0.length : Int)) (a1 := 1) (a2 := 12) trivial) ?_
  refine bif_out ret (fun c1 => ?_) (fun _ => rfl)
  refine call_to (impl_FirstWrong.md a0) (impl_FirstWrong.R_eq (a0 := a0) H0) ?_
  first | rfl | (simp only [S0, MP]; first | done | rfl)
theorem valid_ : Valid Tryz.prog Ev 46 con := VV (run := fun _ x => F x) mix tab_ok (.cons impl_InRange.valid_ (.cons impl_FirstWrong.valid_ .nil)) Tryz.func46 (by kernel_rfl) run_eq (fun _ a _ _ hg => ⟨0, okF a hg⟩)
theorem tr {a0 : List MSigned} (h : md a0 = true) : 1 ≤ a0.length ∧ a0.length ≤ 12 := by simp [md, impl_InRange.md] at h; omega
theorem br (a0 : List MSigned) : md a0 = spec_IsChain.md a0 := by
  unfold md spec_IsChain.md
  first
  | (simp only [impl_InRange.br, impl_FirstWrong.br]; done)
  | (simp only [impl_InRange.br, impl_FirstWrong.br]; rfl)
  | rfl
end impl_IsChain
/-! (impl.Known).find$1 -/
namespace impl_Known_find_1
noncomputable def F (x0 : List (List L)) (x1 : List L) : Ans := (bif (decide ((x0.length : Int) > 0)) then (bif (decide ((0 : Int) < (x0.length : Int))) then ret (((RSigned.at x0 0).fHead.fZone == (iDec x1)) : Bool) else none) else ret (false : Bool))
def pats : List Pat := [.rd (.sl 92), .ptr [.int .i64]]
def res : RP := .one (.rd (.bool))
noncomputable abbrev E : Env := ⟨assoc Tab, conG [], 16⟩
set_option maxRecDepth 100000
theorem run_eq (n : Nat) (ls : List L) : runF E (fun _ => []) Tryz.f91 res n (initS pats ls) = F (ls.headD .hole).toSl (padL 1 (dropT 1 ls)) := by kernel_rfl
noncomputable def md (a0 : List MSigned) (a1 : Int) : Bool := (bif (decide ((a0.length : Int) > 0)) then ((((a0.getD 0 MSigned.zero).fHead).fZone == a1) : Bool) else (false : Bool))
def gd (a0 : List MSigned) (a1 : Int) : Prop := (SmL (2 ^ 21) (fun y : MSigned => MSigned.Sm (2 ^ 21) y) a0)
def acc (ls : List L) : List (List L) × Int := ((ls.headD .hole).toSl, (iDec (padL 1 (dropT 1 ls))))
noncomputable def R : (List (List L) × Int) → Option Bool := RR (p2 gd) (u2 md)
theorem R_eq {a0} {a1} (h : gd a0 a1) : R ((a0.map MSigned.row), a1) = some (md a0 a1) := RR_eq (a := (a0, a1)) h
noncomputable def con : Con := CN pats res acc R
theorem okF (a0 : List MSigned) (a1 : Int) (p1 : List L) (e1 : a1 = (iDec p1)) (hg : gd a0 a1) : F (a0.map MSigned.row) p1 = ret ((md a0 a1) : Bool) := by
  unfold gd at hg
  have H0 := hg
  unfold F md
  try simp only [S0, MHead.rs, MSigned.rs, ← e1]
  refine bif_out ret (fun c1 => ?_) (fun _ => rfl)
  have dc1 := c1
  try simp only [DC] at dc1
  refine yes_ret (by
      have := (H0).1
      refine decide_eq_true ?_
      try simp (disch := omega) only [LN, wi]
      first | omega | (simp; done) | (simp; omega)) ?_
  first | rfl | (simp only [S0, MHead.rs, MSigned.rs, ← e1, MP]; first | done | rfl)
theorem okV (ls : List L) (a : List MSigned × Int) (e : acc ls = Im.im a) (hg : (p2 gd) a) : ∃ n : Nat, F ((ls.headD .hole).toSl) (padL 1 (dropT 1 ls)) = ret (Im.im ((u2 md) a)) := by
  have e0 : (a.1.map MSigned.row) = (ls.headD .hole).toSl := (congrArg (fun x => x.1) e.symm)
  have hn := okF a.1 a.2 (padL 1 (dropT 1 ls)) (congrArg (fun x => x.2) e.symm) hg
  refine ⟨0, ?_⟩
  rw [← e0]
  exact hn
theorem valid_ : Valid Tryz.prog Ev 91 con := VP (accr := fun ls => ((ls.headD .hole).toSl, (padL 1 (dropT 1 ls)))) (run := fun _ x => F x.1 x.2) mix tab_ok .nil Tryz.func91 (by kernel_rfl) run_eq (fun ls a _ e hg => okV ls a e hg)
end impl_Known_find_1
/-! slices.IndexFunc[[][]impl.Signed,[]impl.Signed] -/
namespace slices_IndexFunc_SSimpl_Signed_Simpl_Signed__impl_Known_find_1
inductive Pt where
  | p0 (a : List (List L)) (b : List L) (c : Int) (d : Int)
def pid : Pt → Nat
  | .p0 .. => 2
def pvs : Pt → List V
  | .p0 a b c d => [.sl none 38 a, .fn 91 [.cptr none [.int .i64] b 0], .int .i64 c, .int .i64 d]
def phs : Pt → List Root
  | .p0 a b c d => []
noncomputable def step (J : Pt → Ans) : Pt → Ans
  | .p0 a b c d => (bif (decide (d < c)) then (bif (decide ((0 : Int) ≤ d)) then (bif (decide (d < (a.length : Int))) then (call (impl_Known_find_1.R ((lAt a (Int.toNat d)), (iDec b))) fun v1 => (bif v1 then ret (d : Int) else J (.p0 a b c (IntKind.i64.wrap (d + 1))))) else none) else none) else ret ((-1) : Int))
noncomputable def start (J : Pt → Ans) (x0 : List (List L)) (x1 : List L) : Ans := J (.p0 x0 x1 (x0.length : Int) 0)
def live : Nat → Live := fun i => match i with | 2 => [(0, none), (1, none), (7, none), (8, none)] | _ => []
def pats : List Pat := [.rd (.sl 38), .fn 91 [[.int .i64]]]
def res : RP := .one (.rd (.int .i64))
noncomputable abbrev E : Env := ⟨assoc Tab, conG [(91, impl_Known_find_1.con)], 19⟩
set_option maxRecDepth 100000
theorem step_eq (I : Heads) (p : Pt) : enterC E live I (pid p) (bodyOf Tryz.f90) (stOf (live (pid p)) (pvs p) (phs p)) (doneK E Tryz.f90 res) = step (fun q => I (pid q) (pvs q) (phs q)) p := by
  cases p <;> kernel_rfl
theorem start_eq (I : Heads) (ls : List L) : runC E live I (bodyOf Tryz.f90) (initS pats ls) (doneK E Tryz.f90 res) = start (fun q => I (pid q) (pvs q) (phs q)) (ls.headD .hole).toSl (padL 1 (dropT 1 ls)) := by kernel_rfl
theorem run_eq (n : Nat) (ls : List L) : runF E live Tryz.f90 res n (initS pats ls) = start (iter step n) (ls.headD .hole).toSl (padL 1 (dropT 1 ls)) := runF_iter (id := pid) (vs := pvs) (hs := phs) (step := step) (start := fun J => start J (ls.headD .hole).toSl (padL 1 (dropT 1 ls))) step_eq (fun I => start_eq I ls) n
noncomputable def md (a0 : List (List MSigned)) (a1 : Int) : Int := (eachI (S := Unit) (β := Int) (fun (i1 : Nat) (y1 : List MSigned) (s3 : Unit) => (bif (impl_Known_find_1.md y1 a1) then (.inr ((i1 : Int) : Int)) else (.inl ()))) (fun (s3 : Unit) => ((-1) : Int)) 0 a0 ())
def gd (a0 : List (List MSigned)) (a1 : Int) : Prop := (SmL (2 ^ 21) (fun y : List MSigned => SmL (2 ^ 21) (fun y : MSigned => MSigned.Sm (2 ^ 21) y) y) a0)
def acc (ls : List L) : List (List L) × Int := ((ls.headD .hole).toSl, (iDec (padL 1 (dropT 1 ls))))
noncomputable def R : (List (List L) × Int) → Option Int := RR (p2 gd) (u2 md)
theorem R_eq {a0} {a1} (h : gd a0 a1) : R ((a0.map (lRow MSigned.row)), a1) = some (md a0 a1) := RR_eq (a := (a0, a1)) h
noncomputable def con : Con := CN pats res acc R
theorem okF (a0 : List (List MSigned)) (a1 : Int) (p1 : List L) (e1 : a1 = (iDec p1)) (hg : gd a0 a1) : ∃ n, start (iter step n) (a0.map (lRow MSigned.row)) p1 = ret ((md a0 a1) : Int) := by
  unfold gd at hg
  have H0 := hg
  unfold start md
  try simp only [S0, ← e1]
  have Bh2 : a0.length ≤ maxLen := (by
      have := (H0).1
      try simp only [maxLen] at *
      omega)
  refine ex_eq (out := ret) (loopM_eachI (z := [])) ?_
  refine ex_pt (p := Pt.p0 (a0.map (lRow MSigned.row)) p1 (a0.length : Int) 0) (by first | rfl | (simp only [S0, ← e1, MP]; done) | (simp only [MP]; rfl)) ?_
  refine loopM_ok (pt := fun (i1 : Nat) (s3 : Unit) => Pt.p0 (a0.map (lRow MSigned.row)) p1 (a0.length : Int) (i1 : Int)) (s := (() : Unit)) (out := ret) (fun _ _ => True) (fun J i1 s3 h2 hih2 => ?_) (fun s3 hih2 => ?_) trivial
  · simp only [step, S0, ← e1]
    have bb_ := Bh2
    simp only [maxLen] at bb_
    have := (H0).1
    refine Rnd.yes (by apply decide_eq_true; omega) ?_
    refine Rnd.yes zle_dec ?_
    refine Rnd.yes (lt_dec h2) ?_
    refine Rnd.call_to (impl_Known_find_1.md (a0.getD i1 []) a1) (impl_Known_find_1.R_eq (a0 := (a0.getD i1 [])) (a1 := a1) (SmL.getD (z := []) H0 h2)) ?_
    refine Rnd.bif (fun c4 => ?_) (fun c4 => ?_)
    · refine Rnd.inr ?_
      first | rfl | (simp only [S0, ← e1, MP]; first | done | rfl)
    · refine Rnd.inl trivial ?_
      rw [wrap_succ h2 Bh2]
      all_goals first | rfl | (simp only [S0, ← e1, MP]; first | done | rfl)
  · simp only [step, S0, ← e1]
    have := (H0).1
    refine ex_no (by apply decide_eq_false; omega) ?_
    refine ⟨0, ?_⟩
    first | rfl | (simp only [S0, ← e1, MP]; first | done | rfl)
theorem okV (ls : List L) (a : List (List MSigned) × Int) (e : acc ls = Im.im a) (hg : (p2 gd) a) : ∃ n : Nat, start (iter step n) ((ls.headD .hole).toSl) (padL 1 (dropT 1 ls)) = ret (Im.im ((u2 md) a)) := by
  have e0 : (a.1.map (lRow MSigned.row)) = (ls.headD .hole).toSl := (congrArg (fun x => x.1) e.symm)
  obtain ⟨n, hn⟩ := okF a.1 a.2 (padL 1 (dropT 1 ls)) (congrArg (fun x => x.2) e.symm) hg
  refine ⟨n, ?_⟩
  rw [← e0]
  exact hn
theorem valid_ : Valid Tryz.prog Ev 90 con := VP (accr := fun ls => ((ls.headD .hole).toSl, (padL 1 (dropT 1 ls)))) (run := fun n x => start (iter step n) x.1 x.2) mix tab_ok (.cons impl_Known_find_1.valid_ .nil) Tryz.func90 (by kernel_rfl) run_eq (fun ls a _ e hg => okV ls a e hg)
theorem fa (a0 : List (List MSigned)) (a1 : Int) : -1 ≤ md a0 a1 ∧ md a0 a1 < (a0.length : Int) := by
  unfold md
  refine eachI_fa0 ?_ _ _
  all_goals
    intro i x s b h
    revert h
    simp only [Bool.cond_eq_ite]
    repeat' split
    all_goals (intro h; first | (cases h; rfl) | cases h)
theorem idx_eq (a0 : List (List MSigned)) (a1 : Int) : md a0 a1 = findI (fun y => impl_Known_find_1.md y a1) 0 a0 := by
  unfold md
  exact eachI_find
end slices_IndexFunc_SSimpl_Signed_Simpl_Signed__impl_Known_find_1
/-! (impl.Known).find -/
namespace impl_Known_find
noncomputable def F (x0 : RKnown) (x1 : Int) : Ans := (call (slices_IndexFunc_SSimpl_Signed_Simpl_Signed__impl_Known_find_1.R (x0.fChains, x1)) fun v1 => ret (v1 : Int))
def pats : List Pat := [.agg [.sl 38, .sl 95], .rd (.int .i64)]
def res : RP := .one (.rd (.int .i64))
noncomputable abbrev E : Env := ⟨assoc Tab, conG [(90, slices_IndexFunc_SSimpl_Signed_Simpl_Signed__impl_Known_find_1.con)], 9⟩
set_option maxRecDepth 100000
theorem run_eq (n : Nat) (ls : List L) : runF E (fun _ => []) Tryz.f47 res n (initS pats ls) = F (RKnown.dec ls) ((dropT 2 ls).headD .hole).toInt := by kernel_rfl
noncomputable def md (a0 : MKnown) (a1 : Int) : Int := ((slices_IndexFunc_SSimpl_Signed_Simpl_Signed__impl_Known_find_1.md a0.fChains a1) : Int)
def gd (a0 : MKnown) (a1 : Int) : Prop := (MKnown.Sm (2 ^ 21) a0)
def acc (ls : List L) : RKnown × Int := ((RKnown.dec ls), ((dropT 2 ls).headD .hole).toInt)
noncomputable def R : (RKnown × Int) → Option Int := RR (p2 gd) (u2 md)
theorem R_eq {a0} {a1} (h : gd a0 a1) : R ((MKnown.r a0), a1) = some (md a0 a1) := RR_eq (a := (a0, a1)) h
noncomputable def con : Con := CN pats res acc R
theorem okF (a0 : MKnown) (a1 : Int) (hg : gd a0 a1) : F (MKnown.r a0) a1 = ret ((md a0 a1) : Int) := by
  unfold gd at hg
  have H0 := hg
  unfold F md
  try simp only [S0, MKnown.rs]
  refine call_to (slices_IndexFunc_SSimpl_Signed_Simpl_Signed__impl_Known_find_1.md a0.fChains a1) (slices_IndexFunc_SSimpl_Signed_Simpl_Signed__impl_Known_find_1.R_eq (a0 := a0.fChains) (a1 := a1) H0.1) ?_
  have fv1_ := slices_IndexFunc_SSimpl_Signed_Simpl_Signed__impl_Known_find_1.fa a0.fChains a1
  first | rfl | (simp only [S0, MKnown.rs, MP]; first | done | rfl)
theorem valid_ : Valid Tryz.prog Ev 47 con := VV (run := fun _ x => F x.1 x.2) mix tab_ok (.cons slices_IndexFunc_SSimpl_Signed_Simpl_Signed__impl_Known_find_1.valid_ .nil) Tryz.func47 (by kernel_rfl) run_eq (fun _ a _ _ hg => ⟨0, okF a.1 a.2 hg⟩)
theorem fa (a0 : MKnown) (a1 : Int) : -1 ≤ md a0 a1 ∧ md a0 a1 < (a0.fChains.length : Int) := by unfold md; exact slices_IndexFunc_SSimpl_Signed_Simpl_Signed__impl_Known_find_1.fa _ _
theorem br (a0 : MKnown) (a1 : Int) : md a0 a1 = spec_l22Find.md a0 a1 := by
  unfold md spec_l22Find.md
  rw [slices_IndexFunc_SSimpl_Signed_Simpl_Signed__impl_Known_find_1.idx_eq]
  symm
  refine eachI_find' (fun i x s => ?_) _ _ _
  unfold impl_Known_find_1.md
  cases decide ((x.length : Int) > 0) <;> first | rfl | (cases ((x.getD 0 MSigned.zero).fHead).fZone == a1 <;> rfl)
end impl_Known_find
/-! impl.EqualHeads -/
namespace impl_EqualHeads
noncomputable def F (x0 : RHead) (x1 : RHead) : Ans := (call (impl_EqualKeys.R (x0.fKeys, x1.fKeys)) fun v1 => (bif v1 then (call (impl_EqualKeys.R (x0.fHeirs, x1.fHeirs)) fun v2 => (bif v2 then (call (impl_EqualKeys.R (x0.fJudge, x1.fJudge)) fun v3 => (bif v3 then (call (impl_HeadInts.R x0) fun v4 => (call (impl_HeadInts.R x1) fun v5 => (call (slices_Equal_Sint_int.R (v4, v5)) fun v6 => ret (v6 : Bool)))) else ret (false : Bool))) else ret (false : Bool))) else ret (false : Bool)))
def pats : List Pat := [.agg [.int .i64, .int .i64, .int .i64, .int .i64, .int .i64, .int .i64, .int .i64, .int .i64, .sl 3, .int .i64, .sl 3, .int .i64, .int .i64, .sl 3, .int .i64, .bool], .agg [.int .i64, .int .i64, .int .i64, .int .i64, .int .i64, .int .i64, .int .i64, .int .i64, .sl 3, .int .i64, .sl 3, .int .i64, .int .i64, .sl 3, .int .i64, .bool]]
def res : RP := .one (.rd (.bool))
noncomputable abbrev E : Env := ⟨assoc Tab, conG [(139, impl_EqualKeys.con), (140, impl_HeadInts.con), (114, slices_Equal_Sint_int.con)], 31⟩
set_option maxRecDepth 100000
theorem run_eq (n : Nat) (ls : List L) : runF E (fun _ => []) Tryz.f93 res n (initS pats ls) = F (RHead.dec ls) (RHead.dec (dropT 16 ls)) := by kernel_rfl
noncomputable def md (a0 : MHead) (a1 : MHead) : Bool := (bif (impl_EqualKeys.md a0.fKeys a1.fKeys) then (bif (impl_EqualKeys.md a0.fHeirs a1.fHeirs) then (bif (impl_EqualKeys.md a0.fJudge a1.fJudge) then ((slices_Equal_Sint_int.md (impl_HeadInts.md a0) (impl_HeadInts.md a1)) : Bool) else (false : Bool)) else (false : Bool)) else (false : Bool))
def gd (a0 : MHead) (a1 : MHead) : Prop := (MHead.Sm (2 ^ 21) a0) ∧ (MHead.Sm (2 ^ 21) a1)
def acc (ls : List L) : RHead × RHead := ((RHead.dec ls), (RHead.dec (dropT 16 ls)))
noncomputable def R : (RHead × RHead) → Option Bool := RR (p2 gd) (u2 md)
theorem R_eq {a0} {a1} (h : gd a0 a1) : R ((MHead.r a0), (MHead.r a1)) = some (md a0 a1) := RR_eq (a := (a0, a1)) h
noncomputable def con : Con := CN pats res acc R
theorem okF (a0 : MHead) (a1 : MHead) (hg : gd a0 a1) : F (MHead.r a0) (MHead.r a1) = ret ((md a0 a1) : Bool) := by
  unfold gd at hg
  obtain ⟨H0, H1⟩ := hg
  unfold F md
  try simp only [S0, MHead.rs]
  refine call_to (impl_EqualKeys.md a0.fKeys a1.fKeys) (impl_EqualKeys.R_eq (a0 := a0.fKeys) (a1 := a1.fKeys) ⟨H0.1, H1.1⟩) ?_
  refine bif_out ret (fun c1 => ?_) (fun _ => rfl)
  refine call_to (impl_EqualKeys.md a0.fHeirs a1.fHeirs) (impl_EqualKeys.R_eq (a0 := a0.fHeirs) (a1 := a1.fHeirs) ⟨H0.2.1, H1.2.1⟩) ?_
  refine bif_out ret (fun c2 => ?_) (fun _ => rfl)
  refine call_to (impl_EqualKeys.md a0.fJudge a1.fJudge) (impl_EqualKeys.R_eq (a0 := a0.fJudge) (a1 := a1.fJudge) ⟨H0.2.2, H1.2.2⟩) ?_
  refine bif_out ret (fun c3 => ?_) (fun _ => rfl)
  refine call_to ((impl_HeadInts.md a0).map iRow) (impl_HeadInts.R_eq (a0 := a0) H0) ?_
  try simp only [S0, MHead.rs]
  refine call_to ((impl_HeadInts.md a1).map iRow) (impl_HeadInts.R_eq (a0 := a1) H1) ?_
  try simp only [S0, MHead.rs]
  refine call_to (slices_Equal_Sint_int.md (impl_HeadInts.md a0) (impl_HeadInts.md a1)) (slices_Equal_Sint_int.R_eq (a0 := (impl_HeadInts.md a0)) (a1 := (impl_HeadInts.md a1)) ⟨⟨(by
      have := impl_HeadInts.len a0
      have := (H0.1).1
      have := (H0.2.1).1
      have := (H0.2.2).1
      try simp (disch := omega) only [LN, wi]
      first | omega | (simp; done) | (simp; omega)), fun _ _ => trivial⟩, ⟨(by
      have := impl_HeadInts.len a1
      have := (H1.1).1
      have := (H1.2.1).1
      have := (H1.2.2).1
      try simp (disch := omega) only [LN, wi]
      first | omega | (simp; done) | (simp; omega)), fun _ _ => trivial⟩⟩) ?_
  first | rfl | (simp only [S0, MHead.rs, MP]; first | done | rfl)
theorem valid_ : Valid Tryz.prog Ev 93 con := VV (run := fun _ x => F x.1 x.2) mix tab_ok (.cons impl_EqualKeys.valid_ (.cons impl_HeadInts.valid_ (.cons slices_Equal_Sint_int.valid_ .nil))) Tryz.func93 (by kernel_rfl) run_eq (fun _ a _ _ hg => ⟨0, okF a.1 a.2 hg⟩)
theorem md_eq (a0 : MHead) (a1 : MHead) : md a0 a1 = eqB a0 a1 := by
  unfold md
  simp only [slices_Equal_Sint_int.md_eq, impl_EqualKeys.md_eq, impl_HeadInts.br]
  rw [Bool.eq_iff_iff]
  constructor
  · intro h
    simp only [and_p, Bool.and_eq_true] at h
    exact eqB_iff.2 (spec_HeadInts.inj (eqB_iff.1 h.2.2.2))
  · intro h
    rw [eqB_iff] at h
    rw [h]
    simp only [eqB_refl]; rfl
end impl_EqualHeads
/-! slices.Equal[[]impl.Sig,impl.Sig] -/
namespace slices_Equal_Simpl_Sig_impl_Sig
inductive Pt where
  | p0 (a : List (List L)) (b : List (List L)) (c : Int) (d : Int)
def pid : Pt → Nat
  | .p0 .. => 4
def pvs : Pt → List V
  | .p0 a b c d => [.sl none 179 a, .sl none 179 b, .int .i64 c, .int .i64 d]
def phs : Pt → List Root
  | .p0 a b c d => []
noncomputable def step (J : Pt → Ans) : Pt → Ans
  | .p0 a b c d => (bif (decide (d < c)) then (bif (decide ((0 : Int) ≤ d)) then (bif (decide (d < (a.length : Int))) then (bif (decide ((0 : Int) ≤ d)) then (bif (decide (d < (b.length : Int))) then (bif (!((((MSig.at a (Int.toNat d)).fKey : Int) == (MSig.at b (Int.toNat d)).fKey) && ((((MSig.at a (Int.toNat d)).fTag : Int) == (MSig.at b (Int.toNat d)).fTag) && true))) then ret (false : Bool) else J (.p0 a b c (IntKind.i64.wrap (d + 1)))) else none) else none) else none) else none) else ret (true : Bool))
noncomputable def start (J : Pt → Ans) (x0 : List (List L)) (x1 : List (List L)) : Ans := (bif ((x0.length : Int) != (x1.length : Int)) then ret (false : Bool) else J (.p0 x0 x1 (x0.length : Int) 0))
def live : Nat → Live := fun i => match i with | 4 => [(0, none), (1, none), (12, none), (13, none)] | _ => []
def pats : List Pat := [.rd (.sl 179), .rd (.sl 179)]
def res : RP := .one (.rd (.bool))
noncomputable abbrev E : Env := ⟨assoc Tab, conG [], 26⟩
set_option maxRecDepth 100000
theorem step_eq (I : Heads) (p : Pt) : enterC E live I (pid p) (bodyOf Tryz.f141) (stOf (live (pid p)) (pvs p) (phs p)) (doneK E Tryz.f141 res) = step (fun q => I (pid q) (pvs q) (phs q)) p := by
  cases p <;> kernel_rfl
theorem start_eq (I : Heads) (ls : List L) : runC E live I (bodyOf Tryz.f141) (initS pats ls) (doneK E Tryz.f141 res) = start (fun q => I (pid q) (pvs q) (phs q)) (ls.headD .hole).toSl ((dropT 1 ls).headD .hole).toSl := by kernel_rfl
theorem run_eq (n : Nat) (ls : List L) : runF E live Tryz.f141 res n (initS pats ls) = start (iter step n) (ls.headD .hole).toSl ((dropT 1 ls).headD .hole).toSl := runF_iter (id := pid) (vs := pvs) (hs := phs) (step := step) (start := fun J => start J (ls.headD .hole).toSl ((dropT 1 ls).headD .hole).toSl) step_eq (fun I => start_eq I ls) n
noncomputable def md (a0 : List MSig) (a1 : List MSig) : Bool := (bif ((a0.length : Int) != (a1.length : Int)) then (false : Bool) else (loopM (S := Unit) (β := Bool) (fun (i2 : Nat) (s4 : Unit) => (bif (!((((a0.getD i2 MSig.zero).fKey : Int) == (a1.getD i2 MSig.zero).fKey) && ((((a0.getD i2 MSig.zero).fTag : Int) == (a1.getD i2 MSig.zero).fTag) && true))) then (.inr (false : Bool)) else (.inl ()))) (fun (s4 : Unit) => (true : Bool)) a0.length 0 ()))
def gd (a0 : List MSig) (a1 : List MSig) : Prop := (SmL (2 ^ 21) (fun y : MSig => MSig.Sm (2 ^ 21) y) a0) ∧ (SmL (2 ^ 21) (fun y : MSig => MSig.Sm (2 ^ 21) y) a1)
def acc (ls : List L) : List (List L) × List (List L) := ((ls.headD .hole).toSl, ((dropT 1 ls).headD .hole).toSl)
noncomputable def R : (List (List L) × List (List L)) → Option Bool := RR (p2 gd) (u2 md)
theorem R_eq {a0} {a1} (h : gd a0 a1) : R ((a0.map MSig.row), (a1.map MSig.row)) = some (md a0 a1) := RR_eq (a := (a0, a1)) h
noncomputable def con : Con := CN pats res acc R
theorem okF (a0 : List MSig) (a1 : List MSig) (hg : gd a0 a1) : ∃ n, start (iter step n) (a0.map MSig.row) (a1.map MSig.row) = ret ((md a0 a1) : Bool) := by
  unfold gd at hg
  obtain ⟨H0, H1⟩ := hg
  unfold start md
  try simp only [S0, MSig.rs]
  refine ex_bif ret (fun _ => ⟨0, rfl⟩) (fun c1 => ?_)
  have dc1 := c1
  try simp only [DC] at dc1
  have Bh3 : a0.length ≤ maxLen := (by
      have := (H0).1
      try simp only [maxLen] at *
      omega)
  refine ex_pt (p := Pt.p0 (a0.map MSig.row) (a1.map MSig.row) (a0.length : Int) 0) (by first | rfl | (simp only [S0, MSig.rs, MP]; done) | (simp only [MP]; rfl)) ?_
  refine loopM_ok (pt := fun (i2 : Nat) (s4 : Unit) => Pt.p0 (a0.map MSig.row) (a1.map MSig.row) (a0.length : Int) (i2 : Int)) (s := (() : Unit)) (out := ret) (fun _ _ => True) (fun J i2 s4 h3 hih3 => ?_) (fun s4 hih3 => ?_) trivial
  · simp only [step, S0, MSig.rs]
    have bb_ := Bh3
    simp only [maxLen] at bb_
    have := (H0).1
    refine Rnd.yes (by apply decide_eq_true; omega) ?_
    refine Rnd.yes zle_dec ?_
    refine Rnd.yes (lt_dec h3) ?_
    refine Rnd.yes zle_dec ?_
    refine Rnd.yes (by
        have := (H1).1
        refine decide_eq_true ?_
        try simp (disch := omega) only [LN, wi]
        first | omega | (simp; done) | (simp; omega)) ?_
    refine Rnd.bif (fun _ => Rnd.inr rfl) (fun c5 => ?_)
    refine Rnd.inl trivial ?_
    rw [wrap_succ h3 Bh3]
    all_goals first | rfl | (simp only [S0, MSig.rs, MP]; first | done | rfl)
  · simp only [step, S0, MSig.rs]
    have := (H0).1
    refine ex_no (by apply decide_eq_false; omega) ?_
    refine ⟨0, ?_⟩
    first | rfl | (simp only [S0, MSig.rs, MP]; first | done | rfl)
theorem valid_ : Valid Tryz.prog Ev 141 con := VV (run := fun n x => start (iter step n) x.1 x.2) mix tab_ok .nil Tryz.func141 (by kernel_rfl) run_eq (fun _ a _ _ hg => okF a.1 a.2 hg)
theorem md_eq (a0 : List MSig) (a1 : List MSig) : md a0 a1 = eqB a0 a1 := by
  unfold md
  refine loop_eqB (MSig.zero) (fun i s h h2 => ?_) (fun s => rfl)
  simp only [bne, int_beq, bool_beq, ba_beq, MSig.eqc]
  cases eqB _ _ <;> rfl
end slices_Equal_Simpl_Sig_impl_Sig
/-! impl.EqualSigned -/
namespace impl_EqualSigned
noncomputable def F (x0 : RSigned) (x1 : RSigned) : Ans := (call (impl_EqualHeads.R (x0.fHead, x1.fHead)) fun v1 => (bif v1 then (call (slices_Equal_Simpl_Sig_impl_Sig.R (x0.fSigs, x1.fSigs)) fun v2 => ret (v2 : Bool)) else ret (false : Bool)))
def pats : List Pat := [.agg [.int .i64, .int .i64, .int .i64, .int .i64, .int .i64, .int .i64, .int .i64, .int .i64, .sl 3, .int .i64, .sl 3, .int .i64, .int .i64, .sl 3, .int .i64, .bool, .sl 179], .agg [.int .i64, .int .i64, .int .i64, .int .i64, .int .i64, .int .i64, .int .i64, .int .i64, .sl 3, .int .i64, .sl 3, .int .i64, .int .i64, .sl 3, .int .i64, .bool, .sl 179]]
def res : RP := .one (.rd (.bool))
noncomputable abbrev E : Env := ⟨assoc Tab, conG [(93, impl_EqualHeads.con), (141, slices_Equal_Simpl_Sig_impl_Sig.con)], 17⟩
set_option maxRecDepth 100000
theorem run_eq (n : Nat) (ls : List L) : runF E (fun _ => []) Tryz.f94 res n (initS pats ls) = F (RSigned.dec ls) (RSigned.dec (dropT 17 ls)) := by kernel_rfl
noncomputable def md (a0 : MSigned) (a1 : MSigned) : Bool := (bif (impl_EqualHeads.md a0.fHead a1.fHead) then ((slices_Equal_Simpl_Sig_impl_Sig.md a0.fSigs a1.fSigs) : Bool) else (false : Bool))
def gd (a0 : MSigned) (a1 : MSigned) : Prop := (MSigned.Sm (2 ^ 21) a0) ∧ (MSigned.Sm (2 ^ 21) a1)
def acc (ls : List L) : RSigned × RSigned := ((RSigned.dec ls), (RSigned.dec (dropT 17 ls)))
noncomputable def R : (RSigned × RSigned) → Option Bool := RR (p2 gd) (u2 md)
theorem R_eq {a0} {a1} (h : gd a0 a1) : R ((MSigned.r a0), (MSigned.r a1)) = some (md a0 a1) := RR_eq (a := (a0, a1)) h
noncomputable def con : Con := CN pats res acc R
theorem okF (a0 : MSigned) (a1 : MSigned) (hg : gd a0 a1) : F (MSigned.r a0) (MSigned.r a1) = ret ((md a0 a1) : Bool) := by
  unfold gd at hg
  obtain ⟨H0, H1⟩ := hg
  unfold F md
  try simp only [S0, MSigned.rs]
  refine call_to (impl_EqualHeads.md a0.fHead a1.fHead) (impl_EqualHeads.R_eq (a0 := a0.fHead) (a1 := a1.fHead) ⟨H0.1, H1.1⟩) ?_
  refine bif_out ret (fun c1 => ?_) (fun _ => rfl)
  refine call_to (slices_Equal_Simpl_Sig_impl_Sig.md a0.fSigs a1.fSigs) (slices_Equal_Simpl_Sig_impl_Sig.R_eq (a0 := a0.fSigs) (a1 := a1.fSigs) ⟨H0.2, H1.2⟩) ?_
  first | rfl | (simp only [S0, MSigned.rs, MP]; first | done | rfl)
theorem valid_ : Valid Tryz.prog Ev 94 con := VV (run := fun _ x => F x.1 x.2) mix tab_ok (.cons impl_EqualHeads.valid_ (.cons slices_Equal_Simpl_Sig_impl_Sig.valid_ .nil)) Tryz.func94 (by kernel_rfl) run_eq (fun _ a _ _ hg => ⟨0, okF a.1 a.2 hg⟩)
theorem md_eq (a0 : MSigned) (a1 : MSigned) : md a0 a1 = eqB a0 a1 := by
  unfold md
  cases a0; cases a1
  rw [Bool.eq_iff_iff]
  simp [eqB_iff, ba_beq, MSigned.mk.injEq, impl_EqualHeads.md_eq, slices_Equal_Simpl_Sig_impl_Sig.md_eq]
  try (constructor <;> (intro h; simp_all))
end impl_EqualSigned
/-! impl.IsFork -/
namespace impl_IsFork
noncomputable def F (x0 : RFork) : Ans := (call (impl_EqualHeads.R (x0.fA.fHead, x0.fB.fHead)) fun v1 => (bif v1 then ret (false : Bool) else (call (impl_EqualSigned.R (x0.fBefore, (⟨(⟨0, 0, 0, 0, 0, 0, 0, 0, (⟨[], 0⟩ : RKeys), (⟨[], 0⟩ : RKeys), 0, (⟨[], 0⟩ : RKeys), false⟩ : RHead), []⟩ : RSigned))) fun v2 => (bif v2 then (call (impl_IsFirst.R x0.fA) fun v3 => (bif v3 then (call (impl_IsFirst.R x0.fB) fun v4 => (bif v4 then ret ((x0.fA.fHead.fZone == x0.fB.fHead.fZone) : Bool) else ret (false : Bool))) else ret (false : Bool))) else (call (impl_MayFollow.R (x0.fBefore.fHead, x0.fA)) fun v5 => (bif v5 then (call (impl_MayFollow.R (x0.fBefore.fHead, x0.fB)) fun v6 => ret (v6 : Bool)) else ret (false : Bool)))))))
def pats : List Pat := [.agg [.int .i64, .int .i64, .int .i64, .int .i64, .int .i64, .int .i64, .int .i64, .int .i64, .sl 3, .int .i64, .sl 3, .int .i64, .int .i64, .sl 3, .int .i64, .bool, .sl 179, .int .i64, .int .i64, .int .i64, .int .i64, .int .i64, .int .i64, .int .i64, .int .i64, .sl 3, .int .i64, .sl 3, .int .i64, .int .i64, .sl 3, .int .i64, .bool, .sl 179, .int .i64, .int .i64, .int .i64, .int .i64, .int .i64, .int .i64, .int .i64, .int .i64, .sl 3, .int .i64, .sl 3, .int .i64, .int .i64, .sl 3, .int .i64, .bool, .sl 179]]
def res : RP := .one (.rd (.bool))
noncomputable abbrev E : Env := ⟨assoc Tab, conG [(93, impl_EqualHeads.con), (94, impl_EqualSigned.con), (95, impl_IsFirst.con), (96, impl_MayFollow.con)], 49⟩
set_option maxRecDepth 100000
theorem run_eq (n : Nat) (ls : List L) : runF E (fun _ => []) Tryz.f50 res n (initS pats ls) = F (RFork.dec ls) := by kernel_rfl
noncomputable def md (a0 : MFork) : Bool := (bif (impl_EqualHeads.md a0.fA.fHead a0.fB.fHead) then (false : Bool) else (bif (impl_EqualSigned.md a0.fBefore (⟨(⟨0, 0, 0, 0, 0, 0, 0, 0, (⟨[], 0⟩ : MKeys), (⟨[], 0⟩ : MKeys), 0, (⟨[], 0⟩ : MKeys), false⟩ : MHead), []⟩ : MSigned)) then (bif (impl_IsFirst.md a0.fA) then (bif (impl_IsFirst.md a0.fB) then ((a0.fA.fHead.fZone == a0.fB.fHead.fZone) : Bool) else (false : Bool)) else (false : Bool)) else (bif (impl_MayFollow.md a0.fBefore.fHead a0.fA) then ((impl_MayFollow.md a0.fBefore.fHead a0.fB) : Bool) else (false : Bool))))
def gd (a0 : MFork) : Prop := (MFork.Sm (2 ^ 21) a0)
def acc (ls : List L) : RFork := (RFork.dec ls)
noncomputable def R : RFork → Option Bool := RR gd md
theorem R_eq {a0} (h : gd a0) : R (MFork.r a0) = some (md a0) := RR_eq (a := a0) h
noncomputable def con : Con := CN pats res acc R
theorem okF (a0 : MFork) (hg : gd a0) : F (MFork.r a0) = ret ((md a0) : Bool) := by
  unfold gd at hg
  have H0 := hg
  unfold F md
  try simp only [S0, MHead.rs, MSigned.rs, MFork.rs]
  refine call_to (impl_EqualHeads.md a0.fA.fHead a0.fB.fHead) (impl_EqualHeads.R_eq (a0 := a0.fA.fHead) (a1 := a0.fB.fHead) ⟨H0.2.1.1, H0.2.2.1⟩) ?_
  refine bif_out ret (fun _ => rfl) (fun c1 => ?_)
  refine call_to (impl_EqualSigned.md a0.fBefore (⟨(⟨0, 0, 0, 0, 0, 0, 0, 0, (⟨[], 0⟩ : MKeys), (⟨[], 0⟩ : MKeys), 0, (⟨[], 0⟩ : MKeys), false⟩ : MHead), []⟩ : MSigned)) (impl_EqualSigned.R_eq (a0 := a0.fBefore) (a1 := (⟨(⟨0, 0, 0, 0, 0, 0, 0, 0, (⟨[], 0⟩ : MKeys), (⟨[], 0⟩ : MKeys), 0, (⟨[], 0⟩ : MKeys), false⟩ : MHead), []⟩ : MSigned)) ⟨H0.1, ⟨⟨SmL.nil, SmL.nil, SmL.nil⟩, SmL.nil⟩⟩) ?_
  refine bif_out ret (fun c2 => ?_) (fun c2 => ?_)
  · refine call_to (impl_IsFirst.md a0.fA) (impl_IsFirst.R_eq (a0 := a0.fA) H0.2.1) ?_
    refine bif_out ret (fun c3 => ?_) (fun _ => rfl)
    refine call_to (impl_IsFirst.md a0.fB) (impl_IsFirst.R_eq (a0 := a0.fB) H0.2.2) ?_
    refine bif_out ret (fun c4 => ?_) (fun _ => rfl)
    first | rfl | (simp only [S0, MHead.rs, MSigned.rs, MFork.rs, MP]; first | done | rfl)
  · refine call_to (impl_MayFollow.md a0.fBefore.fHead a0.fA) (impl_MayFollow.R_eq (a0 := a0.fBefore.fHead) (a1 := a0.fA) ⟨H0.1.1, H0.2.1⟩) ?_
    refine bif_out ret (fun c5 => ?_) (fun _ => rfl)
    refine call_to (impl_MayFollow.md a0.fBefore.fHead a0.fB) (impl_MayFollow.R_eq (a0 := a0.fBefore.fHead) (a1 := a0.fB) ⟨H0.1.1, H0.2.2⟩) ?_
    first | rfl | (simp only [S0, MHead.rs, MSigned.rs, MFork.rs, MP]; first | done | rfl)
theorem valid_ : Valid Tryz.prog Ev 50 con := VV (run := fun _ x => F x) mix tab_ok (.cons impl_EqualHeads.valid_ (.cons impl_EqualSigned.valid_ (.cons impl_IsFirst.valid_ (.cons impl_MayFollow.valid_ .nil)))) Tryz.func50 (by kernel_rfl) run_eq (fun _ a _ _ hg => ⟨0, okF a hg⟩)
theorem br (a0 : MFork) : md a0 = spec_IsFork.md a0 := by
  unfold md spec_IsFork.md
  first
  | (simp only [impl_IsFirst.br, impl_MayFollow.br, impl_EqualHeads.md_eq, impl_EqualSigned.md_eq, spec_EqualHeads.md_eq, spec_EqualSigned.md_eq]; done)
  | (simp only [impl_IsFirst.br, impl_MayFollow.br, impl_EqualHeads.md_eq, impl_EqualSigned.md_eq, spec_EqualHeads.md_eq, spec_EqualSigned.md_eq]; rfl)
  | rfl
end impl_IsFork
/-! impl.IsKnown$1 -/
namespace impl_IsKnown_1
noncomputable def F (x0 : RFork) : Ans := (call (impl_IsFork.R x0) fun v1 => ret ((!v1) : Bool))
def pats : List Pat := [.agg [.int .i64, .int .i64, .int .i64, .int .i64, .int .i64, .int .i64, .int .i64, .int .i64, .sl 3, .int .i64, .sl 3, .int .i64, .int .i64, .sl 3, .int .i64, .bool, .sl 179, .int .i64, .int .i64, .int .i64, .int .i64, .int .i64, .int .i64, .int .i64, .int .i64, .sl 3, .int .i64, .sl 3, .int .i64, .int .i64, .sl 3, .int .i64, .bool, .sl 179, .int .i64, .int .i64, .int .i64, .int .i64, .int .i64, .int .i64, .int .i64, .int .i64, .sl 3, .int .i64, .sl 3, .int .i64, .int .i64, .sl 3, .int .i64, .bool, .sl 179]]
def res : RP := .one (.rd (.bool))
noncomputable abbrev E : Env := ⟨assoc Tab, conG [(50, impl_IsFork.con)], 6⟩
set_option maxRecDepth 100000
theorem run_eq (n : Nat) (ls : List L) : runF E (fun _ => []) Tryz.f49 res n (initS pats ls) = F (RFork.dec ls) := by kernel_rfl
noncomputable def md (a0 : MFork) : Bool := ((!(impl_IsFork.md a0)) : Bool)
def gd (a0 : MFork) : Prop := (MFork.Sm (2 ^ 21) a0)
def acc (ls : List L) : RFork := (RFork.dec ls)
noncomputable def R : RFork → Option Bool := RR gd md
theorem R_eq {a0} (h : gd a0) : R (MFork.r a0) = some (md a0) := RR_eq (a := a0) h
noncomputable def con : Con := CN pats res acc R
theorem okF (a0 : MFork) (hg : gd a0) : F (MFork.r a0) = ret ((md a0) : Bool) := by
  unfold gd at hg
  have H0 := hg
  unfold F md
  try simp only [S0]
  refine call_to (impl_IsFork.md a0) (impl_IsFork.R_eq (a0 := a0) H0) ?_
  first | rfl | (simp only [S0, MP]; first | done | rfl)
theorem valid_ : Valid Tryz.prog Ev 49 con := VV (run := fun _ x => F x) mix tab_ok (.cons impl_IsFork.valid_ .nil) Tryz.func49 (by kernel_rfl) run_eq (fun _ a _ _ hg => ⟨0, okF a hg⟩)
end impl_IsKnown_1
/-! slices.IndexFunc[[]impl.Fork,impl.Fork] -/
namespace slices_IndexFunc_Simpl_Fork_impl_Fork__impl_IsKnown_1
inductive Pt where
  | p0 (a : List (List L)) (b : Int) (c : Int)
def pid : Pt → Nat
  | .p0 .. => 2
def pvs : Pt → List V
  | .p0 a b c => [.sl none 95 a, .fn 49 [], .int .i64 b, .int .i64 c]
def phs : Pt → List Root
  | .p0 a b c => []
noncomputable def step (J : Pt → Ans) : Pt → Ans
  | .p0 a b c => (bif (decide (c < b)) then (bif (decide ((0 : Int) ≤ c)) then (bif (decide (c < (a.length : Int))) then (call (impl_IsKnown_1.R (RFork.at a (Int.toNat c))) fun v1 => (bif v1 then ret (c : Int) else J (.p0 a b (IntKind.i64.wrap (c + 1))))) else none) else none) else ret ((-1) : Int))
noncomputable def start (J : Pt → Ans) (x0 : List (List L)) : Ans := J (.p0 x0 (x0.length : Int) 0)
def live : Nat → Live := fun i => match i with | 2 => [(0, none), (1, none), (7, none), (8, none)] | _ => []
def pats : List Pat := [.rd (.sl 95), .fn 49 []]
def res : RP := .one (.rd (.int .i64))
noncomputable abbrev E : Env := ⟨assoc Tab, conG [(49, impl_IsKnown_1.con)], 19⟩
set_option maxRecDepth 100000
theorem step_eq (I : Heads) (p : Pt) : enterC E live I (pid p) (bodyOf Tryz.f92) (stOf (live (pid p)) (pvs p) (phs p)) (doneK E Tryz.f92 res) = step (fun q => I (pid q) (pvs q) (phs q)) p := by
  cases p <;> kernel_rfl
theorem start_eq (I : Heads) (ls : List L) : runC E live I (bodyOf Tryz.f92) (initS pats ls) (doneK E Tryz.f92 res) = start (fun q => I (pid q) (pvs q) (phs q)) (ls.headD .hole).toSl := by kernel_rfl
theorem run_eq (n : Nat) (ls : List L) : runF E live Tryz.f92 res n (initS pats ls) = start (iter step n) (ls.headD .hole).toSl := runF_iter (id := pid) (vs := pvs) (hs := phs) (step := step) (start := fun J => start J (ls.headD .hole).toSl) step_eq (fun I => start_eq I ls) n
noncomputable def md (a0 : List MFork) : Int := (eachI (S := Unit) (β := Int) (fun (i1 : Nat) (y1 : MFork) (s3 : Unit) => (bif (impl_IsKnown_1.md y1) then (.inr ((i1 : Int) : Int)) else (.inl ()))) (fun (s3 : Unit) => ((-1) : Int)) 0 a0 ())
def gd (a0 : List MFork) : Prop := (SmL (2 ^ 21) (fun y : MFork => MFork.Sm (2 ^ 21) y) a0)
def acc (ls : List L) : List (List L) := (ls.headD .hole).toSl
noncomputable def R : (List (List L)) → Option Int := RR gd md
theorem R_eq {a0} (h : gd a0) : R (a0.map MFork.row) = some (md a0) := RR_eq (a := a0) h
noncomputable def con : Con := CN pats res acc R
theorem okF (a0 : List MFork) (hg : gd a0) : ∃ n, start (iter step n) (a0.map MFork.row) = ret ((md a0) : Int) := by
  unfold gd at hg
  have H0 := hg
  unfold start md
  try simp only [S0, MFork.rs]
  have Bh2 : a0.length ≤ maxLen := (by
      have := (H0).1
      try simp only [maxLen] at *
      omega)
  refine ex_eq (out := ret) (loopM_eachI (z := MFork.zero)) ?_
  refine ex_pt (p := Pt.p0 (a0.map MFork.row) (a0.length : Int) 0) (by first | rfl | (simp only [S0, MFork.rs, MP]; done) | (simp only [MP]; rfl)) ?_
  refine loopM_ok (pt := fun (i1 : Nat) (s3 : Unit) => Pt.p0 (a0.map MFork.row) (a0.length : Int) (i1 : Int)) (s := (() : Unit)) (out := ret) (fun _ _ => True) (fun J i1 s3 h2 hih2 => ?_) (fun s3 hih2 => ?_) trivial
  · simp only [step, S0, MFork.rs]
    have bb_ := Bh2
    simp only [maxLen] at bb_
    have := (H0).1
    refine Rnd.yes (by apply decide_eq_true; omega) ?_
    refine Rnd.yes zle_dec ?_
    refine Rnd.yes (lt_dec h2) ?_
    refine Rnd.call_to (impl_IsKnown_1.md (a0.getD i1 MFork.zero)) (impl_IsKnown_1.R_eq (a0 := (a0.getD i1 MFork.zero)) (SmL.getD (z := MFork.zero) H0 h2)) ?_
    refine Rnd.bif (fun c4 => ?_) (fun c4 => ?_)
    · refine Rnd.inr ?_
      first | rfl | (simp only [S0, MFork.rs, MP]; first | done | rfl)
    · refine Rnd.inl trivial ?_
      rw [wrap_succ h2 Bh2]
      all_goals first | rfl | (simp only [S0, MFork.rs, MP]; first | done | rfl)
  · simp only [step, S0, MFork.rs]
    have := (H0).1
    refine ex_no (by apply decide_eq_false; omega) ?_
    refine ⟨0, ?_⟩
    first | rfl | (simp only [S0, MFork.rs, MP]; first | done | rfl)
theorem valid_ : Valid Tryz.prog Ev 92 con := VV (run := fun n x => start (iter step n) x) mix tab_ok (.cons impl_IsKnown_1.valid_ .nil) Tryz.func92 (by kernel_rfl) run_eq (fun _ a _ _ hg => okF a hg)
theorem fa (a0 : List MFork) : -1 ≤ md a0 ∧ md a0 < (a0.length : Int) := by
  unfold md
  refine eachI_fa0 ?_ _ _
  all_goals
    intro i x s b h
    revert h
    simp only [Bool.cond_eq_ite]
    repeat' split
    all_goals (intro h; first | (cases h; rfl) | cases h)
theorem idx_eq (a0 : List MFork) : md a0 = findI (fun y => impl_IsKnown_1.md y) 0 a0 := by
  unfold md
  exact eachI_find
end slices_IndexFunc_Simpl_Fork_impl_Fork__impl_IsKnown_1
/-! slices.ContainsFunc[[]impl.Fork,impl.Fork] -/
namespace slices_ContainsFunc_Simpl_Fork_impl_Fork__impl_IsKnown_1
noncomputable def F (x0 : List (List L)) : Ans := (call (slices_IndexFunc_Simpl_Fork_impl_Fork__impl_IsKnown_1.R x0) fun v1 => ret ((decide (v1 ≥ 0)) : Bool))
def pats : List Pat := [.rd (.sl 95), .fn 49 []]
def res : RP := .one (.rd (.bool))
noncomputable abbrev E : Env := ⟨assoc Tab, conG [(92, slices_IndexFunc_Simpl_Fork_impl_Fork__impl_IsKnown_1.con)], 9⟩
set_option maxRecDepth 100000
theorem run_eq (n : Nat) (ls : List L) : runF E (fun _ => []) Tryz.f48 res n (initS pats ls) = F (ls.headD .hole).toSl := by kernel_rfl
noncomputable def md (a0 : List MFork) : Bool := ((decide ((slices_IndexFunc_Simpl_Fork_impl_Fork__impl_IsKnown_1.md a0) ≥ 0)) : Bool)
def gd (a0 : List MFork) : Prop := (SmL (2 ^ 21) (fun y : MFork => MFork.Sm (2 ^ 21) y) a0)
def acc (ls : List L) : List (List L) := (ls.headD .hole).toSl
noncomputable def R : (List (List L)) → Option Bool := RR gd md
theorem R_eq {a0} (h : gd a0) : R (a0.map MFork.row) = some (md a0) := RR_eq (a := a0) h
noncomputable def con : Con := CN pats res acc R
theorem okF (a0 : List MFork) (hg : gd a0) : F (a0.map MFork.row) = ret ((md a0) : Bool) := by
  unfold gd at hg
  have H0 := hg
  unfold F md
  try simp only [S0]
  refine call_to (slices_IndexFunc_Simpl_Fork_impl_Fork__impl_IsKnown_1.md a0) (slices_IndexFunc_Simpl_Fork_impl_Fork__impl_IsKnown_1.R_eq (a0 := a0) H0) ?_
  have fv1_ := slices_IndexFunc_Simpl_Fork_impl_Fork__impl_IsKnown_1.fa a0
  first | rfl | (simp only [S0, MP]; first | done | rfl)
theorem valid_ : Valid Tryz.prog Ev 48 con := VV (run := fun _ x => F x) mix tab_ok (.cons slices_IndexFunc_Simpl_Fork_impl_Fork__impl_IsKnown_1.valid_ .nil) Tryz.func48 (by kernel_rfl) run_eq (fun _ a _ _ hg => ⟨0, okF a hg⟩)
theorem any_eq (a0 : List MFork) : md a0 = a0.any (fun y => impl_IsKnown_1.md y) := by
  unfold md
  rw [slices_IndexFunc_Simpl_Fork_impl_Fork__impl_IsKnown_1.idx_eq]
  exact findI_ge
end slices_ContainsFunc_Simpl_Fork_impl_Fork__impl_IsKnown_1
/-! impl.IsKnown -/
namespace impl_IsKnown
inductive Pt where
  | p0 (a : List (List L)) (b : Int) (c : Int) (d : RKnown)
def pid : Pt → Nat
  | .p0 .. => 2
def pvs : Pt → List V
  | .p0 a b c d => [.bptr 0 0, .sl none 38 a, .int .i64 b, .int .i64 c]
def phs : Pt → List Root
  | .p0 a b c d => [.box [.sl none 38 d.fChains, .sl none 95 d.fForks]]
noncomputable def step (J : Pt → Ans) : Pt → Ans
  | .p0 a b c d => (bif (decide (c < b)) then (bif (decide ((0 : Int) ≤ c)) then (bif (decide (c < (a.length : Int))) then (call (impl_IsChain.R (lAt a (Int.toNat c))) fun v1 => (bif (!v1) then ret (false : Bool) else (bif (decide ((0 : Int) < ((lAt a (Int.toNat c)).length : Int))) then (call (impl_Known_find.R (d, (RSigned.at (lAt a (Int.toNat c)) 0).fHead.fZone)) fun v2 => (bif (v2 != c) then ret (false : Bool) else J (.p0 a b (IntKind.i64.wrap (c + 1)) d))) else none))) else none) else none) else (bif (decide ((d.fChains.length : Int) ≤ 8)) then (bif (decide ((d.fForks.length : Int) ≤ 8)) then (call (slices_ContainsFunc_Simpl_Fork_impl_Fork__impl_IsKnown_1.R d.fForks) fun v3 => ret ((!v3) : Bool)) else ret (false : Bool)) else ret (false : Bool)))
noncomputable def start (J : Pt → Ans) (x0 : RKnown) : Ans := J (.p0 x0.fChains (x0.fChains.length : Int) 0 x0)
def live : Nat → Live := fun i => match i with | 2 => [(1, none), (6, none), (7, none), (8, none)] | _ => []
def pats : List Pat := [.agg [.sl 38, .sl 95]]
def res : RP := .one (.rd (.bool))
noncomputable abbrev E : Env := ⟨assoc Tab, conG [(46, impl_IsChain.con), (47, impl_Known_find.con), (48, slices_ContainsFunc_Simpl_Fork_impl_Fork__impl_IsKnown_1.con)], 44⟩
set_option maxRecDepth 100000
theorem step_eq (I : Heads) (p : Pt) : enterC E live I (pid p) (bodyOf Tryz.f13) (stOf (live (pid p)) (pvs p) (phs p)) (doneK E Tryz.f13 res) = step (fun q => I (pid q) (pvs q) (phs q)) p := by
  cases p <;> kernel_rfl
theorem start_eq (I : Heads) (ls : List L) : runC E live I (bodyOf Tryz.f13) (initS pats ls) (doneK E Tryz.f13 res) = start (fun q => I (pid q) (pvs q) (phs q)) (RKnown.dec ls) := by kernel_rfl
theorem run_eq (n : Nat) (ls : List L) : runF E live Tryz.f13 res n (initS pats ls) = start (iter step n) (RKnown.dec ls) := runF_iter (id := pid) (vs := pvs) (hs := phs) (step := step) (start := fun J => start J (RKnown.dec ls)) step_eq (fun I => start_eq I ls) n
noncomputable def md (a0 : MKnown) : Bool := (eachI (S := Unit) (β := Bool) (fun (i1 : Nat) (y1 : List MSigned) (s3 : Unit) => (bif (!(impl_IsChain.md y1)) then (.inr (false : Bool)) else (bif ((impl_Known_find.md a0 (((y1.getD 0 MSigned.zero).fHead).fZone)) != (i1 : Int)) then (.inr (false : Bool)) else (.inl ())))) (fun (s3 : Unit) => (bif (decide ((a0.fChains.length : Int) ≤ 8)) then (bif (decide ((a0.fForks.length : Int) ≤ 8)) then ((!(slices_ContainsFunc_Simpl_Fork_impl_Fork__impl_IsKnown_1.md a0.fForks)) : Bool) else (false : Bool)) else (false : Bool))) 0 a0.fChains ())
def gd (a0 : MKnown) : Prop := (MKnown.Sm (2 ^ 21) a0)
def acc (ls : List L) : RKnown := (RKnown.dec ls)
noncomputable def R : RKnown → Option Bool := RR gd md
theorem R_eq {a0} (h : gd a0) : R (MKnown.r a0) = some (md a0) := RR_eq (a := a0) h
noncomputable def con : Con := CN pats res acc R
theorem okF (a0 : MKnown) (hg : gd a0) : ∃ n, start (iter step n) (MKnown.r a0) = ret ((md a0) : Bool) := by
  unfold gd at hg
  have H0 := hg
  unfold start md
  try simp only [S0, MHead.rs, MSigned.rs, MKnown.rs]
  have Bh2 : a0.fChains.length ≤ maxLen := (by
      have := (H0.1).1
      try simp only [maxLen] at *
      omega)
  refine ex_eq (out := ret) (loopM_eachI (z := [])) ?_
  refine ex_pt (p := Pt.p0 (a0.fChains.map (lRow MSigned.row)) (a0.fChains.length : Int) 0 (MKnown.r a0)) (by first | rfl | (simp only [S0, MHead.rs, MSigned.rs, MKnown.rs, MP]; done) | (simp only [MP]; rfl)) ?_
  refine loopM_ok (pt := fun (i1 : Nat) (s3 : Unit) => Pt.p0 (a0.fChains.map (lRow MSigned.row)) (a0.fChains.length : Int) (i1 : Int) (MKnown.r a0)) (s := (() : Unit)) (out := ret) (fun _ _ => True) (fun J i1 s3 h2 hih2 => ?_) (fun s3 hih2 => ?_) trivial
  · simp only [step, S0, MHead.rs, MSigned.rs, MKnown.rs]
    have bb_ := Bh2
    simp only [maxLen] at bb_
    have := (H0.1).1
    refine Rnd.yes (by apply decide_eq_true; omega) ?_
    refine Rnd.yes zle_dec ?_
    refine Rnd.yes (lt_dec h2) ?_
    refine Rnd.call_to (impl_IsChain.md (a0.fChains.getD i1 [])) (impl_IsChain.R_eq (a0 := (a0.fChains.getD i1 [])) (SmL.getD (z := []) H0.1 h2)) ?_
    refine Rnd.bif (fun _ => Rnd.inr rfl) (fun c4 => ?_)
    have dc4 := c4
    try simp only [DC] at dc4
    try have tc4 := impl_IsChain.tr (by simpa using c4)
    refine Rnd.yes (by
        have := ((SmL.getD (z := []) H0.1 h2)).1
        refine decide_eq_true ?_
        try simp (disch := omega) only [LN, wi]
        first | omega | (simp; done) | (simp; omega)) ?_
    refine Rnd.call_to (impl_Known_find.md a0 ((((a0.fChains.getD i1 []).getD 0 MSigned.zero).fHead).fZone)) (impl_Known_find.R_eq (a0 := a0) (a1 := (((a0.fChains.getD i1 []).getD 0 MSigned.zero).fHead).fZone) H0) ?_
    have fv2_ := impl_Known_find.fa a0 ((((a0.fChains.getD i1 []).getD 0 MSigned.zero).fHead).fZone)
    refine Rnd.bif (fun _ => Rnd.inr rfl) (fun c5 => ?_)
    refine Rnd.inl trivial ?_
    rw [wrap_succ h2 Bh2]
    all_goals first | rfl | (simp only [S0, MHead.rs, MSigned.rs, MKnown.rs, MP]; first | done | rfl)
  · simp only [step, S0, MHead.rs, MSigned.rs, MKnown.rs]
    have := (H0.1).1
    refine ex_no (by apply decide_eq_false; omega) ?_
    refine ex_bif ret (fun c6 => ?_) (fun _ => ⟨0, rfl⟩)
    refine ex_bif ret (fun c7 => ?_) (fun _ => ⟨0, rfl⟩)
    refine ex_call_to (slices_ContainsFunc_Simpl_Fork_impl_Fork__impl_IsKnown_1.md a0.fForks) (slices_ContainsFunc_Simpl_Fork_impl_Fork__impl_IsKnown_1.R_eq (a0 := a0.fForks) H0.2) ?_
    refine ⟨0, ?_⟩
    first | rfl | (simp only [S0, MHead.rs, MSigned.rs, MKnown.rs, MP]; first | done | rfl)
theorem valid_ : Valid Tryz.prog Ev 13 con := VV (run := fun n x => start (iter step n) x) mix tab_ok (.cons impl_IsChain.valid_ (.cons impl_Known_find.valid_ (.cons slices_ContainsFunc_Simpl_Fork_impl_Fork__impl_IsKnown_1.valid_ .nil))) Tryz.func13 (by kernel_rfl) run_eq (fun _ a _ _ hg => okF a hg)
theorem br (a0 : MKnown) : md a0 = spec_IsKnown.md a0 := by
  unfold md spec_IsKnown.md
  refine eachI_congr (fun i x _ s => ?_) (fun s => ?_)
  · simp only [impl_IsChain.br, impl_Known_find.br]
  · rw [slices_ContainsFunc_Simpl_Fork_impl_Fork__impl_IsKnown_1.any_eq]
    refine Eq.trans ?_ (eachM_any (p := fun y => !(spec_IsFork.md y)) (b := false)).symm
    simp only [impl_IsKnown_1.md, impl_IsFork.br]
    cases decide ((a0.fChains.length : Int) ≤ 8) <;> cases decide ((a0.fForks.length : Int) ≤ 8) <;> cases a0.fForks.any (fun y => !(spec_IsFork.md y)) <;> rfl
end impl_IsKnown
/-! laws.eqIntS -/
namespace laws_eqIntS
inductive Pt where
  | p0 (a : List (List L)) (b : List (List L)) (c : Int)
def pid : Pt → Nat
  | .p0 .. => 4
def pvs : Pt → List V
  | .p0 a b c => [.sl none 3 a, .sl none 3 b, .int .i64 c]
def phs : Pt → List Root
  | .p0 a b c => []
noncomputable def step (J : Pt → Ans) : Pt → Ans
  | .p0 a b c => (bif (decide (c < (a.length : Int))) then (bif (decide ((0 : Int) ≤ c)) then (bif (decide (c < (a.length : Int))) then (bif (decide ((0 : Int) ≤ c)) then (bif (decide (c < (b.length : Int))) then (bif ((iAt a (Int.toNat c)) != (iAt b (Int.toNat c))) then ret (false : Bool) else J (.p0 a b (IntKind.i64.wrap (c + 1)))) else none) else none) else none) else none) else ret (true : Bool))
noncomputable def start (J : Pt → Ans) (x0 : List (List L)) (x1 : List (List L)) : Ans := (bif ((x0.length : Int) != (x1.length : Int)) then ret (false : Bool) else J (.p0 x0 x1 0))
def live : Nat → Live := fun i => match i with | 4 => [(0, none), (1, none), (5, none)] | _ => []
def pats : List Pat := [.rd (.sl 3), .rd (.sl 3)]
def res : RP := .one (.rd (.bool))
noncomputable abbrev E : Env := ⟨assoc Tab, conG [], 26⟩
set_option maxRecDepth 100000
theorem step_eq (I : Heads) (p : Pt) : enterC E live I (pid p) (bodyOf Tryz.f119) (stOf (live (pid p)) (pvs p) (phs p)) (doneK E Tryz.f119 res) = step (fun q => I (pid q) (pvs q) (phs q)) p := by
  cases p <;> kernel_rfl
theorem start_eq (I : Heads) (ls : List L) : runC E live I (bodyOf Tryz.f119) (initS pats ls) (doneK E Tryz.f119 res) = start (fun q => I (pid q) (pvs q) (phs q)) (ls.headD .hole).toSl ((dropT 1 ls).headD .hole).toSl := by kernel_rfl
theorem run_eq (n : Nat) (ls : List L) : runF E live Tryz.f119 res n (initS pats ls) = start (iter step n) (ls.headD .hole).toSl ((dropT 1 ls).headD .hole).toSl := runF_iter (id := pid) (vs := pvs) (hs := phs) (step := step) (start := fun J => start J (ls.headD .hole).toSl ((dropT 1 ls).headD .hole).toSl) step_eq (fun I => start_eq I ls) n
noncomputable def md (a0 : List Int) (a1 : List Int) : Bool := eqB a0 a1
def gd (a0 : List Int) (a1 : List Int) : Prop := True
def acc (ls : List L) : List (List L) × List (List L) := ((ls.headD .hole).toSl, ((dropT 1 ls).headD .hole).toSl)
noncomputable def R : (List (List L) × List (List L)) → Option Bool := RR (p2 gd) (u2 md)
theorem R_eq {a0} {a1} (h : gd a0 a1) : R ((a0.map iRow), (a1.map iRow)) = some (md a0 a1) := RR_eq (a := (a0, a1)) h
noncomputable def con : Con := CN pats res acc R
theorem okF (a0 : List Int) (a1 : List Int) (hg : gd a0 a1) (h0 : a0.length ≤ maxLen) (h1 : a1.length ≤ maxLen) : ∃ n, start (iter step n) (a0.map iRow) (a1.map iRow) = ret ((md a0 a1) : Bool) := by
  unfold start md
  simp only [List.length_map]
  refine eq_list (pt := fun i => Pt.p0 (a0.map iRow) (a1.map iRow) (i : Int)) (fun hl J i h h2 => ?_) (fun J => ?_)
  · simp only [step, List.length_map, lt_dec h, lt_dec h2, zle_dec, cond_true, toNat_nat, iAt_row h, iAt_row h2]
    rw [wrap_succ h h0]
    simp only [bne, int_beq, bool_beq, ba_beq]
    cases eqB a0[i] a1[i] <;> rfl
  · simp only [step, List.length_map, nlt_dec, cond_false]
theorem valid_ : Valid Tryz.prog Ev 119 con := VV (run := fun n x => start (iter step n) x.1 x.2) mix tab_ok .nil Tryz.func119 (by kernel_rfl) run_eq (fun ls a hl e hg => okF a.1 a.2 hg (by have h : (ls.headD .hole).toSl.length ≤ maxLen := hl.1.len; have e : a.1.map iRow = (ls.headD .hole).toSl := (congrArg (fun x => x.1) e.symm); rw [← e] at h; simpa using h) (by have h : ((dropT 1 ls).headD .hole).toSl.length ≤ maxLen := hl.2.1.len; have e : a.2.map iRow = ((dropT 1 ls).headD .hole).toSl := (congrArg (fun x => x.2) e.symm); rw [← e] at h; simpa using h))
end laws_eqIntS
/-! laws.eqKeys -/
namespace laws_eqKeys
noncomputable def F (x0 : RKeys) (x1 : RKeys) : Ans := (call (laws_eqIntS.R (x0.fList, x1.fList)) fun v1 => (bif (!v1) then ret (false : Bool) else (bif (x0.fNeed != x1.fNeed) then ret (false : Bool) else ret (true : Bool))))
def pats : List Pat := [.agg [.sl 3, .int .i64], .agg [.sl 3, .int .i64]]
def res : RP := .one (.rd (.bool))
noncomputable abbrev E : Env := ⟨assoc Tab, conG [(119, laws_eqIntS.con)], 16⟩
set_option maxRecDepth 100000
theorem run_eq (n : Nat) (ls : List L) : runF E (fun _ => []) Tryz.f149 res n (initS pats ls) = F (RKeys.dec ls) (RKeys.dec (dropT 2 ls)) := by kernel_rfl
noncomputable def md (a0 : MKeys) (a1 : MKeys) : Bool := eqB a0 a1
def gd (a0 : MKeys) (a1 : MKeys) : Prop := True
def acc (ls : List L) : RKeys × RKeys := ((RKeys.dec ls), (RKeys.dec (dropT 2 ls)))
noncomputable def R : (RKeys × RKeys) → Option Bool := RR (p2 gd) (u2 md)
theorem R_eq {a0} {a1} (h : gd a0 a1) : R ((MKeys.r a0), (MKeys.r a1)) = some (md a0 a1) := RR_eq (a := (a0, a1)) h
noncomputable def con : Con := CN pats res acc R
theorem okF (a0 : MKeys) (a1 : MKeys) (hg : gd a0 a1) : F (MKeys.r a0) (MKeys.r a1) = ret ((md a0 a1) : Bool) := by
  unfold md
  show (call (laws_eqIntS.R ((a0.fList.map iRow), (a1.fList.map iRow))) fun v1 => (bif (!v1) then ret (false : Bool) else (bif (a0.fNeed != a1.fNeed) then ret (false : Bool) else ret (true : Bool)))) = _
  simp only [call_eq (laws_eqIntS.R_eq (a0 := a0.fList) (a1 := a1.fList) trivial), laws_eqIntS.md]
  try simp only [bne, int_beq, bool_beq, ba_beq]
  have e : eqB a0 a1 = (eqB a0.fList a1.fList && (eqB a0.fNeed a1.fNeed && true)) := by
    cases a0; cases a1
    rw [Bool.eq_iff_iff]
    simp only [eqB_iff, Bool.and_eq_true, MKeys.mk.injEq, and_true]
  rw [e]
  refine and_step fun _ => ?_
  refine and_step fun _ => ?_
  rfl
theorem valid_ : Valid Tryz.prog Ev 149 con := VV (run := fun _ x => F x.1 x.2) mix tab_ok (.cons laws_eqIntS.valid_ .nil) Tryz.func149 (by kernel_rfl) run_eq (fun _ a _ _ hg => ⟨0, okF a.1 a.2 hg⟩)
end laws_eqKeys
/-! laws.eqHead -/
namespace laws_eqHead
noncomputable def F (x0 : RHead) (x1 : RHead) : Ans := (bif (x0.fZone != x1.fZone) then ret (false : Bool) else (bif (x0.fEpoch != x1.fEpoch) then ret (false : Bool) else (bif (x0.fKind != x1.fKind) then ret (false : Bool) else (bif (x0.fTime != x1.fTime) then ret (false : Bool) else (bif (x0.fUntil != x1.fUntil) then ret (false : Bool) else (bif (x0.fCount != x1.fCount) then ret (false : Bool) else (bif (x0.fRoot != x1.fRoot) then ret (false : Bool) else (bif (x0.fPrev != x1.fPrev) then ret (false : Bool) else (call (laws_eqKeys.R (x0.fKeys, x1.fKeys)) fun v1 => (bif (!v1) then ret (false : Bool) else (call (laws_eqKeys.R (x0.fHeirs, x1.fHeirs)) fun v2 => (bif (!v2) then ret (false : Bool) else (bif (x0.fWait != x1.fWait) then ret (false : Bool) else (call (laws_eqKeys.R (x0.fJudge, x1.fJudge)) fun v3 => (bif (!v3) then ret (false : Bool) else (bif (!(x0.fFrozen == x1.fFrozen)) then ret (false : Bool) else ret (true : Bool)))))))))))))))))
def pats : List Pat := [.agg [.int .i64, .int .i64, .int .i64, .int .i64, .int .i64, .int .i64, .int .i64, .int .i64, .sl 3, .int .i64, .sl 3, .int .i64, .int .i64, .sl 3, .int .i64, .bool], .agg [.int .i64, .int .i64, .int .i64, .int .i64, .int .i64, .int .i64, .int .i64, .int .i64, .sl 3, .int .i64, .sl 3, .int .i64, .int .i64, .sl 3, .int .i64, .bool]]
def res : RP := .one (.rd (.bool))
noncomputable abbrev E : Env := ⟨assoc Tab, conG [(149, laws_eqKeys.con)], 73⟩
set_option maxRecDepth 100000
theorem run_eq (n : Nat) (ls : List L) : runF E (fun _ => []) Tryz.f102 res n (initS pats ls) = F (RHead.dec ls) (RHead.dec (dropT 16 ls)) := by kernel_rfl
noncomputable def md (a0 : MHead) (a1 : MHead) : Bool := eqB a0 a1
def gd (a0 : MHead) (a1 : MHead) : Prop := True
def acc (ls : List L) : RHead × RHead := ((RHead.dec ls), (RHead.dec (dropT 16 ls)))
noncomputable def R : (RHead × RHead) → Option Bool := RR (p2 gd) (u2 md)
theorem R_eq {a0} {a1} (h : gd a0 a1) : R ((MHead.r a0), (MHead.r a1)) = some (md a0 a1) := RR_eq (a := (a0, a1)) h
noncomputable def con : Con := CN pats res acc R
theorem okF (a0 : MHead) (a1 : MHead) (hg : gd a0 a1) : F (MHead.r a0) (MHead.r a1) = ret ((md a0 a1) : Bool) := by
  unfold md
  show (bif (a0.fZone != a1.fZone) then ret (false : Bool) else (bif (a0.fEpoch != a1.fEpoch) then ret (false : Bool) else (bif (a0.fKind != a1.fKind) then ret (false : Bool) else (bif (a0.fTime != a1.fTime) then ret (false : Bool) else (bif (a0.fUntil != a1.fUntil) then ret (false : Bool) else (bif (a0.fCount != a1.fCount) then ret (false : Bool) else (bif (a0.fRoot != a1.fRoot) then ret (false : Bool) else (bif (a0.fPrev != a1.fPrev) then ret (false : Bool) else (call (laws_eqKeys.R ((MKeys.r a0.fKeys), (MKeys.r a1.fKeys))) fun v1 => (bif (!v1) then ret (false : Bool) else (call (laws_eqKeys.R ((MKeys.r a0.fHeirs), (MKeys.r a1.fHeirs))) fun v2 => (bif (!v2) then ret (false : Bool) else (bif (a0.fWait != a1.fWait) then ret (false : Bool) else (call (laws_eqKeys.R ((MKeys.r a0.fJudge), (MKeys.r a1.fJudge))) fun v3 => (bif (!v3) then ret (false : Bool) else (bif (!(a0.fFrozen == a1.fFrozen)) then ret (false : Bool) else ret (true : Bool))))))))))))))))) = _
  simp only [call_eq (laws_eqKeys.R_eq (a0 := a0.fKeys) (a1 := a1.fKeys) trivial), laws_eqKeys.md]
  simp only [call_eq (laws_eqKeys.R_eq (a0 := a0.fHeirs) (a1 := a1.fHeirs) trivial), laws_eqKeys.md]
  simp only [call_eq (laws_eqKeys.R_eq (a0 := a0.fJudge) (a1 := a1.fJudge) trivial), laws_eqKeys.md]
  try simp only [bne, int_beq, bool_beq, ba_beq]
  have e : eqB a0 a1 = (eqB a0.fZone a1.fZone && (eqB a0.fEpoch a1.fEpoch && (eqB a0.fKind a1.fKind && (eqB a0.fTime a1.fTime && (eqB a0.fUntil a1.fUntil && (eqB a0.fCount a1.fCount && (eqB a0.fRoot a1.fRoot && (eqB a0.fPrev a1.fPrev && (eqB a0.fKeys a1.fKeys && (eqB a0.fHeirs a1.fHeirs && (eqB a0.fWait a1.fWait && (eqB a0.fJudge a1.fJudge && (eqB a0.fFrozen a1.fFrozen && true))))))))))))) := by
    cases a0; cases a1
    rw [Bool.eq_iff_iff]
    simp only [eqB_iff, Bool.and_eq_true, MHead.mk.injEq, and_true]
  rw [e]
  refine and_step fun _ => ?_
  refine and_step fun _ => ?_
  refine and_step fun _ => ?_
  refine and_step fun _ => ?_
  refine and_step fun _ => ?_
  refine and_step fun _ => ?_
  refine and_step fun _ => ?_
  refine and_step fun _ => ?_
  refine and_step fun _ => ?_
  refine and_step fun _ => ?_
  refine and_step fun _ => ?_
  refine and_step fun _ => ?_
  refine and_step fun _ => ?_
  rfl
theorem valid_ : Valid Tryz.prog Ev 102 con := VV (run := fun _ x => F x.1 x.2) mix tab_ok (.cons laws_eqKeys.valid_ .nil) Tryz.func102 (by kernel_rfl) run_eq (fun _ a _ _ hg => ⟨0, okF a.1 a.2 hg⟩)
end laws_eqHead
/-! laws.eqSig -/
namespace laws_eqSig
noncomputable def F (x0 : MSig) (x1 : MSig) : Ans := (bif (x0.fKey != x1.fKey) then ret (false : Bool) else (bif (x0.fTag != x1.fTag) then ret (false : Bool) else ret (true : Bool)))
def pats : List Pat := [.agg [.int .i64, .int .i64], .agg [.int .i64, .int .i64]]
def res : RP := .one (.rd (.bool))
noncomputable abbrev E : Env := ⟨assoc Tab, conG [], 15⟩
set_option maxRecDepth 100000
theorem run_eq (n : Nat) (ls : List L) : runF E (fun _ => []) Tryz.f150 res n (initS pats ls) = F (MSig.dec ls) (MSig.dec (dropT 2 ls)) := by kernel_rfl
noncomputable def md (a0 : MSig) (a1 : MSig) : Bool := eqB a0 a1
def gd (a0 : MSig) (a1 : MSig) : Prop := True
def acc (ls : List L) : MSig × MSig := ((MSig.dec ls), (MSig.dec (dropT 2 ls)))
noncomputable def R : (MSig × MSig) → Option Bool := RR (p2 gd) (u2 md)
theorem R_eq {a0} {a1} (h : gd a0 a1) : R (a0, a1) = some (md a0 a1) := RR_eq (a := (a0, a1)) h
noncomputable def con : Con := CN pats res acc R
theorem okF (a0 : MSig) (a1 : MSig) (hg : gd a0 a1) : F a0 a1 = ret ((md a0 a1) : Bool) := by
  unfold md
  show (bif (a0.fKey != a1.fKey) then ret (false : Bool) else (bif (a0.fTag != a1.fTag) then ret (false : Bool) else ret (true : Bool))) = _
  try simp only [bne, int_beq, bool_beq, ba_beq]
  have e : eqB a0 a1 = (eqB a0.fKey a1.fKey && (eqB a0.fTag a1.fTag && true)) := by
    cases a0; cases a1
    rw [Bool.eq_iff_iff]
    simp only [eqB_iff, Bool.and_eq_true, MSig.mk.injEq, and_true]
  rw [e]
  refine and_step fun _ => ?_
  refine and_step fun _ => ?_
  rfl
theorem valid_ : Valid Tryz.prog Ev 150 con := VV (run := fun _ x => F x.1 x.2) mix tab_ok .nil Tryz.func150 (by kernel_rfl) run_eq (fun _ a _ _ hg => ⟨0, okF a.1 a.2 hg⟩)
end laws_eqSig
/-! laws.eqSigS -/
namespace laws_eqSigS
inductive Pt where
  | p0 (a : List (List L)) (b : List (List L)) (c : Int)
def pid : Pt → Nat
  | .p0 .. => 4
def pvs : Pt → List V
  | .p0 a b c => [.sl none 179 a, .sl none 179 b, .int .i64 c]
def phs : Pt → List Root
  | .p0 a b c => []
noncomputable def step (J : Pt → Ans) : Pt → Ans
  | .p0 a b c => (bif (decide (c < (a.length : Int))) then (bif (decide ((0 : Int) ≤ c)) then (bif (decide (c < (a.length : Int))) then (bif (decide ((0 : Int) ≤ c)) then (bif (decide (c < (b.length : Int))) then (call (laws_eqSig.R ((MSig.at a (Int.toNat c)), (MSig.at b (Int.toNat c)))) fun v1 => (bif (!v1) then ret (false : Bool) else J (.p0 a b (IntKind.i64.wrap (c + 1))))) else none) else none) else none) else none) else ret (true : Bool))
noncomputable def start (J : Pt → Ans) (x0 : List (List L)) (x1 : List (List L)) : Ans := (bif ((x0.length : Int) != (x1.length : Int)) then ret (false : Bool) else J (.p0 x0 x1 0))
def live : Nat → Live := fun i => match i with | 4 => [(0, none), (1, none), (5, none)] | _ => []
def pats : List Pat := [.rd (.sl 179), .rd (.sl 179)]
def res : RP := .one (.rd (.bool))
noncomputable abbrev E : Env := ⟨assoc Tab, conG [(150, laws_eqSig.con)], 27⟩
set_option maxRecDepth 100000
theorem step_eq (I : Heads) (p : Pt) : enterC E live I (pid p) (bodyOf Tryz.f103) (stOf (live (pid p)) (pvs p) (phs p)) (doneK E Tryz.f103 res) = step (fun q => I (pid q) (pvs q) (phs q)) p := by
  cases p <;> kernel_rfl
theorem start_eq (I : Heads) (ls : List L) : runC E live I (bodyOf Tryz.f103) (initS pats ls) (doneK E Tryz.f103 res) = start (fun q => I (pid q) (pvs q) (phs q)) (ls.headD .hole).toSl ((dropT 1 ls).headD .hole).toSl := by kernel_rfl
theorem run_eq (n : Nat) (ls : List L) : runF E live Tryz.f103 res n (initS pats ls) = start (iter step n) (ls.headD .hole).toSl ((dropT 1 ls).headD .hole).toSl := runF_iter (id := pid) (vs := pvs) (hs := phs) (step := step) (start := fun J => start J (ls.headD .hole).toSl ((dropT 1 ls).headD .hole).toSl) step_eq (fun I => start_eq I ls) n
noncomputable def md (a0 : List MSig) (a1 : List MSig) : Bool := eqB a0 a1
def gd (a0 : List MSig) (a1 : List MSig) : Prop := True
def acc (ls : List L) : List (List L) × List (List L) := ((ls.headD .hole).toSl, ((dropT 1 ls).headD .hole).toSl)
noncomputable def R : (List (List L) × List (List L)) → Option Bool := RR (p2 gd) (u2 md)
theorem R_eq {a0} {a1} (h : gd a0 a1) : R ((a0.map MSig.row), (a1.map MSig.row)) = some (md a0 a1) := RR_eq (a := (a0, a1)) h
noncomputable def con : Con := CN pats res acc R
theorem okF (a0 : List MSig) (a1 : List MSig) (hg : gd a0 a1) (h0 : a0.length ≤ maxLen) (h1 : a1.length ≤ maxLen) : ∃ n, start (iter step n) (a0.map MSig.row) (a1.map MSig.row) = ret ((md a0 a1) : Bool) := by
  unfold start md
  simp only [List.length_map]
  refine eq_list (pt := fun i => Pt.p0 (a0.map MSig.row) (a1.map MSig.row) (i : Int)) (fun hl J i h h2 => ?_) (fun J => ?_)
  · simp only [step, List.length_map, lt_dec h, lt_dec h2, zle_dec, cond_true, toNat_nat, MSig.at_row h, MSig.at_row h2]
    rw [wrap_succ h h0]
    rw [call_eq (laws_eqSig.R_eq (a0 := a0[i]) (a1 := a1[i]) trivial), laws_eqSig.md]
    cases eqB a0[i] a1[i] <;> rfl
  · simp only [step, List.length_map, nlt_dec, cond_false]
theorem valid_ : Valid Tryz.prog Ev 103 con := VV (run := fun n x => start (iter step n) x.1 x.2) mix tab_ok (.cons laws_eqSig.valid_ .nil) Tryz.func103 (by kernel_rfl) run_eq (fun ls a hl e hg => okF a.1 a.2 hg (by have h : (ls.headD .hole).toSl.length ≤ maxLen := hl.1.len; have e : a.1.map MSig.row = (ls.headD .hole).toSl := (congrArg (fun x => x.1) e.symm); rw [← e] at h; simpa using h) (by have h : ((dropT 1 ls).headD .hole).toSl.length ≤ maxLen := hl.2.1.len; have e : a.2.map MSig.row = ((dropT 1 ls).headD .hole).toSl := (congrArg (fun x => x.2) e.symm); rw [← e] at h; simpa using h))
end laws_eqSigS
/-! laws.eqSigned -/
namespace laws_eqSigned
noncomputable def F (x0 : RSigned) (x1 : RSigned) : Ans := (call (laws_eqHead.R (x0.fHead, x1.fHead)) fun v1 => (bif (!v1) then ret (false : Bool) else (call (laws_eqSigS.R (x0.fSigs, x1.fSigs)) fun v2 => (bif (!v2) then ret (false : Bool) else ret (true : Bool)))))
def pats : List Pat := [.agg [.int .i64, .int .i64, .int .i64, .int .i64, .int .i64, .int .i64, .int .i64, .int .i64, .sl 3, .int .i64, .sl 3, .int .i64, .int .i64, .sl 3, .int .i64, .bool, .sl 179], .agg [.int .i64, .int .i64, .int .i64, .int .i64, .int .i64, .int .i64, .int .i64, .int .i64, .sl 3, .int .i64, .sl 3, .int .i64, .int .i64, .sl 3, .int .i64, .bool, .sl 179]]
def res : RP := .one (.rd (.bool))
noncomputable abbrev E : Env := ⟨assoc Tab, conG [(102, laws_eqHead.con), (103, laws_eqSigS.con)], 17⟩
set_option maxRecDepth 100000
theorem run_eq (n : Nat) (ls : List L) : runF E (fun _ => []) Tryz.f57 res n (initS pats ls) = F (RSigned.dec ls) (RSigned.dec (dropT 17 ls)) := by kernel_rfl
noncomputable def md (a0 : MSigned) (a1 : MSigned) : Bool := eqB a0 a1
def gd (a0 : MSigned) (a1 : MSigned) : Prop := True
def acc (ls : List L) : RSigned × RSigned := ((RSigned.dec ls), (RSigned.dec (dropT 17 ls)))
noncomputable def R : (RSigned × RSigned) → Option Bool := RR (p2 gd) (u2 md)
theorem R_eq {a0} {a1} (h : gd a0 a1) : R ((MSigned.r a0), (MSigned.r a1)) = some (md a0 a1) := RR_eq (a := (a0, a1)) h
noncomputable def con : Con := CN pats res acc R
theorem okF (a0 : MSigned) (a1 : MSigned) (hg : gd a0 a1) : F (MSigned.r a0) (MSigned.r a1) = ret ((md a0 a1) : Bool) := by
  unfold md
  show (call (laws_eqHead.R ((MHead.r a0.fHead), (MHead.r a1.fHead))) fun v1 => (bif (!v1) then ret (false : Bool) else (call (laws_eqSigS.R ((a0.fSigs.map MSig.row), (a1.fSigs.map MSig.row))) fun v2 => (bif (!v2) then ret (false : Bool) else ret (true : Bool))))) = _
  simp only [call_eq (laws_eqHead.R_eq (a0 := a0.fHead) (a1 := a1.fHead) trivial), laws_eqHead.md]
  simp only [call_eq (laws_eqSigS.R_eq (a0 := a0.fSigs) (a1 := a1.fSigs) trivial), laws_eqSigS.md]
  try simp only [bne, int_beq, bool_beq, ba_beq]
  have e : eqB a0 a1 = (eqB a0.fHead a1.fHead && (eqB a0.fSigs a1.fSigs && true)) := by
    cases a0; cases a1
    rw [Bool.eq_iff_iff]
    simp only [eqB_iff, Bool.and_eq_true, MSigned.mk.injEq, and_true]
  rw [e]
  refine and_step fun _ => ?_
  refine and_step fun _ => ?_
  rfl
theorem valid_ : Valid Tryz.prog Ev 57 con := VV (run := fun _ x => F x.1 x.2) mix tab_ok (.cons laws_eqHead.valid_ (.cons laws_eqSigS.valid_ .nil)) Tryz.func57 (by kernel_rfl) run_eq (fun _ a _ _ hg => ⟨0, okF a.1 a.2 hg⟩)
end laws_eqSigned
/-! laws.eqSignedS -/
namespace laws_eqSignedS
inductive Pt where
  | p0 (a : List (List L)) (b : List (List L)) (c : Int)
def pid : Pt → Nat
  | .p0 .. => 4
def pvs : Pt → List V
  | .p0 a b c => [.sl none 92 a, .sl none 92 b, .int .i64 c]
def phs : Pt → List Root
  | .p0 a b c => []
noncomputable def step (J : Pt → Ans) : Pt → Ans
  | .p0 a b c => (bif (decide (c < (a.length : Int))) then (bif (decide ((0 : Int) ≤ c)) then (bif (decide (c < (a.length : Int))) then (bif (decide ((0 : Int) ≤ c)) then (bif (decide (c < (b.length : Int))) then (call (laws_eqSigned.R ((RSigned.at a (Int.toNat c)), (RSigned.at b (Int.toNat c)))) fun v1 => (bif (!v1) then ret (false : Bool) else J (.p0 a b (IntKind.i64.wrap (c + 1))))) else none) else none) else none) else none) else ret (true : Bool))
noncomputable def start (J : Pt → Ans) (x0 : List (List L)) (x1 : List (List L)) : Ans := (bif ((x0.length : Int) != (x1.length : Int)) then ret (false : Bool) else J (.p0 x0 x1 0))
def live : Nat → Live := fun i => match i with | 4 => [(0, none), (1, none), (5, none)] | _ => []
def pats : List Pat := [.rd (.sl 92), .rd (.sl 92)]
def res : RP := .one (.rd (.bool))
noncomputable abbrev E : Env := ⟨assoc Tab, conG [(57, laws_eqSigned.con)], 27⟩
set_option maxRecDepth 100000
theorem step_eq (I : Heads) (p : Pt) : enterC E live I (pid p) (bodyOf Tryz.f19) (stOf (live (pid p)) (pvs p) (phs p)) (doneK E Tryz.f19 res) = step (fun q => I (pid q) (pvs q) (phs q)) p := by
  cases p <;> kernel_rfl
theorem start_eq (I : Heads) (ls : List L) : runC E live I (bodyOf Tryz.f19) (initS pats ls) (doneK E Tryz.f19 res) = start (fun q => I (pid q) (pvs q) (phs q)) (ls.headD .hole).toSl ((dropT 1 ls).headD .hole).toSl := by kernel_rfl
theorem run_eq (n : Nat) (ls : List L) : runF E live Tryz.f19 res n (initS pats ls) = start (iter step n) (ls.headD .hole).toSl ((dropT 1 ls).headD .hole).toSl := runF_iter (id := pid) (vs := pvs) (hs := phs) (step := step) (start := fun J => start J (ls.headD .hole).toSl ((dropT 1 ls).headD .hole).toSl) step_eq (fun I => start_eq I ls) n
noncomputable def md (a0 : List MSigned) (a1 : List MSigned) : Bool := eqB a0 a1
def gd (a0 : List MSigned) (a1 : List MSigned) : Prop := True
def acc (ls : List L) : List (List L) × List (List L) := ((ls.headD .hole).toSl, ((dropT 1 ls).headD .hole).toSl)
noncomputable def R : (List (List L) × List (List L)) → Option Bool := RR (p2 gd) (u2 md)
theorem R_eq {a0} {a1} (h : gd a0 a1) : R ((a0.map MSigned.row), (a1.map MSigned.row)) = some (md a0 a1) := RR_eq (a := (a0, a1)) h
noncomputable def con : Con := CN pats res acc R
theorem okF (a0 : List MSigned) (a1 : List MSigned) (hg : gd a0 a1) (h0 : a0.length ≤ maxLen) (h1 : a1.length ≤ maxLen) : ∃ n, start (iter step n) (a0.map MSigned.row) (a1.map MSigned.row) = ret ((md a0 a1) : Bool) := by
  unfold start md
  simp only [List.length_map]
  refine eq_list (pt := fun i => Pt.p0 (a0.map MSigned.row) (a1.map MSigned.row) (i : Int)) (fun hl J i h h2 => ?_) (fun J => ?_)
  · simp only [step, List.length_map, lt_dec h, lt_dec h2, zle_dec, cond_true, toNat_nat, MSigned.at_row h, MSigned.at_row h2]
    rw [wrap_succ h h0]
    rw [call_eq (laws_eqSigned.R_eq (a0 := a0[i]) (a1 := a1[i]) trivial), laws_eqSigned.md]
    cases eqB a0[i] a1[i] <;> rfl
  · simp only [step, List.length_map, nlt_dec, cond_false]
theorem valid_ : Valid Tryz.prog Ev 19 con := VV (run := fun n x => start (iter step n) x.1 x.2) mix tab_ok (.cons laws_eqSigned.valid_ .nil) Tryz.func19 (by kernel_rfl) run_eq (fun ls a hl e hg => okF a.1 a.2 hg (by have h : (ls.headD .hole).toSl.length ≤ maxLen := hl.1.len; have e : a.1.map MSigned.row = (ls.headD .hole).toSl := (congrArg (fun x => x.1) e.symm); rw [← e] at h; simpa using h) (by have h : ((dropT 1 ls).headD .hole).toSl.length ≤ maxLen := hl.2.1.len; have e : a.2.map MSigned.row = ((dropT 1 ls).headD .hole).toSl := (congrArg (fun x => x.2) e.symm); rw [← e] at h; simpa using h))
end laws_eqSignedS
/-! laws.eqSignedSS -/
namespace laws_eqSignedSS
inductive Pt where
  | p0 (a : List (List L)) (b : List (List L)) (c : Int)
def pid : Pt → Nat
  | .p0 .. => 4
def pvs : Pt → List V
  | .p0 a b c => [.sl none 38 a, .sl none 38 b, .int .i64 c]
def phs : Pt → List Root
  | .p0 a b c => []
noncomputable def step (J : Pt → Ans) : Pt → Ans
  | .p0 a b c => (bif (decide (c < (a.length : Int))) then (bif (decide ((0 : Int) ≤ c)) then (bif (decide (c < (a.length : Int))) then (bif (decide ((0 : Int) ≤ c)) then (bif (decide (c < (b.length : Int))) then (call (laws_eqSignedS.R ((lAt a (Int.toNat c)), (lAt b (Int.toNat c)))) fun v1 => (bif (!v1) then ret (false : Bool) else J (.p0 a b (IntKind.i64.wrap (c + 1))))) else none) else none) else none) else none) else ret (true : Bool))
noncomputable def start (J : Pt → Ans) (x0 : List (List L)) (x1 : List (List L)) : Ans := (bif ((x0.length : Int) != (x1.length : Int)) then ret (false : Bool) else J (.p0 x0 x1 0))
def live : Nat → Live := fun i => match i with | 4 => [(0, none), (1, none), (5, none)] | _ => []
def pats : List Pat := [.rd (.sl 38), .rd (.sl 38)]
def res : RP := .one (.rd (.bool))
noncomputable abbrev E : Env := ⟨assoc Tab, conG [(19, laws_eqSignedS.con)], 27⟩
set_option maxRecDepth 100000
theorem step_eq (I : Heads) (p : Pt) : enterC E live I (pid p) (bodyOf Tryz.f51) (stOf (live (pid p)) (pvs p) (phs p)) (doneK E Tryz.f51 res) = step (fun q => I (pid q) (pvs q) (phs q)) p := by
  cases p <;> kernel_rfl
theorem start_eq (I : Heads) (ls : List L) : runC E live I (bodyOf Tryz.f51) (initS pats ls) (doneK E Tryz.f51 res) = start (fun q => I (pid q) (pvs q) (phs q)) (ls.headD .hole).toSl ((dropT 1 ls).headD .hole).toSl := by kernel_rfl
theorem run_eq (n : Nat) (ls : List L) : runF E live Tryz.f51 res n (initS pats ls) = start (iter step n) (ls.headD .hole).toSl ((dropT 1 ls).headD .hole).toSl := runF_iter (id := pid) (vs := pvs) (hs := phs) (step := step) (start := fun J => start J (ls.headD .hole).toSl ((dropT 1 ls).headD .hole).toSl) step_eq (fun I => start_eq I ls) n
noncomputable def md (a0 : List (List MSigned)) (a1 : List (List MSigned)) : Bool := eqB a0 a1
def gd (a0 : List (List MSigned)) (a1 : List (List MSigned)) : Prop := True
def acc (ls : List L) : List (List L) × List (List L) := ((ls.headD .hole).toSl, ((dropT 1 ls).headD .hole).toSl)
noncomputable def R : (List (List L) × List (List L)) → Option Bool := RR (p2 gd) (u2 md)
theorem R_eq {a0} {a1} (h : gd a0 a1) : R ((a0.map (lRow MSigned.row)), (a1.map (lRow MSigned.row))) = some (md a0 a1) := RR_eq (a := (a0, a1)) h
noncomputable def con : Con := CN pats res acc R
theorem okF (a0 : List (List MSigned)) (a1 : List (List MSigned)) (hg : gd a0 a1) (h0 : a0.length ≤ maxLen) (h1 : a1.length ≤ maxLen) : ∃ n, start (iter step n) (a0.map (lRow MSigned.row)) (a1.map (lRow MSigned.row)) = ret ((md a0 a1) : Bool) := by
  unfold start md
  simp only [List.length_map]
  refine eq_list (pt := fun i => Pt.p0 (a0.map (lRow MSigned.row)) (a1.map (lRow MSigned.row)) (i : Int)) (fun hl J i h h2 => ?_) (fun J => ?_)
  · simp only [step, List.length_map, lt_dec h, lt_dec h2, zle_dec, cond_true, toNat_nat, lAt_row h, lAt_row h2]
    rw [wrap_succ h h0]
    rw [call_eq (laws_eqSignedS.R_eq (a0 := a0[i]) (a1 := a1[i]) trivial), laws_eqSignedS.md]
    cases eqB a0[i] a1[i] <;> rfl
  · simp only [step, List.length_map, nlt_dec, cond_false]
theorem valid_ : Valid Tryz.prog Ev 51 con := VV (run := fun n x => start (iter step n) x.1 x.2) mix tab_ok (.cons laws_eqSignedS.valid_ .nil) Tryz.func51 (by kernel_rfl) run_eq (fun ls a hl e hg => okF a.1 a.2 hg (by have h : (ls.headD .hole).toSl.length ≤ maxLen := hl.1.len; have e : a.1.map (lRow MSigned.row) = (ls.headD .hole).toSl := (congrArg (fun x => x.1) e.symm); rw [← e] at h; simpa using h) (by have h : ((dropT 1 ls).headD .hole).toSl.length ≤ maxLen := hl.2.1.len; have e : a.2.map (lRow MSigned.row) = ((dropT 1 ls).headD .hole).toSl := (congrArg (fun x => x.2) e.symm); rw [← e] at h; simpa using h))
end laws_eqSignedSS
/-! laws.eqFork -/
namespace laws_eqFork
noncomputable def F (x0 : RFork) (x1 : RFork) : Ans := (call (laws_eqSigned.R (x0.fBefore, x1.fBefore)) fun v1 => (bif (!v1) then ret (false : Bool) else (call (laws_eqSigned.R (x0.fA, x1.fA)) fun v2 => (bif (!v2) then ret (false : Bool) else (call (laws_eqSigned.R (x0.fB, x1.fB)) fun v3 => (bif (!v3) then ret (false : Bool) else ret (true : Bool)))))))
def pats : List Pat := [.agg [.int .i64, .int .i64, .int .i64, .int .i64, .int .i64, .int .i64, .int .i64, .int .i64, .sl 3, .int .i64, .sl 3, .int .i64, .int .i64, .sl 3, .int .i64, .bool, .sl 179, .int .i64, .int .i64, .int .i64, .int .i64, .int .i64, .int .i64, .int .i64, .int .i64, .sl 3, .int .i64, .sl 3, .int .i64, .int .i64, .sl 3, .int .i64, .bool, .sl 179, .int .i64, .int .i64, .int .i64, .int .i64, .int .i64, .int .i64, .int .i64, .int .i64, .sl 3, .int .i64, .sl 3, .int .i64, .int .i64, .sl 3, .int .i64, .bool, .sl 179], .agg [.int .i64, .int .i64, .int .i64, .int .i64, .int .i64, .int .i64, .int .i64, .int .i64, .sl 3, .int .i64, .sl 3, .int .i64, .int .i64, .sl 3, .int .i64, .bool, .sl 179, .int .i64, .int .i64, .int .i64, .int .i64, .int .i64, .int .i64, .int .i64, .int .i64, .sl 3, .int .i64, .sl 3, .int .i64, .int .i64, .sl 3, .int .i64, .bool, .sl 179, .int .i64, .int .i64, .int .i64, .int .i64, .int .i64, .int .i64, .int .i64, .int .i64, .sl 3, .int .i64, .sl 3, .int .i64, .int .i64, .sl 3, .int .i64, .bool, .sl 179]]
def res : RP := .one (.rd (.bool))
noncomputable abbrev E : Env := ⟨assoc Tab, conG [(57, laws_eqSigned.con)], 23⟩
set_option maxRecDepth 100000
theorem run_eq (n : Nat) (ls : List L) : runF E (fun _ => []) Tryz.f97 res n (initS pats ls) = F (RFork.dec ls) (RFork.dec (dropT 51 ls)) := by kernel_rfl
noncomputable def md (a0 : MFork) (a1 : MFork) : Bool := eqB a0 a1
def gd (a0 : MFork) (a1 : MFork) : Prop := True
def acc (ls : List L) : RFork × RFork := ((RFork.dec ls), (RFork.dec (dropT 51 ls)))
noncomputable def R : (RFork × RFork) → Option Bool := RR (p2 gd) (u2 md)
theorem R_eq {a0} {a1} (h : gd a0 a1) : R ((MFork.r a0), (MFork.r a1)) = some (md a0 a1) := RR_eq (a := (a0, a1)) h
noncomputable def con : Con := CN pats res acc R
theorem okF (a0 : MFork) (a1 : MFork) (hg : gd a0 a1) : F (MFork.r a0) (MFork.r a1) = ret ((md a0 a1) : Bool) := by
  unfold md
  show (call (laws_eqSigned.R ((MSigned.r a0.fBefore), (MSigned.r a1.fBefore))) fun v1 => (bif (!v1) then ret (false : Bool) else (call (laws_eqSigned.R ((MSigned.r a0.fA), (MSigned.r a1.fA))) fun v2 => (bif (!v2) then ret (false : Bool) else (call (laws_eqSigned.R ((MSigned.r a0.fB), (MSigned.r a1.fB))) fun v3 => (bif (!v3) then ret (false : Bool) else ret (true : Bool))))))) = _
  simp only [call_eq (laws_eqSigned.R_eq (a0 := a0.fBefore) (a1 := a1.fBefore) trivial), laws_eqSigned.md]
  simp only [call_eq (laws_eqSigned.R_eq (a0 := a0.fA) (a1 := a1.fA) trivial), laws_eqSigned.md]
  simp only [call_eq (laws_eqSigned.R_eq (a0 := a0.fB) (a1 := a1.fB) trivial), laws_eqSigned.md]
  try simp only [bne, int_beq, bool_beq, ba_beq]
  have e : eqB a0 a1 = (eqB a0.fBefore a1.fBefore && (eqB a0.fA a1.fA && (eqB a0.fB a1.fB && true))) := by
    cases a0; cases a1
    rw [Bool.eq_iff_iff]
    simp only [eqB_iff, Bool.and_eq_true, MFork.mk.injEq, and_true]
  rw [e]
  refine and_step fun _ => ?_
  refine and_step fun _ => ?_
  refine and_step fun _ => ?_
  rfl
theorem valid_ : Valid Tryz.prog Ev 97 con := VV (run := fun _ x => F x.1 x.2) mix tab_ok (.cons laws_eqSigned.valid_ .nil) Tryz.func97 (by kernel_rfl) run_eq (fun _ a _ _ hg => ⟨0, okF a.1 a.2 hg⟩)
end laws_eqFork
/-! laws.eqForkS -/
namespace laws_eqForkS
inductive Pt where
  | p0 (a : List (List L)) (b : List (List L)) (c : Int)
def pid : Pt → Nat
  | .p0 .. => 4
def pvs : Pt → List V
  | .p0 a b c => [.sl none 95 a, .sl none 95 b, .int .i64 c]
def phs : Pt → List Root
  | .p0 a b c => []
noncomputable def step (J : Pt → Ans) : Pt → Ans
  | .p0 a b c => (bif (decide (c < (a.length : Int))) then (bif (decide ((0 : Int) ≤ c)) then (bif (decide (c < (a.length : Int))) then (bif (decide ((0 : Int) ≤ c)) then (bif (decide (c < (b.length : Int))) then (call (laws_eqFork.R ((RFork.at a (Int.toNat c)), (RFork.at b (Int.toNat c)))) fun v1 => (bif (!v1) then ret (false : Bool) else J (.p0 a b (IntKind.i64.wrap (c + 1))))) else none) else none) else none) else none) else ret (true : Bool))
noncomputable def start (J : Pt → Ans) (x0 : List (List L)) (x1 : List (List L)) : Ans := (bif ((x0.length : Int) != (x1.length : Int)) then ret (false : Bool) else J (.p0 x0 x1 0))
def live : Nat → Live := fun i => match i with | 4 => [(0, none), (1, none), (5, none)] | _ => []
def pats : List Pat := [.rd (.sl 95), .rd (.sl 95)]
def res : RP := .one (.rd (.bool))
noncomputable abbrev E : Env := ⟨assoc Tab, conG [(97, laws_eqFork.con)], 27⟩
set_option maxRecDepth 100000
theorem step_eq (I : Heads) (p : Pt) : enterC E live I (pid p) (bodyOf Tryz.f52) (stOf (live (pid p)) (pvs p) (phs p)) (doneK E Tryz.f52 res) = step (fun q => I (pid q) (pvs q) (phs q)) p := by
  cases p <;> kernel_rfl
theorem start_eq (I : Heads) (ls : List L) : runC E live I (bodyOf Tryz.f52) (initS pats ls) (doneK E Tryz.f52 res) = start (fun q => I (pid q) (pvs q) (phs q)) (ls.headD .hole).toSl ((dropT 1 ls).headD .hole).toSl := by kernel_rfl
theorem run_eq (n : Nat) (ls : List L) : runF E live Tryz.f52 res n (initS pats ls) = start (iter step n) (ls.headD .hole).toSl ((dropT 1 ls).headD .hole).toSl := runF_iter (id := pid) (vs := pvs) (hs := phs) (step := step) (start := fun J => start J (ls.headD .hole).toSl ((dropT 1 ls).headD .hole).toSl) step_eq (fun I => start_eq I ls) n
noncomputable def md (a0 : List MFork) (a1 : List MFork) : Bool := eqB a0 a1
def gd (a0 : List MFork) (a1 : List MFork) : Prop := True
def acc (ls : List L) : List (List L) × List (List L) := ((ls.headD .hole).toSl, ((dropT 1 ls).headD .hole).toSl)
noncomputable def R : (List (List L) × List (List L)) → Option Bool := RR (p2 gd) (u2 md)
theorem R_eq {a0} {a1} (h : gd a0 a1) : R ((a0.map MFork.row), (a1.map MFork.row)) = some (md a0 a1) := RR_eq (a := (a0, a1)) h
noncomputable def con : Con := CN pats res acc R
theorem okF (a0 : List MFork) (a1 : List MFork) (hg : gd a0 a1) (h0 : a0.length ≤ maxLen) (h1 : a1.length ≤ maxLen) : ∃ n, start (iter step n) (a0.map MFork.row) (a1.map MFork.row) = ret ((md a0 a1) : Bool) := by
  unfold start md
  simp only [List.length_map]
  refine eq_list (pt := fun i => Pt.p0 (a0.map MFork.row) (a1.map MFork.row) (i : Int)) (fun hl J i h h2 => ?_) (fun J => ?_)
  · simp only [step, List.length_map, lt_dec h, lt_dec h2, zle_dec, cond_true, toNat_nat, MFork.at_row h, MFork.at_row h2]
    rw [wrap_succ h h0]
    rw [call_eq (laws_eqFork.R_eq (a0 := a0[i]) (a1 := a1[i]) trivial), laws_eqFork.md]
    cases eqB a0[i] a1[i] <;> rfl
  · simp only [step, List.length_map, nlt_dec, cond_false]
theorem valid_ : Valid Tryz.prog Ev 52 con := VV (run := fun n x => start (iter step n) x.1 x.2) mix tab_ok (.cons laws_eqFork.valid_ .nil) Tryz.func52 (by kernel_rfl) run_eq (fun ls a hl e hg => okF a.1 a.2 hg (by have h : (ls.headD .hole).toSl.length ≤ maxLen := hl.1.len; have e : a.1.map MFork.row = (ls.headD .hole).toSl := (congrArg (fun x => x.1) e.symm); rw [← e] at h; simpa using h) (by have h : ((dropT 1 ls).headD .hole).toSl.length ≤ maxLen := hl.2.1.len; have e : a.2.map MFork.row = ((dropT 1 ls).headD .hole).toSl := (congrArg (fun x => x.2) e.symm); rw [← e] at h; simpa using h))
end laws_eqForkS
/-! laws.eqKnown -/
namespace laws_eqKnown
noncomputable def F (x0 : RKnown) (x1 : RKnown) : Ans := (call (laws_eqSignedSS.R (x0.fChains, x1.fChains)) fun v1 => (bif (!v1) then ret (false : Bool) else (call (laws_eqForkS.R (x0.fForks, x1.fForks)) fun v2 => (bif (!v2) then ret (false : Bool) else ret (true : Bool)))))
def pats : List Pat := [.agg [.sl 38, .sl 95], .agg [.sl 38, .sl 95]]
def res : RP := .one (.rd (.bool))
noncomputable abbrev E : Env := ⟨assoc Tab, conG [(51, laws_eqSignedSS.con), (52, laws_eqForkS.con)], 17⟩
set_option maxRecDepth 100000
theorem run_eq (n : Nat) (ls : List L) : runF E (fun _ => []) Tryz.f14 res n (initS pats ls) = F (RKnown.dec ls) (RKnown.dec (dropT 2 ls)) := by kernel_rfl
noncomputable def md (a0 : MKnown) (a1 : MKnown) : Bool := eqB a0 a1
def gd (a0 : MKnown) (a1 : MKnown) : Prop := True
def acc (ls : List L) : RKnown × RKnown := ((RKnown.dec ls), (RKnown.dec (dropT 2 ls)))
noncomputable def R : (RKnown × RKnown) → Option Bool := RR (p2 gd) (u2 md)
theorem R_eq {a0} {a1} (h : gd a0 a1) : R ((MKnown.r a0), (MKnown.r a1)) = some (md a0 a1) := RR_eq (a := (a0, a1)) h
noncomputable def con : Con := CN pats res acc R
theorem okF (a0 : MKnown) (a1 : MKnown) (hg : gd a0 a1) : F (MKnown.r a0) (MKnown.r a1) = ret ((md a0 a1) : Bool) := by
  unfold md
  show (call (laws_eqSignedSS.R ((a0.fChains.map (lRow MSigned.row)), (a1.fChains.map (lRow MSigned.row)))) fun v1 => (bif (!v1) then ret (false : Bool) else (call (laws_eqForkS.R ((a0.fForks.map MFork.row), (a1.fForks.map MFork.row))) fun v2 => (bif (!v2) then ret (false : Bool) else ret (true : Bool))))) = _
  simp only [call_eq (laws_eqSignedSS.R_eq (a0 := a0.fChains) (a1 := a1.fChains) trivial), laws_eqSignedSS.md]
  simp only [call_eq (laws_eqForkS.R_eq (a0 := a0.fForks) (a1 := a1.fForks) trivial), laws_eqForkS.md]
  try simp only [bne, int_beq, bool_beq, ba_beq]
  have e : eqB a0 a1 = (eqB a0.fChains a1.fChains && (eqB a0.fForks a1.fForks && true)) := by
    cases a0; cases a1
    rw [Bool.eq_iff_iff]
    simp only [eqB_iff, Bool.and_eq_true, MKnown.mk.injEq, and_true]
  rw [e]
  refine and_step fun _ => ?_
  refine and_step fun _ => ?_
  rfl
theorem valid_ : Valid Tryz.prog Ev 14 con := VV (run := fun _ x => F x.1 x.2) mix tab_ok (.cons laws_eqSignedSS.valid_ (.cons laws_eqForkS.valid_ .nil)) Tryz.func14 (by kernel_rfl) run_eq (fun _ a _ _ hg => ⟨0, okF a.1 a.2 hg⟩)
end laws_eqKnown
/-! laws.FnExactIsKnown -/
namespace laws_FnExactIsKnown
noncomputable def F (x0 : RKnown) : Ans := (call (laws_szKnown.R (x0, 1048576)) fun v1 => (bif (decide (v1 < 0)) then ret (true : Bool) else (call (laws_toKnown.R x0) fun v2 => (call (spec_IsKnown.R v2) fun v3 => (call (laws_toKnown.R x0) fun v4 => (call (impl_IsKnown.R v4) fun v5 => (bif (!(v5 == v3)) then ret (false : Bool) else (call (laws_toKnown.R x0) fun v6 => (call (laws_eqKnown.R (v4, v6)) fun v7 => (bif (!v7) then ret (false : Bool) else ret (true : Bool)))))))))))
def pats : List Pat := [.agg [.sl 35, .sl 137]]
def res : RP := .one (.rd (.bool))
noncomputable abbrev E : Env := ⟨assoc Tab, conG [(10, laws_szKnown.con), (12, laws_toKnown.con), (11, spec_IsKnown.con), (13, impl_IsKnown.con), (14, laws_eqKnown.con)], 27⟩
set_option maxRecDepth 100000
theorem run_eq (n : Nat) (ls : List L) : runF E (fun _ => []) Tryz.f3 res n (initS pats ls) = F (RKnown.dec ls) := by kernel_rfl
noncomputable def md (a0 : MKnown) : Bool := true
def gd (a0 : MKnown) : Prop := (MKnown.Sm maxLen a0)
def acc (ls : List L) : RKnown := (RKnown.dec ls)
noncomputable def R : RKnown → Option Bool := RR gd md
theorem R_eq {a0} (h : gd a0) : R (MKnown.r a0) = some (md a0) := RR_eq (a := a0) h
noncomputable def con : Con := CN pats res acc R
theorem okF (a0 : MKnown) (hg : gd a0) : F (MKnown.r a0) = ret ((md a0) : Bool) := by
  unfold md
  show (call (laws_szKnown.R ((MKnown.r a0), 1048576)) fun v1 => (bif (decide (v1 < 0)) then ret (true : Bool) else (call (laws_toKnown.R (MKnown.r a0)) fun v2 => (call (spec_IsKnown.R v2) fun v3 => (call (laws_toKnown.R (MKnown.r a0)) fun v4 => (call (impl_IsKnown.R v4) fun v5 => (bif (!(v5 == v3)) then ret (false : Bool) else (call (laws_toKnown.R (MKnown.r a0)) fun v6 => (call (laws_eqKnown.R (v4, v6)) fun v7 => (bif (!v7) then ret (false : Bool) else ret (true : Bool))))))))))) = _
  rw [call_eq (laws_szKnown.R_eq (a1 := (1048576 : Int)) ⟨hg, by omega, by omega⟩)]
  unfold laws_szKnown.md
  by_cases c0 : (1048576 : Int) < (((MKnown.size a0) : Nat) : Int)
  · rw [szM_neg c0]; rfl
  rw [szM_pos c0, dec_neg (by omega)]
  simp only [cond_false]
  have s0 : MKnown.Sm (2 ^ 20) a0 := (MKnown.Sm_of (by omega))
  rw [call_eq (laws_toKnown.R_eq (a0 := a0) (MKnown.Sm_mono (by decide) s0))]
  simp only [laws_toKnown.md]
  rw [call_eq (spec_IsKnown.R_eq (a0 := a0) (by
    have := And.intro trivial trivial
    unfold spec_IsKnown.gd
    first | exact (MKnown.Sm_mono (by decide) s0) | refine ⟨(MKnown.Sm_mono (by decide) s0)⟩))]
  rw [call_eq (laws_toKnown.R_eq (a0 := a0) (MKnown.Sm_mono (by decide) s0))]
  simp only [laws_toKnown.md]
  rw [call_eq (impl_IsKnown.R_eq (a0 := a0) (by
    have := And.intro trivial trivial
    unfold impl_IsKnown.gd
    first | exact (MKnown.Sm_mono (by decide) s0) | refine ⟨(MKnown.Sm_mono (by decide) s0)⟩))]
  try simp only [impl_IsKnown.br, bne_self_eq_false, beq_self_eq_true, ba_refl, Bool.not_true, cond_false]
  rw [call_eq (laws_toKnown.R_eq (a0 := a0) (MKnown.Sm_mono (by decide) s0))]
  simp only [laws_toKnown.md]
  rw [call_eq (laws_eqKnown.R_eq (a0 := a0) (a1 := a0) trivial)]
  simp only [laws_eqKnown.md, eqB_refl, Bool.not_true, cond_false]
theorem valid_ : Valid Tryz.prog Ev 3 con := VV (run := fun _ x => F x) mix tab_ok (.cons laws_szKnown.valid_ (.cons laws_toKnown.valid_ (.cons spec_IsKnown.valid_ (.cons impl_IsKnown.valid_ (.cons laws_eqKnown.valid_ .nil))))) Tryz.func3 (by kernel_rfl) run_eq (fun _ a _ _ hg => ⟨0, okF a hg⟩)
theorem MKeys_wf103 (r : List L) (h : WfAll Ev.cells [.sl 3, .int .i64] r) : ∃ x : MKeys, MKeys.row x = r ∧ MKeys.Sm maxLen x := by
  obtain ⟨l0, t0, rfl, g0, h1⟩ := h.uncons
  obtain ⟨x0, rfl, s0⟩ := wf_list (show Ev.cells 3 = [.int .i64] from by kernel_rfl) wf_irow g0
  obtain ⟨l1, t1, rfl, g1, h2⟩ := h1.uncons
  obtain ⟨x1, rfl⟩ := wf_int g1
  obtain rfl := h2.isnil
  exact ⟨⟨x0, x1⟩, rfl, s0⟩
theorem MHead_wf105 (r : List L) (h : WfAll Ev.cells [.int .i64, .int .i64, .int .i64, .int .i64, .int .i64, .int .i64, .int .i64, .int .i64, .sl 3, .int .i64, .sl 3, .int .i64, .int .i64, .sl 3, .int .i64, .bool] r) : ∃ x : MHead, MHead.row x = r ∧ MHead.Sm maxLen x := by
  obtain ⟨l0, t0, rfl, g0, h1⟩ := h.uncons
  obtain ⟨x0, rfl⟩ := wf_int g0
  obtain ⟨l1, t1, rfl, g1, h2⟩ := h1.uncons
  obtain ⟨x1, rfl⟩ := wf_int g1
  obtain ⟨l2, t2, rfl, g2, h3⟩ := h2.uncons
  obtain ⟨x2, rfl⟩ := wf_int g2
  obtain ⟨l3, t3, rfl, g3, h4⟩ := h3.uncons
  obtain ⟨x3, rfl⟩ := wf_int g3
  obtain ⟨l4, t4, rfl, g4, h5⟩ := h4.uncons
  obtain ⟨x4, rfl⟩ := wf_int g4
  obtain ⟨l5, t5, rfl, g5, h6⟩ := h5.uncons
  obtain ⟨x5, rfl⟩ := wf_int g5
  obtain ⟨l6, t6, rfl, g6, h7⟩ := h6.uncons
  obtain ⟨x6, rfl⟩ := wf_int g6
  obtain ⟨l7, t7, rfl, g7, h8⟩ := h7.uncons
  obtain ⟨x7, rfl⟩ := wf_int g7
  obtain ⟨r8, t8, rfl, g8, h9⟩ := WfAll.unapp (a := [.sl 3, .int .i64]) (b := [.sl 3, .int .i64, .int .i64, .sl 3, .int .i64, .bool]) h8
  obtain ⟨x8, rfl, s8⟩ := MKeys_wf103 _ g8
  obtain ⟨r9, t9, rfl, g9, h10⟩ := WfAll.unapp (a := [.sl 3, .int .i64]) (b := [.int .i64, .sl 3, .int .i64, .bool]) h9
  obtain ⟨x9, rfl, s9⟩ := MKeys_wf103 _ g9
  obtain ⟨l10, t10, rfl, g10, h11⟩ := h10.uncons
  obtain ⟨x10, rfl⟩ := wf_int g10
  obtain ⟨r11, t11, rfl, g11, h12⟩ := WfAll.unapp (a := [.sl 3, .int .i64]) (b := [.bool]) h11
  obtain ⟨x11, rfl, s11⟩ := MKeys_wf103 _ g11
  obtain ⟨l12, t12, rfl, g12, h13⟩ := h12.uncons
  obtain ⟨x12, rfl⟩ := wf_bool g12
  obtain rfl := h13.isnil
  exact ⟨⟨x0, x1, x2, x3, x4, x5, x6, x7, x8, x9, x10, x11, x12⟩, rfl, ⟨s8, s9, s11⟩⟩
theorem MSig_wf189 (r : List L) (h : WfAll Ev.cells [.int .i64, .int .i64] r) : ∃ x : MSig, MSig.row x = r ∧ MSig.Sm maxLen x := by
  obtain ⟨l0, t0, rfl, g0, h1⟩ := h.uncons
  obtain ⟨x0, rfl⟩ := wf_int g0
  obtain ⟨l1, t1, rfl, g1, h2⟩ := h1.uncons
  obtain ⟨x1, rfl⟩ := wf_int g1
  obtain rfl := h2.isnil
  exact ⟨⟨x0, x1⟩, rfl, trivial⟩
theorem MSigned_wf108 (r : List L) (h : WfAll Ev.cells [.int .i64, .int .i64, .int .i64, .int .i64, .int .i64, .int .i64, .int .i64, .int .i64, .sl 3, .int .i64, .sl 3, .int .i64, .int .i64, .sl 3, .int .i64, .bool, .sl 189] r) : ∃ x : MSigned, MSigned.row x = r ∧ MSigned.Sm maxLen x := by
  obtain ⟨r0, t0, rfl, g0, h1⟩ := WfAll.unapp (a := [.int .i64, .int .i64, .int .i64, .int .i64, .int .i64, .int .i64, .int .i64, .int .i64, .sl 3, .int .i64, .sl 3, .int .i64, .int .i64, .sl 3, .int .i64, .bool]) (b := [.sl 189]) h
  obtain ⟨x0, rfl, s0⟩ := MHead_wf105 _ g0
  obtain ⟨l1, t1, rfl, g1, h2⟩ := h1.uncons
  obtain ⟨x1, rfl, s1⟩ := wf_list (show Ev.cells 189 = [.int .i64, .int .i64] from by kernel_rfl) MSig_wf189 g1
  obtain rfl := h2.isnil
  exact ⟨⟨x0, x1⟩, rfl, ⟨s0, s1⟩⟩
theorem MFork_wf137 (r : List L) (h : WfAll Ev.cells [.int .i64, .int .i64, .int .i64, .int .i64, .int .i64, .int .i64, .int .i64, .int .i64, .sl 3, .int .i64, .sl 3, .int .i64, .int .i64, .sl 3, .int .i64, .bool, .sl 189, .int .i64, .int .i64, .int .i64, .int .i64, .int .i64, .int .i64, .int .i64, .int .i64, .sl 3, .int .i64, .sl 3, .int .i64, .int .i64, .sl 3, .int .i64, .bool, .sl 189, .int .i64, .int .i64, .int .i64, .int .i64, .int .i64, .int .i64, .int .i64, .int .i64, .sl 3, .int .i64, .sl 3, .int .i64, .int .i64, .sl 3, .int .i64, .bool, .sl 189] r) : ∃ x : MFork, MFork.row x = r ∧ MFork.Sm maxLen x := by
  obtain ⟨r0, t0, rfl, g0, h1⟩ := WfAll.unapp (a := [.int .i64, .int .i64, .int .i64, .int .i64, .int .i64, .int .i64, .int .i64, .int .i64, .sl 3, .int .i64, .sl 3, .int .i64, .int .i64, .sl 3, .int .i64, .bool, .sl 189]) (b := [.int .i64, .int .i64, .int .i64, .int .i64, .int .i64, .int .i64, .int .i64, .int .i64, .sl 3, .int .i64, .sl 3, .int .i64, .int .i64, .sl 3, .int .i64, .bool, .sl 189, .int .i64, .int .i64, .int .i64, .int .i64, .int .i64, .int .i64, .int .i64, .int .i64, .sl 3, .int .i64, .sl 3, .int .i64, .int .i64, .sl 3, .int .i64, .bool, .sl 189]) h
  obtain ⟨x0, rfl, s0⟩ := MSigned_wf108 _ g0
  obtain ⟨r1, t1, rfl, g1, h2⟩ := WfAll.unapp (a := [.int .i64, .int .i64, .int .i64, .int .i64, .int .i64, .int .i64, .int .i64, .int .i64, .sl 3, .int .i64, .sl 3, .int .i64, .int .i64, .sl 3, .int .i64, .bool, .sl 189]) (b := [.int .i64, .int .i64, .int .i64, .int .i64, .int .i64, .int .i64, .int .i64, .int .i64, .sl 3, .int .i64, .sl 3, .int .i64, .int .i64, .sl 3, .int .i64, .bool, .sl 189]) h1
  obtain ⟨x1, rfl, s1⟩ := MSigned_wf108 _ g1
  obtain ⟨r2, t2, rfl, g2, h3⟩ := WfAll.unapp (a := [.int .i64, .int .i64, .int .i64, .int .i64, .int .i64, .int .i64, .int .i64, .int .i64, .sl 3, .int .i64, .sl 3, .int .i64, .int .i64, .sl 3, .int .i64, .bool, .sl 189]) (b := []) h2
  obtain ⟨x2, rfl, s2⟩ := MSigned_wf108 _ g2
  obtain rfl := h3.isnil
  exact ⟨⟨x0, x1, x2⟩, rfl, ⟨s0, s1, s2⟩⟩
theorem MKnown_wf25 (r : List L) (h : WfAll Ev.cells [.sl 35, .sl 137] r) : ∃ x : MKnown, MKnown.row x = r ∧ MKnown.Sm maxLen x := by
  obtain ⟨l0, t0, rfl, g0, h1⟩ := h.uncons
  obtain ⟨x0, rfl, s0⟩ := wf_list (show Ev.cells 35 = [.sl 108] from by kernel_rfl) (wf_lrow (show Ev.cells 108 = [.int .i64, .int .i64, .int .i64, .int .i64, .int .i64, .int .i64, .int .i64, .int .i64, .sl 3, .int .i64, .sl 3, .int .i64, .int .i64, .sl 3, .int .i64, .bool, .sl 189] from by kernel_rfl) MSigned_wf108) g0
  obtain ⟨l1, t1, rfl, g1, h2⟩ := h1.uncons
  obtain ⟨x1, rfl, s1⟩ := wf_list (show Ev.cells 137 = [.int .i64, .int .i64, .int .i64, .int .i64, .int .i64, .int .i64, .int .i64, .int .i64, .sl 3, .int .i64, .sl 3, .int .i64, .int .i64, .sl 3, .int .i64, .bool, .sl 189, .int .i64, .int .i64, .int .i64, .int .i64, .int .i64, .int .i64, .int .i64, .int .i64, .sl 3, .int .i64, .sl 3, .int .i64, .int .i64, .sl 3, .int .i64, .bool, .sl 189, .int .i64, .int .i64, .int .i64, .int .i64, .int .i64, .int .i64, .int .i64, .int .i64, .sl 3, .int .i64, .sl 3, .int .i64, .int .i64, .sl 3, .int .i64, .bool, .sl 189] from by kernel_rfl) MFork_wf137 g1
  obtain rfl := h2.isnil
  exact ⟨⟨x0, x1⟩, rfl, ⟨s0, s1⟩⟩
theorem holds (ls : List L) (h : WfAll Ev.cells ([25].flatMap Ev.cells) ls) : con.sem ls = some [.bool true] := by
  have hk : [25].flatMap Ev.cells = [.sl 35, .sl 137] := by kernel_rfl
  rw [hk] at h
  obtain ⟨r0, t0, rfl, g0, h1⟩ := WfAll.unapp (a := [.sl 35, .sl 137]) (b := []) h
  obtain ⟨x0, rfl, s0⟩ := MKnown_wf25 _ g0
  obtain rfl := h1.isnil
  show (R (MKnown.r x0)).map RT.enc = _
  rw [R_eq s0]
  rfl
end laws_FnExactIsKnown
end Go.DM
