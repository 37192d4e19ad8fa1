/- What the functions compute that the law reaches, and that the law returns true. Conditions: none. -/
import Derived.Test.YtnnmfhhlebbmiaaTy
import Derived.Test.YtnnmfhhlebbmiaaFnEqualBundlesA
import Derived.Test.YtnnmfhhlebbmiaaProg
import Derived.Lib.AppendZerosOnto
import Derived.Lib.Bytealg
import Derived.Laws.Externs
import Derived.Lib.Walk
import Derived.Lib.Hide
import Derived.Lib.Strings
set_option linter.all false
namespace Go.DM
open Go.Proofs
/-! laws.eqStoredS -/
namespace laws_eqStoredS
inductive Pt where
  | p0 (a : List (List L)) (b : List (List L)) (c : Int)
def pid : Pt → Nat
  | .p0 .. => 4
def pvs : Pt → List V
  | .p0 a b c => [.sl none 159 a, .sl none 159 b, .int .i64 c]
def phs : Pt → List Root
  | .p0 a b c => []
noncomputable def step (J : Pt → Ans) : Pt → Ans
  | .p0 a b c => (bif (decide (c < (a.length : Int))) then (bif (decide ((0 : Int) ≤ c)) then (bif (decide (c < (a.length : Int))) then (bif (decide ((0 : Int) ≤ c)) then (bif (decide (c < (b.length : Int))) then (call (laws_eqStored.R ((RStored.at a (Int.toNat c)), (RStored.at b (Int.toNat c)))) fun v1 => (bif (!v1) then ret (false : Bool) else J (.p0 a b (IntKind.i64.wrap (c + 1))))) else none) else none) else none) else none) else ret (true : Bool))
noncomputable def start (J : Pt → Ans) (x0 : List (List L)) (x1 : List (List L)) : Ans := (bif ((x0.length : Int) != (x1.length : Int)) then ret (false : Bool) else J (.p0 x0 x1 0))
def live : Nat → Live := fun i => match i with | 4 => [(0, none), (1, none), (5, none)] | _ => []
def pats : List Pat := [.rd (.sl 159), .rd (.sl 159)]
def res : RP := .one (.rd (.bool))
noncomputable abbrev E : Env := ⟨assoc Tab, conG [(170, laws_eqStored.con)], 27⟩
set_option maxRecDepth 100000
theorem step_eq (I : Heads) (p : Pt) : enterC E live I (pid p) (bodyOf Try.f118) (stOf (live (pid p)) (pvs p) (phs p)) (doneK E Try.f118 res) = step (fun q => I (pid q) (pvs q) (phs q)) p := by
  cases p <;> kernel_rfl
theorem start_eq (I : Heads) (ls : List L) : runC E live I (bodyOf Try.f118) (initS pats ls) (doneK E Try.f118 res) = start (fun q => I (pid q) (pvs q) (phs q)) (ls.headD .hole).toSl ((dropT 1 ls).headD .hole).toSl := by kernel_rfl
theorem run_eq (n : Nat) (ls : List L) : runF E live Try.f118 res n (initS pats ls) = start (iter step n) (ls.headD .hole).toSl ((dropT 1 ls).headD .hole).toSl := runF_iter (id := pid) (vs := pvs) (hs := phs) (step := step) (start := fun J => start J (ls.headD .hole).toSl ((dropT 1 ls).headD .hole).toSl) step_eq (fun I => start_eq I ls) n
noncomputable def md (a0 : List MStored) (a1 : List MStored) : Bool := eqB a0 a1
def gd (a0 : List MStored) (a1 : List MStored) : Prop := True
def acc (ls : List L) : List (List L) × List (List L) := ((ls.headD .hole).toSl, ((dropT 1 ls).headD .hole).toSl)
noncomputable def R : (List (List L) × List (List L)) → Option Bool := RR (p2 gd) (u2 md)
theorem R_eq {a0} {a1} (h : gd a0 a1) : R ((a0.map MStored.row), (a1.map MStored.row)) = some (md a0 a1) := RR_eq (a := (a0, a1)) h
noncomputable def con : Con := CN pats res acc R
theorem okF (a0 : List MStored) (a1 : List MStored) (hg : gd a0 a1) (h0 : a0.length ≤ maxLen) (h1 : a1.length ≤ maxLen) : ∃ n, start (iter step n) (a0.map MStored.row) (a1.map MStored.row) = ret ((md a0 a1) : Bool) := by
  unfold start md
  simp only [List.length_map]
  refine eq_list (pt := fun i => Pt.p0 (a0.map MStored.row) (a1.map MStored.row) (i : Int)) (fun hl J i h h2 => ?_) (fun J => ?_)
  · simp only [step, List.length_map, lt_dec h, lt_dec h2, zle_dec, cond_true, toNat_nat, MStored.at_row h, MStored.at_row h2]
    rw [wrap_succ h h0]
    rw [call_eq (laws_eqStored.R_eq (a0 := a0[i]) (a1 := a1[i]) trivial), laws_eqStored.md]
    cases eqB a0[i] a1[i] <;> rfl
  · simp only [step, List.length_map, nlt_dec, cond_false]
theorem valid_ : Valid Try.prog Ev 118 con := VV (run := fun n x => start (iter step n) x.1 x.2) mix tab_ok (.cons laws_eqStored.valid_ .nil) Try.func118 (by kernel_rfl) run_eq (fun ls a hl e hg => okF a.1 a.2 hg (by have h : (ls.headD .hole).toSl.length ≤ maxLen := hl.1.len; have e : a.1.map MStored.row = (ls.headD .hole).toSl := (congrArg (fun x => x.1) e.symm); rw [← e] at h; simpa using h) (by have h : ((dropT 1 ls).headD .hole).toSl.length ≤ maxLen := hl.2.1.len; have e : a.2.map MStored.row = ((dropT 1 ls).headD .hole).toSl := (congrArg (fun x => x.2) e.symm); rw [← e] at h; simpa using h))
end laws_eqStoredS
/-! laws.eqBundle -/
namespace laws_eqBundle
noncomputable def F (x0 : RBundle) (x1 : RBundle) : Ans := (bif (x0.fRoot != x1.fRoot) then ret (false : Bool) else (call (laws_eqStringS.R (x0.fPath, x1.fPath)) fun v1 => (bif (!v1) then ret (false : Bool) else (call (laws_eqStoredS.R (x0.fSteps, x1.fSteps)) fun v2 => (bif (!v2) then ret (false : Bool) else ret (true : Bool))))))
def pats : List Pat := [.agg [.int .i64, .sl 9, .sl 159], .agg [.int .i64, .sl 9, .sl 159]]
def res : RP := .one (.rd (.bool))
noncomputable abbrev E : Env := ⟨assoc Tab, conG [(123, laws_eqStringS.con), (118, laws_eqStoredS.con)], 22⟩
set_option maxRecDepth 100000
theorem run_eq (n : Nat) (ls : List L) : runF E (fun _ => []) Try.f65 res n (initS pats ls) = F (RBundle.dec ls) (RBundle.dec (dropT 3 ls)) := by kernel_rfl
noncomputable def md (a0 : MBundle) (a1 : MBundle) : Bool := eqB a0 a1
def gd (a0 : MBundle) (a1 : MBundle) : Prop := True
def acc (ls : List L) : RBundle × RBundle := ((RBundle.dec ls), (RBundle.dec (dropT 3 ls)))
noncomputable def R : (RBundle × RBundle) → Option Bool := RR (p2 gd) (u2 md)
theorem R_eq {a0} {a1} (h : gd a0 a1) : R ((MBundle.r a0), (MBundle.r a1)) = some (md a0 a1) := RR_eq (a := (a0, a1)) h
noncomputable def con : Con := CN pats res acc R
theorem okF (a0 : MBundle) (a1 : MBundle) (hg : gd a0 a1) : F (MBundle.r a0) (MBundle.r a1) = ret ((md a0 a1) : Bool) := by
  unfold md
  show (bif (a0.fRoot != a1.fRoot) then ret (false : Bool) else (call (laws_eqStringS.R ((a0.fPath.map sRow), (a1.fPath.map sRow))) fun v1 => (bif (!v1) then ret (false : Bool) else (call (laws_eqStoredS.R ((a0.fSteps.map MStored.row), (a1.fSteps.map MStored.row))) fun v2 => (bif (!v2) then ret (false : Bool) else ret (true : Bool)))))) = _
  simp only [call_eq (laws_eqStringS.R_eq (a0 := a0.fPath) (a1 := a1.fPath) trivial), laws_eqStringS.md]
  simp only [call_eq (laws_eqStoredS.R_eq (a0 := a0.fSteps) (a1 := a1.fSteps) trivial), laws_eqStoredS.md]
  try simp only [bne, int_beq, bool_beq, ba_beq]
  have e : eqB a0 a1 = (eqB a0.fRoot a1.fRoot && (eqB a0.fPath a1.fPath && (eqB a0.fSteps a1.fSteps && true))) := by
    cases a0; cases a1
    rw [Bool.eq_iff_iff]
    simp only [eqB_iff, Bool.and_eq_true, MBundle.mk.injEq, and_true]
  rw [e]
  refine and_step fun _ => ?_
  refine and_step fun _ => ?_
  refine and_step fun _ => ?_
  rfl
theorem valid_ : Valid Try.prog Ev 65 con := VV (run := fun _ x => F x.1 x.2) mix tab_ok (.cons laws_eqStringS.valid_ (.cons laws_eqStoredS.valid_ .nil)) Try.func65 (by kernel_rfl) run_eq (fun _ a _ _ hg => ⟨0, okF a.1 a.2 hg⟩)
end laws_eqBundle
/-! laws.FnExactEqualBundles -/
namespace laws_FnExactEqualBundles
noncomputable def F (x0 : RBundle) (x1 : RBundle) : Ans := (call (laws_szBundle.R (x0, 1048576)) fun v1 => (bif (decide (v1 < 0)) then ret (true : Bool) else (call (laws_szBundle.R (x1, v1)) fun v2 => (bif (decide (v2 < 0)) then ret (true : Bool) else (call (laws_toBundle.R x0) fun v3 => (call (laws_toBundle.R x1) fun v4 => (call (spec_EqualBundles.R (v3, v4)) fun v5 => (call (laws_toBundle.R x0) fun v6 => (call (laws_toBundle.R x1) fun v7 => (call (impl_EqualBundles.R (v6, v7)) fun v8 => (bif (!(v8 == v5)) then ret (false : Bool) else (call (laws_toBundle.R x0) fun v9 => (call (laws_eqBundle.R (v6, v9)) fun v10 => (bif (!v10) then ret (false : Bool) else (call (laws_toBundle.R x1) fun v11 => (call (laws_eqBundle.R (v7, v11)) fun v12 => (bif (!v12) then ret (false : Bool) else ret (true : Bool))))))))))))))))))
def pats : List Pat := [.agg [.int .i64, .sl 9, .sl 209], .agg [.int .i64, .sl 9, .sl 209]]
def res : RP := .one (.rd (.bool))
noncomputable abbrev E : Env := ⟨assoc Tab, conG [(61, laws_szBundle.con), (63, laws_toBundle.con), (62, spec_EqualBundles.con), (64, impl_EqualBundles.con), (65, laws_eqBundle.con)], 45⟩
set_option maxRecDepth 100000
theorem run_eq (n : Nat) (ls : List L) : runF E (fun _ => []) Try.f16 res n (initS pats ls) = F (RBundle.dec ls) (RBundle.dec (dropT 3 ls)) := by kernel_rfl
noncomputable def md (a0 : MBundle) (a1 : MBundle) : Bool := true
def gd (a0 : MBundle) (a1 : MBundle) : Prop := (MBundle.Sm maxLen a0) ∧ (MBundle.Sm maxLen a1)
def acc (ls : List L) : RBundle × RBundle := ((RBundle.dec ls), (RBundle.dec (dropT 3 ls)))
noncomputable def R : (RBundle × RBundle) → Option Bool := RR (p2 gd) (u2 md)
theorem R_eq {a0} {a1} (h : gd a0 a1) : R ((MBundle.r a0), (MBundle.r a1)) = some (md a0 a1) := RR_eq (a := (a0, a1)) h
noncomputable def con : Con := CN pats res acc R
theorem okF (a0 : MBundle) (a1 : MBundle) (hg : gd a0 a1) : F (MBundle.r a0) (MBundle.r a1) = ret ((md a0 a1) : Bool) := by
  unfold md
  show (call (laws_szBundle.R ((MBundle.r a0), 1048576)) fun v1 => (bif (decide (v1 < 0)) then ret (true : Bool) else (call (laws_szBundle.R ((MBundle.r a1), v1)) fun v2 => (bif (decide (v2 < 0)) then ret (true : Bool) else (call (laws_toBundle.R (MBundle.r a0)) fun v3 => (call (laws_toBundle.R (MBundle.r a1)) fun v4 => (call (spec_EqualBundles.R (v3, v4)) fun v5 => (call (laws_toBundle.R (MBundle.r a0)) fun v6 => (call (laws_toBundle.R (MBundle.r a1)) fun v7 => (call (impl_EqualBundles.R (v6, v7)) fun v8 => (bif (!(v8 == v5)) then ret (false : Bool) else (call (laws_toBundle.R (MBundle.r a0)) fun v9 => (call (laws_eqBundle.R (v6, v9)) fun v10 => (bif (!v10) then ret (false : Bool) else (call (laws_toBundle.R (MBundle.r a1)) fun v11 => (call (laws_eqBundle.R (v7, v11)) fun v12 => (bif (!v12) then ret (false : Bool) else ret (true : Bool)))))))))))))))))) = _
  rw [call_eq (laws_szBundle.R_eq (a1 := (1048576 : Int)) ⟨hg.1, by omega, by omega⟩)]
  unfold laws_szBundle.md
  by_cases c0 : (1048576 : Int) < (((MBundle.size a0) : Nat) : Int)
  · rw [szM_neg c0]; rfl
  rw [szM_pos c0, dec_neg (by omega)]
  simp only [cond_false]
  have s0 : MBundle.Sm (2 ^ 20) a0 := (MBundle.Sm_of (by omega))
  rw [call_eq (laws_szBundle.R_eq (a1 := (1048576 - (((MBundle.size a0) : Nat) : Int) : Int)) ⟨hg.2, by omega, by omega⟩)]
  unfold laws_szBundle.md
  by_cases c1 : (1048576 - (((MBundle.size a0) : Nat) : Int) : Int) < (((MBundle.size a1) : Nat) : Int)
  · rw [szM_neg c1]; rfl
  rw [szM_pos c1, dec_neg (by omega)]
  simp only [cond_false]
  have s1 : MBundle.Sm (2 ^ 20) a1 := (MBundle.Sm_of (by omega))
  rw [call_eq (laws_toBundle.R_eq (a0 := a0) (MBundle.Sm_mono (by decide) s0))]
  simp only [laws_toBundle.md]
  rw [call_eq (laws_toBundle.R_eq (a0 := a1) (MBundle.Sm_mono (by decide) s1))]
  simp only [laws_toBundle.md]
  rw [call_eq (spec_EqualBundles.R_eq (a0 := a0) (a1 := a1) (by
    have := And.intro trivial trivial
    unfold spec_EqualBundles.gd
    first | exact (MBundle.Sm_mono (by decide) s0) | refine ⟨(MBundle.Sm_mono (by decide) s0), (MBundle.Sm_mono (by decide) s1)⟩))]
  rw [call_eq (laws_toBundle.R_eq (a0 := a0) (MBundle.Sm_mono (by decide) s0))]
  simp only [laws_toBundle.md]
  rw [call_eq (laws_toBundle.R_eq (a0 := a1) (MBundle.Sm_mono (by decide) s1))]
  simp only [laws_toBundle.md]
  rw [call_eq (impl_EqualBundles.R_eq (a0 := a0) (a1 := a1) (by
    have := And.intro trivial trivial
    unfold impl_EqualBundles.gd
    first | exact (MBundle.Sm_mono (by decide) s0) | refine ⟨(MBundle.Sm_mono (by decide) s0), (MBundle.Sm_mono (by decide) s1)⟩))]
  try simp only [spec_EqualBundles.md_eq, impl_EqualBundles.md_eq, bne_self_eq_false, beq_self_eq_true, ba_refl, Bool.not_true, cond_false]
  rw [call_eq (laws_toBundle.R_eq (a0 := a0) (MBundle.Sm_mono (by decide) s0))]
  simp only [laws_toBundle.md]
  rw [call_eq (laws_eqBundle.R_eq (a0 := a0) (a1 := a0) trivial)]
  simp only [laws_eqBundle.md, eqB_refl, Bool.not_true, cond_false]
  rw [call_eq (laws_toBundle.R_eq (a0 := a1) (MBundle.Sm_mono (by decide) s1))]
  simp only [laws_toBundle.md]
  rw [call_eq (laws_eqBundle.R_eq (a0 := a1) (a1 := a1) trivial)]
  simp only [laws_eqBundle.md, eqB_refl, Bool.not_true, cond_false]
theorem valid_ : Valid Try.prog Ev 16 con := VV (run := fun _ x => F x.1 x.2) mix tab_ok (.cons laws_szBundle.valid_ (.cons laws_toBundle.valid_ (.cons spec_EqualBundles.valid_ (.cons impl_EqualBundles.valid_ (.cons laws_eqBundle.valid_ .nil))))) Try.func16 (by kernel_rfl) run_eq (fun _ a _ _ hg => ⟨0, okF a.1 a.2 hg⟩)
theorem MKeys_wf108 (r : List L) (h : WfAll Ev.cells [.sl 3, .int .i64] r) : ∃ x : MKeys, MKeys.row x = r ∧ MKeys.Sm maxLen x := by
  obtain ⟨l0, t0, rfl, g0, h1⟩ := h.uncons
  obtain ⟨x0, rfl, s0⟩ := wf_list (show Ev.cells 3 = [.int .i64] from by kernel_rfl) wf_irow g0
  obtain ⟨l1, t1, rfl, g1, h2⟩ := h1.uncons
  obtain ⟨x1, rfl⟩ := wf_int g1
  obtain rfl := h2.isnil
  exact ⟨⟨x0, x1⟩, rfl, s0⟩
theorem MHead_wf110 (r : List L) (h : WfAll Ev.cells [.int .i64, .int .i64, .int .i64, .int .i64, .int .i64, .int .i64, .int .i64, .int .i64, .sl 3, .int .i64, .sl 3, .int .i64, .int .i64, .sl 3, .int .i64, .bool] r) : ∃ x : MHead, MHead.row x = r ∧ MHead.Sm maxLen x := by
  obtain ⟨l0, t0, rfl, g0, h1⟩ := h.uncons
  obtain ⟨x0, rfl⟩ := wf_int g0
  obtain ⟨l1, t1, rfl, g1, h2⟩ := h1.uncons
  obtain ⟨x1, rfl⟩ := wf_int g1
  obtain ⟨l2, t2, rfl, g2, h3⟩ := h2.uncons
  obtain ⟨x2, rfl⟩ := wf_int g2
  obtain ⟨l3, t3, rfl, g3, h4⟩ := h3.uncons
  obtain ⟨x3, rfl⟩ := wf_int g3
  obtain ⟨l4, t4, rfl, g4, h5⟩ := h4.uncons
  obtain ⟨x4, rfl⟩ := wf_int g4
  obtain ⟨l5, t5, rfl, g5, h6⟩ := h5.uncons
  obtain ⟨x5, rfl⟩ := wf_int g5
  obtain ⟨l6, t6, rfl, g6, h7⟩ := h6.uncons
  obtain ⟨x6, rfl⟩ := wf_int g6
  obtain ⟨l7, t7, rfl, g7, h8⟩ := h7.uncons
  obtain ⟨x7, rfl⟩ := wf_int g7
  obtain ⟨r8, t8, rfl, g8, h9⟩ := WfAll.unapp (a := [.sl 3, .int .i64]) (b := [.sl 3, .int .i64, .int .i64, .sl 3, .int .i64, .bool]) h8
  obtain ⟨x8, rfl, s8⟩ := MKeys_wf108 _ g8
  obtain ⟨r9, t9, rfl, g9, h10⟩ := WfAll.unapp (a := [.sl 3, .int .i64]) (b := [.int .i64, .sl 3, .int .i64, .bool]) h9
  obtain ⟨x9, rfl, s9⟩ := MKeys_wf108 _ g9
  obtain ⟨l10, t10, rfl, g10, h11⟩ := h10.uncons
  obtain ⟨x10, rfl⟩ := wf_int g10
  obtain ⟨r11, t11, rfl, g11, h12⟩ := WfAll.unapp (a := [.sl 3, .int .i64]) (b := [.bool]) h11
  obtain ⟨x11, rfl, s11⟩ := MKeys_wf108 _ g11
  obtain ⟨l12, t12, rfl, g12, h13⟩ := h12.uncons
  obtain ⟨x12, rfl⟩ := wf_bool g12
  obtain rfl := h13.isnil
  exact ⟨⟨x0, x1, x2, x3, x4, x5, x6, x7, x8, x9, x10, x11, x12⟩, rfl, ⟨s8, s9, s11⟩⟩
theorem MSig_wf218 (r : List L) (h : WfAll Ev.cells [.int .i64, .int .i64] r) : ∃ x : MSig, MSig.row x = r ∧ MSig.Sm maxLen x := by
  obtain ⟨l0, t0, rfl, g0, h1⟩ := h.uncons
  obtain ⟨x0, rfl⟩ := wf_int g0
  obtain ⟨l1, t1, rfl, g1, h2⟩ := h1.uncons
  obtain ⟨x1, rfl⟩ := wf_int g1
  obtain rfl := h2.isnil
  exact ⟨⟨x0, x1⟩, rfl, trivial⟩
theorem MSigned_wf113 (r : List L) (h : WfAll Ev.cells [.int .i64, .int .i64, .int .i64, .int .i64, .int .i64, .int .i64, .int .i64, .int .i64, .sl 3, .int .i64, .sl 3, .int .i64, .int .i64, .sl 3, .int .i64, .bool, .sl 218] r) : ∃ x : MSigned, MSigned.row x = r ∧ MSigned.Sm maxLen x := by
  obtain ⟨r0, t0, rfl, g0, h1⟩ := WfAll.unapp (a := [.int .i64, .int .i64, .int .i64, .int .i64, .int .i64, .int .i64, .int .i64, .int .i64, .sl 3, .int .i64, .sl 3, .int .i64, .int .i64, .sl 3, .int .i64, .bool]) (b := [.sl 218]) h
  obtain ⟨x0, rfl, s0⟩ := MHead_wf110 _ g0
  obtain ⟨l1, t1, rfl, g1, h2⟩ := h1.uncons
  obtain ⟨x1, rfl, s1⟩ := wf_list (show Ev.cells 218 = [.int .i64, .int .i64] from by kernel_rfl) MSig_wf218 g1
  obtain rfl := h2.isnil
  exact ⟨⟨x0, x1⟩, rfl, ⟨s0, s1⟩⟩
theorem MEntry_wf24 (r : List L) (h : WfAll Ev.cells [.str, .int .i64, .int .i64, .sl 9] r) : ∃ x : MEntry, MEntry.row x = r ∧ MEntry.Sm maxLen x := by
  obtain ⟨l0, t0, rfl, g0, h1⟩ := h.uncons
  obtain ⟨x0, rfl, s0⟩ := wf_str g0
  obtain ⟨l1, t1, rfl, g1, h2⟩ := h1.uncons
  obtain ⟨x1, rfl⟩ := wf_int g1
  obtain ⟨l2, t2, rfl, g2, h3⟩ := h2.uncons
  obtain ⟨x2, rfl⟩ := wf_int g2
  obtain ⟨l3, t3, rfl, g3, h4⟩ := h3.uncons
  obtain ⟨x3, rfl, s3⟩ := wf_list (show Ev.cells 9 = [.str] from by kernel_rfl) wf_srow g3
  obtain rfl := h4.isnil
  exact ⟨⟨x0, x1, x2, x3⟩, rfl, ⟨s0, s3⟩⟩
theorem MProof_wf203 (r : List L) (h : WfAll Ev.cells [.int .i64, .sl 3] r) : ∃ x : MProof, MProof.row x = r ∧ MProof.Sm maxLen x := by
  obtain ⟨l0, t0, rfl, g0, h1⟩ := h.uncons
  obtain ⟨x0, rfl⟩ := wf_int g0
  obtain ⟨l1, t1, rfl, g1, h2⟩ := h1.uncons
  obtain ⟨x1, rfl, s1⟩ := wf_list (show Ev.cells 3 = [.int .i64] from by kernel_rfl) wf_irow g1
  obtain rfl := h2.isnil
  exact ⟨⟨x0, x1⟩, rfl, s1⟩
theorem MGap_wf205 (r : List L) (h : WfAll Ev.cells [.int .i64, .str, .int .i64, .int .i64, .sl 9, .str, .int .i64, .int .i64, .sl 9, .int .i64, .sl 3, .int .i64, .sl 3] r) : ∃ x : MGap, MGap.row x = r ∧ MGap.Sm maxLen x := by
  obtain ⟨l0, t0, rfl, g0, h1⟩ := h.uncons
  obtain ⟨x0, rfl⟩ := wf_int g0
  obtain ⟨r1, t1, rfl, g1, h2⟩ := WfAll.unapp (a := [.str, .int .i64, .int .i64, .sl 9]) (b := [.str, .int .i64, .int .i64, .sl 9, .int .i64, .sl 3, .int .i64, .sl 3]) h1
  obtain ⟨x1, rfl, s1⟩ := MEntry_wf24 _ g1
  obtain ⟨r2, t2, rfl, g2, h3⟩ := WfAll.unapp (a := [.str, .int .i64, .int .i64, .sl 9]) (b := [.int .i64, .sl 3, .int .i64, .sl 3]) h2
  obtain ⟨x2, rfl, s2⟩ := MEntry_wf24 _ g2
  obtain ⟨r3, t3, rfl, g3, h4⟩ := WfAll.unapp (a := [.int .i64, .sl 3]) (b := [.int .i64, .sl 3]) h3
  obtain ⟨x3, rfl, s3⟩ := MProof_wf203 _ g3
  obtain ⟨r4, t4, rfl, g4, h5⟩ := WfAll.unapp (a := [.int .i64, .sl 3]) (b := []) h4
  obtain ⟨x4, rfl, s4⟩ := MProof_wf203 _ g4
  obtain rfl := h5.isnil
  exact ⟨⟨x0, x1, x2, x3, x4⟩, rfl, ⟨s1, s2, s3, s4⟩⟩
theorem MAnswer_wf207 (r : List L) (h : WfAll Ev.cells [.sl 113, .bool, .str, .int .i64, .int .i64, .sl 9, .int .i64, .sl 3, .int .i64, .str, .int .i64, .int .i64, .sl 9, .str, .int .i64, .int .i64, .sl 9, .int .i64, .sl 3, .int .i64, .sl 3] r) : ∃ x : MAnswer, MAnswer.row x = r ∧ MAnswer.Sm maxLen x := by
  obtain ⟨l0, t0, rfl, g0, h1⟩ := h.uncons
  obtain ⟨x0, rfl, s0⟩ := wf_list (show Ev.cells 113 = [.int .i64, .int .i64, .int .i64, .int .i64, .int .i64, .int .i64, .int .i64, .int .i64, .sl 3, .int .i64, .sl 3, .int .i64, .int .i64, .sl 3, .int .i64, .bool, .sl 218] from by kernel_rfl) MSigned_wf113 g0
  obtain ⟨l1, t1, rfl, g1, h2⟩ := h1.uncons
  obtain ⟨x1, rfl⟩ := wf_bool g1
  obtain ⟨r2, t2, rfl, g2, h3⟩ := WfAll.unapp (a := [.str, .int .i64, .int .i64, .sl 9]) (b := [.int .i64, .sl 3, .int .i64, .str, .int .i64, .int .i64, .sl 9, .str, .int .i64, .int .i64, .sl 9, .int .i64, .sl 3, .int .i64, .sl 3]) h2
  obtain ⟨x2, rfl, s2⟩ := MEntry_wf24 _ g2
  obtain ⟨r3, t3, rfl, g3, h4⟩ := WfAll.unapp (a := [.int .i64, .sl 3]) (b := [.int .i64, .str, .int .i64, .int .i64, .sl 9, .str, .int .i64, .int .i64, .sl 9, .int .i64, .sl 3, .int .i64, .sl 3]) h3
  obtain ⟨x3, rfl, s3⟩ := MProof_wf203 _ g3
  obtain ⟨r4, t4, rfl, g4, h5⟩ := WfAll.unapp (a := [.int .i64, .str, .int .i64, .int .i64, .sl 9, .str, .int .i64, .int .i64, .sl 9, .int .i64, .sl 3, .int .i64, .sl 3]) (b := []) h4
  obtain ⟨x4, rfl, s4⟩ := MGap_wf205 _ g4
  obtain rfl := h5.isnil
  exact ⟨⟨x0, x1, x2, x3, x4⟩, rfl, ⟨s0, s2, s3, s4⟩⟩
theorem MStored_wf209 (r : List L) (h : WfAll Ev.cells [.int .i64, .str, .sl 113, .bool, .str, .int .i64, .int .i64, .sl 9, .int .i64, .sl 3, .int .i64, .str, .int .i64, .int .i64, .sl 9, .str, .int .i64, .int .i64, .sl 9, .int .i64, .sl 3, .int .i64, .sl 3] r) : ∃ x : MStored, MStored.row x = r ∧ MStored.Sm maxLen x := by
  obtain ⟨l0, t0, rfl, g0, h1⟩ := h.uncons
  obtain ⟨x0, rfl⟩ := wf_int g0
  obtain ⟨l1, t1, rfl, g1, h2⟩ := h1.uncons
  obtain ⟨x1, rfl, s1⟩ := wf_str g1
  obtain ⟨r2, t2, rfl, g2, h3⟩ := WfAll.unapp (a := [.sl 113, .bool, .str, .int .i64, .int .i64, .sl 9, .int .i64, .sl 3, .int .i64, .str, .int .i64, .int .i64, .sl 9, .str, .int .i64, .int .i64, .sl 9, .int .i64, .sl 3, .int .i64, .sl 3]) (b := []) h2
  obtain ⟨x2, rfl, s2⟩ := MAnswer_wf207 _ g2
  obtain rfl := h3.isnil
  exact ⟨⟨x0, x1, x2⟩, rfl, ⟨s1, s2⟩⟩
theorem MBundle_wf93 (r : List L) (h : WfAll Ev.cells [.int .i64, .sl 9, .sl 209] r) : ∃ x : MBundle, MBundle.row x = r ∧ MBundle.Sm maxLen x := by
  obtain ⟨l0, t0, rfl, g0, h1⟩ := h.uncons
  obtain ⟨x0, rfl⟩ := wf_int g0
  obtain ⟨l1, t1, rfl, g1, h2⟩ := h1.uncons
  obtain ⟨x1, rfl, s1⟩ := wf_list (show Ev.cells 9 = [.str] from by kernel_rfl) wf_srow g1
  obtain ⟨l2, t2, rfl, g2, h3⟩ := h2.uncons
  obtain ⟨x2, rfl, s2⟩ := wf_list (show Ev.cells 209 = [.int .i64, .str, .sl 113, .bool, .str, .int .i64, .int .i64, .sl 9, .int .i64, .sl 3, .int .i64, .str, .int .i64, .int .i64, .sl 9, .str, .int .i64, .int .i64, .sl 9, .int .i64, .sl 3, .int .i64, .sl 3] from by kernel_rfl) MStored_wf209 g2
  obtain rfl := h3.isnil
  exact ⟨⟨x0, x1, x2⟩, rfl, ⟨s1, s2⟩⟩
theorem holds (ls : List L) (h : WfAll Ev.cells ([93, 93].flatMap Ev.cells) ls) : con.sem ls = some [.bool true] := by
  have hk : [93, 93].flatMap Ev.cells = [.int .i64, .sl 9, .sl 209, .int .i64, .sl 9, .sl 209] := by kernel_rfl
  rw [hk] at h
  obtain ⟨r0, t0, rfl, g0, h1⟩ := WfAll.unapp (a := [.int .i64, .sl 9, .sl 209]) (b := [.int .i64, .sl 9, .sl 209]) h
  obtain ⟨x0, rfl, s0⟩ := MBundle_wf93 _ g0
  obtain ⟨r1, t1, rfl, g1, h2⟩ := WfAll.unapp (a := [.int .i64, .sl 9, .sl 209]) (b := []) h1
  obtain ⟨x1, rfl, s1⟩ := MBundle_wf93 _ g1
  obtain rfl := h2.isnil
  show (R ((MBundle.r x0), (MBundle.r x1))).map RT.enc = _
  rw [R_eq ⟨s0, s1⟩]
  rfl
end laws_FnExactEqualBundles
end Go.DM
