/- What the functions compute that the law reaches, and that the law returns true. Conditions: none. -/
import Derived.Test.YtnnmfhhlebbmiaaGreatTy
import Derived.Test.YtnnmfhhlebbmiaaGreatFnMeetC
import Derived.Test.YtnnmfhhlebbmiaaGreatProg
import Derived.Lib.AppendZerosOnto
import Derived.Lib.Bytealg
import Derived.Laws.Externs
import Derived.Lib.Walk
import Derived.Lib.Hide
import Derived.Lib.Strings
set_option linter.all false
namespace Go.DM
open Go.Proofs
/-! laws.eqSignedSS -/
namespace laws_eqSignedSS
inductive Pt where
  | p0 (a : List (List L)) (b : List (List L)) (c : Int)
def pid : Pt → Nat
  | .p0 .. => 4
def pvs : Pt → List V
  | .p0 a b c => [.sl none 38 a, .sl none 38 b, .int .i64 c]
def phs : Pt → List Root
  | .p0 a b c => []
noncomputable def step (J : Pt → Ans) : Pt → Ans
  | .p0 a b c => (bif (decide (c < (a.length : Int))) then (bif (decide ((0 : Int) ≤ c)) then (bif (decide (c < (a.length : Int))) then (bif (decide ((0 : Int) ≤ c)) then (bif (decide (c < (b.length : Int))) then (call (laws_eqSignedS.R (lAt a (Int.toNat c)) (lAt b (Int.toNat c))) fun v1 => (bif (!v1) then ret (false : Bool) else J (.p0 a b (IntKind.i64.wrap (c + 1))))) else none) else none) else none) else none) else ret (true : Bool))
noncomputable def start (J : Pt → Ans) (x0 : List (List L)) (x1 : List (List L)) : Ans := (bif ((x0.length : Int) != (x1.length : Int)) then ret (false : Bool) else J (.p0 x0 x1 0))
def live : Nat → Live := fun i => match i with | 4 => [(0, none), (1, none), (5, none)] | _ => []
def pats : List Pat := [.rd (.sl 38), .rd (.sl 38)]
def res : RP := .one (.rd (.bool))
noncomputable def G : List (Nat × Con) := [(19, laws_eqSignedS.con)]
noncomputable abbrev E : Env := ⟨assoc Tab, conG G, 27⟩
set_option maxRecDepth 100000
theorem step_eq (I : Heads) (p : Pt) : enterC E live I (pid p) (bodyOf Tryz.f51) (stOf (live (pid p)) (pvs p) (phs p)) (doneK E Tryz.f51 res) = step (fun q => I (pid q) (pvs q) (phs q)) p := by
  cases p <;> kernel_rfl
theorem start_eq (I : Heads) (ls : List L) : runC E live I (bodyOf Tryz.f51) (initS pats ls) (doneK E Tryz.f51 res) = start (fun q => I (pid q) (pvs q) (phs q)) (ls.headD .hole).toSl ((dropT 1 ls).headD .hole).toSl := by kernel_rfl
theorem run_eq (n : Nat) (ls : List L) : runF E live Tryz.f51 res n (initS pats ls) = start (iter step n) (ls.headD .hole).toSl ((dropT 1 ls).headD .hole).toSl := runF_iter (id := pid) (vs := pvs) (hs := phs) (step := step) (start := fun J => start J (ls.headD .hole).toSl ((dropT 1 ls).headD .hole).toSl) step_eq (fun I => start_eq I ls) n
noncomputable def md (a0 : List (List MSigned)) (a1 : List (List MSigned)) : Bool := eqB a0 a1
def gd (a0 : List (List MSigned)) (a1 : List (List MSigned)) : Prop := True
def rf (a : List (List MSigned) × List (List MSigned)) : List (List L) × List (List L) := ((a.1.map (lRow MSigned.row)), (a.2.map (lRow MSigned.row)))
theorem rf_inj (a b : List (List MSigned) × List (List MSigned)) (h : rf a = rf b) : a = b := by
  exact (Prod.ext (map_inj (lRow_inj MSigned.row_inj) (congrArg (fun x => x.1) h)) (map_inj (lRow_inj MSigned.row_inj) (congrArg (fun x => x.2) h)))
noncomputable def R (x0 : List (List L)) (x1 : List (List L)) : Option (Bool) := ofM rf (fun a => gd a.1 a.2) (fun a => (md a.1 a.2)) (x0, x1)
theorem R_eq {a0 : List (List MSigned)} {a1 : List (List MSigned)} (h : gd a0 a1) : R (a0.map (lRow MSigned.row)) (a1.map (lRow MSigned.row)) = some (md a0 a1) := ofM_eq (r := rf) (a := (a0, a1)) rf_inj h
theorem okF (a0 : List (List MSigned)) (a1 : List (List MSigned)) (hg : gd a0 a1) (h0 : a0.length ≤ maxLen) (h1 : a1.length ≤ maxLen) : ∃ n, start (iter step n) (a0.map (lRow MSigned.row)) (a1.map (lRow MSigned.row)) = ret ((md a0 a1) : Bool) := by
  unfold start md
  simp only [List.length_map]
  refine eq_list (pt := fun i => Pt.p0 (a0.map (lRow MSigned.row)) (a1.map (lRow MSigned.row)) (i : Int)) (fun hl J i h h2 => ?_) (fun J => ?_)
  · simp only [step, List.length_map, lt_dec h, lt_dec h2, zle_dec, cond_true, toNat_nat, lAt_row h, lAt_row h2]
    rw [wrap_succ h h0]
    rw [call_eq (laws_eqSignedS.R_eq (a0 := a0[i]) (a1 := a1[i]) trivial), laws_eqSignedS.md]
    cases eqB a0[i] a1[i] <;> rfl
  · simp only [step, List.length_map, nlt_dec, cond_false]
noncomputable def sem (ls : List L) : Option (List L) := (R (ls.headD .hole).toSl ((dropT 1 ls).headD .hole).toSl).map RT.enc
theorem ok (ls q : List L) (hl : LOKs Ev.cells pats ls) (h : sem ls = some q) : ∃ n, runF E live Tryz.f51 res n (initS pats ls) = some q := by
  obtain ⟨v, hv, hq⟩ := map_some h
  obtain ⟨⟨a0, a1⟩, hg, e, hm⟩ := ofM_some hv
  simp only [rf, Prod.mk.injEq] at e
  obtain ⟨e0, e1⟩ := e
  obtain ⟨n, hn⟩ := okF a0 a1 hg (by have h : (ls.headD .hole).toSl.length ≤ maxLen := hl.1.len; have e : _ = (ls.headD .hole).toSl := e0; rw [← e] at h; simpa using h) (by have h : ((dropT 1 ls).headD .hole).toSl.length ≤ maxLen := hl.2.1.len; have e : _ = ((dropT 1 ls).headD .hole).toSl := e1; rw [← e] at h; simpa using h)
  refine ⟨n, (run_eq n ls).trans ?_⟩
  rw [← e0, ← e1]
  rw [hn, ← hq, hm]; rfl
noncomputable def con : Con := ⟨pats, res, sem⟩
theorem chk : fnB Tryz.f51 con 27 = true := by kernel_rfl
theorem valid_ : Valid Tryz.prog Ev 51 con := valid mix tab_ok (.cons laws_eqSignedS.valid_ .nil) Tryz.func51 chk live ok
end laws_eqSignedSS
/-! laws.eqFork -/
namespace laws_eqFork
noncomputable def F (x0 : RFork) (x1 : RFork) : Ans := (call (laws_eqSigned.R x0.fBefore x1.fBefore) fun v1 => (bif (!v1) then ret (false : Bool) else (call (laws_eqSigned.R x0.fA x1.fA) fun v2 => (bif (!v2) then ret (false : Bool) else (call (laws_eqSigned.R x0.fB x1.fB) fun v3 => (bif (!v3) then ret (false : Bool) else ret (true : Bool)))))))
def live : Nat → Live := fun _ => []
def pats : List Pat := [.agg [.int .i64, .int .i64, .int .i64, .int .i64, .int .i64, .int .i64, .int .i64, .int .i64, .sl 3, .int .i64, .sl 3, .int .i64, .int .i64, .sl 3, .int .i64, .bool, .sl 179, .int .i64, .int .i64, .int .i64, .int .i64, .int .i64, .int .i64, .int .i64, .int .i64, .sl 3, .int .i64, .sl 3, .int .i64, .int .i64, .sl 3, .int .i64, .bool, .sl 179, .int .i64, .int .i64, .int .i64, .int .i64, .int .i64, .int .i64, .int .i64, .int .i64, .sl 3, .int .i64, .sl 3, .int .i64, .int .i64, .sl 3, .int .i64, .bool, .sl 179], .agg [.int .i64, .int .i64, .int .i64, .int .i64, .int .i64, .int .i64, .int .i64, .int .i64, .sl 3, .int .i64, .sl 3, .int .i64, .int .i64, .sl 3, .int .i64, .bool, .sl 179, .int .i64, .int .i64, .int .i64, .int .i64, .int .i64, .int .i64, .int .i64, .int .i64, .sl 3, .int .i64, .sl 3, .int .i64, .int .i64, .sl 3, .int .i64, .bool, .sl 179, .int .i64, .int .i64, .int .i64, .int .i64, .int .i64, .int .i64, .int .i64, .int .i64, .sl 3, .int .i64, .sl 3, .int .i64, .int .i64, .sl 3, .int .i64, .bool, .sl 179]]
def res : RP := .one (.rd (.bool))
noncomputable def G : List (Nat × Con) := [(57, laws_eqSigned.con)]
noncomputable abbrev E : Env := ⟨assoc Tab, conG G, 23⟩
set_option maxRecDepth 100000
theorem run_eq (n : Nat) (ls : List L) : runF E live Tryz.f97 res n (initS pats ls) = F (RFork.dec ls) (RFork.dec (dropT 51 ls)) := by kernel_rfl
noncomputable def md (a0 : MFork) (a1 : MFork) : Bool := eqB a0 a1
def gd (a0 : MFork) (a1 : MFork) : Prop := True
def rf (a : MFork × MFork) : RFork × RFork := ((MFork.r a.1), (MFork.r a.2))
theorem rf_inj (a b : MFork × MFork) (h : rf a = rf b) : a = b := by
  exact (Prod.ext (MFork.r_inj (congrArg (fun x => x.1) h)) (MFork.r_inj (congrArg (fun x => x.2) h)))
noncomputable def R (x0 : RFork) (x1 : RFork) : Option (Bool) := ofM rf (fun a => gd a.1 a.2) (fun a => (md a.1 a.2)) (x0, x1)
theorem R_eq {a0 : MFork} {a1 : MFork} (h : gd a0 a1) : R (MFork.r a0) (MFork.r a1) = some (md a0 a1) := ofM_eq (r := rf) (a := (a0, a1)) rf_inj h
theorem okF (a0 : MFork) (a1 : MFork) (hg : gd a0 a1) : F (MFork.r a0) (MFork.r a1) = ret ((md a0 a1) : Bool) := by
  unfold md
  show (call (laws_eqSigned.R (MSigned.r a0.fBefore) (MSigned.r a1.fBefore)) fun v1 => (bif (!v1) then ret (false : Bool) else (call (laws_eqSigned.R (MSigned.r a0.fA) (MSigned.r a1.fA)) fun v2 => (bif (!v2) then ret (false : Bool) else (call (laws_eqSigned.R (MSigned.r a0.fB) (MSigned.r a1.fB)) fun v3 => (bif (!v3) then ret (false : Bool) else ret (true : Bool))))))) = _
  simp only [call_eq (laws_eqSigned.R_eq (a0 := a0.fBefore) (a1 := a1.fBefore) trivial), laws_eqSigned.md]
  simp only [call_eq (laws_eqSigned.R_eq (a0 := a0.fA) (a1 := a1.fA) trivial), laws_eqSigned.md]
  simp only [call_eq (laws_eqSigned.R_eq (a0 := a0.fB) (a1 := a1.fB) trivial), laws_eqSigned.md]
  try simp only [bne, int_beq, bool_beq, ba_beq]
  have e : eqB a0 a1 = (eqB a0.fBefore a1.fBefore && (eqB a0.fA a1.fA && (eqB a0.fB a1.fB && true))) := by
    cases a0; cases a1
    rw [Bool.eq_iff_iff]
    simp only [eqB_iff, Bool.and_eq_true, MFork.mk.injEq, and_true]
  rw [e]
  refine and_step fun _ => ?_
  refine and_step fun _ => ?_
  refine and_step fun _ => ?_
  rfl
noncomputable def sem (ls : List L) : Option (List L) := (R (RFork.dec ls) (RFork.dec (dropT 51 ls))).map RT.enc
theorem ok (ls q : List L) (hl : LOKs Ev.cells pats ls) (h : sem ls = some q) : ∃ n, runF E live Tryz.f97 res n (initS pats ls) = some q := by
  obtain ⟨v, hv, hq⟩ := map_some h
  obtain ⟨⟨a0, a1⟩, hg, e, hm⟩ := ofM_some hv
  simp only [rf, Prod.mk.injEq] at e
  obtain ⟨e0, e1⟩ := e
  have hn := okF a0 a1 hg
  refine ⟨0, (run_eq 0 ls).trans ?_⟩
  rw [← e0, ← e1]
  rw [hn, ← hq, hm]; rfl
noncomputable def con : Con := ⟨pats, res, sem⟩
theorem chk : fnB Tryz.f97 con 23 = true := by kernel_rfl
theorem valid_ : Valid Tryz.prog Ev 97 con := valid mix tab_ok (.cons laws_eqSigned.valid_ .nil) Tryz.func97 chk live ok
end laws_eqFork
/-! laws.eqForkS -/
namespace laws_eqForkS
inductive Pt where
  | p0 (a : List (List L)) (b : List (List L)) (c : Int)
def pid : Pt → Nat
  | .p0 .. => 4
def pvs : Pt → List V
  | .p0 a b c => [.sl none 95 a, .sl none 95 b, .int .i64 c]
def phs : Pt → List Root
  | .p0 a b c => []
noncomputable def step (J : Pt → Ans) : Pt → Ans
  | .p0 a b c => (bif (decide (c < (a.length : Int))) then (bif (decide ((0 : Int) ≤ c)) then (bif (decide (c < (a.length : Int))) then (bif (decide ((0 : Int) ≤ c)) then (bif (decide (c < (b.length : Int))) then (call (laws_eqFork.R (RFork.at a (Int.toNat c)) (RFork.at b (Int.toNat c))) fun v1 => (bif (!v1) then ret (false : Bool) else J (.p0 a b (IntKind.i64.wrap (c + 1))))) else none) else none) else none) else none) else ret (true : Bool))
noncomputable def start (J : Pt → Ans) (x0 : List (List L)) (x1 : List (List L)) : Ans := (bif ((x0.length : Int) != (x1.length : Int)) then ret (false : Bool) else J (.p0 x0 x1 0))
def live : Nat → Live := fun i => match i with | 4 => [(0, none), (1, none), (5, none)] | _ => []
def pats : List Pat := [.rd (.sl 95), .rd (.sl 95)]
def res : RP := .one (.rd (.bool))
noncomputable def G : List (Nat × Con) := [(97, laws_eqFork.con)]
noncomputable abbrev E : Env := ⟨assoc Tab, conG G, 27⟩
set_option maxRecDepth 100000
theorem step_eq (I : Heads) (p : Pt) : enterC E live I (pid p) (bodyOf Tryz.f52) (stOf (live (pid p)) (pvs p) (phs p)) (doneK E Tryz.f52 res) = step (fun q => I (pid q) (pvs q) (phs q)) p := by
  cases p <;> kernel_rfl
theorem start_eq (I : Heads) (ls : List L) : runC E live I (bodyOf Tryz.f52) (initS pats ls) (doneK E Tryz.f52 res) = start (fun q => I (pid q) (pvs q) (phs q)) (ls.headD .hole).toSl ((dropT 1 ls).headD .hole).toSl := by kernel_rfl
theorem run_eq (n : Nat) (ls : List L) : runF E live Tryz.f52 res n (initS pats ls) = start (iter step n) (ls.headD .hole).toSl ((dropT 1 ls).headD .hole).toSl := runF_iter (id := pid) (vs := pvs) (hs := phs) (step := step) (start := fun J => start J (ls.headD .hole).toSl ((dropT 1 ls).headD .hole).toSl) step_eq (fun I => start_eq I ls) n
noncomputable def md (a0 : List MFork) (a1 : List MFork) : Bool := eqB a0 a1
def gd (a0 : List MFork) (a1 : List MFork) : Prop := True
def rf (a : List MFork × List MFork) : List (List L) × List (List L) := ((a.1.map MFork.row), (a.2.map MFork.row))
theorem rf_inj (a b : List MFork × List MFork) (h : rf a = rf b) : a = b := by
  exact (Prod.ext (map_inj MFork.row_inj (congrArg (fun x => x.1) h)) (map_inj MFork.row_inj (congrArg (fun x => x.2) h)))
noncomputable def R (x0 : List (List L)) (x1 : List (List L)) : Option (Bool) := ofM rf (fun a => gd a.1 a.2) (fun a => (md a.1 a.2)) (x0, x1)
theorem R_eq {a0 : List MFork} {a1 : List MFork} (h : gd a0 a1) : R (a0.map MFork.row) (a1.map MFork.row) = some (md a0 a1) := ofM_eq (r := rf) (a := (a0, a1)) rf_inj h
theorem okF (a0 : List MFork) (a1 : List MFork) (hg : gd a0 a1) (h0 : a0.length ≤ maxLen) (h1 : a1.length ≤ maxLen) : ∃ n, start (iter step n) (a0.map MFork.row) (a1.map MFork.row) = ret ((md a0 a1) : Bool) := by
  unfold start md
  simp only [List.length_map]
  refine eq_list (pt := fun i => Pt.p0 (a0.map MFork.row) (a1.map MFork.row) (i : Int)) (fun hl J i h h2 => ?_) (fun J => ?_)
  · simp only [step, List.length_map, lt_dec h, lt_dec h2, zle_dec, cond_true, toNat_nat, MFork.at_row h, MFork.at_row h2]
    rw [wrap_succ h h0]
    rw [call_eq (laws_eqFork.R_eq (a0 := a0[i]) (a1 := a1[i]) trivial), laws_eqFork.md]
    cases eqB a0[i] a1[i] <;> rfl
  · simp only [step, List.length_map, nlt_dec, cond_false]
noncomputable def sem (ls : List L) : Option (List L) := (R (ls.headD .hole).toSl ((dropT 1 ls).headD .hole).toSl).map RT.enc
theorem ok (ls q : List L) (hl : LOKs Ev.cells pats ls) (h : sem ls = some q) : ∃ n, runF E live Tryz.f52 res n (initS pats ls) = some q := by
  obtain ⟨v, hv, hq⟩ := map_some h
  obtain ⟨⟨a0, a1⟩, hg, e, hm⟩ := ofM_some hv
  simp only [rf, Prod.mk.injEq] at e
  obtain ⟨e0, e1⟩ := e
  obtain ⟨n, hn⟩ := okF a0 a1 hg (by have h : (ls.headD .hole).toSl.length ≤ maxLen := hl.1.len; have e : _ = (ls.headD .hole).toSl := e0; rw [← e] at h; simpa using h) (by have h : ((dropT 1 ls).headD .hole).toSl.length ≤ maxLen := hl.2.1.len; have e : _ = ((dropT 1 ls).headD .hole).toSl := e1; rw [← e] at h; simpa using h)
  refine ⟨n, (run_eq n ls).trans ?_⟩
  rw [← e0, ← e1]
  rw [hn, ← hq, hm]; rfl
noncomputable def con : Con := ⟨pats, res, sem⟩
theorem chk : fnB Tryz.f52 con 27 = true := by kernel_rfl
theorem valid_ : Valid Tryz.prog Ev 52 con := valid mix tab_ok (.cons laws_eqFork.valid_ .nil) Tryz.func52 chk live ok
end laws_eqForkS
/-! laws.eqKnown -/
namespace laws_eqKnown
noncomputable def F (x0 : RKnown) (x1 : RKnown) : Ans := (call (laws_eqSignedSS.R x0.fChains x1.fChains) fun v1 => (bif (!v1) then ret (false : Bool) else (call (laws_eqForkS.R x0.fForks x1.fForks) fun v2 => (bif (!v2) then ret (false : Bool) else ret (true : Bool)))))
def live : Nat → Live := fun _ => []
def pats : List Pat := [.agg [.sl 38, .sl 95], .agg [.sl 38, .sl 95]]
def res : RP := .one (.rd (.bool))
noncomputable def G : List (Nat × Con) := [(51, laws_eqSignedSS.con), (52, laws_eqForkS.con)]
noncomputable abbrev E : Env := ⟨assoc Tab, conG G, 17⟩
set_option maxRecDepth 100000
theorem run_eq (n : Nat) (ls : List L) : runF E live Tryz.f14 res n (initS pats ls) = F (RKnown.dec ls) (RKnown.dec (dropT 2 ls)) := by kernel_rfl
noncomputable def md (a0 : MKnown) (a1 : MKnown) : Bool := eqB a0 a1
def gd (a0 : MKnown) (a1 : MKnown) : Prop := True
def rf (a : MKnown × MKnown) : RKnown × RKnown := ((MKnown.r a.1), (MKnown.r a.2))
theorem rf_inj (a b : MKnown × MKnown) (h : rf a = rf b) : a = b := by
  exact (Prod.ext (MKnown.r_inj (congrArg (fun x => x.1) h)) (MKnown.r_inj (congrArg (fun x => x.2) h)))
noncomputable def R (x0 : RKnown) (x1 : RKnown) : Option (Bool) := ofM rf (fun a => gd a.1 a.2) (fun a => (md a.1 a.2)) (x0, x1)
theorem R_eq {a0 : MKnown} {a1 : MKnown} (h : gd a0 a1) : R (MKnown.r a0) (MKnown.r a1) = some (md a0 a1) := ofM_eq (r := rf) (a := (a0, a1)) rf_inj h
theorem okF (a0 : MKnown) (a1 : MKnown) (hg : gd a0 a1) : F (MKnown.r a0) (MKnown.r a1) = ret ((md a0 a1) : Bool) := by
  unfold md
  show (call (laws_eqSignedSS.R (a0.fChains.map (lRow MSigned.row)) (a1.fChains.map (lRow MSigned.row))) fun v1 => (bif (!v1) then ret (false : Bool) else (call (laws_eqForkS.R (a0.fForks.map MFork.row) (a1.fForks.map MFork.row)) fun v2 => (bif (!v2) then ret (false : Bool) else ret (true : Bool))))) = _
  simp only [call_eq (laws_eqSignedSS.R_eq (a0 := a0.fChains) (a1 := a1.fChains) trivial), laws_eqSignedSS.md]
  simp only [call_eq (laws_eqForkS.R_eq (a0 := a0.fForks) (a1 := a1.fForks) trivial), laws_eqForkS.md]
  try simp only [bne, int_beq, bool_beq, ba_beq]
  have e : eqB a0 a1 = (eqB a0.fChains a1.fChains && (eqB a0.fForks a1.fForks && true)) := by
    cases a0; cases a1
    rw [Bool.eq_iff_iff]
    simp only [eqB_iff, Bool.and_eq_true, MKnown.mk.injEq, and_true]
  rw [e]
  refine and_step fun _ => ?_
  refine and_step fun _ => ?_
  rfl
noncomputable def sem (ls : List L) : Option (List L) := (R (RKnown.dec ls) (RKnown.dec (dropT 2 ls))).map RT.enc
theorem ok (ls q : List L) (hl : LOKs Ev.cells pats ls) (h : sem ls = some q) : ∃ n, runF E live Tryz.f14 res n (initS pats ls) = some q := by
  obtain ⟨v, hv, hq⟩ := map_some h
  obtain ⟨⟨a0, a1⟩, hg, e, hm⟩ := ofM_some hv
  simp only [rf, Prod.mk.injEq] at e
  obtain ⟨e0, e1⟩ := e
  have hn := okF a0 a1 hg
  refine ⟨0, (run_eq 0 ls).trans ?_⟩
  rw [← e0, ← e1]
  rw [hn, ← hq, hm]; rfl
noncomputable def con : Con := ⟨pats, res, sem⟩
theorem chk : fnB Tryz.f14 con 17 = true := by kernel_rfl
theorem valid_ : Valid Tryz.prog Ev 14 con := valid mix tab_ok (.cons laws_eqSignedSS.valid_ (.cons laws_eqForkS.valid_ .nil)) Tryz.func14 chk live ok
end laws_eqKnown
/-! laws.FnExactMeet -/
namespace laws_FnExactMeet
noncomputable def F (x0 : RKnown) (x1 : List (List L)) : Ans := (call (laws_szKnown.R x0 1048576) fun v1 => (bif (decide (v1 < 0)) then ret (true : Bool) else (call (laws_szSignedS.R x1 v1) fun v2 => (bif (decide (v2 < 0)) then ret (true : Bool) else (call (laws_toKnown.R x0) fun v3 => (call (laws_toSignedS.R x1) fun v4 => (call (spec_Meet.R v3 v4) fun v5 => (call (laws_toKnown.R x0) fun v6 => (call (laws_toSignedS.R x1) fun v7 => (call (impl_Meet.R v6 v7) fun v8 => (bif (v8 != v5) then ret (false : Bool) else (call (laws_toKnown.R x0) fun v9 => (call (laws_eqKnown.R v6 v9) fun v10 => (bif (!v10) then ret (false : Bool) else (call (laws_toSignedS.R x1) fun v11 => (call (laws_eqSignedS.R v7 v11) fun v12 => (bif (!v12) then ret (false : Bool) else ret (true : Bool))))))))))))))))))
def live : Nat → Live := fun _ => []
def pats : List Pat := [.agg [.sl 35, .sl 137], .rd (.sl 108)]
def res : RP := .one (.rd (.bool))
noncomputable def G : List (Nat × Con) := [(10, laws_szKnown.con), (15, laws_szSignedS.con), (12, laws_toKnown.con), (17, laws_toSignedS.con), (16, spec_Meet.con), (18, impl_Meet.con), (14, laws_eqKnown.con), (19, laws_eqSignedS.con)]
noncomputable abbrev E : Env := ⟨assoc Tab, conG G, 45⟩
set_option maxRecDepth 100000
theorem run_eq (n : Nat) (ls : List L) : runF E live Tryz.f4 res n (initS pats ls) = F (RKnown.dec ls) ((dropT 2 ls).headD .hole).toSl := by kernel_rfl
noncomputable def md (a0 : MKnown) (a1 : List MSigned) : Bool := true
def gd (a0 : MKnown) (a1 : List MSigned) : Prop := (MKnown.Sm maxLen a0) ∧ (SmL maxLen (fun y : MSigned => MSigned.Sm maxLen y) a1)
def rf (a : MKnown × List MSigned) : RKnown × List (List L) := ((MKnown.r a.1), (a.2.map MSigned.row))
theorem rf_inj (a b : MKnown × List MSigned) (h : rf a = rf b) : a = b := by
  exact (Prod.ext (MKnown.r_inj (congrArg (fun x => x.1) h)) (map_inj MSigned.row_inj (congrArg (fun x => x.2) h)))
noncomputable def R (x0 : RKnown) (x1 : List (List L)) : Option (Bool) := ofM rf (fun a => gd a.1 a.2) (fun a => (md a.1 a.2)) (x0, x1)
theorem R_eq {a0 : MKnown} {a1 : List MSigned} (h : gd a0 a1) : R (MKnown.r a0) (a1.map MSigned.row) = some (md a0 a1) := ofM_eq (r := rf) (a := (a0, a1)) rf_inj h
theorem okF (a0 : MKnown) (a1 : List MSigned) (hg : gd a0 a1) : F (MKnown.r a0) (a1.map MSigned.row) = ret ((md a0 a1) : Bool) := by
  unfold md
  show (call (laws_szKnown.R (MKnown.r a0) 1048576) fun v1 => (bif (decide (v1 < 0)) then ret (true : Bool) else (call (laws_szSignedS.R (a1.map MSigned.row) v1) fun v2 => (bif (decide (v2 < 0)) then ret (true : Bool) else (call (laws_toKnown.R (MKnown.r a0)) fun v3 => (call (laws_toSignedS.R (a1.map MSigned.row)) fun v4 => (call (spec_Meet.R v3 v4) fun v5 => (call (laws_toKnown.R (MKnown.r a0)) fun v6 => (call (laws_toSignedS.R (a1.map MSigned.row)) fun v7 => (call (impl_Meet.R v6 v7) fun v8 => (bif (v8 != v5) then ret (false : Bool) else (call (laws_toKnown.R (MKnown.r a0)) fun v9 => (call (laws_eqKnown.R v6 v9) fun v10 => (bif (!v10) then ret (false : Bool) else (call (laws_toSignedS.R (a1.map MSigned.row)) fun v11 => (call (laws_eqSignedS.R v7 v11) fun v12 => (bif (!v12) then ret (false : Bool) else ret (true : Bool)))))))))))))))))) = _
  rw [call_eq (laws_szKnown.R_eq (a1 := (1048576 : Int)) ⟨hg.1, by omega, by omega⟩)]
  unfold laws_szKnown.md
  by_cases c0 : (1048576 : Int) < (((MKnown.size a0) : Nat) : Int)
  · rw [szM_neg c0]; rfl
  rw [szM_pos c0, dec_neg (by omega)]
  simp only [cond_false]
  have s0 : MKnown.Sm (2 ^ 20) a0 := (MKnown.Sm_of (by omega))
  rw [call_eq (laws_szSignedS.R_eq (a1 := (1048576 - (((MKnown.size a0) : Nat) : Int) : Int)) ⟨hg.2, by omega, by omega⟩)]
  unfold laws_szSignedS.md
  by_cases c1 : (1048576 - (((MKnown.size a0) : Nat) : Int) : Int) < (((szL (fun y : MSigned => MSigned.size y) a1) : Nat) : Int)
  · rw [szM_neg c1]; rfl
  rw [szM_pos c1, dec_neg (by omega)]
  simp only [cond_false]
  have s1 : SmL (2 ^ 20) (fun y : MSigned => MSigned.Sm (2 ^ 20) y) a1 := (szL_sm (f := fun y : MSigned => MSigned.size y) (by omega) (fun x hx => (MSigned.Sm_of hx)))
  rw [call_eq (laws_toKnown.R_eq (a0 := a0) (MKnown.Sm_mono (by decide) s0))]
  simp only [laws_toKnown.md]
  rw [call_eq (laws_toSignedS.R_eq (a0 := a1) (s1.mono (by decide) (fun x hx => (MSigned.Sm_mono (by decide) hx))))]
  simp only [laws_toSignedS.md]
  rw [call_eq (spec_Meet.R_eq (a0 := a0) (a1 := a1) (by
    have := And.intro trivial trivial
    unfold spec_Meet.gd
    first | exact (MKnown.Sm_mono (by decide) s0) | refine ⟨(MKnown.Sm_mono (by decide) s0), (s1.mono (by decide) (fun x hx => (MSigned.Sm_mono (by decide) hx)))⟩))]
  rw [call_eq (laws_toKnown.R_eq (a0 := a0) (MKnown.Sm_mono (by decide) s0))]
  simp only [laws_toKnown.md]
  rw [call_eq (laws_toSignedS.R_eq (a0 := a1) (s1.mono (by decide) (fun x hx => (MSigned.Sm_mono (by decide) hx))))]
  simp only [laws_toSignedS.md]
  rw [call_eq (impl_Meet.R_eq (a0 := a0) (a1 := a1) (by
    have := And.intro trivial trivial
    unfold impl_Meet.gd
    first | exact (MKnown.Sm_mono (by decide) s0) | refine ⟨(MKnown.Sm_mono (by decide) s0), (s1.mono (by decide) (fun x hx => (MSigned.Sm_mono (by decide) hx)))⟩))]
  try simp only [impl_Meet.br, bne_self_eq_false, beq_self_eq_true, ba_refl, Bool.not_true, cond_false]
  rw [call_eq (laws_toKnown.R_eq (a0 := a0) (MKnown.Sm_mono (by decide) s0))]
  simp only [laws_toKnown.md]
  rw [call_eq (laws_eqKnown.R_eq (a0 := a0) (a1 := a0) trivial)]
  simp only [laws_eqKnown.md, eqB_refl, Bool.not_true, cond_false]
  rw [call_eq (laws_toSignedS.R_eq (a0 := a1) (s1.mono (by decide) (fun x hx => (MSigned.Sm_mono (by decide) hx))))]
  simp only [laws_toSignedS.md]
  rw [call_eq (laws_eqSignedS.R_eq (a0 := a1) (a1 := a1) trivial)]
  simp only [laws_eqSignedS.md, eqB_refl, Bool.not_true, cond_false]
noncomputable def sem (ls : List L) : Option (List L) := (R (RKnown.dec ls) ((dropT 2 ls).headD .hole).toSl).map RT.enc
theorem ok (ls q : List L) (hl : LOKs Ev.cells pats ls) (h : sem ls = some q) : ∃ n, runF E live Tryz.f4 res n (initS pats ls) = some q := by
  obtain ⟨v, hv, hq⟩ := map_some h
  obtain ⟨⟨a0, a1⟩, hg, e, hm⟩ := ofM_some hv
  simp only [rf, Prod.mk.injEq] at e
  obtain ⟨e0, e1⟩ := e
  have hn := okF a0 a1 hg
  refine ⟨0, (run_eq 0 ls).trans ?_⟩
  rw [← e0, ← e1]
  rw [hn, ← hq, hm]; rfl
noncomputable def con : Con := ⟨pats, res, sem⟩
theorem chk : fnB Tryz.f4 con 45 = true := by kernel_rfl
theorem valid_ : Valid Tryz.prog Ev 4 con := valid mix tab_ok (.cons laws_szKnown.valid_ (.cons laws_szSignedS.valid_ (.cons laws_toKnown.valid_ (.cons laws_toSignedS.valid_ (.cons spec_Meet.valid_ (.cons impl_Meet.valid_ (.cons laws_eqKnown.valid_ (.cons laws_eqSignedS.valid_ .nil)))))))) Tryz.func4 chk live ok
theorem MKeys_wf103 (r : List L) (h : WfAll Ev.cells [.sl 3, .int .i64] r) : ∃ x : MKeys, MKeys.row x = r ∧ MKeys.Sm maxLen x := by
  obtain ⟨l0, t0, rfl, g0, h1⟩ := h.uncons
  obtain ⟨x0, rfl, s0⟩ := wf_list (show Ev.cells 3 = [.int .i64] from by kernel_rfl) wf_irow g0
  obtain ⟨l1, t1, rfl, g1, h2⟩ := h1.uncons
  obtain ⟨x1, rfl⟩ := wf_int g1
  obtain rfl := h2.isnil
  exact ⟨⟨x0, x1⟩, rfl, s0⟩
theorem MHead_wf105 (r : List L) (h : WfAll Ev.cells [.int .i64, .int .i64, .int .i64, .int .i64, .int .i64, .int .i64, .int .i64, .int .i64, .sl 3, .int .i64, .sl 3, .int .i64, .int .i64, .sl 3, .int .i64, .bool] r) : ∃ x : MHead, MHead.row x = r ∧ MHead.Sm maxLen x := by
  obtain ⟨l0, t0, rfl, g0, h1⟩ := h.uncons
  obtain ⟨x0, rfl⟩ := wf_int g0
  obtain ⟨l1, t1, rfl, g1, h2⟩ := h1.uncons
  obtain ⟨x1, rfl⟩ := wf_int g1
  obtain ⟨l2, t2, rfl, g2, h3⟩ := h2.uncons
  obtain ⟨x2, rfl⟩ := wf_int g2
  obtain ⟨l3, t3, rfl, g3, h4⟩ := h3.uncons
  obtain ⟨x3, rfl⟩ := wf_int g3
  obtain ⟨l4, t4, rfl, g4, h5⟩ := h4.uncons
  obtain ⟨x4, rfl⟩ := wf_int g4
  obtain ⟨l5, t5, rfl, g5, h6⟩ := h5.uncons
  obtain ⟨x5, rfl⟩ := wf_int g5
  obtain ⟨l6, t6, rfl, g6, h7⟩ := h6.uncons
  obtain ⟨x6, rfl⟩ := wf_int g6
  obtain ⟨l7, t7, rfl, g7, h8⟩ := h7.uncons
  obtain ⟨x7, rfl⟩ := wf_int g7
  obtain ⟨r8, t8, rfl, g8, h9⟩ := WfAll.unapp (a := [.sl 3, .int .i64]) (b := [.sl 3, .int .i64, .int .i64, .sl 3, .int .i64, .bool]) h8
  obtain ⟨x8, rfl, s8⟩ := MKeys_wf103 _ g8
  obtain ⟨r9, t9, rfl, g9, h10⟩ := WfAll.unapp (a := [.sl 3, .int .i64]) (b := [.int .i64, .sl 3, .int .i64, .bool]) h9
  obtain ⟨x9, rfl, s9⟩ := MKeys_wf103 _ g9
  obtain ⟨l10, t10, rfl, g10, h11⟩ := h10.uncons
  obtain ⟨x10, rfl⟩ := wf_int g10
  obtain ⟨r11, t11, rfl, g11, h12⟩ := WfAll.unapp (a := [.sl 3, .int .i64]) (b := [.bool]) h11
  obtain ⟨x11, rfl, s11⟩ := MKeys_wf103 _ g11
  obtain ⟨l12, t12, rfl, g12, h13⟩ := h12.uncons
  obtain ⟨x12, rfl⟩ := wf_bool g12
  obtain rfl := h13.isnil
  exact ⟨⟨x0, x1, x2, x3, x4, x5, x6, x7, x8, x9, x10, x11, x12⟩, rfl, ⟨s8, s9, s11⟩⟩
theorem MSig_wf189 (r : List L) (h : WfAll Ev.cells [.int .i64, .int .i64] r) : ∃ x : MSig, MSig.row x = r ∧ MSig.Sm maxLen x := by
  obtain ⟨l0, t0, rfl, g0, h1⟩ := h.uncons
  obtain ⟨x0, rfl⟩ := wf_int g0
  obtain ⟨l1, t1, rfl, g1, h2⟩ := h1.uncons
  obtain ⟨x1, rfl⟩ := wf_int g1
  obtain rfl := h2.isnil
  exact ⟨⟨x0, x1⟩, rfl, trivial⟩
theorem MSigned_wf108 (r : List L) (h : WfAll Ev.cells [.int .i64, .int .i64, .int .i64, .int .i64, .int .i64, .int .i64, .int .i64, .int .i64, .sl 3, .int .i64, .sl 3, .int .i64, .int .i64, .sl 3, .int .i64, .bool, .sl 189] r) : ∃ x : MSigned, MSigned.row x = r ∧ MSigned.Sm maxLen x := by
  obtain ⟨r0, t0, rfl, g0, h1⟩ := WfAll.unapp (a := [.int .i64, .int .i64, .int .i64, .int .i64, .int .i64, .int .i64, .int .i64, .int .i64, .sl 3, .int .i64, .sl 3, .int .i64, .int .i64, .sl 3, .int .i64, .bool]) (b := [.sl 189]) h
  obtain ⟨x0, rfl, s0⟩ := MHead_wf105 _ g0
  obtain ⟨l1, t1, rfl, g1, h2⟩ := h1.uncons
  obtain ⟨x1, rfl, s1⟩ := wf_list (show Ev.cells 189 = [.int .i64, .int .i64] from by kernel_rfl) MSig_wf189 g1
  obtain rfl := h2.isnil
  exact ⟨⟨x0, x1⟩, rfl, ⟨s0, s1⟩⟩
theorem MFork_wf137 (r : List L) (h : WfAll Ev.cells [.int .i64, .int .i64, .int .i64, .int .i64, .int .i64, .int .i64, .int .i64, .int .i64, .sl 3, .int .i64, .sl 3, .int .i64, .int .i64, .sl 3, .int .i64, .bool, .sl 189, .int .i64, .int .i64, .int .i64, .int .i64, .int .i64, .int .i64, .int .i64, .int .i64, .sl 3, .int .i64, .sl 3, .int .i64, .int .i64, .sl 3, .int .i64, .bool, .sl 189, .int .i64, .int .i64, .int .i64, .int .i64, .int .i64, .int .i64, .int .i64, .int .i64, .sl 3, .int .i64, .sl 3, .int .i64, .int .i64, .sl 3, .int .i64, .bool, .sl 189] r) : ∃ x : MFork, MFork.row x = r ∧ MFork.Sm maxLen x := by
  obtain ⟨r0, t0, rfl, g0, h1⟩ := WfAll.unapp (a := [.int .i64, .int .i64, .int .i64, .int .i64, .int .i64, .int .i64, .int .i64, .int .i64, .sl 3, .int .i64, .sl 3, .int .i64, .int .i64, .sl 3, .int .i64, .bool, .sl 189]) (b := [.int .i64, .int .i64, .int .i64, .int .i64, .int .i64, .int .i64, .int .i64, .int .i64, .sl 3, .int .i64, .sl 3, .int .i64, .int .i64, .sl 3, .int .i64, .bool, .sl 189, .int .i64, .int .i64, .int .i64, .int .i64, .int .i64, .int .i64, .int .i64, .int .i64, .sl 3, .int .i64, .sl 3, .int .i64, .int .i64, .sl 3, .int .i64, .bool, .sl 189]) h
  obtain ⟨x0, rfl, s0⟩ := MSigned_wf108 _ g0
  obtain ⟨r1, t1, rfl, g1, h2⟩ := WfAll.unapp (a := [.int .i64, .int .i64, .int .i64, .int .i64, .int .i64, .int .i64, .int .i64, .int .i64, .sl 3, .int .i64, .sl 3, .int .i64, .int .i64, .sl 3, .int .i64, .bool, .sl 189]) (b := [.int .i64, .int .i64, .int .i64, .int .i64, .int .i64, .int .i64, .int .i64, .int .i64, .sl 3, .int .i64, .sl 3, .int .i64, .int .i64, .sl 3, .int .i64, .bool, .sl 189]) h1
  obtain ⟨x1, rfl, s1⟩ := MSigned_wf108 _ g1
  obtain ⟨r2, t2, rfl, g2, h3⟩ := WfAll.unapp (a := [.int .i64, .int .i64, .int .i64, .int .i64, .int .i64, .int .i64, .int .i64, .int .i64, .sl 3, .int .i64, .sl 3, .int .i64, .int .i64, .sl 3, .int .i64, .bool, .sl 189]) (b := []) h2
  obtain ⟨x2, rfl, s2⟩ := MSigned_wf108 _ g2
  obtain rfl := h3.isnil
  exact ⟨⟨x0, x1, x2⟩, rfl, ⟨s0, s1, s2⟩⟩
theorem MKnown_wf25 (r : List L) (h : WfAll Ev.cells [.sl 35, .sl 137] r) : ∃ x : MKnown, MKnown.row x = r ∧ MKnown.Sm maxLen x := by
  obtain ⟨l0, t0, rfl, g0, h1⟩ := h.uncons
  obtain ⟨x0, rfl, s0⟩ := wf_list (show Ev.cells 35 = [.sl 108] from by kernel_rfl) (wf_lrow (show Ev.cells 108 = [.int .i64, .int .i64, .int .i64, .int .i64, .int .i64, .int .i64, .int .i64, .int .i64, .sl 3, .int .i64, .sl 3, .int .i64, .int .i64, .sl 3, .int .i64, .bool, .sl 189] from by kernel_rfl) MSigned_wf108) g0
  obtain ⟨l1, t1, rfl, g1, h2⟩ := h1.uncons
  obtain ⟨x1, rfl, s1⟩ := wf_list (show Ev.cells 137 = [.int .i64, .int .i64, .int .i64, .int .i64, .int .i64, .int .i64, .int .i64, .int .i64, .sl 3, .int .i64, .sl 3, .int .i64, .int .i64, .sl 3, .int .i64, .bool, .sl 189, .int .i64, .int .i64, .int .i64, .int .i64, .int .i64, .int .i64, .int .i64, .int .i64, .sl 3, .int .i64, .sl 3, .int .i64, .int .i64, .sl 3, .int .i64, .bool, .sl 189, .int .i64, .int .i64, .int .i64, .int .i64, .int .i64, .int .i64, .int .i64, .int .i64, .sl 3, .int .i64, .sl 3, .int .i64, .int .i64, .sl 3, .int .i64, .bool, .sl 189] from by kernel_rfl) MFork_wf137 g1
  obtain rfl := h2.isnil
  exact ⟨⟨x0, x1⟩, rfl, ⟨s0, s1⟩⟩
theorem holds (ls : List L) (h : WfAll Ev.cells ([25, 35].flatMap Ev.cells) ls) : sem ls = some [.bool true] := by
  have hk : [25, 35].flatMap Ev.cells = [.sl 35, .sl 137, .sl 108] := by kernel_rfl
  rw [hk] at h
  obtain ⟨r0, t0, rfl, g0, h1⟩ := WfAll.unapp (a := [.sl 35, .sl 137]) (b := [.sl 108]) h
  obtain ⟨x0, rfl, s0⟩ := MKnown_wf25 _ g0
  obtain ⟨l1, t1, rfl, g1, h2⟩ := h1.uncons
  obtain ⟨x1, rfl, s1⟩ := wf_list (show Ev.cells 108 = [.int .i64, .int .i64, .int .i64, .int .i64, .int .i64, .int .i64, .int .i64, .int .i64, .sl 3, .int .i64, .sl 3, .int .i64, .int .i64, .sl 3, .int .i64, .bool, .sl 189] from by kernel_rfl) MSigned_wf108 g1
  obtain rfl := h2.isnil
  show (R (MKnown.r x0) (x1.map MSigned.row)).map RT.enc = _
  rw [R_eq ⟨s0, s1⟩]
  rfl
end laws_FnExactMeet
end Go.DM
