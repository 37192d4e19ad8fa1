/- What the functions compute that the law reaches, and that the law returns true. Conditions: none. -/
import Derived.Test.YtnnmfhhlebbmiaaGreatTy
import Derived.Test.YtnnmfhhlebbmiaaGreatFnLastsUntilC
import Derived.Test.YtnnmfhhlebbmiaaGreatProg
import Derived.Lib.AppendZerosOnto
import Derived.Lib.Bytealg
import Derived.Laws.Externs
import Derived.Lib.Walk
import Derived.Lib.Hide
import Derived.Lib.Strings
set_option linter.all false
namespace Go.DM
open Go.Proofs
/-! laws.eqAnswer -/
namespace laws_eqAnswer
noncomputable def F (x0 : RAnswer) (x1 : RAnswer) : Ans := (call (laws_eqSignedS.R x0.fChain x1.fChain) fun v1 => (bif (!v1) then ret (false : Bool) else (bif (!(x0.fFound == x1.fFound)) then ret (false : Bool) else (call (laws_eqEntry.R x0.fEntry x1.fEntry) fun v2 => (bif (!v2) then ret (false : Bool) else (call (laws_eqProof.R x0.fProof x1.fProof) fun v3 => (bif (!v3) then ret (false : Bool) else (call (laws_eqGap.R x0.fGap x1.fGap) fun v4 => (bif (!v4) then ret (false : Bool) else ret (true : Bool))))))))))
def live : Nat → Live := fun _ => []
def pats : List Pat := [.agg [.sl 92, .bool, .str, .int .i64, .int .i64, .sl 9, .int .i64, .sl 3, .int .i64, .str, .int .i64, .int .i64, .sl 9, .str, .int .i64, .int .i64, .sl 9, .int .i64, .sl 3, .int .i64, .sl 3], .agg [.sl 92, .bool, .str, .int .i64, .int .i64, .sl 9, .int .i64, .sl 3, .int .i64, .str, .int .i64, .int .i64, .sl 9, .str, .int .i64, .int .i64, .sl 9, .int .i64, .sl 3, .int .i64, .sl 3]]
def res : RP := .one (.rd (.bool))
noncomputable def G : List (Nat × Con) := [(19, laws_eqSignedS.con), (118, laws_eqEntry.con), (214, laws_eqProof.con), (215, laws_eqGap.con)]
noncomputable abbrev E : Env := ⟨assoc Tab, conG G, 34⟩
set_option maxRecDepth 100000
theorem run_eq (n : Nat) (ls : List L) : runF E live Tryz.f167 res n (initS pats ls) = F (RAnswer.dec ls) (RAnswer.dec (dropT 21 ls)) := by kernel_rfl
noncomputable def md (a0 : MAnswer) (a1 : MAnswer) : Bool := eqB a0 a1
def gd (a0 : MAnswer) (a1 : MAnswer) : Prop := True
def rf (a : MAnswer × MAnswer) : RAnswer × RAnswer := ((MAnswer.r a.1), (MAnswer.r a.2))
theorem rf_inj (a b : MAnswer × MAnswer) (h : rf a = rf b) : a = b := by
  exact (Prod.ext (MAnswer.r_inj (congrArg (fun x => x.1) h)) (MAnswer.r_inj (congrArg (fun x => x.2) h)))
noncomputable def R (x0 : RAnswer) (x1 : RAnswer) : Option (Bool) := ofM rf (fun a => gd a.1 a.2) (fun a => (md a.1 a.2)) (x0, x1)
theorem R_eq {a0 : MAnswer} {a1 : MAnswer} (h : gd a0 a1) : R (MAnswer.r a0) (MAnswer.r a1) = some (md a0 a1) := ofM_eq (r := rf) (a := (a0, a1)) rf_inj h
theorem okF (a0 : MAnswer) (a1 : MAnswer) (hg : gd a0 a1) : F (MAnswer.r a0) (MAnswer.r a1) = ret ((md a0 a1) : Bool) := by
  unfold md
  show (call (laws_eqSignedS.R (a0.fChain.map MSigned.row) (a1.fChain.map MSigned.row)) fun v1 => (bif (!v1) then ret (false : Bool) else (bif (!(a0.fFound == a1.fFound)) then ret (false : Bool) else (call (laws_eqEntry.R (MEntry.r a0.fEntry) (MEntry.r a1.fEntry)) fun v2 => (bif (!v2) then ret (false : Bool) else (call (laws_eqProof.R (MProof.r a0.fProof) (MProof.r a1.fProof)) fun v3 => (bif (!v3) then ret (false : Bool) else (call (laws_eqGap.R (MGap.r a0.fGap) (MGap.r a1.fGap)) fun v4 => (bif (!v4) then ret (false : Bool) else ret (true : Bool)))))))))) = _
  simp only [call_eq (laws_eqSignedS.R_eq (a0 := a0.fChain) (a1 := a1.fChain) trivial), laws_eqSignedS.md]
  simp only [call_eq (laws_eqEntry.R_eq (a0 := a0.fEntry) (a1 := a1.fEntry) trivial), laws_eqEntry.md]
  simp only [call_eq (laws_eqProof.R_eq (a0 := a0.fProof) (a1 := a1.fProof) trivial), laws_eqProof.md]
  simp only [call_eq (laws_eqGap.R_eq (a0 := a0.fGap) (a1 := a1.fGap) trivial), laws_eqGap.md]
  try simp only [bne, int_beq, bool_beq, ba_beq]
  have e : eqB a0 a1 = (eqB a0.fChain a1.fChain && (eqB a0.fFound a1.fFound && (eqB a0.fEntry a1.fEntry && (eqB a0.fProof a1.fProof && (eqB a0.fGap a1.fGap && true))))) := by
    cases a0; cases a1
    rw [Bool.eq_iff_iff]
    simp only [eqB_iff, Bool.and_eq_true, MAnswer.mk.injEq, and_true]
  rw [e]
  refine and_step fun _ => ?_
  refine and_step fun _ => ?_
  refine and_step fun _ => ?_
  refine and_step fun _ => ?_
  refine and_step fun _ => ?_
  rfl
noncomputable def sem (ls : List L) : Option (List L) := (R (RAnswer.dec ls) (RAnswer.dec (dropT 21 ls))).map RT.enc
theorem ok (ls q : List L) (hl : LOKs Ev.cells pats ls) (h : sem ls = some q) : ∃ n, runF E live Tryz.f167 res n (initS pats ls) = some q := by
  obtain ⟨v, hv, hq⟩ := map_some h
  obtain ⟨⟨a0, a1⟩, hg, e, hm⟩ := ofM_some hv
  simp only [rf, Prod.mk.injEq] at e
  obtain ⟨e0, e1⟩ := e
  have hn := okF a0 a1 hg
  refine ⟨0, (run_eq 0 ls).trans ?_⟩
  rw [← e0, ← e1]
  rw [hn, ← hq, hm]; rfl
noncomputable def con : Con := ⟨pats, res, sem⟩
theorem chk : fnB Tryz.f167 con 34 = true := by kernel_rfl
theorem valid_ : Valid Tryz.prog Ev 167 con := valid mix tab_ok (.cons laws_eqSignedS.valid_ (.cons laws_eqEntry.valid_ (.cons laws_eqProof.valid_ (.cons laws_eqGap.valid_ .nil)))) Tryz.func167 chk live ok
end laws_eqAnswer
/-! laws.eqStored -/
namespace laws_eqStored
noncomputable def F (x0 : RStored) (x1 : RStored) : Ans := (bif (x0.fZone != x1.fZone) then ret (false : Bool) else (bif (!(x0.fLabel == x1.fLabel)) then ret (false : Bool) else (call (laws_eqAnswer.R x0.fAnswer x1.fAnswer) fun v1 => (bif (!v1) then ret (false : Bool) else ret (true : Bool)))))
def live : Nat → Live := fun _ => []
def pats : List Pat := [.agg [.int .i64, .str, .sl 92, .bool, .str, .int .i64, .int .i64, .sl 9, .int .i64, .sl 3, .int .i64, .str, .int .i64, .int .i64, .sl 9, .str, .int .i64, .int .i64, .sl 9, .int .i64, .sl 3, .int .i64, .sl 3], .agg [.int .i64, .str, .sl 92, .bool, .str, .int .i64, .int .i64, .sl 9, .int .i64, .sl 3, .int .i64, .str, .int .i64, .int .i64, .sl 9, .str, .int .i64, .int .i64, .sl 9, .int .i64, .sl 3, .int .i64, .sl 3]]
def res : RP := .one (.rd (.bool))
noncomputable def G : List (Nat × Con) := [(167, laws_eqAnswer.con)]
noncomputable abbrev E : Env := ⟨assoc Tab, conG G, 21⟩
set_option maxRecDepth 100000
theorem run_eq (n : Nat) (ls : List L) : runF E live Tryz.f125 res n (initS pats ls) = F (RStored.dec ls) (RStored.dec (dropT 23 ls)) := by kernel_rfl
noncomputable def md (a0 : MStored) (a1 : MStored) : Bool := eqB a0 a1
def gd (a0 : MStored) (a1 : MStored) : Prop := True
def rf (a : MStored × MStored) : RStored × RStored := ((MStored.r a.1), (MStored.r a.2))
theorem rf_inj (a b : MStored × MStored) (h : rf a = rf b) : a = b := by
  exact (Prod.ext (MStored.r_inj (congrArg (fun x => x.1) h)) (MStored.r_inj (congrArg (fun x => x.2) h)))
noncomputable def R (x0 : RStored) (x1 : RStored) : Option (Bool) := ofM rf (fun a => gd a.1 a.2) (fun a => (md a.1 a.2)) (x0, x1)
theorem R_eq {a0 : MStored} {a1 : MStored} (h : gd a0 a1) : R (MStored.r a0) (MStored.r a1) = some (md a0 a1) := ofM_eq (r := rf) (a := (a0, a1)) rf_inj h
theorem okF (a0 : MStored) (a1 : MStored) (hg : gd a0 a1) : F (MStored.r a0) (MStored.r a1) = ret ((md a0 a1) : Bool) := by
  unfold md
  show (bif (a0.fZone != a1.fZone) then ret (false : Bool) else (bif (!(a0.fLabel == a1.fLabel)) then ret (false : Bool) else (call (laws_eqAnswer.R (MAnswer.r a0.fAnswer) (MAnswer.r a1.fAnswer)) fun v1 => (bif (!v1) then ret (false : Bool) else ret (true : Bool))))) = _
  simp only [call_eq (laws_eqAnswer.R_eq (a0 := a0.fAnswer) (a1 := a1.fAnswer) trivial), laws_eqAnswer.md]
  try simp only [bne, int_beq, bool_beq, ba_beq]
  have e : eqB a0 a1 = (eqB a0.fZone a1.fZone && (eqB a0.fLabel a1.fLabel && (eqB a0.fAnswer a1.fAnswer && true))) := by
    cases a0; cases a1
    rw [Bool.eq_iff_iff]
    simp only [eqB_iff, Bool.and_eq_true, MStored.mk.injEq, and_true]
  rw [e]
  refine and_step fun _ => ?_
  refine and_step fun _ => ?_
  refine and_step fun _ => ?_
  rfl
noncomputable def sem (ls : List L) : Option (List L) := (R (RStored.dec ls) (RStored.dec (dropT 23 ls))).map RT.enc
theorem ok (ls q : List L) (hl : LOKs Ev.cells pats ls) (h : sem ls = some q) : ∃ n, runF E live Tryz.f125 res n (initS pats ls) = some q := by
  obtain ⟨v, hv, hq⟩ := map_some h
  obtain ⟨⟨a0, a1⟩, hg, e, hm⟩ := ofM_some hv
  simp only [rf, Prod.mk.injEq] at e
  obtain ⟨e0, e1⟩ := e
  have hn := okF a0 a1 hg
  refine ⟨0, (run_eq 0 ls).trans ?_⟩
  rw [← e0, ← e1]
  rw [hn, ← hq, hm]; rfl
noncomputable def con : Con := ⟨pats, res, sem⟩
theorem chk : fnB Tryz.f125 con 21 = true := by kernel_rfl
theorem valid_ : Valid Tryz.prog Ev 125 con := valid mix tab_ok (.cons laws_eqAnswer.valid_ .nil) Tryz.func125 chk live ok
end laws_eqStored
/-! laws.eqStoredS -/
namespace laws_eqStoredS
inductive Pt where
  | p0 (a : List (List L)) (b : List (List L)) (c : Int)
def pid : Pt → Nat
  | .p0 .. => 4
def pvs : Pt → List V
  | .p0 a b c => [.sl none 124 a, .sl none 124 b, .int .i64 c]
def phs : Pt → List Root
  | .p0 a b c => []
noncomputable def step (J : Pt → Ans) : Pt → Ans
  | .p0 a b c => (bif (decide (c < (a.length : Int))) then (bif (decide ((0 : Int) ≤ c)) then (bif (decide (c < (a.length : Int))) then (bif (decide ((0 : Int) ≤ c)) then (bif (decide (c < (b.length : Int))) then (call (laws_eqStored.R (RStored.at a (Int.toNat c)) (RStored.at b (Int.toNat c))) fun v1 => (bif (!v1) then ret (false : Bool) else J (.p0 a b (IntKind.i64.wrap (c + 1))))) else none) else none) else none) else none) else ret (true : Bool))
noncomputable def start (J : Pt → Ans) (x0 : List (List L)) (x1 : List (List L)) : Ans := (bif ((x0.length : Int) != (x1.length : Int)) then ret (false : Bool) else J (.p0 x0 x1 0))
def live : Nat → Live := fun i => match i with | 4 => [(0, none), (1, none), (5, none)] | _ => []
def pats : List Pat := [.rd (.sl 124), .rd (.sl 124)]
def res : RP := .one (.rd (.bool))
noncomputable def G : List (Nat × Con) := [(125, laws_eqStored.con)]
noncomputable abbrev E : Env := ⟨assoc Tab, conG G, 27⟩
set_option maxRecDepth 100000
theorem step_eq (I : Heads) (p : Pt) : enterC E live I (pid p) (bodyOf Tryz.f70) (stOf (live (pid p)) (pvs p) (phs p)) (doneK E Tryz.f70 res) = step (fun q => I (pid q) (pvs q) (phs q)) p := by
  cases p <;> kernel_rfl
theorem start_eq (I : Heads) (ls : List L) : runC E live I (bodyOf Tryz.f70) (initS pats ls) (doneK E Tryz.f70 res) = start (fun q => I (pid q) (pvs q) (phs q)) (ls.headD .hole).toSl ((dropT 1 ls).headD .hole).toSl := by kernel_rfl
theorem run_eq (n : Nat) (ls : List L) : runF E live Tryz.f70 res n (initS pats ls) = start (iter step n) (ls.headD .hole).toSl ((dropT 1 ls).headD .hole).toSl := runF_iter (id := pid) (vs := pvs) (hs := phs) (step := step) (start := fun J => start J (ls.headD .hole).toSl ((dropT 1 ls).headD .hole).toSl) step_eq (fun I => start_eq I ls) n
noncomputable def md (a0 : List MStored) (a1 : List MStored) : Bool := eqB a0 a1
def gd (a0 : List MStored) (a1 : List MStored) : Prop := True
def rf (a : List MStored × List MStored) : List (List L) × List (List L) := ((a.1.map MStored.row), (a.2.map MStored.row))
theorem rf_inj (a b : List MStored × List MStored) (h : rf a = rf b) : a = b := by
  exact (Prod.ext (map_inj MStored.row_inj (congrArg (fun x => x.1) h)) (map_inj MStored.row_inj (congrArg (fun x => x.2) h)))
noncomputable def R (x0 : List (List L)) (x1 : List (List L)) : Option (Bool) := ofM rf (fun a => gd a.1 a.2) (fun a => (md a.1 a.2)) (x0, x1)
theorem R_eq {a0 : List MStored} {a1 : List MStored} (h : gd a0 a1) : R (a0.map MStored.row) (a1.map MStored.row) = some (md a0 a1) := ofM_eq (r := rf) (a := (a0, a1)) rf_inj h
theorem okF (a0 : List MStored) (a1 : List MStored) (hg : gd a0 a1) (h0 : a0.length ≤ maxLen) (h1 : a1.length ≤ maxLen) : ∃ n, start (iter step n) (a0.map MStored.row) (a1.map MStored.row) = ret ((md a0 a1) : Bool) := by
  unfold start md
  simp only [List.length_map]
  refine eq_list (pt := fun i => Pt.p0 (a0.map MStored.row) (a1.map MStored.row) (i : Int)) (fun hl J i h h2 => ?_) (fun J => ?_)
  · simp only [step, List.length_map, lt_dec h, lt_dec h2, zle_dec, cond_true, toNat_nat, MStored.at_row h, MStored.at_row h2]
    rw [wrap_succ h h0]
    rw [call_eq (laws_eqStored.R_eq (a0 := a0[i]) (a1 := a1[i]) trivial), laws_eqStored.md]
    cases eqB a0[i] a1[i] <;> rfl
  · simp only [step, List.length_map, nlt_dec, cond_false]
noncomputable def sem (ls : List L) : Option (List L) := (R (ls.headD .hole).toSl ((dropT 1 ls).headD .hole).toSl).map RT.enc
theorem ok (ls q : List L) (hl : LOKs Ev.cells pats ls) (h : sem ls = some q) : ∃ n, runF E live Tryz.f70 res n (initS pats ls) = some q := by
  obtain ⟨v, hv, hq⟩ := map_some h
  obtain ⟨⟨a0, a1⟩, hg, e, hm⟩ := ofM_some hv
  simp only [rf, Prod.mk.injEq] at e
  obtain ⟨e0, e1⟩ := e
  obtain ⟨n, hn⟩ := okF a0 a1 hg (by have h : (ls.headD .hole).toSl.length ≤ maxLen := hl.1.len; have e : _ = (ls.headD .hole).toSl := e0; rw [← e] at h; simpa using h) (by have h : ((dropT 1 ls).headD .hole).toSl.length ≤ maxLen := hl.2.1.len; have e : _ = ((dropT 1 ls).headD .hole).toSl := e1; rw [← e] at h; simpa using h)
  refine ⟨n, (run_eq n ls).trans ?_⟩
  rw [← e0, ← e1]
  rw [hn, ← hq, hm]; rfl
noncomputable def con : Con := ⟨pats, res, sem⟩
theorem chk : fnB Tryz.f70 con 27 = true := by kernel_rfl
theorem valid_ : Valid Tryz.prog Ev 70 con := valid mix tab_ok (.cons laws_eqStored.valid_ .nil) Tryz.func70 chk live ok
end laws_eqStoredS
/-! laws.eqBundle -/
namespace laws_eqBundle
noncomputable def F (x0 : RBundle) (x1 : RBundle) : Ans := (bif (x0.fRoot != x1.fRoot) then ret (false : Bool) else (call (laws_eqStringS.R x0.fPath x1.fPath) fun v1 => (bif (!v1) then ret (false : Bool) else (call (laws_eqStoredS.R x0.fSteps x1.fSteps) fun v2 => (bif (!v2) then ret (false : Bool) else ret (true : Bool))))))
def live : Nat → Live := fun _ => []
def pats : List Pat := [.agg [.int .i64, .sl 9, .sl 124], .agg [.int .i64, .sl 9, .sl 124]]
def res : RP := .one (.rd (.bool))
noncomputable def G : List (Nat × Con) := [(73, laws_eqStringS.con), (70, laws_eqStoredS.con)]
noncomputable abbrev E : Env := ⟨assoc Tab, conG G, 22⟩
set_option maxRecDepth 100000
theorem run_eq (n : Nat) (ls : List L) : runF E live Tryz.f34 res n (initS pats ls) = F (RBundle.dec ls) (RBundle.dec (dropT 3 ls)) := by kernel_rfl
noncomputable def md (a0 : MBundle) (a1 : MBundle) : Bool := eqB a0 a1
def gd (a0 : MBundle) (a1 : MBundle) : Prop := True
def rf (a : MBundle × MBundle) : RBundle × RBundle := ((MBundle.r a.1), (MBundle.r a.2))
theorem rf_inj (a b : MBundle × MBundle) (h : rf a = rf b) : a = b := by
  exact (Prod.ext (MBundle.r_inj (congrArg (fun x => x.1) h)) (MBundle.r_inj (congrArg (fun x => x.2) h)))
noncomputable def R (x0 : RBundle) (x1 : RBundle) : Option (Bool) := ofM rf (fun a => gd a.1 a.2) (fun a => (md a.1 a.2)) (x0, x1)
theorem R_eq {a0 : MBundle} {a1 : MBundle} (h : gd a0 a1) : R (MBundle.r a0) (MBundle.r a1) = some (md a0 a1) := ofM_eq (r := rf) (a := (a0, a1)) rf_inj h
theorem okF (a0 : MBundle) (a1 : MBundle) (hg : gd a0 a1) : F (MBundle.r a0) (MBundle.r a1) = ret ((md a0 a1) : Bool) := by
  unfold md
  show (bif (a0.fRoot != a1.fRoot) then ret (false : Bool) else (call (laws_eqStringS.R (a0.fPath.map sRow) (a1.fPath.map sRow)) fun v1 => (bif (!v1) then ret (false : Bool) else (call (laws_eqStoredS.R (a0.fSteps.map MStored.row) (a1.fSteps.map MStored.row)) fun v2 => (bif (!v2) then ret (false : Bool) else ret (true : Bool)))))) = _
  simp only [call_eq (laws_eqStringS.R_eq (a0 := a0.fPath) (a1 := a1.fPath) trivial), laws_eqStringS.md]
  simp only [call_eq (laws_eqStoredS.R_eq (a0 := a0.fSteps) (a1 := a1.fSteps) trivial), laws_eqStoredS.md]
  try simp only [bne, int_beq, bool_beq, ba_beq]
  have e : eqB a0 a1 = (eqB a0.fRoot a1.fRoot && (eqB a0.fPath a1.fPath && (eqB a0.fSteps a1.fSteps && true))) := by
    cases a0; cases a1
    rw [Bool.eq_iff_iff]
    simp only [eqB_iff, Bool.and_eq_true, MBundle.mk.injEq, and_true]
  rw [e]
  refine and_step fun _ => ?_
  refine and_step fun _ => ?_
  refine and_step fun _ => ?_
  rfl
noncomputable def sem (ls : List L) : Option (List L) := (R (RBundle.dec ls) (RBundle.dec (dropT 3 ls))).map RT.enc
theorem ok (ls q : List L) (hl : LOKs Ev.cells pats ls) (h : sem ls = some q) : ∃ n, runF E live Tryz.f34 res n (initS pats ls) = some q := by
  obtain ⟨v, hv, hq⟩ := map_some h
  obtain ⟨⟨a0, a1⟩, hg, e, hm⟩ := ofM_some hv
  simp only [rf, Prod.mk.injEq] at e
  obtain ⟨e0, e1⟩ := e
  have hn := okF a0 a1 hg
  refine ⟨0, (run_eq 0 ls).trans ?_⟩
  rw [← e0, ← e1]
  rw [hn, ← hq, hm]; rfl
noncomputable def con : Con := ⟨pats, res, sem⟩
theorem chk : fnB Tryz.f34 con 22 = true := by kernel_rfl
theorem valid_ : Valid Tryz.prog Ev 34 con := valid mix tab_ok (.cons laws_eqStringS.valid_ (.cons laws_eqStoredS.valid_ .nil)) Tryz.func34 chk live ok
end laws_eqBundle
/-! laws.FnExactLastsUntil -/
namespace laws_FnExactLastsUntil
noncomputable def F (x0 : RBundle) : Ans := (call (laws_szBundle.R x0 1048576) fun v1 => (bif (decide (v1 < 0)) then ret (true : Bool) else (call (laws_toBundle.R x0) fun v2 => (call (spec_LastsUntil.R v2) fun v3 => (call (laws_toBundle.R x0) fun v4 => (call (impl_LastsUntil.R v4) fun v5 => (bif (v5 != v3) then ret (false : Bool) else (call (laws_toBundle.R x0) fun v6 => (call (laws_eqBundle.R v4 v6) fun v7 => (bif (!v7) then ret (false : Bool) else ret (true : Bool)))))))))))
def live : Nat → Live := fun _ => []
def pats : List Pat := [.agg [.int .i64, .sl 9, .sl 168]]
def res : RP := .one (.rd (.bool))
noncomputable def G : List (Nat × Con) := [(30, laws_szBundle.con), (32, laws_toBundle.con), (31, spec_LastsUntil.con), (33, impl_LastsUntil.con), (34, laws_eqBundle.con)]
noncomputable abbrev E : Env := ⟨assoc Tab, conG G, 27⟩
set_option maxRecDepth 100000
theorem run_eq (n : Nat) (ls : List L) : runF E live Tryz.f7 res n (initS pats ls) = F (RBundle.dec ls) := by kernel_rfl
noncomputable def md (a0 : MBundle) : Bool := true
def gd (a0 : MBundle) : Prop := (MBundle.Sm maxLen a0)
def rf (a : MBundle) : RBundle := (MBundle.r a)
theorem rf_inj (a b : MBundle) (h : rf a = rf b) : a = b := by
  exact (MBundle.r_inj h)
noncomputable def R (x0 : RBundle) : Option (Bool) := ofM rf (fun a => gd a) (fun a => (md a)) x0
theorem R_eq {a0 : MBundle} (h : gd a0) : R (MBundle.r a0) = some (md a0) := ofM_eq (r := rf) (a := a0) rf_inj h
theorem okF (a0 : MBundle) (hg : gd a0) : F (MBundle.r a0) = ret ((md a0) : Bool) := by
  unfold md
  show (call (laws_szBundle.R (MBundle.r a0) 1048576) fun v1 => (bif (decide (v1 < 0)) then ret (true : Bool) else (call (laws_toBundle.R (MBundle.r a0)) fun v2 => (call (spec_LastsUntil.R v2) fun v3 => (call (laws_toBundle.R (MBundle.r a0)) fun v4 => (call (impl_LastsUntil.R v4) fun v5 => (bif (v5 != v3) then ret (false : Bool) else (call (laws_toBundle.R (MBundle.r a0)) fun v6 => (call (laws_eqBundle.R v4 v6) fun v7 => (bif (!v7) then ret (false : Bool) else ret (true : Bool))))))))))) = _
  rw [call_eq (laws_szBundle.R_eq (a1 := (1048576 : Int)) ⟨hg, by omega, by omega⟩)]
  unfold laws_szBundle.md
  by_cases c0 : (1048576 : Int) < (((MBundle.size a0) : Nat) : Int)
  · rw [szM_neg c0]; rfl
  rw [szM_pos c0, dec_neg (by omega)]
  simp only [cond_false]
  have s0 : MBundle.Sm (2 ^ 20) a0 := (MBundle.Sm_of (by omega))
  rw [call_eq (laws_toBundle.R_eq (a0 := a0) (MBundle.Sm_mono (by decide) s0))]
  simp only [laws_toBundle.md]
  rw [call_eq (spec_LastsUntil.R_eq (a0 := a0) (by
    have := And.intro trivial trivial
    unfold spec_LastsUntil.gd
    first | exact (MBundle.Sm_mono (by decide) s0) | refine ⟨(MBundle.Sm_mono (by decide) s0)⟩))]
  rw [call_eq (laws_toBundle.R_eq (a0 := a0) (MBundle.Sm_mono (by decide) s0))]
  simp only [laws_toBundle.md]
  rw [call_eq (impl_LastsUntil.R_eq (a0 := a0) (by
    have := And.intro trivial trivial
    unfold impl_LastsUntil.gd
    first | exact (MBundle.Sm_mono (by decide) s0) | refine ⟨(MBundle.Sm_mono (by decide) s0)⟩))]
  try simp only [impl_LastsUntil.br, bne_self_eq_false, beq_self_eq_true, ba_refl, Bool.not_true, cond_false]
  rw [call_eq (laws_toBundle.R_eq (a0 := a0) (MBundle.Sm_mono (by decide) s0))]
  simp only [laws_toBundle.md]
  rw [call_eq (laws_eqBundle.R_eq (a0 := a0) (a1 := a0) trivial)]
  simp only [laws_eqBundle.md, eqB_refl, Bool.not_true, cond_false]
noncomputable def sem (ls : List L) : Option (List L) := (R (RBundle.dec ls)).map RT.enc
theorem ok (ls q : List L) (hl : LOKs Ev.cells pats ls) (h : sem ls = some q) : ∃ n, runF E live Tryz.f7 res n (initS pats ls) = some q := by
  obtain ⟨v, hv, hq⟩ := map_some h
  obtain ⟨a0, hg, e, hm⟩ := ofM_some hv
  have e0 : (MBundle.r a0) = _ := e
  have hn := okF a0 hg
  refine ⟨0, (run_eq 0 ls).trans ?_⟩
  rw [← e0]
  rw [hn, ← hq, hm]; rfl
noncomputable def con : Con := ⟨pats, res, sem⟩
theorem chk : fnB Tryz.f7 con 27 = true := by kernel_rfl
theorem valid_ : Valid Tryz.prog Ev 7 con := valid mix tab_ok (.cons laws_szBundle.valid_ (.cons laws_toBundle.valid_ (.cons spec_LastsUntil.valid_ (.cons impl_LastsUntil.valid_ (.cons laws_eqBundle.valid_ .nil))))) Tryz.func7 chk live ok
theorem MKeys_wf103 (r : List L) (h : WfAll Ev.cells [.sl 3, .int .i64] r) : ∃ x : MKeys, MKeys.row x = r ∧ MKeys.Sm maxLen x := by
  obtain ⟨l0, t0, rfl, g0, h1⟩ := h.uncons
  obtain ⟨x0, rfl, s0⟩ := wf_list (show Ev.cells 3 = [.int .i64] from by kernel_rfl) wf_irow g0
  obtain ⟨l1, t1, rfl, g1, h2⟩ := h1.uncons
  obtain ⟨x1, rfl⟩ := wf_int g1
  obtain rfl := h2.isnil
  exact ⟨⟨x0, x1⟩, rfl, s0⟩
theorem MHead_wf105 (r : List L) (h : WfAll Ev.cells [.int .i64, .int .i64, .int .i64, .int .i64, .int .i64, .int .i64, .int .i64, .int .i64, .sl 3, .int .i64, .sl 3, .int .i64, .int .i64, .sl 3, .int .i64, .bool] r) : ∃ x : MHead, MHead.row x = r ∧ MHead.Sm maxLen x := by
  obtain ⟨l0, t0, rfl, g0, h1⟩ := h.uncons
  obtain ⟨x0, rfl⟩ := wf_int g0
  obtain ⟨l1, t1, rfl, g1, h2⟩ := h1.uncons
  obtain ⟨x1, rfl⟩ := wf_int g1
  obtain ⟨l2, t2, rfl, g2, h3⟩ := h2.uncons
  obtain ⟨x2, rfl⟩ := wf_int g2
  obtain ⟨l3, t3, rfl, g3, h4⟩ := h3.uncons
  obtain ⟨x3, rfl⟩ := wf_int g3
  obtain ⟨l4, t4, rfl, g4, h5⟩ := h4.uncons
  obtain ⟨x4, rfl⟩ := wf_int g4
  obtain ⟨l5, t5, rfl, g5, h6⟩ := h5.uncons
  obtain ⟨x5, rfl⟩ := wf_int g5
  obtain ⟨l6, t6, rfl, g6, h7⟩ := h6.uncons
  obtain ⟨x6, rfl⟩ := wf_int g6
  obtain ⟨l7, t7, rfl, g7, h8⟩ := h7.uncons
  obtain ⟨x7, rfl⟩ := wf_int g7
  obtain ⟨r8, t8, rfl, g8, h9⟩ := WfAll.unapp (a := [.sl 3, .int .i64]) (b := [.sl 3, .int .i64, .int .i64, .sl 3, .int .i64, .bool]) h8
  obtain ⟨x8, rfl, s8⟩ := MKeys_wf103 _ g8
  obtain ⟨r9, t9, rfl, g9, h10⟩ := WfAll.unapp (a := [.sl 3, .int .i64]) (b := [.int .i64, .sl 3, .int .i64, .bool]) h9
  obtain ⟨x9, rfl, s9⟩ := MKeys_wf103 _ g9
  obtain ⟨l10, t10, rfl, g10, h11⟩ := h10.uncons
  obtain ⟨x10, rfl⟩ := wf_int g10
  obtain ⟨r11, t11, rfl, g11, h12⟩ := WfAll.unapp (a := [.sl 3, .int .i64]) (b := [.bool]) h11
  obtain ⟨x11, rfl, s11⟩ := MKeys_wf103 _ g11
  obtain ⟨l12, t12, rfl, g12, h13⟩ := h12.uncons
  obtain ⟨x12, rfl⟩ := wf_bool g12
  obtain rfl := h13.isnil
  exact ⟨⟨x0, x1, x2, x3, x4, x5, x6, x7, x8, x9, x10, x11, x12⟩, rfl, ⟨s8, s9, s11⟩⟩
theorem MSig_wf189 (r : List L) (h : WfAll Ev.cells [.int .i64, .int .i64] r) : ∃ x : MSig, MSig.row x = r ∧ MSig.Sm maxLen x := by
  obtain ⟨l0, t0, rfl, g0, h1⟩ := h.uncons
  obtain ⟨x0, rfl⟩ := wf_int g0
  obtain ⟨l1, t1, rfl, g1, h2⟩ := h1.uncons
  obtain ⟨x1, rfl⟩ := wf_int g1
  obtain rfl := h2.isnil
  exact ⟨⟨x0, x1⟩, rfl, trivial⟩
theorem MSigned_wf108 (r : List L) (h : WfAll Ev.cells [.int .i64, .int .i64, .int .i64, .int .i64, .int .i64, .int .i64, .int .i64, .int .i64, .sl 3, .int .i64, .sl 3, .int .i64, .int .i64, .sl 3, .int .i64, .bool, .sl 189] r) : ∃ x : MSigned, MSigned.row x = r ∧ MSigned.Sm maxLen x := by
  obtain ⟨r0, t0, rfl, g0, h1⟩ := WfAll.unapp (a := [.int .i64, .int .i64, .int .i64, .int .i64, .int .i64, .int .i64, .int .i64, .int .i64, .sl 3, .int .i64, .sl 3, .int .i64, .int .i64, .sl 3, .int .i64, .bool]) (b := [.sl 189]) h
  obtain ⟨x0, rfl, s0⟩ := MHead_wf105 _ g0
  obtain ⟨l1, t1, rfl, g1, h2⟩ := h1.uncons
  obtain ⟨x1, rfl, s1⟩ := wf_list (show Ev.cells 189 = [.int .i64, .int .i64] from by kernel_rfl) MSig_wf189 g1
  obtain rfl := h2.isnil
  exact ⟨⟨x0, x1⟩, rfl, ⟨s0, s1⟩⟩
theorem MEntry_wf44 (r : List L) (h : WfAll Ev.cells [.str, .int .i64, .int .i64, .sl 9] r) : ∃ x : MEntry, MEntry.row x = r ∧ MEntry.Sm maxLen x := by
  obtain ⟨l0, t0, rfl, g0, h1⟩ := h.uncons
  obtain ⟨x0, rfl, s0⟩ := wf_str g0
  obtain ⟨l1, t1, rfl, g1, h2⟩ := h1.uncons
  obtain ⟨x1, rfl⟩ := wf_int g1
  obtain ⟨l2, t2, rfl, g2, h3⟩ := h2.uncons
  obtain ⟨x2, rfl⟩ := wf_int g2
  obtain ⟨l3, t3, rfl, g3, h4⟩ := h3.uncons
  obtain ⟨x3, rfl, s3⟩ := wf_list (show Ev.cells 9 = [.str] from by kernel_rfl) wf_srow g3
  obtain rfl := h4.isnil
  exact ⟨⟨x0, x1, x2, x3⟩, rfl, ⟨s0, s3⟩⟩
theorem MProof_wf162 (r : List L) (h : WfAll Ev.cells [.int .i64, .sl 3] r) : ∃ x : MProof, MProof.row x = r ∧ MProof.Sm maxLen x := by
  obtain ⟨l0, t0, rfl, g0, h1⟩ := h.uncons
  obtain ⟨x0, rfl⟩ := wf_int g0
  obtain ⟨l1, t1, rfl, g1, h2⟩ := h1.uncons
  obtain ⟨x1, rfl, s1⟩ := wf_list (show Ev.cells 3 = [.int .i64] from by kernel_rfl) wf_irow g1
  obtain rfl := h2.isnil
  exact ⟨⟨x0, x1⟩, rfl, s1⟩
theorem MGap_wf164 (r : List L) (h : WfAll Ev.cells [.int .i64, .str, .int .i64, .int .i64, .sl 9, .str, .int .i64, .int .i64, .sl 9, .int .i64, .sl 3, .int .i64, .sl 3] r) : ∃ x : MGap, MGap.row x = r ∧ MGap.Sm maxLen x := by
  obtain ⟨l0, t0, rfl, g0, h1⟩ := h.uncons
  obtain ⟨x0, rfl⟩ := wf_int g0
  obtain ⟨r1, t1, rfl, g1, h2⟩ := WfAll.unapp (a := [.str, .int .i64, .int .i64, .sl 9]) (b := [.str, .int .i64, .int .i64, .sl 9, .int .i64, .sl 3, .int .i64, .sl 3]) h1
  obtain ⟨x1, rfl, s1⟩ := MEntry_wf44 _ g1
  obtain ⟨r2, t2, rfl, g2, h3⟩ := WfAll.unapp (a := [.str, .int .i64, .int .i64, .sl 9]) (b := [.int .i64, .sl 3, .int .i64, .sl 3]) h2
  obtain ⟨x2, rfl, s2⟩ := MEntry_wf44 _ g2
  obtain ⟨r3, t3, rfl, g3, h4⟩ := WfAll.unapp (a := [.int .i64, .sl 3]) (b := [.int .i64, .sl 3]) h3
  obtain ⟨x3, rfl, s3⟩ := MProof_wf162 _ g3
  obtain ⟨r4, t4, rfl, g4, h5⟩ := WfAll.unapp (a := [.int .i64, .sl 3]) (b := []) h4
  obtain ⟨x4, rfl, s4⟩ := MProof_wf162 _ g4
  obtain rfl := h5.isnil
  exact ⟨⟨x0, x1, x2, x3, x4⟩, rfl, ⟨s1, s2, s3, s4⟩⟩
theorem MAnswer_wf166 (r : List L) (h : WfAll Ev.cells [.sl 108, .bool, .str, .int .i64, .int .i64, .sl 9, .int .i64, .sl 3, .int .i64, .str, .int .i64, .int .i64, .sl 9, .str, .int .i64, .int .i64, .sl 9, .int .i64, .sl 3, .int .i64, .sl 3] r) : ∃ x : MAnswer, MAnswer.row x = r ∧ MAnswer.Sm maxLen x := by
  obtain ⟨l0, t0, rfl, g0, h1⟩ := h.uncons
  obtain ⟨x0, rfl, s0⟩ := wf_list (show Ev.cells 108 = [.int .i64, .int .i64, .int .i64, .int .i64, .int .i64, .int .i64, .int .i64, .int .i64, .sl 3, .int .i64, .sl 3, .int .i64, .int .i64, .sl 3, .int .i64, .bool, .sl 189] from by kernel_rfl) MSigned_wf108 g0
  obtain ⟨l1, t1, rfl, g1, h2⟩ := h1.uncons
  obtain ⟨x1, rfl⟩ := wf_bool g1
  obtain ⟨r2, t2, rfl, g2, h3⟩ := WfAll.unapp (a := [.str, .int .i64, .int .i64, .sl 9]) (b := [.int .i64, .sl 3, .int .i64, .str, .int .i64, .int .i64, .sl 9, .str, .int .i64, .int .i64, .sl 9, .int .i64, .sl 3, .int .i64, .sl 3]) h2
  obtain ⟨x2, rfl, s2⟩ := MEntry_wf44 _ g2
  obtain ⟨r3, t3, rfl, g3, h4⟩ := WfAll.unapp (a := [.int .i64, .sl 3]) (b := [.int .i64, .str, .int .i64, .int .i64, .sl 9, .str, .int .i64, .int .i64, .sl 9, .int .i64, .sl 3, .int .i64, .sl 3]) h3
  obtain ⟨x3, rfl, s3⟩ := MProof_wf162 _ g3
  obtain ⟨r4, t4, rfl, g4, h5⟩ := WfAll.unapp (a := [.int .i64, .str, .int .i64, .int .i64, .sl 9, .str, .int .i64, .int .i64, .sl 9, .int .i64, .sl 3, .int .i64, .sl 3]) (b := []) h4
  obtain ⟨x4, rfl, s4⟩ := MGap_wf164 _ g4
  obtain rfl := h5.isnil
  exact ⟨⟨x0, x1, x2, x3, x4⟩, rfl, ⟨s0, s2, s3, s4⟩⟩
theorem MStored_wf168 (r : List L) (h : WfAll Ev.cells [.int .i64, .str, .sl 108, .bool, .str, .int .i64, .int .i64, .sl 9, .int .i64, .sl 3, .int .i64, .str, .int .i64, .int .i64, .sl 9, .str, .int .i64, .int .i64, .sl 9, .int .i64, .sl 3, .int .i64, .sl 3] r) : ∃ x : MStored, MStored.row x = r ∧ MStored.Sm maxLen x := by
  obtain ⟨l0, t0, rfl, g0, h1⟩ := h.uncons
  obtain ⟨x0, rfl⟩ := wf_int g0
  obtain ⟨l1, t1, rfl, g1, h2⟩ := h1.uncons
  obtain ⟨x1, rfl, s1⟩ := wf_str g1
  obtain ⟨r2, t2, rfl, g2, h3⟩ := WfAll.unapp (a := [.sl 108, .bool, .str, .int .i64, .int .i64, .sl 9, .int .i64, .sl 3, .int .i64, .str, .int .i64, .int .i64, .sl 9, .str, .int .i64, .int .i64, .sl 9, .int .i64, .sl 3, .int .i64, .sl 3]) (b := []) h2
  obtain ⟨x2, rfl, s2⟩ := MAnswer_wf166 _ g2
  obtain rfl := h3.isnil
  exact ⟨⟨x0, x1, x2⟩, rfl, ⟨s1, s2⟩⟩
theorem MBundle_wf71 (r : List L) (h : WfAll Ev.cells [.int .i64, .sl 9, .sl 168] r) : ∃ x : MBundle, MBundle.row x = r ∧ MBundle.Sm maxLen x := by
  obtain ⟨l0, t0, rfl, g0, h1⟩ := h.uncons
  obtain ⟨x0, rfl⟩ := wf_int g0
  obtain ⟨l1, t1, rfl, g1, h2⟩ := h1.uncons
  obtain ⟨x1, rfl, s1⟩ := wf_list (show Ev.cells 9 = [.str] from by kernel_rfl) wf_srow g1
  obtain ⟨l2, t2, rfl, g2, h3⟩ := h2.uncons
  obtain ⟨x2, rfl, s2⟩ := wf_list (show Ev.cells 168 = [.int .i64, .str, .sl 108, .bool, .str, .int .i64, .int .i64, .sl 9, .int .i64, .sl 3, .int .i64, .str, .int .i64, .int .i64, .sl 9, .str, .int .i64, .int .i64, .sl 9, .int .i64, .sl 3, .int .i64, .sl 3] from by kernel_rfl) MStored_wf168 g2
  obtain rfl := h3.isnil
  exact ⟨⟨x0, x1, x2⟩, rfl, ⟨s1, s2⟩⟩
theorem holds (ls : List L) (h : WfAll Ev.cells ([71].flatMap Ev.cells) ls) : sem ls = some [.bool true] := by
  have hk : [71].flatMap Ev.cells = [.int .i64, .sl 9, .sl 168] := by kernel_rfl
  rw [hk] at h
  obtain ⟨r0, t0, rfl, g0, h1⟩ := WfAll.unapp (a := [.int .i64, .sl 9, .sl 168]) (b := []) h
  obtain ⟨x0, rfl, s0⟩ := MBundle_wf71 _ g0
  obtain rfl := h1.isnil
  show (R (MBundle.r x0)).map RT.enc = _
  rw [R_eq s0]
  rfl
end laws_FnExactLastsUntil
end Go.DM
