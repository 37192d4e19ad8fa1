/- What the functions compute that the law reaches, and that the law returns true. Conditions: none. -/
import Derived.Test.YtnnmfhhlebbmiaaGreatTy
import Derived.Test.YtnnmfhhlebbmiaaGreatFnEqualWalksB
import Derived.Test.YtnnmfhhlebbmiaaGreatProg
import Derived.Lib.AppendZerosOnto
import Derived.Lib.Bytealg
import Derived.Laws.Externs
import Derived.Lib.Walk
import Derived.Lib.Hide
import Derived.Lib.Strings
set_option linter.all false
namespace Go.DM
open Go.Proofs
/-! laws.eqKeys -/
namespace laws_eqKeys
noncomputable def F (x0 : RKeys) (x1 : RKeys) : Ans := (call (laws_eqIntS.R x0.fList x1.fList) fun v1 => (bif (!v1) then ret (false : Bool) else (bif (x0.fNeed != x1.fNeed) then ret (false : Bool) else ret (true : Bool))))
def live : Nat → Live := fun _ => []
def pats : List Pat := [.agg [.sl 3, .int .i64], .agg [.sl 3, .int .i64]]
def res : RP := .one (.rd (.bool))
noncomputable def G : List (Nat × Con) := [(119, laws_eqIntS.con)]
noncomputable abbrev E : Env := ⟨assoc Tab, conG G, 16⟩
set_option maxRecDepth 100000
theorem run_eq (n : Nat) (ls : List L) : runF E live Tryz.f149 res n (initS pats ls) = F (RKeys.dec ls) (RKeys.dec (dropT 2 ls)) := by kernel_rfl
noncomputable def md (a0 : MKeys) (a1 : MKeys) : Bool := eqB a0 a1
def gd (a0 : MKeys) (a1 : MKeys) : Prop := True
def rf (a : MKeys × MKeys) : RKeys × RKeys := ((MKeys.r a.1), (MKeys.r a.2))
theorem rf_inj (a b : MKeys × MKeys) (h : rf a = rf b) : a = b := by
  exact (Prod.ext (MKeys.r_inj (congrArg (fun x => x.1) h)) (MKeys.r_inj (congrArg (fun x => x.2) h)))
noncomputable def R (x0 : RKeys) (x1 : RKeys) : Option (Bool) := ofM rf (fun a => gd a.1 a.2) (fun a => (md a.1 a.2)) (x0, x1)
theorem R_eq {a0 : MKeys} {a1 : MKeys} (h : gd a0 a1) : R (MKeys.r a0) (MKeys.r a1) = some (md a0 a1) := ofM_eq (r := rf) (a := (a0, a1)) rf_inj h
theorem okF (a0 : MKeys) (a1 : MKeys) (hg : gd a0 a1) : F (MKeys.r a0) (MKeys.r a1) = ret ((md a0 a1) : Bool) := by
  unfold md
  show (call (laws_eqIntS.R (a0.fList.map iRow) (a1.fList.map iRow)) fun v1 => (bif (!v1) then ret (false : Bool) else (bif (a0.fNeed != a1.fNeed) then ret (false : Bool) else ret (true : Bool)))) = _
  simp only [call_eq (laws_eqIntS.R_eq (a0 := a0.fList) (a1 := a1.fList) trivial), laws_eqIntS.md]
  try simp only [bne, int_beq, bool_beq, ba_beq]
  have e : eqB a0 a1 = (eqB a0.fList a1.fList && (eqB a0.fNeed a1.fNeed && true)) := by
    cases a0; cases a1
    rw [Bool.eq_iff_iff]
    simp only [eqB_iff, Bool.and_eq_true, MKeys.mk.injEq, and_true]
  rw [e]
  refine and_step fun _ => ?_
  refine and_step fun _ => ?_
  rfl
noncomputable def sem (ls : List L) : Option (List L) := (R (RKeys.dec ls) (RKeys.dec (dropT 2 ls))).map RT.enc
theorem ok (ls q : List L) (hl : LOKs Ev.cells pats ls) (h : sem ls = some q) : ∃ n, runF E live Tryz.f149 res n (initS pats ls) = some q := by
  obtain ⟨v, hv, hq⟩ := map_some h
  obtain ⟨⟨a0, a1⟩, hg, e, hm⟩ := ofM_some hv
  simp only [rf, Prod.mk.injEq] at e
  obtain ⟨e0, e1⟩ := e
  have hn := okF a0 a1 hg
  refine ⟨0, (run_eq 0 ls).trans ?_⟩
  rw [← e0, ← e1]
  rw [hn, ← hq, hm]; rfl
noncomputable def con : Con := ⟨pats, res, sem⟩
theorem chk : fnB Tryz.f149 con 16 = true := by kernel_rfl
theorem valid_ : Valid Tryz.prog Ev 149 con := valid mix tab_ok (.cons laws_eqIntS.valid_ .nil) Tryz.func149 chk live ok
end laws_eqKeys
/-! laws.eqHead -/
namespace laws_eqHead
noncomputable def F (x0 : RHead) (x1 : RHead) : Ans := (bif (x0.fZone != x1.fZone) then ret (false : Bool) else (bif (x0.fEpoch != x1.fEpoch) then ret (false : Bool) else (bif (x0.fKind != x1.fKind) then ret (false : Bool) else (bif (x0.fTime != x1.fTime) then ret (false : Bool) else (bif (x0.fUntil != x1.fUntil) then ret (false : Bool) else (bif (x0.fCount != x1.fCount) then ret (false : Bool) else (bif (x0.fRoot != x1.fRoot) then ret (false : Bool) else (bif (x0.fPrev != x1.fPrev) then ret (false : Bool) else (call (laws_eqKeys.R x0.fKeys x1.fKeys) fun v1 => (bif (!v1) then ret (false : Bool) else (call (laws_eqKeys.R x0.fHeirs x1.fHeirs) fun v2 => (bif (!v2) then ret (false : Bool) else (bif (x0.fWait != x1.fWait) then ret (false : Bool) else (call (laws_eqKeys.R x0.fJudge x1.fJudge) fun v3 => (bif (!v3) then ret (false : Bool) else (bif (!(x0.fFrozen == x1.fFrozen)) then ret (false : Bool) else ret (true : Bool)))))))))))))))))
def live : Nat → Live := fun _ => []
def pats : List Pat := [.agg [.int .i64, .int .i64, .int .i64, .int .i64, .int .i64, .int .i64, .int .i64, .int .i64, .sl 3, .int .i64, .sl 3, .int .i64, .int .i64, .sl 3, .int .i64, .bool], .agg [.int .i64, .int .i64, .int .i64, .int .i64, .int .i64, .int .i64, .int .i64, .int .i64, .sl 3, .int .i64, .sl 3, .int .i64, .int .i64, .sl 3, .int .i64, .bool]]
def res : RP := .one (.rd (.bool))
noncomputable def G : List (Nat × Con) := [(149, laws_eqKeys.con)]
noncomputable abbrev E : Env := ⟨assoc Tab, conG G, 73⟩
set_option maxRecDepth 100000
theorem run_eq (n : Nat) (ls : List L) : runF E live Tryz.f102 res n (initS pats ls) = F (RHead.dec ls) (RHead.dec (dropT 16 ls)) := by kernel_rfl
noncomputable def md (a0 : MHead) (a1 : MHead) : Bool := eqB a0 a1
def gd (a0 : MHead) (a1 : MHead) : Prop := True
def rf (a : MHead × MHead) : RHead × RHead := ((MHead.r a.1), (MHead.r a.2))
theorem rf_inj (a b : MHead × MHead) (h : rf a = rf b) : a = b := by
  exact (Prod.ext (MHead.r_inj (congrArg (fun x => x.1) h)) (MHead.r_inj (congrArg (fun x => x.2) h)))
noncomputable def R (x0 : RHead) (x1 : RHead) : Option (Bool) := ofM rf (fun a => gd a.1 a.2) (fun a => (md a.1 a.2)) (x0, x1)
theorem R_eq {a0 : MHead} {a1 : MHead} (h : gd a0 a1) : R (MHead.r a0) (MHead.r a1) = some (md a0 a1) := ofM_eq (r := rf) (a := (a0, a1)) rf_inj h
theorem okF (a0 : MHead) (a1 : MHead) (hg : gd a0 a1) : F (MHead.r a0) (MHead.r a1) = ret ((md a0 a1) : Bool) := by
  unfold md
  show (bif (a0.fZone != a1.fZone) then ret (false : Bool) else (bif (a0.fEpoch != a1.fEpoch) then ret (false : Bool) else (bif (a0.fKind != a1.fKind) then ret (false : Bool) else (bif (a0.fTime != a1.fTime) then ret (false : Bool) else (bif (a0.fUntil != a1.fUntil) then ret (false : Bool) else (bif (a0.fCount != a1.fCount) then ret (false : Bool) else (bif (a0.fRoot != a1.fRoot) then ret (false : Bool) else (bif (a0.fPrev != a1.fPrev) then ret (false : Bool) else (call (laws_eqKeys.R (MKeys.r a0.fKeys) (MKeys.r a1.fKeys)) fun v1 => (bif (!v1) then ret (false : Bool) else (call (laws_eqKeys.R (MKeys.r a0.fHeirs) (MKeys.r a1.fHeirs)) fun v2 => (bif (!v2) then ret (false : Bool) else (bif (a0.fWait != a1.fWait) then ret (false : Bool) else (call (laws_eqKeys.R (MKeys.r a0.fJudge) (MKeys.r a1.fJudge)) fun v3 => (bif (!v3) then ret (false : Bool) else (bif (!(a0.fFrozen == a1.fFrozen)) then ret (false : Bool) else ret (true : Bool))))))))))))))))) = _
  simp only [call_eq (laws_eqKeys.R_eq (a0 := a0.fKeys) (a1 := a1.fKeys) trivial), laws_eqKeys.md]
  simp only [call_eq (laws_eqKeys.R_eq (a0 := a0.fHeirs) (a1 := a1.fHeirs) trivial), laws_eqKeys.md]
  simp only [call_eq (laws_eqKeys.R_eq (a0 := a0.fJudge) (a1 := a1.fJudge) trivial), laws_eqKeys.md]
  try simp only [bne, int_beq, bool_beq, ba_beq]
  have e : eqB a0 a1 = (eqB a0.fZone a1.fZone && (eqB a0.fEpoch a1.fEpoch && (eqB a0.fKind a1.fKind && (eqB a0.fTime a1.fTime && (eqB a0.fUntil a1.fUntil && (eqB a0.fCount a1.fCount && (eqB a0.fRoot a1.fRoot && (eqB a0.fPrev a1.fPrev && (eqB a0.fKeys a1.fKeys && (eqB a0.fHeirs a1.fHeirs && (eqB a0.fWait a1.fWait && (eqB a0.fJudge a1.fJudge && (eqB a0.fFrozen a1.fFrozen && true))))))))))))) := by
    cases a0; cases a1
    rw [Bool.eq_iff_iff]
    simp only [eqB_iff, Bool.and_eq_true, MHead.mk.injEq, and_true]
  rw [e]
  refine and_step fun _ => ?_
  refine and_step fun _ => ?_
  refine and_step fun _ => ?_
  refine and_step fun _ => ?_
  refine and_step fun _ => ?_
  refine and_step fun _ => ?_
  refine and_step fun _ => ?_
  refine and_step fun _ => ?_
  refine and_step fun _ => ?_
  refine and_step fun _ => ?_
  refine and_step fun _ => ?_
  refine and_step fun _ => ?_
  refine and_step fun _ => ?_
  rfl
noncomputable def sem (ls : List L) : Option (List L) := (R (RHead.dec ls) (RHead.dec (dropT 16 ls))).map RT.enc
theorem ok (ls q : List L) (hl : LOKs Ev.cells pats ls) (h : sem ls = some q) : ∃ n, runF E live Tryz.f102 res n (initS pats ls) = some q := by
  obtain ⟨v, hv, hq⟩ := map_some h
  obtain ⟨⟨a0, a1⟩, hg, e, hm⟩ := ofM_some hv
  simp only [rf, Prod.mk.injEq] at e
  obtain ⟨e0, e1⟩ := e
  have hn := okF a0 a1 hg
  refine ⟨0, (run_eq 0 ls).trans ?_⟩
  rw [← e0, ← e1]
  rw [hn, ← hq, hm]; rfl
noncomputable def con : Con := ⟨pats, res, sem⟩
theorem chk : fnB Tryz.f102 con 73 = true := by kernel_rfl
theorem valid_ : Valid Tryz.prog Ev 102 con := valid mix tab_ok (.cons laws_eqKeys.valid_ .nil) Tryz.func102 chk live ok
end laws_eqHead
/-! laws.eqSig -/
namespace laws_eqSig
noncomputable def F (x0 : MSig) (x1 : MSig) : Ans := (bif (x0.fKey != x1.fKey) then ret (false : Bool) else (bif (x0.fTag != x1.fTag) then ret (false : Bool) else ret (true : Bool)))
def live : Nat → Live := fun _ => []
def pats : List Pat := [.agg [.int .i64, .int .i64], .agg [.int .i64, .int .i64]]
def res : RP := .one (.rd (.bool))
noncomputable def G : List (Nat × Con) := []
noncomputable abbrev E : Env := ⟨assoc Tab, conG G, 15⟩
set_option maxRecDepth 100000
theorem run_eq (n : Nat) (ls : List L) : runF E live Tryz.f150 res n (initS pats ls) = F (MSig.dec ls) (MSig.dec (dropT 2 ls)) := by kernel_rfl
noncomputable def md (a0 : MSig) (a1 : MSig) : Bool := eqB a0 a1
def gd (a0 : MSig) (a1 : MSig) : Prop := True
def rf (a : MSig × MSig) : MSig × MSig := (a.1, a.2)
theorem rf_inj (a b : MSig × MSig) (h : rf a = rf b) : a = b := by
  exact (Prod.ext (congrArg (fun x => x.1) h) (congrArg (fun x => x.2) h))
noncomputable def R (x0 : MSig) (x1 : MSig) : Option (Bool) := ofM rf (fun a => gd a.1 a.2) (fun a => (md a.1 a.2)) (x0, x1)
theorem R_eq {a0 : MSig} {a1 : MSig} (h : gd a0 a1) : R a0 a1 = some (md a0 a1) := ofM_eq (r := rf) (a := (a0, a1)) rf_inj h
theorem okF (a0 : MSig) (a1 : MSig) (hg : gd a0 a1) : F a0 a1 = ret ((md a0 a1) : Bool) := by
  unfold md
  show (bif (a0.fKey != a1.fKey) then ret (false : Bool) else (bif (a0.fTag != a1.fTag) then ret (false : Bool) else ret (true : Bool))) = _
  try simp only [bne, int_beq, bool_beq, ba_beq]
  have e : eqB a0 a1 = (eqB a0.fKey a1.fKey && (eqB a0.fTag a1.fTag && true)) := by
    cases a0; cases a1
    rw [Bool.eq_iff_iff]
    simp only [eqB_iff, Bool.and_eq_true, MSig.mk.injEq, and_true]
  rw [e]
  refine and_step fun _ => ?_
  refine and_step fun _ => ?_
  rfl
noncomputable def sem (ls : List L) : Option (List L) := (R (MSig.dec ls) (MSig.dec (dropT 2 ls))).map RT.enc
theorem ok (ls q : List L) (hl : LOKs Ev.cells pats ls) (h : sem ls = some q) : ∃ n, runF E live Tryz.f150 res n (initS pats ls) = some q := by
  obtain ⟨v, hv, hq⟩ := map_some h
  obtain ⟨⟨a0, a1⟩, hg, e, hm⟩ := ofM_some hv
  simp only [rf, Prod.mk.injEq] at e
  obtain ⟨e0, e1⟩ := e
  have hn := okF a0 a1 hg
  refine ⟨0, (run_eq 0 ls).trans ?_⟩
  rw [← e0, ← e1]
  rw [hn, ← hq, hm]; rfl
noncomputable def con : Con := ⟨pats, res, sem⟩
theorem chk : fnB Tryz.f150 con 15 = true := by kernel_rfl
theorem valid_ : Valid Tryz.prog Ev 150 con := valid mix tab_ok .nil Tryz.func150 chk live ok
end laws_eqSig
/-! laws.eqSigS -/
namespace laws_eqSigS
inductive Pt where
  | p0 (a : List (List L)) (b : List (List L)) (c : Int)
def pid : Pt → Nat
  | .p0 .. => 4
def pvs : Pt → List V
  | .p0 a b c => [.sl none 179 a, .sl none 179 b, .int .i64 c]
def phs : Pt → List Root
  | .p0 a b c => []
noncomputable def step (J : Pt → Ans) : Pt → Ans
  | .p0 a b c => (bif (decide (c < (a.length : Int))) then (bif (decide ((0 : Int) ≤ c)) then (bif (decide (c < (a.length : Int))) then (bif (decide ((0 : Int) ≤ c)) then (bif (decide (c < (b.length : Int))) then (call (laws_eqSig.R (MSig.at a (Int.toNat c)) (MSig.at b (Int.toNat c))) fun v1 => (bif (!v1) then ret (false : Bool) else J (.p0 a b (IntKind.i64.wrap (c + 1))))) else none) else none) else none) else none) else ret (true : Bool))
noncomputable def start (J : Pt → Ans) (x0 : List (List L)) (x1 : List (List L)) : Ans := (bif ((x0.length : Int) != (x1.length : Int)) then ret (false : Bool) else J (.p0 x0 x1 0))
def live : Nat → Live := fun i => match i with | 4 => [(0, none), (1, none), (5, none)] | _ => []
def pats : List Pat := [.rd (.sl 179), .rd (.sl 179)]
def res : RP := .one (.rd (.bool))
noncomputable def G : List (Nat × Con) := [(150, laws_eqSig.con)]
noncomputable abbrev E : Env := ⟨assoc Tab, conG G, 27⟩
set_option maxRecDepth 100000
theorem step_eq (I : Heads) (p : Pt) : enterC E live I (pid p) (bodyOf Tryz.f103) (stOf (live (pid p)) (pvs p) (phs p)) (doneK E Tryz.f103 res) = step (fun q => I (pid q) (pvs q) (phs q)) p := by
  cases p <;> kernel_rfl
theorem start_eq (I : Heads) (ls : List L) : runC E live I (bodyOf Tryz.f103) (initS pats ls) (doneK E Tryz.f103 res) = start (fun q => I (pid q) (pvs q) (phs q)) (ls.headD .hole).toSl ((dropT 1 ls).headD .hole).toSl := by kernel_rfl
theorem run_eq (n : Nat) (ls : List L) : runF E live Tryz.f103 res n (initS pats ls) = start (iter step n) (ls.headD .hole).toSl ((dropT 1 ls).headD .hole).toSl := runF_iter (id := pid) (vs := pvs) (hs := phs) (step := step) (start := fun J => start J (ls.headD .hole).toSl ((dropT 1 ls).headD .hole).toSl) step_eq (fun I => start_eq I ls) n
noncomputable def md (a0 : List MSig) (a1 : List MSig) : Bool := eqB a0 a1
def gd (a0 : List MSig) (a1 : List MSig) : Prop := True
def rf (a : List MSig × List MSig) : List (List L) × List (List L) := ((a.1.map MSig.row), (a.2.map MSig.row))
theorem rf_inj (a b : List MSig × List MSig) (h : rf a = rf b) : a = b := by
  exact (Prod.ext (map_inj MSig.row_inj (congrArg (fun x => x.1) h)) (map_inj MSig.row_inj (congrArg (fun x => x.2) h)))
noncomputable def R (x0 : List (List L)) (x1 : List (List L)) : Option (Bool) := ofM rf (fun a => gd a.1 a.2) (fun a => (md a.1 a.2)) (x0, x1)
theorem R_eq {a0 : List MSig} {a1 : List MSig} (h : gd a0 a1) : R (a0.map MSig.row) (a1.map MSig.row) = some (md a0 a1) := ofM_eq (r := rf) (a := (a0, a1)) rf_inj h
theorem okF (a0 : List MSig) (a1 : List MSig) (hg : gd a0 a1) (h0 : a0.length ≤ maxLen) (h1 : a1.length ≤ maxLen) : ∃ n, start (iter step n) (a0.map MSig.row) (a1.map MSig.row) = ret ((md a0 a1) : Bool) := by
  unfold start md
  simp only [List.length_map]
  refine eq_list (pt := fun i => Pt.p0 (a0.map MSig.row) (a1.map MSig.row) (i : Int)) (fun hl J i h h2 => ?_) (fun J => ?_)
  · simp only [step, List.length_map, lt_dec h, lt_dec h2, zle_dec, cond_true, toNat_nat, MSig.at_row h, MSig.at_row h2]
    rw [wrap_succ h h0]
    rw [call_eq (laws_eqSig.R_eq (a0 := a0[i]) (a1 := a1[i]) trivial), laws_eqSig.md]
    cases eqB a0[i] a1[i] <;> rfl
  · simp only [step, List.length_map, nlt_dec, cond_false]
noncomputable def sem (ls : List L) : Option (List L) := (R (ls.headD .hole).toSl ((dropT 1 ls).headD .hole).toSl).map RT.enc
theorem ok (ls q : List L) (hl : LOKs Ev.cells pats ls) (h : sem ls = some q) : ∃ n, runF E live Tryz.f103 res n (initS pats ls) = some q := by
  obtain ⟨v, hv, hq⟩ := map_some h
  obtain ⟨⟨a0, a1⟩, hg, e, hm⟩ := ofM_some hv
  simp only [rf, Prod.mk.injEq] at e
  obtain ⟨e0, e1⟩ := e
  obtain ⟨n, hn⟩ := okF a0 a1 hg (by have h : (ls.headD .hole).toSl.length ≤ maxLen := hl.1.len; have e : _ = (ls.headD .hole).toSl := e0; rw [← e] at h; simpa using h) (by have h : ((dropT 1 ls).headD .hole).toSl.length ≤ maxLen := hl.2.1.len; have e : _ = ((dropT 1 ls).headD .hole).toSl := e1; rw [← e] at h; simpa using h)
  refine ⟨n, (run_eq n ls).trans ?_⟩
  rw [← e0, ← e1]
  rw [hn, ← hq, hm]; rfl
noncomputable def con : Con := ⟨pats, res, sem⟩
theorem chk : fnB Tryz.f103 con 27 = true := by kernel_rfl
theorem valid_ : Valid Tryz.prog Ev 103 con := valid mix tab_ok (.cons laws_eqSig.valid_ .nil) Tryz.func103 chk live ok
end laws_eqSigS
/-! laws.eqSigned -/
namespace laws_eqSigned
noncomputable def F (x0 : RSigned) (x1 : RSigned) : Ans := (call (laws_eqHead.R x0.fHead x1.fHead) fun v1 => (bif (!v1) then ret (false : Bool) else (call (laws_eqSigS.R x0.fSigs x1.fSigs) fun v2 => (bif (!v2) then ret (false : Bool) else ret (true : Bool)))))
def live : Nat → Live := fun _ => []
def pats : List Pat := [.agg [.int .i64, .int .i64, .int .i64, .int .i64, .int .i64, .int .i64, .int .i64, .int .i64, .sl 3, .int .i64, .sl 3, .int .i64, .int .i64, .sl 3, .int .i64, .bool, .sl 179], .agg [.int .i64, .int .i64, .int .i64, .int .i64, .int .i64, .int .i64, .int .i64, .int .i64, .sl 3, .int .i64, .sl 3, .int .i64, .int .i64, .sl 3, .int .i64, .bool, .sl 179]]
def res : RP := .one (.rd (.bool))
noncomputable def G : List (Nat × Con) := [(102, laws_eqHead.con), (103, laws_eqSigS.con)]
noncomputable abbrev E : Env := ⟨assoc Tab, conG G, 17⟩
set_option maxRecDepth 100000
theorem run_eq (n : Nat) (ls : List L) : runF E live Tryz.f57 res n (initS pats ls) = F (RSigned.dec ls) (RSigned.dec (dropT 17 ls)) := by kernel_rfl
noncomputable def md (a0 : MSigned) (a1 : MSigned) : Bool := eqB a0 a1
def gd (a0 : MSigned) (a1 : MSigned) : Prop := True
def rf (a : MSigned × MSigned) : RSigned × RSigned := ((MSigned.r a.1), (MSigned.r a.2))
theorem rf_inj (a b : MSigned × MSigned) (h : rf a = rf b) : a = b := by
  exact (Prod.ext (MSigned.r_inj (congrArg (fun x => x.1) h)) (MSigned.r_inj (congrArg (fun x => x.2) h)))
noncomputable def R (x0 : RSigned) (x1 : RSigned) : Option (Bool) := ofM rf (fun a => gd a.1 a.2) (fun a => (md a.1 a.2)) (x0, x1)
theorem R_eq {a0 : MSigned} {a1 : MSigned} (h : gd a0 a1) : R (MSigned.r a0) (MSigned.r a1) = some (md a0 a1) := ofM_eq (r := rf) (a := (a0, a1)) rf_inj h
theorem okF (a0 : MSigned) (a1 : MSigned) (hg : gd a0 a1) : F (MSigned.r a0) (MSigned.r a1) = ret ((md a0 a1) : Bool) := by
  unfold md
  show (call (laws_eqHead.R (MHead.r a0.fHead) (MHead.r a1.fHead)) fun v1 => (bif (!v1) then ret (false : Bool) else (call (laws_eqSigS.R (a0.fSigs.map MSig.row) (a1.fSigs.map MSig.row)) fun v2 => (bif (!v2) then ret (false : Bool) else ret (true : Bool))))) = _
  simp only [call_eq (laws_eqHead.R_eq (a0 := a0.fHead) (a1 := a1.fHead) trivial), laws_eqHead.md]
  simp only [call_eq (laws_eqSigS.R_eq (a0 := a0.fSigs) (a1 := a1.fSigs) trivial), laws_eqSigS.md]
  try simp only [bne, int_beq, bool_beq, ba_beq]
  have e : eqB a0 a1 = (eqB a0.fHead a1.fHead && (eqB a0.fSigs a1.fSigs && true)) := by
    cases a0; cases a1
    rw [Bool.eq_iff_iff]
    simp only [eqB_iff, Bool.and_eq_true, MSigned.mk.injEq, and_true]
  rw [e]
  refine and_step fun _ => ?_
  refine and_step fun _ => ?_
  rfl
noncomputable def sem (ls : List L) : Option (List L) := (R (RSigned.dec ls) (RSigned.dec (dropT 17 ls))).map RT.enc
theorem ok (ls q : List L) (hl : LOKs Ev.cells pats ls) (h : sem ls = some q) : ∃ n, runF E live Tryz.f57 res n (initS pats ls) = some q := by
  obtain ⟨v, hv, hq⟩ := map_some h
  obtain ⟨⟨a0, a1⟩, hg, e, hm⟩ := ofM_some hv
  simp only [rf, Prod.mk.injEq] at e
  obtain ⟨e0, e1⟩ := e
  have hn := okF a0 a1 hg
  refine ⟨0, (run_eq 0 ls).trans ?_⟩
  rw [← e0, ← e1]
  rw [hn, ← hq, hm]; rfl
noncomputable def con : Con := ⟨pats, res, sem⟩
theorem chk : fnB Tryz.f57 con 17 = true := by kernel_rfl
theorem valid_ : Valid Tryz.prog Ev 57 con := valid mix tab_ok (.cons laws_eqHead.valid_ (.cons laws_eqSigS.valid_ .nil)) Tryz.func57 chk live ok
end laws_eqSigned
/-! laws.eqSignedS -/
namespace laws_eqSignedS
inductive Pt where
  | p0 (a : List (List L)) (b : List (List L)) (c : Int)
def pid : Pt → Nat
  | .p0 .. => 4
def pvs : Pt → List V
  | .p0 a b c => [.sl none 92 a, .sl none 92 b, .int .i64 c]
def phs : Pt → List Root
  | .p0 a b c => []
noncomputable def step (J : Pt → Ans) : Pt → Ans
  | .p0 a b c => (bif (decide (c < (a.length : Int))) then (bif (decide ((0 : Int) ≤ c)) then (bif (decide (c < (a.length : Int))) then (bif (decide ((0 : Int) ≤ c)) then (bif (decide (c < (b.length : Int))) then (call (laws_eqSigned.R (RSigned.at a (Int.toNat c)) (RSigned.at b (Int.toNat c))) fun v1 => (bif (!v1) then ret (false : Bool) else J (.p0 a b (IntKind.i64.wrap (c + 1))))) else none) else none) else none) else none) else ret (true : Bool))
noncomputable def start (J : Pt → Ans) (x0 : List (List L)) (x1 : List (List L)) : Ans := (bif ((x0.length : Int) != (x1.length : Int)) then ret (false : Bool) else J (.p0 x0 x1 0))
def live : Nat → Live := fun i => match i with | 4 => [(0, none), (1, none), (5, none)] | _ => []
def pats : List Pat := [.rd (.sl 92), .rd (.sl 92)]
def res : RP := .one (.rd (.bool))
noncomputable def G : List (Nat × Con) := [(57, laws_eqSigned.con)]
noncomputable abbrev E : Env := ⟨assoc Tab, conG G, 27⟩
set_option maxRecDepth 100000
theorem step_eq (I : Heads) (p : Pt) : enterC E live I (pid p) (bodyOf Tryz.f19) (stOf (live (pid p)) (pvs p) (phs p)) (doneK E Tryz.f19 res) = step (fun q => I (pid q) (pvs q) (phs q)) p := by
  cases p <;> kernel_rfl
theorem start_eq (I : Heads) (ls : List L) : runC E live I (bodyOf Tryz.f19) (initS pats ls) (doneK E Tryz.f19 res) = start (fun q => I (pid q) (pvs q) (phs q)) (ls.headD .hole).toSl ((dropT 1 ls).headD .hole).toSl := by kernel_rfl
theorem run_eq (n : Nat) (ls : List L) : runF E live Tryz.f19 res n (initS pats ls) = start (iter step n) (ls.headD .hole).toSl ((dropT 1 ls).headD .hole).toSl := runF_iter (id := pid) (vs := pvs) (hs := phs) (step := step) (start := fun J => start J (ls.headD .hole).toSl ((dropT 1 ls).headD .hole).toSl) step_eq (fun I => start_eq I ls) n
noncomputable def md (a0 : List MSigned) (a1 : List MSigned) : Bool := eqB a0 a1
def gd (a0 : List MSigned) (a1 : List MSigned) : Prop := True
def rf (a : List MSigned × List MSigned) : List (List L) × List (List L) := ((a.1.map MSigned.row), (a.2.map MSigned.row))
theorem rf_inj (a b : List MSigned × List MSigned) (h : rf a = rf b) : a = b := by
  exact (Prod.ext (map_inj MSigned.row_inj (congrArg (fun x => x.1) h)) (map_inj MSigned.row_inj (congrArg (fun x => x.2) h)))
noncomputable def R (x0 : List (List L)) (x1 : List (List L)) : Option (Bool) := ofM rf (fun a => gd a.1 a.2) (fun a => (md a.1 a.2)) (x0, x1)
theorem R_eq {a0 : List MSigned} {a1 : List MSigned} (h : gd a0 a1) : R (a0.map MSigned.row) (a1.map MSigned.row) = some (md a0 a1) := ofM_eq (r := rf) (a := (a0, a1)) rf_inj h
theorem okF (a0 : List MSigned) (a1 : List MSigned) (hg : gd a0 a1) (h0 : a0.length ≤ maxLen) (h1 : a1.length ≤ maxLen) : ∃ n, start (iter step n) (a0.map MSigned.row) (a1.map MSigned.row) = ret ((md a0 a1) : Bool) := by
  unfold start md
  simp only [List.length_map]
  refine eq_list (pt := fun i => Pt.p0 (a0.map MSigned.row) (a1.map MSigned.row) (i : Int)) (fun hl J i h h2 => ?_) (fun J => ?_)
  · simp only [step, List.length_map, lt_dec h, lt_dec h2, zle_dec, cond_true, toNat_nat, MSigned.at_row h, MSigned.at_row h2]
    rw [wrap_succ h h0]
    rw [call_eq (laws_eqSigned.R_eq (a0 := a0[i]) (a1 := a1[i]) trivial), laws_eqSigned.md]
    cases eqB a0[i] a1[i] <;> rfl
  · simp only [step, List.length_map, nlt_dec, cond_false]
noncomputable def sem (ls : List L) : Option (List L) := (R (ls.headD .hole).toSl ((dropT 1 ls).headD .hole).toSl).map RT.enc
theorem ok (ls q : List L) (hl : LOKs Ev.cells pats ls) (h : sem ls = some q) : ∃ n, runF E live Tryz.f19 res n (initS pats ls) = some q := by
  obtain ⟨v, hv, hq⟩ := map_some h
  obtain ⟨⟨a0, a1⟩, hg, e, hm⟩ := ofM_some hv
  simp only [rf, Prod.mk.injEq] at e
  obtain ⟨e0, e1⟩ := e
  obtain ⟨n, hn⟩ := okF a0 a1 hg (by have h : (ls.headD .hole).toSl.length ≤ maxLen := hl.1.len; have e : _ = (ls.headD .hole).toSl := e0; rw [← e] at h; simpa using h) (by have h : ((dropT 1 ls).headD .hole).toSl.length ≤ maxLen := hl.2.1.len; have e : _ = ((dropT 1 ls).headD .hole).toSl := e1; rw [← e] at h; simpa using h)
  refine ⟨n, (run_eq n ls).trans ?_⟩
  rw [← e0, ← e1]
  rw [hn, ← hq, hm]; rfl
noncomputable def con : Con := ⟨pats, res, sem⟩
theorem chk : fnB Tryz.f19 con 27 = true := by kernel_rfl
theorem valid_ : Valid Tryz.prog Ev 19 con := valid mix tab_ok (.cons laws_eqSigned.valid_ .nil) Tryz.func19 chk live ok
end laws_eqSignedS
/-! laws.eqSignedSS -/
namespace laws_eqSignedSS
inductive Pt where
  | p0 (a : List (List L)) (b : List (List L)) (c : Int)
def pid : Pt → Nat
  | .p0 .. => 4
def pvs : Pt → List V
  | .p0 a b c => [.sl none 38 a, .sl none 38 b, .int .i64 c]
def phs : Pt → List Root
  | .p0 a b c => []
noncomputable def step (J : Pt → Ans) : Pt → Ans
  | .p0 a b c => (bif (decide (c < (a.length : Int))) then (bif (decide ((0 : Int) ≤ c)) then (bif (decide (c < (a.length : Int))) then (bif (decide ((0 : Int) ≤ c)) then (bif (decide (c < (b.length : Int))) then (call (laws_eqSignedS.R (lAt a (Int.toNat c)) (lAt b (Int.toNat c))) fun v1 => (bif (!v1) then ret (false : Bool) else J (.p0 a b (IntKind.i64.wrap (c + 1))))) else none) else none) else none) else none) else ret (true : Bool))
noncomputable def start (J : Pt → Ans) (x0 : List (List L)) (x1 : List (List L)) : Ans := (bif ((x0.length : Int) != (x1.length : Int)) then ret (false : Bool) else J (.p0 x0 x1 0))
def live : Nat → Live := fun i => match i with | 4 => [(0, none), (1, none), (5, none)] | _ => []
def pats : List Pat := [.rd (.sl 38), .rd (.sl 38)]
def res : RP := .one (.rd (.bool))
noncomputable def G : List (Nat × Con) := [(19, laws_eqSignedS.con)]
noncomputable abbrev E : Env := ⟨assoc Tab, conG G, 27⟩
set_option maxRecDepth 100000
theorem step_eq (I : Heads) (p : Pt) : enterC E live I (pid p) (bodyOf Tryz.f51) (stOf (live (pid p)) (pvs p) (phs p)) (doneK E Tryz.f51 res) = step (fun q => I (pid q) (pvs q) (phs q)) p := by
  cases p <;> kernel_rfl
theorem start_eq (I : Heads) (ls : List L) : runC E live I (bodyOf Tryz.f51) (initS pats ls) (doneK E Tryz.f51 res) = start (fun q => I (pid q) (pvs q) (phs q)) (ls.headD .hole).toSl ((dropT 1 ls).headD .hole).toSl := by kernel_rfl
theorem run_eq (n : Nat) (ls : List L) : runF E live Tryz.f51 res n (initS pats ls) = start (iter step n) (ls.headD .hole).toSl ((dropT 1 ls).headD .hole).toSl := runF_iter (id := pid) (vs := pvs) (hs := phs) (step := step) (start := fun J => start J (ls.headD .hole).toSl ((dropT 1 ls).headD .hole).toSl) step_eq (fun I => start_eq I ls) n
noncomputable def md (a0 : List (List MSigned)) (a1 : List (List MSigned)) : Bool := eqB a0 a1
def gd (a0 : List (List MSigned)) (a1 : List (List MSigned)) : Prop := True
def rf (a : List (List MSigned) × List (List MSigned)) : List (List L) × List (List L) := ((a.1.map (lRow MSigned.row)), (a.2.map (lRow MSigned.row)))
theorem rf_inj (a b : List (List MSigned) × List (List MSigned)) (h : rf a = rf b) : a = b := by
  exact (Prod.ext (map_inj (lRow_inj MSigned.row_inj) (congrArg (fun x => x.1) h)) (map_inj (lRow_inj MSigned.row_inj) (congrArg (fun x => x.2) h)))
noncomputable def R (x0 : List (List L)) (x1 : List (List L)) : Option (Bool) := ofM rf (fun a => gd a.1 a.2) (fun a => (md a.1 a.2)) (x0, x1)
theorem R_eq {a0 : List (List MSigned)} {a1 : List (List MSigned)} (h : gd a0 a1) : R (a0.map (lRow MSigned.row)) (a1.map (lRow MSigned.row)) = some (md a0 a1) := ofM_eq (r := rf) (a := (a0, a1)) rf_inj h
theorem okF (a0 : List (List MSigned)) (a1 : List (List MSigned)) (hg : gd a0 a1) (h0 : a0.length ≤ maxLen) (h1 : a1.length ≤ maxLen) : ∃ n, start (iter step n) (a0.map (lRow MSigned.row)) (a1.map (lRow MSigned.row)) = ret ((md a0 a1) : Bool) := by
  unfold start md
  simp only [List.length_map]
  refine eq_list (pt := fun i => Pt.p0 (a0.map (lRow MSigned.row)) (a1.map (lRow MSigned.row)) (i : Int)) (fun hl J i h h2 => ?_) (fun J => ?_)
  · simp only [step, List.length_map, lt_dec h, lt_dec h2, zle_dec, cond_true, toNat_nat, lAt_row h, lAt_row h2]
    rw [wrap_succ h h0]
    rw [call_eq (laws_eqSignedS.R_eq (a0 := a0[i]) (a1 := a1[i]) trivial), laws_eqSignedS.md]
    cases eqB a0[i] a1[i] <;> rfl
  · simp only [step, List.length_map, nlt_dec, cond_false]
noncomputable def sem (ls : List L) : Option (List L) := (R (ls.headD .hole).toSl ((dropT 1 ls).headD .hole).toSl).map RT.enc
theorem ok (ls q : List L) (hl : LOKs Ev.cells pats ls) (h : sem ls = some q) : ∃ n, runF E live Tryz.f51 res n (initS pats ls) = some q := by
  obtain ⟨v, hv, hq⟩ := map_some h
  obtain ⟨⟨a0, a1⟩, hg, e, hm⟩ := ofM_some hv
  simp only [rf, Prod.mk.injEq] at e
  obtain ⟨e0, e1⟩ := e
  obtain ⟨n, hn⟩ := okF a0 a1 hg (by have h : (ls.headD .hole).toSl.length ≤ maxLen := hl.1.len; have e : _ = (ls.headD .hole).toSl := e0; rw [← e] at h; simpa using h) (by have h : ((dropT 1 ls).headD .hole).toSl.length ≤ maxLen := hl.2.1.len; have e : _ = ((dropT 1 ls).headD .hole).toSl := e1; rw [← e] at h; simpa using h)
  refine ⟨n, (run_eq n ls).trans ?_⟩
  rw [← e0, ← e1]
  rw [hn, ← hq, hm]; rfl
noncomputable def con : Con := ⟨pats, res, sem⟩
theorem chk : fnB Tryz.f51 con 27 = true := by kernel_rfl
theorem valid_ : Valid Tryz.prog Ev 51 con := valid mix tab_ok (.cons laws_eqSignedS.valid_ .nil) Tryz.func51 chk live ok
end laws_eqSignedSS
/-! laws.eqFork -/
namespace laws_eqFork
noncomputable def F (x0 : RFork) (x1 : RFork) : Ans := (call (laws_eqSigned.R x0.fBefore x1.fBefore) fun v1 => (bif (!v1) then ret (false : Bool) else (call (laws_eqSigned.R x0.fA x1.fA) fun v2 => (bif (!v2) then ret (false : Bool) else (call (laws_eqSigned.R x0.fB x1.fB) fun v3 => (bif (!v3) then ret (false : Bool) else ret (true : Bool)))))))
def live : Nat → Live := fun _ => []
def pats : List Pat := [.agg [.int .i64, .int .i64, .int .i64, .int .i64, .int .i64, .int .i64, .int .i64, .int .i64, .sl 3, .int .i64, .sl 3, .int .i64, .int .i64, .sl 3, .int .i64, .bool, .sl 179, .int .i64, .int .i64, .int .i64, .int .i64, .int .i64, .int .i64, .int .i64, .int .i64, .sl 3, .int .i64, .sl 3, .int .i64, .int .i64, .sl 3, .int .i64, .bool, .sl 179, .int .i64, .int .i64, .int .i64, .int .i64, .int .i64, .int .i64, .int .i64, .int .i64, .sl 3, .int .i64, .sl 3, .int .i64, .int .i64, .sl 3, .int .i64, .bool, .sl 179], .agg [.int .i64, .int .i64, .int .i64, .int .i64, .int .i64, .int .i64, .int .i64, .int .i64, .sl 3, .int .i64, .sl 3, .int .i64, .int .i64, .sl 3, .int .i64, .bool, .sl 179, .int .i64, .int .i64, .int .i64, .int .i64, .int .i64, .int .i64, .int .i64, .int .i64, .sl 3, .int .i64, .sl 3, .int .i64, .int .i64, .sl 3, .int .i64, .bool, .sl 179, .int .i64, .int .i64, .int .i64, .int .i64, .int .i64, .int .i64, .int .i64, .int .i64, .sl 3, .int .i64, .sl 3, .int .i64, .int .i64, .sl 3, .int .i64, .bool, .sl 179]]
def res : RP := .one (.rd (.bool))
noncomputable def G : List (Nat × Con) := [(57, laws_eqSigned.con)]
noncomputable abbrev E : Env := ⟨assoc Tab, conG G, 23⟩
set_option maxRecDepth 100000
theorem run_eq (n : Nat) (ls : List L) : runF E live Tryz.f97 res n (initS pats ls) = F (RFork.dec ls) (RFork.dec (dropT 51 ls)) := by kernel_rfl
noncomputable def md (a0 : MFork) (a1 : MFork) : Bool := eqB a0 a1
def gd (a0 : MFork) (a1 : MFork) : Prop := True
def rf (a : MFork × MFork) : RFork × RFork := ((MFork.r a.1), (MFork.r a.2))
theorem rf_inj (a b : MFork × MFork) (h : rf a = rf b) : a = b := by
  exact (Prod.ext (MFork.r_inj (congrArg (fun x => x.1) h)) (MFork.r_inj (congrArg (fun x => x.2) h)))
noncomputable def R (x0 : RFork) (x1 : RFork) : Option (Bool) := ofM rf (fun a => gd a.1 a.2) (fun a => (md a.1 a.2)) (x0, x1)
theorem R_eq {a0 : MFork} {a1 : MFork} (h : gd a0 a1) : R (MFork.r a0) (MFork.r a1) = some (md a0 a1) := ofM_eq (r := rf) (a := (a0, a1)) rf_inj h
theorem okF (a0 : MFork) (a1 : MFork) (hg : gd a0 a1) : F (MFork.r a0) (MFork.r a1) = ret ((md a0 a1) : Bool) := by
  unfold md
  show (call (laws_eqSigned.R (MSigned.r a0.fBefore) (MSigned.r a1.fBefore)) fun v1 => (bif (!v1) then ret (false : Bool) else (call (laws_eqSigned.R (MSigned.r a0.fA) (MSigned.r a1.fA)) fun v2 => (bif (!v2) then ret (false : Bool) else (call (laws_eqSigned.R (MSigned.r a0.fB) (MSigned.r a1.fB)) fun v3 => (bif (!v3) then ret (false : Bool) else ret (true : Bool))))))) = _
  simp only [call_eq (laws_eqSigned.R_eq (a0 := a0.fBefore) (a1 := a1.fBefore) trivial), laws_eqSigned.md]
  simp only [call_eq (laws_eqSigned.R_eq (a0 := a0.fA) (a1 := a1.fA) trivial), laws_eqSigned.md]
  simp only [call_eq (laws_eqSigned.R_eq (a0 := a0.fB) (a1 := a1.fB) trivial), laws_eqSigned.md]
  try simp only [bne, int_beq, bool_beq, ba_beq]
  have e : eqB a0 a1 = (eqB a0.fBefore a1.fBefore && (eqB a0.fA a1.fA && (eqB a0.fB a1.fB && true))) := by
    cases a0; cases a1
    rw [Bool.eq_iff_iff]
    simp only [eqB_iff, Bool.and_eq_true, MFork.mk.injEq, and_true]
  rw [e]
  refine and_step fun _ => ?_
  refine and_step fun _ => ?_
  refine and_step fun _ => ?_
  rfl
noncomputable def sem (ls : List L) : Option (List L) := (R (RFork.dec ls) (RFork.dec (dropT 51 ls))).map RT.enc
theorem ok (ls q : List L) (hl : LOKs Ev.cells pats ls) (h : sem ls = some q) : ∃ n, runF E live Tryz.f97 res n (initS pats ls) = some q := by
  obtain ⟨v, hv, hq⟩ := map_some h
  obtain ⟨⟨a0, a1⟩, hg, e, hm⟩ := ofM_some hv
  simp only [rf, Prod.mk.injEq] at e
  obtain ⟨e0, e1⟩ := e
  have hn := okF a0 a1 hg
  refine ⟨0, (run_eq 0 ls).trans ?_⟩
  rw [← e0, ← e1]
  rw [hn, ← hq, hm]; rfl
noncomputable def con : Con := ⟨pats, res, sem⟩
theorem chk : fnB Tryz.f97 con 23 = true := by kernel_rfl
theorem valid_ : Valid Tryz.prog Ev 97 con := valid mix tab_ok (.cons laws_eqSigned.valid_ .nil) Tryz.func97 chk live ok
end laws_eqFork
/-! laws.eqForkS -/
namespace laws_eqForkS
inductive Pt where
  | p0 (a : List (List L)) (b : List (List L)) (c : Int)
def pid : Pt → Nat
  | .p0 .. => 4
def pvs : Pt → List V
  | .p0 a b c => [.sl none 95 a, .sl none 95 b, .int .i64 c]
def phs : Pt → List Root
  | .p0 a b c => []
noncomputable def step (J : Pt → Ans) : Pt → Ans
  | .p0 a b c => (bif (decide (c < (a.length : Int))) then (bif (decide ((0 : Int) ≤ c)) then (bif (decide (c < (a.length : Int))) then (bif (decide ((0 : Int) ≤ c)) then (bif (decide (c < (b.length : Int))) then (call (laws_eqFork.R (RFork.at a (Int.toNat c)) (RFork.at b (Int.toNat c))) fun v1 => (bif (!v1) then ret (false : Bool) else J (.p0 a b (IntKind.i64.wrap (c + 1))))) else none) else none) else none) else none) else ret (true : Bool))
noncomputable def start (J : Pt → Ans) (x0 : List (List L)) (x1 : List (List L)) : Ans := (bif ((x0.length : Int) != (x1.length : Int)) then ret (false : Bool) else J (.p0 x0 x1 0))
def live : Nat → Live := fun i => match i with | 4 => [(0, none), (1, none), (5, none)] | _ => []
def pats : List Pat := [.rd (.sl 95), .rd (.sl 95)]
def res : RP := .one (.rd (.bool))
noncomputable def G : List (Nat × Con) := [(97, laws_eqFork.con)]
noncomputable abbrev E : Env := ⟨assoc Tab, conG G, 27⟩
set_option maxRecDepth 100000
theorem step_eq (I : Heads) (p : Pt) : enterC E live I (pid p) (bodyOf Tryz.f52) (stOf (live (pid p)) (pvs p) (phs p)) (doneK E Tryz.f52 res) = step (fun q => I (pid q) (pvs q) (phs q)) p := by
  cases p <;> kernel_rfl
theorem start_eq (I : Heads) (ls : List L) : runC E live I (bodyOf Tryz.f52) (initS pats ls) (doneK E Tryz.f52 res) = start (fun q => I (pid q) (pvs q) (phs q)) (ls.headD .hole).toSl ((dropT 1 ls).headD .hole).toSl := by kernel_rfl
theorem run_eq (n : Nat) (ls : List L) : runF E live Tryz.f52 res n (initS pats ls) = start (iter step n) (ls.headD .hole).toSl ((dropT 1 ls).headD .hole).toSl := runF_iter (id := pid) (vs := pvs) (hs := phs) (step := step) (start := fun J => start J (ls.headD .hole).toSl ((dropT 1 ls).headD .hole).toSl) step_eq (fun I => start_eq I ls) n
noncomputable def md (a0 : List MFork) (a1 : List MFork) : Bool := eqB a0 a1
def gd (a0 : List MFork) (a1 : List MFork) : Prop := True
def rf (a : List MFork × List MFork) : List (List L) × List (List L) := ((a.1.map MFork.row), (a.2.map MFork.row))
theorem rf_inj (a b : List MFork × List MFork) (h : rf a = rf b) : a = b := by
  exact (Prod.ext (map_inj MFork.row_inj (congrArg (fun x => x.1) h)) (map_inj MFork.row_inj (congrArg (fun x => x.2) h)))
noncomputable def R (x0 : List (List L)) (x1 : List (List L)) : Option (Bool) := ofM rf (fun a => gd a.1 a.2) (fun a => (md a.1 a.2)) (x0, x1)
theorem R_eq {a0 : List MFork} {a1 : List MFork} (h : gd a0 a1) : R (a0.map MFork.row) (a1.map MFork.row) = some (md a0 a1) := ofM_eq (r := rf) (a := (a0, a1)) rf_inj h
theorem okF (a0 : List MFork) (a1 : List MFork) (hg : gd a0 a1) (h0 : a0.length ≤ maxLen) (h1 : a1.length ≤ maxLen) : ∃ n, start (iter step n) (a0.map MFork.row) (a1.map MFork.row) = ret ((md a0 a1) : Bool) := by
  unfold start md
  simp only [List.length_map]
  refine eq_list (pt := fun i => Pt.p0 (a0.map MFork.row) (a1.map MFork.row) (i : Int)) (fun hl J i h h2 => ?_) (fun J => ?_)
  · simp only [step, List.length_map, lt_dec h, lt_dec h2, zle_dec, cond_true, toNat_nat, MFork.at_row h, MFork.at_row h2]
    rw [wrap_succ h h0]
    rw [call_eq (laws_eqFork.R_eq (a0 := a0[i]) (a1 := a1[i]) trivial), laws_eqFork.md]
    cases eqB a0[i] a1[i] <;> rfl
  · simp only [step, List.length_map, nlt_dec, cond_false]
noncomputable def sem (ls : List L) : Option (List L) := (R (ls.headD .hole).toSl ((dropT 1 ls).headD .hole).toSl).map RT.enc
theorem ok (ls q : List L) (hl : LOKs Ev.cells pats ls) (h : sem ls = some q) : ∃ n, runF E live Tryz.f52 res n (initS pats ls) = some q := by
  obtain ⟨v, hv, hq⟩ := map_some h
  obtain ⟨⟨a0, a1⟩, hg, e, hm⟩ := ofM_some hv
  simp only [rf, Prod.mk.injEq] at e
  obtain ⟨e0, e1⟩ := e
  obtain ⟨n, hn⟩ := okF a0 a1 hg (by have h : (ls.headD .hole).toSl.length ≤ maxLen := hl.1.len; have e : _ = (ls.headD .hole).toSl := e0; rw [← e] at h; simpa using h) (by have h : ((dropT 1 ls).headD .hole).toSl.length ≤ maxLen := hl.2.1.len; have e : _ = ((dropT 1 ls).headD .hole).toSl := e1; rw [← e] at h; simpa using h)
  refine ⟨n, (run_eq n ls).trans ?_⟩
  rw [← e0, ← e1]
  rw [hn, ← hq, hm]; rfl
noncomputable def con : Con := ⟨pats, res, sem⟩
theorem chk : fnB Tryz.f52 con 27 = true := by kernel_rfl
theorem valid_ : Valid Tryz.prog Ev 52 con := valid mix tab_ok (.cons laws_eqFork.valid_ .nil) Tryz.func52 chk live ok
end laws_eqForkS
/-! laws.eqKnown -/
namespace laws_eqKnown
noncomputable def F (x0 : RKnown) (x1 : RKnown) : Ans := (call (laws_eqSignedSS.R x0.fChains x1.fChains) fun v1 => (bif (!v1) then ret (false : Bool) else (call (laws_eqForkS.R x0.fForks x1.fForks) fun v2 => (bif (!v2) then ret (false : Bool) else ret (true : Bool)))))
def live : Nat → Live := fun _ => []
def pats : List Pat := [.agg [.sl 38, .sl 95], .agg [.sl 38, .sl 95]]
def res : RP := .one (.rd (.bool))
noncomputable def G : List (Nat × Con) := [(51, laws_eqSignedSS.con), (52, laws_eqForkS.con)]
noncomputable abbrev E : Env := ⟨assoc Tab, conG G, 17⟩
set_option maxRecDepth 100000
theorem run_eq (n : Nat) (ls : List L) : runF E live Tryz.f14 res n (initS pats ls) = F (RKnown.dec ls) (RKnown.dec (dropT 2 ls)) := by kernel_rfl
noncomputable def md (a0 : MKnown) (a1 : MKnown) : Bool := eqB a0 a1
def gd (a0 : MKnown) (a1 : MKnown) : Prop := True
def rf (a : MKnown × MKnown) : RKnown × RKnown := ((MKnown.r a.1), (MKnown.r a.2))
theorem rf_inj (a b : MKnown × MKnown) (h : rf a = rf b) : a = b := by
  exact (Prod.ext (MKnown.r_inj (congrArg (fun x => x.1) h)) (MKnown.r_inj (congrArg (fun x => x.2) h)))
noncomputable def R (x0 : RKnown) (x1 : RKnown) : Option (Bool) := ofM rf (fun a => gd a.1 a.2) (fun a => (md a.1 a.2)) (x0, x1)
theorem R_eq {a0 : MKnown} {a1 : MKnown} (h : gd a0 a1) : R (MKnown.r a0) (MKnown.r a1) = some (md a0 a1) := ofM_eq (r := rf) (a := (a0, a1)) rf_inj h
theorem okF (a0 : MKnown) (a1 : MKnown) (hg : gd a0 a1) : F (MKnown.r a0) (MKnown.r a1) = ret ((md a0 a1) : Bool) := by
  unfold md
  show (call (laws_eqSignedSS.R (a0.fChains.map (lRow MSigned.row)) (a1.fChains.map (lRow MSigned.row))) fun v1 => (bif (!v1) then ret (false : Bool) else (call (laws_eqForkS.R (a0.fForks.map MFork.row) (a1.fForks.map MFork.row)) fun v2 => (bif (!v2) then ret (false : Bool) else ret (true : Bool))))) = _
  simp only [call_eq (laws_eqSignedSS.R_eq (a0 := a0.fChains) (a1 := a1.fChains) trivial), laws_eqSignedSS.md]
  simp only [call_eq (laws_eqForkS.R_eq (a0 := a0.fForks) (a1 := a1.fForks) trivial), laws_eqForkS.md]
  try simp only [bne, int_beq, bool_beq, ba_beq]
  have e : eqB a0 a1 = (eqB a0.fChains a1.fChains && (eqB a0.fForks a1.fForks && true)) := by
    cases a0; cases a1
    rw [Bool.eq_iff_iff]
    simp only [eqB_iff, Bool.and_eq_true, MKnown.mk.injEq, and_true]
  rw [e]
  refine and_step fun _ => ?_
  refine and_step fun _ => ?_
  rfl
noncomputable def sem (ls : List L) : Option (List L) := (R (RKnown.dec ls) (RKnown.dec (dropT 2 ls))).map RT.enc
theorem ok (ls q : List L) (hl : LOKs Ev.cells pats ls) (h : sem ls = some q) : ∃ n, runF E live Tryz.f14 res n (initS pats ls) = some q := by
  obtain ⟨v, hv, hq⟩ := map_some h
  obtain ⟨⟨a0, a1⟩, hg, e, hm⟩ := ofM_some hv
  simp only [rf, Prod.mk.injEq] at e
  obtain ⟨e0, e1⟩ := e
  have hn := okF a0 a1 hg
  refine ⟨0, (run_eq 0 ls).trans ?_⟩
  rw [← e0, ← e1]
  rw [hn, ← hq, hm]; rfl
noncomputable def con : Con := ⟨pats, res, sem⟩
theorem chk : fnB Tryz.f14 con 17 = true := by kernel_rfl
theorem valid_ : Valid Tryz.prog Ev 14 con := valid mix tab_ok (.cons laws_eqSignedSS.valid_ (.cons laws_eqForkS.valid_ .nil)) Tryz.func14 chk live ok
end laws_eqKnown
/-! laws.eqStringS -/
namespace laws_eqStringS
inductive Pt where
  | p0 (a : List (List L)) (b : List (List L)) (c : Int)
def pid : Pt → Nat
  | .p0 .. => 4
def pvs : Pt → List V
  | .p0 a b c => [.sl none 9 a, .sl none 9 b, .int .i64 c]
def phs : Pt → List Root
  | .p0 a b c => []
noncomputable def step (J : Pt → Ans) : Pt → Ans
  | .p0 a b c => (bif (decide (c < (a.length : Int))) then (bif (decide ((0 : Int) ≤ c)) then (bif (decide (c < (a.length : Int))) then (bif (decide ((0 : Int) ≤ c)) then (bif (decide (c < (b.length : Int))) then (bif (!((sAt a (Int.toNat c)) == (sAt b (Int.toNat c)))) then ret (false : Bool) else J (.p0 a b (IntKind.i64.wrap (c + 1)))) else none) else none) else none) else none) else ret (true : Bool))
noncomputable def start (J : Pt → Ans) (x0 : List (List L)) (x1 : List (List L)) : Ans := (bif ((x0.length : Int) != (x1.length : Int)) then ret (false : Bool) else J (.p0 x0 x1 0))
def live : Nat → Live := fun i => match i with | 4 => [(0, none), (1, none), (5, none)] | _ => []
def pats : List Pat := [.rd (.sl 9), .rd (.sl 9)]
def res : RP := .one (.rd (.bool))
noncomputable def G : List (Nat × Con) := []
noncomputable abbrev E : Env := ⟨assoc Tab, conG G, 26⟩
set_option maxRecDepth 100000
theorem step_eq (I : Heads) (p : Pt) : enterC E live I (pid p) (bodyOf Tryz.f73) (stOf (live (pid p)) (pvs p) (phs p)) (doneK E Tryz.f73 res) = step (fun q => I (pid q) (pvs q) (phs q)) p := by
  cases p <;> kernel_rfl
theorem start_eq (I : Heads) (ls : List L) : runC E live I (bodyOf Tryz.f73) (initS pats ls) (doneK E Tryz.f73 res) = start (fun q => I (pid q) (pvs q) (phs q)) (ls.headD .hole).toSl ((dropT 1 ls).headD .hole).toSl := by kernel_rfl
theorem run_eq (n : Nat) (ls : List L) : runF E live Tryz.f73 res n (initS pats ls) = start (iter step n) (ls.headD .hole).toSl ((dropT 1 ls).headD .hole).toSl := runF_iter (id := pid) (vs := pvs) (hs := phs) (step := step) (start := fun J => start J (ls.headD .hole).toSl ((dropT 1 ls).headD .hole).toSl) step_eq (fun I => start_eq I ls) n
noncomputable def md (a0 : List ByteArray) (a1 : List ByteArray) : Bool := eqB a0 a1
def gd (a0 : List ByteArray) (a1 : List ByteArray) : Prop := True
def rf (a : List ByteArray × List ByteArray) : List (List L) × List (List L) := ((a.1.map sRow), (a.2.map sRow))
theorem rf_inj (a b : List ByteArray × List ByteArray) (h : rf a = rf b) : a = b := by
  exact (Prod.ext (map_inj sRow_inj (congrArg (fun x => x.1) h)) (map_inj sRow_inj (congrArg (fun x => x.2) h)))
noncomputable def R (x0 : List (List L)) (x1 : List (List L)) : Option (Bool) := ofM rf (fun a => gd a.1 a.2) (fun a => (md a.1 a.2)) (x0, x1)
theorem R_eq {a0 : List ByteArray} {a1 : List ByteArray} (h : gd a0 a1) : R (a0.map sRow) (a1.map sRow) = some (md a0 a1) := ofM_eq (r := rf) (a := (a0, a1)) rf_inj h
theorem okF (a0 : List ByteArray) (a1 : List ByteArray) (hg : gd a0 a1) (h0 : a0.length ≤ maxLen) (h1 : a1.length ≤ maxLen) : ∃ n, start (iter step n) (a0.map sRow) (a1.map sRow) = ret ((md a0 a1) : Bool) := by
  unfold start md
  simp only [List.length_map]
  refine eq_list (pt := fun i => Pt.p0 (a0.map sRow) (a1.map sRow) (i : Int)) (fun hl J i h h2 => ?_) (fun J => ?_)
  · simp only [step, List.length_map, lt_dec h, lt_dec h2, zle_dec, cond_true, toNat_nat, sAt_row h, sAt_row h2]
    rw [wrap_succ h h0]
    simp only [bne, int_beq, bool_beq, ba_beq]
    cases eqB a0[i] a1[i] <;> rfl
  · simp only [step, List.length_map, nlt_dec, cond_false]
noncomputable def sem (ls : List L) : Option (List L) := (R (ls.headD .hole).toSl ((dropT 1 ls).headD .hole).toSl).map RT.enc
theorem ok (ls q : List L) (hl : LOKs Ev.cells pats ls) (h : sem ls = some q) : ∃ n, runF E live Tryz.f73 res n (initS pats ls) = some q := by
  obtain ⟨v, hv, hq⟩ := map_some h
  obtain ⟨⟨a0, a1⟩, hg, e, hm⟩ := ofM_some hv
  simp only [rf, Prod.mk.injEq] at e
  obtain ⟨e0, e1⟩ := e
  obtain ⟨n, hn⟩ := okF a0 a1 hg (by have h : (ls.headD .hole).toSl.length ≤ maxLen := hl.1.len; have e : _ = (ls.headD .hole).toSl := e0; rw [← e] at h; simpa using h) (by have h : ((dropT 1 ls).headD .hole).toSl.length ≤ maxLen := hl.2.1.len; have e : _ = ((dropT 1 ls).headD .hole).toSl := e1; rw [← e] at h; simpa using h)
  refine ⟨n, (run_eq n ls).trans ?_⟩
  rw [← e0, ← e1]
  rw [hn, ← hq, hm]; rfl
noncomputable def con : Con := ⟨pats, res, sem⟩
theorem chk : fnB Tryz.f73 con 26 = true := by kernel_rfl
theorem valid_ : Valid Tryz.prog Ev 73 con := valid mix tab_ok .nil Tryz.func73 chk live ok
end laws_eqStringS
/-! laws.eqEntry -/
namespace laws_eqEntry
noncomputable def F (x0 : REntry) (x1 : REntry) : Ans := (bif (!(x0.fLabel == x1.fLabel)) then ret (false : Bool) else (bif (x0.fKind != x1.fKind) then ret (false : Bool) else (bif (x0.fValue != x1.fValue) then ret (false : Bool) else (call (laws_eqStringS.R x0.fPath x1.fPath) fun v1 => (bif (!v1) then ret (false : Bool) else ret (true : Bool))))))
def live : Nat → Live := fun _ => []
def pats : List Pat := [.agg [.str, .int .i64, .int .i64, .sl 9], .agg [.str, .int .i64, .int .i64, .sl 9]]
def res : RP := .one (.rd (.bool))
noncomputable def G : List (Nat × Con) := [(73, laws_eqStringS.con)]
noncomputable abbrev E : Env := ⟨assoc Tab, conG G, 26⟩
set_option maxRecDepth 100000
theorem run_eq (n : Nat) (ls : List L) : runF E live Tryz.f118 res n (initS pats ls) = F (REntry.dec ls) (REntry.dec (dropT 4 ls)) := by kernel_rfl
noncomputable def md (a0 : MEntry) (a1 : MEntry) : Bool := eqB a0 a1
def gd (a0 : MEntry) (a1 : MEntry) : Prop := True
def rf (a : MEntry × MEntry) : REntry × REntry := ((MEntry.r a.1), (MEntry.r a.2))
theorem rf_inj (a b : MEntry × MEntry) (h : rf a = rf b) : a = b := by
  exact (Prod.ext (MEntry.r_inj (congrArg (fun x => x.1) h)) (MEntry.r_inj (congrArg (fun x => x.2) h)))
noncomputable def R (x0 : REntry) (x1 : REntry) : Option (Bool) := ofM rf (fun a => gd a.1 a.2) (fun a => (md a.1 a.2)) (x0, x1)
theorem R_eq {a0 : MEntry} {a1 : MEntry} (h : gd a0 a1) : R (MEntry.r a0) (MEntry.r a1) = some (md a0 a1) := ofM_eq (r := rf) (a := (a0, a1)) rf_inj h
theorem okF (a0 : MEntry) (a1 : MEntry) (hg : gd a0 a1) : F (MEntry.r a0) (MEntry.r a1) = ret ((md a0 a1) : Bool) := by
  unfold md
  show (bif (!(a0.fLabel == a1.fLabel)) then ret (false : Bool) else (bif (a0.fKind != a1.fKind) then ret (false : Bool) else (bif (a0.fValue != a1.fValue) then ret (false : Bool) else (call (laws_eqStringS.R (a0.fPath.map sRow) (a1.fPath.map sRow)) fun v1 => (bif (!v1) then ret (false : Bool) else ret (true : Bool)))))) = _
  simp only [call_eq (laws_eqStringS.R_eq (a0 := a0.fPath) (a1 := a1.fPath) trivial), laws_eqStringS.md]
  try simp only [bne, int_beq, bool_beq, ba_beq]
  have e : eqB a0 a1 = (eqB a0.fLabel a1.fLabel && (eqB a0.fKind a1.fKind && (eqB a0.fValue a1.fValue && (eqB a0.fPath a1.fPath && true)))) := by
    cases a0; cases a1
    rw [Bool.eq_iff_iff]
    simp only [eqB_iff, Bool.and_eq_true, MEntry.mk.injEq, and_true]
  rw [e]
  refine and_step fun _ => ?_
  refine and_step fun _ => ?_
  refine and_step fun _ => ?_
  refine and_step fun _ => ?_
  rfl
noncomputable def sem (ls : List L) : Option (List L) := (R (REntry.dec ls) (REntry.dec (dropT 4 ls))).map RT.enc
theorem ok (ls q : List L) (hl : LOKs Ev.cells pats ls) (h : sem ls = some q) : ∃ n, runF E live Tryz.f118 res n (initS pats ls) = some q := by
  obtain ⟨v, hv, hq⟩ := map_some h
  obtain ⟨⟨a0, a1⟩, hg, e, hm⟩ := ofM_some hv
  simp only [rf, Prod.mk.injEq] at e
  obtain ⟨e0, e1⟩ := e
  have hn := okF a0 a1 hg
  refine ⟨0, (run_eq 0 ls).trans ?_⟩
  rw [← e0, ← e1]
  rw [hn, ← hq, hm]; rfl
noncomputable def con : Con := ⟨pats, res, sem⟩
theorem chk : fnB Tryz.f118 con 26 = true := by kernel_rfl
theorem valid_ : Valid Tryz.prog Ev 118 con := valid mix tab_ok (.cons laws_eqStringS.valid_ .nil) Tryz.func118 chk live ok
end laws_eqEntry
/-! laws.eqTrace -/
namespace laws_eqTrace
noncomputable def F (x0 : RTrace) (x1 : RTrace) : Ans := (call (laws_eqKnown.R x0.fKnown x1.fKnown) fun v1 => (bif (!v1) then ret (false : Bool) else (bif (x0.fCode != x1.fCode) then ret (false : Bool) else (call (laws_eqEntry.R x0.fEntry x1.fEntry) fun v2 => (bif (!v2) then ret (false : Bool) else (call (laws_eqIntS.R x0.fZones x1.fZones) fun v3 => (bif (!v3) then ret (false : Bool) else (bif (x0.fMoves != x1.fMoves) then ret (false : Bool) else ret (true : Bool)))))))))
def live : Nat → Live := fun _ => []
def pats : List Pat := [.agg [.sl 38, .sl 95, .int .i64, .str, .int .i64, .int .i64, .sl 9, .sl 3, .int .i64], .agg [.sl 38, .sl 95, .int .i64, .str, .int .i64, .int .i64, .sl 9, .sl 3, .int .i64]]
def res : RP := .one (.rd (.bool))
noncomputable def G : List (Nat × Con) := [(14, laws_eqKnown.con), (118, laws_eqEntry.con), (119, laws_eqIntS.con)]
noncomputable abbrev E : Env := ⟨assoc Tab, conG G, 33⟩
set_option maxRecDepth 100000
theorem run_eq (n : Nat) (ls : List L) : runF E live Tryz.f64 res n (initS pats ls) = F (RTrace.dec ls) (RTrace.dec (dropT 9 ls)) := by kernel_rfl
noncomputable def md (a0 : MTrace) (a1 : MTrace) : Bool := eqB a0 a1
def gd (a0 : MTrace) (a1 : MTrace) : Prop := True
def rf (a : MTrace × MTrace) : RTrace × RTrace := ((MTrace.r a.1), (MTrace.r a.2))
theorem rf_inj (a b : MTrace × MTrace) (h : rf a = rf b) : a = b := by
  exact (Prod.ext (MTrace.r_inj (congrArg (fun x => x.1) h)) (MTrace.r_inj (congrArg (fun x => x.2) h)))
noncomputable def R (x0 : RTrace) (x1 : RTrace) : Option (Bool) := ofM rf (fun a => gd a.1 a.2) (fun a => (md a.1 a.2)) (x0, x1)
theorem R_eq {a0 : MTrace} {a1 : MTrace} (h : gd a0 a1) : R (MTrace.r a0) (MTrace.r a1) = some (md a0 a1) := ofM_eq (r := rf) (a := (a0, a1)) rf_inj h
theorem okF (a0 : MTrace) (a1 : MTrace) (hg : gd a0 a1) : F (MTrace.r a0) (MTrace.r a1) = ret ((md a0 a1) : Bool) := by
  unfold md
  show (call (laws_eqKnown.R (MKnown.r a0.fKnown) (MKnown.r a1.fKnown)) fun v1 => (bif (!v1) then ret (false : Bool) else (bif (a0.fCode != a1.fCode) then ret (false : Bool) else (call (laws_eqEntry.R (MEntry.r a0.fEntry) (MEntry.r a1.fEntry)) fun v2 => (bif (!v2) then ret (false : Bool) else (call (laws_eqIntS.R (a0.fZones.map iRow) (a1.fZones.map iRow)) fun v3 => (bif (!v3) then ret (false : Bool) else (bif (a0.fMoves != a1.fMoves) then ret (false : Bool) else ret (true : Bool))))))))) = _
  simp only [call_eq (laws_eqKnown.R_eq (a0 := a0.fKnown) (a1 := a1.fKnown) trivial), laws_eqKnown.md]
  simp only [call_eq (laws_eqEntry.R_eq (a0 := a0.fEntry) (a1 := a1.fEntry) trivial), laws_eqEntry.md]
  simp only [call_eq (laws_eqIntS.R_eq (a0 := a0.fZones) (a1 := a1.fZones) trivial), laws_eqIntS.md]
  try simp only [bne, int_beq, bool_beq, ba_beq]
  have e : eqB a0 a1 = (eqB a0.fKnown a1.fKnown && (eqB a0.fCode a1.fCode && (eqB a0.fEntry a1.fEntry && (eqB a0.fZones a1.fZones && (eqB a0.fMoves a1.fMoves && true))))) := by
    cases a0; cases a1
    rw [Bool.eq_iff_iff]
    simp only [eqB_iff, Bool.and_eq_true, MTrace.mk.injEq, and_true]
  rw [e]
  refine and_step fun _ => ?_
  refine and_step fun _ => ?_
  refine and_step fun _ => ?_
  refine and_step fun _ => ?_
  refine and_step fun _ => ?_
  rfl
noncomputable def sem (ls : List L) : Option (List L) := (R (RTrace.dec ls) (RTrace.dec (dropT 9 ls))).map RT.enc
theorem ok (ls q : List L) (hl : LOKs Ev.cells pats ls) (h : sem ls = some q) : ∃ n, runF E live Tryz.f64 res n (initS pats ls) = some q := by
  obtain ⟨v, hv, hq⟩ := map_some h
  obtain ⟨⟨a0, a1⟩, hg, e, hm⟩ := ofM_some hv
  simp only [rf, Prod.mk.injEq] at e
  obtain ⟨e0, e1⟩ := e
  have hn := okF a0 a1 hg
  refine ⟨0, (run_eq 0 ls).trans ?_⟩
  rw [← e0, ← e1]
  rw [hn, ← hq, hm]; rfl
noncomputable def con : Con := ⟨pats, res, sem⟩
theorem chk : fnB Tryz.f64 con 33 = true := by kernel_rfl
theorem valid_ : Valid Tryz.prog Ev 64 con := valid mix tab_ok (.cons laws_eqKnown.valid_ (.cons laws_eqEntry.valid_ (.cons laws_eqIntS.valid_ .nil))) Tryz.func64 chk live ok
end laws_eqTrace
/-! laws.eqProof -/
namespace laws_eqProof
noncomputable def F (x0 : RProof) (x1 : RProof) : Ans := (bif (x0.fAt != x1.fAt) then ret (false : Bool) else (call (laws_eqIntS.R x0.fPath x1.fPath) fun v1 => (bif (!v1) then ret (false : Bool) else ret (true : Bool))))
def live : Nat → Live := fun _ => []
def pats : List Pat := [.agg [.int .i64, .sl 3], .agg [.int .i64, .sl 3]]
def res : RP := .one (.rd (.bool))
noncomputable def G : List (Nat × Con) := [(119, laws_eqIntS.con)]
noncomputable abbrev E : Env := ⟨assoc Tab, conG G, 16⟩
set_option maxRecDepth 100000
theorem run_eq (n : Nat) (ls : List L) : runF E live Tryz.f214 res n (initS pats ls) = F (RProof.dec ls) (RProof.dec (dropT 2 ls)) := by kernel_rfl
noncomputable def md (a0 : MProof) (a1 : MProof) : Bool := eqB a0 a1
def gd (a0 : MProof) (a1 : MProof) : Prop := True
def rf (a : MProof × MProof) : RProof × RProof := ((MProof.r a.1), (MProof.r a.2))
theorem rf_inj (a b : MProof × MProof) (h : rf a = rf b) : a = b := by
  exact (Prod.ext (MProof.r_inj (congrArg (fun x => x.1) h)) (MProof.r_inj (congrArg (fun x => x.2) h)))
noncomputable def R (x0 : RProof) (x1 : RProof) : Option (Bool) := ofM rf (fun a => gd a.1 a.2) (fun a => (md a.1 a.2)) (x0, x1)
theorem R_eq {a0 : MProof} {a1 : MProof} (h : gd a0 a1) : R (MProof.r a0) (MProof.r a1) = some (md a0 a1) := ofM_eq (r := rf) (a := (a0, a1)) rf_inj h
theorem okF (a0 : MProof) (a1 : MProof) (hg : gd a0 a1) : F (MProof.r a0) (MProof.r a1) = ret ((md a0 a1) : Bool) := by
  unfold md
  show (bif (a0.fAt != a1.fAt) then ret (false : Bool) else (call (laws_eqIntS.R (a0.fPath.map iRow) (a1.fPath.map iRow)) fun v1 => (bif (!v1) then ret (false : Bool) else ret (true : Bool)))) = _
  simp only [call_eq (laws_eqIntS.R_eq (a0 := a0.fPath) (a1 := a1.fPath) trivial), laws_eqIntS.md]
  try simp only [bne, int_beq, bool_beq, ba_beq]
  have e : eqB a0 a1 = (eqB a0.fAt a1.fAt && (eqB a0.fPath a1.fPath && true)) := by
    cases a0; cases a1
    rw [Bool.eq_iff_iff]
    simp only [eqB_iff, Bool.and_eq_true, MProof.mk.injEq, and_true]
  rw [e]
  refine and_step fun _ => ?_
  refine and_step fun _ => ?_
  rfl
noncomputable def sem (ls : List L) : Option (List L) := (R (RProof.dec ls) (RProof.dec (dropT 2 ls))).map RT.enc
theorem ok (ls q : List L) (hl : LOKs Ev.cells pats ls) (h : sem ls = some q) : ∃ n, runF E live Tryz.f214 res n (initS pats ls) = some q := by
  obtain ⟨v, hv, hq⟩ := map_some h
  obtain ⟨⟨a0, a1⟩, hg, e, hm⟩ := ofM_some hv
  simp only [rf, Prod.mk.injEq] at e
  obtain ⟨e0, e1⟩ := e
  have hn := okF a0 a1 hg
  refine ⟨0, (run_eq 0 ls).trans ?_⟩
  rw [← e0, ← e1]
  rw [hn, ← hq, hm]; rfl
noncomputable def con : Con := ⟨pats, res, sem⟩
theorem chk : fnB Tryz.f214 con 16 = true := by kernel_rfl
theorem valid_ : Valid Tryz.prog Ev 214 con := valid mix tab_ok (.cons laws_eqIntS.valid_ .nil) Tryz.func214 chk live ok
end laws_eqProof
/-! laws.eqGap -/
namespace laws_eqGap
noncomputable def F (x0 : RGap) (x1 : RGap) : Ans := (bif (x0.fAt != x1.fAt) then ret (false : Bool) else (call (laws_eqEntry.R x0.fBefore x1.fBefore) fun v1 => (bif (!v1) then ret (false : Bool) else (call (laws_eqEntry.R x0.fAfter x1.fAfter) fun v2 => (bif (!v2) then ret (false : Bool) else (call (laws_eqProof.R x0.fLeft x1.fLeft) fun v3 => (bif (!v3) then ret (false : Bool) else (call (laws_eqProof.R x0.fRight x1.fRight) fun v4 => (bif (!v4) then ret (false : Bool) else ret (true : Bool))))))))))
def live : Nat → Live := fun _ => []
def pats : List Pat := [.agg [.int .i64, .str, .int .i64, .int .i64, .sl 9, .str, .int .i64, .int .i64, .sl 9, .int .i64, .sl 3, .int .i64, .sl 3], .agg [.int .i64, .str, .int .i64, .int .i64, .sl 9, .str, .int .i64, .int .i64, .sl 9, .int .i64, .sl 3, .int .i64, .sl 3]]
def res : RP := .one (.rd (.bool))
noncomputable def G : List (Nat × Con) := [(118, laws_eqEntry.con), (214, laws_eqProof.con)]
noncomputable abbrev E : Env := ⟨assoc Tab, conG G, 34⟩
set_option maxRecDepth 100000
theorem run_eq (n : Nat) (ls : List L) : runF E live Tryz.f215 res n (initS pats ls) = F (RGap.dec ls) (RGap.dec (dropT 13 ls)) := by kernel_rfl
noncomputable def md (a0 : MGap) (a1 : MGap) : Bool := eqB a0 a1
def gd (a0 : MGap) (a1 : MGap) : Prop := True
def rf (a : MGap × MGap) : RGap × RGap := ((MGap.r a.1), (MGap.r a.2))
theorem rf_inj (a b : MGap × MGap) (h : rf a = rf b) : a = b := by
  exact (Prod.ext (MGap.r_inj (congrArg (fun x => x.1) h)) (MGap.r_inj (congrArg (fun x => x.2) h)))
noncomputable def R (x0 : RGap) (x1 : RGap) : Option (Bool) := ofM rf (fun a => gd a.1 a.2) (fun a => (md a.1 a.2)) (x0, x1)
theorem R_eq {a0 : MGap} {a1 : MGap} (h : gd a0 a1) : R (MGap.r a0) (MGap.r a1) = some (md a0 a1) := ofM_eq (r := rf) (a := (a0, a1)) rf_inj h
theorem okF (a0 : MGap) (a1 : MGap) (hg : gd a0 a1) : F (MGap.r a0) (MGap.r a1) = ret ((md a0 a1) : Bool) := by
  unfold md
  show (bif (a0.fAt != a1.fAt) then ret (false : Bool) else (call (laws_eqEntry.R (MEntry.r a0.fBefore) (MEntry.r a1.fBefore)) fun v1 => (bif (!v1) then ret (false : Bool) else (call (laws_eqEntry.R (MEntry.r a0.fAfter) (MEntry.r a1.fAfter)) fun v2 => (bif (!v2) then ret (false : Bool) else (call (laws_eqProof.R (MProof.r a0.fLeft) (MProof.r a1.fLeft)) fun v3 => (bif (!v3) then ret (false : Bool) else (call (laws_eqProof.R (MProof.r a0.fRight) (MProof.r a1.fRight)) fun v4 => (bif (!v4) then ret (false : Bool) else ret (true : Bool)))))))))) = _
  simp only [call_eq (laws_eqEntry.R_eq (a0 := a0.fBefore) (a1 := a1.fBefore) trivial), laws_eqEntry.md]
  simp only [call_eq (laws_eqEntry.R_eq (a0 := a0.fAfter) (a1 := a1.fAfter) trivial), laws_eqEntry.md]
  simp only [call_eq (laws_eqProof.R_eq (a0 := a0.fLeft) (a1 := a1.fLeft) trivial), laws_eqProof.md]
  simp only [call_eq (laws_eqProof.R_eq (a0 := a0.fRight) (a1 := a1.fRight) trivial), laws_eqProof.md]
  try simp only [bne, int_beq, bool_beq, ba_beq]
  have e : eqB a0 a1 = (eqB a0.fAt a1.fAt && (eqB a0.fBefore a1.fBefore && (eqB a0.fAfter a1.fAfter && (eqB a0.fLeft a1.fLeft && (eqB a0.fRight a1.fRight && true))))) := by
    cases a0; cases a1
    rw [Bool.eq_iff_iff]
    simp only [eqB_iff, Bool.and_eq_true, MGap.mk.injEq, and_true]
  rw [e]
  refine and_step fun _ => ?_
  refine and_step fun _ => ?_
  refine and_step fun _ => ?_
  refine and_step fun _ => ?_
  refine and_step fun _ => ?_
  rfl
noncomputable def sem (ls : List L) : Option (List L) := (R (RGap.dec ls) (RGap.dec (dropT 13 ls))).map RT.enc
theorem ok (ls q : List L) (hl : LOKs Ev.cells pats ls) (h : sem ls = some q) : ∃ n, runF E live Tryz.f215 res n (initS pats ls) = some q := by
  obtain ⟨v, hv, hq⟩ := map_some h
  obtain ⟨⟨a0, a1⟩, hg, e, hm⟩ := ofM_some hv
  simp only [rf, Prod.mk.injEq] at e
  obtain ⟨e0, e1⟩ := e
  have hn := okF a0 a1 hg
  refine ⟨0, (run_eq 0 ls).trans ?_⟩
  rw [← e0, ← e1]
  rw [hn, ← hq, hm]; rfl
noncomputable def con : Con := ⟨pats, res, sem⟩
theorem chk : fnB Tryz.f215 con 34 = true := by kernel_rfl
theorem valid_ : Valid Tryz.prog Ev 215 con := valid mix tab_ok (.cons laws_eqEntry.valid_ (.cons laws_eqProof.valid_ .nil)) Tryz.func215 chk live ok
end laws_eqGap
/-! laws.eqAnswer -/
namespace laws_eqAnswer
noncomputable def F (x0 : RAnswer) (x1 : RAnswer) : Ans := (call (laws_eqSignedS.R x0.fChain x1.fChain) fun v1 => (bif (!v1) then ret (false : Bool) else (bif (!(x0.fFound == x1.fFound)) then ret (false : Bool) else (call (laws_eqEntry.R x0.fEntry x1.fEntry) fun v2 => (bif (!v2) then ret (false : Bool) else (call (laws_eqProof.R x0.fProof x1.fProof) fun v3 => (bif (!v3) then ret (false : Bool) else (call (laws_eqGap.R x0.fGap x1.fGap) fun v4 => (bif (!v4) then ret (false : Bool) else ret (true : Bool))))))))))
def live : Nat → Live := fun _ => []
def pats : List Pat := [.agg [.sl 92, .bool, .str, .int .i64, .int .i64, .sl 9, .int .i64, .sl 3, .int .i64, .str, .int .i64, .int .i64, .sl 9, .str, .int .i64, .int .i64, .sl 9, .int .i64, .sl 3, .int .i64, .sl 3], .agg [.sl 92, .bool, .str, .int .i64, .int .i64, .sl 9, .int .i64, .sl 3, .int .i64, .str, .int .i64, .int .i64, .sl 9, .str, .int .i64, .int .i64, .sl 9, .int .i64, .sl 3, .int .i64, .sl 3]]
def res : RP := .one (.rd (.bool))
noncomputable def G : List (Nat × Con) := [(19, laws_eqSignedS.con), (118, laws_eqEntry.con), (214, laws_eqProof.con), (215, laws_eqGap.con)]
noncomputable abbrev E : Env := ⟨assoc Tab, conG G, 34⟩
set_option maxRecDepth 100000
theorem run_eq (n : Nat) (ls : List L) : runF E live Tryz.f167 res n (initS pats ls) = F (RAnswer.dec ls) (RAnswer.dec (dropT 21 ls)) := by kernel_rfl
noncomputable def md (a0 : MAnswer) (a1 : MAnswer) : Bool := eqB a0 a1
def gd (a0 : MAnswer) (a1 : MAnswer) : Prop := True
def rf (a : MAnswer × MAnswer) : RAnswer × RAnswer := ((MAnswer.r a.1), (MAnswer.r a.2))
theorem rf_inj (a b : MAnswer × MAnswer) (h : rf a = rf b) : a = b := by
  exact (Prod.ext (MAnswer.r_inj (congrArg (fun x => x.1) h)) (MAnswer.r_inj (congrArg (fun x => x.2) h)))
noncomputable def R (x0 : RAnswer) (x1 : RAnswer) : Option (Bool) := ofM rf (fun a => gd a.1 a.2) (fun a => (md a.1 a.2)) (x0, x1)
theorem R_eq {a0 : MAnswer} {a1 : MAnswer} (h : gd a0 a1) : R (MAnswer.r a0) (MAnswer.r a1) = some (md a0 a1) := ofM_eq (r := rf) (a := (a0, a1)) rf_inj h
theorem okF (a0 : MAnswer) (a1 : MAnswer) (hg : gd a0 a1) : F (MAnswer.r a0) (MAnswer.r a1) = ret ((md a0 a1) : Bool) := by
  unfold md
  show (call (laws_eqSignedS.R (a0.fChain.map MSigned.row) (a1.fChain.map MSigned.row)) fun v1 => (bif (!v1) then ret (false : Bool) else (bif (!(a0.fFound == a1.fFound)) then ret (false : Bool) else (call (laws_eqEntry.R (MEntry.r a0.fEntry) (MEntry.r a1.fEntry)) fun v2 => (bif (!v2) then ret (false : Bool) else (call (laws_eqProof.R (MProof.r a0.fProof) (MProof.r a1.fProof)) fun v3 => (bif (!v3) then ret (false : Bool) else (call (laws_eqGap.R (MGap.r a0.fGap) (MGap.r a1.fGap)) fun v4 => (bif (!v4) then ret (false : Bool) else ret (true : Bool)))))))))) = _
  simp only [call_eq (laws_eqSignedS.R_eq (a0 := a0.fChain) (a1 := a1.fChain) trivial), laws_eqSignedS.md]
  simp only [call_eq (laws_eqEntry.R_eq (a0 := a0.fEntry) (a1 := a1.fEntry) trivial), laws_eqEntry.md]
  simp only [call_eq (laws_eqProof.R_eq (a0 := a0.fProof) (a1 := a1.fProof) trivial), laws_eqProof.md]
  simp only [call_eq (laws_eqGap.R_eq (a0 := a0.fGap) (a1 := a1.fGap) trivial), laws_eqGap.md]
  try simp only [bne, int_beq, bool_beq, ba_beq]
  have e : eqB a0 a1 = (eqB a0.fChain a1.fChain && (eqB a0.fFound a1.fFound && (eqB a0.fEntry a1.fEntry && (eqB a0.fProof a1.fProof && (eqB a0.fGap a1.fGap && true))))) := by
    cases a0; cases a1
    rw [Bool.eq_iff_iff]
    simp only [eqB_iff, Bool.and_eq_true, MAnswer.mk.injEq, and_true]
  rw [e]
  refine and_step fun _ => ?_
  refine and_step fun _ => ?_
  refine and_step fun _ => ?_
  refine and_step fun _ => ?_
  refine and_step fun _ => ?_
  rfl
noncomputable def sem (ls : List L) : Option (List L) := (R (RAnswer.dec ls) (RAnswer.dec (dropT 21 ls))).map RT.enc
theorem ok (ls q : List L) (hl : LOKs Ev.cells pats ls) (h : sem ls = some q) : ∃ n, runF E live Tryz.f167 res n (initS pats ls) = some q := by
  obtain ⟨v, hv, hq⟩ := map_some h
  obtain ⟨⟨a0, a1⟩, hg, e, hm⟩ := ofM_some hv
  simp only [rf, Prod.mk.injEq] at e
  obtain ⟨e0, e1⟩ := e
  have hn := okF a0 a1 hg
  refine ⟨0, (run_eq 0 ls).trans ?_⟩
  rw [← e0, ← e1]
  rw [hn, ← hq, hm]; rfl
noncomputable def con : Con := ⟨pats, res, sem⟩
theorem chk : fnB Tryz.f167 con 34 = true := by kernel_rfl
theorem valid_ : Valid Tryz.prog Ev 167 con := valid mix tab_ok (.cons laws_eqSignedS.valid_ (.cons laws_eqEntry.valid_ (.cons laws_eqProof.valid_ (.cons laws_eqGap.valid_ .nil)))) Tryz.func167 chk live ok
end laws_eqAnswer
/-! laws.eqStored -/
namespace laws_eqStored
noncomputable def F (x0 : RStored) (x1 : RStored) : Ans := (bif (x0.fZone != x1.fZone) then ret (false : Bool) else (bif (!(x0.fLabel == x1.fLabel)) then ret (false : Bool) else (call (laws_eqAnswer.R x0.fAnswer x1.fAnswer) fun v1 => (bif (!v1) then ret (false : Bool) else ret (true : Bool)))))
def live : Nat → Live := fun _ => []
def pats : List Pat := [.agg [.int .i64, .str, .sl 92, .bool, .str, .int .i64, .int .i64, .sl 9, .int .i64, .sl 3, .int .i64, .str, .int .i64, .int .i64, .sl 9, .str, .int .i64, .int .i64, .sl 9, .int .i64, .sl 3, .int .i64, .sl 3], .agg [.int .i64, .str, .sl 92, .bool, .str, .int .i64, .int .i64, .sl 9, .int .i64, .sl 3, .int .i64, .str, .int .i64, .int .i64, .sl 9, .str, .int .i64, .int .i64, .sl 9, .int .i64, .sl 3, .int .i64, .sl 3]]
def res : RP := .one (.rd (.bool))
noncomputable def G : List (Nat × Con) := [(167, laws_eqAnswer.con)]
noncomputable abbrev E : Env := ⟨assoc Tab, conG G, 21⟩
set_option maxRecDepth 100000
theorem run_eq (n : Nat) (ls : List L) : runF E live Tryz.f125 res n (initS pats ls) = F (RStored.dec ls) (RStored.dec (dropT 23 ls)) := by kernel_rfl
noncomputable def md (a0 : MStored) (a1 : MStored) : Bool := eqB a0 a1
def gd (a0 : MStored) (a1 : MStored) : Prop := True
def rf (a : MStored × MStored) : RStored × RStored := ((MStored.r a.1), (MStored.r a.2))
theorem rf_inj (a b : MStored × MStored) (h : rf a = rf b) : a = b := by
  exact (Prod.ext (MStored.r_inj (congrArg (fun x => x.1) h)) (MStored.r_inj (congrArg (fun x => x.2) h)))
noncomputable def R (x0 : RStored) (x1 : RStored) : Option (Bool) := ofM rf (fun a => gd a.1 a.2) (fun a => (md a.1 a.2)) (x0, x1)
theorem R_eq {a0 : MStored} {a1 : MStored} (h : gd a0 a1) : R (MStored.r a0) (MStored.r a1) = some (md a0 a1) := ofM_eq (r := rf) (a := (a0, a1)) rf_inj h
theorem okF (a0 : MStored) (a1 : MStored) (hg : gd a0 a1) : F (MStored.r a0) (MStored.r a1) = ret ((md a0 a1) : Bool) := by
  unfold md
  show (bif (a0.fZone != a1.fZone) then ret (false : Bool) else (bif (!(a0.fLabel == a1.fLabel)) then ret (false : Bool) else (call (laws_eqAnswer.R (MAnswer.r a0.fAnswer) (MAnswer.r a1.fAnswer)) fun v1 => (bif (!v1) then ret (false : Bool) else ret (true : Bool))))) = _
  simp only [call_eq (laws_eqAnswer.R_eq (a0 := a0.fAnswer) (a1 := a1.fAnswer) trivial), laws_eqAnswer.md]
  try simp only [bne, int_beq, bool_beq, ba_beq]
  have e : eqB a0 a1 = (eqB a0.fZone a1.fZone && (eqB a0.fLabel a1.fLabel && (eqB a0.fAnswer a1.fAnswer && true))) := by
    cases a0; cases a1
    rw [Bool.eq_iff_iff]
    simp only [eqB_iff, Bool.and_eq_true, MStored.mk.injEq, and_true]
  rw [e]
  refine and_step fun _ => ?_
  refine and_step fun _ => ?_
  refine and_step fun _ => ?_
  rfl
noncomputable def sem (ls : List L) : Option (List L) := (R (RStored.dec ls) (RStored.dec (dropT 23 ls))).map RT.enc
theorem ok (ls q : List L) (hl : LOKs Ev.cells pats ls) (h : sem ls = some q) : ∃ n, runF E live Tryz.f125 res n (initS pats ls) = some q := by
  obtain ⟨v, hv, hq⟩ := map_some h
  obtain ⟨⟨a0, a1⟩, hg, e, hm⟩ := ofM_some hv
  simp only [rf, Prod.mk.injEq] at e
  obtain ⟨e0, e1⟩ := e
  have hn := okF a0 a1 hg
  refine ⟨0, (run_eq 0 ls).trans ?_⟩
  rw [← e0, ← e1]
  rw [hn, ← hq, hm]; rfl
noncomputable def con : Con := ⟨pats, res, sem⟩
theorem chk : fnB Tryz.f125 con 21 = true := by kernel_rfl
theorem valid_ : Valid Tryz.prog Ev 125 con := valid mix tab_ok (.cons laws_eqAnswer.valid_ .nil) Tryz.func125 chk live ok
end laws_eqStored
/-! laws.eqStoredS -/
namespace laws_eqStoredS
inductive Pt where
  | p0 (a : List (List L)) (b : List (List L)) (c : Int)
def pid : Pt → Nat
  | .p0 .. => 4
def pvs : Pt → List V
  | .p0 a b c => [.sl none 124 a, .sl none 124 b, .int .i64 c]
def phs : Pt → List Root
  | .p0 a b c => []
noncomputable def step (J : Pt → Ans) : Pt → Ans
  | .p0 a b c => (bif (decide (c < (a.length : Int))) then (bif (decide ((0 : Int) ≤ c)) then (bif (decide (c < (a.length : Int))) then (bif (decide ((0 : Int) ≤ c)) then (bif (decide (c < (b.length : Int))) then (call (laws_eqStored.R (RStored.at a (Int.toNat c)) (RStored.at b (Int.toNat c))) fun v1 => (bif (!v1) then ret (false : Bool) else J (.p0 a b (IntKind.i64.wrap (c + 1))))) else none) else none) else none) else none) else ret (true : Bool))
noncomputable def start (J : Pt → Ans) (x0 : List (List L)) (x1 : List (List L)) : Ans := (bif ((x0.length : Int) != (x1.length : Int)) then ret (false : Bool) else J (.p0 x0 x1 0))
def live : Nat → Live := fun i => match i with | 4 => [(0, none), (1, none), (5, none)] | _ => []
def pats : List Pat := [.rd (.sl 124), .rd (.sl 124)]
def res : RP := .one (.rd (.bool))
noncomputable def G : List (Nat × Con) := [(125, laws_eqStored.con)]
noncomputable abbrev E : Env := ⟨assoc Tab, conG G, 27⟩
set_option maxRecDepth 100000
theorem step_eq (I : Heads) (p : Pt) : enterC E live I (pid p) (bodyOf Tryz.f70) (stOf (live (pid p)) (pvs p) (phs p)) (doneK E Tryz.f70 res) = step (fun q => I (pid q) (pvs q) (phs q)) p := by
  cases p <;> kernel_rfl
theorem start_eq (I : Heads) (ls : List L) : runC E live I (bodyOf Tryz.f70) (initS pats ls) (doneK E Tryz.f70 res) = start (fun q => I (pid q) (pvs q) (phs q)) (ls.headD .hole).toSl ((dropT 1 ls).headD .hole).toSl := by kernel_rfl
theorem run_eq (n : Nat) (ls : List L) : runF E live Tryz.f70 res n (initS pats ls) = start (iter step n) (ls.headD .hole).toSl ((dropT 1 ls).headD .hole).toSl := runF_iter (id := pid) (vs := pvs) (hs := phs) (step := step) (start := fun J => start J (ls.headD .hole).toSl ((dropT 1 ls).headD .hole).toSl) step_eq (fun I => start_eq I ls) n
noncomputable def md (a0 : List MStored) (a1 : List MStored) : Bool := eqB a0 a1
def gd (a0 : List MStored) (a1 : List MStored) : Prop := True
def rf (a : List MStored × List MStored) : List (List L) × List (List L) := ((a.1.map MStored.row), (a.2.map MStored.row))
theorem rf_inj (a b : List MStored × List MStored) (h : rf a = rf b) : a = b := by
  exact (Prod.ext (map_inj MStored.row_inj (congrArg (fun x => x.1) h)) (map_inj MStored.row_inj (congrArg (fun x => x.2) h)))
noncomputable def R (x0 : List (List L)) (x1 : List (List L)) : Option (Bool) := ofM rf (fun a => gd a.1 a.2) (fun a => (md a.1 a.2)) (x0, x1)
theorem R_eq {a0 : List MStored} {a1 : List MStored} (h : gd a0 a1) : R (a0.map MStored.row) (a1.map MStored.row) = some (md a0 a1) := ofM_eq (r := rf) (a := (a0, a1)) rf_inj h
theorem okF (a0 : List MStored) (a1 : List MStored) (hg : gd a0 a1) (h0 : a0.length ≤ maxLen) (h1 : a1.length ≤ maxLen) : ∃ n, start (iter step n) (a0.map MStored.row) (a1.map MStored.row) = ret ((md a0 a1) : Bool) := by
  unfold start md
  simp only [List.length_map]
  refine eq_list (pt := fun i => Pt.p0 (a0.map MStored.row) (a1.map MStored.row) (i : Int)) (fun hl J i h h2 => ?_) (fun J => ?_)
  · simp only [step, List.length_map, lt_dec h, lt_dec h2, zle_dec, cond_true, toNat_nat, MStored.at_row h, MStored.at_row h2]
    rw [wrap_succ h h0]
    rw [call_eq (laws_eqStored.R_eq (a0 := a0[i]) (a1 := a1[i]) trivial), laws_eqStored.md]
    cases eqB a0[i] a1[i] <;> rfl
  · simp only [step, List.length_map, nlt_dec, cond_false]
noncomputable def sem (ls : List L) : Option (List L) := (R (ls.headD .hole).toSl ((dropT 1 ls).headD .hole).toSl).map RT.enc
theorem ok (ls q : List L) (hl : LOKs Ev.cells pats ls) (h : sem ls = some q) : ∃ n, runF E live Tryz.f70 res n (initS pats ls) = some q := by
  obtain ⟨v, hv, hq⟩ := map_some h
  obtain ⟨⟨a0, a1⟩, hg, e, hm⟩ := ofM_some hv
  simp only [rf, Prod.mk.injEq] at e
  obtain ⟨e0, e1⟩ := e
  obtain ⟨n, hn⟩ := okF a0 a1 hg (by have h : (ls.headD .hole).toSl.length ≤ maxLen := hl.1.len; have e : _ = (ls.headD .hole).toSl := e0; rw [← e] at h; simpa using h) (by have h : ((dropT 1 ls).headD .hole).toSl.length ≤ maxLen := hl.2.1.len; have e : _ = ((dropT 1 ls).headD .hole).toSl := e1; rw [← e] at h; simpa using h)
  refine ⟨n, (run_eq n ls).trans ?_⟩
  rw [← e0, ← e1]
  rw [hn, ← hq, hm]; rfl
noncomputable def con : Con := ⟨pats, res, sem⟩
theorem chk : fnB Tryz.f70 con 27 = true := by kernel_rfl
theorem valid_ : Valid Tryz.prog Ev 70 con := valid mix tab_ok (.cons laws_eqStored.valid_ .nil) Tryz.func70 chk live ok
end laws_eqStoredS
/-! laws.eqCache -/
namespace laws_eqCache
noncomputable def F (x0 : RCache) (x1 : RCache) : Ans := (call (laws_eqStoredS.R x0.fList x1.fList) fun v1 => (bif (!v1) then ret (false : Bool) else ret (true : Bool)))
def live : Nat → Live := fun _ => []
def pats : List Pat := [.agg [.sl 124], .agg [.sl 124]]
def res : RP := .one (.rd (.bool))
noncomputable def G : List (Nat × Con) := [(70, laws_eqStoredS.con)]
noncomputable abbrev E : Env := ⟨assoc Tab, conG G, 11⟩
set_option maxRecDepth 100000
theorem run_eq (n : Nat) (ls : List L) : runF E live Tryz.f29 res n (initS pats ls) = F (RCache.dec ls) (RCache.dec (dropT 1 ls)) := by kernel_rfl
noncomputable def md (a0 : MCache) (a1 : MCache) : Bool := eqB a0 a1
def gd (a0 : MCache) (a1 : MCache) : Prop := True
def rf (a : MCache × MCache) : RCache × RCache := ((MCache.r a.1), (MCache.r a.2))
theorem rf_inj (a b : MCache × MCache) (h : rf a = rf b) : a = b := by
  exact (Prod.ext (MCache.r_inj (congrArg (fun x => x.1) h)) (MCache.r_inj (congrArg (fun x => x.2) h)))
noncomputable def R (x0 : RCache) (x1 : RCache) : Option (Bool) := ofM rf (fun a => gd a.1 a.2) (fun a => (md a.1 a.2)) (x0, x1)
theorem R_eq {a0 : MCache} {a1 : MCache} (h : gd a0 a1) : R (MCache.r a0) (MCache.r a1) = some (md a0 a1) := ofM_eq (r := rf) (a := (a0, a1)) rf_inj h
theorem okF (a0 : MCache) (a1 : MCache) (hg : gd a0 a1) : F (MCache.r a0) (MCache.r a1) = ret ((md a0 a1) : Bool) := by
  unfold md
  show (call (laws_eqStoredS.R (a0.fList.map MStored.row) (a1.fList.map MStored.row)) fun v1 => (bif (!v1) then ret (false : Bool) else ret (true : Bool))) = _
  simp only [call_eq (laws_eqStoredS.R_eq (a0 := a0.fList) (a1 := a1.fList) trivial), laws_eqStoredS.md]
  try simp only [bne, int_beq, bool_beq, ba_beq]
  have e : eqB a0 a1 = (eqB a0.fList a1.fList && true) := by
    cases a0; cases a1
    rw [Bool.eq_iff_iff]
    simp only [eqB_iff, Bool.and_eq_true, MCache.mk.injEq, and_true]
  rw [e]
  refine and_step fun _ => ?_
  rfl
noncomputable def sem (ls : List L) : Option (List L) := (R (RCache.dec ls) (RCache.dec (dropT 1 ls))).map RT.enc
theorem ok (ls q : List L) (hl : LOKs Ev.cells pats ls) (h : sem ls = some q) : ∃ n, runF E live Tryz.f29 res n (initS pats ls) = some q := by
  obtain ⟨v, hv, hq⟩ := map_some h
  obtain ⟨⟨a0, a1⟩, hg, e, hm⟩ := ofM_some hv
  simp only [rf, Prod.mk.injEq] at e
  obtain ⟨e0, e1⟩ := e
  have hn := okF a0 a1 hg
  refine ⟨0, (run_eq 0 ls).trans ?_⟩
  rw [← e0, ← e1]
  rw [hn, ← hq, hm]; rfl
noncomputable def con : Con := ⟨pats, res, sem⟩
theorem chk : fnB Tryz.f29 con 11 = true := by kernel_rfl
theorem valid_ : Valid Tryz.prog Ev 29 con := valid mix tab_ok (.cons laws_eqStoredS.valid_ .nil) Tryz.func29 chk live ok
end laws_eqCache
/-! laws.eqWalk -/
namespace laws_eqWalk
noncomputable def F (x0 : RWalk) (x1 : RWalk) : Ans := (call (laws_eqTrace.R x0.fTrace x1.fTrace) fun v1 => (bif (!v1) then ret (false : Bool) else (call (laws_eqCache.R x0.fCache x1.fCache) fun v2 => (bif (!v2) then ret (false : Bool) else ret (true : Bool)))))
def live : Nat → Live := fun _ => []
def pats : List Pat := [.agg [.sl 38, .sl 95, .int .i64, .str, .int .i64, .int .i64, .sl 9, .sl 3, .int .i64, .sl 124], .agg [.sl 38, .sl 95, .int .i64, .str, .int .i64, .int .i64, .sl 9, .sl 3, .int .i64, .sl 124]]
def res : RP := .one (.rd (.bool))
noncomputable def G : List (Nat × Con) := [(64, laws_eqTrace.con), (29, laws_eqCache.con)]
noncomputable abbrev E : Env := ⟨assoc Tab, conG G, 17⟩
set_option maxRecDepth 100000
theorem run_eq (n : Nat) (ls : List L) : runF E live Tryz.f24 res n (initS pats ls) = F (RWalk.dec ls) (RWalk.dec (dropT 10 ls)) := by kernel_rfl
noncomputable def md (a0 : MWalk) (a1 : MWalk) : Bool := eqB a0 a1
def gd (a0 : MWalk) (a1 : MWalk) : Prop := True
def rf (a : MWalk × MWalk) : RWalk × RWalk := ((MWalk.r a.1), (MWalk.r a.2))
theorem rf_inj (a b : MWalk × MWalk) (h : rf a = rf b) : a = b := by
  exact (Prod.ext (MWalk.r_inj (congrArg (fun x => x.1) h)) (MWalk.r_inj (congrArg (fun x => x.2) h)))
noncomputable def R (x0 : RWalk) (x1 : RWalk) : Option (Bool) := ofM rf (fun a => gd a.1 a.2) (fun a => (md a.1 a.2)) (x0, x1)
theorem R_eq {a0 : MWalk} {a1 : MWalk} (h : gd a0 a1) : R (MWalk.r a0) (MWalk.r a1) = some (md a0 a1) := ofM_eq (r := rf) (a := (a0, a1)) rf_inj h
theorem okF (a0 : MWalk) (a1 : MWalk) (hg : gd a0 a1) : F (MWalk.r a0) (MWalk.r a1) = ret ((md a0 a1) : Bool) := by
  unfold md
  show (call (laws_eqTrace.R (MTrace.r a0.fTrace) (MTrace.r a1.fTrace)) fun v1 => (bif (!v1) then ret (false : Bool) else (call (laws_eqCache.R (MCache.r a0.fCache) (MCache.r a1.fCache)) fun v2 => (bif (!v2) then ret (false : Bool) else ret (true : Bool))))) = _
  simp only [call_eq (laws_eqTrace.R_eq (a0 := a0.fTrace) (a1 := a1.fTrace) trivial), laws_eqTrace.md]
  simp only [call_eq (laws_eqCache.R_eq (a0 := a0.fCache) (a1 := a1.fCache) trivial), laws_eqCache.md]
  try simp only [bne, int_beq, bool_beq, ba_beq]
  have e : eqB a0 a1 = (eqB a0.fTrace a1.fTrace && (eqB a0.fCache a1.fCache && true)) := by
    cases a0; cases a1
    rw [Bool.eq_iff_iff]
    simp only [eqB_iff, Bool.and_eq_true, MWalk.mk.injEq, and_true]
  rw [e]
  refine and_step fun _ => ?_
  refine and_step fun _ => ?_
  rfl
noncomputable def sem (ls : List L) : Option (List L) := (R (RWalk.dec ls) (RWalk.dec (dropT 10 ls))).map RT.enc
theorem ok (ls q : List L) (hl : LOKs Ev.cells pats ls) (h : sem ls = some q) : ∃ n, runF E live Tryz.f24 res n (initS pats ls) = some q := by
  obtain ⟨v, hv, hq⟩ := map_some h
  obtain ⟨⟨a0, a1⟩, hg, e, hm⟩ := ofM_some hv
  simp only [rf, Prod.mk.injEq] at e
  obtain ⟨e0, e1⟩ := e
  have hn := okF a0 a1 hg
  refine ⟨0, (run_eq 0 ls).trans ?_⟩
  rw [← e0, ← e1]
  rw [hn, ← hq, hm]; rfl
noncomputable def con : Con := ⟨pats, res, sem⟩
theorem chk : fnB Tryz.f24 con 17 = true := by kernel_rfl
theorem valid_ : Valid Tryz.prog Ev 24 con := valid mix tab_ok (.cons laws_eqTrace.valid_ (.cons laws_eqCache.valid_ .nil)) Tryz.func24 chk live ok
end laws_eqWalk
/-! laws.FnExactEqualWalks -/
namespace laws_FnExactEqualWalks
noncomputable def F (x0 : RWalk) (x1 : RWalk) : Ans := (call (laws_szWalk.R x0 1048576) fun v1 => (bif (decide (v1 < 0)) then ret (true : Bool) else (call (laws_szWalk.R x1 v1) fun v2 => (bif (decide (v2 < 0)) then ret (true : Bool) else (call (laws_toWalk.R x0) fun v3 => (call (laws_toWalk.R x1) fun v4 => (call (spec_EqualWalks.R v3 v4) fun v5 => (call (laws_toWalk.R x0) fun v6 => (call (laws_toWalk.R x1) fun v7 => (call (impl_EqualWalks.R v6 v7) fun v8 => (bif (!(v8 == v5)) then ret (false : Bool) else (call (laws_toWalk.R x0) fun v9 => (call (laws_eqWalk.R v6 v9) fun v10 => (bif (!v10) then ret (false : Bool) else (call (laws_toWalk.R x1) fun v11 => (call (laws_eqWalk.R v7 v11) fun v12 => (bif (!v12) then ret (false : Bool) else ret (true : Bool))))))))))))))))))
def live : Nat → Live := fun _ => []
def pats : List Pat := [.agg [.sl 35, .sl 137, .int .i64, .str, .int .i64, .int .i64, .sl 9, .sl 3, .int .i64, .sl 168], .agg [.sl 35, .sl 137, .int .i64, .str, .int .i64, .int .i64, .sl 9, .sl 3, .int .i64, .sl 168]]
def res : RP := .one (.rd (.bool))
noncomputable def G : List (Nat × Con) := [(20, laws_szWalk.con), (22, laws_toWalk.con), (21, spec_EqualWalks.con), (23, impl_EqualWalks.con), (24, laws_eqWalk.con)]
noncomputable abbrev E : Env := ⟨assoc Tab, conG G, 45⟩
set_option maxRecDepth 100000
theorem run_eq (n : Nat) (ls : List L) : runF E live Tryz.f5 res n (initS pats ls) = F (RWalk.dec ls) (RWalk.dec (dropT 10 ls)) := by kernel_rfl
noncomputable def md (a0 : MWalk) (a1 : MWalk) : Bool := true
def gd (a0 : MWalk) (a1 : MWalk) : Prop := (MWalk.Sm maxLen a0) ∧ (MWalk.Sm maxLen a1)
def rf (a : MWalk × MWalk) : RWalk × RWalk := ((MWalk.r a.1), (MWalk.r a.2))
theorem rf_inj (a b : MWalk × MWalk) (h : rf a = rf b) : a = b := by
  exact (Prod.ext (MWalk.r_inj (congrArg (fun x => x.1) h)) (MWalk.r_inj (congrArg (fun x => x.2) h)))
noncomputable def R (x0 : RWalk) (x1 : RWalk) : Option (Bool) := ofM rf (fun a => gd a.1 a.2) (fun a => (md a.1 a.2)) (x0, x1)
theorem R_eq {a0 : MWalk} {a1 : MWalk} (h : gd a0 a1) : R (MWalk.r a0) (MWalk.r a1) = some (md a0 a1) := ofM_eq (r := rf) (a := (a0, a1)) rf_inj h
theorem okF (a0 : MWalk) (a1 : MWalk) (hg : gd a0 a1) : F (MWalk.r a0) (MWalk.r a1) = ret ((md a0 a1) : Bool) := by
  unfold md
  show (call (laws_szWalk.R (MWalk.r a0) 1048576) fun v1 => (bif (decide (v1 < 0)) then ret (true : Bool) else (call (laws_szWalk.R (MWalk.r a1) v1) fun v2 => (bif (decide (v2 < 0)) then ret (true : Bool) else (call (laws_toWalk.R (MWalk.r a0)) fun v3 => (call (laws_toWalk.R (MWalk.r a1)) fun v4 => (call (spec_EqualWalks.R v3 v4) fun v5 => (call (laws_toWalk.R (MWalk.r a0)) fun v6 => (call (laws_toWalk.R (MWalk.r a1)) fun v7 => (call (impl_EqualWalks.R v6 v7) fun v8 => (bif (!(v8 == v5)) then ret (false : Bool) else (call (laws_toWalk.R (MWalk.r a0)) fun v9 => (call (laws_eqWalk.R v6 v9) fun v10 => (bif (!v10) then ret (false : Bool) else (call (laws_toWalk.R (MWalk.r a1)) fun v11 => (call (laws_eqWalk.R v7 v11) fun v12 => (bif (!v12) then ret (false : Bool) else ret (true : Bool)))))))))))))))))) = _
  rw [call_eq (laws_szWalk.R_eq (a1 := (1048576 : Int)) ⟨hg.1, by omega, by omega⟩)]
  unfold laws_szWalk.md
  by_cases c0 : (1048576 : Int) < (((MWalk.size a0) : Nat) : Int)
  · rw [szM_neg c0]; rfl
  rw [szM_pos c0, dec_neg (by omega)]
  simp only [cond_false]
  have s0 : MWalk.Sm (2 ^ 20) a0 := (MWalk.Sm_of (by omega))
  rw [call_eq (laws_szWalk.R_eq (a1 := (1048576 - (((MWalk.size a0) : Nat) : Int) : Int)) ⟨hg.2, by omega, by omega⟩)]
  unfold laws_szWalk.md
  by_cases c1 : (1048576 - (((MWalk.size a0) : Nat) : Int) : Int) < (((MWalk.size a1) : Nat) : Int)
  · rw [szM_neg c1]; rfl
  rw [szM_pos c1, dec_neg (by omega)]
  simp only [cond_false]
  have s1 : MWalk.Sm (2 ^ 20) a1 := (MWalk.Sm_of (by omega))
  rw [call_eq (laws_toWalk.R_eq (a0 := a0) (MWalk.Sm_mono (by decide) s0))]
  simp only [laws_toWalk.md]
  rw [call_eq (laws_toWalk.R_eq (a0 := a1) (MWalk.Sm_mono (by decide) s1))]
  simp only [laws_toWalk.md]
  rw [call_eq (spec_EqualWalks.R_eq (a0 := a0) (a1 := a1) (by
    have := And.intro trivial trivial
    unfold spec_EqualWalks.gd
    first | exact (MWalk.Sm_mono (by decide) s0) | refine ⟨(MWalk.Sm_mono (by decide) s0), (MWalk.Sm_mono (by decide) s1)⟩))]
  rw [call_eq (laws_toWalk.R_eq (a0 := a0) (MWalk.Sm_mono (by decide) s0))]
  simp only [laws_toWalk.md]
  rw [call_eq (laws_toWalk.R_eq (a0 := a1) (MWalk.Sm_mono (by decide) s1))]
  simp only [laws_toWalk.md]
  rw [call_eq (impl_EqualWalks.R_eq (a0 := a0) (a1 := a1) (by
    have := And.intro trivial trivial
    unfold impl_EqualWalks.gd
    first | exact (MWalk.Sm_mono (by decide) s0) | refine ⟨(MWalk.Sm_mono (by decide) s0), (MWalk.Sm_mono (by decide) s1)⟩))]
  try simp only [spec_EqualWalks.md_eq, impl_EqualWalks.md_eq, bne_self_eq_false, beq_self_eq_true, ba_refl, Bool.not_true, cond_false]
  rw [call_eq (laws_toWalk.R_eq (a0 := a0) (MWalk.Sm_mono (by decide) s0))]
  simp only [laws_toWalk.md]
  rw [call_eq (laws_eqWalk.R_eq (a0 := a0) (a1 := a0) trivial)]
  simp only [laws_eqWalk.md, eqB_refl, Bool.not_true, cond_false]
  rw [call_eq (laws_toWalk.R_eq (a0 := a1) (MWalk.Sm_mono (by decide) s1))]
  simp only [laws_toWalk.md]
  rw [call_eq (laws_eqWalk.R_eq (a0 := a1) (a1 := a1) trivial)]
  simp only [laws_eqWalk.md, eqB_refl, Bool.not_true, cond_false]
noncomputable def sem (ls : List L) : Option (List L) := (R (RWalk.dec ls) (RWalk.dec (dropT 10 ls))).map RT.enc
theorem ok (ls q : List L) (hl : LOKs Ev.cells pats ls) (h : sem ls = some q) : ∃ n, runF E live Tryz.f5 res n (initS pats ls) = some q := by
  obtain ⟨v, hv, hq⟩ := map_some h
  obtain ⟨⟨a0, a1⟩, hg, e, hm⟩ := ofM_some hv
  simp only [rf, Prod.mk.injEq] at e
  obtain ⟨e0, e1⟩ := e
  have hn := okF a0 a1 hg
  refine ⟨0, (run_eq 0 ls).trans ?_⟩
  rw [← e0, ← e1]
  rw [hn, ← hq, hm]; rfl
noncomputable def con : Con := ⟨pats, res, sem⟩
theorem chk : fnB Tryz.f5 con 45 = true := by kernel_rfl
theorem valid_ : Valid Tryz.prog Ev 5 con := valid mix tab_ok (.cons laws_szWalk.valid_ (.cons laws_toWalk.valid_ (.cons spec_EqualWalks.valid_ (.cons impl_EqualWalks.valid_ (.cons laws_eqWalk.valid_ .nil))))) Tryz.func5 chk live ok
theorem MKeys_wf103 (r : List L) (h : WfAll Ev.cells [.sl 3, .int .i64] r) : ∃ x : MKeys, MKeys.row x = r ∧ MKeys.Sm maxLen x := by
  obtain ⟨l0, t0, rfl, g0, h1⟩ := h.uncons
  obtain ⟨x0, rfl, s0⟩ := wf_list (show Ev.cells 3 = [.int .i64] from by kernel_rfl) wf_irow g0
  obtain ⟨l1, t1, rfl, g1, h2⟩ := h1.uncons
  obtain ⟨x1, rfl⟩ := wf_int g1
  obtain rfl := h2.isnil
  exact ⟨⟨x0, x1⟩, rfl, s0⟩
theorem MHead_wf105 (r : List L) (h : WfAll Ev.cells [.int .i64, .int .i64, .int .i64, .int .i64, .int .i64, .int .i64, .int .i64, .int .i64, .sl 3, .int .i64, .sl 3, .int .i64, .int .i64, .sl 3, .int .i64, .bool] r) : ∃ x : MHead, MHead.row x = r ∧ MHead.Sm maxLen x := by
  obtain ⟨l0, t0, rfl, g0, h1⟩ := h.uncons
  obtain ⟨x0, rfl⟩ := wf_int g0
  obtain ⟨l1, t1, rfl, g1, h2⟩ := h1.uncons
  obtain ⟨x1, rfl⟩ := wf_int g1
  obtain ⟨l2, t2, rfl, g2, h3⟩ := h2.uncons
  obtain ⟨x2, rfl⟩ := wf_int g2
  obtain ⟨l3, t3, rfl, g3, h4⟩ := h3.uncons
  obtain ⟨x3, rfl⟩ := wf_int g3
  obtain ⟨l4, t4, rfl, g4, h5⟩ := h4.uncons
  obtain ⟨x4, rfl⟩ := wf_int g4
  obtain ⟨l5, t5, rfl, g5, h6⟩ := h5.uncons
  obtain ⟨x5, rfl⟩ := wf_int g5
  obtain ⟨l6, t6, rfl, g6, h7⟩ := h6.uncons
  obtain ⟨x6, rfl⟩ := wf_int g6
  obtain ⟨l7, t7, rfl, g7, h8⟩ := h7.uncons
  obtain ⟨x7, rfl⟩ := wf_int g7
  obtain ⟨r8, t8, rfl, g8, h9⟩ := WfAll.unapp (a := [.sl 3, .int .i64]) (b := [.sl 3, .int .i64, .int .i64, .sl 3, .int .i64, .bool]) h8
  obtain ⟨x8, rfl, s8⟩ := MKeys_wf103 _ g8
  obtain ⟨r9, t9, rfl, g9, h10⟩ := WfAll.unapp (a := [.sl 3, .int .i64]) (b := [.int .i64, .sl 3, .int .i64, .bool]) h9
  obtain ⟨x9, rfl, s9⟩ := MKeys_wf103 _ g9
  obtain ⟨l10, t10, rfl, g10, h11⟩ := h10.uncons
  obtain ⟨x10, rfl⟩ := wf_int g10
  obtain ⟨r11, t11, rfl, g11, h12⟩ := WfAll.unapp (a := [.sl 3, .int .i64]) (b := [.bool]) h11
  obtain ⟨x11, rfl, s11⟩ := MKeys_wf103 _ g11
  obtain ⟨l12, t12, rfl, g12, h13⟩ := h12.uncons
  obtain ⟨x12, rfl⟩ := wf_bool g12
  obtain rfl := h13.isnil
  exact ⟨⟨x0, x1, x2, x3, x4, x5, x6, x7, x8, x9, x10, x11, x12⟩, rfl, ⟨s8, s9, s11⟩⟩
theorem MSig_wf189 (r : List L) (h : WfAll Ev.cells [.int .i64, .int .i64] r) : ∃ x : MSig, MSig.row x = r ∧ MSig.Sm maxLen x := by
  obtain ⟨l0, t0, rfl, g0, h1⟩ := h.uncons
  obtain ⟨x0, rfl⟩ := wf_int g0
  obtain ⟨l1, t1, rfl, g1, h2⟩ := h1.uncons
  obtain ⟨x1, rfl⟩ := wf_int g1
  obtain rfl := h2.isnil
  exact ⟨⟨x0, x1⟩, rfl, trivial⟩
theorem MSigned_wf108 (r : List L) (h : WfAll Ev.cells [.int .i64, .int .i64, .int .i64, .int .i64, .int .i64, .int .i64, .int .i64, .int .i64, .sl 3, .int .i64, .sl 3, .int .i64, .int .i64, .sl 3, .int .i64, .bool, .sl 189] r) : ∃ x : MSigned, MSigned.row x = r ∧ MSigned.Sm maxLen x := by
  obtain ⟨r0, t0, rfl, g0, h1⟩ := WfAll.unapp (a := [.int .i64, .int .i64, .int .i64, .int .i64, .int .i64, .int .i64, .int .i64, .int .i64, .sl 3, .int .i64, .sl 3, .int .i64, .int .i64, .sl 3, .int .i64, .bool]) (b := [.sl 189]) h
  obtain ⟨x0, rfl, s0⟩ := MHead_wf105 _ g0
  obtain ⟨l1, t1, rfl, g1, h2⟩ := h1.uncons
  obtain ⟨x1, rfl, s1⟩ := wf_list (show Ev.cells 189 = [.int .i64, .int .i64] from by kernel_rfl) MSig_wf189 g1
  obtain rfl := h2.isnil
  exact ⟨⟨x0, x1⟩, rfl, ⟨s0, s1⟩⟩
theorem MFork_wf137 (r : List L) (h : WfAll Ev.cells [.int .i64, .int .i64, .int .i64, .int .i64, .int .i64, .int .i64, .int .i64, .int .i64, .sl 3, .int .i64, .sl 3, .int .i64, .int .i64, .sl 3, .int .i64, .bool, .sl 189, .int .i64, .int .i64, .int .i64, .int .i64, .int .i64, .int .i64, .int .i64, .int .i64, .sl 3, .int .i64, .sl 3, .int .i64, .int .i64, .sl 3, .int .i64, .bool, .sl 189, .int .i64, .int .i64, .int .i64, .int .i64, .int .i64, .int .i64, .int .i64, .int .i64, .sl 3, .int .i64, .sl 3, .int .i64, .int .i64, .sl 3, .int .i64, .bool, .sl 189] r) : ∃ x : MFork, MFork.row x = r ∧ MFork.Sm maxLen x := by
  obtain ⟨r0, t0, rfl, g0, h1⟩ := WfAll.unapp (a := [.int .i64, .int .i64, .int .i64, .int .i64, .int .i64, .int .i64, .int .i64, .int .i64, .sl 3, .int .i64, .sl 3, .int .i64, .int .i64, .sl 3, .int .i64, .bool, .sl 189]) (b := [.int .i64, .int .i64, .int .i64, .int .i64, .int .i64, .int .i64, .int .i64, .int .i64, .sl 3, .int .i64, .sl 3, .int .i64, .int .i64, .sl 3, .int .i64, .bool, .sl 189, .int .i64, .int .i64, .int .i64, .int .i64, .int .i64, .int .i64, .int .i64, .int .i64, .sl 3, .int .i64, .sl 3, .int .i64, .int .i64, .sl 3, .int .i64, .bool, .sl 189]) h
  obtain ⟨x0, rfl, s0⟩ := MSigned_wf108 _ g0
  obtain ⟨r1, t1, rfl, g1, h2⟩ := WfAll.unapp (a := [.int .i64, .int .i64, .int .i64, .int .i64, .int .i64, .int .i64, .int .i64, .int .i64, .sl 3, .int .i64, .sl 3, .int .i64, .int .i64, .sl 3, .int .i64, .bool, .sl 189]) (b := [.int .i64, .int .i64, .int .i64, .int .i64, .int .i64, .int .i64, .int .i64, .int .i64, .sl 3, .int .i64, .sl 3, .int .i64, .int .i64, .sl 3, .int .i64, .bool, .sl 189]) h1
  obtain ⟨x1, rfl, s1⟩ := MSigned_wf108 _ g1
  obtain ⟨r2, t2, rfl, g2, h3⟩ := WfAll.unapp (a := [.int .i64, .int .i64, .int .i64, .int .i64, .int .i64, .int .i64, .int .i64, .int .i64, .sl 3, .int .i64, .sl 3, .int .i64, .int .i64, .sl 3, .int .i64, .bool, .sl 189]) (b := []) h2
  obtain ⟨x2, rfl, s2⟩ := MSigned_wf108 _ g2
  obtain rfl := h3.isnil
  exact ⟨⟨x0, x1, x2⟩, rfl, ⟨s0, s1, s2⟩⟩
theorem MKnown_wf25 (r : List L) (h : WfAll Ev.cells [.sl 35, .sl 137] r) : ∃ x : MKnown, MKnown.row x = r ∧ MKnown.Sm maxLen x := by
  obtain ⟨l0, t0, rfl, g0, h1⟩ := h.uncons
  obtain ⟨x0, rfl, s0⟩ := wf_list (show Ev.cells 35 = [.sl 108] from by kernel_rfl) (wf_lrow (show Ev.cells 108 = [.int .i64, .int .i64, .int .i64, .int .i64, .int .i64, .int .i64, .int .i64, .int .i64, .sl 3, .int .i64, .sl 3, .int .i64, .int .i64, .sl 3, .int .i64, .bool, .sl 189] from by kernel_rfl) MSigned_wf108) g0
  obtain ⟨l1, t1, rfl, g1, h2⟩ := h1.uncons
  obtain ⟨x1, rfl, s1⟩ := wf_list (show Ev.cells 137 = [.int .i64, .int .i64, .int .i64, .int .i64, .int .i64, .int .i64, .int .i64, .int .i64, .sl 3, .int .i64, .sl 3, .int .i64, .int .i64, .sl 3, .int .i64, .bool, .sl 189, .int .i64, .int .i64, .int .i64, .int .i64, .int .i64, .int .i64, .int .i64, .int .i64, .sl 3, .int .i64, .sl 3, .int .i64, .int .i64, .sl 3, .int .i64, .bool, .sl 189, .int .i64, .int .i64, .int .i64, .int .i64, .int .i64, .int .i64, .int .i64, .int .i64, .sl 3, .int .i64, .sl 3, .int .i64, .int .i64, .sl 3, .int .i64, .bool, .sl 189] from by kernel_rfl) MFork_wf137 g1
  obtain rfl := h2.isnil
  exact ⟨⟨x0, x1⟩, rfl, ⟨s0, s1⟩⟩
theorem MEntry_wf44 (r : List L) (h : WfAll Ev.cells [.str, .int .i64, .int .i64, .sl 9] r) : ∃ x : MEntry, MEntry.row x = r ∧ MEntry.Sm maxLen x := by
  obtain ⟨l0, t0, rfl, g0, h1⟩ := h.uncons
  obtain ⟨x0, rfl, s0⟩ := wf_str g0
  obtain ⟨l1, t1, rfl, g1, h2⟩ := h1.uncons
  obtain ⟨x1, rfl⟩ := wf_int g1
  obtain ⟨l2, t2, rfl, g2, h3⟩ := h2.uncons
  obtain ⟨x2, rfl⟩ := wf_int g2
  obtain ⟨l3, t3, rfl, g3, h4⟩ := h3.uncons
  obtain ⟨x3, rfl, s3⟩ := wf_list (show Ev.cells 9 = [.str] from by kernel_rfl) wf_srow g3
  obtain rfl := h4.isnil
  exact ⟨⟨x0, x1, x2, x3⟩, rfl, ⟨s0, s3⟩⟩
theorem MTrace_wf47 (r : List L) (h : WfAll Ev.cells [.sl 35, .sl 137, .int .i64, .str, .int .i64, .int .i64, .sl 9, .sl 3, .int .i64] r) : ∃ x : MTrace, MTrace.row x = r ∧ MTrace.Sm maxLen x := by
  obtain ⟨r0, t0, rfl, g0, h1⟩ := WfAll.unapp (a := [.sl 35, .sl 137]) (b := [.int .i64, .str, .int .i64, .int .i64, .sl 9, .sl 3, .int .i64]) h
  obtain ⟨x0, rfl, s0⟩ := MKnown_wf25 _ g0
  obtain ⟨l1, t1, rfl, g1, h2⟩ := h1.uncons
  obtain ⟨x1, rfl⟩ := wf_int g1
  obtain ⟨r2, t2, rfl, g2, h3⟩ := WfAll.unapp (a := [.str, .int .i64, .int .i64, .sl 9]) (b := [.sl 3, .int .i64]) h2
  obtain ⟨x2, rfl, s2⟩ := MEntry_wf44 _ g2
  obtain ⟨l3, t3, rfl, g3, h4⟩ := h3.uncons
  obtain ⟨x3, rfl, s3⟩ := wf_list (show Ev.cells 3 = [.int .i64] from by kernel_rfl) wf_irow g3
  obtain ⟨l4, t4, rfl, g4, h5⟩ := h4.uncons
  obtain ⟨x4, rfl⟩ := wf_int g4
  obtain rfl := h5.isnil
  exact ⟨⟨x0, x1, x2, x3, x4⟩, rfl, ⟨s0, s2, s3⟩⟩
theorem MProof_wf162 (r : List L) (h : WfAll Ev.cells [.int .i64, .sl 3] r) : ∃ x : MProof, MProof.row x = r ∧ MProof.Sm maxLen x := by
  obtain ⟨l0, t0, rfl, g0, h1⟩ := h.uncons
  obtain ⟨x0, rfl⟩ := wf_int g0
  obtain ⟨l1, t1, rfl, g1, h2⟩ := h1.uncons
  obtain ⟨x1, rfl, s1⟩ := wf_list (show Ev.cells 3 = [.int .i64] from by kernel_rfl) wf_irow g1
  obtain rfl := h2.isnil
  exact ⟨⟨x0, x1⟩, rfl, s1⟩
theorem MGap_wf164 (r : List L) (h : WfAll Ev.cells [.int .i64, .str, .int .i64, .int .i64, .sl 9, .str, .int .i64, .int .i64, .sl 9, .int .i64, .sl 3, .int .i64, .sl 3] r) : ∃ x : MGap, MGap.row x = r ∧ MGap.Sm maxLen x := by
  obtain ⟨l0, t0, rfl, g0, h1⟩ := h.uncons
  obtain ⟨x0, rfl⟩ := wf_int g0
  obtain ⟨r1, t1, rfl, g1, h2⟩ := WfAll.unapp (a := [.str, .int .i64, .int .i64, .sl 9]) (b := [.str, .int .i64, .int .i64, .sl 9, .int .i64, .sl 3, .int .i64, .sl 3]) h1
  obtain ⟨x1, rfl, s1⟩ := MEntry_wf44 _ g1
  obtain ⟨r2, t2, rfl, g2, h3⟩ := WfAll.unapp (a := [.str, .int .i64, .int .i64, .sl 9]) (b := [.int .i64, .sl 3, .int .i64, .sl 3]) h2
  obtain ⟨x2, rfl, s2⟩ := MEntry_wf44 _ g2
  obtain ⟨r3, t3, rfl, g3, h4⟩ := WfAll.unapp (a := [.int .i64, .sl 3]) (b := [.int .i64, .sl 3]) h3
  obtain ⟨x3, rfl, s3⟩ := MProof_wf162 _ g3
  obtain ⟨r4, t4, rfl, g4, h5⟩ := WfAll.unapp (a := [.int .i64, .sl 3]) (b := []) h4
  obtain ⟨x4, rfl, s4⟩ := MProof_wf162 _ g4
  obtain rfl := h5.isnil
  exact ⟨⟨x0, x1, x2, x3, x4⟩, rfl, ⟨s1, s2, s3, s4⟩⟩
theorem MAnswer_wf166 (r : List L) (h : WfAll Ev.cells [.sl 108, .bool, .str, .int .i64, .int .i64, .sl 9, .int .i64, .sl 3, .int .i64, .str, .int .i64, .int .i64, .sl 9, .str, .int .i64, .int .i64, .sl 9, .int .i64, .sl 3, .int .i64, .sl 3] r) : ∃ x : MAnswer, MAnswer.row x = r ∧ MAnswer.Sm maxLen x := by
  obtain ⟨l0, t0, rfl, g0, h1⟩ := h.uncons
  obtain ⟨x0, rfl, s0⟩ := wf_list (show Ev.cells 108 = [.int .i64, .int .i64, .int .i64, .int .i64, .int .i64, .int .i64, .int .i64, .int .i64, .sl 3, .int .i64, .sl 3, .int .i64, .int .i64, .sl 3, .int .i64, .bool, .sl 189] from by kernel_rfl) MSigned_wf108 g0
  obtain ⟨l1, t1, rfl, g1, h2⟩ := h1.uncons
  obtain ⟨x1, rfl⟩ := wf_bool g1
  obtain ⟨r2, t2, rfl, g2, h3⟩ := WfAll.unapp (a := [.str, .int .i64, .int .i64, .sl 9]) (b := [.int .i64, .sl 3, .int .i64, .str, .int .i64, .int .i64, .sl 9, .str, .int .i64, .int .i64, .sl 9, .int .i64, .sl 3, .int .i64, .sl 3]) h2
  obtain ⟨x2, rfl, s2⟩ := MEntry_wf44 _ g2
  obtain ⟨r3, t3, rfl, g3, h4⟩ := WfAll.unapp (a := [.int .i64, .sl 3]) (b := [.int .i64, .str, .int .i64, .int .i64, .sl 9, .str, .int .i64, .int .i64, .sl 9, .int .i64, .sl 3, .int .i64, .sl 3]) h3
  obtain ⟨x3, rfl, s3⟩ := MProof_wf162 _ g3
  obtain ⟨r4, t4, rfl, g4, h5⟩ := WfAll.unapp (a := [.int .i64, .str, .int .i64, .int .i64, .sl 9, .str, .int .i64, .int .i64, .sl 9, .int .i64, .sl 3, .int .i64, .sl 3]) (b := []) h4
  obtain ⟨x4, rfl, s4⟩ := MGap_wf164 _ g4
  obtain rfl := h5.isnil
  exact ⟨⟨x0, x1, x2, x3, x4⟩, rfl, ⟨s0, s2, s3, s4⟩⟩
theorem MStored_wf168 (r : List L) (h : WfAll Ev.cells [.int .i64, .str, .sl 108, .bool, .str, .int .i64, .int .i64, .sl 9, .int .i64, .sl 3, .int .i64, .str, .int .i64, .int .i64, .sl 9, .str, .int .i64, .int .i64, .sl 9, .int .i64, .sl 3, .int .i64, .sl 3] r) : ∃ x : MStored, MStored.row x = r ∧ MStored.Sm maxLen x := by
  obtain ⟨l0, t0, rfl, g0, h1⟩ := h.uncons
  obtain ⟨x0, rfl⟩ := wf_int g0
  obtain ⟨l1, t1, rfl, g1, h2⟩ := h1.uncons
  obtain ⟨x1, rfl, s1⟩ := wf_str g1
  obtain ⟨r2, t2, rfl, g2, h3⟩ := WfAll.unapp (a := [.sl 108, .bool, .str, .int .i64, .int .i64, .sl 9, .int .i64, .sl 3, .int .i64, .str, .int .i64, .int .i64, .sl 9, .str, .int .i64, .int .i64, .sl 9, .int .i64, .sl 3, .int .i64, .sl 3]) (b := []) h2
  obtain ⟨x2, rfl, s2⟩ := MAnswer_wf166 _ g2
  obtain rfl := h3.isnil
  exact ⟨⟨x0, x1, x2⟩, rfl, ⟨s1, s2⟩⟩
theorem MCache_wf50 (r : List L) (h : WfAll Ev.cells [.sl 168] r) : ∃ x : MCache, MCache.row x = r ∧ MCache.Sm maxLen x := by
  obtain ⟨l0, t0, rfl, g0, h1⟩ := h.uncons
  obtain ⟨x0, rfl, s0⟩ := wf_list (show Ev.cells 168 = [.int .i64, .str, .sl 108, .bool, .str, .int .i64, .int .i64, .sl 9, .int .i64, .sl 3, .int .i64, .str, .int .i64, .int .i64, .sl 9, .str, .int .i64, .int .i64, .sl 9, .int .i64, .sl 3, .int .i64, .sl 3] from by kernel_rfl) MStored_wf168 g0
  obtain rfl := h1.isnil
  exact ⟨⟨x0⟩, rfl, s0⟩
theorem MWalk_wf52 (r : List L) (h : WfAll Ev.cells [.sl 35, .sl 137, .int .i64, .str, .int .i64, .int .i64, .sl 9, .sl 3, .int .i64, .sl 168] r) : ∃ x : MWalk, MWalk.row x = r ∧ MWalk.Sm maxLen x := by
  obtain ⟨r0, t0, rfl, g0, h1⟩ := WfAll.unapp (a := [.sl 35, .sl 137, .int .i64, .str, .int .i64, .int .i64, .sl 9, .sl 3, .int .i64]) (b := [.sl 168]) h
  obtain ⟨x0, rfl, s0⟩ := MTrace_wf47 _ g0
  obtain ⟨r1, t1, rfl, g1, h2⟩ := WfAll.unapp (a := [.sl 168]) (b := []) h1
  obtain ⟨x1, rfl, s1⟩ := MCache_wf50 _ g1
  obtain rfl := h2.isnil
  exact ⟨⟨x0, x1⟩, rfl, ⟨s0, s1⟩⟩
theorem holds (ls : List L) (h : WfAll Ev.cells ([52, 52].flatMap Ev.cells) ls) : sem ls = some [.bool true] := by
  have hk : [52, 52].flatMap Ev.cells = [.sl 35, .sl 137, .int .i64, .str, .int .i64, .int .i64, .sl 9, .sl 3, .int .i64, .sl 168, .sl 35, .sl 137, .int .i64, .str, .int .i64, .int .i64, .sl 9, .sl 3, .int .i64, .sl 168] := by kernel_rfl
  rw [hk] at h
  obtain ⟨r0, t0, rfl, g0, h1⟩ := WfAll.unapp (a := [.sl 35, .sl 137, .int .i64, .str, .int .i64, .int .i64, .sl 9, .sl 3, .int .i64, .sl 168]) (b := [.sl 35, .sl 137, .int .i64, .str, .int .i64, .int .i64, .sl 9, .sl 3, .int .i64, .sl 168]) h
  obtain ⟨x0, rfl, s0⟩ := MWalk_wf52 _ g0
  obtain ⟨r1, t1, rfl, g1, h2⟩ := WfAll.unapp (a := [.sl 35, .sl 137, .int .i64, .str, .int .i64, .int .i64, .sl 9, .sl 3, .int .i64, .sl 168]) (b := []) h1
  obtain ⟨x1, rfl, s1⟩ := MWalk_wf52 _ g1
  obtain rfl := h2.isnil
  show (R (MWalk.r x0) (MWalk.r x1)).map RT.enc = _
  rw [R_eq ⟨s0, s1⟩]
  rfl
end laws_FnExactEqualWalks
end Go.DM
