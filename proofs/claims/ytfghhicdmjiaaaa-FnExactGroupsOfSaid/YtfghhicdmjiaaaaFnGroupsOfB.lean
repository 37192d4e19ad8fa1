/- What the functions compute that the law reaches, and that the law returns true. Conditions: none. -/
import Derived.Test.YtfghhicdmjiaaaaTy
import Derived.Test.YtfghhicdmjiaaaaFnGroupsOfA
import Derived.Test.YtfghhicdmjiaaaaProg
import Derived.Lib.AppendZerosOnto
import Derived.Lib.Bytealg
import Derived.Laws.Externs
import Derived.Lib.Walk
import Derived.Lib.Hide
import Derived.Lib.Strings
set_option linter.all false
namespace Go.DM
open Go.Proofs
/-! laws.markTraceS -/
namespace laws_markTraceS
set_option maxRecDepth 100000
set_option maxHeartbeats 8000000
inductive Pt where
  | p0 (a : Int) (b : Int) (c : List (List L))
def pid : Pt → Nat
  | .p0 .. => 2
def pvs : Pt → List V
  | .p0 a b c => [.own 0, .int .i64 a, .int .i64 b]
def phs : Pt → List Root
  | .p0 a b c => [.row 124 c]
noncomputable def step (J : Pt → Ans) : Pt → Ans
  | .p0 a b c => (bif (decide (b < (c.length : Int))) then (bif (decide ((0 : Int) ≤ b)) then (bif (decide (b < (c.length : Int))) then (call (laws_markSignedSS.R ((RTrace.at c (Int.toNat b)).fKnown.fChains, a)) fun v1 => (bif (decide ((0 : Int) ≤ b)) then (bif (decide (b < (c.length : Int))) then (bif (Nat.beq (Int.toNat b) (Int.toNat b) && true) then (bif (Nat.beq (Int.toNat b) (Int.toNat b) && true) then (call (laws_markForkS.R ((RTrace.at c (Int.toNat b)).fKnown.fForks, v1.1)) fun v2 => (bif (decide ((0 : Int) ≤ b)) then (bif (decide (b < (c.length : Int))) then (bif (Nat.beq (Int.toNat b) (Int.toNat b) && true) then (call (laws_markText.R (IntKind.i64.wrap (v2.1 + 1))) fun v3 => (bif (decide ((0 : Int) ≤ b)) then (bif (decide (b < (c.length : Int))) then (bif (Nat.beq (Int.toNat b) (Int.toNat b) && true) then (bif (decide ((0 : Int) ≤ b)) then (bif (decide (b < (c.length : Int))) then (bif (Nat.beq (Int.toNat b) (Int.toNat b) && true) then (bif (decide ((0 : Int) ≤ b)) then (bif (decide (b < (c.length : Int))) then (bif (Nat.beq (Int.toNat b) (Int.toNat b) && true) then (bif (decide ((0 : Int) ≤ b)) then (bif (decide (b < (c.length : Int))) then (bif (Nat.beq (Int.toNat b) (Int.toNat b) && true) then (bif (Nat.beq (Int.toNat b) (Int.toNat b) && true) then (call (laws_markStringS.R ((RTrace.at c (Int.toNat b)).fEntry.fPath, (IntKind.i64.wrap ((IntKind.i64.wrap ((IntKind.i64.wrap ((IntKind.i64.wrap (v2.1 + 1)) + 1)) + 1)) + 1)))) fun v4 => (bif (decide ((0 : Int) ≤ b)) then (bif (decide (b < (c.length : Int))) then (bif (Nat.beq (Int.toNat b) (Int.toNat b) && true) then (bif (Nat.beq (Int.toNat b) (Int.toNat b) && true) then (call (laws_markIntS.R ((RTrace.at c (Int.toNat b)).fZones, v4.1)) fun v5 => (bif (decide ((0 : Int) ≤ b)) then (bif (decide (b < (c.length : Int))) then (bif (Nat.beq (Int.toNat b) (Int.toNat b) && true) then J (.p0 (IntKind.i64.wrap (v5.1 + 1)) (IntKind.i64.wrap (b + 1)) (List.set c (Int.toNat b) (RTrace.enc (⟨(⟨v1.2, v2.2⟩ : RKnown), v2.1, (⟨v3, (IntKind.i64.wrap ((IntKind.i64.wrap (v2.1 + 1)) + 1)), (IntKind.i64.wrap ((IntKind.i64.wrap ((IntKind.i64.wrap (v2.1 + 1)) + 1)) + 1)), v4.2⟩ : REntry), v5.2, v5.1⟩ : RTrace)))) else none) else none) else none)) else none) else none) else none) else none)) else none) else none) else none) else none) else none) else none) else none) else none) else none) else none) else none) else none) else none)) else none) else none) else none)) else none) else none) else none) else none)) else none) else none) else ret ((a, c) : Int × List (List L)))
noncomputable def start (J : Pt → Ans) (x0 : List (List L)) (x1 : Int) : Ans := J (.p0 x1 0 x0)
def live : Nat → Live := fun i => match i with | 2 => [(0, none), (1, none), (5, none)] | _ => []
def pats : List (Bool × List K) := [(false, [.sl 124]), (false, [.int .i64])]
def res : RP := .chg [124]
noncomputable abbrev E : Env := { T := assoc Tab, G := conG [(75, laws_markText.con)], nt := 83, M := conM [(98, laws_markSignedSS.con), (99, laws_markForkS.con), (34, laws_markStringS.con), (100, laws_markIntS.con)], np := 1, mt := true }
set_option maxRecDepth 100000
theorem step_eq (I : Heads) (p : Pt) : enterC E live I (pid p) (bodyOf Try.f45) (stOf (live (pid p)) (pvs p) (phs p)) (doneK E Try.f45 res) = step (fun q => I (pid q) (pvs q) (phs q)) p := by
  cases p <;> kernel_rfl
theorem start_eq (I : Heads) (ls : List L) : runC E live I (bodyOf Try.f45) (initM pats ls) (doneK E Try.f45 res) = start (fun q => I (pid q) (pvs q) (phs q)) (ls.headD .hole).toSl ((dropT 1 ls).headD .hole).toInt := by kernel_rfl
theorem run_eq (n : Nat) (ls : List L) : runF E live Try.f45 res n (initM pats ls) = start (iter step n) (ls.headD .hole).toSl ((dropT 1 ls).headD .hole).toInt := runF_iter (id := pid) (vs := pvs) (hs := phs) (step := step) (start := fun J => start J (ls.headD .hole).toSl ((dropT 1 ls).headD .hole).toInt) step_eq (fun I => start_eq I ls) n
noncomputable def e1 (x : MTrace) (k : Int) := laws_markSignedSS.md ((x.fKnown).fChains) k
noncomputable def e2 (x : MTrace) (k : Int) := laws_markForkS.md ((x.fKnown).fForks) ((e1 x k).1)
noncomputable def e3 (x : MTrace) (k : Int) := laws_markStringS.md ((x.fEntry).fPath) (IntKind.i64.wrap ((IntKind.i64.wrap ((IntKind.i64.wrap ((IntKind.i64.wrap ((e2 x k).1 + 1)) + 1)) + 1)) + 1))
noncomputable def e4 (x : MTrace) (k : Int) := laws_markIntS.md x.fZones ((e3 x k).1)
noncomputable def el (x : MTrace) (k : Int) : Int × MTrace := ((IntKind.i64.wrap ((e4 x k).1 + 1)), (⟨(⟨(e1 x k).2, (e2 x k).2⟩ : MKnown), (e2 x k).1, (⟨(laws_markText.md (IntKind.i64.wrap ((e2 x k).1 + 1))), (IntKind.i64.wrap ((IntKind.i64.wrap ((e2 x k).1 + 1)) + 1)), (IntKind.i64.wrap ((IntKind.i64.wrap ((IntKind.i64.wrap ((e2 x k).1 + 1)) + 1)) + 1)), (e3 x k).2⟩ : MEntry), (e4 x k).2, (e4 x k).1⟩ : MTrace))
theorem el_I (x : MTrace) (k : Int) (hk : I64 k) : I64 (el x k).1 := (wrap_I64 _)
noncomputable def cnt (x : MTrace) : Nat := 5 + laws_markSignedSS.sum ((x.fKnown).fChains) + laws_markForkS.sum ((x.fKnown).fForks) + laws_markStringS.sum ((x.fEntry).fPath) + laws_markIntS.sum x.fZones
noncomputable def sum (a : List MTrace) : Nat := (a.map cnt).sum
noncomputable def md (a0 : List MTrace) (a1 : Int) : Int × List MTrace := accM el a0 a1
def gd (a0 : List MTrace) (a1 : Int) : Prop := I64 a1
def acc (ls : List L) : List (List L) × Int := ((ls.headD .hole).toSl, ((dropT 1 ls).headD .hole).toInt)
noncomputable def R : (List (List L) × Int) → Option (Int × List (List L)) := RR (p2 gd) (u2 md)
theorem R_eq {a0} {a1} (h : gd a0 a1) : R ((a0.map MTrace.row), a1) = some ((md a0 a1).1, ((md a0 a1).2.map MTrace.row)) := RR_eq (a := (a0, a1)) h
noncomputable def con : MCon := MN pats acc R
theorem okF (a0 : List MTrace) (a1 : Int) (hg : gd a0 a1) (h0 : a0.length ≤ maxLen) : ∃ n, start (iter step n) (a0.map MTrace.row) a1 = ret (((md a0 a1).1, ((md a0 a1).2.map MTrace.row)) : Int × List (List L)) := by
  unfold gd at hg
  show ∃ n, iter step n (Pt.p0 a1 0 (a0.map MTrace.row)) = _
  unfold md
  refine mark_loop (el := el) (xs := a0) MTrace.zero I64 el_I (pt := fun i k c => Pt.p0 k (i : Int) (c.map MTrace.row)) (out := fun b => ret (b.1, b.2.map MTrace.row)) (fun J i k c hi hc hk => ?_) (fun J k c hc => ?_) hg
  · have hm : c.length ≤ maxLen := hc ▸ h0
    simp only [step, S0, MKnown.rs, MEntry.rs, MTrace.rs]
    refine yes_ret (lt_dec hi) ?_
    refine yes_ret zle_dec ?_
    refine yes_ret (lt_dec hi) ?_
    refine call_to ((e1 (c.getD i MTrace.zero) k).1, ((e1 (c.getD i MTrace.zero) k).2.map (lRow MSigned.row))) (laws_markSignedSS.R_eq (a0 := ((c.getD i MTrace.zero).fKnown).fChains) (a1 := k) hk) ?_
    refine yes_ret zle_dec ?_
    refine yes_ret (lt_dec hi) ?_
    refine yes_ret (beq_t _) ?_
    refine yes_ret (beq_t _) ?_
    refine call_to ((e2 (c.getD i MTrace.zero) k).1, ((e2 (c.getD i MTrace.zero) k).2.map MFork.row)) (laws_markForkS.R_eq (a0 := ((c.getD i MTrace.zero).fKnown).fForks) (a1 := (e1 (c.getD i MTrace.zero) k).1) (laws_markSignedSS.i64 hk)) ?_
    refine yes_ret zle_dec ?_
    refine yes_ret (lt_dec hi) ?_
    refine yes_ret (beq_t _) ?_
    refine call_to (laws_markText.md (IntKind.i64.wrap ((e2 (c.getD i MTrace.zero) k).1 + 1))) (laws_markText.R_eq (a0 := IntKind.i64.wrap ((e2 (c.getD i MTrace.zero) k).1 + 1)) (wrap_I64 _)) ?_
    refine yes_ret zle_dec ?_
    refine yes_ret (lt_dec hi) ?_
    refine yes_ret (beq_t _) ?_
    refine yes_ret zle_dec ?_
    refine yes_ret (lt_dec hi) ?_
    refine yes_ret (beq_t _) ?_
    refine yes_ret zle_dec ?_
    refine yes_ret (lt_dec hi) ?_
    refine yes_ret (beq_t _) ?_
    refine yes_ret zle_dec ?_
    refine yes_ret (lt_dec hi) ?_
    refine yes_ret (beq_t _) ?_
    refine yes_ret (beq_t _) ?_
    refine call_to ((e3 (c.getD i MTrace.zero) k).1, ((e3 (c.getD i MTrace.zero) k).2.map sRow)) (laws_markStringS.R_eq (a0 := ((c.getD i MTrace.zero).fEntry).fPath) (a1 := IntKind.i64.wrap ((IntKind.i64.wrap ((IntKind.i64.wrap ((IntKind.i64.wrap ((e2 (c.getD i MTrace.zero) k).1 + 1)) + 1)) + 1)) + 1)) (wrap_I64 _)) ?_
    refine yes_ret zle_dec ?_
    refine yes_ret (lt_dec hi) ?_
    refine yes_ret (beq_t _) ?_
    refine yes_ret (beq_t _) ?_
    refine call_to ((e4 (c.getD i MTrace.zero) k).1, ((e4 (c.getD i MTrace.zero) k).2.map iRow)) (laws_markIntS.R_eq (a0 := (c.getD i MTrace.zero).fZones) (a1 := (e3 (c.getD i MTrace.zero) k).1) (laws_markStringS.i64 (wrap_I64 _))) ?_
    refine yes_ret zle_dec ?_
    refine yes_ret (lt_dec hi) ?_
    refine yes_ret (beq_t _) ?_
    rw [wrap_succ hi hm]
    exact congrArg (fun q => J (Pt.p0 (el (c.getD i MTrace.zero) k).1 ((i + 1 : Nat) : Int) q)) (List.map_set (f := MTrace.row) (l := c) (i := i) (a := (el (c.getD i MTrace.zero) k).2)).symm
  · simp only [step, S0, MKnown.rs, MEntry.rs, MTrace.rs]
    refine no_ret (by apply decide_eq_false; omega) ?_
    rfl
theorem valid_ : MValid Try.prog Ev 45 con := MV (run := fun n x => start (iter step n) x.1 x.2) mix tab_ok (.cons laws_markText.valid_ .nil) (.cons laws_markSignedSS.valid_ (.cons laws_markForkS.valid_ (.cons laws_markStringS.valid_ (.cons laws_markIntS.valid_ .nil)))) Try.func45 (by kernel_rfl) run_eq (fun ls a hl e hg => okF a.1 a.2 hg (by have h : (ls.headD .hole).toSl.length ≤ maxLen := (hl _ _ (.head _)).len; have e : a.1.map MTrace.row = (ls.headD .hole).toSl := (congrArg (fun x => x.1) e.symm); rw [← e] at h; simpa using h))
theorem i64 {a0 : List MTrace} {a1 : Int} (h : I64 a1) : I64 (md a0 a1).1 := accM_I el_I h
theorem elk (x : MTrace) (k : Int) (h0 : 0 ≤ k) (hb : k + (cnt x : Int) ≤ 4611686018427387904) : (el x k).1 = k + cnt x := by
  simp only [cnt, Int.natCast_add] at hb ⊢
  simp (disch := omega) only [el, e1, e2, e3, e4, wi, laws_markSignedSS.kk, laws_markForkS.kk, laws_markStringS.kk, laws_markIntS.kk]
  all_goals first | done | omega
theorem kk (a0 : List MTrace) (a1 : Int) (h0 : 0 ≤ a1) (hb : a1 + (sum a0 : Int) ≤ 4611686018427387904) : (md a0 a1).1 = a1 + sum a0 := accM_sum elk a0 a1 h0 hb
theorem sz (a : List MTrace) : sum a ≤ 60 * (szL (fun y : MTrace => MTrace.size y) a) := sum_le (fun x => by
    have := laws_markSignedSS.sz ((x.fKnown).fChains)
    have := laws_markForkS.sz ((x.fKnown).fForks)
    have := laws_markStringS.sz ((x.fEntry).fPath)
    have := laws_markIntS.sz x.fZones
    try simp only [cnt, MTrace.size, MKnown.size, MEntry.size] at *
    omega) a
end laws_markTraceS
/-! laws.markIntSS -/
namespace laws_markIntSS
set_option maxRecDepth 100000
set_option maxHeartbeats 8000000
inductive Pt where
  | p0 (a : Int) (b : Int) (c : List (List L))
def pid : Pt → Nat
  | .p0 .. => 2
def pvs : Pt → List V
  | .p0 a b c => [.own 0, .int .i64 a, .int .i64 b]
def phs : Pt → List Root
  | .p0 a b c => [.row 116 c]
noncomputable def step (J : Pt → Ans) : Pt → Ans
  | .p0 a b c => (bif (decide (b < (c.length : Int))) then (bif (decide ((0 : Int) ≤ b)) then (bif (decide (b < (c.length : Int))) then (call (laws_markIntS.R ((lAt c (Int.toNat b)), a)) fun v1 => J (.p0 v1.1 (IntKind.i64.wrap (b + 1)) (List.set c (Int.toNat b) [L.sl v1.2]))) else none) else none) else ret ((a, c) : Int × List (List L)))
noncomputable def start (J : Pt → Ans) (x0 : List (List L)) (x1 : Int) : Ans := J (.p0 x1 0 x0)
def live : Nat → Live := fun i => match i with | 2 => [(0, none), (1, none), (5, none)] | _ => []
def pats : List (Bool × List K) := [(false, [.sl 116]), (false, [.int .i64])]
def res : RP := .chg [116]
noncomputable abbrev E : Env := { T := assoc Tab, G := conG [], nt := 19, M := conM [(100, laws_markIntS.con)], np := 1, mt := true }
set_option maxRecDepth 100000
theorem step_eq (I : Heads) (p : Pt) : enterC E live I (pid p) (bodyOf Try.f46) (stOf (live (pid p)) (pvs p) (phs p)) (doneK E Try.f46 res) = step (fun q => I (pid q) (pvs q) (phs q)) p := by
  cases p <;> kernel_rfl
theorem start_eq (I : Heads) (ls : List L) : runC E live I (bodyOf Try.f46) (initM pats ls) (doneK E Try.f46 res) = start (fun q => I (pid q) (pvs q) (phs q)) (ls.headD .hole).toSl ((dropT 1 ls).headD .hole).toInt := by kernel_rfl
theorem run_eq (n : Nat) (ls : List L) : runF E live Try.f46 res n (initM pats ls) = start (iter step n) (ls.headD .hole).toSl ((dropT 1 ls).headD .hole).toInt := runF_iter (id := pid) (vs := pvs) (hs := phs) (step := step) (start := fun J => start J (ls.headD .hole).toSl ((dropT 1 ls).headD .hole).toInt) step_eq (fun I => start_eq I ls) n
noncomputable def e1 (x : List Int) (k : Int) := laws_markIntS.md x k
noncomputable def el (x : List Int) (k : Int) : Int × (List Int) := ((e1 x k).1, ((e1 x k).2))
theorem el_I (x : List Int) (k : Int) (hk : I64 k) : I64 (el x k).1 := (laws_markIntS.i64 hk)
noncomputable def cnt (x : List Int) : Nat := 0 + laws_markIntS.sum x
noncomputable def sum (a : List (List Int)) : Nat := (a.map cnt).sum
noncomputable def md (a0 : List (List Int)) (a1 : Int) : Int × List (List Int) := accM el a0 a1
def gd (a0 : List (List Int)) (a1 : Int) : Prop := I64 a1
def acc (ls : List L) : List (List L) × Int := ((ls.headD .hole).toSl, ((dropT 1 ls).headD .hole).toInt)
noncomputable def R : (List (List L) × Int) → Option (Int × List (List L)) := RR (p2 gd) (u2 md)
theorem R_eq {a0} {a1} (h : gd a0 a1) : R ((a0.map (lRow iRow)), a1) = some ((md a0 a1).1, ((md a0 a1).2.map (lRow iRow))) := RR_eq (a := (a0, a1)) h
noncomputable def con : MCon := MN pats acc R
theorem okF (a0 : List (List Int)) (a1 : Int) (hg : gd a0 a1) (h0 : a0.length ≤ maxLen) : ∃ n, start (iter step n) (a0.map (lRow iRow)) a1 = ret (((md a0 a1).1, ((md a0 a1).2.map (lRow iRow))) : Int × List (List L)) := by
  unfold gd at hg
  show ∃ n, iter step n (Pt.p0 a1 0 (a0.map (lRow iRow))) = _
  unfold md
  refine mark_loop (el := el) (xs := a0) [] I64 el_I (pt := fun i k c => Pt.p0 k (i : Int) (c.map (lRow iRow))) (out := fun b => ret (b.1, b.2.map (lRow iRow))) (fun J i k c hi hc hk => ?_) (fun J k c hc => ?_) hg
  · have hm : c.length ≤ maxLen := hc ▸ h0
    simp only [step, S0]
    refine yes_ret (lt_dec hi) ?_
    refine yes_ret zle_dec ?_
    refine yes_ret (lt_dec hi) ?_
    refine call_to ((e1 (c.getD i []) k).1, ((e1 (c.getD i []) k).2.map iRow)) (laws_markIntS.R_eq (a0 := c.getD i []) (a1 := k) hk) ?_
    rw [wrap_succ hi hm]
    exact congrArg (fun q => J (Pt.p0 (el (c.getD i []) k).1 ((i + 1 : Nat) : Int) q)) (List.map_set (f := (lRow iRow)) (l := c) (i := i) (a := (el (c.getD i []) k).2)).symm
  · simp only [step, S0]
    refine no_ret (by apply decide_eq_false; omega) ?_
    rfl
theorem valid_ : MValid Try.prog Ev 46 con := MV (run := fun n x => start (iter step n) x.1 x.2) mix tab_ok .nil (.cons laws_markIntS.valid_ .nil) Try.func46 (by kernel_rfl) run_eq (fun ls a hl e hg => okF a.1 a.2 hg (by have h : (ls.headD .hole).toSl.length ≤ maxLen := (hl _ _ (.head _)).len; have e : a.1.map (lRow iRow) = (ls.headD .hole).toSl := (congrArg (fun x => x.1) e.symm); rw [← e] at h; simpa using h))
theorem i64 {a0 : List (List Int)} {a1 : Int} (h : I64 a1) : I64 (md a0 a1).1 := accM_I el_I h
theorem elk (x : List Int) (k : Int) (h0 : 0 ≤ k) (hb : k + (cnt x : Int) ≤ 4611686018427387904) : (el x k).1 = k + cnt x := by
  simp only [cnt, Int.natCast_add] at hb ⊢
  simp (disch := omega) only [el, e1, wi, laws_markIntS.kk]
  all_goals first | done | omega
theorem kk (a0 : List (List Int)) (a1 : Int) (h0 : 0 ≤ a1) (hb : a1 + (sum a0 : Int) ≤ 4611686018427387904) : (md a0 a1).1 = a1 + sum a0 := accM_sum elk a0 a1 h0 hb
theorem sz (a : List (List Int)) : sum a ≤ 60 * (szL (fun y : List Int => szL (fun y : Int => 0) y) a) := sum_le (fun x => by
    have := laws_markIntS.sz x
    try simp only [cnt] at *
    omega) a
end laws_markIntSS
/-! laws.heldIntS -/
namespace laws_heldIntS
set_option maxRecDepth 100000
set_option maxHeartbeats 8000000
inductive Pt where
  | p0 (a : List (List L)) (b : Int) (c : Int)
def pid : Pt → Nat
  | .p0 .. => 2
def pvs : Pt → List V
  | .p0 a b c => [.sl none 3 a, .int .i64 b, .int .i64 c]
def phs : Pt → List Root
  | .p0 a b c => []
noncomputable def step (J : Pt → Ans) : Pt → Ans
  | .p0 a b c => (bif (decide (c < (a.length : Int))) then (bif (decide ((0 : Int) ≤ c)) then (bif (decide (c < (a.length : Int))) then (bif ((iAt a (Int.toNat c)) != b) then ret ((-1) : Int) else J (.p0 a (IntKind.i64.wrap (b + 1)) (IntKind.i64.wrap (c + 1)))) else none) else none) else ret (b : Int))
noncomputable def start (J : Pt → Ans) (x0 : List (List L)) (x1 : Int) : Ans := J (.p0 x0 x1 0)
def live : Nat → Live := fun i => match i with | 2 => [(0, none), (1, none), (5, none)] | _ => []
def pats : List Pat := [.rd (.sl 3), .rd (.int .i64)]
def res : RP := .one (.rd (.int .i64))
noncomputable abbrev E : Env := { T := assoc Tab, G := conG [], nt := 21 }
set_option maxRecDepth 100000
theorem step_eq (I : Heads) (p : Pt) : enterC E live I (pid p) (bodyOf Try.f101) (stOf (live (pid p)) (pvs p) (phs p)) (doneK E Try.f101 res) = step (fun q => I (pid q) (pvs q) (phs q)) p := by
  cases p <;> kernel_rfl
theorem start_eq (I : Heads) (ls : List L) : runC E live I (bodyOf Try.f101) (initS pats ls) (doneK E Try.f101 res) = start (fun q => I (pid q) (pvs q) (phs q)) (ls.headD .hole).toSl ((dropT 1 ls).headD .hole).toInt := by kernel_rfl
theorem run_eq (n : Nat) (ls : List L) : runF E live Try.f101 res n (initS pats ls) = start (iter step n) (ls.headD .hole).toSl ((dropT 1 ls).headD .hole).toInt := runF_iter (id := pid) (vs := pvs) (hs := phs) (step := step) (start := fun J => start J (ls.headD .hole).toSl ((dropT 1 ls).headD .hole).toInt) step_eq (fun I => start_eq I ls) n
noncomputable def f (x : Int) (k : Int) : Option Int := (bif (x != k) then none else (some (IntKind.i64.wrap (k + 1))))
theorem f_I (x : Int) (k k2 : Int) (hk : I64 k) (h : f x k = some k2) : I64 k2 := by
  unfold f at h
  have h := bif_some h
  injection h with h
  subst h
  exact (wrap_I64 _)
noncomputable def md (a0 : List Int) (a1 : Int) : Int := heldM f a0 a1
def gd (a0 : List Int) (a1 : Int) : Prop := I64 a1
def acc (ls : List L) : List (List L) × Int := ((ls.headD .hole).toSl, ((dropT 1 ls).headD .hole).toInt)
noncomputable def R : (List (List L) × Int) → Option Int := RR (p2 gd) (u2 md)
theorem R_eq {a0} {a1} (h : gd a0 a1) : R ((a0.map iRow), a1) = some (md a0 a1) := RR_eq (a := (a0, a1)) h
noncomputable def con : Con := CN pats res acc R
theorem okF (a0 : List Int) (a1 : Int) (hg : gd a0 a1) (h0 : a0.length ≤ maxLen) : ∃ n, start (iter step n) (a0.map iRow) a1 = ret ((md a0 a1) : Int) := by
  unfold gd at hg
  show ∃ n, iter step n (Pt.p0 (a0.map iRow) a1 0) = _
  unfold md
  refine held_loop (f := f) (xs := a0) 0 I64 f_I (pt := fun i k => Pt.p0 (a0.map iRow) k (i : Int)) (fun J i k hi hk => ?_) (fun J k => ?_) hg
  · simp only [step, S0]
    refine yes_ret (lt_dec hi) ?_
    refine yes_ret zle_dec ?_
    refine yes_ret (lt_dec hi) ?_
    refine held_bif rfl ?_
    rw [wrap_succ hi h0]
    rfl
  · simp only [step, S0]
    refine no_ret (by apply decide_eq_false; omega) ?_
    rfl
theorem valid_ : Valid Try.prog Ev 101 con := VV (run := fun n x => start (iter step n) x.1 x.2) mix tab_ok .nil Try.func101 (by kernel_rfl) run_eq (fun ls a hl e hg => okF a.1 a.2 hg (by have h : (ls.headD .hole).toSl.length ≤ maxLen := hl.1.len; have e : a.1.map iRow = (ls.headD .hole).toSl := (congrArg (fun x => x.1) e.symm); rw [← e] at h; simpa using h))
theorem i64 {a0 : List Int} {a1 : Int} (h : I64 a1) : I64 (md a0 a1) := heldM_I f_I I64_neg h
theorem elh (x : Int) (k : Int) (h0 : 0 ≤ k) (hb : k + (laws_markIntS.cnt x : Int) ≤ 4611686018427387904) : f (laws_markIntS.el x k).2 k = some (k + laws_markIntS.cnt x) := by
  simp only [laws_markIntS.cnt, Int.natCast_add] at hb ⊢
  simp (disch := omega) only [laws_markIntS.el, f, wi, bne_self_eq_false, beq_self_eq_true, ba_refl, Bool.not_true, cond_false, dec_neg]
  all_goals first | done | omega | (congr 1 <;> omega)
theorem mk (a0 : List Int) (a1 : Int) (h0 : 0 ≤ a1) (hb : a1 + (laws_markIntS.sum a0 : Int) ≤ 4611686018427387904) : md (laws_markIntS.md a0 a1).2 a1 = a1 + laws_markIntS.sum a0 := held_mark laws_markIntS.elk elh a0 a1 h0 hb
end laws_heldIntS
/-! laws.heldIntSS -/
namespace laws_heldIntSS
set_option maxRecDepth 100000
set_option maxHeartbeats 8000000
inductive Pt where
  | p0 (a : List (List L)) (b : Int) (c : Int)
def pid : Pt → Nat
  | .p0 .. => 2
def pvs : Pt → List V
  | .p0 a b c => [.sl none 116 a, .int .i64 b, .int .i64 c]
def phs : Pt → List Root
  | .p0 a b c => []
noncomputable def step (J : Pt → Ans) : Pt → Ans
  | .p0 a b c => (bif (decide (c < (a.length : Int))) then (bif (decide ((0 : Int) ≤ c)) then (bif (decide (c < (a.length : Int))) then (call (laws_heldIntS.R ((lAt a (Int.toNat c)), b)) fun v1 => (bif (decide (v1 < 0)) then ret ((-1) : Int) else J (.p0 a v1 (IntKind.i64.wrap (c + 1))))) else none) else none) else ret (b : Int))
noncomputable def start (J : Pt → Ans) (x0 : List (List L)) (x1 : Int) : Ans := J (.p0 x0 x1 0)
def live : Nat → Live := fun i => match i with | 2 => [(0, none), (1, none), (5, none)] | _ => []
def pats : List Pat := [.rd (.sl 116), .rd (.int .i64)]
def res : RP := .one (.rd (.int .i64))
noncomputable abbrev E : Env := { T := assoc Tab, G := conG [(101, laws_heldIntS.con)], nt := 21 }
set_option maxRecDepth 100000
theorem step_eq (I : Heads) (p : Pt) : enterC E live I (pid p) (bodyOf Try.f47) (stOf (live (pid p)) (pvs p) (phs p)) (doneK E Try.f47 res) = step (fun q => I (pid q) (pvs q) (phs q)) p := by
  cases p <;> kernel_rfl
theorem start_eq (I : Heads) (ls : List L) : runC E live I (bodyOf Try.f47) (initS pats ls) (doneK E Try.f47 res) = start (fun q => I (pid q) (pvs q) (phs q)) (ls.headD .hole).toSl ((dropT 1 ls).headD .hole).toInt := by kernel_rfl
theorem run_eq (n : Nat) (ls : List L) : runF E live Try.f47 res n (initS pats ls) = start (iter step n) (ls.headD .hole).toSl ((dropT 1 ls).headD .hole).toInt := runF_iter (id := pid) (vs := pvs) (hs := phs) (step := step) (start := fun J => start J (ls.headD .hole).toSl ((dropT 1 ls).headD .hole).toInt) step_eq (fun I => start_eq I ls) n
noncomputable def e1 (x : List Int) (k : Int) := laws_heldIntS.md x k
noncomputable def f (x : List Int) (k : Int) : Option Int := (bif (decide ((e1 x k) < 0)) then none else (some (e1 x k)))
theorem f_I (x : List Int) (k k2 : Int) (hk : I64 k) (h : f x k = some k2) : I64 k2 := by
  unfold f at h
  have h := bif_some h
  injection h with h
  subst h
  exact (laws_heldIntS.i64 hk)
noncomputable def md (a0 : List (List Int)) (a1 : Int) : Int := heldM f a0 a1
def gd (a0 : List (List Int)) (a1 : Int) : Prop := I64 a1
def acc (ls : List L) : List (List L) × Int := ((ls.headD .hole).toSl, ((dropT 1 ls).headD .hole).toInt)
noncomputable def R : (List (List L) × Int) → Option Int := RR (p2 gd) (u2 md)
theorem R_eq {a0} {a1} (h : gd a0 a1) : R ((a0.map (lRow iRow)), a1) = some (md a0 a1) := RR_eq (a := (a0, a1)) h
noncomputable def con : Con := CN pats res acc R
theorem okF (a0 : List (List Int)) (a1 : Int) (hg : gd a0 a1) (h0 : a0.length ≤ maxLen) : ∃ n, start (iter step n) (a0.map (lRow iRow)) a1 = ret ((md a0 a1) : Int) := by
  unfold gd at hg
  show ∃ n, iter step n (Pt.p0 (a0.map (lRow iRow)) a1 0) = _
  unfold md
  refine held_loop (f := f) (xs := a0) [] I64 f_I (pt := fun i k => Pt.p0 (a0.map (lRow iRow)) k (i : Int)) (fun J i k hi hk => ?_) (fun J k => ?_) hg
  · simp only [step, S0]
    refine yes_ret (lt_dec hi) ?_
    refine yes_ret zle_dec ?_
    refine yes_ret (lt_dec hi) ?_
    refine call_to (e1 (a0.getD i []) k) (laws_heldIntS.R_eq (a0 := a0.getD i []) (a1 := k) hk) ?_
    refine held_bif rfl ?_
    rw [wrap_succ hi h0]
    rfl
  · simp only [step, S0]
    refine no_ret (by apply decide_eq_false; omega) ?_
    rfl
theorem valid_ : Valid Try.prog Ev 47 con := VV (run := fun n x => start (iter step n) x.1 x.2) mix tab_ok (.cons laws_heldIntS.valid_ .nil) Try.func47 (by kernel_rfl) run_eq (fun ls a hl e hg => okF a.1 a.2 hg (by have h : (ls.headD .hole).toSl.length ≤ maxLen := hl.1.len; have e : a.1.map (lRow iRow) = (ls.headD .hole).toSl := (congrArg (fun x => x.1) e.symm); rw [← e] at h; simpa using h))
theorem i64 {a0 : List (List Int)} {a1 : Int} (h : I64 a1) : I64 (md a0 a1) := heldM_I f_I I64_neg h
theorem elh (x : List Int) (k : Int) (h0 : 0 ≤ k) (hb : k + (laws_markIntSS.cnt x : Int) ≤ 4611686018427387904) : f (laws_markIntSS.el x k).2 k = some (k + laws_markIntSS.cnt x) := by
  simp only [laws_markIntSS.cnt, Int.natCast_add] at hb ⊢
  simp (disch := omega) only [laws_markIntSS.el, f, laws_markIntSS.e1, e1, wi, laws_markIntS.kk, laws_heldIntS.mk, bne_self_eq_false, beq_self_eq_true, ba_refl, Bool.not_true, cond_false, dec_neg]
  all_goals first | done | omega | (congr 1 <;> omega)
theorem mk (a0 : List (List Int)) (a1 : Int) (h0 : 0 ≤ a1) (hb : a1 + (laws_markIntSS.sum a0 : Int) ≤ 4611686018427387904) : md (laws_markIntSS.md a0 a1).2 a1 = a1 + laws_markIntSS.sum a0 := held_mark laws_markIntSS.elk elh a0 a1 h0 hb
end laws_heldIntSS
/-! laws.FnExactGroupsOf -/
namespace laws_FnExactGroupsOf
noncomputable def F (x0 : List (List L)) : Ans := (call (laws_szTraceS.R (x0, 1048576)) fun v1 => (bif (decide (v1 < 0)) then ret (true : Bool) else (call (laws_toTraceS.R x0) fun v2 => (call (spec_GroupsOf.R v2) fun v3 => (call (laws_toTraceS.R x0) fun v4 => (call (impl_GroupsOf.R v4) fun v5 => (call (laws_eqIntSS.R (v5, v3)) fun v6 => (bif (!v6) then ret (false : Bool) else (call (laws_toTraceS.R x0) fun v7 => (call (laws_eqTraceS.R (v4, v7)) fun v8 => (bif (!v8) then ret (false : Bool) else (call (laws_markTraceS.R (v4, 1)) fun v9 => (bif (decide (v9.1 < 0)) then ret (false : Bool) else (call (laws_eqIntSS.R (v5, v3)) fun v10 => (bif (!v10) then ret (false : Bool) else (call (laws_markIntSS.R (v5, 1)) fun v11 => (call (laws_heldIntSS.R (v11.2, 1)) fun v12 => (bif (decide (v12 < 0)) then ret (false : Bool) else (bif (v12 != v11.1) then ret (false : Bool) else (call (laws_toTraceS.R x0) fun v13 => (call (impl_GroupsOf.R v13) fun v14 => (call (laws_eqIntSS.R (v14, v3)) fun v15 => (bif (!v15) then ret (false : Bool) else (call (laws_heldIntSS.R (v11.2, 1)) fun v16 => (bif (decide (v16 < 0)) then ret (false : Bool) else (bif (v16 != v11.1) then ret (false : Bool) else ret (true : Bool)))))))))))))))))))))))))))
def pats : List Pat := [.rd (.sl 118)]
def res : RP := .one (.rd (.bool))
noncomputable abbrev E : Env := { T := assoc Tab, G := conG [(37, laws_szTraceS.con), (39, laws_toTraceS.con), (42, spec_GroupsOf.con), (43, impl_GroupsOf.con), (44, laws_eqIntSS.con), (41, laws_eqTraceS.con), (47, laws_heldIntSS.con)], nt := 69, M := conM [(45, laws_markTraceS.con), (46, laws_markIntSS.con)] }
set_option maxRecDepth 100000
theorem run_eq (n : Nat) (ls : List L) : runF E (fun _ => []) Try.f7 res n (initS pats ls) = F (ls.headD .hole).toSl := by kernel_rfl
noncomputable def md (a0 : List MTrace) : Bool := true
def gd (a0 : List MTrace) : Prop := (SmL maxLen (fun y : MTrace => MTrace.Sm maxLen y) a0)
def acc (ls : List L) : List (List L) := (ls.headD .hole).toSl
noncomputable def R : (List (List L)) → Option Bool := RR gd md
theorem R_eq {a0} (h : gd a0) : R (a0.map MTrace.row) = some (md a0) := RR_eq (a := a0) h
noncomputable def con : Con := CN pats res acc R
theorem okF (a0 : List MTrace) (hg : gd a0) : F (a0.map MTrace.row) = ret ((md a0) : Bool) := by
  unfold md
  show (call (laws_szTraceS.R ((a0.map MTrace.row), 1048576)) fun v1 => (bif (decide (v1 < 0)) then ret (true : Bool) else (call (laws_toTraceS.R (a0.map MTrace.row)) fun v2 => (call (spec_GroupsOf.R v2) fun v3 => (call (laws_toTraceS.R (a0.map MTrace.row)) fun v4 => (call (impl_GroupsOf.R v4) fun v5 => (call (laws_eqIntSS.R (v5, v3)) fun v6 => (bif (!v6) then ret (false : Bool) else (call (laws_toTraceS.R (a0.map MTrace.row)) fun v7 => (call (laws_eqTraceS.R (v4, v7)) fun v8 => (bif (!v8) then ret (false : Bool) else (call (laws_markTraceS.R (v4, 1)) fun v9 => (bif (decide (v9.1 < 0)) then ret (false : Bool) else (call (laws_eqIntSS.R (v5, v3)) fun v10 => (bif (!v10) then ret (false : Bool) else (call (laws_markIntSS.R (v5, 1)) fun v11 => (call (laws_heldIntSS.R (v11.2, 1)) fun v12 => (bif (decide (v12 < 0)) then ret (false : Bool) else (bif (v12 != v11.1) then ret (false : Bool) else (call (laws_toTraceS.R (a0.map MTrace.row)) fun v13 => (call (impl_GroupsOf.R v13) fun v14 => (call (laws_eqIntSS.R (v14, v3)) fun v15 => (bif (!v15) then ret (false : Bool) else (call (laws_heldIntSS.R (v11.2, 1)) fun v16 => (bif (decide (v16 < 0)) then ret (false : Bool) else (bif (v16 != v11.1) then ret (false : Bool) else ret (true : Bool))))))))))))))))))))))))))) = _
  rw [call_eq (laws_szTraceS.R_eq (a1 := (1048576 : Int)) ⟨hg, by omega, by omega⟩)]
  unfold laws_szTraceS.md
  by_cases c0 : (1048576 : Int) < (((szL (fun y : MTrace => MTrace.size y) a0) : Nat) : Int)
  · rw [szM_neg c0]; rfl
  rw [szM_pos c0, dec_neg (by omega)]
  simp only [cond_false]
  have s0 : SmL (2 ^ 20) (fun y : MTrace => MTrace.Sm (2 ^ 20) y) a0 := (szL_sm (f := fun y : MTrace => MTrace.size y) (by omega) (fun x hx => (MTrace.Sm_of hx)))
  refine call_to (a0.map MTrace.row) (laws_toTraceS.R_eq (a0 := a0) (s0.mono (by decide) (fun x hx => (MTrace.Sm_mono (by decide) hx)))) ?_
  refine call_to ((spec_GroupsOf.md a0).map (lRow iRow)) (spec_GroupsOf.R_eq (a0 := a0) (by
    have := And.intro trivial trivial
    unfold spec_GroupsOf.gd
    first | exact (s0.mono (by decide) (fun x hx => (MTrace.Sm_mono (by decide) hx))) | refine ⟨(s0.mono (by decide) (fun x hx => (MTrace.Sm_mono (by decide) hx)))⟩)) ?_
  refine call_to (a0.map MTrace.row) (laws_toTraceS.R_eq (a0 := a0) (s0.mono (by decide) (fun x hx => (MTrace.Sm_mono (by decide) hx)))) ?_
  have r_ := impl_GroupsOf.R_eq (a0 := a0) (by
    have := And.intro trivial trivial
    unfold impl_GroupsOf.gd
    first | exact (s0.mono (by decide) (fun x hx => (MTrace.Sm_mono (by decide) hx))) | refine ⟨(s0.mono (by decide) (fun x hx => (MTrace.Sm_mono (by decide) hx)))⟩)
  rw [impl_GroupsOf.br] at r_
  refine call_to ((spec_GroupsOf.md a0).map (lRow iRow)) r_ ?_
  clear r_
  refine call_to _ (laws_eqIntSS.R_eq (a0 := (spec_GroupsOf.md a0)) (a1 := (spec_GroupsOf.md a0)) trivial) ?_
  refine no_ret (by first | (simp only [bne_self_eq_false, beq_self_eq_true, ba_refl, eqB_refl, Bool.not_true, laws_eqIntSS.md]; done) | (refine bne_eq_false_iff_eq.2 ?_; omega)) ?_
  refine call_to (a0.map MTrace.row) (laws_toTraceS.R_eq (a0 := a0) (s0.mono (by decide) (fun x hx => (MTrace.Sm_mono (by decide) hx)))) ?_
  refine call_to _ (laws_eqTraceS.R_eq (a0 := a0) (a1 := a0) trivial) ?_
  refine no_ret (by first | (simp only [bne_self_eq_false, beq_self_eq_true, ba_refl, eqB_refl, Bool.not_true, laws_eqIntSS.md, laws_eqTraceS.md]; done) | (refine bne_eq_false_iff_eq.2 ?_; omega)) ?_
  have u1 := laws_markTraceS.sz a0
  refine call_to ((laws_markTraceS.md a0 1).1, ((laws_markTraceS.md a0 1).2.map MTrace.row)) (laws_markTraceS.R_eq (a0 := a0) (a1 := 1) I64_one) ?_
  have k2 := laws_markTraceS.kk a0 1 (by omega) (by omega)
  refine no_ret (dec_neg (by omega)) ?_
  refine call_to _ (laws_eqIntSS.R_eq (a0 := (spec_GroupsOf.md a0)) (a1 := (spec_GroupsOf.md a0)) trivial) ?_
  refine no_ret (by first | (simp only [bne_self_eq_false, beq_self_eq_true, ba_refl, eqB_refl, Bool.not_true, laws_eqIntSS.md, laws_eqTraceS.md]; done) | (refine bne_eq_false_iff_eq.2 ?_; omega)) ?_
  have u3 : laws_markIntSS.sum (spec_GroupsOf.md a0) ≤ 1000000000000000000 := (by
    have h1 := laws_markIntSS.sz (spec_GroupsOf.md a0)
    have hI := spec_GroupsOf.grp_inv a0 a0.length (Nat.le_refl _)
    have hl : a0.length ≤ 2 ^ 20 := by
      have k0 := c0
      unfold szL at k0
      omega
    have h2 : szL (fun y : List Int => szL (fun _ : Int => 0) y) (spec_GroupsOf.md a0) ≤ (spec_GroupsOf.md a0).length * (2 ^ 20 + 1) := szL_le fun x hx => by
      have := hI.2.1 x hx
      rw [szL_zero]
      omega
    have h3 : (spec_GroupsOf.md a0).length * (2 ^ 20 + 1) ≤ 2 ^ 20 * (2 ^ 20 + 1) := Nat.mul_le_mul_right _ (Nat.le_trans hI.1 hl)
    omega)
  refine call_to ((laws_markIntSS.md (spec_GroupsOf.md a0) 1).1, ((laws_markIntSS.md (spec_GroupsOf.md a0) 1).2.map (lRow iRow))) (laws_markIntSS.R_eq (a0 := (spec_GroupsOf.md a0)) (a1 := 1) I64_one) ?_
  have k4 := laws_markIntSS.kk (spec_GroupsOf.md a0) 1 (by omega) (by omega)
  refine call_to (laws_heldIntSS.md ((laws_markIntSS.md (spec_GroupsOf.md a0) 1).2) 1) (laws_heldIntSS.R_eq (a0 := ((laws_markIntSS.md (spec_GroupsOf.md a0) 1).2)) (a1 := 1) I64_one) ?_
  have h5 : (laws_heldIntSS.md ((laws_markIntSS.md (spec_GroupsOf.md a0) 1).2) 1) = 1 + (laws_markIntSS.sum (spec_GroupsOf.md a0) : Int) := laws_heldIntSS.mk (spec_GroupsOf.md a0) 1 (by omega) (by omega)
  refine no_ret (dec_neg (by omega)) ?_
  refine no_ret (by first | (simp only [bne_self_eq_false, beq_self_eq_true, ba_refl, eqB_refl, Bool.not_true, laws_eqIntSS.md, laws_eqTraceS.md]; done) | (refine bne_eq_false_iff_eq.2 ?_; omega)) ?_
  refine call_to (a0.map MTrace.row) (laws_toTraceS.R_eq (a0 := a0) (s0.mono (by decide) (fun x hx => (MTrace.Sm_mono (by decide) hx)))) ?_
  have r_ := impl_GroupsOf.R_eq (a0 := a0) (by
    have := And.intro trivial trivial
    unfold impl_GroupsOf.gd
    first | exact (s0.mono (by decide) (fun x hx => (MTrace.Sm_mono (by decide) hx))) | refine ⟨(s0.mono (by decide) (fun x hx => (MTrace.Sm_mono (by decide) hx)))⟩)
  rw [impl_GroupsOf.br] at r_
  refine call_to ((spec_GroupsOf.md a0).map (lRow iRow)) r_ ?_
  clear r_
  refine call_to _ (laws_eqIntSS.R_eq (a0 := (spec_GroupsOf.md a0)) (a1 := (spec_GroupsOf.md a0)) trivial) ?_
  refine no_ret (by first | (simp only [bne_self_eq_false, beq_self_eq_true, ba_refl, eqB_refl, Bool.not_true, laws_eqIntSS.md, laws_eqTraceS.md]; done) | (refine bne_eq_false_iff_eq.2 ?_; omega)) ?_
  refine call_to (laws_heldIntSS.md ((laws_markIntSS.md (spec_GroupsOf.md a0) 1).2) 1) (laws_heldIntSS.R_eq (a0 := ((laws_markIntSS.md (spec_GroupsOf.md a0) 1).2)) (a1 := 1) I64_one) ?_
  have h6 : (laws_heldIntSS.md ((laws_markIntSS.md (spec_GroupsOf.md a0) 1).2) 1) = 1 + (laws_markIntSS.sum (spec_GroupsOf.md a0) : Int) := laws_heldIntSS.mk (spec_GroupsOf.md a0) 1 (by omega) (by omega)
  refine no_ret (dec_neg (by omega)) ?_
  refine no_ret (by first | (simp only [bne_self_eq_false, beq_self_eq_true, ba_refl, eqB_refl, Bool.not_true, laws_eqIntSS.md, laws_eqTraceS.md]; done) | (refine bne_eq_false_iff_eq.2 ?_; omega)) ?_
  rfl
theorem valid_ : Valid Try.prog Ev 7 con := VS (run := fun _ x => F x) mix tab_ok (.cons laws_szTraceS.valid_ (.cons laws_toTraceS.valid_ (.cons spec_GroupsOf.valid_ (.cons impl_GroupsOf.valid_ (.cons laws_eqIntSS.valid_ (.cons laws_eqTraceS.valid_ (.cons laws_heldIntSS.valid_ .nil))))))) (.cons laws_markTraceS.valid_ (.cons laws_markIntSS.valid_ .nil)) Try.func7 (by kernel_rfl) run_eq (fun _ a _ _ hg => ⟨0, okF a hg⟩)
theorem MKeys_wf174 (r : List L) (h : WfAll Ev.cells [.sl 3, .int .i64] r) : ∃ x : MKeys, MKeys.row x = r ∧ MKeys.Sm maxLen x := by
  obtain ⟨l0, t0, rfl, g0, h1⟩ := h.uncons
  obtain ⟨x0, rfl, s0⟩ := wf_list (show Ev.cells 3 = [.int .i64] from by kernel_rfl) wf_irow g0
  obtain ⟨l1, t1, rfl, g1, h2⟩ := h1.uncons
  obtain ⟨x1, rfl⟩ := wf_int g1
  obtain rfl := h2.isnil
  exact ⟨⟨x0, x1⟩, rfl, s0⟩
theorem MHead_wf176 (r : List L) (h : WfAll Ev.cells [.int .i64, .int .i64, .int .i64, .int .i64, .int .i64, .int .i64, .int .i64, .int .i64, .sl 3, .int .i64, .sl 3, .int .i64, .int .i64, .sl 3, .int .i64, .bool] r) : ∃ x : MHead, MHead.row x = r ∧ MHead.Sm maxLen x := by
  obtain ⟨l0, t0, rfl, g0, h1⟩ := h.uncons
  obtain ⟨x0, rfl⟩ := wf_int g0
  obtain ⟨l1, t1, rfl, g1, h2⟩ := h1.uncons
  obtain ⟨x1, rfl⟩ := wf_int g1
  obtain ⟨l2, t2, rfl, g2, h3⟩ := h2.uncons
  obtain ⟨x2, rfl⟩ := wf_int g2
  obtain ⟨l3, t3, rfl, g3, h4⟩ := h3.uncons
  obtain ⟨x3, rfl⟩ := wf_int g3
  obtain ⟨l4, t4, rfl, g4, h5⟩ := h4.uncons
  obtain ⟨x4, rfl⟩ := wf_int g4
  obtain ⟨l5, t5, rfl, g5, h6⟩ := h5.uncons
  obtain ⟨x5, rfl⟩ := wf_int g5
  obtain ⟨l6, t6, rfl, g6, h7⟩ := h6.uncons
  obtain ⟨x6, rfl⟩ := wf_int g6
  obtain ⟨l7, t7, rfl, g7, h8⟩ := h7.uncons
  obtain ⟨x7, rfl⟩ := wf_int g7
  obtain ⟨r8, t8, rfl, g8, h9⟩ := WfAll.unapp (a := [.sl 3, .int .i64]) (b := [.sl 3, .int .i64, .int .i64, .sl 3, .int .i64, .bool]) h8
  obtain ⟨x8, rfl, s8⟩ := MKeys_wf174 _ g8
  obtain ⟨r9, t9, rfl, g9, h10⟩ := WfAll.unapp (a := [.sl 3, .int .i64]) (b := [.int .i64, .sl 3, .int .i64, .bool]) h9
  obtain ⟨x9, rfl, s9⟩ := MKeys_wf174 _ g9
  obtain ⟨l10, t10, rfl, g10, h11⟩ := h10.uncons
  obtain ⟨x10, rfl⟩ := wf_int g10
  obtain ⟨r11, t11, rfl, g11, h12⟩ := WfAll.unapp (a := [.sl 3, .int .i64]) (b := [.bool]) h11
  obtain ⟨x11, rfl, s11⟩ := MKeys_wf174 _ g11
  obtain ⟨l12, t12, rfl, g12, h13⟩ := h12.uncons
  obtain ⟨x12, rfl⟩ := wf_bool g12
  obtain rfl := h13.isnil
  exact ⟨⟨x0, x1, x2, x3, x4, x5, x6, x7, x8, x9, x10, x11, x12⟩, rfl, ⟨s8, s9, s11⟩⟩
theorem MSig_wf198 (r : List L) (h : WfAll Ev.cells [.int .i64, .int .i64] r) : ∃ x : MSig, MSig.row x = r ∧ MSig.Sm maxLen x := by
  obtain ⟨l0, t0, rfl, g0, h1⟩ := h.uncons
  obtain ⟨x0, rfl⟩ := wf_int g0
  obtain ⟨l1, t1, rfl, g1, h2⟩ := h1.uncons
  obtain ⟨x1, rfl⟩ := wf_int g1
  obtain rfl := h2.isnil
  exact ⟨⟨x0, x1⟩, rfl, trivial⟩
theorem MSigned_wf179 (r : List L) (h : WfAll Ev.cells [.int .i64, .int .i64, .int .i64, .int .i64, .int .i64, .int .i64, .int .i64, .int .i64, .sl 3, .int .i64, .sl 3, .int .i64, .int .i64, .sl 3, .int .i64, .bool, .sl 198] r) : ∃ x : MSigned, MSigned.row x = r ∧ MSigned.Sm maxLen x := by
  obtain ⟨r0, t0, rfl, g0, h1⟩ := WfAll.unapp (a := [.int .i64, .int .i64, .int .i64, .int .i64, .int .i64, .int .i64, .int .i64, .int .i64, .sl 3, .int .i64, .sl 3, .int .i64, .int .i64, .sl 3, .int .i64, .bool]) (b := [.sl 198]) h
  obtain ⟨x0, rfl, s0⟩ := MHead_wf176 _ g0
  obtain ⟨l1, t1, rfl, g1, h2⟩ := h1.uncons
  obtain ⟨x1, rfl, s1⟩ := wf_list (show Ev.cells 198 = [.int .i64, .int .i64] from by kernel_rfl) MSig_wf198 g1
  obtain rfl := h2.isnil
  exact ⟨⟨x0, x1⟩, rfl, ⟨s0, s1⟩⟩
theorem MFork_wf181 (r : List L) (h : WfAll Ev.cells [.int .i64, .int .i64, .int .i64, .int .i64, .int .i64, .int .i64, .int .i64, .int .i64, .sl 3, .int .i64, .sl 3, .int .i64, .int .i64, .sl 3, .int .i64, .bool, .sl 198, .int .i64, .int .i64, .int .i64, .int .i64, .int .i64, .int .i64, .int .i64, .int .i64, .sl 3, .int .i64, .sl 3, .int .i64, .int .i64, .sl 3, .int .i64, .bool, .sl 198, .int .i64, .int .i64, .int .i64, .int .i64, .int .i64, .int .i64, .int .i64, .int .i64, .sl 3, .int .i64, .sl 3, .int .i64, .int .i64, .sl 3, .int .i64, .bool, .sl 198] r) : ∃ x : MFork, MFork.row x = r ∧ MFork.Sm maxLen x := by
  obtain ⟨r0, t0, rfl, g0, h1⟩ := WfAll.unapp (a := [.int .i64, .int .i64, .int .i64, .int .i64, .int .i64, .int .i64, .int .i64, .int .i64, .sl 3, .int .i64, .sl 3, .int .i64, .int .i64, .sl 3, .int .i64, .bool, .sl 198]) (b := [.int .i64, .int .i64, .int .i64, .int .i64, .int .i64, .int .i64, .int .i64, .int .i64, .sl 3, .int .i64, .sl 3, .int .i64, .int .i64, .sl 3, .int .i64, .bool, .sl 198, .int .i64, .int .i64, .int .i64, .int .i64, .int .i64, .int .i64, .int .i64, .int .i64, .sl 3, .int .i64, .sl 3, .int .i64, .int .i64, .sl 3, .int .i64, .bool, .sl 198]) h
  obtain ⟨x0, rfl, s0⟩ := MSigned_wf179 _ g0
  obtain ⟨r1, t1, rfl, g1, h2⟩ := WfAll.unapp (a := [.int .i64, .int .i64, .int .i64, .int .i64, .int .i64, .int .i64, .int .i64, .int .i64, .sl 3, .int .i64, .sl 3, .int .i64, .int .i64, .sl 3, .int .i64, .bool, .sl 198]) (b := [.int .i64, .int .i64, .int .i64, .int .i64, .int .i64, .int .i64, .int .i64, .int .i64, .sl 3, .int .i64, .sl 3, .int .i64, .int .i64, .sl 3, .int .i64, .bool, .sl 198]) h1
  obtain ⟨x1, rfl, s1⟩ := MSigned_wf179 _ g1
  obtain ⟨r2, t2, rfl, g2, h3⟩ := WfAll.unapp (a := [.int .i64, .int .i64, .int .i64, .int .i64, .int .i64, .int .i64, .int .i64, .int .i64, .sl 3, .int .i64, .sl 3, .int .i64, .int .i64, .sl 3, .int .i64, .bool, .sl 198]) (b := []) h2
  obtain ⟨x2, rfl, s2⟩ := MSigned_wf179 _ g2
  obtain rfl := h3.isnil
  exact ⟨⟨x0, x1, x2⟩, rfl, ⟨s0, s1, s2⟩⟩
theorem MKnown_wf115 (r : List L) (h : WfAll Ev.cells [.sl 172, .sl 181] r) : ∃ x : MKnown, MKnown.row x = r ∧ MKnown.Sm maxLen x := by
  obtain ⟨l0, t0, rfl, g0, h1⟩ := h.uncons
  obtain ⟨x0, rfl, s0⟩ := wf_list (show Ev.cells 172 = [.sl 179] from by kernel_rfl) (wf_lrow (show Ev.cells 179 = [.int .i64, .int .i64, .int .i64, .int .i64, .int .i64, .int .i64, .int .i64, .int .i64, .sl 3, .int .i64, .sl 3, .int .i64, .int .i64, .sl 3, .int .i64, .bool, .sl 198] from by kernel_rfl) MSigned_wf179) g0
  obtain ⟨l1, t1, rfl, g1, h2⟩ := h1.uncons
  obtain ⟨x1, rfl, s1⟩ := wf_list (show Ev.cells 181 = [.int .i64, .int .i64, .int .i64, .int .i64, .int .i64, .int .i64, .int .i64, .int .i64, .sl 3, .int .i64, .sl 3, .int .i64, .int .i64, .sl 3, .int .i64, .bool, .sl 198, .int .i64, .int .i64, .int .i64, .int .i64, .int .i64, .int .i64, .int .i64, .int .i64, .sl 3, .int .i64, .sl 3, .int .i64, .int .i64, .sl 3, .int .i64, .bool, .sl 198, .int .i64, .int .i64, .int .i64, .int .i64, .int .i64, .int .i64, .int .i64, .int .i64, .sl 3, .int .i64, .sl 3, .int .i64, .int .i64, .sl 3, .int .i64, .bool, .sl 198] from by kernel_rfl) MFork_wf181 g1
  obtain rfl := h2.isnil
  exact ⟨⟨x0, x1⟩, rfl, ⟨s0, s1⟩⟩
theorem MEntry_wf41 (r : List L) (h : WfAll Ev.cells [.str, .int .i64, .int .i64, .sl 9] r) : ∃ x : MEntry, MEntry.row x = r ∧ MEntry.Sm maxLen x := by
  obtain ⟨l0, t0, rfl, g0, h1⟩ := h.uncons
  obtain ⟨x0, rfl, s0⟩ := wf_str g0
  obtain ⟨l1, t1, rfl, g1, h2⟩ := h1.uncons
  obtain ⟨x1, rfl⟩ := wf_int g1
  obtain ⟨l2, t2, rfl, g2, h3⟩ := h2.uncons
  obtain ⟨x2, rfl⟩ := wf_int g2
  obtain ⟨l3, t3, rfl, g3, h4⟩ := h3.uncons
  obtain ⟨x3, rfl, s3⟩ := wf_list (show Ev.cells 9 = [.str] from by kernel_rfl) wf_srow g3
  obtain rfl := h4.isnil
  exact ⟨⟨x0, x1, x2, x3⟩, rfl, ⟨s0, s3⟩⟩
theorem MTrace_wf118 (r : List L) (h : WfAll Ev.cells [.sl 172, .sl 181, .int .i64, .str, .int .i64, .int .i64, .sl 9, .sl 3, .int .i64] r) : ∃ x : MTrace, MTrace.row x = r ∧ MTrace.Sm maxLen x := by
  obtain ⟨r0, t0, rfl, g0, h1⟩ := WfAll.unapp (a := [.sl 172, .sl 181]) (b := [.int .i64, .str, .int .i64, .int .i64, .sl 9, .sl 3, .int .i64]) h
  obtain ⟨x0, rfl, s0⟩ := MKnown_wf115 _ g0
  obtain ⟨l1, t1, rfl, g1, h2⟩ := h1.uncons
  obtain ⟨x1, rfl⟩ := wf_int g1
  obtain ⟨r2, t2, rfl, g2, h3⟩ := WfAll.unapp (a := [.str, .int .i64, .int .i64, .sl 9]) (b := [.sl 3, .int .i64]) h2
  obtain ⟨x2, rfl, s2⟩ := MEntry_wf41 _ g2
  obtain ⟨l3, t3, rfl, g3, h4⟩ := h3.uncons
  obtain ⟨x3, rfl, s3⟩ := wf_list (show Ev.cells 3 = [.int .i64] from by kernel_rfl) wf_irow g3
  obtain ⟨l4, t4, rfl, g4, h5⟩ := h4.uncons
  obtain ⟨x4, rfl⟩ := wf_int g4
  obtain rfl := h5.isnil
  exact ⟨⟨x0, x1, x2, x3, x4⟩, rfl, ⟨s0, s2, s3⟩⟩
theorem holds (ls : List L) (h : WfAll Ev.cells ([58].flatMap Ev.cells) ls) : con.sem ls = some [.bool true] := by
  have hk : [58].flatMap Ev.cells = [.sl 118] := by kernel_rfl
  rw [hk] at h
  obtain ⟨l0, t0, rfl, g0, h1⟩ := h.uncons
  obtain ⟨x0, rfl, s0⟩ := wf_list (show Ev.cells 118 = [.sl 172, .sl 181, .int .i64, .str, .int .i64, .int .i64, .sl 9, .sl 3, .int .i64] from by kernel_rfl) MTrace_wf118 g0
  obtain rfl := h1.isnil
  show (R (x0.map MTrace.row)).map RT.enc = _
  rw [R_eq s0]
  rfl
end laws_FnExactGroupsOf
end Go.DM
