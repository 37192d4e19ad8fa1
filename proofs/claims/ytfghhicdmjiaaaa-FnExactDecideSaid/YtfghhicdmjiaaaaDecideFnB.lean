/- What the functions compute that the law reaches, and that the law returns true. Conditions: none. -/
import Derived.Test.YtfghhicdmjiaaaaDecideTy
import Derived.Test.YtfghhicdmjiaaaaDecideFnA
import Derived.Test.YtfghhicdmjiaaaaProg
import Derived.Lib.AppendZerosOnto
import Derived.Lib.Bytealg
import Derived.Laws.Externs
import Derived.Lib.Walk
import Derived.Lib.Hide
import Derived.Lib.Strings
set_option linter.all false
set_option maxRecDepth 100000
noncomputable section
namespace Go.DM
open Go.Proofs
namespace Z82
set_option maxHeartbeats 8000000
inductive Pt where
 | p0 (a : Int) (b : Int) (c : List (List L))
def pid : Pt → Nat
 | .p0 .. => 2
def pvs : Pt → List V
 | .p0 a b c => [.own 0, .int .i64 a, .int .i64 b]
def phs : Pt → List Root
 | .p0 a b c => [.row 9 c]
def step (J : Pt → Ans) : Pt → Ans
 | .p0 a b c => (bif (decide (b < (c.length : Int))) then (call (Z81.R a) fun v1 => (bif (decide ((0 : Int) ≤ b)) then (bif (decide (b < (c.length : Int))) then J (.p0 (IntKind.i64.wrap (a + 1)) (IntKind.i64.wrap (b + 1)) (List.set c (Int.toNat b) [L.str v1])) else none) else none)) else ret ((a, c) : Int × List (List L)))
def start (J : Pt → Ans) (x0 : List (List L)) (x1 : Int) : Ans := J (.p0 x1 0 x0)
def live : Nat → Live := fun i => match i with | 2 => [(0, none), (1, none), (5, none)] | _ => []
def pats : List (Bool × List K) := [(false, [.sl 9]), (false, [.int .i64])]
def res : RP := .chg [9]
abbrev E : Env := { T := assoc Tab, G := conG [(75, Z81.con)], nt := 20, M := conM [], np := 1, mt := true }
theorem step_eq (I : Heads) (p : Pt) : enterC E live I (pid p) (bodyOf Try.f34) (stOf (live (pid p)) (pvs p) (phs p)) (doneK E Try.f34 res) = step (fun q => I (pid q) (pvs q) (phs q)) p := by
 cases p <;> kernel_rfl
theorem start_eq (I : Heads) (ls : List L) : runC E live I (bodyOf Try.f34) (initM pats ls) (doneK E Try.f34 res) = start (fun q => I (pid q) (pvs q) (phs q)) (ls.headD .hole).toSl ((dropT 1 ls).headD .hole).toInt := by kernel_rfl
theorem run_eq (n : Nat) (ls : List L) : runF E live Try.f34 res n (initM pats ls) = start (iter step n) (ls.headD .hole).toSl ((dropT 1 ls).headD .hole).toInt := runF_iter (id := pid) (vs := pvs) (hs := phs) (step := step) (start := fun J => start J (ls.headD .hole).toSl ((dropT 1 ls).headD .hole).toInt) step_eq (fun I => start_eq I ls) n
def el (x : ByteArray) (k : Int) : Int × ByteArray := ((IntKind.i64.wrap (k + 1)), (Z81.md k))
theorem el_I (x : ByteArray) (k : Int) (hk : I64 k) : I64 (el x k).1 := (wrap_I64 _)
def cnt (x : ByteArray) : Nat := 1
def sum (a : List ByteArray) : Nat := (a.map cnt).sum
def md (a0 : List ByteArray) (a1 : Int) : Int × List ByteArray := accM el a0 a1
def gd (a0 : List ByteArray) (a1 : Int) : Prop := I64 a1
def acc (ls : List L) : List (List L) × Int := ((ls.headD .hole).toSl, ((dropT 1 ls).headD .hole).toInt)
def R : (List (List L) × Int) → Option (Int × List (List L)) := RR (p2 gd) (u2 md)
theorem R_eq {a0} {a1} (h : gd a0 a1) : R ((a0.map sRow), a1) = some ((md a0 a1).1, ((md a0 a1).2.map sRow)) := RR_eq (a := (a0, a1)) h
def con : MCon := MN pats acc R
theorem okF (a0 : List ByteArray) (a1 : Int) (hg : gd a0 a1) (h0 : a0.length ≤ maxLen) : ∃ n, start (iter step n) (a0.map sRow) a1 = ret (((md a0 a1).1, ((md a0 a1).2.map sRow)) : Int × List (List L)) := by
  unfold gd at hg
  show ∃ n, iter step n (Pt.p0 a1 0 (a0.map sRow)) = _
  unfold md
  refine mark_loop (el := el) (xs := a0) ⟨#[]⟩ I64 el_I (pt := fun i k c => Pt.p0 k (i : Int) (c.map sRow)) (out := fun b => ret (b.1, b.2.map sRow)) (fun J i k c hi hc hk => ?_) (fun J k c hc => ?_) hg
  · have hm : c.length ≤ maxLen := hc ▸ h0
    simp only [step, S0]
    refine yes_ret (lt_dec hi) ?_
    refine call_to (Z81.md k) (Z81.R_eq (a0 := k) hk) ?_
    refine yes_ret zle_dec ?_
    refine yes_ret (lt_dec hi) ?_
    rw [wrap_succ hi hm]
    exact congrArg (fun q => J (Pt.p0 (el (c.getD i ⟨#[]⟩) k).1 ((i + 1 : Nat) : Int) q)) (List.map_set (f := sRow) (l := c) (i := i) (a := (el (c.getD i ⟨#[]⟩) k).2)).symm
  · simp only [step, S0]
    refine no_ret (by apply decide_eq_false; omega) ?_
    rfl
theorem valid_ : MValid Try.prog Ev 34 con := MV (run := fun n x => start (iter step n) x.1 x.2) mix tab_ok (.cons Z81.valid_ .nil) .nil Try.func34 (by kernel_rfl) run_eq (fun ls a hl e hg => okF a.1 a.2 hg (by have h : (ls.headD .hole).toSl.length ≤ maxLen := (hl _ _ (.head _)).len; have e : a.1.map sRow = (ls.headD .hole).toSl := (congrArg (fun x => x.1) e.symm); rw [← e] at h; simpa using h))
theorem i64 {a0 : List ByteArray} {a1 : Int} (h : I64 a1) : I64 (md a0 a1).1 := accM_I el_I h
theorem elk (x : ByteArray) (k : Int) (h0 : 0 ≤ k) (hb : k + (cnt x : Int) ≤ 4611686018427387904) : (el x k).1 = k + cnt x := by
 simp only [cnt, Int.natCast_add] at hb ⊢
 simp (disch := omega) only [el, wi]
 all_goals first | done | omega
theorem kk (a0 : List ByteArray) (a1 : Int) (h0 : 0 ≤ a1) (hb : a1 + (sum a0 : Int) ≤ 4611686018427387904) : (md a0 a1).1 = a1 + sum a0 := accM_sum elk a0 a1 h0 hb
theorem sz (a : List ByteArray) : sum a ≤ 60 * (szL (fun y : ByteArray => y.size) a) := sum_le (fun x => by
  try simp only [cnt] at *
  omega) a
end Z82
namespace Z83
set_option maxHeartbeats 8000000
inductive Pt where
 | p0 (a : Int) (b : Int) (c : List (List L))
def pid : Pt → Nat
 | .p0 .. => 2
def pvs : Pt → List V
 | .p0 a b c => [.own 0, .int .i64 a, .int .i64 b]
def phs : Pt → List Root
 | .p0 a b c => [.row 106 c]
def step (J : Pt → Ans) : Pt → Ans
 | .p0 a b c => (bif (decide (b < (c.length : Int))) then (bif (decide ((0 : Int) ≤ b)) then (bif (decide (b < (c.length : Int))) then (call (Z82.R ((RChoice.at c (Int.toNat b)).fPath, a)) fun v1 => (call (Z81.R v1.1) fun v2 => (bif (decide ((0 : Int) ≤ b)) then (bif (decide (b < (c.length : Int))) then (bif (Nat.beq (Int.toNat b) (Int.toNat b) && true) then (bif (decide ((0 : Int) ≤ b)) then (bif (decide (b < (c.length : Int))) then (bif (Nat.beq (Int.toNat b) (Int.toNat b) && true) then (bif (decide ((0 : Int) ≤ b)) then (bif (decide (b < (c.length : Int))) then (bif (Nat.beq (Int.toNat b) (Int.toNat b) && true) then (bif (decide ((0 : Int) ≤ b)) then (bif (decide (b < (c.length : Int))) then (bif (Nat.beq (Int.toNat b) (Int.toNat b) && true) then (bif (Nat.beq (Int.toNat b) (Int.toNat b) && true) then (call (Z82.R ((RChoice.at c (Int.toNat b)).fEntry.fPath, (IntKind.i64.wrap ((IntKind.i64.wrap ((IntKind.i64.wrap (v1.1 + 1)) + 1)) + 1)))) fun v3 => J (.p0 v3.1 (IntKind.i64.wrap (b + 1)) (List.set c (Int.toNat b) (RChoice.enc (⟨v1.2, (⟨v2, (IntKind.i64.wrap (v1.1 + 1)), (IntKind.i64.wrap ((IntKind.i64.wrap (v1.1 + 1)) + 1)), v3.2⟩ : REntry)⟩ : RChoice))))) else none) else none) else none) else none) else none) else none) else none) else none) else none) else none) else none) else none) else none))) else none) else none) else ret ((a, c) : Int × List (List L)))
def start (J : Pt → Ans) (x0 : List (List L)) (x1 : Int) : Ans := J (.p0 x1 0 x0)
def live : Nat → Live := fun i => match i with | 2 => [(0, none), (1, none), (5, none)] | _ => []
def pats : List (Bool × List K) := [(false, [.sl 106]), (false, [.int .i64])]
def res : RP := .chg [106]
abbrev E : Env := { T := assoc Tab, G := conG [(75, Z81.con)], nt := 53, M := conM [(34, Z82.con)], np := 1, mt := true }
theorem step_eq (I : Heads) (p : Pt) : enterC E live I (pid p) (bodyOf Try.f33) (stOf (live (pid p)) (pvs p) (phs p)) (doneK E Try.f33 res) = step (fun q => I (pid q) (pvs q) (phs q)) p := by
 cases p <;> kernel_rfl
theorem start_eq (I : Heads) (ls : List L) : runC E live I (bodyOf Try.f33) (initM pats ls) (doneK E Try.f33 res) = start (fun q => I (pid q) (pvs q) (phs q)) (ls.headD .hole).toSl ((dropT 1 ls).headD .hole).toInt := by kernel_rfl
theorem run_eq (n : Nat) (ls : List L) : runF E live Try.f33 res n (initM pats ls) = start (iter step n) (ls.headD .hole).toSl ((dropT 1 ls).headD .hole).toInt := runF_iter (id := pid) (vs := pvs) (hs := phs) (step := step) (start := fun J => start J (ls.headD .hole).toSl ((dropT 1 ls).headD .hole).toInt) step_eq (fun I => start_eq I ls) n
def e1 (x : MChoice) (k : Int) := Z82.md x.fPath k
def e2 (x : MChoice) (k : Int) := Z82.md ((x.fEntry).fPath) (IntKind.i64.wrap ((IntKind.i64.wrap ((IntKind.i64.wrap ((e1 x k).1 + 1)) + 1)) + 1))
def el (x : MChoice) (k : Int) : Int × MChoice := ((e2 x k).1, (⟨(e1 x k).2, (⟨(Z81.md ((e1 x k).1)), (IntKind.i64.wrap ((e1 x k).1 + 1)), (IntKind.i64.wrap ((IntKind.i64.wrap ((e1 x k).1 + 1)) + 1)), (e2 x k).2⟩ : MEntry)⟩ : MChoice))
theorem el_I (x : MChoice) (k : Int) (hk : I64 k) : I64 (el x k).1 := (Z82.i64 (wrap_I64 _))
def cnt (x : MChoice) : Nat := 3 + Z82.sum x.fPath + Z82.sum ((x.fEntry).fPath)
def sum (a : List MChoice) : Nat := (a.map cnt).sum
def md (a0 : List MChoice) (a1 : Int) : Int × List MChoice := accM el a0 a1
def gd (a0 : List MChoice) (a1 : Int) : Prop := I64 a1
def acc (ls : List L) : List (List L) × Int := ((ls.headD .hole).toSl, ((dropT 1 ls).headD .hole).toInt)
def R : (List (List L) × Int) → Option (Int × List (List L)) := RR (p2 gd) (u2 md)
theorem R_eq {a0} {a1} (h : gd a0 a1) : R ((a0.map MChoice.row), a1) = some ((md a0 a1).1, ((md a0 a1).2.map MChoice.row)) := RR_eq (a := (a0, a1)) h
def con : MCon := MN pats acc R
theorem okF (a0 : List MChoice) (a1 : Int) (hg : gd a0 a1) (h0 : a0.length ≤ maxLen) : ∃ n, start (iter step n) (a0.map MChoice.row) a1 = ret (((md a0 a1).1, ((md a0 a1).2.map MChoice.row)) : Int × List (List L)) := by
  unfold gd at hg
  show ∃ n, iter step n (Pt.p0 a1 0 (a0.map MChoice.row)) = _
  unfold md
  refine mark_loop (el := el) (xs := a0) MChoice.zero I64 el_I (pt := fun i k c => Pt.p0 k (i : Int) (c.map MChoice.row)) (out := fun b => ret (b.1, b.2.map MChoice.row)) (fun J i k c hi hc hk => ?_) (fun J k c hc => ?_) hg
  · have hm : c.length ≤ maxLen := hc ▸ h0
    simp only [step, S0, MEntry.rs, MChoice.rs]
    refine yes_ret (lt_dec hi) ?_
    refine yes_ret zle_dec ?_
    refine yes_ret (lt_dec hi) ?_
    refine call_to ((e1 (c.getD i MChoice.zero) k).1, ((e1 (c.getD i MChoice.zero) k).2.map sRow)) (Z82.R_eq (a0 := (c.getD i MChoice.zero).fPath) (a1 := k) hk) ?_
    refine call_to (Z81.md ((e1 (c.getD i MChoice.zero) k).1)) (Z81.R_eq (a0 := (e1 (c.getD i MChoice.zero) k).1) (Z82.i64 hk)) ?_
    refine yes_ret zle_dec ?_
    refine yes_ret (lt_dec hi) ?_
    refine yes_ret (beq_t _) ?_
    refine yes_ret zle_dec ?_
    refine yes_ret (lt_dec hi) ?_
    refine yes_ret (beq_t _) ?_
    refine yes_ret zle_dec ?_
    refine yes_ret (lt_dec hi) ?_
    refine yes_ret (beq_t _) ?_
    refine yes_ret zle_dec ?_
    refine yes_ret (lt_dec hi) ?_
    refine yes_ret (beq_t _) ?_
    refine yes_ret (beq_t _) ?_
    refine call_to ((e2 (c.getD i MChoice.zero) k).1, ((e2 (c.getD i MChoice.zero) k).2.map sRow)) (Z82.R_eq (a0 := ((c.getD i MChoice.zero).fEntry).fPath) (a1 := IntKind.i64.wrap ((IntKind.i64.wrap ((IntKind.i64.wrap ((e1 (c.getD i MChoice.zero) k).1 + 1)) + 1)) + 1)) (wrap_I64 _)) ?_
    rw [wrap_succ hi hm]
    exact congrArg (fun q => J (Pt.p0 (el (c.getD i MChoice.zero) k).1 ((i + 1 : Nat) : Int) q)) (List.map_set (f := MChoice.row) (l := c) (i := i) (a := (el (c.getD i MChoice.zero) k).2)).symm
  · simp only [step, S0, MEntry.rs, MChoice.rs]
    refine no_ret (by apply decide_eq_false; omega) ?_
    rfl
theorem valid_ : MValid Try.prog Ev 33 con := MV (run := fun n x => start (iter step n) x.1 x.2) mix tab_ok (.cons Z81.valid_ .nil) (.cons Z82.valid_ .nil) Try.func33 (by kernel_rfl) run_eq (fun ls a hl e hg => okF a.1 a.2 hg (by have h : (ls.headD .hole).toSl.length ≤ maxLen := (hl _ _ (.head _)).len; have e : a.1.map MChoice.row = (ls.headD .hole).toSl := (congrArg (fun x => x.1) e.symm); rw [← e] at h; simpa using h))
theorem i64 {a0 : List MChoice} {a1 : Int} (h : I64 a1) : I64 (md a0 a1).1 := accM_I el_I h
theorem elk (x : MChoice) (k : Int) (h0 : 0 ≤ k) (hb : k + (cnt x : Int) ≤ 4611686018427387904) : (el x k).1 = k + cnt x := by
 simp only [cnt, Int.natCast_add] at hb ⊢
 simp (disch := omega) only [el, e1, e2, wi, Z82.kk]
 all_goals first | done | omega
theorem kk (a0 : List MChoice) (a1 : Int) (h0 : 0 ≤ a1) (hb : a1 + (sum a0 : Int) ≤ 4611686018427387904) : (md a0 a1).1 = a1 + sum a0 := accM_sum elk a0 a1 h0 hb
theorem sz (a : List MChoice) : sum a ≤ 60 * (szL (fun y : MChoice => MChoice.size y) a) := sum_le (fun x => by
  have := Z82.sz x.fPath
  have := Z82.sz ((x.fEntry).fPath)
  try simp only [cnt, MChoice.size, MEntry.size] at *
  omega) a
end Z83
namespace Z84
set_option maxHeartbeats 8000000
inductive Pt where
 | p0 (a : Int) (b : Int) (c : List (List L))
def pid : Pt → Nat
 | .p0 .. => 2
def pvs : Pt → List V
 | .p0 a b c => [.own 0, .int .i64 a, .int .i64 b]
def phs : Pt → List Root
 | .p0 a b c => [.row 3 c]
def step (J : Pt → Ans) : Pt → Ans
 | .p0 a b c => (bif (decide (b < (c.length : Int))) then (bif (decide ((0 : Int) ≤ b)) then (bif (decide (b < (c.length : Int))) then J (.p0 (IntKind.i64.wrap (a + 1)) (IntKind.i64.wrap (b + 1)) (List.set c (Int.toNat b) [L.int a])) else none) else none) else ret ((a, c) : Int × List (List L)))
def start (J : Pt → Ans) (x0 : List (List L)) (x1 : Int) : Ans := J (.p0 x1 0 x0)
def live : Nat → Live := fun i => match i with | 2 => [(0, none), (1, none), (5, none)] | _ => []
def pats : List (Bool × List K) := [(false, [.sl 3]), (false, [.int .i64])]
def res : RP := .chg [3]
abbrev E : Env := { T := assoc Tab, G := conG [], nt := 19, M := conM [], np := 1, mt := true }
theorem step_eq (I : Heads) (p : Pt) : enterC E live I (pid p) (bodyOf Try.f100) (stOf (live (pid p)) (pvs p) (phs p)) (doneK E Try.f100 res) = step (fun q => I (pid q) (pvs q) (phs q)) p := by
 cases p <;> kernel_rfl
theorem start_eq (I : Heads) (ls : List L) : runC E live I (bodyOf Try.f100) (initM pats ls) (doneK E Try.f100 res) = start (fun q => I (pid q) (pvs q) (phs q)) (ls.headD .hole).toSl ((dropT 1 ls).headD .hole).toInt := by kernel_rfl
theorem run_eq (n : Nat) (ls : List L) : runF E live Try.f100 res n (initM pats ls) = start (iter step n) (ls.headD .hole).toSl ((dropT 1 ls).headD .hole).toInt := runF_iter (id := pid) (vs := pvs) (hs := phs) (step := step) (start := fun J => start J (ls.headD .hole).toSl ((dropT 1 ls).headD .hole).toInt) step_eq (fun I => start_eq I ls) n
def el (x : Int) (k : Int) : Int × Int := ((IntKind.i64.wrap (k + 1)), (k))
theorem el_I (x : Int) (k : Int) (hk : I64 k) : I64 (el x k).1 := (wrap_I64 _)
def cnt (x : Int) : Nat := 1
def sum (a : List Int) : Nat := (a.map cnt).sum
def md (a0 : List Int) (a1 : Int) : Int × List Int := accM el a0 a1
def gd (a0 : List Int) (a1 : Int) : Prop := I64 a1
def acc (ls : List L) : List (List L) × Int := ((ls.headD .hole).toSl, ((dropT 1 ls).headD .hole).toInt)
def R : (List (List L) × Int) → Option (Int × List (List L)) := RR (p2 gd) (u2 md)
theorem R_eq {a0} {a1} (h : gd a0 a1) : R ((a0.map iRow), a1) = some ((md a0 a1).1, ((md a0 a1).2.map iRow)) := RR_eq (a := (a0, a1)) h
def con : MCon := MN pats acc R
theorem okF (a0 : List Int) (a1 : Int) (hg : gd a0 a1) (h0 : a0.length ≤ maxLen) : ∃ n, start (iter step n) (a0.map iRow) a1 = ret (((md a0 a1).1, ((md a0 a1).2.map iRow)) : Int × List (List L)) := by
  unfold gd at hg
  show ∃ n, iter step n (Pt.p0 a1 0 (a0.map iRow)) = _
  unfold md
  refine mark_loop (el := el) (xs := a0) 0 I64 el_I (pt := fun i k c => Pt.p0 k (i : Int) (c.map iRow)) (out := fun b => ret (b.1, b.2.map iRow)) (fun J i k c hi hc hk => ?_) (fun J k c hc => ?_) hg
  · have hm : c.length ≤ maxLen := hc ▸ h0
    simp only [step, S0]
    refine yes_ret (lt_dec hi) ?_
    refine yes_ret zle_dec ?_
    refine yes_ret (lt_dec hi) ?_
    rw [wrap_succ hi hm]
    exact congrArg (fun q => J (Pt.p0 (el (c.getD i 0) k).1 ((i + 1 : Nat) : Int) q)) (List.map_set (f := iRow) (l := c) (i := i) (a := (el (c.getD i 0) k).2)).symm
  · simp only [step, S0]
    refine no_ret (by apply decide_eq_false; omega) ?_
    rfl
theorem valid_ : MValid Try.prog Ev 100 con := MV (run := fun n x => start (iter step n) x.1 x.2) mix tab_ok .nil .nil Try.func100 (by kernel_rfl) run_eq (fun ls a hl e hg => okF a.1 a.2 hg (by have h : (ls.headD .hole).toSl.length ≤ maxLen := (hl _ _ (.head _)).len; have e : a.1.map iRow = (ls.headD .hole).toSl := (congrArg (fun x => x.1) e.symm); rw [← e] at h; simpa using h))
theorem i64 {a0 : List Int} {a1 : Int} (h : I64 a1) : I64 (md a0 a1).1 := accM_I el_I h
theorem elk (x : Int) (k : Int) (h0 : 0 ≤ k) (hb : k + (cnt x : Int) ≤ 4611686018427387904) : (el x k).1 = k + cnt x := by
 simp only [cnt, Int.natCast_add] at hb ⊢
 simp (disch := omega) only [el, wi]
 all_goals first | done | omega
theorem kk (a0 : List Int) (a1 : Int) (h0 : 0 ≤ a1) (hb : a1 + (sum a0 : Int) ≤ 4611686018427387904) : (md a0 a1).1 = a1 + sum a0 := accM_sum elk a0 a1 h0 hb
theorem sz (a : List Int) : sum a ≤ 60 * (szL (fun y : Int => 0) a) := sum_le (fun x => by
  try simp only [cnt] at *
  omega) a
end Z84
namespace Z85
set_option maxHeartbeats 8000000
inductive Pt where
 | p0 (a : Int) (b : Int) (c : List (List L))
def pid : Pt → Nat
 | .p0 .. => 2
def pvs : Pt → List V
 | .p0 a b c => [.own 0, .int .i64 a, .int .i64 b]
def phs : Pt → List Root
 | .p0 a b c => [.row 169 c]
def step (J : Pt → Ans) : Pt → Ans
 | .p0 a b c => (bif (decide (b < (c.length : Int))) then (bif (decide ((0 : Int) ≤ b)) then (bif (decide (b < (c.length : Int))) then (bif (decide ((0 : Int) ≤ b)) then (bif (decide (b < (c.length : Int))) then (bif (Nat.beq (Int.toNat b) (Int.toNat b) && true) then J (.p0 (IntKind.i64.wrap ((IntKind.i64.wrap (a + 1)) + 1)) (IntKind.i64.wrap (b + 1)) (List.set c (Int.toNat b) (MSig.enc (⟨a, (IntKind.i64.wrap (a + 1))⟩ : MSig)))) else none) else none) else none) else none) else none) else ret ((a, c) : Int × List (List L)))
def start (J : Pt → Ans) (x0 : List (List L)) (x1 : Int) : Ans := J (.p0 x1 0 x0)
def live : Nat → Live := fun i => match i with | 2 => [(0, none), (1, none), (5, none)] | _ => []
def pats : List (Bool × List K) := [(false, [.sl 169]), (false, [.int .i64])]
def res : RP := .chg [169]
abbrev E : Env := { T := assoc Tab, G := conG [], nt := 27, M := conM [], np := 1, mt := true }
theorem step_eq (I : Heads) (p : Pt) : enterC E live I (pid p) (bodyOf Try.f129) (stOf (live (pid p)) (pvs p) (phs p)) (doneK E Try.f129 res) = step (fun q => I (pid q) (pvs q) (phs q)) p := by
 cases p <;> kernel_rfl
theorem start_eq (I : Heads) (ls : List L) : runC E live I (bodyOf Try.f129) (initM pats ls) (doneK E Try.f129 res) = start (fun q => I (pid q) (pvs q) (phs q)) (ls.headD .hole).toSl ((dropT 1 ls).headD .hole).toInt := by kernel_rfl
theorem run_eq (n : Nat) (ls : List L) : runF E live Try.f129 res n (initM pats ls) = start (iter step n) (ls.headD .hole).toSl ((dropT 1 ls).headD .hole).toInt := runF_iter (id := pid) (vs := pvs) (hs := phs) (step := step) (start := fun J => start J (ls.headD .hole).toSl ((dropT 1 ls).headD .hole).toInt) step_eq (fun I => start_eq I ls) n
def el (x : MSig) (k : Int) : Int × MSig := ((IntKind.i64.wrap ((IntKind.i64.wrap (k + 1)) + 1)), (⟨k, (IntKind.i64.wrap (k + 1))⟩ : MSig))
theorem el_I (x : MSig) (k : Int) (hk : I64 k) : I64 (el x k).1 := (wrap_I64 _)
def cnt (x : MSig) : Nat := 2
def sum (a : List MSig) : Nat := (a.map cnt).sum
def md (a0 : List MSig) (a1 : Int) : Int × List MSig := accM el a0 a1
def gd (a0 : List MSig) (a1 : Int) : Prop := I64 a1
def acc (ls : List L) : List (List L) × Int := ((ls.headD .hole).toSl, ((dropT 1 ls).headD .hole).toInt)
def R : (List (List L) × Int) → Option (Int × List (List L)) := RR (p2 gd) (u2 md)
theorem R_eq {a0} {a1} (h : gd a0 a1) : R ((a0.map MSig.row), a1) = some ((md a0 a1).1, ((md a0 a1).2.map MSig.row)) := RR_eq (a := (a0, a1)) h
def con : MCon := MN pats acc R
theorem okF (a0 : List MSig) (a1 : Int) (hg : gd a0 a1) (h0 : a0.length ≤ maxLen) : ∃ n, start (iter step n) (a0.map MSig.row) a1 = ret (((md a0 a1).1, ((md a0 a1).2.map MSig.row)) : Int × List (List L)) := by
  unfold gd at hg
  show ∃ n, iter step n (Pt.p0 a1 0 (a0.map MSig.row)) = _
  unfold md
  refine mark_loop (el := el) (xs := a0) MSig.zero I64 el_I (pt := fun i k c => Pt.p0 k (i : Int) (c.map MSig.row)) (out := fun b => ret (b.1, b.2.map MSig.row)) (fun J i k c hi hc hk => ?_) (fun J k c hc => ?_) hg
  · have hm : c.length ≤ maxLen := hc ▸ h0
    simp only [step, S0]
    refine yes_ret (lt_dec hi) ?_
    refine yes_ret zle_dec ?_
    refine yes_ret (lt_dec hi) ?_
    refine yes_ret zle_dec ?_
    refine yes_ret (lt_dec hi) ?_
    refine yes_ret (beq_t _) ?_
    rw [wrap_succ hi hm]
    exact congrArg (fun q => J (Pt.p0 (el (c.getD i MSig.zero) k).1 ((i + 1 : Nat) : Int) q)) (List.map_set (f := MSig.row) (l := c) (i := i) (a := (el (c.getD i MSig.zero) k).2)).symm
  · simp only [step, S0]
    refine no_ret (by apply decide_eq_false; omega) ?_
    rfl
theorem valid_ : MValid Try.prog Ev 129 con := MV (run := fun n x => start (iter step n) x.1 x.2) mix tab_ok .nil .nil Try.func129 (by kernel_rfl) run_eq (fun ls a hl e hg => okF a.1 a.2 hg (by have h : (ls.headD .hole).toSl.length ≤ maxLen := (hl _ _ (.head _)).len; have e : a.1.map MSig.row = (ls.headD .hole).toSl := (congrArg (fun x => x.1) e.symm); rw [← e] at h; simpa using h))
theorem i64 {a0 : List MSig} {a1 : Int} (h : I64 a1) : I64 (md a0 a1).1 := accM_I el_I h
theorem elk (x : MSig) (k : Int) (h0 : 0 ≤ k) (hb : k + (cnt x : Int) ≤ 4611686018427387904) : (el x k).1 = k + cnt x := by
 simp only [cnt, Int.natCast_add] at hb ⊢
 simp (disch := omega) only [el, wi]
 all_goals first | done | omega
theorem kk (a0 : List MSig) (a1 : Int) (h0 : 0 ≤ a1) (hb : a1 + (sum a0 : Int) ≤ 4611686018427387904) : (md a0 a1).1 = a1 + sum a0 := accM_sum elk a0 a1 h0 hb
theorem sz (a : List MSig) : sum a ≤ 60 * (szL (fun y : MSig => MSig.size y) a) := sum_le (fun x => by
  try simp only [cnt, MSig.size] at *
  omega) a
end Z85
namespace Z86
set_option maxHeartbeats 8000000
inductive Pt where
 | p0 (a : Int) (b : Int) (c : List (List L))
def pid : Pt → Nat
 | .p0 .. => 2
def pvs : Pt → List V
 | .p0 a b c => [.own 0, .int .i64 a, .int .i64 b]
def phs : Pt → List Root
 | .p0 a b c => [.row 156 c]
def step (J : Pt → Ans) : Pt → Ans
 | .p0 a b c => (bif (decide (b < (c.length : Int))) then (bif (decide ((0 : Int) ≤ b)) then (bif (decide (b < (c.length : Int))) then (bif (decide ((0 : Int) ≤ b)) then (bif (decide (b < (c.length : Int))) then (bif (Nat.beq (Int.toNat b) (Int.toNat b) && true) then (bif (decide ((0 : Int) ≤ b)) then (bif (decide (b < (c.length : Int))) then (bif (Nat.beq (Int.toNat b) (Int.toNat b) && true) then (bif (decide ((0 : Int) ≤ b)) then (bif (decide (b < (c.length : Int))) then (bif (Nat.beq (Int.toNat b) (Int.toNat b) && true) then (bif (decide ((0 : Int) ≤ b)) then (bif (decide (b < (c.length : Int))) then (bif (Nat.beq (Int.toNat b) (Int.toNat b) && true) then (bif (decide ((0 : Int) ≤ b)) then (bif (decide (b < (c.length : Int))) then (bif (Nat.beq (Int.toNat b) (Int.toNat b) && true) then (bif (decide ((0 : Int) ≤ b)) then (bif (decide (b < (c.length : Int))) then (bif (Nat.beq (Int.toNat b) (Int.toNat b) && true) then (bif (decide ((0 : Int) ≤ b)) then (bif (decide (b < (c.length : Int))) then (bif (Nat.beq (Int.toNat b) (Int.toNat b) && true) then (bif (decide ((0 : Int) ≤ b)) then (bif (decide (b < (c.length : Int))) then (bif (Nat.beq (Int.toNat b) (Int.toNat b) && true) then (bif (Nat.beq (Int.toNat b) (Int.toNat b) && true) then (call (Z84.R ((RSigned.at c (Int.toNat b)).fHead.fKeys.fList, (IntKind.i64.wrap ((IntKind.i64.wrap ((IntKind.i64.wrap ((IntKind.i64.wrap ((IntKind.i64.wrap ((IntKind.i64.wrap ((IntKind.i64.wrap ((IntKind.i64.wrap (a + 1)) + 1)) + 1)) + 1)) + 1)) + 1)) + 1)) + 1)))) fun v1 => (bif (decide ((0 : Int) ≤ b)) then (bif (decide (b < (c.length : Int))) then (bif (Nat.beq (Int.toNat b) (Int.toNat b) && true) then (bif (decide ((0 : Int) ≤ b)) then (bif (decide (b < (c.length : Int))) then (bif (Nat.beq (Int.toNat b) (Int.toNat b) && true) then (bif (Nat.beq (Int.toNat b) (Int.toNat b) && true) then (call (Z84.R ((RSigned.at c (Int.toNat b)).fHead.fHeirs.fList, (IntKind.i64.wrap (v1.1 + 1)))) fun v2 => (bif (decide ((0 : Int) ≤ b)) then (bif (decide (b < (c.length : Int))) then (bif (Nat.beq (Int.toNat b) (Int.toNat b) && true) then (bif (decide ((0 : Int) ≤ b)) then (bif (decide (b < (c.length : Int))) then (bif (Nat.beq (Int.toNat b) (Int.toNat b) && true) then (bif (decide ((0 : Int) ≤ b)) then (bif (decide (b < (c.length : Int))) then (bif (Nat.beq (Int.toNat b) (Int.toNat b) && true) then (bif (Nat.beq (Int.toNat b) (Int.toNat b) && true) then (call (Z84.R ((RSigned.at c (Int.toNat b)).fHead.fJudge.fList, (IntKind.i64.wrap ((IntKind.i64.wrap (v2.1 + 1)) + 1)))) fun v3 => (bif (decide ((0 : Int) ≤ b)) then (bif (decide (b < (c.length : Int))) then (bif (Nat.beq (Int.toNat b) (Int.toNat b) && true) then (bif (decide ((0 : Int) ≤ b)) then (bif (decide (b < (c.length : Int))) then (bif (Nat.beq (Int.toNat b) (Int.toNat b) && true) then (bif (decide ((0 : Int) ≤ b)) then (bif (decide (b < (c.length : Int))) then (bif (Nat.beq (Int.toNat b) (Int.toNat b) && true) then (bif (Nat.beq (Int.toNat b) (Int.toNat b) && true) then (call (Z85.R ((RSigned.at c (Int.toNat b)).fSigs, (IntKind.i64.wrap ((IntKind.i64.wrap (v3.1 + 1)) + 1)))) fun v4 => J (.p0 v4.1 (IntKind.i64.wrap (b + 1)) (List.set c (Int.toNat b) (RSigned.enc (⟨(⟨a, (IntKind.i64.wrap (a + 1)), (IntKind.i64.wrap ((IntKind.i64.wrap (a + 1)) + 1)), (IntKind.i64.wrap ((IntKind.i64.wrap ((IntKind.i64.wrap (a + 1)) + 1)) + 1)), (IntKind.i64.wrap ((IntKind.i64.wrap ((IntKind.i64.wrap ((IntKind.i64.wrap (a + 1)) + 1)) + 1)) + 1)), (IntKind.i64.wrap ((IntKind.i64.wrap ((IntKind.i64.wrap ((IntKind.i64.wrap ((IntKind.i64.wrap (a + 1)) + 1)) + 1)) + 1)) + 1)), (IntKind.i64.wrap ((IntKind.i64.wrap ((IntKind.i64.wrap ((IntKind.i64.wrap ((IntKind.i64.wrap ((IntKind.i64.wrap (a + 1)) + 1)) + 1)) + 1)) + 1)) + 1)), (IntKind.i64.wrap ((IntKind.i64.wrap ((IntKind.i64.wrap ((IntKind.i64.wrap ((IntKind.i64.wrap ((IntKind.i64.wrap ((IntKind.i64.wrap (a + 1)) + 1)) + 1)) + 1)) + 1)) + 1)) + 1)), (⟨v1.2, v1.1⟩ : RKeys), (⟨v2.2, v2.1⟩ : RKeys), (IntKind.i64.wrap (v2.1 + 1)), (⟨v3.2, v3.1⟩ : RKeys), ((Int.tmod (IntKind.i64.wrap (v3.1 + 1)) 3) == 0)⟩ : RHead), v4.2⟩ : RSigned))))) else none) else none) else none) else none) else none) else none) else none) else none) else none) else none)) else none) else none) else none) else none) else none) else none) else none) else none) else none) else none)) else none) else none) else none) else none) else none) else none) else none)) else none) else none) else none) else none) else none) else none) else none) else none) else none) else none) else none) else none) else none) else none) else none) else none) else none) else none) else none) else none) else none) else none) else none) else none) else none) else none) else none) else ret ((a, c) : Int × List (List L)))
def start (J : Pt → Ans) (x0 : List (List L)) (x1 : Int) : Ans := J (.p0 x1 0 x0)
def live : Nat → Live := fun i => match i with | 2 => [(0, none), (1, none), (5, none)] | _ => []
def pats : List (Bool × List K) := [(false, [.sl 156]), (false, [.int .i64])]
def res : RP := .chg [156]
abbrev E : Env := { T := assoc Tab, G := conG [], nt := 156, M := conM [(100, Z84.con), (129, Z85.con)], np := 1, mt := true }
theorem step_eq (I : Heads) (p : Pt) : enterC E live I (pid p) (bodyOf Try.f128) (stOf (live (pid p)) (pvs p) (phs p)) (doneK E Try.f128 res) = step (fun q => I (pid q) (pvs q) (phs q)) p := by
 cases p <;> kernel_rfl
theorem start_eq (I : Heads) (ls : List L) : runC E live I (bodyOf Try.f128) (initM pats ls) (doneK E Try.f128 res) = start (fun q => I (pid q) (pvs q) (phs q)) (ls.headD .hole).toSl ((dropT 1 ls).headD .hole).toInt := by kernel_rfl
theorem run_eq (n : Nat) (ls : List L) : runF E live Try.f128 res n (initM pats ls) = start (iter step n) (ls.headD .hole).toSl ((dropT 1 ls).headD .hole).toInt := runF_iter (id := pid) (vs := pvs) (hs := phs) (step := step) (start := fun J => start J (ls.headD .hole).toSl ((dropT 1 ls).headD .hole).toInt) step_eq (fun I => start_eq I ls) n
def e1 (x : MSigned) (k : Int) := Z84.md (((x.fHead).fKeys).fList) (IntKind.i64.wrap ((IntKind.i64.wrap ((IntKind.i64.wrap ((IntKind.i64.wrap ((IntKind.i64.wrap ((IntKind.i64.wrap ((IntKind.i64.wrap ((IntKind.i64.wrap (k + 1)) + 1)) + 1)) + 1)) + 1)) + 1)) + 1)) + 1))
def e2 (x : MSigned) (k : Int) := Z84.md (((x.fHead).fHeirs).fList) (IntKind.i64.wrap ((e1 x k).1 + 1))
def e3 (x : MSigned) (k : Int) := Z84.md (((x.fHead).fJudge).fList) (IntKind.i64.wrap ((IntKind.i64.wrap ((e2 x k).1 + 1)) + 1))
def e4 (x : MSigned) (k : Int) := Z85.md x.fSigs (IntKind.i64.wrap ((IntKind.i64.wrap ((e3 x k).1 + 1)) + 1))
def el (x : MSigned) (k : Int) : Int × MSigned := ((e4 x k).1, (⟨(⟨k, (IntKind.i64.wrap (k + 1)), (IntKind.i64.wrap ((IntKind.i64.wrap (k + 1)) + 1)), (IntKind.i64.wrap ((IntKind.i64.wrap ((IntKind.i64.wrap (k + 1)) + 1)) + 1)), (IntKind.i64.wrap ((IntKind.i64.wrap ((IntKind.i64.wrap ((IntKind.i64.wrap (k + 1)) + 1)) + 1)) + 1)), (IntKind.i64.wrap ((IntKind.i64.wrap ((IntKind.i64.wrap ((IntKind.i64.wrap ((IntKind.i64.wrap (k + 1)) + 1)) + 1)) + 1)) + 1)), (IntKind.i64.wrap ((IntKind.i64.wrap ((IntKind.i64.wrap ((IntKind.i64.wrap ((IntKind.i64.wrap ((IntKind.i64.wrap (k + 1)) + 1)) + 1)) + 1)) + 1)) + 1)), (IntKind.i64.wrap ((IntKind.i64.wrap ((IntKind.i64.wrap ((IntKind.i64.wrap ((IntKind.i64.wrap ((IntKind.i64.wrap ((IntKind.i64.wrap (k + 1)) + 1)) + 1)) + 1)) + 1)) + 1)) + 1)), (⟨(e1 x k).2, (e1 x k).1⟩ : MKeys), (⟨(e2 x k).2, (e2 x k).1⟩ : MKeys), (IntKind.i64.wrap ((e2 x k).1 + 1)), (⟨(e3 x k).2, (e3 x k).1⟩ : MKeys), ((Int.tmod (IntKind.i64.wrap ((e3 x k).1 + 1)) 3) == 0)⟩ : MHead), (e4 x k).2⟩ : MSigned))
theorem el_I (x : MSigned) (k : Int) (hk : I64 k) : I64 (el x k).1 := (Z85.i64 (wrap_I64 _))
def cnt (x : MSigned) : Nat := 13 + Z84.sum (((x.fHead).fKeys).fList) + Z84.sum (((x.fHead).fHeirs).fList) + Z84.sum (((x.fHead).fJudge).fList) + Z85.sum x.fSigs
def sum (a : List MSigned) : Nat := (a.map cnt).sum
def md (a0 : List MSigned) (a1 : Int) : Int × List MSigned := accM el a0 a1
def gd (a0 : List MSigned) (a1 : Int) : Prop := I64 a1
def acc (ls : List L) : List (List L) × Int := ((ls.headD .hole).toSl, ((dropT 1 ls).headD .hole).toInt)
def R : (List (List L) × Int) → Option (Int × List (List L)) := RR (p2 gd) (u2 md)
theorem R_eq {a0} {a1} (h : gd a0 a1) : R ((a0.map MSigned.row), a1) = some ((md a0 a1).1, ((md a0 a1).2.map MSigned.row)) := RR_eq (a := (a0, a1)) h
def con : MCon := MN pats acc R
theorem okF (a0 : List MSigned) (a1 : Int) (hg : gd a0 a1) (h0 : a0.length ≤ maxLen) : ∃ n, start (iter step n) (a0.map MSigned.row) a1 = ret (((md a0 a1).1, ((md a0 a1).2.map MSigned.row)) : Int × List (List L)) := by
  unfold gd at hg
  show ∃ n, iter step n (Pt.p0 a1 0 (a0.map MSigned.row)) = _
  unfold md
  refine mark_loop (el := el) (xs := a0) MSigned.zero I64 el_I (pt := fun i k c => Pt.p0 k (i : Int) (c.map MSigned.row)) (out := fun b => ret (b.1, b.2.map MSigned.row)) (fun J i k c hi hc hk => ?_) (fun J k c hc => ?_) hg
  · have hm : c.length ≤ maxLen := hc ▸ h0
    simp only [step, S0, MKeys.rs, MHead.rs, MSigned.rs]
    refine yes_ret (lt_dec hi) ?_
    refine yes_ret zle_dec ?_
    refine yes_ret (lt_dec hi) ?_
    refine yes_ret zle_dec ?_
    refine yes_ret (lt_dec hi) ?_
    refine yes_ret (beq_t _) ?_
    refine yes_ret zle_dec ?_
    refine yes_ret (lt_dec hi) ?_
    refine yes_ret (beq_t _) ?_
    refine yes_ret zle_dec ?_
    refine yes_ret (lt_dec hi) ?_
    refine yes_ret (beq_t _) ?_
    refine yes_ret zle_dec ?_
    refine yes_ret (lt_dec hi) ?_
    refine yes_ret (beq_t _) ?_
    refine yes_ret zle_dec ?_
    refine yes_ret (lt_dec hi) ?_
    refine yes_ret (beq_t _) ?_
    refine yes_ret zle_dec ?_
    refine yes_ret (lt_dec hi) ?_
    refine yes_ret (beq_t _) ?_
    refine yes_ret zle_dec ?_
    refine yes_ret (lt_dec hi) ?_
    refine yes_ret (beq_t _) ?_
    refine yes_ret zle_dec ?_
    refine yes_ret (lt_dec hi) ?_
    refine yes_ret (beq_t _) ?_
    refine yes_ret (beq_t _) ?_
    refine call_to ((e1 (c.getD i MSigned.zero) k).1, ((e1 (c.getD i MSigned.zero) k).2.map iRow)) (Z84.R_eq (a0 := (((c.getD i MSigned.zero).fHead).fKeys).fList) (a1 := IntKind.i64.wrap ((IntKind.i64.wrap ((IntKind.i64.wrap ((IntKind.i64.wrap ((IntKind.i64.wrap ((IntKind.i64.wrap ((IntKind.i64.wrap ((IntKind.i64.wrap (k + 1)) + 1)) + 1)) + 1)) + 1)) + 1)) + 1)) + 1)) (wrap_I64 _)) ?_
    refine yes_ret zle_dec ?_
    refine yes_ret (lt_dec hi) ?_
    refine yes_ret (beq_t _) ?_
    refine yes_ret zle_dec ?_
    refine yes_ret (lt_dec hi) ?_
    refine yes_ret (beq_t _) ?_
    refine yes_ret (beq_t _) ?_
    refine call_to ((e2 (c.getD i MSigned.zero) k).1, ((e2 (c.getD i MSigned.zero) k).2.map iRow)) (Z84.R_eq (a0 := (((c.getD i MSigned.zero).fHead).fHeirs).fList) (a1 := IntKind.i64.wrap ((e1 (c.getD i MSigned.zero) k).1 + 1)) (wrap_I64 _)) ?_
    refine yes_ret zle_dec ?_
    refine yes_ret (lt_dec hi) ?_
    refine yes_ret (beq_t _) ?_
    refine yes_ret zle_dec ?_
    refine yes_ret (lt_dec hi) ?_
    refine yes_ret (beq_t _) ?_
    refine yes_ret zle_dec ?_
    refine yes_ret (lt_dec hi) ?_
    refine yes_ret (beq_t _) ?_
    refine yes_ret (beq_t _) ?_
    refine call_to ((e3 (c.getD i MSigned.zero) k).1, ((e3 (c.getD i MSigned.zero) k).2.map iRow)) (Z84.R_eq (a0 := (((c.getD i MSigned.zero).fHead).fJudge).fList) (a1 := IntKind.i64.wrap ((IntKind.i64.wrap ((e2 (c.getD i MSigned.zero) k).1 + 1)) + 1)) (wrap_I64 _)) ?_
    refine yes_ret zle_dec ?_
    refine yes_ret (lt_dec hi) ?_
    refine yes_ret (beq_t _) ?_
    refine yes_ret zle_dec ?_
    refine yes_ret (lt_dec hi) ?_
    refine yes_ret (beq_t _) ?_
    refine yes_ret zle_dec ?_
    refine yes_ret (lt_dec hi) ?_
    refine yes_ret (beq_t _) ?_
    refine yes_ret (beq_t _) ?_
    refine call_to ((e4 (c.getD i MSigned.zero) k).1, ((e4 (c.getD i MSigned.zero) k).2.map MSig.row)) (Z85.R_eq (a0 := (c.getD i MSigned.zero).fSigs) (a1 := IntKind.i64.wrap ((IntKind.i64.wrap ((e3 (c.getD i MSigned.zero) k).1 + 1)) + 1)) (wrap_I64 _)) ?_
    rw [wrap_succ hi hm]
    exact congrArg (fun q => J (Pt.p0 (el (c.getD i MSigned.zero) k).1 ((i + 1 : Nat) : Int) q)) (List.map_set (f := MSigned.row) (l := c) (i := i) (a := (el (c.getD i MSigned.zero) k).2)).symm
  · simp only [step, S0, MKeys.rs, MHead.rs, MSigned.rs]
    refine no_ret (by apply decide_eq_false; omega) ?_
    rfl
theorem valid_ : MValid Try.prog Ev 128 con := MV (run := fun n x => start (iter step n) x.1 x.2) mix tab_ok .nil (.cons Z84.valid_ (.cons Z85.valid_ .nil)) Try.func128 (by kernel_rfl) run_eq (fun ls a hl e hg => okF a.1 a.2 hg (by have h : (ls.headD .hole).toSl.length ≤ maxLen := (hl _ _ (.head _)).len; have e : a.1.map MSigned.row = (ls.headD .hole).toSl := (congrArg (fun x => x.1) e.symm); rw [← e] at h; simpa using h))
theorem i64 {a0 : List MSigned} {a1 : Int} (h : I64 a1) : I64 (md a0 a1).1 := accM_I el_I h
theorem elk (x : MSigned) (k : Int) (h0 : 0 ≤ k) (hb : k + (cnt x : Int) ≤ 4611686018427387904) : (el x k).1 = k + cnt x := by
 simp only [cnt, Int.natCast_add] at hb ⊢
 simp (disch := omega) only [el, e1, e2, e3, e4, wi, Z84.kk, Z85.kk]
 all_goals first | done | omega
theorem kk (a0 : List MSigned) (a1 : Int) (h0 : 0 ≤ a1) (hb : a1 + (sum a0 : Int) ≤ 4611686018427387904) : (md a0 a1).1 = a1 + sum a0 := accM_sum elk a0 a1 h0 hb
theorem sz (a : List MSigned) : sum a ≤ 60 * (szL (fun y : MSigned => MSigned.size y) a) := sum_le (fun x => by
  have := Z84.sz (((x.fHead).fKeys).fList)
  have := Z84.sz (((x.fHead).fHeirs).fList)
  have := Z84.sz (((x.fHead).fJudge).fList)
  have := Z85.sz x.fSigs
  try simp only [cnt, MSigned.size, MHead.size, MKeys.size] at *
  omega) a
end Z86
namespace Z87
set_option maxHeartbeats 8000000
inductive Pt where
 | p0 (a : Int) (b : Int) (c : List (List L))
def pid : Pt → Nat
 | .p0 .. => 2
def pvs : Pt → List V
 | .p0 a b c => [.own 0, .int .i64 a, .int .i64 b]
def phs : Pt → List Root
 | .p0 a b c => [.row 149 c]
def step (J : Pt → Ans) : Pt → Ans
 | .p0 a b c => (bif (decide (b < (c.length : Int))) then (bif (decide ((0 : Int) ≤ b)) then (bif (decide (b < (c.length : Int))) then (call (Z86.R ((lAt c (Int.toNat b)), a)) fun v1 => J (.p0 v1.1 (IntKind.i64.wrap (b + 1)) (List.set c (Int.toNat b) [L.sl v1.2]))) else none) else none) else ret ((a, c) : Int × List (List L)))
def start (J : Pt → Ans) (x0 : List (List L)) (x1 : Int) : Ans := J (.p0 x1 0 x0)
def live : Nat → Live := fun i => match i with | 2 => [(0, none), (1, none), (5, none)] | _ => []
def pats : List (Bool × List K) := [(false, [.sl 149]), (false, [.int .i64])]
def res : RP := .chg [149]
abbrev E : Env := { T := assoc Tab, G := conG [], nt := 19, M := conM [(128, Z86.con)], np := 1, mt := true }
theorem step_eq (I : Heads) (p : Pt) : enterC E live I (pid p) (bodyOf Try.f98) (stOf (live (pid p)) (pvs p) (phs p)) (doneK E Try.f98 res) = step (fun q => I (pid q) (pvs q) (phs q)) p := by
 cases p <;> kernel_rfl
theorem start_eq (I : Heads) (ls : List L) : runC E live I (bodyOf Try.f98) (initM pats ls) (doneK E Try.f98 res) = start (fun q => I (pid q) (pvs q) (phs q)) (ls.headD .hole).toSl ((dropT 1 ls).headD .hole).toInt := by kernel_rfl
theorem run_eq (n : Nat) (ls : List L) : runF E live Try.f98 res n (initM pats ls) = start (iter step n) (ls.headD .hole).toSl ((dropT 1 ls).headD .hole).toInt := runF_iter (id := pid) (vs := pvs) (hs := phs) (step := step) (start := fun J => start J (ls.headD .hole).toSl ((dropT 1 ls).headD .hole).toInt) step_eq (fun I => start_eq I ls) n
def e1 (x : List MSigned) (k : Int) := Z86.md x k
def el (x : List MSigned) (k : Int) : Int × (List MSigned) := ((e1 x k).1, ((e1 x k).2))
theorem el_I (x : List MSigned) (k : Int) (hk : I64 k) : I64 (el x k).1 := (Z86.i64 hk)
def cnt (x : List MSigned) : Nat := 0 + Z86.sum x
def sum (a : List (List MSigned)) : Nat := (a.map cnt).sum
def md (a0 : List (List MSigned)) (a1 : Int) : Int × List (List MSigned) := accM el a0 a1
def gd (a0 : List (List MSigned)) (a1 : Int) : Prop := I64 a1
def acc (ls : List L) : List (List L) × Int := ((ls.headD .hole).toSl, ((dropT 1 ls).headD .hole).toInt)
def R : (List (List L) × Int) → Option (Int × List (List L)) := RR (p2 gd) (u2 md)
theorem R_eq {a0} {a1} (h : gd a0 a1) : R ((a0.map (lRow MSigned.row)), a1) = some ((md a0 a1).1, ((md a0 a1).2.map (lRow MSigned.row))) := RR_eq (a := (a0, a1)) h
def con : MCon := MN pats acc R
theorem okF (a0 : List (List MSigned)) (a1 : Int) (hg : gd a0 a1) (h0 : a0.length ≤ maxLen) : ∃ n, start (iter step n) (a0.map (lRow MSigned.row)) a1 = ret (((md a0 a1).1, ((md a0 a1).2.map (lRow MSigned.row))) : Int × List (List L)) := by
  unfold gd at hg
  show ∃ n, iter step n (Pt.p0 a1 0 (a0.map (lRow MSigned.row))) = _
  unfold md
  refine mark_loop (el := el) (xs := a0) [] I64 el_I (pt := fun i k c => Pt.p0 k (i : Int) (c.map (lRow MSigned.row))) (out := fun b => ret (b.1, b.2.map (lRow MSigned.row))) (fun J i k c hi hc hk => ?_) (fun J k c hc => ?_) hg
  · have hm : c.length ≤ maxLen := hc ▸ h0
    simp only [step, S0]
    refine yes_ret (lt_dec hi) ?_
    refine yes_ret zle_dec ?_
    refine yes_ret (lt_dec hi) ?_
    refine call_to ((e1 (c.getD i []) k).1, ((e1 (c.getD i []) k).2.map MSigned.row)) (Z86.R_eq (a0 := c.getD i []) (a1 := k) hk) ?_
    rw [wrap_succ hi hm]
    exact congrArg (fun q => J (Pt.p0 (el (c.getD i []) k).1 ((i + 1 : Nat) : Int) q)) (List.map_set (f := (lRow MSigned.row)) (l := c) (i := i) (a := (el (c.getD i []) k).2)).symm
  · simp only [step, S0]
    refine no_ret (by apply decide_eq_false; omega) ?_
    rfl
theorem valid_ : MValid Try.prog Ev 98 con := MV (run := fun n x => start (iter step n) x.1 x.2) mix tab_ok .nil (.cons Z86.valid_ .nil) Try.func98 (by kernel_rfl) run_eq (fun ls a hl e hg => okF a.1 a.2 hg (by have h : (ls.headD .hole).toSl.length ≤ maxLen := (hl _ _ (.head _)).len; have e : a.1.map (lRow MSigned.row) = (ls.headD .hole).toSl := (congrArg (fun x => x.1) e.symm); rw [← e] at h; simpa using h))
theorem i64 {a0 : List (List MSigned)} {a1 : Int} (h : I64 a1) : I64 (md a0 a1).1 := accM_I el_I h
theorem elk (x : List MSigned) (k : Int) (h0 : 0 ≤ k) (hb : k + (cnt x : Int) ≤ 4611686018427387904) : (el x k).1 = k + cnt x := by
 simp only [cnt, Int.natCast_add] at hb ⊢
 simp (disch := omega) only [el, e1, wi, Z86.kk]
 all_goals first | done | omega
theorem kk (a0 : List (List MSigned)) (a1 : Int) (h0 : 0 ≤ a1) (hb : a1 + (sum a0 : Int) ≤ 4611686018427387904) : (md a0 a1).1 = a1 + sum a0 := accM_sum elk a0 a1 h0 hb
theorem sz (a : List (List MSigned)) : sum a ≤ 60 * (szL (fun y : List MSigned => szL (fun y : MSigned => MSigned.size y) y) a) := sum_le (fun x => by
  have := Z86.sz x
  try simp only [cnt] at *
  omega) a
end Z87
namespace Z88
set_option maxHeartbeats 8000000
inductive Pt where
 | p0 (a : Int) (b : Int) (c : List (List L))
def pid : Pt → Nat
 | .p0 .. => 2
def pvs : Pt → List V
 | .p0 a b c => [.own 0, .int .i64 a, .int .i64 b]
def phs : Pt → List Root
 | .p0 a b c => [.row 158 c]
def step (J : Pt → Ans) : Pt → Ans
 | .p0 a b c => (bif (decide (b < (c.length : Int))) then (bif (decide ((0 : Int) ≤ b)) then (bif (decide (b < (c.length : Int))) then (bif (decide ((0 : Int) ≤ b)) then (bif (decide (b < (c.length : Int))) then (bif (Nat.beq (Int.toNat b) (Int.toNat b) && true) then (bif (decide ((0 : Int) ≤ b)) then (bif (decide (b < (c.length : Int))) then (bif (Nat.beq (Int.toNat b) (Int.toNat b) && true) then (bif (decide ((0 : Int) ≤ b)) then (bif (decide (b < (c.length : Int))) then (bif (Nat.beq (Int.toNat b) (Int.toNat b) && true) then (bif (decide ((0 : Int) ≤ b)) then (bif (decide (b < (c.length : Int))) then (bif (Nat.beq (Int.toNat b) (Int.toNat b) && true) then (bif (decide ((0 : Int) ≤ b)) then (bif (decide (b < (c.length : Int))) then (bif (Nat.beq (Int.toNat b) (Int.toNat b) && true) then (bif (decide ((0 : Int) ≤ b)) then (bif (decide (b < (c.length : Int))) then (bif (Nat.beq (Int.toNat b) (Int.toNat b) && true) then (bif (decide ((0 : Int) ≤ b)) then (bif (decide (b < (c.length : Int))) then (bif (Nat.beq (Int.toNat b) (Int.toNat b) && true) then (bif (decide ((0 : Int) ≤ b)) then (bif (decide (b < (c.length : Int))) then (bif (Nat.beq (Int.toNat b) (Int.toNat b) && true) then (bif (Nat.beq (Int.toNat b) (Int.toNat b) && true) then (call (Z84.R ((RFork.at c (Int.toNat b)).fBefore.fHead.fKeys.fList, (IntKind.i64.wrap ((IntKind.i64.wrap ((IntKind.i64.wrap ((IntKind.i64.wrap ((IntKind.i64.wrap ((IntKind.i64.wrap ((IntKind.i64.wrap ((IntKind.i64.wrap (a + 1)) + 1)) + 1)) + 1)) + 1)) + 1)) + 1)) + 1)))) fun v1 => (bif (decide ((0 : Int) ≤ b)) then (bif (decide (b < (c.length : Int))) then (bif (Nat.beq (Int.toNat b) (Int.toNat b) && true) then (bif (decide ((0 : Int) ≤ b)) then (bif (decide (b < (c.length : Int))) then (bif (Nat.beq (Int.toNat b) (Int.toNat b) && true) then (bif (Nat.beq (Int.toNat b) (Int.toNat b) && true) then (call (Z84.R ((RFork.at c (Int.toNat b)).fBefore.fHead.fHeirs.fList, (IntKind.i64.wrap (v1.1 + 1)))) fun v2 => (bif (decide ((0 : Int) ≤ b)) then (bif (decide (b < (c.length : Int))) then (bif (Nat.beq (Int.toNat b) (Int.toNat b) && true) then (bif (decide ((0 : Int) ≤ b)) then (bif (decide (b < (c.length : Int))) then (bif (Nat.beq (Int.toNat b) (Int.toNat b) && true) then (bif (decide ((0 : Int) ≤ b)) then (bif (decide (b < (c.length : Int))) then (bif (Nat.beq (Int.toNat b) (Int.toNat b) && true) then (bif (Nat.beq (Int.toNat b) (Int.toNat b) && true) then (call (Z84.R ((RFork.at c (Int.toNat b)).fBefore.fHead.fJudge.fList, (IntKind.i64.wrap ((IntKind.i64.wrap (v2.1 + 1)) + 1)))) fun v3 => (bif (decide ((0 : Int) ≤ b)) then (bif (decide (b < (c.length : Int))) then (bif (Nat.beq (Int.toNat b) (Int.toNat b) && true) then (bif (decide ((0 : Int) ≤ b)) then (bif (decide (b < (c.length : Int))) then (bif (Nat.beq (Int.toNat b) (Int.toNat b) && true) then (bif (decide ((0 : Int) ≤ b)) then (bif (decide (b < (c.length : Int))) then (bif (Nat.beq (Int.toNat b) (Int.toNat b) && true) then (bif (Nat.beq (Int.toNat b) (Int.toNat b) && true) then (call (Z85.R ((RFork.at c (Int.toNat b)).fBefore.fSigs, (IntKind.i64.wrap ((IntKind.i64.wrap (v3.1 + 1)) + 1)))) fun v4 => (bif (decide ((0 : Int) ≤ b)) then (bif (decide (b < (c.length : Int))) then (bif (Nat.beq (Int.toNat b) (Int.toNat b) && true) then (bif (decide ((0 : Int) ≤ b)) then (bif (decide (b < (c.length : Int))) then (bif (Nat.beq (Int.toNat b) (Int.toNat b) && true) then (bif (decide ((0 : Int) ≤ b)) then (bif (decide (b < (c.length : Int))) then (bif (Nat.beq (Int.toNat b) (Int.toNat b) && true) then (bif (decide ((0 : Int) ≤ b)) then (bif (decide (b < (c.length : Int))) then (bif (Nat.beq (Int.toNat b) (Int.toNat b) && true) then (bif (decide ((0 : Int) ≤ b)) then (bif (decide (b < (c.length : Int))) then (bif (Nat.beq (Int.toNat b) (Int.toNat b) && true) then (bif (decide ((0 : Int) ≤ b)) then (bif (decide (b < (c.length : Int))) then (bif (Nat.beq (Int.toNat b) (Int.toNat b) && true) then (bif (decide ((0 : Int) ≤ b)) then (bif (decide (b < (c.length : Int))) then (bif (Nat.beq (Int.toNat b) (Int.toNat b) && true) then (bif (decide ((0 : Int) ≤ b)) then (bif (decide (b < (c.length : Int))) then (bif (Nat.beq (Int.toNat b) (Int.toNat b) && true) then (bif (decide ((0 : Int) ≤ b)) then (bif (decide (b < (c.length : Int))) then (bif (Nat.beq (Int.toNat b) (Int.toNat b) && true) then (bif (Nat.beq (Int.toNat b) (Int.toNat b) && true) then (call (Z84.R ((RFork.at c (Int.toNat b)).fA.fHead.fKeys.fList, (IntKind.i64.wrap ((IntKind.i64.wrap ((IntKind.i64.wrap ((IntKind.i64.wrap ((IntKind.i64.wrap ((IntKind.i64.wrap ((IntKind.i64.wrap ((IntKind.i64.wrap (v4.1 + 1)) + 1)) + 1)) + 1)) + 1)) + 1)) + 1)) + 1)))) fun v5 => (bif (decide ((0 : Int) ≤ b)) then (bif (decide (b < (c.length : Int))) then (bif (Nat.beq (Int.toNat b) (Int.toNat b) && true) then (bif (decide ((0 : Int) ≤ b)) then (bif (decide (b < (c.length : Int))) then (bif (Nat.beq (Int.toNat b) (Int.toNat b) && true) then (bif (Nat.beq (Int.toNat b) (Int.toNat b) && true) then (call (Z84.R ((RFork.at c (Int.toNat b)).fA.fHead.fHeirs.fList, (IntKind.i64.wrap (v5.1 + 1)))) fun v6 => (bif (decide ((0 : Int) ≤ b)) then (bif (decide (b < (c.length : Int))) then (bif (Nat.beq (Int.toNat b) (Int.toNat b) && true) then (bif (decide ((0 : Int) ≤ b)) then (bif (decide (b < (c.length : Int))) then (bif (Nat.beq (Int.toNat b) (Int.toNat b) && true) then (bif (decide ((0 : Int) ≤ b)) then (bif (decide (b < (c.length : Int))) then (bif (Nat.beq (Int.toNat b) (Int.toNat b) && true) then (bif (Nat.beq (Int.toNat b) (Int.toNat b) && true) then (call (Z84.R ((RFork.at c (Int.toNat b)).fA.fHead.fJudge.fList, (IntKind.i64.wrap ((IntKind.i64.wrap (v6.1 + 1)) + 1)))) fun v7 => (bif (decide ((0 : Int) ≤ b)) then (bif (decide (b < (c.length : Int))) then (bif (Nat.beq (Int.toNat b) (Int.toNat b) && true) then (bif (decide ((0 : Int) ≤ b)) then (bif (decide (b < (c.length : Int))) then (bif (Nat.beq (Int.toNat b) (Int.toNat b) && true) then (bif (decide ((0 : Int) ≤ b)) then (bif (decide (b < (c.length : Int))) then (bif (Nat.beq (Int.toNat b) (Int.toNat b) && true) then (bif (Nat.beq (Int.toNat b) (Int.toNat b) && true) then (call (Z85.R ((RFork.at c (Int.toNat b)).fA.fSigs, (IntKind.i64.wrap ((IntKind.i64.wrap (v7.1 + 1)) + 1)))) fun v8 => (bif (decide ((0 : Int) ≤ b)) then (bif (decide (b < (c.length : Int))) then (bif (Nat.beq (Int.toNat b) (Int.toNat b) && true) then (bif (decide ((0 : Int) ≤ b)) then (bif (decide (b < (c.length : Int))) then (bif (Nat.beq (Int.toNat b) (Int.toNat b) && true) then (bif (decide ((0 : Int) ≤ b)) then (bif (decide (b < (c.length : Int))) then (bif (Nat.beq (Int.toNat b) (Int.toNat b) && true) then (bif (decide ((0 : Int) ≤ b)) then (bif (decide (b < (c.length : Int))) then (bif (Nat.beq (Int.toNat b) (Int.toNat b) && true) then (bif (decide ((0 : Int) ≤ b)) then (bif (decide (b < (c.length : Int))) then (bif (Nat.beq (Int.toNat b) (Int.toNat b) && true) then (bif (decide ((0 : Int) ≤ b)) then (bif (decide (b < (c.length : Int))) then (bif (Nat.beq (Int.toNat b) (Int.toNat b) && true) then (bif (decide ((0 : Int) ≤ b)) then (bif (decide (b < (c.length : Int))) then (bif (Nat.beq (Int.toNat b) (Int.toNat b) && true) then (bif (decide ((0 : Int) ≤ b)) then (bif (decide (b < (c.length : Int))) then (bif (Nat.beq (Int.toNat b) (Int.toNat b) && true) then (bif (decide ((0 : Int) ≤ b)) then (bif (decide (b < (c.length : Int))) then (bif (Nat.beq (Int.toNat b) (Int.toNat b) && true) then (bif (Nat.beq (Int.toNat b) (Int.toNat b) && true) then (call (Z84.R ((RFork.at c (Int.toNat b)).fB.fHead.fKeys.fList, (IntKind.i64.wrap ((IntKind.i64.wrap ((IntKind.i64.wrap ((IntKind.i64.wrap ((IntKind.i64.wrap ((IntKind.i64.wrap ((IntKind.i64.wrap ((IntKind.i64.wrap (v8.1 + 1)) + 1)) + 1)) + 1)) + 1)) + 1)) + 1)) + 1)))) fun v9 => (bif (decide ((0 : Int) ≤ b)) then (bif (decide (b < (c.length : Int))) then (bif (Nat.beq (Int.toNat b) (Int.toNat b) && true) then (bif (decide ((0 : Int) ≤ b)) then (bif (decide (b < (c.length : Int))) then (bif (Nat.beq (Int.toNat b) (Int.toNat b) && true) then (bif (Nat.beq (Int.toNat b) (Int.toNat b) && true) then (call (Z84.R ((RFork.at c (Int.toNat b)).fB.fHead.fHeirs.fList, (IntKind.i64.wrap (v9.1 + 1)))) fun v10 => (bif (decide ((0 : Int) ≤ b)) then (bif (decide (b < (c.length : Int))) then (bif (Nat.beq (Int.toNat b) (Int.toNat b) && true) then (bif (decide ((0 : Int) ≤ b)) then (bif (decide (b < (c.length : Int))) then (bif (Nat.beq (Int.toNat b) (Int.toNat b) && true) then (bif (decide ((0 : Int) ≤ b)) then (bif (decide (b < (c.length : Int))) then (bif (Nat.beq (Int.toNat b) (Int.toNat b) && true) then (bif (Nat.beq (Int.toNat b) (Int.toNat b) && true) then (call (Z84.R ((RFork.at c (Int.toNat b)).fB.fHead.fJudge.fList, (IntKind.i64.wrap ((IntKind.i64.wrap (v10.1 + 1)) + 1)))) fun v11 => (bif (decide ((0 : Int) ≤ b)) then (bif (decide (b < (c.length : Int))) then (bif (Nat.beq (Int.toNat b) (Int.toNat b) && true) then (bif (decide ((0 : Int) ≤ b)) then (bif (decide (b < (c.length : Int))) then (bif (Nat.beq (Int.toNat b) (Int.toNat b) && true) then (bif (decide ((0 : Int) ≤ b)) then (bif (decide (b < (c.length : Int))) then (bif (Nat.beq (Int.toNat b) (Int.toNat b) && true) then (bif (Nat.beq (Int.toNat b) (Int.toNat b) && true) then (call (Z85.R ((RFork.at c (Int.toNat b)).fB.fSigs, (IntKind.i64.wrap ((IntKind.i64.wrap (v11.1 + 1)) + 1)))) fun v12 => J (.p0 v12.1 (IntKind.i64.wrap (b + 1)) (List.set c (Int.toNat b) (RFork.enc (⟨(⟨(⟨a, (IntKind.i64.wrap (a + 1)), (IntKind.i64.wrap ((IntKind.i64.wrap (a + 1)) + 1)), (IntKind.i64.wrap ((IntKind.i64.wrap ((IntKind.i64.wrap (a + 1)) + 1)) + 1)), (IntKind.i64.wrap ((IntKind.i64.wrap ((IntKind.i64.wrap ((IntKind.i64.wrap (a + 1)) + 1)) + 1)) + 1)), (IntKind.i64.wrap ((IntKind.i64.wrap ((IntKind.i64.wrap ((IntKind.i64.wrap ((IntKind.i64.wrap (a + 1)) + 1)) + 1)) + 1)) + 1)), (IntKind.i64.wrap ((IntKind.i64.wrap ((IntKind.i64.wrap ((IntKind.i64.wrap ((IntKind.i64.wrap ((IntKind.i64.wrap (a + 1)) + 1)) + 1)) + 1)) + 1)) + 1)), (IntKind.i64.wrap ((IntKind.i64.wrap ((IntKind.i64.wrap ((IntKind.i64.wrap ((IntKind.i64.wrap ((IntKind.i64.wrap ((IntKind.i64.wrap (a + 1)) + 1)) + 1)) + 1)) + 1)) + 1)) + 1)), (⟨v1.2, v1.1⟩ : RKeys), (⟨v2.2, v2.1⟩ : RKeys), (IntKind.i64.wrap (v2.1 + 1)), (⟨v3.2, v3.1⟩ : RKeys), ((Int.tmod (IntKind.i64.wrap (v3.1 + 1)) 3) == 0)⟩ : RHead), v4.2⟩ : RSigned), (⟨(⟨v4.1, (IntKind.i64.wrap (v4.1 + 1)), (IntKind.i64.wrap ((IntKind.i64.wrap (v4.1 + 1)) + 1)), (IntKind.i64.wrap ((IntKind.i64.wrap ((IntKind.i64.wrap (v4.1 + 1)) + 1)) + 1)), (IntKind.i64.wrap ((IntKind.i64.wrap ((IntKind.i64.wrap ((IntKind.i64.wrap (v4.1 + 1)) + 1)) + 1)) + 1)), (IntKind.i64.wrap ((IntKind.i64.wrap ((IntKind.i64.wrap ((IntKind.i64.wrap ((IntKind.i64.wrap (v4.1 + 1)) + 1)) + 1)) + 1)) + 1)), (IntKind.i64.wrap ((IntKind.i64.wrap ((IntKind.i64.wrap ((IntKind.i64.wrap ((IntKind.i64.wrap ((IntKind.i64.wrap (v4.1 + 1)) + 1)) + 1)) + 1)) + 1)) + 1)), (IntKind.i64.wrap ((IntKind.i64.wrap ((IntKind.i64.wrap ((IntKind.i64.wrap ((IntKind.i64.wrap ((IntKind.i64.wrap ((IntKind.i64.wrap (v4.1 + 1)) + 1)) + 1)) + 1)) + 1)) + 1)) + 1)), (⟨v5.2, v5.1⟩ : RKeys), (⟨v6.2, v6.1⟩ : RKeys), (IntKind.i64.wrap (v6.1 + 1)), (⟨v7.2, v7.1⟩ : RKeys), ((Int.tmod (IntKind.i64.wrap (v7.1 + 1)) 3) == 0)⟩ : RHead), v8.2⟩ : RSigned), (⟨(⟨v8.1, (IntKind.i64.wrap (v8.1 + 1)), (IntKind.i64.wrap ((IntKind.i64.wrap (v8.1 + 1)) + 1)), (IntKind.i64.wrap ((IntKind.i64.wrap ((IntKind.i64.wrap (v8.1 + 1)) + 1)) + 1)), (IntKind.i64.wrap ((IntKind.i64.wrap ((IntKind.i64.wrap ((IntKind.i64.wrap (v8.1 + 1)) + 1)) + 1)) + 1)), (IntKind.i64.wrap ((IntKind.i64.wrap ((IntKind.i64.wrap ((IntKind.i64.wrap ((IntKind.i64.wrap (v8.1 + 1)) + 1)) + 1)) + 1)) + 1)), (IntKind.i64.wrap ((IntKind.i64.wrap ((IntKind.i64.wrap ((IntKind.i64.wrap ((IntKind.i64.wrap ((IntKind.i64.wrap (v8.1 + 1)) + 1)) + 1)) + 1)) + 1)) + 1)), (IntKind.i64.wrap ((IntKind.i64.wrap ((IntKind.i64.wrap ((IntKind.i64.wrap ((IntKind.i64.wrap ((IntKind.i64.wrap ((IntKind.i64.wrap (v8.1 + 1)) + 1)) + 1)) + 1)) + 1)) + 1)) + 1)), (⟨v9.2, v9.1⟩ : RKeys), (⟨v10.2, v10.1⟩ : RKeys), (IntKind.i64.wrap (v10.1 + 1)), (⟨v11.2, v11.1⟩ : RKeys), ((Int.tmod (IntKind.i64.wrap (v11.1 + 1)) 3) == 0)⟩ : RHead), v12.2⟩ : RSigned)⟩ : RFork))))) else none) else none) else none) else none) else none) else none) else none) else none) else none) else none)) else none) else none) else none) else none) else none) else none) else none) else none) else none) else none)) else none) else none) else none) else none) else none) else none) else none)) else none) else none) else none) else none) else none) else none) else none) else none) else none) else none) else none) else none) else none) else none) else none) else none) else none) else none) else none) else none) else none) else none) else none) else none) else none) else none) else none) else none)) else none) else none) else none) else none) else none) else none) else none) else none) else none) else none)) else none) else none) else none) else none) else none) else none) else none) else none) else none) else none)) else none) else none) else none) else none) else none) else none) else none)) else none) else none) else none) else none) else none) else none) else none) else none) else none) else none) else none) else none) else none) else none) else none) else none) else none) else none) else none) else none) else none) else none) else none) else none) else none) else none) else none) else none)) else none) else none) else none) else none) else none) else none) else none) else none) else none) else none)) else none) else none) else none) else none) else none) else none) else none) else none) else none) else none)) else none) else none) else none) else none) else none) else none) else none)) else none) else none) else none) else none) else none) else none) else none) else none) else none) else none) else none) else none) else none) else none) else none) else none) else none) else none) else none) else none) else none) else none) else none) else none) else none) else none) else none) else ret ((a, c) : Int × List (List L)))
def start (J : Pt → Ans) (x0 : List (List L)) (x1 : Int) : Ans := J (.p0 x1 0 x0)
def live : Nat → Live := fun i => match i with | 2 => [(0, none), (1, none), (5, none)] | _ => []
def pats : List (Bool × List K) := [(false, [.sl 158]), (false, [.int .i64])]
def res : RP := .chg [158]
abbrev E : Env := { T := assoc Tab, G := conG [], nt := 493, M := conM [(100, Z84.con), (129, Z85.con)], np := 1, mt := true }
theorem step_eq (I : Heads) (p : Pt) : enterC E live I (pid p) (bodyOf Try.f99) (stOf (live (pid p)) (pvs p) (phs p)) (doneK E Try.f99 res) = step (fun q => I (pid q) (pvs q) (phs q)) p := by
 cases p <;> kernel_rfl
theorem start_eq (I : Heads) (ls : List L) : runC E live I (bodyOf Try.f99) (initM pats ls) (doneK E Try.f99 res) = start (fun q => I (pid q) (pvs q) (phs q)) (ls.headD .hole).toSl ((dropT 1 ls).headD .hole).toInt := by kernel_rfl
theorem run_eq (n : Nat) (ls : List L) : runF E live Try.f99 res n (initM pats ls) = start (iter step n) (ls.headD .hole).toSl ((dropT 1 ls).headD .hole).toInt := runF_iter (id := pid) (vs := pvs) (hs := phs) (step := step) (start := fun J => start J (ls.headD .hole).toSl ((dropT 1 ls).headD .hole).toInt) step_eq (fun I => start_eq I ls) n
def e1 (x : MFork) (k : Int) := Z84.md ((((x.fBefore).fHead).fKeys).fList) (IntKind.i64.wrap ((IntKind.i64.wrap ((IntKind.i64.wrap ((IntKind.i64.wrap ((IntKind.i64.wrap ((IntKind.i64.wrap ((IntKind.i64.wrap ((IntKind.i64.wrap (k + 1)) + 1)) + 1)) + 1)) + 1)) + 1)) + 1)) + 1))
def e2 (x : MFork) (k : Int) := Z84.md ((((x.fBefore).fHead).fHeirs).fList) (IntKind.i64.wrap ((e1 x k).1 + 1))
def e3 (x : MFork) (k : Int) := Z84.md ((((x.fBefore).fHead).fJudge).fList) (IntKind.i64.wrap ((IntKind.i64.wrap ((e2 x k).1 + 1)) + 1))
def e4 (x : MFork) (k : Int) := Z85.md ((x.fBefore).fSigs) (IntKind.i64.wrap ((IntKind.i64.wrap ((e3 x k).1 + 1)) + 1))
def e5 (x : MFork) (k : Int) := Z84.md ((((x.fA).fHead).fKeys).fList) (IntKind.i64.wrap ((IntKind.i64.wrap ((IntKind.i64.wrap ((IntKind.i64.wrap ((IntKind.i64.wrap ((IntKind.i64.wrap ((IntKind.i64.wrap ((IntKind.i64.wrap ((e4 x k).1 + 1)) + 1)) + 1)) + 1)) + 1)) + 1)) + 1)) + 1))
def e6 (x : MFork) (k : Int) := Z84.md ((((x.fA).fHead).fHeirs).fList) (IntKind.i64.wrap ((e5 x k).1 + 1))
def e7 (x : MFork) (k : Int) := Z84.md ((((x.fA).fHead).fJudge).fList) (IntKind.i64.wrap ((IntKind.i64.wrap ((e6 x k).1 + 1)) + 1))
def e8 (x : MFork) (k : Int) := Z85.md ((x.fA).fSigs) (IntKind.i64.wrap ((IntKind.i64.wrap ((e7 x k).1 + 1)) + 1))
def e9 (x : MFork) (k : Int) := Z84.md ((((x.fB).fHead).fKeys).fList) (IntKind.i64.wrap ((IntKind.i64.wrap ((IntKind.i64.wrap ((IntKind.i64.wrap ((IntKind.i64.wrap ((IntKind.i64.wrap ((IntKind.i64.wrap ((IntKind.i64.wrap ((e8 x k).1 + 1)) + 1)) + 1)) + 1)) + 1)) + 1)) + 1)) + 1))
def e10 (x : MFork) (k : Int) := Z84.md ((((x.fB).fHead).fHeirs).fList) (IntKind.i64.wrap ((e9 x k).1 + 1))
def e11 (x : MFork) (k : Int) := Z84.md ((((x.fB).fHead).fJudge).fList) (IntKind.i64.wrap ((IntKind.i64.wrap ((e10 x k).1 + 1)) + 1))
def e12 (x : MFork) (k : Int) := Z85.md ((x.fB).fSigs) (IntKind.i64.wrap ((IntKind.i64.wrap ((e11 x k).1 + 1)) + 1))
def el (x : MFork) (k : Int) : Int × MFork := ((e12 x k).1, (⟨(⟨(⟨k, (IntKind.i64.wrap (k + 1)), (IntKind.i64.wrap ((IntKind.i64.wrap (k + 1)) + 1)), (IntKind.i64.wrap ((IntKind.i64.wrap ((IntKind.i64.wrap (k + 1)) + 1)) + 1)), (IntKind.i64.wrap ((IntKind.i64.wrap ((IntKind.i64.wrap ((IntKind.i64.wrap (k + 1)) + 1)) + 1)) + 1)), (IntKind.i64.wrap ((IntKind.i64.wrap ((IntKind.i64.wrap ((IntKind.i64.wrap ((IntKind.i64.wrap (k + 1)) + 1)) + 1)) + 1)) + 1)), (IntKind.i64.wrap ((IntKind.i64.wrap ((IntKind.i64.wrap ((IntKind.i64.wrap ((IntKind.i64.wrap ((IntKind.i64.wrap (k + 1)) + 1)) + 1)) + 1)) + 1)) + 1)), (IntKind.i64.wrap ((IntKind.i64.wrap ((IntKind.i64.wrap ((IntKind.i64.wrap ((IntKind.i64.wrap ((IntKind.i64.wrap ((IntKind.i64.wrap (k + 1)) + 1)) + 1)) + 1)) + 1)) + 1)) + 1)), (⟨(e1 x k).2, (e1 x k).1⟩ : MKeys), (⟨(e2 x k).2, (e2 x k).1⟩ : MKeys), (IntKind.i64.wrap ((e2 x k).1 + 1)), (⟨(e3 x k).2, (e3 x k).1⟩ : MKeys), ((Int.tmod (IntKind.i64.wrap ((e3 x k).1 + 1)) 3) == 0)⟩ : MHead), (e4 x k).2⟩ : MSigned), (⟨(⟨(e4 x k).1, (IntKind.i64.wrap ((e4 x k).1 + 1)), (IntKind.i64.wrap ((IntKind.i64.wrap ((e4 x k).1 + 1)) + 1)), (IntKind.i64.wrap ((IntKind.i64.wrap ((IntKind.i64.wrap ((e4 x k).1 + 1)) + 1)) + 1)), (IntKind.i64.wrap ((IntKind.i64.wrap ((IntKind.i64.wrap ((IntKind.i64.wrap ((e4 x k).1 + 1)) + 1)) + 1)) + 1)), (IntKind.i64.wrap ((IntKind.i64.wrap ((IntKind.i64.wrap ((IntKind.i64.wrap ((IntKind.i64.wrap ((e4 x k).1 + 1)) + 1)) + 1)) + 1)) + 1)), (IntKind.i64.wrap ((IntKind.i64.wrap ((IntKind.i64.wrap ((IntKind.i64.wrap ((IntKind.i64.wrap ((IntKind.i64.wrap ((e4 x k).1 + 1)) + 1)) + 1)) + 1)) + 1)) + 1)), (IntKind.i64.wrap ((IntKind.i64.wrap ((IntKind.i64.wrap ((IntKind.i64.wrap ((IntKind.i64.wrap ((IntKind.i64.wrap ((IntKind.i64.wrap ((e4 x k).1 + 1)) + 1)) + 1)) + 1)) + 1)) + 1)) + 1)), (⟨(e5 x k).2, (e5 x k).1⟩ : MKeys), (⟨(e6 x k).2, (e6 x k).1⟩ : MKeys), (IntKind.i64.wrap ((e6 x k).1 + 1)), (⟨(e7 x k).2, (e7 x k).1⟩ : MKeys), ((Int.tmod (IntKind.i64.wrap ((e7 x k).1 + 1)) 3) == 0)⟩ : MHead), (e8 x k).2⟩ : MSigned), (⟨(⟨(e8 x k).1, (IntKind.i64.wrap ((e8 x k).1 + 1)), (IntKind.i64.wrap ((IntKind.i64.wrap ((e8 x k).1 + 1)) + 1)), (IntKind.i64.wrap ((IntKind.i64.wrap ((IntKind.i64.wrap ((e8 x k).1 + 1)) + 1)) + 1)), (IntKind.i64.wrap ((IntKind.i64.wrap ((IntKind.i64.wrap ((IntKind.i64.wrap ((e8 x k).1 + 1)) + 1)) + 1)) + 1)), (IntKind.i64.wrap ((IntKind.i64.wrap ((IntKind.i64.wrap ((IntKind.i64.wrap ((IntKind.i64.wrap ((e8 x k).1 + 1)) + 1)) + 1)) + 1)) + 1)), (IntKind.i64.wrap ((IntKind.i64.wrap ((IntKind.i64.wrap ((IntKind.i64.wrap ((IntKind.i64.wrap ((IntKind.i64.wrap ((e8 x k).1 + 1)) + 1)) + 1)) + 1)) + 1)) + 1)), (IntKind.i64.wrap ((IntKind.i64.wrap ((IntKind.i64.wrap ((IntKind.i64.wrap ((IntKind.i64.wrap ((IntKind.i64.wrap ((IntKind.i64.wrap ((e8 x k).1 + 1)) + 1)) + 1)) + 1)) + 1)) + 1)) + 1)), (⟨(e9 x k).2, (e9 x k).1⟩ : MKeys), (⟨(e10 x k).2, (e10 x k).1⟩ : MKeys), (IntKind.i64.wrap ((e10 x k).1 + 1)), (⟨(e11 x k).2, (e11 x k).1⟩ : MKeys), ((Int.tmod (IntKind.i64.wrap ((e11 x k).1 + 1)) 3) == 0)⟩ : MHead), (e12 x k).2⟩ : MSigned)⟩ : MFork))
theorem el_I (x : MFork) (k : Int) (hk : I64 k) : I64 (el x k).1 := (Z85.i64 (wrap_I64 _))
def cnt (x : MFork) : Nat := 39 + Z84.sum ((((x.fBefore).fHead).fKeys).fList) + Z84.sum ((((x.fBefore).fHead).fHeirs).fList) + Z84.sum ((((x.fBefore).fHead).fJudge).fList) + Z85.sum ((x.fBefore).fSigs) + Z84.sum ((((x.fA).fHead).fKeys).fList) + Z84.sum ((((x.fA).fHead).fHeirs).fList) + Z84.sum ((((x.fA).fHead).fJudge).fList) + Z85.sum ((x.fA).fSigs) + Z84.sum ((((x.fB).fHead).fKeys).fList) + Z84.sum ((((x.fB).fHead).fHeirs).fList) + Z84.sum ((((x.fB).fHead).fJudge).fList) + Z85.sum ((x.fB).fSigs)
def sum (a : List MFork) : Nat := (a.map cnt).sum
def md (a0 : List MFork) (a1 : Int) : Int × List MFork := accM el a0 a1
def gd (a0 : List MFork) (a1 : Int) : Prop := I64 a1
def acc (ls : List L) : List (List L) × Int := ((ls.headD .hole).toSl, ((dropT 1 ls).headD .hole).toInt)
def R : (List (List L) × Int) → Option (Int × List (List L)) := RR (p2 gd) (u2 md)
theorem R_eq {a0} {a1} (h : gd a0 a1) : R ((a0.map MFork.row), a1) = some ((md a0 a1).1, ((md a0 a1).2.map MFork.row)) := RR_eq (a := (a0, a1)) h
def con : MCon := MN pats acc R
theorem okF (a0 : List MFork) (a1 : Int) (hg : gd a0 a1) (h0 : a0.length ≤ maxLen) : ∃ n, start (iter step n) (a0.map MFork.row) a1 = ret (((md a0 a1).1, ((md a0 a1).2.map MFork.row)) : Int × List (List L)) := by
  unfold gd at hg
  show ∃ n, iter step n (Pt.p0 a1 0 (a0.map MFork.row)) = _
  unfold md
  refine mark_loop (el := el) (xs := a0) MFork.zero I64 el_I (pt := fun i k c => Pt.p0 k (i : Int) (c.map MFork.row)) (out := fun b => ret (b.1, b.2.map MFork.row)) (fun J i k c hi hc hk => ?_) (fun J k c hc => ?_) hg
  · have hm : c.length ≤ maxLen := hc ▸ h0
    simp only [step, S0, MKeys.rs, MHead.rs, MSigned.rs, MFork.rs]
    refine yes_ret (lt_dec hi) ?_
    refine yes_ret zle_dec ?_
    refine yes_ret (lt_dec hi) ?_
    refine yes_ret zle_dec ?_
    refine yes_ret (lt_dec hi) ?_
    refine yes_ret (beq_t _) ?_
    refine yes_ret zle_dec ?_
    refine yes_ret (lt_dec hi) ?_
    refine yes_ret (beq_t _) ?_
    refine yes_ret zle_dec ?_
    refine yes_ret (lt_dec hi) ?_
    refine yes_ret (beq_t _) ?_
    refine yes_ret zle_dec ?_
    refine yes_ret (lt_dec hi) ?_
    refine yes_ret (beq_t _) ?_
    refine yes_ret zle_dec ?_
    refine yes_ret (lt_dec hi) ?_
    refine yes_ret (beq_t _) ?_
    refine yes_ret zle_dec ?_
    refine yes_ret (lt_dec hi) ?_
    refine yes_ret (beq_t _) ?_
    refine yes_ret zle_dec ?_
    refine yes_ret (lt_dec hi) ?_
    refine yes_ret (beq_t _) ?_
    refine yes_ret zle_dec ?_
    refine yes_ret (lt_dec hi) ?_
    refine yes_ret (beq_t _) ?_
    refine yes_ret (beq_t _) ?_
    refine call_to ((e1 (c.getD i MFork.zero) k).1, ((e1 (c.getD i MFork.zero) k).2.map iRow)) (Z84.R_eq (a0 := ((((c.getD i MFork.zero).fBefore).fHead).fKeys).fList) (a1 := IntKind.i64.wrap ((IntKind.i64.wrap ((IntKind.i64.wrap ((IntKind.i64.wrap ((IntKind.i64.wrap ((IntKind.i64.wrap ((IntKind.i64.wrap ((IntKind.i64.wrap (k + 1)) + 1)) + 1)) + 1)) + 1)) + 1)) + 1)) + 1)) (wrap_I64 _)) ?_
    refine yes_ret zle_dec ?_
    refine yes_ret (lt_dec hi) ?_
    refine yes_ret (beq_t _) ?_
    refine yes_ret zle_dec ?_
    refine yes_ret (lt_dec hi) ?_
    refine yes_ret (beq_t _) ?_
    refine yes_ret (beq_t _) ?_
    refine call_to ((e2 (c.getD i MFork.zero) k).1, ((e2 (c.getD i MFork.zero) k).2.map iRow)) (Z84.R_eq (a0 := ((((c.getD i MFork.zero).fBefore).fHead).fHeirs).fList) (a1 := IntKind.i64.wrap ((e1 (c.getD i MFork.zero) k).1 + 1)) (wrap_I64 _)) ?_
    refine yes_ret zle_dec ?_
    refine yes_ret (lt_dec hi) ?_
    refine yes_ret (beq_t _) ?_
    refine yes_ret zle_dec ?_
    refine yes_ret (lt_dec hi) ?_
    refine yes_ret (beq_t _) ?_
    refine yes_ret zle_dec ?_
    refine yes_ret (lt_dec hi) ?_
    refine yes_ret (beq_t _) ?_
    refine yes_ret (beq_t _) ?_
    refine call_to ((e3 (c.getD i MFork.zero) k).1, ((e3 (c.getD i MFork.zero) k).2.map iRow)) (Z84.R_eq (a0 := ((((c.getD i MFork.zero).fBefore).fHead).fJudge).fList) (a1 := IntKind.i64.wrap ((IntKind.i64.wrap ((e2 (c.getD i MFork.zero) k).1 + 1)) + 1)) (wrap_I64 _)) ?_
    refine yes_ret zle_dec ?_
    refine yes_ret (lt_dec hi) ?_
    refine yes_ret (beq_t _) ?_
    refine yes_ret zle_dec ?_
    refine yes_ret (lt_dec hi) ?_
    refine yes_ret (beq_t _) ?_
    refine yes_ret zle_dec ?_
    refine yes_ret (lt_dec hi) ?_
    refine yes_ret (beq_t _) ?_
    refine yes_ret (beq_t _) ?_
    refine call_to ((e4 (c.getD i MFork.zero) k).1, ((e4 (c.getD i MFork.zero) k).2.map MSig.row)) (Z85.R_eq (a0 := ((c.getD i MFork.zero).fBefore).fSigs) (a1 := IntKind.i64.wrap ((IntKind.i64.wrap ((e3 (c.getD i MFork.zero) k).1 + 1)) + 1)) (wrap_I64 _)) ?_
    refine yes_ret zle_dec ?_
    refine yes_ret (lt_dec hi) ?_
    refine yes_ret (beq_t _) ?_
    refine yes_ret zle_dec ?_
    refine yes_ret (lt_dec hi) ?_
    refine yes_ret (beq_t _) ?_
    refine yes_ret zle_dec ?_
    refine yes_ret (lt_dec hi) ?_
    refine yes_ret (beq_t _) ?_
    refine yes_ret zle_dec ?_
    refine yes_ret (lt_dec hi) ?_
    refine yes_ret (beq_t _) ?_
    refine yes_ret zle_dec ?_
    refine yes_ret (lt_dec hi) ?_
    refine yes_ret (beq_t _) ?_
    refine yes_ret zle_dec ?_
    refine yes_ret (lt_dec hi) ?_
    refine yes_ret (beq_t _) ?_
    refine yes_ret zle_dec ?_
    refine yes_ret (lt_dec hi) ?_
    refine yes_ret (beq_t _) ?_
    refine yes_ret zle_dec ?_
    refine yes_ret (lt_dec hi) ?_
    refine yes_ret (beq_t _) ?_
    refine yes_ret zle_dec ?_
    refine yes_ret (lt_dec hi) ?_
    refine yes_ret (beq_t _) ?_
    refine yes_ret (beq_t _) ?_
    refine call_to ((e5 (c.getD i MFork.zero) k).1, ((e5 (c.getD i MFork.zero) k).2.map iRow)) (Z84.R_eq (a0 := ((((c.getD i MFork.zero).fA).fHead).fKeys).fList) (a1 := IntKind.i64.wrap ((IntKind.i64.wrap ((IntKind.i64.wrap ((IntKind.i64.wrap ((IntKind.i64.wrap ((IntKind.i64.wrap ((IntKind.i64.wrap ((IntKind.i64.wrap ((e4 (c.getD i MFork.zero) k).1 + 1)) + 1)) + 1)) + 1)) + 1)) + 1)) + 1)) + 1)) (wrap_I64 _)) ?_
    refine yes_ret zle_dec ?_
    refine yes_ret (lt_dec hi) ?_
    refine yes_ret (beq_t _) ?_
    refine yes_ret zle_dec ?_
    refine yes_ret (lt_dec hi) ?_
    refine yes_ret (beq_t _) ?_
    refine yes_ret (beq_t _) ?_
    refine call_to ((e6 (c.getD i MFork.zero) k).1, ((e6 (c.getD i MFork.zero) k).2.map iRow)) (Z84.R_eq (a0 := ((((c.getD i MFork.zero).fA).fHead).fHeirs).fList) (a1 := IntKind.i64.wrap ((e5 (c.getD i MFork.zero) k).1 + 1)) (wrap_I64 _)) ?_
    refine yes_ret zle_dec ?_
    refine yes_ret (lt_dec hi) ?_
    refine yes_ret (beq_t _) ?_
    refine yes_ret zle_dec ?_
    refine yes_ret (lt_dec hi) ?_
    refine yes_ret (beq_t _) ?_
    refine yes_ret zle_dec ?_
    refine yes_ret (lt_dec hi) ?_
    refine yes_ret (beq_t _) ?_
    refine yes_ret (beq_t _) ?_
    refine call_to ((e7 (c.getD i MFork.zero) k).1, ((e7 (c.getD i MFork.zero) k).2.map iRow)) (Z84.R_eq (a0 := ((((c.getD i MFork.zero).fA).fHead).fJudge).fList) (a1 := IntKind.i64.wrap ((IntKind.i64.wrap ((e6 (c.getD i MFork.zero) k).1 + 1)) + 1)) (wrap_I64 _)) ?_
    refine yes_ret zle_dec ?_
    refine yes_ret (lt_dec hi) ?_
    refine yes_ret (beq_t _) ?_
    refine yes_ret zle_dec ?_
    refine yes_ret (lt_dec hi) ?_
    refine yes_ret (beq_t _) ?_
    refine yes_ret zle_dec ?_
    refine yes_ret (lt_dec hi) ?_
    refine yes_ret (beq_t _) ?_
    refine yes_ret (beq_t _) ?_
    refine call_to ((e8 (c.getD i MFork.zero) k).1, ((e8 (c.getD i MFork.zero) k).2.map MSig.row)) (Z85.R_eq (a0 := ((c.getD i MFork.zero).fA).fSigs) (a1 := IntKind.i64.wrap ((IntKind.i64.wrap ((e7 (c.getD i MFork.zero) k).1 + 1)) + 1)) (wrap_I64 _)) ?_
    refine yes_ret zle_dec ?_
    refine yes_ret (lt_dec hi) ?_
    refine yes_ret (beq_t _) ?_
    refine yes_ret zle_dec ?_
    refine yes_ret (lt_dec hi) ?_
    refine yes_ret (beq_t _) ?_
    refine yes_ret zle_dec ?_
    refine yes_ret (lt_dec hi) ?_
    refine yes_ret (beq_t _) ?_
    refine yes_ret zle_dec ?_
    refine yes_ret (lt_dec hi) ?_
    refine yes_ret (beq_t _) ?_
    refine yes_ret zle_dec ?_
    refine yes_ret (lt_dec hi) ?_
    refine yes_ret (beq_t _) ?_
    refine yes_ret zle_dec ?_
    refine yes_ret (lt_dec hi) ?_
    refine yes_ret (beq_t _) ?_
    refine yes_ret zle_dec ?_
    refine yes_ret (lt_dec hi) ?_
    refine yes_ret (beq_t _) ?_
    refine yes_ret zle_dec ?_
    refine yes_ret (lt_dec hi) ?_
    refine yes_ret (beq_t _) ?_
    refine yes_ret zle_dec ?_
    refine yes_ret (lt_dec hi) ?_
    refine yes_ret (beq_t _) ?_
    refine yes_ret (beq_t _) ?_
    refine call_to ((e9 (c.getD i MFork.zero) k).1, ((e9 (c.getD i MFork.zero) k).2.map iRow)) (Z84.R_eq (a0 := ((((c.getD i MFork.zero).fB).fHead).fKeys).fList) (a1 := IntKind.i64.wrap ((IntKind.i64.wrap ((IntKind.i64.wrap ((IntKind.i64.wrap ((IntKind.i64.wrap ((IntKind.i64.wrap ((IntKind.i64.wrap ((IntKind.i64.wrap ((e8 (c.getD i MFork.zero) k).1 + 1)) + 1)) + 1)) + 1)) + 1)) + 1)) + 1)) + 1)) (wrap_I64 _)) ?_
    refine yes_ret zle_dec ?_
    refine yes_ret (lt_dec hi) ?_
    refine yes_ret (beq_t _) ?_
    refine yes_ret zle_dec ?_
    refine yes_ret (lt_dec hi) ?_
    refine yes_ret (beq_t _) ?_
    refine yes_ret (beq_t _) ?_
    refine call_to ((e10 (c.getD i MFork.zero) k).1, ((e10 (c.getD i MFork.zero) k).2.map iRow)) (Z84.R_eq (a0 := ((((c.getD i MFork.zero).fB).fHead).fHeirs).fList) (a1 := IntKind.i64.wrap ((e9 (c.getD i MFork.zero) k).1 + 1)) (wrap_I64 _)) ?_
    refine yes_ret zle_dec ?_
    refine yes_ret (lt_dec hi) ?_
    refine yes_ret (beq_t _) ?_
    refine yes_ret zle_dec ?_
    refine yes_ret (lt_dec hi) ?_
    refine yes_ret (beq_t _) ?_
    refine yes_ret zle_dec ?_
    refine yes_ret (lt_dec hi) ?_
    refine yes_ret (beq_t _) ?_
    refine yes_ret (beq_t _) ?_
    refine call_to ((e11 (c.getD i MFork.zero) k).1, ((e11 (c.getD i MFork.zero) k).2.map iRow)) (Z84.R_eq (a0 := ((((c.getD i MFork.zero).fB).fHead).fJudge).fList) (a1 := IntKind.i64.wrap ((IntKind.i64.wrap ((e10 (c.getD i MFork.zero) k).1 + 1)) + 1)) (wrap_I64 _)) ?_
    refine yes_ret zle_dec ?_
    refine yes_ret (lt_dec hi) ?_
    refine yes_ret (beq_t _) ?_
    refine yes_ret zle_dec ?_
    refine yes_ret (lt_dec hi) ?_
    refine yes_ret (beq_t _) ?_
    refine yes_ret zle_dec ?_
    refine yes_ret (lt_dec hi) ?_
    refine yes_ret (beq_t _) ?_
    refine yes_ret (beq_t _) ?_
    refine call_to ((e12 (c.getD i MFork.zero) k).1, ((e12 (c.getD i MFork.zero) k).2.map MSig.row)) (Z85.R_eq (a0 := ((c.getD i MFork.zero).fB).fSigs) (a1 := IntKind.i64.wrap ((IntKind.i64.wrap ((e11 (c.getD i MFork.zero) k).1 + 1)) + 1)) (wrap_I64 _)) ?_
    rw [wrap_succ hi hm]
    exact congrArg (fun q => J (Pt.p0 (el (c.getD i MFork.zero) k).1 ((i + 1 : Nat) : Int) q)) (List.map_set (f := MFork.row) (l := c) (i := i) (a := (el (c.getD i MFork.zero) k).2)).symm
  · simp only [step, S0, MKeys.rs, MHead.rs, MSigned.rs, MFork.rs]
    refine no_ret (by apply decide_eq_false; omega) ?_
    rfl
theorem valid_ : MValid Try.prog Ev 99 con := MV (run := fun n x => start (iter step n) x.1 x.2) mix tab_ok .nil (.cons Z84.valid_ (.cons Z85.valid_ .nil)) Try.func99 (by kernel_rfl) run_eq (fun ls a hl e hg => okF a.1 a.2 hg (by have h : (ls.headD .hole).toSl.length ≤ maxLen := (hl _ _ (.head _)).len; have e : a.1.map MFork.row = (ls.headD .hole).toSl := (congrArg (fun x => x.1) e.symm); rw [← e] at h; simpa using h))
theorem i64 {a0 : List MFork} {a1 : Int} (h : I64 a1) : I64 (md a0 a1).1 := accM_I el_I h
theorem elk (x : MFork) (k : Int) (h0 : 0 ≤ k) (hb : k + (cnt x : Int) ≤ 4611686018427387904) : (el x k).1 = k + cnt x := by
 simp only [cnt, Int.natCast_add] at hb ⊢
 simp (disch := omega) only [el, e1, e2, e3, e4, e5, e6, e7, e8, e9, e10, e11, e12, wi, Z84.kk, Z85.kk]
 all_goals first | done | omega
theorem kk (a0 : List MFork) (a1 : Int) (h0 : 0 ≤ a1) (hb : a1 + (sum a0 : Int) ≤ 4611686018427387904) : (md a0 a1).1 = a1 + sum a0 := accM_sum elk a0 a1 h0 hb
theorem sz (a : List MFork) : sum a ≤ 60 * (szL (fun y : MFork => MFork.size y) a) := sum_le (fun x => by
  have := Z84.sz ((((x.fBefore).fHead).fKeys).fList)
  have := Z84.sz ((((x.fBefore).fHead).fHeirs).fList)
  have := Z84.sz ((((x.fBefore).fHead).fJudge).fList)
  have := Z85.sz ((x.fBefore).fSigs)
  have := Z84.sz ((((x.fA).fHead).fKeys).fList)
  have := Z84.sz ((((x.fA).fHead).fHeirs).fList)
  have := Z84.sz ((((x.fA).fHead).fJudge).fList)
  have := Z85.sz ((x.fA).fSigs)
  have := Z84.sz ((((x.fB).fHead).fKeys).fList)
  have := Z84.sz ((((x.fB).fHead).fHeirs).fList)
  have := Z84.sz ((((x.fB).fHead).fJudge).fList)
  have := Z85.sz ((x.fB).fSigs)
  try simp only [cnt, MFork.size, MSigned.size, MHead.size, MKeys.size] at *
  omega) a
end Z88
namespace Z89
set_option maxHeartbeats 8000000
inductive Pt where
 | p0 (a : Int) (b : Int) (c : List (List L))
def pid : Pt → Nat
 | .p0 .. => 2
def pvs : Pt → List V
 | .p0 a b c => [.own 0, .int .i64 a, .int .i64 b]
def phs : Pt → List Root
 | .p0 a b c => [.row 124 c]
def step (J : Pt → Ans) : Pt → Ans
 | .p0 a b c => (bif (decide (b < (c.length : Int))) then (bif (decide ((0 : Int) ≤ b)) then (bif (decide (b < (c.length : Int))) then (call (Z87.R ((RTrace.at c (Int.toNat b)).fKnown.fChains, a)) fun v1 => (bif (decide ((0 : Int) ≤ b)) then (bif (decide (b < (c.length : Int))) then (bif (Nat.beq (Int.toNat b) (Int.toNat b) && true) then (bif (Nat.beq (Int.toNat b) (Int.toNat b) && true) then (call (Z88.R ((RTrace.at c (Int.toNat b)).fKnown.fForks, v1.1)) fun v2 => (bif (decide ((0 : Int) ≤ b)) then (bif (decide (b < (c.length : Int))) then (bif (Nat.beq (Int.toNat b) (Int.toNat b) && true) then (call (Z81.R (IntKind.i64.wrap (v2.1 + 1))) fun v3 => (bif (decide ((0 : Int) ≤ b)) then (bif (decide (b < (c.length : Int))) then (bif (Nat.beq (Int.toNat b) (Int.toNat b) && true) then (bif (decide ((0 : Int) ≤ b)) then (bif (decide (b < (c.length : Int))) then (bif (Nat.beq (Int.toNat b) (Int.toNat b) && true) then (bif (decide ((0 : Int) ≤ b)) then (bif (decide (b < (c.length : Int))) then (bif (Nat.beq (Int.toNat b) (Int.toNat b) && true) then (bif (decide ((0 : Int) ≤ b)) then (bif (decide (b < (c.length : Int))) then (bif (Nat.beq (Int.toNat b) (Int.toNat b) && true) then (bif (Nat.beq (Int.toNat b) (Int.toNat b) && true) then (call (Z82.R ((RTrace.at c (Int.toNat b)).fEntry.fPath, (IntKind.i64.wrap ((IntKind.i64.wrap ((IntKind.i64.wrap ((IntKind.i64.wrap (v2.1 + 1)) + 1)) + 1)) + 1)))) fun v4 => (bif (decide ((0 : Int) ≤ b)) then (bif (decide (b < (c.length : Int))) then (bif (Nat.beq (Int.toNat b) (Int.toNat b) && true) then (bif (Nat.beq (Int.toNat b) (Int.toNat b) && true) then (call (Z84.R ((RTrace.at c (Int.toNat b)).fZones, v4.1)) fun v5 => (bif (decide ((0 : Int) ≤ b)) then (bif (decide (b < (c.length : Int))) then (bif (Nat.beq (Int.toNat b) (Int.toNat b) && true) then J (.p0 (IntKind.i64.wrap (v5.1 + 1)) (IntKind.i64.wrap (b + 1)) (List.set c (Int.toNat b) (RTrace.enc (⟨(⟨v1.2, v2.2⟩ : RKnown), v2.1, (⟨v3, (IntKind.i64.wrap ((IntKind.i64.wrap (v2.1 + 1)) + 1)), (IntKind.i64.wrap ((IntKind.i64.wrap ((IntKind.i64.wrap (v2.1 + 1)) + 1)) + 1)), v4.2⟩ : REntry), v5.2, v5.1⟩ : RTrace)))) else none) else none) else none)) else none) else none) else none) else none)) else none) else none) else none) else none) else none) else none) else none) else none) else none) else none) else none) else none) else none)) else none) else none) else none)) else none) else none) else none) else none)) else none) else none) else ret ((a, c) : Int × List (List L)))
def start (J : Pt → Ans) (x0 : List (List L)) (x1 : Int) : Ans := J (.p0 x1 0 x0)
def live : Nat → Live := fun i => match i with | 2 => [(0, none), (1, none), (5, none)] | _ => []
def pats : List (Bool × List K) := [(false, [.sl 124]), (false, [.int .i64])]
def res : RP := .chg [124]
abbrev E : Env := { T := assoc Tab, G := conG [(75, Z81.con)], nt := 83, M := conM [(98, Z87.con), (99, Z88.con), (34, Z82.con), (100, Z84.con)], np := 1, mt := true }
theorem step_eq (I : Heads) (p : Pt) : enterC E live I (pid p) (bodyOf Try.f45) (stOf (live (pid p)) (pvs p) (phs p)) (doneK E Try.f45 res) = step (fun q => I (pid q) (pvs q) (phs q)) p := by
 cases p <;> kernel_rfl
theorem start_eq (I : Heads) (ls : List L) : runC E live I (bodyOf Try.f45) (initM pats ls) (doneK E Try.f45 res) = start (fun q => I (pid q) (pvs q) (phs q)) (ls.headD .hole).toSl ((dropT 1 ls).headD .hole).toInt := by kernel_rfl
theorem run_eq (n : Nat) (ls : List L) : runF E live Try.f45 res n (initM pats ls) = start (iter step n) (ls.headD .hole).toSl ((dropT 1 ls).headD .hole).toInt := runF_iter (id := pid) (vs := pvs) (hs := phs) (step := step) (start := fun J => start J (ls.headD .hole).toSl ((dropT 1 ls).headD .hole).toInt) step_eq (fun I => start_eq I ls) n
def e1 (x : MTrace) (k : Int) := Z87.md ((x.fKnown).fChains) k
def e2 (x : MTrace) (k : Int) := Z88.md ((x.fKnown).fForks) ((e1 x k).1)
def e3 (x : MTrace) (k : Int) := Z82.md ((x.fEntry).fPath) (IntKind.i64.wrap ((IntKind.i64.wrap ((IntKind.i64.wrap ((IntKind.i64.wrap ((e2 x k).1 + 1)) + 1)) + 1)) + 1))
def e4 (x : MTrace) (k : Int) := Z84.md x.fZones ((e3 x k).1)
def el (x : MTrace) (k : Int) : Int × MTrace := ((IntKind.i64.wrap ((e4 x k).1 + 1)), (⟨(⟨(e1 x k).2, (e2 x k).2⟩ : MKnown), (e2 x k).1, (⟨(Z81.md (IntKind.i64.wrap ((e2 x k).1 + 1))), (IntKind.i64.wrap ((IntKind.i64.wrap ((e2 x k).1 + 1)) + 1)), (IntKind.i64.wrap ((IntKind.i64.wrap ((IntKind.i64.wrap ((e2 x k).1 + 1)) + 1)) + 1)), (e3 x k).2⟩ : MEntry), (e4 x k).2, (e4 x k).1⟩ : MTrace))
theorem el_I (x : MTrace) (k : Int) (hk : I64 k) : I64 (el x k).1 := (wrap_I64 _)
def cnt (x : MTrace) : Nat := 5 + Z87.sum ((x.fKnown).fChains) + Z88.sum ((x.fKnown).fForks) + Z82.sum ((x.fEntry).fPath) + Z84.sum x.fZones
def sum (a : List MTrace) : Nat := (a.map cnt).sum
def md (a0 : List MTrace) (a1 : Int) : Int × List MTrace := accM el a0 a1
def gd (a0 : List MTrace) (a1 : Int) : Prop := I64 a1
def acc (ls : List L) : List (List L) × Int := ((ls.headD .hole).toSl, ((dropT 1 ls).headD .hole).toInt)
def R : (List (List L) × Int) → Option (Int × List (List L)) := RR (p2 gd) (u2 md)
theorem R_eq {a0} {a1} (h : gd a0 a1) : R ((a0.map MTrace.row), a1) = some ((md a0 a1).1, ((md a0 a1).2.map MTrace.row)) := RR_eq (a := (a0, a1)) h
def con : MCon := MN pats acc R
theorem okF (a0 : List MTrace) (a1 : Int) (hg : gd a0 a1) (h0 : a0.length ≤ maxLen) : ∃ n, start (iter step n) (a0.map MTrace.row) a1 = ret (((md a0 a1).1, ((md a0 a1).2.map MTrace.row)) : Int × List (List L)) := by
  unfold gd at hg
  show ∃ n, iter step n (Pt.p0 a1 0 (a0.map MTrace.row)) = _
  unfold md
  refine mark_loop (el := el) (xs := a0) MTrace.zero I64 el_I (pt := fun i k c => Pt.p0 k (i : Int) (c.map MTrace.row)) (out := fun b => ret (b.1, b.2.map MTrace.row)) (fun J i k c hi hc hk => ?_) (fun J k c hc => ?_) hg
  · have hm : c.length ≤ maxLen := hc ▸ h0
    simp only [step, S0, MKnown.rs, MEntry.rs, MTrace.rs]
    refine yes_ret (lt_dec hi) ?_
    refine yes_ret zle_dec ?_
    refine yes_ret (lt_dec hi) ?_
    refine call_to ((e1 (c.getD i MTrace.zero) k).1, ((e1 (c.getD i MTrace.zero) k).2.map (lRow MSigned.row))) (Z87.R_eq (a0 := ((c.getD i MTrace.zero).fKnown).fChains) (a1 := k) hk) ?_
    refine yes_ret zle_dec ?_
    refine yes_ret (lt_dec hi) ?_
    refine yes_ret (beq_t _) ?_
    refine yes_ret (beq_t _) ?_
    refine call_to ((e2 (c.getD i MTrace.zero) k).1, ((e2 (c.getD i MTrace.zero) k).2.map MFork.row)) (Z88.R_eq (a0 := ((c.getD i MTrace.zero).fKnown).fForks) (a1 := (e1 (c.getD i MTrace.zero) k).1) (Z87.i64 hk)) ?_
    refine yes_ret zle_dec ?_
    refine yes_ret (lt_dec hi) ?_
    refine yes_ret (beq_t _) ?_
    refine call_to (Z81.md (IntKind.i64.wrap ((e2 (c.getD i MTrace.zero) k).1 + 1))) (Z81.R_eq (a0 := IntKind.i64.wrap ((e2 (c.getD i MTrace.zero) k).1 + 1)) (wrap_I64 _)) ?_
    refine yes_ret zle_dec ?_
    refine yes_ret (lt_dec hi) ?_
    refine yes_ret (beq_t _) ?_
    refine yes_ret zle_dec ?_
    refine yes_ret (lt_dec hi) ?_
    refine yes_ret (beq_t _) ?_
    refine yes_ret zle_dec ?_
    refine yes_ret (lt_dec hi) ?_
    refine yes_ret (beq_t _) ?_
    refine yes_ret zle_dec ?_
    refine yes_ret (lt_dec hi) ?_
    refine yes_ret (beq_t _) ?_
    refine yes_ret (beq_t _) ?_
    refine call_to ((e3 (c.getD i MTrace.zero) k).1, ((e3 (c.getD i MTrace.zero) k).2.map sRow)) (Z82.R_eq (a0 := ((c.getD i MTrace.zero).fEntry).fPath) (a1 := IntKind.i64.wrap ((IntKind.i64.wrap ((IntKind.i64.wrap ((IntKind.i64.wrap ((e2 (c.getD i MTrace.zero) k).1 + 1)) + 1)) + 1)) + 1)) (wrap_I64 _)) ?_
    refine yes_ret zle_dec ?_
    refine yes_ret (lt_dec hi) ?_
    refine yes_ret (beq_t _) ?_
    refine yes_ret (beq_t _) ?_
    refine call_to ((e4 (c.getD i MTrace.zero) k).1, ((e4 (c.getD i MTrace.zero) k).2.map iRow)) (Z84.R_eq (a0 := (c.getD i MTrace.zero).fZones) (a1 := (e3 (c.getD i MTrace.zero) k).1) (Z82.i64 (wrap_I64 _))) ?_
    refine yes_ret zle_dec ?_
    refine yes_ret (lt_dec hi) ?_
    refine yes_ret (beq_t _) ?_
    rw [wrap_succ hi hm]
    exact congrArg (fun q => J (Pt.p0 (el (c.getD i MTrace.zero) k).1 ((i + 1 : Nat) : Int) q)) (List.map_set (f := MTrace.row) (l := c) (i := i) (a := (el (c.getD i MTrace.zero) k).2)).symm
  · simp only [step, S0, MKnown.rs, MEntry.rs, MTrace.rs]
    refine no_ret (by apply decide_eq_false; omega) ?_
    rfl
theorem valid_ : MValid Try.prog Ev 45 con := MV (run := fun n x => start (iter step n) x.1 x.2) mix tab_ok (.cons Z81.valid_ .nil) (.cons Z87.valid_ (.cons Z88.valid_ (.cons Z82.valid_ (.cons Z84.valid_ .nil)))) Try.func45 (by kernel_rfl) run_eq (fun ls a hl e hg => okF a.1 a.2 hg (by have h : (ls.headD .hole).toSl.length ≤ maxLen := (hl _ _ (.head _)).len; have e : a.1.map MTrace.row = (ls.headD .hole).toSl := (congrArg (fun x => x.1) e.symm); rw [← e] at h; simpa using h))
theorem i64 {a0 : List MTrace} {a1 : Int} (h : I64 a1) : I64 (md a0 a1).1 := accM_I el_I h
theorem elk (x : MTrace) (k : Int) (h0 : 0 ≤ k) (hb : k + (cnt x : Int) ≤ 4611686018427387904) : (el x k).1 = k + cnt x := by
 simp only [cnt, Int.natCast_add] at hb ⊢
 simp (disch := omega) only [el, e1, e2, e3, e4, wi, Z87.kk, Z88.kk, Z82.kk, Z84.kk]
 all_goals first | done | omega
theorem kk (a0 : List MTrace) (a1 : Int) (h0 : 0 ≤ a1) (hb : a1 + (sum a0 : Int) ≤ 4611686018427387904) : (md a0 a1).1 = a1 + sum a0 := accM_sum elk a0 a1 h0 hb
theorem sz (a : List MTrace) : sum a ≤ 60 * (szL (fun y : MTrace => MTrace.size y) a) := sum_le (fun x => by
  have := Z87.sz ((x.fKnown).fChains)
  have := Z88.sz ((x.fKnown).fForks)
  have := Z82.sz ((x.fEntry).fPath)
  have := Z84.sz x.fZones
  try simp only [cnt, MTrace.size, MKnown.size, MEntry.size] at *
  omega) a
end Z89
namespace Z90
set_option maxHeartbeats 8000000
def F (x0 : REntry) (x1 : Int) : Ans := (call (Z82.R (x0.fPath, x1)) fun v1 => ret ((v1.1, v1.2) : Int × List (List L)))
def pats : List (Bool × List K) := [(true, [.str, .int .i64, .int .i64, .sl 9]), (false, [.int .i64])]
def res : RP := .chg [9]
def e1 (x : MEntry) (k : Int) := Z82.md x.fPath k
def sum (x : MEntry) : Nat := 0 + Z82.sum x.fPath
def md (a0 : MEntry) (a1 : Int) : Int × List ByteArray := ((e1 a0 a1).1, (e1 a0 a1).2)
def gd (a0 : MEntry) (a1 : Int) : Prop := I64 a1
def acc (ls : List L) : REntry × Int := ((REntry.dec ls), ((dropT 4 ls).headD .hole).toInt)
def R : (REntry × Int) → Option (Int × List (List L)) := RR (p2 gd) (u2 md)
theorem R_eq {a0} {a1} (h : gd a0 a1) : R ((MEntry.r a0), a1) = some ((md a0 a1).1, ((md a0 a1).2.map sRow)) := RR_eq (a := (a0, a1)) h
def con : MCon := MN pats acc R
theorem okF (a0 : MEntry) (a1 : Int) (hg : gd a0 a1) : F (MEntry.r a0) a1 = ret (((md a0 a1).1, ((md a0 a1).2.map sRow)) : Int × List (List L)) := by
 unfold gd at hg
 simp only [F, S0, MEntry.rs]
 unfold md
 refine call_to ((e1 a0 a1).1, ((e1 a0 a1).2.map sRow)) (Z82.R_eq (a0 := a0.fPath) (a1 := a1) hg) ?_
 first | rfl | (simp only [S0, MEntry.rs]; rfl)
theorem valid_ : MValid Try.prog Ev 35 con := MV (live := fun _ => []) (nt := 10) (run := fun _ x => F x.1 x.2) mix tab_ok .nil (.cons Z82.valid_ .nil) Try.func35 (by kernel_rfl) (fun _ _ => by kernel_rfl) (fun _ a _ _ hg => ⟨0, okF a.1 a.2 hg⟩)
theorem i64 {a0 : MEntry} {a1 : Int} (hk : I64 a1) : I64 (md a0 a1).1 := (Z82.i64 hk)
theorem kk (x : MEntry) (k : Int) (h0 : 0 ≤ k) (hb : k + (sum x : Int) ≤ 4611686018427387904) : (md x k).1 = k + sum x := by
 simp only [sum, Int.natCast_add] at hb ⊢
 simp (disch := omega) only [md, e1, wi, Z82.kk]
 all_goals first | done | omega
theorem sz (x : MEntry) : sum x ≤ 60 * MEntry.size x := by
  have := Z82.sz x.fPath
  try simp only [sum, MEntry.size] at *
  omega
def upd (x : MEntry) (k : Int) : MEntry := (⟨x.fLabel, x.fKind, x.fValue, (md x k).2⟩ : MEntry)
end Z90
namespace Z91
set_option maxHeartbeats 8000000
inductive Pt where
 | p0 (a : Int) (b : Int) (c : List (List L))
def pid : Pt → Nat
 | .p0 .. => 2
def pvs : Pt → List V
 | .p0 a b c => [.own 0, .int .i64 a, .int .i64 b]
def phs : Pt → List Root
 | .p0 a b c => [.row 50 c]
def step (J : Pt → Ans) : Pt → Ans
 | .p0 a b c => (bif (decide (b < (c.length : Int))) then (call (Z81.R a) fun v1 => (bif (decide ((0 : Int) ≤ b)) then (bif (decide (b < (c.length : Int))) then (bif (decide ((0 : Int) ≤ b)) then (bif (decide (b < (c.length : Int))) then (bif (Nat.beq (Int.toNat b) (Int.toNat b) && true) then (bif (decide ((0 : Int) ≤ b)) then (bif (decide (b < (c.length : Int))) then (bif (Nat.beq (Int.toNat b) (Int.toNat b) && true) then (bif (decide ((0 : Int) ≤ b)) then (bif (decide (b < (c.length : Int))) then (bif (Nat.beq (Int.toNat b) (Int.toNat b) && true) then (bif (Nat.beq (Int.toNat b) (Int.toNat b) && true) then (call (Z82.R ((REntry.at c (Int.toNat b)).fPath, (IntKind.i64.wrap ((IntKind.i64.wrap ((IntKind.i64.wrap (a + 1)) + 1)) + 1)))) fun v2 => J (.p0 v2.1 (IntKind.i64.wrap (b + 1)) (List.set c (Int.toNat b) (REntry.enc (⟨v1, (IntKind.i64.wrap (a + 1)), (IntKind.i64.wrap ((IntKind.i64.wrap (a + 1)) + 1)), v2.2⟩ : REntry))))) else none) else none) else none) else none) else none) else none) else none) else none) else none) else none) else none) else none)) else ret ((a, c) : Int × List (List L)))
def start (J : Pt → Ans) (x0 : List (List L)) (x1 : Int) : Ans := J (.p0 x1 0 x0)
def live : Nat → Live := fun i => match i with | 2 => [(0, none), (1, none), (5, none)] | _ => []
def pats : List (Bool × List K) := [(false, [.sl 50]), (false, [.int .i64])]
def res : RP := .chg [50]
abbrev E : Env := { T := assoc Tab, G := conG [(75, Z81.con)], nt := 42, M := conM [(34, Z82.con)], np := 1, mt := true }
theorem step_eq (I : Heads) (p : Pt) : enterC E live I (pid p) (bodyOf Try.f51) (stOf (live (pid p)) (pvs p) (phs p)) (doneK E Try.f51 res) = step (fun q => I (pid q) (pvs q) (phs q)) p := by
 cases p <;> kernel_rfl
theorem start_eq (I : Heads) (ls : List L) : runC E live I (bodyOf Try.f51) (initM pats ls) (doneK E Try.f51 res) = start (fun q => I (pid q) (pvs q) (phs q)) (ls.headD .hole).toSl ((dropT 1 ls).headD .hole).toInt := by kernel_rfl
theorem run_eq (n : Nat) (ls : List L) : runF E live Try.f51 res n (initM pats ls) = start (iter step n) (ls.headD .hole).toSl ((dropT 1 ls).headD .hole).toInt := runF_iter (id := pid) (vs := pvs) (hs := phs) (step := step) (start := fun J => start J (ls.headD .hole).toSl ((dropT 1 ls).headD .hole).toInt) step_eq (fun I => start_eq I ls) n
def e1 (x : MEntry) (k : Int) := Z82.md x.fPath (IntKind.i64.wrap ((IntKind.i64.wrap ((IntKind.i64.wrap (k + 1)) + 1)) + 1))
def el (x : MEntry) (k : Int) : Int × MEntry := ((e1 x k).1, (⟨(Z81.md k), (IntKind.i64.wrap (k + 1)), (IntKind.i64.wrap ((IntKind.i64.wrap (k + 1)) + 1)), (e1 x k).2⟩ : MEntry))
theorem el_I (x : MEntry) (k : Int) (hk : I64 k) : I64 (el x k).1 := (Z82.i64 (wrap_I64 _))
def cnt (x : MEntry) : Nat := 3 + Z82.sum x.fPath
def sum (a : List MEntry) : Nat := (a.map cnt).sum
def md (a0 : List MEntry) (a1 : Int) : Int × List MEntry := accM el a0 a1
def gd (a0 : List MEntry) (a1 : Int) : Prop := I64 a1
def acc (ls : List L) : List (List L) × Int := ((ls.headD .hole).toSl, ((dropT 1 ls).headD .hole).toInt)
def R : (List (List L) × Int) → Option (Int × List (List L)) := RR (p2 gd) (u2 md)
theorem R_eq {a0} {a1} (h : gd a0 a1) : R ((a0.map MEntry.row), a1) = some ((md a0 a1).1, ((md a0 a1).2.map MEntry.row)) := RR_eq (a := (a0, a1)) h
def con : MCon := MN pats acc R
theorem okF (a0 : List MEntry) (a1 : Int) (hg : gd a0 a1) (h0 : a0.length ≤ maxLen) : ∃ n, start (iter step n) (a0.map MEntry.row) a1 = ret (((md a0 a1).1, ((md a0 a1).2.map MEntry.row)) : Int × List (List L)) := by
  unfold gd at hg
  show ∃ n, iter step n (Pt.p0 a1 0 (a0.map MEntry.row)) = _
  unfold md
  refine mark_loop (el := el) (xs := a0) MEntry.zero I64 el_I (pt := fun i k c => Pt.p0 k (i : Int) (c.map MEntry.row)) (out := fun b => ret (b.1, b.2.map MEntry.row)) (fun J i k c hi hc hk => ?_) (fun J k c hc => ?_) hg
  · have hm : c.length ≤ maxLen := hc ▸ h0
    simp only [step, S0, MEntry.rs]
    refine yes_ret (lt_dec hi) ?_
    refine call_to (Z81.md k) (Z81.R_eq (a0 := k) hk) ?_
    refine yes_ret zle_dec ?_
    refine yes_ret (lt_dec hi) ?_
    refine yes_ret zle_dec ?_
    refine yes_ret (lt_dec hi) ?_
    refine yes_ret (beq_t _) ?_
    refine yes_ret zle_dec ?_
    refine yes_ret (lt_dec hi) ?_
    refine yes_ret (beq_t _) ?_
    refine yes_ret zle_dec ?_
    refine yes_ret (lt_dec hi) ?_
    refine yes_ret (beq_t _) ?_
    refine yes_ret (beq_t _) ?_
    refine call_to ((e1 (c.getD i MEntry.zero) k).1, ((e1 (c.getD i MEntry.zero) k).2.map sRow)) (Z82.R_eq (a0 := (c.getD i MEntry.zero).fPath) (a1 := IntKind.i64.wrap ((IntKind.i64.wrap ((IntKind.i64.wrap (k + 1)) + 1)) + 1)) (wrap_I64 _)) ?_
    rw [wrap_succ hi hm]
    exact congrArg (fun q => J (Pt.p0 (el (c.getD i MEntry.zero) k).1 ((i + 1 : Nat) : Int) q)) (List.map_set (f := MEntry.row) (l := c) (i := i) (a := (el (c.getD i MEntry.zero) k).2)).symm
  · simp only [step, S0, MEntry.rs]
    refine no_ret (by apply decide_eq_false; omega) ?_
    rfl
theorem valid_ : MValid Try.prog Ev 51 con := MV (run := fun n x => start (iter step n) x.1 x.2) mix tab_ok (.cons Z81.valid_ .nil) (.cons Z82.valid_ .nil) Try.func51 (by kernel_rfl) run_eq (fun ls a hl e hg => okF a.1 a.2 hg (by have h : (ls.headD .hole).toSl.length ≤ maxLen := (hl _ _ (.head _)).len; have e : a.1.map MEntry.row = (ls.headD .hole).toSl := (congrArg (fun x => x.1) e.symm); rw [← e] at h; simpa using h))
theorem i64 {a0 : List MEntry} {a1 : Int} (h : I64 a1) : I64 (md a0 a1).1 := accM_I el_I h
theorem elk (x : MEntry) (k : Int) (h0 : 0 ≤ k) (hb : k + (cnt x : Int) ≤ 4611686018427387904) : (el x k).1 = k + cnt x := by
 simp only [cnt, Int.natCast_add] at hb ⊢
 simp (disch := omega) only [el, e1, wi, Z82.kk]
 all_goals first | done | omega
theorem kk (a0 : List MEntry) (a1 : Int) (h0 : 0 ≤ a1) (hb : a1 + (sum a0 : Int) ≤ 4611686018427387904) : (md a0 a1).1 = a1 + sum a0 := accM_sum elk a0 a1 h0 hb
theorem sz (a : List MEntry) : sum a ≤ 60 * (szL (fun y : MEntry => MEntry.size y) a) := sum_le (fun x => by
  have := Z82.sz x.fPath
  try simp only [cnt, MEntry.size] at *
  omega) a
end Z91
namespace Z92
set_option maxHeartbeats 8000000
def F (x0 : RDecision) (x1 : Int) : Ans := (call (Z90.R (x0.fEntry, x1)) fun v1 => (call (Z91.R (x0.fOthers, v1.1)) fun v2 => ret ((v2.1, v1.2, v2.2) : Int × List (List L) × List (List L))))
def pats : List (Bool × List K) := [(true, [.int .i64, .str, .int .i64, .int .i64, .sl 9, .sl 50]), (false, [.int .i64])]
def res : RP := .chg [9, 50]
def e1 (x : MDecision) (k : Int) := Z90.md x.fEntry k
def e2 (x : MDecision) (k : Int) := Z91.md x.fOthers ((e1 x k).1)
def sum (x : MDecision) : Nat := 0 + Z90.sum x.fEntry + Z91.sum x.fOthers
def md (a0 : MDecision) (a1 : Int) : Int × List ByteArray × List MEntry := ((e2 a0 a1).1, (e1 a0 a1).2, (e2 a0 a1).2)
def gd (a0 : MDecision) (a1 : Int) : Prop := I64 a1
def acc (ls : List L) : RDecision × Int := ((RDecision.dec ls), ((dropT 6 ls).headD .hole).toInt)
def R : (RDecision × Int) → Option (Int × List (List L) × List (List L)) := RR (p2 gd) (u2 md)
theorem R_eq {a0} {a1} (h : gd a0 a1) : R ((MDecision.r a0), a1) = some ((md a0 a1).1, ((md a0 a1).2.1.map sRow), ((md a0 a1).2.2.map MEntry.row)) := RR_eq (a := (a0, a1)) h
def con : MCon := MN pats acc R
theorem okF (a0 : MDecision) (a1 : Int) (hg : gd a0 a1) : F (MDecision.r a0) a1 = ret (((md a0 a1).1, ((md a0 a1).2.1.map sRow), ((md a0 a1).2.2.map MEntry.row)) : Int × List (List L) × List (List L)) := by
 unfold gd at hg
 simp only [F, S0, MDecision.rs]
 unfold md
 refine call_to ((e1 a0 a1).1, ((e1 a0 a1).2.map sRow)) (Z90.R_eq (a0 := a0.fEntry) (a1 := a1) hg) ?_
 refine call_to ((e2 a0 a1).1, ((e2 a0 a1).2.map MEntry.row)) (Z91.R_eq (a0 := a0.fOthers) (a1 := (e1 a0 a1).1) (Z90.i64 hg)) ?_
 first | rfl | (simp only [S0, MDecision.rs]; rfl)
theorem valid_ : MValid Try.prog Ev 56 con := MV (live := fun _ => []) (nt := 14) (run := fun _ x => F x.1 x.2) mix tab_ok .nil (.cons Z90.valid_ (.cons Z91.valid_ .nil)) Try.func56 (by kernel_rfl) (fun _ _ => by kernel_rfl) (fun _ a _ _ hg => ⟨0, okF a.1 a.2 hg⟩)
theorem i64 {a0 : MDecision} {a1 : Int} (hk : I64 a1) : I64 (md a0 a1).1 := (Z91.i64 (Z90.i64 hk))
theorem kk (x : MDecision) (k : Int) (h0 : 0 ≤ k) (hb : k + (sum x : Int) ≤ 4611686018427387904) : (md x k).1 = k + sum x := by
 simp only [sum, Int.natCast_add] at hb ⊢
 simp (disch := omega) only [md, e1, e2, wi, Z90.kk, Z91.kk]
 all_goals first | done | omega
theorem sz (x : MDecision) : sum x ≤ 60 * MDecision.size x := by
  have := Z90.sz x.fEntry
  have := Z91.sz x.fOthers
  try simp only [sum, MDecision.size, MEntry.size] at *
  omega
def upd (x : MDecision) (k : Int) : MDecision := (⟨x.fCode, (⟨x.fEntry.fLabel, x.fEntry.fKind, x.fEntry.fValue, (md x k).2.1⟩ : MEntry), (md x k).2.2⟩ : MDecision)
end Z92
namespace Z93
set_option maxHeartbeats 8000000
inductive Pt where
 | p0 (a : List (List L)) (b : Int) (c : Int)
def pid : Pt → Nat
 | .p0 .. => 2
def pvs : Pt → List V
 | .p0 a b c => [.sl none 9 a, .int .i64 b, .int .i64 c]
def phs : Pt → List Root
 | .p0 a b c => []
def step (J : Pt → Ans) : Pt → Ans
 | .p0 a b c => (bif (decide (c < (a.length : Int))) then (bif (decide ((0 : Int) ≤ c)) then (bif (decide (c < (a.length : Int))) then (call (Z81.R b) fun v1 => (bif (!((sAt a (Int.toNat c)) == v1)) then ret ((-1) : Int) else J (.p0 a (IntKind.i64.wrap (b + 1)) (IntKind.i64.wrap (c + 1))))) else none) else none) else ret (b : Int))
def start (J : Pt → Ans) (x0 : List (List L)) (x1 : Int) : Ans := J (.p0 x0 x1 0)
def live : Nat → Live := fun i => match i with | 2 => [(0, none), (1, none), (5, none)] | _ => []
def pats : List Pat := [.rd (.sl 9), .rd (.int .i64)]
def res : RP := .one (.rd (.int .i64))
abbrev E : Env := { T := assoc Tab, G := conG [(75, Z81.con)], nt := 22 }
theorem step_eq (I : Heads) (p : Pt) : enterC E live I (pid p) (bodyOf Try.f89) (stOf (live (pid p)) (pvs p) (phs p)) (doneK E Try.f89 res) = step (fun q => I (pid q) (pvs q) (phs q)) p := by
 cases p <;> kernel_rfl
theorem start_eq (I : Heads) (ls : List L) : runC E live I (bodyOf Try.f89) (initS pats ls) (doneK E Try.f89 res) = start (fun q => I (pid q) (pvs q) (phs q)) (ls.headD .hole).toSl ((dropT 1 ls).headD .hole).toInt := by kernel_rfl
theorem run_eq (n : Nat) (ls : List L) : runF E live Try.f89 res n (initS pats ls) = start (iter step n) (ls.headD .hole).toSl ((dropT 1 ls).headD .hole).toInt := runF_iter (id := pid) (vs := pvs) (hs := phs) (step := step) (start := fun J => start J (ls.headD .hole).toSl ((dropT 1 ls).headD .hole).toInt) step_eq (fun I => start_eq I ls) n
def f (x : ByteArray) (k : Int) : Option Int := (bif (!(x == (Z81.md k))) then none else (some (IntKind.i64.wrap (k + 1))))
theorem f_I (x : ByteArray) (k k2 : Int) (hk : I64 k) (h : f x k = some k2) : I64 k2 := by
 unfold f at h
 have h := bif_some h
 injection h with h
 subst h
 exact (wrap_I64 _)
def md (a0 : List ByteArray) (a1 : Int) : Int := heldM f a0 a1
def gd (a0 : List ByteArray) (a1 : Int) : Prop := I64 a1
def acc (ls : List L) : List (List L) × Int := ((ls.headD .hole).toSl, ((dropT 1 ls).headD .hole).toInt)
def R : (List (List L) × Int) → Option Int := RR (p2 gd) (u2 md)
theorem R_eq {a0} {a1} (h : gd a0 a1) : R ((a0.map sRow), a1) = some (md a0 a1) := RR_eq (a := (a0, a1)) h
def con : Con := CN pats res acc R
theorem okF (a0 : List ByteArray) (a1 : Int) (hg : gd a0 a1) (h0 : a0.length ≤ maxLen) : ∃ n, start (iter step n) (a0.map sRow) a1 = ret ((md a0 a1) : Int) := by
  unfold gd at hg
  show ∃ n, iter step n (Pt.p0 (a0.map sRow) a1 0) = _
  unfold md
  refine held_loop (f := f) (xs := a0) ⟨#[]⟩ I64 f_I (pt := fun i k => Pt.p0 (a0.map sRow) k (i : Int)) (fun J i k hi hk => ?_) (fun J k => ?_) hg
  · simp only [step, S0]
    refine yes_ret (lt_dec hi) ?_
    refine yes_ret zle_dec ?_
    refine yes_ret (lt_dec hi) ?_
    refine call_to (Z81.md k) (Z81.R_eq (a0 := k) hk) ?_
    refine held_bif rfl ?_
    rw [wrap_succ hi h0]
    rfl
  · simp only [step, S0]
    refine no_ret (by apply decide_eq_false; omega) ?_
    rfl
theorem valid_ : Valid Try.prog Ev 89 con := VV (run := fun n x => start (iter step n) x.1 x.2) mix tab_ok (.cons Z81.valid_ .nil) Try.func89 (by kernel_rfl) run_eq (fun ls a hl e hg => okF a.1 a.2 hg (by have h : (ls.headD .hole).toSl.length ≤ maxLen := hl.1.len; have e : a.1.map sRow = (ls.headD .hole).toSl := (congrArg (fun x => x.1) e.symm); rw [← e] at h; simpa using h))
theorem i64 {a0 : List ByteArray} {a1 : Int} (h : I64 a1) : I64 (md a0 a1) := heldM_I f_I I64_neg h
theorem elh (x : ByteArray) (k : Int) (h0 : 0 ≤ k) (hb : k + (Z82.cnt x : Int) ≤ 4611686018427387904) : f (Z82.el x k).2 k = some (k + Z82.cnt x) := by
 simp only [Z82.cnt, Int.natCast_add] at hb ⊢
 simp (disch := omega) only [Z82.el, f, wi, bne_self_eq_false, beq_self_eq_true, ba_refl, Bool.not_true, cond_false, dec_neg]
 all_goals first | done | omega | (congr 1 <;> omega)
theorem mk (a0 : List ByteArray) (a1 : Int) (h0 : 0 ≤ a1) (hb : a1 + (Z82.sum a0 : Int) ≤ 4611686018427387904) : md (Z82.md a0 a1).2 a1 = a1 + Z82.sum a0 := held_mark Z82.elk elh a0 a1 h0 hb
end Z93
namespace Z94
set_option maxHeartbeats 8000000
def F (x0 : REntry) (x1 : Int) : Ans := (call (Z93.R (x0.fPath, x1)) fun v1 => (bif (decide (v1 < 0)) then ret ((-1) : Int) else ret (v1 : Int)))
def pats : List Pat := [.agg [.str, .int .i64, .int .i64, .sl 9], .rd (.int .i64)]
def res : RP := .one (.rd (.int .i64))
def e1 (x : MEntry) (k : Int) := Z93.md x.fPath k
def f (x : MEntry) (k : Int) : Option Int := (bif (decide ((e1 x k) < 0)) then none else (some ((e1 x k) : Int)))
def md (a0 : MEntry) (a1 : Int) : Int := heldO (f a0 a1)
def gd (a0 : MEntry) (a1 : Int) : Prop := I64 a1
def acc (ls : List L) : REntry × Int := ((REntry.dec ls), ((dropT 4 ls).headD .hole).toInt)
def R : (REntry × Int) → Option Int := RR (p2 gd) (u2 md)
theorem R_eq {a0} {a1} (h : gd a0 a1) : R ((MEntry.r a0), a1) = some (md a0 a1) := RR_eq (a := (a0, a1)) h
def con : Con := CN pats res acc R
theorem okF (a0 : MEntry) (a1 : Int) (hg : gd a0 a1) : F (MEntry.r a0) a1 = ret ((md a0 a1) : Int) := by
 unfold gd at hg
 simp only [F, S0, MEntry.rs]
 unfold md
 refine call_to (e1 a0 a1) (Z93.R_eq (a0 := a0.fPath) (a1 := a1) hg) ?_
 refine held_bif_ret rfl ?_
 first | rfl | (simp only [S0, MEntry.rs]; rfl)
theorem valid_ : Valid Try.prog Ev 108 con := VV (live := fun _ => []) (nt := 12) (run := fun _ x => F x.1 x.2) mix tab_ok (.cons Z93.valid_ .nil) Try.func108 (by kernel_rfl) (fun _ _ => by kernel_rfl) (fun _ a _ _ hg => ⟨0, okF a.1 a.2 hg⟩)
theorem i64 {a0 : MEntry} {a1 : Int} (hk : I64 a1) : I64 (md a0 a1) := by
 unfold md
 cases h : f a0 a1 with
 | none => exact I64_neg
 | some k2 =>
  unfold f at h
  have h := bif_some h
  injection h with h
  subst h
  exact (Z93.i64 hk)
theorem mk (x : MEntry) (k : Int) (h0 : 0 ≤ k) (hb : k + (Z90.sum x : Int) ≤ 4611686018427387904) : md (Z90.upd x k) k = k + Z90.sum x := by
 simp only [Z90.sum, Int.natCast_add] at hb ⊢
 simp (disch := omega) only [Z90.md, Z90.upd, md, f, heldO, Z90.e1, e1, wi, Z82.kk, Z93.mk, cond_false, dec_neg]
 all_goals first | done | omega
end Z94
namespace Z95
set_option maxHeartbeats 8000000
inductive Pt where
 | p0 (a : List (List L)) (b : Int) (c : Int)
def pid : Pt → Nat
 | .p0 .. => 2
def pvs : Pt → List V
 | .p0 a b c => [.sl none 50 a, .int .i64 b, .int .i64 c]
def phs : Pt → List Root
 | .p0 a b c => []
def step (J : Pt → Ans) : Pt → Ans
 | .p0 a b c => (bif (decide (c < (a.length : Int))) then (bif (decide ((0 : Int) ≤ c)) then (bif (decide (c < (a.length : Int))) then (call (Z81.R b) fun v1 => (bif (!((REntry.at a (Int.toNat c)).fLabel == v1)) then ret ((-1) : Int) else (bif (decide ((0 : Int) ≤ c)) then (bif (decide (c < (a.length : Int))) then (bif ((REntry.at a (Int.toNat c)).fKind != (IntKind.i64.wrap (b + 1))) then ret ((-1) : Int) else (bif (decide ((0 : Int) ≤ c)) then (bif (decide (c < (a.length : Int))) then (bif ((REntry.at a (Int.toNat c)).fValue != (IntKind.i64.wrap ((IntKind.i64.wrap (b + 1)) + 1))) then ret ((-1) : Int) else (bif (decide ((0 : Int) ≤ c)) then (bif (decide (c < (a.length : Int))) then (call (Z93.R ((REntry.at a (Int.toNat c)).fPath, (IntKind.i64.wrap ((IntKind.i64.wrap ((IntKind.i64.wrap (b + 1)) + 1)) + 1)))) fun v2 => (bif (decide (v2 < 0)) then ret ((-1) : Int) else J (.p0 a v2 (IntKind.i64.wrap (c + 1))))) else none) else none)) else none) else none)) else none) else none))) else none) else none) else ret (b : Int))
def start (J : Pt → Ans) (x0 : List (List L)) (x1 : Int) : Ans := J (.p0 x0 x1 0)
def live : Nat → Live := fun i => match i with | 2 => [(0, none), (1, none), (5, none)] | _ => []
def pats : List Pat := [.rd (.sl 50), .rd (.int .i64)]
def res : RP := .one (.rd (.int .i64))
abbrev E : Env := { T := assoc Tab, G := conG [(75, Z81.con), (89, Z93.con)], nt := 50 }
theorem step_eq (I : Heads) (p : Pt) : enterC E live I (pid p) (bodyOf Try.f52) (stOf (live (pid p)) (pvs p) (phs p)) (doneK E Try.f52 res) = step (fun q => I (pid q) (pvs q) (phs q)) p := by
 cases p <;> kernel_rfl
theorem start_eq (I : Heads) (ls : List L) : runC E live I (bodyOf Try.f52) (initS pats ls) (doneK E Try.f52 res) = start (fun q => I (pid q) (pvs q) (phs q)) (ls.headD .hole).toSl ((dropT 1 ls).headD .hole).toInt := by kernel_rfl
theorem run_eq (n : Nat) (ls : List L) : runF E live Try.f52 res n (initS pats ls) = start (iter step n) (ls.headD .hole).toSl ((dropT 1 ls).headD .hole).toInt := runF_iter (id := pid) (vs := pvs) (hs := phs) (step := step) (start := fun J => start J (ls.headD .hole).toSl ((dropT 1 ls).headD .hole).toInt) step_eq (fun I => start_eq I ls) n
def e1 (x : MEntry) (k : Int) := Z93.md x.fPath (IntKind.i64.wrap ((IntKind.i64.wrap ((IntKind.i64.wrap (k + 1)) + 1)) + 1))
def f (x : MEntry) (k : Int) : Option Int := (bif (!(x.fLabel == (Z81.md k))) then none else (bif (x.fKind != (IntKind.i64.wrap (k + 1))) then none else (bif (x.fValue != (IntKind.i64.wrap ((IntKind.i64.wrap (k + 1)) + 1))) then none else (bif (decide ((e1 x k) < 0)) then none else (some (e1 x k))))))
theorem f_I (x : MEntry) (k k2 : Int) (hk : I64 k) (h : f x k = some k2) : I64 k2 := by
 unfold f at h
 have h := bif_some h
 have h := bif_some h
 have h := bif_some h
 have h := bif_some h
 injection h with h
 subst h
 exact (Z93.i64 (wrap_I64 _))
def md (a0 : List MEntry) (a1 : Int) : Int := heldM f a0 a1
def gd (a0 : List MEntry) (a1 : Int) : Prop := I64 a1
def acc (ls : List L) : List (List L) × Int := ((ls.headD .hole).toSl, ((dropT 1 ls).headD .hole).toInt)
def R : (List (List L) × Int) → Option Int := RR (p2 gd) (u2 md)
theorem R_eq {a0} {a1} (h : gd a0 a1) : R ((a0.map MEntry.row), a1) = some (md a0 a1) := RR_eq (a := (a0, a1)) h
def con : Con := CN pats res acc R
theorem okF (a0 : List MEntry) (a1 : Int) (hg : gd a0 a1) (h0 : a0.length ≤ maxLen) : ∃ n, start (iter step n) (a0.map MEntry.row) a1 = ret ((md a0 a1) : Int) := by
  unfold gd at hg
  show ∃ n, iter step n (Pt.p0 (a0.map MEntry.row) a1 0) = _
  unfold md
  refine held_loop (f := f) (xs := a0) MEntry.zero I64 f_I (pt := fun i k => Pt.p0 (a0.map MEntry.row) k (i : Int)) (fun J i k hi hk => ?_) (fun J k => ?_) hg
  · simp only [step, S0, MEntry.rs]
    refine yes_ret (lt_dec hi) ?_
    refine yes_ret zle_dec ?_
    refine yes_ret (lt_dec hi) ?_
    refine call_to (Z81.md k) (Z81.R_eq (a0 := k) hk) ?_
    refine held_bif rfl ?_
    refine yes_ret zle_dec ?_
    refine yes_ret (lt_dec hi) ?_
    refine held_bif rfl ?_
    refine yes_ret zle_dec ?_
    refine yes_ret (lt_dec hi) ?_
    refine held_bif rfl ?_
    refine yes_ret zle_dec ?_
    refine yes_ret (lt_dec hi) ?_
    refine call_to (e1 (a0.getD i MEntry.zero) k) (Z93.R_eq (a0 := (a0.getD i MEntry.zero).fPath) (a1 := IntKind.i64.wrap ((IntKind.i64.wrap ((IntKind.i64.wrap (k + 1)) + 1)) + 1)) (wrap_I64 _)) ?_
    refine held_bif rfl ?_
    rw [wrap_succ hi h0]
    rfl
  · simp only [step, S0, MEntry.rs]
    refine no_ret (by apply decide_eq_false; omega) ?_
    rfl
theorem valid_ : Valid Try.prog Ev 52 con := VV (run := fun n x => start (iter step n) x.1 x.2) mix tab_ok (.cons Z81.valid_ (.cons Z93.valid_ .nil)) Try.func52 (by kernel_rfl) run_eq (fun ls a hl e hg => okF a.1 a.2 hg (by have h : (ls.headD .hole).toSl.length ≤ maxLen := hl.1.len; have e : a.1.map MEntry.row = (ls.headD .hole).toSl := (congrArg (fun x => x.1) e.symm); rw [← e] at h; simpa using h))
theorem i64 {a0 : List MEntry} {a1 : Int} (h : I64 a1) : I64 (md a0 a1) := heldM_I f_I I64_neg h
theorem elh (x : MEntry) (k : Int) (h0 : 0 ≤ k) (hb : k + (Z91.cnt x : Int) ≤ 4611686018427387904) : f (Z91.el x k).2 k = some (k + Z91.cnt x) := by
 simp only [Z91.cnt, Int.natCast_add] at hb ⊢
 simp (disch := omega) only [Z91.el, f, Z91.e1, e1, wi, Z82.kk, Z93.mk, bne_self_eq_false, beq_self_eq_true, ba_refl, Bool.not_true, cond_false, dec_neg]
 all_goals first | done | omega | (congr 1 <;> omega)
theorem mk (a0 : List MEntry) (a1 : Int) (h0 : 0 ≤ a1) (hb : a1 + (Z91.sum a0 : Int) ≤ 4611686018427387904) : md (Z91.md a0 a1).2 a1 = a1 + Z91.sum a0 := held_mark Z91.elk elh a0 a1 h0 hb
end Z95
namespace Z96
set_option maxHeartbeats 8000000
def F (x0 : RDecision) (x1 : Int) : Ans := (call (Z94.R (x0.fEntry, x1)) fun v1 => (bif (decide (v1 < 0)) then ret ((-1) : Int) else (call (Z95.R (x0.fOthers, v1)) fun v2 => (bif (decide (v2 < 0)) then ret ((-1) : Int) else ret (v2 : Int)))))
def pats : List Pat := [.agg [.int .i64, .str, .int .i64, .int .i64, .sl 9, .sl 50], .rd (.int .i64)]
def res : RP := .one (.rd (.int .i64))
def e1 (x : MDecision) (k : Int) := Z94.md x.fEntry k
def e2 (x : MDecision) (k : Int) := Z95.md x.fOthers (e1 x k)
def f (x : MDecision) (k : Int) : Option Int := (bif (decide ((e1 x k) < 0)) then none else (bif (decide ((e2 x k) < 0)) then none else (some ((e2 x k) : Int))))
def md (a0 : MDecision) (a1 : Int) : Int := heldO (f a0 a1)
def gd (a0 : MDecision) (a1 : Int) : Prop := I64 a1
def acc (ls : List L) : RDecision × Int := ((RDecision.dec ls), ((dropT 6 ls).headD .hole).toInt)
def R : (RDecision × Int) → Option Int := RR (p2 gd) (u2 md)
theorem R_eq {a0} {a1} (h : gd a0 a1) : R ((MDecision.r a0), a1) = some (md a0 a1) := RR_eq (a := (a0, a1)) h
def con : Con := CN pats res acc R
theorem okF (a0 : MDecision) (a1 : Int) (hg : gd a0 a1) : F (MDecision.r a0) a1 = ret ((md a0 a1) : Int) := by
 unfold gd at hg
 simp only [F, S0, MDecision.rs]
 unfold md
 refine call_to (e1 a0 a1) (Z94.R_eq (a0 := a0.fEntry) (a1 := a1) hg) ?_
 refine held_bif_ret rfl ?_
 refine call_to (e2 a0 a1) (Z95.R_eq (a0 := a0.fOthers) (a1 := e1 a0 a1) (Z94.i64 hg)) ?_
 refine held_bif_ret rfl ?_
 first | rfl | (simp only [S0, MDecision.rs]; rfl)
theorem valid_ : Valid Try.prog Ev 57 con := VV (live := fun _ => []) (nt := 18) (run := fun _ x => F x.1 x.2) mix tab_ok (.cons Z94.valid_ (.cons Z95.valid_ .nil)) Try.func57 (by kernel_rfl) (fun _ _ => by kernel_rfl) (fun _ a _ _ hg => ⟨0, okF a.1 a.2 hg⟩)
theorem i64 {a0 : MDecision} {a1 : Int} (hk : I64 a1) : I64 (md a0 a1) := by
 unfold md
 cases h : f a0 a1 with
 | none => exact I64_neg
 | some k2 =>
  unfold f at h
  have h := bif_some h
  have h := bif_some h
  injection h with h
  subst h
  exact (Z95.i64 (Z94.i64 hk))
theorem mk (x : MDecision) (k : Int) (h0 : 0 ≤ k) (hb : k + (Z92.sum x : Int) ≤ 4611686018427387904) : md (Z92.upd x k) k = k + Z92.sum x := by
 simp only [Z92.sum, Int.natCast_add] at hb ⊢
 have heldEntry_ := @Z94.mk
 simp only [Z90.upd] at heldEntry_
 simp (disch := omega) only [Z92.md, Z92.upd, md, f, heldO, Z92.e1, Z92.e2, e1, e2, wi, Z90.kk, heldEntry_, Z91.kk, Z95.mk, cond_false, dec_neg]
 all_goals first | done | omega
end Z96
namespace Z97
def F (x0 : List (List L)) (x1 : List (List L)) (x2 : List (List L)) : Ans := (call (Z3.R (x0, 1048576)) fun v1 => (bif (decide (v1 < 0)) then ret (true : Bool) else (call (Z15.R (x1, v1)) fun v2 => (bif (decide (v2 < 0)) then ret (true : Bool) else (call (Z0.R (x2, v2)) fun v3 => (bif (decide (v3 < 0)) then ret (true : Bool) else (call (Z19.R x0) fun v4 => (call (Z32.R x1) fun v5 => (call (Z16.R x2) fun v6 => (call (Z44.R (v4, v5, v6)) fun v7 => (call (Z19.R x0) fun v8 => (call (Z32.R x1) fun v9 => (call (Z16.R x2) fun v10 => (call (Z61.R (v8, v9, v10)) fun v11 => (call (Z65.R (v11, v7)) fun v12 => (bif (!v12) then ret (false : Bool) else (call (Z19.R x0) fun v13 => (call (Z67.R (v8, v13)) fun v14 => (bif (!v14) then ret (false : Bool) else (call (Z32.R x1) fun v15 => (call (Z80.R (v9, v15)) fun v16 => (bif (!v16) then ret (false : Bool) else (call (Z16.R x2) fun v17 => (call (Z62.R (v10, v17)) fun v18 => (bif (!v18) then ret (false : Bool) else (call (Z83.R (v8, 1)) fun v19 => (call (Z89.R (v9, v19.1)) fun v20 => (call (Z82.R (v10, v20.1)) fun v21 => (bif (decide (v21.1 < 0)) then ret (false : Bool) else (call (Z65.R (v11, v7)) fun v22 => (bif (!v22) then ret (false : Bool) else (call (Z92.R (v11, 1)) fun v23 => (call (Z96.R ((⟨v11.fCode, (⟨v11.fEntry.fLabel, v11.fEntry.fKind, v11.fEntry.fValue, v23.2.1⟩ : REntry), v23.2.2⟩ : RDecision), 1)) fun v24 => (bif (decide (v24 < 0)) then ret (false : Bool) else (bif (v24 != v23.1) then ret (false : Bool) else (call (Z19.R x0) fun v25 => (call (Z32.R x1) fun v26 => (call (Z16.R x2) fun v27 => (call (Z61.R (v25, v26, v27)) fun v28 => (call (Z65.R (v28, v7)) fun v29 => (bif (!v29) then ret (false : Bool) else (call (Z96.R ((⟨v11.fCode, (⟨v11.fEntry.fLabel, v11.fEntry.fKind, v11.fEntry.fValue, v23.2.1⟩ : REntry), v23.2.2⟩ : RDecision), 1)) fun v30 => (bif (decide (v30 < 0)) then ret (false : Bool) else (bif (v30 != v23.1) then ret (false : Bool) else ret (true : Bool)))))))))))))))))))))))))))))))))))))))))))))
def pats : List Pat := [.rd (.sl 102), .rd (.sl 118), .rd (.sl 9)]
def res : RP := .one (.rd (.bool))
def md (a0 : List MChoice) (a1 : List MTrace) (a2 : List ByteArray) : Bool := true
def gd (a0 : List MChoice) (a1 : List MTrace) (a2 : List ByteArray) : Prop := (SmL maxLen (fun y : MChoice => MChoice.Sm maxLen y) a0) ∧ (SmL maxLen (fun y : MTrace => MTrace.Sm maxLen y) a1) ∧ (SmL maxLen (fun y : ByteArray => y.size ≤ maxLen) a2)
def acc (ls : List L) : List (List L) × List (List L) × List (List L) := ((ls.headD .hole).toSl, ((dropT 1 ls).headD .hole).toSl, ((dropT 2 ls).headD .hole).toSl)
def R : (List (List L) × List (List L) × List (List L)) → Option Bool := RR (p3 gd) (u3 md)
theorem R_eq {a0} {a1} {a2} (h : gd a0 a1 a2) : R ((a0.map MChoice.row), (a1.map MTrace.row), (a2.map sRow)) = some (md a0 a1 a2) := RR_eq (a := (a0, a1, a2)) h
def con : Con := CN pats res acc R
theorem okF (a0 : List MChoice) (a1 : List MTrace) (a2 : List ByteArray) (hg : gd a0 a1 a2) : F (a0.map MChoice.row) (a1.map MTrace.row) (a2.map sRow) = ret ((md a0 a1 a2) : Bool) := by
  unfold md
  show (call (Z3.R ((a0.map MChoice.row), 1048576)) fun v1 => (bif (decide (v1 < 0)) then ret (true : Bool) else (call (Z15.R ((a1.map MTrace.row), v1)) fun v2 => (bif (decide (v2 < 0)) then ret (true : Bool) else (call (Z0.R ((a2.map sRow), v2)) fun v3 => (bif (decide (v3 < 0)) then ret (true : Bool) else (call (Z19.R (a0.map MChoice.row)) fun v4 => (call (Z32.R (a1.map MTrace.row)) fun v5 => (call (Z16.R (a2.map sRow)) fun v6 => (call (Z44.R (v4, v5, v6)) fun v7 => (call (Z19.R (a0.map MChoice.row)) fun v8 => (call (Z32.R (a1.map MTrace.row)) fun v9 => (call (Z16.R (a2.map sRow)) fun v10 => (call (Z61.R (v8, v9, v10)) fun v11 => (call (Z65.R (v11, v7)) fun v12 => (bif (!v12) then ret (false : Bool) else (call (Z19.R (a0.map MChoice.row)) fun v13 => (call (Z67.R (v8, v13)) fun v14 => (bif (!v14) then ret (false : Bool) else (call (Z32.R (a1.map MTrace.row)) fun v15 => (call (Z80.R (v9, v15)) fun v16 => (bif (!v16) then ret (false : Bool) else (call (Z16.R (a2.map sRow)) fun v17 => (call (Z62.R (v10, v17)) fun v18 => (bif (!v18) then ret (false : Bool) else (call (Z83.R (v8, 1)) fun v19 => (call (Z89.R (v9, v19.1)) fun v20 => (call (Z82.R (v10, v20.1)) fun v21 => (bif (decide (v21.1 < 0)) then ret (false : Bool) else (call (Z65.R (v11, v7)) fun v22 => (bif (!v22) then ret (false : Bool) else (call (Z92.R (v11, 1)) fun v23 => (call (Z96.R ((⟨v11.fCode, (⟨v11.fEntry.fLabel, v11.fEntry.fKind, v11.fEntry.fValue, v23.2.1⟩ : REntry), v23.2.2⟩ : RDecision), 1)) fun v24 => (bif (decide (v24 < 0)) then ret (false : Bool) else (bif (v24 != v23.1) then ret (false : Bool) else (call (Z19.R (a0.map MChoice.row)) fun v25 => (call (Z32.R (a1.map MTrace.row)) fun v26 => (call (Z16.R (a2.map sRow)) fun v27 => (call (Z61.R (v25, v26, v27)) fun v28 => (call (Z65.R (v28, v7)) fun v29 => (bif (!v29) then ret (false : Bool) else (call (Z96.R ((⟨v11.fCode, (⟨v11.fEntry.fLabel, v11.fEntry.fKind, v11.fEntry.fValue, v23.2.1⟩ : REntry), v23.2.2⟩ : RDecision), 1)) fun v30 => (bif (decide (v30 < 0)) then ret (false : Bool) else (bif (v30 != v23.1) then ret (false : Bool) else ret (true : Bool))))))))))))))))))))))))))))))))))))))))))))) = _
  rw [call_eq (Z3.R_eq (a1 := (1048576 : Int)) ⟨hg.1, by omega, by omega⟩)]
  unfold Z3.md
  by_cases c0 : (1048576 : Int) < (((szL (fun y : MChoice => MChoice.size y) a0) : Nat) : Int)
  · rw [szM_neg c0]; rfl
  rw [szM_pos c0, dec_neg (by omega)]
  simp only [cond_false]
  have s0 : SmL (2 ^ 20) (fun y : MChoice => MChoice.Sm (2 ^ 20) y) a0 := (szL_sm (f := fun y : MChoice => MChoice.size y) (by omega) (fun x hx => (MChoice.Sm_of hx)))
  rw [call_eq (Z15.R_eq (a1 := (1048576 - (((szL (fun y : MChoice => MChoice.size y) a0) : Nat) : Int) : Int)) ⟨hg.2.1, by omega, by omega⟩)]
  unfold Z15.md
  by_cases c1 : (1048576 - (((szL (fun y : MChoice => MChoice.size y) a0) : Nat) : Int) : Int) < (((szL (fun y : MTrace => MTrace.size y) a1) : Nat) : Int)
  · rw [szM_neg c1]; rfl
  rw [szM_pos c1, dec_neg (by omega)]
  simp only [cond_false]
  have s1 : SmL (2 ^ 20) (fun y : MTrace => MTrace.Sm (2 ^ 20) y) a1 := (szL_sm (f := fun y : MTrace => MTrace.size y) (by omega) (fun x hx => (MTrace.Sm_of hx)))
  rw [call_eq (Z0.R_eq (a1 := (1048576 - (((szL (fun y : MChoice => MChoice.size y) a0) : Nat) : Int) - (((szL (fun y : MTrace => MTrace.size y) a1) : Nat) : Int) : Int)) ⟨hg.2.2, by omega, by omega⟩)]
  unfold Z0.md
  by_cases c2 : (1048576 - (((szL (fun y : MChoice => MChoice.size y) a0) : Nat) : Int) - (((szL (fun y : MTrace => MTrace.size y) a1) : Nat) : Int) : Int) < (((szL (fun y : ByteArray => y.size) a2) : Nat) : Int)
  · rw [szM_neg c2]; rfl
  rw [szM_pos c2, dec_neg (by omega)]
  simp only [cond_false]
  have s2 : SmL (2 ^ 20) (fun y : ByteArray => y.size ≤ (2 ^ 20)) a2 := (szL_sm (f := fun y : ByteArray => y.size) (by omega) (fun x hx => hx))
  refine call_to (a0.map MChoice.row) (Z19.R_eq (a0 := a0) (s0.mono (by decide) (fun x hx => (MChoice.Sm_mono (by decide) hx)))) ?_
  refine call_to (a1.map MTrace.row) (Z32.R_eq (a0 := a1) (s1.mono (by decide) (fun x hx => (MTrace.Sm_mono (by decide) hx)))) ?_
  refine call_to (a2.map sRow) (Z16.R_eq (a0 := a2) (s2.mono (by decide) (fun x hx => (Nat.le_trans hx (by decide))))) ?_
  refine call_to (MDecision.r (Z44.md a0 a1 a2)) (Z44.R_eq (a0 := a0) (a1 := a1) (a2 := a2) (by
    have := And.intro trivial trivial
    unfold Z44.gd
    first | exact (s0.mono (by decide) (fun x hx => (MChoice.Sm_mono (by decide) hx))) | refine ⟨(s0.mono (by decide) (fun x hx => (MChoice.Sm_mono (by decide) hx))), (s1.mono (by decide) (fun x hx => (MTrace.Sm_mono (by decide) hx))), (s2.mono (by decide) (fun x hx => (Nat.le_trans hx (by decide))))⟩)) ?_
  refine call_to (a0.map MChoice.row) (Z19.R_eq (a0 := a0) (s0.mono (by decide) (fun x hx => (MChoice.Sm_mono (by decide) hx)))) ?_
  refine call_to (a1.map MTrace.row) (Z32.R_eq (a0 := a1) (s1.mono (by decide) (fun x hx => (MTrace.Sm_mono (by decide) hx)))) ?_
  refine call_to (a2.map sRow) (Z16.R_eq (a0 := a2) (s2.mono (by decide) (fun x hx => (Nat.le_trans hx (by decide))))) ?_
  have r_ := Z61.R_eq (a0 := a0) (a1 := a1) (a2 := a2) (by
    have := And.intro trivial trivial
    unfold Z61.gd
    first | exact (s0.mono (by decide) (fun x hx => (MChoice.Sm_mono (by decide) hx))) | refine ⟨(s0.mono (by decide) (fun x hx => (MChoice.Sm_mono (by decide) hx))), (s1.mono (by decide) (fun x hx => (MTrace.Sm_mono (by decide) hx))), (s2.mono (by decide) (fun x hx => (Nat.le_trans hx (by decide))))⟩)
  rw [Z61.br] at r_
  refine call_to (MDecision.r (Z44.md a0 a1 a2)) r_ ?_
  clear r_
  refine call_to _ (Z65.R_eq (a0 := (Z44.md a0 a1 a2)) (a1 := (Z44.md a0 a1 a2)) trivial) ?_
  refine no_ret (by first | (simp only [bne_self_eq_false, beq_self_eq_true, ba_refl, eqB_refl, Bool.not_true, Z65.md]; done) | (refine bne_eq_false_iff_eq.2 ?_; omega)) ?_
  refine call_to (a0.map MChoice.row) (Z19.R_eq (a0 := a0) (s0.mono (by decide) (fun x hx => (MChoice.Sm_mono (by decide) hx)))) ?_
  refine call_to _ (Z67.R_eq (a0 := a0) (a1 := a0) trivial) ?_
  refine no_ret (by first | (simp only [bne_self_eq_false, beq_self_eq_true, ba_refl, eqB_refl, Bool.not_true, Z65.md, Z67.md]; done) | (refine bne_eq_false_iff_eq.2 ?_; omega)) ?_
  refine call_to (a1.map MTrace.row) (Z32.R_eq (a0 := a1) (s1.mono (by decide) (fun x hx => (MTrace.Sm_mono (by decide) hx)))) ?_
  refine call_to _ (Z80.R_eq (a0 := a1) (a1 := a1) trivial) ?_
  refine no_ret (by first | (simp only [bne_self_eq_false, beq_self_eq_true, ba_refl, eqB_refl, Bool.not_true, Z65.md, Z67.md, Z80.md]; done) | (refine bne_eq_false_iff_eq.2 ?_; omega)) ?_
  refine call_to (a2.map sRow) (Z16.R_eq (a0 := a2) (s2.mono (by decide) (fun x hx => (Nat.le_trans hx (by decide))))) ?_
  refine call_to _ (Z62.R_eq (a0 := a2) (a1 := a2) trivial) ?_
  refine no_ret (by first | (simp only [bne_self_eq_false, beq_self_eq_true, ba_refl, eqB_refl, Bool.not_true, Z65.md, Z67.md, Z80.md, Z62.md]; done) | (refine bne_eq_false_iff_eq.2 ?_; omega)) ?_
  have u1 := Z83.sz a0
  refine call_to ((Z83.md a0 1).1, ((Z83.md a0 1).2.map MChoice.row)) (Z83.R_eq (a0 := a0) (a1 := 1) I64_one) ?_
  have k2 := Z83.kk a0 1 (by omega) (by omega)
  have u3 := Z89.sz a1
  refine call_to ((Z89.md a1 ((Z83.md a0 1).1)).1, ((Z89.md a1 ((Z83.md a0 1).1)).2.map MTrace.row)) (Z89.R_eq (a0 := a1) (a1 := (Z83.md a0 1).1) (Z83.i64 I64_one)) ?_
  have k4 := Z89.kk a1 ((Z83.md a0 1).1) (by omega) (by omega)
  have u5 := Z82.sz a2
  refine call_to ((Z82.md a2 ((Z89.md a1 ((Z83.md a0 1).1)).1)).1, ((Z82.md a2 ((Z89.md a1 ((Z83.md a0 1).1)).1)).2.map sRow)) (Z82.R_eq (a0 := a2) (a1 := (Z89.md a1 ((Z83.md a0 1).1)).1) (Z89.i64 (Z83.i64 I64_one))) ?_
  have k6 := Z82.kk a2 ((Z89.md a1 ((Z83.md a0 1).1)).1) (by omega) (by omega)
  refine no_ret (dec_neg (by omega)) ?_
  refine call_to _ (Z65.R_eq (a0 := (Z44.md a0 a1 a2)) (a1 := (Z44.md a0 a1 a2)) trivial) ?_
  refine no_ret (by first | (simp only [bne_self_eq_false, beq_self_eq_true, ba_refl, eqB_refl, Bool.not_true, Z65.md, Z67.md, Z80.md, Z62.md]; done) | (refine bne_eq_false_iff_eq.2 ?_; omega)) ?_
  have u7 : Z92.sum (Z44.md a0 a1 a2) ≤ 1000000000000000000 := (by
    have h1 := Z92.sz (Z44.md a0 a1 a2)
    have hI := Z37.grp_inv a1 a1.length (Nat.le_refl _)
    have hl : szL (fun y : MTrace => MTrace.size y) a1 ≤ 2 ^ 20 := by omega
    have hl2 : a1.length ≤ 2 ^ 20 := by
      unfold szL at hl
      omega
    have hs : szL (fun y : MEntry => MEntry.size y) (Z40.md a1) ≤ 2 ^ 20 * (2 ^ 20 + 1) := by
      unfold Z40.md
      cases decide ((Z37.md a1).length > 1)
      · exact Nat.zero_le _
      · simp only [cond_true]
        refine Nat.le_trans (Z40.flat_sz (n := 2 ^ 20 + 1) fun g hg => ?_) (Nat.mul_le_mul_right _ (Nat.le_trans hI.1 hl2))
        exact Z40.dis_sz a1 g (2 ^ 20) hl (hI.2.1 g hg).2.2
    have hc : MEntry.size (Z42.md a0 a2).1 ≤ szL (fun y : MChoice => MChoice.size y) a0 := by
      unfold Z42.md
      cases decide (Z41.md a0 a2 < 0)
      · have h2 := szL_get0 (f := fun y : MChoice => MChoice.size y) (xs := a0) (i := Int.toNat (Z41.md a0 a2)) (z := MChoice.zero) rfl
        refine Nat.le_trans ?_ h2
        show _ ≤ MChoice.size (a0.getD (Int.toNat (Z41.md a0 a2)) MChoice.zero)
        unfold MChoice.size
        exact Nat.le_add_left _ _
      · exact Nat.zero_le _
    have hg : ∀ i, MEntry.size (a1.getD i MTrace.zero).fEntry ≤ szL (fun y : MTrace => MTrace.size y) a1 := by
      intro i
      have h2 := szL_get0 (f := fun y : MTrace => MTrace.size y) (xs := a1) (i := i) (z := MTrace.zero) rfl
      refine Nat.le_trans ?_ h2
      generalize a1.getD i MTrace.zero = t
      show _ ≤ MTrace.size t
      unfold MTrace.size
      omega
    have hd : ∀ (c : Int) (e : MEntry) (o : List MEntry), MDecision.size ⟨c, e, o⟩ = MEntry.size e + szL (fun y : MEntry => MEntry.size y) o := fun _ _ _ => rfl
    have h0 : MEntry.size ⟨⟨#[]⟩, 0, 0, []⟩ = 0 := rfl
    have hg0 := hg (Int.toNat (((Z37.md a1).getD 0 []).getD 0 0))
    have h2 : MDecision.size (Z44.md a0 a1 a2) ≤ szL (fun y : MChoice => MChoice.size y) a0 + szL (fun y : MTrace => MTrace.size y) a1 + 2 ^ 20 * (2 ^ 20 + 1) := by
      unfold Z44.md
      simp only [Bool.cond_eq_ite]
      repeat' split
      all_goals simp only [hd, h0]; omega
    omega)
  refine call_to ((Z92.md (Z44.md a0 a1 a2) 1).1, ((Z92.md (Z44.md a0 a1 a2) 1).2.1.map sRow), ((Z92.md (Z44.md a0 a1 a2) 1).2.2.map MEntry.row)) (Z92.R_eq (a0 := (Z44.md a0 a1 a2)) (a1 := 1) I64_one) ?_
  have k8 := Z92.kk (Z44.md a0 a1 a2) 1 (by omega) (by omega)
  refine call_to (Z96.md (⟨(Z44.md a0 a1 a2).fCode, (⟨(Z44.md a0 a1 a2).fEntry.fLabel, (Z44.md a0 a1 a2).fEntry.fKind, (Z44.md a0 a1 a2).fEntry.fValue, (Z92.md (Z44.md a0 a1 a2) 1).2.1⟩ : MEntry), (Z92.md (Z44.md a0 a1 a2) 1).2.2⟩ : MDecision) 1) (Z96.R_eq (a0 := (⟨(Z44.md a0 a1 a2).fCode, (⟨(Z44.md a0 a1 a2).fEntry.fLabel, (Z44.md a0 a1 a2).fEntry.fKind, (Z44.md a0 a1 a2).fEntry.fValue, (Z92.md (Z44.md a0 a1 a2) 1).2.1⟩ : MEntry), (Z92.md (Z44.md a0 a1 a2) 1).2.2⟩ : MDecision)) (a1 := 1) I64_one) ?_
  have h9 : (Z96.md (⟨(Z44.md a0 a1 a2).fCode, (⟨(Z44.md a0 a1 a2).fEntry.fLabel, (Z44.md a0 a1 a2).fEntry.fKind, (Z44.md a0 a1 a2).fEntry.fValue, (Z92.md (Z44.md a0 a1 a2) 1).2.1⟩ : MEntry), (Z92.md (Z44.md a0 a1 a2) 1).2.2⟩ : MDecision) 1) = 1 + (Z92.sum (Z44.md a0 a1 a2) : Int) := Z96.mk (Z44.md a0 a1 a2) 1 (by omega) (by omega)
  refine no_ret (dec_neg (by omega)) ?_
  refine no_ret (by first | (simp only [bne_self_eq_false, beq_self_eq_true, ba_refl, eqB_refl, Bool.not_true, Z65.md, Z67.md, Z80.md, Z62.md]; done) | (refine bne_eq_false_iff_eq.2 ?_; omega)) ?_
  refine call_to (a0.map MChoice.row) (Z19.R_eq (a0 := a0) (s0.mono (by decide) (fun x hx => (MChoice.Sm_mono (by decide) hx)))) ?_
  refine call_to (a1.map MTrace.row) (Z32.R_eq (a0 := a1) (s1.mono (by decide) (fun x hx => (MTrace.Sm_mono (by decide) hx)))) ?_
  refine call_to (a2.map sRow) (Z16.R_eq (a0 := a2) (s2.mono (by decide) (fun x hx => (Nat.le_trans hx (by decide))))) ?_
  have r_ := Z61.R_eq (a0 := a0) (a1 := a1) (a2 := a2) (by
    have := And.intro trivial trivial
    unfold Z61.gd
    first | exact (s0.mono (by decide) (fun x hx => (MChoice.Sm_mono (by decide) hx))) | refine ⟨(s0.mono (by decide) (fun x hx => (MChoice.Sm_mono (by decide) hx))), (s1.mono (by decide) (fun x hx => (MTrace.Sm_mono (by decide) hx))), (s2.mono (by decide) (fun x hx => (Nat.le_trans hx (by decide))))⟩)
  rw [Z61.br] at r_
  refine call_to (MDecision.r (Z44.md a0 a1 a2)) r_ ?_
  clear r_
  refine call_to _ (Z65.R_eq (a0 := (Z44.md a0 a1 a2)) (a1 := (Z44.md a0 a1 a2)) trivial) ?_
  refine no_ret (by first | (simp only [bne_self_eq_false, beq_self_eq_true, ba_refl, eqB_refl, Bool.not_true, Z65.md, Z67.md, Z80.md, Z62.md]; done) | (refine bne_eq_false_iff_eq.2 ?_; omega)) ?_
  refine call_to (Z96.md (⟨(Z44.md a0 a1 a2).fCode, (⟨(Z44.md a0 a1 a2).fEntry.fLabel, (Z44.md a0 a1 a2).fEntry.fKind, (Z44.md a0 a1 a2).fEntry.fValue, (Z92.md (Z44.md a0 a1 a2) 1).2.1⟩ : MEntry), (Z92.md (Z44.md a0 a1 a2) 1).2.2⟩ : MDecision) 1) (Z96.R_eq (a0 := (⟨(Z44.md a0 a1 a2).fCode, (⟨(Z44.md a0 a1 a2).fEntry.fLabel, (Z44.md a0 a1 a2).fEntry.fKind, (Z44.md a0 a1 a2).fEntry.fValue, (Z92.md (Z44.md a0 a1 a2) 1).2.1⟩ : MEntry), (Z92.md (Z44.md a0 a1 a2) 1).2.2⟩ : MDecision)) (a1 := 1) I64_one) ?_
  have h10 : (Z96.md (⟨(Z44.md a0 a1 a2).fCode, (⟨(Z44.md a0 a1 a2).fEntry.fLabel, (Z44.md a0 a1 a2).fEntry.fKind, (Z44.md a0 a1 a2).fEntry.fValue, (Z92.md (Z44.md a0 a1 a2) 1).2.1⟩ : MEntry), (Z92.md (Z44.md a0 a1 a2) 1).2.2⟩ : MDecision) 1) = 1 + (Z92.sum (Z44.md a0 a1 a2) : Int) := Z96.mk (Z44.md a0 a1 a2) 1 (by omega) (by omega)
  refine no_ret (dec_neg (by omega)) ?_
  refine no_ret (by first | (simp only [bne_self_eq_false, beq_self_eq_true, ba_refl, eqB_refl, Bool.not_true, Z65.md, Z67.md, Z80.md, Z62.md]; done) | (refine bne_eq_false_iff_eq.2 ?_; omega)) ?_
  rfl
theorem valid_ : Valid Try.prog Ev 9 con := VS (live := fun _ => []) (nt := 115) (run := fun _ x => F x.1 x.2.1 x.2.2) mix tab_ok (.cons Z3.valid_ (.cons Z15.valid_ (.cons Z0.valid_ (.cons Z19.valid_ (.cons Z32.valid_ (.cons Z16.valid_ (.cons Z44.valid_ (.cons Z61.valid_ (.cons Z65.valid_ (.cons Z67.valid_ (.cons Z80.valid_ (.cons Z62.valid_ (.cons Z96.valid_ .nil))))))))))))) (.cons Z83.valid_ (.cons Z89.valid_ (.cons Z82.valid_ (.cons Z92.valid_ .nil)))) Try.func9 (by kernel_rfl) (fun _ _ => by kernel_rfl) (fun _ a _ _ hg => ⟨0, okF a.1 a.2.1 a.2.2 hg⟩)
theorem MEntry_wf41 (r : List L) (h : WfAll Ev.cells [.str, .int .i64, .int .i64, .sl 9] r) : ∃ x : MEntry, MEntry.row x = r ∧ MEntry.Sm maxLen x := by
 obtain ⟨l0, t0, rfl, g0, h1⟩ := h.uncons
 obtain ⟨x0, rfl, s0⟩ := wf_str g0
 obtain ⟨l1, t1, rfl, g1, h2⟩ := h1.uncons
 obtain ⟨x1, rfl⟩ := wf_int g1
 obtain ⟨l2, t2, rfl, g2, h3⟩ := h2.uncons
 obtain ⟨x2, rfl⟩ := wf_int g2
 obtain ⟨l3, t3, rfl, g3, h4⟩ := h3.uncons
 obtain ⟨x3, rfl, s3⟩ := wf_list (show Ev.cells 9 = [.str] from by kernel_rfl) wf_srow g3
 obtain rfl := h4.isnil
 exact ⟨⟨x0, x1, x2, x3⟩, rfl, ⟨s0, s3⟩⟩
theorem MChoice_wf102 (r : List L) (h : WfAll Ev.cells [.sl 9, .str, .int .i64, .int .i64, .sl 9] r) : ∃ x : MChoice, MChoice.row x = r ∧ MChoice.Sm maxLen x := by
 obtain ⟨l0, t0, rfl, g0, h1⟩ := h.uncons
 obtain ⟨x0, rfl, s0⟩ := wf_list (show Ev.cells 9 = [.str] from by kernel_rfl) wf_srow g0
 obtain ⟨r1, t1, rfl, g1, h2⟩ := WfAll.unapp (a := [.str, .int .i64, .int .i64, .sl 9]) (b := []) h1
 obtain ⟨x1, rfl, s1⟩ := MEntry_wf41 _ g1
 obtain rfl := h2.isnil
 exact ⟨⟨x0, x1⟩, rfl, ⟨s0, s1⟩⟩
theorem MKeys_wf174 (r : List L) (h : WfAll Ev.cells [.sl 3, .int .i64] r) : ∃ x : MKeys, MKeys.row x = r ∧ MKeys.Sm maxLen x := by
 obtain ⟨l0, t0, rfl, g0, h1⟩ := h.uncons
 obtain ⟨x0, rfl, s0⟩ := wf_list (show Ev.cells 3 = [.int .i64] from by kernel_rfl) wf_irow g0
 obtain ⟨l1, t1, rfl, g1, h2⟩ := h1.uncons
 obtain ⟨x1, rfl⟩ := wf_int g1
 obtain rfl := h2.isnil
 exact ⟨⟨x0, x1⟩, rfl, s0⟩
theorem MHead_wf176 (r : List L) (h : WfAll Ev.cells [.int .i64, .int .i64, .int .i64, .int .i64, .int .i64, .int .i64, .int .i64, .int .i64, .sl 3, .int .i64, .sl 3, .int .i64, .int .i64, .sl 3, .int .i64, .bool] r) : ∃ x : MHead, MHead.row x = r ∧ MHead.Sm maxLen x := by
 obtain ⟨l0, t0, rfl, g0, h1⟩ := h.uncons
 obtain ⟨x0, rfl⟩ := wf_int g0
 obtain ⟨l1, t1, rfl, g1, h2⟩ := h1.uncons
 obtain ⟨x1, rfl⟩ := wf_int g1
 obtain ⟨l2, t2, rfl, g2, h3⟩ := h2.uncons
 obtain ⟨x2, rfl⟩ := wf_int g2
 obtain ⟨l3, t3, rfl, g3, h4⟩ := h3.uncons
 obtain ⟨x3, rfl⟩ := wf_int g3
 obtain ⟨l4, t4, rfl, g4, h5⟩ := h4.uncons
 obtain ⟨x4, rfl⟩ := wf_int g4
 obtain ⟨l5, t5, rfl, g5, h6⟩ := h5.uncons
 obtain ⟨x5, rfl⟩ := wf_int g5
 obtain ⟨l6, t6, rfl, g6, h7⟩ := h6.uncons
 obtain ⟨x6, rfl⟩ := wf_int g6
 obtain ⟨l7, t7, rfl, g7, h8⟩ := h7.uncons
 obtain ⟨x7, rfl⟩ := wf_int g7
 obtain ⟨r8, t8, rfl, g8, h9⟩ := WfAll.unapp (a := [.sl 3, .int .i64]) (b := [.sl 3, .int .i64, .int .i64, .sl 3, .int .i64, .bool]) h8
 obtain ⟨x8, rfl, s8⟩ := MKeys_wf174 _ g8
 obtain ⟨r9, t9, rfl, g9, h10⟩ := WfAll.unapp (a := [.sl 3, .int .i64]) (b := [.int .i64, .sl 3, .int .i64, .bool]) h9
 obtain ⟨x9, rfl, s9⟩ := MKeys_wf174 _ g9
 obtain ⟨l10, t10, rfl, g10, h11⟩ := h10.uncons
 obtain ⟨x10, rfl⟩ := wf_int g10
 obtain ⟨r11, t11, rfl, g11, h12⟩ := WfAll.unapp (a := [.sl 3, .int .i64]) (b := [.bool]) h11
 obtain ⟨x11, rfl, s11⟩ := MKeys_wf174 _ g11
 obtain ⟨l12, t12, rfl, g12, h13⟩ := h12.uncons
 obtain ⟨x12, rfl⟩ := wf_bool g12
 obtain rfl := h13.isnil
 exact ⟨⟨x0, x1, x2, x3, x4, x5, x6, x7, x8, x9, x10, x11, x12⟩, rfl, ⟨s8, s9, s11⟩⟩
theorem MSig_wf198 (r : List L) (h : WfAll Ev.cells [.int .i64, .int .i64] r) : ∃ x : MSig, MSig.row x = r ∧ MSig.Sm maxLen x := by
 obtain ⟨l0, t0, rfl, g0, h1⟩ := h.uncons
 obtain ⟨x0, rfl⟩ := wf_int g0
 obtain ⟨l1, t1, rfl, g1, h2⟩ := h1.uncons
 obtain ⟨x1, rfl⟩ := wf_int g1
 obtain rfl := h2.isnil
 exact ⟨⟨x0, x1⟩, rfl, trivial⟩
theorem MSigned_wf179 (r : List L) (h : WfAll Ev.cells [.int .i64, .int .i64, .int .i64, .int .i64, .int .i64, .int .i64, .int .i64, .int .i64, .sl 3, .int .i64, .sl 3, .int .i64, .int .i64, .sl 3, .int .i64, .bool, .sl 198] r) : ∃ x : MSigned, MSigned.row x = r ∧ MSigned.Sm maxLen x := by
 obtain ⟨r0, t0, rfl, g0, h1⟩ := WfAll.unapp (a := [.int .i64, .int .i64, .int .i64, .int .i64, .int .i64, .int .i64, .int .i64, .int .i64, .sl 3, .int .i64, .sl 3, .int .i64, .int .i64, .sl 3, .int .i64, .bool]) (b := [.sl 198]) h
 obtain ⟨x0, rfl, s0⟩ := MHead_wf176 _ g0
 obtain ⟨l1, t1, rfl, g1, h2⟩ := h1.uncons
 obtain ⟨x1, rfl, s1⟩ := wf_list (show Ev.cells 198 = [.int .i64, .int .i64] from by kernel_rfl) MSig_wf198 g1
 obtain rfl := h2.isnil
 exact ⟨⟨x0, x1⟩, rfl, ⟨s0, s1⟩⟩
theorem MFork_wf181 (r : List L) (h : WfAll Ev.cells [.int .i64, .int .i64, .int .i64, .int .i64, .int .i64, .int .i64, .int .i64, .int .i64, .sl 3, .int .i64, .sl 3, .int .i64, .int .i64, .sl 3, .int .i64, .bool, .sl 198, .int .i64, .int .i64, .int .i64, .int .i64, .int .i64, .int .i64, .int .i64, .int .i64, .sl 3, .int .i64, .sl 3, .int .i64, .int .i64, .sl 3, .int .i64, .bool, .sl 198, .int .i64, .int .i64, .int .i64, .int .i64, .int .i64, .int .i64, .int .i64, .int .i64, .sl 3, .int .i64, .sl 3, .int .i64, .int .i64, .sl 3, .int .i64, .bool, .sl 198] r) : ∃ x : MFork, MFork.row x = r ∧ MFork.Sm maxLen x := by
 obtain ⟨r0, t0, rfl, g0, h1⟩ := WfAll.unapp (a := [.int .i64, .int .i64, .int .i64, .int .i64, .int .i64, .int .i64, .int .i64, .int .i64, .sl 3, .int .i64, .sl 3, .int .i64, .int .i64, .sl 3, .int .i64, .bool, .sl 198]) (b := [.int .i64, .int .i64, .int .i64, .int .i64, .int .i64, .int .i64, .int .i64, .int .i64, .sl 3, .int .i64, .sl 3, .int .i64, .int .i64, .sl 3, .int .i64, .bool, .sl 198, .int .i64, .int .i64, .int .i64, .int .i64, .int .i64, .int .i64, .int .i64, .int .i64, .sl 3, .int .i64, .sl 3, .int .i64, .int .i64, .sl 3, .int .i64, .bool, .sl 198]) h
 obtain ⟨x0, rfl, s0⟩ := MSigned_wf179 _ g0
 obtain ⟨r1, t1, rfl, g1, h2⟩ := WfAll.unapp (a := [.int .i64, .int .i64, .int .i64, .int .i64, .int .i64, .int .i64, .int .i64, .int .i64, .sl 3, .int .i64, .sl 3, .int .i64, .int .i64, .sl 3, .int .i64, .bool, .sl 198]) (b := [.int .i64, .int .i64, .int .i64, .int .i64, .int .i64, .int .i64, .int .i64, .int .i64, .sl 3, .int .i64, .sl 3, .int .i64, .int .i64, .sl 3, .int .i64, .bool, .sl 198]) h1
 obtain ⟨x1, rfl, s1⟩ := MSigned_wf179 _ g1
 obtain ⟨r2, t2, rfl, g2, h3⟩ := WfAll.unapp (a := [.int .i64, .int .i64, .int .i64, .int .i64, .int .i64, .int .i64, .int .i64, .int .i64, .sl 3, .int .i64, .sl 3, .int .i64, .int .i64, .sl 3, .int .i64, .bool, .sl 198]) (b := []) h2
 obtain ⟨x2, rfl, s2⟩ := MSigned_wf179 _ g2
 obtain rfl := h3.isnil
 exact ⟨⟨x0, x1, x2⟩, rfl, ⟨s0, s1, s2⟩⟩
theorem MKnown_wf115 (r : List L) (h : WfAll Ev.cells [.sl 172, .sl 181] r) : ∃ x : MKnown, MKnown.row x = r ∧ MKnown.Sm maxLen x := by
 obtain ⟨l0, t0, rfl, g0, h1⟩ := h.uncons
 obtain ⟨x0, rfl, s0⟩ := wf_list (show Ev.cells 172 = [.sl 179] from by kernel_rfl) (wf_lrow (show Ev.cells 179 = [.int .i64, .int .i64, .int .i64, .int .i64, .int .i64, .int .i64, .int .i64, .int .i64, .sl 3, .int .i64, .sl 3, .int .i64, .int .i64, .sl 3, .int .i64, .bool, .sl 198] from by kernel_rfl) MSigned_wf179) g0
 obtain ⟨l1, t1, rfl, g1, h2⟩ := h1.uncons
 obtain ⟨x1, rfl, s1⟩ := wf_list (show Ev.cells 181 = [.int .i64, .int .i64, .int .i64, .int .i64, .int .i64, .int .i64, .int .i64, .int .i64, .sl 3, .int .i64, .sl 3, .int .i64, .int .i64, .sl 3, .int .i64, .bool, .sl 198, .int .i64, .int .i64, .int .i64, .int .i64, .int .i64, .int .i64, .int .i64, .int .i64, .sl 3, .int .i64, .sl 3, .int .i64, .int .i64, .sl 3, .int .i64, .bool, .sl 198, .int .i64, .int .i64, .int .i64, .int .i64, .int .i64, .int .i64, .int .i64, .int .i64, .sl 3, .int .i64, .sl 3, .int .i64, .int .i64, .sl 3, .int .i64, .bool, .sl 198] from by kernel_rfl) MFork_wf181 g1
 obtain rfl := h2.isnil
 exact ⟨⟨x0, x1⟩, rfl, ⟨s0, s1⟩⟩
theorem MTrace_wf118 (r : List L) (h : WfAll Ev.cells [.sl 172, .sl 181, .int .i64, .str, .int .i64, .int .i64, .sl 9, .sl 3, .int .i64] r) : ∃ x : MTrace, MTrace.row x = r ∧ MTrace.Sm maxLen x := by
 obtain ⟨r0, t0, rfl, g0, h1⟩ := WfAll.unapp (a := [.sl 172, .sl 181]) (b := [.int .i64, .str, .int .i64, .int .i64, .sl 9, .sl 3, .int .i64]) h
 obtain ⟨x0, rfl, s0⟩ := MKnown_wf115 _ g0
 obtain ⟨l1, t1, rfl, g1, h2⟩ := h1.uncons
 obtain ⟨x1, rfl⟩ := wf_int g1
 obtain ⟨r2, t2, rfl, g2, h3⟩ := WfAll.unapp (a := [.str, .int .i64, .int .i64, .sl 9]) (b := [.sl 3, .int .i64]) h2
 obtain ⟨x2, rfl, s2⟩ := MEntry_wf41 _ g2
 obtain ⟨l3, t3, rfl, g3, h4⟩ := h3.uncons
 obtain ⟨x3, rfl, s3⟩ := wf_list (show Ev.cells 3 = [.int .i64] from by kernel_rfl) wf_irow g3
 obtain ⟨l4, t4, rfl, g4, h5⟩ := h4.uncons
 obtain ⟨x4, rfl⟩ := wf_int g4
 obtain rfl := h5.isnil
 exact ⟨⟨x0, x1, x2, x3, x4⟩, rfl, ⟨s0, s2, s3⟩⟩
theorem holds (ls : List L) (h : WfAll Ev.cells ([38, 58, 39].flatMap Ev.cells) ls) : con.sem ls = some [.bool true] := by
 have hk : [38, 58, 39].flatMap Ev.cells = [.sl 102, .sl 118, .sl 9] := by kernel_rfl
 rw [hk] at h
 obtain ⟨l0, t0, rfl, g0, h1⟩ := h.uncons
 obtain ⟨x0, rfl, s0⟩ := wf_list (show Ev.cells 102 = [.sl 9, .str, .int .i64, .int .i64, .sl 9] from by kernel_rfl) MChoice_wf102 g0
 obtain ⟨l1, t1, rfl, g1, h2⟩ := h1.uncons
 obtain ⟨x1, rfl, s1⟩ := wf_list (show Ev.cells 118 = [.sl 172, .sl 181, .int .i64, .str, .int .i64, .int .i64, .sl 9, .sl 3, .int .i64] from by kernel_rfl) MTrace_wf118 g1
 obtain ⟨l2, t2, rfl, g2, h3⟩ := h2.uncons
 obtain ⟨x2, rfl, s2⟩ := wf_list (show Ev.cells 9 = [.str] from by kernel_rfl) wf_srow g2
 obtain rfl := h3.isnil
 show (R ((x0.map MChoice.row), (x1.map MTrace.row), (x2.map sRow))).map RT.enc = _
 rw [R_eq ⟨s0, s1, s2⟩]
 rfl
end Z97
end Go.DM
end
