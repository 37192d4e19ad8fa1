/- What the functions compute that the law reaches, and that the law returns true. Conditions: none. -/
import Derived.Test.YtfghhicdmjiaaaaGreatLearnTy
import Derived.Test.YtfghhicdmjiaaaaGreatLearnFnB
import Derived.Test.YtfghhicdmjiaaaaGreatProg
import Derived.Lib.AppendZerosOnto
import Derived.Lib.Bytealg
import Derived.Laws.Externs
import Derived.Lib.Walk
import Derived.Lib.Hide
import Derived.Lib.Strings
set_option linter.all false
set_option maxRecDepth 100000
noncomputable section
namespace Go.DM
open Go.Proofs
namespace Z136
set_option maxHeartbeats 8000000
inductive Pt where
 | p0 (a : List (List L)) (b : Int) (c : Int)
def pid : Pt → Nat
 | .p0 .. => 2
def pvs : Pt → List V
 | .p0 a b c => [.sl none 134 a, .int .i64 b, .int .i64 c]
def phs : Pt → List Root
 | .p0 a b c => []
def step (J : Pt → Ans) : Pt → Ans
 | .p0 a b c => (bif (decide (c < (a.length : Int))) then (bif (decide ((0 : Int) ≤ c)) then (bif (decide (c < (a.length : Int))) then (bif ((RFork.at a (Int.toNat c)).fBefore.fHead.fZone != b) then ret ((-1) : Int) else (bif (decide ((0 : Int) ≤ c)) then (bif (decide (c < (a.length : Int))) then (bif ((RFork.at a (Int.toNat c)).fBefore.fHead.fEpoch != (IntKind.i64.wrap (b + 1))) then ret ((-1) : Int) else (bif (decide ((0 : Int) ≤ c)) then (bif (decide (c < (a.length : Int))) then (bif ((RFork.at a (Int.toNat c)).fBefore.fHead.fKind != (IntKind.i64.wrap ((IntKind.i64.wrap (b + 1)) + 1))) then ret ((-1) : Int) else (bif (decide ((0 : Int) ≤ c)) then (bif (decide (c < (a.length : Int))) then (bif ((RFork.at a (Int.toNat c)).fBefore.fHead.fTime != (IntKind.i64.wrap ((IntKind.i64.wrap ((IntKind.i64.wrap (b + 1)) + 1)) + 1))) then ret ((-1) : Int) else (bif (decide ((0 : Int) ≤ c)) then (bif (decide (c < (a.length : Int))) then (bif ((RFork.at a (Int.toNat c)).fBefore.fHead.fUntil != (IntKind.i64.wrap ((IntKind.i64.wrap ((IntKind.i64.wrap ((IntKind.i64.wrap (b + 1)) + 1)) + 1)) + 1))) then ret ((-1) : Int) else (bif (decide ((0 : Int) ≤ c)) then (bif (decide (c < (a.length : Int))) then (bif ((RFork.at a (Int.toNat c)).fBefore.fHead.fCount != (IntKind.i64.wrap ((IntKind.i64.wrap ((IntKind.i64.wrap ((IntKind.i64.wrap ((IntKind.i64.wrap (b + 1)) + 1)) + 1)) + 1)) + 1))) then ret ((-1) : Int) else (bif (decide ((0 : Int) ≤ c)) then (bif (decide (c < (a.length : Int))) then (bif ((RFork.at a (Int.toNat c)).fBefore.fHead.fRoot != (IntKind.i64.wrap ((IntKind.i64.wrap ((IntKind.i64.wrap ((IntKind.i64.wrap ((IntKind.i64.wrap ((IntKind.i64.wrap (b + 1)) + 1)) + 1)) + 1)) + 1)) + 1))) then ret ((-1) : Int) else (bif (decide ((0 : Int) ≤ c)) then (bif (decide (c < (a.length : Int))) then (bif ((RFork.at a (Int.toNat c)).fBefore.fHead.fPrev != (IntKind.i64.wrap ((IntKind.i64.wrap ((IntKind.i64.wrap ((IntKind.i64.wrap ((IntKind.i64.wrap ((IntKind.i64.wrap ((IntKind.i64.wrap (b + 1)) + 1)) + 1)) + 1)) + 1)) + 1)) + 1))) then ret ((-1) : Int) else (bif (decide ((0 : Int) ≤ c)) then (bif (decide (c < (a.length : Int))) then (call (Z132.R ((RFork.at a (Int.toNat c)).fBefore.fHead.fKeys.fList, (IntKind.i64.wrap ((IntKind.i64.wrap ((IntKind.i64.wrap ((IntKind.i64.wrap ((IntKind.i64.wrap ((IntKind.i64.wrap ((IntKind.i64.wrap ((IntKind.i64.wrap (b + 1)) + 1)) + 1)) + 1)) + 1)) + 1)) + 1)) + 1)))) fun v1 => (bif (decide (v1 < 0)) then ret ((-1) : Int) else (bif (decide ((0 : Int) ≤ c)) then (bif (decide (c < (a.length : Int))) then (bif ((RFork.at a (Int.toNat c)).fBefore.fHead.fKeys.fNeed != v1) then ret ((-1) : Int) else (bif (decide ((0 : Int) ≤ c)) then (bif (decide (c < (a.length : Int))) then (call (Z132.R ((RFork.at a (Int.toNat c)).fBefore.fHead.fHeirs.fList, (IntKind.i64.wrap (v1 + 1)))) fun v2 => (bif (decide (v2 < 0)) then ret ((-1) : Int) else (bif (decide ((0 : Int) ≤ c)) then (bif (decide (c < (a.length : Int))) then (bif ((RFork.at a (Int.toNat c)).fBefore.fHead.fHeirs.fNeed != v2) then ret ((-1) : Int) else (bif (decide ((0 : Int) ≤ c)) then (bif (decide (c < (a.length : Int))) then (bif ((RFork.at a (Int.toNat c)).fBefore.fHead.fWait != (IntKind.i64.wrap (v2 + 1))) then ret ((-1) : Int) else (bif (decide ((0 : Int) ≤ c)) then (bif (decide (c < (a.length : Int))) then (call (Z132.R ((RFork.at a (Int.toNat c)).fBefore.fHead.fJudge.fList, (IntKind.i64.wrap ((IntKind.i64.wrap (v2 + 1)) + 1)))) fun v3 => (bif (decide (v3 < 0)) then ret ((-1) : Int) else (bif (decide ((0 : Int) ≤ c)) then (bif (decide (c < (a.length : Int))) then (bif ((RFork.at a (Int.toNat c)).fBefore.fHead.fJudge.fNeed != v3) then ret ((-1) : Int) else (bif (decide ((0 : Int) ≤ c)) then (bif (decide (c < (a.length : Int))) then (bif (!((RFork.at a (Int.toNat c)).fBefore.fHead.fFrozen == ((Int.tmod (IntKind.i64.wrap (v3 + 1)) 3) == 0))) then ret ((-1) : Int) else (bif (decide ((0 : Int) ≤ c)) then (bif (decide (c < (a.length : Int))) then (call (Z133.R ((RFork.at a (Int.toNat c)).fBefore.fSigs, (IntKind.i64.wrap ((IntKind.i64.wrap (v3 + 1)) + 1)))) fun v4 => (bif (decide (v4 < 0)) then ret ((-1) : Int) else (bif (decide ((0 : Int) ≤ c)) then (bif (decide (c < (a.length : Int))) then (bif ((RFork.at a (Int.toNat c)).fA.fHead.fZone != v4) then ret ((-1) : Int) else (bif (decide ((0 : Int) ≤ c)) then (bif (decide (c < (a.length : Int))) then (bif ((RFork.at a (Int.toNat c)).fA.fHead.fEpoch != (IntKind.i64.wrap (v4 + 1))) then ret ((-1) : Int) else (bif (decide ((0 : Int) ≤ c)) then (bif (decide (c < (a.length : Int))) then (bif ((RFork.at a (Int.toNat c)).fA.fHead.fKind != (IntKind.i64.wrap ((IntKind.i64.wrap (v4 + 1)) + 1))) then ret ((-1) : Int) else (bif (decide ((0 : Int) ≤ c)) then (bif (decide (c < (a.length : Int))) then (bif ((RFork.at a (Int.toNat c)).fA.fHead.fTime != (IntKind.i64.wrap ((IntKind.i64.wrap ((IntKind.i64.wrap (v4 + 1)) + 1)) + 1))) then ret ((-1) : Int) else (bif (decide ((0 : Int) ≤ c)) then (bif (decide (c < (a.length : Int))) then (bif ((RFork.at a (Int.toNat c)).fA.fHead.fUntil != (IntKind.i64.wrap ((IntKind.i64.wrap ((IntKind.i64.wrap ((IntKind.i64.wrap (v4 + 1)) + 1)) + 1)) + 1))) then ret ((-1) : Int) else (bif (decide ((0 : Int) ≤ c)) then (bif (decide (c < (a.length : Int))) then (bif ((RFork.at a (Int.toNat c)).fA.fHead.fCount != (IntKind.i64.wrap ((IntKind.i64.wrap ((IntKind.i64.wrap ((IntKind.i64.wrap ((IntKind.i64.wrap (v4 + 1)) + 1)) + 1)) + 1)) + 1))) then ret ((-1) : Int) else (bif (decide ((0 : Int) ≤ c)) then (bif (decide (c < (a.length : Int))) then (bif ((RFork.at a (Int.toNat c)).fA.fHead.fRoot != (IntKind.i64.wrap ((IntKind.i64.wrap ((IntKind.i64.wrap ((IntKind.i64.wrap ((IntKind.i64.wrap ((IntKind.i64.wrap (v4 + 1)) + 1)) + 1)) + 1)) + 1)) + 1))) then ret ((-1) : Int) else (bif (decide ((0 : Int) ≤ c)) then (bif (decide (c < (a.length : Int))) then (bif ((RFork.at a (Int.toNat c)).fA.fHead.fPrev != (IntKind.i64.wrap ((IntKind.i64.wrap ((IntKind.i64.wrap ((IntKind.i64.wrap ((IntKind.i64.wrap ((IntKind.i64.wrap ((IntKind.i64.wrap (v4 + 1)) + 1)) + 1)) + 1)) + 1)) + 1)) + 1))) then ret ((-1) : Int) else (bif (decide ((0 : Int) ≤ c)) then (bif (decide (c < (a.length : Int))) then (call (Z132.R ((RFork.at a (Int.toNat c)).fA.fHead.fKeys.fList, (IntKind.i64.wrap ((IntKind.i64.wrap ((IntKind.i64.wrap ((IntKind.i64.wrap ((IntKind.i64.wrap ((IntKind.i64.wrap ((IntKind.i64.wrap ((IntKind.i64.wrap (v4 + 1)) + 1)) + 1)) + 1)) + 1)) + 1)) + 1)) + 1)))) fun v5 => (bif (decide (v5 < 0)) then ret ((-1) : Int) else (bif (decide ((0 : Int) ≤ c)) then (bif (decide (c < (a.length : Int))) then (bif ((RFork.at a (Int.toNat c)).fA.fHead.fKeys.fNeed != v5) then ret ((-1) : Int) else (bif (decide ((0 : Int) ≤ c)) then (bif (decide (c < (a.length : Int))) then (call (Z132.R ((RFork.at a (Int.toNat c)).fA.fHead.fHeirs.fList, (IntKind.i64.wrap (v5 + 1)))) fun v6 => (bif (decide (v6 < 0)) then ret ((-1) : Int) else (bif (decide ((0 : Int) ≤ c)) then (bif (decide (c < (a.length : Int))) then (bif ((RFork.at a (Int.toNat c)).fA.fHead.fHeirs.fNeed != v6) then ret ((-1) : Int) else (bif (decide ((0 : Int) ≤ c)) then (bif (decide (c < (a.length : Int))) then (bif ((RFork.at a (Int.toNat c)).fA.fHead.fWait != (IntKind.i64.wrap (v6 + 1))) then ret ((-1) : Int) else (bif (decide ((0 : Int) ≤ c)) then (bif (decide (c < (a.length : Int))) then (call (Z132.R ((RFork.at a (Int.toNat c)).fA.fHead.fJudge.fList, (IntKind.i64.wrap ((IntKind.i64.wrap (v6 + 1)) + 1)))) fun v7 => (bif (decide (v7 < 0)) then ret ((-1) : Int) else (bif (decide ((0 : Int) ≤ c)) then (bif (decide (c < (a.length : Int))) then (bif ((RFork.at a (Int.toNat c)).fA.fHead.fJudge.fNeed != v7) then ret ((-1) : Int) else (bif (decide ((0 : Int) ≤ c)) then (bif (decide (c < (a.length : Int))) then (bif (!((RFork.at a (Int.toNat c)).fA.fHead.fFrozen == ((Int.tmod (IntKind.i64.wrap (v7 + 1)) 3) == 0))) then ret ((-1) : Int) else (bif (decide ((0 : Int) ≤ c)) then (bif (decide (c < (a.length : Int))) then (call (Z133.R ((RFork.at a (Int.toNat c)).fA.fSigs, (IntKind.i64.wrap ((IntKind.i64.wrap (v7 + 1)) + 1)))) fun v8 => (bif (decide (v8 < 0)) then ret ((-1) : Int) else (bif (decide ((0 : Int) ≤ c)) then (bif (decide (c < (a.length : Int))) then (bif ((RFork.at a (Int.toNat c)).fB.fHead.fZone != v8) then ret ((-1) : Int) else (bif (decide ((0 : Int) ≤ c)) then (bif (decide (c < (a.length : Int))) then (bif ((RFork.at a (Int.toNat c)).fB.fHead.fEpoch != (IntKind.i64.wrap (v8 + 1))) then ret ((-1) : Int) else (bif (decide ((0 : Int) ≤ c)) then (bif (decide (c < (a.length : Int))) then (bif ((RFork.at a (Int.toNat c)).fB.fHead.fKind != (IntKind.i64.wrap ((IntKind.i64.wrap (v8 + 1)) + 1))) then ret ((-1) : Int) else (bif (decide ((0 : Int) ≤ c)) then (bif (decide (c < (a.length : Int))) then (bif ((RFork.at a (Int.toNat c)).fB.fHead.fTime != (IntKind.i64.wrap ((IntKind.i64.wrap ((IntKind.i64.wrap (v8 + 1)) + 1)) + 1))) then ret ((-1) : Int) else (bif (decide ((0 : Int) ≤ c)) then (bif (decide (c < (a.length : Int))) then (bif ((RFork.at a (Int.toNat c)).fB.fHead.fUntil != (IntKind.i64.wrap ((IntKind.i64.wrap ((IntKind.i64.wrap ((IntKind.i64.wrap (v8 + 1)) + 1)) + 1)) + 1))) then ret ((-1) : Int) else (bif (decide ((0 : Int) ≤ c)) then (bif (decide (c < (a.length : Int))) then (bif ((RFork.at a (Int.toNat c)).fB.fHead.fCount != (IntKind.i64.wrap ((IntKind.i64.wrap ((IntKind.i64.wrap ((IntKind.i64.wrap ((IntKind.i64.wrap (v8 + 1)) + 1)) + 1)) + 1)) + 1))) then ret ((-1) : Int) else (bif (decide ((0 : Int) ≤ c)) then (bif (decide (c < (a.length : Int))) then (bif ((RFork.at a (Int.toNat c)).fB.fHead.fRoot != (IntKind.i64.wrap ((IntKind.i64.wrap ((IntKind.i64.wrap ((IntKind.i64.wrap ((IntKind.i64.wrap ((IntKind.i64.wrap (v8 + 1)) + 1)) + 1)) + 1)) + 1)) + 1))) then ret ((-1) : Int) else (bif (decide ((0 : Int) ≤ c)) then (bif (decide (c < (a.length : Int))) then (bif ((RFork.at a (Int.toNat c)).fB.fHead.fPrev != (IntKind.i64.wrap ((IntKind.i64.wrap ((IntKind.i64.wrap ((IntKind.i64.wrap ((IntKind.i64.wrap ((IntKind.i64.wrap ((IntKind.i64.wrap (v8 + 1)) + 1)) + 1)) + 1)) + 1)) + 1)) + 1))) then ret ((-1) : Int) else (bif (decide ((0 : Int) ≤ c)) then (bif (decide (c < (a.length : Int))) then (call (Z132.R ((RFork.at a (Int.toNat c)).fB.fHead.fKeys.fList, (IntKind.i64.wrap ((IntKind.i64.wrap ((IntKind.i64.wrap ((IntKind.i64.wrap ((IntKind.i64.wrap ((IntKind.i64.wrap ((IntKind.i64.wrap ((IntKind.i64.wrap (v8 + 1)) + 1)) + 1)) + 1)) + 1)) + 1)) + 1)) + 1)))) fun v9 => (bif (decide (v9 < 0)) then ret ((-1) : Int) else (bif (decide ((0 : Int) ≤ c)) then (bif (decide (c < (a.length : Int))) then (bif ((RFork.at a (Int.toNat c)).fB.fHead.fKeys.fNeed != v9) then ret ((-1) : Int) else (bif (decide ((0 : Int) ≤ c)) then (bif (decide (c < (a.length : Int))) then (call (Z132.R ((RFork.at a (Int.toNat c)).fB.fHead.fHeirs.fList, (IntKind.i64.wrap (v9 + 1)))) fun v10 => (bif (decide (v10 < 0)) then ret ((-1) : Int) else (bif (decide ((0 : Int) ≤ c)) then (bif (decide (c < (a.length : Int))) then (bif ((RFork.at a (Int.toNat c)).fB.fHead.fHeirs.fNeed != v10) then ret ((-1) : Int) else (bif (decide ((0 : Int) ≤ c)) then (bif (decide (c < (a.length : Int))) then (bif ((RFork.at a (Int.toNat c)).fB.fHead.fWait != (IntKind.i64.wrap (v10 + 1))) then ret ((-1) : Int) else (bif (decide ((0 : Int) ≤ c)) then (bif (decide (c < (a.length : Int))) then (call (Z132.R ((RFork.at a (Int.toNat c)).fB.fHead.fJudge.fList, (IntKind.i64.wrap ((IntKind.i64.wrap (v10 + 1)) + 1)))) fun v11 => (bif (decide (v11 < 0)) then ret ((-1) : Int) else (bif (decide ((0 : Int) ≤ c)) then (bif (decide (c < (a.length : Int))) then (bif ((RFork.at a (Int.toNat c)).fB.fHead.fJudge.fNeed != v11) then ret ((-1) : Int) else (bif (decide ((0 : Int) ≤ c)) then (bif (decide (c < (a.length : Int))) then (bif (!((RFork.at a (Int.toNat c)).fB.fHead.fFrozen == ((Int.tmod (IntKind.i64.wrap (v11 + 1)) 3) == 0))) then ret ((-1) : Int) else (bif (decide ((0 : Int) ≤ c)) then (bif (decide (c < (a.length : Int))) then (call (Z133.R ((RFork.at a (Int.toNat c)).fB.fSigs, (IntKind.i64.wrap ((IntKind.i64.wrap (v11 + 1)) + 1)))) fun v12 => (bif (decide (v12 < 0)) then ret ((-1) : Int) else J (.p0 a v12 (IntKind.i64.wrap (c + 1))))) else none) else none)) else none) else none)) else none) else none))) else none) else none)) else none) else none)) else none) else none))) else none) else none)) else none) else none))) else none) else none)) else none) else none)) else none) else none)) else none) else none)) else none) else none)) else none) else none)) else none) else none)) else none) else none)) else none) else none))) else none) else none)) else none) else none)) else none) else none))) else none) else none)) else none) else none)) else none) else none))) else none) else none)) else none) else none))) else none) else none)) else none) else none)) else none) else none)) else none) else none)) else none) else none)) else none) else none)) else none) else none)) else none) else none)) else none) else none))) else none) else none)) else none) else none)) else none) else none))) else none) else none)) else none) else none)) else none) else none))) else none) else none)) else none) else none))) else none) else none)) else none) else none)) else none) else none)) else none) else none)) else none) else none)) else none) else none)) else none) else none)) else none) else none)) else none) else none) else ret (b : Int))
def start (J : Pt → Ans) (x0 : List (List L)) (x1 : Int) : Ans := J (.p0 x0 x1 0)
def live : Nat → Live := fun i => match i with | 2 => [(0, none), (1, none), (5, none)] | _ => []
def pats : List Pat := [.rd (.sl 134), .rd (.int .i64)]
def res : RP := .one (.rd (.int .i64))
abbrev E : Env := { T := assoc Tab, G := conG [(70, Z132.con), (151, Z133.con)], nt := 595 }
theorem step_eq (I : Heads) (p : Pt) : enterC E live I (pid p) (bodyOf Tryz.f90) (stOf (live (pid p)) (pvs p) (phs p)) (doneK E Tryz.f90 res) = step (fun q => I (pid q) (pvs q) (phs q)) p := by
 cases p <;> kernel_rfl
theorem start_eq (I : Heads) (ls : List L) : runC E live I (bodyOf Tryz.f90) (initS pats ls) (doneK E Tryz.f90 res) = start (fun q => I (pid q) (pvs q) (phs q)) (ls.headD .hole).toSl ((dropT 1 ls).headD .hole).toInt := by kernel_rfl
theorem run_eq (n : Nat) (ls : List L) : runF E live Tryz.f90 res n (initS pats ls) = start (iter step n) (ls.headD .hole).toSl ((dropT 1 ls).headD .hole).toInt := runF_iter (id := pid) (vs := pvs) (hs := phs) (step := step) (start := fun J => start J (ls.headD .hole).toSl ((dropT 1 ls).headD .hole).toInt) step_eq (fun I => start_eq I ls) n
def e1 (x : MFork) (k : Int) := Z132.md ((((x.fBefore).fHead).fKeys).fList) (IntKind.i64.wrap ((IntKind.i64.wrap ((IntKind.i64.wrap ((IntKind.i64.wrap ((IntKind.i64.wrap ((IntKind.i64.wrap ((IntKind.i64.wrap ((IntKind.i64.wrap (k + 1)) + 1)) + 1)) + 1)) + 1)) + 1)) + 1)) + 1))
def e2 (x : MFork) (k : Int) := Z132.md ((((x.fBefore).fHead).fHeirs).fList) (IntKind.i64.wrap ((e1 x k) + 1))
def e3 (x : MFork) (k : Int) := Z132.md ((((x.fBefore).fHead).fJudge).fList) (IntKind.i64.wrap ((IntKind.i64.wrap ((e2 x k) + 1)) + 1))
def e4 (x : MFork) (k : Int) := Z133.md ((x.fBefore).fSigs) (IntKind.i64.wrap ((IntKind.i64.wrap ((e3 x k) + 1)) + 1))
def e5 (x : MFork) (k : Int) := Z132.md ((((x.fA).fHead).fKeys).fList) (IntKind.i64.wrap ((IntKind.i64.wrap ((IntKind.i64.wrap ((IntKind.i64.wrap ((IntKind.i64.wrap ((IntKind.i64.wrap ((IntKind.i64.wrap ((IntKind.i64.wrap ((e4 x k) + 1)) + 1)) + 1)) + 1)) + 1)) + 1)) + 1)) + 1))
def e6 (x : MFork) (k : Int) := Z132.md ((((x.fA).fHead).fHeirs).fList) (IntKind.i64.wrap ((e5 x k) + 1))
def e7 (x : MFork) (k : Int) := Z132.md ((((x.fA).fHead).fJudge).fList) (IntKind.i64.wrap ((IntKind.i64.wrap ((e6 x k) + 1)) + 1))
def e8 (x : MFork) (k : Int) := Z133.md ((x.fA).fSigs) (IntKind.i64.wrap ((IntKind.i64.wrap ((e7 x k) + 1)) + 1))
def e9 (x : MFork) (k : Int) := Z132.md ((((x.fB).fHead).fKeys).fList) (IntKind.i64.wrap ((IntKind.i64.wrap ((IntKind.i64.wrap ((IntKind.i64.wrap ((IntKind.i64.wrap ((IntKind.i64.wrap ((IntKind.i64.wrap ((IntKind.i64.wrap ((e8 x k) + 1)) + 1)) + 1)) + 1)) + 1)) + 1)) + 1)) + 1))
def e10 (x : MFork) (k : Int) := Z132.md ((((x.fB).fHead).fHeirs).fList) (IntKind.i64.wrap ((e9 x k) + 1))
def e11 (x : MFork) (k : Int) := Z132.md ((((x.fB).fHead).fJudge).fList) (IntKind.i64.wrap ((IntKind.i64.wrap ((e10 x k) + 1)) + 1))
def e12 (x : MFork) (k : Int) := Z133.md ((x.fB).fSigs) (IntKind.i64.wrap ((IntKind.i64.wrap ((e11 x k) + 1)) + 1))
def f (x : MFork) (k : Int) : Option Int := (bif (((x.fBefore).fHead).fZone != k) then none else (bif (((x.fBefore).fHead).fEpoch != (IntKind.i64.wrap (k + 1))) then none else (bif (((x.fBefore).fHead).fKind != (IntKind.i64.wrap ((IntKind.i64.wrap (k + 1)) + 1))) then none else (bif (((x.fBefore).fHead).fTime != (IntKind.i64.wrap ((IntKind.i64.wrap ((IntKind.i64.wrap (k + 1)) + 1)) + 1))) then none else (bif (((x.fBefore).fHead).fUntil != (IntKind.i64.wrap ((IntKind.i64.wrap ((IntKind.i64.wrap ((IntKind.i64.wrap (k + 1)) + 1)) + 1)) + 1))) then none else (bif (((x.fBefore).fHead).fCount != (IntKind.i64.wrap ((IntKind.i64.wrap ((IntKind.i64.wrap ((IntKind.i64.wrap ((IntKind.i64.wrap (k + 1)) + 1)) + 1)) + 1)) + 1))) then none else (bif (((x.fBefore).fHead).fRoot != (IntKind.i64.wrap ((IntKind.i64.wrap ((IntKind.i64.wrap ((IntKind.i64.wrap ((IntKind.i64.wrap ((IntKind.i64.wrap (k + 1)) + 1)) + 1)) + 1)) + 1)) + 1))) then none else (bif (((x.fBefore).fHead).fPrev != (IntKind.i64.wrap ((IntKind.i64.wrap ((IntKind.i64.wrap ((IntKind.i64.wrap ((IntKind.i64.wrap ((IntKind.i64.wrap ((IntKind.i64.wrap (k + 1)) + 1)) + 1)) + 1)) + 1)) + 1)) + 1))) then none else (bif (decide ((e1 x k) < 0)) then none else (bif ((((x.fBefore).fHead).fKeys).fNeed != (e1 x k)) then none else (bif (decide ((e2 x k) < 0)) then none else (bif ((((x.fBefore).fHead).fHeirs).fNeed != (e2 x k)) then none else (bif (((x.fBefore).fHead).fWait != (IntKind.i64.wrap ((e2 x k) + 1))) then none else (bif (decide ((e3 x k) < 0)) then none else (bif ((((x.fBefore).fHead).fJudge).fNeed != (e3 x k)) then none else (bif (!(((x.fBefore).fHead).fFrozen == ((Int.tmod (IntKind.i64.wrap ((e3 x k) + 1)) 3) == 0))) then none else (bif (decide ((e4 x k) < 0)) then none else (bif (((x.fA).fHead).fZone != (e4 x k)) then none else (bif (((x.fA).fHead).fEpoch != (IntKind.i64.wrap ((e4 x k) + 1))) then none else (bif (((x.fA).fHead).fKind != (IntKind.i64.wrap ((IntKind.i64.wrap ((e4 x k) + 1)) + 1))) then none else (bif (((x.fA).fHead).fTime != (IntKind.i64.wrap ((IntKind.i64.wrap ((IntKind.i64.wrap ((e4 x k) + 1)) + 1)) + 1))) then none else (bif (((x.fA).fHead).fUntil != (IntKind.i64.wrap ((IntKind.i64.wrap ((IntKind.i64.wrap ((IntKind.i64.wrap ((e4 x k) + 1)) + 1)) + 1)) + 1))) then none else (bif (((x.fA).fHead).fCount != (IntKind.i64.wrap ((IntKind.i64.wrap ((IntKind.i64.wrap ((IntKind.i64.wrap ((IntKind.i64.wrap ((e4 x k) + 1)) + 1)) + 1)) + 1)) + 1))) then none else (bif (((x.fA).fHead).fRoot != (IntKind.i64.wrap ((IntKind.i64.wrap ((IntKind.i64.wrap ((IntKind.i64.wrap ((IntKind.i64.wrap ((IntKind.i64.wrap ((e4 x k) + 1)) + 1)) + 1)) + 1)) + 1)) + 1))) then none else (bif (((x.fA).fHead).fPrev != (IntKind.i64.wrap ((IntKind.i64.wrap ((IntKind.i64.wrap ((IntKind.i64.wrap ((IntKind.i64.wrap ((IntKind.i64.wrap ((IntKind.i64.wrap ((e4 x k) + 1)) + 1)) + 1)) + 1)) + 1)) + 1)) + 1))) then none else (bif (decide ((e5 x k) < 0)) then none else (bif ((((x.fA).fHead).fKeys).fNeed != (e5 x k)) then none else (bif (decide ((e6 x k) < 0)) then none else (bif ((((x.fA).fHead).fHeirs).fNeed != (e6 x k)) then none else (bif (((x.fA).fHead).fWait != (IntKind.i64.wrap ((e6 x k) + 1))) then none else (bif (decide ((e7 x k) < 0)) then none else (bif ((((x.fA).fHead).fJudge).fNeed != (e7 x k)) then none else (bif (!(((x.fA).fHead).fFrozen == ((Int.tmod (IntKind.i64.wrap ((e7 x k) + 1)) 3) == 0))) then none else (bif (decide ((e8 x k) < 0)) then none else (bif (((x.fB).fHead).fZone != (e8 x k)) then none else (bif (((x.fB).fHead).fEpoch != (IntKind.i64.wrap ((e8 x k) + 1))) then none else (bif (((x.fB).fHead).fKind != (IntKind.i64.wrap ((IntKind.i64.wrap ((e8 x k) + 1)) + 1))) then none else (bif (((x.fB).fHead).fTime != (IntKind.i64.wrap ((IntKind.i64.wrap ((IntKind.i64.wrap ((e8 x k) + 1)) + 1)) + 1))) then none else (bif (((x.fB).fHead).fUntil != (IntKind.i64.wrap ((IntKind.i64.wrap ((IntKind.i64.wrap ((IntKind.i64.wrap ((e8 x k) + 1)) + 1)) + 1)) + 1))) then none else (bif (((x.fB).fHead).fCount != (IntKind.i64.wrap ((IntKind.i64.wrap ((IntKind.i64.wrap ((IntKind.i64.wrap ((IntKind.i64.wrap ((e8 x k) + 1)) + 1)) + 1)) + 1)) + 1))) then none else (bif (((x.fB).fHead).fRoot != (IntKind.i64.wrap ((IntKind.i64.wrap ((IntKind.i64.wrap ((IntKind.i64.wrap ((IntKind.i64.wrap ((IntKind.i64.wrap ((e8 x k) + 1)) + 1)) + 1)) + 1)) + 1)) + 1))) then none else (bif (((x.fB).fHead).fPrev != (IntKind.i64.wrap ((IntKind.i64.wrap ((IntKind.i64.wrap ((IntKind.i64.wrap ((IntKind.i64.wrap ((IntKind.i64.wrap ((IntKind.i64.wrap ((e8 x k) + 1)) + 1)) + 1)) + 1)) + 1)) + 1)) + 1))) then none else (bif (decide ((e9 x k) < 0)) then none else (bif ((((x.fB).fHead).fKeys).fNeed != (e9 x k)) then none else (bif (decide ((e10 x k) < 0)) then none else (bif ((((x.fB).fHead).fHeirs).fNeed != (e10 x k)) then none else (bif (((x.fB).fHead).fWait != (IntKind.i64.wrap ((e10 x k) + 1))) then none else (bif (decide ((e11 x k) < 0)) then none else (bif ((((x.fB).fHead).fJudge).fNeed != (e11 x k)) then none else (bif (!(((x.fB).fHead).fFrozen == ((Int.tmod (IntKind.i64.wrap ((e11 x k) + 1)) 3) == 0))) then none else (bif (decide ((e12 x k) < 0)) then none else (some (e12 x k)))))))))))))))))))))))))))))))))))))))))))))))))))))
theorem f_I (x : MFork) (k k2 : Int) (hk : I64 k) (h : f x k = some k2) : I64 k2 := by
 unfold f at h
 have h := bif_some h
 have h := bif_some h
 have h := bif_some h
 have h := bif_some h
 have h := bif_some h
 have h := bif_some h
 have h := bif_some h
 have h := bif_some h
 have h := bif_some h
 have h := bif_some h
 have h := bif_some h
 have h := bif_some h
 have h := bif_some h
 have h := bif_some h
 have h := bif_some h
 have h := bif_some h
 have h := bif_some h
 have h := bif_some h
 have h := bif_some h
 have h := bif_some h
 have h := bif_some h
 have h := bif_some h
 have h := bif_some h
 have h := bif_some h
 have h := bif_some h
 have h := bif_some h
 have h := bif_some h
 have h := bif_some h
 have h := bif_some h
 have h := bif_some h
 have h := bif_some h
 have h := bif_some h
 have h := bif_some h
 have h := bif_some h
 have h := bif_some h
 have h := bif_some h
 have h := bif_some h
 have h := bif_some h
 have h := bif_some h
 have h := bif_some h
 have h := bif_some h
 have h := bif_some h
 have h := bif_some h
 have h := bif_some h
 have h := bif_some h
 have h := bif_some h
 have h := bif_some h
 have h := bif_some h
 have h := bif_some h
 have h := bif_some h
 have h := bif_some h
 injection h with h
 subst h
 exact (Z133.i64 (wrap_I64 _))
def md (a0 : List MFork) (a1 : Int) : Int := heldM f a0 a1
def gd (a0 : List MFork) (a1 : Int) : Prop := I64 a1
def acc (ls : List L) : List (List L) × Int := ((ls.headD .hole).toSl, ((dropT 1 ls).headD .hole).toInt)
def R : (List (List L) × Int) → Option Int := RR (p2 gd) (u2 md)
theorem R_eq {a0} {a1} (h : gd a0 a1) : R ((a0.map MFork.row), a1) = some (md a0 a1) := RR_eq (a := (a0, a1)) h
def con : Con := CN pats res acc R
theorem okF (a0 : List MFork) (a1 : Int) (hg : gd a0 a1) (h0 : a0.length ≤ maxLen) : ∃ n, start (iter step n) (a0.map MFork.row) a1 = ret ((md a0 a1) : Int) := by
  unfold gd at hg
  show ∃ n, iter step n (Pt.p0 (a0.map MFork.row) a1 0) = _
  unfold md
  refine held_loop (f := f) (xs := a0) MFork.zero I64 f_I (pt := fun i k => Pt.p0 (a0.map MFork.row) k (i : Int)) (fun J i k hi hk => ?_) (fun J k => ?_) hg
  · simp only [step, S0, MKeys.rs, MHead.rs, MSigned.rs, MFork.rs]
    refine yes_ret (lt_dec hi) ?_
    refine yes_ret zle_dec ?_
    refine yes_ret (lt_dec hi) ?_
    refine held_bif rfl ?_
    refine yes_ret zle_dec ?_
    refine yes_ret (lt_dec hi) ?_
    refine held_bif rfl ?_
    refine yes_ret zle_dec ?_
    refine yes_ret (lt_dec hi) ?_
    refine held_bif rfl ?_
    refine yes_ret zle_dec ?_
    refine yes_ret (lt_dec hi) ?_
    refine held_bif rfl ?_
    refine yes_ret zle_dec ?_
    refine yes_ret (lt_dec hi) ?_
    refine held_bif rfl ?_
    refine yes_ret zle_dec ?_
    refine yes_ret (lt_dec hi) ?_
    refine held_bif rfl ?_
    refine yes_ret zle_dec ?_
    refine yes_ret (lt_dec hi) ?_
    refine held_bif rfl ?_
    refine yes_ret zle_dec ?_
    refine yes_ret (lt_dec hi) ?_
    refine held_bif rfl ?_
    refine yes_ret zle_dec ?_
    refine yes_ret (lt_dec hi) ?_
    refine call_to (e1 (a0.getD i MFork.zero) k) (Z132.R_eq (a0 := ((((a0.getD i MFork.zero).fBefore).fHead).fKeys).fList) (a1 := IntKind.i64.wrap ((IntKind.i64.wrap ((IntKind.i64.wrap ((IntKind.i64.wrap ((IntKind.i64.wrap ((IntKind.i64.wrap ((IntKind.i64.wrap ((IntKind.i64.wrap (k + 1)) + 1)) + 1)) + 1)) + 1)) + 1)) + 1)) + 1)) (wrap_I64 _)) ?_
    refine held_bif rfl ?_
    refine yes_ret zle_dec ?_
    refine yes_ret (lt_dec hi) ?_
    refine held_bif rfl ?_
    refine yes_ret zle_dec ?_
    refine yes_ret (lt_dec hi) ?_
    refine call_to (e2 (a0.getD i MFork.zero) k) (Z132.R_eq (a0 := ((((a0.getD i MFork.zero).fBefore).fHead).fHeirs).fList) (a1 := IntKind.i64.wrap ((e1 (a0.getD i MFork.zero) k) + 1)) (wrap_I64 _)) ?_
    refine held_bif rfl ?_
    refine yes_ret zle_dec ?_
    refine yes_ret (lt_dec hi) ?_
    refine held_bif rfl ?_
    refine yes_ret zle_dec ?_
    refine yes_ret (lt_dec hi) ?_
    refine held_bif rfl ?_
    refine yes_ret zle_dec ?_
    refine yes_ret (lt_dec hi) ?_
    refine call_to (e3 (a0.getD i MFork.zero) k) (Z132.R_eq (a0 := ((((a0.getD i MFork.zero).fBefore).fHead).fJudge).fList) (a1 := IntKind.i64.wrap ((IntKind.i64.wrap ((e2 (a0.getD i MFork.zero) k) + 1)) + 1)) (wrap_I64 _)) ?_
    refine held_bif rfl ?_
    refine yes_ret zle_dec ?_
    refine yes_ret (lt_dec hi) ?_
    refine held_bif rfl ?_
    refine yes_ret zle_dec ?_
    refine yes_ret (lt_dec hi) ?_
    refine held_bif rfl ?_
    refine yes_ret zle_dec ?_
    refine yes_ret (lt_dec hi) ?_
    refine call_to (e4 (a0.getD i MFork.zero) k) (Z133.R_eq (a0 := ((a0.getD i MFork.zero).fBefore).fSigs) (a1 := IntKind.i64.wrap ((IntKind.i64.wrap ((e3 (a0.getD i MFork.zero) k) + 1)) + 1)) (wrap_I64 _)) ?_
    refine held_bif rfl ?_
    refine yes_ret zle_dec ?_
    refine yes_ret (lt_dec hi) ?_
    refine held_bif rfl ?_
    refine yes_ret zle_dec ?_
    refine yes_ret (lt_dec hi) ?_
    refine held_bif rfl ?_
    refine yes_ret zle_dec ?_
    refine yes_ret (lt_dec hi) ?_
    refine held_bif rfl ?_
    refine yes_ret zle_dec ?_
    refine yes_ret (lt_dec hi) ?_
    refine held_bif rfl ?_
    refine yes_ret zle_dec ?_
    refine yes_ret (lt_dec hi) ?_
    refine held_bif rfl ?_
    refine yes_ret zle_dec ?_
    refine yes_ret (lt_dec hi) ?_
    refine held_bif rfl ?_
    refine yes_ret zle_dec ?_
    refine yes_ret (lt_dec hi) ?_
    refine held_bif rfl ?_
    refine yes_ret zle_dec ?_
    refine yes_ret (lt_dec hi) ?_
    refine held_bif rfl ?_
    refine yes_ret zle_dec ?_
    refine yes_ret (lt_dec hi) ?_
    refine call_to (e5 (a0.getD i MFork.zero) k) (Z132.R_eq (a0 := ((((a0.getD i MFork.zero).fA).fHead).fKeys).fList) (a1 := IntKind.i64.wrap ((IntKind.i64.wrap ((IntKind.i64.wrap ((IntKind.i64.wrap ((IntKind.i64.wrap ((IntKind.i64.wrap ((IntKind.i64.wrap ((IntKind.i64.wrap ((e4 (a0.getD i MFork.zero) k) + 1)) + 1)) + 1)) + 1)) + 1)) + 1)) + 1)) + 1)) (wrap_I64 _)) ?_
    refine held_bif rfl ?_
    refine yes_ret zle_dec ?_
    refine yes_ret (lt_dec hi) ?_
    refine held_bif rfl ?_
    refine yes_ret zle_dec ?_
    refine yes_ret (lt_dec hi) ?_
    refine call_to (e6 (a0.getD i MFork.zero) k) (Z132.R_eq (a0 := ((((a0.getD i MFork.zero).fA).fHead).fHeirs).fList) (a1 := IntKind.i64.wrap ((e5 (a0.getD i MFork.zero) k) + 1)) (wrap_I64 _)) ?_
    refine held_bif rfl ?_
    refine yes_ret zle_dec ?_
    refine yes_ret (lt_dec hi) ?_
    refine held_bif rfl ?_
    refine yes_ret zle_dec ?_
    refine yes_ret (lt_dec hi) ?_
    refine held_bif rfl ?_
    refine yes_ret zle_dec ?_
    refine yes_ret (lt_dec hi) ?_
    refine call_to (e7 (a0.getD i MFork.zero) k) (Z132.R_eq (a0 := ((((a0.getD i MFork.zero).fA).fHead).fJudge).fList) (a1 := IntKind.i64.wrap ((IntKind.i64.wrap ((e6 (a0.getD i MFork.zero) k) + 1)) + 1)) (wrap_I64 _)) ?_
    refine held_bif rfl ?_
    refine yes_ret zle_dec ?_
    refine yes_ret (lt_dec hi) ?_
    refine held_bif rfl ?_
    refine yes_ret zle_dec ?_
    refine yes_ret (lt_dec hi) ?_
    refine held_bif rfl ?_
    refine yes_ret zle_dec ?_
    refine yes_ret (lt_dec hi) ?_
    refine call_to (e8 (a0.getD i MFork.zero) k) (Z133.R_eq (a0 := ((a0.getD i MFork.zero).fA).fSigs) (a1 := IntKind.i64.wrap ((IntKind.i64.wrap ((e7 (a0.getD i MFork.zero) k) + 1)) + 1)) (wrap_I64 _)) ?_
    refine held_bif rfl ?_
    refine yes_ret zle_dec ?_
    refine yes_ret (lt_dec hi) ?_
    refine held_bif rfl ?_
    refine yes_ret zle_dec ?_
    refine yes_ret (lt_dec hi) ?_
    refine held_bif rfl ?_
    refine yes_ret zle_dec ?_
    refine yes_ret (lt_dec hi) ?_
    refine held_bif rfl ?_
    refine yes_ret zle_dec ?_
    refine yes_ret (lt_dec hi) ?_
    refine held_bif rfl ?_
    refine yes_ret zle_dec ?_
    refine yes_ret (lt_dec hi) ?_
    refine held_bif rfl ?_
    refine yes_ret zle_dec ?_
    refine yes_ret (lt_dec hi) ?_
    refine held_bif rfl ?_
    refine yes_ret zle_dec ?_
    refine yes_ret (lt_dec hi) ?_
    refine held_bif rfl ?_
    refine yes_ret zle_dec ?_
    refine yes_ret (lt_dec hi) ?_
    refine held_bif rfl ?_
    refine yes_ret zle_dec ?_
    refine yes_ret (lt_dec hi) ?_
    refine call_to (e9 (a0.getD i MFork.zero) k) (Z132.R_eq (a0 := ((((a0.getD i MFork.zero).fB).fHead).fKeys).fList) (a1 := IntKind.i64.wrap ((IntKind.i64.wrap ((IntKind.i64.wrap ((IntKind.i64.wrap ((IntKind.i64.wrap ((IntKind.i64.wrap ((IntKind.i64.wrap ((IntKind.i64.wrap ((e8 (a0.getD i MFork.zero) k) + 1)) + 1)) + 1)) + 1)) + 1)) + 1)) + 1)) + 1)) (wrap_I64 _)) ?_
    refine held_bif rfl ?_
    refine yes_ret zle_dec ?_
    refine yes_ret (lt_dec hi) ?_
    refine held_bif rfl ?_
    refine yes_ret zle_dec ?_
    refine yes_ret (lt_dec hi) ?_
    refine call_to (e10 (a0.getD i MFork.zero) k) (Z132.R_eq (a0 := ((((a0.getD i MFork.zero).fB).fHead).fHeirs).fList) (a1 := IntKind.i64.wrap ((e9 (a0.getD i MFork.zero) k) + 1)) (wrap_I64 _)) ?_
    refine held_bif rfl ?_
    refine yes_ret zle_dec ?_
    refine yes_ret (lt_dec hi) ?_
    refine held_bif rfl ?_
    refine yes_ret zle_dec ?_
    refine yes_ret (lt_dec hi) ?_
    refine held_bif rfl ?_
    refine yes_ret zle_dec ?_
    refine yes_ret (lt_dec hi) ?_
    refine call_to (e11 (a0.getD i MFork.zero) k) (Z132.R_eq (a0 := ((((a0.getD i MFork.zero).fB).fHead).fJudge).fList) (a1 := IntKind.i64.wrap ((IntKind.i64.wrap ((e10 (a0.getD i MFork.zero) k) + 1)) + 1)) (wrap_I64 _)) ?_
    refine held_bif rfl ?_
    refine yes_ret zle_dec ?_
    refine yes_ret (lt_dec hi) ?_
    refine held_bif rfl ?_
    refine yes_ret zle_dec ?_
    refine yes_ret (lt_dec hi) ?_
    refine held_bif rfl ?_
    refine yes_ret zle_dec ?_
    refine yes_ret (lt_dec hi) ?_
    refine call_to (e12 (a0.getD i MFork.zero) k) (Z133.R_eq (a0 := ((a0.getD i MFork.zero).fB).fSigs) (a1 := IntKind.i64.wrap ((IntKind.i64.wrap ((e11 (a0.getD i MFork.zero) k) + 1)) + 1)) (wrap_I64 _)) ?_
    refine held_bif rfl ?_
    rw [wrap_succ hi h0]
    rfl
  · simp only [step, S0, MKeys.rs, MHead.rs, MSigned.rs, MFork.rs]
    refine no_ret (by apply decide_eq_false; omega) ?_
    rfl
theorem valid_ : Valid Tryz.prog Ev 90 con := VV (run := fun n x => start (iter step n) x.1 x.2) mix tab_ok (.cons Z132.valid_ (.cons Z133.valid_ .nil)) Tryz.func90 (by kernel_rfl) run_eq (fun ls a hl e hg => okF a.1 a.2 hg (by have h : (ls.headD .hole).toSl.length ≤ maxLen := hl.1.len; have e : a.1.map MFork.row = (ls.headD .hole).toSl := (congrArg (fun x => x.1) e.symm); rw [← e] at h; simpa using h))
theorem i64 {a0 : List MFork} {a1 : Int} (h : I64 a1) : I64 (md a0 a1) := heldM_I f_I I64_neg h
theorem elh (x : MFork) (k : Int) (h0 : 0 ≤ k) (hb : k + (Z130.cnt x : Int) ≤ 4611686018427387904) : f (Z130.el x k).2 k = some (k + Z130.cnt x) := by
 simp only [Z130.cnt, Int.natCast_add] at hb ⊢
 simp (disch := omega) only [Z130.el, f, Z130.e1, Z130.e2, Z130.e3, Z130.e4, Z130.e5, Z130.e6, Z130.e7, Z130.e8, Z130.e9, Z130.e10, Z130.e11, Z130.e12, e1, e2, e3, e4, e5, e6, e7, e8, e9, e10, e11, e12, wi, Z126.kk, Z132.mk, Z127.kk, Z133.mk, bne_self_eq_false, beq_self_eq_true, ba_refl, Bool.not_true, cond_false, dec_neg]
 all_goals first | done | omega | (congr 1 <;> omega)
theorem mk (a0 : List MFork) (a1 : Int) (h0 : 0 ≤ a1) (hb : a1 + (Z130.sum a0 : Int) ≤ 4611686018427387904) : md (Z130.md a0 a1).2 a1 = a1 + Z130.sum a0 := held_mark Z130.elk elh a0 a1 h0 hb
end Z136
namespace Z137
set_option maxHeartbeats 8000000
def F (x0 : RKnown) (x1 : Int) : Ans := (call (Z135.R (x0.fChains, x1)) fun v1 => (bif (decide (v1 < 0)) then ret ((-1) : Int) else (call (Z136.R (x0.fForks, v1)) fun v2 => (bif (decide (v2 < 0)) then ret ((-1) : Int) else ret (v2 : Int)))))
def pats : List Pat := [.agg [.sl 38, .sl 134], .rd (.int .i64)]
def res : RP := .one (.rd (.int .i64))
def e1 (x : MKnown) (k : Int) := Z135.md x.fChains k
def e2 (x : MKnown) (k : Int) := Z136.md x.fForks (e1 x k)
def f (x : MKnown) (k : Int) : Option Int := (bif (decide ((e1 x k) < 0)) then none else (bif (decide ((e2 x k) < 0)) then none else (some ((e2 x k) : Int))))
def md (a0 : MKnown) (a1 : Int) : Int := heldO (f a0 a1)
def gd (a0 : MKnown) (a1 : Int) : Prop := I64 a1
def acc (ls : List L) : RKnown × Int := ((RKnown.dec ls), ((dropT 2 ls).headD .hole).toInt)
def R : (RKnown × Int) → Option Int := RR (p2 gd) (u2 md)
theorem R_eq {a0} {a1} (h : gd a0 a1) : R ((MKnown.r a0), a1) = some (md a0 a1) := RR_eq (a := (a0, a1)) h
def con : Con := CN pats res acc R
theorem okF (a0 : MKnown) (a1 : Int) (hg : gd a0 a1) : F (MKnown.r a0) a1 = ret ((md a0 a1) : Int) := by
 unfold gd at hg
 simp only [F, S0, MKnown.rs]
 unfold md
 refine call_to (e1 a0 a1) (Z135.R_eq (a0 := a0.fChains) (a1 := a1) hg) ?_
 refine held_bif_ret rfl ?_
 refine call_to (e2 a0 a1) (Z136.R_eq (a0 := a0.fForks) (a1 := e1 a0 a1) (Z135.i64 hg)) ?_
 refine held_bif_ret rfl ?_
 first | rfl | (simp only [S0, MKnown.rs]; rfl)
theorem valid_ : Valid Tryz.prog Ev 30 con := VV (live := fun _ => []) (nt := 18) (run := fun _ x => F x.1 x.2) mix tab_ok (.cons Z135.valid_ (.cons Z136.valid_ .nil)) Tryz.func30 (by kernel_rfl) (fun _ _ => by kernel_rfl) (fun _ a _ _ hg => ⟨0, okF a.1 a.2 hg⟩)
theorem i64 {a0 : MKnown} {a1 : Int} (hk : I64 a1) : I64 (md a0 a1) := by
 unfold md
 cases h : f a0 a1 with
 | none => exact I64_neg
 | some k2 =>
  unfold f at h
  have h := bif_some h
  have h := bif_some h
  injection h with h
  subst h
  exact (Z136.i64 (Z135.i64 hk))
theorem mk (x : MKnown) (k : Int) (h0 : 0 ≤ k) (hb : k + (Z131.sum x : Int) ≤ 4611686018427387904) : md (Z131.upd x k) k = k + Z131.sum x := by
 simp only [Z131.sum, Int.natCast_add] at hb ⊢
 simp (disch := omega) only [Z131.md, Z131.upd, md, f, heldO, Z131.e1, Z131.e2, e1, e2, wi, Z129.kk, Z135.mk, Z130.kk, Z136.mk, cond_false, dec_neg]
 all_goals first | done | omega
end Z137
namespace Z138
def F (x0 : RKnown) (x1 : List (List L)) : Ans := (call (Z9.R (x0, 1048576)) fun v1 => (bif (decide (v1 < 0)) then ret (true : Bool) else (call (Z5.R (x1, v1)) fun v2 => (bif (decide (v2 < 0)) then ret (true : Bool) else (call (Z20.R x0) fun v3 => (call (Z16.R x1) fun v4 => (call (Z58.R (v3, v4)) fun v5 => (call (Z20.R x0) fun v6 => (call (Z16.R x1) fun v7 => (call (Z114.R (v6, v7)) fun v8 => (call (Z125.R (v8.1, v5.1)) fun v9 => (bif (!v9) then ret (false : Bool) else (bif (v8.2 != v5.2) then ret (false : Bool) else (call (Z20.R x0) fun v10 => (call (Z125.R (v6, v10)) fun v11 => (bif (!v11) then ret (false : Bool) else (call (Z16.R x1) fun v12 => (call (Z121.R (v7, v12)) fun v13 => (bif (!v13) then ret (false : Bool) else (call (Z131.R (v6, 1)) fun v14 => (call (Z128.R (v7, v14.1)) fun v15 => (bif (decide (v15.1 < 0)) then ret (false : Bool) else (call (Z125.R (v8.1, v5.1)) fun v16 => (bif (!v16) then ret (false : Bool) else (bif (v8.2 != v5.2) then ret (false : Bool) else (call (Z131.R (v8.1, 1)) fun v17 => (call (Z137.R ((⟨v17.2.1, v17.2.2⟩ : RKnown), 1)) fun v18 => (bif (decide (v18 < 0)) then ret (false : Bool) else (bif (v18 != v17.1) then ret (false : Bool) else (call (Z20.R x0) fun v19 => (call (Z16.R x1) fun v20 => (call (Z114.R (v19, v20)) fun v21 => (call (Z125.R (v21.1, v5.1)) fun v22 => (bif (!v22) then ret (false : Bool) else (bif (v21.2 != v5.2) then ret (false : Bool) else (call (Z137.R ((⟨v17.2.1, v17.2.2⟩ : RKnown), 1)) fun v23 => (bif (decide (v23 < 0)) then ret (false : Bool) else (bif (v23 != v17.1) then ret (false : Bool) else ret (true : Bool)))))))))))))))))))))))))))))))))))))))
def pats : List Pat := [.agg [.sl 31, .sl 187], .rd (.sl 114)]
def res : RP := .one (.rd (.bool))
def md (a0 : MKnown) (a1 : List MSigned) : Bool := true
def gd (a0 : MKnown) (a1 : List MSigned) : Prop := (MKnown.Sm maxLen a0) ∧ (SmL maxLen (fun y : MSigned => MSigned.Sm maxLen y) a1)
def acc (ls : List L) : RKnown × List (List L) := ((RKnown.dec ls), ((dropT 2 ls).headD .hole).toSl)
def R : (RKnown × List (List L)) → Option Bool := RR (p2 gd) (u2 md)
theorem R_eq {a0} {a1} (h : gd a0 a1) : R ((MKnown.r a0), (a1.map MSigned.row)) = some (md a0 a1) := RR_eq (a := (a0, a1)) h
def con : Con := CN pats res acc R
theorem okF (a0 : MKnown) (a1 : List MSigned) (hg : gd a0 a1) : F (MKnown.r a0) (a1.map MSigned.row) = ret ((md a0 a1) : Bool) := by
  unfold md
  show (call (Z9.R ((MKnown.r a0), 1048576)) fun v1 => (bif (decide (v1 < 0)) then ret (true : Bool) else (call (Z5.R ((a1.map MSigned.row), v1)) fun v2 => (bif (decide (v2 < 0)) then ret (true : Bool) else (call (Z20.R (MKnown.r a0)) fun v3 => (call (Z16.R (a1.map MSigned.row)) fun v4 => (call (Z58.R (v3, v4)) fun v5 => (call (Z20.R (MKnown.r a0)) fun v6 => (call (Z16.R (a1.map MSigned.row)) fun v7 => (call (Z114.R (v6, v7)) fun v8 => (call (Z125.R (v8.1, v5.1)) fun v9 => (bif (!v9) then ret (false : Bool) else (bif (v8.2 != v5.2) then ret (false : Bool) else (call (Z20.R (MKnown.r a0)) fun v10 => (call (Z125.R (v6, v10)) fun v11 => (bif (!v11) then ret (false : Bool) else (call (Z16.R (a1.map MSigned.row)) fun v12 => (call (Z121.R (v7, v12)) fun v13 => (bif (!v13) then ret (false : Bool) else (call (Z131.R (v6, 1)) fun v14 => (call (Z128.R (v7, v14.1)) fun v15 => (bif (decide (v15.1 < 0)) then ret (false : Bool) else (call (Z125.R (v8.1, v5.1)) fun v16 => (bif (!v16) then ret (false : Bool) else (bif (v8.2 != v5.2) then ret (false : Bool) else (call (Z131.R (v8.1, 1)) fun v17 => (call (Z137.R ((⟨v17.2.1, v17.2.2⟩ : RKnown), 1)) fun v18 => (bif (decide (v18 < 0)) then ret (false : Bool) else (bif (v18 != v17.1) then ret (false : Bool) else (call (Z20.R (MKnown.r a0)) fun v19 => (call (Z16.R (a1.map MSigned.row)) fun v20 => (call (Z114.R (v19, v20)) fun v21 => (call (Z125.R (v21.1, v5.1)) fun v22 => (bif (!v22) then ret (false : Bool) else (bif (v21.2 != v5.2) then ret (false : Bool) else (call (Z137.R ((⟨v17.2.1, v17.2.2⟩ : RKnown), 1)) fun v23 => (bif (decide (v23 < 0)) then ret (false : Bool) else (bif (v23 != v17.1) then ret (false : Bool) else ret (true : Bool))))))))))))))))))))))))))))))))))))))) = _
  rw [call_eq (Z9.R_eq (a1 := (1048576 : Int)) ⟨hg.1, by omega, by omega⟩)]
  unfold Z9.md
  by_cases c0 : (1048576 : Int) < (((MKnown.size a0) : Nat) : Int)
  · rw [szM_neg c0]; rfl
  rw [szM_pos c0, dec_neg (by omega)]
  simp only [cond_false]
  have s0 : MKnown.Sm (2 ^ 20) a0 := (MKnown.Sm_of (by omega))
  rw [call_eq (Z5.R_eq (a1 := (1048576 - (((MKnown.size a0) : Nat) : Int) : Int)) ⟨hg.2, by omega, by omega⟩)]
  unfold Z5.md
  by_cases c1 : (1048576 - (((MKnown.size a0) : Nat) : Int) : Int) < (((szL (fun y : MSigned => MSigned.size y) a1) : Nat) : Int)
  · rw [szM_neg c1]; rfl
  rw [szM_pos c1, dec_neg (by omega)]
  simp only [cond_false]
  have s1 : SmL (2 ^ 20) (fun y : MSigned => MSigned.Sm (2 ^ 20) y) a1 := (szL_sm (f := fun y : MSigned => MSigned.size y) (by omega) (fun x hx => (MSigned.Sm_of hx)))
  refine call_to (MKnown.r a0) (Z20.R_eq (a0 := a0) (MKnown.Sm_mono (by decide) s0)) ?_
  refine call_to (a1.map MSigned.row) (Z16.R_eq (a0 := a1) (s1.mono (by decide) (fun x hx => (MSigned.Sm_mono (by decide) hx)))) ?_
  refine call_to ((MKnown.r (Z58.md a0 a1).1), (Z58.md a0 a1).2) (Z58.R_eq (a0 := a0) (a1 := a1) (by
    have := And.intro trivial trivial
    unfold Z58.gd
    first | exact (MKnown.Sm_mono (by decide) s0) | refine ⟨(MKnown.Sm_mono (by decide) s0), (s1.mono (by decide) (fun x hx => (MSigned.Sm_mono (by decide) hx)))⟩)) ?_
  refine call_to (MKnown.r a0) (Z20.R_eq (a0 := a0) (MKnown.Sm_mono (by decide) s0)) ?_
  refine call_to (a1.map MSigned.row) (Z16.R_eq (a0 := a1) (s1.mono (by decide) (fun x hx => (MSigned.Sm_mono (by decide) hx)))) ?_
  have r_ := Z114.R_eq (a0 := a0) (a1 := a1) (by
    have := And.intro trivial trivial
    unfold Z114.gd
    first | exact (MKnown.Sm_mono (by decide) s0) | refine ⟨(MKnown.Sm_mono (by decide) s0), (s1.mono (by decide) (fun x hx => (MSigned.Sm_mono (by decide) hx)))⟩)
  rw [Z114.br] at r_
  refine call_to ((MKnown.r (Z58.md a0 a1).1), (Z58.md a0 a1).2) r_ ?_
  clear r_
  refine call_to _ (Z125.R_eq (a0 := ((Z58.md a0 a1).1)) (a1 := ((Z58.md a0 a1).1)) trivial) ?_
  refine no_ret (by first | (simp only [bne_self_eq_false, beq_self_eq_true, ba_refl, eqB_refl, Bool.not_true, Z125.md]; done) | (refine bne_eq_false_iff_eq.2 ?_; omega)) ?_
  refine no_ret (by first | (simp only [bne_self_eq_false, beq_self_eq_true, ba_refl, eqB_refl, Bool.not_true, Z125.md]; done) | (refine bne_eq_false_iff_eq.2 ?_; omega)) ?_
  refine call_to (MKnown.r a0) (Z20.R_eq (a0 := a0) (MKnown.Sm_mono (by decide) s0)) ?_
  refine call_to _ (Z125.R_eq (a0 := a0) (a1 := a0) trivial) ?_
  refine no_ret (by first | (simp only [bne_self_eq_false, beq_self_eq_true, ba_refl, eqB_refl, Bool.not_true, Z125.md]; done) | (refine bne_eq_false_iff_eq.2 ?_; omega)) ?_
  refine call_to (a1.map MSigned.row) (Z16.R_eq (a0 := a1) (s1.mono (by decide) (fun x hx => (MSigned.Sm_mono (by decide) hx)))) ?_
  refine call_to _ (Z121.R_eq (a0 := a1) (a1 := a1) trivial) ?_
  refine no_ret (by first | (simp only [bne_self_eq_false, beq_self_eq_true, ba_refl, eqB_refl, Bool.not_true, Z125.md, Z121.md]; done) | (refine bne_eq_false_iff_eq.2 ?_; omega)) ?_
  have u1 := Z131.sz a0
  refine call_to ((Z131.md a0 1).1, ((Z131.md a0 1).2.1.map (lRow MSigned.row)), ((Z131.md a0 1).2.2.map MFork.row)) (Z131.R_eq (a0 := a0) (a1 := 1) I64_one) ?_
  have k2 := Z131.kk a0 1 (by omega) (by omega)
  have u3 := Z128.sz a1
  refine call_to ((Z128.md a1 ((Z131.md a0 1).1)).1, ((Z128.md a1 ((Z131.md a0 1).1)).2.map MSigned.row)) (Z128.R_eq (a0 := a1) (a1 := (Z131.md a0 1).1) (Z131.i64 I64_one)) ?_
  have k4 := Z128.kk a1 ((Z131.md a0 1).1) (by omega) (by omega)
  refine no_ret (dec_neg (by omega)) ?_
  refine call_to _ (Z125.R_eq (a0 := ((Z58.md a0 a1).1)) (a1 := ((Z58.md a0 a1).1)) trivial) ?_
  refine no_ret (by first | (simp only [bne_self_eq_false, beq_self_eq_true, ba_refl, eqB_refl, Bool.not_true, Z125.md, Z121.md]; done) | (refine bne_eq_false_iff_eq.2 ?_; omega)) ?_
  refine no_ret (by first | (simp only [bne_self_eq_false, beq_self_eq_true, ba_refl, eqB_refl, Bool.not_true, Z125.md, Z121.md]; done) | (refine bne_eq_false_iff_eq.2 ?_; omega)) ?_
  have u5 : Z131.sum ((Z58.md a0 a1).1) ≤ 1000000000000000000 := (by
    have h1 := Z131.sz (Z58.md a0 a1).1
    have hf : ∀ X : List MSigned, MFork.size (Z57.md X a1).1 ≤ 2 * szL (fun y : MSigned => MSigned.size y) X + szL (fun y : MSigned => MSigned.size y) a1 := by
      intro X
      unfold Z57.md
      have z : MFork.size MFork.zero = 0 := rfl
      cases Z52.md X
      · exact Nat.zero_le _
      cases Z52.md a1
      · exact Nat.zero_le _
      cases ((X.getD 0 MSigned.zero).fHead.fZone != (a1.getD 0 MSigned.zero).fHead.fZone)
      case true => exact Nat.zero_le _
      cases h1 : Z55.md X a1
      case true => exact Nat.zero_le _
      cases h2 : Z55.md a1 X
      case true => exact Nat.zero_le _
      obtain ⟨h3, h4, _⟩ := Z57.fk_found h1 h2
      exact Z57.fkAt_sz h3 h4
    have hg := fun i => szL_get0 (f := fun y : List MSigned => szL (fun y : MSigned => MSigned.size y) y) (xs := a0.fChains) (i := i) (z := []) rfl
    have h2 : MKnown.size (Z58.md a0 a1).1 ≤ 3 * MKnown.size a0 + szL (fun y : MSigned => MSigned.size y) a1 + 1 := by
      unfold Z58.md
      have hs := szL_set (f := fun y : List MSigned => szL (fun y : MSigned => MSigned.size y) y) a0.fChains (Int.toNat (Z53.md a0 ((a1.getD 0 MSigned.zero).fHead.fZone))) a1
      have ha := szL_app1 (f := fun y : List MSigned => szL (fun y : MSigned => MSigned.size y) y) a0.fChains a1
      have hk := szL_app1 (f := fun y : MFork => MFork.size y) a0.fForks (Z57.md (a0.fChains.getD (Int.toNat (Z53.md a0 ((a1.getD 0 MSigned.zero).fHead.fZone))) []) a1).1
      have hf1 := hf (a0.fChains.getD (Int.toNat (Z53.md a0 ((a1.getD 0 MSigned.zero).fHead.fZone))) [])
      have hg1 := hg (Int.toNat (Z53.md a0 ((a1.getD 0 MSigned.zero).fHead.fZone)))
      (try simp only at hs); (try simp only at ha); (try simp only at hk); (try simp only at hg1)
      have hd : MKnown.size a0 = szL (fun y : List MSigned => szL (fun y : MSigned => MSigned.size y) y) a0.fChains + szL (fun y : MFork => MFork.size y) a0.fForks := rfl
      have hd2 : ∀ (c : List (List MSigned)) (f : List MFork), MKnown.size ⟨c, f⟩ = szL (fun y : List MSigned => szL (fun y : MSigned => MSigned.size y) y) c + szL (fun y : MFork => MFork.size y) f := fun _ _ => rfl
      simp only [Bool.cond_eq_ite]
      repeat' split
      all_goals (try simp only [hd2]); omega
    omega)
  refine call_to ((Z131.md ((Z58.md a0 a1).1) 1).1, ((Z131.md ((Z58.md a0 a1).1) 1).2.1.map (lRow MSigned.row)), ((Z131.md ((Z58.md a0 a1).1) 1).2.2.map MFork.row)) (Z131.R_eq (a0 := ((Z58.md a0 a1).1)) (a1 := 1) I64_one) ?_
  have k6 := Z131.kk ((Z58.md a0 a1).1) 1 (by omega) (by omega)
  refine call_to (Z137.md (⟨(Z131.md ((Z58.md a0 a1).1) 1).2.1, (Z131.md ((Z58.md a0 a1).1) 1).2.2⟩ : MKnown) 1) (Z137.R_eq (a0 := (⟨(Z131.md ((Z58.md a0 a1).1) 1).2.1, (Z131.md ((Z58.md a0 a1).1) 1).2.2⟩ : MKnown)) (a1 := 1) I64_one) ?_
  have h7 : (Z137.md (⟨(Z131.md ((Z58.md a0 a1).1) 1).2.1, (Z131.md ((Z58.md a0 a1).1) 1).2.2⟩ : MKnown) 1) = 1 + (Z131.sum ((Z58.md a0 a1).1) : Int) := Z137.mk ((Z58.md a0 a1).1) 1 (by omega) (by omega)
  refine no_ret (dec_neg (by omega)) ?_
  refine no_ret (by first | (simp only [bne_self_eq_false, beq_self_eq_true, ba_refl, eqB_refl, Bool.not_true, Z125.md, Z121.md]; done) | (refine bne_eq_false_iff_eq.2 ?_; omega)) ?_
  refine call_to (MKnown.r a0) (Z20.R_eq (a0 := a0) (MKnown.Sm_mono (by decide) s0)) ?_
  refine call_to (a1.map MSigned.row) (Z16.R_eq (a0 := a1) (s1.mono (by decide) (fun x hx => (MSigned.Sm_mono (by decide) hx)))) ?_
  have r_ := Z114.R_eq (a0 := a0) (a1 := a1) (by
    have := And.intro trivial trivial
    unfold Z114.gd
    first | exact (MKnown.Sm_mono (by decide) s0) | refine ⟨(MKnown.Sm_mono (by decide) s0), (s1.mono (by decide) (fun x hx => (MSigned.Sm_mono (by decide) hx)))⟩)
  rw [Z114.br] at r_
  refine call_to ((MKnown.r (Z58.md a0 a1).1), (Z58.md a0 a1).2) r_ ?_
  clear r_
  refine call_to _ (Z125.R_eq (a0 := ((Z58.md a0 a1).1)) (a1 := ((Z58.md a0 a1).1)) trivial) ?_
  refine no_ret (by first | (simp only [bne_self_eq_false, beq_self_eq_true, ba_refl, eqB_refl, Bool.not_true, Z125.md, Z121.md]; done) | (refine bne_eq_false_iff_eq.2 ?_; omega)) ?_
  refine no_ret (by first | (simp only [bne_self_eq_false, beq_self_eq_true, ba_refl, eqB_refl, Bool.not_true, Z125.md, Z121.md]; done) | (refine bne_eq_false_iff_eq.2 ?_; omega)) ?_
  refine call_to (Z137.md (⟨(Z131.md ((Z58.md a0 a1).1) 1).2.1, (Z131.md ((Z58.md a0 a1).1) 1).2.2⟩ : MKnown) 1) (Z137.R_eq (a0 := (⟨(Z131.md ((Z58.md a0 a1).1) 1).2.1, (Z131.md ((Z58.md a0 a1).1) 1).2.2⟩ : MKnown)) (a1 := 1) I64_one) ?_
  have h8 : (Z137.md (⟨(Z131.md ((Z58.md a0 a1).1) 1).2.1, (Z131.md ((Z58.md a0 a1).1) 1).2.2⟩ : MKnown) 1) = 1 + (Z131.sum ((Z58.md a0 a1).1) : Int) := Z137.mk ((Z58.md a0 a1).1) 1 (by omega) (by omega)
  refine no_ret (dec_neg (by omega)) ?_
  refine no_ret (by first | (simp only [bne_self_eq_false, beq_self_eq_true, ba_refl, eqB_refl, Bool.not_true, Z125.md, Z121.md]; done) | (refine bne_eq_false_iff_eq.2 ?_; omega)) ?_
  rfl
theorem valid_ : Valid Tryz.prog Ev 5 con := VS (live := fun _ => []) (nt := 119) (run := fun _ x => F x.1 x.2) mix tab_ok (.cons Z9.valid_ (.cons Z5.valid_ (.cons Z20.valid_ (.cons Z16.valid_ (.cons Z58.valid_ (.cons Z114.valid_ (.cons Z125.valid_ (.cons Z121.valid_ (.cons Z137.valid_ .nil))))))))) (.cons Z131.valid_ (.cons Z128.valid_ .nil)) Tryz.func5 (by kernel_rfl) (fun _ _ => by kernel_rfl) (fun _ a _ _ hg => ⟨0, okF a.1 a.2 hg⟩)
theorem MKeys_wf109 (r : List L) (h : WfAll Ev.cells [.sl 3, .int .i64] r) : ∃ x : MKeys, MKeys.row x = r ∧ MKeys.Sm maxLen x := by
 obtain ⟨l0, t0, rfl, g0, h1⟩ := h.uncons
 obtain ⟨x0, rfl, s0⟩ := wf_list (show Ev.cells 3 = [.int .i64] from by kernel_rfl) wf_irow g0
 obtain ⟨l1, t1, rfl, g1, h2⟩ := h1.uncons
 obtain ⟨x1, rfl⟩ := wf_int g1
 obtain rfl := h2.isnil
 exact ⟨⟨x0, x1⟩, rfl, s0⟩
theorem MHead_wf111 (r : List L) (h : WfAll Ev.cells [.int .i64, .int .i64, .int .i64, .int .i64, .int .i64, .int .i64, .int .i64, .int .i64, .sl 3, .int .i64, .sl 3, .int .i64, .int .i64, .sl 3, .int .i64, .bool] r) : ∃ x : MHead, MHead.row x = r ∧ MHead.Sm maxLen x := by
 obtain ⟨l0, t0, rfl, g0, h1⟩ := h.uncons
 obtain ⟨x0, rfl⟩ := wf_int g0
 obtain ⟨l1, t1, rfl, g1, h2⟩ := h1.uncons
 obtain ⟨x1, rfl⟩ := wf_int g1
 obtain ⟨l2, t2, rfl, g2, h3⟩ := h2.uncons
 obtain ⟨x2, rfl⟩ := wf_int g2
 obtain ⟨l3, t3, rfl, g3, h4⟩ := h3.uncons
 obtain ⟨x3, rfl⟩ := wf_int g3
 obtain ⟨l4, t4, rfl, g4, h5⟩ := h4.uncons
 obtain ⟨x4, rfl⟩ := wf_int g4
 obtain ⟨l5, t5, rfl, g5, h6⟩ := h5.uncons
 obtain ⟨x5, rfl⟩ := wf_int g5
 obtain ⟨l6, t6, rfl, g6, h7⟩ := h6.uncons
 obtain ⟨x6, rfl⟩ := wf_int g6
 obtain ⟨l7, t7, rfl, g7, h8⟩ := h7.uncons
 obtain ⟨x7, rfl⟩ := wf_int g7
 obtain ⟨r8, t8, rfl, g8, h9⟩ := WfAll.unapp (a := [.sl 3, .int .i64]) (b := [.sl 3, .int .i64, .int .i64, .sl 3, .int .i64, .bool]) h8
 obtain ⟨x8, rfl, s8⟩ := MKeys_wf109 _ g8
 obtain ⟨r9, t9, rfl, g9, h10⟩ := WfAll.unapp (a := [.sl 3, .int .i64]) (b := [.int .i64, .sl 3, .int .i64, .bool]) h9
 obtain ⟨x9, rfl, s9⟩ := MKeys_wf109 _ g9
 obtain ⟨l10, t10, rfl, g10, h11⟩ := h10.uncons
 obtain ⟨x10, rfl⟩ := wf_int g10
 obtain ⟨r11, t11, rfl, g11, h12⟩ := WfAll.unapp (a := [.sl 3, .int .i64]) (b := [.bool]) h11
 obtain ⟨x11, rfl, s11⟩ := MKeys_wf109 _ g11
 obtain ⟨l12, t12, rfl, g12, h13⟩ := h12.uncons
 obtain ⟨x12, rfl⟩ := wf_bool g12
 obtain rfl := h13.isnil
 exact ⟨⟨x0, x1, x2, x3, x4, x5, x6, x7, x8, x9, x10, x11, x12⟩, rfl, ⟨s8, s9, s11⟩⟩
theorem MSig_wf216 (r : List L) (h : WfAll Ev.cells [.int .i64, .int .i64] r) : ∃ x : MSig, MSig.row x = r ∧ MSig.Sm maxLen x := by
 obtain ⟨l0, t0, rfl, g0, h1⟩ := h.uncons
 obtain ⟨x0, rfl⟩ := wf_int g0
 obtain ⟨l1, t1, rfl, g1, h2⟩ := h1.uncons
 obtain ⟨x1, rfl⟩ := wf_int g1
 obtain rfl := h2.isnil
 exact ⟨⟨x0, x1⟩, rfl, trivial⟩
theorem MSigned_wf114 (r : List L) (h : WfAll Ev.cells [.int .i64, .int .i64, .int .i64, .int .i64, .int .i64, .int .i64, .int .i64, .int .i64, .sl 3, .int .i64, .sl 3, .int .i64, .int .i64, .sl 3, .int .i64, .bool, .sl 216] r) : ∃ x : MSigned, MSigned.row x = r ∧ MSigned.Sm maxLen x := by
 obtain ⟨r0, t0, rfl, g0, h1⟩ := WfAll.unapp (a := [.int .i64, .int .i64, .int .i64, .int .i64, .int .i64, .int .i64, .int .i64, .int .i64, .sl 3, .int .i64, .sl 3, .int .i64, .int .i64, .sl 3, .int .i64, .bool]) (b := [.sl 216]) h
 obtain ⟨x0, rfl, s0⟩ := MHead_wf111 _ g0
 obtain ⟨l1, t1, rfl, g1, h2⟩ := h1.uncons
 obtain ⟨x1, rfl, s1⟩ := wf_list (show Ev.cells 216 = [.int .i64, .int .i64] from by kernel_rfl) MSig_wf216 g1
 obtain rfl := h2.isnil
 exact ⟨⟨x0, x1⟩, rfl, ⟨s0, s1⟩⟩
theorem MFork_wf187 (r : List L) (h : WfAll Ev.cells [.int .i64, .int .i64, .int .i64, .int .i64, .int .i64, .int .i64, .int .i64, .int .i64, .sl 3, .int .i64, .sl 3, .int .i64, .int .i64, .sl 3, .int .i64, .bool, .sl 216, .int .i64, .int .i64, .int .i64, .int .i64, .int .i64, .int .i64, .int .i64, .int .i64, .sl 3, .int .i64, .sl 3, .int .i64, .int .i64, .sl 3, .int .i64, .bool, .sl 216, .int .i64, .int .i64, .int .i64, .int .i64, .int .i64, .int .i64, .int .i64, .int .i64, .sl 3, .int .i64, .sl 3, .int .i64, .int .i64, .sl 3, .int .i64, .bool, .sl 216] r) : ∃ x : MFork, MFork.row x = r ∧ MFork.Sm maxLen x := by
 obtain ⟨r0, t0, rfl, g0, h1⟩ := WfAll.unapp (a := [.int .i64, .int .i64, .int .i64, .int .i64, .int .i64, .int .i64, .int .i64, .int .i64, .sl 3, .int .i64, .sl 3, .int .i64, .int .i64, .sl 3, .int .i64, .bool, .sl 216]) (b := [.int .i64, .int .i64, .int .i64, .int .i64, .int .i64, .int .i64, .int .i64, .int .i64, .sl 3, .int .i64, .sl 3, .int .i64, .int .i64, .sl 3, .int .i64, .bool, .sl 216, .int .i64, .int .i64, .int .i64, .int .i64, .int .i64, .int .i64, .int .i64, .int .i64, .sl 3, .int .i64, .sl 3, .int .i64, .int .i64, .sl 3, .int .i64, .bool, .sl 216]) h
 obtain ⟨x0, rfl, s0⟩ := MSigned_wf114 _ g0
 obtain ⟨r1, t1, rfl, g1, h2⟩ := WfAll.unapp (a := [.int .i64, .int .i64, .int .i64, .int .i64, .int .i64, .int .i64, .int .i64, .int .i64, .sl 3, .int .i64, .sl 3, .int .i64, .int .i64, .sl 3, .int .i64, .bool, .sl 216]) (b := [.int .i64, .int .i64, .int .i64, .int .i64, .int .i64, .int .i64, .int .i64, .int .i64, .sl 3, .int .i64, .sl 3, .int .i64, .int .i64, .sl 3, .int .i64, .bool, .sl 216]) h1
 obtain ⟨x1, rfl, s1⟩ := MSigned_wf114 _ g1
 obtain ⟨r2, t2, rfl, g2, h3⟩ := WfAll.unapp (a := [.int .i64, .int .i64, .int .i64, .int .i64, .int .i64, .int .i64, .int .i64, .int .i64, .sl 3, .int .i64, .sl 3, .int .i64, .int .i64, .sl 3, .int .i64, .bool, .sl 216]) (b := []) h2
 obtain ⟨x2, rfl, s2⟩ := MSigned_wf114 _ g2
 obtain rfl := h3.isnil
 exact ⟨⟨x0, x1, x2⟩, rfl, ⟨s0, s1, s2⟩⟩
theorem MKnown_wf48 (r : List L) (h : WfAll Ev.cells [.sl 31, .sl 187] r) : ∃ x : MKnown, MKnown.row x = r ∧ MKnown.Sm maxLen x := by
 obtain ⟨l0, t0, rfl, g0, h1⟩ := h.uncons
 obtain ⟨x0, rfl, s0⟩ := wf_list (show Ev.cells 31 = [.sl 114] from by kernel_rfl) (wf_lrow (show Ev.cells 114 = [.int .i64, .int .i64, .int .i64, .int .i64, .int .i64, .int .i64, .int .i64, .int .i64, .sl 3, .int .i64, .sl 3, .int .i64, .int .i64, .sl 3, .int .i64, .bool, .sl 216] from by kernel_rfl) MSigned_wf114) g0
 obtain ⟨l1, t1, rfl, g1, h2⟩ := h1.uncons
 obtain ⟨x1, rfl, s1⟩ := wf_list (show Ev.cells 187 = [.int .i64, .int .i64, .int .i64, .int .i64, .int .i64, .int .i64, .int .i64, .int .i64, .sl 3, .int .i64, .sl 3, .int .i64, .int .i64, .sl 3, .int .i64, .bool, .sl 216, .int .i64, .int .i64, .int .i64, .int .i64, .int .i64, .int .i64, .int .i64, .int .i64, .sl 3, .int .i64, .sl 3, .int .i64, .int .i64, .sl 3, .int .i64, .bool, .sl 216, .int .i64, .int .i64, .int .i64, .int .i64, .int .i64, .int .i64, .int .i64, .int .i64, .sl 3, .int .i64, .sl 3, .int .i64, .int .i64, .sl 3, .int .i64, .bool, .sl 216] from by kernel_rfl) MFork_wf187 g1
 obtain rfl := h2.isnil
 exact ⟨⟨x0, x1⟩, rfl, ⟨s0, s1⟩⟩
theorem holds (ls : List L) (h : WfAll Ev.cells ([48, 31].flatMap Ev.cells) ls) : con.sem ls = some [.bool true] := by
 have hk : [48, 31].flatMap Ev.cells = [.sl 31, .sl 187, .sl 114] := by kernel_rfl
 rw [hk] at h
 obtain ⟨r0, t0, rfl, g0, h1⟩ := WfAll.unapp (a := [.sl 31, .sl 187]) (b := [.sl 114]) h
 obtain ⟨x0, rfl, s0⟩ := MKnown_wf48 _ g0
 obtain ⟨l1, t1, rfl, g1, h2⟩ := h1.uncons
 obtain ⟨x1, rfl, s1⟩ := wf_list (show Ev.cells 114 = [.int .i64, .int .i64, .int .i64, .int .i64, .int .i64, .int .i64, .int .i64, .int .i64, .sl 3, .int .i64, .sl 3, .int .i64, .int .i64, .sl 3, .int .i64, .bool, .sl 216] from by kernel_rfl) MSigned_wf114 g1
 obtain rfl := h2.isnil
 show (R ((MKnown.r x0), (x1.map MSigned.row))).map RT.enc = _
 rw [R_eq ⟨s0, s1⟩]
 rfl
end Z138
end Go.DM
end
