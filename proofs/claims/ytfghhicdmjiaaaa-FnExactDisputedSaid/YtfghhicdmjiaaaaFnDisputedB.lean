/- What the functions compute that the law reaches, and that the law returns true. Conditions: none. -/
import Derived.Test.YtfghhicdmjiaaaaTy
import Derived.Test.YtfghhicdmjiaaaaFnDisputedA
import Derived.Test.YtfghhicdmjiaaaaProg
import Derived.Lib.AppendZerosOnto
import Derived.Lib.Bytealg
import Derived.Laws.Externs
import Derived.Lib.Walk
import Derived.Lib.Hide
import Derived.Lib.Strings
set_option linter.all false
namespace Go.DM
open Go.Proofs
/-! laws.markForkS -/
namespace laws_markForkS
set_option maxRecDepth 100000
set_option maxHeartbeats 8000000
inductive Pt where
  | p0 (a : Int) (b : Int) (c : List (List L))
def pid : Pt → Nat
  | .p0 .. => 2
def pvs : Pt → List V
  | .p0 a b c => [.own 0, .int .i64 a, .int .i64 b]
def phs : Pt → List Root
  | .p0 a b c => [.row 158 c]
noncomputable def step (J : Pt → Ans) : Pt → Ans
  | .p0 a b c => (bif (decide (b < (c.length : Int))) then (bif (decide ((0 : Int) ≤ b)) then (bif (decide (b < (c.length : Int))) then (bif (decide ((0 : Int) ≤ b)) then (bif (decide (b < (c.length : Int))) then (bif (Nat.beq (Int.toNat b) (Int.toNat b) && true) then (bif (decide ((0 : Int) ≤ b)) then (bif (decide (b < (c.length : Int))) then (bif (Nat.beq (Int.toNat b) (Int.toNat b) && true) then (bif (decide ((0 : Int) ≤ b)) then (bif (decide (b < (c.length : Int))) then (bif (Nat.beq (Int.toNat b) (Int.toNat b) && true) then (bif (decide ((0 : Int) ≤ b)) then (bif (decide (b < (c.length : Int))) then (bif (Nat.beq (Int.toNat b) (Int.toNat b) && true) then (bif (decide ((0 : Int) ≤ b)) then (bif (decide (b < (c.length : Int))) then (bif (Nat.beq (Int.toNat b) (Int.toNat b) && true) then (bif (decide ((0 : Int) ≤ b)) then (bif (decide (b < (c.length : Int))) then (bif (Nat.beq (Int.toNat b) (Int.toNat b) && true) then (bif (decide ((0 : Int) ≤ b)) then (bif (decide (b < (c.length : Int))) then (bif (Nat.beq (Int.toNat b) (Int.toNat b) && true) then (bif (decide ((0 : Int) ≤ b)) then (bif (decide (b < (c.length : Int))) then (bif (Nat.beq (Int.toNat b) (Int.toNat b) && true) then (bif (Nat.beq (Int.toNat b) (Int.toNat b) && true) then (call (laws_markIntS.R ((RFork.at c (Int.toNat b)).fBefore.fHead.fKeys.fList, (IntKind.i64.wrap ((IntKind.i64.wrap ((IntKind.i64.wrap ((IntKind.i64.wrap ((IntKind.i64.wrap ((IntKind.i64.wrap ((IntKind.i64.wrap ((IntKind.i64.wrap (a + 1)) + 1)) + 1)) + 1)) + 1)) + 1)) + 1)) + 1)))) fun v1 => (bif (decide ((0 : Int) ≤ b)) then (bif (decide (b < (c.length : Int))) then (bif (Nat.beq (Int.toNat b) (Int.toNat b) && true) then (bif (decide ((0 : Int) ≤ b)) then (bif (decide (b < (c.length : Int))) then (bif (Nat.beq (Int.toNat b) (Int.toNat b) && true) then (bif (Nat.beq (Int.toNat b) (Int.toNat b) && true) then (call (laws_markIntS.R ((RFork.at c (Int.toNat b)).fBefore.fHead.fHeirs.fList, (IntKind.i64.wrap (v1.1 + 1)))) fun v2 => (bif (decide ((0 : Int) ≤ b)) then (bif (decide (b < (c.length : Int))) then (bif (Nat.beq (Int.toNat b) (Int.toNat b) && true) then (bif (decide ((0 : Int) ≤ b)) then (bif (decide (b < (c.length : Int))) then (bif (Nat.beq (Int.toNat b) (Int.toNat b) && true) then (bif (decide ((0 : Int) ≤ b)) then (bif (decide (b < (c.length : Int))) then (bif (Nat.beq (Int.toNat b) (Int.toNat b) && true) then (bif (Nat.beq (Int.toNat b) (Int.toNat b) && true) then (call (laws_markIntS.R ((RFork.at c (Int.toNat b)).fBefore.fHead.fJudge.fList, (IntKind.i64.wrap ((IntKind.i64.wrap (v2.1 + 1)) + 1)))) fun v3 => (bif (decide ((0 : Int) ≤ b)) then (bif (decide (b < (c.length : Int))) then (bif (Nat.beq (Int.toNat b) (Int.toNat b) && true) then (bif (decide ((0 : Int) ≤ b)) then (bif (decide (b < (c.length : Int))) then (bif (Nat.beq (Int.toNat b) (Int.toNat b) && true) then (bif (decide ((0 : Int) ≤ b)) then (bif (decide (b < (c.length : Int))) then (bif (Nat.beq (Int.toNat b) (Int.toNat b) && true) then (bif (Nat.beq (Int.toNat b) (Int.toNat b) && true) then (call (laws_markSigS.R ((RFork.at c (Int.toNat b)).fBefore.fSigs, (IntKind.i64.wrap ((IntKind.i64.wrap (v3.1 + 1)) + 1)))) fun v4 => (bif (decide ((0 : Int) ≤ b)) then (bif (decide (b < (c.length : Int))) then (bif (Nat.beq (Int.toNat b) (Int.toNat b) && true) then (bif (decide ((0 : Int) ≤ b)) then (bif (decide (b < (c.length : Int))) then (bif (Nat.beq (Int.toNat b) (Int.toNat b) && true) then (bif (decide ((0 : Int) ≤ b)) then (bif (decide (b < (c.length : Int))) then (bif (Nat.beq (Int.toNat b) (Int.toNat b) && true) then (bif (decide ((0 : Int) ≤ b)) then (bif (decide (b < (c.length : Int))) then (bif (Nat.beq (Int.toNat b) (Int.toNat b) && true) then (bif (decide ((0 : Int) ≤ b)) then (bif (decide (b < (c.length : Int))) then (bif (Nat.beq (Int.toNat b) (Int.toNat b) && true) then (bif (decide ((0 : Int) ≤ b)) then (bif (decide (b < (c.length : Int))) then (bif (Nat.beq (Int.toNat b) (Int.toNat b) && true) then (bif (decide ((0 : Int) ≤ b)) then (bif (decide (b < (c.length : Int))) then (bif (Nat.beq (Int.toNat b) (Int.toNat b) && true) then (bif (decide ((0 : Int) ≤ b)) then (bif (decide (b < (c.length : Int))) then (bif (Nat.beq (Int.toNat b) (Int.toNat b) && true) then (bif (decide ((0 : Int) ≤ b)) then (bif (decide (b < (c.length : Int))) then (bif (Nat.beq (Int.toNat b) (Int.toNat b) && true) then (bif (Nat.beq (Int.toNat b) (Int.toNat b) && true) then (call (laws_markIntS.R ((RFork.at c (Int.toNat b)).fA.fHead.fKeys.fList, (IntKind.i64.wrap ((IntKind.i64.wrap ((IntKind.i64.wrap ((IntKind.i64.wrap ((IntKind.i64.wrap ((IntKind.i64.wrap ((IntKind.i64.wrap ((IntKind.i64.wrap (v4.1 + 1)) + 1)) + 1)) + 1)) + 1)) + 1)) + 1)) + 1)))) fun v5 => (bif (decide ((0 : Int) ≤ b)) then (bif (decide (b < (c.length : Int))) then (bif (Nat.beq (Int.toNat b) (Int.toNat b) && true) then (bif (decide ((0 : Int) ≤ b)) then (bif (decide (b < (c.length : Int))) then (bif (Nat.beq (Int.toNat b) (Int.toNat b) && true) then (bif (Nat.beq (Int.toNat b) (Int.toNat b) && true) then (call (laws_markIntS.R ((RFork.at c (Int.toNat b)).fA.fHead.fHeirs.fList, (IntKind.i64.wrap (v5.1 + 1)))) fun v6 => (bif (decide ((0 : Int) ≤ b)) then (bif (decide (b < (c.length : Int))) then (bif (Nat.beq (Int.toNat b) (Int.toNat b) && true) then (bif (decide ((0 : Int) ≤ b)) then (bif (decide (b < (c.length : Int))) then (bif (Nat.beq (Int.toNat b) (Int.toNat b) && true) then (bif (decide ((0 : Int) ≤ b)) then (bif (decide (b < (c.length : Int))) then (bif (Nat.beq (Int.toNat b) (Int.toNat b) && true) then (bif (Nat.beq (Int.toNat b) (Int.toNat b) && true) then (call (laws_markIntS.R ((RFork.at c (Int.toNat b)).fA.fHead.fJudge.fList, (IntKind.i64.wrap ((IntKind.i64.wrap (v6.1 + 1)) + 1)))) fun v7 => (bif (decide ((0 : Int) ≤ b)) then (bif (decide (b < (c.length : Int))) then (bif (Nat.beq (Int.toNat b) (Int.toNat b) && true) then (bif (decide ((0 : Int) ≤ b)) then (bif (decide (b < (c.length : Int))) then (bif (Nat.beq (Int.toNat b) (Int.toNat b) && true) then (bif (decide ((0 : Int) ≤ b)) then (bif (decide (b < (c.length : Int))) then (bif (Nat.beq (Int.toNat b) (Int.toNat b) && true) then (bif (Nat.beq (Int.toNat b) (Int.toNat b) && true) then (call (laws_markSigS.R ((RFork.at c (Int.toNat b)).fA.fSigs, (IntKind.i64.wrap ((IntKind.i64.wrap (v7.1 + 1)) + 1)))) fun v8 => (bif (decide ((0 : Int) ≤ b)) then (bif (decide (b < (c.length : Int))) then (bif (Nat.beq (Int.toNat b) (Int.toNat b) && true) then (bif (decide ((0 : Int) ≤ b)) then (bif (decide (b < (c.length : Int))) then (bif (Nat.beq (Int.toNat b) (Int.toNat b) && true) then (bif (decide ((0 : Int) ≤ b)) then (bif (decide (b < (c.length : Int))) then (bif (Nat.beq (Int.toNat b) (Int.toNat b) && true) then (bif (decide ((0 : Int) ≤ b)) then (bif (decide (b < (c.length : Int))) then (bif (Nat.beq (Int.toNat b) (Int.toNat b) && true) then (bif (decide ((0 : Int) ≤ b)) then (bif (decide (b < (c.length : Int))) then (bif (Nat.beq (Int.toNat b) (Int.toNat b) && true) then (bif (decide ((0 : Int) ≤ b)) then (bif (decide (b < (c.length : Int))) then (bif (Nat.beq (Int.toNat b) (Int.toNat b) && true) then (bif (decide ((0 : Int) ≤ b)) then (bif (decide (b < (c.length : Int))) then (bif (Nat.beq (Int.toNat b) (Int.toNat b) && true) then (bif (decide ((0 : Int) ≤ b)) then (bif (decide (b < (c.length : Int))) then (bif (Nat.beq (Int.toNat b) (Int.toNat b) && true) then (bif (decide ((0 : Int) ≤ b)) then (bif (decide (b < (c.length : Int))) then (bif (Nat.beq (Int.toNat b) (Int.toNat b) && true) then (bif (Nat.beq (Int.toNat b) (Int.toNat b) && true) then (call (laws_markIntS.R ((RFork.at c (Int.toNat b)).fB.fHead.fKeys.fList, (IntKind.i64.wrap ((IntKind.i64.wrap ((IntKind.i64.wrap ((IntKind.i64.wrap ((IntKind.i64.wrap ((IntKind.i64.wrap ((IntKind.i64.wrap ((IntKind.i64.wrap (v8.1 + 1)) + 1)) + 1)) + 1)) + 1)) + 1)) + 1)) + 1)))) fun v9 => (bif (decide ((0 : Int) ≤ b)) then (bif (decide (b < (c.length : Int))) then (bif (Nat.beq (Int.toNat b) (Int.toNat b) && true) then (bif (decide ((0 : Int) ≤ b)) then (bif (decide (b < (c.length : Int))) then (bif (Nat.beq (Int.toNat b) (Int.toNat b) && true) then (bif (Nat.beq (Int.toNat b) (Int.toNat b) && true) then (call (laws_markIntS.R ((RFork.at c (Int.toNat b)).fB.fHead.fHeirs.fList, (IntKind.i64.wrap (v9.1 + 1)))) fun v10 => (bif (decide ((0 : Int) ≤ b)) then (bif (decide (b < (c.length : Int))) then (bif (Nat.beq (Int.toNat b) (Int.toNat b) && true) then (bif (decide ((0 : Int) ≤ b)) then (bif (decide (b < (c.length : Int))) then (bif (Nat.beq (Int.toNat b) (Int.toNat b) && true) then (bif (decide ((0 : Int) ≤ b)) then (bif (decide (b < (c.length : Int))) then (bif (Nat.beq (Int.toNat b) (Int.toNat b) && true) then (bif (Nat.beq (Int.toNat b) (Int.toNat b) && true) then (call (laws_markIntS.R ((RFork.at c (Int.toNat b)).fB.fHead.fJudge.fList, (IntKind.i64.wrap ((IntKind.i64.wrap (v10.1 + 1)) + 1)))) fun v11 => (bif (decide ((0 : Int) ≤ b)) then (bif (decide (b < (c.length : Int))) then (bif (Nat.beq (Int.toNat b) (Int.toNat b) && true) then (bif (decide ((0 : Int) ≤ b)) then (bif (decide (b < (c.length : Int))) then (bif (Nat.beq (Int.toNat b) (Int.toNat b) && true) then (bif (decide ((0 : Int) ≤ b)) then (bif (decide (b < (c.length : Int))) then (bif (Nat.beq (Int.toNat b) (Int.toNat b) && true) then (bif (Nat.beq (Int.toNat b) (Int.toNat b) && true) then (call (laws_markSigS.R ((RFork.at c (Int.toNat b)).fB.fSigs, (IntKind.i64.wrap ((IntKind.i64.wrap (v11.1 + 1)) + 1)))) fun v12 => J (.p0 v12.1 (IntKind.i64.wrap (b + 1)) (List.set c (Int.toNat b) (RFork.enc (⟨(⟨(⟨a, (IntKind.i64.wrap (a + 1)), (IntKind.i64.wrap ((IntKind.i64.wrap (a + 1)) + 1)), (IntKind.i64.wrap ((IntKind.i64.wrap ((IntKind.i64.wrap (a + 1)) + 1)) + 1)), (IntKind.i64.wrap ((IntKind.i64.wrap ((IntKind.i64.wrap ((IntKind.i64.wrap (a + 1)) + 1)) + 1)) + 1)), (IntKind.i64.wrap ((IntKind.i64.wrap ((IntKind.i64.wrap ((IntKind.i64.wrap ((IntKind.i64.wrap (a + 1)) + 1)) + 1)) + 1)) + 1)), (IntKind.i64.wrap ((IntKind.i64.wrap ((IntKind.i64.wrap ((IntKind.i64.wrap ((IntKind.i64.wrap ((IntKind.i64.wrap (a + 1)) + 1)) + 1)) + 1)) + 1)) + 1)), (IntKind.i64.wrap ((IntKind.i64.wrap ((IntKind.i64.wrap ((IntKind.i64.wrap ((IntKind.i64.wrap ((IntKind.i64.wrap ((IntKind.i64.wrap (a + 1)) + 1)) + 1)) + 1)) + 1)) + 1)) + 1)), (⟨v1.2, v1.1⟩ : RKeys), (⟨v2.2, v2.1⟩ : RKeys), (IntKind.i64.wrap (v2.1 + 1)), (⟨v3.2, v3.1⟩ : RKeys), ((Int.tmod (IntKind.i64.wrap (v3.1 + 1)) 3) == 0)⟩ : RHead), v4.2⟩ : RSigned), (⟨(⟨v4.1, (IntKind.i64.wrap (v4.1 + 1)), (IntKind.i64.wrap ((IntKind.i64.wrap (v4.1 + 1)) + 1)), (IntKind.i64.wrap ((IntKind.i64.wrap ((IntKind.i64.wrap (v4.1 + 1)) + 1)) + 1)), (IntKind.i64.wrap ((IntKind.i64.wrap ((IntKind.i64.wrap ((IntKind.i64.wrap (v4.1 + 1)) + 1)) + 1)) + 1)), (IntKind.i64.wrap ((IntKind.i64.wrap ((IntKind.i64.wrap ((IntKind.i64.wrap ((IntKind.i64.wrap (v4.1 + 1)) + 1)) + 1)) + 1)) + 1)), (IntKind.i64.wrap ((IntKind.i64.wrap ((IntKind.i64.wrap ((IntKind.i64.wrap ((IntKind.i64.wrap ((IntKind.i64.wrap (v4.1 + 1)) + 1)) + 1)) + 1)) + 1)) + 1)), (IntKind.i64.wrap ((IntKind.i64.wrap ((IntKind.i64.wrap ((IntKind.i64.wrap ((IntKind.i64.wrap ((IntKind.i64.wrap ((IntKind.i64.wrap (v4.1 + 1)) + 1)) + 1)) + 1)) + 1)) + 1)) + 1)), (⟨v5.2, v5.1⟩ : RKeys), (⟨v6.2, v6.1⟩ : RKeys), (IntKind.i64.wrap (v6.1 + 1)), (⟨v7.2, v7.1⟩ : RKeys), ((Int.tmod (IntKind.i64.wrap (v7.1 + 1)) 3) == 0)⟩ : RHead), v8.2⟩ : RSigned), (⟨(⟨v8.1, (IntKind.i64.wrap (v8.1 + 1)), (IntKind.i64.wrap ((IntKind.i64.wrap (v8.1 + 1)) + 1)), (IntKind.i64.wrap ((IntKind.i64.wrap ((IntKind.i64.wrap (v8.1 + 1)) + 1)) + 1)), (IntKind.i64.wrap ((IntKind.i64.wrap ((IntKind.i64.wrap ((IntKind.i64.wrap (v8.1 + 1)) + 1)) + 1)) + 1)), (IntKind.i64.wrap ((IntKind.i64.wrap ((IntKind.i64.wrap ((IntKind.i64.wrap ((IntKind.i64.wrap (v8.1 + 1)) + 1)) + 1)) + 1)) + 1)), (IntKind.i64.wrap ((IntKind.i64.wrap ((IntKind.i64.wrap ((IntKind.i64.wrap ((IntKind.i64.wrap ((IntKind.i64.wrap (v8.1 + 1)) + 1)) + 1)) + 1)) + 1)) + 1)), (IntKind.i64.wrap ((IntKind.i64.wrap ((IntKind.i64.wrap ((IntKind.i64.wrap ((IntKind.i64.wrap ((IntKind.i64.wrap ((IntKind.i64.wrap (v8.1 + 1)) + 1)) + 1)) + 1)) + 1)) + 1)) + 1)), (⟨v9.2, v9.1⟩ : RKeys), (⟨v10.2, v10.1⟩ : RKeys), (IntKind.i64.wrap (v10.1 + 1)), (⟨v11.2, v11.1⟩ : RKeys), ((Int.tmod (IntKind.i64.wrap (v11.1 + 1)) 3) == 0)⟩ : RHead), v12.2⟩ : RSigned)⟩ : RFork))))) else none) else none) else none) else none) else none) else none) else none) else none) else none) else none)) else none) else none) else none) else none) else none) else none) else none) else none) else none) else none)) else none) else none) else none) else none) else none) else none) else none)) else none) else none) else none) else none) else none) else none) else none) else none) else none) else none) else none) else none) else none) else none) else none) else none) else none) else none) else none) else none) else none) else none) else none) else none) else none) else none) else none) else none)) else none) else none) else none) else none) else none) else none) else none) else none) else none) else none)) else none) else none) else none) else none) else none) else none) else none) else none) else none) else none)) else none) else none) else none) else none) else none) else none) else none)) else none) else none) else none) else none) else none) else none) else none) else none) else none) else none) else none) else none) else none) else none) else none) else none) else none) else none) else none) else none) else none) else none) else none) else none) else none) else none) else none) else none)) else none) else none) else none) else none) else none) else none) else none) else none) else none) else none)) else none) else none) else none) else none) else none) else none) else none) else none) else none) else none)) else none) else none) else none) else none) else none) else none) else none)) else none) else none) else none) else none) else none) else none) else none) else none) else none) else none) else none) else none) else none) else none) else none) else none) else none) else none) else none) else none) else none) else none) else none) else none) else none) else none) else none) else ret ((a, c) : Int × List (List L)))
noncomputable def start (J : Pt → Ans) (x0 : List (List L)) (x1 : Int) : Ans := J (.p0 x1 0 x0)
def live : Nat → Live := fun i => match i with | 2 => [(0, none), (1, none), (5, none)] | _ => []
def pats : List (Bool × List K) := [(false, [.sl 158]), (false, [.int .i64])]
def res : RP := .chg [158]
noncomputable abbrev E : Env := { T := assoc Tab, G := conG [], nt := 493, M := conM [(100, laws_markIntS.con), (129, laws_markSigS.con)], np := 1, mt := true }
set_option maxRecDepth 100000
theorem step_eq (I : Heads) (p : Pt) : enterC E live I (pid p) (bodyOf Try.f99) (stOf (live (pid p)) (pvs p) (phs p)) (doneK E Try.f99 res) = step (fun q => I (pid q) (pvs q) (phs q)) p := by
  cases p <;> kernel_rfl
theorem start_eq (I : Heads) (ls : List L) : runC E live I (bodyOf Try.f99) (initM pats ls) (doneK E Try.f99 res) = start (fun q => I (pid q) (pvs q) (phs q)) (ls.headD .hole).toSl ((dropT 1 ls).headD .hole).toInt := by kernel_rfl
theorem run_eq (n : Nat) (ls : List L) : runF E live Try.f99 res n (initM pats ls) = start (iter step n) (ls.headD .hole).toSl ((dropT 1 ls).headD .hole).toInt := runF_iter (id := pid) (vs := pvs) (hs := phs) (step := step) (start := fun J => start J (ls.headD .hole).toSl ((dropT 1 ls).headD .hole).toInt) step_eq (fun I => start_eq I ls) n
noncomputable def e1 (x : MFork) (k : Int) := laws_markIntS.md ((((x.fBefore).fHead).fKeys).fList) (IntKind.i64.wrap ((IntKind.i64.wrap ((IntKind.i64.wrap ((IntKind.i64.wrap ((IntKind.i64.wrap ((IntKind.i64.wrap ((IntKind.i64.wrap ((IntKind.i64.wrap (k + 1)) + 1)) + 1)) + 1)) + 1)) + 1)) + 1)) + 1))
noncomputable def e2 (x : MFork) (k : Int) := laws_markIntS.md ((((x.fBefore).fHead).fHeirs).fList) (IntKind.i64.wrap ((e1 x k).1 + 1))
noncomputable def e3 (x : MFork) (k : Int) := laws_markIntS.md ((((x.fBefore).fHead).fJudge).fList) (IntKind.i64.wrap ((IntKind.i64.wrap ((e2 x k).1 + 1)) + 1))
noncomputable def e4 (x : MFork) (k : Int) := laws_markSigS.md ((x.fBefore).fSigs) (IntKind.i64.wrap ((IntKind.i64.wrap ((e3 x k).1 + 1)) + 1))
noncomputable def e5 (x : MFork) (k : Int) := laws_markIntS.md ((((x.fA).fHead).fKeys).fList) (IntKind.i64.wrap ((IntKind.i64.wrap ((IntKind.i64.wrap ((IntKind.i64.wrap ((IntKind.i64.wrap ((IntKind.i64.wrap ((IntKind.i64.wrap ((IntKind.i64.wrap ((e4 x k).1 + 1)) + 1)) + 1)) + 1)) + 1)) + 1)) + 1)) + 1))
noncomputable def e6 (x : MFork) (k : Int) := laws_markIntS.md ((((x.fA).fHead).fHeirs).fList) (IntKind.i64.wrap ((e5 x k).1 + 1))
noncomputable def e7 (x : MFork) (k : Int) := laws_markIntS.md ((((x.fA).fHead).fJudge).fList) (IntKind.i64.wrap ((IntKind.i64.wrap ((e6 x k).1 + 1)) + 1))
noncomputable def e8 (x : MFork) (k : Int) := laws_markSigS.md ((x.fA).fSigs) (IntKind.i64.wrap ((IntKind.i64.wrap ((e7 x k).1 + 1)) + 1))
noncomputable def e9 (x : MFork) (k : Int) := laws_markIntS.md ((((x.fB).fHead).fKeys).fList) (IntKind.i64.wrap ((IntKind.i64.wrap ((IntKind.i64.wrap ((IntKind.i64.wrap ((IntKind.i64.wrap ((IntKind.i64.wrap ((IntKind.i64.wrap ((IntKind.i64.wrap ((e8 x k).1 + 1)) + 1)) + 1)) + 1)) + 1)) + 1)) + 1)) + 1))
noncomputable def e10 (x : MFork) (k : Int) := laws_markIntS.md ((((x.fB).fHead).fHeirs).fList) (IntKind.i64.wrap ((e9 x k).1 + 1))
noncomputable def e11 (x : MFork) (k : Int) := laws_markIntS.md ((((x.fB).fHead).fJudge).fList) (IntKind.i64.wrap ((IntKind.i64.wrap ((e10 x k).1 + 1)) + 1))
noncomputable def e12 (x : MFork) (k : Int) := laws_markSigS.md ((x.fB).fSigs) (IntKind.i64.wrap ((IntKind.i64.wrap ((e11 x k).1 + 1)) + 1))
noncomputable def el (x : MFork) (k : Int) : Int × MFork := ((e12 x k).1, (⟨(⟨(⟨k, (IntKind.i64.wrap (k + 1)), (IntKind.i64.wrap ((IntKind.i64.wrap (k + 1)) + 1)), (IntKind.i64.wrap ((IntKind.i64.wrap ((IntKind.i64.wrap (k + 1)) + 1)) + 1)), (IntKind.i64.wrap ((IntKind.i64.wrap ((IntKind.i64.wrap ((IntKind.i64.wrap (k + 1)) + 1)) + 1)) + 1)), (IntKind.i64.wrap ((IntKind.i64.wrap ((IntKind.i64.wrap ((IntKind.i64.wrap ((IntKind.i64.wrap (k + 1)) + 1)) + 1)) + 1)) + 1)), (IntKind.i64.wrap ((IntKind.i64.wrap ((IntKind.i64.wrap ((IntKind.i64.wrap ((IntKind.i64.wrap ((IntKind.i64.wrap (k + 1)) + 1)) + 1)) + 1)) + 1)) + 1)), (IntKind.i64.wrap ((IntKind.i64.wrap ((IntKind.i64.wrap ((IntKind.i64.wrap ((IntKind.i64.wrap ((IntKind.i64.wrap ((IntKind.i64.wrap (k + 1)) + 1)) + 1)) + 1)) + 1)) + 1)) + 1)), (⟨(e1 x k).2, (e1 x k).1⟩ : MKeys), (⟨(e2 x k).2, (e2 x k).1⟩ : MKeys), (IntKind.i64.wrap ((e2 x k).1 + 1)), (⟨(e3 x k).2, (e3 x k).1⟩ : MKeys), ((Int.tmod (IntKind.i64.wrap ((e3 x k).1 + 1)) 3) == 0)⟩ : MHead), (e4 x k).2⟩ : MSigned), (⟨(⟨(e4 x k).1, (IntKind.i64.wrap ((e4 x k).1 + 1)), (IntKind.i64.wrap ((IntKind.i64.wrap ((e4 x k).1 + 1)) + 1)), (IntKind.i64.wrap ((IntKind.i64.wrap ((IntKind.i64.wrap ((e4 x k).1 + 1)) + 1)) + 1)), (IntKind.i64.wrap ((IntKind.i64.wrap ((IntKind.i64.wrap ((IntKind.i64.wrap ((e4 x k).1 + 1)) + 1)) + 1)) + 1)), (IntKind.i64.wrap ((IntKind.i64.wrap ((IntKind.i64.wrap ((IntKind.i64.wrap ((IntKind.i64.wrap ((e4 x k).1 + 1)) + 1)) + 1)) + 1)) + 1)), (IntKind.i64.wrap ((IntKind.i64.wrap ((IntKind.i64.wrap ((IntKind.i64.wrap ((IntKind.i64.wrap ((IntKind.i64.wrap ((e4 x k).1 + 1)) + 1)) + 1)) + 1)) + 1)) + 1)), (IntKind.i64.wrap ((IntKind.i64.wrap ((IntKind.i64.wrap ((IntKind.i64.wrap ((IntKind.i64.wrap ((IntKind.i64.wrap ((IntKind.i64.wrap ((e4 x k).1 + 1)) + 1)) + 1)) + 1)) + 1)) + 1)) + 1)), (⟨(e5 x k).2, (e5 x k).1⟩ : MKeys), (⟨(e6 x k).2, (e6 x k).1⟩ : MKeys), (IntKind.i64.wrap ((e6 x k).1 + 1)), (⟨(e7 x k).2, (e7 x k).1⟩ : MKeys), ((Int.tmod (IntKind.i64.wrap ((e7 x k).1 + 1)) 3) == 0)⟩ : MHead), (e8 x k).2⟩ : MSigned), (⟨(⟨(e8 x k).1, (IntKind.i64.wrap ((e8 x k).1 + 1)), (IntKind.i64.wrap ((IntKind.i64.wrap ((e8 x k).1 + 1)) + 1)), (IntKind.i64.wrap ((IntKind.i64.wrap ((IntKind.i64.wrap ((e8 x k).1 + 1)) + 1)) + 1)), (IntKind.i64.wrap ((IntKind.i64.wrap ((IntKind.i64.wrap ((IntKind.i64.wrap ((e8 x k).1 + 1)) + 1)) + 1)) + 1)), (IntKind.i64.wrap ((IntKind.i64.wrap ((IntKind.i64.wrap ((IntKind.i64.wrap ((IntKind.i64.wrap ((e8 x k).1 + 1)) + 1)) + 1)) + 1)) + 1)), (IntKind.i64.wrap ((IntKind.i64.wrap ((IntKind.i64.wrap ((IntKind.i64.wrap ((IntKind.i64.wrap ((IntKind.i64.wrap ((e8 x k).1 + 1)) + 1)) + 1)) + 1)) + 1)) + 1)), (IntKind.i64.wrap ((IntKind.i64.wrap ((IntKind.i64.wrap ((IntKind.i64.wrap ((IntKind.i64.wrap ((IntKind.i64.wrap ((IntKind.i64.wrap ((e8 x k).1 + 1)) + 1)) + 1)) + 1)) + 1)) + 1)) + 1)), (⟨(e9 x k).2, (e9 x k).1⟩ : MKeys), (⟨(e10 x k).2, (e10 x k).1⟩ : MKeys), (IntKind.i64.wrap ((e10 x k).1 + 1)), (⟨(e11 x k).2, (e11 x k).1⟩ : MKeys), ((Int.tmod (IntKind.i64.wrap ((e11 x k).1 + 1)) 3) == 0)⟩ : MHead), (e12 x k).2⟩ : MSigned)⟩ : MFork))
theorem el_I (x : MFork) (k : Int) (hk : I64 k) : I64 (el x k).1 := (laws_markSigS.i64 (wrap_I64 _))
noncomputable def cnt (x : MFork) : Nat := 39 + laws_markIntS.sum ((((x.fBefore).fHead).fKeys).fList) + laws_markIntS.sum ((((x.fBefore).fHead).fHeirs).fList) + laws_markIntS.sum ((((x.fBefore).fHead).fJudge).fList) + laws_markSigS.sum ((x.fBefore).fSigs) + laws_markIntS.sum ((((x.fA).fHead).fKeys).fList) + laws_markIntS.sum ((((x.fA).fHead).fHeirs).fList) + laws_markIntS.sum ((((x.fA).fHead).fJudge).fList) + laws_markSigS.sum ((x.fA).fSigs) + laws_markIntS.sum ((((x.fB).fHead).fKeys).fList) + laws_markIntS.sum ((((x.fB).fHead).fHeirs).fList) + laws_markIntS.sum ((((x.fB).fHead).fJudge).fList) + laws_markSigS.sum ((x.fB).fSigs)
noncomputable def sum (a : List MFork) : Nat := (a.map cnt).sum
noncomputable def md (a0 : List MFork) (a1 : Int) : Int × List MFork := accM el a0 a1
def gd (a0 : List MFork) (a1 : Int) : Prop := I64 a1
def acc (ls : List L) : List (List L) × Int := ((ls.headD .hole).toSl, ((dropT 1 ls).headD .hole).toInt)
noncomputable def R : (List (List L) × Int) → Option (Int × List (List L)) := RR (p2 gd) (u2 md)
theorem R_eq {a0} {a1} (h : gd a0 a1) : R ((a0.map MFork.row), a1) = some ((md a0 a1).1, ((md a0 a1).2.map MFork.row)) := RR_eq (a := (a0, a1)) h
noncomputable def con : MCon := MN pats acc R
theorem okF (a0 : List MFork) (a1 : Int) (hg : gd a0 a1) (h0 : a0.length ≤ maxLen) : ∃ n, start (iter step n) (a0.map MFork.row) a1 = ret (((md a0 a1).1, ((md a0 a1).2.map MFork.row)) : Int × List (List L)) := by
  unfold gd at hg
  show ∃ n, iter step n (Pt.p0 a1 0 (a0.map MFork.row)) = _
  unfold md
  refine mark_loop (el := el) (xs := a0) MFork.zero I64 el_I (pt := fun i k c => Pt.p0 k (i : Int) (c.map MFork.row)) (out := fun b => ret (b.1, b.2.map MFork.row)) (fun J i k c hi hc hk => ?_) (fun J k c hc => ?_) hg
  · have hm : c.length ≤ maxLen := hc ▸ h0
    simp only [step, S0, MKeys.rs, MHead.rs, MSigned.rs, MFork.rs]
    refine yes_ret (lt_dec hi) ?_
    refine yes_ret zle_dec ?_
    refine yes_ret (lt_dec hi) ?_
    refine yes_ret zle_dec ?_
    refine yes_ret (lt_dec hi) ?_
    refine yes_ret (beq_t _) ?_
    refine yes_ret zle_dec ?_
    refine yes_ret (lt_dec hi) ?_
    refine yes_ret (beq_t _) ?_
    refine yes_ret zle_dec ?_
    refine yes_ret (lt_dec hi) ?_
    refine yes_ret (beq_t _) ?_
    refine yes_ret zle_dec ?_
    refine yes_ret (lt_dec hi) ?_
    refine yes_ret (beq_t _) ?_
    refine yes_ret zle_dec ?_
    refine yes_ret (lt_dec hi) ?_
    refine yes_ret (beq_t _) ?_
    refine yes_ret zle_dec ?_
    refine yes_ret (lt_dec hi) ?_
    refine yes_ret (beq_t _) ?_
    refine yes_ret zle_dec ?_
    refine yes_ret (lt_dec hi) ?_
    refine yes_ret (beq_t _) ?_
    refine yes_ret zle_dec ?_
    refine yes_ret (lt_dec hi) ?_
    refine yes_ret (beq_t _) ?_
    refine yes_ret (beq_t _) ?_
    refine call_to ((e1 (c.getD i MFork.zero) k).1, ((e1 (c.getD i MFork.zero) k).2.map iRow)) (laws_markIntS.R_eq (a0 := ((((c.getD i MFork.zero).fBefore).fHead).fKeys).fList) (a1 := IntKind.i64.wrap ((IntKind.i64.wrap ((IntKind.i64.wrap ((IntKind.i64.wrap ((IntKind.i64.wrap ((IntKind.i64.wrap ((IntKind.i64.wrap ((IntKind.i64.wrap (k + 1)) + 1)) + 1)) + 1)) + 1)) + 1)) + 1)) + 1)) (wrap_I64 _)) ?_
    refine yes_ret zle_dec ?_
    refine yes_ret (lt_dec hi) ?_
    refine yes_ret (beq_t _) ?_
    refine yes_ret zle_dec ?_
    refine yes_ret (lt_dec hi) ?_
    refine yes_ret (beq_t _) ?_
    refine yes_ret (beq_t _) ?_
    refine call_to ((e2 (c.getD i MFork.zero) k).1, ((e2 (c.getD i MFork.zero) k).2.map iRow)) (laws_markIntS.R_eq (a0 := ((((c.getD i MFork.zero).fBefore).fHead).fHeirs).fList) (a1 := IntKind.i64.wrap ((e1 (c.getD i MFork.zero) k).1 + 1)) (wrap_I64 _)) ?_
    refine yes_ret zle_dec ?_
    refine yes_ret (lt_dec hi) ?_
    refine yes_ret (beq_t _) ?_
    refine yes_ret zle_dec ?_
    refine yes_ret (lt_dec hi) ?_
    refine yes_ret (beq_t _) ?_
    refine yes_ret zle_dec ?_
    refine yes_ret (lt_dec hi) ?_
    refine yes_ret (beq_t _) ?_
    refine yes_ret (beq_t _) ?_
    refine call_to ((e3 (c.getD i MFork.zero) k).1, ((e3 (c.getD i MFork.zero) k).2.map iRow)) (laws_markIntS.R_eq (a0 := ((((c.getD i MFork.zero).fBefore).fHead).fJudge).fList) (a1 := IntKind.i64.wrap ((IntKind.i64.wrap ((e2 (c.getD i MFork.zero) k).1 + 1)) + 1)) (wrap_I64 _)) ?_
    refine yes_ret zle_dec ?_
    refine yes_ret (lt_dec hi) ?_
    refine yes_ret (beq_t _) ?_
    refine yes_ret zle_dec ?_
    refine yes_ret (lt_dec hi) ?_
    refine yes_ret (beq_t _) ?_
    refine yes_ret zle_dec ?_
    refine yes_ret (lt_dec hi) ?_
    refine yes_ret (beq_t _) ?_
    refine yes_ret (beq_t _) ?_
    refine call_to ((e4 (c.getD i MFork.zero) k).1, ((e4 (c.getD i MFork.zero) k).2.map MSig.row)) (laws_markSigS.R_eq (a0 := ((c.getD i MFork.zero).fBefore).fSigs) (a1 := IntKind.i64.wrap ((IntKind.i64.wrap ((e3 (c.getD i MFork.zero) k).1 + 1)) + 1)) (wrap_I64 _)) ?_
    refine yes_ret zle_dec ?_
    refine yes_ret (lt_dec hi) ?_
    refine yes_ret (beq_t _) ?_
    refine yes_ret zle_dec ?_
    refine yes_ret (lt_dec hi) ?_
    refine yes_ret (beq_t _) ?_
    refine yes_ret zle_dec ?_
    refine yes_ret (lt_dec hi) ?_
    refine yes_ret (beq_t _) ?_
    refine yes_ret zle_dec ?_
    refine yes_ret (lt_dec hi) ?_
    refine yes_ret (beq_t _) ?_
    refine yes_ret zle_dec ?_
    refine yes_ret (lt_dec hi) ?_
    refine yes_ret (beq_t _) ?_
    refine yes_ret zle_dec ?_
    refine yes_ret (lt_dec hi) ?_
    refine yes_ret (beq_t _) ?_
    refine yes_ret zle_dec ?_
    refine yes_ret (lt_dec hi) ?_
    refine yes_ret (beq_t _) ?_
    refine yes_ret zle_dec ?_
    refine yes_ret (lt_dec hi) ?_
    refine yes_ret (beq_t _) ?_
    refine yes_ret zle_dec ?_
    refine yes_ret (lt_dec hi) ?_
    refine yes_ret (beq_t _) ?_
    refine yes_ret (beq_t _) ?_
    refine call_to ((e5 (c.getD i MFork.zero) k).1, ((e5 (c.getD i MFork.zero) k).2.map iRow)) (laws_markIntS.R_eq (a0 := ((((c.getD i MFork.zero).fA).fHead).fKeys).fList) (a1 := IntKind.i64.wrap ((IntKind.i64.wrap ((IntKind.i64.wrap ((IntKind.i64.wrap ((IntKind.i64.wrap ((IntKind.i64.wrap ((IntKind.i64.wrap ((IntKind.i64.wrap ((e4 (c.getD i MFork.zero) k).1 + 1)) + 1)) + 1)) + 1)) + 1)) + 1)) + 1)) + 1)) (wrap_I64 _)) ?_
    refine yes_ret zle_dec ?_
    refine yes_ret (lt_dec hi) ?_
    refine yes_ret (beq_t _) ?_
    refine yes_ret zle_dec ?_
    refine yes_ret (lt_dec hi) ?_
    refine yes_ret (beq_t _) ?_
    refine yes_ret (beq_t _) ?_
    refine call_to ((e6 (c.getD i MFork.zero) k).1, ((e6 (c.getD i MFork.zero) k).2.map iRow)) (laws_markIntS.R_eq (a0 := ((((c.getD i MFork.zero).fA).fHead).fHeirs).fList) (a1 := IntKind.i64.wrap ((e5 (c.getD i MFork.zero) k).1 + 1)) (wrap_I64 _)) ?_
    refine yes_ret zle_dec ?_
    refine yes_ret (lt_dec hi) ?_
    refine yes_ret (beq_t _) ?_
    refine yes_ret zle_dec ?_
    refine yes_ret (lt_dec hi) ?_
    refine yes_ret (beq_t _) ?_
    refine yes_ret zle_dec ?_
    refine yes_ret (lt_dec hi) ?_
    refine yes_ret (beq_t _) ?_
    refine yes_ret (beq_t _) ?_
    refine call_to ((e7 (c.getD i MFork.zero) k).1, ((e7 (c.getD i MFork.zero) k).2.map iRow)) (laws_markIntS.R_eq (a0 := ((((c.getD i MFork.zero).fA).fHead).fJudge).fList) (a1 := IntKind.i64.wrap ((IntKind.i64.wrap ((e6 (c.getD i MFork.zero) k).1 + 1)) + 1)) (wrap_I64 _)) ?_
    refine yes_ret zle_dec ?_
    refine yes_ret (lt_dec hi) ?_
    refine yes_ret (beq_t _) ?_
    refine yes_ret zle_dec ?_
    refine yes_ret (lt_dec hi) ?_
    refine yes_ret (beq_t _) ?_
    refine yes_ret zle_dec ?_
    refine yes_ret (lt_dec hi) ?_
    refine yes_ret (beq_t _) ?_
    refine yes_ret (beq_t _) ?_
    refine call_to ((e8 (c.getD i MFork.zero) k).1, ((e8 (c.getD i MFork.zero) k).2.map MSig.row)) (laws_markSigS.R_eq (a0 := ((c.getD i MFork.zero).fA).fSigs) (a1 := IntKind.i64.wrap ((IntKind.i64.wrap ((e7 (c.getD i MFork.zero) k).1 + 1)) + 1)) (wrap_I64 _)) ?_
    refine yes_ret zle_dec ?_
    refine yes_ret (lt_dec hi) ?_
    refine yes_ret (beq_t _) ?_
    refine yes_ret zle_dec ?_
    refine yes_ret (lt_dec hi) ?_
    refine yes_ret (beq_t _) ?_
    refine yes_ret zle_dec ?_
    refine yes_ret (lt_dec hi) ?_
    refine yes_ret (beq_t _) ?_
    refine yes_ret zle_dec ?_
    refine yes_ret (lt_dec hi) ?_
    refine yes_ret (beq_t _) ?_
    refine yes_ret zle_dec ?_
    refine yes_ret (lt_dec hi) ?_
    refine yes_ret (beq_t _) ?_
    refine yes_ret zle_dec ?_
    refine yes_ret (lt_dec hi) ?_
    refine yes_ret (beq_t _) ?_
    refine yes_ret zle_dec ?_
    refine yes_ret (lt_dec hi) ?_
    refine yes_ret (beq_t _) ?_
    refine yes_ret zle_dec ?_
    refine yes_ret (lt_dec hi) ?_
    refine yes_ret (beq_t _) ?_
    refine yes_ret zle_dec ?_
    refine yes_ret (lt_dec hi) ?_
    refine yes_ret (beq_t _) ?_
    refine yes_ret (beq_t _) ?_
    refine call_to ((e9 (c.getD i MFork.zero) k).1, ((e9 (c.getD i MFork.zero) k).2.map iRow)) (laws_markIntS.R_eq (a0 := ((((c.getD i MFork.zero).fB).fHead).fKeys).fList) (a1 := IntKind.i64.wrap ((IntKind.i64.wrap ((IntKind.i64.wrap ((IntKind.i64.wrap ((IntKind.i64.wrap ((IntKind.i64.wrap ((IntKind.i64.wrap ((IntKind.i64.wrap ((e8 (c.getD i MFork.zero) k).1 + 1)) + 1)) + 1)) + 1)) + 1)) + 1)) + 1)) + 1)) (wrap_I64 _)) ?_
    refine yes_ret zle_dec ?_
    refine yes_ret (lt_dec hi) ?_
    refine yes_ret (beq_t _) ?_
    refine yes_ret zle_dec ?_
    refine yes_ret (lt_dec hi) ?_
    refine yes_ret (beq_t _) ?_
    refine yes_ret (beq_t _) ?_
    refine call_to ((e10 (c.getD i MFork.zero) k).1, ((e10 (c.getD i MFork.zero) k).2.map iRow)) (laws_markIntS.R_eq (a0 := ((((c.getD i MFork.zero).fB).fHead).fHeirs).fList) (a1 := IntKind.i64.wrap ((e9 (c.getD i MFork.zero) k).1 + 1)) (wrap_I64 _)) ?_
    refine yes_ret zle_dec ?_
    refine yes_ret (lt_dec hi) ?_
    refine yes_ret (beq_t _) ?_
    refine yes_ret zle_dec ?_
    refine yes_ret (lt_dec hi) ?_
    refine yes_ret (beq_t _) ?_
    refine yes_ret zle_dec ?_
    refine yes_ret (lt_dec hi) ?_
    refine yes_ret (beq_t _) ?_
    refine yes_ret (beq_t _) ?_
    refine call_to ((e11 (c.getD i MFork.zero) k).1, ((e11 (c.getD i MFork.zero) k).2.map iRow)) (laws_markIntS.R_eq (a0 := ((((c.getD i MFork.zero).fB).fHead).fJudge).fList) (a1 := IntKind.i64.wrap ((IntKind.i64.wrap ((e10 (c.getD i MFork.zero) k).1 + 1)) + 1)) (wrap_I64 _)) ?_
    refine yes_ret zle_dec ?_
    refine yes_ret (lt_dec hi) ?_
    refine yes_ret (beq_t _) ?_
    refine yes_ret zle_dec ?_
    refine yes_ret (lt_dec hi) ?_
    refine yes_ret (beq_t _) ?_
    refine yes_ret zle_dec ?_
    refine yes_ret (lt_dec hi) ?_
    refine yes_ret (beq_t _) ?_
    refine yes_ret (beq_t _) ?_
    refine call_to ((e12 (c.getD i MFork.zero) k).1, ((e12 (c.getD i MFork.zero) k).2.map MSig.row)) (laws_markSigS.R_eq (a0 := ((c.getD i MFork.zero).fB).fSigs) (a1 := IntKind.i64.wrap ((IntKind.i64.wrap ((e11 (c.getD i MFork.zero) k).1 + 1)) + 1)) (wrap_I64 _)) ?_
    rw [wrap_succ hi hm]
    exact congrArg (fun q => J (Pt.p0 (el (c.getD i MFork.zero) k).1 ((i + 1 : Nat) : Int) q)) (List.map_set (f := MFork.row) (l := c) (i := i) (a := (el (c.getD i MFork.zero) k).2)).symm
  · simp only [step, S0, MKeys.rs, MHead.rs, MSigned.rs, MFork.rs]
    refine no_ret (by apply decide_eq_false; omega) ?_
    rfl
theorem valid_ : MValid Try.prog Ev 99 con := MV (run := fun n x => start (iter step n) x.1 x.2) mix tab_ok .nil (.cons laws_markIntS.valid_ (.cons laws_markSigS.valid_ .nil)) Try.func99 (by kernel_rfl) run_eq (fun ls a hl e hg => okF a.1 a.2 hg (by have h : (ls.headD .hole).toSl.length ≤ maxLen := (hl _ _ (.head _)).len; have e : a.1.map MFork.row = (ls.headD .hole).toSl := (congrArg (fun x => x.1) e.symm); rw [← e] at h; simpa using h))
theorem i64 {a0 : List MFork} {a1 : Int} (h : I64 a1) : I64 (md a0 a1).1 := accM_I el_I h
theorem elk (x : MFork) (k : Int) (h0 : 0 ≤ k) (hb : k + (cnt x : Int) ≤ 4611686018427387904) : (el x k).1 = k + cnt x := by
  simp only [cnt, Int.natCast_add] at hb ⊢
  simp (disch := omega) only [el, e1, e2, e3, e4, e5, e6, e7, e8, e9, e10, e11, e12, wi, laws_markIntS.kk, laws_markSigS.kk]
  all_goals first | done | omega
theorem kk (a0 : List MFork) (a1 : Int) (h0 : 0 ≤ a1) (hb : a1 + (sum a0 : Int) ≤ 4611686018427387904) : (md a0 a1).1 = a1 + sum a0 := accM_sum elk a0 a1 h0 hb
theorem sz (a : List MFork) : sum a ≤ 60 * (szL (fun y : MFork => MFork.size y) a) := sum_le (fun x => by
    have := laws_markIntS.sz ((((x.fBefore).fHead).fKeys).fList)
    have := laws_markIntS.sz ((((x.fBefore).fHead).fHeirs).fList)
    have := laws_markIntS.sz ((((x.fBefore).fHead).fJudge).fList)
    have := laws_markSigS.sz ((x.fBefore).fSigs)
    have := laws_markIntS.sz ((((x.fA).fHead).fKeys).fList)
    have := laws_markIntS.sz ((((x.fA).fHead).fHeirs).fList)
    have := laws_markIntS.sz ((((x.fA).fHead).fJudge).fList)
    have := laws_markSigS.sz ((x.fA).fSigs)
    have := laws_markIntS.sz ((((x.fB).fHead).fKeys).fList)
    have := laws_markIntS.sz ((((x.fB).fHead).fHeirs).fList)
    have := laws_markIntS.sz ((((x.fB).fHead).fJudge).fList)
    have := laws_markSigS.sz ((x.fB).fSigs)
    try simp only [cnt, MFork.size, MSigned.size, MHead.size, MKeys.size] at *
    omega) a
end laws_markForkS
/-! laws.markText -/
namespace laws_markText
inductive Pt where
  | p0 (a : Int) (b : ByteArray)
def pid : Pt → Nat
  | .p0 .. => 4
def pvs : Pt → List V
  | .p0 a b => [.int .i64 a, .str b]
def phs : Pt → List Root
  | .p0 a b => []
noncomputable def step (J : Pt → Ans) : Pt → Ans
  | .p0 a b => (bif (decide (a > 0)) then (bif (decide ((((strL [[L.int (IntKind.u8.wrap (IntKind.i64.wrap (48 + (Int.tmod a 10))))]]).size + b.size : Nat) : Int) > 9223372036854775807)) then none else J (.p0 (IntKind.i64.wrap (Int.tdiv a 10)) ((strL [[L.int (IntKind.u8.wrap (IntKind.i64.wrap (48 + (Int.tmod a 10))))]]) ++ b))) else (bif (decide ((((⟨#[109]⟩ : ByteArray).size + b.size : Nat) : Int) > 9223372036854775807)) then none else ret (((⟨#[109]⟩ : ByteArray) ++ b) : ByteArray)))
noncomputable def start (J : Pt → Ans) (x0 : Int) : Ans := (bif (decide (x0 ≤ 0)) then ret ((⟨#[109, 48]⟩ : ByteArray) : ByteArray) else J (.p0 x0 ⟨#[]⟩))
def live : Nat → Live := fun i => match i with | 4 => [(0, none), (3, none)] | _ => []
def pats : List Pat := [.rd (.int .i64)]
def res : RP := .one (.rd (.str))
noncomputable abbrev E : Env := { T := assoc Tab, G := conG [], nt := 20 }
set_option maxRecDepth 100000
theorem step_eq (I : Heads) (p : Pt) : enterC E live I (pid p) (bodyOf Try.f75) (stOf (live (pid p)) (pvs p) (phs p)) (doneK E Try.f75 res) = step (fun q => I (pid q) (pvs q) (phs q)) p := by
  cases p <;> kernel_rfl
theorem start_eq (I : Heads) (ls : List L) : runC E live I (bodyOf Try.f75) (initS pats ls) (doneK E Try.f75 res) = start (fun q => I (pid q) (pvs q) (phs q)) (ls.headD .hole).toInt := by kernel_rfl
theorem run_eq (n : Nat) (ls : List L) : runF E live Try.f75 res n (initS pats ls) = start (iter step n) (ls.headD .hole).toInt := runF_iter (id := pid) (vs := pvs) (hs := phs) (step := step) (start := fun J => start J (ls.headD .hole).toInt) step_eq (fun I => start_eq I ls) n
noncomputable def dg (a : Int) : ByteArray := strL [[L.int (IntKind.u8.wrap (IntKind.i64.wrap (48 + (Int.tmod a 10))))]]
noncomputable def txt : Nat → Int → ByteArray → ByteArray
  | 0, _, b => b
  | n + 1, a, b => bif decide (a > 0) then txt n (IntKind.i64.wrap (Int.tdiv a 10)) (dg a ++ b) else b
theorem dg_size (a : Int) : (strL [[L.int (IntKind.u8.wrap (IntKind.i64.wrap (48 + (Int.tmod a 10))))]]).size = 1 := rfl
theorem run : ∀ (n : Nat) (a : Int) (b : ByteArray), n ≤ 64 → a < 2 ^ n → I64 a → b.size + n ≤ 1000 → ∃ m, iter step m (.p0 a b) = ret ((⟨#[109]⟩ : ByteArray) ++ txt n a b)
  | 0, a, b, _, h1, _, h3 => by
    refine ⟨1, ?_⟩
    show step _ (.p0 a b) = _
    have e1 : decide (a > 0) = false := decide_eq_false (by simp at h1; omega)
    have e2 : decide ((((⟨#[109]⟩ : ByteArray).size + b.size : Nat) : Int) > 9223372036854775807) = false := decide_eq_false (by have : (⟨#[109]⟩ : ByteArray).size = 1 := rfl; omega)
    simp only [step, e1, e2, cond_false]
    rfl
  | n + 1, a, b, hn, h1, h2, h3 => by
    by_cases hp : a > 0
    · have e1 : decide (a > 0) = true := decide_eq_true hp
      have hq : Int.tdiv a 10 = a / 10 := Int.tdiv_eq_ediv_of_nonneg (by omega)
      unfold I64 at h2
      have hw : IntKind.i64.wrap (Int.tdiv a 10) = a / 10 := by rw [hq]; exact wi _ (by omega)
      have hlt : a / 10 < 2 ^ n := by
        have : (2 : Int) ^ (n + 1) = 2 ^ n * 2 := Int.pow_succ 2 n
        omega
      have hs : (dg a ++ b).size = 1 + b.size := by rw [ByteArray.size_append]; rfl
      obtain ⟨m, hm⟩ := run n (a / 10) (dg a ++ b) (by omega) hlt ⟨by omega, by omega⟩ (by rw [hs]; omega)
      refine ⟨m + 1, ?_⟩
      show step _ (.p0 a b) = _
      have e2 : decide ((((strL [[L.int (IntKind.u8.wrap (IntKind.i64.wrap (48 + (Int.tmod a 10))))]]).size + b.size : Nat) : Int) > 9223372036854775807) = false := decide_eq_false (by rw [dg_size]; omega)
      simp only [step, txt, e1, e2, cond_true, cond_false, hw]
      exact hm
    · refine ⟨1, ?_⟩
      show step _ (.p0 a b) = _
      have e1 : decide (a > 0) = false := decide_eq_false hp
      have e2 : decide ((((⟨#[109]⟩ : ByteArray).size + b.size : Nat) : Int) > 9223372036854775807) = false := decide_eq_false (by have : (⟨#[109]⟩ : ByteArray).size = 1 := rfl; omega)
      simp only [step, txt, e1, e2, cond_false]
noncomputable def md (a0 : Int) : ByteArray := (bif decide (a0 ≤ 0) then (⟨#[109, 48]⟩ : ByteArray) else (⟨#[109]⟩ : ByteArray) ++ txt 64 a0 ⟨#[]⟩)
def gd (a0 : Int) : Prop := I64 a0
def acc (ls : List L) : Int := (ls.headD .hole).toInt
noncomputable def R : Int → Option ByteArray := RR gd md
theorem R_eq {a0} (h : gd a0) : R a0 = some (md a0) := RR_eq (a := a0) h
noncomputable def con : Con := CN pats res acc R
theorem okF (a0 : Int) (hg : gd a0) : ∃ n, start (iter step n) a0 = ret ((md a0) : ByteArray) := by
  unfold gd at hg
  unfold start md
  cases h : decide (a0 ≤ 0)
  · have h2 := hg.2
    have h3 : (2 : Int) ^ 64 = 18446744073709551616 := by decide
    obtain ⟨m, hm⟩ := run 64 a0 ⟨#[]⟩ (Nat.le_refl _) (by rw [h3]; omega) hg (by show 0 + 64 ≤ 1000; omega)
    exact ⟨m, hm⟩
  · exact ⟨0, rfl⟩
theorem valid_ : Valid Try.prog Ev 75 con := VV (run := fun n x => start (iter step n) x) mix tab_ok .nil Try.func75 (by kernel_rfl) run_eq (fun _ a _ _ hg => okF a hg)
end laws_markText
/-! laws.markStringS -/
namespace laws_markStringS
set_option maxRecDepth 100000
set_option maxHeartbeats 8000000
inductive Pt where
  | p0 (a : Int) (b : Int) (c : List (List L))
def pid : Pt → Nat
  | .p0 .. => 2
def pvs : Pt → List V
  | .p0 a b c => [.own 0, .int .i64 a, .int .i64 b]
def phs : Pt → List Root
  | .p0 a b c => [.row 9 c]
noncomputable def step (J : Pt → Ans) : Pt → Ans
  | .p0 a b c => (bif (decide (b < (c.length : Int))) then (call (laws_markText.R a) fun v1 => (bif (decide ((0 : Int) ≤ b)) then (bif (decide (b < (c.length : Int))) then J (.p0 (IntKind.i64.wrap (a + 1)) (IntKind.i64.wrap (b + 1)) (List.set c (Int.toNat b) [L.str v1])) else none) else none)) else ret ((a, c) : Int × List (List L)))
noncomputable def start (J : Pt → Ans) (x0 : List (List L)) (x1 : Int) : Ans := J (.p0 x1 0 x0)
def live : Nat → Live := fun i => match i with | 2 => [(0, none), (1, none), (5, none)] | _ => []
def pats : List (Bool × List K) := [(false, [.sl 9]), (false, [.int .i64])]
def res : RP := .chg [9]
noncomputable abbrev E : Env := { T := assoc Tab, G := conG [(75, laws_markText.con)], nt := 20, M := conM [], np := 1, mt := true }
set_option maxRecDepth 100000
theorem step_eq (I : Heads) (p : Pt) : enterC E live I (pid p) (bodyOf Try.f34) (stOf (live (pid p)) (pvs p) (phs p)) (doneK E Try.f34 res) = step (fun q => I (pid q) (pvs q) (phs q)) p := by
  cases p <;> kernel_rfl
theorem start_eq (I : Heads) (ls : List L) : runC E live I (bodyOf Try.f34) (initM pats ls) (doneK E Try.f34 res) = start (fun q => I (pid q) (pvs q) (phs q)) (ls.headD .hole).toSl ((dropT 1 ls).headD .hole).toInt := by kernel_rfl
theorem run_eq (n : Nat) (ls : List L) : runF E live Try.f34 res n (initM pats ls) = start (iter step n) (ls.headD .hole).toSl ((dropT 1 ls).headD .hole).toInt := runF_iter (id := pid) (vs := pvs) (hs := phs) (step := step) (start := fun J => start J (ls.headD .hole).toSl ((dropT 1 ls).headD .hole).toInt) step_eq (fun I => start_eq I ls) n
noncomputable def el (x : ByteArray) (k : Int) : Int × ByteArray := ((IntKind.i64.wrap (k + 1)), (laws_markText.md k))
theorem el_I (x : ByteArray) (k : Int) (hk : I64 k) : I64 (el x k).1 := (wrap_I64 _)
noncomputable def cnt (x : ByteArray) : Nat := 1
noncomputable def sum (a : List ByteArray) : Nat := (a.map cnt).sum
noncomputable def md (a0 : List ByteArray) (a1 : Int) : Int × List ByteArray := accM el a0 a1
def gd (a0 : List ByteArray) (a1 : Int) : Prop := I64 a1
def acc (ls : List L) : List (List L) × Int := ((ls.headD .hole).toSl, ((dropT 1 ls).headD .hole).toInt)
noncomputable def R : (List (List L) × Int) → Option (Int × List (List L)) := RR (p2 gd) (u2 md)
theorem R_eq {a0} {a1} (h : gd a0 a1) : R ((a0.map sRow), a1) = some ((md a0 a1).1, ((md a0 a1).2.map sRow)) := RR_eq (a := (a0, a1)) h
noncomputable def con : MCon := MN pats acc R
theorem okF (a0 : List ByteArray) (a1 : Int) (hg : gd a0 a1) (h0 : a0.length ≤ maxLen) : ∃ n, start (iter step n) (a0.map sRow) a1 = ret (((md a0 a1).1, ((md a0 a1).2.map sRow)) : Int × List (List L)) := by
  unfold gd at hg
  show ∃ n, iter step n (Pt.p0 a1 0 (a0.map sRow)) = _
  unfold md
  refine mark_loop (el := el) (xs := a0) ⟨#[]⟩ I64 el_I (pt := fun i k c => Pt.p0 k (i : Int) (c.map sRow)) (out := fun b => ret (b.1, b.2.map sRow)) (fun J i k c hi hc hk => ?_) (fun J k c hc => ?_) hg
  · have hm : c.length ≤ maxLen := hc ▸ h0
    simp only [step, S0]
    refine yes_ret (lt_dec hi) ?_
    refine call_to (laws_markText.md k) (laws_markText.R_eq (a0 := k) hk) ?_
    refine yes_ret zle_dec ?_
    refine yes_ret (lt_dec hi) ?_
    rw [wrap_succ hi hm]
    exact congrArg (fun q => J (Pt.p0 (el (c.getD i ⟨#[]⟩) k).1 ((i + 1 : Nat) : Int) q)) (List.map_set (f := sRow) (l := c) (i := i) (a := (el (c.getD i ⟨#[]⟩) k).2)).symm
  · simp only [step, S0]
    refine no_ret (by apply decide_eq_false; omega) ?_
    rfl
theorem valid_ : MValid Try.prog Ev 34 con := MV (run := fun n x => start (iter step n) x.1 x.2) mix tab_ok (.cons laws_markText.valid_ .nil) .nil Try.func34 (by kernel_rfl) run_eq (fun ls a hl e hg => okF a.1 a.2 hg (by have h : (ls.headD .hole).toSl.length ≤ maxLen := (hl _ _ (.head _)).len; have e : a.1.map sRow = (ls.headD .hole).toSl := (congrArg (fun x => x.1) e.symm); rw [← e] at h; simpa using h))
theorem i64 {a0 : List ByteArray} {a1 : Int} (h : I64 a1) : I64 (md a0 a1).1 := accM_I el_I h
theorem elk (x : ByteArray) (k : Int) (h0 : 0 ≤ k) (hb : k + (cnt x : Int) ≤ 4611686018427387904) : (el x k).1 = k + cnt x := by
  simp only [cnt, Int.natCast_add] at hb ⊢
  simp (disch := omega) only [el, wi]
  all_goals first | done | omega
theorem kk (a0 : List ByteArray) (a1 : Int) (h0 : 0 ≤ a1) (hb : a1 + (sum a0 : Int) ≤ 4611686018427387904) : (md a0 a1).1 = a1 + sum a0 := accM_sum elk a0 a1 h0 hb
theorem sz (a : List ByteArray) : sum a ≤ 60 * (szL (fun y : ByteArray => y.size) a) := sum_le (fun x => by
    try simp only [cnt] at *
    omega) a
end laws_markStringS
/-! laws.markTraceS -/
namespace laws_markTraceS
set_option maxRecDepth 100000
set_option maxHeartbeats 8000000
inductive Pt where
  | p0 (a : Int) (b : Int) (c : List (List L))
def pid : Pt → Nat
  | .p0 .. => 2
def pvs : Pt → List V
  | .p0 a b c => [.own 0, .int .i64 a, .int .i64 b]
def phs : Pt → List Root
  | .p0 a b c => [.row 124 c]
noncomputable def step (J : Pt → Ans) : Pt → Ans
  | .p0 a b c => (bif (decide (b < (c.length : Int))) then (bif (decide ((0 : Int) ≤ b)) then (bif (decide (b < (c.length : Int))) then (call (laws_markSignedSS.R ((RTrace.at c (Int.toNat b)).fKnown.fChains, a)) fun v1 => (bif (decide ((0 : Int) ≤ b)) then (bif (decide (b < (c.length : Int))) then (bif (Nat.beq (Int.toNat b) (Int.toNat b) && true) then (bif (Nat.beq (Int.toNat b) (Int.toNat b) && true) then (call (laws_markForkS.R ((RTrace.at c (Int.toNat b)).fKnown.fForks, v1.1)) fun v2 => (bif (decide ((0 : Int) ≤ b)) then (bif (decide (b < (c.length : Int))) then (bif (Nat.beq (Int.toNat b) (Int.toNat b) && true) then (call (laws_markText.R (IntKind.i64.wrap (v2.1 + 1))) fun v3 => (bif (decide ((0 : Int) ≤ b)) then (bif (decide (b < (c.length : Int))) then (bif (Nat.beq (Int.toNat b) (Int.toNat b) && true) then (bif (decide ((0 : Int) ≤ b)) then (bif (decide (b < (c.length : Int))) then (bif (Nat.beq (Int.toNat b) (Int.toNat b) && true) then (bif (decide ((0 : Int) ≤ b)) then (bif (decide (b < (c.length : Int))) then (bif (Nat.beq (Int.toNat b) (Int.toNat b) && true) then (bif (decide ((0 : Int) ≤ b)) then (bif (decide (b < (c.length : Int))) then (bif (Nat.beq (Int.toNat b) (Int.toNat b) && true) then (bif (Nat.beq (Int.toNat b) (Int.toNat b) && true) then (call (laws_markStringS.R ((RTrace.at c (Int.toNat b)).fEntry.fPath, (IntKind.i64.wrap ((IntKind.i64.wrap ((IntKind.i64.wrap ((IntKind.i64.wrap (v2.1 + 1)) + 1)) + 1)) + 1)))) fun v4 => (bif (decide ((0 : Int) ≤ b)) then (bif (decide (b < (c.length : Int))) then (bif (Nat.beq (Int.toNat b) (Int.toNat b) && true) then (bif (Nat.beq (Int.toNat b) (Int.toNat b) && true) then (call (laws_markIntS.R ((RTrace.at c (Int.toNat b)).fZones, v4.1)) fun v5 => (bif (decide ((0 : Int) ≤ b)) then (bif (decide (b < (c.length : Int))) then (bif (Nat.beq (Int.toNat b) (Int.toNat b) && true) then J (.p0 (IntKind.i64.wrap (v5.1 + 1)) (IntKind.i64.wrap (b + 1)) (List.set c (Int.toNat b) (RTrace.enc (⟨(⟨v1.2, v2.2⟩ : RKnown), v2.1, (⟨v3, (IntKind.i64.wrap ((IntKind.i64.wrap (v2.1 + 1)) + 1)), (IntKind.i64.wrap ((IntKind.i64.wrap ((IntKind.i64.wrap (v2.1 + 1)) + 1)) + 1)), v4.2⟩ : REntry), v5.2, v5.1⟩ : RTrace)))) else none) else none) else none)) else none) else none) else none) else none)) else none) else none) else none) else none) else none) else none) else none) else none) else none) else none) else none) else none) else none)) else none) else none) else none)) else none) else none) else none) else none)) else none) else none) else ret ((a, c) : Int × List (List L)))
noncomputable def start (J : Pt → Ans) (x0 : List (List L)) (x1 : Int) : Ans := J (.p0 x1 0 x0)
def live : Nat → Live := fun i => match i with | 2 => [(0, none), (1, none), (5, none)] | _ => []
def pats : List (Bool × List K) := [(false, [.sl 124]), (false, [.int .i64])]
def res : RP := .chg [124]
noncomputable abbrev E : Env := { T := assoc Tab, G := conG [(75, laws_markText.con)], nt := 83, M := conM [(98, laws_markSignedSS.con), (99, laws_markForkS.con), (34, laws_markStringS.con), (100, laws_markIntS.con)], np := 1, mt := true }
set_option maxRecDepth 100000
theorem step_eq (I : Heads) (p : Pt) : enterC E live I (pid p) (bodyOf Try.f45) (stOf (live (pid p)) (pvs p) (phs p)) (doneK E Try.f45 res) = step (fun q => I (pid q) (pvs q) (phs q)) p := by
  cases p <;> kernel_rfl
theorem start_eq (I : Heads) (ls : List L) : runC E live I (bodyOf Try.f45) (initM pats ls) (doneK E Try.f45 res) = start (fun q => I (pid q) (pvs q) (phs q)) (ls.headD .hole).toSl ((dropT 1 ls).headD .hole).toInt := by kernel_rfl
theorem run_eq (n : Nat) (ls : List L) : runF E live Try.f45 res n (initM pats ls) = start (iter step n) (ls.headD .hole).toSl ((dropT 1 ls).headD .hole).toInt := runF_iter (id := pid) (vs := pvs) (hs := phs) (step := step) (start := fun J => start J (ls.headD .hole).toSl ((dropT 1 ls).headD .hole).toInt) step_eq (fun I => start_eq I ls) n
noncomputable def e1 (x : MTrace) (k : Int) := laws_markSignedSS.md ((x.fKnown).fChains) k
noncomputable def e2 (x : MTrace) (k : Int) := laws_markForkS.md ((x.fKnown).fForks) ((e1 x k).1)
noncomputable def e3 (x : MTrace) (k : Int) := laws_markStringS.md ((x.fEntry).fPath) (IntKind.i64.wrap ((IntKind.i64.wrap ((IntKind.i64.wrap ((IntKind.i64.wrap ((e2 x k).1 + 1)) + 1)) + 1)) + 1))
noncomputable def e4 (x : MTrace) (k : Int) := laws_markIntS.md x.fZones ((e3 x k).1)
noncomputable def el (x : MTrace) (k : Int) : Int × MTrace := ((IntKind.i64.wrap ((e4 x k).1 + 1)), (⟨(⟨(e1 x k).2, (e2 x k).2⟩ : MKnown), (e2 x k).1, (⟨(laws_markText.md (IntKind.i64.wrap ((e2 x k).1 + 1))), (IntKind.i64.wrap ((IntKind.i64.wrap ((e2 x k).1 + 1)) + 1)), (IntKind.i64.wrap ((IntKind.i64.wrap ((IntKind.i64.wrap ((e2 x k).1 + 1)) + 1)) + 1)), (e3 x k).2⟩ : MEntry), (e4 x k).2, (e4 x k).1⟩ : MTrace))
theorem el_I (x : MTrace) (k : Int) (hk : I64 k) : I64 (el x k).1 := (wrap_I64 _)
noncomputable def cnt (x : MTrace) : Nat := 5 + laws_markSignedSS.sum ((x.fKnown).fChains) + laws_markForkS.sum ((x.fKnown).fForks) + laws_markStringS.sum ((x.fEntry).fPath) + laws_markIntS.sum x.fZones
noncomputable def sum (a : List MTrace) : Nat := (a.map cnt).sum
noncomputable def md (a0 : List MTrace) (a1 : Int) : Int × List MTrace := accM el a0 a1
def gd (a0 : List MTrace) (a1 : Int) : Prop := I64 a1
def acc (ls : List L) : List (List L) × Int := ((ls.headD .hole).toSl, ((dropT 1 ls).headD .hole).toInt)
noncomputable def R : (List (List L) × Int) → Option (Int × List (List L)) := RR (p2 gd) (u2 md)
theorem R_eq {a0} {a1} (h : gd a0 a1) : R ((a0.map MTrace.row), a1) = some ((md a0 a1).1, ((md a0 a1).2.map MTrace.row)) := RR_eq (a := (a0, a1)) h
noncomputable def con : MCon := MN pats acc R
theorem okF (a0 : List MTrace) (a1 : Int) (hg : gd a0 a1) (h0 : a0.length ≤ maxLen) : ∃ n, start (iter step n) (a0.map MTrace.row) a1 = ret (((md a0 a1).1, ((md a0 a1).2.map MTrace.row)) : Int × List (List L)) := by
  unfold gd at hg
  show ∃ n, iter step n (Pt.p0 a1 0 (a0.map MTrace.row)) = _
  unfold md
  refine mark_loop (el := el) (xs := a0) MTrace.zero I64 el_I (pt := fun i k c => Pt.p0 k (i : Int) (c.map MTrace.row)) (out := fun b => ret (b.1, b.2.map MTrace.row)) (fun J i k c hi hc hk => ?_) (fun J k c hc => ?_) hg
  · have hm : c.length ≤ maxLen := hc ▸ h0
    simp only [step, S0, MKnown.rs, MEntry.rs, MTrace.rs]
    refine yes_ret (lt_dec hi) ?_
    refine yes_ret zle_dec ?_
    refine yes_ret (lt_dec hi) ?_
    refine call_to ((e1 (c.getD i MTrace.zero) k).1, ((e1 (c.getD i MTrace.zero) k).2.map (lRow MSigned.row))) (laws_markSignedSS.R_eq (a0 := ((c.getD i MTrace.zero).fKnown).fChains) (a1 := k) hk) ?_
    refine yes_ret zle_dec ?_
    refine yes_ret (lt_dec hi) ?_
    refine yes_ret (beq_t _) ?_
    refine yes_ret (beq_t _) ?_
    refine call_to ((e2 (c.getD i MTrace.zero) k).1, ((e2 (c.getD i MTrace.zero) k).2.map MFork.row)) (laws_markForkS.R_eq (a0 := ((c.getD i MTrace.zero).fKnown).fForks) (a1 := (e1 (c.getD i MTrace.zero) k).1) (laws_markSignedSS.i64 hk)) ?_
    refine yes_ret zle_dec ?_
    refine yes_ret (lt_dec hi) ?_
    refine yes_ret (beq_t _) ?_
    refine call_to (laws_markText.md (IntKind.i64.wrap ((e2 (c.getD i MTrace.zero) k).1 + 1))) (laws_markText.R_eq (a0 := IntKind.i64.wrap ((e2 (c.getD i MTrace.zero) k).1 + 1)) (wrap_I64 _)) ?_
    refine yes_ret zle_dec ?_
    refine yes_ret (lt_dec hi) ?_
    refine yes_ret (beq_t _) ?_
    refine yes_ret zle_dec ?_
    refine yes_ret (lt_dec hi) ?_
    refine yes_ret (beq_t _) ?_
    refine yes_ret zle_dec ?_
    refine yes_ret (lt_dec hi) ?_
    refine yes_ret (beq_t _) ?_
    refine yes_ret zle_dec ?_
    refine yes_ret (lt_dec hi) ?_
    refine yes_ret (beq_t _) ?_
    refine yes_ret (beq_t _) ?_
    refine call_to ((e3 (c.getD i MTrace.zero) k).1, ((e3 (c.getD i MTrace.zero) k).2.map sRow)) (laws_markStringS.R_eq (a0 := ((c.getD i MTrace.zero).fEntry).fPath) (a1 := IntKind.i64.wrap ((IntKind.i64.wrap ((IntKind.i64.wrap ((IntKind.i64.wrap ((e2 (c.getD i MTrace.zero) k).1 + 1)) + 1)) + 1)) + 1)) (wrap_I64 _)) ?_
    refine yes_ret zle_dec ?_
    refine yes_ret (lt_dec hi) ?_
    refine yes_ret (beq_t _) ?_
    refine yes_ret (beq_t _) ?_
    refine call_to ((e4 (c.getD i MTrace.zero) k).1, ((e4 (c.getD i MTrace.zero) k).2.map iRow)) (laws_markIntS.R_eq (a0 := (c.getD i MTrace.zero).fZones) (a1 := (e3 (c.getD i MTrace.zero) k).1) (laws_markStringS.i64 (wrap_I64 _))) ?_
    refine yes_ret zle_dec ?_
    refine yes_ret (lt_dec hi) ?_
    refine yes_ret (beq_t _) ?_
    rw [wrap_succ hi hm]
    exact congrArg (fun q => J (Pt.p0 (el (c.getD i MTrace.zero) k).1 ((i + 1 : Nat) : Int) q)) (List.map_set (f := MTrace.row) (l := c) (i := i) (a := (el (c.getD i MTrace.zero) k).2)).symm
  · simp only [step, S0, MKnown.rs, MEntry.rs, MTrace.rs]
    refine no_ret (by apply decide_eq_false; omega) ?_
    rfl
theorem valid_ : MValid Try.prog Ev 45 con := MV (run := fun n x => start (iter step n) x.1 x.2) mix tab_ok (.cons laws_markText.valid_ .nil) (.cons laws_markSignedSS.valid_ (.cons laws_markForkS.valid_ (.cons laws_markStringS.valid_ (.cons laws_markIntS.valid_ .nil)))) Try.func45 (by kernel_rfl) run_eq (fun ls a hl e hg => okF a.1 a.2 hg (by have h : (ls.headD .hole).toSl.length ≤ maxLen := (hl _ _ (.head _)).len; have e : a.1.map MTrace.row = (ls.headD .hole).toSl := (congrArg (fun x => x.1) e.symm); rw [← e] at h; simpa using h))
theorem i64 {a0 : List MTrace} {a1 : Int} (h : I64 a1) : I64 (md a0 a1).1 := accM_I el_I h
theorem elk (x : MTrace) (k : Int) (h0 : 0 ≤ k) (hb : k + (cnt x : Int) ≤ 4611686018427387904) : (el x k).1 = k + cnt x := by
  simp only [cnt, Int.natCast_add] at hb ⊢
  simp (disch := omega) only [el, e1, e2, e3, e4, wi, laws_markSignedSS.kk, laws_markForkS.kk, laws_markStringS.kk, laws_markIntS.kk]
  all_goals first | done | omega
theorem kk (a0 : List MTrace) (a1 : Int) (h0 : 0 ≤ a1) (hb : a1 + (sum a0 : Int) ≤ 4611686018427387904) : (md a0 a1).1 = a1 + sum a0 := accM_sum elk a0 a1 h0 hb
theorem sz (a : List MTrace) : sum a ≤ 60 * (szL (fun y : MTrace => MTrace.size y) a) := sum_le (fun x => by
    have := laws_markSignedSS.sz ((x.fKnown).fChains)
    have := laws_markForkS.sz ((x.fKnown).fForks)
    have := laws_markStringS.sz ((x.fEntry).fPath)
    have := laws_markIntS.sz x.fZones
    try simp only [cnt, MTrace.size, MKnown.size, MEntry.size] at *
    omega) a
end laws_markTraceS
/-! laws.markEntryS -/
namespace laws_markEntryS
set_option maxRecDepth 100000
set_option maxHeartbeats 8000000
inductive Pt where
  | p0 (a : Int) (b : Int) (c : List (List L))
def pid : Pt → Nat
  | .p0 .. => 2
def pvs : Pt → List V
  | .p0 a b c => [.own 0, .int .i64 a, .int .i64 b]
def phs : Pt → List Root
  | .p0 a b c => [.row 50 c]
noncomputable def step (J : Pt → Ans) : Pt → Ans
  | .p0 a b c => (bif (decide (b < (c.length : Int))) then (call (laws_markText.R a) fun v1 => (bif (decide ((0 : Int) ≤ b)) then (bif (decide (b < (c.length : Int))) then (bif (decide ((0 : Int) ≤ b)) then (bif (decide (b < (c.length : Int))) then (bif (Nat.beq (Int.toNat b) (Int.toNat b) && true) then (bif (decide ((0 : Int) ≤ b)) then (bif (decide (b < (c.length : Int))) then (bif (Nat.beq (Int.toNat b) (Int.toNat b) && true) then (bif (decide ((0 : Int) ≤ b)) then (bif (decide (b < (c.length : Int))) then (bif (Nat.beq (Int.toNat b) (Int.toNat b) && true) then (bif (Nat.beq (Int.toNat b) (Int.toNat b) && true) then (call (laws_markStringS.R ((REntry.at c (Int.toNat b)).fPath, (IntKind.i64.wrap ((IntKind.i64.wrap ((IntKind.i64.wrap (a + 1)) + 1)) + 1)))) fun v2 => J (.p0 v2.1 (IntKind.i64.wrap (b + 1)) (List.set c (Int.toNat b) (REntry.enc (⟨v1, (IntKind.i64.wrap (a + 1)), (IntKind.i64.wrap ((IntKind.i64.wrap (a + 1)) + 1)), v2.2⟩ : REntry))))) else none) else none) else none) else none) else none) else none) else none) else none) else none) else none) else none) else none)) else ret ((a, c) : Int × List (List L)))
noncomputable def start (J : Pt → Ans) (x0 : List (List L)) (x1 : Int) : Ans := J (.p0 x1 0 x0)
def live : Nat → Live := fun i => match i with | 2 => [(0, none), (1, none), (5, none)] | _ => []
def pats : List (Bool × List K) := [(false, [.sl 50]), (false, [.int .i64])]
def res : RP := .chg [50]
noncomputable abbrev E : Env := { T := assoc Tab, G := conG [(75, laws_markText.con)], nt := 42, M := conM [(34, laws_markStringS.con)], np := 1, mt := true }
set_option maxRecDepth 100000
theorem step_eq (I : Heads) (p : Pt) : enterC E live I (pid p) (bodyOf Try.f51) (stOf (live (pid p)) (pvs p) (phs p)) (doneK E Try.f51 res) = step (fun q => I (pid q) (pvs q) (phs q)) p := by
  cases p <;> kernel_rfl
theorem start_eq (I : Heads) (ls : List L) : runC E live I (bodyOf Try.f51) (initM pats ls) (doneK E Try.f51 res) = start (fun q => I (pid q) (pvs q) (phs q)) (ls.headD .hole).toSl ((dropT 1 ls).headD .hole).toInt := by kernel_rfl
theorem run_eq (n : Nat) (ls : List L) : runF E live Try.f51 res n (initM pats ls) = start (iter step n) (ls.headD .hole).toSl ((dropT 1 ls).headD .hole).toInt := runF_iter (id := pid) (vs := pvs) (hs := phs) (step := step) (start := fun J => start J (ls.headD .hole).toSl ((dropT 1 ls).headD .hole).toInt) step_eq (fun I => start_eq I ls) n
noncomputable def e1 (x : MEntry) (k : Int) := laws_markStringS.md x.fPath (IntKind.i64.wrap ((IntKind.i64.wrap ((IntKind.i64.wrap (k + 1)) + 1)) + 1))
noncomputable def el (x : MEntry) (k : Int) : Int × MEntry := ((e1 x k).1, (⟨(laws_markText.md k), (IntKind.i64.wrap (k + 1)), (IntKind.i64.wrap ((IntKind.i64.wrap (k + 1)) + 1)), (e1 x k).2⟩ : MEntry))
theorem el_I (x : MEntry) (k : Int) (hk : I64 k) : I64 (el x k).1 := (laws_markStringS.i64 (wrap_I64 _))
noncomputable def cnt (x : MEntry) : Nat := 3 + laws_markStringS.sum x.fPath
noncomputable def sum (a : List MEntry) : Nat := (a.map cnt).sum
noncomputable def md (a0 : List MEntry) (a1 : Int) : Int × List MEntry := accM el a0 a1
def gd (a0 : List MEntry) (a1 : Int) : Prop := I64 a1
def acc (ls : List L) : List (List L) × Int := ((ls.headD .hole).toSl, ((dropT 1 ls).headD .hole).toInt)
noncomputable def R : (List (List L) × Int) → Option (Int × List (List L)) := RR (p2 gd) (u2 md)
theorem R_eq {a0} {a1} (h : gd a0 a1) : R ((a0.map MEntry.row), a1) = some ((md a0 a1).1, ((md a0 a1).2.map MEntry.row)) := RR_eq (a := (a0, a1)) h
noncomputable def con : MCon := MN pats acc R
theorem okF (a0 : List MEntry) (a1 : Int) (hg : gd a0 a1) (h0 : a0.length ≤ maxLen) : ∃ n, start (iter step n) (a0.map MEntry.row) a1 = ret (((md a0 a1).1, ((md a0 a1).2.map MEntry.row)) : Int × List (List L)) := by
  unfold gd at hg
  show ∃ n, iter step n (Pt.p0 a1 0 (a0.map MEntry.row)) = _
  unfold md
  refine mark_loop (el := el) (xs := a0) MEntry.zero I64 el_I (pt := fun i k c => Pt.p0 k (i : Int) (c.map MEntry.row)) (out := fun b => ret (b.1, b.2.map MEntry.row)) (fun J i k c hi hc hk => ?_) (fun J k c hc => ?_) hg
  · have hm : c.length ≤ maxLen := hc ▸ h0
    simp only [step, S0, MEntry.rs]
    refine yes_ret (lt_dec hi) ?_
    refine call_to (laws_markText.md k) (laws_markText.R_eq (a0 := k) hk) ?_
    refine yes_ret zle_dec ?_
    refine yes_ret (lt_dec hi) ?_
    refine yes_ret zle_dec ?_
    refine yes_ret (lt_dec hi) ?_
    refine yes_ret (beq_t _) ?_
    refine yes_ret zle_dec ?_
    refine yes_ret (lt_dec hi) ?_
    refine yes_ret (beq_t _) ?_
    refine yes_ret zle_dec ?_
    refine yes_ret (lt_dec hi) ?_
    refine yes_ret (beq_t _) ?_
    refine yes_ret (beq_t _) ?_
    refine call_to ((e1 (c.getD i MEntry.zero) k).1, ((e1 (c.getD i MEntry.zero) k).2.map sRow)) (laws_markStringS.R_eq (a0 := (c.getD i MEntry.zero).fPath) (a1 := IntKind.i64.wrap ((IntKind.i64.wrap ((IntKind.i64.wrap (k + 1)) + 1)) + 1)) (wrap_I64 _)) ?_
    rw [wrap_succ hi hm]
    exact congrArg (fun q => J (Pt.p0 (el (c.getD i MEntry.zero) k).1 ((i + 1 : Nat) : Int) q)) (List.map_set (f := MEntry.row) (l := c) (i := i) (a := (el (c.getD i MEntry.zero) k).2)).symm
  · simp only [step, S0, MEntry.rs]
    refine no_ret (by apply decide_eq_false; omega) ?_
    rfl
theorem valid_ : MValid Try.prog Ev 51 con := MV (run := fun n x => start (iter step n) x.1 x.2) mix tab_ok (.cons laws_markText.valid_ .nil) (.cons laws_markStringS.valid_ .nil) Try.func51 (by kernel_rfl) run_eq (fun ls a hl e hg => okF a.1 a.2 hg (by have h : (ls.headD .hole).toSl.length ≤ maxLen := (hl _ _ (.head _)).len; have e : a.1.map MEntry.row = (ls.headD .hole).toSl := (congrArg (fun x => x.1) e.symm); rw [← e] at h; simpa using h))
theorem i64 {a0 : List MEntry} {a1 : Int} (h : I64 a1) : I64 (md a0 a1).1 := accM_I el_I h
theorem elk (x : MEntry) (k : Int) (h0 : 0 ≤ k) (hb : k + (cnt x : Int) ≤ 4611686018427387904) : (el x k).1 = k + cnt x := by
  simp only [cnt, Int.natCast_add] at hb ⊢
  simp (disch := omega) only [el, e1, wi, laws_markStringS.kk]
  all_goals first | done | omega
theorem kk (a0 : List MEntry) (a1 : Int) (h0 : 0 ≤ a1) (hb : a1 + (sum a0 : Int) ≤ 4611686018427387904) : (md a0 a1).1 = a1 + sum a0 := accM_sum elk a0 a1 h0 hb
theorem sz (a : List MEntry) : sum a ≤ 60 * (szL (fun y : MEntry => MEntry.size y) a) := sum_le (fun x => by
    have := laws_markStringS.sz x.fPath
    try simp only [cnt, MEntry.size] at *
    omega) a
end laws_markEntryS
/-! laws.heldStringS -/
namespace laws_heldStringS
set_option maxRecDepth 100000
set_option maxHeartbeats 8000000
inductive Pt where
  | p0 (a : List (List L)) (b : Int) (c : Int)
def pid : Pt → Nat
  | .p0 .. => 2
def pvs : Pt → List V
  | .p0 a b c => [.sl none 9 a, .int .i64 b, .int .i64 c]
def phs : Pt → List Root
  | .p0 a b c => []
noncomputable def step (J : Pt → Ans) : Pt → Ans
  | .p0 a b c => (bif (decide (c < (a.length : Int))) then (bif (decide ((0 : Int) ≤ c)) then (bif (decide (c < (a.length : Int))) then (call (laws_markText.R b) fun v1 => (bif (!((sAt a (Int.toNat c)) == v1)) then ret ((-1) : Int) else J (.p0 a (IntKind.i64.wrap (b + 1)) (IntKind.i64.wrap (c + 1))))) else none) else none) else ret (b : Int))
noncomputable def start (J : Pt → Ans) (x0 : List (List L)) (x1 : Int) : Ans := J (.p0 x0 x1 0)
def live : Nat → Live := fun i => match i with | 2 => [(0, none), (1, none), (5, none)] | _ => []
def pats : List Pat := [.rd (.sl 9), .rd (.int .i64)]
def res : RP := .one (.rd (.int .i64))
noncomputable abbrev E : Env := { T := assoc Tab, G := conG [(75, laws_markText.con)], nt := 22 }
set_option maxRecDepth 100000
theorem step_eq (I : Heads) (p : Pt) : enterC E live I (pid p) (bodyOf Try.f89) (stOf (live (pid p)) (pvs p) (phs p)) (doneK E Try.f89 res) = step (fun q => I (pid q) (pvs q) (phs q)) p := by
  cases p <;> kernel_rfl
theorem start_eq (I : Heads) (ls : List L) : runC E live I (bodyOf Try.f89) (initS pats ls) (doneK E Try.f89 res) = start (fun q => I (pid q) (pvs q) (phs q)) (ls.headD .hole).toSl ((dropT 1 ls).headD .hole).toInt := by kernel_rfl
theorem run_eq (n : Nat) (ls : List L) : runF E live Try.f89 res n (initS pats ls) = start (iter step n) (ls.headD .hole).toSl ((dropT 1 ls).headD .hole).toInt := runF_iter (id := pid) (vs := pvs) (hs := phs) (step := step) (start := fun J => start J (ls.headD .hole).toSl ((dropT 1 ls).headD .hole).toInt) step_eq (fun I => start_eq I ls) n
noncomputable def f (x : ByteArray) (k : Int) : Option Int := (bif (!(x == (laws_markText.md k))) then none else (some (IntKind.i64.wrap (k + 1))))
theorem f_I (x : ByteArray) (k k2 : Int) (hk : I64 k) (h : f x k = some k2) : I64 k2 := by
  unfold f at h
  have h := bif_some h
  injection h with h
  subst h
  exact (wrap_I64 _)
noncomputable def md (a0 : List ByteArray) (a1 : Int) : Int := heldM f a0 a1
def gd (a0 : List ByteArray) (a1 : Int) : Prop := I64 a1
def acc (ls : List L) : List (List L) × Int := ((ls.headD .hole).toSl, ((dropT 1 ls).headD .hole).toInt)
noncomputable def R : (List (List L) × Int) → Option Int := RR (p2 gd) (u2 md)
theorem R_eq {a0} {a1} (h : gd a0 a1) : R ((a0.map sRow), a1) = some (md a0 a1) := RR_eq (a := (a0, a1)) h
noncomputable def con : Con := CN pats res acc R
theorem okF (a0 : List ByteArray) (a1 : Int) (hg : gd a0 a1) (h0 : a0.length ≤ maxLen) : ∃ n, start (iter step n) (a0.map sRow) a1 = ret ((md a0 a1) : Int) := by
  unfold gd at hg
  show ∃ n, iter step n (Pt.p0 (a0.map sRow) a1 0) = _
  unfold md
  refine held_loop (f := f) (xs := a0) ⟨#[]⟩ I64 f_I (pt := fun i k => Pt.p0 (a0.map sRow) k (i : Int)) (fun J i k hi hk => ?_) (fun J k => ?_) hg
  · simp only [step, S0]
    refine yes_ret (lt_dec hi) ?_
    refine yes_ret zle_dec ?_
    refine yes_ret (lt_dec hi) ?_
    refine call_to (laws_markText.md k) (laws_markText.R_eq (a0 := k) hk) ?_
    refine held_bif rfl ?_
    rw [wrap_succ hi h0]
    rfl
  · simp only [step, S0]
    refine no_ret (by apply decide_eq_false; omega) ?_
    rfl
theorem valid_ : Valid Try.prog Ev 89 con := VV (run := fun n x => start (iter step n) x.1 x.2) mix tab_ok (.cons laws_markText.valid_ .nil) Try.func89 (by kernel_rfl) run_eq (fun ls a hl e hg => okF a.1 a.2 hg (by have h : (ls.headD .hole).toSl.length ≤ maxLen := hl.1.len; have e : a.1.map sRow = (ls.headD .hole).toSl := (congrArg (fun x => x.1) e.symm); rw [← e] at h; simpa using h))
theorem i64 {a0 : List ByteArray} {a1 : Int} (h : I64 a1) : I64 (md a0 a1) := heldM_I f_I I64_neg h
theorem elh (x : ByteArray) (k : Int) (h0 : 0 ≤ k) (hb : k + (laws_markStringS.cnt x : Int) ≤ 4611686018427387904) : f (laws_markStringS.el x k).2 k = some (k + laws_markStringS.cnt x) := by
  simp only [laws_markStringS.cnt, Int.natCast_add] at hb ⊢
  simp (disch := omega) only [laws_markStringS.el, f, wi, bne_self_eq_false, beq_self_eq_true, ba_refl, Bool.not_true, cond_false, dec_neg]
  all_goals first | done | omega | (congr 1 <;> omega)
theorem mk (a0 : List ByteArray) (a1 : Int) (h0 : 0 ≤ a1) (hb : a1 + (laws_markStringS.sum a0 : Int) ≤ 4611686018427387904) : md (laws_markStringS.md a0 a1).2 a1 = a1 + laws_markStringS.sum a0 := held_mark laws_markStringS.elk elh a0 a1 h0 hb
end laws_heldStringS
/-! laws.heldEntryS -/
namespace laws_heldEntryS
set_option maxRecDepth 100000
set_option maxHeartbeats 8000000
inductive Pt where
  | p0 (a : List (List L)) (b : Int) (c : Int)
def pid : Pt → Nat
  | .p0 .. => 2
def pvs : Pt → List V
  | .p0 a b c => [.sl none 50 a, .int .i64 b, .int .i64 c]
def phs : Pt → List Root
  | .p0 a b c => []
noncomputable def step (J : Pt → Ans) : Pt → Ans
  | .p0 a b c => (bif (decide (c < (a.length : Int))) then (bif (decide ((0 : Int) ≤ c)) then (bif (decide (c < (a.length : Int))) then (call (laws_markText.R b) fun v1 => (bif (!((REntry.at a (Int.toNat c)).fLabel == v1)) then ret ((-1) : Int) else (bif (decide ((0 : Int) ≤ c)) then (bif (decide (c < (a.length : Int))) then (bif ((REntry.at a (Int.toNat c)).fKind != (IntKind.i64.wrap (b + 1))) then ret ((-1) : Int) else (bif (decide ((0 : Int) ≤ c)) then (bif (decide (c < (a.length : Int))) then (bif ((REntry.at a (Int.toNat c)).fValue != (IntKind.i64.wrap ((IntKind.i64.wrap (b + 1)) + 1))) then ret ((-1) : Int) else (bif (decide ((0 : Int) ≤ c)) then (bif (decide (c < (a.length : Int))) then (call (laws_heldStringS.R ((REntry.at a (Int.toNat c)).fPath, (IntKind.i64.wrap ((IntKind.i64.wrap ((IntKind.i64.wrap (b + 1)) + 1)) + 1)))) fun v2 => (bif (decide (v2 < 0)) then ret ((-1) : Int) else J (.p0 a v2 (IntKind.i64.wrap (c + 1))))) else none) else none)) else none) else none)) else none) else none))) else none) else none) else ret (b : Int))
noncomputable def start (J : Pt → Ans) (x0 : List (List L)) (x1 : Int) : Ans := J (.p0 x0 x1 0)
def live : Nat → Live := fun i => match i with | 2 => [(0, none), (1, none), (5, none)] | _ => []
def pats : List Pat := [.rd (.sl 50), .rd (.int .i64)]
def res : RP := .one (.rd (.int .i64))
noncomputable abbrev E : Env := { T := assoc Tab, G := conG [(75, laws_markText.con), (89, laws_heldStringS.con)], nt := 50 }
set_option maxRecDepth 100000
theorem step_eq (I : Heads) (p : Pt) : enterC E live I (pid p) (bodyOf Try.f52) (stOf (live (pid p)) (pvs p) (phs p)) (doneK E Try.f52 res) = step (fun q => I (pid q) (pvs q) (phs q)) p := by
  cases p <;> kernel_rfl
theorem start_eq (I : Heads) (ls : List L) : runC E live I (bodyOf Try.f52) (initS pats ls) (doneK E Try.f52 res) = start (fun q => I (pid q) (pvs q) (phs q)) (ls.headD .hole).toSl ((dropT 1 ls).headD .hole).toInt := by kernel_rfl
theorem run_eq (n : Nat) (ls : List L) : runF E live Try.f52 res n (initS pats ls) = start (iter step n) (ls.headD .hole).toSl ((dropT 1 ls).headD .hole).toInt := runF_iter (id := pid) (vs := pvs) (hs := phs) (step := step) (start := fun J => start J (ls.headD .hole).toSl ((dropT 1 ls).headD .hole).toInt) step_eq (fun I => start_eq I ls) n
noncomputable def e1 (x : MEntry) (k : Int) := laws_heldStringS.md x.fPath (IntKind.i64.wrap ((IntKind.i64.wrap ((IntKind.i64.wrap (k + 1)) + 1)) + 1))
noncomputable def f (x : MEntry) (k : Int) : Option Int := (bif (!(x.fLabel == (laws_markText.md k))) then none else (bif (x.fKind != (IntKind.i64.wrap (k + 1))) then none else (bif (x.fValue != (IntKind.i64.wrap ((IntKind.i64.wrap (k + 1)) + 1))) then none else (bif (decide ((e1 x k) < 0)) then none else (some (e1 x k))))))
theorem f_I (x : MEntry) (k k2 : Int) (hk : I64 k) (h : f x k = some k2) : I64 k2 := by
  unfold f at h
  have h := bif_some h
  have h := bif_some h
  have h := bif_some h
  have h := bif_some h
  injection h with h
  subst h
  exact (laws_heldStringS.i64 (wrap_I64 _))
noncomputable def md (a0 : List MEntry) (a1 : Int) : Int := heldM f a0 a1
def gd (a0 : List MEntry) (a1 : Int) : Prop := I64 a1
def acc (ls : List L) : List (List L) × Int := ((ls.headD .hole).toSl, ((dropT 1 ls).headD .hole).toInt)
noncomputable def R : (List (List L) × Int) → Option Int := RR (p2 gd) (u2 md)
theorem R_eq {a0} {a1} (h : gd a0 a1) : R ((a0.map MEntry.row), a1) = some (md a0 a1) := RR_eq (a := (a0, a1)) h
noncomputable def con : Con := CN pats res acc R
theorem okF (a0 : List MEntry) (a1 : Int) (hg : gd a0 a1) (h0 : a0.length ≤ maxLen) : ∃ n, start (iter step n) (a0.map MEntry.row) a1 = ret ((md a0 a1) : Int) := by
  unfold gd at hg
  show ∃ n, iter step n (Pt.p0 (a0.map MEntry.row) a1 0) = _
  unfold md
  refine held_loop (f := f) (xs := a0) MEntry.zero I64 f_I (pt := fun i k => Pt.p0 (a0.map MEntry.row) k (i : Int)) (fun J i k hi hk => ?_) (fun J k => ?_) hg
  · simp only [step, S0, MEntry.rs]
    refine yes_ret (lt_dec hi) ?_
    refine yes_ret zle_dec ?_
    refine yes_ret (lt_dec hi) ?_
    refine call_to (laws_markText.md k) (laws_markText.R_eq (a0 := k) hk) ?_
    refine held_bif rfl ?_
    refine yes_ret zle_dec ?_
    refine yes_ret (lt_dec hi) ?_
    refine held_bif rfl ?_
    refine yes_ret zle_dec ?_
    refine yes_ret (lt_dec hi) ?_
    refine held_bif rfl ?_
    refine yes_ret zle_dec ?_
    refine yes_ret (lt_dec hi) ?_
    refine call_to (e1 (a0.getD i MEntry.zero) k) (laws_heldStringS.R_eq (a0 := (a0.getD i MEntry.zero).fPath) (a1 := IntKind.i64.wrap ((IntKind.i64.wrap ((IntKind.i64.wrap (k + 1)) + 1)) + 1)) (wrap_I64 _)) ?_
    refine held_bif rfl ?_
    rw [wrap_succ hi h0]
    rfl
  · simp only [step, S0, MEntry.rs]
    refine no_ret (by apply decide_eq_false; omega) ?_
    rfl
theorem valid_ : Valid Try.prog Ev 52 con := VV (run := fun n x => start (iter step n) x.1 x.2) mix tab_ok (.cons laws_markText.valid_ (.cons laws_heldStringS.valid_ .nil)) Try.func52 (by kernel_rfl) run_eq (fun ls a hl e hg => okF a.1 a.2 hg (by have h : (ls.headD .hole).toSl.length ≤ maxLen := hl.1.len; have e : a.1.map MEntry.row = (ls.headD .hole).toSl := (congrArg (fun x => x.1) e.symm); rw [← e] at h; simpa using h))
theorem i64 {a0 : List MEntry} {a1 : Int} (h : I64 a1) : I64 (md a0 a1) := heldM_I f_I I64_neg h
theorem elh (x : MEntry) (k : Int) (h0 : 0 ≤ k) (hb : k + (laws_markEntryS.cnt x : Int) ≤ 4611686018427387904) : f (laws_markEntryS.el x k).2 k = some (k + laws_markEntryS.cnt x) := by
  simp only [laws_markEntryS.cnt, Int.natCast_add] at hb ⊢
  simp (disch := omega) only [laws_markEntryS.el, f, laws_markEntryS.e1, e1, wi, laws_markStringS.kk, laws_heldStringS.mk, bne_self_eq_false, beq_self_eq_true, ba_refl, Bool.not_true, cond_false, dec_neg]
  all_goals first | done | omega | (congr 1 <;> omega)
theorem mk (a0 : List MEntry) (a1 : Int) (h0 : 0 ≤ a1) (hb : a1 + (laws_markEntryS.sum a0 : Int) ≤ 4611686018427387904) : md (laws_markEntryS.md a0 a1).2 a1 = a1 + laws_markEntryS.sum a0 := held_mark laws_markEntryS.elk elh a0 a1 h0 hb
end laws_heldEntryS
/-! laws.FnExactDisputed -/
namespace laws_FnExactDisputed
noncomputable def F (x0 : List (List L)) : Ans := (call (laws_szTraceS.R (x0, 1048576)) fun v1 => (bif (decide (v1 < 0)) then ret (true : Bool) else (call (laws_toTraceS.R x0) fun v2 => (call (spec_Disputed.R v2) fun v3 => (call (laws_toTraceS.R x0) fun v4 => (call (impl_Disputed.R v4) fun v5 => (call (laws_eqEntryS.R (v5, v3)) fun v6 => (bif (!v6) then ret (false : Bool) else (call (laws_toTraceS.R x0) fun v7 => (call (laws_eqTraceS.R (v4, v7)) fun v8 => (bif (!v8) then ret (false : Bool) else (call (laws_markTraceS.R (v4, 1)) fun v9 => (bif (decide (v9.1 < 0)) then ret (false : Bool) else (call (laws_eqEntryS.R (v5, v3)) fun v10 => (bif (!v10) then ret (false : Bool) else (call (laws_markEntryS.R (v5, 1)) fun v11 => (call (laws_heldEntryS.R (v11.2, 1)) fun v12 => (bif (decide (v12 < 0)) then ret (false : Bool) else (bif (v12 != v11.1) then ret (false : Bool) else (call (laws_toTraceS.R x0) fun v13 => (call (impl_Disputed.R v13) fun v14 => (call (laws_eqEntryS.R (v14, v3)) fun v15 => (bif (!v15) then ret (false : Bool) else (call (laws_heldEntryS.R (v11.2, 1)) fun v16 => (bif (decide (v16 < 0)) then ret (false : Bool) else (bif (v16 != v11.1) then ret (false : Bool) else ret (true : Bool)))))))))))))))))))))))))))
def pats : List Pat := [.rd (.sl 118)]
def res : RP := .one (.rd (.bool))
noncomputable abbrev E : Env := { T := assoc Tab, G := conG [(37, laws_szTraceS.con), (39, laws_toTraceS.con), (48, spec_Disputed.con), (49, impl_Disputed.con), (50, laws_eqEntryS.con), (41, laws_eqTraceS.con), (52, laws_heldEntryS.con)], nt := 69, M := conM [(45, laws_markTraceS.con), (51, laws_markEntryS.con)] }
set_option maxRecDepth 100000
theorem run_eq (n : Nat) (ls : List L) : runF E (fun _ => []) Try.f8 res n (initS pats ls) = F (ls.headD .hole).toSl := by kernel_rfl
noncomputable def md (a0 : List MTrace) : Bool := true
def gd (a0 : List MTrace) : Prop := (SmL maxLen (fun y : MTrace => MTrace.Sm maxLen y) a0)
def acc (ls : List L) : List (List L) := (ls.headD .hole).toSl
noncomputable def R : (List (List L)) → Option Bool := RR gd md
theorem R_eq {a0} (h : gd a0) : R (a0.map MTrace.row) = some (md a0) := RR_eq (a := a0) h
noncomputable def con : Con := CN pats res acc R
theorem okF (a0 : List MTrace) (hg : gd a0) : F (a0.map MTrace.row) = ret ((md a0) : Bool) := by
  unfold md
  show (call (laws_szTraceS.R ((a0.map MTrace.row), 1048576)) fun v1 => (bif (decide (v1 < 0)) then ret (true : Bool) else (call (laws_toTraceS.R (a0.map MTrace.row)) fun v2 => (call (spec_Disputed.R v2) fun v3 => (call (laws_toTraceS.R (a0.map MTrace.row)) fun v4 => (call (impl_Disputed.R v4) fun v5 => (call (laws_eqEntryS.R (v5, v3)) fun v6 => (bif (!v6) then ret (false : Bool) else (call (laws_toTraceS.R (a0.map MTrace.row)) fun v7 => (call (laws_eqTraceS.R (v4, v7)) fun v8 => (bif (!v8) then ret (false : Bool) else (call (laws_markTraceS.R (v4, 1)) fun v9 => (bif (decide (v9.1 < 0)) then ret (false : Bool) else (call (laws_eqEntryS.R (v5, v3)) fun v10 => (bif (!v10) then ret (false : Bool) else (call (laws_markEntryS.R (v5, 1)) fun v11 => (call (laws_heldEntryS.R (v11.2, 1)) fun v12 => (bif (decide (v12 < 0)) then ret (false : Bool) else (bif (v12 != v11.1) then ret (false : Bool) else (call (laws_toTraceS.R (a0.map MTrace.row)) fun v13 => (call (impl_Disputed.R v13) fun v14 => (call (laws_eqEntryS.R (v14, v3)) fun v15 => (bif (!v15) then ret (false : Bool) else (call (laws_heldEntryS.R (v11.2, 1)) fun v16 => (bif (decide (v16 < 0)) then ret (false : Bool) else (bif (v16 != v11.1) then ret (false : Bool) else ret (true : Bool))))))))))))))))))))))))))) = _
  rw [call_eq (laws_szTraceS.R_eq (a1 := (1048576 : Int)) ⟨hg, by omega, by omega⟩)]
  unfold laws_szTraceS.md
  by_cases c0 : (1048576 : Int) < (((szL (fun y : MTrace => MTrace.size y) a0) : Nat) : Int)
  · rw [szM_neg c0]; rfl
  rw [szM_pos c0, dec_neg (by omega)]
  simp only [cond_false]
  have s0 : SmL (2 ^ 20) (fun y : MTrace => MTrace.Sm (2 ^ 20) y) a0 := (szL_sm (f := fun y : MTrace => MTrace.size y) (by omega) (fun x hx => (MTrace.Sm_of hx)))
  refine call_to (a0.map MTrace.row) (laws_toTraceS.R_eq (a0 := a0) (s0.mono (by decide) (fun x hx => (MTrace.Sm_mono (by decide) hx)))) ?_
  refine call_to ((spec_Disputed.md a0).map MEntry.row) (spec_Disputed.R_eq (a0 := a0) (by
    have := And.intro trivial trivial
    unfold spec_Disputed.gd
    first | exact (s0.mono (by decide) (fun x hx => (MTrace.Sm_mono (by decide) hx))) | refine ⟨(s0.mono (by decide) (fun x hx => (MTrace.Sm_mono (by decide) hx)))⟩)) ?_
  refine call_to (a0.map MTrace.row) (laws_toTraceS.R_eq (a0 := a0) (s0.mono (by decide) (fun x hx => (MTrace.Sm_mono (by decide) hx)))) ?_
  have r_ := impl_Disputed.R_eq (a0 := a0) (by
    have := And.intro trivial trivial
    unfold impl_Disputed.gd
    first | exact (s0.mono (by decide) (fun x hx => (MTrace.Sm_mono (by decide) hx))) | refine ⟨(s0.mono (by decide) (fun x hx => (MTrace.Sm_mono (by decide) hx)))⟩)
  rw [impl_Disputed.br] at r_
  refine call_to ((spec_Disputed.md a0).map MEntry.row) r_ ?_
  clear r_
  refine call_to _ (laws_eqEntryS.R_eq (a0 := (spec_Disputed.md a0)) (a1 := (spec_Disputed.md a0)) trivial) ?_
  refine no_ret (by first | (simp only [bne_self_eq_false, beq_self_eq_true, ba_refl, eqB_refl, Bool.not_true, laws_eqEntryS.md]; done) | (refine bne_eq_false_iff_eq.2 ?_; omega)) ?_
  refine call_to (a0.map MTrace.row) (laws_toTraceS.R_eq (a0 := a0) (s0.mono (by decide) (fun x hx => (MTrace.Sm_mono (by decide) hx)))) ?_
  refine call_to _ (laws_eqTraceS.R_eq (a0 := a0) (a1 := a0) trivial) ?_
  refine no_ret (by first | (simp only [bne_self_eq_false, beq_self_eq_true, ba_refl, eqB_refl, Bool.not_true, laws_eqEntryS.md, laws_eqTraceS.md]; done) | (refine bne_eq_false_iff_eq.2 ?_; omega)) ?_
  have u1 := laws_markTraceS.sz a0
  refine call_to ((laws_markTraceS.md a0 1).1, ((laws_markTraceS.md a0 1).2.map MTrace.row)) (laws_markTraceS.R_eq (a0 := a0) (a1 := 1) I64_one) ?_
  have k2 := laws_markTraceS.kk a0 1 (by omega) (by omega)
  refine no_ret (dec_neg (by omega)) ?_
  refine call_to _ (laws_eqEntryS.R_eq (a0 := (spec_Disputed.md a0)) (a1 := (spec_Disputed.md a0)) trivial) ?_
  refine no_ret (by first | (simp only [bne_self_eq_false, beq_self_eq_true, ba_refl, eqB_refl, Bool.not_true, laws_eqEntryS.md, laws_eqTraceS.md]; done) | (refine bne_eq_false_iff_eq.2 ?_; omega)) ?_
  have u3 : laws_markEntryS.sum (spec_Disputed.md a0) ≤ 1000000000000000000 := (by
    have h1 := laws_markEntryS.sz (spec_Disputed.md a0)
    have hI := spec_GroupsOf.grp_inv a0 a0.length (Nat.le_refl _)
    have hl : szL (fun y : MTrace => MTrace.size y) a0 ≤ 2 ^ 20 := by omega
    have hl2 : a0.length ≤ 2 ^ 20 := by
      unfold szL at hl
      omega
    have h2 : szL (fun y : MEntry => MEntry.size y) (spec_Disputed.md a0) ≤ 2 ^ 20 * (2 ^ 20 + 1) := by
      unfold spec_Disputed.md
      cases decide ((spec_GroupsOf.md a0).length > 1)
      · exact Nat.zero_le _
      · simp only [cond_true]
        refine Nat.le_trans (spec_Disputed.flat_sz (n := 2 ^ 20 + 1) fun g hg => ?_) (Nat.mul_le_mul_right _ (Nat.le_trans hI.1 hl2))
        exact spec_Disputed.dis_sz a0 g (2 ^ 20) hl (hI.2.1 g hg).2.2
    omega)
  refine call_to ((laws_markEntryS.md (spec_Disputed.md a0) 1).1, ((laws_markEntryS.md (spec_Disputed.md a0) 1).2.map MEntry.row)) (laws_markEntryS.R_eq (a0 := (spec_Disputed.md a0)) (a1 := 1) I64_one) ?_
  have k4 := laws_markEntryS.kk (spec_Disputed.md a0) 1 (by omega) (by omega)
  refine call_to (laws_heldEntryS.md ((laws_markEntryS.md (spec_Disputed.md a0) 1).2) 1) (laws_heldEntryS.R_eq (a0 := ((laws_markEntryS.md (spec_Disputed.md a0) 1).2)) (a1 := 1) I64_one) ?_
  have h5 : (laws_heldEntryS.md ((laws_markEntryS.md (spec_Disputed.md a0) 1).2) 1) = 1 + (laws_markEntryS.sum (spec_Disputed.md a0) : Int) := laws_heldEntryS.mk (spec_Disputed.md a0) 1 (by omega) (by omega)
  refine no_ret (dec_neg (by omega)) ?_
  refine no_ret (by first | (simp only [bne_self_eq_false, beq_self_eq_true, ba_refl, eqB_refl, Bool.not_true, laws_eqEntryS.md, laws_eqTraceS.md]; done) | (refine bne_eq_false_iff_eq.2 ?_; omega)) ?_
  refine call_to (a0.map MTrace.row) (laws_toTraceS.R_eq (a0 := a0) (s0.mono (by decide) (fun x hx => (MTrace.Sm_mono (by decide) hx)))) ?_
  have r_ := impl_Disputed.R_eq (a0 := a0) (by
    have := And.intro trivial trivial
    unfold impl_Disputed.gd
    first | exact (s0.mono (by decide) (fun x hx => (MTrace.Sm_mono (by decide) hx))) | refine ⟨(s0.mono (by decide) (fun x hx => (MTrace.Sm_mono (by decide) hx)))⟩)
  rw [impl_Disputed.br] at r_
  refine call_to ((spec_Disputed.md a0).map MEntry.row) r_ ?_
  clear r_
  refine call_to _ (laws_eqEntryS.R_eq (a0 := (spec_Disputed.md a0)) (a1 := (spec_Disputed.md a0)) trivial) ?_
  refine no_ret (by first | (simp only [bne_self_eq_false, beq_self_eq_true, ba_refl, eqB_refl, Bool.not_true, laws_eqEntryS.md, laws_eqTraceS.md]; done) | (refine bne_eq_false_iff_eq.2 ?_; omega)) ?_
  refine call_to (laws_heldEntryS.md ((laws_markEntryS.md (spec_Disputed.md a0) 1).2) 1) (laws_heldEntryS.R_eq (a0 := ((laws_markEntryS.md (spec_Disputed.md a0) 1).2)) (a1 := 1) I64_one) ?_
  have h6 : (laws_heldEntryS.md ((laws_markEntryS.md (spec_Disputed.md a0) 1).2) 1) = 1 + (laws_markEntryS.sum (spec_Disputed.md a0) : Int) := laws_heldEntryS.mk (spec_Disputed.md a0) 1 (by omega) (by omega)
  refine no_ret (dec_neg (by omega)) ?_
  refine no_ret (by first | (simp only [bne_self_eq_false, beq_self_eq_true, ba_refl, eqB_refl, Bool.not_true, laws_eqEntryS.md, laws_eqTraceS.md]; done) | (refine bne_eq_false_iff_eq.2 ?_; omega)) ?_
  rfl
theorem valid_ : Valid Try.prog Ev 8 con := VS (run := fun _ x => F x) mix tab_ok (.cons laws_szTraceS.valid_ (.cons laws_toTraceS.valid_ (.cons spec_Disputed.valid_ (.cons impl_Disputed.valid_ (.cons laws_eqEntryS.valid_ (.cons laws_eqTraceS.valid_ (.cons laws_heldEntryS.valid_ .nil))))))) (.cons laws_markTraceS.valid_ (.cons laws_markEntryS.valid_ .nil)) Try.func8 (by kernel_rfl) run_eq (fun _ a _ _ hg => ⟨0, okF a hg⟩)
theorem MKeys_wf174 (r : List L) (h : WfAll Ev.cells [.sl 3, .int .i64] r) : ∃ x : MKeys, MKeys.row x = r ∧ MKeys.Sm maxLen x := by
  obtain ⟨l0, t0, rfl, g0, h1⟩ := h.uncons
  obtain ⟨x0, rfl, s0⟩ := wf_list (show Ev.cells 3 = [.int .i64] from by kernel_rfl) wf_irow g0
  obtain ⟨l1, t1, rfl, g1, h2⟩ := h1.uncons
  obtain ⟨x1, rfl⟩ := wf_int g1
  obtain rfl := h2.isnil
  exact ⟨⟨x0, x1⟩, rfl, s0⟩
theorem MHead_wf176 (r : List L) (h : WfAll Ev.cells [.int .i64, .int .i64, .int .i64, .int .i64, .int .i64, .int .i64, .int .i64, .int .i64, .sl 3, .int .i64, .sl 3, .int .i64, .int .i64, .sl 3, .int .i64, .bool] r) : ∃ x : MHead, MHead.row x = r ∧ MHead.Sm maxLen x := by
  obtain ⟨l0, t0, rfl, g0, h1⟩ := h.uncons
  obtain ⟨x0, rfl⟩ := wf_int g0
  obtain ⟨l1, t1, rfl, g1, h2⟩ := h1.uncons
  obtain ⟨x1, rfl⟩ := wf_int g1
  obtain ⟨l2, t2, rfl, g2, h3⟩ := h2.uncons
  obtain ⟨x2, rfl⟩ := wf_int g2
  obtain ⟨l3, t3, rfl, g3, h4⟩ := h3.uncons
  obtain ⟨x3, rfl⟩ := wf_int g3
  obtain ⟨l4, t4, rfl, g4, h5⟩ := h4.uncons
  obtain ⟨x4, rfl⟩ := wf_int g4
  obtain ⟨l5, t5, rfl, g5, h6⟩ := h5.uncons
  obtain ⟨x5, rfl⟩ := wf_int g5
  obtain ⟨l6, t6, rfl, g6, h7⟩ := h6.uncons
  obtain ⟨x6, rfl⟩ := wf_int g6
  obtain ⟨l7, t7, rfl, g7, h8⟩ := h7.uncons
  obtain ⟨x7, rfl⟩ := wf_int g7
  obtain ⟨r8, t8, rfl, g8, h9⟩ := WfAll.unapp (a := [.sl 3, .int .i64]) (b := [.sl 3, .int .i64, .int .i64, .sl 3, .int .i64, .bool]) h8
  obtain ⟨x8, rfl, s8⟩ := MKeys_wf174 _ g8
  obtain ⟨r9, t9, rfl, g9, h10⟩ := WfAll.unapp (a := [.sl 3, .int .i64]) (b := [.int .i64, .sl 3, .int .i64, .bool]) h9
  obtain ⟨x9, rfl, s9⟩ := MKeys_wf174 _ g9
  obtain ⟨l10, t10, rfl, g10, h11⟩ := h10.uncons
  obtain ⟨x10, rfl⟩ := wf_int g10
  obtain ⟨r11, t11, rfl, g11, h12⟩ := WfAll.unapp (a := [.sl 3, .int .i64]) (b := [.bool]) h11
  obtain ⟨x11, rfl, s11⟩ := MKeys_wf174 _ g11
  obtain ⟨l12, t12, rfl, g12, h13⟩ := h12.uncons
  obtain ⟨x12, rfl⟩ := wf_bool g12
  obtain rfl := h13.isnil
  exact ⟨⟨x0, x1, x2, x3, x4, x5, x6, x7, x8, x9, x10, x11, x12⟩, rfl, ⟨s8, s9, s11⟩⟩
theorem MSig_wf198 (r : List L) (h : WfAll Ev.cells [.int .i64, .int .i64] r) : ∃ x : MSig, MSig.row x = r ∧ MSig.Sm maxLen x := by
  obtain ⟨l0, t0, rfl, g0, h1⟩ := h.uncons
  obtain ⟨x0, rfl⟩ := wf_int g0
  obtain ⟨l1, t1, rfl, g1, h2⟩ := h1.uncons
  obtain ⟨x1, rfl⟩ := wf_int g1
  obtain rfl := h2.isnil
  exact ⟨⟨x0, x1⟩, rfl, trivial⟩
theorem MSigned_wf179 (r : List L) (h : WfAll Ev.cells [.int .i64, .int .i64, .int .i64, .int .i64, .int .i64, .int .i64, .int .i64, .int .i64, .sl 3, .int .i64, .sl 3, .int .i64, .int .i64, .sl 3, .int .i64, .bool, .sl 198] r) : ∃ x : MSigned, MSigned.row x = r ∧ MSigned.Sm maxLen x := by
  obtain ⟨r0, t0, rfl, g0, h1⟩ := WfAll.unapp (a := [.int .i64, .int .i64, .int .i64, .int .i64, .int .i64, .int .i64, .int .i64, .int .i64, .sl 3, .int .i64, .sl 3, .int .i64, .int .i64, .sl 3, .int .i64, .bool]) (b := [.sl 198]) h
  obtain ⟨x0, rfl, s0⟩ := MHead_wf176 _ g0
  obtain ⟨l1, t1, rfl, g1, h2⟩ := h1.uncons
  obtain ⟨x1, rfl, s1⟩ := wf_list (show Ev.cells 198 = [.int .i64, .int .i64] from by kernel_rfl) MSig_wf198 g1
  obtain rfl := h2.isnil
  exact ⟨⟨x0, x1⟩, rfl, ⟨s0, s1⟩⟩
theorem MFork_wf181 (r : List L) (h : WfAll Ev.cells [.int .i64, .int .i64, .int .i64, .int .i64, .int .i64, .int .i64, .int .i64, .int .i64, .sl 3, .int .i64, .sl 3, .int .i64, .int .i64, .sl 3, .int .i64, .bool, .sl 198, .int .i64, .int .i64, .int .i64, .int .i64, .int .i64, .int .i64, .int .i64, .int .i64, .sl 3, .int .i64, .sl 3, .int .i64, .int .i64, .sl 3, .int .i64, .bool, .sl 198, .int .i64, .int .i64, .int .i64, .int .i64, .int .i64, .int .i64, .int .i64, .int .i64, .sl 3, .int .i64, .sl 3, .int .i64, .int .i64, .sl 3, .int .i64, .bool, .sl 198] r) : ∃ x : MFork, MFork.row x = r ∧ MFork.Sm maxLen x := by
  obtain ⟨r0, t0, rfl, g0, h1⟩ := WfAll.unapp (a := [.int .i64, .int .i64, .int .i64, .int .i64, .int .i64, .int .i64, .int .i64, .int .i64, .sl 3, .int .i64, .sl 3, .int .i64, .int .i64, .sl 3, .int .i64, .bool, .sl 198]) (b := [.int .i64, .int .i64, .int .i64, .int .i64, .int .i64, .int .i64, .int .i64, .int .i64, .sl 3, .int .i64, .sl 3, .int .i64, .int .i64, .sl 3, .int .i64, .bool, .sl 198, .int .i64, .int .i64, .int .i64, .int .i64, .int .i64, .int .i64, .int .i64, .int .i64, .sl 3, .int .i64, .sl 3, .int .i64, .int .i64, .sl 3, .int .i64, .bool, .sl 198]) h
  obtain ⟨x0, rfl, s0⟩ := MSigned_wf179 _ g0
  obtain ⟨r1, t1, rfl, g1, h2⟩ := WfAll.unapp (a := [.int .i64, .int .i64, .int .i64, .int .i64, .int .i64, .int .i64, .int .i64, .int .i64, .sl 3, .int .i64, .sl 3, .int .i64, .int .i64, .sl 3, .int .i64, .bool, .sl 198]) (b := [.int .i64, .int .i64, .int .i64, .int .i64, .int .i64, .int .i64, .int .i64, .int .i64, .sl 3, .int .i64, .sl 3, .int .i64, .int .i64, .sl 3, .int .i64, .bool, .sl 198]) h1
  obtain ⟨x1, rfl, s1⟩ := MSigned_wf179 _ g1
  obtain ⟨r2, t2, rfl, g2, h3⟩ := WfAll.unapp (a := [.int .i64, .int .i64, .int .i64, .int .i64, .int .i64, .int .i64, .int .i64, .int .i64, .sl 3, .int .i64, .sl 3, .int .i64, .int .i64, .sl 3, .int .i64, .bool, .sl 198]) (b := []) h2
  obtain ⟨x2, rfl, s2⟩ := MSigned_wf179 _ g2
  obtain rfl := h3.isnil
  exact ⟨⟨x0, x1, x2⟩, rfl, ⟨s0, s1, s2⟩⟩
theorem MKnown_wf115 (r : List L) (h : WfAll Ev.cells [.sl 172, .sl 181] r) : ∃ x : MKnown, MKnown.row x = r ∧ MKnown.Sm maxLen x := by
  obtain ⟨l0, t0, rfl, g0, h1⟩ := h.uncons
  obtain ⟨x0, rfl, s0⟩ := wf_list (show Ev.cells 172 = [.sl 179] from by kernel_rfl) (wf_lrow (show Ev.cells 179 = [.int .i64, .int .i64, .int .i64, .int .i64, .int .i64, .int .i64, .int .i64, .int .i64, .sl 3, .int .i64, .sl 3, .int .i64, .int .i64, .sl 3, .int .i64, .bool, .sl 198] from by kernel_rfl) MSigned_wf179) g0
  obtain ⟨l1, t1, rfl, g1, h2⟩ := h1.uncons
  obtain ⟨x1, rfl, s1⟩ := wf_list (show Ev.cells 181 = [.int .i64, .int .i64, .int .i64, .int .i64, .int .i64, .int .i64, .int .i64, .int .i64, .sl 3, .int .i64, .sl 3, .int .i64, .int .i64, .sl 3, .int .i64, .bool, .sl 198, .int .i64, .int .i64, .int .i64, .int .i64, .int .i64, .int .i64, .int .i64, .int .i64, .sl 3, .int .i64, .sl 3, .int .i64, .int .i64, .sl 3, .int .i64, .bool, .sl 198, .int .i64, .int .i64, .int .i64, .int .i64, .int .i64, .int .i64, .int .i64, .int .i64, .sl 3, .int .i64, .sl 3, .int .i64, .int .i64, .sl 3, .int .i64, .bool, .sl 198] from by kernel_rfl) MFork_wf181 g1
  obtain rfl := h2.isnil
  exact ⟨⟨x0, x1⟩, rfl, ⟨s0, s1⟩⟩
theorem MEntry_wf41 (r : List L) (h : WfAll Ev.cells [.str, .int .i64, .int .i64, .sl 9] r) : ∃ x : MEntry, MEntry.row x = r ∧ MEntry.Sm maxLen x := by
  obtain ⟨l0, t0, rfl, g0, h1⟩ := h.uncons
  obtain ⟨x0, rfl, s0⟩ := wf_str g0
  obtain ⟨l1, t1, rfl, g1, h2⟩ := h1.uncons
  obtain ⟨x1, rfl⟩ := wf_int g1
  obtain ⟨l2, t2, rfl, g2, h3⟩ := h2.uncons
  obtain ⟨x2, rfl⟩ := wf_int g2
  obtain ⟨l3, t3, rfl, g3, h4⟩ := h3.uncons
  obtain ⟨x3, rfl, s3⟩ := wf_list (show Ev.cells 9 = [.str] from by kernel_rfl) wf_srow g3
  obtain rfl := h4.isnil
  exact ⟨⟨x0, x1, x2, x3⟩, rfl, ⟨s0, s3⟩⟩
theorem MTrace_wf118 (r : List L) (h : WfAll Ev.cells [.sl 172, .sl 181, .int .i64, .str, .int .i64, .int .i64, .sl 9, .sl 3, .int .i64] r) : ∃ x : MTrace, MTrace.row x = r ∧ MTrace.Sm maxLen x := by
  obtain ⟨r0, t0, rfl, g0, h1⟩ := WfAll.unapp (a := [.sl 172, .sl 181]) (b := [.int .i64, .str, .int .i64, .int .i64, .sl 9, .sl 3, .int .i64]) h
  obtain ⟨x0, rfl, s0⟩ := MKnown_wf115 _ g0
  obtain ⟨l1, t1, rfl, g1, h2⟩ := h1.uncons
  obtain ⟨x1, rfl⟩ := wf_int g1
  obtain ⟨r2, t2, rfl, g2, h3⟩ := WfAll.unapp (a := [.str, .int .i64, .int .i64, .sl 9]) (b := [.sl 3, .int .i64]) h2
  obtain ⟨x2, rfl, s2⟩ := MEntry_wf41 _ g2
  obtain ⟨l3, t3, rfl, g3, h4⟩ := h3.uncons
  obtain ⟨x3, rfl, s3⟩ := wf_list (show Ev.cells 3 = [.int .i64] from by kernel_rfl) wf_irow g3
  obtain ⟨l4, t4, rfl, g4, h5⟩ := h4.uncons
  obtain ⟨x4, rfl⟩ := wf_int g4
  obtain rfl := h5.isnil
  exact ⟨⟨x0, x1, x2, x3, x4⟩, rfl, ⟨s0, s2, s3⟩⟩
theorem holds (ls : List L) (h : WfAll Ev.cells ([58].flatMap Ev.cells) ls) : con.sem ls = some [.bool true] := by
  have hk : [58].flatMap Ev.cells = [.sl 118] := by kernel_rfl
  rw [hk] at h
  obtain ⟨l0, t0, rfl, g0, h1⟩ := h.uncons
  obtain ⟨x0, rfl, s0⟩ := wf_list (show Ev.cells 118 = [.sl 172, .sl 181, .int .i64, .str, .int .i64, .int .i64, .sl 9, .sl 3, .int .i64] from by kernel_rfl) MTrace_wf118 g0
  obtain rfl := h1.isnil
  show (R (x0.map MTrace.row)).map RT.enc = _
  rw [R_eq s0]
  rfl
end laws_FnExactDisputed
end Go.DM
