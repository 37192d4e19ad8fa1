/- What the functions compute that the law reaches, and that the law returns true. Conditions: none. -/
import Derived.Test.YtfghhicdmjiaaaaDecideTy
import Derived.Test.YtfghhicdmjiaaaaProg
import Derived.Lib.AppendZerosOnto
import Derived.Lib.Bytealg
import Derived.Laws.Externs
import Derived.Lib.Walk
import Derived.Lib.Hide
import Derived.Lib.Strings
set_option linter.all false
set_option maxRecDepth 100000
noncomputable section
namespace Go.DM
open Go.Proofs
def Tab : List (Nat × TI) := [
 (2, ⟨[.int .i64], false, [], 8, false⟩),
 (3, ⟨[.int .i64], false, [], 8, false⟩),
 (4, ⟨[.bool], false, [], 1, false⟩),
 (5, ⟨[.int .u8], false, [], 1, false⟩),
 (6, ⟨[.int .u8], false, [], 1, false⟩),
 (7, ⟨[.int .i64, .int .i64, .bool, .int .u8], true, [(0, 2), (1, 3), (2, 4), (3, 6)], 24, false⟩),
 (8, ⟨[.int .i64, .int .i64, .bool, .int .u8], true, [(0, 2), (1, 3), (2, 4), (3, 6)], 24, false⟩),
 (9, ⟨[.str], false, [], 16, false⟩),
 (10, ⟨[.str], false, [], 16, false⟩),
 (11, ⟨[.str], false, [], 16, false⟩),
 (12, ⟨[.int .u64], false, [], 8, false⟩),
 (13, ⟨[.str, .int .u64], true, [(0, 9), (1, 12)], 24, false⟩),
 (14, ⟨[.str, .int .u64], true, [(0, 9), (1, 12)], 24, false⟩),
 (21, ⟨[.int .i32], false, [], 4, false⟩),
 (22, ⟨[.sl 82], false, [], 24, false⟩),
 (25, ⟨[.sl 84], false, [], 24, false⟩),
 (29, ⟨[.sl 91], false, [], 24, false⟩),
 (31, ⟨[.sl 95], false, [], 24, false⟩),
 (38, ⟨[.sl 102], false, [], 24, false⟩),
 (39, ⟨[.sl 9], false, [], 24, false⟩),
 (40, ⟨[.str, .int .i64, .int .i64, .sl 9], true, [(0, 9), (1, 3), (2, 3), (3, 39)], 56, false⟩),
 (41, ⟨[.str, .int .i64, .int .i64, .sl 9], true, [(0, 9), (1, 3), (2, 3), (3, 39)], 56, false⟩),
 (45, ⟨[.sl 106], false, [], 24, false⟩),
 (50, ⟨[.str, .int .i64, .int .i64, .sl 9], true, [(0, 9), (1, 3), (2, 3), (3, 39)], 56, false⟩),
 (58, ⟨[.sl 118], false, [], 24, false⟩),
 (61, ⟨[.sl 124], false, [], 24, false⟩),
 (65, ⟨[.sl 116], false, [], 24, false⟩),
 (70, ⟨[.sl 50], false, [], 24, false⟩),
 (74, ⟨[.int .i64, .str, .int .i64, .int .i64, .sl 9, .sl 50], true, [(0, 3), (1, 50), (5, 70)], 88, false⟩),
 (75, ⟨[.int .i64, .str, .int .i64, .int .i64, .sl 9, .sl 50], true, [(0, 3), (1, 50), (5, 70)], 88, false⟩),
 (81, ⟨[.str, .int .i64], true, [(0, 9), (1, 3)], 24, false⟩),
 (82, ⟨[.str, .int .i64], true, [(0, 9), (1, 3)], 24, true⟩),
 (84, ⟨[.str, .int .i64], true, [(0, 9), (1, 3)], 24, true⟩),
 (91, ⟨[.str, .int .i64], true, [(0, 9), (1, 3)], 24, true⟩),
 (95, ⟨[.str, .int .i64], true, [(0, 9), (1, 3)], 24, true⟩),
 (101, ⟨[.sl 9, .str, .int .i64, .int .i64, .sl 9], true, [(0, 39), (1, 41)], 80, false⟩),
 (102, ⟨[.sl 9, .str, .int .i64, .int .i64, .sl 9], true, [(0, 39), (1, 41)], 80, false⟩),
 (105, ⟨[.sl 9, .str, .int .i64, .int .i64, .sl 9], true, [(0, 39), (1, 50)], 80, false⟩),
 (106, ⟨[.sl 9, .str, .int .i64, .int .i64, .sl 9], true, [(0, 39), (1, 50)], 80, false⟩),
 (112, ⟨[.sl 172], false, [], 24, false⟩),
 (113, ⟨[.sl 181], false, [], 24, false⟩),
 (114, ⟨[.sl 172, .sl 181], true, [(0, 112), (1, 113)], 48, false⟩),
 (115, ⟨[.sl 172, .sl 181], true, [(0, 112), (1, 113)], 48, false⟩),
 (116, ⟨[.sl 3], false, [], 24, false⟩),
 (117, ⟨[.sl 172, .sl 181, .int .i64, .str, .int .i64, .int .i64, .sl 9, .sl 3, .int .i64], true, [(0, 115), (2, 3), (3, 41), (7, 116), (8, 3)], 144, false⟩),
 (118, ⟨[.sl 172, .sl 181, .int .i64, .str, .int .i64, .int .i64, .sl 9, .sl 3, .int .i64], true, [(0, 115), (2, 3), (3, 41), (7, 116), (8, 3)], 144, false⟩),
 (119, ⟨[.sl 149], false, [], 24, false⟩),
 (120, ⟨[.sl 158], false, [], 24, false⟩),
 (121, ⟨[.sl 149, .sl 158], true, [(0, 119), (1, 120)], 48, false⟩),
 (122, ⟨[.sl 149, .sl 158], true, [(0, 119), (1, 120)], 48, false⟩),
 (123, ⟨[.sl 149, .sl 158, .int .i64, .str, .int .i64, .int .i64, .sl 9, .sl 3, .int .i64], true, [(0, 122), (2, 3), (3, 50), (7, 116), (8, 3)], 144, false⟩),
 (124, ⟨[.sl 149, .sl 158, .int .i64, .str, .int .i64, .int .i64, .sl 9, .sl 3, .int .i64], true, [(0, 122), (2, 3), (3, 50), (7, 116), (8, 3)], 144, false⟩),
 (139, ⟨[.sl 5], false, [], 24, false⟩),
 (149, ⟨[.sl 156], false, [], 24, false⟩),
 (150, ⟨[.sl 3, .int .i64], true, [(0, 116), (1, 3)], 32, false⟩),
 (151, ⟨[.sl 3, .int .i64], true, [(0, 116), (1, 3)], 32, false⟩),
 (152, ⟨[.int .i64, .int .i64, .int .i64, .int .i64, .int .i64, .int .i64, .int .i64, .int .i64, .sl 3, .int .i64, .sl 3, .int .i64, .int .i64, .sl 3, .int .i64, .bool], true, [(0, 3), (1, 3), (2, 3), (3, 3), (4, 3), (5, 3), (6, 3), (7, 3), (8, 151), (10, 151), (12, 3), (13, 151), (15, 4)], 176, false⟩),
 (153, ⟨[.int .i64, .int .i64, .int .i64, .int .i64, .int .i64, .int .i64, .int .i64, .int .i64, .sl 3, .int .i64, .sl 3, .int .i64, .int .i64, .sl 3, .int .i64, .bool], true, [(0, 3), (1, 3), (2, 3), (3, 3), (4, 3), (5, 3), (6, 3), (7, 3), (8, 151), (10, 151), (12, 3), (13, 151), (15, 4)], 176, false⟩),
 (154, ⟨[.sl 169], false, [], 24, false⟩),
 (155, ⟨[.int .i64, .int .i64, .int .i64, .int .i64, .int .i64, .int .i64, .int .i64, .int .i64, .sl 3, .int .i64, .sl 3, .int .i64, .int .i64, .sl 3, .int .i64, .bool, .sl 169], true, [(0, 153), (16, 154)], 200, false⟩),
 (156, ⟨[.int .i64, .int .i64, .int .i64, .int .i64, .int .i64, .int .i64, .int .i64, .int .i64, .sl 3, .int .i64, .sl 3, .int .i64, .int .i64, .sl 3, .int .i64, .bool, .sl 169], true, [(0, 153), (16, 154)], 200, false⟩),
 (157, ⟨[.int .i64, .int .i64, .int .i64, .int .i64, .int .i64, .int .i64, .int .i64, .int .i64, .sl 3, .int .i64, .sl 3, .int .i64, .int .i64, .sl 3, .int .i64, .bool, .sl 169, .int .i64, .int .i64, .int .i64, .int .i64, .int .i64, .int .i64, .int .i64, .int .i64, .sl 3, .int .i64, .sl 3, .int .i64, .int .i64, .sl 3, .int .i64, .bool, .sl 169, .int .i64, .int .i64, .int .i64, .int .i64, .int .i64, .int .i64, .int .i64, .int .i64, .sl 3, .int .i64, .sl 3, .int .i64, .int .i64, .sl 3, .int .i64, .bool, .sl 169], true, [(0, 156), (17, 156), (34, 156)], 600, false⟩),
 (158, ⟨[.int .i64, .int .i64, .int .i64, .int .i64, .int .i64, .int .i64, .int .i64, .int .i64, .sl 3, .int .i64, .sl 3, .int .i64, .int .i64, .sl 3, .int .i64, .bool, .sl 169, .int .i64, .int .i64, .int .i64, .int .i64, .int .i64, .int .i64, .int .i64, .int .i64, .sl 3, .int .i64, .sl 3, .int .i64, .int .i64, .sl 3, .int .i64, .bool, .sl 169, .int .i64, .int .i64, .int .i64, .int .i64, .int .i64, .int .i64, .int .i64, .int .i64, .sl 3, .int .i64, .sl 3, .int .i64, .int .i64, .sl 3, .int .i64, .bool, .sl 169], true, [(0, 156), (17, 156), (34, 156)], 600, false⟩),
 (168, ⟨[.int .i64, .int .i64], true, [(0, 3), (1, 3)], 16, false⟩),
 (169, ⟨[.int .i64, .int .i64], true, [(0, 3), (1, 3)], 16, true⟩),
 (172, ⟨[.sl 179], false, [], 24, false⟩),
 (174, ⟨[.sl 3, .int .i64], true, [(0, 116), (1, 3)], 32, false⟩),
 (175, ⟨[.int .i64, .int .i64, .int .i64, .int .i64, .int .i64, .int .i64, .int .i64, .int .i64, .sl 3, .int .i64, .sl 3, .int .i64, .int .i64, .sl 3, .int .i64, .bool], true, [(0, 3), (1, 3), (2, 3), (3, 3), (4, 3), (5, 3), (6, 3), (7, 3), (8, 174), (10, 174), (12, 3), (13, 174), (15, 4)], 176, false⟩),
 (176, ⟨[.int .i64, .int .i64, .int .i64, .int .i64, .int .i64, .int .i64, .int .i64, .int .i64, .sl 3, .int .i64, .sl 3, .int .i64, .int .i64, .sl 3, .int .i64, .bool], true, [(0, 3), (1, 3), (2, 3), (3, 3), (4, 3), (5, 3), (6, 3), (7, 3), (8, 174), (10, 174), (12, 3), (13, 174), (15, 4)], 176, false⟩),
 (177, ⟨[.sl 198], false, [], 24, false⟩),
 (178, ⟨[.int .i64, .int .i64, .int .i64, .int .i64, .int .i64, .int .i64, .int .i64, .int .i64, .sl 3, .int .i64, .sl 3, .int .i64, .int .i64, .sl 3, .int .i64, .bool, .sl 198], true, [(0, 176), (16, 177)], 200, false⟩),
 (179, ⟨[.int .i64, .int .i64, .int .i64, .int .i64, .int .i64, .int .i64, .int .i64, .int .i64, .sl 3, .int .i64, .sl 3, .int .i64, .int .i64, .sl 3, .int .i64, .bool, .sl 198], true, [(0, 176), (16, 177)], 200, false⟩),
 (180, ⟨[.int .i64, .int .i64, .int .i64, .int .i64, .int .i64, .int .i64, .int .i64, .int .i64, .sl 3, .int .i64, .sl 3, .int .i64, .int .i64, .sl 3, .int .i64, .bool, .sl 198, .int .i64, .int .i64, .int .i64, .int .i64, .int .i64, .int .i64, .int .i64, .int .i64, .sl 3, .int .i64, .sl 3, .int .i64, .int .i64, .sl 3, .int .i64, .bool, .sl 198, .int .i64, .int .i64, .int .i64, .int .i64, .int .i64, .int .i64, .int .i64, .int .i64, .sl 3, .int .i64, .sl 3, .int .i64, .int .i64, .sl 3, .int .i64, .bool, .sl 198], true, [(0, 179), (17, 179), (34, 179)], 600, false⟩),
 (181, ⟨[.int .i64, .int .i64, .int .i64, .int .i64, .int .i64, .int .i64, .int .i64, .int .i64, .sl 3, .int .i64, .sl 3, .int .i64, .int .i64, .sl 3, .int .i64, .bool, .sl 198, .int .i64, .int .i64, .int .i64, .int .i64, .int .i64, .int .i64, .int .i64, .int .i64, .sl 3, .int .i64, .sl 3, .int .i64, .int .i64, .sl 3, .int .i64, .bool, .sl 198, .int .i64, .int .i64, .int .i64, .int .i64, .int .i64, .int .i64, .int .i64, .int .i64, .sl 3, .int .i64, .sl 3, .int .i64, .int .i64, .sl 3, .int .i64, .bool, .sl 198], true, [(0, 179), (17, 179), (34, 179)], 600, false⟩),
 (198, ⟨[.int .i64, .int .i64], true, [(0, 3), (1, 3)], 16, true⟩),
 (208, ⟨[.int .u32], false, [], 4, false⟩),
 (209, ⟨[.int .u8], false, [], 1, false⟩),
 (210, ⟨[.int .u8], false, [], 1, false⟩),
 (213, ⟨[.int .i32], false, [], 4, false⟩),
 (214, ⟨[.int .i32], false, [], 4, false⟩)]
abbrev Ev : Env := Env0 Tab
theorem tab_ok : tableB Try.prog Tab = true := by kernel_rfl
theorem mix : Try.prog.follows .mixedOrders = true := by kernel_rfl
namespace Z0
inductive Pt where
 | p0 (a : List (List L)) (b : Int) (c : Int)
def pid : Pt → Nat
 | .p0 .. => 5
def pvs : Pt → List V
 | .p0 a b c => [.sl none 9 a, .int .i64 b, .int .i64 c]
def phs : Pt → List Root
 | .p0 a b c => []
def step (J : Pt → Ans) : Pt → Ans
 | .p0 a b c => (bif (decide (c < (a.length : Int))) then (bif (decide ((0 : Int) ≤ c)) then (bif (decide (c < (a.length : Int))) then (bif (decide ((IntKind.i64.wrap (b - ((sAt a (Int.toNat c)).size : Int))) < 0)) then ret ((-1) : Int) else J (.p0 a (IntKind.i64.wrap (b - ((sAt a (Int.toNat c)).size : Int))) (IntKind.i64.wrap (c + 1)))) else none) else none) else ret (b : Int))
def start (J : Pt → Ans) (x0 : List (List L)) (x1 : Int) : Ans := (bif (decide ((IntKind.i64.wrap (x1 - (x0.length : Int))) < 0)) then ret ((-1) : Int) else J (.p0 x0 (IntKind.i64.wrap (x1 - (x0.length : Int))) 0))
def live : Nat → Live := fun i => match i with | 5 => [(0, none), (1, none), (5, none)] | _ => []
def pats : List Pat := [.rd (.sl 9), .rd (.int .i64)]
def res : RP := .one (.rd (.int .i64))
abbrev E : Env := { T := assoc Tab, G := conG [], nt := 28 }
theorem step_eq (I : Heads) (p : Pt) : enterC E live I (pid p) (bodyOf Try.f23) (stOf (live (pid p)) (pvs p) (phs p)) (doneK E Try.f23 res) = step (fun q => I (pid q) (pvs q) (phs q)) p := by
 cases p <;> kernel_rfl
theorem start_eq (I : Heads) (ls : List L) : runC E live I (bodyOf Try.f23) (initS pats ls) (doneK E Try.f23 res) = start (fun q => I (pid q) (pvs q) (phs q)) (ls.headD .hole).toSl ((dropT 1 ls).headD .hole).toInt := by kernel_rfl
theorem run_eq (n : Nat) (ls : List L) : runF E live Try.f23 res n (initS pats ls) = start (iter step n) (ls.headD .hole).toSl ((dropT 1 ls).headD .hole).toInt := runF_iter (id := pid) (vs := pvs) (hs := phs) (step := step) (start := fun J => start J (ls.headD .hole).toSl ((dropT 1 ls).headD .hole).toInt) step_eq (fun I => start_eq I ls) n
def md (a0 : List ByteArray) (a1 : Int) : Int := szM (szL (fun y : ByteArray => y.size) a0) a1
def gd (a0 : List ByteArray) (a1 : Int) : Prop := (SmL maxLen (fun y : ByteArray => y.size ≤ maxLen) a0) ∧ 0 ≤ a1 ∧ a1 ≤ 1048576
def acc (ls : List L) : List (List L) × Int := ((ls.headD .hole).toSl, ((dropT 1 ls).headD .hole).toInt)
def R : (List (List L) × Int) → Option Int := RR (p2 gd) (u2 md)
theorem R_eq {a0} {a1} (h : gd a0 a1) : R ((a0.map sRow), a1) = some (md a0 a1) := RR_eq (a := (a0, a1)) h
def con : Con := CN pats res acc R
theorem okF (a0 : List ByteArray) (a1 : Int) (hg : gd a0 a1) : ∃ n, start (iter step n) (a0.map sRow) a1 = ret ((md a0 a1) : Int) := by
  obtain ⟨hs, g0, g1⟩ := hg
  unfold start md
  simp only [List.length_map]
  refine sz_list (pt := fun left i => Pt.p0 (a0.map sRow) left (i : Int)) (f := fun y : ByteArray => y.size) hs.1 (fun J i h left p0 p1 => ?_) (fun J left => ?_) g0 g1
  · simp only [step, List.length_map, lt_dec h, zle_dec, cond_true, toNat_nat, sAt_row h]
    rw [sz_wrap p0 p1 (hs.get h), wrap_succ h hs.1]
    by_cases hc : left - ((a0[i].size : Nat) : Int) < 0
    · rw [decide_eq_true hc, if_pos (by omega)]; rfl
    · rw [decide_eq_false hc, if_neg (by omega)]; rfl
  · simp only [step, List.length_map, nlt_dec, cond_false]
theorem valid_ : Valid Try.prog Ev 23 con := VV (run := fun n x => start (iter step n) x.1 x.2) mix tab_ok .nil Try.func23 (by kernel_rfl) run_eq (fun _ a _ _ hg => okF a.1 a.2 hg)
end Z0
namespace Z1
def F (x0 : REntry) (x1 : Int) : Ans := (bif (decide ((IntKind.i64.wrap (x1 - (x0.fLabel.size : Int))) < 0)) then ret ((-1) : Int) else (call (Z0.R (x0.fPath, (IntKind.i64.wrap (x1 - (x0.fLabel.size : Int))))) fun v1 => (bif (decide (v1 < 0)) then ret ((-1) : Int) else ret (v1 : Int))))
def pats : List Pat := [.agg [.str, .int .i64, .int .i64, .sl 9], .rd (.int .i64)]
def res : RP := .one (.rd (.int .i64))
def md (a0 : MEntry) (a1 : Int) : Int := szM (MEntry.size a0) a1
def gd (a0 : MEntry) (a1 : Int) : Prop := (MEntry.Sm maxLen a0) ∧ 0 ≤ a1 ∧ a1 ≤ 1048576
def acc (ls : List L) : REntry × Int := ((REntry.dec ls), ((dropT 4 ls).headD .hole).toInt)
def R : (REntry × Int) → Option Int := RR (p2 gd) (u2 md)
theorem R_eq {a0} {a1} (h : gd a0 a1) : R ((MEntry.r a0), a1) = some (md a0 a1) := RR_eq (a := (a0, a1)) h
def con : Con := CN pats res acc R
theorem okF (a0 : MEntry) (a1 : Int) (hg : gd a0 a1) : F (MEntry.r a0) a1 = ret ((md a0 a1) : Int) := by
  obtain ⟨hs, g0, g1⟩ := hg
  unfold md
  show (bif (decide ((IntKind.i64.wrap (a1 - (a0.fLabel.size : Int))) < 0)) then ret ((-1) : Int) else (call (Z0.R ((a0.fPath.map sRow), (IntKind.i64.wrap (a1 - (a0.fLabel.size : Int))))) fun v1 => (bif (decide (v1 < 0)) then ret ((-1) : Int) else ret (v1 : Int)))) = _
  rw [sz_wrap (left := a1) (s := a0.fLabel.size) (by omega) (by omega) hs.1]
  by_cases c0 : a1 - ((a0.fLabel.size : Nat) : Int) < 0
  · rw [decide_eq_true c0, cond_true]; rw [show szM (MEntry.size a0) a1 = -1 from szM_neg (by unfold MEntry.size; omega)]; try rfl
  rw [decide_eq_false c0, cond_false]
  rw [call_eq (Z0.R_eq (a1 := (a1 - ((a0.fLabel.size : Nat) : Int))) ⟨hs.2, by omega, by omega⟩)]
  unfold Z0.md
  by_cases c1 : (a1 - ((a0.fLabel.size : Nat) : Int)) < ((szL (fun y : ByteArray => y.size) a0.fPath : Nat) : Int)
  · rw [szM_neg c1]; rw [show szM (MEntry.size a0) a1 = -1 from szM_neg (by unfold MEntry.size; omega)]; try rfl
  rw [szM_pos c1, dec_neg (by omega), cond_false]
  rw [show szM (MEntry.size a0) a1 = a1 - ((a0.fLabel.size : Nat) : Int) - ((szL (fun y : ByteArray => y.size) a0.fPath : Nat) : Int) from by rw [szM_pos (by unfold MEntry.size; omega)]; unfold MEntry.size; omega]
theorem valid_ : Valid Try.prog Ev 24 con := VV (live := fun _ => []) (nt := 19) (run := fun _ x => F x.1 x.2) mix tab_ok (.cons Z0.valid_ .nil) Try.func24 (by kernel_rfl) (fun _ _ => by kernel_rfl) (fun _ a _ _ hg => ⟨0, okF a.1 a.2 hg⟩)
end Z1
namespace Z2
def F (x0 : RChoice) (x1 : Int) : Ans := (call (Z0.R (x0.fPath, x1)) fun v1 => (bif (decide (v1 < 0)) then ret ((-1) : Int) else (call (Z1.R (x0.fEntry, v1)) fun v2 => (bif (decide (v2 < 0)) then ret ((-1) : Int) else ret (v2 : Int)))))
def pats : List Pat := [.agg [.sl 9, .str, .int .i64, .int .i64, .sl 9], .rd (.int .i64)]
def res : RP := .one (.rd (.int .i64))
def md (a0 : MChoice) (a1 : Int) : Int := szM (MChoice.size a0) a1
def gd (a0 : MChoice) (a1 : Int) : Prop := (MChoice.Sm maxLen a0) ∧ 0 ≤ a1 ∧ a1 ≤ 1048576
def acc (ls : List L) : RChoice × Int := ((RChoice.dec ls), ((dropT 5 ls).headD .hole).toInt)
def R : (RChoice × Int) → Option Int := RR (p2 gd) (u2 md)
theorem R_eq {a0} {a1} (h : gd a0 a1) : R ((MChoice.r a0), a1) = some (md a0 a1) := RR_eq (a := (a0, a1)) h
def con : Con := CN pats res acc R
theorem okF (a0 : MChoice) (a1 : Int) (hg : gd a0 a1) : F (MChoice.r a0) a1 = ret ((md a0 a1) : Int) := by
  obtain ⟨hs, g0, g1⟩ := hg
  unfold md
  show (call (Z0.R ((a0.fPath.map sRow), a1)) fun v1 => (bif (decide (v1 < 0)) then ret ((-1) : Int) else (call (Z1.R ((MEntry.r a0.fEntry), v1)) fun v2 => (bif (decide (v2 < 0)) then ret ((-1) : Int) else ret (v2 : Int))))) = _
  rw [call_eq (Z0.R_eq (a1 := a1) ⟨hs.1, by omega, by omega⟩)]
  unfold Z0.md
  by_cases c0 : a1 < ((szL (fun y : ByteArray => y.size) a0.fPath : Nat) : Int)
  · rw [szM_neg c0]; rw [show szM (MChoice.size a0) a1 = -1 from szM_neg (by unfold MChoice.size; omega)]; try rfl
  rw [szM_pos c0, dec_neg (by omega), cond_false]
  rw [call_eq (Z1.R_eq (a1 := (a1 - ((szL (fun y : ByteArray => y.size) a0.fPath : Nat) : Int))) ⟨hs.2, by omega, by omega⟩)]
  unfold Z1.md
  by_cases c1 : (a1 - ((szL (fun y : ByteArray => y.size) a0.fPath : Nat) : Int)) < ((MEntry.size a0.fEntry : Nat) : Int)
  · rw [szM_neg c1]; rw [show szM (MChoice.size a0) a1 = -1 from szM_neg (by unfold MChoice.size; omega)]; try rfl
  rw [szM_pos c1, dec_neg (by omega), cond_false]
  rw [show szM (MChoice.size a0) a1 = a1 - ((szL (fun y : ByteArray => y.size) a0.fPath : Nat) : Int) - ((MEntry.size a0.fEntry : Nat) : Int) from by rw [szM_pos (by unfold MChoice.size; omega)]; unfold MChoice.size; omega]
theorem valid_ : Valid Try.prog Ev 76 con := VV (live := fun _ => []) (nt := 18) (run := fun _ x => F x.1 x.2) mix tab_ok (.cons Z0.valid_ (.cons Z1.valid_ .nil)) Try.func76 (by kernel_rfl) (fun _ _ => by kernel_rfl) (fun _ a _ _ hg => ⟨0, okF a.1 a.2 hg⟩)
end Z2
namespace Z3
inductive Pt where
 | p0 (a : List (List L)) (b : Int) (c : Int)
def pid : Pt → Nat
 | .p0 .. => 5
def pvs : Pt → List V
 | .p0 a b c => [.sl none 102 a, .int .i64 b, .int .i64 c]
def phs : Pt → List Root
 | .p0 a b c => []
def step (J : Pt → Ans) : Pt → Ans
 | .p0 a b c => (bif (decide (c < (a.length : Int))) then (bif (decide ((0 : Int) ≤ c)) then (bif (decide (c < (a.length : Int))) then (call (Z2.R ((RChoice.at a (Int.toNat c)), b)) fun v1 => (bif (decide (v1 < 0)) then ret ((-1) : Int) else J (.p0 a v1 (IntKind.i64.wrap (c + 1))))) else none) else none) else ret (b : Int))
def start (J : Pt → Ans) (x0 : List (List L)) (x1 : Int) : Ans := (bif (decide ((IntKind.i64.wrap (x1 - (x0.length : Int))) < 0)) then ret ((-1) : Int) else J (.p0 x0 (IntKind.i64.wrap (x1 - (x0.length : Int))) 0))
def live : Nat → Live := fun i => match i with | 5 => [(0, none), (1, none), (5, none)] | _ => []
def pats : List Pat := [.rd (.sl 102), .rd (.int .i64)]
def res : RP := .one (.rd (.int .i64))
abbrev E : Env := { T := assoc Tab, G := conG [(76, Z2.con)], nt := 27 }
theorem step_eq (I : Heads) (p : Pt) : enterC E live I (pid p) (bodyOf Try.f22) (stOf (live (pid p)) (pvs p) (phs p)) (doneK E Try.f22 res) = step (fun q => I (pid q) (pvs q) (phs q)) p := by
 cases p <;> kernel_rfl
theorem start_eq (I : Heads) (ls : List L) : runC E live I (bodyOf Try.f22) (initS pats ls) (doneK E Try.f22 res) = start (fun q => I (pid q) (pvs q) (phs q)) (ls.headD .hole).toSl ((dropT 1 ls).headD .hole).toInt := by kernel_rfl
theorem run_eq (n : Nat) (ls : List L) : runF E live Try.f22 res n (initS pats ls) = start (iter step n) (ls.headD .hole).toSl ((dropT 1 ls).headD .hole).toInt := runF_iter (id := pid) (vs := pvs) (hs := phs) (step := step) (start := fun J => start J (ls.headD .hole).toSl ((dropT 1 ls).headD .hole).toInt) step_eq (fun I => start_eq I ls) n
def md (a0 : List MChoice) (a1 : Int) : Int := szM (szL (fun y : MChoice => MChoice.size y) a0) a1
def gd (a0 : List MChoice) (a1 : Int) : Prop := (SmL maxLen (fun y : MChoice => MChoice.Sm maxLen y) a0) ∧ 0 ≤ a1 ∧ a1 ≤ 1048576
def acc (ls : List L) : List (List L) × Int := ((ls.headD .hole).toSl, ((dropT 1 ls).headD .hole).toInt)
def R : (List (List L) × Int) → Option Int := RR (p2 gd) (u2 md)
theorem R_eq {a0} {a1} (h : gd a0 a1) : R ((a0.map MChoice.row), a1) = some (md a0 a1) := RR_eq (a := (a0, a1)) h
def con : Con := CN pats res acc R
theorem okF (a0 : List MChoice) (a1 : Int) (hg : gd a0 a1) : ∃ n, start (iter step n) (a0.map MChoice.row) a1 = ret ((md a0 a1) : Int) := by
  obtain ⟨hs, g0, g1⟩ := hg
  unfold start md
  simp only [List.length_map]
  refine sz_list (pt := fun left i => Pt.p0 (a0.map MChoice.row) left (i : Int)) (f := fun y : MChoice => MChoice.size y) hs.1 (fun J i h left p0 p1 => ?_) (fun J left => ?_) g0 g1
  · simp only [step, List.length_map, lt_dec h, zle_dec, cond_true, toNat_nat, MChoice.at_row h]
    rw [call_eq (Z2.R_eq ⟨hs.get h, p0, p1⟩), wrap_succ h hs.1]
    unfold Z2.md
    by_cases hc : left < ((MChoice.size (a0[i]) : Nat) : Int)
    · rw [szM_neg hc, if_pos hc]; rfl
    · rw [szM_pos hc, if_neg hc, dec_neg (by omega)]; rfl
  · simp only [step, List.length_map, nlt_dec, cond_false]
theorem valid_ : Valid Try.prog Ev 22 con := VV (run := fun n x => start (iter step n) x.1 x.2) mix tab_ok (.cons Z2.valid_ .nil) Try.func22 (by kernel_rfl) run_eq (fun _ a _ _ hg => okF a.1 a.2 hg)
end Z3
namespace Z4
def F (x0 : List (List L)) (x1 : Int) : Ans := (bif (decide ((IntKind.i64.wrap (x1 - (x0.length : Int))) < 0)) then ret ((-1) : Int) else ret ((IntKind.i64.wrap (x1 - (x0.length : Int))) : Int))
def pats : List Pat := [.rd (.sl 3), .rd (.int .i64)]
def res : RP := .one (.rd (.int .i64))
def md (a0 : List Int) (a1 : Int) : Int := szM (szL (fun y : Int => 0) a0) a1
def gd (a0 : List Int) (a1 : Int) : Prop := (SmL maxLen (fun y : Int => True) a0) ∧ 0 ≤ a1 ∧ a1 ≤ 1048576
def acc (ls : List L) : List (List L) × Int := ((ls.headD .hole).toSl, ((dropT 1 ls).headD .hole).toInt)
def R : (List (List L) × Int) → Option Int := RR (p2 gd) (u2 md)
theorem R_eq {a0} {a1} (h : gd a0 a1) : R ((a0.map iRow), a1) = some (md a0 a1) := RR_eq (a := (a0, a1)) h
def con : Con := CN pats res acc R
theorem okF (a0 : List Int) (a1 : Int) (hg : gd a0 a1) : F (a0.map iRow) a1 = ret ((md a0 a1) : Int) := by
  obtain ⟨hs, g0, g1⟩ := hg
  unfold F md
  rw [List.length_map, sz_wrap g0 g1 hs.1]
  have e : szL (fun y : Int => 0) a0 = a0.length := by
    unfold szL
    have : (a0.map (fun y : Int => 0)).sum = 0 := sum_zero (fun _ => rfl) a0
    omega
  rw [e]
  by_cases hc : a1 < ((a0.length : Nat) : Int)
  · rw [szM_neg hc, decide_eq_true (by omega)]; rfl
  · rw [szM_pos hc, decide_eq_false (by omega)]; rfl
theorem valid_ : Valid Try.prog Ev 123 con := VV (live := fun _ => []) (nt := 12) (run := fun _ x => F x.1 x.2) mix tab_ok .nil Try.func123 (by kernel_rfl) (fun _ _ => by kernel_rfl) (fun _ a _ _ hg => ⟨0, okF a.1 a.2 hg⟩)
end Z4
namespace Z5
def F (x0 : RKeys) (x1 : Int) : Ans := (call (Z4.R (x0.fList, x1)) fun v1 => (bif (decide (v1 < 0)) then ret ((-1) : Int) else ret (v1 : Int)))
def pats : List Pat := [.agg [.sl 3, .int .i64], .rd (.int .i64)]
def res : RP := .one (.rd (.int .i64))
def md (a0 : MKeys) (a1 : Int) : Int := szM (MKeys.size a0) a1
def gd (a0 : MKeys) (a1 : Int) : Prop := (MKeys.Sm maxLen a0) ∧ 0 ≤ a1 ∧ a1 ≤ 1048576
def acc (ls : List L) : RKeys × Int := ((RKeys.dec ls), ((dropT 2 ls).headD .hole).toInt)
def R : (RKeys × Int) → Option Int := RR (p2 gd) (u2 md)
theorem R_eq {a0} {a1} (h : gd a0 a1) : R ((MKeys.r a0), a1) = some (md a0 a1) := RR_eq (a := (a0, a1)) h
def con : Con := CN pats res acc R
theorem okF (a0 : MKeys) (a1 : Int) (hg : gd a0 a1) : F (MKeys.r a0) a1 = ret ((md a0 a1) : Int) := by
  obtain ⟨hs, g0, g1⟩ := hg
  unfold md
  show (call (Z4.R ((a0.fList.map iRow), a1)) fun v1 => (bif (decide (v1 < 0)) then ret ((-1) : Int) else ret (v1 : Int))) = _
  rw [call_eq (Z4.R_eq (a1 := a1) ⟨hs, by omega, by omega⟩)]
  unfold Z4.md
  by_cases c0 : a1 < ((szL (fun y : Int => 0) a0.fList : Nat) : Int)
  · rw [szM_neg c0]; rw [show szM (MKeys.size a0) a1 = -1 from szM_neg (by unfold MKeys.size; omega)]; try rfl
  rw [szM_pos c0, dec_neg (by omega), cond_false]
  rw [show szM (MKeys.size a0) a1 = a1 - ((szL (fun y : Int => 0) a0.fList : Nat) : Int) from by rw [szM_pos (by unfold MKeys.size; omega)]; unfold MKeys.size; omega]
theorem valid_ : Valid Try.prog Ev 159 con := VV (live := fun _ => []) (nt := 12) (run := fun _ x => F x.1 x.2) mix tab_ok (.cons Z4.valid_ .nil) Try.func159 (by kernel_rfl) (fun _ _ => by kernel_rfl) (fun _ a _ _ hg => ⟨0, okF a.1 a.2 hg⟩)
end Z5
namespace Z6
def F (x0 : RHead) (x1 : Int) : Ans := (call (Z5.R (x0.fKeys, x1)) fun v1 => (bif (decide (v1 < 0)) then ret ((-1) : Int) else (call (Z5.R (x0.fHeirs, v1)) fun v2 => (bif (decide (v2 < 0)) then ret ((-1) : Int) else (call (Z5.R (x0.fJudge, v2)) fun v3 => (bif (decide (v3 < 0)) then ret ((-1) : Int) else ret (v3 : Int)))))))
def pats : List Pat := [.agg [.int .i64, .int .i64, .int .i64, .int .i64, .int .i64, .int .i64, .int .i64, .int .i64, .sl 3, .int .i64, .sl 3, .int .i64, .int .i64, .sl 3, .int .i64, .bool], .rd (.int .i64)]
def res : RP := .one (.rd (.int .i64))
def md (a0 : MHead) (a1 : Int) : Int := szM (MHead.size a0) a1
def gd (a0 : MHead) (a1 : Int) : Prop := (MHead.Sm maxLen a0) ∧ 0 ≤ a1 ∧ a1 ≤ 1048576
def acc (ls : List L) : RHead × Int := ((RHead.dec ls), ((dropT 16 ls).headD .hole).toInt)
def R : (RHead × Int) → Option Int := RR (p2 gd) (u2 md)
theorem R_eq {a0} {a1} (h : gd a0 a1) : R ((MHead.r a0), a1) = some (md a0 a1) := RR_eq (a := (a0, a1)) h
def con : Con := CN pats res acc R
theorem okF (a0 : MHead) (a1 : Int) (hg : gd a0 a1) : F (MHead.r a0) a1 = ret ((md a0 a1) : Int) := by
  obtain ⟨hs, g0, g1⟩ := hg
  unfold md
  show (call (Z5.R ((MKeys.r a0.fKeys), a1)) fun v1 => (bif (decide (v1 < 0)) then ret ((-1) : Int) else (call (Z5.R ((MKeys.r a0.fHeirs), v1)) fun v2 => (bif (decide (v2 < 0)) then ret ((-1) : Int) else (call (Z5.R ((MKeys.r a0.fJudge), v2)) fun v3 => (bif (decide (v3 < 0)) then ret ((-1) : Int) else ret (v3 : Int))))))) = _
  rw [call_eq (Z5.R_eq (a1 := a1) ⟨hs.1, by omega, by omega⟩)]
  unfold Z5.md
  by_cases c0 : a1 < ((MKeys.size a0.fKeys : Nat) : Int)
  · rw [szM_neg c0]; rw [show szM (MHead.size a0) a1 = -1 from szM_neg (by unfold MHead.size; omega)]; try rfl
  rw [szM_pos c0, dec_neg (by omega), cond_false]
  rw [call_eq (Z5.R_eq (a1 := (a1 - ((MKeys.size a0.fKeys : Nat) : Int))) ⟨hs.2.1, by omega, by omega⟩)]
  unfold Z5.md
  by_cases c1 : (a1 - ((MKeys.size a0.fKeys : Nat) : Int)) < ((MKeys.size a0.fHeirs : Nat) : Int)
  · rw [szM_neg c1]; rw [show szM (MHead.size a0) a1 = -1 from szM_neg (by unfold MHead.size; omega)]; try rfl
  rw [szM_pos c1, dec_neg (by omega), cond_false]
  rw [call_eq (Z5.R_eq (a1 := (a1 - ((MKeys.size a0.fKeys : Nat) : Int) - ((MKeys.size a0.fHeirs : Nat) : Int))) ⟨hs.2.2, by omega, by omega⟩)]
  unfold Z5.md
  by_cases c2 : (a1 - ((MKeys.size a0.fKeys : Nat) : Int) - ((MKeys.size a0.fHeirs : Nat) : Int)) < ((MKeys.size a0.fJudge : Nat) : Int)
  · rw [szM_neg c2]; rw [show szM (MHead.size a0) a1 = -1 from szM_neg (by unfold MHead.size; omega)]; try rfl
  rw [szM_pos c2, dec_neg (by omega), cond_false]
  rw [show szM (MHead.size a0) a1 = a1 - ((MKeys.size a0.fKeys : Nat) : Int) - ((MKeys.size a0.fHeirs : Nat) : Int) - ((MKeys.size a0.fJudge : Nat) : Int) from by rw [szM_pos (by unfold MHead.size; omega)]; unfold MHead.size; omega]
theorem valid_ : Valid Try.prog Ev 153 con := VV (live := fun _ => []) (nt := 24) (run := fun _ x => F x.1 x.2) mix tab_ok (.cons Z5.valid_ .nil) Try.func153 (by kernel_rfl) (fun _ _ => by kernel_rfl) (fun _ a _ _ hg => ⟨0, okF a.1 a.2 hg⟩)
end Z6
namespace Z7
def F (x0 : List (List L)) (x1 : Int) : Ans := (bif (decide ((IntKind.i64.wrap (x1 - (x0.length : Int))) < 0)) then ret ((-1) : Int) else ret ((IntKind.i64.wrap (x1 - (x0.length : Int))) : Int))
def pats : List Pat := [.rd (.sl 198), .rd (.int .i64)]
def res : RP := .one (.rd (.int .i64))
def md (a0 : List MSig) (a1 : Int) : Int := szM (szL (fun y : MSig => MSig.size y) a0) a1
def gd (a0 : List MSig) (a1 : Int) : Prop := (SmL maxLen (fun y : MSig => MSig.Sm maxLen y) a0) ∧ 0 ≤ a1 ∧ a1 ≤ 1048576
def acc (ls : List L) : List (List L) × Int := ((ls.headD .hole).toSl, ((dropT 1 ls).headD .hole).toInt)
def R : (List (List L) × Int) → Option Int := RR (p2 gd) (u2 md)
theorem R_eq {a0} {a1} (h : gd a0 a1) : R ((a0.map MSig.row), a1) = some (md a0 a1) := RR_eq (a := (a0, a1)) h
def con : Con := CN pats res acc R
theorem okF (a0 : List MSig) (a1 : Int) (hg : gd a0 a1) : F (a0.map MSig.row) a1 = ret ((md a0 a1) : Int) := by
  obtain ⟨hs, g0, g1⟩ := hg
  unfold F md
  rw [List.length_map, sz_wrap g0 g1 hs.1]
  have e : szL (fun y : MSig => MSig.size y) a0 = a0.length := by
    unfold szL
    have : (a0.map (fun y : MSig => MSig.size y)).sum = 0 := sum_zero (fun _ => rfl) a0
    omega
  rw [e]
  by_cases hc : a1 < ((a0.length : Nat) : Int)
  · rw [szM_neg hc, decide_eq_true (by omega)]; rfl
  · rw [szM_pos hc, decide_eq_false (by omega)]; rfl
theorem valid_ : Valid Try.prog Ev 154 con := VV (live := fun _ => []) (nt := 12) (run := fun _ x => F x.1 x.2) mix tab_ok .nil Try.func154 (by kernel_rfl) (fun _ _ => by kernel_rfl) (fun _ a _ _ hg => ⟨0, okF a.1 a.2 hg⟩)
end Z7
namespace Z8
def F (x0 : RSigned) (x1 : Int) : Ans := (call (Z6.R (x0.fHead, x1)) fun v1 => (bif (decide (v1 < 0)) then ret ((-1) : Int) else (call (Z7.R (x0.fSigs, v1)) fun v2 => (bif (decide (v2 < 0)) then ret ((-1) : Int) else ret (v2 : Int)))))
def pats : List Pat := [.agg [.int .i64, .int .i64, .int .i64, .int .i64, .int .i64, .int .i64, .int .i64, .int .i64, .sl 3, .int .i64, .sl 3, .int .i64, .int .i64, .sl 3, .int .i64, .bool, .sl 198], .rd (.int .i64)]
def res : RP := .one (.rd (.int .i64))
def md (a0 : MSigned) (a1 : Int) : Int := szM (MSigned.size a0) a1
def gd (a0 : MSigned) (a1 : Int) : Prop := (MSigned.Sm maxLen a0) ∧ 0 ≤ a1 ∧ a1 ≤ 1048576
def acc (ls : List L) : RSigned × Int := ((RSigned.dec ls), ((dropT 17 ls).headD .hole).toInt)
def R : (RSigned × Int) → Option Int := RR (p2 gd) (u2 md)
theorem R_eq {a0} {a1} (h : gd a0 a1) : R ((MSigned.r a0), a1) = some (md a0 a1) := RR_eq (a := (a0, a1)) h
def con : Con := CN pats res acc R
theorem okF (a0 : MSigned) (a1 : Int) (hg : gd a0 a1) : F (MSigned.r a0) a1 = ret ((md a0 a1) : Int) := by
  obtain ⟨hs, g0, g1⟩ := hg
  unfold md
  show (call (Z6.R ((MHead.r a0.fHead), a1)) fun v1 => (bif (decide (v1 < 0)) then ret ((-1) : Int) else (call (Z7.R ((a0.fSigs.map MSig.row), v1)) fun v2 => (bif (decide (v2 < 0)) then ret ((-1) : Int) else ret (v2 : Int))))) = _
  rw [call_eq (Z6.R_eq (a1 := a1) ⟨hs.1, by omega, by omega⟩)]
  unfold Z6.md
  by_cases c0 : a1 < ((MHead.size a0.fHead : Nat) : Int)
  · rw [szM_neg c0]; rw [show szM (MSigned.size a0) a1 = -1 from szM_neg (by unfold MSigned.size; omega)]; try rfl
  rw [szM_pos c0, dec_neg (by omega), cond_false]
  rw [call_eq (Z7.R_eq (a1 := (a1 - ((MHead.size a0.fHead : Nat) : Int))) ⟨hs.2, by omega, by omega⟩)]
  unfold Z7.md
  by_cases c1 : (a1 - ((MHead.size a0.fHead : Nat) : Int)) < ((szL (fun y : MSig => MSig.size y) a0.fSigs : Nat) : Int)
  · rw [szM_neg c1]; rw [show szM (MSigned.size a0) a1 = -1 from szM_neg (by unfold MSigned.size; omega)]; try rfl
  rw [szM_pos c1, dec_neg (by omega), cond_false]
  rw [show szM (MSigned.size a0) a1 = a1 - ((MHead.size a0.fHead : Nat) : Int) - ((szL (fun y : MSig => MSig.size y) a0.fSigs : Nat) : Int) from by rw [szM_pos (by unfold MSigned.size; omega)]; unfold MSigned.size; omega]
theorem valid_ : Valid Try.prog Ev 150 con := VV (live := fun _ => []) (nt := 18) (run := fun _ x => F x.1 x.2) mix tab_ok (.cons Z6.valid_ (.cons Z7.valid_ .nil)) Try.func150 (by kernel_rfl) (fun _ _ => by kernel_rfl) (fun _ a _ _ hg => ⟨0, okF a.1 a.2 hg⟩)
end Z8
namespace Z9
inductive Pt where
 | p0 (a : List (List L)) (b : Int) (c : Int)
def pid : Pt → Nat
 | .p0 .. => 5
def pvs : Pt → List V
 | .p0 a b c => [.sl none 179 a, .int .i64 b, .int .i64 c]
def phs : Pt → List Root
 | .p0 a b c => []
def step (J : Pt → Ans) : Pt → Ans
 | .p0 a b c => (bif (decide (c < (a.length : Int))) then (bif (decide ((0 : Int) ≤ c)) then (bif (decide (c < (a.length : Int))) then (call (Z8.R ((RSigned.at a (Int.toNat c)), b)) fun v1 => (bif (decide (v1 < 0)) then ret ((-1) : Int) else J (.p0 a v1 (IntKind.i64.wrap (c + 1))))) else none) else none) else ret (b : Int))
def start (J : Pt → Ans) (x0 : List (List L)) (x1 : Int) : Ans := (bif (decide ((IntKind.i64.wrap (x1 - (x0.length : Int))) < 0)) then ret ((-1) : Int) else J (.p0 x0 (IntKind.i64.wrap (x1 - (x0.length : Int))) 0))
def live : Nat → Live := fun i => match i with | 5 => [(0, none), (1, none), (5, none)] | _ => []
def pats : List Pat := [.rd (.sl 179), .rd (.int .i64)]
def res : RP := .one (.rd (.int .i64))
abbrev E : Env := { T := assoc Tab, G := conG [(150, Z8.con)], nt := 27 }
theorem step_eq (I : Heads) (p : Pt) : enterC E live I (pid p) (bodyOf Try.f143) (stOf (live (pid p)) (pvs p) (phs p)) (doneK E Try.f143 res) = step (fun q => I (pid q) (pvs q) (phs q)) p := by
 cases p <;> kernel_rfl
theorem start_eq (I : Heads) (ls : List L) : runC E live I (bodyOf Try.f143) (initS pats ls) (doneK E Try.f143 res) = start (fun q => I (pid q) (pvs q) (phs q)) (ls.headD .hole).toSl ((dropT 1 ls).headD .hole).toInt := by kernel_rfl
theorem run_eq (n : Nat) (ls : List L) : runF E live Try.f143 res n (initS pats ls) = start (iter step n) (ls.headD .hole).toSl ((dropT 1 ls).headD .hole).toInt := runF_iter (id := pid) (vs := pvs) (hs := phs) (step := step) (start := fun J => start J (ls.headD .hole).toSl ((dropT 1 ls).headD .hole).toInt) step_eq (fun I => start_eq I ls) n
def md (a0 : List MSigned) (a1 : Int) : Int := szM (szL (fun y : MSigned => MSigned.size y) a0) a1
def gd (a0 : List MSigned) (a1 : Int) : Prop := (SmL maxLen (fun y : MSigned => MSigned.Sm maxLen y) a0) ∧ 0 ≤ a1 ∧ a1 ≤ 1048576
def acc (ls : List L) : List (List L) × Int := ((ls.headD .hole).toSl, ((dropT 1 ls).headD .hole).toInt)
def R : (List (List L) × Int) → Option Int := RR (p2 gd) (u2 md)
theorem R_eq {a0} {a1} (h : gd a0 a1) : R ((a0.map MSigned.row), a1) = some (md a0 a1) := RR_eq (a := (a0, a1)) h
def con : Con := CN pats res acc R
theorem okF (a0 : List MSigned) (a1 : Int) (hg : gd a0 a1) : ∃ n, start (iter step n) (a0.map MSigned.row) a1 = ret ((md a0 a1) : Int) := by
  obtain ⟨hs, g0, g1⟩ := hg
  unfold start md
  simp only [List.length_map]
  refine sz_list (pt := fun left i => Pt.p0 (a0.map MSigned.row) left (i : Int)) (f := fun y : MSigned => MSigned.size y) hs.1 (fun J i h left p0 p1 => ?_) (fun J left => ?_) g0 g1
  · simp only [step, List.length_map, lt_dec h, zle_dec, cond_true, toNat_nat, MSigned.at_row h]
    rw [call_eq (Z8.R_eq ⟨hs.get h, p0, p1⟩), wrap_succ h hs.1]
    unfold Z8.md
    by_cases hc : left < ((MSigned.size (a0[i]) : Nat) : Int)
    · rw [szM_neg hc, if_pos hc]; rfl
    · rw [szM_pos hc, if_neg hc, dec_neg (by omega)]; rfl
  · simp only [step, List.length_map, nlt_dec, cond_false]
theorem valid_ : Valid Try.prog Ev 143 con := VV (run := fun n x => start (iter step n) x.1 x.2) mix tab_ok (.cons Z8.valid_ .nil) Try.func143 (by kernel_rfl) run_eq (fun _ a _ _ hg => okF a.1 a.2 hg)
end Z9
namespace Z10
inductive Pt where
 | p0 (a : List (List L)) (b : Int) (c : Int)
def pid : Pt → Nat
 | .p0 .. => 5
def pvs : Pt → List V
 | .p0 a b c => [.sl none 172 a, .int .i64 b, .int .i64 c]
def phs : Pt → List Root
 | .p0 a b c => []
def step (J : Pt → Ans) : Pt → Ans
 | .p0 a b c => (bif (decide (c < (a.length : Int))) then (bif (decide ((0 : Int) ≤ c)) then (bif (decide (c < (a.length : Int))) then (call (Z9.R ((lAt a (Int.toNat c)), b)) fun v1 => (bif (decide (v1 < 0)) then ret ((-1) : Int) else J (.p0 a v1 (IntKind.i64.wrap (c + 1))))) else none) else none) else ret (b : Int))
def start (J : Pt → Ans) (x0 : List (List L)) (x1 : Int) : Ans := (bif (decide ((IntKind.i64.wrap (x1 - (x0.length : Int))) < 0)) then ret ((-1) : Int) else J (.p0 x0 (IntKind.i64.wrap (x1 - (x0.length : Int))) 0))
def live : Nat → Live := fun i => match i with | 5 => [(0, none), (1, none), (5, none)] | _ => []
def pats : List Pat := [.rd (.sl 172), .rd (.int .i64)]
def res : RP := .one (.rd (.int .i64))
abbrev E : Env := { T := assoc Tab, G := conG [(143, Z9.con)], nt := 27 }
theorem step_eq (I : Heads) (p : Pt) : enterC E live I (pid p) (bodyOf Try.f135) (stOf (live (pid p)) (pvs p) (phs p)) (doneK E Try.f135 res) = step (fun q => I (pid q) (pvs q) (phs q)) p := by
 cases p <;> kernel_rfl
theorem start_eq (I : Heads) (ls : List L) : runC E live I (bodyOf Try.f135) (initS pats ls) (doneK E Try.f135 res) = start (fun q => I (pid q) (pvs q) (phs q)) (ls.headD .hole).toSl ((dropT 1 ls).headD .hole).toInt := by kernel_rfl
theorem run_eq (n : Nat) (ls : List L) : runF E live Try.f135 res n (initS pats ls) = start (iter step n) (ls.headD .hole).toSl ((dropT 1 ls).headD .hole).toInt := runF_iter (id := pid) (vs := pvs) (hs := phs) (step := step) (start := fun J => start J (ls.headD .hole).toSl ((dropT 1 ls).headD .hole).toInt) step_eq (fun I => start_eq I ls) n
def md (a0 : List (List MSigned)) (a1 : Int) : Int := szM (szL (fun y : List MSigned => szL (fun y : MSigned => MSigned.size y) y) a0) a1
def gd (a0 : List (List MSigned)) (a1 : Int) : Prop := (SmL maxLen (fun y : List MSigned => SmL maxLen (fun y : MSigned => MSigned.Sm maxLen y) y) a0) ∧ 0 ≤ a1 ∧ a1 ≤ 1048576
def acc (ls : List L) : List (List L) × Int := ((ls.headD .hole).toSl, ((dropT 1 ls).headD .hole).toInt)
def R : (List (List L) × Int) → Option Int := RR (p2 gd) (u2 md)
theorem R_eq {a0} {a1} (h : gd a0 a1) : R ((a0.map (lRow MSigned.row)), a1) = some (md a0 a1) := RR_eq (a := (a0, a1)) h
def con : Con := CN pats res acc R
theorem okF (a0 : List (List MSigned)) (a1 : Int) (hg : gd a0 a1) : ∃ n, start (iter step n) (a0.map (lRow MSigned.row)) a1 = ret ((md a0 a1) : Int) := by
  obtain ⟨hs, g0, g1⟩ := hg
  unfold start md
  simp only [List.length_map]
  refine sz_list (pt := fun left i => Pt.p0 (a0.map (lRow MSigned.row)) left (i : Int)) (f := fun y : List MSigned => szL (fun y : MSigned => MSigned.size y) y) hs.1 (fun J i h left p0 p1 => ?_) (fun J left => ?_) g0 g1
  · simp only [step, List.length_map, lt_dec h, zle_dec, cond_true, toNat_nat, lAt_row h]
    rw [call_eq (Z9.R_eq ⟨hs.get h, p0, p1⟩), wrap_succ h hs.1]
    unfold Z9.md
    by_cases hc : left < ((szL (fun y : MSigned => MSigned.size y) (a0[i]) : Nat) : Int)
    · rw [szM_neg hc, if_pos hc]; rfl
    · rw [szM_pos hc, if_neg hc, dec_neg (by omega)]; rfl
  · simp only [step, List.length_map, nlt_dec, cond_false]
theorem valid_ : Valid Try.prog Ev 135 con := VV (run := fun n x => start (iter step n) x.1 x.2) mix tab_ok (.cons Z9.valid_ .nil) Try.func135 (by kernel_rfl) run_eq (fun _ a _ _ hg => okF a.1 a.2 hg)
end Z10
namespace Z11
def F (x0 : RFork) (x1 : Int) : Ans := (call (Z8.R (x0.fBefore, x1)) fun v1 => (bif (decide (v1 < 0)) then ret ((-1) : Int) else (call (Z8.R (x0.fA, v1)) fun v2 => (bif (decide (v2 < 0)) then ret ((-1) : Int) else (call (Z8.R (x0.fB, v2)) fun v3 => (bif (decide (v3 < 0)) then ret ((-1) : Int) else ret (v3 : Int)))))))
def pats : List Pat := [.agg [.int .i64, .int .i64, .int .i64, .int .i64, .int .i64, .int .i64, .int .i64, .int .i64, .sl 3, .int .i64, .sl 3, .int .i64, .int .i64, .sl 3, .int .i64, .bool, .sl 198, .int .i64, .int .i64, .int .i64, .int .i64, .int .i64, .int .i64, .int .i64, .int .i64, .sl 3, .int .i64, .sl 3, .int .i64, .int .i64, .sl 3, .int .i64, .bool, .sl 198, .int .i64, .int .i64, .int .i64, .int .i64, .int .i64, .int .i64, .int .i64, .int .i64, .sl 3, .int .i64, .sl 3, .int .i64, .int .i64, .sl 3, .int .i64, .bool, .sl 198], .rd (.int .i64)]
def res : RP := .one (.rd (.int .i64))
def md (a0 : MFork) (a1 : Int) : Int := szM (MFork.size a0) a1
def gd (a0 : MFork) (a1 : Int) : Prop := (MFork.Sm maxLen a0) ∧ 0 ≤ a1 ∧ a1 ≤ 1048576
def acc (ls : List L) : RFork × Int := ((RFork.dec ls), ((dropT 51 ls).headD .hole).toInt)
def R : (RFork × Int) → Option Int := RR (p2 gd) (u2 md)
theorem R_eq {a0} {a1} (h : gd a0 a1) : R ((MFork.r a0), a1) = some (md a0 a1) := RR_eq (a := (a0, a1)) h
def con : Con := CN pats res acc R
theorem okF (a0 : MFork) (a1 : Int) (hg : gd a0 a1) : F (MFork.r a0) a1 = ret ((md a0 a1) : Int) := by
  obtain ⟨hs, g0, g1⟩ := hg
  unfold md
  show (call (Z8.R ((MSigned.r a0.fBefore), a1)) fun v1 => (bif (decide (v1 < 0)) then ret ((-1) : Int) else (call (Z8.R ((MSigned.r a0.fA), v1)) fun v2 => (bif (decide (v2 < 0)) then ret ((-1) : Int) else (call (Z8.R ((MSigned.r a0.fB), v2)) fun v3 => (bif (decide (v3 < 0)) then ret ((-1) : Int) else ret (v3 : Int))))))) = _
  rw [call_eq (Z8.R_eq (a1 := a1) ⟨hs.1, by omega, by omega⟩)]
  unfold Z8.md
  by_cases c0 : a1 < ((MSigned.size a0.fBefore : Nat) : Int)
  · rw [szM_neg c0]; rw [show szM (MFork.size a0) a1 = -1 from szM_neg (by unfold MFork.size; omega)]; try rfl
  rw [szM_pos c0, dec_neg (by omega), cond_false]
  rw [call_eq (Z8.R_eq (a1 := (a1 - ((MSigned.size a0.fBefore : Nat) : Int))) ⟨hs.2.1, by omega, by omega⟩)]
  unfold Z8.md
  by_cases c1 : (a1 - ((MSigned.size a0.fBefore : Nat) : Int)) < ((MSigned.size a0.fA : Nat) : Int)
  · rw [szM_neg c1]; rw [show szM (MFork.size a0) a1 = -1 from szM_neg (by unfold MFork.size; omega)]; try rfl
  rw [szM_pos c1, dec_neg (by omega), cond_false]
  rw [call_eq (Z8.R_eq (a1 := (a1 - ((MSigned.size a0.fBefore : Nat) : Int) - ((MSigned.size a0.fA : Nat) : Int))) ⟨hs.2.2, by omega, by omega⟩)]
  unfold Z8.md
  by_cases c2 : (a1 - ((MSigned.size a0.fBefore : Nat) : Int) - ((MSigned.size a0.fA : Nat) : Int)) < ((MSigned.size a0.fB : Nat) : Int)
  · rw [szM_neg c2]; rw [show szM (MFork.size a0) a1 = -1 from szM_neg (by unfold MFork.size; omega)]; try rfl
  rw [szM_pos c2, dec_neg (by omega), cond_false]
  rw [show szM (MFork.size a0) a1 = a1 - ((MSigned.size a0.fBefore : Nat) : Int) - ((MSigned.size a0.fA : Nat) : Int) - ((MSigned.size a0.fB : Nat) : Int) from by rw [szM_pos (by unfold MFork.size; omega)]; unfold MFork.size; omega]
theorem valid_ : Valid Try.prog Ev 144 con := VV (live := fun _ => []) (nt := 24) (run := fun _ x => F x.1 x.2) mix tab_ok (.cons Z8.valid_ .nil) Try.func144 (by kernel_rfl) (fun _ _ => by kernel_rfl) (fun _ a _ _ hg => ⟨0, okF a.1 a.2 hg⟩)
end Z11
namespace Z12
inductive Pt where
 | p0 (a : List (List L)) (b : Int) (c : Int)
def pid : Pt → Nat
 | .p0 .. => 5
def pvs : Pt → List V
 | .p0 a b c => [.sl none 181 a, .int .i64 b, .int .i64 c]
def phs : Pt → List Root
 | .p0 a b c => []
def step (J : Pt → Ans) : Pt → Ans
 | .p0 a b c => (bif (decide (c < (a.length : Int))) then (bif (decide ((0 : Int) ≤ c)) then (bif (decide (c < (a.length : Int))) then (call (Z11.R ((RFork.at a (Int.toNat c)), b)) fun v1 => (bif (decide (v1 < 0)) then ret ((-1) : Int) else J (.p0 a v1 (IntKind.i64.wrap (c + 1))))) else none) else none) else ret (b : Int))
def start (J : Pt → Ans) (x0 : List (List L)) (x1 : Int) : Ans := (bif (decide ((IntKind.i64.wrap (x1 - (x0.length : Int))) < 0)) then ret ((-1) : Int) else J (.p0 x0 (IntKind.i64.wrap (x1 - (x0.length : Int))) 0))
def live : Nat → Live := fun i => match i with | 5 => [(0, none), (1, none), (5, none)] | _ => []
def pats : List Pat := [.rd (.sl 181), .rd (.int .i64)]
def res : RP := .one (.rd (.int .i64))
abbrev E : Env := { T := assoc Tab, G := conG [(144, Z11.con)], nt := 27 }
theorem step_eq (I : Heads) (p : Pt) : enterC E live I (pid p) (bodyOf Try.f136) (stOf (live (pid p)) (pvs p) (phs p)) (doneK E Try.f136 res) = step (fun q => I (pid q) (pvs q) (phs q)) p := by
 cases p <;> kernel_rfl
theorem start_eq (I : Heads) (ls : List L) : runC E live I (bodyOf Try.f136) (initS pats ls) (doneK E Try.f136 res) = start (fun q => I (pid q) (pvs q) (phs q)) (ls.headD .hole).toSl ((dropT 1 ls).headD .hole).toInt := by kernel_rfl
theorem run_eq (n : Nat) (ls : List L) : runF E live Try.f136 res n (initS pats ls) = start (iter step n) (ls.headD .hole).toSl ((dropT 1 ls).headD .hole).toInt := runF_iter (id := pid) (vs := pvs) (hs := phs) (step := step) (start := fun J => start J (ls.headD .hole).toSl ((dropT 1 ls).headD .hole).toInt) step_eq (fun I => start_eq I ls) n
def md (a0 : List MFork) (a1 : Int) : Int := szM (szL (fun y : MFork => MFork.size y) a0) a1
def gd (a0 : List MFork) (a1 : Int) : Prop := (SmL maxLen (fun y : MFork => MFork.Sm maxLen y) a0) ∧ 0 ≤ a1 ∧ a1 ≤ 1048576
def acc (ls : List L) : List (List L) × Int := ((ls.headD .hole).toSl, ((dropT 1 ls).headD .hole).toInt)
def R : (List (List L) × Int) → Option Int := RR (p2 gd) (u2 md)
theorem R_eq {a0} {a1} (h : gd a0 a1) : R ((a0.map MFork.row), a1) = some (md a0 a1) := RR_eq (a := (a0, a1)) h
def con : Con := CN pats res acc R
theorem okF (a0 : List MFork) (a1 : Int) (hg : gd a0 a1) : ∃ n, start (iter step n) (a0.map MFork.row) a1 = ret ((md a0 a1) : Int) := by
  obtain ⟨hs, g0, g1⟩ := hg
  unfold start md
  simp only [List.length_map]
  refine sz_list (pt := fun left i => Pt.p0 (a0.map MFork.row) left (i : Int)) (f := fun y : MFork => MFork.size y) hs.1 (fun J i h left p0 p1 => ?_) (fun J left => ?_) g0 g1
  · simp only [step, List.length_map, lt_dec h, zle_dec, cond_true, toNat_nat, MFork.at_row h]
    rw [call_eq (Z11.R_eq ⟨hs.get h, p0, p1⟩), wrap_succ h hs.1]
    unfold Z11.md
    by_cases hc : left < ((MFork.size (a0[i]) : Nat) : Int)
    · rw [szM_neg hc, if_pos hc]; rfl
    · rw [szM_pos hc, if_neg hc, dec_neg (by omega)]; rfl
  · simp only [step, List.length_map, nlt_dec, cond_false]
theorem valid_ : Valid Try.prog Ev 136 con := VV (run := fun n x => start (iter step n) x.1 x.2) mix tab_ok (.cons Z11.valid_ .nil) Try.func136 (by kernel_rfl) run_eq (fun _ a _ _ hg => okF a.1 a.2 hg)
end Z12
namespace Z13
def F (x0 : RKnown) (x1 : Int) : Ans := (call (Z10.R (x0.fChains, x1)) fun v1 => (bif (decide (v1 < 0)) then ret ((-1) : Int) else (call (Z12.R (x0.fForks, v1)) fun v2 => (bif (decide (v2 < 0)) then ret ((-1) : Int) else ret (v2 : Int)))))
def pats : List Pat := [.agg [.sl 172, .sl 181], .rd (.int .i64)]
def res : RP := .one (.rd (.int .i64))
def md (a0 : MKnown) (a1 : Int) : Int := szM (MKnown.size a0) a1
def gd (a0 : MKnown) (a1 : Int) : Prop := (MKnown.Sm maxLen a0) ∧ 0 ≤ a1 ∧ a1 ≤ 1048576
def acc (ls : List L) : RKnown × Int := ((RKnown.dec ls), ((dropT 2 ls).headD .hole).toInt)
def R : (RKnown × Int) → Option Int := RR (p2 gd) (u2 md)
theorem R_eq {a0} {a1} (h : gd a0 a1) : R ((MKnown.r a0), a1) = some (md a0 a1) := RR_eq (a := (a0, a1)) h
def con : Con := CN pats res acc R
theorem okF (a0 : MKnown) (a1 : Int) (hg : gd a0 a1) : F (MKnown.r a0) a1 = ret ((md a0 a1) : Int) := by
  obtain ⟨hs, g0, g1⟩ := hg
  unfold md
  show (call (Z10.R ((a0.fChains.map (lRow MSigned.row)), a1)) fun v1 => (bif (decide (v1 < 0)) then ret ((-1) : Int) else (call (Z12.R ((a0.fForks.map MFork.row), v1)) fun v2 => (bif (decide (v2 < 0)) then ret ((-1) : Int) else ret (v2 : Int))))) = _
  rw [call_eq (Z10.R_eq (a1 := a1) ⟨hs.1, by omega, by omega⟩)]
  unfold Z10.md
  by_cases c0 : a1 < ((szL (fun y : List MSigned => szL (fun y : MSigned => MSigned.size y) y) a0.fChains : Nat) : Int)
  · rw [szM_neg c0]; rw [show szM (MKnown.size a0) a1 = -1 from szM_neg (by unfold MKnown.size; omega)]; try rfl
  rw [szM_pos c0, dec_neg (by omega), cond_false]
  rw [call_eq (Z12.R_eq (a1 := (a1 - ((szL (fun y : List MSigned => szL (fun y : MSigned => MSigned.size y) y) a0.fChains : Nat) : Int))) ⟨hs.2, by omega, by omega⟩)]
  unfold Z12.md
  by_cases c1 : (a1 - ((szL (fun y : List MSigned => szL (fun y : MSigned => MSigned.size y) y) a0.fChains : Nat) : Int)) < ((szL (fun y : MFork => MFork.size y) a0.fForks : Nat) : Int)
  · rw [szM_neg c1]; rw [show szM (MKnown.size a0) a1 = -1 from szM_neg (by unfold MKnown.size; omega)]; try rfl
  rw [szM_pos c1, dec_neg (by omega), cond_false]
  rw [show szM (MKnown.size a0) a1 = a1 - ((szL (fun y : List MSigned => szL (fun y : MSigned => MSigned.size y) y) a0.fChains : Nat) : Int) - ((szL (fun y : MFork => MFork.size y) a0.fForks : Nat) : Int) from by rw [szM_pos (by unfold MKnown.size; omega)]; unfold MKnown.size; omega]
theorem valid_ : Valid Try.prog Ev 122 con := VV (live := fun _ => []) (nt := 18) (run := fun _ x => F x.1 x.2) mix tab_ok (.cons Z10.valid_ (.cons Z12.valid_ .nil)) Try.func122 (by kernel_rfl) (fun _ _ => by kernel_rfl) (fun _ a _ _ hg => ⟨0, okF a.1 a.2 hg⟩)
end Z13
namespace Z14
def F (x0 : RTrace) (x1 : Int) : Ans := (call (Z13.R (x0.fKnown, x1)) fun v1 => (bif (decide (v1 < 0)) then ret ((-1) : Int) else (call (Z1.R (x0.fEntry, v1)) fun v2 => (bif (decide (v2 < 0)) then ret ((-1) : Int) else (call (Z4.R (x0.fZones, v2)) fun v3 => (bif (decide (v3 < 0)) then ret ((-1) : Int) else ret (v3 : Int)))))))
def pats : List Pat := [.agg [.sl 172, .sl 181, .int .i64, .str, .int .i64, .int .i64, .sl 9, .sl 3, .int .i64], .rd (.int .i64)]
def res : RP := .one (.rd (.int .i64))
def md (a0 : MTrace) (a1 : Int) : Int := szM (MTrace.size a0) a1
def gd (a0 : MTrace) (a1 : Int) : Prop := (MTrace.Sm maxLen a0) ∧ 0 ≤ a1 ∧ a1 ≤ 1048576
def acc (ls : List L) : RTrace × Int := ((RTrace.dec ls), ((dropT 9 ls).headD .hole).toInt)
def R : (RTrace × Int) → Option Int := RR (p2 gd) (u2 md)
theorem R_eq {a0} {a1} (h : gd a0 a1) : R ((MTrace.r a0), a1) = some (md a0 a1) := RR_eq (a := (a0, a1)) h
def con : Con := CN pats res acc R
theorem okF (a0 : MTrace) (a1 : Int) (hg : gd a0 a1) : F (MTrace.r a0) a1 = ret ((md a0 a1) : Int) := by
  obtain ⟨hs, g0, g1⟩ := hg
  unfold md
  show (call (Z13.R ((MKnown.r a0.fKnown), a1)) fun v1 => (bif (decide (v1 < 0)) then ret ((-1) : Int) else (call (Z1.R ((MEntry.r a0.fEntry), v1)) fun v2 => (bif (decide (v2 < 0)) then ret ((-1) : Int) else (call (Z4.R ((a0.fZones.map iRow), v2)) fun v3 => (bif (decide (v3 < 0)) then ret ((-1) : Int) else ret (v3 : Int))))))) = _
  rw [call_eq (Z13.R_eq (a1 := a1) ⟨hs.1, by omega, by omega⟩)]
  unfold Z13.md
  by_cases c0 : a1 < ((MKnown.size a0.fKnown : Nat) : Int)
  · rw [szM_neg c0]; rw [show szM (MTrace.size a0) a1 = -1 from szM_neg (by unfold MTrace.size; omega)]; try rfl
  rw [szM_pos c0, dec_neg (by omega), cond_false]
  rw [call_eq (Z1.R_eq (a1 := (a1 - ((MKnown.size a0.fKnown : Nat) : Int))) ⟨hs.2.1, by omega, by omega⟩)]
  unfold Z1.md
  by_cases c1 : (a1 - ((MKnown.size a0.fKnown : Nat) : Int)) < ((MEntry.size a0.fEntry : Nat) : Int)
  · rw [szM_neg c1]; rw [show szM (MTrace.size a0) a1 = -1 from szM_neg (by unfold MTrace.size; omega)]; try rfl
  rw [szM_pos c1, dec_neg (by omega), cond_false]
  rw [call_eq (Z4.R_eq (a1 := (a1 - ((MKnown.size a0.fKnown : Nat) : Int) - ((MEntry.size a0.fEntry : Nat) : Int))) ⟨hs.2.2, by omega, by omega⟩)]
  unfold Z4.md
  by_cases c2 : (a1 - ((MKnown.size a0.fKnown : Nat) : Int) - ((MEntry.size a0.fEntry : Nat) : Int)) < ((szL (fun y : Int => 0) a0.fZones : Nat) : Int)
  · rw [szM_neg c2]; rw [show szM (MTrace.size a0) a1 = -1 from szM_neg (by unfold MTrace.size; omega)]; try rfl
  rw [szM_pos c2, dec_neg (by omega), cond_false]
  rw [show szM (MTrace.size a0) a1 = a1 - ((MKnown.size a0.fKnown : Nat) : Int) - ((MEntry.size a0.fEntry : Nat) : Int) - ((szL (fun y : Int => 0) a0.fZones : Nat) : Int) from by rw [szM_pos (by unfold MTrace.size; omega)]; unfold MTrace.size; omega]
theorem valid_ : Valid Try.prog Ev 90 con := VV (live := fun _ => []) (nt := 24) (run := fun _ x => F x.1 x.2) mix tab_ok (.cons Z13.valid_ (.cons Z1.valid_ (.cons Z4.valid_ .nil))) Try.func90 (by kernel_rfl) (fun _ _ => by kernel_rfl) (fun _ a _ _ hg => ⟨0, okF a.1 a.2 hg⟩)
end Z14
namespace Z15
inductive Pt where
 | p0 (a : List (List L)) (b : Int) (c : Int)
def pid : Pt → Nat
 | .p0 .. => 5
def pvs : Pt → List V
 | .p0 a b c => [.sl none 118 a, .int .i64 b, .int .i64 c]
def phs : Pt → List Root
 | .p0 a b c => []
def step (J : Pt → Ans) : Pt → Ans
 | .p0 a b c => (bif (decide (c < (a.length : Int))) then (bif (decide ((0 : Int) ≤ c)) then (bif (decide (c < (a.length : Int))) then (call (Z14.R ((RTrace.at a (Int.toNat c)), b)) fun v1 => (bif (decide (v1 < 0)) then ret ((-1) : Int) else J (.p0 a v1 (IntKind.i64.wrap (c + 1))))) else none) else none) else ret (b : Int))
def start (J : Pt → Ans) (x0 : List (List L)) (x1 : Int) : Ans := (bif (decide ((IntKind.i64.wrap (x1 - (x0.length : Int))) < 0)) then ret ((-1) : Int) else J (.p0 x0 (IntKind.i64.wrap (x1 - (x0.length : Int))) 0))
def live : Nat → Live := fun i => match i with | 5 => [(0, none), (1, none), (5, none)] | _ => []
def pats : List Pat := [.rd (.sl 118), .rd (.int .i64)]
def res : RP := .one (.rd (.int .i64))
abbrev E : Env := { T := assoc Tab, G := conG [(90, Z14.con)], nt := 27 }
theorem step_eq (I : Heads) (p : Pt) : enterC E live I (pid p) (bodyOf Try.f37) (stOf (live (pid p)) (pvs p) (phs p)) (doneK E Try.f37 res) = step (fun q => I (pid q) (pvs q) (phs q)) p := by
 cases p <;> kernel_rfl
theorem start_eq (I : Heads) (ls : List L) : runC E live I (bodyOf Try.f37) (initS pats ls) (doneK E Try.f37 res) = start (fun q => I (pid q) (pvs q) (phs q)) (ls.headD .hole).toSl ((dropT 1 ls).headD .hole).toInt := by kernel_rfl
theorem run_eq (n : Nat) (ls : List L) : runF E live Try.f37 res n (initS pats ls) = start (iter step n) (ls.headD .hole).toSl ((dropT 1 ls).headD .hole).toInt := runF_iter (id := pid) (vs := pvs) (hs := phs) (step := step) (start := fun J => start J (ls.headD .hole).toSl ((dropT 1 ls).headD .hole).toInt) step_eq (fun I => start_eq I ls) n
def md (a0 : List MTrace) (a1 : Int) : Int := szM (szL (fun y : MTrace => MTrace.size y) a0) a1
def gd (a0 : List MTrace) (a1 : Int) : Prop := (SmL maxLen (fun y : MTrace => MTrace.Sm maxLen y) a0) ∧ 0 ≤ a1 ∧ a1 ≤ 1048576
def acc (ls : List L) : List (List L) × Int := ((ls.headD .hole).toSl, ((dropT 1 ls).headD .hole).toInt)
def R : (List (List L) × Int) → Option Int := RR (p2 gd) (u2 md)
theorem R_eq {a0} {a1} (h : gd a0 a1) : R ((a0.map MTrace.row), a1) = some (md a0 a1) := RR_eq (a := (a0, a1)) h
def con : Con := CN pats res acc R
theorem okF (a0 : List MTrace) (a1 : Int) (hg : gd a0 a1) : ∃ n, start (iter step n) (a0.map MTrace.row) a1 = ret ((md a0 a1) : Int) := by
  obtain ⟨hs, g0, g1⟩ := hg
  unfold start md
  simp only [List.length_map]
  refine sz_list (pt := fun left i => Pt.p0 (a0.map MTrace.row) left (i : Int)) (f := fun y : MTrace => MTrace.size y) hs.1 (fun J i h left p0 p1 => ?_) (fun J left => ?_) g0 g1
  · simp only [step, List.length_map, lt_dec h, zle_dec, cond_true, toNat_nat, MTrace.at_row h]
    rw [call_eq (Z14.R_eq ⟨hs.get h, p0, p1⟩), wrap_succ h hs.1]
    unfold Z14.md
    by_cases hc : left < ((MTrace.size (a0[i]) : Nat) : Int)
    · rw [szM_neg hc, if_pos hc]; rfl
    · rw [szM_pos hc, if_neg hc, dec_neg (by omega)]; rfl
  · simp only [step, List.length_map, nlt_dec, cond_false]
theorem valid_ : Valid Try.prog Ev 37 con := VV (run := fun n x => start (iter step n) x.1 x.2) mix tab_ok (.cons Z14.valid_ .nil) Try.func37 (by kernel_rfl) run_eq (fun _ a _ _ hg => okF a.1 a.2 hg)
end Z15
namespace Z16
inductive Pt where
 | p0 (a : List (List L)) (b : Int) (c : List (List L))
def pid : Pt → Nat
 | .p0 .. => 3
def pvs : Pt → List V
 | .p0 a b c => [.sl none 9 a, .own 0, .int .i64 b]
def phs : Pt → List Root
 | .p0 a b c => [.row 9 c]
def step (J : Pt → Ans) : Pt → Ans
 | .p0 a b c => (bif (decide (b < (a.length : Int))) then (bif (decide ((0 : Int) ≤ b)) then (bif (decide (b < (a.length : Int))) then (bif (decide ((0 : Int) ≤ b)) then (bif (decide (b < (c.length : Int))) then J (.p0 a (IntKind.i64.wrap (b + 1)) (List.set c (Int.toNat b) [L.str (sAt a (Int.toNat b))])) else none) else none) else none) else none) else ret (c : List (List L)))
def start (J : Pt → Ans) (x0 : List (List L)) : Ans := (bif (decide ((0 : Int) ≤ (x0.length : Int))) then (bif (decide ((x0.length : Int) ≤ (x0.length : Int))) then (bif (decide ((x0.length : Int) * 16 ≤ 140737488355328)) then J (.p0 x0 0 (List.replicate (Int.toNat (x0.length : Int)) [L.str ⟨#[]⟩])) else none) else none) else none)
def live : Nat → Live := fun i => match i with | 3 => [(0, none), (3, none), (4, none)] | _ => []
def pats : List Pat := [.rd (.sl 9)]
def res : RP := .one (.fr 9)
abbrev E : Env := { T := assoc Tab, G := conG [], nt := 22 }
theorem step_eq (I : Heads) (p : Pt) : enterC E live I (pid p) (bodyOf Try.f27) (stOf (live (pid p)) (pvs p) (phs p)) (doneK E Try.f27 res) = step (fun q => I (pid q) (pvs q) (phs q)) p := by
 cases p <;> kernel_rfl
theorem start_eq (I : Heads) (ls : List L) : runC E live I (bodyOf Try.f27) (initS pats ls) (doneK E Try.f27 res) = start (fun q => I (pid q) (pvs q) (phs q)) (ls.headD .hole).toSl := by kernel_rfl
theorem run_eq (n : Nat) (ls : List L) : runF E live Try.f27 res n (initS pats ls) = start (iter step n) (ls.headD .hole).toSl := runF_iter (id := pid) (vs := pvs) (hs := phs) (step := step) (start := fun J => start J (ls.headD .hole).toSl) step_eq (fun I => start_eq I ls) n
def md (a0 : List ByteArray) : List ByteArray := a0
def gd (a0 : List ByteArray) : Prop := SmL (2 ^ 36) (fun y : ByteArray => y.size ≤ (2 ^ 36)) a0
def acc (ls : List L) : List (List L) := (ls.headD .hole).toSl
def R : (List (List L)) → Option (List (List L)) := RR gd md
theorem R_eq {a0} (h : gd a0) : R (a0.map sRow) = some ((md a0).map sRow) := RR_eq (a := a0) h
def con : Con := CN pats res acc R
theorem okF (a0 : List ByteArray) (hg : gd a0) : ∃ n, start (iter step n) (a0.map sRow) = ret (((md a0).map sRow) : List (List L)) := by
  unfold start md
  simp only [List.length_map]
  refine to_list (b := 16) (pt := fun i c => Pt.p0 (a0.map sRow) (i : Int) c) (by have := hg.1; simp at this; omega) (fun J i h c hc => ?_) (fun J c => ?_)
  · simp only [step, List.length_map, lt_dec h, zle_dec, cond_true, toNat_nat, sAt_row h, hc]
    rw [wrap_succ (n := a0.length) h (by have := hg.1; simp only [maxLen]; simp at this; omega)]
    rfl
  · simp only [step, List.length_map, nlt_dec, cond_false]
theorem valid_ : Valid Try.prog Ev 27 con := VV (run := fun n x => start (iter step n) x) mix tab_ok .nil Try.func27 (by kernel_rfl) run_eq (fun _ a _ _ hg => okF a hg)
end Z16
namespace Z17
def F (x0 : REntry) : Ans := (call (Z16.R x0.fPath) fun v1 => ret ((⟨x0.fLabel, x0.fKind, x0.fValue, v1⟩ : REntry) : REntry))
def pats : List Pat := [.agg [.str, .int .i64, .int .i64, .sl 9]]
def res : RP := .agg [.rd (.str), .rd (.int .i64), .rd (.int .i64), .fr 9]
def md (a0 : MEntry) : MEntry := a0
def gd (a0 : MEntry) : Prop := MEntry.Sm (2 ^ 36) a0
def acc (ls : List L) : REntry := (REntry.dec ls)
def R : REntry → Option REntry := RR gd md
theorem R_eq {a0} (h : gd a0) : R (MEntry.r a0) = some (MEntry.r (md a0)) := RR_eq (a := a0) h
def con : Con := CN pats res acc R
theorem okF (a0 : MEntry) (hg : gd a0) : F (MEntry.r a0) = ret ((MEntry.r (md a0)) : REntry) := by
 unfold md
 show (call (Z16.R (a0.fPath.map sRow)) fun v1 => ret ((⟨a0.fLabel, a0.fKind, a0.fValue, v1⟩ : REntry) : REntry)) = _
 rw [call_eq (Z16.R_eq hg.2)]
 rfl
theorem valid_ : Valid Try.prog Ev 28 con := VV (live := fun _ => []) (nt := 18) (run := fun _ x => F x) mix tab_ok (.cons Z16.valid_ .nil) Try.func28 (by kernel_rfl) (fun _ _ => by kernel_rfl) (fun _ a _ _ hg => ⟨0, okF a hg⟩)
end Z17
namespace Z18
def F (x0 : RChoice) : Ans := (call (Z16.R x0.fPath) fun v1 => (call (Z17.R x0.fEntry) fun v2 => ret ((⟨v1, v2⟩ : RChoice) : RChoice)))
def pats : List Pat := [.agg [.sl 9, .str, .int .i64, .int .i64, .sl 9]]
def res : RP := .agg [.fr 9, .rd (.str), .rd (.int .i64), .rd (.int .i64), .fr 9]
def md (a0 : MChoice) : MChoice := a0
def gd (a0 : MChoice) : Prop := MChoice.Sm (2 ^ 36) a0
def acc (ls : List L) : RChoice := (RChoice.dec ls)
def R : RChoice → Option RChoice := RR gd md
theorem R_eq {a0} (h : gd a0) : R (MChoice.r a0) = some (MChoice.r (md a0)) := RR_eq (a := a0) h
def con : Con := CN pats res acc R
theorem okF (a0 : MChoice) (hg : gd a0) : F (MChoice.r a0) = ret ((MChoice.r (md a0)) : RChoice) := by
 unfold md
 show (call (Z16.R (a0.fPath.map sRow)) fun v1 => (call (Z17.R (MEntry.r a0.fEntry)) fun v2 => ret ((⟨v1, v2⟩ : RChoice) : RChoice))) = _
 rw [call_eq (Z16.R_eq hg.1)]
 rw [call_eq (Z17.R_eq hg.2)]
 rfl
theorem valid_ : Valid Try.prog Ev 82 con := VV (live := fun _ => []) (nt := 13) (run := fun _ x => F x) mix tab_ok (.cons Z16.valid_ (.cons Z17.valid_ .nil)) Try.func82 (by kernel_rfl) (fun _ _ => by kernel_rfl) (fun _ a _ _ hg => ⟨0, okF a hg⟩)
end Z18
namespace Z19
inductive Pt where
 | p0 (a : List (List L)) (b : Int) (c : List (List L))
def pid : Pt → Nat
 | .p0 .. => 3
def pvs : Pt → List V
 | .p0 a b c => [.sl none 102 a, .own 0, .int .i64 b]
def phs : Pt → List Root
 | .p0 a b c => [.row 106 c]
def step (J : Pt → Ans) : Pt → Ans
 | .p0 a b c => (bif (decide (b < (a.length : Int))) then (bif (decide ((0 : Int) ≤ b)) then (bif (decide (b < (a.length : Int))) then (call (Z18.R (RChoice.at a (Int.toNat b))) fun v1 => (bif (decide ((0 : Int) ≤ b)) then (bif (decide (b < (c.length : Int))) then J (.p0 a (IntKind.i64.wrap (b + 1)) (List.set c (Int.toNat b) (RChoice.enc v1))) else none) else none)) else none) else none) else ret (c : List (List L)))
def start (J : Pt → Ans) (x0 : List (List L)) : Ans := (bif (decide ((0 : Int) ≤ (x0.length : Int))) then (bif (decide ((x0.length : Int) ≤ (x0.length : Int))) then (bif (decide ((x0.length : Int) * 80 ≤ 140737488355328)) then J (.p0 x0 0 (List.replicate (Int.toNat (x0.length : Int)) [L.sl [], L.str ⟨#[]⟩, L.int 0, L.int 0, L.sl []])) else none) else none) else none)
def live : Nat → Live := fun i => match i with | 3 => [(0, none), (3, none), (4, none)] | _ => []
def pats : List Pat := [.rd (.sl 102)]
def res : RP := .one (.fr 106)
abbrev E : Env := { T := assoc Tab, G := conG [(82, Z18.con)], nt := 23 }
theorem step_eq (I : Heads) (p : Pt) : enterC E live I (pid p) (bodyOf Try.f26) (stOf (live (pid p)) (pvs p) (phs p)) (doneK E Try.f26 res) = step (fun q => I (pid q) (pvs q) (phs q)) p := by
 cases p <;> kernel_rfl
theorem start_eq (I : Heads) (ls : List L) : runC E live I (bodyOf Try.f26) (initS pats ls) (doneK E Try.f26 res) = start (fun q => I (pid q) (pvs q) (phs q)) (ls.headD .hole).toSl := by kernel_rfl
theorem run_eq (n : Nat) (ls : List L) : runF E live Try.f26 res n (initS pats ls) = start (iter step n) (ls.headD .hole).toSl := runF_iter (id := pid) (vs := pvs) (hs := phs) (step := step) (start := fun J => start J (ls.headD .hole).toSl) step_eq (fun I => start_eq I ls) n
def md (a0 : List MChoice) : List MChoice := a0
def gd (a0 : List MChoice) : Prop := SmL (2 ^ 36) (fun y : MChoice => MChoice.Sm (2 ^ 36) y) a0
def acc (ls : List L) : List (List L) := (ls.headD .hole).toSl
def R : (List (List L)) → Option (List (List L)) := RR gd md
theorem R_eq {a0} (h : gd a0) : R (a0.map MChoice.row) = some ((md a0).map MChoice.row) := RR_eq (a := a0) h
def con : Con := CN pats res acc R
theorem okF (a0 : List MChoice) (hg : gd a0) : ∃ n, start (iter step n) (a0.map MChoice.row) = ret (((md a0).map MChoice.row) : List (List L)) := by
  unfold start md
  simp only [List.length_map]
  refine to_list (b := 80) (pt := fun i c => Pt.p0 (a0.map MChoice.row) (i : Int) c) (by have := hg.1; simp at this; omega) (fun J i h c hc => ?_) (fun J c => ?_)
  · simp only [step, List.length_map, lt_dec h, zle_dec, cond_true, toNat_nat, MChoice.at_row h, hc]
    rw [call_eq (Z18.R_eq (hg.get h))]
    try simp only [hc, lt_dec h, cond_true]
    rw [wrap_succ (n := a0.length) h (by have := hg.1; simp only [maxLen]; simp at this; omega)]
    rfl
  · simp only [step, List.length_map, nlt_dec, cond_false]
theorem valid_ : Valid Try.prog Ev 26 con := VV (run := fun n x => start (iter step n) x) mix tab_ok (.cons Z18.valid_ .nil) Try.func26 (by kernel_rfl) run_eq (fun _ a _ _ hg => okF a hg)
end Z19
namespace Z20
inductive Pt where
 | p0 (a : List (List L)) (b : Int) (c : List (List L))
def pid : Pt → Nat
 | .p0 .. => 3
def pvs : Pt → List V
 | .p0 a b c => [.sl none 3 a, .own 0, .int .i64 b]
def phs : Pt → List Root
 | .p0 a b c => [.row 3 c]
def step (J : Pt → Ans) : Pt → Ans
 | .p0 a b c => (bif (decide (b < (a.length : Int))) then (bif (decide ((0 : Int) ≤ b)) then (bif (decide (b < (a.length : Int))) then (bif (decide ((0 : Int) ≤ b)) then (bif (decide (b < (c.length : Int))) then J (.p0 a (IntKind.i64.wrap (b + 1)) (List.set c (Int.toNat b) [L.int (iAt a (Int.toNat b))])) else none) else none) else none) else none) else ret (c : List (List L)))
def start (J : Pt → Ans) (x0 : List (List L)) : Ans := (bif (decide ((0 : Int) ≤ (x0.length : Int))) then (bif (decide ((x0.length : Int) ≤ (x0.length : Int))) then (bif (decide ((x0.length : Int) * 8 ≤ 140737488355328)) then J (.p0 x0 0 (List.replicate (Int.toNat (x0.length : Int)) [L.int 0])) else none) else none) else none)
def live : Nat → Live := fun i => match i with | 3 => [(0, none), (3, none), (4, none)] | _ => []
def pats : List Pat := [.rd (.sl 3)]
def res : RP := .one (.fr 3)
abbrev E : Env := { T := assoc Tab, G := conG [], nt := 22 }
theorem step_eq (I : Heads) (p : Pt) : enterC E live I (pid p) (bodyOf Try.f125) (stOf (live (pid p)) (pvs p) (phs p)) (doneK E Try.f125 res) = step (fun q => I (pid q) (pvs q) (phs q)) p := by
 cases p <;> kernel_rfl
theorem start_eq (I : Heads) (ls : List L) : runC E live I (bodyOf Try.f125) (initS pats ls) (doneK E Try.f125 res) = start (fun q => I (pid q) (pvs q) (phs q)) (ls.headD .hole).toSl := by kernel_rfl
theorem run_eq (n : Nat) (ls : List L) : runF E live Try.f125 res n (initS pats ls) = start (iter step n) (ls.headD .hole).toSl := runF_iter (id := pid) (vs := pvs) (hs := phs) (step := step) (start := fun J => start J (ls.headD .hole).toSl) step_eq (fun I => start_eq I ls) n
def md (a0 : List Int) : List Int := a0
def gd (a0 : List Int) : Prop := SmL (2 ^ 36) (fun y : Int => True) a0
def acc (ls : List L) : List (List L) := (ls.headD .hole).toSl
def R : (List (List L)) → Option (List (List L)) := RR gd md
theorem R_eq {a0} (h : gd a0) : R (a0.map iRow) = some ((md a0).map iRow) := RR_eq (a := a0) h
def con : Con := CN pats res acc R
theorem okF (a0 : List Int) (hg : gd a0) : ∃ n, start (iter step n) (a0.map iRow) = ret (((md a0).map iRow) : List (List L)) := by
  unfold start md
  simp only [List.length_map]
  refine to_list (b := 8) (pt := fun i c => Pt.p0 (a0.map iRow) (i : Int) c) (by have := hg.1; simp at this; omega) (fun J i h c hc => ?_) (fun J c => ?_)
  · simp only [step, List.length_map, lt_dec h, zle_dec, cond_true, toNat_nat, iAt_row h, hc]
    rw [wrap_succ (n := a0.length) h (by have := hg.1; simp only [maxLen]; simp at this; omega)]
    rfl
  · simp only [step, List.length_map, nlt_dec, cond_false]
theorem valid_ : Valid Try.prog Ev 125 con := VV (run := fun n x => start (iter step n) x) mix tab_ok .nil Try.func125 (by kernel_rfl) run_eq (fun _ a _ _ hg => okF a hg)
end Z20
namespace Z21
def F (x0 : RKeys) : Ans := (call (Z20.R x0.fList) fun v1 => ret ((⟨v1, x0.fNeed⟩ : RKeys) : RKeys))
def pats : List Pat := [.agg [.sl 3, .int .i64]]
def res : RP := .agg [.fr 3, .rd (.int .i64)]
def md (a0 : MKeys) : MKeys := a0
def gd (a0 : MKeys) : Prop := MKeys.Sm (2 ^ 36) a0
def acc (ls : List L) : RKeys := (RKeys.dec ls)
def R : RKeys → Option RKeys := RR gd md
theorem R_eq {a0} (h : gd a0) : R (MKeys.r a0) = some (MKeys.r (md a0)) := RR_eq (a := a0) h
def con : Con := CN pats res acc R
theorem okF (a0 : MKeys) (hg : gd a0) : F (MKeys.r a0) = ret ((MKeys.r (md a0)) : RKeys) := by
 unfold md
 show (call (Z20.R (a0.fList.map iRow)) fun v1 => ret ((⟨v1, a0.fNeed⟩ : RKeys) : RKeys)) = _
 rw [call_eq (Z20.R_eq hg)]
 rfl
theorem valid_ : Valid Try.prog Ev 160 con := VV (live := fun _ => []) (nt := 12) (run := fun _ x => F x) mix tab_ok (.cons Z20.valid_ .nil) Try.func160 (by kernel_rfl) (fun _ _ => by kernel_rfl) (fun _ a _ _ hg => ⟨0, okF a hg⟩)
end Z21
namespace Z22
def F (x0 : RHead) : Ans := (call (Z21.R x0.fKeys) fun v1 => (call (Z21.R x0.fHeirs) fun v2 => (call (Z21.R x0.fJudge) fun v3 => ret ((⟨x0.fZone, x0.fEpoch, x0.fKind, x0.fTime, x0.fUntil, x0.fCount, x0.fRoot, x0.fPrev, v1, v2, x0.fWait, v3, x0.fFrozen⟩ : RHead) : RHead))))
def pats : List Pat := [.agg [.int .i64, .int .i64, .int .i64, .int .i64, .int .i64, .int .i64, .int .i64, .int .i64, .sl 3, .int .i64, .sl 3, .int .i64, .int .i64, .sl 3, .int .i64, .bool]]
def res : RP := .agg [.rd (.int .i64), .rd (.int .i64), .rd (.int .i64), .rd (.int .i64), .rd (.int .i64), .rd (.int .i64), .rd (.int .i64), .rd (.int .i64), .fr 3, .rd (.int .i64), .fr 3, .rd (.int .i64), .rd (.int .i64), .fr 3, .rd (.int .i64), .rd (.bool)]
def md (a0 : MHead) : MHead := a0
def gd (a0 : MHead) : Prop := MHead.Sm (2 ^ 36) a0
def acc (ls : List L) : RHead := (RHead.dec ls)
def R : RHead → Option RHead := RR gd md
theorem R_eq {a0} (h : gd a0) : R (MHead.r a0) = some (MHead.r (md a0)) := RR_eq (a := a0) h
def con : Con := CN pats res acc R
theorem okF (a0 : MHead) (hg : gd a0) : F (MHead.r a0) = ret ((MHead.r (md a0)) : RHead) := by
 unfold md
 show (call (Z21.R (MKeys.r a0.fKeys)) fun v1 => (call (Z21.R (MKeys.r a0.fHeirs)) fun v2 => (call (Z21.R (MKeys.r a0.fJudge)) fun v3 => ret ((⟨a0.fZone, a0.fEpoch, a0.fKind, a0.fTime, a0.fUntil, a0.fCount, a0.fRoot, a0.fPrev, v1, v2, a0.fWait, v3, a0.fFrozen⟩ : RHead) : RHead)))) = _
 rw [call_eq (Z21.R_eq hg.1)]
 rw [call_eq (Z21.R_eq hg.2.1)]
 rw [call_eq (Z21.R_eq hg.2.2)]
 rfl
theorem valid_ : Valid Try.prog Ev 155 con := VV (live := fun _ => []) (nt := 47) (run := fun _ x => F x) mix tab_ok (.cons Z21.valid_ .nil) Try.func155 (by kernel_rfl) (fun _ _ => by kernel_rfl) (fun _ a _ _ hg => ⟨0, okF a hg⟩)
end Z22
namespace Z23
def F (x0 : MSig) : Ans := ret (x0 : MSig)
def pats : List Pat := [.agg [.int .i64, .int .i64]]
def res : RP := .agg [.rd (.int .i64), .rd (.int .i64)]
def md (a0 : MSig) : MSig := a0
def gd (a0 : MSig) : Prop := MSig.Sm (2 ^ 36) a0
def acc (ls : List L) : MSig := (MSig.dec ls)
def R : MSig → Option MSig := RR gd md
theorem R_eq {a0} (h : gd a0) : R a0 = some (md a0) := RR_eq (a := a0) h
def con : Con := CN pats res acc R
theorem okF (a0 : MSig) (hg : gd a0) : F a0 = ret ((md a0) : MSig) := by
 rfl
theorem valid_ : Valid Try.prog Ev 161 con := VV (live := fun _ => []) (nt := 11) (run := fun _ x => F x) mix tab_ok .nil Try.func161 (by kernel_rfl) (fun _ _ => by kernel_rfl) (fun _ a _ _ hg => ⟨0, okF a hg⟩)
end Z23
namespace Z24
inductive Pt where
 | p0 (a : List (List L)) (b : Int) (c : List (List L))
def pid : Pt → Nat
 | .p0 .. => 3
def pvs : Pt → List V
 | .p0 a b c => [.sl none 198 a, .own 0, .int .i64 b]
def phs : Pt → List Root
 | .p0 a b c => [.row 169 c]
def step (J : Pt → Ans) : Pt → Ans
 | .p0 a b c => (bif (decide (b < (a.length : Int))) then (bif (decide ((0 : Int) ≤ b)) then (bif (decide (b < (a.length : Int))) then (call (Z23.R (MSig.at a (Int.toNat b))) fun v1 => (bif (decide ((0 : Int) ≤ b)) then (bif (decide (b < (c.length : Int))) then J (.p0 a (IntKind.i64.wrap (b + 1)) (List.set c (Int.toNat b) (MSig.enc v1))) else none) else none)) else none) else none) else ret (c : List (List L)))
def start (J : Pt → Ans) (x0 : List (List L)) : Ans := (bif (decide ((0 : Int) ≤ (x0.length : Int))) then (bif (decide ((x0.length : Int) ≤ (x0.length : Int))) then (bif (decide ((x0.length : Int) * 16 ≤ 140737488355328)) then J (.p0 x0 0 (List.replicate (Int.toNat (x0.length : Int)) [L.int 0, L.int 0])) else none) else none) else none)
def live : Nat → Live := fun i => match i with | 3 => [(0, none), (3, none), (4, none)] | _ => []
def pats : List Pat := [.rd (.sl 198)]
def res : RP := .one (.fr 169)
abbrev E : Env := { T := assoc Tab, G := conG [(161, Z23.con)], nt := 23 }
theorem step_eq (I : Heads) (p : Pt) : enterC E live I (pid p) (bodyOf Try.f156) (stOf (live (pid p)) (pvs p) (phs p)) (doneK E Try.f156 res) = step (fun q => I (pid q) (pvs q) (phs q)) p := by
 cases p <;> kernel_rfl
theorem start_eq (I : Heads) (ls : List L) : runC E live I (bodyOf Try.f156) (initS pats ls) (doneK E Try.f156 res) = start (fun q => I (pid q) (pvs q) (phs q)) (ls.headD .hole).toSl := by kernel_rfl
theorem run_eq (n : Nat) (ls : List L) : runF E live Try.f156 res n (initS pats ls) = start (iter step n) (ls.headD .hole).toSl := runF_iter (id := pid) (vs := pvs) (hs := phs) (step := step) (start := fun J => start J (ls.headD .hole).toSl) step_eq (fun I => start_eq I ls) n
def md (a0 : List MSig) : List MSig := a0
def gd (a0 : List MSig) : Prop := SmL (2 ^ 36) (fun y : MSig => MSig.Sm (2 ^ 36) y) a0
def acc (ls : List L) : List (List L) := (ls.headD .hole).toSl
def R : (List (List L)) → Option (List (List L)) := RR gd md
theorem R_eq {a0} (h : gd a0) : R (a0.map MSig.row) = some ((md a0).map MSig.row) := RR_eq (a := a0) h
def con : Con := CN pats res acc R
theorem okF (a0 : List MSig) (hg : gd a0) : ∃ n, start (iter step n) (a0.map MSig.row) = ret (((md a0).map MSig.row) : List (List L)) := by
  unfold start md
  simp only [List.length_map]
  refine to_list (b := 16) (pt := fun i c => Pt.p0 (a0.map MSig.row) (i : Int) c) (by have := hg.1; simp at this; omega) (fun J i h c hc => ?_) (fun J c => ?_)
  · simp only [step, List.length_map, lt_dec h, zle_dec, cond_true, toNat_nat, MSig.at_row h, hc]
    rw [call_eq (Z23.R_eq (hg.get h))]
    try simp only [hc, lt_dec h, cond_true]
    rw [wrap_succ (n := a0.length) h (by have := hg.1; simp only [maxLen]; simp at this; omega)]
    rfl
  · simp only [step, List.length_map, nlt_dec, cond_false]
theorem valid_ : Valid Try.prog Ev 156 con := VV (run := fun n x => start (iter step n) x) mix tab_ok (.cons Z23.valid_ .nil) Try.func156 (by kernel_rfl) run_eq (fun _ a _ _ hg => okF a hg)
end Z24
namespace Z25
def F (x0 : RSigned) : Ans := (call (Z22.R x0.fHead) fun v1 => (call (Z24.R x0.fSigs) fun v2 => ret ((⟨v1, v2⟩ : RSigned) : RSigned)))
def pats : List Pat := [.agg [.int .i64, .int .i64, .int .i64, .int .i64, .int .i64, .int .i64, .int .i64, .int .i64, .sl 3, .int .i64, .sl 3, .int .i64, .int .i64, .sl 3, .int .i64, .bool, .sl 198]]
def res : RP := .agg [.rd (.int .i64), .rd (.int .i64), .rd (.int .i64), .rd (.int .i64), .rd (.int .i64), .rd (.int .i64), .rd (.int .i64), .rd (.int .i64), .fr 3, .rd (.int .i64), .fr 3, .rd (.int .i64), .rd (.int .i64), .fr 3, .rd (.int .i64), .rd (.bool), .fr 169]
def md (a0 : MSigned) : MSigned := a0
def gd (a0 : MSigned) : Prop := MSigned.Sm (2 ^ 36) a0
def acc (ls : List L) : RSigned := (RSigned.dec ls)
def R : RSigned → Option RSigned := RR gd md
theorem R_eq {a0} (h : gd a0) : R (MSigned.r a0) = some (MSigned.r (md a0)) := RR_eq (a := a0) h
def con : Con := CN pats res acc R
theorem okF (a0 : MSigned) (hg : gd a0) : F (MSigned.r a0) = ret ((MSigned.r (md a0)) : RSigned) := by
 unfold md
 show (call (Z22.R (MHead.r a0.fHead)) fun v1 => (call (Z24.R (a0.fSigs.map MSig.row)) fun v2 => ret ((⟨v1, v2⟩ : RSigned) : RSigned))) = _
 rw [call_eq (Z22.R_eq hg.1)]
 rw [call_eq (Z24.R_eq hg.2)]
 rfl
theorem valid_ : Valid Try.prog Ev 151 con := VV (live := fun _ => []) (nt := 13) (run := fun _ x => F x) mix tab_ok (.cons Z22.valid_ (.cons Z24.valid_ .nil)) Try.func151 (by kernel_rfl) (fun _ _ => by kernel_rfl) (fun _ a _ _ hg => ⟨0, okF a hg⟩)
end Z25
namespace Z26
inductive Pt where
 | p0 (a : List (List L)) (b : Int) (c : List (List L))
def pid : Pt → Nat
 | .p0 .. => 3
def pvs : Pt → List V
 | .p0 a b c => [.sl none 179 a, .own 0, .int .i64 b]
def phs : Pt → List Root
 | .p0 a b c => [.row 156 c]
def step (J : Pt → Ans) : Pt → Ans
 | .p0 a b c => (bif (decide (b < (a.length : Int))) then (bif (decide ((0 : Int) ≤ b)) then (bif (decide (b < (a.length : Int))) then (call (Z25.R (RSigned.at a (Int.toNat b))) fun v1 => (bif (decide ((0 : Int) ≤ b)) then (bif (decide (b < (c.length : Int))) then J (.p0 a (IntKind.i64.wrap (b + 1)) (List.set c (Int.toNat b) (RSigned.enc v1))) else none) else none)) else none) else none) else ret (c : List (List L)))
def start (J : Pt → Ans) (x0 : List (List L)) : Ans := (bif (decide ((0 : Int) ≤ (x0.length : Int))) then (bif (decide ((x0.length : Int) ≤ (x0.length : Int))) then (bif (decide ((x0.length : Int) * 200 ≤ 140737488355328)) then J (.p0 x0 0 (List.replicate (Int.toNat (x0.length : Int)) [L.int 0, L.int 0, L.int 0, L.int 0, L.int 0, L.int 0, L.int 0, L.int 0, L.sl [], L.int 0, L.sl [], L.int 0, L.int 0, L.sl [], L.int 0, L.bool false, L.sl []])) else none) else none) else none)
def live : Nat → Live := fun i => match i with | 3 => [(0, none), (3, none), (4, none)] | _ => []
def pats : List Pat := [.rd (.sl 179)]
def res : RP := .one (.fr 156)
abbrev E : Env := { T := assoc Tab, G := conG [(151, Z25.con)], nt := 23 }
theorem step_eq (I : Heads) (p : Pt) : enterC E live I (pid p) (bodyOf Try.f145) (stOf (live (pid p)) (pvs p) (phs p)) (doneK E Try.f145 res) = step (fun q => I (pid q) (pvs q) (phs q)) p := by
 cases p <;> kernel_rfl
theorem start_eq (I : Heads) (ls : List L) : runC E live I (bodyOf Try.f145) (initS pats ls) (doneK E Try.f145 res) = start (fun q => I (pid q) (pvs q) (phs q)) (ls.headD .hole).toSl := by kernel_rfl
theorem run_eq (n : Nat) (ls : List L) : runF E live Try.f145 res n (initS pats ls) = start (iter step n) (ls.headD .hole).toSl := runF_iter (id := pid) (vs := pvs) (hs := phs) (step := step) (start := fun J => start J (ls.headD .hole).toSl) step_eq (fun I => start_eq I ls) n
def md (a0 : List MSigned) : List MSigned := a0
def gd (a0 : List MSigned) : Prop := SmL (2 ^ 36) (fun y : MSigned => MSigned.Sm (2 ^ 36) y) a0
def acc (ls : List L) : List (List L) := (ls.headD .hole).toSl
def R : (List (List L)) → Option (List (List L)) := RR gd md
theorem R_eq {a0} (h : gd a0) : R (a0.map MSigned.row) = some ((md a0).map MSigned.row) := RR_eq (a := a0) h
def con : Con := CN pats res acc R
theorem okF (a0 : List MSigned) (hg : gd a0) : ∃ n, start (iter step n) (a0.map MSigned.row) = ret (((md a0).map MSigned.row) : List (List L)) := by
  unfold start md
  simp only [List.length_map]
  refine to_list (b := 200) (pt := fun i c => Pt.p0 (a0.map MSigned.row) (i : Int) c) (by have := hg.1; simp at this; omega) (fun J i h c hc => ?_) (fun J c => ?_)
  · simp only [step, List.length_map, lt_dec h, zle_dec, cond_true, toNat_nat, MSigned.at_row h, hc]
    rw [call_eq (Z25.R_eq (hg.get h))]
    try simp only [hc, lt_dec h, cond_true]
    rw [wrap_succ (n := a0.length) h (by have := hg.1; simp only [maxLen]; simp at this; omega)]
    rfl
  · simp only [step, List.length_map, nlt_dec, cond_false]
theorem valid_ : Valid Try.prog Ev 145 con := VV (run := fun n x => start (iter step n) x) mix tab_ok (.cons Z25.valid_ .nil) Try.func145 (by kernel_rfl) run_eq (fun _ a _ _ hg => okF a hg)
end Z26
namespace Z27
inductive Pt where
 | p0 (a : List (List L)) (b : Int) (c : List (List L))
def pid : Pt → Nat
 | .p0 .. => 3
def pvs : Pt → List V
 | .p0 a b c => [.sl none 172 a, .own 0, .int .i64 b]
def phs : Pt → List Root
 | .p0 a b c => [.row 149 c]
def step (J : Pt → Ans) : Pt → Ans
 | .p0 a b c => (bif (decide (b < (a.length : Int))) then (bif (decide ((0 : Int) ≤ b)) then (bif (decide (b < (a.length : Int))) then (call (Z26.R (lAt a (Int.toNat b))) fun v1 => (bif (decide ((0 : Int) ≤ b)) then (bif (decide (b < (c.length : Int))) then J (.p0 a (IntKind.i64.wrap (b + 1)) (List.set c (Int.toNat b) [L.sl v1])) else none) else none)) else none) else none) else ret (c : List (List L)))
def start (J : Pt → Ans) (x0 : List (List L)) : Ans := (bif (decide ((0 : Int) ≤ (x0.length : Int))) then (bif (decide ((x0.length : Int) ≤ (x0.length : Int))) then (bif (decide ((x0.length : Int) * 24 ≤ 140737488355328)) then J (.p0 x0 0 (List.replicate (Int.toNat (x0.length : Int)) [L.sl []])) else none) else none) else none)
def live : Nat → Live := fun i => match i with | 3 => [(0, none), (3, none), (4, none)] | _ => []
def pats : List Pat := [.rd (.sl 172)]
def res : RP := .one (.fr 149)
abbrev E : Env := { T := assoc Tab, G := conG [(145, Z26.con)], nt := 23 }
theorem step_eq (I : Heads) (p : Pt) : enterC E live I (pid p) (bodyOf Try.f137) (stOf (live (pid p)) (pvs p) (phs p)) (doneK E Try.f137 res) = step (fun q => I (pid q) (pvs q) (phs q)) p := by
 cases p <;> kernel_rfl
theorem start_eq (I : Heads) (ls : List L) : runC E live I (bodyOf Try.f137) (initS pats ls) (doneK E Try.f137 res) = start (fun q => I (pid q) (pvs q) (phs q)) (ls.headD .hole).toSl := by kernel_rfl
theorem run_eq (n : Nat) (ls : List L) : runF E live Try.f137 res n (initS pats ls) = start (iter step n) (ls.headD .hole).toSl := runF_iter (id := pid) (vs := pvs) (hs := phs) (step := step) (start := fun J => start J (ls.headD .hole).toSl) step_eq (fun I => start_eq I ls) n
def md (a0 : List (List MSigned)) : List (List MSigned) := a0
def gd (a0 : List (List MSigned)) : Prop := SmL (2 ^ 36) (fun y : List MSigned => SmL (2 ^ 36) (fun y : MSigned => MSigned.Sm (2 ^ 36) y) y) a0
def acc (ls : List L) : List (List L) := (ls.headD .hole).toSl
def R : (List (List L)) → Option (List (List L)) := RR gd md
theorem R_eq {a0} (h : gd a0) : R (a0.map (lRow MSigned.row)) = some ((md a0).map (lRow MSigned.row)) := RR_eq (a := a0) h
def con : Con := CN pats res acc R
theorem okF (a0 : List (List MSigned)) (hg : gd a0) : ∃ n, start (iter step n) (a0.map (lRow MSigned.row)) = ret (((md a0).map (lRow MSigned.row)) : List (List L)) := by
  unfold start md
  simp only [List.length_map]
  refine to_list (b := 24) (pt := fun i c => Pt.p0 (a0.map (lRow MSigned.row)) (i : Int) c) (by have := hg.1; simp at this; omega) (fun J i h c hc => ?_) (fun J c => ?_)
  · simp only [step, List.length_map, lt_dec h, zle_dec, cond_true, toNat_nat, lAt_row h, hc]
    rw [call_eq (Z26.R_eq (hg.get h))]
    try simp only [hc, lt_dec h, cond_true]
    rw [wrap_succ (n := a0.length) h (by have := hg.1; simp only [maxLen]; simp at this; omega)]
    rfl
  · simp only [step, List.length_map, nlt_dec, cond_false]
theorem valid_ : Valid Try.prog Ev 137 con := VV (run := fun n x => start (iter step n) x) mix tab_ok (.cons Z26.valid_ .nil) Try.func137 (by kernel_rfl) run_eq (fun _ a _ _ hg => okF a hg)
end Z27
namespace Z28
def F (x0 : RFork) : Ans := (call (Z25.R x0.fBefore) fun v1 => (call (Z25.R x0.fA) fun v2 => (call (Z25.R x0.fB) fun v3 => ret ((⟨v1, v2, v3⟩ : RFork) : RFork))))
def pats : List Pat := [.agg [.int .i64, .int .i64, .int .i64, .int .i64, .int .i64, .int .i64, .int .i64, .int .i64, .sl 3, .int .i64, .sl 3, .int .i64, .int .i64, .sl 3, .int .i64, .bool, .sl 198, .int .i64, .int .i64, .int .i64, .int .i64, .int .i64, .int .i64, .int .i64, .int .i64, .sl 3, .int .i64, .sl 3, .int .i64, .int .i64, .sl 3, .int .i64, .bool, .sl 198, .int .i64, .int .i64, .int .i64, .int .i64, .int .i64, .int .i64, .int .i64, .int .i64, .sl 3, .int .i64, .sl 3, .int .i64, .int .i64, .sl 3, .int .i64, .bool, .sl 198]]
def res : RP := .agg [.rd (.int .i64), .rd (.int .i64), .rd (.int .i64), .rd (.int .i64), .rd (.int .i64), .rd (.int .i64), .rd (.int .i64), .rd (.int .i64), .fr 3, .rd (.int .i64), .fr 3, .rd (.int .i64), .rd (.int .i64), .fr 3, .rd (.int .i64), .rd (.bool), .fr 169, .rd (.int .i64), .rd (.int .i64), .rd (.int .i64), .rd (.int .i64), .rd (.int .i64), .rd (.int .i64), .rd (.int .i64), .rd (.int .i64), .fr 3, .rd (.int .i64), .fr 3, .rd (.int .i64), .rd (.int .i64), .fr 3, .rd (.int .i64), .rd (.bool), .fr 169, .rd (.int .i64), .rd (.int .i64), .rd (.int .i64), .rd (.int .i64), .rd (.int .i64), .rd (.int .i64), .rd (.int .i64), .rd (.int .i64), .fr 3, .rd (.int .i64), .fr 3, .rd (.int .i64), .rd (.int .i64), .fr 3, .rd (.int .i64), .rd (.bool), .fr 169]
def md (a0 : MFork) : MFork := a0
def gd (a0 : MFork) : Prop := MFork.Sm (2 ^ 36) a0
def acc (ls : List L) : RFork := (RFork.dec ls)
def R : RFork → Option RFork := RR gd md
theorem R_eq {a0} (h : gd a0) : R (MFork.r a0) = some (MFork.r (md a0)) := RR_eq (a := a0) h
def con : Con := CN pats res acc R
theorem okF (a0 : MFork) (hg : gd a0) : F (MFork.r a0) = ret ((MFork.r (md a0)) : RFork) := by
 unfold md
 show (call (Z25.R (MSigned.r a0.fBefore)) fun v1 => (call (Z25.R (MSigned.r a0.fA)) fun v2 => (call (Z25.R (MSigned.r a0.fB)) fun v3 => ret ((⟨v1, v2, v3⟩ : RFork) : RFork)))) = _
 rw [call_eq (Z25.R_eq hg.1)]
 rw [call_eq (Z25.R_eq hg.2.1)]
 rw [call_eq (Z25.R_eq hg.2.2)]
 rfl
theorem valid_ : Valid Try.prog Ev 146 con := VV (live := fun _ => []) (nt := 17) (run := fun _ x => F x) mix tab_ok (.cons Z25.valid_ .nil) Try.func146 (by kernel_rfl) (fun _ _ => by kernel_rfl) (fun _ a _ _ hg => ⟨0, okF a hg⟩)
end Z28
namespace Z29
inductive Pt where
 | p0 (a : List (List L)) (b : Int) (c : List (List L))
def pid : Pt → Nat
 | .p0 .. => 3
def pvs : Pt → List V
 | .p0 a b c => [.sl none 181 a, .own 0, .int .i64 b]
def phs : Pt → List Root
 | .p0 a b c => [.row 158 c]
def step (J : Pt → Ans) : Pt → Ans
 | .p0 a b c => (bif (decide (b < (a.length : Int))) then (bif (decide ((0 : Int) ≤ b)) then (bif (decide (b < (a.length : Int))) then (call (Z28.R (RFork.at a (Int.toNat b))) fun v1 => (bif (decide ((0 : Int) ≤ b)) then (bif (decide (b < (c.length : Int))) then J (.p0 a (IntKind.i64.wrap (b + 1)) (List.set c (Int.toNat b) (RFork.enc v1))) else none) else none)) else none) else none) else ret (c : List (List L)))
def start (J : Pt → Ans) (x0 : List (List L)) : Ans := (bif (decide ((0 : Int) ≤ (x0.length : Int))) then (bif (decide ((x0.length : Int) ≤ (x0.length : Int))) then (bif (decide ((x0.length : Int) * 600 ≤ 140737488355328)) then J (.p0 x0 0 (List.replicate (Int.toNat (x0.length : Int)) [L.int 0, L.int 0, L.int 0, L.int 0, L.int 0, L.int 0, L.int 0, L.int 0, L.sl [], L.int 0, L.sl [], L.int 0, L.int 0, L.sl [], L.int 0, L.bool false, L.sl [], L.int 0, L.int 0, L.int 0, L.int 0, L.int 0, L.int 0, L.int 0, L.int 0, L.sl [], L.int 0, L.sl [], L.int 0, L.int 0, L.sl [], L.int 0, L.bool false, L.sl [], L.int 0, L.int 0, L.int 0, L.int 0, L.int 0, L.int 0, L.int 0, L.int 0, L.sl [], L.int 0, L.sl [], L.int 0, L.int 0, L.sl [], L.int 0, L.bool false, L.sl []])) else none) else none) else none)
def live : Nat → Live := fun i => match i with | 3 => [(0, none), (3, none), (4, none)] | _ => []
def pats : List Pat := [.rd (.sl 181)]
def res : RP := .one (.fr 158)
abbrev E : Env := { T := assoc Tab, G := conG [(146, Z28.con)], nt := 23 }
theorem step_eq (I : Heads) (p : Pt) : enterC E live I (pid p) (bodyOf Try.f138) (stOf (live (pid p)) (pvs p) (phs p)) (doneK E Try.f138 res) = step (fun q => I (pid q) (pvs q) (phs q)) p := by
 cases p <;> kernel_rfl
theorem start_eq (I : Heads) (ls : List L) : runC E live I (bodyOf Try.f138) (initS pats ls) (doneK E Try.f138 res) = start (fun q => I (pid q) (pvs q) (phs q)) (ls.headD .hole).toSl := by kernel_rfl
theorem run_eq (n : Nat) (ls : List L) : runF E live Try.f138 res n (initS pats ls) = start (iter step n) (ls.headD .hole).toSl := runF_iter (id := pid) (vs := pvs) (hs := phs) (step := step) (start := fun J => start J (ls.headD .hole).toSl) step_eq (fun I => start_eq I ls) n
def md (a0 : List MFork) : List MFork := a0
def gd (a0 : List MFork) : Prop := SmL (2 ^ 36) (fun y : MFork => MFork.Sm (2 ^ 36) y) a0
def acc (ls : List L) : List (List L) := (ls.headD .hole).toSl
def R : (List (List L)) → Option (List (List L)) := RR gd md
theorem R_eq {a0} (h : gd a0) : R (a0.map MFork.row) = some ((md a0).map MFork.row) := RR_eq (a := a0) h
def con : Con := CN pats res acc R
theorem okF (a0 : List MFork) (hg : gd a0) : ∃ n, start (iter step n) (a0.map MFork.row) = ret (((md a0).map MFork.row) : List (List L)) := by
  unfold start md
  simp only [List.length_map]
  refine to_list (b := 600) (pt := fun i c => Pt.p0 (a0.map MFork.row) (i : Int) c) (by have := hg.1; simp at this; omega) (fun J i h c hc => ?_) (fun J c => ?_)
  · simp only [step, List.length_map, lt_dec h, zle_dec, cond_true, toNat_nat, MFork.at_row h, hc]
    rw [call_eq (Z28.R_eq (hg.get h))]
    try simp only [hc, lt_dec h, cond_true]
    rw [wrap_succ (n := a0.length) h (by have := hg.1; simp only [maxLen]; simp at this; omega)]
    rfl
  · simp only [step, List.length_map, nlt_dec, cond_false]
theorem valid_ : Valid Try.prog Ev 138 con := VV (run := fun n x => start (iter step n) x) mix tab_ok (.cons Z28.valid_ .nil) Try.func138 (by kernel_rfl) run_eq (fun _ a _ _ hg => okF a hg)
end Z29
namespace Z30
def F (x0 : RKnown) : Ans := (call (Z27.R x0.fChains) fun v1 => (call (Z29.R x0.fForks) fun v2 => ret ((⟨v1, v2⟩ : RKnown) : RKnown)))
def pats : List Pat := [.agg [.sl 172, .sl 181]]
def res : RP := .agg [.fr 149, .fr 158]
def md (a0 : MKnown) : MKnown := a0
def gd (a0 : MKnown) : Prop := MKnown.Sm (2 ^ 36) a0
def acc (ls : List L) : RKnown := (RKnown.dec ls)
def R : RKnown → Option RKnown := RR gd md
theorem R_eq {a0} (h : gd a0) : R (MKnown.r a0) = some (MKnown.r (md a0)) := RR_eq (a := a0) h
def con : Con := CN pats res acc R
theorem okF (a0 : MKnown) (hg : gd a0) : F (MKnown.r a0) = ret ((MKnown.r (md a0)) : RKnown) := by
 unfold md
 show (call (Z27.R (a0.fChains.map (lRow MSigned.row))) fun v1 => (call (Z29.R (a0.fForks.map MFork.row)) fun v2 => ret ((⟨v1, v2⟩ : RKnown) : RKnown))) = _
 rw [call_eq (Z27.R_eq hg.1)]
 rw [call_eq (Z29.R_eq hg.2)]
 rfl
theorem valid_ : Valid Try.prog Ev 124 con := VV (live := fun _ => []) (nt := 13) (run := fun _ x => F x) mix tab_ok (.cons Z27.valid_ (.cons Z29.valid_ .nil)) Try.func124 (by kernel_rfl) (fun _ _ => by kernel_rfl) (fun _ a _ _ hg => ⟨0, okF a hg⟩)
end Z30
namespace Z31
def F (x0 : RTrace) : Ans := (call (Z30.R x0.fKnown) fun v1 => (call (Z17.R x0.fEntry) fun v2 => (call (Z20.R x0.fZones) fun v3 => ret ((⟨v1, x0.fCode, v2, v3, x0.fMoves⟩ : RTrace) : RTrace))))
def pats : List Pat := [.agg [.sl 172, .sl 181, .int .i64, .str, .int .i64, .int .i64, .sl 9, .sl 3, .int .i64]]
def res : RP := .agg [.fr 149, .fr 158, .rd (.int .i64), .rd (.str), .rd (.int .i64), .rd (.int .i64), .fr 9, .fr 3, .rd (.int .i64)]
def md (a0 : MTrace) : MTrace := a0
def gd (a0 : MTrace) : Prop := MTrace.Sm (2 ^ 36) a0
def acc (ls : List L) : RTrace := (RTrace.dec ls)
def R : RTrace → Option RTrace := RR gd md
theorem R_eq {a0} (h : gd a0) : R (MTrace.r a0) = some (MTrace.r (md a0)) := RR_eq (a := a0) h
def con : Con := CN pats res acc R
theorem okF (a0 : MTrace) (hg : gd a0) : F (MTrace.r a0) = ret ((MTrace.r (md a0)) : RTrace) := by
 unfold md
 show (call (Z30.R (MKnown.r a0.fKnown)) fun v1 => (call (Z17.R (MEntry.r a0.fEntry)) fun v2 => (call (Z20.R (a0.fZones.map iRow)) fun v3 => ret ((⟨v1, a0.fCode, v2, v3, a0.fMoves⟩ : RTrace) : RTrace)))) = _
 rw [call_eq (Z30.R_eq hg.1)]
 rw [call_eq (Z17.R_eq hg.2.1)]
 rw [call_eq (Z20.R_eq hg.2.2)]
 rfl
theorem valid_ : Valid Try.prog Ev 91 con := VV (live := fun _ => []) (nt := 23) (run := fun _ x => F x) mix tab_ok (.cons Z30.valid_ (.cons Z17.valid_ (.cons Z20.valid_ .nil))) Try.func91 (by kernel_rfl) (fun _ _ => by kernel_rfl) (fun _ a _ _ hg => ⟨0, okF a hg⟩)
end Z31
namespace Z32
inductive Pt where
 | p0 (a : List (List L)) (b : Int) (c : List (List L))
def pid : Pt → Nat
 | .p0 .. => 3
def pvs : Pt → List V
 | .p0 a b c => [.sl none 118 a, .own 0, .int .i64 b]
def phs : Pt → List Root
 | .p0 a b c => [.row 124 c]
def step (J : Pt → Ans) : Pt → Ans
 | .p0 a b c => (bif (decide (b < (a.length : Int))) then (bif (decide ((0 : Int) ≤ b)) then (bif (decide (b < (a.length : Int))) then (call (Z31.R (RTrace.at a (Int.toNat b))) fun v1 => (bif (decide ((0 : Int) ≤ b)) then (bif (decide (b < (c.length : Int))) then J (.p0 a (IntKind.i64.wrap (b + 1)) (List.set c (Int.toNat b) (RTrace.enc v1))) else none) else none)) else none) else none) else ret (c : List (List L)))
def start (J : Pt → Ans) (x0 : List (List L)) : Ans := (bif (decide ((0 : Int) ≤ (x0.length : Int))) then (bif (decide ((x0.length : Int) ≤ (x0.length : Int))) then (bif (decide ((x0.length : Int) * 144 ≤ 140737488355328)) then J (.p0 x0 0 (List.replicate (Int.toNat (x0.length : Int)) [L.sl [], L.sl [], L.int 0, L.str ⟨#[]⟩, L.int 0, L.int 0, L.sl [], L.sl [], L.int 0])) else none) else none) else none)
def live : Nat → Live := fun i => match i with | 3 => [(0, none), (3, none), (4, none)] | _ => []
def pats : List Pat := [.rd (.sl 118)]
def res : RP := .one (.fr 124)
abbrev E : Env := { T := assoc Tab, G := conG [(91, Z31.con)], nt := 23 }
theorem step_eq (I : Heads) (p : Pt) : enterC E live I (pid p) (bodyOf Try.f39) (stOf (live (pid p)) (pvs p) (phs p)) (doneK E Try.f39 res) = step (fun q => I (pid q) (pvs q) (phs q)) p := by
 cases p <;> kernel_rfl
theorem start_eq (I : Heads) (ls : List L) : runC E live I (bodyOf Try.f39) (initS pats ls) (doneK E Try.f39 res) = start (fun q => I (pid q) (pvs q) (phs q)) (ls.headD .hole).toSl := by kernel_rfl
theorem run_eq (n : Nat) (ls : List L) : runF E live Try.f39 res n (initS pats ls) = start (iter step n) (ls.headD .hole).toSl := runF_iter (id := pid) (vs := pvs) (hs := phs) (step := step) (start := fun J => start J (ls.headD .hole).toSl) step_eq (fun I => start_eq I ls) n
def md (a0 : List MTrace) : List MTrace := a0
def gd (a0 : List MTrace) : Prop := SmL (2 ^ 36) (fun y : MTrace => MTrace.Sm (2 ^ 36) y) a0
def acc (ls : List L) : List (List L) := (ls.headD .hole).toSl
def R : (List (List L)) → Option (List (List L)) := RR gd md
theorem R_eq {a0} (h : gd a0) : R (a0.map MTrace.row) = some ((md a0).map MTrace.row) := RR_eq (a := a0) h
def con : Con := CN pats res acc R
theorem okF (a0 : List MTrace) (hg : gd a0) : ∃ n, start (iter step n) (a0.map MTrace.row) = ret (((md a0).map MTrace.row) : List (List L)) := by
  unfold start md
  simp only [List.length_map]
  refine to_list (b := 144) (pt := fun i c => Pt.p0 (a0.map MTrace.row) (i : Int) c) (by have := hg.1; simp at this; omega) (fun J i h c hc => ?_) (fun J c => ?_)
  · simp only [step, List.length_map, lt_dec h, zle_dec, cond_true, toNat_nat, MTrace.at_row h, hc]
    rw [call_eq (Z31.R_eq (hg.get h))]
    try simp only [hc, lt_dec h, cond_true]
    rw [wrap_succ (n := a0.length) h (by have := hg.1; simp only [maxLen]; simp at this; omega)]
    rfl
  · simp only [step, List.length_map, nlt_dec, cond_false]
theorem valid_ : Valid Try.prog Ev 39 con := VV (run := fun n x => start (iter step n) x) mix tab_ok (.cons Z31.valid_ .nil) Try.func39 (by kernel_rfl) run_eq (fun _ a _ _ hg => okF a hg)
end Z32
namespace Z33
def F (x0 : RTrace) : Ans := (bif (x0.fCode == 3) then ret (true : Bool) else (bif (x0.fCode == 5) then ret (true : Bool) else ret ((x0.fCode == 6) : Bool)))
def pats : List Pat := [.agg [.sl 149, .sl 158, .int .i64, .str, .int .i64, .int .i64, .sl 9, .sl 3, .int .i64]]
def res : RP := .one (.rd (.bool))
def md (a0 : MTrace) : Bool := (bif (a0.fCode == 3) then (true : Bool) else (bif (a0.fCode == 5) then (true : Bool) else ((a0.fCode == 6) : Bool)))
def gd (a0 : MTrace) : Prop := True
def acc (ls : List L) : RTrace := (RTrace.dec ls)
def R : RTrace → Option Bool := RR gd md
theorem R_eq {a0} (h : gd a0) : R (MTrace.r a0) = some (md a0) := RR_eq (a := a0) h
def con : Con := CN pats res acc R
theorem okF (a0 : MTrace) (hg : gd a0) : F (MTrace.r a0) = ret ((md a0) : Bool) := by
 unfold F md
 try simp only [S0, MTrace.rs]
 refine bif_out ret (fun _ => rfl) (fun c1 => ?_)
 refine bif_out ret (fun _ => rfl) (fun c2 => ?_)
 all_goals first | rfl | (simp only [S0, MTrace.rs, MP]; first | done | rfl)
theorem valid_ : Valid Try.prog Ev 93 con := VV (live := fun _ => []) (nt := 16) (run := fun _ x => F x) mix tab_ok .nil Try.func93 (by kernel_rfl) (fun _ _ => by kernel_rfl) (fun _ a _ _ hg => ⟨0, okF a hg⟩)
end Z33
namespace Z34
inductive Pt where
 | p0 (a : List (List L)) (b : List (List L)) (c : Int)
def pid : Pt → Nat
 | .p0 .. => 4
def pvs : Pt → List V
 | .p0 a b c => [.sl none 9 a, .sl none 9 b, .int .i64 c]
def phs : Pt → List Root
 | .p0 a b c => []
def step (J : Pt → Ans) : Pt → Ans
 | .p0 a b c => (bif (decide (c < (a.length : Int))) then (bif (decide ((0 : Int) ≤ c)) then (bif (decide (c < (a.length : Int))) then (bif (decide ((0 : Int) ≤ c)) then (bif (decide (c < (b.length : Int))) then (bif (!((sAt a (Int.toNat c)) == (sAt b (Int.toNat c)))) then ret (false : Bool) else J (.p0 a b (IntKind.i64.wrap (c + 1)))) else none) else none) else none) else none) else ret (true : Bool))
def start (J : Pt → Ans) (x0 : List (List L)) (x1 : List (List L)) : Ans := (bif ((x0.length : Int) != (x1.length : Int)) then ret (false : Bool) else J (.p0 x0 x1 0))
def live : Nat → Live := fun i => match i with | 4 => [(0, none), (1, none), (5, none)] | _ => []
def pats : List Pat := [.rd (.sl 9), .rd (.sl 9)]
def res : RP := .one (.rd (.bool))
abbrev E : Env := { T := assoc Tab, G := conG [], nt := 26 }
theorem step_eq (I : Heads) (p : Pt) : enterC E live I (pid p) (bodyOf Try.f114) (stOf (live (pid p)) (pvs p) (phs p)) (doneK E Try.f114 res) = step (fun q => I (pid q) (pvs q) (phs q)) p := by
 cases p <;> kernel_rfl
theorem start_eq (I : Heads) (ls : List L) : runC E live I (bodyOf Try.f114) (initS pats ls) (doneK E Try.f114 res) = start (fun q => I (pid q) (pvs q) (phs q)) (ls.headD .hole).toSl ((dropT 1 ls).headD .hole).toSl := by kernel_rfl
theorem run_eq (n : Nat) (ls : List L) : runF E live Try.f114 res n (initS pats ls) = start (iter step n) (ls.headD .hole).toSl ((dropT 1 ls).headD .hole).toSl := runF_iter (id := pid) (vs := pvs) (hs := phs) (step := step) (start := fun J => start J (ls.headD .hole).toSl ((dropT 1 ls).headD .hole).toSl) step_eq (fun I => start_eq I ls) n
def md (a0 : List ByteArray) (a1 : List ByteArray) : Bool := (bif ((a0.length : Int) != (a1.length : Int)) then (false : Bool) else (loopM (S := Unit) (β := Bool) (fun (i2 : Nat) (s4 : Unit) => (bif (!((a0.getD i2 ⟨#[]⟩) == (a1.getD i2 ⟨#[]⟩))) then (.inr (false : Bool)) else (.inl ()))) (fun (s4 : Unit) => (true : Bool)) a0.length 0 ()))
def gd (a0 : List ByteArray) (a1 : List ByteArray) : Prop := (SmL (2 ^ 21) (fun y : ByteArray => y.size ≤ (2 ^ 21)) a0) ∧ (SmL (2 ^ 21) (fun y : ByteArray => y.size ≤ (2 ^ 21)) a1)
def acc (ls : List L) : List (List L) × List (List L) := ((ls.headD .hole).toSl, ((dropT 1 ls).headD .hole).toSl)
def R : (List (List L) × List (List L)) → Option Bool := RR (p2 gd) (u2 md)
theorem R_eq {a0} {a1} (h : gd a0 a1) : R ((a0.map sRow), (a1.map sRow)) = some (md a0 a1) := RR_eq (a := (a0, a1)) h
def con : Con := CN pats res acc R
theorem okF (a0 : List ByteArray) (a1 : List ByteArray) (hg : gd a0 a1) : ∃ n, start (iter step n) (a0.map sRow) (a1.map sRow) = ret ((md a0 a1) : Bool) := by
  unfold gd at hg
  obtain ⟨H0, H1⟩ := hg
  unfold start md
  try simp only [S0]
  refine ex_bif ret (fun _ => ⟨0, rfl⟩) (fun c1 => ?_)
  have dc1 := c1
  try simp only [DC] at dc1
  have Bh3 : a0.length ≤ maxLen := (by
      have := (H0).1
      try simp only [maxLen] at *
      omega)
  refine ex_pt (p := Pt.p0 (a0.map sRow) (a1.map sRow) 0) (by first | rfl | (simp only [S0, MP]; done) | (simp only [MP]; rfl)) ?_
  refine loopM_ok (pt := fun (i2 : Nat) (s4 : Unit) => Pt.p0 (a0.map sRow) (a1.map sRow) (i2 : Int)) (s := (() : Unit)) (out := ret) (fun _ _ => True) (fun J i2 s4 h3 hih3 => ?_) (fun s4 hih3 => ?_) trivial
  · simp only [step, S0]
    have bb_ := Bh3
    simp only [maxLen] at bb_
    have := (H0).1
    refine Rnd.yes (by apply decide_eq_true; omega) ?_
    refine Rnd.yes zle_dec ?_
    refine Rnd.yes (lt_dec h3) ?_
    refine Rnd.yes zle_dec ?_
    refine Rnd.yes (by
        have := (H1).1
        refine decide_eq_true ?_
        try simp (disch := omega) only [LN, wi]
        first | omega | (simp; done) | (simp; omega)) ?_
    refine Rnd.bif (fun _ => Rnd.inr rfl) (fun c5 => ?_)
    refine Rnd.inl trivial ?_
    rw [wrap_succ h3 Bh3]
    all_goals first | rfl | (simp only [S0, MP]; first | done | rfl)
  · simp only [step, S0]
    have := (H0).1
    refine ex_no (by apply decide_eq_false; omega) ?_
    refine ⟨0, ?_⟩
    all_goals first | rfl | (simp only [S0, MP]; first | done | rfl)
theorem valid_ : Valid Try.prog Ev 114 con := VV (run := fun n x => start (iter step n) x.1 x.2) mix tab_ok .nil Try.func114 (by kernel_rfl) run_eq (fun _ a _ _ hg => okF a.1 a.2 hg)
theorem md_eq (a0 : List ByteArray) (a1 : List ByteArray) : md a0 a1 = eqB a0 a1 := by
 unfold md
 refine loop_eqB (⟨#[]⟩) (fun i s h h2 => ?_) (fun s => rfl)
 simp only [bne, int_beq, bool_beq, ba_beq]
 cases eqB _ _ <;> rfl
end Z34
namespace Z35
def F (x0 : REntry) (x1 : REntry) : Ans := (bif (x0.fLabel == x1.fLabel) then (bif (x0.fKind == x1.fKind) then (bif (x0.fValue == x1.fValue) then (call (Z34.R (x0.fPath, x1.fPath)) fun v1 => ret (v1 : Bool)) else ret (false : Bool)) else ret (false : Bool)) else ret (false : Bool))
def pats : List Pat := [.agg [.str, .int .i64, .int .i64, .sl 9], .agg [.str, .int .i64, .int .i64, .sl 9]]
def res : RP := .one (.rd (.bool))
def md (a0 : MEntry) (a1 : MEntry) : Bool := (bif (a0.fLabel == a1.fLabel) then (bif (a0.fKind == a1.fKind) then (bif (a0.fValue == a1.fValue) then ((Z34.md a0.fPath a1.fPath) : Bool) else (false : Bool)) else (false : Bool)) else (false : Bool))
def gd (a0 : MEntry) (a1 : MEntry) : Prop := (MEntry.Sm (2 ^ 21) a0) ∧ (MEntry.Sm (2 ^ 21) a1)
def acc (ls : List L) : REntry × REntry := ((REntry.dec ls), (REntry.dec (dropT 4 ls)))
def R : (REntry × REntry) → Option Bool := RR (p2 gd) (u2 md)
theorem R_eq {a0} {a1} (h : gd a0 a1) : R ((MEntry.r a0), (MEntry.r a1)) = some (md a0 a1) := RR_eq (a := (a0, a1)) h
def con : Con := CN pats res acc R
theorem okF (a0 : MEntry) (a1 : MEntry) (hg : gd a0 a1) : F (MEntry.r a0) (MEntry.r a1) = ret ((md a0 a1) : Bool) := by
 unfold gd at hg
 obtain ⟨H0, H1⟩ := hg
 unfold F md
 try simp only [S0, MEntry.rs]
 refine bif_out ret (fun c1 => ?_) (fun _ => rfl)
 refine bif_out ret (fun c2 => ?_) (fun _ => rfl)
 refine bif_out ret (fun c3 => ?_) (fun _ => rfl)
 refine call_to (Z34.md a0.fPath a1.fPath) (Z34.R_eq (a0 := a0.fPath) (a1 := a1.fPath) ⟨H0.2, H1.2⟩) ?_
 all_goals first | rfl | (simp only [S0, MEntry.rs, MP]; first | done | rfl)
theorem valid_ : Valid Try.prog Ev 127 con := VV (live := fun _ => []) (nt := 31) (run := fun _ x => F x.1 x.2) mix tab_ok (.cons Z34.valid_ .nil) Try.func127 (by kernel_rfl) (fun _ _ => by kernel_rfl) (fun _ a _ _ hg => ⟨0, okF a.1 a.2 hg⟩)
theorem md_eq (a0 : MEntry) (a1 : MEntry) : md a0 a1 = eqB a0 a1 := by
 unfold md
 cases a0; cases a1
 rw [Bool.eq_iff_iff]
 simp [eqB_iff, ba_beq, MEntry.mk.injEq, Z34.md_eq]
 try (constructor <;> (intro h; simp_all))
end Z35
namespace Z36
def F (x0 : RTrace) (x1 : RTrace) : Ans := (bif (x0.fCode == x1.fCode) then (call (Z35.R (x0.fEntry, x1.fEntry)) fun v1 => ret (v1 : Bool)) else ret (false : Bool))
def pats : List Pat := [.agg [.sl 149, .sl 158, .int .i64, .str, .int .i64, .int .i64, .sl 9, .sl 3, .int .i64], .agg [.sl 149, .sl 158, .int .i64, .str, .int .i64, .int .i64, .sl 9, .sl 3, .int .i64]]
def res : RP := .one (.rd (.bool))
def md (a0 : MTrace) (a1 : MTrace) : Bool := (bif (a0.fCode == a1.fCode) then ((Z35.md a0.fEntry a1.fEntry) : Bool) else (false : Bool))
def gd (a0 : MTrace) (a1 : MTrace) : Prop := (MTrace.Sm (2 ^ 21) a0) ∧ (MTrace.Sm (2 ^ 21) a1)
def acc (ls : List L) : RTrace × RTrace := ((RTrace.dec ls), (RTrace.dec (dropT 9 ls)))
def R : (RTrace × RTrace) → Option Bool := RR (p2 gd) (u2 md)
theorem R_eq {a0} {a1} (h : gd a0 a1) : R ((MTrace.r a0), (MTrace.r a1)) = some (md a0 a1) := RR_eq (a := (a0, a1)) h
def con : Con := CN pats res acc R
theorem okF (a0 : MTrace) (a1 : MTrace) (hg : gd a0 a1) : F (MTrace.r a0) (MTrace.r a1) = ret ((md a0 a1) : Bool) := by
 unfold gd at hg
 obtain ⟨H0, H1⟩ := hg
 unfold F md
 try simp only [S0, MTrace.rs]
 refine bif_out ret (fun c1 => ?_) (fun _ => rfl)
 refine call_to (Z35.md a0.fEntry a1.fEntry) (Z35.R_eq (a0 := a0.fEntry) (a1 := a1.fEntry) ⟨H0.2.1, H1.2.1⟩) ?_
 all_goals first | rfl | (simp only [S0, MTrace.rs, MP]; first | done | rfl)
theorem valid_ : Valid Try.prog Ev 94 con := VV (live := fun _ => []) (nt := 17) (run := fun _ x => F x.1 x.2) mix tab_ok (.cons Z35.valid_ .nil) Try.func94 (by kernel_rfl) (fun _ _ => by kernel_rfl) (fun _ a _ _ hg => ⟨0, okF a.1 a.2 hg⟩)
end Z36
namespace Z37
inductive Pt where
 | p0 (a : List (List L)) (b : Int) (c : List (List L))
 | p1 (a : List (List L)) (b : Int) (c : Int) (d : Int) (e : List (List L))
def pid : Pt → Nat
 | .p0 .. => 3
 | .p1 .. => 8
def pvs : Pt → List V
 | .p0 a b c => [.sl none 124 a, .own 0, .int .i64 b]
 | .p1 a b c d e => [.sl none 124 a, .own 0, .int .i64 b, .int .i64 c, .int .i64 d]
def phs : Pt → List Root
 | .p0 a b c => [.row 116 c]
 | .p1 a b c d e => [.row 116 e]
def step (J : Pt → Ans) : Pt → Ans
 | .p0 a b c => (bif (decide (b < (a.length : Int))) then (bif (decide ((0 : Int) ≤ b)) then (bif (decide (b < (a.length : Int))) then (call (Z33.R (RTrace.at a (Int.toNat b))) fun v1 => (bif v1 then J (.p0 a (IntKind.i64.wrap (b + 1)) c) else J (.p1 a b (-1) 0 c))) else none) else none) else ret (c : List (List L)))
 | .p1 a b c d e => (bif (decide (d < (e.length : Int))) then (bif (decide ((0 : Int) ≤ d)) then (bif (decide (d < (e.length : Int))) then (bif (decide ((0 : Int) < ((lAt e (Int.toNat d)).length : Int))) then (bif (decide ((0 : Int) ≤ (iAt (lAt e (Int.toNat d)) 0))) then (bif (decide ((iAt (lAt e (Int.toNat d)) 0) < (a.length : Int))) then (bif (decide ((0 : Int) ≤ b)) then (bif (decide (b < (a.length : Int))) then (call (Z36.R ((RTrace.at a (Int.toNat (iAt (lAt e (Int.toNat d)) 0))), (RTrace.at a (Int.toNat b)))) fun v1 => (bif v1 then J (.p1 a b d (IntKind.i64.wrap (d + 1)) e) else J (.p1 a b c (IntKind.i64.wrap (d + 1)) e))) else none) else none) else none) else none) else none) else none) else none) else (bif (decide (c < 0)) then (bif (lim (((e.length : Int) + 1) * 24)) then J (.p0 a (IntKind.i64.wrap (b + 1)) (e ++ [[L.sl [[L.int b]]]])) else none) else (bif (decide ((0 : Int) ≤ c)) then (bif (decide (c < (e.length : Int))) then (bif (lim ((((lAt e (Int.toNat c)).length : Int) + 1) * 8)) then (bif (decide ((0 : Int) ≤ c)) then (bif (decide (c < (e.length : Int))) then (bif (Nat.beq (Int.toNat c) (Int.toNat c) && true) then J (.p0 a (IntKind.i64.wrap (b + 1)) (List.set e (Int.toNat c) [L.sl ((lAt e (Int.toNat c)) ++ [[L.int b]])])) else none) else none) else none) else none) else none) else none)))
def start (J : Pt → Ans) (x0 : List (List L)) : Ans := J (.p0 x0 0 [])
def live : Nat → Live := fun i => match i with | 3 => [(0, none), (3, some 116), (4, none)] | 8 => [(0, none), (3, some 116), (4, none), (5, none), (6, none)] | _ => []
def pats : List Pat := [.rd (.sl 124)]
def res : RP := .one (.fr 116)
abbrev E : Env := { T := assoc Tab, G := conG [(93, Z33.con), (94, Z36.con)], nt := 58, M := conM [], mt := true }
theorem step_eq (I : Heads) (p : Pt) : enterC E live I (pid p) (bodyOf Try.f42) (stOf (live (pid p)) (pvs p) (phs p)) (doneK E Try.f42 res) = step (fun q => I (pid q) (pvs q) (phs q)) p := by
 cases p <;> kernel_rfl
theorem start_eq (I : Heads) (ls : List L) : runC E live I (bodyOf Try.f42) (initS pats ls) (doneK E Try.f42 res) = start (fun q => I (pid q) (pvs q) (phs q)) (ls.headD .hole).toSl := by kernel_rfl
theorem run_eq (n : Nat) (ls : List L) : runF E live Try.f42 res n (initS pats ls) = start (iter step n) (ls.headD .hole).toSl := runF_iter (id := pid) (vs := pvs) (hs := phs) (step := step) (start := fun J => start J (ls.headD .hole).toSl) step_eq (fun I => start_eq I ls) n
def hd (xs : List MTrace) (g : List Int) : MTrace := xs.getD (Int.toNat (g.getD 0 0)) MTrace.zero
def put (xs : List MTrace) (i : Nat) (t : MTrace) : List (List Int) → List (List Int)
 | [] => [[(i : Int)]]
 | g :: gs => bif Z36.md (hd xs g) t then (g ++ [(i : Int)]) :: gs else g :: put xs i t gs
def grp (xs : List MTrace) : Nat → List (List Int)
 | 0 => []
 | k + 1 => bif Z33.md (xs.getD k MTrace.zero) then grp xs k else put xs k (xs.getD k MTrace.zero) (grp xs k)
theorem same_iff {a b : MTrace} : Z36.md a b = true ↔ a.fCode = b.fCode ∧ a.fEntry = b.fEntry := by
  unfold Z36.md
  rw [Z35.md_eq]
  by_cases h : a.fCode = b.fCode
  · rw [show (a.fCode == b.fCode) = true from beq_iff_eq.2 h, cond_true, eqB_iff]
    exact ⟨fun h2 => ⟨h, h2⟩, fun h2 => h2.2⟩
  · rw [show (a.fCode == b.fCode) = false from beq_eq_false_iff_ne.2 h, cond_false]
    exact ⟨fun h2 => (nomatch h2), fun h2 => (h h2.1).elim⟩
theorem same_trans {a b t : MTrace} (h : Z36.md a t = true) (h2 : Z36.md b t = true) : Z36.md a b = true :=
 same_iff.2 ⟨(same_iff.1 h).1.trans (same_iff.1 h2).1.symm, (same_iff.1 h).2.trans (same_iff.1 h2).2.symm⟩
theorem put_at (xs : List MTrace) (i : Nat) (t : MTrace) : ∀ out : List (List Int), ∃ n, n ≤ out.length ∧ (∀ j, j < n → Z36.md (hd xs (out.getD j [])) t = false) ∧
    ((n < out.length ∧ Z36.md (hd xs (out.getD n [])) t = true ∧ put xs i t out = out.set n (out.getD n [] ++ [(i : Int)])) ∨ (n = out.length ∧ put xs i t out = out ++ [[(i : Int)]]))
  | [] => ⟨0, Nat.le_refl _, fun j hj => by omega, .inr ⟨rfl, rfl⟩⟩
  | g :: gs => by
    cases h : Z36.md (hd xs g) t
    · obtain ⟨n, h1, h2, h3⟩ := put_at xs i t gs
      refine ⟨n + 1, by simpa using h1, fun j hj => ?_, ?_⟩
      · cases j with
        | zero => exact h
        | succ j => exact h2 j (by omega)
      · rcases h3 with ⟨a, b, c⟩ | ⟨a, c⟩
        · exact .inl ⟨by simpa using a, b, by simp [put, h, c]⟩
        · exact .inr ⟨by simpa using a, by simp [put, h, c]⟩
    · exact ⟨0, Nat.zero_le _, fun j hj => by omega, .inl ⟨by simp, h, by simp [put, h]⟩⟩
def Inv (xs : List MTrace) (k : Nat) (out : List (List Int)) : Prop :=
 out.length ≤ k ∧ (∀ g ∈ out, 1 ≤ g.length ∧ g.length ≤ k ∧ 0 ≤ g.getD 0 0 ∧ g.getD 0 0 < (xs.length : Int)) ∧
 ∀ i j, i < j → j < out.length → Z36.md (hd xs (out.getD i [])) (hd xs (out.getD j [])) = false
theorem head_app {g : List Int} {v : Int} (h : 1 ≤ g.length) : (g ++ [v]).getD 0 0 = g.getD 0 0 := by
 cases g with
 | nil => simp at h
 | cons a g => rfl
theorem put_inv {xs : List MTrace} {k : Nat} {out : List (List Int)} (h : Inv xs k out) (hk : k < xs.length) : Inv xs (k + 1) (put xs k (xs.getD k MTrace.zero) out) := by
  obtain ⟨h1, h2, h3⟩ := h
  obtain ⟨n, hn, hlt, hcase⟩ := put_at xs k (xs.getD k MTrace.zero) out
  rcases hcase with ⟨hnl, hsame, hput⟩ | ⟨rfl, hput⟩
  · rw [hput]
    obtain ⟨p1, p2, p3, p4⟩ := h2 (out.getD n []) (by rw [getD_lt hnl]; exact List.getElem_mem _)
    have hset : ∀ i, i < out.length → hd xs ((out.set n (out.getD n [] ++ [(k : Int)])).getD i []) = hd xs (out.getD i []) := by
      intro i hi
      by_cases hin : n = i
      · subst hin
        have : (out.set n (out.getD n [] ++ [(k : Int)])).getD n [] = out.getD n [] ++ [(k : Int)] := by simp [List.getD_eq_getElem?_getD, hi]
        rw [this]; unfold hd; rw [head_app p1]
      · have : (out.set n (out.getD n [] ++ [(k : Int)])).getD i [] = out.getD i [] := by simp [List.getD_eq_getElem?_getD, List.getElem?_set, hin]
        rw [this]
    refine ⟨by rw [List.length_set]; omega, fun g hg => ?_, fun i j hij hj => ?_⟩
    · rcases List.mem_or_eq_of_mem_set hg with hg | rfl
      · obtain ⟨q1, q2, q3, q4⟩ := h2 g hg
        exact ⟨q1, by omega, q3, q4⟩
      · rw [head_app p1, List.length_append]
        exact ⟨by omega, by simp only [List.length_singleton]; omega, p3, p4⟩
    · rw [List.length_set] at hj
      rw [hset i (by omega), hset j hj]
      exact h3 i j hij hj
  · rw [hput]
    refine ⟨by simp; omega, fun g hg => ?_, fun i j hij hj => ?_⟩
    · rcases List.mem_append.1 hg with hg | hg
      · obtain ⟨q1, q2, q3, q4⟩ := h2 g hg
        exact ⟨q1, by omega, q3, q4⟩
      · rw [List.mem_singleton.1 hg]
        exact ⟨by simp, by simp, by simp, by simp; omega⟩
    · rw [List.length_append, List.length_singleton] at hj
      have hi : (out ++ [[(k : Int)]]).getD i [] = out.getD i [] := by
        simp only [List.getD_eq_getElem?_getD]; rw [List.getElem?_append_left (by omega)]
      rw [hi]
      by_cases hjl : j < out.length
      · have hj2 : (out ++ [[(k : Int)]]).getD j [] = out.getD j [] := by
          simp only [List.getD_eq_getElem?_getD]; rw [List.getElem?_append_left hjl]
        rw [hj2]; exact h3 i j hij hjl
      · obtain rfl : j = out.length := by omega
        have hj2 : (out ++ [[(k : Int)]]).getD out.length [] = [(k : Int)] := by simp [List.getD_eq_getElem?_getD]
        rw [hj2]
        exact hlt i hij
theorem Inv.mono {xs : List MTrace} {k l : Nat} {out : List (List Int)} (h : Inv xs k out) (hk : k ≤ l) : Inv xs l out :=
 ⟨Nat.le_trans h.1 hk, fun g hg => let ⟨a, b, c⟩ := h.2.1 g hg; ⟨a, Nat.le_trans b hk, c⟩, h.2.2⟩
theorem grp_inv (xs : List MTrace) : ∀ k : Nat, k ≤ xs.length → Inv xs k (grp xs k)
  | 0, _ => ⟨Nat.le_refl _, fun _ h => (nomatch h), fun i j _ h => by simp [grp] at h⟩
  | k + 1, hk => by
    have ih := grp_inv xs k (by omega)
    unfold grp
    cases Z33.md (xs.getD k MTrace.zero)
    · exact put_inv ih (by omega)
    · exact ih.mono (Nat.le_succ k)
def md (a0 : List MTrace) : List (List Int) := grp a0 a0.length
def gd (a0 : List MTrace) : Prop := SmL (2 ^ 21) (fun y : MTrace => MTrace.Sm (2 ^ 21) y) a0
def acc (ls : List L) : List (List L) := (ls.headD .hole).toSl
def R : (List (List L)) → Option (List (List L)) := RR gd md
theorem R_eq {a0} (h : gd a0) : R (a0.map MTrace.row) = some ((md a0).map (lRow iRow)) := RR_eq (a := a0) h
def con : Con := CN pats res acc R
theorem okF (a0 : List MTrace) (hg : gd a0) : ∃ n, start (iter step n) (a0.map MTrace.row) = ret (((md a0).map (lRow iRow)) : List (List L)) := by
  unfold gd at hg
  have hl := hg.1
  have inner : ∀ (k : Nat) (out : List (List Int)) (X : Ans), k < a0.length → Inv a0 k out → (∃ m, iter step m (Pt.p0 (a0.map MTrace.row) ((k + 1 : Nat) : Int) ((put a0 k (a0.getD k MTrace.zero) out).map (lRow iRow))) = X) →
      ∃ m, iter step m (Pt.p1 (a0.map MTrace.row) (k : Int) (-1) 0 (out.map (lRow iRow))) = X := by
    intro k out X hk hI hX
    have hol := hI.1
    have hs : ∀ (J : Pt → Ans) (c : Int) (j : Nat), j < out.length → step J (Pt.p1 (a0.map MTrace.row) (k : Int) c (j : Int) (out.map (lRow iRow))) =
        (bif Z36.md (hd a0 (out.getD j [])) (a0.getD k MTrace.zero) then J (Pt.p1 (a0.map MTrace.row) (k : Int) (j : Int) ((j + 1 : Nat) : Int) (out.map (lRow iRow))) else J (Pt.p1 (a0.map MTrace.row) (k : Int) c ((j + 1 : Nat) : Int) (out.map (lRow iRow)))) := by
      intro J c j hj
      obtain ⟨p1, p2, p3, p4⟩ := hI.2.1 (out.getD j []) (by rw [getD_lt hj]; exact List.getElem_mem _)
      have q1 : (j : Int) < (out.length : Int) := by omega
      have q2 : (0 : Int) ≤ (j : Int) := by omega
      have q3 : (0 : Int) < ((out.getD j []).length : Int) := by omega
      have q6 : (0 : Int) ≤ (k : Int) := by omega
      have q7 : (k : Int) < (a0.length : Int) := by omega
      simp only [step, S0, MTrace.rs, q1, q2, q3, p3, p4, q6, q7, decide_true, cond_true]
      rw [call_eq (Z36.R_eq ⟨SmL.getD hg (by omega), SmL.getD hg (by omega)⟩), wi _ (by omega)]
      rfl
    obtain ⟨n, hn, hlt, hcase⟩ := put_at a0 k (a0.getD k MTrace.zero) out
    have hend : ∀ (J : Pt → Ans) (c : Int), step J (Pt.p1 (a0.map MTrace.row) (k : Int) c (out.length : Int) (out.map (lRow iRow))) =
        (bif decide (c < 0) then J (Pt.p0 (a0.map MTrace.row) ((k + 1 : Nat) : Int) ((out ++ [[(k : Int)]]).map (lRow iRow))) else (bif decide ((0 : Int) ≤ c) then (bif decide (c < (out.length : Int)) then (bif lim ((((out.getD (Int.toNat c) []).length : Int) + 1) * 8) then (bif decide ((0 : Int) ≤ c) then (bif decide (c < (out.length : Int)) then (bif (Nat.beq (Int.toNat c) (Int.toNat c) && true) then J (Pt.p0 (a0.map MTrace.row) ((k + 1 : Nat) : Int) ((out.set (Int.toNat c) (out.getD (Int.toNat c) [] ++ [(k : Int)])).map (lRow iRow))) else none) else none) else none) else none) else none) else none)) := by
      intro J c
      simp only [step, S0, MTrace.rs]
      rw [decide_eq_false (show ¬ (out.length : Int) < (out.length : Int) by omega), cond_false, lim_t (by omega), cond_true, wi _ (by omega)]
      simp only [MP]
      rfl
    rcases hcase with ⟨hnl, hsame, hput⟩ | ⟨rfl, hput⟩
    · -- a group is there
      rw [hput] at hX
      obtain ⟨m, hm⟩ := hX
      obtain ⟨p1, p2, p3, p4⟩ := hI.2.1 (out.getD n []) (by rw [getD_lt hnl]; exact List.getElem_mem _)
      have late : ∀ d j, j + d = out.length → n < j → ∃ m, iter step m (Pt.p1 (a0.map MTrace.row) (k : Int) (n : Int) (j : Int) (out.map (lRow iRow))) = X := by
        intro d
        induction d with
        | zero =>
          intro j hj _
          obtain rfl : j = out.length := by omega
          refine ⟨m + 1, (hend _ _).trans ?_⟩
          have e : Int.toNat (n : Int) = n := by omega
          rw [decide_eq_false (by omega), cond_false, decide_eq_true (by omega), cond_true, decide_eq_true (by omega), cond_true, e, lim_t (by omega), cond_true, cond_true, cond_true, beq_t, cond_true]
          exact hm
        | succ d ih =>
          intro j hj hnj
          obtain ⟨m2, hm2⟩ := ih (j + 1) (by omega) (by omega)
          refine ⟨m2 + 1, (hs _ _ j (by omega)).trans ?_⟩
          have : Z36.md (hd a0 (out.getD j [])) (a0.getD k MTrace.zero) = false := by
            cases hc : Z36.md (hd a0 (out.getD j [])) (a0.getD k MTrace.zero) with
            | false => rfl
            | true =>
              have h1 := hI.2.2 n j hnj (by omega)
              rw [same_trans hsame hc] at h1
              cases h1
          rw [this, cond_false]
          exact hm2
      have early : ∀ d j, j + d = n → ∃ m, iter step m (Pt.p1 (a0.map MTrace.row) (k : Int) (-1) (j : Int) (out.map (lRow iRow))) = X := by
        intro d
        induction d with
        | zero =>
          intro j hj
          obtain rfl : j = n := by omega
          obtain ⟨m2, hm2⟩ := late (out.length - (j + 1)) (j + 1) (by omega) (by omega)
          refine ⟨m2 + 1, (hs _ _ j hnl).trans ?_⟩
          rw [hsame, cond_true]
          exact hm2
        | succ d ih =>
          intro j hj
          obtain ⟨m2, hm2⟩ := ih (j + 1) (by omega)
          refine ⟨m2 + 1, (hs _ _ j (by omega)).trans ?_⟩
          rw [hlt j (by omega), cond_false]
          exact hm2
      exact early n 0 (by omega)
    · -- a new one
      rw [hput] at hX
      obtain ⟨m, hm⟩ := hX
      have early : ∀ d j, j + d = out.length → ∃ m, iter step m (Pt.p1 (a0.map MTrace.row) (k : Int) (-1) (j : Int) (out.map (lRow iRow))) = X := by
        intro d
        induction d with
        | zero =>
          intro j hj
          obtain rfl : j = out.length := by omega
          refine ⟨m + 1, (hend _ _).trans ?_⟩
          rw [decide_eq_true (by omega), cond_true]
          exact hm
        | succ d ih =>
          intro j hj
          obtain ⟨m2, hm2⟩ := ih (j + 1) (by omega)
          refine ⟨m2 + 1, (hs _ _ j (by omega)).trans ?_⟩
          rw [hlt j (by omega), cond_false]
          exact hm2
      exact early out.length 0 (by omega)
  have outer : ∀ d k, k + d = a0.length → ∃ m, iter step m (Pt.p0 (a0.map MTrace.row) (k : Int) ((grp a0 k).map (lRow iRow))) = ret ((grp a0 a0.length).map (lRow iRow) : List (List L)) := by
    intro d
    induction d with
    | zero =>
      intro k hk
      obtain rfl : k = a0.length := by omega
      refine ⟨1, ?_⟩
      show step (iter step 0) _ = _
      simp only [step, S0]
      exact no_ret (decide_eq_false (by omega)) rfl
    | succ d ih =>
      intro k hk
      have hX := ih (k + 1) (by omega)
      have hI := grp_inv a0 k (by omega)
      have hst : ∀ J : Pt → Ans, step J (Pt.p0 (a0.map MTrace.row) (k : Int) ((grp a0 k).map (lRow iRow))) = (bif Z33.md (a0.getD k MTrace.zero) then J (Pt.p0 (a0.map MTrace.row) ((k + 1 : Nat) : Int) ((grp a0 k).map (lRow iRow))) else J (Pt.p1 (a0.map MTrace.row) (k : Int) (-1) 0 ((grp a0 k).map (lRow iRow)))) := by
        intro J
        have q6 : (0 : Int) ≤ (k : Int) := by omega
        have q7 : (k : Int) < (a0.length : Int) := by omega
        simp only [step, S0, MTrace.rs, q6, q7, decide_true, cond_true]
        rw [call_eq (Z33.R_eq trivial), wi _ (by omega)]
        rfl
      have eg : grp a0 (k + 1) = (bif Z33.md (a0.getD k MTrace.zero) then grp a0 k else put a0 k (a0.getD k MTrace.zero) (grp a0 k)) := rfl
      rw [eg] at hX
      cases hs : Z33.md (a0.getD k MTrace.zero)
      · rw [hs, cond_false] at hX
        obtain ⟨m, hm⟩ := inner k (grp a0 k) _ (by omega) hI hX
        refine ⟨m + 1, (hst _).trans ?_⟩
        rw [hs, cond_false]; exact hm
      · rw [hs, cond_true] at hX
        obtain ⟨m, hm⟩ := hX
        refine ⟨m + 1, (hst _).trans ?_⟩
        rw [hs, cond_true]; exact hm
  unfold start md
  exact outer a0.length 0 (by omega)
theorem valid_ : Valid Try.prog Ev 42 con := VT (run := fun n x => start (iter step n) x) mix tab_ok (.cons Z33.valid_ (.cons Z36.valid_ .nil)) .nil Try.func42 (by kernel_rfl) run_eq (fun _ a _ _ hg => okF a hg)
theorem fa (a0 : List MTrace) : 0 < (md a0).length → 1 ≤ ((md a0).getD 0 []).length ∧ 0 ≤ ((md a0).getD 0 []).getD 0 0 ∧ ((md a0).getD 0 []).getD 0 0 < (a0.length : Int) := fun h => by
 have hI := (Z37.grp_inv a0 a0.length (Nat.le_refl _)).2.1 ((md a0).getD 0 []) (by rw [getD_lt h]; exact List.getElem_mem _)
 exact ⟨hI.1, hI.2.2.1, hI.2.2.2⟩
end Z37
namespace Z38
def F (x0 : List (List L)) : Ans := (bif (lim ((x0.length : Int) * 16)) then ret (x0 : List (List L)) else none)
def pats : List Pat := [.rd (.sl 9)]
def res : RP := .one (.fr 9)
def md (a0 : List ByteArray) : List ByteArray := a0
def gd (a0 : List ByteArray) : Prop := (SmL (2 ^ 21) (fun y : ByteArray => y.size ≤ (2 ^ 21)) a0)
def acc (ls : List L) : List (List L) := (ls.headD .hole).toSl
def R : (List (List L)) → Option (List (List L)) := RR gd md
theorem R_eq {a0} (h : gd a0) : R (a0.map sRow) = some ((md a0).map sRow) := RR_eq (a := a0) h
def con : Con := CN pats res acc R
theorem okF (a0 : List ByteArray) (hg : gd a0) : F (a0.map sRow) = ret (((md a0).map sRow) : List (List L)) := by
 unfold gd at hg
 have H0 := hg
 unfold F md
 try simp only [S0]
 refine yes_ret (by
   have := (H0).1
   refine lim_t ?_
   try simp (disch := omega) only [LN, wi]
   first | omega | (simp; done) | (simp; omega)) ?_
 all_goals first | rfl | (simp only [S0]; done) | (simp only [MP]; rfl) | (simp only [S0, MP]; first | done | rfl)
theorem valid_ : Valid Try.prog Ev 78 con := VV (live := fun _ => []) (nt := 6) (run := fun _ x => F x) mix tab_ok .nil Try.func78 (by kernel_rfl) (fun _ _ => by kernel_rfl) (fun _ a _ _ hg => ⟨0, okF a hg⟩)
end Z38
namespace Z39
def F (x0 : REntry) : Ans := (call (Z38.R x0.fPath) fun v1 => ret ((⟨x0.fLabel, x0.fKind, x0.fValue, v1⟩ : REntry) : REntry))
def pats : List Pat := [.agg [.str, .int .i64, .int .i64, .sl 9]]
def res : RP := .agg [.rd (.str), .rd (.int .i64), .rd (.int .i64), .fr 9]
def md (a0 : MEntry) : MEntry := a0
def gd (a0 : MEntry) : Prop := (MEntry.Sm (2 ^ 21) a0)
def acc (ls : List L) : REntry := (REntry.dec ls)
def R : REntry → Option REntry := RR gd md
theorem R_eq {a0} (h : gd a0) : R (MEntry.r a0) = some (MEntry.r (md a0)) := RR_eq (a := a0) h
def con : Con := CN pats res acc R
theorem okF (a0 : MEntry) (hg : gd a0) : F (MEntry.r a0) = ret ((MEntry.r (md a0)) : REntry) := by
  unfold gd at hg
  have H0 := hg
  unfold F md
  try simp only [S0, MEntry.rs]
  refine call_to (a0.fPath.map sRow) ?_ ?_
  · have R_ := Z38.R_eq (a0 := a0.fPath) H0.2
    simp only [Z38.md] at R_
    first | exact R_ | (simp only [MP, S0, MEntry.rs] at R_ ⊢; first | exact R_ | (rw [← R_]; rfl))
  try simp only [S0, MEntry.rs]
  all_goals first | rfl | (simp only [S0, MEntry.rs]; done) | (simp only [MP]; rfl) | (simp only [S0, MEntry.rs, MP]; first | done | rfl)
theorem valid_ : Valid Try.prog Ev 79 con := VV (live := fun _ => []) (nt := 13) (run := fun _ x => F x) mix tab_ok (.cons Z38.valid_ .nil) Try.func79 (by kernel_rfl) (fun _ _ => by kernel_rfl) (fun _ a _ _ hg => ⟨0, okF a hg⟩)
end Z39
namespace Z40
inductive Pt where
 | p0 (a : List (List L)) (b : Int) (c : List (List L)) (d : List (List L))
def pid : Pt → Nat
 | .p0 .. => 4
def pvs : Pt → List V
 | .p0 a b c d => [.sl none 124 a, .own 0, .own 1, .int .i64 b]
def phs : Pt → List Root
 | .p0 a b c d => [.row 50 c, .row 116 d]
def step (J : Pt → Ans) : Pt → Ans
 | .p0 a b c d => (bif (decide (b < (d.length : Int))) then (bif (decide ((d.length : Int) > 1)) then (bif (decide ((0 : Int) ≤ b)) then (bif (decide (b < (d.length : Int))) then (bif (decide ((0 : Int) < ((lAt d (Int.toNat b)).length : Int))) then (bif (decide ((0 : Int) ≤ (iAt (lAt d (Int.toNat b)) 0))) then (bif (decide ((iAt (lAt d (Int.toNat b)) 0) < (a.length : Int))) then (bif ((RTrace.at a (Int.toNat (iAt (lAt d (Int.toNat b)) 0))).fCode == 1) then (call (Z39.R ((RTrace.at a (Int.toNat (iAt (lAt d (Int.toNat b)) 0))).fEntry)) fun v1 => (bif (lim (((c.length : Int) + 1) * 56)) then J (.p0 a (IntKind.i64.wrap (b + 1)) (c ++ [(REntry.enc v1)]) d) else none)) else J (.p0 a (IntKind.i64.wrap (b + 1)) c d)) else none) else none) else none) else none) else none) else ret (c : List (List L))) else ret (c : List (List L)))
def start (J : Pt → Ans) (x0 : List (List L)) : Ans := (call (Z37.R x0) fun v1 => J (.p0 x0 0 [] v1))
def live : Nat → Live := fun i => match i with | 4 => [(0, none), (3, some 50), (4, none), (5, none)] | _ => []
def pats : List Pat := [.rd (.sl 124)]
def res : RP := .one (.fr 50)
abbrev E : Env := { T := assoc Tab, G := conG [(42, Z37.con), (79, Z39.con)], nt := 40 }
theorem step_eq (I : Heads) (p : Pt) : enterC E live I (pid p) (bodyOf Try.f48) (stOf (live (pid p)) (pvs p) (phs p)) (doneK E Try.f48 res) = step (fun q => I (pid q) (pvs q) (phs q)) p := by
 cases p <;> kernel_rfl
theorem start_eq (I : Heads) (ls : List L) : runC E live I (bodyOf Try.f48) (initS pats ls) (doneK E Try.f48 res) = start (fun q => I (pid q) (pvs q) (phs q)) (ls.headD .hole).toSl := by kernel_rfl
theorem run_eq (n : Nat) (ls : List L) : runF E live Try.f48 res n (initS pats ls) = start (iter step n) (ls.headD .hole).toSl := runF_iter (id := pid) (vs := pvs) (hs := phs) (step := step) (start := fun J => start J (ls.headD .hole).toSl) step_eq (fun I => start_eq I ls) n
def dis (xs : List MTrace) (g : List Int) : List MEntry := bif (Z37.hd xs g).fCode == 1 then [(Z37.hd xs g).fEntry] else []
theorem dis_len (xs : List MTrace) (g : List Int) : (dis xs g).length ≤ 1 := by
  unfold dis
  cases ((Z37.hd xs g).fCode == 1)
  · exact Nat.zero_le _
  · exact Nat.le_refl _
theorem dis_sz (xs : List MTrace) (g : List Int) (n : Nat) (h : szL MTrace.size xs ≤ n) (hg : 0 ≤ g.getD 0 0 ∧ g.getD 0 0 < (xs.length : Int)) : szL MEntry.size (dis xs g) ≤ n + 1 := by
  unfold dis
  cases ((Z37.hd xs g).fCode == 1)
  · exact Nat.zero_le _
  · have h2 := szL_getD (f := MTrace.size) (xs := xs) (i := Int.toNat (g.getD 0 0)) (z := MTrace.zero) (by omega)
    have h3 : MEntry.size (xs.getD (Int.toNat (g.getD 0 0)) MTrace.zero).fEntry ≤ MTrace.size (xs.getD (Int.toNat (g.getD 0 0)) MTrace.zero) := by
      generalize xs.getD (Int.toNat (g.getD 0 0)) MTrace.zero = t
      unfold MTrace.size
      omega
    simp only [cond_true, szL, List.length_cons, List.length_nil, List.map_cons, List.map_nil, List.sum_cons, List.sum_nil]
    unfold Z37.hd
    omega
theorem flat_sz {α β : Type} {f : β → Nat} {g : α → List β} {n : Nat} : ∀ {xs : List α}, (∀ x ∈ xs, szL f (g x) ≤ n) → szL f (xs.flatMap g) ≤ xs.length * n
 | [], _ => by simp [szL]
 | x :: xs, h => by
  have h1 := h x (by simp)
  have h2 := flat_sz (xs := xs) fun y hy => h y (by simp [hy])
  simp only [szL] at h1 h2 ⊢
  simp only [List.flatMap_cons, List.length_append, List.map_append, List.sum_append, List.length_cons, Nat.add_mul]
  omega
def md (a0 : List MTrace) : List MEntry := (bif decide ((Z37.md a0).length > 1) then (Z37.md a0).flatMap (dis a0) else [])
def gd (a0 : List MTrace) : Prop := SmL (2 ^ 21) (fun y : MTrace => MTrace.Sm (2 ^ 21) y) a0
def acc (ls : List L) : List (List L) := (ls.headD .hole).toSl
def R : (List (List L)) → Option (List (List L)) := RR gd md
theorem R_eq {a0} (h : gd a0) : R (a0.map MTrace.row) = some ((md a0).map MEntry.row) := RR_eq (a := a0) h
def con : Con := CN pats res acc R
theorem okF (a0 : List MTrace) (hg : gd a0) : ∃ n, start (iter step n) (a0.map MTrace.row) = ret (((md a0).map MEntry.row) : List (List L)) := by
  unfold gd at hg
  have hl := hg.1
  have hI := Z37.grp_inv a0 a0.length (Nat.le_refl _)
  have key : ∀ (G : List (List Int)), Z37.Inv a0 a0.length G → 1 < G.length → ∀ d k (c : List MEntry), k + d = G.length → c.length ≤ k → ∃ m, iter step m (Pt.p0 (a0.map MTrace.row) (k : Int) (c.map MEntry.row) (G.map (lRow iRow))) = ret ((c ++ (G.drop k).flatMap (dis a0)).map MEntry.row : List (List L)) := by
    intro G hG h1 d
    have hGl := hG.1
    induction d with
    | zero =>
      intro k c hk hc
      obtain rfl : k = G.length := by omega
      refine ⟨1, ?_⟩
      show step (iter step 0) _ = _
      simp only [step, S0]
      refine no_ret (decide_eq_false (by omega)) ?_
      rw [List.drop_eq_nil_of_le (Nat.le_refl _), List.flatMap_nil, List.append_nil]
    | succ d ih =>
      intro k c hk hc
      have hlt : k < G.length := by omega
      obtain ⟨p1, p2, p3, p4⟩ := hG.2.1 (G.getD k []) (by rw [getD_lt hlt]; exact List.getElem_mem _)
      have q1 : (k : Int) < (G.length : Int) := by omega
      have q2 : (0 : Int) ≤ (k : Int) := by omega
      have q3 : (0 : Int) < ((G.getD k []).length : Int) := by omega
      have q4 : (G.length : Int) > 1 := by omega
      have q5 : lim (((c.length : Int) + 1) * 56) = true := lim_t (by omega)
      have hdr : (G.drop k).flatMap (dis a0) = dis a0 (G.getD k []) ++ (G.drop (k + 1)).flatMap (dis a0) := by
        rw [List.drop_eq_getElem_cons hlt, List.flatMap_cons, getD_lt hlt]
      have hst : ∀ J : Pt → Ans, step J (Pt.p0 (a0.map MTrace.row) (k : Int) (c.map MEntry.row) (G.map (lRow iRow))) = J (Pt.p0 (a0.map MTrace.row) ((k + 1 : Nat) : Int) ((c ++ dis a0 (G.getD k [])).map MEntry.row) (G.map (lRow iRow))) := by
        intro J
        unfold dis Z37.hd
        simp only [step, S0, MTrace.rs, q1, q2, q3, q4, q5, p3, p4, decide_true, cond_true]
        rw [wi _ (by omega)]
        cases ((a0.getD (Int.toNat ((G.getD k []).getD 0 0)) MTrace.zero).fCode == 1)
        · simp only [cond_false, List.append_nil]
          rfl
        · simp only [cond_true]
          rw [call_eq (Z39.R_eq (a0 := (a0.getD (Int.toNat ((G.getD k []).getD 0 0)) MTrace.zero).fEntry) (SmL.getD (z := MTrace.zero) hg (by omega)).2.1)]
          simp only [MP]
          rfl
      obtain ⟨m, hm⟩ := ih (k + 1) (c ++ dis a0 (G.getD k [])) (by omega) (by have := dis_len a0 (G.getD k []); rw [List.length_append]; omega)
      refine ⟨m + 1, (hst _).trans ?_⟩
      rw [hdr, ← List.append_assoc]
      exact hm
  unfold start md
  refine ex_call_to ((Z37.md a0).map (lRow iRow)) (Z37.R_eq hg) ?_
  by_cases h1 : (Z37.md a0).length > 1
  · obtain ⟨m, hm⟩ := key (Z37.md a0) hI h1 (Z37.md a0).length 0 [] (by omega) (Nat.le_refl _)
    refine ⟨m, ?_⟩
    rw [decide_eq_true h1, cond_true]
    exact hm
  · refine ⟨1, ?_⟩
    rw [decide_eq_false h1, cond_false]
    show step (iter step 0) _ = _
    simp only [step, S0]
    by_cases h0 : (0 : Int) < ((Z37.md a0).length : Int)
    · rw [decide_eq_true h0, cond_true, decide_eq_false (by omega), cond_false]; rfl
    · rw [decide_eq_false h0, cond_false]; rfl
theorem valid_ : Valid Try.prog Ev 48 con := VV (run := fun n x => start (iter step n) x) mix tab_ok (.cons Z37.valid_ (.cons Z39.valid_ .nil)) Try.func48 (by kernel_rfl) run_eq (fun _ a _ _ hg => okF a hg)
end Z40
namespace Z41
inductive Pt where
 | p0 (a : List (List L)) (b : List (List L)) (c : Int)
def pid : Pt → Nat
 | .p0 .. => 2
def pvs : Pt → List V
 | .p0 a b c => [.sl none 106 a, .sl none 9 b, .int .i64 c]
def phs : Pt → List Root
 | .p0 a b c => []
def step (J : Pt → Ans) : Pt → Ans
 | .p0 a b c => (bif (decide (c < (a.length : Int))) then (bif (decide ((0 : Int) ≤ c)) then (bif (decide (c < (a.length : Int))) then (call (Z34.R ((RChoice.at a (Int.toNat c)).fPath, b)) fun v1 => (bif v1 then ret (c : Int) else J (.p0 a b (IntKind.i64.wrap (c + 1))))) else none) else none) else ret ((-1) : Int))
def start (J : Pt → Ans) (x0 : List (List L)) (x1 : List (List L)) : Ans := J (.p0 x0 x1 0)
def live : Nat → Live := fun i => match i with | 2 => [(0, none), (1, none), (5, none)] | _ => []
def pats : List Pat := [.rd (.sl 106), .rd (.sl 9)]
def res : RP := .one (.rd (.int .i64))
abbrev E : Env := { T := assoc Tab, G := conG [(114, Z34.con)], nt := 20 }
theorem step_eq (I : Heads) (p : Pt) : enterC E live I (pid p) (bodyOf Try.f80) (stOf (live (pid p)) (pvs p) (phs p)) (doneK E Try.f80 res) = step (fun q => I (pid q) (pvs q) (phs q)) p := by
 cases p <;> kernel_rfl
theorem start_eq (I : Heads) (ls : List L) : runC E live I (bodyOf Try.f80) (initS pats ls) (doneK E Try.f80 res) = start (fun q => I (pid q) (pvs q) (phs q)) (ls.headD .hole).toSl ((dropT 1 ls).headD .hole).toSl := by kernel_rfl
theorem run_eq (n : Nat) (ls : List L) : runF E live Try.f80 res n (initS pats ls) = start (iter step n) (ls.headD .hole).toSl ((dropT 1 ls).headD .hole).toSl := runF_iter (id := pid) (vs := pvs) (hs := phs) (step := step) (start := fun J => start J (ls.headD .hole).toSl ((dropT 1 ls).headD .hole).toSl) step_eq (fun I => start_eq I ls) n
def md (a0 : List MChoice) (a1 : List ByteArray) : Int := (eachI (S := Unit) (β := Int) (fun (i1 : Nat) (y1 : MChoice) (s3 : Unit) => (bif (Z34.md (y1.fPath) a1) then (.inr ((i1 : Int) : Int)) else (.inl ()))) (fun (s3 : Unit) => ((-1) : Int)) 0 a0 ())
def gd (a0 : List MChoice) (a1 : List ByteArray) : Prop := (SmL (2 ^ 21) (fun y : MChoice => MChoice.Sm (2 ^ 21) y) a0) ∧ (SmL (2 ^ 21) (fun y : ByteArray => y.size ≤ (2 ^ 21)) a1)
def acc (ls : List L) : List (List L) × List (List L) := ((ls.headD .hole).toSl, ((dropT 1 ls).headD .hole).toSl)
def R : (List (List L) × List (List L)) → Option Int := RR (p2 gd) (u2 md)
theorem R_eq {a0} {a1} (h : gd a0 a1) : R ((a0.map MChoice.row), (a1.map sRow)) = some (md a0 a1) := RR_eq (a := (a0, a1)) h
def con : Con := CN pats res acc R
theorem okF (a0 : List MChoice) (a1 : List ByteArray) (hg : gd a0 a1) : ∃ n, start (iter step n) (a0.map MChoice.row) (a1.map sRow) = ret ((md a0 a1) : Int) := by
  unfold gd at hg
  obtain ⟨H0, H1⟩ := hg
  unfold start md
  try simp only [S0, MEntry.rs, MChoice.rs]
  have Bh2 : a0.length ≤ maxLen := (by
      have := (H0).1
      try simp only [maxLen] at *
      omega)
  refine ex_eq (out := ret) (loopM_eachI (z := MChoice.zero)) ?_
  refine ex_pt (p := Pt.p0 (a0.map MChoice.row) (a1.map sRow) 0) (by first | rfl | (simp only [S0, MEntry.rs, MChoice.rs, MP]; done) | (simp only [MP]; rfl)) ?_
  refine loopM_ok (pt := fun (i1 : Nat) (s3 : Unit) => Pt.p0 (a0.map MChoice.row) (a1.map sRow) (i1 : Int)) (s := (() : Unit)) (out := ret) (fun _ _ => True) (fun J i1 s3 h2 hih2 => ?_) (fun s3 hih2 => ?_) trivial
  · simp only [step, S0, MEntry.rs, MChoice.rs]
    have bb_ := Bh2
    simp only [maxLen] at bb_
    have := (H0).1
    refine Rnd.yes (by apply decide_eq_true; omega) ?_
    refine Rnd.yes zle_dec ?_
    refine Rnd.yes (lt_dec h2) ?_
    refine Rnd.call_to (Z34.md ((a0.getD i1 MChoice.zero).fPath) a1) (Z34.R_eq (a0 := (a0.getD i1 MChoice.zero).fPath) (a1 := a1) ⟨(SmL.getD (z := MChoice.zero) H0 h2).1, H1⟩) ?_
    refine Rnd.bif (fun c4 => ?_) (fun c4 => ?_)
    · refine Rnd.inr ?_
      all_goals first | rfl | (simp only [S0, MEntry.rs, MChoice.rs, MP]; first | done | rfl)
    · refine Rnd.inl trivial ?_
      rw [wrap_succ h2 Bh2]
      all_goals first | rfl | (simp only [S0, MEntry.rs, MChoice.rs, MP]; first | done | rfl)
  · simp only [step, S0, MEntry.rs, MChoice.rs]
    have := (H0).1
    refine ex_no (by apply decide_eq_false; omega) ?_
    refine ⟨0, ?_⟩
    all_goals first | rfl | (simp only [S0, MEntry.rs, MChoice.rs, MP]; first | done | rfl)
theorem valid_ : Valid Try.prog Ev 80 con := VV (run := fun n x => start (iter step n) x.1 x.2) mix tab_ok (.cons Z34.valid_ .nil) Try.func80 (by kernel_rfl) run_eq (fun _ a _ _ hg => okF a.1 a.2 hg)
theorem fa (a0 : List MChoice) (a1 : List ByteArray) : -1 ≤ md a0 a1 ∧ md a0 a1 < (a0.length : Int) := by
 unfold md
 refine eachI_fa0 ?_ _ _
 all_goals
  intro i x s b h
  revert h
  simp only [Bool.cond_eq_ite]
  repeat' split
  all_goals (intro h; first | (cases h; rfl) | cases h)
end Z41
namespace Z42
def F (x0 : List (List L)) (x1 : List (List L)) : Ans := (call (Z41.R (x0, x1)) fun v1 => (bif (decide (v1 < 0)) then ret (((⟨(⟨#[]⟩ : ByteArray), 0, 0, []⟩ : REntry), false) : REntry × Bool) else (bif (decide ((0 : Int) ≤ v1)) then (bif (decide (v1 < (x0.length : Int))) then (call (Z39.R ((RChoice.at x0 (Int.toNat v1)).fEntry)) fun v2 => ret ((v2, true) : REntry × Bool)) else none) else none)))
def pats : List Pat := [.rd (.sl 106), .rd (.sl 9)]
def res : RP := .tup [(true, [.rd (.str), .rd (.int .i64), .rd (.int .i64), .fr 9]), (false, [.rd (.bool)])]
def md (a0 : List MChoice) (a1 : List ByteArray) : MEntry × Bool := (bif (decide ((Z41.md a0 a1) < 0)) then ((⟨((⟨#[]⟩ : ByteArray) : ByteArray), 0, 0, []⟩ : MEntry), false) else (((a0.getD (Int.toNat (Z41.md a0 a1)) MChoice.zero).fEntry), true))
def gd (a0 : List MChoice) (a1 : List ByteArray) : Prop := (SmL (2 ^ 21) (fun y : MChoice => MChoice.Sm (2 ^ 21) y) a0) ∧ (SmL (2 ^ 21) (fun y : ByteArray => y.size ≤ (2 ^ 21)) a1)
def acc (ls : List L) : List (List L) × List (List L) := ((ls.headD .hole).toSl, ((dropT 1 ls).headD .hole).toSl)
def R : (List (List L) × List (List L)) → Option (REntry × Bool) := RR (p2 gd) (u2 md)
theorem R_eq {a0} {a1} (h : gd a0 a1) : R ((a0.map MChoice.row), (a1.map sRow)) = some ((MEntry.r (md a0 a1).1), (md a0 a1).2) := RR_eq (a := (a0, a1)) h
def con : Con := CN pats res acc R
theorem okF (a0 : List MChoice) (a1 : List ByteArray) (hg : gd a0 a1) : F (a0.map MChoice.row) (a1.map sRow) = ret (((MEntry.r (md a0 a1).1), (md a0 a1).2) : REntry × Bool) := by
  unfold gd at hg
  obtain ⟨H0, H1⟩ := hg
  unfold F md
  try simp only [S0, MChoice.rs]
  refine call_to (Z41.md a0 a1) (Z41.R_eq (a0 := a0) (a1 := a1) ⟨H0, H1⟩) ?_
  have fv1_ := Z41.fa a0 a1
  refine bif_out (fun b : MEntry × Bool => ret (((MEntry.r b.1), b.2) : REntry × Bool)) (fun c1 => ?_) (fun c1 => ?_)
  · all_goals first | rfl | (simp only [S0, MChoice.rs]; done) | (simp only [MP]; rfl) | (simp only [S0, MChoice.rs, MP]; first | done | rfl)
  · have dc1 := c1
    try simp only [DC] at dc1
    refine yes_ret (by
        refine decide_eq_true ?_
        try simp (disch := omega) only [LN, wi]
        first | omega | (simp; done) | (simp; omega)) ?_
    refine yes_ret (by
        have := (H0).1
        refine decide_eq_true ?_
        try simp (disch := omega) only [LN, wi]
        first | omega | (simp; done) | (simp; omega)) ?_
    refine call_to (MEntry.r ((a0.getD (Int.toNat (Z41.md a0 a1)) MChoice.zero).fEntry)) ?_ ?_
    · have R_ := Z39.R_eq (a0 := (a0.getD (Int.toNat (Z41.md a0 a1)) MChoice.zero).fEntry) (SmL.getD (z := MChoice.zero) H0 (by first | assumption | omega | (simp (disch := omega) only [wi]; omega) | (simp; omega))).2
      simp only [Z39.md] at R_
      first | exact R_ | (simp only [MP, S0, MChoice.rs] at R_ ⊢; first | exact R_ | (rw [← R_]; rfl))
    try simp only [S0, MChoice.rs]
    all_goals first | rfl | (simp only [S0, MChoice.rs]; done) | (simp only [MP]; rfl) | (simp only [S0, MChoice.rs, MP]; first | done | rfl)
theorem valid_ : Valid Try.prog Ev 102 con := VV (live := fun _ => []) (nt := 19) (run := fun _ x => F x.1 x.2) mix tab_ok (.cons Z41.valid_ (.cons Z39.valid_ .nil)) Try.func102 (by kernel_rfl) (fun _ _ => by kernel_rfl) (fun _ a _ _ hg => ⟨0, okF a.1 a.2 hg⟩)
theorem sm0 {a0 : List MChoice} {a1 : List ByteArray} (hg : gd a0 a1) : MEntry.Sm (2 ^ 21) ((md a0 a1).1) := by
  unfold gd at hg; unfold md
  have hf := Z41.fa a0 a1
  cases h : decide (Z41.md a0 a1 < 0)
  · simp only [decide_eq_false_iff_not] at h
    exact (SmL.getD hg.1 (by omega)).2
  · exact ⟨(Nat.zero_le _), SmL.nil⟩
end Z42
namespace Z43
inductive Pt where
 | p0 (a : List (List L)) (b : Int) (c : REntry)
def pid : Pt → Nat
 | .p0 .. => 2
def pvs : Pt → List V
 | .p0 a b c => [.sl none 124 a, .bptr 0 0, .int .i64 b]
def phs : Pt → List Root
 | .p0 a b c => [.box [.str c.fLabel, .int .i64 c.fKind, .int .i64 c.fValue, .sl none 9 c.fPath]]
def step (J : Pt → Ans) : Pt → Ans
 | .p0 a b c => (bif (decide (b < (a.length : Int))) then (bif (decide ((0 : Int) ≤ b)) then (bif (decide (b < (a.length : Int))) then (bif ((RTrace.at a (Int.toNat b)).fCode == 1) then (bif (decide ((0 : Int) ≤ b)) then (bif (decide (b < (a.length : Int))) then (call (Z35.R ((RTrace.at a (Int.toNat b)).fEntry, c)) fun v1 => (bif v1 then ret (true : Bool) else J (.p0 a (IntKind.i64.wrap (b + 1)) c))) else none) else none) else J (.p0 a (IntKind.i64.wrap (b + 1)) c)) else none) else none) else ret (false : Bool))
def start (J : Pt → Ans) (x0 : List (List L)) (x1 : REntry) : Ans := J (.p0 x0 0 x1)
def live : Nat → Live := fun i => match i with | 2 => [(0, none), (3, none), (5, none)] | _ => []
def pats : List Pat := [.rd (.sl 124), .agg [.str, .int .i64, .int .i64, .sl 9]]
def res : RP := .one (.rd (.bool))
abbrev E : Env := { T := assoc Tab, G := conG [(127, Z35.con)], nt := 27 }
theorem step_eq (I : Heads) (p : Pt) : enterC E live I (pid p) (bodyOf Try.f103) (stOf (live (pid p)) (pvs p) (phs p)) (doneK E Try.f103 res) = step (fun q => I (pid q) (pvs q) (phs q)) p := by
 cases p <;> kernel_rfl
theorem start_eq (I : Heads) (ls : List L) : runC E live I (bodyOf Try.f103) (initS pats ls) (doneK E Try.f103 res) = start (fun q => I (pid q) (pvs q) (phs q)) (ls.headD .hole).toSl (REntry.dec (dropT 1 ls)) := by kernel_rfl
theorem run_eq (n : Nat) (ls : List L) : runF E live Try.f103 res n (initS pats ls) = start (iter step n) (ls.headD .hole).toSl (REntry.dec (dropT 1 ls)) := runF_iter (id := pid) (vs := pvs) (hs := phs) (step := step) (start := fun J => start J (ls.headD .hole).toSl (REntry.dec (dropT 1 ls))) step_eq (fun I => start_eq I ls) n
def md (a0 : List MTrace) (a1 : MEntry) : Bool := (eachM (S := Unit) (β := Bool) (fun (y1 : MTrace) (s3 : Unit) => (bif (y1.fCode == 1) then (bif (Z35.md (y1.fEntry) a1) then (.inr (true : Bool)) else (.inl ())) else (.inl ()))) (fun (s3 : Unit) => (false : Bool)) a0 ())
def gd (a0 : List MTrace) (a1 : MEntry) : Prop := (SmL (2 ^ 21) (fun y : MTrace => MTrace.Sm (2 ^ 21) y) a0) ∧ (MEntry.Sm (2 ^ 21) a1)
def acc (ls : List L) : List (List L) × REntry := ((ls.headD .hole).toSl, (REntry.dec (dropT 1 ls)))
def R : (List (List L) × REntry) → Option Bool := RR (p2 gd) (u2 md)
theorem R_eq {a0} {a1} (h : gd a0 a1) : R ((a0.map MTrace.row), (MEntry.r a1)) = some (md a0 a1) := RR_eq (a := (a0, a1)) h
def con : Con := CN pats res acc R
theorem okF (a0 : List MTrace) (a1 : MEntry) (hg : gd a0 a1) : ∃ n, start (iter step n) (a0.map MTrace.row) (MEntry.r a1) = ret ((md a0 a1) : Bool) := by
  unfold gd at hg
  obtain ⟨H0, H1⟩ := hg
  unfold start md
  try simp only [S0, MTrace.rs]
  have Bh2 : a0.length ≤ maxLen := (by
      have := (H0).1
      try simp only [maxLen] at *
      omega)
  refine ex_eq (out := ret) (loopM_eachM (z := MTrace.zero)) ?_
  refine ex_pt (p := Pt.p0 (a0.map MTrace.row) 0 (MEntry.r a1)) (by first | rfl | (simp only [S0, MTrace.rs, MP]; done) | (simp only [MP]; rfl)) ?_
  refine loopM_ok (pt := fun (i1 : Nat) (s3 : Unit) => Pt.p0 (a0.map MTrace.row) (i1 : Int) (MEntry.r a1)) (s := (() : Unit)) (out := ret) (fun _ _ => True) (fun J i1 s3 h2 hih2 => ?_) (fun s3 hih2 => ?_) trivial
  · simp only [step, S0, MTrace.rs]
    have bb_ := Bh2
    simp only [maxLen] at bb_
    have := (H0).1
    refine Rnd.yes (by apply decide_eq_true; omega) ?_
    refine Rnd.yes zle_dec ?_
    refine Rnd.yes (lt_dec h2) ?_
    refine Rnd.bif (fun c4 => ?_) (fun c4 => ?_)
    · refine Rnd.yes zle_dec ?_
      refine Rnd.yes (lt_dec h2) ?_
      refine Rnd.call_to (Z35.md ((a0.getD i1 MTrace.zero).fEntry) a1) (Z35.R_eq (a0 := (a0.getD i1 MTrace.zero).fEntry) (a1 := a1) ⟨(SmL.getD (z := MTrace.zero) H0 h2).2.1, H1⟩) ?_
      refine Rnd.bif (fun _ => Rnd.inr rfl) (fun c5 => ?_)
      refine Rnd.inl trivial ?_
      rw [wrap_succ h2 Bh2]
      all_goals first | rfl | (simp only [S0, MTrace.rs, MP]; first | done | rfl)
    · refine Rnd.inl trivial ?_
      rw [wrap_succ h2 Bh2]
      all_goals first | rfl | (simp only [S0, MTrace.rs, MP]; first | done | rfl)
  · simp only [step, S0, MTrace.rs]
    have := (H0).1
    refine ex_no (by apply decide_eq_false; omega) ?_
    refine ⟨0, ?_⟩
    all_goals first | rfl | (simp only [S0, MTrace.rs, MP]; first | done | rfl)
theorem valid_ : Valid Try.prog Ev 103 con := VV (run := fun n x => start (iter step n) x.1 x.2) mix tab_ok (.cons Z35.valid_ .nil) Try.func103 (by kernel_rfl) run_eq (fun _ a _ _ hg => okF a.1 a.2 hg)
end Z43
namespace Z44
def F (x0 : List (List L)) (x1 : List (List L)) (x2 : List (List L)) : Ans := (call (Z40.R x1) fun v1 => (call (Z37.R x1) fun v2 => (call (Z42.R (x0, x2)) fun v3 => (bif ((v2.length : Int) == 0) then ret ((⟨5, (⟨(⟨#[]⟩ : ByteArray), 0, 0, []⟩ : REntry), v1⟩ : RDecision) : RDecision) else (bif (decide ((0 : Int) < (v2.length : Int))) then (bif (decide ((0 : Int) < ((lAt v2 0).length : Int))) then (bif (decide ((0 : Int) ≤ (iAt (lAt v2 0) 0))) then (bif (decide ((iAt (lAt v2 0) 0) < (x1.length : Int))) then (bif v3.2 then (call (Z43.R (x1, v3.1)) fun v4 => (bif v4 then ret ((⟨1, v3.1, v1⟩ : RDecision) : RDecision) else (bif v3.2 then ret ((⟨3, (⟨(⟨#[]⟩ : ByteArray), 0, 0, []⟩ : REntry), v1⟩ : RDecision) : RDecision) else (bif (decide ((v2.length : Int) > 1)) then ret ((⟨3, (⟨(⟨#[]⟩ : ByteArray), 0, 0, []⟩ : REntry), v1⟩ : RDecision) : RDecision) else (bif ((RTrace.at x1 (Int.toNat (iAt (lAt v2 0) 0))).fCode != 1) then ret ((⟨4, (⟨(⟨#[]⟩ : ByteArray), 0, 0, []⟩ : REntry), v1⟩ : RDecision) : RDecision) else (call (Z39.R ((RTrace.at x1 (Int.toNat (iAt (lAt v2 0) 0))).fEntry)) fun v5 => ret ((⟨2, v5, v1⟩ : RDecision) : RDecision))))))) else (bif v3.2 then ret ((⟨3, (⟨(⟨#[]⟩ : ByteArray), 0, 0, []⟩ : REntry), v1⟩ : RDecision) : RDecision) else (bif (decide ((v2.length : Int) > 1)) then ret ((⟨3, (⟨(⟨#[]⟩ : ByteArray), 0, 0, []⟩ : REntry), v1⟩ : RDecision) : RDecision) else (bif ((RTrace.at x1 (Int.toNat (iAt (lAt v2 0) 0))).fCode != 1) then ret ((⟨4, (⟨(⟨#[]⟩ : ByteArray), 0, 0, []⟩ : REntry), v1⟩ : RDecision) : RDecision) else (call (Z39.R ((RTrace.at x1 (Int.toNat (iAt (lAt v2 0) 0))).fEntry)) fun v6 => ret ((⟨2, v6, v1⟩ : RDecision) : RDecision)))))) else none) else none) else none) else none)))))
def pats : List Pat := [.rd (.sl 106), .rd (.sl 124), .rd (.sl 9)]
def res : RP := .agg [.rd (.int .i64), .rd (.str), .rd (.int .i64), .rd (.int .i64), .fr 9, .fr 50]
def md (a0 : List MChoice) (a1 : List MTrace) (a2 : List ByteArray) : MDecision := (bif (((Z37.md a1).length : Int) == 0) then (⟨5, (⟨((⟨#[]⟩ : ByteArray) : ByteArray), 0, 0, []⟩ : MEntry), (Z40.md a1)⟩ : MDecision) else (bif (Z42.md a0 a2).2 then (bif (Z43.md a1 ((Z42.md a0 a2).1)) then (⟨1, (Z42.md a0 a2).1, (Z40.md a1)⟩ : MDecision) else (bif (Z42.md a0 a2).2 then (⟨3, (⟨((⟨#[]⟩ : ByteArray) : ByteArray), 0, 0, []⟩ : MEntry), (Z40.md a1)⟩ : MDecision) else (bif (decide (((Z37.md a1).length : Int) > 1)) then (⟨3, (⟨((⟨#[]⟩ : ByteArray) : ByteArray), 0, 0, []⟩ : MEntry), (Z40.md a1)⟩ : MDecision) else (bif ((a1.getD (Int.toNat (((Z37.md a1).getD 0 []).getD 0 0)) MTrace.zero).fCode != 1) then (⟨4, (⟨((⟨#[]⟩ : ByteArray) : ByteArray), 0, 0, []⟩ : MEntry), (Z40.md a1)⟩ : MDecision) else (⟨2, ((a1.getD (Int.toNat (((Z37.md a1).getD 0 []).getD 0 0)) MTrace.zero).fEntry), (Z40.md a1)⟩ : MDecision))))) else (bif (Z42.md a0 a2).2 then (⟨3, (⟨((⟨#[]⟩ : ByteArray) : ByteArray), 0, 0, []⟩ : MEntry), (Z40.md a1)⟩ : MDecision) else (bif (decide (((Z37.md a1).length : Int) > 1)) then (⟨3, (⟨((⟨#[]⟩ : ByteArray) : ByteArray), 0, 0, []⟩ : MEntry), (Z40.md a1)⟩ : MDecision) else (bif ((a1.getD (Int.toNat (((Z37.md a1).getD 0 []).getD 0 0)) MTrace.zero).fCode != 1) then (⟨4, (⟨((⟨#[]⟩ : ByteArray) : ByteArray), 0, 0, []⟩ : MEntry), (Z40.md a1)⟩ : MDecision) else (⟨2, ((a1.getD (Int.toNat (((Z37.md a1).getD 0 []).getD 0 0)) MTrace.zero).fEntry), (Z40.md a1)⟩ : MDecision))))))
def gd (a0 : List MChoice) (a1 : List MTrace) (a2 : List ByteArray) : Prop := (SmL (2 ^ 21) (fun y : MChoice => MChoice.Sm (2 ^ 21) y) a0) ∧ (SmL (2 ^ 21) (fun y : MTrace => MTrace.Sm (2 ^ 21) y) a1) ∧ (SmL (2 ^ 21) (fun y : ByteArray => y.size ≤ (2 ^ 21)) a2)
def acc (ls : List L) : List (List L) × List (List L) × List (List L) := ((ls.headD .hole).toSl, ((dropT 1 ls).headD .hole).toSl, ((dropT 2 ls).headD .hole).toSl)
def R : (List (List L) × List (List L) × List (List L)) → Option RDecision := RR (p3 gd) (u3 md)
theorem R_eq {a0} {a1} {a2} (h : gd a0 a1 a2) : R ((a0.map MChoice.row), (a1.map MTrace.row), (a2.map sRow)) = some (MDecision.r (md a0 a1 a2)) := RR_eq (a := (a0, a1, a2)) h
def con : Con := CN pats res acc R
theorem okF (a0 : List MChoice) (a1 : List MTrace) (a2 : List ByteArray) (hg : gd a0 a1 a2) : F (a0.map MChoice.row) (a1.map MTrace.row) (a2.map sRow) = ret ((MDecision.r (md a0 a1 a2)) : RDecision) := by
  unfold gd at hg
  obtain ⟨H0, H1, H2⟩ := hg
  unfold F md
  try simp only [S0, MChoice.rs, MTrace.rs, MDecision.rs]
  refine call_to ((Z40.md a1).map MEntry.row) (Z40.R_eq (a0 := a1) H1) ?_
  try simp only [S0, MChoice.rs, MTrace.rs, MDecision.rs]
  refine call_to ((Z37.md a1).map (lRow iRow)) (Z37.R_eq (a0 := a1) H1) ?_
  try simp only [S0, MChoice.rs, MTrace.rs, MDecision.rs]
  have fv2_ := Z37.fa a1
  refine call_to ((MEntry.r (Z42.md a0 a2).1), (Z42.md a0 a2).2) (Z42.R_eq (a0 := a0) (a1 := a2) ⟨H0, H2⟩) ?_
  try simp only [S0, MChoice.rs, MTrace.rs, MDecision.rs]
  refine bif_out (fun b : MDecision => ret ((MDecision.r b) : RDecision)) (fun c1 => ?_) (fun c1 => ?_)
  · all_goals first | rfl | (simp only [S0, MChoice.rs, MTrace.rs, MDecision.rs]; done) | (simp only [MP]; rfl) | (simp only [S0, MChoice.rs, MTrace.rs, MDecision.rs, MP]; first | done | rfl)
  · have dc1 := c1
    try simp only [DC] at dc1
    refine yes_ret (by
        refine decide_eq_true ?_
        try simp (disch := omega) only [LN, wi]
        first | omega | (simp; done) | (simp; omega)) ?_
    refine yes_ret (by
        refine decide_eq_true ?_
        try simp (disch := omega) only [LN, wi]
        first | omega | (simp; done) | (simp; omega)) ?_
    refine yes_ret (by
        refine decide_eq_true ?_
        try simp (disch := omega) only [LN, wi]
        first | omega | (simp; done) | (simp; omega)) ?_
    refine yes_ret (by
        have := (H1).1
        refine decide_eq_true ?_
        try simp (disch := omega) only [LN, wi]
        first | omega | (simp; done) | (simp; omega)) ?_
    refine bif_out (fun b : MDecision => ret ((MDecision.r b) : RDecision)) (fun c2 => ?_) (fun c2 => ?_)
    · refine call_to (Z43.md a1 ((Z42.md a0 a2).1)) (Z43.R_eq (a0 := a1) (a1 := (Z42.md a0 a2).1) ⟨H1, (Z42.sm0 (a0 := a0) (a1 := a2) ⟨H0, H2⟩)⟩) ?_
      refine bif_out (fun b : MDecision => ret ((MDecision.r b) : RDecision)) (fun c3 => ?_) (fun c3 => ?_)
      · all_goals first | rfl | (simp only [S0, MChoice.rs, MTrace.rs, MDecision.rs]; done) | (simp only [MP]; rfl) | (simp only [S0, MChoice.rs, MTrace.rs, MDecision.rs, MP]; first | done | rfl)
      · refine bif_out (fun b : MDecision => ret ((MDecision.r b) : RDecision)) (fun c4 => ?_) (fun c4 => ?_)
        · all_goals first | rfl | (simp only [S0, MChoice.rs, MTrace.rs, MDecision.rs]; done) | (simp only [MP]; rfl) | (simp only [S0, MChoice.rs, MTrace.rs, MDecision.rs, MP]; first | done | rfl)
        · refine bif_out (fun b : MDecision => ret ((MDecision.r b) : RDecision)) (fun c5 => ?_) (fun c5 => ?_)
          · all_goals first | rfl | (simp only [S0, MChoice.rs, MTrace.rs, MDecision.rs]; done) | (simp only [MP]; rfl) | (simp only [S0, MChoice.rs, MTrace.rs, MDecision.rs, MP]; first | done | rfl)
          · have dc5 := c5
            try simp only [DC] at dc5
            refine bif_out (fun b : MDecision => ret ((MDecision.r b) : RDecision)) (fun c6 => ?_) (fun c6 => ?_)
            · all_goals first | rfl | (simp only [S0, MChoice.rs, MTrace.rs, MDecision.rs]; done) | (simp only [MP]; rfl) | (simp only [S0, MChoice.rs, MTrace.rs, MDecision.rs, MP]; first | done | rfl)
            · have dc6 := c6
              try simp only [DC] at dc6
              refine call_to (MEntry.r ((a1.getD (Int.toNat (((Z37.md a1).getD 0 []).getD 0 0)) MTrace.zero).fEntry)) ?_ ?_
              · have R_ := Z39.R_eq (a0 := (a1.getD (Int.toNat (((Z37.md a1).getD 0 []).getD 0 0)) MTrace.zero).fEntry) (SmL.getD (z := MTrace.zero) H1 (by first | assumption | omega | (simp (disch := omega) only [wi]; omega) | (simp; omega))).2.1
                simp only [Z39.md] at R_
                first | exact R_ | (simp only [MP, S0, MChoice.rs, MTrace.rs, MDecision.rs] at R_ ⊢; first | exact R_ | (rw [← R_]; rfl))
              try simp only [S0, MChoice.rs, MTrace.rs, MDecision.rs]
              all_goals first | rfl | (simp only [S0, MChoice.rs, MTrace.rs, MDecision.rs]; done) | (simp only [MP]; rfl) | (simp only [S0, MChoice.rs, MTrace.rs, MDecision.rs, MP]; first | done | rfl)
    · refine bif_out (fun b : MDecision => ret ((MDecision.r b) : RDecision)) (fun c7 => ?_) (fun c7 => ?_)
      · all_goals first | rfl | (simp only [S0, MChoice.rs, MTrace.rs, MDecision.rs]; done) | (simp only [MP]; rfl) | (simp only [S0, MChoice.rs, MTrace.rs, MDecision.rs, MP]; first | done | rfl)
      · refine bif_out (fun b : MDecision => ret ((MDecision.r b) : RDecision)) (fun c8 => ?_) (fun c8 => ?_)
        · all_goals first | rfl | (simp only [S0, MChoice.rs, MTrace.rs, MDecision.rs]; done) | (simp only [MP]; rfl) | (simp only [S0, MChoice.rs, MTrace.rs, MDecision.rs, MP]; first | done | rfl)
        · have dc8 := c8
          try simp only [DC] at dc8
          refine bif_out (fun b : MDecision => ret ((MDecision.r b) : RDecision)) (fun c9 => ?_) (fun c9 => ?_)
          · all_goals first | rfl | (simp only [S0, MChoice.rs, MTrace.rs, MDecision.rs]; done) | (simp only [MP]; rfl) | (simp only [S0, MChoice.rs, MTrace.rs, MDecision.rs, MP]; first | done | rfl)
          · have dc9 := c9
            try simp only [DC] at dc9
            refine call_to (MEntry.r ((a1.getD (Int.toNat (((Z37.md a1).getD 0 []).getD 0 0)) MTrace.zero).fEntry)) ?_ ?_
            · have R_ := Z39.R_eq (a0 := (a1.getD (Int.toNat (((Z37.md a1).getD 0 []).getD 0 0)) MTrace.zero).fEntry) (SmL.getD (z := MTrace.zero) H1 (by first | assumption | omega | (simp (disch := omega) only [wi]; omega) | (simp; omega))).2.1
              simp only [Z39.md] at R_
              first | exact R_ | (simp only [MP, S0, MChoice.rs, MTrace.rs, MDecision.rs] at R_ ⊢; first | exact R_ | (rw [← R_]; rfl))
            try simp only [S0, MChoice.rs, MTrace.rs, MDecision.rs]
            all_goals first | rfl | (simp only [S0, MChoice.rs, MTrace.rs, MDecision.rs]; done) | (simp only [MP]; rfl) | (simp only [S0, MChoice.rs, MTrace.rs, MDecision.rs, MP]; first | done | rfl)
theorem valid_ : Valid Try.prog Ev 53 con := VV (live := fun _ => []) (nt := 65) (run := fun _ x => F x.1 x.2.1 x.2.2) mix tab_ok (.cons Z40.valid_ (.cons Z37.valid_ (.cons Z42.valid_ (.cons Z43.valid_ (.cons Z39.valid_ .nil))))) Try.func53 (by kernel_rfl) (fun _ _ => by kernel_rfl) (fun _ a _ _ hg => ⟨0, okF a.1 a.2.1 a.2.2 hg⟩)
end Z44
namespace Z45
def F (x0 : RTrace) : Ans := (bif (x0.fCode == 3) then ret (true : Bool) else (bif (x0.fCode == 5) then ret (true : Bool) else ret ((x0.fCode == 6) : Bool)))
def pats : List Pat := [.agg [.sl 149, .sl 158, .int .i64, .str, .int .i64, .int .i64, .sl 9, .sl 3, .int .i64]]
def res : RP := .one (.rd (.bool))
def md (a0 : MTrace) : Bool := (bif (a0.fCode == 3) then (true : Bool) else (bif (a0.fCode == 5) then (true : Bool) else ((a0.fCode == 6) : Bool)))
def gd (a0 : MTrace) : Prop := True
def acc (ls : List L) : RTrace := (RTrace.dec ls)
def R : RTrace → Option Bool := RR gd md
theorem R_eq {a0} (h : gd a0) : R (MTrace.r a0) = some (md a0) := RR_eq (a := a0) h
def con : Con := CN pats res acc R
theorem okF (a0 : MTrace) (hg : gd a0) : F (MTrace.r a0) = ret ((md a0) : Bool) := by
 unfold F md
 try simp only [S0, MTrace.rs]
 refine bif_out ret (fun _ => rfl) (fun c1 => ?_)
 refine bif_out ret (fun _ => rfl) (fun c2 => ?_)
 all_goals first | rfl | (simp only [S0, MTrace.rs, MP]; first | done | rfl)
theorem valid_ : Valid Try.prog Ev 95 con := VV (live := fun _ => []) (nt := 16) (run := fun _ x => F x) mix tab_ok .nil Try.func95 (by kernel_rfl) (fun _ _ => by kernel_rfl) (fun _ a _ _ hg => ⟨0, okF a hg⟩)
theorem br (a0 : MTrace) : md a0 = Z33.md a0 := by
 unfold md Z33.md
 first
 | (simp only [id]; done)
 | (simp only [id]; rfl)
 | rfl
end Z45
namespace Z46
inductive Pt where
 | p0 (a : List (List L)) (b : List (List L)) (c : Int) (d : Int)
def pid : Pt → Nat
 | .p0 .. => 4
def pvs : Pt → List V
 | .p0 a b c d => [.sl none 9 a, .sl none 9 b, .int .i64 c, .int .i64 d]
def phs : Pt → List Root
 | .p0 a b c d => []
def step (J : Pt → Ans) : Pt → Ans
 | .p0 a b c d => (bif (decide (d < c)) then (bif (decide ((0 : Int) ≤ d)) then (bif (decide (d < (a.length : Int))) then (bif (decide ((0 : Int) ≤ d)) then (bif (decide (d < (b.length : Int))) then (bif (!((sAt a (Int.toNat d)) == (sAt b (Int.toNat d)))) then ret (false : Bool) else J (.p0 a b c (IntKind.i64.wrap (d + 1)))) else none) else none) else none) else none) else ret (true : Bool))
def start (J : Pt → Ans) (x0 : List (List L)) (x1 : List (List L)) : Ans := (bif ((x0.length : Int) != (x1.length : Int)) then ret (false : Bool) else J (.p0 x0 x1 (x0.length : Int) 0))
def live : Nat → Live := fun i => match i with | 4 => [(0, none), (1, none), (12, none), (13, none)] | _ => []
def pats : List Pat := [.rd (.sl 9), .rd (.sl 9)]
def res : RP := .one (.rd (.bool))
abbrev E : Env := { T := assoc Tab, G := conG [], nt := 26 }
theorem step_eq (I : Heads) (p : Pt) : enterC E live I (pid p) (bodyOf Try.f131) (stOf (live (pid p)) (pvs p) (phs p)) (doneK E Try.f131 res) = step (fun q => I (pid q) (pvs q) (phs q)) p := by
 cases p <;> kernel_rfl
theorem start_eq (I : Heads) (ls : List L) : runC E live I (bodyOf Try.f131) (initS pats ls) (doneK E Try.f131 res) = start (fun q => I (pid q) (pvs q) (phs q)) (ls.headD .hole).toSl ((dropT 1 ls).headD .hole).toSl := by kernel_rfl
theorem run_eq (n : Nat) (ls : List L) : runF E live Try.f131 res n (initS pats ls) = start (iter step n) (ls.headD .hole).toSl ((dropT 1 ls).headD .hole).toSl := runF_iter (id := pid) (vs := pvs) (hs := phs) (step := step) (start := fun J => start J (ls.headD .hole).toSl ((dropT 1 ls).headD .hole).toSl) step_eq (fun I => start_eq I ls) n
def md (a0 : List ByteArray) (a1 : List ByteArray) : Bool := (bif ((a0.length : Int) != (a1.length : Int)) then (false : Bool) else (loopM (S := Unit) (β := Bool) (fun (i2 : Nat) (s4 : Unit) => (bif (!((a0.getD i2 ⟨#[]⟩) == (a1.getD i2 ⟨#[]⟩))) then (.inr (false : Bool)) else (.inl ()))) (fun (s4 : Unit) => (true : Bool)) a0.length 0 ()))
def gd (a0 : List ByteArray) (a1 : List ByteArray) : Prop := (SmL (2 ^ 21) (fun y : ByteArray => y.size ≤ (2 ^ 21)) a0) ∧ (SmL (2 ^ 21) (fun y : ByteArray => y.size ≤ (2 ^ 21)) a1)
def acc (ls : List L) : List (List L) × List (List L) := ((ls.headD .hole).toSl, ((dropT 1 ls).headD .hole).toSl)
def R : (List (List L) × List (List L)) → Option Bool := RR (p2 gd) (u2 md)
theorem R_eq {a0} {a1} (h : gd a0 a1) : R ((a0.map sRow), (a1.map sRow)) = some (md a0 a1) := RR_eq (a := (a0, a1)) h
def con : Con := CN pats res acc R
theorem okF (a0 : List ByteArray) (a1 : List ByteArray) (hg : gd a0 a1) : ∃ n, start (iter step n) (a0.map sRow) (a1.map sRow) = ret ((md a0 a1) : Bool) := by
  unfold gd at hg
  obtain ⟨H0, H1⟩ := hg
  unfold start md
  try simp only [S0]
  refine ex_bif ret (fun _ => ⟨0, rfl⟩) (fun c1 => ?_)
  have dc1 := c1
  try simp only [DC] at dc1
  have Bh3 : a0.length ≤ maxLen := (by
      have := (H0).1
      try simp only [maxLen] at *
      omega)
  refine ex_pt (p := Pt.p0 (a0.map sRow) (a1.map sRow) (a0.length : Int) 0) (by first | rfl | (simp only [S0, MP]; done) | (simp only [MP]; rfl)) ?_
  refine loopM_ok (pt := fun (i2 : Nat) (s4 : Unit) => Pt.p0 (a0.map sRow) (a1.map sRow) (a0.length : Int) (i2 : Int)) (s := (() : Unit)) (out := ret) (fun _ _ => True) (fun J i2 s4 h3 hih3 => ?_) (fun s4 hih3 => ?_) trivial
  · simp only [step, S0]
    have bb_ := Bh3
    simp only [maxLen] at bb_
    have := (H0).1
    refine Rnd.yes (by apply decide_eq_true; omega) ?_
    refine Rnd.yes zle_dec ?_
    refine Rnd.yes (lt_dec h3) ?_
    refine Rnd.yes zle_dec ?_
    refine Rnd.yes (by
        have := (H1).1
        refine decide_eq_true ?_
        try simp (disch := omega) only [LN, wi]
        first | omega | (simp; done) | (simp; omega)) ?_
    refine Rnd.bif (fun _ => Rnd.inr rfl) (fun c5 => ?_)
    refine Rnd.inl trivial ?_
    rw [wrap_succ h3 Bh3]
    all_goals first | rfl | (simp only [S0, MP]; first | done | rfl)
  · simp only [step, S0]
    have := (H0).1
    refine ex_no (by apply decide_eq_false; omega) ?_
    refine ⟨0, ?_⟩
    all_goals first | rfl | (simp only [S0, MP]; first | done | rfl)
theorem valid_ : Valid Try.prog Ev 131 con := VV (run := fun n x => start (iter step n) x.1 x.2) mix tab_ok .nil Try.func131 (by kernel_rfl) run_eq (fun _ a _ _ hg => okF a.1 a.2 hg)
theorem md_eq (a0 : List ByteArray) (a1 : List ByteArray) : md a0 a1 = eqB a0 a1 := by
 unfold md
 refine loop_eqB (⟨#[]⟩) (fun i s h h2 => ?_) (fun s => rfl)
 simp only [bne, int_beq, bool_beq, ba_beq]
 cases eqB _ _ <;> rfl
end Z46
namespace Z47
def F (x0 : REntry) (x1 : REntry) : Ans := (bif (x0.fLabel == x1.fLabel) then (bif (x0.fKind == x1.fKind) then (bif (x0.fValue == x1.fValue) then (call (Z46.R (x0.fPath, x1.fPath)) fun v1 => ret (v1 : Bool)) else ret (false : Bool)) else ret (false : Bool)) else ret (false : Bool))
def pats : List Pat := [.agg [.str, .int .i64, .int .i64, .sl 9], .agg [.str, .int .i64, .int .i64, .sl 9]]
def res : RP := .one (.rd (.bool))
def md (a0 : MEntry) (a1 : MEntry) : Bool := (bif (a0.fLabel == a1.fLabel) then (bif (a0.fKind == a1.fKind) then (bif (a0.fValue == a1.fValue) then ((Z46.md a0.fPath a1.fPath) : Bool) else (false : Bool)) else (false : Bool)) else (false : Bool))
def gd (a0 : MEntry) (a1 : MEntry) : Prop := (MEntry.Sm (2 ^ 21) a0) ∧ (MEntry.Sm (2 ^ 21) a1)
def acc (ls : List L) : REntry × REntry := ((REntry.dec ls), (REntry.dec (dropT 4 ls)))
def R : (REntry × REntry) → Option Bool := RR (p2 gd) (u2 md)
theorem R_eq {a0} {a1} (h : gd a0 a1) : R ((MEntry.r a0), (MEntry.r a1)) = some (md a0 a1) := RR_eq (a := (a0, a1)) h
def con : Con := CN pats res acc R
theorem okF (a0 : MEntry) (a1 : MEntry) (hg : gd a0 a1) : F (MEntry.r a0) (MEntry.r a1) = ret ((md a0 a1) : Bool) := by
 unfold gd at hg
 obtain ⟨H0, H1⟩ := hg
 unfold F md
 try simp only [S0, MEntry.rs]
 refine bif_out ret (fun c1 => ?_) (fun _ => rfl)
 refine bif_out ret (fun c2 => ?_) (fun _ => rfl)
 refine bif_out ret (fun c3 => ?_) (fun _ => rfl)
 refine call_to (Z46.md a0.fPath a1.fPath) (Z46.R_eq (a0 := a0.fPath) (a1 := a1.fPath) ⟨H0.2, H1.2⟩) ?_
 all_goals first | rfl | (simp only [S0, MEntry.rs, MP]; first | done | rfl)
theorem valid_ : Valid Try.prog Ev 107 con := VV (live := fun _ => []) (nt := 31) (run := fun _ x => F x.1 x.2) mix tab_ok (.cons Z46.valid_ .nil) Try.func107 (by kernel_rfl) (fun _ _ => by kernel_rfl) (fun _ a _ _ hg => ⟨0, okF a.1 a.2 hg⟩)
theorem md_eq (a0 : MEntry) (a1 : MEntry) : md a0 a1 = eqB a0 a1 := by
 unfold md
 cases a0; cases a1
 rw [Bool.eq_iff_iff]
 simp [eqB_iff, ba_beq, MEntry.mk.injEq, Z46.md_eq]
 try (constructor <;> (intro h; simp_all))
end Z47
namespace Z48
def F (x0 : RTrace) (x1 : RTrace) : Ans := (bif (x0.fCode == x1.fCode) then (call (Z47.R (x0.fEntry, x1.fEntry)) fun v1 => ret (v1 : Bool)) else ret (false : Bool))
def pats : List Pat := [.agg [.sl 149, .sl 158, .int .i64, .str, .int .i64, .int .i64, .sl 9, .sl 3, .int .i64], .agg [.sl 149, .sl 158, .int .i64, .str, .int .i64, .int .i64, .sl 9, .sl 3, .int .i64]]
def res : RP := .one (.rd (.bool))
def md (a0 : MTrace) (a1 : MTrace) : Bool := (bif (a0.fCode == a1.fCode) then ((Z47.md a0.fEntry a1.fEntry) : Bool) else (false : Bool))
def gd (a0 : MTrace) (a1 : MTrace) : Prop := (MTrace.Sm (2 ^ 21) a0) ∧ (MTrace.Sm (2 ^ 21) a1)
def acc (ls : List L) : RTrace × RTrace := ((RTrace.dec ls), (RTrace.dec (dropT 9 ls)))
def R : (RTrace × RTrace) → Option Bool := RR (p2 gd) (u2 md)
theorem R_eq {a0} {a1} (h : gd a0 a1) : R ((MTrace.r a0), (MTrace.r a1)) = some (md a0 a1) := RR_eq (a := (a0, a1)) h
def con : Con := CN pats res acc R
theorem okF (a0 : MTrace) (a1 : MTrace) (hg : gd a0 a1) : F (MTrace.r a0) (MTrace.r a1) = ret ((md a0 a1) : Bool) := by
 unfold gd at hg
 obtain ⟨H0, H1⟩ := hg
 unfold F md
 try simp only [S0, MTrace.rs]
 refine bif_out ret (fun c1 => ?_) (fun _ => rfl)
 refine call_to (Z47.md a0.fEntry a1.fEntry) (Z47.R_eq (a0 := a0.fEntry) (a1 := a1.fEntry) ⟨H0.2.1, H1.2.1⟩) ?_
 all_goals first | rfl | (simp only [S0, MTrace.rs, MP]; first | done | rfl)
theorem valid_ : Valid Try.prog Ev 96 con := VV (live := fun _ => []) (nt := 17) (run := fun _ x => F x.1 x.2) mix tab_ok (.cons Z47.valid_ .nil) Try.func96 (by kernel_rfl) (fun _ _ => by kernel_rfl) (fun _ a _ _ hg => ⟨0, okF a.1 a.2 hg⟩)
theorem br (a0 : MTrace) (a1 : MTrace) : md a0 a1 = Z36.md a0 a1 := by
 unfold md Z36.md
 first
 | (simp only [Z47.md_eq, Z35.md_eq]; done)
 | (simp only [Z47.md_eq, Z35.md_eq]; rfl)
 | rfl
end Z48
namespace Z49
inductive Pt where
 | p0 (a : List (List L)) (b : List (List L)) (c : Int) (d : Int) (e : List (List L))
 | p1 (a : List (List L)) (b : Int) (c : List (List L)) (d : Int) (e : Int) (f : Int) (g : Int) (h : List (List L)) (i : RTrace)
def pid : Pt → Nat
 | .p0 .. => 3
 | .p1 .. => 7
def pvs : Pt → List V
 | .p0 a b c d e => [.sl none 124 a, .own 0, .sl none 124 b, .int .i64 c, .int .i64 d]
 | .p1 a b c d e f g h i => [.sl none 124 a, .own 0, .int .i64 b, .bptr 1 0, .sl none 124 c, .int .i64 d, .int .i64 e, .int .i64 f, .int .i64 g]
def phs : Pt → List Root
 | .p0 a b c d e => [.row 116 e]
 | .p1 a b c d e f g h i => [.row 116 h, .box [.sl none 149 i.fKnown.fChains, .sl none 158 i.fKnown.fForks, .int .i64 i.fCode, .str i.fEntry.fLabel, .int .i64 i.fEntry.fKind, .int .i64 i.fEntry.fValue, .sl none 9 i.fEntry.fPath, .sl none 3 i.fZones, .int .i64 i.fMoves]]
def step (J : Pt → Ans) : Pt → Ans
 | .p0 a b c d e => (bif (decide (d < c)) then (bif (decide ((0 : Int) ≤ d)) then (bif (decide (d < (b.length : Int))) then (call (Z45.R (RTrace.at b (Int.toNat d))) fun v1 => (bif v1 then J (.p0 a b c (IntKind.i64.wrap (d + 1)) e) else J (.p1 a d b c d (e.length : Int) 0 e (RTrace.at b (Int.toNat d))))) else none) else none) else ret (e : List (List L)))
 | .p1 a b c d e f g h i => (bif (decide (g < f)) then (bif (decide ((0 : Int) ≤ g)) then (bif (decide (g < (h.length : Int))) then (bif (decide ((0 : Int) < ((lAt h (Int.toNat g)).length : Int))) then (bif (decide ((0 : Int) ≤ (iAt (lAt h (Int.toNat g)) 0))) then (bif (decide ((iAt (lAt h (Int.toNat g)) 0) < (a.length : Int))) then (call (Z48.R ((RTrace.at a (Int.toNat (iAt (lAt h (Int.toNat g)) 0))), i)) fun v1 => (bif v1 then (bif (decide ((0 : Int) ≤ g)) then (bif (decide (g < (h.length : Int))) then (bif (lim ((((lAt h (Int.toNat g)).length : Int) + 1) * 8)) then (bif (decide ((0 : Int) ≤ g)) then (bif (decide (g < (h.length : Int))) then (bif (Nat.beq (Int.toNat g) (Int.toNat g) && true) then J (.p0 a c d (IntKind.i64.wrap (e + 1)) (List.set h (Int.toNat g) [L.sl ((lAt h (Int.toNat g)) ++ [[L.int b]])])) else none) else none) else none) else none) else none) else none) else J (.p1 a b c d e f (IntKind.i64.wrap (g + 1)) h i))) else none) else none) else none) else none) else none) else (bif (lim (((h.length : Int) + 1) * 24)) then J (.p0 a c d (IntKind.i64.wrap (e + 1)) (h ++ [[L.sl [[L.int b]]]])) else none))
def start (J : Pt → Ans) (x0 : List (List L)) : Ans := J (.p0 x0 x0 (x0.length : Int) 0 [])
def live : Nat → Live := fun i => match i with | 3 => [(0, none), (3, some 116), (8, none), (9, none), (10, none)] | 7 => [(0, none), (3, some 116), (4, none), (5, none), (8, none), (9, none), (10, none), (18, none), (19, none)] | _ => []
def pats : List Pat := [.rd (.sl 124)]
def res : RP := .one (.fr 116)
abbrev E : Env := { T := assoc Tab, G := conG [(95, Z45.con), (96, Z48.con)], nt := 51, M := conM [], mt := true }
theorem step_eq (I : Heads) (p : Pt) : enterC E live I (pid p) (bodyOf Try.f43) (stOf (live (pid p)) (pvs p) (phs p)) (doneK E Try.f43 res) = step (fun q => I (pid q) (pvs q) (phs q)) p := by
 cases p <;> kernel_rfl
theorem start_eq (I : Heads) (ls : List L) : runC E live I (bodyOf Try.f43) (initS pats ls) (doneK E Try.f43 res) = start (fun q => I (pid q) (pvs q) (phs q)) (ls.headD .hole).toSl := by kernel_rfl
theorem run_eq (n : Nat) (ls : List L) : runF E live Try.f43 res n (initS pats ls) = start (iter step n) (ls.headD .hole).toSl := runF_iter (id := pid) (vs := pvs) (hs := phs) (step := step) (start := fun J => start J (ls.headD .hole).toSl) step_eq (fun I => start_eq I ls) n
def md (a0 : List MTrace) : List (List Int) := Z37.grp a0 a0.length
def gd (a0 : List MTrace) : Prop := SmL (2 ^ 21) (fun y : MTrace => MTrace.Sm (2 ^ 21) y) a0
def acc (ls : List L) : List (List L) := (ls.headD .hole).toSl
def R : (List (List L)) → Option (List (List L)) := RR gd md
theorem R_eq {a0} (h : gd a0) : R (a0.map MTrace.row) = some ((md a0).map (lRow iRow)) := RR_eq (a := a0) h
def con : Con := CN pats res acc R
theorem okF (a0 : List MTrace) (hg : gd a0) : ∃ n, start (iter step n) (a0.map MTrace.row) = ret (((md a0).map (lRow iRow)) : List (List L)) := by
  unfold gd at hg
  have hl := hg.1
  have inner : ∀ (k : Nat) (out : List (List Int)) (X : Ans), k < a0.length → Z37.Inv a0 k out → (∃ m, iter step m (Pt.p0 (a0.map MTrace.row) (a0.map MTrace.row) (a0.length : Int) ((k + 1 : Nat) : Int) ((Z37.put a0 k (a0.getD k MTrace.zero) out).map (lRow iRow))) = X) →
      ∃ m, iter step m (Pt.p1 (a0.map MTrace.row) (k : Int) (a0.map MTrace.row) (a0.length : Int) (k : Int) (out.length : Int) 0 (out.map (lRow iRow)) (MTrace.r (a0.getD k MTrace.zero))) = X := by
    intro k out X hk hI hX
    have hol := hI.1
    have hs : ∀ (J : Pt → Ans) (j : Nat), j < out.length → step J (Pt.p1 (a0.map MTrace.row) (k : Int) (a0.map MTrace.row) (a0.length : Int) (k : Int) (out.length : Int) (j : Int) (out.map (lRow iRow)) (MTrace.r (a0.getD k MTrace.zero))) =
        (bif Z36.md (Z37.hd a0 (out.getD j [])) (a0.getD k MTrace.zero) then J (Pt.p0 (a0.map MTrace.row) (a0.map MTrace.row) (a0.length : Int) ((k + 1 : Nat) : Int) ((out.set j (out.getD j [] ++ [(k : Int)])).map (lRow iRow))) else J (Pt.p1 (a0.map MTrace.row) (k : Int) (a0.map MTrace.row) (a0.length : Int) (k : Int) (out.length : Int) ((j + 1 : Nat) : Int) (out.map (lRow iRow)) (MTrace.r (a0.getD k MTrace.zero)))) := by
      intro J j hj
      obtain ⟨p1, p2, p3, p4⟩ := hI.2.1 (out.getD j []) (by rw [getD_lt hj]; exact List.getElem_mem _)
      have q1 : (j : Int) < (out.length : Int) := by omega
      have q2 : (0 : Int) ≤ (j : Int) := by omega
      have q3 : (0 : Int) < ((out.getD j []).length : Int) := by omega
      have q8 : lim ((((out.getD j []).length : Int) + 1) * 8) = true := lim_t (by omega)
      have hr : Z48.R (MTrace.r (Z37.hd a0 (out.getD j [])), MTrace.r (a0.getD k MTrace.zero)) = some (Z36.md (Z37.hd a0 (out.getD j [])) (a0.getD k MTrace.zero)) := by
        unfold Z37.hd
        rw [Z48.R_eq ⟨SmL.getD hg (by omega), SmL.getD hg (by omega)⟩, Z48.br]
      unfold Z37.hd at hr ⊢
      simp only [step, S0, MTrace.rs, q1, q2, q3, p3, p4, q8, beq_t, decide_true, cond_true]
      rw [call_eq hr, wi _ (by omega), wi _ (by omega)]
      simp only [MP]
      rfl
    obtain ⟨n, hn, hlt, hcase⟩ := Z37.put_at a0 k (a0.getD k MTrace.zero) out
    have hend : ∀ (J : Pt → Ans), step J (Pt.p1 (a0.map MTrace.row) (k : Int) (a0.map MTrace.row) (a0.length : Int) (k : Int) (out.length : Int) (out.length : Int) (out.map (lRow iRow)) (MTrace.r (a0.getD k MTrace.zero))) =
        J (Pt.p0 (a0.map MTrace.row) (a0.map MTrace.row) (a0.length : Int) ((k + 1 : Nat) : Int) ((out ++ [[(k : Int)]]).map (lRow iRow))) := by
      intro J
      simp only [step, S0, MTrace.rs]
      rw [decide_eq_false (show ¬ (out.length : Int) < (out.length : Int) by omega), cond_false, lim_t (by omega), cond_true, wi _ (by omega)]
      simp only [MP]
      rfl
    obtain ⟨m, hm⟩ := hX
    have early : ∀ d j, j + d = n → ∃ m, iter step m (Pt.p1 (a0.map MTrace.row) (k : Int) (a0.map MTrace.row) (a0.length : Int) (k : Int) (out.length : Int) (j : Int) (out.map (lRow iRow)) (MTrace.r (a0.getD k MTrace.zero))) = X := by
      intro d
      induction d with
      | zero =>
        intro j hj
        obtain rfl : j = n := by omega
        rcases hcase with ⟨hnl, hsame, hput⟩ | ⟨rfl, hput⟩
        · refine ⟨m + 1, (hs _ j hnl).trans ?_⟩
          rw [hsame, cond_true, ← hput]
          exact hm
        · refine ⟨m + 1, (hend _).trans ?_⟩
          rw [← hput]
          exact hm
      | succ d ih =>
        intro j hj
        obtain ⟨m2, hm2⟩ := ih (j + 1) (by omega)
        refine ⟨m2 + 1, (hs _ j (by omega)).trans ?_⟩
        rw [hlt j (by omega), cond_false]
        exact hm2
    exact early n 0 (by omega)
  have outer : ∀ d k, k + d = a0.length → ∃ m, iter step m (Pt.p0 (a0.map MTrace.row) (a0.map MTrace.row) (a0.length : Int) (k : Int) ((Z37.grp a0 k).map (lRow iRow))) = ret ((Z37.grp a0 a0.length).map (lRow iRow) : List (List L)) := by
    intro d
    induction d with
    | zero =>
      intro k hk
      obtain rfl : k = a0.length := by omega
      refine ⟨1, ?_⟩
      show step (iter step 0) _ = _
      simp only [step, S0]
      exact no_ret (decide_eq_false (by omega)) rfl
    | succ d ih =>
      intro k hk
      have hX := ih (k + 1) (by omega)
      have hI := Z37.grp_inv a0 k (by omega)
      have hst : ∀ J : Pt → Ans, step J (Pt.p0 (a0.map MTrace.row) (a0.map MTrace.row) (a0.length : Int) (k : Int) ((Z37.grp a0 k).map (lRow iRow))) = (bif Z33.md (a0.getD k MTrace.zero) then J (Pt.p0 (a0.map MTrace.row) (a0.map MTrace.row) (a0.length : Int) ((k + 1 : Nat) : Int) ((Z37.grp a0 k).map (lRow iRow))) else J (Pt.p1 (a0.map MTrace.row) (k : Int) (a0.map MTrace.row) (a0.length : Int) (k : Int) ((Z37.grp a0 k).length : Int) 0 ((Z37.grp a0 k).map (lRow iRow)) (MTrace.r (a0.getD k MTrace.zero)))) := by
        intro J
        have q6 : (0 : Int) ≤ (k : Int) := by omega
        have q7 : (k : Int) < (a0.length : Int) := by omega
        have hr : Z45.R (MTrace.r (a0.getD k MTrace.zero)) = some (Z33.md (a0.getD k MTrace.zero)) := by
          rw [Z45.R_eq trivial, Z45.br]
        simp only [step, S0, MTrace.rs, q6, q7, decide_true, cond_true]
        rw [call_eq hr, wi _ (by omega)]
        rfl
      have eg : Z37.grp a0 (k + 1) = (bif Z33.md (a0.getD k MTrace.zero) then Z37.grp a0 k else Z37.put a0 k (a0.getD k MTrace.zero) (Z37.grp a0 k)) := rfl
      rw [eg] at hX
      cases hs : Z33.md (a0.getD k MTrace.zero)
      · rw [hs, cond_false] at hX
        obtain ⟨m, hm⟩ := inner k (Z37.grp a0 k) _ (by omega) hI hX
        refine ⟨m + 1, (hst _).trans ?_⟩
        rw [hs, cond_false]; exact hm
      · rw [hs, cond_true] at hX
        obtain ⟨m, hm⟩ := hX
        refine ⟨m + 1, (hst _).trans ?_⟩
        rw [hs, cond_true]; exact hm
  unfold start md
  simp only [S0]
  exact outer a0.length 0 (by omega)
theorem valid_ : Valid Try.prog Ev 43 con := VT (run := fun n x => start (iter step n) x) mix tab_ok (.cons Z45.valid_ (.cons Z48.valid_ .nil)) .nil Try.func43 (by kernel_rfl) run_eq (fun _ a _ _ hg => okF a hg)
theorem fa (a0 : List MTrace) : 0 < (md a0).length → 1 ≤ ((md a0).getD 0 []).length ∧ 0 ≤ ((md a0).getD 0 []).getD 0 0 ∧ ((md a0).getD 0 []).getD 0 0 < (a0.length : Int) := fun h => by
 have hI := (Z37.grp_inv a0 a0.length (Nat.le_refl _)).2.1 ((md a0).getD 0 []) (by rw [getD_lt h]; exact List.getElem_mem _)
 exact ⟨hI.1, hI.2.2.1, hI.2.2.2⟩
theorem br (a0 : List MTrace) : md a0 = Z37.md a0 := by
 unfold md Z37.md
 first
 | (simp only [Z45.br, Z48.br]; done)
 | (simp only [Z45.br, Z48.br]; rfl)
 | rfl
end Z49
namespace Z50
def F (x0 : List (List L)) : Ans := (bif x0.isEmpty then (either (ret ([] : List (List L))) ((bif (lim ((x0.length : Int) * 16)) then ret (x0 : List (List L)) else none))) else (bif (lim ((x0.length : Int) * 16)) then ret (x0 : List (List L)) else none))
def pats : List Pat := [.rd (.sl 9)]
def res : RP := .one (.fr 9)
def md (a0 : List ByteArray) : List ByteArray := a0
def gd (a0 : List ByteArray) : Prop := SmL (2 ^ 21) (fun y : ByteArray => y.size ≤ (2 ^ 21)) a0
def acc (ls : List L) : List (List L) := (ls.headD .hole).toSl
def R : (List (List L)) → Option (List (List L)) := RR gd md
theorem R_eq {a0} (h : gd a0) : R (a0.map sRow) = some ((md a0).map sRow) := RR_eq (a := a0) h
def con : Con := CN pats res acc R
theorem okF (a0 : List ByteArray) (hg : gd a0) : F (a0.map sRow) = ret (((md a0).map sRow) : List (List L)) := by
 have H0 := hg.1
 unfold F md
 have hl : lim (((a0.map sRow).length : Int) * 16) = true := lim_t (by simp only [List.length_map]; omega)
 simp only [hl, cond_true]
 cases a0 with
 | nil => exact either_same
 | cons x xs => rfl
theorem valid_ : Valid Try.prog Ev 84 con := VV (live := fun _ => []) (nt := 8) (run := fun _ x => F x) mix tab_ok .nil Try.func84 (by kernel_rfl) (fun _ _ => by kernel_rfl) (fun _ a _ _ hg => ⟨0, okF a hg⟩)
end Z50
namespace Z51
def F (x0 : REntry) : Ans := (call (Z50.R x0.fPath) fun v1 => ret ((⟨x0.fLabel, x0.fKind, x0.fValue, v1⟩ : REntry) : REntry))
def pats : List Pat := [.agg [.str, .int .i64, .int .i64, .sl 9]]
def res : RP := .agg [.rd (.str), .rd (.int .i64), .rd (.int .i64), .fr 9]
def md (a0 : MEntry) : MEntry := a0
def gd (a0 : MEntry) : Prop := (MEntry.Sm (2 ^ 21) a0)
def acc (ls : List L) : REntry := (REntry.dec ls)
def R : REntry → Option REntry := RR gd md
theorem R_eq {a0} (h : gd a0) : R (MEntry.r a0) = some (MEntry.r (md a0)) := RR_eq (a := a0) h
def con : Con := CN pats res acc R
theorem okF (a0 : MEntry) (hg : gd a0) : F (MEntry.r a0) = ret ((MEntry.r (md a0)) : REntry) := by
  unfold gd at hg
  have H0 := hg
  unfold F md
  try simp only [S0, MEntry.rs]
  refine call_to (a0.fPath.map sRow) ?_ ?_
  · have R_ := Z50.R_eq (a0 := a0.fPath) H0.2
    simp only [Z50.md] at R_
    first | exact R_ | (simp only [MP, S0, MEntry.rs] at R_ ⊢; first | exact R_ | (rw [← R_]; rfl))
  try simp only [S0, MEntry.rs]
  all_goals first | rfl | (simp only [S0, MEntry.rs]; done) | (simp only [MP]; rfl) | (simp only [S0, MEntry.rs, MP]; first | done | rfl)
theorem valid_ : Valid Try.prog Ev 85 con := VV (live := fun _ => []) (nt := 8) (run := fun _ x => F x) mix tab_ok (.cons Z50.valid_ .nil) Try.func85 (by kernel_rfl) (fun _ _ => by kernel_rfl) (fun _ a _ _ hg => ⟨0, okF a hg⟩)
end Z51
namespace Z52
inductive Pt where
 | p0 (a : List (List L)) (b : Int) (c : Int) (d : List (List L)) (e : List (List L))
def pid : Pt → Nat
 | .p0 .. => 6
def pvs : Pt → List V
 | .p0 a b c d e => [.sl none 124 a, .own 0, .own 1, .int .i64 b, .int .i64 c]
def phs : Pt → List Root
 | .p0 a b c d e => [.row 50 d, .row 116 e]
def step (J : Pt → Ans) : Pt → Ans
 | .p0 a b c d e => (bif (decide (c < b)) then (bif (decide ((0 : Int) ≤ c)) then (bif (decide (c < (e.length : Int))) then (bif (decide ((0 : Int) < ((lAt e (Int.toNat c)).length : Int))) then (bif (decide ((0 : Int) ≤ (iAt (lAt e (Int.toNat c)) 0))) then (bif (decide ((iAt (lAt e (Int.toNat c)) 0) < (a.length : Int))) then (bif ((RTrace.at a (Int.toNat (iAt (lAt e (Int.toNat c)) 0))).fCode == 1) then (call (Z51.R ((RTrace.at a (Int.toNat (iAt (lAt e (Int.toNat c)) 0))).fEntry)) fun v1 => (bif (lim (((d.length : Int) + 1) * 56)) then J (.p0 a b (IntKind.i64.wrap (c + 1)) (d ++ [(REntry.enc v1)]) e) else none)) else J (.p0 a b (IntKind.i64.wrap (c + 1)) d e)) else none) else none) else none) else none) else none) else ret (d : List (List L)))
def start (J : Pt → Ans) (x0 : List (List L)) : Ans := (call (Z49.R x0) fun v1 => (bif (decide ((v1.length : Int) < 2)) then ret ([] : List (List L)) else J (.p0 x0 (v1.length : Int) 0 [] v1)))
def live : Nat → Live := fun i => match i with | 6 => [(0, none), (4, some 50), (15, none), (16, none), (17, none)] | _ => []
def pats : List Pat := [.rd (.sl 124)]
def res : RP := .one (.fr 50)
abbrev E : Env := { T := assoc Tab, G := conG [(43, Z49.con), (85, Z51.con)], nt := 38 }
theorem step_eq (I : Heads) (p : Pt) : enterC E live I (pid p) (bodyOf Try.f49) (stOf (live (pid p)) (pvs p) (phs p)) (doneK E Try.f49 res) = step (fun q => I (pid q) (pvs q) (phs q)) p := by
 cases p <;> kernel_rfl
theorem start_eq (I : Heads) (ls : List L) : runC E live I (bodyOf Try.f49) (initS pats ls) (doneK E Try.f49 res) = start (fun q => I (pid q) (pvs q) (phs q)) (ls.headD .hole).toSl := by kernel_rfl
theorem run_eq (n : Nat) (ls : List L) : runF E live Try.f49 res n (initS pats ls) = start (iter step n) (ls.headD .hole).toSl := runF_iter (id := pid) (vs := pvs) (hs := phs) (step := step) (start := fun J => start J (ls.headD .hole).toSl) step_eq (fun I => start_eq I ls) n
def md (a0 : List MTrace) : List MEntry := (bif decide ((Z37.md a0).length > 1) then (Z37.md a0).flatMap (Z40.dis a0) else [])
def gd (a0 : List MTrace) : Prop := SmL (2 ^ 21) (fun y : MTrace => MTrace.Sm (2 ^ 21) y) a0
def acc (ls : List L) : List (List L) := (ls.headD .hole).toSl
def R : (List (List L)) → Option (List (List L)) := RR gd md
theorem R_eq {a0} (h : gd a0) : R (a0.map MTrace.row) = some ((md a0).map MEntry.row) := RR_eq (a := a0) h
def con : Con := CN pats res acc R
theorem okF (a0 : List MTrace) (hg : gd a0) : ∃ n, start (iter step n) (a0.map MTrace.row) = ret (((md a0).map MEntry.row) : List (List L)) := by
  unfold gd at hg
  have hl := hg.1
  have hI := Z37.grp_inv a0 a0.length (Nat.le_refl _)
  have key : ∀ (G : List (List Int)), Z37.Inv a0 a0.length G → 1 < G.length → ∀ d k (c : List MEntry), k + d = G.length → c.length ≤ k → ∃ m, iter step m (Pt.p0 (a0.map MTrace.row) (G.length : Int) (k : Int) (c.map MEntry.row) (G.map (lRow iRow))) = ret ((c ++ (G.drop k).flatMap (Z40.dis a0)).map MEntry.row : List (List L)) := by
    intro G hG h1 d
    have hGl := hG.1
    induction d with
    | zero =>
      intro k c hk hc
      obtain rfl : k = G.length := by omega
      refine ⟨1, ?_⟩
      show step (iter step 0) _ = _
      simp only [step, S0]
      refine no_ret (decide_eq_false (by omega)) ?_
      rw [List.drop_eq_nil_of_le (Nat.le_refl _), List.flatMap_nil, List.append_nil]
    | succ d ih =>
      intro k c hk hc
      have hlt : k < G.length := by omega
      obtain ⟨p1, p2, p3, p4⟩ := hG.2.1 (G.getD k []) (by rw [getD_lt hlt]; exact List.getElem_mem _)
      have q1 : (k : Int) < (G.length : Int) := by omega
      have q2 : (0 : Int) ≤ (k : Int) := by omega
      have q3 : (0 : Int) < ((G.getD k []).length : Int) := by omega
      have q5 : lim (((c.length : Int) + 1) * 56) = true := lim_t (by omega)
      have hdr : (G.drop k).flatMap (Z40.dis a0) = Z40.dis a0 (G.getD k []) ++ (G.drop (k + 1)).flatMap (Z40.dis a0) := by
        rw [List.drop_eq_getElem_cons hlt, List.flatMap_cons, getD_lt hlt]
      have hst : ∀ J : Pt → Ans, step J (Pt.p0 (a0.map MTrace.row) (G.length : Int) (k : Int) (c.map MEntry.row) (G.map (lRow iRow))) = J (Pt.p0 (a0.map MTrace.row) (G.length : Int) ((k + 1 : Nat) : Int) ((c ++ Z40.dis a0 (G.getD k [])).map MEntry.row) (G.map (lRow iRow))) := by
        intro J
        unfold Z40.dis Z37.hd
        simp only [step, S0, MTrace.rs, q1, q2, q3, q5, p3, p4, decide_true, cond_true]
        rw [wi _ (by omega)]
        cases ((a0.getD (Int.toNat ((G.getD k []).getD 0 0)) MTrace.zero).fCode == 1)
        · simp only [cond_false, List.append_nil]
          rfl
        · simp only [cond_true]
          rw [call_eq (Z51.R_eq (a0 := (a0.getD (Int.toNat ((G.getD k []).getD 0 0)) MTrace.zero).fEntry) (SmL.getD (z := MTrace.zero) hg (by omega)).2.1)]
          simp only [MP]
          rfl
      obtain ⟨m, hm⟩ := ih (k + 1) (c ++ Z40.dis a0 (G.getD k [])) (by omega) (by have := Z40.dis_len a0 (G.getD k []); rw [List.length_append]; omega)
      refine ⟨m + 1, (hst _).trans ?_⟩
      rw [hdr, ← List.append_assoc]
      exact hm
  have hr := Z49.R_eq (a0 := a0) hg
  rw [Z49.br] at hr
  unfold start md
  refine ex_call_to ((Z37.md a0).map (lRow iRow)) hr ?_
  by_cases h1 : (Z37.md a0).length > 1
  · obtain ⟨m, hm⟩ := key (Z37.md a0) hI h1 (Z37.md a0).length 0 [] (by omega) (Nat.le_refl _)
    refine ⟨m, ?_⟩
    rw [decide_eq_true h1, cond_true]
    simp only [S0]
    rw [decide_eq_false (by omega), cond_false]
    exact hm
  · refine ⟨0, ?_⟩
    rw [decide_eq_false h1, cond_false]
    simp only [S0]
    rw [decide_eq_true (by omega), cond_true]
    rfl
theorem valid_ : Valid Try.prog Ev 49 con := VV (run := fun n x => start (iter step n) x) mix tab_ok (.cons Z49.valid_ (.cons Z51.valid_ .nil)) Try.func49 (by kernel_rfl) run_eq (fun _ a _ _ hg => okF a hg)
theorem br (a0 : List MTrace) : md a0 = Z40.md a0 := by
 unfold md Z40.md
 first
 | (simp only [Z49.br]; done)
 | (simp only [Z49.br]; rfl)
 | rfl
end Z52
namespace Z53
def F (x0 : List (List L)) (x1 : List (List L)) : Ans := (call (Z46.R (x0, x1)) fun v1 => ret (v1 : Bool))
def pats : List Pat := [.rd (.sl 9), .rd (.sl 9)]
def res : RP := .one (.rd (.bool))
def md (a0 : List ByteArray) (a1 : List ByteArray) : Bool := ((Z46.md a0 a1) : Bool)
def gd (a0 : List ByteArray) (a1 : List ByteArray) : Prop := (SmL (2 ^ 21) (fun y : ByteArray => y.size ≤ (2 ^ 21)) a0) ∧ (SmL (2 ^ 21) (fun y : ByteArray => y.size ≤ (2 ^ 21)) a1)
def acc (ls : List L) : List (List L) × List (List L) := ((ls.headD .hole).toSl, ((dropT 1 ls).headD .hole).toSl)
def R : (List (List L) × List (List L)) → Option Bool := RR (p2 gd) (u2 md)
theorem R_eq {a0} {a1} (h : gd a0 a1) : R ((a0.map sRow), (a1.map sRow)) = some (md a0 a1) := RR_eq (a := (a0, a1)) h
def con : Con := CN pats res acc R
theorem okF (a0 : List ByteArray) (a1 : List ByteArray) (hg : gd a0 a1) : F (a0.map sRow) (a1.map sRow) = ret ((md a0 a1) : Bool) := by
 unfold gd at hg
 obtain ⟨H0, H1⟩ := hg
 unfold F md
 try simp only [S0]
 refine call_to (Z46.md a0 a1) (Z46.R_eq (a0 := a0) (a1 := a1) ⟨H0, H1⟩) ?_
 all_goals first | rfl | (simp only [S0, MP]; first | done | rfl)
theorem valid_ : Valid Try.prog Ev 119 con := VV (live := fun _ => []) (nt := 8) (run := fun _ x => F x.1 x.2) mix tab_ok (.cons Z46.valid_ .nil) Try.func119 (by kernel_rfl) (fun _ _ => by kernel_rfl) (fun _ a _ _ hg => ⟨0, okF a.1 a.2 hg⟩)
end Z53
namespace Z54
def F (x0 : RChoice) (x1 : List L) : Ans := (call (Z53.R (x0.fPath, (lDec x1))) fun v1 => ret (v1 : Bool))
def pats : List Pat := [.agg [.sl 9, .str, .int .i64, .int .i64, .sl 9], .ptr [.sl 9]]
def res : RP := .one (.rd (.bool))
def md (a0 : MChoice) (a1 : List ByteArray) : Bool := ((Z53.md a0.fPath a1) : Bool)
def gd (a0 : MChoice) (a1 : List ByteArray) : Prop := (MChoice.Sm (2 ^ 21) a0) ∧ (SmL (2 ^ 21) (fun y : ByteArray => y.size ≤ (2 ^ 21)) a1)
def acc (ls : List L) : RChoice × List (List L) := ((RChoice.dec ls), (lDec (padL 1 (dropT 5 ls))))
def R : (RChoice × List (List L)) → Option Bool := RR (p2 gd) (u2 md)
theorem R_eq {a0} {a1} (h : gd a0 a1) : R ((MChoice.r a0), (a1.map sRow)) = some (md a0 a1) := RR_eq (a := (a0, a1)) h
def con : Con := CN pats res acc R
theorem okF (a0 : MChoice) (a1 : List ByteArray) (p1 : List L) (e1 : (a1.map sRow) = (lDec p1)) (hg : gd a0 a1) : F (MChoice.r a0) p1 = ret ((md a0 a1) : Bool) := by
 unfold gd at hg
 obtain ⟨H0, H1⟩ := hg
 unfold F md
 try simp only [S0, MEntry.rs, MChoice.rs, ← e1]
 refine call_to (Z53.md a0.fPath a1) (Z53.R_eq (a0 := a0.fPath) (a1 := a1) ⟨H0.1, H1⟩) ?_
 all_goals first | rfl | (simp only [S0, MEntry.rs, MChoice.rs, ← e1, MP]; first | done | rfl)
theorem okV (ls : List L) (a : MChoice × List ByteArray) (e : acc ls = Im.im a) (hg : (p2 gd) a) : ∃ n : Nat, F (RChoice.dec ls) (padL 1 (dropT 5 ls)) = ret (Im.im ((u2 md) a)) := by
 have e0 : (MChoice.r a.1) = (RChoice.dec ls) := (congrArg (fun x => x.1) e.symm)
 have hn := okF a.1 a.2 (padL 1 (dropT 5 ls)) (congrArg (fun x => x.2) e.symm) hg
 refine ⟨0, ?_⟩
 rw [← e0]
 exact hn
theorem valid_ : Valid Try.prog Ev 118 con := VP (live := fun _ => []) (nt := 8) (accr := fun ls => ((RChoice.dec ls), (padL 1 (dropT 5 ls)))) (run := fun _ x => F x.1 x.2) mix tab_ok (.cons Z53.valid_ .nil) Try.func118 (by kernel_rfl) (fun _ _ => by kernel_rfl) (fun ls a _ e hg => okV ls a e hg)
end Z54
namespace Z55
inductive Pt where
 | p0 (a : List (List L)) (b : List L) (c : Int) (d : Int)
def pid : Pt → Nat
 | .p0 .. => 2
def pvs : Pt → List V
 | .p0 a b c d => [.sl none 106 a, .fn 118 [.cptr none [.sl 9] b 0], .int .i64 c, .int .i64 d]
def phs : Pt → List Root
 | .p0 a b c d => []
def step (J : Pt → Ans) : Pt → Ans
 | .p0 a b c d => (bif (decide (d < c)) then (bif (decide ((0 : Int) ≤ d)) then (bif (decide (d < (a.length : Int))) then (call (Z54.R ((RChoice.at a (Int.toNat d)), (lDec b))) fun v1 => (bif v1 then ret (d : Int) else J (.p0 a b c (IntKind.i64.wrap (d + 1))))) else none) else none) else ret ((-1) : Int))
def start (J : Pt → Ans) (x0 : List (List L)) (x1 : List L) : Ans := J (.p0 x0 x1 (x0.length : Int) 0)
def live : Nat → Live := fun i => match i with | 2 => [(0, none), (1, none), (7, none), (8, none)] | _ => []
def pats : List Pat := [.rd (.sl 106), .fn 118 [[.sl 9]]]
def res : RP := .one (.rd (.int .i64))
abbrev E : Env := { T := assoc Tab, G := conG [(118, Z54.con)], nt := 19 }
theorem step_eq (I : Heads) (p : Pt) : enterC E live I (pid p) (bodyOf Try.f117) (stOf (live (pid p)) (pvs p) (phs p)) (doneK E Try.f117 res) = step (fun q => I (pid q) (pvs q) (phs q)) p := by
 cases p <;> kernel_rfl
theorem start_eq (I : Heads) (ls : List L) : runC E live I (bodyOf Try.f117) (initS pats ls) (doneK E Try.f117 res) = start (fun q => I (pid q) (pvs q) (phs q)) (ls.headD .hole).toSl (padL 1 (dropT 1 ls)) := by kernel_rfl
theorem run_eq (n : Nat) (ls : List L) : runF E live Try.f117 res n (initS pats ls) = start (iter step n) (ls.headD .hole).toSl (padL 1 (dropT 1 ls)) := runF_iter (id := pid) (vs := pvs) (hs := phs) (step := step) (start := fun J => start J (ls.headD .hole).toSl (padL 1 (dropT 1 ls))) step_eq (fun I => start_eq I ls) n
def md (a0 : List MChoice) (a1 : List ByteArray) : Int := (eachI (S := Unit) (β := Int) (fun (i1 : Nat) (y1 : MChoice) (s3 : Unit) => (bif (Z54.md y1 a1) then (.inr ((i1 : Int) : Int)) else (.inl ()))) (fun (s3 : Unit) => ((-1) : Int)) 0 a0 ())
def gd (a0 : List MChoice) (a1 : List ByteArray) : Prop := (SmL (2 ^ 21) (fun y : MChoice => MChoice.Sm (2 ^ 21) y) a0) ∧ (SmL (2 ^ 21) (fun y : ByteArray => y.size ≤ (2 ^ 21)) a1)
def acc (ls : List L) : List (List L) × List (List L) := ((ls.headD .hole).toSl, (lDec (padL 1 (dropT 1 ls))))
def R : (List (List L) × List (List L)) → Option Int := RR (p2 gd) (u2 md)
theorem R_eq {a0} {a1} (h : gd a0 a1) : R ((a0.map MChoice.row), (a1.map sRow)) = some (md a0 a1) := RR_eq (a := (a0, a1)) h
def con : Con := CN pats res acc R
theorem okF (a0 : List MChoice) (a1 : List ByteArray) (p1 : List L) (e1 : (a1.map sRow) = (lDec p1)) (hg : gd a0 a1) : ∃ n, start (iter step n) (a0.map MChoice.row) p1 = ret ((md a0 a1) : Int) := by
  unfold gd at hg
  obtain ⟨H0, H1⟩ := hg
  unfold start md
  try simp only [S0, MChoice.rs, ← e1]
  have Bh2 : a0.length ≤ maxLen := (by
      have := (H0).1
      try simp only [maxLen] at *
      omega)
  refine ex_eq (out := ret) (loopM_eachI (z := MChoice.zero)) ?_
  refine ex_pt (p := Pt.p0 (a0.map MChoice.row) p1 (a0.length : Int) 0) (by first | rfl | (simp only [S0, MChoice.rs, ← e1, MP]; done) | (simp only [MP]; rfl)) ?_
  refine loopM_ok (pt := fun (i1 : Nat) (s3 : Unit) => Pt.p0 (a0.map MChoice.row) p1 (a0.length : Int) (i1 : Int)) (s := (() : Unit)) (out := ret) (fun _ _ => True) (fun J i1 s3 h2 hih2 => ?_) (fun s3 hih2 => ?_) trivial
  · simp only [step, S0, MChoice.rs, ← e1]
    have bb_ := Bh2
    simp only [maxLen] at bb_
    have := (H0).1
    refine Rnd.yes (by apply decide_eq_true; omega) ?_
    refine Rnd.yes zle_dec ?_
    refine Rnd.yes (lt_dec h2) ?_
    refine Rnd.call_to (Z54.md (a0.getD i1 MChoice.zero) a1) (Z54.R_eq (a0 := (a0.getD i1 MChoice.zero)) (a1 := a1) ⟨(SmL.getD (z := MChoice.zero) H0 h2), H1⟩) ?_
    refine Rnd.bif (fun c4 => ?_) (fun c4 => ?_)
    · refine Rnd.inr ?_
      all_goals first | rfl | (simp only [S0, MChoice.rs, ← e1, MP]; first | done | rfl)
    · refine Rnd.inl trivial ?_
      rw [wrap_succ h2 Bh2]
      all_goals first | rfl | (simp only [S0, MChoice.rs, ← e1, MP]; first | done | rfl)
  · simp only [step, S0, MChoice.rs, ← e1]
    have := (H0).1
    refine ex_no (by apply decide_eq_false; omega) ?_
    refine ⟨0, ?_⟩
    all_goals first | rfl | (simp only [S0, MChoice.rs, ← e1, MP]; first | done | rfl)
theorem okV (ls : List L) (a : List MChoice × List ByteArray) (e : acc ls = Im.im a) (hg : (p2 gd) a) : ∃ n : Nat, start (iter step n) ((ls.headD .hole).toSl) (padL 1 (dropT 1 ls)) = ret (Im.im ((u2 md) a)) := by
 have e0 : (a.1.map MChoice.row) = (ls.headD .hole).toSl := (congrArg (fun x => x.1) e.symm)
 obtain ⟨n, hn⟩ := okF a.1 a.2 (padL 1 (dropT 1 ls)) (congrArg (fun x => x.2) e.symm) hg
 refine ⟨n, ?_⟩
 rw [← e0]
 exact hn
theorem valid_ : Valid Try.prog Ev 117 con := VP (accr := fun ls => ((ls.headD .hole).toSl, (padL 1 (dropT 1 ls)))) (run := fun n x => start (iter step n) x.1 x.2) mix tab_ok (.cons Z54.valid_ .nil) Try.func117 (by kernel_rfl) run_eq (fun ls a _ e hg => okV ls a e hg)
theorem fa (a0 : List MChoice) (a1 : List ByteArray) : -1 ≤ md a0 a1 ∧ md a0 a1 < (a0.length : Int) := by
 unfold md
 refine eachI_fa0 ?_ _ _
 all_goals
  intro i x s b h
  revert h
  simp only [Bool.cond_eq_ite]
  repeat' split
  all_goals (intro h; first | (cases h; rfl) | cases h)
theorem idx_eq (a0 : List MChoice) (a1 : List ByteArray) : md a0 a1 = findI (fun y => Z54.md y a1) 0 a0 := by
 unfold md
 exact eachI_find
end Z55
namespace Z56
def F (x0 : List (List L)) (x1 : List (List L)) : Ans := (call (Z55.R (x0, x1)) fun v1 => ret (v1 : Int))
def pats : List Pat := [.rd (.sl 106), .rd (.sl 9)]
def res : RP := .one (.rd (.int .i64))
def md (a0 : List MChoice) (a1 : List ByteArray) : Int := ((Z55.md a0 a1) : Int)
def gd (a0 : List MChoice) (a1 : List ByteArray) : Prop := (SmL (2 ^ 21) (fun y : MChoice => MChoice.Sm (2 ^ 21) y) a0) ∧ (SmL (2 ^ 21) (fun y : ByteArray => y.size ≤ (2 ^ 21)) a1)
def acc (ls : List L) : List (List L) × List (List L) := ((ls.headD .hole).toSl, ((dropT 1 ls).headD .hole).toSl)
def R : (List (List L) × List (List L)) → Option Int := RR (p2 gd) (u2 md)
theorem R_eq {a0} {a1} (h : gd a0 a1) : R ((a0.map MChoice.row), (a1.map sRow)) = some (md a0 a1) := RR_eq (a := (a0, a1)) h
def con : Con := CN pats res acc R
theorem okF (a0 : List MChoice) (a1 : List ByteArray) (hg : gd a0 a1) : F (a0.map MChoice.row) (a1.map sRow) = ret ((md a0 a1) : Int) := by
 unfold gd at hg
 obtain ⟨H0, H1⟩ := hg
 unfold F md
 try simp only [S0]
 refine call_to (Z55.md a0 a1) (Z55.R_eq (a0 := a0) (a1 := a1) ⟨H0, H1⟩) ?_
 have fv1_ := Z55.fa a0 a1
 all_goals first | rfl | (simp only [S0, MP]; first | done | rfl)
theorem valid_ : Valid Try.prog Ev 86 con := VV (live := fun _ => []) (nt := 8) (run := fun _ x => F x.1 x.2) mix tab_ok (.cons Z55.valid_ .nil) Try.func86 (by kernel_rfl) (fun _ _ => by kernel_rfl) (fun _ a _ _ hg => ⟨0, okF a.1 a.2 hg⟩)
theorem fa (a0 : List MChoice) (a1 : List ByteArray) : -1 ≤ md a0 a1 ∧ md a0 a1 < (a0.length : Int) := by unfold md; exact Z55.fa _ _
theorem br (a0 : List MChoice) (a1 : List ByteArray) : md a0 a1 = Z41.md a0 a1 := by
 unfold md Z41.md
 first
 | (simp only [Z55.idx_eq, Z34.md_eq]; done)
 | (simp only [Z55.idx_eq, Z34.md_eq]; rfl)
 | rfl
end Z56
namespace Z57
def F (x0 : List (List L)) (x1 : List (List L)) : Ans := (call (Z56.R (x0, x1)) fun v1 => (bif (decide (v1 < 0)) then ret (((⟨(⟨#[]⟩ : ByteArray), 0, 0, []⟩ : REntry), false) : REntry × Bool) else (bif (decide ((0 : Int) ≤ v1)) then (bif (decide (v1 < (x0.length : Int))) then (call (Z51.R ((RChoice.at x0 (Int.toNat v1)).fEntry)) fun v2 => ret ((v2, true) : REntry × Bool)) else none) else none)))
def pats : List Pat := [.rd (.sl 106), .rd (.sl 9)]
def res : RP := .tup [(true, [.rd (.str), .rd (.int .i64), .rd (.int .i64), .fr 9]), (false, [.rd (.bool)])]
def md (a0 : List MChoice) (a1 : List ByteArray) : MEntry × Bool := (bif (decide ((Z56.md a0 a1) < 0)) then ((⟨((⟨#[]⟩ : ByteArray) : ByteArray), 0, 0, []⟩ : MEntry), false) else (((a0.getD (Int.toNat (Z56.md a0 a1)) MChoice.zero).fEntry), true))
def gd (a0 : List MChoice) (a1 : List ByteArray) : Prop := (SmL (2 ^ 21) (fun y : MChoice => MChoice.Sm (2 ^ 21) y) a0) ∧ (SmL (2 ^ 21) (fun y : ByteArray => y.size ≤ (2 ^ 21)) a1)
def acc (ls : List L) : List (List L) × List (List L) := ((ls.headD .hole).toSl, ((dropT 1 ls).headD .hole).toSl)
def R : (List (List L) × List (List L)) → Option (REntry × Bool) := RR (p2 gd) (u2 md)
theorem R_eq {a0} {a1} (h : gd a0 a1) : R ((a0.map MChoice.row), (a1.map sRow)) = some ((MEntry.r (md a0 a1).1), (md a0 a1).2) := RR_eq (a := (a0, a1)) h
def con : Con := CN pats res acc R
theorem okF (a0 : List MChoice) (a1 : List ByteArray) (hg : gd a0 a1) : F (a0.map MChoice.row) (a1.map sRow) = ret (((MEntry.r (md a0 a1).1), (md a0 a1).2) : REntry × Bool) := by
  unfold gd at hg
  obtain ⟨H0, H1⟩ := hg
  unfold F md
  try simp only [S0, MChoice.rs]
  refine call_to (Z56.md a0 a1) (Z56.R_eq (a0 := a0) (a1 := a1) ⟨H0, H1⟩) ?_
  have fv1_ := Z56.fa a0 a1
  refine bif_out (fun b : MEntry × Bool => ret (((MEntry.r b.1), b.2) : REntry × Bool)) (fun c1 => ?_) (fun c1 => ?_)
  · all_goals first | rfl | (simp only [S0, MChoice.rs]; done) | (simp only [MP]; rfl) | (simp only [S0, MChoice.rs, MP]; first | done | rfl)
  · have dc1 := c1
    try simp only [DC] at dc1
    refine yes_ret (by
        refine decide_eq_true ?_
        try simp (disch := omega) only [LN, wi]
        first | omega | (simp; done) | (simp; omega)) ?_
    refine yes_ret (by
        have := (H0).1
        refine decide_eq_true ?_
        try simp (disch := omega) only [LN, wi]
        first | omega | (simp; done) | (simp; omega)) ?_
    refine call_to (MEntry.r ((a0.getD (Int.toNat (Z56.md a0 a1)) MChoice.zero).fEntry)) ?_ ?_
    · have R_ := Z51.R_eq (a0 := (a0.getD (Int.toNat (Z56.md a0 a1)) MChoice.zero).fEntry) (SmL.getD (z := MChoice.zero) H0 (by first | assumption | omega | (simp (disch := omega) only [wi]; omega) | (simp; omega))).2
      simp only [Z51.md] at R_
      first | exact R_ | (simp only [MP, S0, MChoice.rs] at R_ ⊢; first | exact R_ | (rw [← R_]; rfl))
    try simp only [S0, MChoice.rs]
    all_goals first | rfl | (simp only [S0, MChoice.rs]; done) | (simp only [MP]; rfl) | (simp only [S0, MChoice.rs, MP]; first | done | rfl)
theorem valid_ : Valid Try.prog Ev 104 con := VV (live := fun _ => []) (nt := 19) (run := fun _ x => F x.1 x.2) mix tab_ok (.cons Z56.valid_ (.cons Z51.valid_ .nil)) Try.func104 (by kernel_rfl) (fun _ _ => by kernel_rfl) (fun _ a _ _ hg => ⟨0, okF a.1 a.2 hg⟩)
theorem sm0 {a0 : List MChoice} {a1 : List ByteArray} (hg : gd a0 a1) : MEntry.Sm (2 ^ 21) ((md a0 a1).1) := by
  unfold gd at hg; unfold md
  have hf := Z56.fa a0 a1
  cases h : decide (Z56.md a0 a1 < 0)
  · simp only [decide_eq_false_iff_not] at h
    exact (SmL.getD hg.1 (by omega)).2
  · exact ⟨(Nat.zero_le _), SmL.nil⟩
theorem br (a0 : List MChoice) (a1 : List ByteArray) : md a0 a1 = Z42.md a0 a1 := by
 unfold md Z42.md
 first
 | (simp only [Z56.br]; done)
 | (simp only [Z56.br]; rfl)
 | rfl
end Z57
namespace Z58
def F (x0 : RTrace) (x1 : List L) : Ans := (bif (x0.fCode == 1) then (call (Z47.R (x0.fEntry, (REntry.dec x1))) fun v1 => ret (v1 : Bool)) else ret (false : Bool))
def pats : List Pat := [.agg [.sl 149, .sl 158, .int .i64, .str, .int .i64, .int .i64, .sl 9, .sl 3, .int .i64], .ptr [.str, .int .i64, .int .i64, .sl 9]]
def res : RP := .one (.rd (.bool))
def md (a0 : MTrace) (a1 : MEntry) : Bool := (bif (a0.fCode == 1) then ((Z47.md a0.fEntry a1) : Bool) else (false : Bool))
def gd (a0 : MTrace) (a1 : MEntry) : Prop := (MTrace.Sm (2 ^ 21) a0) ∧ (MEntry.Sm (2 ^ 21) a1)
def acc (ls : List L) : RTrace × REntry := ((RTrace.dec ls), (REntry.dec (padL 4 (dropT 9 ls))))
def R : (RTrace × REntry) → Option Bool := RR (p2 gd) (u2 md)
theorem R_eq {a0} {a1} (h : gd a0 a1) : R ((MTrace.r a0), (MEntry.r a1)) = some (md a0 a1) := RR_eq (a := (a0, a1)) h
def con : Con := CN pats res acc R
theorem okF (a0 : MTrace) (a1 : MEntry) (p1 : List L) (e1 : (MEntry.r a1) = (REntry.dec p1)) (hg : gd a0 a1) : F (MTrace.r a0) p1 = ret ((md a0 a1) : Bool) := by
 unfold gd at hg
 obtain ⟨H0, H1⟩ := hg
 unfold F md
 try simp only [S0, MTrace.rs, ← e1]
 refine bif_out ret (fun c1 => ?_) (fun _ => rfl)
 refine call_to (Z47.md a0.fEntry a1) (Z47.R_eq (a0 := a0.fEntry) (a1 := a1) ⟨H0.2.1, H1⟩) ?_
 all_goals first | rfl | (simp only [S0, MTrace.rs, ← e1, MP]; first | done | rfl)
theorem okV (ls : List L) (a : MTrace × MEntry) (e : acc ls = Im.im a) (hg : (p2 gd) a) : ∃ n : Nat, F (RTrace.dec ls) (padL 4 (dropT 9 ls)) = ret (Im.im ((u2 md) a)) := by
 have e0 : (MTrace.r a.1) = (RTrace.dec ls) := (congrArg (fun x => x.1) e.symm)
 have hn := okF a.1 a.2 (padL 4 (dropT 9 ls)) (congrArg (fun x => x.2) e.symm) hg
 refine ⟨0, ?_⟩
 rw [← e0]
 exact hn
theorem valid_ : Valid Try.prog Ev 106 con := VP (live := fun _ => []) (nt := 13) (accr := fun ls => ((RTrace.dec ls), (padL 4 (dropT 9 ls)))) (run := fun _ x => F x.1 x.2) mix tab_ok (.cons Z47.valid_ .nil) Try.func106 (by kernel_rfl) (fun _ _ => by kernel_rfl) (fun ls a _ e hg => okV ls a e hg)
end Z58
namespace Z59
inductive Pt where
 | p0 (a : List (List L)) (b : List L) (c : Int) (d : Int)
def pid : Pt → Nat
 | .p0 .. => 2
def pvs : Pt → List V
 | .p0 a b c d => [.sl none 124 a, .fn 106 [.cptr none [.str, .int .i64, .int .i64, .sl 9] b 0], .int .i64 c, .int .i64 d]
def phs : Pt → List Root
 | .p0 a b c d => []
def step (J : Pt → Ans) : Pt → Ans
 | .p0 a b c d => (bif (decide (d < c)) then (bif (decide ((0 : Int) ≤ d)) then (bif (decide (d < (a.length : Int))) then (call (Z58.R ((RTrace.at a (Int.toNat d)), (REntry.dec b))) fun v1 => (bif v1 then ret (d : Int) else J (.p0 a b c (IntKind.i64.wrap (d + 1))))) else none) else none) else ret ((-1) : Int))
def start (J : Pt → Ans) (x0 : List (List L)) (x1 : List L) : Ans := J (.p0 x0 x1 (x0.length : Int) 0)
def live : Nat → Live := fun i => match i with | 2 => [(0, none), (1, none), (7, none), (8, none)] | _ => []
def pats : List Pat := [.rd (.sl 124), .fn 106 [[.str, .int .i64, .int .i64, .sl 9]]]
def res : RP := .one (.rd (.int .i64))
abbrev E : Env := { T := assoc Tab, G := conG [(106, Z58.con)], nt := 19 }
theorem step_eq (I : Heads) (p : Pt) : enterC E live I (pid p) (bodyOf Try.f130) (stOf (live (pid p)) (pvs p) (phs p)) (doneK E Try.f130 res) = step (fun q => I (pid q) (pvs q) (phs q)) p := by
 cases p <;> kernel_rfl
theorem start_eq (I : Heads) (ls : List L) : runC E live I (bodyOf Try.f130) (initS pats ls) (doneK E Try.f130 res) = start (fun q => I (pid q) (pvs q) (phs q)) (ls.headD .hole).toSl (padL 4 (dropT 1 ls)) := by kernel_rfl
theorem run_eq (n : Nat) (ls : List L) : runF E live Try.f130 res n (initS pats ls) = start (iter step n) (ls.headD .hole).toSl (padL 4 (dropT 1 ls)) := runF_iter (id := pid) (vs := pvs) (hs := phs) (step := step) (start := fun J => start J (ls.headD .hole).toSl (padL 4 (dropT 1 ls))) step_eq (fun I => start_eq I ls) n
def md (a0 : List MTrace) (a1 : MEntry) : Int := (eachI (S := Unit) (β := Int) (fun (i1 : Nat) (y1 : MTrace) (s3 : Unit) => (bif (Z58.md y1 a1) then (.inr ((i1 : Int) : Int)) else (.inl ()))) (fun (s3 : Unit) => ((-1) : Int)) 0 a0 ())
def gd (a0 : List MTrace) (a1 : MEntry) : Prop := (SmL (2 ^ 21) (fun y : MTrace => MTrace.Sm (2 ^ 21) y) a0) ∧ (MEntry.Sm (2 ^ 21) a1)
def acc (ls : List L) : List (List L) × REntry := ((ls.headD .hole).toSl, (REntry.dec (padL 4 (dropT 1 ls))))
def R : (List (List L) × REntry) → Option Int := RR (p2 gd) (u2 md)
theorem R_eq {a0} {a1} (h : gd a0 a1) : R ((a0.map MTrace.row), (MEntry.r a1)) = some (md a0 a1) := RR_eq (a := (a0, a1)) h
def con : Con := CN pats res acc R
theorem okF (a0 : List MTrace) (a1 : MEntry) (p1 : List L) (e1 : (MEntry.r a1) = (REntry.dec p1)) (hg : gd a0 a1) : ∃ n, start (iter step n) (a0.map MTrace.row) p1 = ret ((md a0 a1) : Int) := by
  unfold gd at hg
  obtain ⟨H0, H1⟩ := hg
  unfold start md
  try simp only [S0, MTrace.rs, ← e1]
  have Bh2 : a0.length ≤ maxLen := (by
      have := (H0).1
      try simp only [maxLen] at *
      omega)
  refine ex_eq (out := ret) (loopM_eachI (z := MTrace.zero)) ?_
  refine ex_pt (p := Pt.p0 (a0.map MTrace.row) p1 (a0.length : Int) 0) (by first | rfl | (simp only [S0, MTrace.rs, ← e1, MP]; done) | (simp only [MP]; rfl)) ?_
  refine loopM_ok (pt := fun (i1 : Nat) (s3 : Unit) => Pt.p0 (a0.map MTrace.row) p1 (a0.length : Int) (i1 : Int)) (s := (() : Unit)) (out := ret) (fun _ _ => True) (fun J i1 s3 h2 hih2 => ?_) (fun s3 hih2 => ?_) trivial
  · simp only [step, S0, MTrace.rs, ← e1]
    have bb_ := Bh2
    simp only [maxLen] at bb_
    have := (H0).1
    refine Rnd.yes (by apply decide_eq_true; omega) ?_
    refine Rnd.yes zle_dec ?_
    refine Rnd.yes (lt_dec h2) ?_
    refine Rnd.call_to (Z58.md (a0.getD i1 MTrace.zero) a1) (Z58.R_eq (a0 := (a0.getD i1 MTrace.zero)) (a1 := a1) ⟨(SmL.getD (z := MTrace.zero) H0 h2), H1⟩) ?_
    refine Rnd.bif (fun c4 => ?_) (fun c4 => ?_)
    · refine Rnd.inr ?_
      all_goals first | rfl | (simp only [S0, MTrace.rs, ← e1, MP]; first | done | rfl)
    · refine Rnd.inl trivial ?_
      rw [wrap_succ h2 Bh2]
      all_goals first | rfl | (simp only [S0, MTrace.rs, ← e1, MP]; first | done | rfl)
  · simp only [step, S0, MTrace.rs, ← e1]
    have := (H0).1
    refine ex_no (by apply decide_eq_false; omega) ?_
    refine ⟨0, ?_⟩
    all_goals first | rfl | (simp only [S0, MTrace.rs, ← e1, MP]; first | done | rfl)
theorem okV (ls : List L) (a : List MTrace × MEntry) (e : acc ls = Im.im a) (hg : (p2 gd) a) : ∃ n : Nat, start (iter step n) ((ls.headD .hole).toSl) (padL 4 (dropT 1 ls)) = ret (Im.im ((u2 md) a)) := by
 have e0 : (a.1.map MTrace.row) = (ls.headD .hole).toSl := (congrArg (fun x => x.1) e.symm)
 obtain ⟨n, hn⟩ := okF a.1 a.2 (padL 4 (dropT 1 ls)) (congrArg (fun x => x.2) e.symm) hg
 refine ⟨n, ?_⟩
 rw [← e0]
 exact hn
theorem valid_ : Valid Try.prog Ev 130 con := VP (accr := fun ls => ((ls.headD .hole).toSl, (padL 4 (dropT 1 ls)))) (run := fun n x => start (iter step n) x.1 x.2) mix tab_ok (.cons Z58.valid_ .nil) Try.func130 (by kernel_rfl) run_eq (fun ls a _ e hg => okV ls a e hg)
theorem fa (a0 : List MTrace) (a1 : MEntry) : -1 ≤ md a0 a1 ∧ md a0 a1 < (a0.length : Int) := by
 unfold md
 refine eachI_fa0 ?_ _ _
 all_goals
  intro i x s b h
  revert h
  simp only [Bool.cond_eq_ite]
  repeat' split
  all_goals (intro h; first | (cases h; rfl) | cases h)
theorem idx_eq (a0 : List MTrace) (a1 : MEntry) : md a0 a1 = findI (fun y => Z58.md y a1) 0 a0 := by
 unfold md
 exact eachI_find
end Z59
namespace Z60
def F (x0 : List (List L)) (x1 : List L) : Ans := (call (Z59.R (x0, (REntry.dec x1))) fun v1 => ret ((decide (v1 ≥ 0)) : Bool))
def pats : List Pat := [.rd (.sl 124), .fn 106 [[.str, .int .i64, .int .i64, .sl 9]]]
def res : RP := .one (.rd (.bool))
def md (a0 : List MTrace) (a1 : MEntry) : Bool := ((decide ((Z59.md a0 a1) ≥ 0)) : Bool)
def gd (a0 : List MTrace) (a1 : MEntry) : Prop := (SmL (2 ^ 21) (fun y : MTrace => MTrace.Sm (2 ^ 21) y) a0) ∧ (MEntry.Sm (2 ^ 21) a1)
def acc (ls : List L) : List (List L) × REntry := ((ls.headD .hole).toSl, (REntry.dec (padL 4 (dropT 1 ls))))
def R : (List (List L) × REntry) → Option Bool := RR (p2 gd) (u2 md)
theorem R_eq {a0} {a1} (h : gd a0 a1) : R ((a0.map MTrace.row), (MEntry.r a1)) = some (md a0 a1) := RR_eq (a := (a0, a1)) h
def con : Con := CN pats res acc R
theorem okF (a0 : List MTrace) (a1 : MEntry) (p1 : List L) (e1 : (MEntry.r a1) = (REntry.dec p1)) (hg : gd a0 a1) : F (a0.map MTrace.row) p1 = ret ((md a0 a1) : Bool) := by
 unfold gd at hg
 obtain ⟨H0, H1⟩ := hg
 unfold F md
 try simp only [S0, ← e1]
 refine call_to (Z59.md a0 a1) (Z59.R_eq (a0 := a0) (a1 := a1) ⟨H0, H1⟩) ?_
 have fv1_ := Z59.fa a0 a1
 all_goals first | rfl | (simp only [S0, ← e1, MP]; first | done | rfl)
theorem okV (ls : List L) (a : List MTrace × MEntry) (e : acc ls = Im.im a) (hg : (p2 gd) a) : ∃ n : Nat, F ((ls.headD .hole).toSl) (padL 4 (dropT 1 ls)) = ret (Im.im ((u2 md) a)) := by
 have e0 : (a.1.map MTrace.row) = (ls.headD .hole).toSl := (congrArg (fun x => x.1) e.symm)
 have hn := okF a.1 a.2 (padL 4 (dropT 1 ls)) (congrArg (fun x => x.2) e.symm) hg
 refine ⟨0, ?_⟩
 rw [← e0]
 exact hn
theorem valid_ : Valid Try.prog Ev 105 con := VP (live := fun _ => []) (nt := 9) (accr := fun ls => ((ls.headD .hole).toSl, (padL 4 (dropT 1 ls)))) (run := fun _ x => F x.1 x.2) mix tab_ok (.cons Z59.valid_ .nil) Try.func105 (by kernel_rfl) (fun _ _ => by kernel_rfl) (fun ls a _ e hg => okV ls a e hg)
theorem any_eq (a0 : List MTrace) (a1 : MEntry) : md a0 a1 = a0.any (fun y => Z58.md y a1) := by
 unfold md
 rw [Z59.idx_eq]
 exact findI_ge
end Z60
namespace Z61
def F (x0 : List (List L)) (x1 : List (List L)) (x2 : List (List L)) : Ans := (call (Z49.R x1) fun v1 => (call (Z52.R x1) fun v2 => (bif ((v1.length : Int) == 0) then ret ((⟨5, (⟨(⟨#[]⟩ : ByteArray), 0, 0, []⟩ : REntry), v2⟩ : RDecision) : RDecision) else (call (Z57.R (x0, x2)) fun v3 => (bif (decide ((0 : Int) < (v1.length : Int))) then (bif (decide ((0 : Int) < ((lAt v1 0).length : Int))) then (bif (decide ((0 : Int) ≤ (iAt (lAt v1 0) 0))) then (bif (decide ((iAt (lAt v1 0) 0) < (x1.length : Int))) then (bif v3.2 then (call (Z60.R (x1, v3.1)) fun v4 => (bif v4 then ret ((⟨1, v3.1, v2⟩ : RDecision) : RDecision) else (bif v3.2 then ret ((⟨3, (⟨(⟨#[]⟩ : ByteArray), 0, 0, []⟩ : REntry), v2⟩ : RDecision) : RDecision) else (bif (decide ((v1.length : Int) ≥ 2)) then ret ((⟨3, (⟨(⟨#[]⟩ : ByteArray), 0, 0, []⟩ : REntry), v2⟩ : RDecision) : RDecision) else (bif ((RTrace.at x1 (Int.toNat (iAt (lAt v1 0) 0))).fCode != 1) then ret ((⟨4, (⟨(⟨#[]⟩ : ByteArray), 0, 0, []⟩ : REntry), v2⟩ : RDecision) : RDecision) else (call (Z51.R ((RTrace.at x1 (Int.toNat (iAt (lAt v1 0) 0))).fEntry)) fun v5 => ret ((⟨2, v5, v2⟩ : RDecision) : RDecision))))))) else (bif v3.2 then ret ((⟨3, (⟨(⟨#[]⟩ : ByteArray), 0, 0, []⟩ : REntry), v2⟩ : RDecision) : RDecision) else (bif (decide ((v1.length : Int) ≥ 2)) then ret ((⟨3, (⟨(⟨#[]⟩ : ByteArray), 0, 0, []⟩ : REntry), v2⟩ : RDecision) : RDecision) else (bif ((RTrace.at x1 (Int.toNat (iAt (lAt v1 0) 0))).fCode != 1) then ret ((⟨4, (⟨(⟨#[]⟩ : ByteArray), 0, 0, []⟩ : REntry), v2⟩ : RDecision) : RDecision) else (call (Z51.R ((RTrace.at x1 (Int.toNat (iAt (lAt v1 0) 0))).fEntry)) fun v6 => ret ((⟨2, v6, v2⟩ : RDecision) : RDecision)))))) else none) else none) else none) else none)))))
def pats : List Pat := [.rd (.sl 106), .rd (.sl 124), .rd (.sl 9)]
def res : RP := .agg [.rd (.int .i64), .rd (.str), .rd (.int .i64), .rd (.int .i64), .fr 9, .fr 50]
def md (a0 : List MChoice) (a1 : List MTrace) (a2 : List ByteArray) : MDecision := (bif (((Z49.md a1).length : Int) == 0) then (⟨5, (⟨((⟨#[]⟩ : ByteArray) : ByteArray), 0, 0, []⟩ : MEntry), (Z52.md a1)⟩ : MDecision) else (bif (Z57.md a0 a2).2 then (bif (Z60.md a1 ((Z57.md a0 a2).1)) then (⟨1, (Z57.md a0 a2).1, (Z52.md a1)⟩ : MDecision) else (bif (Z57.md a0 a2).2 then (⟨3, (⟨((⟨#[]⟩ : ByteArray) : ByteArray), 0, 0, []⟩ : MEntry), (Z52.md a1)⟩ : MDecision) else (bif (decide (((Z49.md a1).length : Int) ≥ 2)) then (⟨3, (⟨((⟨#[]⟩ : ByteArray) : ByteArray), 0, 0, []⟩ : MEntry), (Z52.md a1)⟩ : MDecision) else (bif ((a1.getD (Int.toNat (((Z49.md a1).getD 0 []).getD 0 0)) MTrace.zero).fCode != 1) then (⟨4, (⟨((⟨#[]⟩ : ByteArray) : ByteArray), 0, 0, []⟩ : MEntry), (Z52.md a1)⟩ : MDecision) else (⟨2, ((a1.getD (Int.toNat (((Z49.md a1).getD 0 []).getD 0 0)) MTrace.zero).fEntry), (Z52.md a1)⟩ : MDecision))))) else (bif (Z57.md a0 a2).2 then (⟨3, (⟨((⟨#[]⟩ : ByteArray) : ByteArray), 0, 0, []⟩ : MEntry), (Z52.md a1)⟩ : MDecision) else (bif (decide (((Z49.md a1).length : Int) ≥ 2)) then (⟨3, (⟨((⟨#[]⟩ : ByteArray) : ByteArray), 0, 0, []⟩ : MEntry), (Z52.md a1)⟩ : MDecision) else (bif ((a1.getD (Int.toNat (((Z49.md a1).getD 0 []).getD 0 0)) MTrace.zero).fCode != 1) then (⟨4, (⟨((⟨#[]⟩ : ByteArray) : ByteArray), 0, 0, []⟩ : MEntry), (Z52.md a1)⟩ : MDecision) else (⟨2, ((a1.getD (Int.toNat (((Z49.md a1).getD 0 []).getD 0 0)) MTrace.zero).fEntry), (Z52.md a1)⟩ : MDecision))))))
def gd (a0 : List MChoice) (a1 : List MTrace) (a2 : List ByteArray) : Prop := (SmL (2 ^ 21) (fun y : MChoice => MChoice.Sm (2 ^ 21) y) a0) ∧ (SmL (2 ^ 21) (fun y : MTrace => MTrace.Sm (2 ^ 21) y) a1) ∧ (SmL (2 ^ 21) (fun y : ByteArray => y.size ≤ (2 ^ 21)) a2)
def acc (ls : List L) : List (List L) × List (List L) × List (List L) := ((ls.headD .hole).toSl, ((dropT 1 ls).headD .hole).toSl, ((dropT 2 ls).headD .hole).toSl)
def R : (List (List L) × List (List L) × List (List L)) → Option RDecision := RR (p3 gd) (u3 md)
theorem R_eq {a0} {a1} {a2} (h : gd a0 a1 a2) : R ((a0.map MChoice.row), (a1.map MTrace.row), (a2.map sRow)) = some (MDecision.r (md a0 a1 a2)) := RR_eq (a := (a0, a1, a2)) h
def con : Con := CN pats res acc R
theorem okF (a0 : List MChoice) (a1 : List MTrace) (a2 : List ByteArray) (hg : gd a0 a1 a2) : F (a0.map MChoice.row) (a1.map MTrace.row) (a2.map sRow) = ret ((MDecision.r (md a0 a1 a2)) : RDecision) := by
  unfold gd at hg
  obtain ⟨H0, H1, H2⟩ := hg
  unfold F md
  try simp only [S0, MChoice.rs, MTrace.rs, MDecision.rs]
  refine call_to ((Z49.md a1).map (lRow iRow)) (Z49.R_eq (a0 := a1) H1) ?_
  try simp only [S0, MChoice.rs, MTrace.rs, MDecision.rs]
  have fv1_ := Z49.fa a1
  refine call_to ((Z52.md a1).map MEntry.row) (Z52.R_eq (a0 := a1) H1) ?_
  try simp only [S0, MChoice.rs, MTrace.rs, MDecision.rs]
  refine bif_out (fun b : MDecision => ret ((MDecision.r b) : RDecision)) (fun c1 => ?_) (fun c1 => ?_)
  · all_goals first | rfl | (simp only [S0, MChoice.rs, MTrace.rs, MDecision.rs]; done) | (simp only [MP]; rfl) | (simp only [S0, MChoice.rs, MTrace.rs, MDecision.rs, MP]; first | done | rfl)
  · have dc1 := c1
    try simp only [DC] at dc1
    refine call_to ((MEntry.r (Z57.md a0 a2).1), (Z57.md a0 a2).2) (Z57.R_eq (a0 := a0) (a1 := a2) ⟨H0, H2⟩) ?_
    try simp only [S0, MChoice.rs, MTrace.rs, MDecision.rs]
    refine yes_ret (by
        refine decide_eq_true ?_
        try simp (disch := omega) only [LN, wi]
        first | omega | (simp; done) | (simp; omega)) ?_
    refine yes_ret (by
        refine decide_eq_true ?_
        try simp (disch := omega) only [LN, wi]
        first | omega | (simp; done) | (simp; omega)) ?_
    refine yes_ret (by
        refine decide_eq_true ?_
        try simp (disch := omega) only [LN, wi]
        first | omega | (simp; done) | (simp; omega)) ?_
    refine yes_ret (by
        have := (H1).1
        refine decide_eq_true ?_
        try simp (disch := omega) only [LN, wi]
        first | omega | (simp; done) | (simp; omega)) ?_
    refine bif_out (fun b : MDecision => ret ((MDecision.r b) : RDecision)) (fun c2 => ?_) (fun c2 => ?_)
    · refine call_to (Z60.md a1 ((Z57.md a0 a2).1)) (Z60.R_eq (a0 := a1) (a1 := (Z57.md a0 a2).1) ⟨H1, (Z57.sm0 (a0 := a0) (a1 := a2) ⟨H0, H2⟩)⟩) ?_
      refine bif_out (fun b : MDecision => ret ((MDecision.r b) : RDecision)) (fun c3 => ?_) (fun c3 => ?_)
      · all_goals first | rfl | (simp only [S0, MChoice.rs, MTrace.rs, MDecision.rs]; done) | (simp only [MP]; rfl) | (simp only [S0, MChoice.rs, MTrace.rs, MDecision.rs, MP]; first | done | rfl)
      · refine bif_out (fun b : MDecision => ret ((MDecision.r b) : RDecision)) (fun c4 => ?_) (fun c4 => ?_)
        · all_goals first | rfl | (simp only [S0, MChoice.rs, MTrace.rs, MDecision.rs]; done) | (simp only [MP]; rfl) | (simp only [S0, MChoice.rs, MTrace.rs, MDecision.rs, MP]; first | done | rfl)
        · refine bif_out (fun b : MDecision => ret ((MDecision.r b) : RDecision)) (fun c5 => ?_) (fun c5 => ?_)
          · all_goals first | rfl | (simp only [S0, MChoice.rs, MTrace.rs, MDecision.rs]; done) | (simp only [MP]; rfl) | (simp only [S0, MChoice.rs, MTrace.rs, MDecision.rs, MP]; first | done | rfl)
          · have dc5 := c5
            try simp only [DC] at dc5
            refine bif_out (fun b : MDecision => ret ((MDecision.r b) : RDecision)) (fun c6 => ?_) (fun c6 => ?_)
            · all_goals first | rfl | (simp only [S0, MChoice.rs, MTrace.rs, MDecision.rs]; done) | (simp only [MP]; rfl) | (simp only [S0, MChoice.rs, MTrace.rs, MDecision.rs, MP]; first | done | rfl)
            · have dc6 := c6
              try simp only [DC] at dc6
              refine call_to (MEntry.r ((a1.getD (Int.toNat (((Z49.md a1).getD 0 []).getD 0 0)) MTrace.zero).fEntry)) ?_ ?_
              · have R_ := Z51.R_eq (a0 := (a1.getD (Int.toNat (((Z49.md a1).getD 0 []).getD 0 0)) MTrace.zero).fEntry) (SmL.getD (z := MTrace.zero) H1 (by first | assumption | omega | (simp (disch := omega) only [wi]; omega) | (simp; omega))).2.1
                simp only [Z51.md] at R_
                first | exact R_ | (simp only [MP, S0, MChoice.rs, MTrace.rs, MDecision.rs] at R_ ⊢; first | exact R_ | (rw [← R_]; rfl))
              try simp only [S0, MChoice.rs, MTrace.rs, MDecision.rs]
              all_goals first | rfl | (simp only [S0, MChoice.rs, MTrace.rs, MDecision.rs]; done) | (simp only [MP]; rfl) | (simp only [S0, MChoice.rs, MTrace.rs, MDecision.rs, MP]; first | done | rfl)
    · refine bif_out (fun b : MDecision => ret ((MDecision.r b) : RDecision)) (fun c7 => ?_) (fun c7 => ?_)
      · all_goals first | rfl | (simp only [S0, MChoice.rs, MTrace.rs, MDecision.rs]; done) | (simp only [MP]; rfl) | (simp only [S0, MChoice.rs, MTrace.rs, MDecision.rs, MP]; first | done | rfl)
      · refine bif_out (fun b : MDecision => ret ((MDecision.r b) : RDecision)) (fun c8 => ?_) (fun c8 => ?_)
        · all_goals first | rfl | (simp only [S0, MChoice.rs, MTrace.rs, MDecision.rs]; done) | (simp only [MP]; rfl) | (simp only [S0, MChoice.rs, MTrace.rs, MDecision.rs, MP]; first | done | rfl)
        · have dc8 := c8
          try simp only [DC] at dc8
          refine bif_out (fun b : MDecision => ret ((MDecision.r b) : RDecision)) (fun c9 => ?_) (fun c9 => ?_)
          · all_goals first | rfl | (simp only [S0, MChoice.rs, MTrace.rs, MDecision.rs]; done) | (simp only [MP]; rfl) | (simp only [S0, MChoice.rs, MTrace.rs, MDecision.rs, MP]; first | done | rfl)
          · have dc9 := c9
            try simp only [DC] at dc9
            refine call_to (MEntry.r ((a1.getD (Int.toNat (((Z49.md a1).getD 0 []).getD 0 0)) MTrace.zero).fEntry)) ?_ ?_
            · have R_ := Z51.R_eq (a0 := (a1.getD (Int.toNat (((Z49.md a1).getD 0 []).getD 0 0)) MTrace.zero).fEntry) (SmL.getD (z := MTrace.zero) H1 (by first | assumption | omega | (simp (disch := omega) only [wi]; omega) | (simp; omega))).2.1
              simp only [Z51.md] at R_
              first | exact R_ | (simp only [MP, S0, MChoice.rs, MTrace.rs, MDecision.rs] at R_ ⊢; first | exact R_ | (rw [← R_]; rfl))
            try simp only [S0, MChoice.rs, MTrace.rs, MDecision.rs]
            all_goals first | rfl | (simp only [S0, MChoice.rs, MTrace.rs, MDecision.rs]; done) | (simp only [MP]; rfl) | (simp only [S0, MChoice.rs, MTrace.rs, MDecision.rs, MP]; first | done | rfl)
theorem valid_ : Valid Try.prog Ev 54 con := VV (live := fun _ => []) (nt := 64) (run := fun _ x => F x.1 x.2.1 x.2.2) mix tab_ok (.cons Z49.valid_ (.cons Z52.valid_ (.cons Z57.valid_ (.cons Z60.valid_ (.cons Z51.valid_ .nil))))) Try.func54 (by kernel_rfl) (fun _ _ => by kernel_rfl) (fun _ a _ _ hg => ⟨0, okF a.1 a.2.1 a.2.2 hg⟩)
theorem br (a0 : List MChoice) (a1 : List MTrace) (a2 : List ByteArray) : md a0 a1 a2 = Z44.md a0 a1 a2 := by
  have ho : ∀ e : MEntry, Z60.md a1 e = Z43.md a1 e := by
    intro e
    rw [Z60.any_eq]
    unfold Z43.md
    rw [eachM_any' (p := fun y => Z58.md y e) (fun x s => ?_)]
    · cases a1.any fun y => Z58.md y e <;> rfl
    · unfold Z58.md
      rw [Z47.md_eq, Z35.md_eq]
      cases (x.fCode == 1) <;> rfl
  have hd : ∀ n : Int, decide (n ≥ 2) = decide (n > 1) := fun n => by
    by_cases h : n ≥ 2
    · rw [decide_eq_true h, decide_eq_true (by omega)]
    · rw [decide_eq_false h, decide_eq_false (by omega)]
  unfold md Z44.md
  rw [Z49.br, Z52.br, Z57.br, ho, hd]
end Z61
namespace Z62
inductive Pt where
 | p0 (a : List (List L)) (b : List (List L)) (c : Int)
def pid : Pt → Nat
 | .p0 .. => 4
def pvs : Pt → List V
 | .p0 a b c => [.sl none 9 a, .sl none 9 b, .int .i64 c]
def phs : Pt → List Root
 | .p0 a b c => []
def step (J : Pt → Ans) : Pt → Ans
 | .p0 a b c => (bif (decide (c < (a.length : Int))) then (bif (decide ((0 : Int) ≤ c)) then (bif (decide (c < (a.length : Int))) then (bif (decide ((0 : Int) ≤ c)) then (bif (decide (c < (b.length : Int))) then (bif (!((sAt a (Int.toNat c)) == (sAt b (Int.toNat c)))) then ret (false : Bool) else J (.p0 a b (IntKind.i64.wrap (c + 1)))) else none) else none) else none) else none) else ret (true : Bool))
def start (J : Pt → Ans) (x0 : List (List L)) (x1 : List (List L)) : Ans := (bif ((x0.length : Int) != (x1.length : Int)) then ret (false : Bool) else J (.p0 x0 x1 0))
def live : Nat → Live := fun i => match i with | 4 => [(0, none), (1, none), (5, none)] | _ => []
def pats : List Pat := [.rd (.sl 9), .rd (.sl 9)]
def res : RP := .one (.rd (.bool))
abbrev E : Env := { T := assoc Tab, G := conG [], nt := 26 }
theorem step_eq (I : Heads) (p : Pt) : enterC E live I (pid p) (bodyOf Try.f31) (stOf (live (pid p)) (pvs p) (phs p)) (doneK E Try.f31 res) = step (fun q => I (pid q) (pvs q) (phs q)) p := by
 cases p <;> kernel_rfl
theorem start_eq (I : Heads) (ls : List L) : runC E live I (bodyOf Try.f31) (initS pats ls) (doneK E Try.f31 res) = start (fun q => I (pid q) (pvs q) (phs q)) (ls.headD .hole).toSl ((dropT 1 ls).headD .hole).toSl := by kernel_rfl
theorem run_eq (n : Nat) (ls : List L) : runF E live Try.f31 res n (initS pats ls) = start (iter step n) (ls.headD .hole).toSl ((dropT 1 ls).headD .hole).toSl := runF_iter (id := pid) (vs := pvs) (hs := phs) (step := step) (start := fun J => start J (ls.headD .hole).toSl ((dropT 1 ls).headD .hole).toSl) step_eq (fun I => start_eq I ls) n
def md (a0 : List ByteArray) (a1 : List ByteArray) : Bool := eqB a0 a1
def gd (a0 : List ByteArray) (a1 : List ByteArray) : Prop := True
def acc (ls : List L) : List (List L) × List (List L) := ((ls.headD .hole).toSl, ((dropT 1 ls).headD .hole).toSl)
def R : (List (List L) × List (List L)) → Option Bool := RR (p2 gd) (u2 md)
theorem R_eq {a0} {a1} (h : gd a0 a1) : R ((a0.map sRow), (a1.map sRow)) = some (md a0 a1) := RR_eq (a := (a0, a1)) h
def con : Con := CN pats res acc R
theorem okF (a0 : List ByteArray) (a1 : List ByteArray) (hg : gd a0 a1) (h0 : a0.length ≤ maxLen) (h1 : a1.length ≤ maxLen) : ∃ n, start (iter step n) (a0.map sRow) (a1.map sRow) = ret ((md a0 a1) : Bool) := by
  unfold start md
  simp only [List.length_map]
  refine eq_list (pt := fun i => Pt.p0 (a0.map sRow) (a1.map sRow) (i : Int)) (fun hl J i h h2 => ?_) (fun J => ?_)
  · simp only [step, List.length_map, lt_dec h, lt_dec h2, zle_dec, cond_true, toNat_nat, sAt_row h, sAt_row h2]
    rw [wrap_succ h h0]
    simp only [bne, int_beq, bool_beq, ba_beq]
    cases eqB a0[i] a1[i] <;> rfl
  · simp only [step, List.length_map, nlt_dec, cond_false]
theorem valid_ : Valid Try.prog Ev 31 con := VV (run := fun n x => start (iter step n) x.1 x.2) mix tab_ok .nil Try.func31 (by kernel_rfl) run_eq (fun ls a hl e hg => okF a.1 a.2 hg (by have h : (ls.headD .hole).toSl.length ≤ maxLen := hl.1.len; have e : a.1.map sRow = (ls.headD .hole).toSl := (congrArg (fun x => x.1) e.symm); rw [← e] at h; simpa using h) (by have h : ((dropT 1 ls).headD .hole).toSl.length ≤ maxLen := hl.2.1.len; have e : a.2.map sRow = ((dropT 1 ls).headD .hole).toSl := (congrArg (fun x => x.2) e.symm); rw [← e] at h; simpa using h))
end Z62
namespace Z63
def F (x0 : REntry) (x1 : REntry) : Ans := (bif (!(x0.fLabel == x1.fLabel)) then ret (false : Bool) else (bif (x0.fKind != x1.fKind) then ret (false : Bool) else (bif (x0.fValue != x1.fValue) then ret (false : Bool) else (call (Z62.R (x0.fPath, x1.fPath)) fun v1 => (bif (!v1) then ret (false : Bool) else ret (true : Bool))))))
def pats : List Pat := [.agg [.str, .int .i64, .int .i64, .sl 9], .agg [.str, .int .i64, .int .i64, .sl 9]]
def res : RP := .one (.rd (.bool))
def md (a0 : MEntry) (a1 : MEntry) : Bool := eqB a0 a1
def gd (a0 : MEntry) (a1 : MEntry) : Prop := True
def acc (ls : List L) : REntry × REntry := ((REntry.dec ls), (REntry.dec (dropT 4 ls)))
def R : (REntry × REntry) → Option Bool := RR (p2 gd) (u2 md)
theorem R_eq {a0} {a1} (h : gd a0 a1) : R ((MEntry.r a0), (MEntry.r a1)) = some (md a0 a1) := RR_eq (a := (a0, a1)) h
def con : Con := CN pats res acc R
theorem okF (a0 : MEntry) (a1 : MEntry) (hg : gd a0 a1) : F (MEntry.r a0) (MEntry.r a1) = ret ((md a0 a1) : Bool) := by
 unfold md
 show (bif (!(a0.fLabel == a1.fLabel)) then ret (false : Bool) else (bif (a0.fKind != a1.fKind) then ret (false : Bool) else (bif (a0.fValue != a1.fValue) then ret (false : Bool) else (call (Z62.R ((a0.fPath.map sRow), (a1.fPath.map sRow))) fun v1 => (bif (!v1) then ret (false : Bool) else ret (true : Bool)))))) = _
 simp only [call_eq (Z62.R_eq (a0 := a0.fPath) (a1 := a1.fPath) trivial), Z62.md]
 try simp only [bne, int_beq, bool_beq, ba_beq]
 have e : eqB a0 a1 = (eqB a0.fLabel a1.fLabel && (eqB a0.fKind a1.fKind && (eqB a0.fValue a1.fValue && (eqB a0.fPath a1.fPath && true)))) := by
  cases a0; cases a1
  rw [Bool.eq_iff_iff]
  simp only [eqB_iff, Bool.and_eq_true, MEntry.mk.injEq, and_true]
 rw [e]
 refine and_step fun _ => ?_
 refine and_step fun _ => ?_
 refine and_step fun _ => ?_
 refine and_step fun _ => ?_
 rfl
theorem valid_ : Valid Try.prog Ev 32 con := VV (live := fun _ => []) (nt := 26) (run := fun _ x => F x.1 x.2) mix tab_ok (.cons Z62.valid_ .nil) Try.func32 (by kernel_rfl) (fun _ _ => by kernel_rfl) (fun _ a _ _ hg => ⟨0, okF a.1 a.2 hg⟩)
end Z63
namespace Z64
inductive Pt where
 | p0 (a : List (List L)) (b : List (List L)) (c : Int)
def pid : Pt → Nat
 | .p0 .. => 4
def pvs : Pt → List V
 | .p0 a b c => [.sl none 50 a, .sl none 50 b, .int .i64 c]
def phs : Pt → List Root
 | .p0 a b c => []
def step (J : Pt → Ans) : Pt → Ans
 | .p0 a b c => (bif (decide (c < (a.length : Int))) then (bif (decide ((0 : Int) ≤ c)) then (bif (decide (c < (a.length : Int))) then (bif (decide ((0 : Int) ≤ c)) then (bif (decide (c < (b.length : Int))) then (call (Z63.R ((REntry.at a (Int.toNat c)), (REntry.at b (Int.toNat c)))) fun v1 => (bif (!v1) then ret (false : Bool) else J (.p0 a b (IntKind.i64.wrap (c + 1))))) else none) else none) else none) else none) else ret (true : Bool))
def start (J : Pt → Ans) (x0 : List (List L)) (x1 : List (List L)) : Ans := (bif ((x0.length : Int) != (x1.length : Int)) then ret (false : Bool) else J (.p0 x0 x1 0))
def live : Nat → Live := fun i => match i with | 4 => [(0, none), (1, none), (5, none)] | _ => []
def pats : List Pat := [.rd (.sl 50), .rd (.sl 50)]
def res : RP := .one (.rd (.bool))
abbrev E : Env := { T := assoc Tab, G := conG [(32, Z63.con)], nt := 27 }
theorem step_eq (I : Heads) (p : Pt) : enterC E live I (pid p) (bodyOf Try.f50) (stOf (live (pid p)) (pvs p) (phs p)) (doneK E Try.f50 res) = step (fun q => I (pid q) (pvs q) (phs q)) p := by
 cases p <;> kernel_rfl
theorem start_eq (I : Heads) (ls : List L) : runC E live I (bodyOf Try.f50) (initS pats ls) (doneK E Try.f50 res) = start (fun q => I (pid q) (pvs q) (phs q)) (ls.headD .hole).toSl ((dropT 1 ls).headD .hole).toSl := by kernel_rfl
theorem run_eq (n : Nat) (ls : List L) : runF E live Try.f50 res n (initS pats ls) = start (iter step n) (ls.headD .hole).toSl ((dropT 1 ls).headD .hole).toSl := runF_iter (id := pid) (vs := pvs) (hs := phs) (step := step) (start := fun J => start J (ls.headD .hole).toSl ((dropT 1 ls).headD .hole).toSl) step_eq (fun I => start_eq I ls) n
def md (a0 : List MEntry) (a1 : List MEntry) : Bool := eqB a0 a1
def gd (a0 : List MEntry) (a1 : List MEntry) : Prop := True
def acc (ls : List L) : List (List L) × List (List L) := ((ls.headD .hole).toSl, ((dropT 1 ls).headD .hole).toSl)
def R : (List (List L) × List (List L)) → Option Bool := RR (p2 gd) (u2 md)
theorem R_eq {a0} {a1} (h : gd a0 a1) : R ((a0.map MEntry.row), (a1.map MEntry.row)) = some (md a0 a1) := RR_eq (a := (a0, a1)) h
def con : Con := CN pats res acc R
theorem okF (a0 : List MEntry) (a1 : List MEntry) (hg : gd a0 a1) (h0 : a0.length ≤ maxLen) (h1 : a1.length ≤ maxLen) : ∃ n, start (iter step n) (a0.map MEntry.row) (a1.map MEntry.row) = ret ((md a0 a1) : Bool) := by
  unfold start md
  simp only [List.length_map]
  refine eq_list (pt := fun i => Pt.p0 (a0.map MEntry.row) (a1.map MEntry.row) (i : Int)) (fun hl J i h h2 => ?_) (fun J => ?_)
  · simp only [step, List.length_map, lt_dec h, lt_dec h2, zle_dec, cond_true, toNat_nat, MEntry.at_row h, MEntry.at_row h2]
    rw [wrap_succ h h0]
    rw [call_eq (Z63.R_eq (a0 := a0[i]) (a1 := a1[i]) trivial), Z63.md]
    cases eqB a0[i] a1[i] <;> rfl
  · simp only [step, List.length_map, nlt_dec, cond_false]
theorem valid_ : Valid Try.prog Ev 50 con := VV (run := fun n x => start (iter step n) x.1 x.2) mix tab_ok (.cons Z63.valid_ .nil) Try.func50 (by kernel_rfl) run_eq (fun ls a hl e hg => okF a.1 a.2 hg (by have h : (ls.headD .hole).toSl.length ≤ maxLen := hl.1.len; have e : a.1.map MEntry.row = (ls.headD .hole).toSl := (congrArg (fun x => x.1) e.symm); rw [← e] at h; simpa using h) (by have h : ((dropT 1 ls).headD .hole).toSl.length ≤ maxLen := hl.2.1.len; have e : a.2.map MEntry.row = ((dropT 1 ls).headD .hole).toSl := (congrArg (fun x => x.2) e.symm); rw [← e] at h; simpa using h))
end Z64
namespace Z65
def F (x0 : RDecision) (x1 : RDecision) : Ans := (bif (x0.fCode != x1.fCode) then ret (false : Bool) else (call (Z63.R (x0.fEntry, x1.fEntry)) fun v1 => (bif (!v1) then ret (false : Bool) else (call (Z64.R (x0.fOthers, x1.fOthers)) fun v2 => (bif (!v2) then ret (false : Bool) else ret (true : Bool))))))
def pats : List Pat := [.agg [.int .i64, .str, .int .i64, .int .i64, .sl 9, .sl 50], .agg [.int .i64, .str, .int .i64, .int .i64, .sl 9, .sl 50]]
def res : RP := .one (.rd (.bool))
def md (a0 : MDecision) (a1 : MDecision) : Bool := eqB a0 a1
def gd (a0 : MDecision) (a1 : MDecision) : Prop := True
def acc (ls : List L) : RDecision × RDecision := ((RDecision.dec ls), (RDecision.dec (dropT 6 ls)))
def R : (RDecision × RDecision) → Option Bool := RR (p2 gd) (u2 md)
theorem R_eq {a0} {a1} (h : gd a0 a1) : R ((MDecision.r a0), (MDecision.r a1)) = some (md a0 a1) := RR_eq (a := (a0, a1)) h
def con : Con := CN pats res acc R
theorem okF (a0 : MDecision) (a1 : MDecision) (hg : gd a0 a1) : F (MDecision.r a0) (MDecision.r a1) = ret ((md a0 a1) : Bool) := by
 unfold md
 show (bif (a0.fCode != a1.fCode) then ret (false : Bool) else (call (Z63.R ((MEntry.r a0.fEntry), (MEntry.r a1.fEntry))) fun v1 => (bif (!v1) then ret (false : Bool) else (call (Z64.R ((a0.fOthers.map MEntry.row), (a1.fOthers.map MEntry.row))) fun v2 => (bif (!v2) then ret (false : Bool) else ret (true : Bool)))))) = _
 simp only [call_eq (Z63.R_eq (a0 := a0.fEntry) (a1 := a1.fEntry) trivial), Z63.md]
 simp only [call_eq (Z64.R_eq (a0 := a0.fOthers) (a1 := a1.fOthers) trivial), Z64.md]
 try simp only [bne, int_beq, bool_beq, ba_beq]
 have e : eqB a0 a1 = (eqB a0.fCode a1.fCode && (eqB a0.fEntry a1.fEntry && (eqB a0.fOthers a1.fOthers && true))) := by
  cases a0; cases a1
  rw [Bool.eq_iff_iff]
  simp only [eqB_iff, Bool.and_eq_true, MDecision.mk.injEq, and_true]
 rw [e]
 refine and_step fun _ => ?_
 refine and_step fun _ => ?_
 refine and_step fun _ => ?_
 rfl
theorem valid_ : Valid Try.prog Ev 55 con := VV (live := fun _ => []) (nt := 22) (run := fun _ x => F x.1 x.2) mix tab_ok (.cons Z63.valid_ (.cons Z64.valid_ .nil)) Try.func55 (by kernel_rfl) (fun _ _ => by kernel_rfl) (fun _ a _ _ hg => ⟨0, okF a.1 a.2 hg⟩)
end Z65
namespace Z66
def F (x0 : RChoice) (x1 : RChoice) : Ans := (call (Z62.R (x0.fPath, x1.fPath)) fun v1 => (bif (!v1) then ret (false : Bool) else (call (Z63.R (x0.fEntry, x1.fEntry)) fun v2 => (bif (!v2) then ret (false : Bool) else ret (true : Bool)))))
def pats : List Pat := [.agg [.sl 9, .str, .int .i64, .int .i64, .sl 9], .agg [.sl 9, .str, .int .i64, .int .i64, .sl 9]]
def res : RP := .one (.rd (.bool))
def md (a0 : MChoice) (a1 : MChoice) : Bool := eqB a0 a1
def gd (a0 : MChoice) (a1 : MChoice) : Prop := True
def acc (ls : List L) : RChoice × RChoice := ((RChoice.dec ls), (RChoice.dec (dropT 5 ls)))
def R : (RChoice × RChoice) → Option Bool := RR (p2 gd) (u2 md)
theorem R_eq {a0} {a1} (h : gd a0 a1) : R ((MChoice.r a0), (MChoice.r a1)) = some (md a0 a1) := RR_eq (a := (a0, a1)) h
def con : Con := CN pats res acc R
theorem okF (a0 : MChoice) (a1 : MChoice) (hg : gd a0 a1) : F (MChoice.r a0) (MChoice.r a1) = ret ((md a0 a1) : Bool) := by
 unfold md
 show (call (Z62.R ((a0.fPath.map sRow), (a1.fPath.map sRow))) fun v1 => (bif (!v1) then ret (false : Bool) else (call (Z63.R ((MEntry.r a0.fEntry), (MEntry.r a1.fEntry))) fun v2 => (bif (!v2) then ret (false : Bool) else ret (true : Bool))))) = _
 simp only [call_eq (Z62.R_eq (a0 := a0.fPath) (a1 := a1.fPath) trivial), Z62.md]
 simp only [call_eq (Z63.R_eq (a0 := a0.fEntry) (a1 := a1.fEntry) trivial), Z63.md]
 try simp only [bne, int_beq, bool_beq, ba_beq]
 have e : eqB a0 a1 = (eqB a0.fPath a1.fPath && (eqB a0.fEntry a1.fEntry && true)) := by
  cases a0; cases a1
  rw [Bool.eq_iff_iff]
  simp only [eqB_iff, Bool.and_eq_true, MChoice.mk.injEq, and_true]
 rw [e]
 refine and_step fun _ => ?_
 refine and_step fun _ => ?_
 rfl
theorem valid_ : Valid Try.prog Ev 88 con := VV (live := fun _ => []) (nt := 17) (run := fun _ x => F x.1 x.2) mix tab_ok (.cons Z62.valid_ (.cons Z63.valid_ .nil)) Try.func88 (by kernel_rfl) (fun _ _ => by kernel_rfl) (fun _ a _ _ hg => ⟨0, okF a.1 a.2 hg⟩)
end Z66
namespace Z67
inductive Pt where
 | p0 (a : List (List L)) (b : List (List L)) (c : Int)
def pid : Pt → Nat
 | .p0 .. => 4
def pvs : Pt → List V
 | .p0 a b c => [.sl none 106 a, .sl none 106 b, .int .i64 c]
def phs : Pt → List Root
 | .p0 a b c => []
def step (J : Pt → Ans) : Pt → Ans
 | .p0 a b c => (bif (decide (c < (a.length : Int))) then (bif (decide ((0 : Int) ≤ c)) then (bif (decide (c < (a.length : Int))) then (bif (decide ((0 : Int) ≤ c)) then (bif (decide (c < (b.length : Int))) then (call (Z66.R ((RChoice.at a (Int.toNat c)), (RChoice.at b (Int.toNat c)))) fun v1 => (bif (!v1) then ret (false : Bool) else J (.p0 a b (IntKind.i64.wrap (c + 1))))) else none) else none) else none) else none) else ret (true : Bool))
def start (J : Pt → Ans) (x0 : List (List L)) (x1 : List (List L)) : Ans := (bif ((x0.length : Int) != (x1.length : Int)) then ret (false : Bool) else J (.p0 x0 x1 0))
def live : Nat → Live := fun i => match i with | 4 => [(0, none), (1, none), (5, none)] | _ => []
def pats : List Pat := [.rd (.sl 106), .rd (.sl 106)]
def res : RP := .one (.rd (.bool))
abbrev E : Env := { T := assoc Tab, G := conG [(88, Z66.con)], nt := 27 }
theorem step_eq (I : Heads) (p : Pt) : enterC E live I (pid p) (bodyOf Try.f30) (stOf (live (pid p)) (pvs p) (phs p)) (doneK E Try.f30 res) = step (fun q => I (pid q) (pvs q) (phs q)) p := by
 cases p <;> kernel_rfl
theorem start_eq (I : Heads) (ls : List L) : runC E live I (bodyOf Try.f30) (initS pats ls) (doneK E Try.f30 res) = start (fun q => I (pid q) (pvs q) (phs q)) (ls.headD .hole).toSl ((dropT 1 ls).headD .hole).toSl := by kernel_rfl
theorem run_eq (n : Nat) (ls : List L) : runF E live Try.f30 res n (initS pats ls) = start (iter step n) (ls.headD .hole).toSl ((dropT 1 ls).headD .hole).toSl := runF_iter (id := pid) (vs := pvs) (hs := phs) (step := step) (start := fun J => start J (ls.headD .hole).toSl ((dropT 1 ls).headD .hole).toSl) step_eq (fun I => start_eq I ls) n
def md (a0 : List MChoice) (a1 : List MChoice) : Bool := eqB a0 a1
def gd (a0 : List MChoice) (a1 : List MChoice) : Prop := True
def acc (ls : List L) : List (List L) × List (List L) := ((ls.headD .hole).toSl, ((dropT 1 ls).headD .hole).toSl)
def R : (List (List L) × List (List L)) → Option Bool := RR (p2 gd) (u2 md)
theorem R_eq {a0} {a1} (h : gd a0 a1) : R ((a0.map MChoice.row), (a1.map MChoice.row)) = some (md a0 a1) := RR_eq (a := (a0, a1)) h
def con : Con := CN pats res acc R
theorem okF (a0 : List MChoice) (a1 : List MChoice) (hg : gd a0 a1) (h0 : a0.length ≤ maxLen) (h1 : a1.length ≤ maxLen) : ∃ n, start (iter step n) (a0.map MChoice.row) (a1.map MChoice.row) = ret ((md a0 a1) : Bool) := by
  unfold start md
  simp only [List.length_map]
  refine eq_list (pt := fun i => Pt.p0 (a0.map MChoice.row) (a1.map MChoice.row) (i : Int)) (fun hl J i h h2 => ?_) (fun J => ?_)
  · simp only [step, List.length_map, lt_dec h, lt_dec h2, zle_dec, cond_true, toNat_nat, MChoice.at_row h, MChoice.at_row h2]
    rw [wrap_succ h h0]
    rw [call_eq (Z66.R_eq (a0 := a0[i]) (a1 := a1[i]) trivial), Z66.md]
    cases eqB a0[i] a1[i] <;> rfl
  · simp only [step, List.length_map, nlt_dec, cond_false]
theorem valid_ : Valid Try.prog Ev 30 con := VV (run := fun n x => start (iter step n) x.1 x.2) mix tab_ok (.cons Z66.valid_ .nil) Try.func30 (by kernel_rfl) run_eq (fun ls a hl e hg => okF a.1 a.2 hg (by have h : (ls.headD .hole).toSl.length ≤ maxLen := hl.1.len; have e : a.1.map MChoice.row = (ls.headD .hole).toSl := (congrArg (fun x => x.1) e.symm); rw [← e] at h; simpa using h) (by have h : ((dropT 1 ls).headD .hole).toSl.length ≤ maxLen := hl.2.1.len; have e : a.2.map MChoice.row = ((dropT 1 ls).headD .hole).toSl := (congrArg (fun x => x.2) e.symm); rw [← e] at h; simpa using h))
end Z67
namespace Z68
inductive Pt where
 | p0 (a : List (List L)) (b : List (List L)) (c : Int)
def pid : Pt → Nat
 | .p0 .. => 4
def pvs : Pt → List V
 | .p0 a b c => [.sl none 3 a, .sl none 3 b, .int .i64 c]
def phs : Pt → List Root
 | .p0 a b c => []
def step (J : Pt → Ans) : Pt → Ans
 | .p0 a b c => (bif (decide (c < (a.length : Int))) then (bif (decide ((0 : Int) ≤ c)) then (bif (decide (c < (a.length : Int))) then (bif (decide ((0 : Int) ≤ c)) then (bif (decide (c < (b.length : Int))) then (bif ((iAt a (Int.toNat c)) != (iAt b (Int.toNat c))) then ret (false : Bool) else J (.p0 a b (IntKind.i64.wrap (c + 1)))) else none) else none) else none) else none) else ret (true : Bool))
def start (J : Pt → Ans) (x0 : List (List L)) (x1 : List (List L)) : Ans := (bif ((x0.length : Int) != (x1.length : Int)) then ret (false : Bool) else J (.p0 x0 x1 0))
def live : Nat → Live := fun i => match i with | 4 => [(0, none), (1, none), (5, none)] | _ => []
def pats : List Pat := [.rd (.sl 3), .rd (.sl 3)]
def res : RP := .one (.rd (.bool))
abbrev E : Env := { T := assoc Tab, G := conG [], nt := 26 }
theorem step_eq (I : Heads) (p : Pt) : enterC E live I (pid p) (bodyOf Try.f97) (stOf (live (pid p)) (pvs p) (phs p)) (doneK E Try.f97 res) = step (fun q => I (pid q) (pvs q) (phs q)) p := by
 cases p <;> kernel_rfl
theorem start_eq (I : Heads) (ls : List L) : runC E live I (bodyOf Try.f97) (initS pats ls) (doneK E Try.f97 res) = start (fun q => I (pid q) (pvs q) (phs q)) (ls.headD .hole).toSl ((dropT 1 ls).headD .hole).toSl := by kernel_rfl
theorem run_eq (n : Nat) (ls : List L) : runF E live Try.f97 res n (initS pats ls) = start (iter step n) (ls.headD .hole).toSl ((dropT 1 ls).headD .hole).toSl := runF_iter (id := pid) (vs := pvs) (hs := phs) (step := step) (start := fun J => start J (ls.headD .hole).toSl ((dropT 1 ls).headD .hole).toSl) step_eq (fun I => start_eq I ls) n
def md (a0 : List Int) (a1 : List Int) : Bool := eqB a0 a1
def gd (a0 : List Int) (a1 : List Int) : Prop := True
def acc (ls : List L) : List (List L) × List (List L) := ((ls.headD .hole).toSl, ((dropT 1 ls).headD .hole).toSl)
def R : (List (List L) × List (List L)) → Option Bool := RR (p2 gd) (u2 md)
theorem R_eq {a0} {a1} (h : gd a0 a1) : R ((a0.map iRow), (a1.map iRow)) = some (md a0 a1) := RR_eq (a := (a0, a1)) h
def con : Con := CN pats res acc R
theorem okF (a0 : List Int) (a1 : List Int) (hg : gd a0 a1) (h0 : a0.length ≤ maxLen) (h1 : a1.length ≤ maxLen) : ∃ n, start (iter step n) (a0.map iRow) (a1.map iRow) = ret ((md a0 a1) : Bool) := by
  unfold start md
  simp only [List.length_map]
  refine eq_list (pt := fun i => Pt.p0 (a0.map iRow) (a1.map iRow) (i : Int)) (fun hl J i h h2 => ?_) (fun J => ?_)
  · simp only [step, List.length_map, lt_dec h, lt_dec h2, zle_dec, cond_true, toNat_nat, iAt_row h, iAt_row h2]
    rw [wrap_succ h h0]
    simp only [bne, int_beq, bool_beq, ba_beq]
    cases eqB a0[i] a1[i] <;> rfl
  · simp only [step, List.length_map, nlt_dec, cond_false]
theorem valid_ : Valid Try.prog Ev 97 con := VV (run := fun n x => start (iter step n) x.1 x.2) mix tab_ok .nil Try.func97 (by kernel_rfl) run_eq (fun ls a hl e hg => okF a.1 a.2 hg (by have h : (ls.headD .hole).toSl.length ≤ maxLen := hl.1.len; have e : a.1.map iRow = (ls.headD .hole).toSl := (congrArg (fun x => x.1) e.symm); rw [← e] at h; simpa using h) (by have h : ((dropT 1 ls).headD .hole).toSl.length ≤ maxLen := hl.2.1.len; have e : a.2.map iRow = ((dropT 1 ls).headD .hole).toSl := (congrArg (fun x => x.2) e.symm); rw [← e] at h; simpa using h))
end Z68
namespace Z69
def F (x0 : RKeys) (x1 : RKeys) : Ans := (call (Z68.R (x0.fList, x1.fList)) fun v1 => (bif (!v1) then ret (false : Bool) else (bif (x0.fNeed != x1.fNeed) then ret (false : Bool) else ret (true : Bool))))
def pats : List Pat := [.agg [.sl 3, .int .i64], .agg [.sl 3, .int .i64]]
def res : RP := .one (.rd (.bool))
def md (a0 : MKeys) (a1 : MKeys) : Bool := eqB a0 a1
def gd (a0 : MKeys) (a1 : MKeys) : Prop := True
def acc (ls : List L) : RKeys × RKeys := ((RKeys.dec ls), (RKeys.dec (dropT 2 ls)))
def R : (RKeys × RKeys) → Option Bool := RR (p2 gd) (u2 md)
theorem R_eq {a0} {a1} (h : gd a0 a1) : R ((MKeys.r a0), (MKeys.r a1)) = some (md a0 a1) := RR_eq (a := (a0, a1)) h
def con : Con := CN pats res acc R
theorem okF (a0 : MKeys) (a1 : MKeys) (hg : gd a0 a1) : F (MKeys.r a0) (MKeys.r a1) = ret ((md a0 a1) : Bool) := by
 unfold md
 show (call (Z68.R ((a0.fList.map iRow), (a1.fList.map iRow))) fun v1 => (bif (!v1) then ret (false : Bool) else (bif (a0.fNeed != a1.fNeed) then ret (false : Bool) else ret (true : Bool)))) = _
 simp only [call_eq (Z68.R_eq (a0 := a0.fList) (a1 := a1.fList) trivial), Z68.md]
 try simp only [bne, int_beq, bool_beq, ba_beq]
 have e : eqB a0 a1 = (eqB a0.fList a1.fList && (eqB a0.fNeed a1.fNeed && true)) := by
  cases a0; cases a1
  rw [Bool.eq_iff_iff]
  simp only [eqB_iff, Bool.and_eq_true, MKeys.mk.injEq, and_true]
 rw [e]
 refine and_step fun _ => ?_
 refine and_step fun _ => ?_
 rfl
theorem valid_ : Valid Try.prog Ev 162 con := VV (live := fun _ => []) (nt := 16) (run := fun _ x => F x.1 x.2) mix tab_ok (.cons Z68.valid_ .nil) Try.func162 (by kernel_rfl) (fun _ _ => by kernel_rfl) (fun _ a _ _ hg => ⟨0, okF a.1 a.2 hg⟩)
end Z69
namespace Z70
def F (x0 : RHead) (x1 : RHead) : Ans := (bif (x0.fZone != x1.fZone) then ret (false : Bool) else (bif (x0.fEpoch != x1.fEpoch) then ret (false : Bool) else (bif (x0.fKind != x1.fKind) then ret (false : Bool) else (bif (x0.fTime != x1.fTime) then ret (false : Bool) else (bif (x0.fUntil != x1.fUntil) then ret (false : Bool) else (bif (x0.fCount != x1.fCount) then ret (false : Bool) else (bif (x0.fRoot != x1.fRoot) then ret (false : Bool) else (bif (x0.fPrev != x1.fPrev) then ret (false : Bool) else (call (Z69.R (x0.fKeys, x1.fKeys)) fun v1 => (bif (!v1) then ret (false : Bool) else (call (Z69.R (x0.fHeirs, x1.fHeirs)) fun v2 => (bif (!v2) then ret (false : Bool) else (bif (x0.fWait != x1.fWait) then ret (false : Bool) else (call (Z69.R (x0.fJudge, x1.fJudge)) fun v3 => (bif (!v3) then ret (false : Bool) else (bif (!(x0.fFrozen == x1.fFrozen)) then ret (false : Bool) else ret (true : Bool)))))))))))))))))
def pats : List Pat := [.agg [.int .i64, .int .i64, .int .i64, .int .i64, .int .i64, .int .i64, .int .i64, .int .i64, .sl 3, .int .i64, .sl 3, .int .i64, .int .i64, .sl 3, .int .i64, .bool], .agg [.int .i64, .int .i64, .int .i64, .int .i64, .int .i64, .int .i64, .int .i64, .int .i64, .sl 3, .int .i64, .sl 3, .int .i64, .int .i64, .sl 3, .int .i64, .bool]]
def res : RP := .one (.rd (.bool))
def md (a0 : MHead) (a1 : MHead) : Bool := eqB a0 a1
def gd (a0 : MHead) (a1 : MHead) : Prop := True
def acc (ls : List L) : RHead × RHead := ((RHead.dec ls), (RHead.dec (dropT 16 ls)))
def R : (RHead × RHead) → Option Bool := RR (p2 gd) (u2 md)
theorem R_eq {a0} {a1} (h : gd a0 a1) : R ((MHead.r a0), (MHead.r a1)) = some (md a0 a1) := RR_eq (a := (a0, a1)) h
def con : Con := CN pats res acc R
theorem okF (a0 : MHead) (a1 : MHead) (hg : gd a0 a1) : F (MHead.r a0) (MHead.r a1) = ret ((md a0 a1) : Bool) := by
 unfold md
 show (bif (a0.fZone != a1.fZone) then ret (false : Bool) else (bif (a0.fEpoch != a1.fEpoch) then ret (false : Bool) else (bif (a0.fKind != a1.fKind) then ret (false : Bool) else (bif (a0.fTime != a1.fTime) then ret (false : Bool) else (bif (a0.fUntil != a1.fUntil) then ret (false : Bool) else (bif (a0.fCount != a1.fCount) then ret (false : Bool) else (bif (a0.fRoot != a1.fRoot) then ret (false : Bool) else (bif (a0.fPrev != a1.fPrev) then ret (false : Bool) else (call (Z69.R ((MKeys.r a0.fKeys), (MKeys.r a1.fKeys))) fun v1 => (bif (!v1) then ret (false : Bool) else (call (Z69.R ((MKeys.r a0.fHeirs), (MKeys.r a1.fHeirs))) fun v2 => (bif (!v2) then ret (false : Bool) else (bif (a0.fWait != a1.fWait) then ret (false : Bool) else (call (Z69.R ((MKeys.r a0.fJudge), (MKeys.r a1.fJudge))) fun v3 => (bif (!v3) then ret (false : Bool) else (bif (!(a0.fFrozen == a1.fFrozen)) then ret (false : Bool) else ret (true : Bool))))))))))))))))) = _
 simp only [call_eq (Z69.R_eq (a0 := a0.fKeys) (a1 := a1.fKeys) trivial), Z69.md]
 simp only [call_eq (Z69.R_eq (a0 := a0.fHeirs) (a1 := a1.fHeirs) trivial), Z69.md]
 simp only [call_eq (Z69.R_eq (a0 := a0.fJudge) (a1 := a1.fJudge) trivial), Z69.md]
 try simp only [bne, int_beq, bool_beq, ba_beq]
 have e : eqB a0 a1 = (eqB a0.fZone a1.fZone && (eqB a0.fEpoch a1.fEpoch && (eqB a0.fKind a1.fKind && (eqB a0.fTime a1.fTime && (eqB a0.fUntil a1.fUntil && (eqB a0.fCount a1.fCount && (eqB a0.fRoot a1.fRoot && (eqB a0.fPrev a1.fPrev && (eqB a0.fKeys a1.fKeys && (eqB a0.fHeirs a1.fHeirs && (eqB a0.fWait a1.fWait && (eqB a0.fJudge a1.fJudge && (eqB a0.fFrozen a1.fFrozen && true))))))))))))) := by
  cases a0; cases a1
  rw [Bool.eq_iff_iff]
  simp only [eqB_iff, Bool.and_eq_true, MHead.mk.injEq, and_true]
 rw [e]
 refine and_step fun _ => ?_
 refine and_step fun _ => ?_
 refine and_step fun _ => ?_
 refine and_step fun _ => ?_
 refine and_step fun _ => ?_
 refine and_step fun _ => ?_
 refine and_step fun _ => ?_
 refine and_step fun _ => ?_
 refine and_step fun _ => ?_
 refine and_step fun _ => ?_
 refine and_step fun _ => ?_
 refine and_step fun _ => ?_
 refine and_step fun _ => ?_
 rfl
theorem valid_ : Valid Try.prog Ev 157 con := VV (live := fun _ => []) (nt := 73) (run := fun _ x => F x.1 x.2) mix tab_ok (.cons Z69.valid_ .nil) Try.func157 (by kernel_rfl) (fun _ _ => by kernel_rfl) (fun _ a _ _ hg => ⟨0, okF a.1 a.2 hg⟩)
end Z70
namespace Z71
def F (x0 : MSig) (x1 : MSig) : Ans := (bif (x0.fKey != x1.fKey) then ret (false : Bool) else (bif (x0.fTag != x1.fTag) then ret (false : Bool) else ret (true : Bool)))
def pats : List Pat := [.agg [.int .i64, .int .i64], .agg [.int .i64, .int .i64]]
def res : RP := .one (.rd (.bool))
def md (a0 : MSig) (a1 : MSig) : Bool := eqB a0 a1
def gd (a0 : MSig) (a1 : MSig) : Prop := True
def acc (ls : List L) : MSig × MSig := ((MSig.dec ls), (MSig.dec (dropT 2 ls)))
def R : (MSig × MSig) → Option Bool := RR (p2 gd) (u2 md)
theorem R_eq {a0} {a1} (h : gd a0 a1) : R (a0, a1) = some (md a0 a1) := RR_eq (a := (a0, a1)) h
def con : Con := CN pats res acc R
theorem okF (a0 : MSig) (a1 : MSig) (hg : gd a0 a1) : F a0 a1 = ret ((md a0 a1) : Bool) := by
 unfold md
 show (bif (a0.fKey != a1.fKey) then ret (false : Bool) else (bif (a0.fTag != a1.fTag) then ret (false : Bool) else ret (true : Bool))) = _
 try simp only [bne, int_beq, bool_beq, ba_beq]
 have e : eqB a0 a1 = (eqB a0.fKey a1.fKey && (eqB a0.fTag a1.fTag && true)) := by
  cases a0; cases a1
  rw [Bool.eq_iff_iff]
  simp only [eqB_iff, Bool.and_eq_true, MSig.mk.injEq, and_true]
 rw [e]
 refine and_step fun _ => ?_
 refine and_step fun _ => ?_
 rfl
theorem valid_ : Valid Try.prog Ev 163 con := VV (live := fun _ => []) (nt := 15) (run := fun _ x => F x.1 x.2) mix tab_ok .nil Try.func163 (by kernel_rfl) (fun _ _ => by kernel_rfl) (fun _ a _ _ hg => ⟨0, okF a.1 a.2 hg⟩)
end Z71
namespace Z72
inductive Pt where
 | p0 (a : List (List L)) (b : List (List L)) (c : Int)
def pid : Pt → Nat
 | .p0 .. => 4
def pvs : Pt → List V
 | .p0 a b c => [.sl none 169 a, .sl none 169 b, .int .i64 c]
def phs : Pt → List Root
 | .p0 a b c => []
def step (J : Pt → Ans) : Pt → Ans
 | .p0 a b c => (bif (decide (c < (a.length : Int))) then (bif (decide ((0 : Int) ≤ c)) then (bif (decide (c < (a.length : Int))) then (bif (decide ((0 : Int) ≤ c)) then (bif (decide (c < (b.length : Int))) then (call (Z71.R ((MSig.at a (Int.toNat c)), (MSig.at b (Int.toNat c)))) fun v1 => (bif (!v1) then ret (false : Bool) else J (.p0 a b (IntKind.i64.wrap (c + 1))))) else none) else none) else none) else none) else ret (true : Bool))
def start (J : Pt → Ans) (x0 : List (List L)) (x1 : List (List L)) : Ans := (bif ((x0.length : Int) != (x1.length : Int)) then ret (false : Bool) else J (.p0 x0 x1 0))
def live : Nat → Live := fun i => match i with | 4 => [(0, none), (1, none), (5, none)] | _ => []
def pats : List Pat := [.rd (.sl 169), .rd (.sl 169)]
def res : RP := .one (.rd (.bool))
abbrev E : Env := { T := assoc Tab, G := conG [(163, Z71.con)], nt := 27 }
theorem step_eq (I : Heads) (p : Pt) : enterC E live I (pid p) (bodyOf Try.f158) (stOf (live (pid p)) (pvs p) (phs p)) (doneK E Try.f158 res) = step (fun q => I (pid q) (pvs q) (phs q)) p := by
 cases p <;> kernel_rfl
theorem start_eq (I : Heads) (ls : List L) : runC E live I (bodyOf Try.f158) (initS pats ls) (doneK E Try.f158 res) = start (fun q => I (pid q) (pvs q) (phs q)) (ls.headD .hole).toSl ((dropT 1 ls).headD .hole).toSl := by kernel_rfl
theorem run_eq (n : Nat) (ls : List L) : runF E live Try.f158 res n (initS pats ls) = start (iter step n) (ls.headD .hole).toSl ((dropT 1 ls).headD .hole).toSl := runF_iter (id := pid) (vs := pvs) (hs := phs) (step := step) (start := fun J => start J (ls.headD .hole).toSl ((dropT 1 ls).headD .hole).toSl) step_eq (fun I => start_eq I ls) n
def md (a0 : List MSig) (a1 : List MSig) : Bool := eqB a0 a1
def gd (a0 : List MSig) (a1 : List MSig) : Prop := True
def acc (ls : List L) : List (List L) × List (List L) := ((ls.headD .hole).toSl, ((dropT 1 ls).headD .hole).toSl)
def R : (List (List L) × List (List L)) → Option Bool := RR (p2 gd) (u2 md)
theorem R_eq {a0} {a1} (h : gd a0 a1) : R ((a0.map MSig.row), (a1.map MSig.row)) = some (md a0 a1) := RR_eq (a := (a0, a1)) h
def con : Con := CN pats res acc R
theorem okF (a0 : List MSig) (a1 : List MSig) (hg : gd a0 a1) (h0 : a0.length ≤ maxLen) (h1 : a1.length ≤ maxLen) : ∃ n, start (iter step n) (a0.map MSig.row) (a1.map MSig.row) = ret ((md a0 a1) : Bool) := by
  unfold start md
  simp only [List.length_map]
  refine eq_list (pt := fun i => Pt.p0 (a0.map MSig.row) (a1.map MSig.row) (i : Int)) (fun hl J i h h2 => ?_) (fun J => ?_)
  · simp only [step, List.length_map, lt_dec h, lt_dec h2, zle_dec, cond_true, toNat_nat, MSig.at_row h, MSig.at_row h2]
    rw [wrap_succ h h0]
    rw [call_eq (Z71.R_eq (a0 := a0[i]) (a1 := a1[i]) trivial), Z71.md]
    cases eqB a0[i] a1[i] <;> rfl
  · simp only [step, List.length_map, nlt_dec, cond_false]
theorem valid_ : Valid Try.prog Ev 158 con := VV (run := fun n x => start (iter step n) x.1 x.2) mix tab_ok (.cons Z71.valid_ .nil) Try.func158 (by kernel_rfl) run_eq (fun ls a hl e hg => okF a.1 a.2 hg (by have h : (ls.headD .hole).toSl.length ≤ maxLen := hl.1.len; have e : a.1.map MSig.row = (ls.headD .hole).toSl := (congrArg (fun x => x.1) e.symm); rw [← e] at h; simpa using h) (by have h : ((dropT 1 ls).headD .hole).toSl.length ≤ maxLen := hl.2.1.len; have e : a.2.map MSig.row = ((dropT 1 ls).headD .hole).toSl := (congrArg (fun x => x.2) e.symm); rw [← e] at h; simpa using h))
end Z72
namespace Z73
def F (x0 : RSigned) (x1 : RSigned) : Ans := (call (Z70.R (x0.fHead, x1.fHead)) fun v1 => (bif (!v1) then ret (false : Bool) else (call (Z72.R (x0.fSigs, x1.fSigs)) fun v2 => (bif (!v2) then ret (false : Bool) else ret (true : Bool)))))
def pats : List Pat := [.agg [.int .i64, .int .i64, .int .i64, .int .i64, .int .i64, .int .i64, .int .i64, .int .i64, .sl 3, .int .i64, .sl 3, .int .i64, .int .i64, .sl 3, .int .i64, .bool, .sl 169], .agg [.int .i64, .int .i64, .int .i64, .int .i64, .int .i64, .int .i64, .int .i64, .int .i64, .sl 3, .int .i64, .sl 3, .int .i64, .int .i64, .sl 3, .int .i64, .bool, .sl 169]]
def res : RP := .one (.rd (.bool))
def md (a0 : MSigned) (a1 : MSigned) : Bool := eqB a0 a1
def gd (a0 : MSigned) (a1 : MSigned) : Prop := True
def acc (ls : List L) : RSigned × RSigned := ((RSigned.dec ls), (RSigned.dec (dropT 17 ls)))
def R : (RSigned × RSigned) → Option Bool := RR (p2 gd) (u2 md)
theorem R_eq {a0} {a1} (h : gd a0 a1) : R ((MSigned.r a0), (MSigned.r a1)) = some (md a0 a1) := RR_eq (a := (a0, a1)) h
def con : Con := CN pats res acc R
theorem okF (a0 : MSigned) (a1 : MSigned) (hg : gd a0 a1) : F (MSigned.r a0) (MSigned.r a1) = ret ((md a0 a1) : Bool) := by
 unfold md
 show (call (Z70.R ((MHead.r a0.fHead), (MHead.r a1.fHead))) fun v1 => (bif (!v1) then ret (false : Bool) else (call (Z72.R ((a0.fSigs.map MSig.row), (a1.fSigs.map MSig.row))) fun v2 => (bif (!v2) then ret (false : Bool) else ret (true : Bool))))) = _
 simp only [call_eq (Z70.R_eq (a0 := a0.fHead) (a1 := a1.fHead) trivial), Z70.md]
 simp only [call_eq (Z72.R_eq (a0 := a0.fSigs) (a1 := a1.fSigs) trivial), Z72.md]
 try simp only [bne, int_beq, bool_beq, ba_beq]
 have e : eqB a0 a1 = (eqB a0.fHead a1.fHead && (eqB a0.fSigs a1.fSigs && true)) := by
  cases a0; cases a1
  rw [Bool.eq_iff_iff]
  simp only [eqB_iff, Bool.and_eq_true, MSigned.mk.injEq, and_true]
 rw [e]
 refine and_step fun _ => ?_
 refine and_step fun _ => ?_
 rfl
theorem valid_ : Valid Try.prog Ev 152 con := VV (live := fun _ => []) (nt := 17) (run := fun _ x => F x.1 x.2) mix tab_ok (.cons Z70.valid_ (.cons Z72.valid_ .nil)) Try.func152 (by kernel_rfl) (fun _ _ => by kernel_rfl) (fun _ a _ _ hg => ⟨0, okF a.1 a.2 hg⟩)
end Z73
namespace Z74
inductive Pt where
 | p0 (a : List (List L)) (b : List (List L)) (c : Int)
def pid : Pt → Nat
 | .p0 .. => 4
def pvs : Pt → List V
 | .p0 a b c => [.sl none 156 a, .sl none 156 b, .int .i64 c]
def phs : Pt → List Root
 | .p0 a b c => []
def step (J : Pt → Ans) : Pt → Ans
 | .p0 a b c => (bif (decide (c < (a.length : Int))) then (bif (decide ((0 : Int) ≤ c)) then (bif (decide (c < (a.length : Int))) then (bif (decide ((0 : Int) ≤ c)) then (bif (decide (c < (b.length : Int))) then (call (Z73.R ((RSigned.at a (Int.toNat c)), (RSigned.at b (Int.toNat c)))) fun v1 => (bif (!v1) then ret (false : Bool) else J (.p0 a b (IntKind.i64.wrap (c + 1))))) else none) else none) else none) else none) else ret (true : Bool))
def start (J : Pt → Ans) (x0 : List (List L)) (x1 : List (List L)) : Ans := (bif ((x0.length : Int) != (x1.length : Int)) then ret (false : Bool) else J (.p0 x0 x1 0))
def live : Nat → Live := fun i => match i with | 4 => [(0, none), (1, none), (5, none)] | _ => []
def pats : List Pat := [.rd (.sl 156), .rd (.sl 156)]
def res : RP := .one (.rd (.bool))
abbrev E : Env := { T := assoc Tab, G := conG [(152, Z73.con)], nt := 27 }
theorem step_eq (I : Heads) (p : Pt) : enterC E live I (pid p) (bodyOf Try.f147) (stOf (live (pid p)) (pvs p) (phs p)) (doneK E Try.f147 res) = step (fun q => I (pid q) (pvs q) (phs q)) p := by
 cases p <;> kernel_rfl
theorem start_eq (I : Heads) (ls : List L) : runC E live I (bodyOf Try.f147) (initS pats ls) (doneK E Try.f147 res) = start (fun q => I (pid q) (pvs q) (phs q)) (ls.headD .hole).toSl ((dropT 1 ls).headD .hole).toSl := by kernel_rfl
theorem run_eq (n : Nat) (ls : List L) : runF E live Try.f147 res n (initS pats ls) = start (iter step n) (ls.headD .hole).toSl ((dropT 1 ls).headD .hole).toSl := runF_iter (id := pid) (vs := pvs) (hs := phs) (step := step) (start := fun J => start J (ls.headD .hole).toSl ((dropT 1 ls).headD .hole).toSl) step_eq (fun I => start_eq I ls) n
def md (a0 : List MSigned) (a1 : List MSigned) : Bool := eqB a0 a1
def gd (a0 : List MSigned) (a1 : List MSigned) : Prop := True
def acc (ls : List L) : List (List L) × List (List L) := ((ls.headD .hole).toSl, ((dropT 1 ls).headD .hole).toSl)
def R : (List (List L) × List (List L)) → Option Bool := RR (p2 gd) (u2 md)
theorem R_eq {a0} {a1} (h : gd a0 a1) : R ((a0.map MSigned.row), (a1.map MSigned.row)) = some (md a0 a1) := RR_eq (a := (a0, a1)) h
def con : Con := CN pats res acc R
theorem okF (a0 : List MSigned) (a1 : List MSigned) (hg : gd a0 a1) (h0 : a0.length ≤ maxLen) (h1 : a1.length ≤ maxLen) : ∃ n, start (iter step n) (a0.map MSigned.row) (a1.map MSigned.row) = ret ((md a0 a1) : Bool) := by
  unfold start md
  simp only [List.length_map]
  refine eq_list (pt := fun i => Pt.p0 (a0.map MSigned.row) (a1.map MSigned.row) (i : Int)) (fun hl J i h h2 => ?_) (fun J => ?_)
  · simp only [step, List.length_map, lt_dec h, lt_dec h2, zle_dec, cond_true, toNat_nat, MSigned.at_row h, MSigned.at_row h2]
    rw [wrap_succ h h0]
    rw [call_eq (Z73.R_eq (a0 := a0[i]) (a1 := a1[i]) trivial), Z73.md]
    cases eqB a0[i] a1[i] <;> rfl
  · simp only [step, List.length_map, nlt_dec, cond_false]
theorem valid_ : Valid Try.prog Ev 147 con := VV (run := fun n x => start (iter step n) x.1 x.2) mix tab_ok (.cons Z73.valid_ .nil) Try.func147 (by kernel_rfl) run_eq (fun ls a hl e hg => okF a.1 a.2 hg (by have h : (ls.headD .hole).toSl.length ≤ maxLen := hl.1.len; have e : a.1.map MSigned.row = (ls.headD .hole).toSl := (congrArg (fun x => x.1) e.symm); rw [← e] at h; simpa using h) (by have h : ((dropT 1 ls).headD .hole).toSl.length ≤ maxLen := hl.2.1.len; have e : a.2.map MSigned.row = ((dropT 1 ls).headD .hole).toSl := (congrArg (fun x => x.2) e.symm); rw [← e] at h; simpa using h))
end Z74
namespace Z75
inductive Pt where
 | p0 (a : List (List L)) (b : List (List L)) (c : Int)
def pid : Pt → Nat
 | .p0 .. => 4
def pvs : Pt → List V
 | .p0 a b c => [.sl none 149 a, .sl none 149 b, .int .i64 c]
def phs : Pt → List Root
 | .p0 a b c => []
def step (J : Pt → Ans) : Pt → Ans
 | .p0 a b c => (bif (decide (c < (a.length : Int))) then (bif (decide ((0 : Int) ≤ c)) then (bif (decide (c < (a.length : Int))) then (bif (decide ((0 : Int) ≤ c)) then (bif (decide (c < (b.length : Int))) then (call (Z74.R ((lAt a (Int.toNat c)), (lAt b (Int.toNat c)))) fun v1 => (bif (!v1) then ret (false : Bool) else J (.p0 a b (IntKind.i64.wrap (c + 1))))) else none) else none) else none) else none) else ret (true : Bool))
def start (J : Pt → Ans) (x0 : List (List L)) (x1 : List (List L)) : Ans := (bif ((x0.length : Int) != (x1.length : Int)) then ret (false : Bool) else J (.p0 x0 x1 0))
def live : Nat → Live := fun i => match i with | 4 => [(0, none), (1, none), (5, none)] | _ => []
def pats : List Pat := [.rd (.sl 149), .rd (.sl 149)]
def res : RP := .one (.rd (.bool))
abbrev E : Env := { T := assoc Tab, G := conG [(147, Z74.con)], nt := 27 }
theorem step_eq (I : Heads) (p : Pt) : enterC E live I (pid p) (bodyOf Try.f139) (stOf (live (pid p)) (pvs p) (phs p)) (doneK E Try.f139 res) = step (fun q => I (pid q) (pvs q) (phs q)) p := by
 cases p <;> kernel_rfl
theorem start_eq (I : Heads) (ls : List L) : runC E live I (bodyOf Try.f139) (initS pats ls) (doneK E Try.f139 res) = start (fun q => I (pid q) (pvs q) (phs q)) (ls.headD .hole).toSl ((dropT 1 ls).headD .hole).toSl := by kernel_rfl
theorem run_eq (n : Nat) (ls : List L) : runF E live Try.f139 res n (initS pats ls) = start (iter step n) (ls.headD .hole).toSl ((dropT 1 ls).headD .hole).toSl := runF_iter (id := pid) (vs := pvs) (hs := phs) (step := step) (start := fun J => start J (ls.headD .hole).toSl ((dropT 1 ls).headD .hole).toSl) step_eq (fun I => start_eq I ls) n
def md (a0 : List (List MSigned)) (a1 : List (List MSigned)) : Bool := eqB a0 a1
def gd (a0 : List (List MSigned)) (a1 : List (List MSigned)) : Prop := True
def acc (ls : List L) : List (List L) × List (List L) := ((ls.headD .hole).toSl, ((dropT 1 ls).headD .hole).toSl)
def R : (List (List L) × List (List L)) → Option Bool := RR (p2 gd) (u2 md)
theorem R_eq {a0} {a1} (h : gd a0 a1) : R ((a0.map (lRow MSigned.row)), (a1.map (lRow MSigned.row))) = some (md a0 a1) := RR_eq (a := (a0, a1)) h
def con : Con := CN pats res acc R
theorem okF (a0 : List (List MSigned)) (a1 : List (List MSigned)) (hg : gd a0 a1) (h0 : a0.length ≤ maxLen) (h1 : a1.length ≤ maxLen) : ∃ n, start (iter step n) (a0.map (lRow MSigned.row)) (a1.map (lRow MSigned.row)) = ret ((md a0 a1) : Bool) := by
  unfold start md
  simp only [List.length_map]
  refine eq_list (pt := fun i => Pt.p0 (a0.map (lRow MSigned.row)) (a1.map (lRow MSigned.row)) (i : Int)) (fun hl J i h h2 => ?_) (fun J => ?_)
  · simp only [step, List.length_map, lt_dec h, lt_dec h2, zle_dec, cond_true, toNat_nat, lAt_row h, lAt_row h2]
    rw [wrap_succ h h0]
    rw [call_eq (Z74.R_eq (a0 := a0[i]) (a1 := a1[i]) trivial), Z74.md]
    cases eqB a0[i] a1[i] <;> rfl
  · simp only [step, List.length_map, nlt_dec, cond_false]
theorem valid_ : Valid Try.prog Ev 139 con := VV (run := fun n x => start (iter step n) x.1 x.2) mix tab_ok (.cons Z74.valid_ .nil) Try.func139 (by kernel_rfl) run_eq (fun ls a hl e hg => okF a.1 a.2 hg (by have h : (ls.headD .hole).toSl.length ≤ maxLen := hl.1.len; have e : a.1.map (lRow MSigned.row) = (ls.headD .hole).toSl := (congrArg (fun x => x.1) e.symm); rw [← e] at h; simpa using h) (by have h : ((dropT 1 ls).headD .hole).toSl.length ≤ maxLen := hl.2.1.len; have e : a.2.map (lRow MSigned.row) = ((dropT 1 ls).headD .hole).toSl := (congrArg (fun x => x.2) e.symm); rw [← e] at h; simpa using h))
end Z75
namespace Z76
def F (x0 : RFork) (x1 : RFork) : Ans := (call (Z73.R (x0.fBefore, x1.fBefore)) fun v1 => (bif (!v1) then ret (false : Bool) else (call (Z73.R (x0.fA, x1.fA)) fun v2 => (bif (!v2) then ret (false : Bool) else (call (Z73.R (x0.fB, x1.fB)) fun v3 => (bif (!v3) then ret (false : Bool) else ret (true : Bool)))))))
def pats : List Pat := [.agg [.int .i64, .int .i64, .int .i64, .int .i64, .int .i64, .int .i64, .int .i64, .int .i64, .sl 3, .int .i64, .sl 3, .int .i64, .int .i64, .sl 3, .int .i64, .bool, .sl 169, .int .i64, .int .i64, .int .i64, .int .i64, .int .i64, .int .i64, .int .i64, .int .i64, .sl 3, .int .i64, .sl 3, .int .i64, .int .i64, .sl 3, .int .i64, .bool, .sl 169, .int .i64, .int .i64, .int .i64, .int .i64, .int .i64, .int .i64, .int .i64, .int .i64, .sl 3, .int .i64, .sl 3, .int .i64, .int .i64, .sl 3, .int .i64, .bool, .sl 169], .agg [.int .i64, .int .i64, .int .i64, .int .i64, .int .i64, .int .i64, .int .i64, .int .i64, .sl 3, .int .i64, .sl 3, .int .i64, .int .i64, .sl 3, .int .i64, .bool, .sl 169, .int .i64, .int .i64, .int .i64, .int .i64, .int .i64, .int .i64, .int .i64, .int .i64, .sl 3, .int .i64, .sl 3, .int .i64, .int .i64, .sl 3, .int .i64, .bool, .sl 169, .int .i64, .int .i64, .int .i64, .int .i64, .int .i64, .int .i64, .int .i64, .int .i64, .sl 3, .int .i64, .sl 3, .int .i64, .int .i64, .sl 3, .int .i64, .bool, .sl 169]]
def res : RP := .one (.rd (.bool))
def md (a0 : MFork) (a1 : MFork) : Bool := eqB a0 a1
def gd (a0 : MFork) (a1 : MFork) : Prop := True
def acc (ls : List L) : RFork × RFork := ((RFork.dec ls), (RFork.dec (dropT 51 ls)))
def R : (RFork × RFork) → Option Bool := RR (p2 gd) (u2 md)
theorem R_eq {a0} {a1} (h : gd a0 a1) : R ((MFork.r a0), (MFork.r a1)) = some (md a0 a1) := RR_eq (a := (a0, a1)) h
def con : Con := CN pats res acc R
theorem okF (a0 : MFork) (a1 : MFork) (hg : gd a0 a1) : F (MFork.r a0) (MFork.r a1) = ret ((md a0 a1) : Bool) := by
 unfold md
 show (call (Z73.R ((MSigned.r a0.fBefore), (MSigned.r a1.fBefore))) fun v1 => (bif (!v1) then ret (false : Bool) else (call (Z73.R ((MSigned.r a0.fA), (MSigned.r a1.fA))) fun v2 => (bif (!v2) then ret (false : Bool) else (call (Z73.R ((MSigned.r a0.fB), (MSigned.r a1.fB))) fun v3 => (bif (!v3) then ret (false : Bool) else ret (true : Bool))))))) = _
 simp only [call_eq (Z73.R_eq (a0 := a0.fBefore) (a1 := a1.fBefore) trivial), Z73.md]
 simp only [call_eq (Z73.R_eq (a0 := a0.fA) (a1 := a1.fA) trivial), Z73.md]
 simp only [call_eq (Z73.R_eq (a0 := a0.fB) (a1 := a1.fB) trivial), Z73.md]
 try simp only [bne, int_beq, bool_beq, ba_beq]
 have e : eqB a0 a1 = (eqB a0.fBefore a1.fBefore && (eqB a0.fA a1.fA && (eqB a0.fB a1.fB && true))) := by
  cases a0; cases a1
  rw [Bool.eq_iff_iff]
  simp only [eqB_iff, Bool.and_eq_true, MFork.mk.injEq, and_true]
 rw [e]
 refine and_step fun _ => ?_
 refine and_step fun _ => ?_
 refine and_step fun _ => ?_
 rfl
theorem valid_ : Valid Try.prog Ev 148 con := VV (live := fun _ => []) (nt := 23) (run := fun _ x => F x.1 x.2) mix tab_ok (.cons Z73.valid_ .nil) Try.func148 (by kernel_rfl) (fun _ _ => by kernel_rfl) (fun _ a _ _ hg => ⟨0, okF a.1 a.2 hg⟩)
end Z76
namespace Z77
inductive Pt where
 | p0 (a : List (List L)) (b : List (List L)) (c : Int)
def pid : Pt → Nat
 | .p0 .. => 4
def pvs : Pt → List V
 | .p0 a b c => [.sl none 158 a, .sl none 158 b, .int .i64 c]
def phs : Pt → List Root
 | .p0 a b c => []
def step (J : Pt → Ans) : Pt → Ans
 | .p0 a b c => (bif (decide (c < (a.length : Int))) then (bif (decide ((0 : Int) ≤ c)) then (bif (decide (c < (a.length : Int))) then (bif (decide ((0 : Int) ≤ c)) then (bif (decide (c < (b.length : Int))) then (call (Z76.R ((RFork.at a (Int.toNat c)), (RFork.at b (Int.toNat c)))) fun v1 => (bif (!v1) then ret (false : Bool) else J (.p0 a b (IntKind.i64.wrap (c + 1))))) else none) else none) else none) else none) else ret (true : Bool))
def start (J : Pt → Ans) (x0 : List (List L)) (x1 : List (List L)) : Ans := (bif ((x0.length : Int) != (x1.length : Int)) then ret (false : Bool) else J (.p0 x0 x1 0))
def live : Nat → Live := fun i => match i with | 4 => [(0, none), (1, none), (5, none)] | _ => []
def pats : List Pat := [.rd (.sl 158), .rd (.sl 158)]
def res : RP := .one (.rd (.bool))
abbrev E : Env := { T := assoc Tab, G := conG [(148, Z76.con)], nt := 27 }
theorem step_eq (I : Heads) (p : Pt) : enterC E live I (pid p) (bodyOf Try.f140) (stOf (live (pid p)) (pvs p) (phs p)) (doneK E Try.f140 res) = step (fun q => I (pid q) (pvs q) (phs q)) p := by
 cases p <;> kernel_rfl
theorem start_eq (I : Heads) (ls : List L) : runC E live I (bodyOf Try.f140) (initS pats ls) (doneK E Try.f140 res) = start (fun q => I (pid q) (pvs q) (phs q)) (ls.headD .hole).toSl ((dropT 1 ls).headD .hole).toSl := by kernel_rfl
theorem run_eq (n : Nat) (ls : List L) : runF E live Try.f140 res n (initS pats ls) = start (iter step n) (ls.headD .hole).toSl ((dropT 1 ls).headD .hole).toSl := runF_iter (id := pid) (vs := pvs) (hs := phs) (step := step) (start := fun J => start J (ls.headD .hole).toSl ((dropT 1 ls).headD .hole).toSl) step_eq (fun I => start_eq I ls) n
def md (a0 : List MFork) (a1 : List MFork) : Bool := eqB a0 a1
def gd (a0 : List MFork) (a1 : List MFork) : Prop := True
def acc (ls : List L) : List (List L) × List (List L) := ((ls.headD .hole).toSl, ((dropT 1 ls).headD .hole).toSl)
def R : (List (List L) × List (List L)) → Option Bool := RR (p2 gd) (u2 md)
theorem R_eq {a0} {a1} (h : gd a0 a1) : R ((a0.map MFork.row), (a1.map MFork.row)) = some (md a0 a1) := RR_eq (a := (a0, a1)) h
def con : Con := CN pats res acc R
theorem okF (a0 : List MFork) (a1 : List MFork) (hg : gd a0 a1) (h0 : a0.length ≤ maxLen) (h1 : a1.length ≤ maxLen) : ∃ n, start (iter step n) (a0.map MFork.row) (a1.map MFork.row) = ret ((md a0 a1) : Bool) := by
  unfold start md
  simp only [List.length_map]
  refine eq_list (pt := fun i => Pt.p0 (a0.map MFork.row) (a1.map MFork.row) (i : Int)) (fun hl J i h h2 => ?_) (fun J => ?_)
  · simp only [step, List.length_map, lt_dec h, lt_dec h2, zle_dec, cond_true, toNat_nat, MFork.at_row h, MFork.at_row h2]
    rw [wrap_succ h h0]
    rw [call_eq (Z76.R_eq (a0 := a0[i]) (a1 := a1[i]) trivial), Z76.md]
    cases eqB a0[i] a1[i] <;> rfl
  · simp only [step, List.length_map, nlt_dec, cond_false]
theorem valid_ : Valid Try.prog Ev 140 con := VV (run := fun n x => start (iter step n) x.1 x.2) mix tab_ok (.cons Z76.valid_ .nil) Try.func140 (by kernel_rfl) run_eq (fun ls a hl e hg => okF a.1 a.2 hg (by have h : (ls.headD .hole).toSl.length ≤ maxLen := hl.1.len; have e : a.1.map MFork.row = (ls.headD .hole).toSl := (congrArg (fun x => x.1) e.symm); rw [← e] at h; simpa using h) (by have h : ((dropT 1 ls).headD .hole).toSl.length ≤ maxLen := hl.2.1.len; have e : a.2.map MFork.row = ((dropT 1 ls).headD .hole).toSl := (congrArg (fun x => x.2) e.symm); rw [← e] at h; simpa using h))
end Z77
namespace Z78
def F (x0 : RKnown) (x1 : RKnown) : Ans := (call (Z75.R (x0.fChains, x1.fChains)) fun v1 => (bif (!v1) then ret (false : Bool) else (call (Z77.R (x0.fForks, x1.fForks)) fun v2 => (bif (!v2) then ret (false : Bool) else ret (true : Bool)))))
def pats : List Pat := [.agg [.sl 149, .sl 158], .agg [.sl 149, .sl 158]]
def res : RP := .one (.rd (.bool))
def md (a0 : MKnown) (a1 : MKnown) : Bool := eqB a0 a1
def gd (a0 : MKnown) (a1 : MKnown) : Prop := True
def acc (ls : List L) : RKnown × RKnown := ((RKnown.dec ls), (RKnown.dec (dropT 2 ls)))
def R : (RKnown × RKnown) → Option Bool := RR (p2 gd) (u2 md)
theorem R_eq {a0} {a1} (h : gd a0 a1) : R ((MKnown.r a0), (MKnown.r a1)) = some (md a0 a1) := RR_eq (a := (a0, a1)) h
def con : Con := CN pats res acc R
theorem okF (a0 : MKnown) (a1 : MKnown) (hg : gd a0 a1) : F (MKnown.r a0) (MKnown.r a1) = ret ((md a0 a1) : Bool) := by
 unfold md
 show (call (Z75.R ((a0.fChains.map (lRow MSigned.row)), (a1.fChains.map (lRow MSigned.row)))) fun v1 => (bif (!v1) then ret (false : Bool) else (call (Z77.R ((a0.fForks.map MFork.row), (a1.fForks.map MFork.row))) fun v2 => (bif (!v2) then ret (false : Bool) else ret (true : Bool))))) = _
 simp only [call_eq (Z75.R_eq (a0 := a0.fChains) (a1 := a1.fChains) trivial), Z75.md]
 simp only [call_eq (Z77.R_eq (a0 := a0.fForks) (a1 := a1.fForks) trivial), Z77.md]
 try simp only [bne, int_beq, bool_beq, ba_beq]
 have e : eqB a0 a1 = (eqB a0.fChains a1.fChains && (eqB a0.fForks a1.fForks && true)) := by
  cases a0; cases a1
  rw [Bool.eq_iff_iff]
  simp only [eqB_iff, Bool.and_eq_true, MKnown.mk.injEq, and_true]
 rw [e]
 refine and_step fun _ => ?_
 refine and_step fun _ => ?_
 rfl
theorem valid_ : Valid Try.prog Ev 126 con := VV (live := fun _ => []) (nt := 17) (run := fun _ x => F x.1 x.2) mix tab_ok (.cons Z75.valid_ (.cons Z77.valid_ .nil)) Try.func126 (by kernel_rfl) (fun _ _ => by kernel_rfl) (fun _ a _ _ hg => ⟨0, okF a.1 a.2 hg⟩)
end Z78
namespace Z79
def F (x0 : RTrace) (x1 : RTrace) : Ans := (call (Z78.R (x0.fKnown, x1.fKnown)) fun v1 => (bif (!v1) then ret (false : Bool) else (bif (x0.fCode != x1.fCode) then ret (false : Bool) else (call (Z63.R (x0.fEntry, x1.fEntry)) fun v2 => (bif (!v2) then ret (false : Bool) else (call (Z68.R (x0.fZones, x1.fZones)) fun v3 => (bif (!v3) then ret (false : Bool) else (bif (x0.fMoves != x1.fMoves) then ret (false : Bool) else ret (true : Bool)))))))))
def pats : List Pat := [.agg [.sl 149, .sl 158, .int .i64, .str, .int .i64, .int .i64, .sl 9, .sl 3, .int .i64], .agg [.sl 149, .sl 158, .int .i64, .str, .int .i64, .int .i64, .sl 9, .sl 3, .int .i64]]
def res : RP := .one (.rd (.bool))
def md (a0 : MTrace) (a1 : MTrace) : Bool := eqB a0 a1
def gd (a0 : MTrace) (a1 : MTrace) : Prop := True
def acc (ls : List L) : RTrace × RTrace := ((RTrace.dec ls), (RTrace.dec (dropT 9 ls)))
def R : (RTrace × RTrace) → Option Bool := RR (p2 gd) (u2 md)
theorem R_eq {a0} {a1} (h : gd a0 a1) : R ((MTrace.r a0), (MTrace.r a1)) = some (md a0 a1) := RR_eq (a := (a0, a1)) h
def con : Con := CN pats res acc R
theorem okF (a0 : MTrace) (a1 : MTrace) (hg : gd a0 a1) : F (MTrace.r a0) (MTrace.r a1) = ret ((md a0 a1) : Bool) := by
 unfold md
 show (call (Z78.R ((MKnown.r a0.fKnown), (MKnown.r a1.fKnown))) fun v1 => (bif (!v1) then ret (false : Bool) else (bif (a0.fCode != a1.fCode) then ret (false : Bool) else (call (Z63.R ((MEntry.r a0.fEntry), (MEntry.r a1.fEntry))) fun v2 => (bif (!v2) then ret (false : Bool) else (call (Z68.R ((a0.fZones.map iRow), (a1.fZones.map iRow))) fun v3 => (bif (!v3) then ret (false : Bool) else (bif (a0.fMoves != a1.fMoves) then ret (false : Bool) else ret (true : Bool))))))))) = _
 simp only [call_eq (Z78.R_eq (a0 := a0.fKnown) (a1 := a1.fKnown) trivial), Z78.md]
 simp only [call_eq (Z63.R_eq (a0 := a0.fEntry) (a1 := a1.fEntry) trivial), Z63.md]
 simp only [call_eq (Z68.R_eq (a0 := a0.fZones) (a1 := a1.fZones) trivial), Z68.md]
 try simp only [bne, int_beq, bool_beq, ba_beq]
 have e : eqB a0 a1 = (eqB a0.fKnown a1.fKnown && (eqB a0.fCode a1.fCode && (eqB a0.fEntry a1.fEntry && (eqB a0.fZones a1.fZones && (eqB a0.fMoves a1.fMoves && true))))) := by
  cases a0; cases a1
  rw [Bool.eq_iff_iff]
  simp only [eqB_iff, Bool.and_eq_true, MTrace.mk.injEq, and_true]
 rw [e]
 refine and_step fun _ => ?_
 refine and_step fun _ => ?_
 refine and_step fun _ => ?_
 refine and_step fun _ => ?_
 refine and_step fun _ => ?_
 rfl
theorem valid_ : Valid Try.prog Ev 92 con := VV (live := fun _ => []) (nt := 33) (run := fun _ x => F x.1 x.2) mix tab_ok (.cons Z78.valid_ (.cons Z63.valid_ (.cons Z68.valid_ .nil))) Try.func92 (by kernel_rfl) (fun _ _ => by kernel_rfl) (fun _ a _ _ hg => ⟨0, okF a.1 a.2 hg⟩)
end Z79
namespace Z80
inductive Pt where
 | p0 (a : List (List L)) (b : List (List L)) (c : Int)
def pid : Pt → Nat
 | .p0 .. => 4
def pvs : Pt → List V
 | .p0 a b c => [.sl none 124 a, .sl none 124 b, .int .i64 c]
def phs : Pt → List Root
 | .p0 a b c => []
def step (J : Pt → Ans) : Pt → Ans
 | .p0 a b c => (bif (decide (c < (a.length : Int))) then (bif (decide ((0 : Int) ≤ c)) then (bif (decide (c < (a.length : Int))) then (bif (decide ((0 : Int) ≤ c)) then (bif (decide (c < (b.length : Int))) then (call (Z79.R ((RTrace.at a (Int.toNat c)), (RTrace.at b (Int.toNat c)))) fun v1 => (bif (!v1) then ret (false : Bool) else J (.p0 a b (IntKind.i64.wrap (c + 1))))) else none) else none) else none) else none) else ret (true : Bool))
def start (J : Pt → Ans) (x0 : List (List L)) (x1 : List (List L)) : Ans := (bif ((x0.length : Int) != (x1.length : Int)) then ret (false : Bool) else J (.p0 x0 x1 0))
def live : Nat → Live := fun i => match i with | 4 => [(0, none), (1, none), (5, none)] | _ => []
def pats : List Pat := [.rd (.sl 124), .rd (.sl 124)]
def res : RP := .one (.rd (.bool))
abbrev E : Env := { T := assoc Tab, G := conG [(92, Z79.con)], nt := 27 }
theorem step_eq (I : Heads) (p : Pt) : enterC E live I (pid p) (bodyOf Try.f41) (stOf (live (pid p)) (pvs p) (phs p)) (doneK E Try.f41 res) = step (fun q => I (pid q) (pvs q) (phs q)) p := by
 cases p <;> kernel_rfl
theorem start_eq (I : Heads) (ls : List L) : runC E live I (bodyOf Try.f41) (initS pats ls) (doneK E Try.f41 res) = start (fun q => I (pid q) (pvs q) (phs q)) (ls.headD .hole).toSl ((dropT 1 ls).headD .hole).toSl := by kernel_rfl
theorem run_eq (n : Nat) (ls : List L) : runF E live Try.f41 res n (initS pats ls) = start (iter step n) (ls.headD .hole).toSl ((dropT 1 ls).headD .hole).toSl := runF_iter (id := pid) (vs := pvs) (hs := phs) (step := step) (start := fun J => start J (ls.headD .hole).toSl ((dropT 1 ls).headD .hole).toSl) step_eq (fun I => start_eq I ls) n
def md (a0 : List MTrace) (a1 : List MTrace) : Bool := eqB a0 a1
def gd (a0 : List MTrace) (a1 : List MTrace) : Prop := True
def acc (ls : List L) : List (List L) × List (List L) := ((ls.headD .hole).toSl, ((dropT 1 ls).headD .hole).toSl)
def R : (List (List L) × List (List L)) → Option Bool := RR (p2 gd) (u2 md)
theorem R_eq {a0} {a1} (h : gd a0 a1) : R ((a0.map MTrace.row), (a1.map MTrace.row)) = some (md a0 a1) := RR_eq (a := (a0, a1)) h
def con : Con := CN pats res acc R
theorem okF (a0 : List MTrace) (a1 : List MTrace) (hg : gd a0 a1) (h0 : a0.length ≤ maxLen) (h1 : a1.length ≤ maxLen) : ∃ n, start (iter step n) (a0.map MTrace.row) (a1.map MTrace.row) = ret ((md a0 a1) : Bool) := by
  unfold start md
  simp only [List.length_map]
  refine eq_list (pt := fun i => Pt.p0 (a0.map MTrace.row) (a1.map MTrace.row) (i : Int)) (fun hl J i h h2 => ?_) (fun J => ?_)
  · simp only [step, List.length_map, lt_dec h, lt_dec h2, zle_dec, cond_true, toNat_nat, MTrace.at_row h, MTrace.at_row h2]
    rw [wrap_succ h h0]
    rw [call_eq (Z79.R_eq (a0 := a0[i]) (a1 := a1[i]) trivial), Z79.md]
    cases eqB a0[i] a1[i] <;> rfl
  · simp only [step, List.length_map, nlt_dec, cond_false]
theorem valid_ : Valid Try.prog Ev 41 con := VV (run := fun n x => start (iter step n) x.1 x.2) mix tab_ok (.cons Z79.valid_ .nil) Try.func41 (by kernel_rfl) run_eq (fun ls a hl e hg => okF a.1 a.2 hg (by have h : (ls.headD .hole).toSl.length ≤ maxLen := hl.1.len; have e : a.1.map MTrace.row = (ls.headD .hole).toSl := (congrArg (fun x => x.1) e.symm); rw [← e] at h; simpa using h) (by have h : ((dropT 1 ls).headD .hole).toSl.length ≤ maxLen := hl.2.1.len; have e : a.2.map MTrace.row = ((dropT 1 ls).headD .hole).toSl := (congrArg (fun x => x.2) e.symm); rw [← e] at h; simpa using h))
end Z80
namespace Z81
inductive Pt where
 | p0 (a : Int) (b : ByteArray)
def pid : Pt → Nat
 | .p0 .. => 4
def pvs : Pt → List V
 | .p0 a b => [.int .i64 a, .str b]
def phs : Pt → List Root
 | .p0 a b => []
def step (J : Pt → Ans) : Pt → Ans
 | .p0 a b => (bif (decide (a > 0)) then (bif (decide ((((strL [[L.int (IntKind.u8.wrap (IntKind.i64.wrap (48 + (Int.tmod a 10))))]]).size + b.size : Nat) : Int) > 9223372036854775807)) then none else J (.p0 (IntKind.i64.wrap (Int.tdiv a 10)) ((strL [[L.int (IntKind.u8.wrap (IntKind.i64.wrap (48 + (Int.tmod a 10))))]]) ++ b))) else (bif (decide ((((⟨#[109]⟩ : ByteArray).size + b.size : Nat) : Int) > 9223372036854775807)) then none else ret (((⟨#[109]⟩ : ByteArray) ++ b) : ByteArray)))
def start (J : Pt → Ans) (x0 : Int) : Ans := (bif (decide (x0 ≤ 0)) then ret ((⟨#[109, 48]⟩ : ByteArray) : ByteArray) else J (.p0 x0 ⟨#[]⟩))
def live : Nat → Live := fun i => match i with | 4 => [(0, none), (3, none)] | _ => []
def pats : List Pat := [.rd (.int .i64)]
def res : RP := .one (.rd (.str))
abbrev E : Env := { T := assoc Tab, G := conG [], nt := 20 }
theorem step_eq (I : Heads) (p : Pt) : enterC E live I (pid p) (bodyOf Try.f75) (stOf (live (pid p)) (pvs p) (phs p)) (doneK E Try.f75 res) = step (fun q => I (pid q) (pvs q) (phs q)) p := by
 cases p <;> kernel_rfl
theorem start_eq (I : Heads) (ls : List L) : runC E live I (bodyOf Try.f75) (initS pats ls) (doneK E Try.f75 res) = start (fun q => I (pid q) (pvs q) (phs q)) (ls.headD .hole).toInt := by kernel_rfl
theorem run_eq (n : Nat) (ls : List L) : runF E live Try.f75 res n (initS pats ls) = start (iter step n) (ls.headD .hole).toInt := runF_iter (id := pid) (vs := pvs) (hs := phs) (step := step) (start := fun J => start J (ls.headD .hole).toInt) step_eq (fun I => start_eq I ls) n
def dg (a : Int) : ByteArray := strL [[L.int (IntKind.u8.wrap (IntKind.i64.wrap (48 + (Int.tmod a 10))))]]
def txt : Nat → Int → ByteArray → ByteArray
 | 0, _, b => b
 | n + 1, a, b => bif decide (a > 0) then txt n (IntKind.i64.wrap (Int.tdiv a 10)) (dg a ++ b) else b
theorem dg_size (a : Int) : (strL [[L.int (IntKind.u8.wrap (IntKind.i64.wrap (48 + (Int.tmod a 10))))]]).size = 1 := rfl
theorem run : ∀ (n : Nat) (a : Int) (b : ByteArray), n ≤ 64 → a < 2 ^ n → I64 a → b.size + n ≤ 1000 → ∃ m, iter step m (.p0 a b) = ret ((⟨#[109]⟩ : ByteArray) ++ txt n a b)
  | 0, a, b, _, h1, _, h3 => by
    refine ⟨1, ?_⟩
    show step _ (.p0 a b) = _
    have e1 : decide (a > 0) = false := decide_eq_false (by simp at h1; omega)
    have e2 : decide ((((⟨#[109]⟩ : ByteArray).size + b.size : Nat) : Int) > 9223372036854775807) = false := decide_eq_false (by have : (⟨#[109]⟩ : ByteArray).size = 1 := rfl; omega)
    simp only [step, e1, e2, cond_false]
    rfl
  | n + 1, a, b, hn, h1, h2, h3 => by
    by_cases hp : a > 0
    · have e1 : decide (a > 0) = true := decide_eq_true hp
      have hq : Int.tdiv a 10 = a / 10 := Int.tdiv_eq_ediv_of_nonneg (by omega)
      unfold I64 at h2
      have hw : IntKind.i64.wrap (Int.tdiv a 10) = a / 10 := by rw [hq]; exact wi _ (by omega)
      have hlt : a / 10 < 2 ^ n := by
        have : (2 : Int) ^ (n + 1) = 2 ^ n * 2 := Int.pow_succ 2 n
        omega
      have hs : (dg a ++ b).size = 1 + b.size := by rw [ByteArray.size_append]; rfl
      obtain ⟨m, hm⟩ := run n (a / 10) (dg a ++ b) (by omega) hlt ⟨by omega, by omega⟩ (by rw [hs]; omega)
      refine ⟨m + 1, ?_⟩
      show step _ (.p0 a b) = _
      have e2 : decide ((((strL [[L.int (IntKind.u8.wrap (IntKind.i64.wrap (48 + (Int.tmod a 10))))]]).size + b.size : Nat) : Int) > 9223372036854775807) = false := decide_eq_false (by rw [dg_size]; omega)
      simp only [step, txt, e1, e2, cond_true, cond_false, hw]
      exact hm
    · refine ⟨1, ?_⟩
      show step _ (.p0 a b) = _
      have e1 : decide (a > 0) = false := decide_eq_false hp
      have e2 : decide ((((⟨#[109]⟩ : ByteArray).size + b.size : Nat) : Int) > 9223372036854775807) = false := decide_eq_false (by have : (⟨#[109]⟩ : ByteArray).size = 1 := rfl; omega)
      simp only [step, txt, e1, e2, cond_false]
def md (a0 : Int) : ByteArray := (bif decide (a0 ≤ 0) then (⟨#[109, 48]⟩ : ByteArray) else (⟨#[109]⟩ : ByteArray) ++ txt 64 a0 ⟨#[]⟩)
def gd (a0 : Int) : Prop := I64 a0
def acc (ls : List L) : Int := (ls.headD .hole).toInt
def R : Int → Option ByteArray := RR gd md
theorem R_eq {a0} (h : gd a0) : R a0 = some (md a0) := RR_eq (a := a0) h
def con : Con := CN pats res acc R
theorem okF (a0 : Int) (hg : gd a0) : ∃ n, start (iter step n) a0 = ret ((md a0) : ByteArray) := by
  unfold gd at hg
  unfold start md
  cases h : decide (a0 ≤ 0)
  · have h2 := hg.2
    have h3 : (2 : Int) ^ 64 = 18446744073709551616 := by decide
    obtain ⟨m, hm⟩ := run 64 a0 ⟨#[]⟩ (Nat.le_refl _) (by rw [h3]; omega) hg (by show 0 + 64 ≤ 1000; omega)
    exact ⟨m, hm⟩
  · exact ⟨0, rfl⟩
theorem valid_ : Valid Try.prog Ev 75 con := VV (run := fun n x => start (iter step n) x) mix tab_ok .nil Try.func75 (by kernel_rfl) run_eq (fun _ a _ _ hg => okF a hg)
end Z81
end Go.DM
end
