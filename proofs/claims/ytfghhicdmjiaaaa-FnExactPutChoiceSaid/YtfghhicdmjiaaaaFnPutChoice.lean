/- What the functions compute that the law reaches, and that the law returns true. Conditions: none. -/
import Derived.Test.YtfghhicdmjiaaaaTy
import Derived.Test.YtfghhicdmjiaaaaProg
import Derived.Lib.AppendZerosOnto
import Derived.Lib.Bytealg
import Derived.Laws.Externs
import Derived.Lib.Walk
import Derived.Lib.Hide
import Derived.Lib.Strings
set_option linter.all false
namespace Go.DM
open Go.Proofs
def Tab : List (Nat × TI) := [
  (2, ⟨[.int .i64], false, [], 8, false⟩),
  (3, ⟨[.int .i64], false, [], 8, false⟩),
  (4, ⟨[.bool], false, [], 1, false⟩),
  (5, ⟨[.int .u8], false, [], 1, false⟩),
  (6, ⟨[.int .u8], false, [], 1, false⟩),
  (7, ⟨[.int .i64, .int .i64, .bool, .int .u8], true, [(0, 2), (1, 3), (2, 4), (3, 6)], 24, false⟩),
  (8, ⟨[.int .i64, .int .i64, .bool, .int .u8], true, [(0, 2), (1, 3), (2, 4), (3, 6)], 24, false⟩),
  (9, ⟨[.str], false, [], 16, false⟩),
  (10, ⟨[.str], false, [], 16, false⟩),
  (11, ⟨[.str], false, [], 16, false⟩),
  (12, ⟨[.int .u64], false, [], 8, false⟩),
  (13, ⟨[.str, .int .u64], true, [(0, 9), (1, 12)], 24, false⟩),
  (14, ⟨[.str, .int .u64], true, [(0, 9), (1, 12)], 24, false⟩),
  (21, ⟨[.int .i32], false, [], 4, false⟩),
  (22, ⟨[.sl 82], false, [], 24, false⟩),
  (25, ⟨[.sl 84], false, [], 24, false⟩),
  (29, ⟨[.sl 91], false, [], 24, false⟩),
  (31, ⟨[.sl 95], false, [], 24, false⟩),
  (38, ⟨[.sl 102], false, [], 24, false⟩),
  (39, ⟨[.sl 9], false, [], 24, false⟩),
  (40, ⟨[.str, .int .i64, .int .i64, .sl 9], true, [(0, 9), (1, 3), (2, 3), (3, 39)], 56, false⟩),
  (41, ⟨[.str, .int .i64, .int .i64, .sl 9], true, [(0, 9), (1, 3), (2, 3), (3, 39)], 56, false⟩),
  (45, ⟨[.sl 106], false, [], 24, false⟩),
  (50, ⟨[.str, .int .i64, .int .i64, .sl 9], true, [(0, 9), (1, 3), (2, 3), (3, 39)], 56, false⟩),
  (58, ⟨[.sl 118], false, [], 24, false⟩),
  (61, ⟨[.sl 124], false, [], 24, false⟩),
  (65, ⟨[.sl 116], false, [], 24, false⟩),
  (70, ⟨[.sl 50], false, [], 24, false⟩),
  (74, ⟨[.int .i64, .str, .int .i64, .int .i64, .sl 9, .sl 50], true, [(0, 3), (1, 50), (5, 70)], 88, false⟩),
  (75, ⟨[.int .i64, .str, .int .i64, .int .i64, .sl 9, .sl 50], true, [(0, 3), (1, 50), (5, 70)], 88, false⟩),
  (81, ⟨[.str, .int .i64], true, [(0, 9), (1, 3)], 24, false⟩),
  (82, ⟨[.str, .int .i64], true, [(0, 9), (1, 3)], 24, true⟩),
  (84, ⟨[.str, .int .i64], true, [(0, 9), (1, 3)], 24, true⟩),
  (91, ⟨[.str, .int .i64], true, [(0, 9), (1, 3)], 24, true⟩),
  (95, ⟨[.str, .int .i64], true, [(0, 9), (1, 3)], 24, true⟩),
  (101, ⟨[.sl 9, .str, .int .i64, .int .i64, .sl 9], true, [(0, 39), (1, 41)], 80, false⟩),
  (102, ⟨[.sl 9, .str, .int .i64, .int .i64, .sl 9], true, [(0, 39), (1, 41)], 80, false⟩),
  (105, ⟨[.sl 9, .str, .int .i64, .int .i64, .sl 9], true, [(0, 39), (1, 50)], 80, false⟩),
  (106, ⟨[.sl 9, .str, .int .i64, .int .i64, .sl 9], true, [(0, 39), (1, 50)], 80, false⟩),
  (112, ⟨[.sl 172], false, [], 24, false⟩),
  (113, ⟨[.sl 181], false, [], 24, false⟩),
  (114, ⟨[.sl 172, .sl 181], true, [(0, 112), (1, 113)], 48, false⟩),
  (115, ⟨[.sl 172, .sl 181], true, [(0, 112), (1, 113)], 48, false⟩),
  (116, ⟨[.sl 3], false, [], 24, false⟩),
  (117, ⟨[.sl 172, .sl 181, .int .i64, .str, .int .i64, .int .i64, .sl 9, .sl 3, .int .i64], true, [(0, 115), (2, 3), (3, 41), (7, 116), (8, 3)], 144, false⟩),
  (118, ⟨[.sl 172, .sl 181, .int .i64, .str, .int .i64, .int .i64, .sl 9, .sl 3, .int .i64], true, [(0, 115), (2, 3), (3, 41), (7, 116), (8, 3)], 144, false⟩),
  (119, ⟨[.sl 149], false, [], 24, false⟩),
  (120, ⟨[.sl 158], false, [], 24, false⟩),
  (121, ⟨[.sl 149, .sl 158], true, [(0, 119), (1, 120)], 48, false⟩),
  (122, ⟨[.sl 149, .sl 158], true, [(0, 119), (1, 120)], 48, false⟩),
  (123, ⟨[.sl 149, .sl 158, .int .i64, .str, .int .i64, .int .i64, .sl 9, .sl 3, .int .i64], true, [(0, 122), (2, 3), (3, 50), (7, 116), (8, 3)], 144, false⟩),
  (124, ⟨[.sl 149, .sl 158, .int .i64, .str, .int .i64, .int .i64, .sl 9, .sl 3, .int .i64], true, [(0, 122), (2, 3), (3, 50), (7, 116), (8, 3)], 144, false⟩),
  (139, ⟨[.sl 5], false, [], 24, false⟩),
  (149, ⟨[.sl 156], false, [], 24, false⟩),
  (150, ⟨[.sl 3, .int .i64], true, [(0, 116), (1, 3)], 32, false⟩),
  (151, ⟨[.sl 3, .int .i64], true, [(0, 116), (1, 3)], 32, false⟩),
  (152, ⟨[.int .i64, .int .i64, .int .i64, .int .i64, .int .i64, .int .i64, .int .i64, .int .i64, .sl 3, .int .i64, .sl 3, .int .i64, .int .i64, .sl 3, .int .i64, .bool], true, [(0, 3), (1, 3), (2, 3), (3, 3), (4, 3), (5, 3), (6, 3), (7, 3), (8, 151), (10, 151), (12, 3), (13, 151), (15, 4)], 176, false⟩),
  (153, ⟨[.int .i64, .int .i64, .int .i64, .int .i64, .int .i64, .int .i64, .int .i64, .int .i64, .sl 3, .int .i64, .sl 3, .int .i64, .int .i64, .sl 3, .int .i64, .bool], true, [(0, 3), (1, 3), (2, 3), (3, 3), (4, 3), (5, 3), (6, 3), (7, 3), (8, 151), (10, 151), (12, 3), (13, 151), (15, 4)], 176, false⟩),
  (154, ⟨[.sl 169], false, [], 24, false⟩),
  (155, ⟨[.int .i64, .int .i64, .int .i64, .int .i64, .int .i64, .int .i64, .int .i64, .int .i64, .sl 3, .int .i64, .sl 3, .int .i64, .int .i64, .sl 3, .int .i64, .bool, .sl 169], true, [(0, 153), (16, 154)], 200, false⟩),
  (156, ⟨[.int .i64, .int .i64, .int .i64, .int .i64, .int .i64, .int .i64, .int .i64, .int .i64, .sl 3, .int .i64, .sl 3, .int .i64, .int .i64, .sl 3, .int .i64, .bool, .sl 169], true, [(0, 153), (16, 154)], 200, false⟩),
  (157, ⟨[.int .i64, .int .i64, .int .i64, .int .i64, .int .i64, .int .i64, .int .i64, .int .i64, .sl 3, .int .i64, .sl 3, .int .i64, .int .i64, .sl 3, .int .i64, .bool, .sl 169, .int .i64, .int .i64, .int .i64, .int .i64, .int .i64, .int .i64, .int .i64, .int .i64, .sl 3, .int .i64, .sl 3, .int .i64, .int .i64, .sl 3, .int .i64, .bool, .sl 169, .int .i64, .int .i64, .int .i64, .int .i64, .int .i64, .int .i64, .int .i64, .int .i64, .sl 3, .int .i64, .sl 3, .int .i64, .int .i64, .sl 3, .int .i64, .bool, .sl 169], true, [(0, 156), (17, 156), (34, 156)], 600, false⟩),
  (158, ⟨[.int .i64, .int .i64, .int .i64, .int .i64, .int .i64, .int .i64, .int .i64, .int .i64, .sl 3, .int .i64, .sl 3, .int .i64, .int .i64, .sl 3, .int .i64, .bool, .sl 169, .int .i64, .int .i64, .int .i64, .int .i64, .int .i64, .int .i64, .int .i64, .int .i64, .sl 3, .int .i64, .sl 3, .int .i64, .int .i64, .sl 3, .int .i64, .bool, .sl 169, .int .i64, .int .i64, .int .i64, .int .i64, .int .i64, .int .i64, .int .i64, .int .i64, .sl 3, .int .i64, .sl 3, .int .i64, .int .i64, .sl 3, .int .i64, .bool, .sl 169], true, [(0, 156), (17, 156), (34, 156)], 600, false⟩),
  (168, ⟨[.int .i64, .int .i64], true, [(0, 3), (1, 3)], 16, false⟩),
  (169, ⟨[.int .i64, .int .i64], true, [(0, 3), (1, 3)], 16, true⟩),
  (172, ⟨[.sl 179], false, [], 24, false⟩),
  (174, ⟨[.sl 3, .int .i64], true, [(0, 116), (1, 3)], 32, false⟩),
  (175, ⟨[.int .i64, .int .i64, .int .i64, .int .i64, .int .i64, .int .i64, .int .i64, .int .i64, .sl 3, .int .i64, .sl 3, .int .i64, .int .i64, .sl 3, .int .i64, .bool], true, [(0, 3), (1, 3), (2, 3), (3, 3), (4, 3), (5, 3), (6, 3), (7, 3), (8, 174), (10, 174), (12, 3), (13, 174), (15, 4)], 176, false⟩),
  (176, ⟨[.int .i64, .int .i64, .int .i64, .int .i64, .int .i64, .int .i64, .int .i64, .int .i64, .sl 3, .int .i64, .sl 3, .int .i64, .int .i64, .sl 3, .int .i64, .bool], true, [(0, 3), (1, 3), (2, 3), (3, 3), (4, 3), (5, 3), (6, 3), (7, 3), (8, 174), (10, 174), (12, 3), (13, 174), (15, 4)], 176, false⟩),
  (177, ⟨[.sl 198], false, [], 24, false⟩),
  (178, ⟨[.int .i64, .int .i64, .int .i64, .int .i64, .int .i64, .int .i64, .int .i64, .int .i64, .sl 3, .int .i64, .sl 3, .int .i64, .int .i64, .sl 3, .int .i64, .bool, .sl 198], true, [(0, 176), (16, 177)], 200, false⟩),
  (179, ⟨[.int .i64, .int .i64, .int .i64, .int .i64, .int .i64, .int .i64, .int .i64, .int .i64, .sl 3, .int .i64, .sl 3, .int .i64, .int .i64, .sl 3, .int .i64, .bool, .sl 198], true, [(0, 176), (16, 177)], 200, false⟩),
  (180, ⟨[.int .i64, .int .i64, .int .i64, .int .i64, .int .i64, .int .i64, .int .i64, .int .i64, .sl 3, .int .i64, .sl 3, .int .i64, .int .i64, .sl 3, .int .i64, .bool, .sl 198, .int .i64, .int .i64, .int .i64, .int .i64, .int .i64, .int .i64, .int .i64, .int .i64, .sl 3, .int .i64, .sl 3, .int .i64, .int .i64, .sl 3, .int .i64, .bool, .sl 198, .int .i64, .int .i64, .int .i64, .int .i64, .int .i64, .int .i64, .int .i64, .int .i64, .sl 3, .int .i64, .sl 3, .int .i64, .int .i64, .sl 3, .int .i64, .bool, .sl 198], true, [(0, 179), (17, 179), (34, 179)], 600, false⟩),
  (181, ⟨[.int .i64, .int .i64, .int .i64, .int .i64, .int .i64, .int .i64, .int .i64, .int .i64, .sl 3, .int .i64, .sl 3, .int .i64, .int .i64, .sl 3, .int .i64, .bool, .sl 198, .int .i64, .int .i64, .int .i64, .int .i64, .int .i64, .int .i64, .int .i64, .int .i64, .sl 3, .int .i64, .sl 3, .int .i64, .int .i64, .sl 3, .int .i64, .bool, .sl 198, .int .i64, .int .i64, .int .i64, .int .i64, .int .i64, .int .i64, .int .i64, .int .i64, .sl 3, .int .i64, .sl 3, .int .i64, .int .i64, .sl 3, .int .i64, .bool, .sl 198], true, [(0, 179), (17, 179), (34, 179)], 600, false⟩),
  (198, ⟨[.int .i64, .int .i64], true, [(0, 3), (1, 3)], 16, true⟩),
  (208, ⟨[.int .u32], false, [], 4, false⟩),
  (209, ⟨[.int .u8], false, [], 1, false⟩),
  (210, ⟨[.int .u8], false, [], 1, false⟩),
  (213, ⟨[.int .i32], false, [], 4, false⟩),
  (214, ⟨[.int .i32], false, [], 4, false⟩)]
noncomputable abbrev Ev : Env := Env0 Tab
theorem tab_ok : tableB Try.prog Tab = true := by kernel_rfl
theorem mix : Try.prog.follows .mixedOrders = true := by kernel_rfl
/-! laws.szStringS -/
namespace laws_szStringS
inductive Pt where
  | p0 (a : List (List L)) (b : Int) (c : Int)
def pid : Pt → Nat
  | .p0 .. => 5
def pvs : Pt → List V
  | .p0 a b c => [.sl none 9 a, .int .i64 b, .int .i64 c]
def phs : Pt → List Root
  | .p0 a b c => []
noncomputable def step (J : Pt → Ans) : Pt → Ans
  | .p0 a b c => (bif (decide (c < (a.length : Int))) then (bif (decide ((0 : Int) ≤ c)) then (bif (decide (c < (a.length : Int))) then (bif (decide ((IntKind.i64.wrap (b - ((sAt a (Int.toNat c)).size : Int))) < 0)) then ret ((-1) : Int) else J (.p0 a (IntKind.i64.wrap (b - ((sAt a (Int.toNat c)).size : Int))) (IntKind.i64.wrap (c + 1)))) else none) else none) else ret (b : Int))
noncomputable def start (J : Pt → Ans) (x0 : List (List L)) (x1 : Int) : Ans := (bif (decide ((IntKind.i64.wrap (x1 - (x0.length : Int))) < 0)) then ret ((-1) : Int) else J (.p0 x0 (IntKind.i64.wrap (x1 - (x0.length : Int))) 0))
def live : Nat → Live := fun i => match i with | 5 => [(0, none), (1, none), (5, none)] | _ => []
def pats : List Pat := [.rd (.sl 9), .rd (.int .i64)]
def res : RP := .one (.rd (.int .i64))
noncomputable abbrev E : Env := { T := assoc Tab, G := conG [], nt := 28 }
set_option maxRecDepth 100000
theorem step_eq (I : Heads) (p : Pt) : enterC E live I (pid p) (bodyOf Try.f23) (stOf (live (pid p)) (pvs p) (phs p)) (doneK E Try.f23 res) = step (fun q => I (pid q) (pvs q) (phs q)) p := by
  cases p <;> kernel_rfl
theorem start_eq (I : Heads) (ls : List L) : runC E live I (bodyOf Try.f23) (initS pats ls) (doneK E Try.f23 res) = start (fun q => I (pid q) (pvs q) (phs q)) (ls.headD .hole).toSl ((dropT 1 ls).headD .hole).toInt := by kernel_rfl
theorem run_eq (n : Nat) (ls : List L) : runF E live Try.f23 res n (initS pats ls) = start (iter step n) (ls.headD .hole).toSl ((dropT 1 ls).headD .hole).toInt := runF_iter (id := pid) (vs := pvs) (hs := phs) (step := step) (start := fun J => start J (ls.headD .hole).toSl ((dropT 1 ls).headD .hole).toInt) step_eq (fun I => start_eq I ls) n
noncomputable def md (a0 : List ByteArray) (a1 : Int) : Int := szM (szL (fun y : ByteArray => y.size) a0) a1
def gd (a0 : List ByteArray) (a1 : Int) : Prop := (SmL maxLen (fun y : ByteArray => y.size ≤ maxLen) a0) ∧ 0 ≤ a1 ∧ a1 ≤ 1048576
def acc (ls : List L) : List (List L) × Int := ((ls.headD .hole).toSl, ((dropT 1 ls).headD .hole).toInt)
noncomputable def R : (List (List L) × Int) → Option Int := RR (p2 gd) (u2 md)
theorem R_eq {a0} {a1} (h : gd a0 a1) : R ((a0.map sRow), a1) = some (md a0 a1) := RR_eq (a := (a0, a1)) h
noncomputable def con : Con := CN pats res acc R
theorem okF (a0 : List ByteArray) (a1 : Int) (hg : gd a0 a1) : ∃ n, start (iter step n) (a0.map sRow) a1 = ret ((md a0 a1) : Int) := by
  obtain ⟨hs, g0, g1⟩ := hg
  unfold start md
  simp only [List.length_map]
  refine sz_list (pt := fun left i => Pt.p0 (a0.map sRow) left (i : Int)) (f := fun y : ByteArray => y.size) hs.1 (fun J i h left p0 p1 => ?_) (fun J left => ?_) g0 g1
  · simp only [step, List.length_map, lt_dec h, zle_dec, cond_true, toNat_nat, sAt_row h]
    rw [sz_wrap p0 p1 (hs.get h), wrap_succ h hs.1]
    by_cases hc : left - ((a0[i].size : Nat) : Int) < 0
    · rw [decide_eq_true hc, if_pos (by omega)]; rfl
    · rw [decide_eq_false hc, if_neg (by omega)]; rfl
  · simp only [step, List.length_map, nlt_dec, cond_false]
theorem valid_ : Valid Try.prog Ev 23 con := VV (run := fun n x => start (iter step n) x.1 x.2) mix tab_ok .nil Try.func23 (by kernel_rfl) run_eq (fun _ a _ _ hg => okF a.1 a.2 hg)
end laws_szStringS
/-! laws.szEntry -/
namespace laws_szEntry
noncomputable def F (x0 : REntry) (x1 : Int) : Ans := (bif (decide ((IntKind.i64.wrap (x1 - (x0.fLabel.size : Int))) < 0)) then ret ((-1) : Int) else (call (laws_szStringS.R (x0.fPath, (IntKind.i64.wrap (x1 - (x0.fLabel.size : Int))))) fun v1 => (bif (decide (v1 < 0)) then ret ((-1) : Int) else ret (v1 : Int))))
def pats : List Pat := [.agg [.str, .int .i64, .int .i64, .sl 9], .rd (.int .i64)]
def res : RP := .one (.rd (.int .i64))
noncomputable abbrev E : Env := { T := assoc Tab, G := conG [(23, laws_szStringS.con)], nt := 19 }
set_option maxRecDepth 100000
theorem run_eq (n : Nat) (ls : List L) : runF E (fun _ => []) Try.f24 res n (initS pats ls) = F (REntry.dec ls) ((dropT 4 ls).headD .hole).toInt := by kernel_rfl
noncomputable def md (a0 : MEntry) (a1 : Int) : Int := szM (MEntry.size a0) a1
def gd (a0 : MEntry) (a1 : Int) : Prop := (MEntry.Sm maxLen a0) ∧ 0 ≤ a1 ∧ a1 ≤ 1048576
def acc (ls : List L) : REntry × Int := ((REntry.dec ls), ((dropT 4 ls).headD .hole).toInt)
noncomputable def R : (REntry × Int) → Option Int := RR (p2 gd) (u2 md)
theorem R_eq {a0} {a1} (h : gd a0 a1) : R ((MEntry.r a0), a1) = some (md a0 a1) := RR_eq (a := (a0, a1)) h
noncomputable def con : Con := CN pats res acc R
theorem okF (a0 : MEntry) (a1 : Int) (hg : gd a0 a1) : F (MEntry.r a0) a1 = ret ((md a0 a1) : Int) := by
  obtain ⟨hs, g0, g1⟩ := hg
  unfold md
  show (bif (decide ((IntKind.i64.wrap (a1 - (a0.fLabel.size : Int))) < 0)) then ret ((-1) : Int) else (call (laws_szStringS.R ((a0.fPath.map sRow), (IntKind.i64.wrap (a1 - (a0.fLabel.size : Int))))) fun v1 => (bif (decide (v1 < 0)) then ret ((-1) : Int) else ret (v1 : Int)))) = _
  rw [sz_wrap (left := a1) (s := a0.fLabel.size) (by omega) (by omega) hs.1]
  by_cases c0 : a1 - ((a0.fLabel.size : Nat) : Int) < 0
  · rw [decide_eq_true c0, cond_true]; rw [show szM (MEntry.size a0) a1 = -1 from szM_neg (by unfold MEntry.size; omega)]; try rfl
  rw [decide_eq_false c0, cond_false]
  rw [call_eq (laws_szStringS.R_eq (a1 := (a1 - ((a0.fLabel.size : Nat) : Int))) ⟨hs.2, by omega, by omega⟩)]
  unfold laws_szStringS.md
  by_cases c1 : (a1 - ((a0.fLabel.size : Nat) : Int)) < ((szL (fun y : ByteArray => y.size) a0.fPath : Nat) : Int)
  · rw [szM_neg c1]; rw [show szM (MEntry.size a0) a1 = -1 from szM_neg (by unfold MEntry.size; omega)]; try rfl
  rw [szM_pos c1, dec_neg (by omega), cond_false]
  rw [show szM (MEntry.size a0) a1 = a1 - ((a0.fLabel.size : Nat) : Int) - ((szL (fun y : ByteArray => y.size) a0.fPath : Nat) : Int) from by rw [szM_pos (by unfold MEntry.size; omega)]; unfold MEntry.size; omega]
theorem valid_ : Valid Try.prog Ev 24 con := VV (run := fun _ x => F x.1 x.2) mix tab_ok (.cons laws_szStringS.valid_ .nil) Try.func24 (by kernel_rfl) run_eq (fun _ a _ _ hg => ⟨0, okF a.1 a.2 hg⟩)
end laws_szEntry
/-! laws.szChoice -/
namespace laws_szChoice
noncomputable def F (x0 : RChoice) (x1 : Int) : Ans := (call (laws_szStringS.R (x0.fPath, x1)) fun v1 => (bif (decide (v1 < 0)) then ret ((-1) : Int) else (call (laws_szEntry.R (x0.fEntry, v1)) fun v2 => (bif (decide (v2 < 0)) then ret ((-1) : Int) else ret (v2 : Int)))))
def pats : List Pat := [.agg [.sl 9, .str, .int .i64, .int .i64, .sl 9], .rd (.int .i64)]
def res : RP := .one (.rd (.int .i64))
noncomputable abbrev E : Env := { T := assoc Tab, G := conG [(23, laws_szStringS.con), (24, laws_szEntry.con)], nt := 18 }
set_option maxRecDepth 100000
theorem run_eq (n : Nat) (ls : List L) : runF E (fun _ => []) Try.f76 res n (initS pats ls) = F (RChoice.dec ls) ((dropT 5 ls).headD .hole).toInt := by kernel_rfl
noncomputable def md (a0 : MChoice) (a1 : Int) : Int := szM (MChoice.size a0) a1
def gd (a0 : MChoice) (a1 : Int) : Prop := (MChoice.Sm maxLen a0) ∧ 0 ≤ a1 ∧ a1 ≤ 1048576
def acc (ls : List L) : RChoice × Int := ((RChoice.dec ls), ((dropT 5 ls).headD .hole).toInt)
noncomputable def R : (RChoice × Int) → Option Int := RR (p2 gd) (u2 md)
theorem R_eq {a0} {a1} (h : gd a0 a1) : R ((MChoice.r a0), a1) = some (md a0 a1) := RR_eq (a := (a0, a1)) h
noncomputable def con : Con := CN pats res acc R
theorem okF (a0 : MChoice) (a1 : Int) (hg : gd a0 a1) : F (MChoice.r a0) a1 = ret ((md a0 a1) : Int) := by
  obtain ⟨hs, g0, g1⟩ := hg
  unfold md
  show (call (laws_szStringS.R ((a0.fPath.map sRow), a1)) fun v1 => (bif (decide (v1 < 0)) then ret ((-1) : Int) else (call (laws_szEntry.R ((MEntry.r a0.fEntry), v1)) fun v2 => (bif (decide (v2 < 0)) then ret ((-1) : Int) else ret (v2 : Int))))) = _
  rw [call_eq (laws_szStringS.R_eq (a1 := a1) ⟨hs.1, by omega, by omega⟩)]
  unfold laws_szStringS.md
  by_cases c0 : a1 < ((szL (fun y : ByteArray => y.size) a0.fPath : Nat) : Int)
  · rw [szM_neg c0]; rw [show szM (MChoice.size a0) a1 = -1 from szM_neg (by unfold MChoice.size; omega)]; try rfl
  rw [szM_pos c0, dec_neg (by omega), cond_false]
  rw [call_eq (laws_szEntry.R_eq (a1 := (a1 - ((szL (fun y : ByteArray => y.size) a0.fPath : Nat) : Int))) ⟨hs.2, by omega, by omega⟩)]
  unfold laws_szEntry.md
  by_cases c1 : (a1 - ((szL (fun y : ByteArray => y.size) a0.fPath : Nat) : Int)) < ((MEntry.size a0.fEntry : Nat) : Int)
  · rw [szM_neg c1]; rw [show szM (MChoice.size a0) a1 = -1 from szM_neg (by unfold MChoice.size; omega)]; try rfl
  rw [szM_pos c1, dec_neg (by omega), cond_false]
  rw [show szM (MChoice.size a0) a1 = a1 - ((szL (fun y : ByteArray => y.size) a0.fPath : Nat) : Int) - ((MEntry.size a0.fEntry : Nat) : Int) from by rw [szM_pos (by unfold MChoice.size; omega)]; unfold MChoice.size; omega]
theorem valid_ : Valid Try.prog Ev 76 con := VV (run := fun _ x => F x.1 x.2) mix tab_ok (.cons laws_szStringS.valid_ (.cons laws_szEntry.valid_ .nil)) Try.func76 (by kernel_rfl) run_eq (fun _ a _ _ hg => ⟨0, okF a.1 a.2 hg⟩)
end laws_szChoice
/-! laws.szChoiceS -/
namespace laws_szChoiceS
inductive Pt where
  | p0 (a : List (List L)) (b : Int) (c : Int)
def pid : Pt → Nat
  | .p0 .. => 5
def pvs : Pt → List V
  | .p0 a b c => [.sl none 102 a, .int .i64 b, .int .i64 c]
def phs : Pt → List Root
  | .p0 a b c => []
noncomputable def step (J : Pt → Ans) : Pt → Ans
  | .p0 a b c => (bif (decide (c < (a.length : Int))) then (bif (decide ((0 : Int) ≤ c)) then (bif (decide (c < (a.length : Int))) then (call (laws_szChoice.R ((RChoice.at a (Int.toNat c)), b)) fun v1 => (bif (decide (v1 < 0)) then ret ((-1) : Int) else J (.p0 a v1 (IntKind.i64.wrap (c + 1))))) else none) else none) else ret (b : Int))
noncomputable def start (J : Pt → Ans) (x0 : List (List L)) (x1 : Int) : Ans := (bif (decide ((IntKind.i64.wrap (x1 - (x0.length : Int))) < 0)) then ret ((-1) : Int) else J (.p0 x0 (IntKind.i64.wrap (x1 - (x0.length : Int))) 0))
def live : Nat → Live := fun i => match i with | 5 => [(0, none), (1, none), (5, none)] | _ => []
def pats : List Pat := [.rd (.sl 102), .rd (.int .i64)]
def res : RP := .one (.rd (.int .i64))
noncomputable abbrev E : Env := { T := assoc Tab, G := conG [(76, laws_szChoice.con)], nt := 27 }
set_option maxRecDepth 100000
theorem step_eq (I : Heads) (p : Pt) : enterC E live I (pid p) (bodyOf Try.f22) (stOf (live (pid p)) (pvs p) (phs p)) (doneK E Try.f22 res) = step (fun q => I (pid q) (pvs q) (phs q)) p := by
  cases p <;> kernel_rfl
theorem start_eq (I : Heads) (ls : List L) : runC E live I (bodyOf Try.f22) (initS pats ls) (doneK E Try.f22 res) = start (fun q => I (pid q) (pvs q) (phs q)) (ls.headD .hole).toSl ((dropT 1 ls).headD .hole).toInt := by kernel_rfl
theorem run_eq (n : Nat) (ls : List L) : runF E live Try.f22 res n (initS pats ls) = start (iter step n) (ls.headD .hole).toSl ((dropT 1 ls).headD .hole).toInt := runF_iter (id := pid) (vs := pvs) (hs := phs) (step := step) (start := fun J => start J (ls.headD .hole).toSl ((dropT 1 ls).headD .hole).toInt) step_eq (fun I => start_eq I ls) n
noncomputable def md (a0 : List MChoice) (a1 : Int) : Int := szM (szL (fun y : MChoice => MChoice.size y) a0) a1
def gd (a0 : List MChoice) (a1 : Int) : Prop := (SmL maxLen (fun y : MChoice => MChoice.Sm maxLen y) a0) ∧ 0 ≤ a1 ∧ a1 ≤ 1048576
def acc (ls : List L) : List (List L) × Int := ((ls.headD .hole).toSl, ((dropT 1 ls).headD .hole).toInt)
noncomputable def R : (List (List L) × Int) → Option Int := RR (p2 gd) (u2 md)
theorem R_eq {a0} {a1} (h : gd a0 a1) : R ((a0.map MChoice.row), a1) = some (md a0 a1) := RR_eq (a := (a0, a1)) h
noncomputable def con : Con := CN pats res acc R
theorem okF (a0 : List MChoice) (a1 : Int) (hg : gd a0 a1) : ∃ n, start (iter step n) (a0.map MChoice.row) a1 = ret ((md a0 a1) : Int) := by
  obtain ⟨hs, g0, g1⟩ := hg
  unfold start md
  simp only [List.length_map]
  refine sz_list (pt := fun left i => Pt.p0 (a0.map MChoice.row) left (i : Int)) (f := fun y : MChoice => MChoice.size y) hs.1 (fun J i h left p0 p1 => ?_) (fun J left => ?_) g0 g1
  · simp only [step, List.length_map, lt_dec h, zle_dec, cond_true, toNat_nat, MChoice.at_row h]
    rw [call_eq (laws_szChoice.R_eq ⟨hs.get h, p0, p1⟩), wrap_succ h hs.1]
    unfold laws_szChoice.md
    by_cases hc : left < ((MChoice.size (a0[i]) : Nat) : Int)
    · rw [szM_neg hc, if_pos hc]; rfl
    · rw [szM_pos hc, if_neg hc, dec_neg (by omega)]; rfl
  · simp only [step, List.length_map, nlt_dec, cond_false]
theorem valid_ : Valid Try.prog Ev 22 con := VV (run := fun n x => start (iter step n) x.1 x.2) mix tab_ok (.cons laws_szChoice.valid_ .nil) Try.func22 (by kernel_rfl) run_eq (fun _ a _ _ hg => okF a.1 a.2 hg)
end laws_szChoiceS
/-! laws.toStringS -/
namespace laws_toStringS
inductive Pt where
  | p0 (a : List (List L)) (b : Int) (c : List (List L))
def pid : Pt → Nat
  | .p0 .. => 3
def pvs : Pt → List V
  | .p0 a b c => [.sl none 9 a, .own 0, .int .i64 b]
def phs : Pt → List Root
  | .p0 a b c => [.row 9 c]
noncomputable def step (J : Pt → Ans) : Pt → Ans
  | .p0 a b c => (bif (decide (b < (a.length : Int))) then (bif (decide ((0 : Int) ≤ b)) then (bif (decide (b < (a.length : Int))) then (bif (decide ((0 : Int) ≤ b)) then (bif (decide (b < (c.length : Int))) then J (.p0 a (IntKind.i64.wrap (b + 1)) (List.set c (Int.toNat b) [L.str (sAt a (Int.toNat b))])) else none) else none) else none) else none) else ret (c : List (List L)))
noncomputable def start (J : Pt → Ans) (x0 : List (List L)) : Ans := (bif (decide ((0 : Int) ≤ (x0.length : Int))) then (bif (decide ((x0.length : Int) ≤ (x0.length : Int))) then (bif (decide ((x0.length : Int) * 16 ≤ 140737488355328)) then J (.p0 x0 0 (List.replicate (Int.toNat (x0.length : Int)) [L.str ⟨#[]⟩])) else none) else none) else none)
def live : Nat → Live := fun i => match i with | 3 => [(0, none), (3, none), (4, none)] | _ => []
def pats : List Pat := [.rd (.sl 9)]
def res : RP := .one (.fr 9)
noncomputable abbrev E : Env := { T := assoc Tab, G := conG [], nt := 22 }
set_option maxRecDepth 100000
theorem step_eq (I : Heads) (p : Pt) : enterC E live I (pid p) (bodyOf Try.f27) (stOf (live (pid p)) (pvs p) (phs p)) (doneK E Try.f27 res) = step (fun q => I (pid q) (pvs q) (phs q)) p := by
  cases p <;> kernel_rfl
theorem start_eq (I : Heads) (ls : List L) : runC E live I (bodyOf Try.f27) (initS pats ls) (doneK E Try.f27 res) = start (fun q => I (pid q) (pvs q) (phs q)) (ls.headD .hole).toSl := by kernel_rfl
theorem run_eq (n : Nat) (ls : List L) : runF E live Try.f27 res n (initS pats ls) = start (iter step n) (ls.headD .hole).toSl := runF_iter (id := pid) (vs := pvs) (hs := phs) (step := step) (start := fun J => start J (ls.headD .hole).toSl) step_eq (fun I => start_eq I ls) n
noncomputable def md (a0 : List ByteArray) : List ByteArray := a0
def gd (a0 : List ByteArray) : Prop := SmL (2 ^ 36) (fun y : ByteArray => y.size ≤ (2 ^ 36)) a0
def acc (ls : List L) : List (List L) := (ls.headD .hole).toSl
noncomputable def R : (List (List L)) → Option (List (List L)) := RR gd md
theorem R_eq {a0} (h : gd a0) : R (a0.map sRow) = some ((md a0).map sRow) := RR_eq (a := a0) h
noncomputable def con : Con := CN pats res acc R
theorem okF (a0 : List ByteArray) (hg : gd a0) : ∃ n, start (iter step n) (a0.map sRow) = ret (((md a0).map sRow) : List (List L)) := by
  unfold start md
  simp only [List.length_map]
  refine to_list (b := 16) (pt := fun i c => Pt.p0 (a0.map sRow) (i : Int) c) (by have := hg.1; simp at this; omega) (fun J i h c hc => ?_) (fun J c => ?_)
  · simp only [step, List.length_map, lt_dec h, zle_dec, cond_true, toNat_nat, sAt_row h, hc]
    rw [wrap_succ (n := a0.length) h (by have := hg.1; simp only [maxLen]; simp at this; omega)]
    rfl
  · simp only [step, List.length_map, nlt_dec, cond_false]
theorem valid_ : Valid Try.prog Ev 27 con := VV (run := fun n x => start (iter step n) x) mix tab_ok .nil Try.func27 (by kernel_rfl) run_eq (fun _ a _ _ hg => okF a hg)
end laws_toStringS
/-! laws.toEntry -/
namespace laws_toEntry
noncomputable def F (x0 : REntry) : Ans := (call (laws_toStringS.R x0.fPath) fun v1 => ret ((⟨x0.fLabel, x0.fKind, x0.fValue, v1⟩ : REntry) : REntry))
def pats : List Pat := [.agg [.str, .int .i64, .int .i64, .sl 9]]
def res : RP := .agg [.rd (.str), .rd (.int .i64), .rd (.int .i64), .fr 9]
noncomputable abbrev E : Env := { T := assoc Tab, G := conG [(27, laws_toStringS.con)], nt := 18 }
set_option maxRecDepth 100000
theorem run_eq (n : Nat) (ls : List L) : runF E (fun _ => []) Try.f28 res n (initS pats ls) = F (REntry.dec ls) := by kernel_rfl
noncomputable def md (a0 : MEntry) : MEntry := a0
def gd (a0 : MEntry) : Prop := MEntry.Sm (2 ^ 36) a0
def acc (ls : List L) : REntry := (REntry.dec ls)
noncomputable def R : REntry → Option REntry := RR gd md
theorem R_eq {a0} (h : gd a0) : R (MEntry.r a0) = some (MEntry.r (md a0)) := RR_eq (a := a0) h
noncomputable def con : Con := CN pats res acc R
theorem okF (a0 : MEntry) (hg : gd a0) : F (MEntry.r a0) = ret ((MEntry.r (md a0)) : REntry) := by
  unfold md
  show (call (laws_toStringS.R (a0.fPath.map sRow)) fun v1 => ret ((⟨a0.fLabel, a0.fKind, a0.fValue, v1⟩ : REntry) : REntry)) = _
  rw [call_eq (laws_toStringS.R_eq hg.2)]
  rfl
theorem valid_ : Valid Try.prog Ev 28 con := VV (run := fun _ x => F x) mix tab_ok (.cons laws_toStringS.valid_ .nil) Try.func28 (by kernel_rfl) run_eq (fun _ a _ _ hg => ⟨0, okF a hg⟩)
end laws_toEntry
/-! laws.toChoice -/
namespace laws_toChoice
noncomputable def F (x0 : RChoice) : Ans := (call (laws_toStringS.R x0.fPath) fun v1 => (call (laws_toEntry.R x0.fEntry) fun v2 => ret ((⟨v1, v2⟩ : RChoice) : RChoice)))
def pats : List Pat := [.agg [.sl 9, .str, .int .i64, .int .i64, .sl 9]]
def res : RP := .agg [.fr 9, .rd (.str), .rd (.int .i64), .rd (.int .i64), .fr 9]
noncomputable abbrev E : Env := { T := assoc Tab, G := conG [(27, laws_toStringS.con), (28, laws_toEntry.con)], nt := 13 }
set_option maxRecDepth 100000
theorem run_eq (n : Nat) (ls : List L) : runF E (fun _ => []) Try.f82 res n (initS pats ls) = F (RChoice.dec ls) := by kernel_rfl
noncomputable def md (a0 : MChoice) : MChoice := a0
def gd (a0 : MChoice) : Prop := MChoice.Sm (2 ^ 36) a0
def acc (ls : List L) : RChoice := (RChoice.dec ls)
noncomputable def R : RChoice → Option RChoice := RR gd md
theorem R_eq {a0} (h : gd a0) : R (MChoice.r a0) = some (MChoice.r (md a0)) := RR_eq (a := a0) h
noncomputable def con : Con := CN pats res acc R
theorem okF (a0 : MChoice) (hg : gd a0) : F (MChoice.r a0) = ret ((MChoice.r (md a0)) : RChoice) := by
  unfold md
  show (call (laws_toStringS.R (a0.fPath.map sRow)) fun v1 => (call (laws_toEntry.R (MEntry.r a0.fEntry)) fun v2 => ret ((⟨v1, v2⟩ : RChoice) : RChoice))) = _
  rw [call_eq (laws_toStringS.R_eq hg.1)]
  rw [call_eq (laws_toEntry.R_eq hg.2)]
  rfl
theorem valid_ : Valid Try.prog Ev 82 con := VV (run := fun _ x => F x) mix tab_ok (.cons laws_toStringS.valid_ (.cons laws_toEntry.valid_ .nil)) Try.func82 (by kernel_rfl) run_eq (fun _ a _ _ hg => ⟨0, okF a hg⟩)
end laws_toChoice
/-! laws.toChoiceS -/
namespace laws_toChoiceS
inductive Pt where
  | p0 (a : List (List L)) (b : Int) (c : List (List L))
def pid : Pt → Nat
  | .p0 .. => 3
def pvs : Pt → List V
  | .p0 a b c => [.sl none 102 a, .own 0, .int .i64 b]
def phs : Pt → List Root
  | .p0 a b c => [.row 106 c]
noncomputable def step (J : Pt → Ans) : Pt → Ans
  | .p0 a b c => (bif (decide (b < (a.length : Int))) then (bif (decide ((0 : Int) ≤ b)) then (bif (decide (b < (a.length : Int))) then (call (laws_toChoice.R (RChoice.at a (Int.toNat b))) fun v1 => (bif (decide ((0 : Int) ≤ b)) then (bif (decide (b < (c.length : Int))) then J (.p0 a (IntKind.i64.wrap (b + 1)) (List.set c (Int.toNat b) (RChoice.enc v1))) else none) else none)) else none) else none) else ret (c : List (List L)))
noncomputable def start (J : Pt → Ans) (x0 : List (List L)) : Ans := (bif (decide ((0 : Int) ≤ (x0.length : Int))) then (bif (decide ((x0.length : Int) ≤ (x0.length : Int))) then (bif (decide ((x0.length : Int) * 80 ≤ 140737488355328)) then J (.p0 x0 0 (List.replicate (Int.toNat (x0.length : Int)) [L.sl [], L.str ⟨#[]⟩, L.int 0, L.int 0, L.sl []])) else none) else none) else none)
def live : Nat → Live := fun i => match i with | 3 => [(0, none), (3, none), (4, none)] | _ => []
def pats : List Pat := [.rd (.sl 102)]
def res : RP := .one (.fr 106)
noncomputable abbrev E : Env := { T := assoc Tab, G := conG [(82, laws_toChoice.con)], nt := 23 }
set_option maxRecDepth 100000
theorem step_eq (I : Heads) (p : Pt) : enterC E live I (pid p) (bodyOf Try.f26) (stOf (live (pid p)) (pvs p) (phs p)) (doneK E Try.f26 res) = step (fun q => I (pid q) (pvs q) (phs q)) p := by
  cases p <;> kernel_rfl
theorem start_eq (I : Heads) (ls : List L) : runC E live I (bodyOf Try.f26) (initS pats ls) (doneK E Try.f26 res) = start (fun q => I (pid q) (pvs q) (phs q)) (ls.headD .hole).toSl := by kernel_rfl
theorem run_eq (n : Nat) (ls : List L) : runF E live Try.f26 res n (initS pats ls) = start (iter step n) (ls.headD .hole).toSl := runF_iter (id := pid) (vs := pvs) (hs := phs) (step := step) (start := fun J => start J (ls.headD .hole).toSl) step_eq (fun I => start_eq I ls) n
noncomputable def md (a0 : List MChoice) : List MChoice := a0
def gd (a0 : List MChoice) : Prop := SmL (2 ^ 36) (fun y : MChoice => MChoice.Sm (2 ^ 36) y) a0
def acc (ls : List L) : List (List L) := (ls.headD .hole).toSl
noncomputable def R : (List (List L)) → Option (List (List L)) := RR gd md
theorem R_eq {a0} (h : gd a0) : R (a0.map MChoice.row) = some ((md a0).map MChoice.row) := RR_eq (a := a0) h
noncomputable def con : Con := CN pats res acc R
theorem okF (a0 : List MChoice) (hg : gd a0) : ∃ n, start (iter step n) (a0.map MChoice.row) = ret (((md a0).map MChoice.row) : List (List L)) := by
  unfold start md
  simp only [List.length_map]
  refine to_list (b := 80) (pt := fun i c => Pt.p0 (a0.map MChoice.row) (i : Int) c) (by have := hg.1; simp at this; omega) (fun J i h c hc => ?_) (fun J c => ?_)
  · simp only [step, List.length_map, lt_dec h, zle_dec, cond_true, toNat_nat, MChoice.at_row h, hc]
    rw [call_eq (laws_toChoice.R_eq (hg.get h))]
    try simp only [hc, lt_dec h, cond_true]
    rw [wrap_succ (n := a0.length) h (by have := hg.1; simp only [maxLen]; simp at this; omega)]
    rfl
  · simp only [step, List.length_map, nlt_dec, cond_false]
theorem valid_ : Valid Try.prog Ev 26 con := VV (run := fun n x => start (iter step n) x) mix tab_ok (.cons laws_toChoice.valid_ .nil) Try.func26 (by kernel_rfl) run_eq (fun _ a _ _ hg => okF a hg)
end laws_toChoiceS
/-! spec.l5Copy -/
namespace spec_l5Copy
noncomputable def F (x0 : List (List L)) : Ans := (bif (lim ((x0.length : Int) * 16)) then ret (x0 : List (List L)) else none)
def pats : List Pat := [.rd (.sl 9)]
def res : RP := .one (.fr 9)
noncomputable abbrev E : Env := { T := assoc Tab, G := conG [], nt := 6 }
set_option maxRecDepth 100000
theorem run_eq (n : Nat) (ls : List L) : runF E (fun _ => []) Try.f78 res n (initS pats ls) = F (ls.headD .hole).toSl := by kernel_rfl
noncomputable def md (a0 : List ByteArray) : List ByteArray := a0
def gd (a0 : List ByteArray) : Prop := (SmL (2 ^ 21) (fun y : ByteArray => y.size ≤ (2 ^ 21)) a0)
def acc (ls : List L) : List (List L) := (ls.headD .hole).toSl
noncomputable def R : (List (List L)) → Option (List (List L)) := RR gd md
theorem R_eq {a0} (h : gd a0) : R (a0.map sRow) = some ((md a0).map sRow) := RR_eq (a := a0) h
noncomputable def con : Con := CN pats res acc R
theorem okF (a0 : List ByteArray) (hg : gd a0) : F (a0.map sRow) = ret (((md a0).map sRow) : List (List L)) := by
  unfold gd at hg
  have H0 := hg
  unfold F md
  try simp only [S0]
  refine yes_ret (by
      have := (H0).1
      refine lim_t ?_
      try simp (disch := omega) only [LN, wi]
      first | omega | (simp; done) | (simp; omega)) ?_
  all_goals first | rfl | (simp only [S0]; done) | (simp only [MP]; rfl) | (simp only [S0, MP]; first | done | rfl)
theorem valid_ : Valid Try.prog Ev 78 con := VV (run := fun _ x => F x) mix tab_ok .nil Try.func78 (by kernel_rfl) run_eq (fun _ a _ _ hg => ⟨0, okF a hg⟩)
end spec_l5Copy
/-! spec.l8Copy -/
namespace spec_l8Copy
noncomputable def F (x0 : REntry) : Ans := (call (spec_l5Copy.R x0.fPath) fun v1 => ret ((⟨x0.fLabel, x0.fKind, x0.fValue, v1⟩ : REntry) : REntry))
def pats : List Pat := [.agg [.str, .int .i64, .int .i64, .sl 9]]
def res : RP := .agg [.rd (.str), .rd (.int .i64), .rd (.int .i64), .fr 9]
noncomputable abbrev E : Env := { T := assoc Tab, G := conG [(78, spec_l5Copy.con)], nt := 13 }
set_option maxRecDepth 100000
theorem run_eq (n : Nat) (ls : List L) : runF E (fun _ => []) Try.f79 res n (initS pats ls) = F (REntry.dec ls) := by kernel_rfl
noncomputable def md (a0 : MEntry) : MEntry := a0
def gd (a0 : MEntry) : Prop := (MEntry.Sm (2 ^ 21) a0)
def acc (ls : List L) : REntry := (REntry.dec ls)
noncomputable def R : REntry → Option REntry := RR gd md
theorem R_eq {a0} (h : gd a0) : R (MEntry.r a0) = some (MEntry.r (md a0)) := RR_eq (a := a0) h
noncomputable def con : Con := CN pats res acc R
theorem okF (a0 : MEntry) (hg : gd a0) : F (MEntry.r a0) = ret ((MEntry.r (md a0)) : REntry) := by
  unfold gd at hg
  have H0 := hg
  unfold F md
  try simp only [S0, MEntry.rs]
  refine call_to (a0.fPath.map sRow) ?_ ?_
  · have R_ := spec_l5Copy.R_eq (a0 := a0.fPath) H0.2
    simp only [spec_l5Copy.md] at R_
    first | exact R_ | (simp only [MP, S0, MEntry.rs] at R_ ⊢; first | exact R_ | (rw [← R_]; rfl))
  try simp only [S0, MEntry.rs]
  all_goals first | rfl | (simp only [S0, MEntry.rs]; done) | (simp only [MP]; rfl) | (simp only [S0, MEntry.rs, MP]; first | done | rfl)
theorem valid_ : Valid Try.prog Ev 79 con := VV (run := fun _ x => F x) mix tab_ok (.cons spec_l5Copy.valid_ .nil) Try.func79 (by kernel_rfl) run_eq (fun _ a _ _ hg => ⟨0, okF a hg⟩)
end spec_l8Copy
/-! spec.l30Copy -/
namespace spec_l30Copy
inductive Pt where
  | p0 (a : List (List L)) (b : Int) (c : List (List L))
def pid : Pt → Nat
  | .p0 .. => 3
def pvs : Pt → List V
  | .p0 a b c => [.sl none 106 a, .own 0, .int .i64 b]
def phs : Pt → List Root
  | .p0 a b c => [.row 106 c]
noncomputable def step (J : Pt → Ans) : Pt → Ans
  | .p0 a b c => (bif (decide (b < (a.length : Int))) then (bif (decide ((0 : Int) ≤ b)) then (bif (decide (b < (a.length : Int))) then (call (spec_l5Copy.R ((RChoice.at a (Int.toNat b)).fPath)) fun v1 => (bif (decide ((0 : Int) ≤ b)) then (bif (decide (b < (a.length : Int))) then (call (spec_l8Copy.R ((RChoice.at a (Int.toNat b)).fEntry)) fun v2 => (bif (lim (((c.length : Int) + 1) * 80)) then J (.p0 a (IntKind.i64.wrap (b + 1)) (c ++ [(RChoice.enc (⟨v1, v2⟩ : RChoice))])) else none)) else none) else none)) else none) else none) else ret (c : List (List L)))
noncomputable def start (J : Pt → Ans) (x0 : List (List L)) : Ans := J (.p0 x0 0 [])
def live : Nat → Live := fun i => match i with | 3 => [(0, none), (3, some 106), (4, none)] | _ => []
def pats : List Pat := [.rd (.sl 106)]
def res : RP := .one (.fr 106)
noncomputable abbrev E : Env := { T := assoc Tab, G := conG [(78, spec_l5Copy.con), (79, spec_l8Copy.con)], nt := 29 }
set_option maxRecDepth 100000
theorem step_eq (I : Heads) (p : Pt) : enterC E live I (pid p) (bodyOf Try.f77) (stOf (live (pid p)) (pvs p) (phs p)) (doneK E Try.f77 res) = step (fun q => I (pid q) (pvs q) (phs q)) p := by
  cases p <;> kernel_rfl
theorem start_eq (I : Heads) (ls : List L) : runC E live I (bodyOf Try.f77) (initS pats ls) (doneK E Try.f77 res) = start (fun q => I (pid q) (pvs q) (phs q)) (ls.headD .hole).toSl := by kernel_rfl
theorem run_eq (n : Nat) (ls : List L) : runF E live Try.f77 res n (initS pats ls) = start (iter step n) (ls.headD .hole).toSl := runF_iter (id := pid) (vs := pvs) (hs := phs) (step := step) (start := fun J => start J (ls.headD .hole).toSl) step_eq (fun I => start_eq I ls) n
noncomputable def md (a0 : List MChoice) : List MChoice := a0
def gd (a0 : List MChoice) : Prop := (SmL (2 ^ 21) (fun y : MChoice => MChoice.Sm (2 ^ 21) y) a0)
def acc (ls : List L) : List (List L) := (ls.headD .hole).toSl
noncomputable def R : (List (List L)) → Option (List (List L)) := RR gd md
theorem R_eq {a0} (h : gd a0) : R (a0.map MChoice.row) = some ((md a0).map MChoice.row) := RR_eq (a := a0) h
noncomputable def con : Con := CN pats res acc R
theorem okF (a0 : List MChoice) (hg : gd a0) : ∃ n, start (iter step n) (a0.map MChoice.row) = ret (((md a0).map MChoice.row) : List (List L)) := by
  unfold gd at hg
  have H0 := hg
  unfold start md
  try simp only [S0, MEntry.rs, MChoice.rs]
  have Bh2 : a0.length ≤ maxLen := (by
      have := (H0).1
      try simp only [maxLen] at *
      omega)
  refine ex_eq (out := (fun b : List MChoice => ret ((b.map MChoice.row) : List (List L)))) (loopM_copy (xs := a0) (z := MChoice.zero) (t := fun s3 : List MChoice => s3)) ?_
  refine ex_pt (p := Pt.p0 (a0.map MChoice.row) 0 ([].map MChoice.row)) (by first | rfl | (simp only [S0, MEntry.rs, MChoice.rs, MP]; done) | (simp only [MP]; rfl)) ?_
  refine loopM_ok (pt := fun (i1 : Nat) (s3 : List MChoice) => Pt.p0 (a0.map MChoice.row) (i1 : Int) (s3.map MChoice.row)) (s := ([] : List MChoice)) (out := (fun b : List MChoice => ret ((b.map MChoice.row) : List (List L)))) (fun (i1 : Nat) (s3 : List MChoice) => s3.length ≤ ([] : List Int).length + 1 * i1) (fun J i1 s3 h2 hih2 => ?_) (fun s3 hih2 => ?_) (by simp)
  · simp only [step, S0, MEntry.rs, MChoice.rs]
    have gr_ := hih2
    try simp only [LN] at gr_
    have bb_ := Bh2
    simp only [maxLen] at bb_
    have := (H0).1
    refine Rnd.yes (by apply decide_eq_true; omega) ?_
    refine Rnd.yes zle_dec ?_
    refine Rnd.yes (lt_dec h2) ?_
    refine Rnd.call_to (((a0.getD i1 MChoice.zero).fPath).map sRow) ?_ ?_
    · have R_ := spec_l5Copy.R_eq (a0 := (a0.getD i1 MChoice.zero).fPath) (SmL.getD (z := MChoice.zero) H0 h2).1
      simp only [spec_l5Copy.md] at R_
      first | exact R_ | (simp only [MP, S0, MEntry.rs, MChoice.rs] at R_ ⊢; first | exact R_ | (rw [← R_]; rfl))
    try simp only [S0, MEntry.rs, MChoice.rs]
    refine Rnd.yes zle_dec ?_
    refine Rnd.yes (lt_dec h2) ?_
    refine Rnd.call_to (MEntry.r ((a0.getD i1 MChoice.zero).fEntry)) ?_ ?_
    · have R_ := spec_l8Copy.R_eq (a0 := (a0.getD i1 MChoice.zero).fEntry) (SmL.getD (z := MChoice.zero) H0 h2).2
      simp only [spec_l8Copy.md] at R_
      first | exact R_ | (simp only [MP, S0, MEntry.rs, MChoice.rs] at R_ ⊢; first | exact R_ | (rw [← R_]; rfl))
    try simp only [S0, MEntry.rs, MChoice.rs]
    refine Rnd.yes (by
        refine lim_t ?_
        try simp (disch := omega) only [LN, wi]
        first | omega | (simp; done) | (simp; omega)) ?_
    refine Rnd.inl (by
        have g_ := hih2
        try simp only [LN] at g_ ⊢
        first | omega | (simp; done) | (simp; omega)) ?_
    rw [wrap_succ h2 Bh2]
    all_goals first | rfl | (simp only [S0, MEntry.rs, MChoice.rs]; done) | (simp only [MP]; rfl) | (simp only [S0, MEntry.rs, MChoice.rs, MP]; first | done | rfl)
  · simp only [step, S0, MEntry.rs, MChoice.rs]
    have gr_ := hih2
    try simp only [LN] at gr_
    have := (H0).1
    refine ex_no (by apply decide_eq_false; omega) ?_
    refine ⟨0, ?_⟩
    all_goals first | rfl | (simp only [S0, MEntry.rs, MChoice.rs]; done) | (simp only [MP]; rfl) | (simp only [S0, MEntry.rs, MChoice.rs, MP]; first | done | rfl)
theorem valid_ : Valid Try.prog Ev 77 con := VV (run := fun n x => start (iter step n) x) mix tab_ok (.cons spec_l5Copy.valid_ (.cons spec_l8Copy.valid_ .nil)) Try.func77 (by kernel_rfl) run_eq (fun _ a _ _ hg => okF a hg)
end spec_l30Copy
/-! spec.SamePath -/
namespace spec_SamePath
inductive Pt where
  | p0 (a : List (List L)) (b : List (List L)) (c : Int)
def pid : Pt → Nat
  | .p0 .. => 4
def pvs : Pt → List V
  | .p0 a b c => [.sl none 9 a, .sl none 9 b, .int .i64 c]
def phs : Pt → List Root
  | .p0 a b c => []
noncomputable def step (J : Pt → Ans) : Pt → Ans
  | .p0 a b c => (bif (decide (c < (a.length : Int))) then (bif (decide ((0 : Int) ≤ c)) then (bif (decide (c < (a.length : Int))) then (bif (decide ((0 : Int) ≤ c)) then (bif (decide (c < (b.length : Int))) then (bif (!((sAt a (Int.toNat c)) == (sAt b (Int.toNat c)))) then ret (false : Bool) else J (.p0 a b (IntKind.i64.wrap (c + 1)))) else none) else none) else none) else none) else ret (true : Bool))
noncomputable def start (J : Pt → Ans) (x0 : List (List L)) (x1 : List (List L)) : Ans := (bif ((x0.length : Int) != (x1.length : Int)) then ret (false : Bool) else J (.p0 x0 x1 0))
def live : Nat → Live := fun i => match i with | 4 => [(0, none), (1, none), (5, none)] | _ => []
def pats : List Pat := [.rd (.sl 9), .rd (.sl 9)]
def res : RP := .one (.rd (.bool))
noncomputable abbrev E : Env := { T := assoc Tab, G := conG [], nt := 26 }
set_option maxRecDepth 100000
theorem step_eq (I : Heads) (p : Pt) : enterC E live I (pid p) (bodyOf Try.f114) (stOf (live (pid p)) (pvs p) (phs p)) (doneK E Try.f114 res) = step (fun q => I (pid q) (pvs q) (phs q)) p := by
  cases p <;> kernel_rfl
theorem start_eq (I : Heads) (ls : List L) : runC E live I (bodyOf Try.f114) (initS pats ls) (doneK E Try.f114 res) = start (fun q => I (pid q) (pvs q) (phs q)) (ls.headD .hole).toSl ((dropT 1 ls).headD .hole).toSl := by kernel_rfl
theorem run_eq (n : Nat) (ls : List L) : runF E live Try.f114 res n (initS pats ls) = start (iter step n) (ls.headD .hole).toSl ((dropT 1 ls).headD .hole).toSl := runF_iter (id := pid) (vs := pvs) (hs := phs) (step := step) (start := fun J => start J (ls.headD .hole).toSl ((dropT 1 ls).headD .hole).toSl) step_eq (fun I => start_eq I ls) n
noncomputable def md (a0 : List ByteArray) (a1 : List ByteArray) : Bool := (bif ((a0.length : Int) != (a1.length : Int)) then (false : Bool) else (loopM (S := Unit) (β := Bool) (fun (i2 : Nat) (s4 : Unit) => (bif (!((a0.getD i2 ⟨#[]⟩) == (a1.getD i2 ⟨#[]⟩))) then (.inr (false : Bool)) else (.inl ()))) (fun (s4 : Unit) => (true : Bool)) a0.length 0 ()))
def gd (a0 : List ByteArray) (a1 : List ByteArray) : Prop := (SmL (2 ^ 21) (fun y : ByteArray => y.size ≤ (2 ^ 21)) a0) ∧ (SmL (2 ^ 21) (fun y : ByteArray => y.size ≤ (2 ^ 21)) a1)
def acc (ls : List L) : List (List L) × List (List L) := ((ls.headD .hole).toSl, ((dropT 1 ls).headD .hole).toSl)
noncomputable def R : (List (List L) × List (List L)) → Option Bool := RR (p2 gd) (u2 md)
theorem R_eq {a0} {a1} (h : gd a0 a1) : R ((a0.map sRow), (a1.map sRow)) = some (md a0 a1) := RR_eq (a := (a0, a1)) h
noncomputable def con : Con := CN pats res acc R
theorem okF (a0 : List ByteArray) (a1 : List ByteArray) (hg : gd a0 a1) : ∃ n, start (iter step n) (a0.map sRow) (a1.map sRow) = ret ((md a0 a1) : Bool) := by
  unfold gd at hg
  obtain ⟨H0, H1⟩ := hg
  unfold start md
  try simp only [S0]
  refine ex_bif ret (fun _ => ⟨0, rfl⟩) (fun c1 => ?_)
  have dc1 := c1
  try simp only [DC] at dc1
  have Bh3 : a0.length ≤ maxLen := (by
      have := (H0).1
      try simp only [maxLen] at *
      omega)
  refine ex_pt (p := Pt.p0 (a0.map sRow) (a1.map sRow) 0) (by first | rfl | (simp only [S0, MP]; done) | (simp only [MP]; rfl)) ?_
  refine loopM_ok (pt := fun (i2 : Nat) (s4 : Unit) => Pt.p0 (a0.map sRow) (a1.map sRow) (i2 : Int)) (s := (() : Unit)) (out := ret) (fun _ _ => True) (fun J i2 s4 h3 hih3 => ?_) (fun s4 hih3 => ?_) trivial
  · simp only [step, S0]
    have bb_ := Bh3
    simp only [maxLen] at bb_
    have := (H0).1
    refine Rnd.yes (by apply decide_eq_true; omega) ?_
    refine Rnd.yes zle_dec ?_
    refine Rnd.yes (lt_dec h3) ?_
    refine Rnd.yes zle_dec ?_
    refine Rnd.yes (by
        have := (H1).1
        refine decide_eq_true ?_
        try simp (disch := omega) only [LN, wi]
        first | omega | (simp; done) | (simp; omega)) ?_
    refine Rnd.bif (fun _ => Rnd.inr rfl) (fun c5 => ?_)
    refine Rnd.inl trivial ?_
    rw [wrap_succ h3 Bh3]
    all_goals first | rfl | (simp only [S0, MP]; first | done | rfl)
  · simp only [step, S0]
    have := (H0).1
    refine ex_no (by apply decide_eq_false; omega) ?_
    refine ⟨0, ?_⟩
    all_goals first | rfl | (simp only [S0, MP]; first | done | rfl)
theorem valid_ : Valid Try.prog Ev 114 con := VV (run := fun n x => start (iter step n) x.1 x.2) mix tab_ok .nil Try.func114 (by kernel_rfl) run_eq (fun _ a _ _ hg => okF a.1 a.2 hg)
theorem md_eq (a0 : List ByteArray) (a1 : List ByteArray) : md a0 a1 = eqB a0 a1 := by
  unfold md
  refine loop_eqB (⟨#[]⟩) (fun i s h h2 => ?_) (fun s => rfl)
  simp only [bne, int_beq, bool_beq, ba_beq]
  cases eqB _ _ <;> rfl
end spec_SamePath
/-! spec.l30Find -/
namespace spec_l30Find
inductive Pt where
  | p0 (a : List (List L)) (b : List (List L)) (c : Int)
def pid : Pt → Nat
  | .p0 .. => 2
def pvs : Pt → List V
  | .p0 a b c => [.sl none 106 a, .sl none 9 b, .int .i64 c]
def phs : Pt → List Root
  | .p0 a b c => []
noncomputable def step (J : Pt → Ans) : Pt → Ans
  | .p0 a b c => (bif (decide (c < (a.length : Int))) then (bif (decide ((0 : Int) ≤ c)) then (bif (decide (c < (a.length : Int))) then (call (spec_SamePath.R ((RChoice.at a (Int.toNat c)).fPath, b)) fun v1 => (bif v1 then ret (c : Int) else J (.p0 a b (IntKind.i64.wrap (c + 1))))) else none) else none) else ret ((-1) : Int))
noncomputable def start (J : Pt → Ans) (x0 : List (List L)) (x1 : List (List L)) : Ans := J (.p0 x0 x1 0)
def live : Nat → Live := fun i => match i with | 2 => [(0, none), (1, none), (5, none)] | _ => []
def pats : List Pat := [.rd (.sl 106), .rd (.sl 9)]
def res : RP := .one (.rd (.int .i64))
noncomputable abbrev E : Env := { T := assoc Tab, G := conG [(114, spec_SamePath.con)], nt := 20 }
set_option maxRecDepth 100000
theorem step_eq (I : Heads) (p : Pt) : enterC E live I (pid p) (bodyOf Try.f80) (stOf (live (pid p)) (pvs p) (phs p)) (doneK E Try.f80 res) = step (fun q => I (pid q) (pvs q) (phs q)) p := by
  cases p <;> kernel_rfl
theorem start_eq (I : Heads) (ls : List L) : runC E live I (bodyOf Try.f80) (initS pats ls) (doneK E Try.f80 res) = start (fun q => I (pid q) (pvs q) (phs q)) (ls.headD .hole).toSl ((dropT 1 ls).headD .hole).toSl := by kernel_rfl
theorem run_eq (n : Nat) (ls : List L) : runF E live Try.f80 res n (initS pats ls) = start (iter step n) (ls.headD .hole).toSl ((dropT 1 ls).headD .hole).toSl := runF_iter (id := pid) (vs := pvs) (hs := phs) (step := step) (start := fun J => start J (ls.headD .hole).toSl ((dropT 1 ls).headD .hole).toSl) step_eq (fun I => start_eq I ls) n
noncomputable def md (a0 : List MChoice) (a1 : List ByteArray) : Int := (eachI (S := Unit) (β := Int) (fun (i1 : Nat) (y1 : MChoice) (s3 : Unit) => (bif (spec_SamePath.md (y1.fPath) a1) then (.inr ((i1 : Int) : Int)) else (.inl ()))) (fun (s3 : Unit) => ((-1) : Int)) 0 a0 ())
def gd (a0 : List MChoice) (a1 : List ByteArray) : Prop := (SmL (2 ^ 21) (fun y : MChoice => MChoice.Sm (2 ^ 21) y) a0) ∧ (SmL (2 ^ 21) (fun y : ByteArray => y.size ≤ (2 ^ 21)) a1)
def acc (ls : List L) : List (List L) × List (List L) := ((ls.headD .hole).toSl, ((dropT 1 ls).headD .hole).toSl)
noncomputable def R : (List (List L) × List (List L)) → Option Int := RR (p2 gd) (u2 md)
theorem R_eq {a0} {a1} (h : gd a0 a1) : R ((a0.map MChoice.row), (a1.map sRow)) = some (md a0 a1) := RR_eq (a := (a0, a1)) h
noncomputable def con : Con := CN pats res acc R
theorem okF (a0 : List MChoice) (a1 : List ByteArray) (hg : gd a0 a1) : ∃ n, start (iter step n) (a0.map MChoice.row) (a1.map sRow) = ret ((md a0 a1) : Int) := by
  unfold gd at hg
  obtain ⟨H0, H1⟩ := hg
  unfold start md
  try simp only [S0, MEntry.rs, MChoice.rs]
  have Bh2 : a0.length ≤ maxLen := (by
      have := (H0).1
      try simp only [maxLen] at *
      omega)
  refine ex_eq (out := ret) (loopM_eachI (z := MChoice.zero)) ?_
  refine ex_pt (p := Pt.p0 (a0.map MChoice.row) (a1.map sRow) 0) (by first | rfl | (simp only [S0, MEntry.rs, MChoice.rs, MP]; done) | (simp only [MP]; rfl)) ?_
  refine loopM_ok (pt := fun (i1 : Nat) (s3 : Unit) => Pt.p0 (a0.map MChoice.row) (a1.map sRow) (i1 : Int)) (s := (() : Unit)) (out := ret) (fun _ _ => True) (fun J i1 s3 h2 hih2 => ?_) (fun s3 hih2 => ?_) trivial
  · simp only [step, S0, MEntry.rs, MChoice.rs]
    have bb_ := Bh2
    simp only [maxLen] at bb_
    have := (H0).1
    refine Rnd.yes (by apply decide_eq_true; omega) ?_
    refine Rnd.yes zle_dec ?_
    refine Rnd.yes (lt_dec h2) ?_
    refine Rnd.call_to (spec_SamePath.md ((a0.getD i1 MChoice.zero).fPath) a1) (spec_SamePath.R_eq (a0 := (a0.getD i1 MChoice.zero).fPath) (a1 := a1) ⟨(SmL.getD (z := MChoice.zero) H0 h2).1, H1⟩) ?_
    refine Rnd.bif (fun c4 => ?_) (fun c4 => ?_)
    · refine Rnd.inr ?_
      all_goals first | rfl | (simp only [S0, MEntry.rs, MChoice.rs, MP]; first | done | rfl)
    · refine Rnd.inl trivial ?_
      rw [wrap_succ h2 Bh2]
      all_goals first | rfl | (simp only [S0, MEntry.rs, MChoice.rs, MP]; first | done | rfl)
  · simp only [step, S0, MEntry.rs, MChoice.rs]
    have := (H0).1
    refine ex_no (by apply decide_eq_false; omega) ?_
    refine ⟨0, ?_⟩
    all_goals first | rfl | (simp only [S0, MEntry.rs, MChoice.rs, MP]; first | done | rfl)
theorem valid_ : Valid Try.prog Ev 80 con := VV (run := fun n x => start (iter step n) x.1 x.2) mix tab_ok (.cons spec_SamePath.valid_ .nil) Try.func80 (by kernel_rfl) run_eq (fun _ a _ _ hg => okF a.1 a.2 hg)
theorem fa (a0 : List MChoice) (a1 : List ByteArray) : -1 ≤ md a0 a1 ∧ md a0 a1 < (a0.length : Int) := by
  unfold md
  refine eachI_fa0 ?_ _ _
  all_goals
    intro i x s b h
    revert h
    simp only [Bool.cond_eq_ite]
    repeat' split
    all_goals (intro h; first | (cases h; rfl) | cases h)
end spec_l30Find
/-! spec.l1In -/
namespace spec_l1In
noncomputable def F (x0 : Int) (x1 : Int) (x2 : Int) : Ans := (bif (decide (x0 ≥ x1)) then ret ((decide (x0 ≤ x2)) : Bool) else ret (false : Bool))
def pats : List Pat := [.rd (.int .i64), .rd (.int .i64), .rd (.int .i64)]
def res : RP := .one (.rd (.bool))
noncomputable abbrev E : Env := { T := assoc Tab, G := conG [], nt := 15 }
set_option maxRecDepth 100000
theorem run_eq (n : Nat) (ls : List L) : runF E (fun _ => []) Try.f60 res n (initS pats ls) = F (ls.headD .hole).toInt ((dropT 1 ls).headD .hole).toInt ((dropT 2 ls).headD .hole).toInt := by kernel_rfl
noncomputable def md (a0 : Int) (a1 : Int) (a2 : Int) : Bool := (bif (decide (a0 ≥ a1)) then ((decide (a0 ≤ a2)) : Bool) else (false : Bool))
def gd (a0 : Int) (a1 : Int) (a2 : Int) : Prop := True
def acc (ls : List L) : Int × Int × Int := ((ls.headD .hole).toInt, ((dropT 1 ls).headD .hole).toInt, ((dropT 2 ls).headD .hole).toInt)
noncomputable def R : (Int × Int × Int) → Option Bool := RR (p3 gd) (u3 md)
theorem R_eq {a0} {a1} {a2} (h : gd a0 a1 a2) : R (a0, a1, a2) = some (md a0 a1 a2) := RR_eq (a := (a0, a1, a2)) h
noncomputable def con : Con := CN pats res acc R
theorem okF (a0 : Int) (a1 : Int) (a2 : Int) (hg : gd a0 a1 a2) : F a0 a1 a2 = ret ((md a0 a1 a2) : Bool) := by
  unfold F md
  try simp only [S0]
  refine bif_out ret (fun c1 => ?_) (fun _ => rfl)
  all_goals first | rfl | (simp only [S0, MP]; first | done | rfl)
theorem valid_ : Valid Try.prog Ev 60 con := VV (run := fun _ x => F x.1 x.2.1 x.2.2) mix tab_ok .nil Try.func60 (by kernel_rfl) run_eq (fun _ a _ _ hg => ⟨0, okF a.1 a.2.1 a.2.2 hg⟩)
end spec_l1In
/-! spec.IsLabel -/
namespace spec_IsLabel
inductive Pt where
  | p0 (a : ByteArray) (b : Int)
def pid : Pt → Nat
  | .p0 .. => 4
def pvs : Pt → List V
  | .p0 a b => [.str a, .int .i64 b]
def phs : Pt → List Root
  | .p0 a b => []
noncomputable def step (J : Pt → Ans) : Pt → Ans
  | .p0 a b => (bif (decide (b < (a.size : Int))) then (bif (decide ((0 : Int) ≤ b)) then (bif (decide (b < (a.size : Int))) then (bif (decide ((chAt a (Int.toNat b)) < 97)) then (bif (decide ((0 : Int) ≤ b)) then (bif (decide (b < (a.size : Int))) then (bif (decide ((chAt a (Int.toNat b)) < 48)) then (bif (decide ((0 : Int) ≤ b)) then (bif (decide (b < (a.size : Int))) then (bif ((chAt a (Int.toNat b)) != 45) then ret (false : Bool) else J (.p0 a (IntKind.i64.wrap (b + 1)))) else none) else none) else (bif (decide ((0 : Int) ≤ b)) then (bif (decide (b < (a.size : Int))) then (bif (decide ((chAt a (Int.toNat b)) > 57)) then (bif (decide ((0 : Int) ≤ b)) then (bif (decide (b < (a.size : Int))) then (bif ((chAt a (Int.toNat b)) != 45) then ret (false : Bool) else J (.p0 a (IntKind.i64.wrap (b + 1)))) else none) else none) else J (.p0 a (IntKind.i64.wrap (b + 1)))) else none) else none)) else none) else none) else (bif (decide ((0 : Int) ≤ b)) then (bif (decide (b < (a.size : Int))) then (bif (decide ((chAt a (Int.toNat b)) > 122)) then (bif (decide ((0 : Int) ≤ b)) then (bif (decide (b < (a.size : Int))) then (bif (decide ((chAt a (Int.toNat b)) < 48)) then (bif (decide ((0 : Int) ≤ b)) then (bif (decide (b < (a.size : Int))) then (bif ((chAt a (Int.toNat b)) != 45) then ret (false : Bool) else J (.p0 a (IntKind.i64.wrap (b + 1)))) else none) else none) else (bif (decide ((0 : Int) ≤ b)) then (bif (decide (b < (a.size : Int))) then (bif (decide ((chAt a (Int.toNat b)) > 57)) then (bif (decide ((0 : Int) ≤ b)) then (bif (decide (b < (a.size : Int))) then (bif ((chAt a (Int.toNat b)) != 45) then ret (false : Bool) else J (.p0 a (IntKind.i64.wrap (b + 1)))) else none) else none) else J (.p0 a (IntKind.i64.wrap (b + 1)))) else none) else none)) else none) else none) else J (.p0 a (IntKind.i64.wrap (b + 1)))) else none) else none)) else none) else none) else ret (true : Bool))
noncomputable def start (J : Pt → Ans) (x0 : ByteArray) : Ans := (call (spec_l1In.R ((x0.size : Int), 1, 8)) fun v1 => (bif (!v1) then ret (false : Bool) else (bif (decide ((0 : Int) < (x0.size : Int))) then (bif ((chAt x0 0) == 45) then ret (false : Bool) else (bif (decide ((0 : Int) ≤ (IntKind.i64.wrap ((x0.size : Int) - 1)))) then (bif (decide ((IntKind.i64.wrap ((x0.size : Int) - 1)) < (x0.size : Int))) then (bif ((chAt x0 (Int.toNat (IntKind.i64.wrap ((x0.size : Int) - 1)))) == 45) then ret (false : Bool) else J (.p0 x0 0)) else none) else none)) else none)))
def live : Nat → Live := fun i => match i with | 4 => [(0, none), (3, none)] | _ => []
def pats : List Pat := [.rd (.str)]
def res : RP := .one (.rd (.bool))
noncomputable abbrev E : Env := { T := assoc Tab, G := conG [(60, spec_l1In.con)], nt := 55 }
set_option maxRecDepth 100000
theorem step_eq (I : Heads) (p : Pt) : enterC E live I (pid p) (bodyOf Try.f59) (stOf (live (pid p)) (pvs p) (phs p)) (doneK E Try.f59 res) = step (fun q => I (pid q) (pvs q) (phs q)) p := by
  cases p <;> kernel_rfl
theorem start_eq (I : Heads) (ls : List L) : runC E live I (bodyOf Try.f59) (initS pats ls) (doneK E Try.f59 res) = start (fun q => I (pid q) (pvs q) (phs q)) (ls.headD .hole).toStr := by kernel_rfl
theorem run_eq (n : Nat) (ls : List L) : runF E live Try.f59 res n (initS pats ls) = start (iter step n) (ls.headD .hole).toStr := runF_iter (id := pid) (vs := pvs) (hs := phs) (step := step) (start := fun J => start J (ls.headD .hole).toStr) step_eq (fun I => start_eq I ls) n
noncomputable def md (a0 : ByteArray) : Bool := (bif (!(spec_l1In.md (a0.size : Int) 1 8)) then (false : Bool) else (bif ((chAt a0 0) == 45) then (false : Bool) else (bif ((chAt a0 (Int.toNat (IntKind.i64.wrap ((a0.size : Int) - 1)))) == 45) then (false : Bool) else (loopM (S := Unit) (β := Bool) (fun (i4 : Nat) (s6 : Unit) => (bif (decide ((chAt a0 i4) < 97)) then (bif (decide ((chAt a0 i4) < 48)) then (bif ((chAt a0 i4) != 45) then (.inr (false : Bool)) else (.inl ())) else (bif (decide ((chAt a0 i4) > 57)) then (bif ((chAt a0 i4) != 45) then (.inr (false : Bool)) else (.inl ())) else (.inl ()))) else (bif (decide ((chAt a0 i4) > 122)) then (bif (decide ((chAt a0 i4) < 48)) then (bif ((chAt a0 i4) != 45) then (.inr (false : Bool)) else (.inl ())) else (bif (decide ((chAt a0 i4) > 57)) then (bif ((chAt a0 i4) != 45) then (.inr (false : Bool)) else (.inl ())) else (.inl ()))) else (.inl ())))) (fun (s6 : Unit) => (true : Bool)) a0.size 0 ()))))
def gd (a0 : ByteArray) : Prop := (a0.size ≤ (2 ^ 21))
def acc (ls : List L) : ByteArray := (ls.headD .hole).toStr
noncomputable def R : ByteArray → Option Bool := RR gd md
theorem R_eq {a0} (h : gd a0) : R a0 = some (md a0) := RR_eq (a := a0) h
noncomputable def con : Con := CN pats res acc R
theorem okF (a0 : ByteArray) (hg : gd a0) : ∃ n, start (iter step n) a0 = ret ((md a0) : Bool) := by
  unfold gd at hg
  have H0 := hg
  unfold start md
  try simp only [S0]
  refine ex_call_to (spec_l1In.md (a0.size : Int) 1 8) (spec_l1In.R_eq (a0 := (a0.size : Int)) (a1 := 1) (a2 := 8) trivial) ?_
  refine ex_bif ret (fun _ => ⟨0, rfl⟩) (fun c1 => ?_)
  have dc1 := c1
  try simp only [DC] at dc1
  have Dc1 := c1
  try simp [spec_l1In.md] at Dc1
  refine ex_yes (by
      have := H0
      refine decide_eq_true ?_
      try simp (disch := omega) only [LN, wi]
      first | omega | (simp; done) | (simp; omega)) ?_
  refine ex_bif ret (fun _ => ⟨0, rfl⟩) (fun c2 => ?_)
  have dc2 := c2
  try simp only [DC] at dc2
  refine ex_yes (by
      have := H0
      refine decide_eq_true ?_
      try simp (disch := omega) only [LN, wi]
      first | omega | (simp; done) | (simp; omega)) ?_
  refine ex_yes (by
      have := H0
      refine decide_eq_true ?_
      try simp (disch := omega) only [LN, wi]
      first | omega | (simp; done) | (simp; omega)) ?_
  refine ex_bif ret (fun _ => ⟨0, rfl⟩) (fun c3 => ?_)
  have dc3 := c3
  try simp only [DC] at dc3
  have Bh5 : a0.size ≤ maxLen := (by
      have := H0
      try simp only [maxLen] at *
      omega)
  refine ex_pt (p := Pt.p0 a0 0) (by first | rfl | (simp only [S0, MP]; done) | (simp only [MP]; rfl)) ?_
  refine loopM_ok (pt := fun (i4 : Nat) (s6 : Unit) => Pt.p0 a0 (i4 : Int)) (s := (() : Unit)) (out := ret) (fun _ _ => True) (fun J i4 s6 h5 hih5 => ?_) (fun s6 hih5 => ?_) trivial
  · simp only [step, S0]
    have bb_ := Bh5
    simp only [maxLen] at bb_
    have := H0
    refine Rnd.yes (by apply decide_eq_true; omega) ?_
    refine Rnd.yes zle_dec ?_
    refine Rnd.yes (lt_dec h5) ?_
    refine Rnd.bif (fun c7 => ?_) (fun c7 => ?_)
    · refine Rnd.yes zle_dec ?_
      refine Rnd.yes (lt_dec h5) ?_
      refine Rnd.bif (fun c8 => ?_) (fun c8 => ?_)
      · refine Rnd.yes zle_dec ?_
        refine Rnd.yes (lt_dec h5) ?_
        refine Rnd.bif (fun _ => Rnd.inr rfl) (fun c9 => ?_)
        refine Rnd.inl trivial ?_
        rw [wrap_succ h5 Bh5]
        all_goals first | rfl | (simp only [S0, MP]; first | done | rfl)
      · refine Rnd.yes zle_dec ?_
        refine Rnd.yes (lt_dec h5) ?_
        refine Rnd.bif (fun c10 => ?_) (fun c10 => ?_)
        · refine Rnd.yes zle_dec ?_
          refine Rnd.yes (lt_dec h5) ?_
          refine Rnd.bif (fun _ => Rnd.inr rfl) (fun c11 => ?_)
          refine Rnd.inl trivial ?_
          rw [wrap_succ h5 Bh5]
          all_goals first | rfl | (simp only [S0, MP]; first | done | rfl)
        · refine Rnd.inl trivial ?_
          rw [wrap_succ h5 Bh5]
          all_goals first | rfl | (simp only [S0, MP]; first | done | rfl)
    · refine Rnd.yes zle_dec ?_
      refine Rnd.yes (lt_dec h5) ?_
      refine Rnd.bif (fun c12 => ?_) (fun c12 => ?_)
      · refine Rnd.yes zle_dec ?_
        refine Rnd.yes (lt_dec h5) ?_
        refine Rnd.bif (fun c13 => ?_) (fun c13 => ?_)
        · refine Rnd.yes zle_dec ?_
          refine Rnd.yes (lt_dec h5) ?_
          refine Rnd.bif (fun _ => Rnd.inr rfl) (fun c14 => ?_)
          refine Rnd.inl trivial ?_
          rw [wrap_succ h5 Bh5]
          all_goals first | rfl | (simp only [S0, MP]; first | done | rfl)
        · refine Rnd.yes zle_dec ?_
          refine Rnd.yes (lt_dec h5) ?_
          refine Rnd.bif (fun c15 => ?_) (fun c15 => ?_)
          · refine Rnd.yes zle_dec ?_
            refine Rnd.yes (lt_dec h5) ?_
            refine Rnd.bif (fun _ => Rnd.inr rfl) (fun c16 => ?_)
            refine Rnd.inl trivial ?_
            rw [wrap_succ h5 Bh5]
            all_goals first | rfl | (simp only [S0, MP]; first | done | rfl)
          · refine Rnd.inl trivial ?_
            rw [wrap_succ h5 Bh5]
            all_goals first | rfl | (simp only [S0, MP]; first | done | rfl)
      · refine Rnd.inl trivial ?_
        rw [wrap_succ h5 Bh5]
        all_goals first | rfl | (simp only [S0, MP]; first | done | rfl)
  · simp only [step, S0]
    have := H0
    refine ex_no (by apply decide_eq_false; omega) ?_
    refine ⟨0, ?_⟩
    all_goals first | rfl | (simp only [S0, MP]; first | done | rfl)
theorem valid_ : Valid Try.prog Ev 59 con := VV (run := fun n x => start (iter step n) x) mix tab_ok (.cons spec_l1In.valid_ .nil) Try.func59 (by kernel_rfl) run_eq (fun _ a _ _ hg => okF a hg)
end spec_IsLabel
/-! spec.IsPath -/
namespace spec_IsPath
inductive Pt where
  | p0 (a : List (List L)) (b : Int)
def pid : Pt → Nat
  | .p0 .. => 2
def pvs : Pt → List V
  | .p0 a b => [.sl none 9 a, .int .i64 b]
def phs : Pt → List Root
  | .p0 a b => []
noncomputable def step (J : Pt → Ans) : Pt → Ans
  | .p0 a b => (bif (decide (b < (a.length : Int))) then (bif (decide ((0 : Int) ≤ b)) then (bif (decide (b < (a.length : Int))) then (call (spec_IsLabel.R (sAt a (Int.toNat b))) fun v1 => (bif (!v1) then ret (false : Bool) else J (.p0 a (IntKind.i64.wrap (b + 1))))) else none) else none) else (call (spec_l1In.R ((a.length : Int), 1, 4)) fun v2 => ret (v2 : Bool)))
noncomputable def start (J : Pt → Ans) (x0 : List (List L)) : Ans := J (.p0 x0 0)
def live : Nat → Live := fun i => match i with | 2 => [(0, none), (3, none)] | _ => []
def pats : List Pat := [.rd (.sl 9)]
def res : RP := .one (.rd (.bool))
noncomputable abbrev E : Env := { T := assoc Tab, G := conG [(59, spec_IsLabel.con), (60, spec_l1In.con)], nt := 19 }
set_option maxRecDepth 100000
theorem step_eq (I : Heads) (p : Pt) : enterC E live I (pid p) (bodyOf Try.f115) (stOf (live (pid p)) (pvs p) (phs p)) (doneK E Try.f115 res) = step (fun q => I (pid q) (pvs q) (phs q)) p := by
  cases p <;> kernel_rfl
theorem start_eq (I : Heads) (ls : List L) : runC E live I (bodyOf Try.f115) (initS pats ls) (doneK E Try.f115 res) = start (fun q => I (pid q) (pvs q) (phs q)) (ls.headD .hole).toSl := by kernel_rfl
theorem run_eq (n : Nat) (ls : List L) : runF E live Try.f115 res n (initS pats ls) = start (iter step n) (ls.headD .hole).toSl := runF_iter (id := pid) (vs := pvs) (hs := phs) (step := step) (start := fun J => start J (ls.headD .hole).toSl) step_eq (fun I => start_eq I ls) n
noncomputable def md (a0 : List ByteArray) : Bool := (eachM (S := Unit) (β := Bool) (fun (y1 : ByteArray) (s3 : Unit) => (bif (!(spec_IsLabel.md y1)) then (.inr (false : Bool)) else (.inl ()))) (fun (s3 : Unit) => ((spec_l1In.md (a0.length : Int) 1 4) : Bool)) a0 ())
def gd (a0 : List ByteArray) : Prop := (SmL (2 ^ 21) (fun y : ByteArray => y.size ≤ (2 ^ 21)) a0)
def acc (ls : List L) : List (List L) := (ls.headD .hole).toSl
noncomputable def R : (List (List L)) → Option Bool := RR gd md
theorem R_eq {a0} (h : gd a0) : R (a0.map sRow) = some (md a0) := RR_eq (a := a0) h
noncomputable def con : Con := CN pats res acc R
theorem okF (a0 : List ByteArray) (hg : gd a0) : ∃ n, start (iter step n) (a0.map sRow) = ret ((md a0) : Bool) := by
  unfold gd at hg
  have H0 := hg
  unfold start md
  try simp only [S0]
  have Bh2 : a0.length ≤ maxLen := (by
      have := (H0).1
      try simp only [maxLen] at *
      omega)
  refine ex_eq (out := ret) (loopM_eachM (z := ⟨#[]⟩)) ?_
  refine ex_pt (p := Pt.p0 (a0.map sRow) 0) (by first | rfl | (simp only [S0, MP]; done) | (simp only [MP]; rfl)) ?_
  refine loopM_ok (pt := fun (i1 : Nat) (s3 : Unit) => Pt.p0 (a0.map sRow) (i1 : Int)) (s := (() : Unit)) (out := ret) (fun _ _ => True) (fun J i1 s3 h2 hih2 => ?_) (fun s3 hih2 => ?_) trivial
  · simp only [step, S0]
    have bb_ := Bh2
    simp only [maxLen] at bb_
    have := (H0).1
    refine Rnd.yes (by apply decide_eq_true; omega) ?_
    refine Rnd.yes zle_dec ?_
    refine Rnd.yes (lt_dec h2) ?_
    refine Rnd.call_to (spec_IsLabel.md (a0.getD i1 ⟨#[]⟩)) (spec_IsLabel.R_eq (a0 := (a0.getD i1 ⟨#[]⟩)) (SmL.getD (z := ⟨#[]⟩) H0 h2)) ?_
    refine Rnd.bif (fun _ => Rnd.inr rfl) (fun c4 => ?_)
    refine Rnd.inl trivial ?_
    rw [wrap_succ h2 Bh2]
    all_goals first | rfl | (simp only [S0, MP]; first | done | rfl)
  · simp only [step, S0]
    have := (H0).1
    refine ex_no (by apply decide_eq_false; omega) ?_
    refine ex_call_to (spec_l1In.md (a0.length : Int) 1 4) (spec_l1In.R_eq (a0 := (a0.length : Int)) (a1 := 1) (a2 := 4) trivial) ?_
    refine ⟨0, ?_⟩
    all_goals first | rfl | (simp only [S0, MP]; first | done | rfl)
theorem valid_ : Valid Try.prog Ev 115 con := VV (run := fun n x => start (iter step n) x) mix tab_ok (.cons spec_IsLabel.valid_ (.cons spec_l1In.valid_ .nil)) Try.func115 (by kernel_rfl) run_eq (fun _ a _ _ hg => okF a hg)
end spec_IsPath
/-! spec.IsEntry -/
namespace spec_IsEntry
noncomputable def F (x0 : REntry) : Ans := (bif (x0.fKind == 1) then (call (spec_IsLabel.R x0.fLabel) fun v1 => (bif v1 then (call (spec_l1In.R (x0.fValue, 0, 999999)) fun v2 => (bif v2 then ret (((x0.fPath.length : Int) == 0) : Bool) else ret (false : Bool))) else ret (false : Bool))) else (bif (x0.fKind == 2) then (call (spec_IsLabel.R x0.fLabel) fun v3 => (bif v3 then (call (spec_l1In.R (x0.fValue, 0, 2147483646)) fun v4 => (bif v4 then ret (((x0.fPath.length : Int) == 0) : Bool) else ret (false : Bool))) else ret (false : Bool))) else (bif (x0.fKind == 3) then (call (spec_IsLabel.R x0.fLabel) fun v5 => (bif v5 then (call (spec_l1In.R (x0.fValue, 0, 2147483646)) fun v6 => (bif v6 then (call (spec_IsPath.R x0.fPath) fun v7 => ret (v7 : Bool)) else ret (false : Bool))) else ret (false : Bool))) else ret (false : Bool))))
def pats : List Pat := [.agg [.str, .int .i64, .int .i64, .sl 9]]
def res : RP := .one (.rd (.bool))
noncomputable abbrev E : Env := { T := assoc Tab, G := conG [(59, spec_IsLabel.con), (60, spec_l1In.con), (115, spec_IsPath.con)], nt := 52 }
set_option maxRecDepth 100000
theorem run_eq (n : Nat) (ls : List L) : runF E (fun _ => []) Try.f116 res n (initS pats ls) = F (REntry.dec ls) := by kernel_rfl
noncomputable def md (a0 : MEntry) : Bool := (bif (a0.fKind == 1) then (bif (spec_IsLabel.md a0.fLabel) then (bif (spec_l1In.md a0.fValue 0 999999) then (((a0.fPath.length : Int) == 0) : Bool) else (false : Bool)) else (false : Bool)) else (bif (a0.fKind == 2) then (bif (spec_IsLabel.md a0.fLabel) then (bif (spec_l1In.md a0.fValue 0 2147483646) then (((a0.fPath.length : Int) == 0) : Bool) else (false : Bool)) else (false : Bool)) else (bif (a0.fKind == 3) then (bif (spec_IsLabel.md a0.fLabel) then (bif (spec_l1In.md a0.fValue 0 2147483646) then ((spec_IsPath.md a0.fPath) : Bool) else (false : Bool)) else (false : Bool)) else (false : Bool))))
def gd (a0 : MEntry) : Prop := (MEntry.Sm (2 ^ 21) a0)
def acc (ls : List L) : REntry := (REntry.dec ls)
noncomputable def R : REntry → Option Bool := RR gd md
theorem R_eq {a0} (h : gd a0) : R (MEntry.r a0) = some (md a0) := RR_eq (a := a0) h
noncomputable def con : Con := CN pats res acc R
theorem okF (a0 : MEntry) (hg : gd a0) : F (MEntry.r a0) = ret ((md a0) : Bool) := by
  unfold gd at hg
  have H0 := hg
  unfold F md
  try simp only [S0, MEntry.rs]
  refine bif_out ret (fun c1 => ?_) (fun c1 => ?_)
  · refine call_to (spec_IsLabel.md a0.fLabel) (spec_IsLabel.R_eq (a0 := a0.fLabel) H0.1) ?_
    refine bif_out ret (fun c2 => ?_) (fun _ => rfl)
    refine call_to (spec_l1In.md a0.fValue 0 999999) (spec_l1In.R_eq (a0 := a0.fValue) (a1 := 0) (a2 := 999999) trivial) ?_
    refine bif_out ret (fun c3 => ?_) (fun _ => rfl)
    all_goals first | rfl | (simp only [S0, MEntry.rs, MP]; first | done | rfl)
  · refine bif_out ret (fun c4 => ?_) (fun c4 => ?_)
    · refine call_to (spec_IsLabel.md a0.fLabel) (spec_IsLabel.R_eq (a0 := a0.fLabel) H0.1) ?_
      refine bif_out ret (fun c5 => ?_) (fun _ => rfl)
      refine call_to (spec_l1In.md a0.fValue 0 2147483646) (spec_l1In.R_eq (a0 := a0.fValue) (a1 := 0) (a2 := 2147483646) trivial) ?_
      refine bif_out ret (fun c6 => ?_) (fun _ => rfl)
      all_goals first | rfl | (simp only [S0, MEntry.rs, MP]; first | done | rfl)
    · refine bif_out ret (fun c7 => ?_) (fun _ => rfl)
      refine call_to (spec_IsLabel.md a0.fLabel) (spec_IsLabel.R_eq (a0 := a0.fLabel) H0.1) ?_
      refine bif_out ret (fun c8 => ?_) (fun _ => rfl)
      refine call_to (spec_l1In.md a0.fValue 0 2147483646) (spec_l1In.R_eq (a0 := a0.fValue) (a1 := 0) (a2 := 2147483646) trivial) ?_
      refine bif_out ret (fun c9 => ?_) (fun _ => rfl)
      refine call_to (spec_IsPath.md a0.fPath) (spec_IsPath.R_eq (a0 := a0.fPath) H0.2) ?_
      all_goals first | rfl | (simp only [S0, MEntry.rs, MP]; first | done | rfl)
theorem valid_ : Valid Try.prog Ev 116 con := VV (run := fun _ x => F x) mix tab_ok (.cons spec_IsLabel.valid_ (.cons spec_l1In.valid_ (.cons spec_IsPath.valid_ .nil))) Try.func116 (by kernel_rfl) run_eq (fun _ a _ _ hg => ⟨0, okF a hg⟩)
end spec_IsEntry
/-! spec.AreChoices -/
namespace spec_AreChoices
inductive Pt where
  | p0 (a : List (List L)) (b : Int)
def pid : Pt → Nat
  | .p0 .. => 2
def pvs : Pt → List V
  | .p0 a b => [.sl none 106 a, .int .i64 b]
def phs : Pt → List Root
  | .p0 a b => []
noncomputable def step (J : Pt → Ans) : Pt → Ans
  | .p0 a b => (bif (decide (b < (a.length : Int))) then (bif (decide ((0 : Int) ≤ b)) then (bif (decide (b < (a.length : Int))) then (call (spec_IsPath.R ((RChoice.at a (Int.toNat b)).fPath)) fun v1 => (bif (!v1) then ret (false : Bool) else (bif (decide ((0 : Int) ≤ b)) then (bif (decide (b < (a.length : Int))) then (call (spec_IsEntry.R ((RChoice.at a (Int.toNat b)).fEntry)) fun v2 => (bif (!v2) then ret (false : Bool) else (bif (decide ((0 : Int) ≤ b)) then (bif (decide (b < (a.length : Int))) then (call (spec_l30Find.R (a, (RChoice.at a (Int.toNat b)).fPath)) fun v3 => (bif (v3 != b) then ret (false : Bool) else J (.p0 a (IntKind.i64.wrap (b + 1))))) else none) else none))) else none) else none))) else none) else none) else ret ((decide ((a.length : Int) ≤ 8)) : Bool))
noncomputable def start (J : Pt → Ans) (x0 : List (List L)) : Ans := J (.p0 x0 0)
def live : Nat → Live := fun i => match i with | 2 => [(0, none), (3, none)] | _ => []
def pats : List Pat := [.rd (.sl 106)]
def res : RP := .one (.rd (.bool))
noncomputable abbrev E : Env := { T := assoc Tab, G := conG [(115, spec_IsPath.con), (116, spec_IsEntry.con), (80, spec_l30Find.con)], nt := 40 }
set_option maxRecDepth 100000
theorem step_eq (I : Heads) (p : Pt) : enterC E live I (pid p) (bodyOf Try.f81) (stOf (live (pid p)) (pvs p) (phs p)) (doneK E Try.f81 res) = step (fun q => I (pid q) (pvs q) (phs q)) p := by
  cases p <;> kernel_rfl
theorem start_eq (I : Heads) (ls : List L) : runC E live I (bodyOf Try.f81) (initS pats ls) (doneK E Try.f81 res) = start (fun q => I (pid q) (pvs q) (phs q)) (ls.headD .hole).toSl := by kernel_rfl
theorem run_eq (n : Nat) (ls : List L) : runF E live Try.f81 res n (initS pats ls) = start (iter step n) (ls.headD .hole).toSl := runF_iter (id := pid) (vs := pvs) (hs := phs) (step := step) (start := fun J => start J (ls.headD .hole).toSl) step_eq (fun I => start_eq I ls) n
noncomputable def md (a0 : List MChoice) : Bool := (eachI (S := Unit) (β := Bool) (fun (i1 : Nat) (y1 : MChoice) (s3 : Unit) => (bif (!(spec_IsPath.md (y1.fPath))) then (.inr (false : Bool)) else (bif (!(spec_IsEntry.md (y1.fEntry))) then (.inr (false : Bool)) else (bif ((spec_l30Find.md a0 (y1.fPath)) != (i1 : Int)) then (.inr (false : Bool)) else (.inl ()))))) (fun (s3 : Unit) => ((decide ((a0.length : Int) ≤ 8)) : Bool)) 0 a0 ())
def gd (a0 : List MChoice) : Prop := (SmL (2 ^ 21) (fun y : MChoice => MChoice.Sm (2 ^ 21) y) a0)
def acc (ls : List L) : List (List L) := (ls.headD .hole).toSl
noncomputable def R : (List (List L)) → Option Bool := RR gd md
theorem R_eq {a0} (h : gd a0) : R (a0.map MChoice.row) = some (md a0) := RR_eq (a := a0) h
noncomputable def con : Con := CN pats res acc R
theorem okF (a0 : List MChoice) (hg : gd a0) : ∃ n, start (iter step n) (a0.map MChoice.row) = ret ((md a0) : Bool) := by
  unfold gd at hg
  have H0 := hg
  unfold start md
  try simp only [S0, MEntry.rs, MChoice.rs]
  have Bh2 : a0.length ≤ maxLen := (by
      have := (H0).1
      try simp only [maxLen] at *
      omega)
  refine ex_eq (out := ret) (loopM_eachI (z := MChoice.zero)) ?_
  refine ex_pt (p := Pt.p0 (a0.map MChoice.row) 0) (by first | rfl | (simp only [S0, MEntry.rs, MChoice.rs, MP]; done) | (simp only [MP]; rfl)) ?_
  refine loopM_ok (pt := fun (i1 : Nat) (s3 : Unit) => Pt.p0 (a0.map MChoice.row) (i1 : Int)) (s := (() : Unit)) (out := ret) (fun _ _ => True) (fun J i1 s3 h2 hih2 => ?_) (fun s3 hih2 => ?_) trivial
  · simp only [step, S0, MEntry.rs, MChoice.rs]
    have bb_ := Bh2
    simp only [maxLen] at bb_
    have := (H0).1
    refine Rnd.yes (by apply decide_eq_true; omega) ?_
    refine Rnd.yes zle_dec ?_
    refine Rnd.yes (lt_dec h2) ?_
    refine Rnd.call_to (spec_IsPath.md ((a0.getD i1 MChoice.zero).fPath)) (spec_IsPath.R_eq (a0 := (a0.getD i1 MChoice.zero).fPath) (SmL.getD (z := MChoice.zero) H0 h2).1) ?_
    refine Rnd.bif (fun _ => Rnd.inr rfl) (fun c4 => ?_)
    refine Rnd.yes zle_dec ?_
    refine Rnd.yes (lt_dec h2) ?_
    refine Rnd.call_to (spec_IsEntry.md ((a0.getD i1 MChoice.zero).fEntry)) (spec_IsEntry.R_eq (a0 := (a0.getD i1 MChoice.zero).fEntry) (SmL.getD (z := MChoice.zero) H0 h2).2) ?_
    refine Rnd.bif (fun _ => Rnd.inr rfl) (fun c5 => ?_)
    refine Rnd.yes zle_dec ?_
    refine Rnd.yes (lt_dec h2) ?_
    refine Rnd.call_to (spec_l30Find.md a0 ((a0.getD i1 MChoice.zero).fPath)) (spec_l30Find.R_eq (a0 := a0) (a1 := (a0.getD i1 MChoice.zero).fPath) ⟨H0, (SmL.getD (z := MChoice.zero) H0 h2).1⟩) ?_
    have fv3_ := spec_l30Find.fa a0 ((a0.getD i1 MChoice.zero).fPath)
    refine Rnd.bif (fun _ => Rnd.inr rfl) (fun c6 => ?_)
    refine Rnd.inl trivial ?_
    rw [wrap_succ h2 Bh2]
    all_goals first | rfl | (simp only [S0, MEntry.rs, MChoice.rs, MP]; first | done | rfl)
  · simp only [step, S0, MEntry.rs, MChoice.rs]
    have := (H0).1
    refine ex_no (by apply decide_eq_false; omega) ?_
    refine ⟨0, ?_⟩
    all_goals first | rfl | (simp only [S0, MEntry.rs, MChoice.rs, MP]; first | done | rfl)
theorem valid_ : Valid Try.prog Ev 81 con := VV (run := fun n x => start (iter step n) x) mix tab_ok (.cons spec_IsPath.valid_ (.cons spec_IsEntry.valid_ (.cons spec_l30Find.valid_ .nil))) Try.func81 (by kernel_rfl) run_eq (fun _ a _ _ hg => okF a hg)
end spec_AreChoices
/-! spec.PutChoice -/
namespace spec_PutChoice
noncomputable def F (x0 : List (List L)) (x1 : List (List L)) (x2 : REntry) : Ans := (call (spec_l30Copy.R x0) fun v1 => (call (spec_l5Copy.R x1) fun v2 => (call (spec_l8Copy.R x2) fun v3 => (call (spec_l30Find.R (x0, x1)) fun v4 => (bif (decide (v4 ≥ 0)) then (bif (decide ((0 : Int) ≤ v4)) then (bif (decide (v4 < (v1.length : Int))) then (call (spec_AreChoices.R x0) fun v5 => (bif (!v5) then (call (spec_l30Copy.R x0) fun v6 => ret ((v6, false) : List (List L) × Bool)) else (call (spec_AreChoices.R (List.set v1 (Int.toNat v4) (RChoice.enc (⟨v2, v3⟩ : RChoice)))) fun v7 => (bif (!v7) then (call (spec_l30Copy.R x0) fun v8 => ret ((v8, false) : List (List L) × Bool)) else ret (((List.set v1 (Int.toNat v4) (RChoice.enc (⟨v2, v3⟩ : RChoice))), true) : List (List L) × Bool))))) else none) else none) else (bif (lim (((v1.length : Int) + 1) * 80)) then (call (spec_AreChoices.R x0) fun v9 => (bif (!v9) then (call (spec_l30Copy.R x0) fun v10 => ret ((v10, false) : List (List L) × Bool)) else (call (spec_AreChoices.R (v1 ++ [(RChoice.enc (⟨v2, v3⟩ : RChoice))])) fun v11 => (bif (!v11) then (call (spec_l30Copy.R x0) fun v12 => ret ((v12, false) : List (List L) × Bool)) else ret (((v1 ++ [(RChoice.enc (⟨v2, v3⟩ : RChoice))]), true) : List (List L) × Bool))))) else none))))))
def pats : List Pat := [.rd (.sl 106), .rd (.sl 9), .agg [.str, .int .i64, .int .i64, .sl 9]]
def res : RP := .tup [(false, [.fr 106]), (false, [.rd (.bool)])]
noncomputable abbrev E : Env := { T := assoc Tab, G := conG [(77, spec_l30Copy.con), (78, spec_l5Copy.con), (79, spec_l8Copy.con), (80, spec_l30Find.con), (81, spec_AreChoices.con)], nt := 42 }
set_option maxRecDepth 100000
theorem run_eq (n : Nat) (ls : List L) : runF E (fun _ => []) Try.f25 res n (initS pats ls) = F (ls.headD .hole).toSl ((dropT 1 ls).headD .hole).toSl (REntry.dec (dropT 2 ls)) := by kernel_rfl
noncomputable def md (a0 : List MChoice) (a1 : List ByteArray) (a2 : MEntry) : List MChoice × Bool := (bif (decide ((spec_l30Find.md a0 a1) ≥ 0)) then (bif (!(spec_AreChoices.md a0)) then (a0, false) else (bif (!(spec_AreChoices.md (List.set a0 (Int.toNat (spec_l30Find.md a0 a1)) (⟨a1, a2⟩ : MChoice)))) then (a0, false) else ((List.set a0 (Int.toNat (spec_l30Find.md a0 a1)) (⟨a1, a2⟩ : MChoice)), true))) else (bif (!(spec_AreChoices.md a0)) then (a0, false) else (bif (!(spec_AreChoices.md (a0 ++ [(⟨a1, a2⟩ : MChoice)]))) then (a0, false) else ((a0 ++ [(⟨a1, a2⟩ : MChoice)]), true))))
def gd (a0 : List MChoice) (a1 : List ByteArray) (a2 : MEntry) : Prop := (SmL (2 ^ 20) (fun y : MChoice => MChoice.Sm (2 ^ 20) y) a0) ∧ (SmL (2 ^ 21) (fun y : ByteArray => y.size ≤ (2 ^ 21)) a1) ∧ (MEntry.Sm (2 ^ 21) a2)
def acc (ls : List L) : List (List L) × List (List L) × REntry := ((ls.headD .hole).toSl, ((dropT 1 ls).headD .hole).toSl, (REntry.dec (dropT 2 ls)))
noncomputable def R : (List (List L) × List (List L) × REntry) → Option (List (List L) × Bool) := RR (p3 gd) (u3 md)
theorem R_eq {a0} {a1} {a2} (h : gd a0 a1 a2) : R ((a0.map MChoice.row), (a1.map sRow), (MEntry.r a2)) = some (((md a0 a1 a2).1.map MChoice.row), (md a0 a1 a2).2) := RR_eq (a := (a0, a1, a2)) h
noncomputable def con : Con := CN pats res acc R
theorem okF (a0 : List MChoice) (a1 : List ByteArray) (a2 : MEntry) (hg : gd a0 a1 a2) : F (a0.map MChoice.row) (a1.map sRow) (MEntry.r a2) = ret ((((md a0 a1 a2).1.map MChoice.row), (md a0 a1 a2).2) : List (List L) × Bool) := by
  unfold gd at hg
  obtain ⟨H0, H1, H2⟩ := hg
  unfold F md
  try simp only [S0]
  refine call_to (a0.map MChoice.row) ?_ ?_
  · have R_ := spec_l30Copy.R_eq (a0 := a0) (H0.mono (by decide) (fun x hx => (MChoice.Sm_mono (by decide) hx)))
    simp only [spec_l30Copy.md] at R_
    first | exact R_ | (simp only [MP, S0] at R_ ⊢; first | exact R_ | (rw [← R_]; rfl))
  try simp only [S0]
  refine call_to (a1.map sRow) ?_ ?_
  · have R_ := spec_l5Copy.R_eq (a0 := a1) H1
    simp only [spec_l5Copy.md] at R_
    first | exact R_ | (simp only [MP, S0] at R_ ⊢; first | exact R_ | (rw [← R_]; rfl))
  try simp only [S0]
  refine call_to (MEntry.r a2) ?_ ?_
  · have R_ := spec_l8Copy.R_eq (a0 := a2) H2
    simp only [spec_l8Copy.md] at R_
    first | exact R_ | (simp only [MP, S0] at R_ ⊢; first | exact R_ | (rw [← R_]; rfl))
  try simp only [S0]
  refine call_to (spec_l30Find.md a0 a1) (spec_l30Find.R_eq (a0 := a0) (a1 := a1) ⟨(H0.mono (by decide) (fun x hx => (MChoice.Sm_mono (by decide) hx))), H1⟩) ?_
  have fv4_ := spec_l30Find.fa a0 a1
  refine bif_out (fun b : List MChoice × Bool => ret (((b.1.map MChoice.row), b.2) : List (List L) × Bool)) (fun c1 => ?_) (fun c1 => ?_)
  · have dc1 := c1
    try simp only [DC] at dc1
    refine yes_ret (by
        refine decide_eq_true ?_
        try simp (disch := omega) only [LN, wi]
        first | omega | (simp; done) | (simp; omega)) ?_
    refine yes_ret (by
        have := (H0).1
        refine decide_eq_true ?_
        try simp (disch := omega) only [LN, wi]
        first | omega | (simp; done) | (simp; omega)) ?_
    refine call_to (spec_AreChoices.md a0) (spec_AreChoices.R_eq (a0 := a0) (H0.mono (by decide) (fun x hx => (MChoice.Sm_mono (by decide) hx)))) ?_
    refine bif_out (fun b : List MChoice × Bool => ret (((b.1.map MChoice.row), b.2) : List (List L) × Bool)) (fun c2 => ?_) (fun c2 => ?_)
    · refine call_to (a0.map MChoice.row) ?_ ?_
      · have R_ := spec_l30Copy.R_eq (a0 := a0) (H0.mono (by decide) (fun x hx => (MChoice.Sm_mono (by decide) hx)))
        simp only [spec_l30Copy.md] at R_
        first | exact R_ | (simp only [MP, S0] at R_ ⊢; first | exact R_ | (rw [← R_]; rfl))
      try simp only [S0]
      all_goals first | rfl | (simp only [S0]; done) | (simp only [MP]; rfl) | (simp only [S0, MP]; first | done | rfl)
    · refine call_to (spec_AreChoices.md (List.set a0 (Int.toNat (spec_l30Find.md a0 a1)) (⟨a1, a2⟩ : MChoice))) ?_ ?_
      · have R_ := spec_AreChoices.R_eq (a0 := (List.set a0 (Int.toNat (spec_l30Find.md a0 a1)) (⟨a1, a2⟩ : MChoice))) (SmL.set (H0.mono (by decide) (fun x hx => (MChoice.Sm_mono (by decide) hx))) ⟨H1, H2⟩)
        first | exact R_ | (simp only [MP, S0] at R_ ⊢; first | exact R_ | (rw [← R_]; rfl))
      refine bif_out (fun b : List MChoice × Bool => ret (((b.1.map MChoice.row), b.2) : List (List L) × Bool)) (fun c3 => ?_) (fun c3 => ?_)
      · refine call_to (a0.map MChoice.row) ?_ ?_
        · have R_ := spec_l30Copy.R_eq (a0 := a0) (H0.mono (by decide) (fun x hx => (MChoice.Sm_mono (by decide) hx)))
          simp only [spec_l30Copy.md] at R_
          first | exact R_ | (simp only [MP, S0] at R_ ⊢; first | exact R_ | (rw [← R_]; rfl))
        try simp only [S0]
        all_goals first | rfl | (simp only [S0]; done) | (simp only [MP]; rfl) | (simp only [S0, MP]; first | done | rfl)
      · all_goals first | rfl | (simp only [S0]; done) | (simp only [MP]; rfl) | (simp only [S0, MP]; first | done | rfl)
  · have dc1 := c1
    try simp only [DC] at dc1
    refine yes_ret (by
        have := (H0).1
        refine lim_t ?_
        try simp (disch := omega) only [LN, wi]
        first | omega | (simp; done) | (simp; omega)) ?_
    refine call_to (spec_AreChoices.md a0) (spec_AreChoices.R_eq (a0 := a0) (H0.mono (by decide) (fun x hx => (MChoice.Sm_mono (by decide) hx)))) ?_
    refine bif_out (fun b : List MChoice × Bool => ret (((b.1.map MChoice.row), b.2) : List (List L) × Bool)) (fun c4 => ?_) (fun c4 => ?_)
    · refine call_to (a0.map MChoice.row) ?_ ?_
      · have R_ := spec_l30Copy.R_eq (a0 := a0) (H0.mono (by decide) (fun x hx => (MChoice.Sm_mono (by decide) hx)))
        simp only [spec_l30Copy.md] at R_
        first | exact R_ | (simp only [MP, S0] at R_ ⊢; first | exact R_ | (rw [← R_]; rfl))
      try simp only [S0]
      all_goals first | rfl | (simp only [S0]; done) | (simp only [MP]; rfl) | (simp only [S0, MP]; first | done | rfl)
    · refine call_to (spec_AreChoices.md (a0 ++ [(⟨a1, a2⟩ : MChoice)])) ?_ ?_
      · have R_ := spec_AreChoices.R_eq (a0 := (a0 ++ [(⟨a1, a2⟩ : MChoice)])) (SmL.app (a := (2 ^ 20)) (b := 1) (H0.mono (by decide) (fun x hx => (MChoice.Sm_mono (by decide) hx))) (SmL.one ⟨H1, H2⟩) (by decide))
        first | exact R_ | (simp only [MP, S0] at R_ ⊢; first | exact R_ | (rw [← R_]; rfl))
      refine bif_out (fun b : List MChoice × Bool => ret (((b.1.map MChoice.row), b.2) : List (List L) × Bool)) (fun c5 => ?_) (fun c5 => ?_)
      · refine call_to (a0.map MChoice.row) ?_ ?_
        · have R_ := spec_l30Copy.R_eq (a0 := a0) (H0.mono (by decide) (fun x hx => (MChoice.Sm_mono (by decide) hx)))
          simp only [spec_l30Copy.md] at R_
          first | exact R_ | (simp only [MP, S0] at R_ ⊢; first | exact R_ | (rw [← R_]; rfl))
        try simp only [S0]
        all_goals first | rfl | (simp only [S0]; done) | (simp only [MP]; rfl) | (simp only [S0, MP]; first | done | rfl)
      · all_goals first | rfl | (simp only [S0]; done) | (simp only [MP]; rfl) | (simp only [S0, MP]; first | done | rfl)
theorem valid_ : Valid Try.prog Ev 25 con := VV (run := fun _ x => F x.1 x.2.1 x.2.2) mix tab_ok (.cons spec_l30Copy.valid_ (.cons spec_l5Copy.valid_ (.cons spec_l8Copy.valid_ (.cons spec_l30Find.valid_ (.cons spec_AreChoices.valid_ .nil))))) Try.func25 (by kernel_rfl) run_eq (fun _ a _ _ hg => ⟨0, okF a.1 a.2.1 a.2.2 hg⟩)
end spec_PutChoice
/-! slices.Clone[[]string,string] -/
namespace slices_Clone_Sstring_string
noncomputable def F (x0 : List (List L)) : Ans := (bif x0.isEmpty then (either (ret ([] : List (List L))) ((bif (lim ((x0.length : Int) * 16)) then ret (x0 : List (List L)) else none))) else (bif (lim ((x0.length : Int) * 16)) then ret (x0 : List (List L)) else none))
def pats : List Pat := [.rd (.sl 9)]
def res : RP := .one (.fr 9)
noncomputable abbrev E : Env := { T := assoc Tab, G := conG [], nt := 8 }
set_option maxRecDepth 100000
theorem run_eq (n : Nat) (ls : List L) : runF E (fun _ => []) Try.f84 res n (initS pats ls) = F (ls.headD .hole).toSl := by kernel_rfl
noncomputable def md (a0 : List ByteArray) : List ByteArray := a0
def gd (a0 : List ByteArray) : Prop := SmL (2 ^ 21) (fun y : ByteArray => y.size ≤ (2 ^ 21)) a0
def acc (ls : List L) : List (List L) := (ls.headD .hole).toSl
noncomputable def R : (List (List L)) → Option (List (List L)) := RR gd md
theorem R_eq {a0} (h : gd a0) : R (a0.map sRow) = some ((md a0).map sRow) := RR_eq (a := a0) h
noncomputable def con : Con := CN pats res acc R
theorem okF (a0 : List ByteArray) (hg : gd a0) : F (a0.map sRow) = ret (((md a0).map sRow) : List (List L)) := by
  have H0 := hg.1
  unfold F md
  have hl : lim (((a0.map sRow).length : Int) * 16) = true := lim_t (by simp only [List.length_map]; omega)
  simp only [hl, cond_true]
  cases a0 with
  | nil => exact either_same
  | cons x xs => rfl
theorem valid_ : Valid Try.prog Ev 84 con := VV (run := fun _ x => F x) mix tab_ok .nil Try.func84 (by kernel_rfl) run_eq (fun _ a _ _ hg => ⟨0, okF a hg⟩)
end slices_Clone_Sstring_string
/-! impl.copyEntry -/
namespace impl_copyEntry
noncomputable def F (x0 : REntry) : Ans := (call (slices_Clone_Sstring_string.R x0.fPath) fun v1 => ret ((⟨x0.fLabel, x0.fKind, x0.fValue, v1⟩ : REntry) : REntry))
def pats : List Pat := [.agg [.str, .int .i64, .int .i64, .sl 9]]
def res : RP := .agg [.rd (.str), .rd (.int .i64), .rd (.int .i64), .fr 9]
noncomputable abbrev E : Env := { T := assoc Tab, G := conG [(84, slices_Clone_Sstring_string.con)], nt := 8 }
set_option maxRecDepth 100000
theorem run_eq (n : Nat) (ls : List L) : runF E (fun _ => []) Try.f85 res n (initS pats ls) = F (REntry.dec ls) := by kernel_rfl
noncomputable def md (a0 : MEntry) : MEntry := a0
def gd (a0 : MEntry) : Prop := (MEntry.Sm (2 ^ 21) a0)
def acc (ls : List L) : REntry := (REntry.dec ls)
noncomputable def R : REntry → Option REntry := RR gd md
theorem R_eq {a0} (h : gd a0) : R (MEntry.r a0) = some (MEntry.r (md a0)) := RR_eq (a := a0) h
noncomputable def con : Con := CN pats res acc R
theorem okF (a0 : MEntry) (hg : gd a0) : F (MEntry.r a0) = ret ((MEntry.r (md a0)) : REntry) := by
  unfold gd at hg
  have H0 := hg
  unfold F md
  try simp only [S0, MEntry.rs]
  refine call_to (a0.fPath.map sRow) ?_ ?_
  · have R_ := slices_Clone_Sstring_string.R_eq (a0 := a0.fPath) H0.2
    simp only [slices_Clone_Sstring_string.md] at R_
    first | exact R_ | (simp only [MP, S0, MEntry.rs] at R_ ⊢; first | exact R_ | (rw [← R_]; rfl))
  try simp only [S0, MEntry.rs]
  all_goals first | rfl | (simp only [S0, MEntry.rs]; done) | (simp only [MP]; rfl) | (simp only [S0, MEntry.rs, MP]; first | done | rfl)
theorem valid_ : Valid Try.prog Ev 85 con := VV (run := fun _ x => F x) mix tab_ok (.cons slices_Clone_Sstring_string.valid_ .nil) Try.func85 (by kernel_rfl) run_eq (fun _ a _ _ hg => ⟨0, okF a hg⟩)
end impl_copyEntry
/-! impl.copyChoices -/
namespace impl_copyChoices
inductive Pt where
  | p0 (a : List (List L)) (b : Int) (c : Int) (d : List (List L))
def pid : Pt → Nat
  | .p0 .. => 3
def pvs : Pt → List V
  | .p0 a b c d => [.own 0, .sl none 106 a, .int .i64 b, .int .i64 c]
def phs : Pt → List Root
  | .p0 a b c d => [.row 106 d]
noncomputable def step (J : Pt → Ans) : Pt → Ans
  | .p0 a b c d => (bif (decide (c < b)) then (bif (decide ((0 : Int) ≤ c)) then (bif (decide (c < (a.length : Int))) then (call (slices_Clone_Sstring_string.R ((RChoice.at a (Int.toNat c)).fPath)) fun v1 => (call (impl_copyEntry.R ((RChoice.at a (Int.toNat c)).fEntry)) fun v2 => (bif (lim (((d.length : Int) + 1) * 80)) then J (.p0 a b (IntKind.i64.wrap (c + 1)) (d ++ [(RChoice.enc (⟨v1, v2⟩ : RChoice))])) else none))) else none) else none) else ret (d : List (List L)))
noncomputable def start (J : Pt → Ans) (x0 : List (List L)) : Ans := J (.p0 x0 (x0.length : Int) 0 [])
def live : Nat → Live := fun i => match i with | 3 => [(3, some 106), (7, none), (8, none), (9, none)] | _ => []
def pats : List Pat := [.rd (.sl 106)]
def res : RP := .one (.fr 106)
noncomputable abbrev E : Env := { T := assoc Tab, G := conG [(84, slices_Clone_Sstring_string.con), (85, impl_copyEntry.con)], nt := 25 }
set_option maxRecDepth 100000
theorem step_eq (I : Heads) (p : Pt) : enterC E live I (pid p) (bodyOf Try.f83) (stOf (live (pid p)) (pvs p) (phs p)) (doneK E Try.f83 res) = step (fun q => I (pid q) (pvs q) (phs q)) p := by
  cases p <;> kernel_rfl
theorem start_eq (I : Heads) (ls : List L) : runC E live I (bodyOf Try.f83) (initS pats ls) (doneK E Try.f83 res) = start (fun q => I (pid q) (pvs q) (phs q)) (ls.headD .hole).toSl := by kernel_rfl
theorem run_eq (n : Nat) (ls : List L) : runF E live Try.f83 res n (initS pats ls) = start (iter step n) (ls.headD .hole).toSl := runF_iter (id := pid) (vs := pvs) (hs := phs) (step := step) (start := fun J => start J (ls.headD .hole).toSl) step_eq (fun I => start_eq I ls) n
noncomputable def md (a0 : List MChoice) : List MChoice := a0
def gd (a0 : List MChoice) : Prop := (SmL (2 ^ 21) (fun y : MChoice => MChoice.Sm (2 ^ 21) y) a0)
def acc (ls : List L) : List (List L) := (ls.headD .hole).toSl
noncomputable def R : (List (List L)) → Option (List (List L)) := RR gd md
theorem R_eq {a0} (h : gd a0) : R (a0.map MChoice.row) = some ((md a0).map MChoice.row) := RR_eq (a := a0) h
noncomputable def con : Con := CN pats res acc R
theorem okF (a0 : List MChoice) (hg : gd a0) : ∃ n, start (iter step n) (a0.map MChoice.row) = ret (((md a0).map MChoice.row) : List (List L)) := by
  unfold gd at hg
  have H0 := hg
  unfold start md
  try simp only [S0, MEntry.rs, MChoice.rs]
  have Bh2 : a0.length ≤ maxLen := (by
      have := (H0).1
      try simp only [maxLen] at *
      omega)
  refine ex_eq (out := (fun b : List MChoice => ret ((b.map MChoice.row) : List (List L)))) (loopM_copy (xs := a0) (z := MChoice.zero) (t := fun s3 : List MChoice => s3)) ?_
  refine ex_pt (p := Pt.p0 (a0.map MChoice.row) (a0.length : Int) 0 ([].map MChoice.row)) (by first | rfl | (simp only [S0, MEntry.rs, MChoice.rs, MP]; done) | (simp only [MP]; rfl)) ?_
  refine loopM_ok (pt := fun (i1 : Nat) (s3 : List MChoice) => Pt.p0 (a0.map MChoice.row) (a0.length : Int) (i1 : Int) (s3.map MChoice.row)) (s := ([] : List MChoice)) (out := (fun b : List MChoice => ret ((b.map MChoice.row) : List (List L)))) (fun (i1 : Nat) (s3 : List MChoice) => s3.length ≤ ([] : List Int).length + 1 * i1) (fun J i1 s3 h2 hih2 => ?_) (fun s3 hih2 => ?_) (by simp)
  · simp only [step, S0, MEntry.rs, MChoice.rs]
    have gr_ := hih2
    try simp only [LN] at gr_
    have bb_ := Bh2
    simp only [maxLen] at bb_
    have := (H0).1
    refine Rnd.yes (by apply decide_eq_true; omega) ?_
    refine Rnd.yes zle_dec ?_
    refine Rnd.yes (lt_dec h2) ?_
    refine Rnd.call_to (((a0.getD i1 MChoice.zero).fPath).map sRow) ?_ ?_
    · have R_ := slices_Clone_Sstring_string.R_eq (a0 := (a0.getD i1 MChoice.zero).fPath) (SmL.getD (z := MChoice.zero) H0 h2).1
      simp only [slices_Clone_Sstring_string.md] at R_
      first | exact R_ | (simp only [MP, S0, MEntry.rs, MChoice.rs] at R_ ⊢; first | exact R_ | (rw [← R_]; rfl))
    try simp only [S0, MEntry.rs, MChoice.rs]
    refine Rnd.call_to (MEntry.r ((a0.getD i1 MChoice.zero).fEntry)) ?_ ?_
    · have R_ := impl_copyEntry.R_eq (a0 := (a0.getD i1 MChoice.zero).fEntry) (SmL.getD (z := MChoice.zero) H0 h2).2
      simp only [impl_copyEntry.md] at R_
      first | exact R_ | (simp only [MP, S0, MEntry.rs, MChoice.rs] at R_ ⊢; first | exact R_ | (rw [← R_]; rfl))
    try simp only [S0, MEntry.rs, MChoice.rs]
    refine Rnd.yes (by
        refine lim_t ?_
        try simp (disch := omega) only [LN, wi]
        first | omega | (simp; done) | (simp; omega)) ?_
    refine Rnd.inl (by
        have g_ := hih2
        try simp only [LN] at g_ ⊢
        first | omega | (simp; done) | (simp; omega)) ?_
    rw [wrap_succ h2 Bh2]
    all_goals first | rfl | (simp only [S0, MEntry.rs, MChoice.rs]; done) | (simp only [MP]; rfl) | (simp only [S0, MEntry.rs, MChoice.rs, MP]; first | done | rfl)
  · simp only [step, S0, MEntry.rs, MChoice.rs]
    have gr_ := hih2
    try simp only [LN] at gr_
    have := (H0).1
    refine ex_no (by apply decide_eq_false; omega) ?_
    refine ⟨0, ?_⟩
    all_goals first | rfl | (simp only [S0, MEntry.rs, MChoice.rs]; done) | (simp only [MP]; rfl) | (simp only [S0, MEntry.rs, MChoice.rs, MP]; first | done | rfl)
theorem valid_ : Valid Try.prog Ev 83 con := VV (run := fun n x => start (iter step n) x) mix tab_ok (.cons slices_Clone_Sstring_string.valid_ (.cons impl_copyEntry.valid_ .nil)) Try.func83 (by kernel_rfl) run_eq (fun _ a _ _ hg => okF a hg)
end impl_copyChoices
/-! slices.Equal[[]string,string] -/
namespace slices_Equal_Sstring_string
inductive Pt where
  | p0 (a : List (List L)) (b : List (List L)) (c : Int) (d : Int)
def pid : Pt → Nat
  | .p0 .. => 4
def pvs : Pt → List V
  | .p0 a b c d => [.sl none 9 a, .sl none 9 b, .int .i64 c, .int .i64 d]
def phs : Pt → List Root
  | .p0 a b c d => []
noncomputable def step (J : Pt → Ans) : Pt → Ans
  | .p0 a b c d => (bif (decide (d < c)) then (bif (decide ((0 : Int) ≤ d)) then (bif (decide (d < (a.length : Int))) then (bif (decide ((0 : Int) ≤ d)) then (bif (decide (d < (b.length : Int))) then (bif (!((sAt a (Int.toNat d)) == (sAt b (Int.toNat d)))) then ret (false : Bool) else J (.p0 a b c (IntKind.i64.wrap (d + 1)))) else none) else none) else none) else none) else ret (true : Bool))
noncomputable def start (J : Pt → Ans) (x0 : List (List L)) (x1 : List (List L)) : Ans := (bif ((x0.length : Int) != (x1.length : Int)) then ret (false : Bool) else J (.p0 x0 x1 (x0.length : Int) 0))
def live : Nat → Live := fun i => match i with | 4 => [(0, none), (1, none), (12, none), (13, none)] | _ => []
def pats : List Pat := [.rd (.sl 9), .rd (.sl 9)]
def res : RP := .one (.rd (.bool))
noncomputable abbrev E : Env := { T := assoc Tab, G := conG [], nt := 26 }
set_option maxRecDepth 100000
theorem step_eq (I : Heads) (p : Pt) : enterC E live I (pid p) (bodyOf Try.f131) (stOf (live (pid p)) (pvs p) (phs p)) (doneK E Try.f131 res) = step (fun q => I (pid q) (pvs q) (phs q)) p := by
  cases p <;> kernel_rfl
theorem start_eq (I : Heads) (ls : List L) : runC E live I (bodyOf Try.f131) (initS pats ls) (doneK E Try.f131 res) = start (fun q => I (pid q) (pvs q) (phs q)) (ls.headD .hole).toSl ((dropT 1 ls).headD .hole).toSl := by kernel_rfl
theorem run_eq (n : Nat) (ls : List L) : runF E live Try.f131 res n (initS pats ls) = start (iter step n) (ls.headD .hole).toSl ((dropT 1 ls).headD .hole).toSl := runF_iter (id := pid) (vs := pvs) (hs := phs) (step := step) (start := fun J => start J (ls.headD .hole).toSl ((dropT 1 ls).headD .hole).toSl) step_eq (fun I => start_eq I ls) n
noncomputable def md (a0 : List ByteArray) (a1 : List ByteArray) : Bool := (bif ((a0.length : Int) != (a1.length : Int)) then (false : Bool) else (loopM (S := Unit) (β := Bool) (fun (i2 : Nat) (s4 : Unit) => (bif (!((a0.getD i2 ⟨#[]⟩) == (a1.getD i2 ⟨#[]⟩))) then (.inr (false : Bool)) else (.inl ()))) (fun (s4 : Unit) => (true : Bool)) a0.length 0 ()))
def gd (a0 : List ByteArray) (a1 : List ByteArray) : Prop := (SmL (2 ^ 21) (fun y : ByteArray => y.size ≤ (2 ^ 21)) a0) ∧ (SmL (2 ^ 21) (fun y : ByteArray => y.size ≤ (2 ^ 21)) a1)
def acc (ls : List L) : List (List L) × List (List L) := ((ls.headD .hole).toSl, ((dropT 1 ls).headD .hole).toSl)
noncomputable def R : (List (List L) × List (List L)) → Option Bool := RR (p2 gd) (u2 md)
theorem R_eq {a0} {a1} (h : gd a0 a1) : R ((a0.map sRow), (a1.map sRow)) = some (md a0 a1) := RR_eq (a := (a0, a1)) h
noncomputable def con : Con := CN pats res acc R
theorem okF (a0 : List ByteArray) (a1 : List ByteArray) (hg : gd a0 a1) : ∃ n, start (iter step n) (a0.map sRow) (a1.map sRow) = ret ((md a0 a1) : Bool) := by
  unfold gd at hg
  obtain ⟨H0, H1⟩ := hg
  unfold start md
  try simp only [S0]
  refine ex_bif ret (fun _ => ⟨0, rfl⟩) (fun c1 => ?_)
  have dc1 := c1
  try simp only [DC] at dc1
  have Bh3 : a0.length ≤ maxLen := (by
      have := (H0).1
      try simp only [maxLen] at *
      omega)
  refine ex_pt (p := Pt.p0 (a0.map sRow) (a1.map sRow) (a0.length : Int) 0) (by first | rfl | (simp only [S0, MP]; done) | (simp only [MP]; rfl)) ?_
  refine loopM_ok (pt := fun (i2 : Nat) (s4 : Unit) => Pt.p0 (a0.map sRow) (a1.map sRow) (a0.length : Int) (i2 : Int)) (s := (() : Unit)) (out := ret) (fun _ _ => True) (fun J i2 s4 h3 hih3 => ?_) (fun s4 hih3 => ?_) trivial
  · simp only [step, S0]
    have bb_ := Bh3
    simp only [maxLen] at bb_
    have := (H0).1
    refine Rnd.yes (by apply decide_eq_true; omega) ?_
    refine Rnd.yes zle_dec ?_
    refine Rnd.yes (lt_dec h3) ?_
    refine Rnd.yes zle_dec ?_
    refine Rnd.yes (by
        have := (H1).1
        refine decide_eq_true ?_
        try simp (disch := omega) only [LN, wi]
        first | omega | (simp; done) | (simp; omega)) ?_
    refine Rnd.bif (fun _ => Rnd.inr rfl) (fun c5 => ?_)
    refine Rnd.inl trivial ?_
    rw [wrap_succ h3 Bh3]
    all_goals first | rfl | (simp only [S0, MP]; first | done | rfl)
  · simp only [step, S0]
    have := (H0).1
    refine ex_no (by apply decide_eq_false; omega) ?_
    refine ⟨0, ?_⟩
    all_goals first | rfl | (simp only [S0, MP]; first | done | rfl)
theorem valid_ : Valid Try.prog Ev 131 con := VV (run := fun n x => start (iter step n) x.1 x.2) mix tab_ok .nil Try.func131 (by kernel_rfl) run_eq (fun _ a _ _ hg => okF a.1 a.2 hg)
theorem md_eq (a0 : List ByteArray) (a1 : List ByteArray) : md a0 a1 = eqB a0 a1 := by
  unfold md
  refine loop_eqB (⟨#[]⟩) (fun i s h h2 => ?_) (fun s => rfl)
  simp only [bne, int_beq, bool_beq, ba_beq]
  cases eqB _ _ <;> rfl
end slices_Equal_Sstring_string
/-! impl.SamePath -/
namespace impl_SamePath
noncomputable def F (x0 : List (List L)) (x1 : List (List L)) : Ans := (call (slices_Equal_Sstring_string.R (x0, x1)) fun v1 => ret (v1 : Bool))
def pats : List Pat := [.rd (.sl 9), .rd (.sl 9)]
def res : RP := .one (.rd (.bool))
noncomputable abbrev E : Env := { T := assoc Tab, G := conG [(131, slices_Equal_Sstring_string.con)], nt := 8 }
set_option maxRecDepth 100000
theorem run_eq (n : Nat) (ls : List L) : runF E (fun _ => []) Try.f119 res n (initS pats ls) = F (ls.headD .hole).toSl ((dropT 1 ls).headD .hole).toSl := by kernel_rfl
noncomputable def md (a0 : List ByteArray) (a1 : List ByteArray) : Bool := ((slices_Equal_Sstring_string.md a0 a1) : Bool)
def gd (a0 : List ByteArray) (a1 : List ByteArray) : Prop := (SmL (2 ^ 21) (fun y : ByteArray => y.size ≤ (2 ^ 21)) a0) ∧ (SmL (2 ^ 21) (fun y : ByteArray => y.size ≤ (2 ^ 21)) a1)
def acc (ls : List L) : List (List L) × List (List L) := ((ls.headD .hole).toSl, ((dropT 1 ls).headD .hole).toSl)
noncomputable def R : (List (List L) × List (List L)) → Option Bool := RR (p2 gd) (u2 md)
theorem R_eq {a0} {a1} (h : gd a0 a1) : R ((a0.map sRow), (a1.map sRow)) = some (md a0 a1) := RR_eq (a := (a0, a1)) h
noncomputable def con : Con := CN pats res acc R
theorem okF (a0 : List ByteArray) (a1 : List ByteArray) (hg : gd a0 a1) : F (a0.map sRow) (a1.map sRow) = ret ((md a0 a1) : Bool) := by
  unfold gd at hg
  obtain ⟨H0, H1⟩ := hg
  unfold F md
  try simp only [S0]
  refine call_to (slices_Equal_Sstring_string.md a0 a1) (slices_Equal_Sstring_string.R_eq (a0 := a0) (a1 := a1) ⟨H0, H1⟩) ?_
  all_goals first | rfl | (simp only [S0, MP]; first | done | rfl)
theorem valid_ : Valid Try.prog Ev 119 con := VV (run := fun _ x => F x.1 x.2) mix tab_ok (.cons slices_Equal_Sstring_string.valid_ .nil) Try.func119 (by kernel_rfl) run_eq (fun _ a _ _ hg => ⟨0, okF a.1 a.2 hg⟩)
theorem md_eq (a0 : List ByteArray) (a1 : List ByteArray) : md a0 a1 = eqB a0 a1 := by
  unfold md
  rw [slices_Equal_Sstring_string.md_eq]
end impl_SamePath
/-! impl.choiceAt$1 -/
namespace impl_choiceAt_1
noncomputable def F (x0 : RChoice) (x1 : List L) : Ans := (call (impl_SamePath.R (x0.fPath, (lDec x1))) fun v1 => ret (v1 : Bool))
def pats : List Pat := [.agg [.sl 9, .str, .int .i64, .int .i64, .sl 9], .ptr [.sl 9]]
def res : RP := .one (.rd (.bool))
noncomputable abbrev E : Env := { T := assoc Tab, G := conG [(119, impl_SamePath.con)], nt := 8 }
set_option maxRecDepth 100000
theorem run_eq (n : Nat) (ls : List L) : runF E (fun _ => []) Try.f118 res n (initS pats ls) = F (RChoice.dec ls) (padL 1 (dropT 5 ls)) := by kernel_rfl
noncomputable def md (a0 : MChoice) (a1 : List ByteArray) : Bool := ((impl_SamePath.md a0.fPath a1) : Bool)
def gd (a0 : MChoice) (a1 : List ByteArray) : Prop := (MChoice.Sm (2 ^ 21) a0) ∧ (SmL (2 ^ 21) (fun y : ByteArray => y.size ≤ (2 ^ 21)) a1)
def acc (ls : List L) : RChoice × List (List L) := ((RChoice.dec ls), (lDec (padL 1 (dropT 5 ls))))
noncomputable def R : (RChoice × List (List L)) → Option Bool := RR (p2 gd) (u2 md)
theorem R_eq {a0} {a1} (h : gd a0 a1) : R ((MChoice.r a0), (a1.map sRow)) = some (md a0 a1) := RR_eq (a := (a0, a1)) h
noncomputable def con : Con := CN pats res acc R
theorem okF (a0 : MChoice) (a1 : List ByteArray) (p1 : List L) (e1 : (a1.map sRow) = (lDec p1)) (hg : gd a0 a1) : F (MChoice.r a0) p1 = ret ((md a0 a1) : Bool) := by
  unfold gd at hg
  obtain ⟨H0, H1⟩ := hg
  unfold F md
  try simp only [S0, MEntry.rs, MChoice.rs, ← e1]
  refine call_to (impl_SamePath.md a0.fPath a1) (impl_SamePath.R_eq (a0 := a0.fPath) (a1 := a1) ⟨H0.1, H1⟩) ?_
  all_goals first | rfl | (simp only [S0, MEntry.rs, MChoice.rs, ← e1, MP]; first | done | rfl)
theorem okV (ls : List L) (a : MChoice × List ByteArray) (e : acc ls = Im.im a) (hg : (p2 gd) a) : ∃ n : Nat, F (RChoice.dec ls) (padL 1 (dropT 5 ls)) = ret (Im.im ((u2 md) a)) := by
  have e0 : (MChoice.r a.1) = (RChoice.dec ls) := (congrArg (fun x => x.1) e.symm)
  have hn := okF a.1 a.2 (padL 1 (dropT 5 ls)) (congrArg (fun x => x.2) e.symm) hg
  refine ⟨0, ?_⟩
  rw [← e0]
  exact hn
theorem valid_ : Valid Try.prog Ev 118 con := VP (accr := fun ls => ((RChoice.dec ls), (padL 1 (dropT 5 ls)))) (run := fun _ x => F x.1 x.2) mix tab_ok (.cons impl_SamePath.valid_ .nil) Try.func118 (by kernel_rfl) run_eq (fun ls a _ e hg => okV ls a e hg)
end impl_choiceAt_1
/-! slices.IndexFunc[[]impl.Choice,impl.Choice] -/
namespace slices_IndexFunc_Simpl_Choice_impl_Choice__impl_choiceAt_1
inductive Pt where
  | p0 (a : List (List L)) (b : List L) (c : Int) (d : Int)
def pid : Pt → Nat
  | .p0 .. => 2
def pvs : Pt → List V
  | .p0 a b c d => [.sl none 106 a, .fn 118 [.cptr none [.sl 9] b 0], .int .i64 c, .int .i64 d]
def phs : Pt → List Root
  | .p0 a b c d => []
noncomputable def step (J : Pt → Ans) : Pt → Ans
  | .p0 a b c d => (bif (decide (d < c)) then (bif (decide ((0 : Int) ≤ d)) then (bif (decide (d < (a.length : Int))) then (call (impl_choiceAt_1.R ((RChoice.at a (Int.toNat d)), (lDec b))) fun v1 => (bif v1 then ret (d : Int) else J (.p0 a b c (IntKind.i64.wrap (d + 1))))) else none) else none) else ret ((-1) : Int))
noncomputable def start (J : Pt → Ans) (x0 : List (List L)) (x1 : List L) : Ans := J (.p0 x0 x1 (x0.length : Int) 0)
def live : Nat → Live := fun i => match i with | 2 => [(0, none), (1, none), (7, none), (8, none)] | _ => []
def pats : List Pat := [.rd (.sl 106), .fn 118 [[.sl 9]]]
def res : RP := .one (.rd (.int .i64))
noncomputable abbrev E : Env := { T := assoc Tab, G := conG [(118, impl_choiceAt_1.con)], nt := 19 }
set_option maxRecDepth 100000
theorem step_eq (I : Heads) (p : Pt) : enterC E live I (pid p) (bodyOf Try.f117) (stOf (live (pid p)) (pvs p) (phs p)) (doneK E Try.f117 res) = step (fun q => I (pid q) (pvs q) (phs q)) p := by
  cases p <;> kernel_rfl
theorem start_eq (I : Heads) (ls : List L) : runC E live I (bodyOf Try.f117) (initS pats ls) (doneK E Try.f117 res) = start (fun q => I (pid q) (pvs q) (phs q)) (ls.headD .hole).toSl (padL 1 (dropT 1 ls)) := by kernel_rfl
theorem run_eq (n : Nat) (ls : List L) : runF E live Try.f117 res n (initS pats ls) = start (iter step n) (ls.headD .hole).toSl (padL 1 (dropT 1 ls)) := runF_iter (id := pid) (vs := pvs) (hs := phs) (step := step) (start := fun J => start J (ls.headD .hole).toSl (padL 1 (dropT 1 ls))) step_eq (fun I => start_eq I ls) n
noncomputable def md (a0 : List MChoice) (a1 : List ByteArray) : Int := (eachI (S := Unit) (β := Int) (fun (i1 : Nat) (y1 : MChoice) (s3 : Unit) => (bif (impl_choiceAt_1.md y1 a1) then (.inr ((i1 : Int) : Int)) else (.inl ()))) (fun (s3 : Unit) => ((-1) : Int)) 0 a0 ())
def gd (a0 : List MChoice) (a1 : List ByteArray) : Prop := (SmL (2 ^ 21) (fun y : MChoice => MChoice.Sm (2 ^ 21) y) a0) ∧ (SmL (2 ^ 21) (fun y : ByteArray => y.size ≤ (2 ^ 21)) a1)
def acc (ls : List L) : List (List L) × List (List L) := ((ls.headD .hole).toSl, (lDec (padL 1 (dropT 1 ls))))
noncomputable def R : (List (List L) × List (List L)) → Option Int := RR (p2 gd) (u2 md)
theorem R_eq {a0} {a1} (h : gd a0 a1) : R ((a0.map MChoice.row), (a1.map sRow)) = some (md a0 a1) := RR_eq (a := (a0, a1)) h
noncomputable def con : Con := CN pats res acc R
theorem okF (a0 : List MChoice) (a1 : List ByteArray) (p1 : List L) (e1 : (a1.map sRow) = (lDec p1)) (hg : gd a0 a1) : ∃ n, start (iter step n) (a0.map MChoice.row) p1 = ret ((md a0 a1) : Int) := by
  unfold gd at hg
  obtain ⟨H0, H1⟩ := hg
  unfold start md
  try simp only [S0, MChoice.rs, ← e1]
  have Bh2 : a0.length ≤ maxLen := (by
      have := (H0).1
      try simp only [maxLen] at *
      omega)
  refine ex_eq (out := ret) (loopM_eachI (z := MChoice.zero)) ?_
  refine ex_pt (p := Pt.p0 (a0.map MChoice.row) p1 (a0.length : Int) 0) (by first | rfl | (simp only [S0, MChoice.rs, ← e1, MP]; done) | (simp only [MP]; rfl)) ?_
  refine loopM_ok (pt := fun (i1 : Nat) (s3 : Unit) => Pt.p0 (a0.map MChoice.row) p1 (a0.length : Int) (i1 : Int)) (s := (() : Unit)) (out := ret) (fun _ _ => True) (fun J i1 s3 h2 hih2 => ?_) (fun s3 hih2 => ?_) trivial
  · simp only [step, S0, MChoice.rs, ← e1]
    have bb_ := Bh2
    simp only [maxLen] at bb_
    have := (H0).1
    refine Rnd.yes (by apply decide_eq_true; omega) ?_
    refine Rnd.yes zle_dec ?_
    refine Rnd.yes (lt_dec h2) ?_
    refine Rnd.call_to (impl_choiceAt_1.md (a0.getD i1 MChoice.zero) a1) (impl_choiceAt_1.R_eq (a0 := (a0.getD i1 MChoice.zero)) (a1 := a1) ⟨(SmL.getD (z := MChoice.zero) H0 h2), H1⟩) ?_
    refine Rnd.bif (fun c4 => ?_) (fun c4 => ?_)
    · refine Rnd.inr ?_
      all_goals first | rfl | (simp only [S0, MChoice.rs, ← e1, MP]; first | done | rfl)
    · refine Rnd.inl trivial ?_
      rw [wrap_succ h2 Bh2]
      all_goals first | rfl | (simp only [S0, MChoice.rs, ← e1, MP]; first | done | rfl)
  · simp only [step, S0, MChoice.rs, ← e1]
    have := (H0).1
    refine ex_no (by apply decide_eq_false; omega) ?_
    refine ⟨0, ?_⟩
    all_goals first | rfl | (simp only [S0, MChoice.rs, ← e1, MP]; first | done | rfl)
theorem okV (ls : List L) (a : List MChoice × List ByteArray) (e : acc ls = Im.im a) (hg : (p2 gd) a) : ∃ n : Nat, start (iter step n) ((ls.headD .hole).toSl) (padL 1 (dropT 1 ls)) = ret (Im.im ((u2 md) a)) := by
  have e0 : (a.1.map MChoice.row) = (ls.headD .hole).toSl := (congrArg (fun x => x.1) e.symm)
  obtain ⟨n, hn⟩ := okF a.1 a.2 (padL 1 (dropT 1 ls)) (congrArg (fun x => x.2) e.symm) hg
  refine ⟨n, ?_⟩
  rw [← e0]
  exact hn
theorem valid_ : Valid Try.prog Ev 117 con := VP (accr := fun ls => ((ls.headD .hole).toSl, (padL 1 (dropT 1 ls)))) (run := fun n x => start (iter step n) x.1 x.2) mix tab_ok (.cons impl_choiceAt_1.valid_ .nil) Try.func117 (by kernel_rfl) run_eq (fun ls a _ e hg => okV ls a e hg)
theorem fa (a0 : List MChoice) (a1 : List ByteArray) : -1 ≤ md a0 a1 ∧ md a0 a1 < (a0.length : Int) := by
  unfold md
  refine eachI_fa0 ?_ _ _
  all_goals
    intro i x s b h
    revert h
    simp only [Bool.cond_eq_ite]
    repeat' split
    all_goals (intro h; first | (cases h; rfl) | cases h)
theorem idx_eq (a0 : List MChoice) (a1 : List ByteArray) : md a0 a1 = findI (fun y => impl_choiceAt_1.md y a1) 0 a0 := by
  unfold md
  exact eachI_find
end slices_IndexFunc_Simpl_Choice_impl_Choice__impl_choiceAt_1
/-! impl.choiceAt -/
namespace impl_choiceAt
noncomputable def F (x0 : List (List L)) (x1 : List (List L)) : Ans := (call (slices_IndexFunc_Simpl_Choice_impl_Choice__impl_choiceAt_1.R (x0, x1)) fun v1 => ret (v1 : Int))
def pats : List Pat := [.rd (.sl 106), .rd (.sl 9)]
def res : RP := .one (.rd (.int .i64))
noncomputable abbrev E : Env := { T := assoc Tab, G := conG [(117, slices_IndexFunc_Simpl_Choice_impl_Choice__impl_choiceAt_1.con)], nt := 8 }
set_option maxRecDepth 100000
theorem run_eq (n : Nat) (ls : List L) : runF E (fun _ => []) Try.f86 res n (initS pats ls) = F (ls.headD .hole).toSl ((dropT 1 ls).headD .hole).toSl := by kernel_rfl
noncomputable def md (a0 : List MChoice) (a1 : List ByteArray) : Int := ((slices_IndexFunc_Simpl_Choice_impl_Choice__impl_choiceAt_1.md a0 a1) : Int)
def gd (a0 : List MChoice) (a1 : List ByteArray) : Prop := (SmL (2 ^ 21) (fun y : MChoice => MChoice.Sm (2 ^ 21) y) a0) ∧ (SmL (2 ^ 21) (fun y : ByteArray => y.size ≤ (2 ^ 21)) a1)
def acc (ls : List L) : List (List L) × List (List L) := ((ls.headD .hole).toSl, ((dropT 1 ls).headD .hole).toSl)
noncomputable def R : (List (List L) × List (List L)) → Option Int := RR (p2 gd) (u2 md)
theorem R_eq {a0} {a1} (h : gd a0 a1) : R ((a0.map MChoice.row), (a1.map sRow)) = some (md a0 a1) := RR_eq (a := (a0, a1)) h
noncomputable def con : Con := CN pats res acc R
theorem okF (a0 : List MChoice) (a1 : List ByteArray) (hg : gd a0 a1) : F (a0.map MChoice.row) (a1.map sRow) = ret ((md a0 a1) : Int) := by
  unfold gd at hg
  obtain ⟨H0, H1⟩ := hg
  unfold F md
  try simp only [S0]
  refine call_to (slices_IndexFunc_Simpl_Choice_impl_Choice__impl_choiceAt_1.md a0 a1) (slices_IndexFunc_Simpl_Choice_impl_Choice__impl_choiceAt_1.R_eq (a0 := a0) (a1 := a1) ⟨H0, H1⟩) ?_
  have fv1_ := slices_IndexFunc_Simpl_Choice_impl_Choice__impl_choiceAt_1.fa a0 a1
  all_goals first | rfl | (simp only [S0, MP]; first | done | rfl)
theorem valid_ : Valid Try.prog Ev 86 con := VV (run := fun _ x => F x.1 x.2) mix tab_ok (.cons slices_IndexFunc_Simpl_Choice_impl_Choice__impl_choiceAt_1.valid_ .nil) Try.func86 (by kernel_rfl) run_eq (fun _ a _ _ hg => ⟨0, okF a.1 a.2 hg⟩)
theorem fa (a0 : List MChoice) (a1 : List ByteArray) : -1 ≤ md a0 a1 ∧ md a0 a1 < (a0.length : Int) := by unfold md; exact slices_IndexFunc_Simpl_Choice_impl_Choice__impl_choiceAt_1.fa _ _
theorem br (a0 : List MChoice) (a1 : List ByteArray) : md a0 a1 = spec_l30Find.md a0 a1 := by
  unfold md spec_l30Find.md
  first
  | (simp only [slices_IndexFunc_Simpl_Choice_impl_Choice__impl_choiceAt_1.idx_eq, spec_SamePath.md_eq]; done)
  | (simp only [slices_IndexFunc_Simpl_Choice_impl_Choice__impl_choiceAt_1.idx_eq, spec_SamePath.md_eq]; rfl)
  | rfl
end impl_choiceAt
/-! impl.InRange -/
namespace impl_InRange
noncomputable def F (x0 : Int) (x1 : Int) (x2 : Int) : Ans := (bif (decide (x1 ≤ x0)) then ret ((decide (x0 ≤ x2)) : Bool) else ret (false : Bool))
def pats : List Pat := [.rd (.int .i64), .rd (.int .i64), .rd (.int .i64)]
def res : RP := .one (.rd (.bool))
noncomputable abbrev E : Env := { T := assoc Tab, G := conG [], nt := 15 }
set_option maxRecDepth 100000
theorem run_eq (n : Nat) (ls : List L) : runF E (fun _ => []) Try.f109 res n (initS pats ls) = F (ls.headD .hole).toInt ((dropT 1 ls).headD .hole).toInt ((dropT 2 ls).headD .hole).toInt := by kernel_rfl
noncomputable def md (a0 : Int) (a1 : Int) (a2 : Int) : Bool := (bif (decide (a1 ≤ a0)) then ((decide (a0 ≤ a2)) : Bool) else (false : Bool))
def gd (a0 : Int) (a1 : Int) (a2 : Int) : Prop := True
def acc (ls : List L) : Int × Int × Int := ((ls.headD .hole).toInt, ((dropT 1 ls).headD .hole).toInt, ((dropT 2 ls).headD .hole).toInt)
noncomputable def R : (Int × Int × Int) → Option Bool := RR (p3 gd) (u3 md)
theorem R_eq {a0} {a1} {a2} (h : gd a0 a1 a2) : R (a0, a1, a2) = some (md a0 a1 a2) := RR_eq (a := (a0, a1, a2)) h
noncomputable def con : Con := CN pats res acc R
theorem okF (a0 : Int) (a1 : Int) (a2 : Int) (hg : gd a0 a1 a2) : F a0 a1 a2 = ret ((md a0 a1 a2) : Bool) := by
  unfold F md
  try simp only [S0]
  refine bif_out ret (fun c1 => ?_) (fun _ => rfl)
  all_goals first | rfl | (simp only [S0, MP]; first | done | rfl)
theorem valid_ : Valid Try.prog Ev 109 con := VV (run := fun _ x => F x.1 x.2.1 x.2.2) mix tab_ok .nil Try.func109 (by kernel_rfl) run_eq (fun _ a _ _ hg => ⟨0, okF a.1 a.2.1 a.2.2 hg⟩)
theorem br (a0 : Int) (a1 : Int) (a2 : Int) : md a0 a1 a2 = spec_l1In.md a0 a1 a2 := by
  unfold md spec_l1In.md
  first | rfl | (rw [Bool.eq_iff_iff]; simp)
end impl_InRange
/-! impl.IsLabel -/
namespace impl_IsLabel
inductive Pt where
  | p0 (a : ByteArray) (b : Int) (c : Int)
def pid : Pt → Nat
  | .p0 .. => 2
def pvs : Pt → List V
  | .p0 a b c => [.str a, .int .i64 b, .int .i64 c]
def phs : Pt → List Root
  | .p0 a b c => []
noncomputable def step (J : Pt → Ans) : Pt → Ans
  | .p0 a b c => (bif (decide (c < b)) then (bif (decide ((0 : Int) ≤ c)) then (bif (decide (c < (a.size : Int))) then (bif (decide ((chAt a (Int.toNat c)) ≥ 97)) then (bif (decide ((chAt a (Int.toNat c)) ≤ 122)) then J (.p0 a b (IntKind.i64.wrap (c + 1))) else (bif (decide ((chAt a (Int.toNat c)) ≥ 48)) then (bif (decide ((chAt a (Int.toNat c)) ≤ 57)) then J (.p0 a b (IntKind.i64.wrap (c + 1))) else (bif ((chAt a (Int.toNat c)) == 45) then (bif (decide (c > 0)) then (bif (!(decide (c < (IntKind.i64.wrap ((a.size : Int) - 1))))) then ret (false : Bool) else J (.p0 a b (IntKind.i64.wrap (c + 1)))) else ret (false : Bool)) else ret (false : Bool))) else (bif ((chAt a (Int.toNat c)) == 45) then (bif (decide (c > 0)) then (bif (!(decide (c < (IntKind.i64.wrap ((a.size : Int) - 1))))) then ret (false : Bool) else J (.p0 a b (IntKind.i64.wrap (c + 1)))) else ret (false : Bool)) else ret (false : Bool)))) else (bif (decide ((chAt a (Int.toNat c)) ≥ 48)) then (bif (decide ((chAt a (Int.toNat c)) ≤ 57)) then J (.p0 a b (IntKind.i64.wrap (c + 1))) else (bif ((chAt a (Int.toNat c)) == 45) then (bif (decide (c > 0)) then (bif (!(decide (c < (IntKind.i64.wrap ((a.size : Int) - 1))))) then ret (false : Bool) else J (.p0 a b (IntKind.i64.wrap (c + 1)))) else ret (false : Bool)) else ret (false : Bool))) else (bif ((chAt a (Int.toNat c)) == 45) then (bif (decide (c > 0)) then (bif (!(decide (c < (IntKind.i64.wrap ((a.size : Int) - 1))))) then ret (false : Bool) else J (.p0 a b (IntKind.i64.wrap (c + 1)))) else ret (false : Bool)) else ret (false : Bool)))) else none) else none) else (call (impl_InRange.R ((a.size : Int), 1, 8)) fun v1 => ret (v1 : Bool)))
noncomputable def start (J : Pt → Ans) (x0 : ByteArray) : Ans := J (.p0 x0 (x0.size : Int) 0)
def live : Nat → Live := fun i => match i with | 2 => [(0, none), (6, none), (7, none)] | _ => []
def pats : List Pat := [.rd (.str)]
def res : RP := .one (.rd (.bool))
noncomputable abbrev E : Env := { T := assoc Tab, G := conG [(109, impl_InRange.con)], nt := 47 }
set_option maxRecDepth 100000
theorem step_eq (I : Heads) (p : Pt) : enterC E live I (pid p) (bodyOf Try.f62) (stOf (live (pid p)) (pvs p) (phs p)) (doneK E Try.f62 res) = step (fun q => I (pid q) (pvs q) (phs q)) p := by
  cases p <;> kernel_rfl
theorem start_eq (I : Heads) (ls : List L) : runC E live I (bodyOf Try.f62) (initS pats ls) (doneK E Try.f62 res) = start (fun q => I (pid q) (pvs q) (phs q)) (ls.headD .hole).toStr := by kernel_rfl
theorem run_eq (n : Nat) (ls : List L) : runF E live Try.f62 res n (initS pats ls) = start (iter step n) (ls.headD .hole).toStr := runF_iter (id := pid) (vs := pvs) (hs := phs) (step := step) (start := fun J => start J (ls.headD .hole).toStr) step_eq (fun I => start_eq I ls) n
noncomputable def md (a0 : ByteArray) : Bool := (loopM (S := Unit) (β := Bool) (fun (i1 : Nat) (s3 : Unit) => (bif (decide ((chAt a0 i1) ≥ 97)) then (bif (decide ((chAt a0 i1) ≤ 122)) then (.inl ()) else (bif (decide ((chAt a0 i1) ≥ 48)) then (bif (decide ((chAt a0 i1) ≤ 57)) then (.inl ()) else (bif ((chAt a0 i1) == 45) then (bif (decide ((i1 : Int) > 0)) then (bif (!(decide ((i1 : Int) < (IntKind.i64.wrap ((a0.size : Int) - 1))))) then (.inr (false : Bool)) else (.inl ())) else (.inr (false : Bool))) else (.inr (false : Bool)))) else (bif ((chAt a0 i1) == 45) then (bif (decide ((i1 : Int) > 0)) then (bif (!(decide ((i1 : Int) < (IntKind.i64.wrap ((a0.size : Int) - 1))))) then (.inr (false : Bool)) else (.inl ())) else (.inr (false : Bool))) else (.inr (false : Bool))))) else (bif (decide ((chAt a0 i1) ≥ 48)) then (bif (decide ((chAt a0 i1) ≤ 57)) then (.inl ()) else (bif ((chAt a0 i1) == 45) then (bif (decide ((i1 : Int) > 0)) then (bif (!(decide ((i1 : Int) < (IntKind.i64.wrap ((a0.size : Int) - 1))))) then (.inr (false : Bool)) else (.inl ())) else (.inr (false : Bool))) else (.inr (false : Bool)))) else (bif ((chAt a0 i1) == 45) then (bif (decide ((i1 : Int) > 0)) then (bif (!(decide ((i1 : Int) < (IntKind.i64.wrap ((a0.size : Int) - 1))))) then (.inr (false : Bool)) else (.inl ())) else (.inr (false : Bool))) else (.inr (false : Bool)))))) (fun (s3 : Unit) => ((impl_InRange.md (a0.size : Int) 1 8) : Bool)) a0.size 0 ())
def gd (a0 : ByteArray) : Prop := (a0.size ≤ (2 ^ 21))
def acc (ls : List L) : ByteArray := (ls.headD .hole).toStr
noncomputable def R : ByteArray → Option Bool := RR gd md
theorem R_eq {a0} (h : gd a0) : R a0 = some (md a0) := RR_eq (a := a0) h
noncomputable def con : Con := CN pats res acc R
theorem okF (a0 : ByteArray) (hg : gd a0) : ∃ n, start (iter step n) a0 = ret ((md a0) : Bool) := by
  unfold gd at hg
  have H0 := hg
  unfold start md
  try simp only [S0]
  have Bh2 : a0.size ≤ maxLen := (by
      have := H0
      try simp only [maxLen] at *
      omega)
  refine ex_pt (p := Pt.p0 a0 (a0.size : Int) 0) (by first | rfl | (simp only [S0, MP]; done) | (simp only [MP]; rfl)) ?_
  refine loopM_ok (pt := fun (i1 : Nat) (s3 : Unit) => Pt.p0 a0 (a0.size : Int) (i1 : Int)) (s := (() : Unit)) (out := ret) (fun _ _ => True) (fun J i1 s3 h2 hih2 => ?_) (fun s3 hih2 => ?_) trivial
  · simp only [step, S0]
    have bb_ := Bh2
    simp only [maxLen] at bb_
    have := H0
    refine Rnd.yes (by apply decide_eq_true; omega) ?_
    refine Rnd.yes zle_dec ?_
    refine Rnd.yes (lt_dec h2) ?_
    refine Rnd.bif (fun c4 => ?_) (fun c4 => ?_)
    · refine Rnd.bif (fun c5 => ?_) (fun c5 => ?_)
      · refine Rnd.inl trivial ?_
        rw [wrap_succ h2 Bh2]
        all_goals first | rfl | (simp only [S0, MP]; first | done | rfl)
      · refine Rnd.bif (fun c6 => ?_) (fun c6 => ?_)
        · refine Rnd.bif (fun c7 => ?_) (fun c7 => ?_)
          · refine Rnd.inl trivial ?_
            rw [wrap_succ h2 Bh2]
            all_goals first | rfl | (simp only [S0, MP]; first | done | rfl)
          · refine Rnd.bif (fun c8 => ?_) (fun _ => Rnd.inr rfl)
            refine Rnd.bif (fun c9 => ?_) (fun _ => Rnd.inr rfl)
            refine Rnd.bif (fun _ => Rnd.inr rfl) (fun c10 => ?_)
            refine Rnd.inl trivial ?_
            rw [wrap_succ h2 Bh2]
            all_goals first | rfl | (simp only [S0, MP]; first | done | rfl)
        · refine Rnd.bif (fun c11 => ?_) (fun _ => Rnd.inr rfl)
          refine Rnd.bif (fun c12 => ?_) (fun _ => Rnd.inr rfl)
          refine Rnd.bif (fun _ => Rnd.inr rfl) (fun c13 => ?_)
          refine Rnd.inl trivial ?_
          rw [wrap_succ h2 Bh2]
          all_goals first | rfl | (simp only [S0, MP]; first | done | rfl)
    · refine Rnd.bif (fun c14 => ?_) (fun c14 => ?_)
      · refine Rnd.bif (fun c15 => ?_) (fun c15 => ?_)
        · refine Rnd.inl trivial ?_
          rw [wrap_succ h2 Bh2]
          all_goals first | rfl | (simp only [S0, MP]; first | done | rfl)
        · refine Rnd.bif (fun c16 => ?_) (fun _ => Rnd.inr rfl)
          refine Rnd.bif (fun c17 => ?_) (fun _ => Rnd.inr rfl)
          refine Rnd.bif (fun _ => Rnd.inr rfl) (fun c18 => ?_)
          refine Rnd.inl trivial ?_
          rw [wrap_succ h2 Bh2]
          all_goals first | rfl | (simp only [S0, MP]; first | done | rfl)
      · refine Rnd.bif (fun c19 => ?_) (fun _ => Rnd.inr rfl)
        refine Rnd.bif (fun c20 => ?_) (fun _ => Rnd.inr rfl)
        refine Rnd.bif (fun _ => Rnd.inr rfl) (fun c21 => ?_)
        refine Rnd.inl trivial ?_
        rw [wrap_succ h2 Bh2]
        all_goals first | rfl | (simp only [S0, MP]; first | done | rfl)
  · simp only [step, S0]
    have := H0
    refine ex_no (by apply decide_eq_false; omega) ?_
    refine ex_call_to (impl_InRange.md (a0.size : Int) 1 8) (impl_InRange.R_eq (a0 := (a0.size : Int)) (a1 := 1) (a2 := 8) trivial) ?_
    refine ⟨0, ?_⟩
    all_goals first | rfl | (simp only [S0, MP]; first | done | rfl)
theorem valid_ : Valid Try.prog Ev 62 con := VV (run := fun n x => start (iter step n) x) mix tab_ok (.cons impl_InRange.valid_ .nil) Try.func62 (by kernel_rfl) run_eq (fun _ a _ _ hg => okF a hg)
theorem br (a0 : ByteArray) : md a0 = spec_IsLabel.md a0 := by
  unfold md spec_IsLabel.md
  by_cases hl : 1 ≤ a0.size ∧ a0.size ≤ 8
  · have e1 : spec_l1In.md (a0.size : Int) 1 8 = true := by simp [spec_l1In.md]; omega
    simp only [impl_InRange.br, e1]
    have ew : IntKind.i64.wrap ((a0.size : Int) - 1) = ((a0.size - 1 : Nat) : Int) := by
      rw [Go.IntWalk.i64_in _ (by omega)]; omega
    simp only [ew, toNat_nat]
    rw [Bool.eq_iff_iff]
    rw [loopM_true (fun i => (97 ≤ chAt a0 i ∧ chAt a0 i ≤ 122) ∨ (48 ≤ chAt a0 i ∧ chAt a0 i ≤ 57) ∨ (chAt a0 i = 45 ∧ 0 < i ∧ i < a0.size - 1)) (fun i hi h => by simp; grind) (fun i hi h => by simp; grind)]
    have e2 := loopM_true (n := a0.size) (f := fun (i4 : Nat) (s6 : Unit) => (bif (decide ((chAt a0 i4) < 97)) then (bif (decide ((chAt a0 i4) < 48)) then (bif ((chAt a0 i4) != 45) then (.inr (false : Bool)) else (.inl ())) else (bif (decide ((chAt a0 i4) > 57)) then (bif ((chAt a0 i4) != 45) then (.inr (false : Bool)) else (.inl ())) else (.inl ()))) else (bif (decide ((chAt a0 i4) > 122)) then (bif (decide ((chAt a0 i4) < 48)) then (bif ((chAt a0 i4) != 45) then (.inr (false : Bool)) else (.inl ())) else (bif (decide ((chAt a0 i4) > 57)) then (bif ((chAt a0 i4) != 45) then (.inr (false : Bool)) else (.inl ())) else (.inl ()))) else (.inl ())))) (t := fun _ => true)
      (fun i => (97 ≤ chAt a0 i ∧ chAt a0 i ≤ 122) ∨ (48 ≤ chAt a0 i ∧ chAt a0 i ≤ 57) ∨ chAt a0 i = 45) (fun i hi h => by simp; grind) (fun i hi h => by simp; grind)
    have e3 : ∀ b c d : Bool, (bif !true then false else bif b then false else bif c then false else d) = true ↔ b = false ∧ c = false ∧ d = true := by intro b c d; cases b <;> cases c <;> simp
    rw [e3, e2]
    simp only [beq_eq_false_iff_ne, ne_eq, and_true]
    constructor
    · intro h
      refine ⟨fun h0 => ?_, fun h0 => ?_, fun i hi => ?_⟩
      · have := h 0 (by omega); omega
      · have := h (a0.size - 1) (by omega); omega
      · have := h i hi; omega
    · intro ⟨h1, h2, h3⟩ i hi
      have := h3 i hi
      by_cases h0 : i = 0
      · subst h0; omega
      · by_cases h9 : i = a0.size - 1
        · subst h9; omega
        · omega
  · have e1 : spec_l1In.md (a0.size : Int) 1 8 = false := by simp [spec_l1In.md]; omega
    simp only [impl_InRange.br, e1]
    refine loopM_const ?_ _ _ _
    intro i s b h
    revert h
    simp only [Bool.cond_eq_ite]
    repeat' split
    all_goals (intro h; first | (cases h; rfl) | cases h)
end impl_IsLabel
/-! impl.IsPath$1 -/
namespace impl_IsPath_1
noncomputable def F (x0 : ByteArray) : Ans := (call (impl_IsLabel.R x0) fun v1 => ret ((!v1) : Bool))
def pats : List Pat := [.rd (.str)]
def res : RP := .one (.rd (.bool))
noncomputable abbrev E : Env := { T := assoc Tab, G := conG [(62, impl_IsLabel.con)], nt := 6 }
set_option maxRecDepth 100000
theorem run_eq (n : Nat) (ls : List L) : runF E (fun _ => []) Try.f134 res n (initS pats ls) = F (ls.headD .hole).toStr := by kernel_rfl
noncomputable def md (a0 : ByteArray) : Bool := ((!(impl_IsLabel.md a0)) : Bool)
def gd (a0 : ByteArray) : Prop := (a0.size ≤ (2 ^ 21))
def acc (ls : List L) : ByteArray := (ls.headD .hole).toStr
noncomputable def R : ByteArray → Option Bool := RR gd md
theorem R_eq {a0} (h : gd a0) : R a0 = some (md a0) := RR_eq (a := a0) h
noncomputable def con : Con := CN pats res acc R
theorem okF (a0 : ByteArray) (hg : gd a0) : F a0 = ret ((md a0) : Bool) := by
  unfold gd at hg
  have H0 := hg
  unfold F md
  try simp only [S0]
  refine call_to (impl_IsLabel.md a0) (impl_IsLabel.R_eq (a0 := a0) H0) ?_
  all_goals first | rfl | (simp only [S0, MP]; first | done | rfl)
theorem valid_ : Valid Try.prog Ev 134 con := VV (run := fun _ x => F x) mix tab_ok (.cons impl_IsLabel.valid_ .nil) Try.func134 (by kernel_rfl) run_eq (fun _ a _ _ hg => ⟨0, okF a hg⟩)
end impl_IsPath_1
/-! slices.IndexFunc[[]string,string] -/
namespace slices_IndexFunc_Sstring_string__impl_IsPath_1
inductive Pt where
  | p0 (a : List (List L)) (b : Int) (c : Int)
def pid : Pt → Nat
  | .p0 .. => 2
def pvs : Pt → List V
  | .p0 a b c => [.sl none 9 a, .fn 134 [], .int .i64 b, .int .i64 c]
def phs : Pt → List Root
  | .p0 a b c => []
noncomputable def step (J : Pt → Ans) : Pt → Ans
  | .p0 a b c => (bif (decide (c < b)) then (bif (decide ((0 : Int) ≤ c)) then (bif (decide (c < (a.length : Int))) then (call (impl_IsPath_1.R (sAt a (Int.toNat c))) fun v1 => (bif v1 then ret (c : Int) else J (.p0 a b (IntKind.i64.wrap (c + 1))))) else none) else none) else ret ((-1) : Int))
noncomputable def start (J : Pt → Ans) (x0 : List (List L)) : Ans := J (.p0 x0 (x0.length : Int) 0)
def live : Nat → Live := fun i => match i with | 2 => [(0, none), (1, none), (7, none), (8, none)] | _ => []
def pats : List Pat := [.rd (.sl 9), .fn 134 []]
def res : RP := .one (.rd (.int .i64))
noncomputable abbrev E : Env := { T := assoc Tab, G := conG [(134, impl_IsPath_1.con)], nt := 19 }
set_option maxRecDepth 100000
theorem step_eq (I : Heads) (p : Pt) : enterC E live I (pid p) (bodyOf Try.f142) (stOf (live (pid p)) (pvs p) (phs p)) (doneK E Try.f142 res) = step (fun q => I (pid q) (pvs q) (phs q)) p := by
  cases p <;> kernel_rfl
theorem start_eq (I : Heads) (ls : List L) : runC E live I (bodyOf Try.f142) (initS pats ls) (doneK E Try.f142 res) = start (fun q => I (pid q) (pvs q) (phs q)) (ls.headD .hole).toSl := by kernel_rfl
theorem run_eq (n : Nat) (ls : List L) : runF E live Try.f142 res n (initS pats ls) = start (iter step n) (ls.headD .hole).toSl := runF_iter (id := pid) (vs := pvs) (hs := phs) (step := step) (start := fun J => start J (ls.headD .hole).toSl) step_eq (fun I => start_eq I ls) n
noncomputable def md (a0 : List ByteArray) : Int := (eachI (S := Unit) (β := Int) (fun (i1 : Nat) (y1 : ByteArray) (s3 : Unit) => (bif (impl_IsPath_1.md y1) then (.inr ((i1 : Int) : Int)) else (.inl ()))) (fun (s3 : Unit) => ((-1) : Int)) 0 a0 ())
def gd (a0 : List ByteArray) : Prop := (SmL (2 ^ 21) (fun y : ByteArray => y.size ≤ (2 ^ 21)) a0)
def acc (ls : List L) : List (List L) := (ls.headD .hole).toSl
noncomputable def R : (List (List L)) → Option Int := RR gd md
theorem R_eq {a0} (h : gd a0) : R (a0.map sRow) = some (md a0) := RR_eq (a := a0) h
noncomputable def con : Con := CN pats res acc R
theorem okF (a0 : List ByteArray) (hg : gd a0) : ∃ n, start (iter step n) (a0.map sRow) = ret ((md a0) : Int) := by
  unfold gd at hg
  have H0 := hg
  unfold start md
  try simp only [S0]
  have Bh2 : a0.length ≤ maxLen := (by
      have := (H0).1
      try simp only [maxLen] at *
      omega)
  refine ex_eq (out := ret) (loopM_eachI (z := ⟨#[]⟩)) ?_
  refine ex_pt (p := Pt.p0 (a0.map sRow) (a0.length : Int) 0) (by first | rfl | (simp only [S0, MP]; done) | (simp only [MP]; rfl)) ?_
  refine loopM_ok (pt := fun (i1 : Nat) (s3 : Unit) => Pt.p0 (a0.map sRow) (a0.length : Int) (i1 : Int)) (s := (() : Unit)) (out := ret) (fun _ _ => True) (fun J i1 s3 h2 hih2 => ?_) (fun s3 hih2 => ?_) trivial
  · simp only [step, S0]
    have bb_ := Bh2
    simp only [maxLen] at bb_
    have := (H0).1
    refine Rnd.yes (by apply decide_eq_true; omega) ?_
    refine Rnd.yes zle_dec ?_
    refine Rnd.yes (lt_dec h2) ?_
    refine Rnd.call_to (impl_IsPath_1.md (a0.getD i1 ⟨#[]⟩)) (impl_IsPath_1.R_eq (a0 := (a0.getD i1 ⟨#[]⟩)) (SmL.getD (z := ⟨#[]⟩) H0 h2)) ?_
    refine Rnd.bif (fun c4 => ?_) (fun c4 => ?_)
    · refine Rnd.inr ?_
      all_goals first | rfl | (simp only [S0, MP]; first | done | rfl)
    · refine Rnd.inl trivial ?_
      rw [wrap_succ h2 Bh2]
      all_goals first | rfl | (simp only [S0, MP]; first | done | rfl)
  · simp only [step, S0]
    have := (H0).1
    refine ex_no (by apply decide_eq_false; omega) ?_
    refine ⟨0, ?_⟩
    all_goals first | rfl | (simp only [S0, MP]; first | done | rfl)
theorem valid_ : Valid Try.prog Ev 142 con := VV (run := fun n x => start (iter step n) x) mix tab_ok (.cons impl_IsPath_1.valid_ .nil) Try.func142 (by kernel_rfl) run_eq (fun _ a _ _ hg => okF a hg)
theorem fa (a0 : List ByteArray) : -1 ≤ md a0 ∧ md a0 < (a0.length : Int) := by
  unfold md
  refine eachI_fa0 ?_ _ _
  all_goals
    intro i x s b h
    revert h
    simp only [Bool.cond_eq_ite]
    repeat' split
    all_goals (intro h; first | (cases h; rfl) | cases h)
theorem idx_eq (a0 : List ByteArray) : md a0 = findI (fun y => impl_IsPath_1.md y) 0 a0 := by
  unfold md
  exact eachI_find
end slices_IndexFunc_Sstring_string__impl_IsPath_1
/-! slices.ContainsFunc[[]string,string] -/
namespace slices_ContainsFunc_Sstring_string__impl_IsPath_1
noncomputable def F (x0 : List (List L)) : Ans := (call (slices_IndexFunc_Sstring_string__impl_IsPath_1.R x0) fun v1 => ret ((decide (v1 ≥ 0)) : Bool))
def pats : List Pat := [.rd (.sl 9), .fn 134 []]
def res : RP := .one (.rd (.bool))
noncomputable abbrev E : Env := { T := assoc Tab, G := conG [(142, slices_IndexFunc_Sstring_string__impl_IsPath_1.con)], nt := 9 }
set_option maxRecDepth 100000
theorem run_eq (n : Nat) (ls : List L) : runF E (fun _ => []) Try.f133 res n (initS pats ls) = F (ls.headD .hole).toSl := by kernel_rfl
noncomputable def md (a0 : List ByteArray) : Bool := ((decide ((slices_IndexFunc_Sstring_string__impl_IsPath_1.md a0) ≥ 0)) : Bool)
def gd (a0 : List ByteArray) : Prop := (SmL (2 ^ 21) (fun y : ByteArray => y.size ≤ (2 ^ 21)) a0)
def acc (ls : List L) : List (List L) := (ls.headD .hole).toSl
noncomputable def R : (List (List L)) → Option Bool := RR gd md
theorem R_eq {a0} (h : gd a0) : R (a0.map sRow) = some (md a0) := RR_eq (a := a0) h
noncomputable def con : Con := CN pats res acc R
theorem okF (a0 : List ByteArray) (hg : gd a0) : F (a0.map sRow) = ret ((md a0) : Bool) := by
  unfold gd at hg
  have H0 := hg
  unfold F md
  try simp only [S0]
  refine call_to (slices_IndexFunc_Sstring_string__impl_IsPath_1.md a0) (slices_IndexFunc_Sstring_string__impl_IsPath_1.R_eq (a0 := a0) H0) ?_
  have fv1_ := slices_IndexFunc_Sstring_string__impl_IsPath_1.fa a0
  all_goals first | rfl | (simp only [S0, MP]; first | done | rfl)
theorem valid_ : Valid Try.prog Ev 133 con := VV (run := fun _ x => F x) mix tab_ok (.cons slices_IndexFunc_Sstring_string__impl_IsPath_1.valid_ .nil) Try.func133 (by kernel_rfl) run_eq (fun _ a _ _ hg => ⟨0, okF a hg⟩)
theorem any_eq (a0 : List ByteArray) : md a0 = a0.any (fun y => impl_IsPath_1.md y) := by
  unfold md
  rw [slices_IndexFunc_Sstring_string__impl_IsPath_1.idx_eq]
  exact findI_ge
end slices_ContainsFunc_Sstring_string__impl_IsPath_1
/-! impl.IsPath -/
namespace impl_IsPath
noncomputable def F (x0 : List (List L)) : Ans := (call (impl_InRange.R ((x0.length : Int), 1, 4)) fun v1 => (bif v1 then (call (slices_ContainsFunc_Sstring_string__impl_IsPath_1.R x0) fun v2 => ret ((!v2) : Bool)) else ret (false : Bool)))
def pats : List Pat := [.rd (.sl 9)]
def res : RP := .one (.rd (.bool))
noncomputable abbrev E : Env := { T := assoc Tab, G := conG [(109, impl_InRange.con), (133, slices_ContainsFunc_Sstring_string__impl_IsPath_1.con)], nt := 11 }
set_option maxRecDepth 100000
theorem run_eq (n : Nat) (ls : List L) : runF E (fun _ => []) Try.f120 res n (initS pats ls) = F (ls.headD .hole).toSl := by kernel_rfl
noncomputable def md (a0 : List ByteArray) : Bool := (bif (impl_InRange.md (a0.length : Int) 1 4) then ((!(slices_ContainsFunc_Sstring_string__impl_IsPath_1.md a0)) : Bool) else (false : Bool))
def gd (a0 : List ByteArray) : Prop := (SmL (2 ^ 21) (fun y : ByteArray => y.size ≤ (2 ^ 21)) a0)
def acc (ls : List L) : List (List L) := (ls.headD .hole).toSl
noncomputable def R : (List (List L)) → Option Bool := RR gd md
theorem R_eq {a0} (h : gd a0) : R (a0.map sRow) = some (md a0) := RR_eq (a := a0) h
noncomputable def con : Con := CN pats res acc R
theorem okF (a0 : List ByteArray) (hg : gd a0) : F (a0.map sRow) = ret ((md a0) : Bool) := by
  unfold gd at hg
  have H0 := hg
  unfold F md
  try simp only [S0]
  refine call_to (impl_InRange.md (a0.length : Int) 1 4) (impl_InRange.R_eq (a0 := (a0.length : Int)) (a1 := 1) (a2 := 4) trivial) ?_
  refine bif_out ret (fun c1 => ?_) (fun _ => rfl)
  refine call_to (slices_ContainsFunc_Sstring_string__impl_IsPath_1.md a0) (slices_ContainsFunc_Sstring_string__impl_IsPath_1.R_eq (a0 := a0) H0) ?_
  all_goals first | rfl | (simp only [S0, MP]; first | done | rfl)
theorem valid_ : Valid Try.prog Ev 120 con := VV (run := fun _ x => F x) mix tab_ok (.cons impl_InRange.valid_ (.cons slices_ContainsFunc_Sstring_string__impl_IsPath_1.valid_ .nil)) Try.func120 (by kernel_rfl) run_eq (fun _ a _ _ hg => ⟨0, okF a hg⟩)
theorem br (a0 : List ByteArray) : md a0 = spec_IsPath.md a0 := by
  unfold md spec_IsPath.md
  rw [slices_ContainsFunc_Sstring_string__impl_IsPath_1.any_eq]
  have e := eachM_any (p := fun y => !(spec_IsLabel.md y)) (b := false) (c := spec_l1In.md (a0.length : Int) 1 4) (xs := a0) (s := ())
  refine Eq.trans ?_ e.symm
  simp only [impl_IsPath_1.md, impl_IsLabel.br, impl_InRange.br]
  cases a0.any (fun y => !(spec_IsLabel.md y)) <;> cases spec_l1In.md (a0.length : Int) 1 4 <;> rfl
end impl_IsPath
/-! impl.isDigest -/
namespace impl_isDigest
noncomputable def F (x0 : Int) : Ans := (call (impl_InRange.R (x0, 0, 2147483646)) fun v1 => ret (v1 : Bool))
def pats : List Pat := [.rd (.int .i64)]
def res : RP := .one (.rd (.bool))
noncomputable abbrev E : Env := { T := assoc Tab, G := conG [(109, impl_InRange.con)], nt := 5 }
set_option maxRecDepth 100000
theorem run_eq (n : Nat) (ls : List L) : runF E (fun _ => []) Try.f63 res n (initS pats ls) = F (ls.headD .hole).toInt := by kernel_rfl
noncomputable def md (a0 : Int) : Bool := ((impl_InRange.md a0 0 2147483646) : Bool)
def gd (a0 : Int) : Prop := True
def acc (ls : List L) : Int := (ls.headD .hole).toInt
noncomputable def R : Int → Option Bool := RR gd md
theorem R_eq {a0} (h : gd a0) : R a0 = some (md a0) := RR_eq (a := a0) h
noncomputable def con : Con := CN pats res acc R
theorem okF (a0 : Int) (hg : gd a0) : F a0 = ret ((md a0) : Bool) := by
  unfold F md
  try simp only [S0]
  refine call_to (impl_InRange.md a0 0 2147483646) (impl_InRange.R_eq (a0 := a0) (a1 := 0) (a2 := 2147483646) trivial) ?_
  all_goals first | rfl | (simp only [S0, MP]; first | done | rfl)
theorem valid_ : Valid Try.prog Ev 63 con := VV (run := fun _ x => F x) mix tab_ok (.cons impl_InRange.valid_ .nil) Try.func63 (by kernel_rfl) run_eq (fun _ a _ _ hg => ⟨0, okF a hg⟩)
end impl_isDigest
/-! impl.IsEntry -/
namespace impl_IsEntry
noncomputable def F (x0 : REntry) : Ans := (call (impl_IsLabel.R x0.fLabel) fun v1 => (bif (!v1) then ret (false : Bool) else (bif (x0.fKind == 1) then (call (impl_InRange.R (x0.fValue, 0, 999999)) fun v2 => (bif v2 then ret (((x0.fPath.length : Int) == 0) : Bool) else ret (false : Bool))) else (bif (x0.fKind == 2) then (call (impl_isDigest.R x0.fValue) fun v3 => (bif v3 then ret (((x0.fPath.length : Int) == 0) : Bool) else ret (false : Bool))) else (bif (x0.fKind == 3) then (call (impl_isDigest.R x0.fValue) fun v4 => (bif v4 then (call (impl_IsPath.R x0.fPath) fun v5 => ret (v5 : Bool)) else ret (false : Bool))) else ret (false : Bool))))))
def pats : List Pat := [.agg [.str, .int .i64, .int .i64, .sl 9]]
def res : RP := .one (.rd (.bool))
noncomputable abbrev E : Env := { T := assoc Tab, G := conG [(62, impl_IsLabel.con), (109, impl_InRange.con), (63, impl_isDigest.con), (120, impl_IsPath.con)], nt := 41 }
set_option maxRecDepth 100000
theorem run_eq (n : Nat) (ls : List L) : runF E (fun _ => []) Try.f121 res n (initS pats ls) = F (REntry.dec ls) := by kernel_rfl
noncomputable def md (a0 : MEntry) : Bool := (bif (!(impl_IsLabel.md a0.fLabel)) then (false : Bool) else (bif (a0.fKind == 1) then (bif (impl_InRange.md a0.fValue 0 999999) then (((a0.fPath.length : Int) == 0) : Bool) else (false : Bool)) else (bif (a0.fKind == 2) then (bif (impl_isDigest.md a0.fValue) then (((a0.fPath.length : Int) == 0) : Bool) else (false : Bool)) else (bif (a0.fKind == 3) then (bif (impl_isDigest.md a0.fValue) then ((impl_IsPath.md a0.fPath) : Bool) else (false : Bool)) else (false : Bool)))))
def gd (a0 : MEntry) : Prop := (MEntry.Sm (2 ^ 21) a0)
def acc (ls : List L) : REntry := (REntry.dec ls)
noncomputable def R : REntry → Option Bool := RR gd md
theorem R_eq {a0} (h : gd a0) : R (MEntry.r a0) = some (md a0) := RR_eq (a := a0) h
noncomputable def con : Con := CN pats res acc R
theorem okF (a0 : MEntry) (hg : gd a0) : F (MEntry.r a0) = ret ((md a0) : Bool) := by
  unfold gd at hg
  have H0 := hg
  unfold F md
  try simp only [S0, MEntry.rs]
  refine call_to (impl_IsLabel.md a0.fLabel) (impl_IsLabel.R_eq (a0 := a0.fLabel) H0.1) ?_
  refine bif_out ret (fun _ => rfl) (fun c1 => ?_)
  refine bif_out ret (fun c2 => ?_) (fun c2 => ?_)
  · refine call_to (impl_InRange.md a0.fValue 0 999999) (impl_InRange.R_eq (a0 := a0.fValue) (a1 := 0) (a2 := 999999) trivial) ?_
    refine bif_out ret (fun c3 => ?_) (fun _ => rfl)
    all_goals first | rfl | (simp only [S0, MEntry.rs, MP]; first | done | rfl)
  · refine bif_out ret (fun c4 => ?_) (fun c4 => ?_)
    · refine call_to (impl_isDigest.md a0.fValue) (impl_isDigest.R_eq (a0 := a0.fValue) trivial) ?_
      refine bif_out ret (fun c5 => ?_) (fun _ => rfl)
      all_goals first | rfl | (simp only [S0, MEntry.rs, MP]; first | done | rfl)
    · refine bif_out ret (fun c6 => ?_) (fun _ => rfl)
      refine call_to (impl_isDigest.md a0.fValue) (impl_isDigest.R_eq (a0 := a0.fValue) trivial) ?_
      refine bif_out ret (fun c7 => ?_) (fun _ => rfl)
      refine call_to (impl_IsPath.md a0.fPath) (impl_IsPath.R_eq (a0 := a0.fPath) H0.2) ?_
      all_goals first | rfl | (simp only [S0, MEntry.rs, MP]; first | done | rfl)
theorem valid_ : Valid Try.prog Ev 121 con := VV (run := fun _ x => F x) mix tab_ok (.cons impl_IsLabel.valid_ (.cons impl_InRange.valid_ (.cons impl_isDigest.valid_ (.cons impl_IsPath.valid_ .nil)))) Try.func121 (by kernel_rfl) run_eq (fun _ a _ _ hg => ⟨0, okF a hg⟩)
theorem br (a0 : MEntry) : md a0 = spec_IsEntry.md a0 := by
  unfold md spec_IsEntry.md
  simp only [impl_IsLabel.br, impl_InRange.br, impl_isDigest.md, impl_IsPath.br]
  cases spec_IsLabel.md a0.fLabel <;> simp
end impl_IsEntry
/-! impl.AreChoices -/
namespace impl_AreChoices
inductive Pt where
  | p0 (a : List (List L)) (b : List (List L)) (c : Int) (d : Int)
def pid : Pt → Nat
  | .p0 .. => 2
def pvs : Pt → List V
  | .p0 a b c d => [.sl none 106 a, .sl none 106 b, .int .i64 c, .int .i64 d]
def phs : Pt → List Root
  | .p0 a b c d => []
noncomputable def step (J : Pt → Ans) : Pt → Ans
  | .p0 a b c d => (bif (decide (d < c)) then (bif (decide ((0 : Int) ≤ d)) then (bif (decide (d < (b.length : Int))) then (call (impl_IsPath.R ((RChoice.at b (Int.toNat d)).fPath)) fun v1 => (bif (!v1) then ret (false : Bool) else (call (impl_IsEntry.R ((RChoice.at b (Int.toNat d)).fEntry)) fun v2 => (bif (!v2) then ret (false : Bool) else (call (impl_choiceAt.R (a, (RChoice.at b (Int.toNat d)).fPath)) fun v3 => (bif (v3 != d) then ret (false : Bool) else J (.p0 a b c (IntKind.i64.wrap (d + 1))))))))) else none) else none) else ret ((decide ((a.length : Int) ≤ 8)) : Bool))
noncomputable def start (J : Pt → Ans) (x0 : List (List L)) : Ans := J (.p0 x0 x0 (x0.length : Int) 0)
def live : Nat → Live := fun i => match i with | 2 => [(0, none), (5, none), (6, none), (7, none)] | _ => []
def pats : List Pat := [.rd (.sl 106)]
def res : RP := .one (.rd (.bool))
noncomputable abbrev E : Env := { T := assoc Tab, G := conG [(120, impl_IsPath.con), (121, impl_IsEntry.con), (86, impl_choiceAt.con)], nt := 34 }
set_option maxRecDepth 100000
theorem step_eq (I : Heads) (p : Pt) : enterC E live I (pid p) (bodyOf Try.f87) (stOf (live (pid p)) (pvs p) (phs p)) (doneK E Try.f87 res) = step (fun q => I (pid q) (pvs q) (phs q)) p := by
  cases p <;> kernel_rfl
theorem start_eq (I : Heads) (ls : List L) : runC E live I (bodyOf Try.f87) (initS pats ls) (doneK E Try.f87 res) = start (fun q => I (pid q) (pvs q) (phs q)) (ls.headD .hole).toSl := by kernel_rfl
theorem run_eq (n : Nat) (ls : List L) : runF E live Try.f87 res n (initS pats ls) = start (iter step n) (ls.headD .hole).toSl := runF_iter (id := pid) (vs := pvs) (hs := phs) (step := step) (start := fun J => start J (ls.headD .hole).toSl) step_eq (fun I => start_eq I ls) n
noncomputable def md (a0 : List MChoice) : Bool := (eachI (S := Unit) (β := Bool) (fun (i1 : Nat) (y1 : MChoice) (s3 : Unit) => (bif (!(impl_IsPath.md (y1.fPath))) then (.inr (false : Bool)) else (bif (!(impl_IsEntry.md (y1.fEntry))) then (.inr (false : Bool)) else (bif ((impl_choiceAt.md a0 (y1.fPath)) != (i1 : Int)) then (.inr (false : Bool)) else (.inl ()))))) (fun (s3 : Unit) => ((decide ((a0.length : Int) ≤ 8)) : Bool)) 0 a0 ())
def gd (a0 : List MChoice) : Prop := (SmL (2 ^ 21) (fun y : MChoice => MChoice.Sm (2 ^ 21) y) a0)
def acc (ls : List L) : List (List L) := (ls.headD .hole).toSl
noncomputable def R : (List (List L)) → Option Bool := RR gd md
theorem R_eq {a0} (h : gd a0) : R (a0.map MChoice.row) = some (md a0) := RR_eq (a := a0) h
noncomputable def con : Con := CN pats res acc R
theorem okF (a0 : List MChoice) (hg : gd a0) : ∃ n, start (iter step n) (a0.map MChoice.row) = ret ((md a0) : Bool) := by
  unfold gd at hg
  have H0 := hg
  unfold start md
  try simp only [S0, MEntry.rs, MChoice.rs]
  have Bh2 : a0.length ≤ maxLen := (by
      have := (H0).1
      try simp only [maxLen] at *
      omega)
  refine ex_eq (out := ret) (loopM_eachI (z := MChoice.zero)) ?_
  refine ex_pt (p := Pt.p0 (a0.map MChoice.row) (a0.map MChoice.row) (a0.length : Int) 0) (by first | rfl | (simp only [S0, MEntry.rs, MChoice.rs, MP]; done) | (simp only [MP]; rfl)) ?_
  refine loopM_ok (pt := fun (i1 : Nat) (s3 : Unit) => Pt.p0 (a0.map MChoice.row) (a0.map MChoice.row) (a0.length : Int) (i1 : Int)) (s := (() : Unit)) (out := ret) (fun _ _ => True) (fun J i1 s3 h2 hih2 => ?_) (fun s3 hih2 => ?_) trivial
  · simp only [step, S0, MEntry.rs, MChoice.rs]
    have bb_ := Bh2
    simp only [maxLen] at bb_
    have := (H0).1
    refine Rnd.yes (by apply decide_eq_true; omega) ?_
    refine Rnd.yes zle_dec ?_
    refine Rnd.yes (lt_dec h2) ?_
    refine Rnd.call_to (impl_IsPath.md ((a0.getD i1 MChoice.zero).fPath)) (impl_IsPath.R_eq (a0 := (a0.getD i1 MChoice.zero).fPath) (SmL.getD (z := MChoice.zero) H0 h2).1) ?_
    refine Rnd.bif (fun _ => Rnd.inr rfl) (fun c4 => ?_)
    refine Rnd.call_to (impl_IsEntry.md ((a0.getD i1 MChoice.zero).fEntry)) (impl_IsEntry.R_eq (a0 := (a0.getD i1 MChoice.zero).fEntry) (SmL.getD (z := MChoice.zero) H0 h2).2) ?_
    refine Rnd.bif (fun _ => Rnd.inr rfl) (fun c5 => ?_)
    refine Rnd.call_to (impl_choiceAt.md a0 ((a0.getD i1 MChoice.zero).fPath)) (impl_choiceAt.R_eq (a0 := a0) (a1 := (a0.getD i1 MChoice.zero).fPath) ⟨H0, (SmL.getD (z := MChoice.zero) H0 h2).1⟩) ?_
    have fv3_ := impl_choiceAt.fa a0 ((a0.getD i1 MChoice.zero).fPath)
    refine Rnd.bif (fun _ => Rnd.inr rfl) (fun c6 => ?_)
    refine Rnd.inl trivial ?_
    rw [wrap_succ h2 Bh2]
    all_goals first | rfl | (simp only [S0, MEntry.rs, MChoice.rs, MP]; first | done | rfl)
  · simp only [step, S0, MEntry.rs, MChoice.rs]
    have := (H0).1
    refine ex_no (by apply decide_eq_false; omega) ?_
    refine ⟨0, ?_⟩
    all_goals first | rfl | (simp only [S0, MEntry.rs, MChoice.rs, MP]; first | done | rfl)
theorem valid_ : Valid Try.prog Ev 87 con := VV (run := fun n x => start (iter step n) x) mix tab_ok (.cons impl_IsPath.valid_ (.cons impl_IsEntry.valid_ (.cons impl_choiceAt.valid_ .nil))) Try.func87 (by kernel_rfl) run_eq (fun _ a _ _ hg => okF a hg)
theorem br (a0 : List MChoice) : md a0 = spec_AreChoices.md a0 := by
  unfold md spec_AreChoices.md
  first
  | (simp only [impl_IsPath.br, impl_IsEntry.br, impl_choiceAt.br]; done)
  | (simp only [impl_IsPath.br, impl_IsEntry.br, impl_choiceAt.br]; rfl)
  | rfl
end impl_AreChoices
/-! impl.PutChoice -/
namespace impl_PutChoice
noncomputable def F (x0 : List (List L)) (x1 : List (List L)) (x2 : REntry) : Ans := (call (impl_copyChoices.R x0) fun v1 => (call (slices_Clone_Sstring_string.R x1) fun v2 => (call (impl_copyEntry.R x2) fun v3 => (call (impl_choiceAt.R (x0, x1)) fun v4 => (bif (decide (v4 ≥ 0)) then (bif (decide ((0 : Int) ≤ v4)) then (bif (decide (v4 < (v1.length : Int))) then (call (impl_AreChoices.R x0) fun v5 => (bif (!v5) then (call (impl_copyChoices.R x0) fun v6 => ret ((v6, false) : List (List L) × Bool)) else (call (impl_AreChoices.R (List.set v1 (Int.toNat v4) (RChoice.enc (⟨v2, v3⟩ : RChoice)))) fun v7 => (bif (!v7) then (call (impl_copyChoices.R x0) fun v8 => ret ((v8, false) : List (List L) × Bool)) else ret (((List.set v1 (Int.toNat v4) (RChoice.enc (⟨v2, v3⟩ : RChoice))), true) : List (List L) × Bool))))) else none) else none) else (bif (lim (((v1.length : Int) + 1) * 80)) then (call (impl_AreChoices.R x0) fun v9 => (bif (!v9) then (call (impl_copyChoices.R x0) fun v10 => ret ((v10, false) : List (List L) × Bool)) else (call (impl_AreChoices.R (v1 ++ [(RChoice.enc (⟨v2, v3⟩ : RChoice))])) fun v11 => (bif (!v11) then (call (impl_copyChoices.R x0) fun v12 => ret ((v12, false) : List (List L) × Bool)) else ret (((v1 ++ [(RChoice.enc (⟨v2, v3⟩ : RChoice))]), true) : List (List L) × Bool))))) else none))))))
def pats : List Pat := [.rd (.sl 106), .rd (.sl 9), .agg [.str, .int .i64, .int .i64, .sl 9]]
def res : RP := .tup [(false, [.fr 106]), (false, [.rd (.bool)])]
noncomputable abbrev E : Env := { T := assoc Tab, G := conG [(83, impl_copyChoices.con), (84, slices_Clone_Sstring_string.con), (85, impl_copyEntry.con), (86, impl_choiceAt.con), (87, impl_AreChoices.con)], nt := 42 }
set_option maxRecDepth 100000
theorem run_eq (n : Nat) (ls : List L) : runF E (fun _ => []) Try.f29 res n (initS pats ls) = F (ls.headD .hole).toSl ((dropT 1 ls).headD .hole).toSl (REntry.dec (dropT 2 ls)) := by kernel_rfl
noncomputable def md (a0 : List MChoice) (a1 : List ByteArray) (a2 : MEntry) : List MChoice × Bool := (bif (decide ((impl_choiceAt.md a0 a1) ≥ 0)) then (bif (!(impl_AreChoices.md a0)) then (a0, false) else (bif (!(impl_AreChoices.md (List.set a0 (Int.toNat (impl_choiceAt.md a0 a1)) (⟨a1, a2⟩ : MChoice)))) then (a0, false) else ((List.set a0 (Int.toNat (impl_choiceAt.md a0 a1)) (⟨a1, a2⟩ : MChoice)), true))) else (bif (!(impl_AreChoices.md a0)) then (a0, false) else (bif (!(impl_AreChoices.md (a0 ++ [(⟨a1, a2⟩ : MChoice)]))) then (a0, false) else ((a0 ++ [(⟨a1, a2⟩ : MChoice)]), true))))
def gd (a0 : List MChoice) (a1 : List ByteArray) (a2 : MEntry) : Prop := (SmL (2 ^ 20) (fun y : MChoice => MChoice.Sm (2 ^ 20) y) a0) ∧ (SmL (2 ^ 21) (fun y : ByteArray => y.size ≤ (2 ^ 21)) a1) ∧ (MEntry.Sm (2 ^ 21) a2)
def acc (ls : List L) : List (List L) × List (List L) × REntry := ((ls.headD .hole).toSl, ((dropT 1 ls).headD .hole).toSl, (REntry.dec (dropT 2 ls)))
noncomputable def R : (List (List L) × List (List L) × REntry) → Option (List (List L) × Bool) := RR (p3 gd) (u3 md)
theorem R_eq {a0} {a1} {a2} (h : gd a0 a1 a2) : R ((a0.map MChoice.row), (a1.map sRow), (MEntry.r a2)) = some (((md a0 a1 a2).1.map MChoice.row), (md a0 a1 a2).2) := RR_eq (a := (a0, a1, a2)) h
noncomputable def con : Con := CN pats res acc R
theorem okF (a0 : List MChoice) (a1 : List ByteArray) (a2 : MEntry) (hg : gd a0 a1 a2) : F (a0.map MChoice.row) (a1.map sRow) (MEntry.r a2) = ret ((((md a0 a1 a2).1.map MChoice.row), (md a0 a1 a2).2) : List (List L) × Bool) := by
  unfold gd at hg
  obtain ⟨H0, H1, H2⟩ := hg
  unfold F md
  try simp only [S0]
  refine call_to (a0.map MChoice.row) ?_ ?_
  · have R_ := impl_copyChoices.R_eq (a0 := a0) (H0.mono (by decide) (fun x hx => (MChoice.Sm_mono (by decide) hx)))
    simp only [impl_copyChoices.md] at R_
    first | exact R_ | (simp only [MP, S0] at R_ ⊢; first | exact R_ | (rw [← R_]; rfl))
  try simp only [S0]
  refine call_to (a1.map sRow) ?_ ?_
  · have R_ := slices_Clone_Sstring_string.R_eq (a0 := a1) H1
    simp only [slices_Clone_Sstring_string.md] at R_
    first | exact R_ | (simp only [MP, S0] at R_ ⊢; first | exact R_ | (rw [← R_]; rfl))
  try simp only [S0]
  refine call_to (MEntry.r a2) ?_ ?_
  · have R_ := impl_copyEntry.R_eq (a0 := a2) H2
    simp only [impl_copyEntry.md] at R_
    first | exact R_ | (simp only [MP, S0] at R_ ⊢; first | exact R_ | (rw [← R_]; rfl))
  try simp only [S0]
  refine call_to (impl_choiceAt.md a0 a1) (impl_choiceAt.R_eq (a0 := a0) (a1 := a1) ⟨(H0.mono (by decide) (fun x hx => (MChoice.Sm_mono (by decide) hx))), H1⟩) ?_
  have fv4_ := impl_choiceAt.fa a0 a1
  refine bif_out (fun b : List MChoice × Bool => ret (((b.1.map MChoice.row), b.2) : List (List L) × Bool)) (fun c1 => ?_) (fun c1 => ?_)
  · have dc1 := c1
    try simp only [DC] at dc1
    refine yes_ret (by
        refine decide_eq_true ?_
        try simp (disch := omega) only [LN, wi]
        first | omega | (simp; done) | (simp; omega)) ?_
    refine yes_ret (by
        have := (H0).1
        refine decide_eq_true ?_
        try simp (disch := omega) only [LN, wi]
        first | omega | (simp; done) | (simp; omega)) ?_
    refine call_to (impl_AreChoices.md a0) (impl_AreChoices.R_eq (a0 := a0) (H0.mono (by decide) (fun x hx => (MChoice.Sm_mono (by decide) hx)))) ?_
    refine bif_out (fun b : List MChoice × Bool => ret (((b.1.map MChoice.row), b.2) : List (List L) × Bool)) (fun c2 => ?_) (fun c2 => ?_)
    · refine call_to (a0.map MChoice.row) ?_ ?_
      · have R_ := impl_copyChoices.R_eq (a0 := a0) (H0.mono (by decide) (fun x hx => (MChoice.Sm_mono (by decide) hx)))
        simp only [impl_copyChoices.md] at R_
        first | exact R_ | (simp only [MP, S0] at R_ ⊢; first | exact R_ | (rw [← R_]; rfl))
      try simp only [S0]
      all_goals first | rfl | (simp only [S0]; done) | (simp only [MP]; rfl) | (simp only [S0, MP]; first | done | rfl)
    · refine call_to (impl_AreChoices.md (List.set a0 (Int.toNat (impl_choiceAt.md a0 a1)) (⟨a1, a2⟩ : MChoice))) ?_ ?_
      · have R_ := impl_AreChoices.R_eq (a0 := (List.set a0 (Int.toNat (impl_choiceAt.md a0 a1)) (⟨a1, a2⟩ : MChoice))) (SmL.set (H0.mono (by decide) (fun x hx => (MChoice.Sm_mono (by decide) hx))) ⟨H1, H2⟩)
        first | exact R_ | (simp only [MP, S0] at R_ ⊢; first | exact R_ | (rw [← R_]; rfl))
      refine bif_out (fun b : List MChoice × Bool => ret (((b.1.map MChoice.row), b.2) : List (List L) × Bool)) (fun c3 => ?_) (fun c3 => ?_)
      · refine call_to (a0.map MChoice.row) ?_ ?_
        · have R_ := impl_copyChoices.R_eq (a0 := a0) (H0.mono (by decide) (fun x hx => (MChoice.Sm_mono (by decide) hx)))
          simp only [impl_copyChoices.md] at R_
          first | exact R_ | (simp only [MP, S0] at R_ ⊢; first | exact R_ | (rw [← R_]; rfl))
        try simp only [S0]
        all_goals first | rfl | (simp only [S0]; done) | (simp only [MP]; rfl) | (simp only [S0, MP]; first | done | rfl)
      · all_goals first | rfl | (simp only [S0]; done) | (simp only [MP]; rfl) | (simp only [S0, MP]; first | done | rfl)
  · have dc1 := c1
    try simp only [DC] at dc1
    refine yes_ret (by
        have := (H0).1
        refine lim_t ?_
        try simp (disch := omega) only [LN, wi]
        first | omega | (simp; done) | (simp; omega)) ?_
    refine call_to (impl_AreChoices.md a0) (impl_AreChoices.R_eq (a0 := a0) (H0.mono (by decide) (fun x hx => (MChoice.Sm_mono (by decide) hx)))) ?_
    refine bif_out (fun b : List MChoice × Bool => ret (((b.1.map MChoice.row), b.2) : List (List L) × Bool)) (fun c4 => ?_) (fun c4 => ?_)
    · refine call_to (a0.map MChoice.row) ?_ ?_
      · have R_ := impl_copyChoices.R_eq (a0 := a0) (H0.mono (by decide) (fun x hx => (MChoice.Sm_mono (by decide) hx)))
        simp only [impl_copyChoices.md] at R_
        first | exact R_ | (simp only [MP, S0] at R_ ⊢; first | exact R_ | (rw [← R_]; rfl))
      try simp only [S0]
      all_goals first | rfl | (simp only [S0]; done) | (simp only [MP]; rfl) | (simp only [S0, MP]; first | done | rfl)
    · refine call_to (impl_AreChoices.md (a0 ++ [(⟨a1, a2⟩ : MChoice)])) ?_ ?_
      · have R_ := impl_AreChoices.R_eq (a0 := (a0 ++ [(⟨a1, a2⟩ : MChoice)])) (SmL.app (a := (2 ^ 20)) (b := 1) (H0.mono (by decide) (fun x hx => (MChoice.Sm_mono (by decide) hx))) (SmL.one ⟨H1, H2⟩) (by decide))
        first | exact R_ | (simp only [MP, S0] at R_ ⊢; first | exact R_ | (rw [← R_]; rfl))
      refine bif_out (fun b : List MChoice × Bool => ret (((b.1.map MChoice.row), b.2) : List (List L) × Bool)) (fun c5 => ?_) (fun c5 => ?_)
      · refine call_to (a0.map MChoice.row) ?_ ?_
        · have R_ := impl_copyChoices.R_eq (a0 := a0) (H0.mono (by decide) (fun x hx => (MChoice.Sm_mono (by decide) hx)))
          simp only [impl_copyChoices.md] at R_
          first | exact R_ | (simp only [MP, S0] at R_ ⊢; first | exact R_ | (rw [← R_]; rfl))
        try simp only [S0]
        all_goals first | rfl | (simp only [S0]; done) | (simp only [MP]; rfl) | (simp only [S0, MP]; first | done | rfl)
      · all_goals first | rfl | (simp only [S0]; done) | (simp only [MP]; rfl) | (simp only [S0, MP]; first | done | rfl)
theorem valid_ : Valid Try.prog Ev 29 con := VV (run := fun _ x => F x.1 x.2.1 x.2.2) mix tab_ok (.cons impl_copyChoices.valid_ (.cons slices_Clone_Sstring_string.valid_ (.cons impl_copyEntry.valid_ (.cons impl_choiceAt.valid_ (.cons impl_AreChoices.valid_ .nil))))) Try.func29 (by kernel_rfl) run_eq (fun _ a _ _ hg => ⟨0, okF a.1 a.2.1 a.2.2 hg⟩)
theorem br (a0 : List MChoice) (a1 : List ByteArray) (a2 : MEntry) : md a0 a1 a2 = spec_PutChoice.md a0 a1 a2 := by
  unfold md spec_PutChoice.md
  first
  | (simp only [impl_choiceAt.br, impl_AreChoices.br]; done)
  | (simp only [impl_choiceAt.br, impl_AreChoices.br]; rfl)
  | rfl
end impl_PutChoice
/-! laws.eqStringS -/
namespace laws_eqStringS
inductive Pt where
  | p0 (a : List (List L)) (b : List (List L)) (c : Int)
def pid : Pt → Nat
  | .p0 .. => 4
def pvs : Pt → List V
  | .p0 a b c => [.sl none 9 a, .sl none 9 b, .int .i64 c]
def phs : Pt → List Root
  | .p0 a b c => []
noncomputable def step (J : Pt → Ans) : Pt → Ans
  | .p0 a b c => (bif (decide (c < (a.length : Int))) then (bif (decide ((0 : Int) ≤ c)) then (bif (decide (c < (a.length : Int))) then (bif (decide ((0 : Int) ≤ c)) then (bif (decide (c < (b.length : Int))) then (bif (!((sAt a (Int.toNat c)) == (sAt b (Int.toNat c)))) then ret (false : Bool) else J (.p0 a b (IntKind.i64.wrap (c + 1)))) else none) else none) else none) else none) else ret (true : Bool))
noncomputable def start (J : Pt → Ans) (x0 : List (List L)) (x1 : List (List L)) : Ans := (bif ((x0.length : Int) != (x1.length : Int)) then ret (false : Bool) else J (.p0 x0 x1 0))
def live : Nat → Live := fun i => match i with | 4 => [(0, none), (1, none), (5, none)] | _ => []
def pats : List Pat := [.rd (.sl 9), .rd (.sl 9)]
def res : RP := .one (.rd (.bool))
noncomputable abbrev E : Env := { T := assoc Tab, G := conG [], nt := 26 }
set_option maxRecDepth 100000
theorem step_eq (I : Heads) (p : Pt) : enterC E live I (pid p) (bodyOf Try.f31) (stOf (live (pid p)) (pvs p) (phs p)) (doneK E Try.f31 res) = step (fun q => I (pid q) (pvs q) (phs q)) p := by
  cases p <;> kernel_rfl
theorem start_eq (I : Heads) (ls : List L) : runC E live I (bodyOf Try.f31) (initS pats ls) (doneK E Try.f31 res) = start (fun q => I (pid q) (pvs q) (phs q)) (ls.headD .hole).toSl ((dropT 1 ls).headD .hole).toSl := by kernel_rfl
theorem run_eq (n : Nat) (ls : List L) : runF E live Try.f31 res n (initS pats ls) = start (iter step n) (ls.headD .hole).toSl ((dropT 1 ls).headD .hole).toSl := runF_iter (id := pid) (vs := pvs) (hs := phs) (step := step) (start := fun J => start J (ls.headD .hole).toSl ((dropT 1 ls).headD .hole).toSl) step_eq (fun I => start_eq I ls) n
noncomputable def md (a0 : List ByteArray) (a1 : List ByteArray) : Bool := eqB a0 a1
def gd (a0 : List ByteArray) (a1 : List ByteArray) : Prop := True
def acc (ls : List L) : List (List L) × List (List L) := ((ls.headD .hole).toSl, ((dropT 1 ls).headD .hole).toSl)
noncomputable def R : (List (List L) × List (List L)) → Option Bool := RR (p2 gd) (u2 md)
theorem R_eq {a0} {a1} (h : gd a0 a1) : R ((a0.map sRow), (a1.map sRow)) = some (md a0 a1) := RR_eq (a := (a0, a1)) h
noncomputable def con : Con := CN pats res acc R
theorem okF (a0 : List ByteArray) (a1 : List ByteArray) (hg : gd a0 a1) (h0 : a0.length ≤ maxLen) (h1 : a1.length ≤ maxLen) : ∃ n, start (iter step n) (a0.map sRow) (a1.map sRow) = ret ((md a0 a1) : Bool) := by
  unfold start md
  simp only [List.length_map]
  refine eq_list (pt := fun i => Pt.p0 (a0.map sRow) (a1.map sRow) (i : Int)) (fun hl J i h h2 => ?_) (fun J => ?_)
  · simp only [step, List.length_map, lt_dec h, lt_dec h2, zle_dec, cond_true, toNat_nat, sAt_row h, sAt_row h2]
    rw [wrap_succ h h0]
    simp only [bne, int_beq, bool_beq, ba_beq]
    cases eqB a0[i] a1[i] <;> rfl
  · simp only [step, List.length_map, nlt_dec, cond_false]
theorem valid_ : Valid Try.prog Ev 31 con := VV (run := fun n x => start (iter step n) x.1 x.2) mix tab_ok .nil Try.func31 (by kernel_rfl) run_eq (fun ls a hl e hg => okF a.1 a.2 hg (by have h : (ls.headD .hole).toSl.length ≤ maxLen := hl.1.len; have e : a.1.map sRow = (ls.headD .hole).toSl := (congrArg (fun x => x.1) e.symm); rw [← e] at h; simpa using h) (by have h : ((dropT 1 ls).headD .hole).toSl.length ≤ maxLen := hl.2.1.len; have e : a.2.map sRow = ((dropT 1 ls).headD .hole).toSl := (congrArg (fun x => x.2) e.symm); rw [← e] at h; simpa using h))
end laws_eqStringS
/-! laws.eqEntry -/
namespace laws_eqEntry
noncomputable def F (x0 : REntry) (x1 : REntry) : Ans := (bif (!(x0.fLabel == x1.fLabel)) then ret (false : Bool) else (bif (x0.fKind != x1.fKind) then ret (false : Bool) else (bif (x0.fValue != x1.fValue) then ret (false : Bool) else (call (laws_eqStringS.R (x0.fPath, x1.fPath)) fun v1 => (bif (!v1) then ret (false : Bool) else ret (true : Bool))))))
def pats : List Pat := [.agg [.str, .int .i64, .int .i64, .sl 9], .agg [.str, .int .i64, .int .i64, .sl 9]]
def res : RP := .one (.rd (.bool))
noncomputable abbrev E : Env := { T := assoc Tab, G := conG [(31, laws_eqStringS.con)], nt := 26 }
set_option maxRecDepth 100000
theorem run_eq (n : Nat) (ls : List L) : runF E (fun _ => []) Try.f32 res n (initS pats ls) = F (REntry.dec ls) (REntry.dec (dropT 4 ls)) := by kernel_rfl
noncomputable def md (a0 : MEntry) (a1 : MEntry) : Bool := eqB a0 a1
def gd (a0 : MEntry) (a1 : MEntry) : Prop := True
def acc (ls : List L) : REntry × REntry := ((REntry.dec ls), (REntry.dec (dropT 4 ls)))
noncomputable def R : (REntry × REntry) → Option Bool := RR (p2 gd) (u2 md)
theorem R_eq {a0} {a1} (h : gd a0 a1) : R ((MEntry.r a0), (MEntry.r a1)) = some (md a0 a1) := RR_eq (a := (a0, a1)) h
noncomputable def con : Con := CN pats res acc R
theorem okF (a0 : MEntry) (a1 : MEntry) (hg : gd a0 a1) : F (MEntry.r a0) (MEntry.r a1) = ret ((md a0 a1) : Bool) := by
  unfold md
  show (bif (!(a0.fLabel == a1.fLabel)) then ret (false : Bool) else (bif (a0.fKind != a1.fKind) then ret (false : Bool) else (bif (a0.fValue != a1.fValue) then ret (false : Bool) else (call (laws_eqStringS.R ((a0.fPath.map sRow), (a1.fPath.map sRow))) fun v1 => (bif (!v1) then ret (false : Bool) else ret (true : Bool)))))) = _
  simp only [call_eq (laws_eqStringS.R_eq (a0 := a0.fPath) (a1 := a1.fPath) trivial), laws_eqStringS.md]
  try simp only [bne, int_beq, bool_beq, ba_beq]
  have e : eqB a0 a1 = (eqB a0.fLabel a1.fLabel && (eqB a0.fKind a1.fKind && (eqB a0.fValue a1.fValue && (eqB a0.fPath a1.fPath && true)))) := by
    cases a0; cases a1
    rw [Bool.eq_iff_iff]
    simp only [eqB_iff, Bool.and_eq_true, MEntry.mk.injEq, and_true]
  rw [e]
  refine and_step fun _ => ?_
  refine and_step fun _ => ?_
  refine and_step fun _ => ?_
  refine and_step fun _ => ?_
  rfl
theorem valid_ : Valid Try.prog Ev 32 con := VV (run := fun _ x => F x.1 x.2) mix tab_ok (.cons laws_eqStringS.valid_ .nil) Try.func32 (by kernel_rfl) run_eq (fun _ a _ _ hg => ⟨0, okF a.1 a.2 hg⟩)
end laws_eqEntry
/-! laws.eqChoice -/
namespace laws_eqChoice
noncomputable def F (x0 : RChoice) (x1 : RChoice) : Ans := (call (laws_eqStringS.R (x0.fPath, x1.fPath)) fun v1 => (bif (!v1) then ret (false : Bool) else (call (laws_eqEntry.R (x0.fEntry, x1.fEntry)) fun v2 => (bif (!v2) then ret (false : Bool) else ret (true : Bool)))))
def pats : List Pat := [.agg [.sl 9, .str, .int .i64, .int .i64, .sl 9], .agg [.sl 9, .str, .int .i64, .int .i64, .sl 9]]
def res : RP := .one (.rd (.bool))
noncomputable abbrev E : Env := { T := assoc Tab, G := conG [(31, laws_eqStringS.con), (32, laws_eqEntry.con)], nt := 17 }
set_option maxRecDepth 100000
theorem run_eq (n : Nat) (ls : List L) : runF E (fun _ => []) Try.f88 res n (initS pats ls) = F (RChoice.dec ls) (RChoice.dec (dropT 5 ls)) := by kernel_rfl
noncomputable def md (a0 : MChoice) (a1 : MChoice) : Bool := eqB a0 a1
def gd (a0 : MChoice) (a1 : MChoice) : Prop := True
def acc (ls : List L) : RChoice × RChoice := ((RChoice.dec ls), (RChoice.dec (dropT 5 ls)))
noncomputable def R : (RChoice × RChoice) → Option Bool := RR (p2 gd) (u2 md)
theorem R_eq {a0} {a1} (h : gd a0 a1) : R ((MChoice.r a0), (MChoice.r a1)) = some (md a0 a1) := RR_eq (a := (a0, a1)) h
noncomputable def con : Con := CN pats res acc R
theorem okF (a0 : MChoice) (a1 : MChoice) (hg : gd a0 a1) : F (MChoice.r a0) (MChoice.r a1) = ret ((md a0 a1) : Bool) := by
  unfold md
  show (call (laws_eqStringS.R ((a0.fPath.map sRow), (a1.fPath.map sRow))) fun v1 => (bif (!v1) then ret (false : Bool) else (call (laws_eqEntry.R ((MEntry.r a0.fEntry), (MEntry.r a1.fEntry))) fun v2 => (bif (!v2) then ret (false : Bool) else ret (true : Bool))))) = _
  simp only [call_eq (laws_eqStringS.R_eq (a0 := a0.fPath) (a1 := a1.fPath) trivial), laws_eqStringS.md]
  simp only [call_eq (laws_eqEntry.R_eq (a0 := a0.fEntry) (a1 := a1.fEntry) trivial), laws_eqEntry.md]
  try simp only [bne, int_beq, bool_beq, ba_beq]
  have e : eqB a0 a1 = (eqB a0.fPath a1.fPath && (eqB a0.fEntry a1.fEntry && true)) := by
    cases a0; cases a1
    rw [Bool.eq_iff_iff]
    simp only [eqB_iff, Bool.and_eq_true, MChoice.mk.injEq, and_true]
  rw [e]
  refine and_step fun _ => ?_
  refine and_step fun _ => ?_
  rfl
theorem valid_ : Valid Try.prog Ev 88 con := VV (run := fun _ x => F x.1 x.2) mix tab_ok (.cons laws_eqStringS.valid_ (.cons laws_eqEntry.valid_ .nil)) Try.func88 (by kernel_rfl) run_eq (fun _ a _ _ hg => ⟨0, okF a.1 a.2 hg⟩)
end laws_eqChoice
/-! laws.eqChoiceS -/
namespace laws_eqChoiceS
inductive Pt where
  | p0 (a : List (List L)) (b : List (List L)) (c : Int)
def pid : Pt → Nat
  | .p0 .. => 4
def pvs : Pt → List V
  | .p0 a b c => [.sl none 106 a, .sl none 106 b, .int .i64 c]
def phs : Pt → List Root
  | .p0 a b c => []
noncomputable def step (J : Pt → Ans) : Pt → Ans
  | .p0 a b c => (bif (decide (c < (a.length : Int))) then (bif (decide ((0 : Int) ≤ c)) then (bif (decide (c < (a.length : Int))) then (bif (decide ((0 : Int) ≤ c)) then (bif (decide (c < (b.length : Int))) then (call (laws_eqChoice.R ((RChoice.at a (Int.toNat c)), (RChoice.at b (Int.toNat c)))) fun v1 => (bif (!v1) then ret (false : Bool) else J (.p0 a b (IntKind.i64.wrap (c + 1))))) else none) else none) else none) else none) else ret (true : Bool))
noncomputable def start (J : Pt → Ans) (x0 : List (List L)) (x1 : List (List L)) : Ans := (bif ((x0.length : Int) != (x1.length : Int)) then ret (false : Bool) else J (.p0 x0 x1 0))
def live : Nat → Live := fun i => match i with | 4 => [(0, none), (1, none), (5, none)] | _ => []
def pats : List Pat := [.rd (.sl 106), .rd (.sl 106)]
def res : RP := .one (.rd (.bool))
noncomputable abbrev E : Env := { T := assoc Tab, G := conG [(88, laws_eqChoice.con)], nt := 27 }
set_option maxRecDepth 100000
theorem step_eq (I : Heads) (p : Pt) : enterC E live I (pid p) (bodyOf Try.f30) (stOf (live (pid p)) (pvs p) (phs p)) (doneK E Try.f30 res) = step (fun q => I (pid q) (pvs q) (phs q)) p := by
  cases p <;> kernel_rfl
theorem start_eq (I : Heads) (ls : List L) : runC E live I (bodyOf Try.f30) (initS pats ls) (doneK E Try.f30 res) = start (fun q => I (pid q) (pvs q) (phs q)) (ls.headD .hole).toSl ((dropT 1 ls).headD .hole).toSl := by kernel_rfl
theorem run_eq (n : Nat) (ls : List L) : runF E live Try.f30 res n (initS pats ls) = start (iter step n) (ls.headD .hole).toSl ((dropT 1 ls).headD .hole).toSl := runF_iter (id := pid) (vs := pvs) (hs := phs) (step := step) (start := fun J => start J (ls.headD .hole).toSl ((dropT 1 ls).headD .hole).toSl) step_eq (fun I => start_eq I ls) n
noncomputable def md (a0 : List MChoice) (a1 : List MChoice) : Bool := eqB a0 a1
def gd (a0 : List MChoice) (a1 : List MChoice) : Prop := True
def acc (ls : List L) : List (List L) × List (List L) := ((ls.headD .hole).toSl, ((dropT 1 ls).headD .hole).toSl)
noncomputable def R : (List (List L) × List (List L)) → Option Bool := RR (p2 gd) (u2 md)
theorem R_eq {a0} {a1} (h : gd a0 a1) : R ((a0.map MChoice.row), (a1.map MChoice.row)) = some (md a0 a1) := RR_eq (a := (a0, a1)) h
noncomputable def con : Con := CN pats res acc R
theorem okF (a0 : List MChoice) (a1 : List MChoice) (hg : gd a0 a1) (h0 : a0.length ≤ maxLen) (h1 : a1.length ≤ maxLen) : ∃ n, start (iter step n) (a0.map MChoice.row) (a1.map MChoice.row) = ret ((md a0 a1) : Bool) := by
  unfold start md
  simp only [List.length_map]
  refine eq_list (pt := fun i => Pt.p0 (a0.map MChoice.row) (a1.map MChoice.row) (i : Int)) (fun hl J i h h2 => ?_) (fun J => ?_)
  · simp only [step, List.length_map, lt_dec h, lt_dec h2, zle_dec, cond_true, toNat_nat, MChoice.at_row h, MChoice.at_row h2]
    rw [wrap_succ h h0]
    rw [call_eq (laws_eqChoice.R_eq (a0 := a0[i]) (a1 := a1[i]) trivial), laws_eqChoice.md]
    cases eqB a0[i] a1[i] <;> rfl
  · simp only [step, List.length_map, nlt_dec, cond_false]
theorem valid_ : Valid Try.prog Ev 30 con := VV (run := fun n x => start (iter step n) x.1 x.2) mix tab_ok (.cons laws_eqChoice.valid_ .nil) Try.func30 (by kernel_rfl) run_eq (fun ls a hl e hg => okF a.1 a.2 hg (by have h : (ls.headD .hole).toSl.length ≤ maxLen := hl.1.len; have e : a.1.map MChoice.row = (ls.headD .hole).toSl := (congrArg (fun x => x.1) e.symm); rw [← e] at h; simpa using h) (by have h : ((dropT 1 ls).headD .hole).toSl.length ≤ maxLen := hl.2.1.len; have e : a.2.map MChoice.row = ((dropT 1 ls).headD .hole).toSl := (congrArg (fun x => x.2) e.symm); rw [← e] at h; simpa using h))
end laws_eqChoiceS
/-! laws.markText -/
namespace laws_markText
inductive Pt where
  | p0 (a : Int) (b : ByteArray)
def pid : Pt → Nat
  | .p0 .. => 4
def pvs : Pt → List V
  | .p0 a b => [.int .i64 a, .str b]
def phs : Pt → List Root
  | .p0 a b => []
noncomputable def step (J : Pt → Ans) : Pt → Ans
  | .p0 a b => (bif (decide (a > 0)) then (bif (decide ((((strL [[L.int (IntKind.u8.wrap (IntKind.i64.wrap (48 + (Int.tmod a 10))))]]).size + b.size : Nat) : Int) > 9223372036854775807)) then none else J (.p0 (IntKind.i64.wrap (Int.tdiv a 10)) ((strL [[L.int (IntKind.u8.wrap (IntKind.i64.wrap (48 + (Int.tmod a 10))))]]) ++ b))) else (bif (decide ((((⟨#[109]⟩ : ByteArray).size + b.size : Nat) : Int) > 9223372036854775807)) then none else ret (((⟨#[109]⟩ : ByteArray) ++ b) : ByteArray)))
noncomputable def start (J : Pt → Ans) (x0 : Int) : Ans := (bif (decide (x0 ≤ 0)) then ret ((⟨#[109, 48]⟩ : ByteArray) : ByteArray) else J (.p0 x0 ⟨#[]⟩))
def live : Nat → Live := fun i => match i with | 4 => [(0, none), (3, none)] | _ => []
def pats : List Pat := [.rd (.int .i64)]
def res : RP := .one (.rd (.str))
noncomputable abbrev E : Env := { T := assoc Tab, G := conG [], nt := 20 }
set_option maxRecDepth 100000
theorem step_eq (I : Heads) (p : Pt) : enterC E live I (pid p) (bodyOf Try.f75) (stOf (live (pid p)) (pvs p) (phs p)) (doneK E Try.f75 res) = step (fun q => I (pid q) (pvs q) (phs q)) p := by
  cases p <;> kernel_rfl
theorem start_eq (I : Heads) (ls : List L) : runC E live I (bodyOf Try.f75) (initS pats ls) (doneK E Try.f75 res) = start (fun q => I (pid q) (pvs q) (phs q)) (ls.headD .hole).toInt := by kernel_rfl
theorem run_eq (n : Nat) (ls : List L) : runF E live Try.f75 res n (initS pats ls) = start (iter step n) (ls.headD .hole).toInt := runF_iter (id := pid) (vs := pvs) (hs := phs) (step := step) (start := fun J => start J (ls.headD .hole).toInt) step_eq (fun I => start_eq I ls) n
noncomputable def dg (a : Int) : ByteArray := strL [[L.int (IntKind.u8.wrap (IntKind.i64.wrap (48 + (Int.tmod a 10))))]]
noncomputable def txt : Nat → Int → ByteArray → ByteArray
  | 0, _, b => b
  | n + 1, a, b => bif decide (a > 0) then txt n (IntKind.i64.wrap (Int.tdiv a 10)) (dg a ++ b) else b
theorem dg_size (a : Int) : (strL [[L.int (IntKind.u8.wrap (IntKind.i64.wrap (48 + (Int.tmod a 10))))]]).size = 1 := rfl
theorem run : ∀ (n : Nat) (a : Int) (b : ByteArray), n ≤ 64 → a < 2 ^ n → I64 a → b.size + n ≤ 1000 → ∃ m, iter step m (.p0 a b) = ret ((⟨#[109]⟩ : ByteArray) ++ txt n a b)
  | 0, a, b, _, h1, _, h3 => by
    refine ⟨1, ?_⟩
    show step _ (.p0 a b) = _
    have e1 : decide (a > 0) = false := decide_eq_false (by simp at h1; omega)
    have e2 : decide ((((⟨#[109]⟩ : ByteArray).size + b.size : Nat) : Int) > 9223372036854775807) = false := decide_eq_false (by have : (⟨#[109]⟩ : ByteArray).size = 1 := rfl; omega)
    simp only [step, e1, e2, cond_false]
    rfl
  | n + 1, a, b, hn, h1, h2, h3 => by
    by_cases hp : a > 0
    · have e1 : decide (a > 0) = true := decide_eq_true hp
      have hq : Int.tdiv a 10 = a / 10 := Int.tdiv_eq_ediv_of_nonneg (by omega)
      unfold I64 at h2
      have hw : IntKind.i64.wrap (Int.tdiv a 10) = a / 10 := by rw [hq]; exact wi _ (by omega)
      have hlt : a / 10 < 2 ^ n := by
        have : (2 : Int) ^ (n + 1) = 2 ^ n * 2 := Int.pow_succ 2 n
        omega
      have hs : (dg a ++ b).size = 1 + b.size := by rw [ByteArray.size_append]; rfl
      obtain ⟨m, hm⟩ := run n (a / 10) (dg a ++ b) (by omega) hlt ⟨by omega, by omega⟩ (by rw [hs]; omega)
      refine ⟨m + 1, ?_⟩
      show step _ (.p0 a b) = _
      have e2 : decide ((((strL [[L.int (IntKind.u8.wrap (IntKind.i64.wrap (48 + (Int.tmod a 10))))]]).size + b.size : Nat) : Int) > 9223372036854775807) = false := decide_eq_false (by rw [dg_size]; omega)
      simp only [step, txt, e1, e2, cond_true, cond_false, hw]
      exact hm
    · refine ⟨1, ?_⟩
      show step _ (.p0 a b) = _
      have e1 : decide (a > 0) = false := decide_eq_false hp
      have e2 : decide ((((⟨#[109]⟩ : ByteArray).size + b.size : Nat) : Int) > 9223372036854775807) = false := decide_eq_false (by have : (⟨#[109]⟩ : ByteArray).size = 1 := rfl; omega)
      simp only [step, txt, e1, e2, cond_false]
noncomputable def md (a0 : Int) : ByteArray := (bif decide (a0 ≤ 0) then (⟨#[109, 48]⟩ : ByteArray) else (⟨#[109]⟩ : ByteArray) ++ txt 64 a0 ⟨#[]⟩)
def gd (a0 : Int) : Prop := I64 a0
def acc (ls : List L) : Int := (ls.headD .hole).toInt
noncomputable def R : Int → Option ByteArray := RR gd md
theorem R_eq {a0} (h : gd a0) : R a0 = some (md a0) := RR_eq (a := a0) h
noncomputable def con : Con := CN pats res acc R
theorem okF (a0 : Int) (hg : gd a0) : ∃ n, start (iter step n) a0 = ret ((md a0) : ByteArray) := by
  unfold gd at hg
  unfold start md
  cases h : decide (a0 ≤ 0)
  · have h2 := hg.2
    have h3 : (2 : Int) ^ 64 = 18446744073709551616 := by decide
    obtain ⟨m, hm⟩ := run 64 a0 ⟨#[]⟩ (Nat.le_refl _) (by rw [h3]; omega) hg (by show 0 + 64 ≤ 1000; omega)
    exact ⟨m, hm⟩
  · exact ⟨0, rfl⟩
theorem valid_ : Valid Try.prog Ev 75 con := VV (run := fun n x => start (iter step n) x) mix tab_ok .nil Try.func75 (by kernel_rfl) run_eq (fun _ a _ _ hg => okF a hg)
end laws_markText
/-! laws.markStringS -/
namespace laws_markStringS
set_option maxRecDepth 100000
set_option maxHeartbeats 8000000
inductive Pt where
  | p0 (a : Int) (b : Int) (c : List (List L))
def pid : Pt → Nat
  | .p0 .. => 2
def pvs : Pt → List V
  | .p0 a b c => [.own 0, .int .i64 a, .int .i64 b]
def phs : Pt → List Root
  | .p0 a b c => [.row 9 c]
noncomputable def step (J : Pt → Ans) : Pt → Ans
  | .p0 a b c => (bif (decide (b < (c.length : Int))) then (call (laws_markText.R a) fun v1 => (bif (decide ((0 : Int) ≤ b)) then (bif (decide (b < (c.length : Int))) then J (.p0 (IntKind.i64.wrap (a + 1)) (IntKind.i64.wrap (b + 1)) (List.set c (Int.toNat b) [L.str v1])) else none) else none)) else ret ((a, c) : Int × List (List L)))
noncomputable def start (J : Pt → Ans) (x0 : List (List L)) (x1 : Int) : Ans := J (.p0 x1 0 x0)
def live : Nat → Live := fun i => match i with | 2 => [(0, none), (1, none), (5, none)] | _ => []
def pats : List (Bool × List K) := [(false, [.sl 9]), (false, [.int .i64])]
def res : RP := .chg [9]
noncomputable abbrev E : Env := { T := assoc Tab, G := conG [(75, laws_markText.con)], nt := 20, M := conM [], np := 1, mt := true }
set_option maxRecDepth 100000
theorem step_eq (I : Heads) (p : Pt) : enterC E live I (pid p) (bodyOf Try.f34) (stOf (live (pid p)) (pvs p) (phs p)) (doneK E Try.f34 res) = step (fun q => I (pid q) (pvs q) (phs q)) p := by
  cases p <;> kernel_rfl
theorem start_eq (I : Heads) (ls : List L) : runC E live I (bodyOf Try.f34) (initM pats ls) (doneK E Try.f34 res) = start (fun q => I (pid q) (pvs q) (phs q)) (ls.headD .hole).toSl ((dropT 1 ls).headD .hole).toInt := by kernel_rfl
theorem run_eq (n : Nat) (ls : List L) : runF E live Try.f34 res n (initM pats ls) = start (iter step n) (ls.headD .hole).toSl ((dropT 1 ls).headD .hole).toInt := runF_iter (id := pid) (vs := pvs) (hs := phs) (step := step) (start := fun J => start J (ls.headD .hole).toSl ((dropT 1 ls).headD .hole).toInt) step_eq (fun I => start_eq I ls) n
noncomputable def el (x : ByteArray) (k : Int) : Int × ByteArray := ((IntKind.i64.wrap (k + 1)), (laws_markText.md k))
theorem el_I (x : ByteArray) (k : Int) (hk : I64 k) : I64 (el x k).1 := (wrap_I64 _)
noncomputable def cnt (x : ByteArray) : Nat := 1
noncomputable def sum (a : List ByteArray) : Nat := (a.map cnt).sum
noncomputable def md (a0 : List ByteArray) (a1 : Int) : Int × List ByteArray := accM el a0 a1
def gd (a0 : List ByteArray) (a1 : Int) : Prop := I64 a1
def acc (ls : List L) : List (List L) × Int := ((ls.headD .hole).toSl, ((dropT 1 ls).headD .hole).toInt)
noncomputable def R : (List (List L) × Int) → Option (Int × List (List L)) := RR (p2 gd) (u2 md)
theorem R_eq {a0} {a1} (h : gd a0 a1) : R ((a0.map sRow), a1) = some ((md a0 a1).1, ((md a0 a1).2.map sRow)) := RR_eq (a := (a0, a1)) h
noncomputable def con : MCon := MN pats acc R
theorem okF (a0 : List ByteArray) (a1 : Int) (hg : gd a0 a1) (h0 : a0.length ≤ maxLen) : ∃ n, start (iter step n) (a0.map sRow) a1 = ret (((md a0 a1).1, ((md a0 a1).2.map sRow)) : Int × List (List L)) := by
  unfold gd at hg
  show ∃ n, iter step n (Pt.p0 a1 0 (a0.map sRow)) = _
  unfold md
  refine mark_loop (el := el) (xs := a0) ⟨#[]⟩ I64 el_I (pt := fun i k c => Pt.p0 k (i : Int) (c.map sRow)) (out := fun b => ret (b.1, b.2.map sRow)) (fun J i k c hi hc hk => ?_) (fun J k c hc => ?_) hg
  · have hm : c.length ≤ maxLen := hc ▸ h0
    simp only [step, S0]
    refine yes_ret (lt_dec hi) ?_
    refine call_to (laws_markText.md k) (laws_markText.R_eq (a0 := k) hk) ?_
    refine yes_ret zle_dec ?_
    refine yes_ret (lt_dec hi) ?_
    rw [wrap_succ hi hm]
    exact congrArg (fun q => J (Pt.p0 (el (c.getD i ⟨#[]⟩) k).1 ((i + 1 : Nat) : Int) q)) (List.map_set (f := sRow) (l := c) (i := i) (a := (el (c.getD i ⟨#[]⟩) k).2)).symm
  · simp only [step, S0]
    refine no_ret (by apply decide_eq_false; omega) ?_
    rfl
theorem valid_ : MValid Try.prog Ev 34 con := MV (run := fun n x => start (iter step n) x.1 x.2) mix tab_ok (.cons laws_markText.valid_ .nil) .nil Try.func34 (by kernel_rfl) run_eq (fun ls a hl e hg => okF a.1 a.2 hg (by have h : (ls.headD .hole).toSl.length ≤ maxLen := (hl _ _ (.head _)).len; have e : a.1.map sRow = (ls.headD .hole).toSl := (congrArg (fun x => x.1) e.symm); rw [← e] at h; simpa using h))
theorem i64 {a0 : List ByteArray} {a1 : Int} (h : I64 a1) : I64 (md a0 a1).1 := accM_I el_I h
theorem elk (x : ByteArray) (k : Int) (h0 : 0 ≤ k) (hb : k + (cnt x : Int) ≤ 4611686018427387904) : (el x k).1 = k + cnt x := by
  simp only [cnt, Int.natCast_add] at hb ⊢
  simp (disch := omega) only [el, wi]
  all_goals first | done | omega
theorem kk (a0 : List ByteArray) (a1 : Int) (h0 : 0 ≤ a1) (hb : a1 + (sum a0 : Int) ≤ 4611686018427387904) : (md a0 a1).1 = a1 + sum a0 := accM_sum elk a0 a1 h0 hb
theorem sz (a : List ByteArray) : sum a ≤ 60 * (szL (fun y : ByteArray => y.size) a) := sum_le (fun x => by
    try simp only [cnt] at *
    omega) a
end laws_markStringS
/-! laws.markChoiceS -/
namespace laws_markChoiceS
set_option maxRecDepth 100000
set_option maxHeartbeats 8000000
inductive Pt where
  | p0 (a : Int) (b : Int) (c : List (List L))
def pid : Pt → Nat
  | .p0 .. => 2
def pvs : Pt → List V
  | .p0 a b c => [.own 0, .int .i64 a, .int .i64 b]
def phs : Pt → List Root
  | .p0 a b c => [.row 106 c]
noncomputable def step (J : Pt → Ans) : Pt → Ans
  | .p0 a b c => (bif (decide (b < (c.length : Int))) then (bif (decide ((0 : Int) ≤ b)) then (bif (decide (b < (c.length : Int))) then (call (laws_markStringS.R ((RChoice.at c (Int.toNat b)).fPath, a)) fun v1 => (call (laws_markText.R v1.1) fun v2 => (bif (decide ((0 : Int) ≤ b)) then (bif (decide (b < (c.length : Int))) then (bif (Nat.beq (Int.toNat b) (Int.toNat b) && true) then (bif (decide ((0 : Int) ≤ b)) then (bif (decide (b < (c.length : Int))) then (bif (Nat.beq (Int.toNat b) (Int.toNat b) && true) then (bif (decide ((0 : Int) ≤ b)) then (bif (decide (b < (c.length : Int))) then (bif (Nat.beq (Int.toNat b) (Int.toNat b) && true) then (bif (decide ((0 : Int) ≤ b)) then (bif (decide (b < (c.length : Int))) then (bif (Nat.beq (Int.toNat b) (Int.toNat b) && true) then (bif (Nat.beq (Int.toNat b) (Int.toNat b) && true) then (call (laws_markStringS.R ((RChoice.at c (Int.toNat b)).fEntry.fPath, (IntKind.i64.wrap ((IntKind.i64.wrap ((IntKind.i64.wrap (v1.1 + 1)) + 1)) + 1)))) fun v3 => J (.p0 v3.1 (IntKind.i64.wrap (b + 1)) (List.set c (Int.toNat b) (RChoice.enc (⟨v1.2, (⟨v2, (IntKind.i64.wrap (v1.1 + 1)), (IntKind.i64.wrap ((IntKind.i64.wrap (v1.1 + 1)) + 1)), v3.2⟩ : REntry)⟩ : RChoice))))) else none) else none) else none) else none) else none) else none) else none) else none) else none) else none) else none) else none) else none))) else none) else none) else ret ((a, c) : Int × List (List L)))
noncomputable def start (J : Pt → Ans) (x0 : List (List L)) (x1 : Int) : Ans := J (.p0 x1 0 x0)
def live : Nat → Live := fun i => match i with | 2 => [(0, none), (1, none), (5, none)] | _ => []
def pats : List (Bool × List K) := [(false, [.sl 106]), (false, [.int .i64])]
def res : RP := .chg [106]
noncomputable abbrev E : Env := { T := assoc Tab, G := conG [(75, laws_markText.con)], nt := 53, M := conM [(34, laws_markStringS.con)], np := 1, mt := true }
set_option maxRecDepth 100000
theorem step_eq (I : Heads) (p : Pt) : enterC E live I (pid p) (bodyOf Try.f33) (stOf (live (pid p)) (pvs p) (phs p)) (doneK E Try.f33 res) = step (fun q => I (pid q) (pvs q) (phs q)) p := by
  cases p <;> kernel_rfl
theorem start_eq (I : Heads) (ls : List L) : runC E live I (bodyOf Try.f33) (initM pats ls) (doneK E Try.f33 res) = start (fun q => I (pid q) (pvs q) (phs q)) (ls.headD .hole).toSl ((dropT 1 ls).headD .hole).toInt := by kernel_rfl
theorem run_eq (n : Nat) (ls : List L) : runF E live Try.f33 res n (initM pats ls) = start (iter step n) (ls.headD .hole).toSl ((dropT 1 ls).headD .hole).toInt := runF_iter (id := pid) (vs := pvs) (hs := phs) (step := step) (start := fun J => start J (ls.headD .hole).toSl ((dropT 1 ls).headD .hole).toInt) step_eq (fun I => start_eq I ls) n
noncomputable def e1 (x : MChoice) (k : Int) := laws_markStringS.md x.fPath k
noncomputable def e2 (x : MChoice) (k : Int) := laws_markStringS.md ((x.fEntry).fPath) (IntKind.i64.wrap ((IntKind.i64.wrap ((IntKind.i64.wrap ((e1 x k).1 + 1)) + 1)) + 1))
noncomputable def el (x : MChoice) (k : Int) : Int × MChoice := ((e2 x k).1, (⟨(e1 x k).2, (⟨(laws_markText.md ((e1 x k).1)), (IntKind.i64.wrap ((e1 x k).1 + 1)), (IntKind.i64.wrap ((IntKind.i64.wrap ((e1 x k).1 + 1)) + 1)), (e2 x k).2⟩ : MEntry)⟩ : MChoice))
theorem el_I (x : MChoice) (k : Int) (hk : I64 k) : I64 (el x k).1 := (laws_markStringS.i64 (wrap_I64 _))
noncomputable def cnt (x : MChoice) : Nat := 3 + laws_markStringS.sum x.fPath + laws_markStringS.sum ((x.fEntry).fPath)
noncomputable def sum (a : List MChoice) : Nat := (a.map cnt).sum
noncomputable def md (a0 : List MChoice) (a1 : Int) : Int × List MChoice := accM el a0 a1
def gd (a0 : List MChoice) (a1 : Int) : Prop := I64 a1
def acc (ls : List L) : List (List L) × Int := ((ls.headD .hole).toSl, ((dropT 1 ls).headD .hole).toInt)
noncomputable def R : (List (List L) × Int) → Option (Int × List (List L)) := RR (p2 gd) (u2 md)
theorem R_eq {a0} {a1} (h : gd a0 a1) : R ((a0.map MChoice.row), a1) = some ((md a0 a1).1, ((md a0 a1).2.map MChoice.row)) := RR_eq (a := (a0, a1)) h
noncomputable def con : MCon := MN pats acc R
theorem okF (a0 : List MChoice) (a1 : Int) (hg : gd a0 a1) (h0 : a0.length ≤ maxLen) : ∃ n, start (iter step n) (a0.map MChoice.row) a1 = ret (((md a0 a1).1, ((md a0 a1).2.map MChoice.row)) : Int × List (List L)) := by
  unfold gd at hg
  show ∃ n, iter step n (Pt.p0 a1 0 (a0.map MChoice.row)) = _
  unfold md
  refine mark_loop (el := el) (xs := a0) MChoice.zero I64 el_I (pt := fun i k c => Pt.p0 k (i : Int) (c.map MChoice.row)) (out := fun b => ret (b.1, b.2.map MChoice.row)) (fun J i k c hi hc hk => ?_) (fun J k c hc => ?_) hg
  · have hm : c.length ≤ maxLen := hc ▸ h0
    simp only [step, S0, MEntry.rs, MChoice.rs]
    refine yes_ret (lt_dec hi) ?_
    refine yes_ret zle_dec ?_
    refine yes_ret (lt_dec hi) ?_
    refine call_to ((e1 (c.getD i MChoice.zero) k).1, ((e1 (c.getD i MChoice.zero) k).2.map sRow)) (laws_markStringS.R_eq (a0 := (c.getD i MChoice.zero).fPath) (a1 := k) hk) ?_
    refine call_to (laws_markText.md ((e1 (c.getD i MChoice.zero) k).1)) (laws_markText.R_eq (a0 := (e1 (c.getD i MChoice.zero) k).1) (laws_markStringS.i64 hk)) ?_
    refine yes_ret zle_dec ?_
    refine yes_ret (lt_dec hi) ?_
    refine yes_ret (beq_t _) ?_
    refine yes_ret zle_dec ?_
    refine yes_ret (lt_dec hi) ?_
    refine yes_ret (beq_t _) ?_
    refine yes_ret zle_dec ?_
    refine yes_ret (lt_dec hi) ?_
    refine yes_ret (beq_t _) ?_
    refine yes_ret zle_dec ?_
    refine yes_ret (lt_dec hi) ?_
    refine yes_ret (beq_t _) ?_
    refine yes_ret (beq_t _) ?_
    refine call_to ((e2 (c.getD i MChoice.zero) k).1, ((e2 (c.getD i MChoice.zero) k).2.map sRow)) (laws_markStringS.R_eq (a0 := ((c.getD i MChoice.zero).fEntry).fPath) (a1 := IntKind.i64.wrap ((IntKind.i64.wrap ((IntKind.i64.wrap ((e1 (c.getD i MChoice.zero) k).1 + 1)) + 1)) + 1)) (wrap_I64 _)) ?_
    rw [wrap_succ hi hm]
    exact congrArg (fun q => J (Pt.p0 (el (c.getD i MChoice.zero) k).1 ((i + 1 : Nat) : Int) q)) (List.map_set (f := MChoice.row) (l := c) (i := i) (a := (el (c.getD i MChoice.zero) k).2)).symm
  · simp only [step, S0, MEntry.rs, MChoice.rs]
    refine no_ret (by apply decide_eq_false; omega) ?_
    rfl
theorem valid_ : MValid Try.prog Ev 33 con := MV (run := fun n x => start (iter step n) x.1 x.2) mix tab_ok (.cons laws_markText.valid_ .nil) (.cons laws_markStringS.valid_ .nil) Try.func33 (by kernel_rfl) run_eq (fun ls a hl e hg => okF a.1 a.2 hg (by have h : (ls.headD .hole).toSl.length ≤ maxLen := (hl _ _ (.head _)).len; have e : a.1.map MChoice.row = (ls.headD .hole).toSl := (congrArg (fun x => x.1) e.symm); rw [← e] at h; simpa using h))
theorem i64 {a0 : List MChoice} {a1 : Int} (h : I64 a1) : I64 (md a0 a1).1 := accM_I el_I h
theorem elk (x : MChoice) (k : Int) (h0 : 0 ≤ k) (hb : k + (cnt x : Int) ≤ 4611686018427387904) : (el x k).1 = k + cnt x := by
  simp only [cnt, Int.natCast_add] at hb ⊢
  simp (disch := omega) only [el, e1, e2, wi, laws_markStringS.kk]
  all_goals first | done | omega
theorem kk (a0 : List MChoice) (a1 : Int) (h0 : 0 ≤ a1) (hb : a1 + (sum a0 : Int) ≤ 4611686018427387904) : (md a0 a1).1 = a1 + sum a0 := accM_sum elk a0 a1 h0 hb
theorem sz (a : List MChoice) : sum a ≤ 60 * (szL (fun y : MChoice => MChoice.size y) a) := sum_le (fun x => by
    have := laws_markStringS.sz x.fPath
    have := laws_markStringS.sz ((x.fEntry).fPath)
    try simp only [cnt, MChoice.size, MEntry.size] at *
    omega) a
end laws_markChoiceS
/-! laws.markEntry -/
namespace laws_markEntry
set_option maxRecDepth 100000
set_option maxHeartbeats 8000000
noncomputable def F (x0 : REntry) (x1 : Int) : Ans := (call (laws_markStringS.R (x0.fPath, x1)) fun v1 => ret ((v1.1, v1.2) : Int × List (List L)))
def pats : List (Bool × List K) := [(true, [.str, .int .i64, .int .i64, .sl 9]), (false, [.int .i64])]
def res : RP := .chg [9]
noncomputable abbrev E : Env := { T := assoc Tab, G := conG [], nt := 10, M := conM [(34, laws_markStringS.con)], np := 1, mt := true }
set_option maxRecDepth 100000
theorem run_eq (n : Nat) (ls : List L) : runF E (fun _ => []) Try.f35 res n (initM pats ls) = F (REntry.dec ls) ((dropT 4 ls).headD .hole).toInt := by kernel_rfl
noncomputable def e1 (x : MEntry) (k : Int) := laws_markStringS.md x.fPath k
noncomputable def sum (x : MEntry) : Nat := 0 + laws_markStringS.sum x.fPath
noncomputable def md (a0 : MEntry) (a1 : Int) : Int × List ByteArray := ((e1 a0 a1).1, (e1 a0 a1).2)
def gd (a0 : MEntry) (a1 : Int) : Prop := I64 a1
def acc (ls : List L) : REntry × Int := ((REntry.dec ls), ((dropT 4 ls).headD .hole).toInt)
noncomputable def R : (REntry × Int) → Option (Int × List (List L)) := RR (p2 gd) (u2 md)
theorem R_eq {a0} {a1} (h : gd a0 a1) : R ((MEntry.r a0), a1) = some ((md a0 a1).1, ((md a0 a1).2.map sRow)) := RR_eq (a := (a0, a1)) h
noncomputable def con : MCon := MN pats acc R
theorem okF (a0 : MEntry) (a1 : Int) (hg : gd a0 a1) : F (MEntry.r a0) a1 = ret (((md a0 a1).1, ((md a0 a1).2.map sRow)) : Int × List (List L)) := by
  unfold gd at hg
  simp only [F, S0, MEntry.rs]
  unfold md
  refine call_to ((e1 a0 a1).1, ((e1 a0 a1).2.map sRow)) (laws_markStringS.R_eq (a0 := a0.fPath) (a1 := a1) hg) ?_
  first | rfl | (simp only [S0, MEntry.rs]; rfl)
theorem valid_ : MValid Try.prog Ev 35 con := MV (run := fun _ x => F x.1 x.2) mix tab_ok .nil (.cons laws_markStringS.valid_ .nil) Try.func35 (by kernel_rfl) run_eq (fun _ a _ _ hg => ⟨0, okF a.1 a.2 hg⟩)
theorem i64 {a0 : MEntry} {a1 : Int} (hk : I64 a1) : I64 (md a0 a1).1 := (laws_markStringS.i64 hk)
theorem kk (x : MEntry) (k : Int) (h0 : 0 ≤ k) (hb : k + (sum x : Int) ≤ 4611686018427387904) : (md x k).1 = k + sum x := by
  simp only [sum, Int.natCast_add] at hb ⊢
  simp (disch := omega) only [md, e1, wi, laws_markStringS.kk]
  all_goals first | done | omega
theorem sz (x : MEntry) : sum x ≤ 60 * MEntry.size x := by
    have := laws_markStringS.sz x.fPath
    try simp only [sum, MEntry.size] at *
    omega
noncomputable def upd (x : MEntry) (k : Int) : MEntry := (⟨x.fLabel, x.fKind, x.fValue, (md x k).2⟩ : MEntry)
end laws_markEntry
/-! laws.heldStringS -/
namespace laws_heldStringS
set_option maxRecDepth 100000
set_option maxHeartbeats 8000000
inductive Pt where
  | p0 (a : List (List L)) (b : Int) (c : Int)
def pid : Pt → Nat
  | .p0 .. => 2
def pvs : Pt → List V
  | .p0 a b c => [.sl none 9 a, .int .i64 b, .int .i64 c]
def phs : Pt → List Root
  | .p0 a b c => []
noncomputable def step (J : Pt → Ans) : Pt → Ans
  | .p0 a b c => (bif (decide (c < (a.length : Int))) then (bif (decide ((0 : Int) ≤ c)) then (bif (decide (c < (a.length : Int))) then (call (laws_markText.R b) fun v1 => (bif (!((sAt a (Int.toNat c)) == v1)) then ret ((-1) : Int) else J (.p0 a (IntKind.i64.wrap (b + 1)) (IntKind.i64.wrap (c + 1))))) else none) else none) else ret (b : Int))
noncomputable def start (J : Pt → Ans) (x0 : List (List L)) (x1 : Int) : Ans := J (.p0 x0 x1 0)
def live : Nat → Live := fun i => match i with | 2 => [(0, none), (1, none), (5, none)] | _ => []
def pats : List Pat := [.rd (.sl 9), .rd (.int .i64)]
def res : RP := .one (.rd (.int .i64))
noncomputable abbrev E : Env := { T := assoc Tab, G := conG [(75, laws_markText.con)], nt := 22 }
set_option maxRecDepth 100000
theorem step_eq (I : Heads) (p : Pt) : enterC E live I (pid p) (bodyOf Try.f89) (stOf (live (pid p)) (pvs p) (phs p)) (doneK E Try.f89 res) = step (fun q => I (pid q) (pvs q) (phs q)) p := by
  cases p <;> kernel_rfl
theorem start_eq (I : Heads) (ls : List L) : runC E live I (bodyOf Try.f89) (initS pats ls) (doneK E Try.f89 res) = start (fun q => I (pid q) (pvs q) (phs q)) (ls.headD .hole).toSl ((dropT 1 ls).headD .hole).toInt := by kernel_rfl
theorem run_eq (n : Nat) (ls : List L) : runF E live Try.f89 res n (initS pats ls) = start (iter step n) (ls.headD .hole).toSl ((dropT 1 ls).headD .hole).toInt := runF_iter (id := pid) (vs := pvs) (hs := phs) (step := step) (start := fun J => start J (ls.headD .hole).toSl ((dropT 1 ls).headD .hole).toInt) step_eq (fun I => start_eq I ls) n
noncomputable def f (x : ByteArray) (k : Int) : Option Int := (bif (!(x == (laws_markText.md k))) then none else (some (IntKind.i64.wrap (k + 1))))
theorem f_I (x : ByteArray) (k k2 : Int) (hk : I64 k) (h : f x k = some k2) : I64 k2 := by
  unfold f at h
  have h := bif_some h
  injection h with h
  subst h
  exact (wrap_I64 _)
noncomputable def md (a0 : List ByteArray) (a1 : Int) : Int := heldM f a0 a1
def gd (a0 : List ByteArray) (a1 : Int) : Prop := I64 a1
def acc (ls : List L) : List (List L) × Int := ((ls.headD .hole).toSl, ((dropT 1 ls).headD .hole).toInt)
noncomputable def R : (List (List L) × Int) → Option Int := RR (p2 gd) (u2 md)
theorem R_eq {a0} {a1} (h : gd a0 a1) : R ((a0.map sRow), a1) = some (md a0 a1) := RR_eq (a := (a0, a1)) h
noncomputable def con : Con := CN pats res acc R
theorem okF (a0 : List ByteArray) (a1 : Int) (hg : gd a0 a1) (h0 : a0.length ≤ maxLen) : ∃ n, start (iter step n) (a0.map sRow) a1 = ret ((md a0 a1) : Int) := by
  unfold gd at hg
  show ∃ n, iter step n (Pt.p0 (a0.map sRow) a1 0) = _
  unfold md
  refine held_loop (f := f) (xs := a0) ⟨#[]⟩ I64 f_I (pt := fun i k => Pt.p0 (a0.map sRow) k (i : Int)) (fun J i k hi hk => ?_) (fun J k => ?_) hg
  · simp only [step, S0]
    refine yes_ret (lt_dec hi) ?_
    refine yes_ret zle_dec ?_
    refine yes_ret (lt_dec hi) ?_
    refine call_to (laws_markText.md k) (laws_markText.R_eq (a0 := k) hk) ?_
    refine held_bif rfl ?_
    rw [wrap_succ hi h0]
    rfl
  · simp only [step, S0]
    refine no_ret (by apply decide_eq_false; omega) ?_
    rfl
theorem valid_ : Valid Try.prog Ev 89 con := VV (run := fun n x => start (iter step n) x.1 x.2) mix tab_ok (.cons laws_markText.valid_ .nil) Try.func89 (by kernel_rfl) run_eq (fun ls a hl e hg => okF a.1 a.2 hg (by have h : (ls.headD .hole).toSl.length ≤ maxLen := hl.1.len; have e : a.1.map sRow = (ls.headD .hole).toSl := (congrArg (fun x => x.1) e.symm); rw [← e] at h; simpa using h))
theorem i64 {a0 : List ByteArray} {a1 : Int} (h : I64 a1) : I64 (md a0 a1) := heldM_I f_I I64_neg h
theorem elh (x : ByteArray) (k : Int) (h0 : 0 ≤ k) (hb : k + (laws_markStringS.cnt x : Int) ≤ 4611686018427387904) : f (laws_markStringS.el x k).2 k = some (k + laws_markStringS.cnt x) := by
  simp only [laws_markStringS.cnt, Int.natCast_add] at hb ⊢
  simp (disch := omega) only [laws_markStringS.el, f, wi, bne_self_eq_false, beq_self_eq_true, ba_refl, Bool.not_true, cond_false, dec_neg]
  all_goals first | done | omega | (congr 1 <;> omega)
theorem mk (a0 : List ByteArray) (a1 : Int) (h0 : 0 ≤ a1) (hb : a1 + (laws_markStringS.sum a0 : Int) ≤ 4611686018427387904) : md (laws_markStringS.md a0 a1).2 a1 = a1 + laws_markStringS.sum a0 := held_mark laws_markStringS.elk elh a0 a1 h0 hb
end laws_heldStringS
/-! laws.heldChoiceS -/
namespace laws_heldChoiceS
set_option maxRecDepth 100000
set_option maxHeartbeats 8000000
inductive Pt where
  | p0 (a : List (List L)) (b : Int) (c : Int)
def pid : Pt → Nat
  | .p0 .. => 2
def pvs : Pt → List V
  | .p0 a b c => [.sl none 106 a, .int .i64 b, .int .i64 c]
def phs : Pt → List Root
  | .p0 a b c => []
noncomputable def step (J : Pt → Ans) : Pt → Ans
  | .p0 a b c => (bif (decide (c < (a.length : Int))) then (bif (decide ((0 : Int) ≤ c)) then (bif (decide (c < (a.length : Int))) then (call (laws_heldStringS.R ((RChoice.at a (Int.toNat c)).fPath, b)) fun v1 => (bif (decide (v1 < 0)) then ret ((-1) : Int) else (bif (decide ((0 : Int) ≤ c)) then (bif (decide (c < (a.length : Int))) then (call (laws_markText.R v1) fun v2 => (bif (!((RChoice.at a (Int.toNat c)).fEntry.fLabel == v2)) then ret ((-1) : Int) else (bif (decide ((0 : Int) ≤ c)) then (bif (decide (c < (a.length : Int))) then (bif ((RChoice.at a (Int.toNat c)).fEntry.fKind != (IntKind.i64.wrap (v1 + 1))) then ret ((-1) : Int) else (bif (decide ((0 : Int) ≤ c)) then (bif (decide (c < (a.length : Int))) then (bif ((RChoice.at a (Int.toNat c)).fEntry.fValue != (IntKind.i64.wrap ((IntKind.i64.wrap (v1 + 1)) + 1))) then ret ((-1) : Int) else (bif (decide ((0 : Int) ≤ c)) then (bif (decide (c < (a.length : Int))) then (call (laws_heldStringS.R ((RChoice.at a (Int.toNat c)).fEntry.fPath, (IntKind.i64.wrap ((IntKind.i64.wrap ((IntKind.i64.wrap (v1 + 1)) + 1)) + 1)))) fun v3 => (bif (decide (v3 < 0)) then ret ((-1) : Int) else J (.p0 a v3 (IntKind.i64.wrap (c + 1))))) else none) else none)) else none) else none)) else none) else none))) else none) else none))) else none) else none) else ret (b : Int))
noncomputable def start (J : Pt → Ans) (x0 : List (List L)) (x1 : Int) : Ans := J (.p0 x0 x1 0)
def live : Nat → Live := fun i => match i with | 2 => [(0, none), (1, none), (5, none)] | _ => []
def pats : List Pat := [.rd (.sl 106), .rd (.int .i64)]
def res : RP := .one (.rd (.int .i64))
noncomputable abbrev E : Env := { T := assoc Tab, G := conG [(89, laws_heldStringS.con), (75, laws_markText.con)], nt := 63 }
set_option maxRecDepth 100000
theorem step_eq (I : Heads) (p : Pt) : enterC E live I (pid p) (bodyOf Try.f36) (stOf (live (pid p)) (pvs p) (phs p)) (doneK E Try.f36 res) = step (fun q => I (pid q) (pvs q) (phs q)) p := by
  cases p <;> kernel_rfl
theorem start_eq (I : Heads) (ls : List L) : runC E live I (bodyOf Try.f36) (initS pats ls) (doneK E Try.f36 res) = start (fun q => I (pid q) (pvs q) (phs q)) (ls.headD .hole).toSl ((dropT 1 ls).headD .hole).toInt := by kernel_rfl
theorem run_eq (n : Nat) (ls : List L) : runF E live Try.f36 res n (initS pats ls) = start (iter step n) (ls.headD .hole).toSl ((dropT 1 ls).headD .hole).toInt := runF_iter (id := pid) (vs := pvs) (hs := phs) (step := step) (start := fun J => start J (ls.headD .hole).toSl ((dropT 1 ls).headD .hole).toInt) step_eq (fun I => start_eq I ls) n
noncomputable def e1 (x : MChoice) (k : Int) := laws_heldStringS.md x.fPath k
noncomputable def e2 (x : MChoice) (k : Int) := laws_heldStringS.md ((x.fEntry).fPath) (IntKind.i64.wrap ((IntKind.i64.wrap ((IntKind.i64.wrap ((e1 x k) + 1)) + 1)) + 1))
noncomputable def f (x : MChoice) (k : Int) : Option Int := (bif (decide ((e1 x k) < 0)) then none else (bif (!((x.fEntry).fLabel == (laws_markText.md (e1 x k)))) then none else (bif ((x.fEntry).fKind != (IntKind.i64.wrap ((e1 x k) + 1))) then none else (bif ((x.fEntry).fValue != (IntKind.i64.wrap ((IntKind.i64.wrap ((e1 x k) + 1)) + 1))) then none else (bif (decide ((e2 x k) < 0)) then none else (some (e2 x k)))))))
theorem f_I (x : MChoice) (k k2 : Int) (hk : I64 k) (h : f x k = some k2) : I64 k2 := by
  unfold f at h
  have h := bif_some h
  have h := bif_some h
  have h := bif_some h
  have h := bif_some h
  have h := bif_some h
  injection h with h
  subst h
  exact (laws_heldStringS.i64 (wrap_I64 _))
noncomputable def md (a0 : List MChoice) (a1 : Int) : Int := heldM f a0 a1
def gd (a0 : List MChoice) (a1 : Int) : Prop := I64 a1
def acc (ls : List L) : List (List L) × Int := ((ls.headD .hole).toSl, ((dropT 1 ls).headD .hole).toInt)
noncomputable def R : (List (List L) × Int) → Option Int := RR (p2 gd) (u2 md)
theorem R_eq {a0} {a1} (h : gd a0 a1) : R ((a0.map MChoice.row), a1) = some (md a0 a1) := RR_eq (a := (a0, a1)) h
noncomputable def con : Con := CN pats res acc R
theorem okF (a0 : List MChoice) (a1 : Int) (hg : gd a0 a1) (h0 : a0.length ≤ maxLen) : ∃ n, start (iter step n) (a0.map MChoice.row) a1 = ret ((md a0 a1) : Int) := by
  unfold gd at hg
  show ∃ n, iter step n (Pt.p0 (a0.map MChoice.row) a1 0) = _
  unfold md
  refine held_loop (f := f) (xs := a0) MChoice.zero I64 f_I (pt := fun i k => Pt.p0 (a0.map MChoice.row) k (i : Int)) (fun J i k hi hk => ?_) (fun J k => ?_) hg
  · simp only [step, S0, MEntry.rs, MChoice.rs]
    refine yes_ret (lt_dec hi) ?_
    refine yes_ret zle_dec ?_
    refine yes_ret (lt_dec hi) ?_
    refine call_to (e1 (a0.getD i MChoice.zero) k) (laws_heldStringS.R_eq (a0 := (a0.getD i MChoice.zero).fPath) (a1 := k) hk) ?_
    refine held_bif rfl ?_
    refine yes_ret zle_dec ?_
    refine yes_ret (lt_dec hi) ?_
    refine call_to (laws_markText.md (e1 (a0.getD i MChoice.zero) k)) (laws_markText.R_eq (a0 := e1 (a0.getD i MChoice.zero) k) (laws_heldStringS.i64 hk)) ?_
    refine held_bif rfl ?_
    refine yes_ret zle_dec ?_
    refine yes_ret (lt_dec hi) ?_
    refine held_bif rfl ?_
    refine yes_ret zle_dec ?_
    refine yes_ret (lt_dec hi) ?_
    refine held_bif rfl ?_
    refine yes_ret zle_dec ?_
    refine yes_ret (lt_dec hi) ?_
    refine call_to (e2 (a0.getD i MChoice.zero) k) (laws_heldStringS.R_eq (a0 := ((a0.getD i MChoice.zero).fEntry).fPath) (a1 := IntKind.i64.wrap ((IntKind.i64.wrap ((IntKind.i64.wrap ((e1 (a0.getD i MChoice.zero) k) + 1)) + 1)) + 1)) (wrap_I64 _)) ?_
    refine held_bif rfl ?_
    rw [wrap_succ hi h0]
    rfl
  · simp only [step, S0, MEntry.rs, MChoice.rs]
    refine no_ret (by apply decide_eq_false; omega) ?_
    rfl
theorem valid_ : Valid Try.prog Ev 36 con := VV (run := fun n x => start (iter step n) x.1 x.2) mix tab_ok (.cons laws_heldStringS.valid_ (.cons laws_markText.valid_ .nil)) Try.func36 (by kernel_rfl) run_eq (fun ls a hl e hg => okF a.1 a.2 hg (by have h : (ls.headD .hole).toSl.length ≤ maxLen := hl.1.len; have e : a.1.map MChoice.row = (ls.headD .hole).toSl := (congrArg (fun x => x.1) e.symm); rw [← e] at h; simpa using h))
theorem i64 {a0 : List MChoice} {a1 : Int} (h : I64 a1) : I64 (md a0 a1) := heldM_I f_I I64_neg h
theorem elh (x : MChoice) (k : Int) (h0 : 0 ≤ k) (hb : k + (laws_markChoiceS.cnt x : Int) ≤ 4611686018427387904) : f (laws_markChoiceS.el x k).2 k = some (k + laws_markChoiceS.cnt x) := by
  simp only [laws_markChoiceS.cnt, Int.natCast_add] at hb ⊢
  simp (disch := omega) only [laws_markChoiceS.el, f, laws_markChoiceS.e1, laws_markChoiceS.e2, e1, e2, wi, laws_markStringS.kk, laws_heldStringS.mk, bne_self_eq_false, beq_self_eq_true, ba_refl, Bool.not_true, cond_false, dec_neg]
  all_goals first | done | omega | (congr 1 <;> omega)
theorem mk (a0 : List MChoice) (a1 : Int) (h0 : 0 ≤ a1) (hb : a1 + (laws_markChoiceS.sum a0 : Int) ≤ 4611686018427387904) : md (laws_markChoiceS.md a0 a1).2 a1 = a1 + laws_markChoiceS.sum a0 := held_mark laws_markChoiceS.elk elh a0 a1 h0 hb
end laws_heldChoiceS
/-! laws.FnExactPutChoice -/
namespace laws_FnExactPutChoice
noncomputable def F (x0 : List (List L)) (x1 : List (List L)) (x2 : REntry) : Ans := (call (laws_szChoiceS.R (x0, 1048576)) fun v1 => (bif (decide (v1 < 0)) then ret (true : Bool) else (call (laws_szStringS.R (x1, v1)) fun v2 => (bif (decide (v2 < 0)) then ret (true : Bool) else (call (laws_szEntry.R (x2, v2)) fun v3 => (bif (decide (v3 < 0)) then ret (true : Bool) else (call (laws_toChoiceS.R x0) fun v4 => (call (laws_toStringS.R x1) fun v5 => (call (laws_toEntry.R x2) fun v6 => (call (spec_PutChoice.R (v4, v5, v6)) fun v7 => (call (laws_toChoiceS.R x0) fun v8 => (call (laws_toStringS.R x1) fun v9 => (call (laws_toEntry.R x2) fun v10 => (call (impl_PutChoice.R (v8, v9, v10)) fun v11 => (call (laws_eqChoiceS.R (v11.1, v7.1)) fun v12 => (bif (!v12) then ret (false : Bool) else (bif (!(v11.2 == v7.2)) then ret (false : Bool) else (call (laws_toChoiceS.R x0) fun v13 => (call (laws_eqChoiceS.R (v8, v13)) fun v14 => (bif (!v14) then ret (false : Bool) else (call (laws_toStringS.R x1) fun v15 => (call (laws_eqStringS.R (v9, v15)) fun v16 => (bif (!v16) then ret (false : Bool) else (call (laws_toEntry.R x2) fun v17 => (call (laws_eqEntry.R (v10, v17)) fun v18 => (bif (!v18) then ret (false : Bool) else (call (laws_markChoiceS.R (v8, 1)) fun v19 => (call (laws_markStringS.R (v9, v19.1)) fun v20 => (call (laws_markEntry.R (v10, v20.1)) fun v21 => (bif (decide (v21.1 < 0)) then ret (false : Bool) else (call (laws_eqChoiceS.R (v11.1, v7.1)) fun v22 => (bif (!v22) then ret (false : Bool) else (bif (!(v11.2 == v7.2)) then ret (false : Bool) else (call (laws_markChoiceS.R (v11.1, 1)) fun v23 => (call (laws_heldChoiceS.R (v23.2, 1)) fun v24 => (bif (decide (v24 < 0)) then ret (false : Bool) else (bif (v24 != v23.1) then ret (false : Bool) else (call (laws_toChoiceS.R x0) fun v25 => (call (laws_toStringS.R x1) fun v26 => (call (laws_toEntry.R x2) fun v27 => (call (impl_PutChoice.R (v25, v26, v27)) fun v28 => (call (laws_eqChoiceS.R (v28.1, v7.1)) fun v29 => (bif (!v29) then ret (false : Bool) else (bif (!(v28.2 == v7.2)) then ret (false : Bool) else (call (laws_heldChoiceS.R (v23.2, 1)) fun v30 => (bif (decide (v30 < 0)) then ret (false : Bool) else (bif (v30 != v23.1) then ret (false : Bool) else ret (true : Bool))))))))))))))))))))))))))))))))))))))))))))))))
def pats : List Pat := [.rd (.sl 102), .rd (.sl 9), .agg [.str, .int .i64, .int .i64, .sl 9]]
def res : RP := .one (.rd (.bool))
noncomputable abbrev E : Env := { T := assoc Tab, G := conG [(22, laws_szChoiceS.con), (23, laws_szStringS.con), (24, laws_szEntry.con), (26, laws_toChoiceS.con), (27, laws_toStringS.con), (28, laws_toEntry.con), (25, spec_PutChoice.con), (29, impl_PutChoice.con), (30, laws_eqChoiceS.con), (31, laws_eqStringS.con), (32, laws_eqEntry.con), (36, laws_heldChoiceS.con)], nt := 142, M := conM [(33, laws_markChoiceS.con), (34, laws_markStringS.con), (35, laws_markEntry.con)] }
set_option maxRecDepth 100000
theorem run_eq (n : Nat) (ls : List L) : runF E (fun _ => []) Try.f5 res n (initS pats ls) = F (ls.headD .hole).toSl ((dropT 1 ls).headD .hole).toSl (REntry.dec (dropT 2 ls)) := by kernel_rfl
noncomputable def md (a0 : List MChoice) (a1 : List ByteArray) (a2 : MEntry) : Bool := true
def gd (a0 : List MChoice) (a1 : List ByteArray) (a2 : MEntry) : Prop := (SmL maxLen (fun y : MChoice => MChoice.Sm maxLen y) a0) ∧ (SmL maxLen (fun y : ByteArray => y.size ≤ maxLen) a1) ∧ (MEntry.Sm maxLen a2)
def acc (ls : List L) : List (List L) × List (List L) × REntry := ((ls.headD .hole).toSl, ((dropT 1 ls).headD .hole).toSl, (REntry.dec (dropT 2 ls)))
noncomputable def R : (List (List L) × List (List L) × REntry) → Option Bool := RR (p3 gd) (u3 md)
theorem R_eq {a0} {a1} {a2} (h : gd a0 a1 a2) : R ((a0.map MChoice.row), (a1.map sRow), (MEntry.r a2)) = some (md a0 a1 a2) := RR_eq (a := (a0, a1, a2)) h
noncomputable def con : Con := CN pats res acc R
theorem okF (a0 : List MChoice) (a1 : List ByteArray) (a2 : MEntry) (hg : gd a0 a1 a2) : F (a0.map MChoice.row) (a1.map sRow) (MEntry.r a2) = ret ((md a0 a1 a2) : Bool) := by
  unfold md
  show (call (laws_szChoiceS.R ((a0.map MChoice.row), 1048576)) fun v1 => (bif (decide (v1 < 0)) then ret (true : Bool) else (call (laws_szStringS.R ((a1.map sRow), v1)) fun v2 => (bif (decide (v2 < 0)) then ret (true : Bool) else (call (laws_szEntry.R ((MEntry.r a2), v2)) fun v3 => (bif (decide (v3 < 0)) then ret (true : Bool) else (call (laws_toChoiceS.R (a0.map MChoice.row)) fun v4 => (call (laws_toStringS.R (a1.map sRow)) fun v5 => (call (laws_toEntry.R (MEntry.r a2)) fun v6 => (call (spec_PutChoice.R (v4, v5, v6)) fun v7 => (call (laws_toChoiceS.R (a0.map MChoice.row)) fun v8 => (call (laws_toStringS.R (a1.map sRow)) fun v9 => (call (laws_toEntry.R (MEntry.r a2)) fun v10 => (call (impl_PutChoice.R (v8, v9, v10)) fun v11 => (call (laws_eqChoiceS.R (v11.1, v7.1)) fun v12 => (bif (!v12) then ret (false : Bool) else (bif (!(v11.2 == v7.2)) then ret (false : Bool) else (call (laws_toChoiceS.R (a0.map MChoice.row)) fun v13 => (call (laws_eqChoiceS.R (v8, v13)) fun v14 => (bif (!v14) then ret (false : Bool) else (call (laws_toStringS.R (a1.map sRow)) fun v15 => (call (laws_eqStringS.R (v9, v15)) fun v16 => (bif (!v16) then ret (false : Bool) else (call (laws_toEntry.R (MEntry.r a2)) fun v17 => (call (laws_eqEntry.R (v10, v17)) fun v18 => (bif (!v18) then ret (false : Bool) else (call (laws_markChoiceS.R (v8, 1)) fun v19 => (call (laws_markStringS.R (v9, v19.1)) fun v20 => (call (laws_markEntry.R (v10, v20.1)) fun v21 => (bif (decide (v21.1 < 0)) then ret (false : Bool) else (call (laws_eqChoiceS.R (v11.1, v7.1)) fun v22 => (bif (!v22) then ret (false : Bool) else (bif (!(v11.2 == v7.2)) then ret (false : Bool) else (call (laws_markChoiceS.R (v11.1, 1)) fun v23 => (call (laws_heldChoiceS.R (v23.2, 1)) fun v24 => (bif (decide (v24 < 0)) then ret (false : Bool) else (bif (v24 != v23.1) then ret (false : Bool) else (call (laws_toChoiceS.R (a0.map MChoice.row)) fun v25 => (call (laws_toStringS.R (a1.map sRow)) fun v26 => (call (laws_toEntry.R (MEntry.r a2)) fun v27 => (call (impl_PutChoice.R (v25, v26, v27)) fun v28 => (call (laws_eqChoiceS.R (v28.1, v7.1)) fun v29 => (bif (!v29) then ret (false : Bool) else (bif (!(v28.2 == v7.2)) then ret (false : Bool) else (call (laws_heldChoiceS.R (v23.2, 1)) fun v30 => (bif (decide (v30 < 0)) then ret (false : Bool) else (bif (v30 != v23.1) then ret (false : Bool) else ret (true : Bool)))))))))))))))))))))))))))))))))))))))))))))))) = _
  rw [call_eq (laws_szChoiceS.R_eq (a1 := (1048576 : Int)) ⟨hg.1, by omega, by omega⟩)]
  unfold laws_szChoiceS.md
  by_cases c0 : (1048576 : Int) < (((szL (fun y : MChoice => MChoice.size y) a0) : Nat) : Int)
  · rw [szM_neg c0]; rfl
  rw [szM_pos c0, dec_neg (by omega)]
  simp only [cond_false]
  have s0 : SmL (2 ^ 20) (fun y : MChoice => MChoice.Sm (2 ^ 20) y) a0 := (szL_sm (f := fun y : MChoice => MChoice.size y) (by omega) (fun x hx => (MChoice.Sm_of hx)))
  rw [call_eq (laws_szStringS.R_eq (a1 := (1048576 - (((szL (fun y : MChoice => MChoice.size y) a0) : Nat) : Int) : Int)) ⟨hg.2.1, by omega, by omega⟩)]
  unfold laws_szStringS.md
  by_cases c1 : (1048576 - (((szL (fun y : MChoice => MChoice.size y) a0) : Nat) : Int) : Int) < (((szL (fun y : ByteArray => y.size) a1) : Nat) : Int)
  · rw [szM_neg c1]; rfl
  rw [szM_pos c1, dec_neg (by omega)]
  simp only [cond_false]
  have s1 : SmL (2 ^ 20) (fun y : ByteArray => y.size ≤ (2 ^ 20)) a1 := (szL_sm (f := fun y : ByteArray => y.size) (by omega) (fun x hx => hx))
  rw [call_eq (laws_szEntry.R_eq (a1 := (1048576 - (((szL (fun y : MChoice => MChoice.size y) a0) : Nat) : Int) - (((szL (fun y : ByteArray => y.size) a1) : Nat) : Int) : Int)) ⟨hg.2.2, by omega, by omega⟩)]
  unfold laws_szEntry.md
  by_cases c2 : (1048576 - (((szL (fun y : MChoice => MChoice.size y) a0) : Nat) : Int) - (((szL (fun y : ByteArray => y.size) a1) : Nat) : Int) : Int) < (((MEntry.size a2) : Nat) : Int)
  · rw [szM_neg c2]; rfl
  rw [szM_pos c2, dec_neg (by omega)]
  simp only [cond_false]
  have s2 : MEntry.Sm (2 ^ 20) a2 := (MEntry.Sm_of (by omega))
  refine call_to (a0.map MChoice.row) (laws_toChoiceS.R_eq (a0 := a0) (s0.mono (by decide) (fun x hx => (MChoice.Sm_mono (by decide) hx)))) ?_
  refine call_to (a1.map sRow) (laws_toStringS.R_eq (a0 := a1) (s1.mono (by decide) (fun x hx => (Nat.le_trans hx (by decide))))) ?_
  refine call_to (MEntry.r a2) (laws_toEntry.R_eq (a0 := a2) (MEntry.Sm_mono (by decide) s2)) ?_
  refine call_to (((spec_PutChoice.md a0 a1 a2).1.map MChoice.row), (spec_PutChoice.md a0 a1 a2).2) (spec_PutChoice.R_eq (a0 := a0) (a1 := a1) (a2 := a2) (by
    have := And.intro trivial trivial
    unfold spec_PutChoice.gd
    first | exact (s0.mono (by decide) (fun x hx => (MChoice.Sm_mono (by decide) hx))) | refine ⟨(s0.mono (by decide) (fun x hx => (MChoice.Sm_mono (by decide) hx))), (s1.mono (by decide) (fun x hx => (Nat.le_trans hx (by decide)))), (MEntry.Sm_mono (by decide) s2)⟩)) ?_
  refine call_to (a0.map MChoice.row) (laws_toChoiceS.R_eq (a0 := a0) (s0.mono (by decide) (fun x hx => (MChoice.Sm_mono (by decide) hx)))) ?_
  refine call_to (a1.map sRow) (laws_toStringS.R_eq (a0 := a1) (s1.mono (by decide) (fun x hx => (Nat.le_trans hx (by decide))))) ?_
  refine call_to (MEntry.r a2) (laws_toEntry.R_eq (a0 := a2) (MEntry.Sm_mono (by decide) s2)) ?_
  have r_ := impl_PutChoice.R_eq (a0 := a0) (a1 := a1) (a2 := a2) (by
    have := And.intro trivial trivial
    unfold impl_PutChoice.gd
    first | exact (s0.mono (by decide) (fun x hx => (MChoice.Sm_mono (by decide) hx))) | refine ⟨(s0.mono (by decide) (fun x hx => (MChoice.Sm_mono (by decide) hx))), (s1.mono (by decide) (fun x hx => (Nat.le_trans hx (by decide)))), (MEntry.Sm_mono (by decide) s2)⟩)
  rw [impl_PutChoice.br] at r_
  refine call_to (((spec_PutChoice.md a0 a1 a2).1.map MChoice.row), (spec_PutChoice.md a0 a1 a2).2) r_ ?_
  clear r_
  refine call_to _ (laws_eqChoiceS.R_eq (a0 := ((spec_PutChoice.md a0 a1 a2).1)) (a1 := ((spec_PutChoice.md a0 a1 a2).1)) trivial) ?_
  refine no_ret (by first | (simp only [bne_self_eq_false, beq_self_eq_true, ba_refl, eqB_refl, Bool.not_true, laws_eqChoiceS.md]; done) | (refine bne_eq_false_iff_eq.2 ?_; omega)) ?_
  refine no_ret (by first | (simp only [bne_self_eq_false, beq_self_eq_true, ba_refl, eqB_refl, Bool.not_true, laws_eqChoiceS.md]; done) | (refine bne_eq_false_iff_eq.2 ?_; omega)) ?_
  refine call_to (a0.map MChoice.row) (laws_toChoiceS.R_eq (a0 := a0) (s0.mono (by decide) (fun x hx => (MChoice.Sm_mono (by decide) hx)))) ?_
  refine call_to _ (laws_eqChoiceS.R_eq (a0 := a0) (a1 := a0) trivial) ?_
  refine no_ret (by first | (simp only [bne_self_eq_false, beq_self_eq_true, ba_refl, eqB_refl, Bool.not_true, laws_eqChoiceS.md]; done) | (refine bne_eq_false_iff_eq.2 ?_; omega)) ?_
  refine call_to (a1.map sRow) (laws_toStringS.R_eq (a0 := a1) (s1.mono (by decide) (fun x hx => (Nat.le_trans hx (by decide))))) ?_
  refine call_to _ (laws_eqStringS.R_eq (a0 := a1) (a1 := a1) trivial) ?_
  refine no_ret (by first | (simp only [bne_self_eq_false, beq_self_eq_true, ba_refl, eqB_refl, Bool.not_true, laws_eqChoiceS.md, laws_eqStringS.md]; done) | (refine bne_eq_false_iff_eq.2 ?_; omega)) ?_
  refine call_to (MEntry.r a2) (laws_toEntry.R_eq (a0 := a2) (MEntry.Sm_mono (by decide) s2)) ?_
  refine call_to _ (laws_eqEntry.R_eq (a0 := a2) (a1 := a2) trivial) ?_
  refine no_ret (by first | (simp only [bne_self_eq_false, beq_self_eq_true, ba_refl, eqB_refl, Bool.not_true, laws_eqChoiceS.md, laws_eqStringS.md, laws_eqEntry.md]; done) | (refine bne_eq_false_iff_eq.2 ?_; omega)) ?_
  have u1 := laws_markChoiceS.sz a0
  refine call_to ((laws_markChoiceS.md a0 1).1, ((laws_markChoiceS.md a0 1).2.map MChoice.row)) (laws_markChoiceS.R_eq (a0 := a0) (a1 := 1) I64_one) ?_
  have k2 := laws_markChoiceS.kk a0 1 (by omega) (by omega)
  have u3 := laws_markStringS.sz a1
  refine call_to ((laws_markStringS.md a1 ((laws_markChoiceS.md a0 1).1)).1, ((laws_markStringS.md a1 ((laws_markChoiceS.md a0 1).1)).2.map sRow)) (laws_markStringS.R_eq (a0 := a1) (a1 := (laws_markChoiceS.md a0 1).1) (laws_markChoiceS.i64 I64_one)) ?_
  have k4 := laws_markStringS.kk a1 ((laws_markChoiceS.md a0 1).1) (by omega) (by omega)
  have u5 := laws_markEntry.sz a2
  refine call_to ((laws_markEntry.md a2 ((laws_markStringS.md a1 ((laws_markChoiceS.md a0 1).1)).1)).1, ((laws_markEntry.md a2 ((laws_markStringS.md a1 ((laws_markChoiceS.md a0 1).1)).1)).2.map sRow)) (laws_markEntry.R_eq (a0 := a2) (a1 := (laws_markStringS.md a1 ((laws_markChoiceS.md a0 1).1)).1) (laws_markStringS.i64 (laws_markChoiceS.i64 I64_one))) ?_
  have k6 := laws_markEntry.kk a2 ((laws_markStringS.md a1 ((laws_markChoiceS.md a0 1).1)).1) (by omega) (by omega)
  refine no_ret (dec_neg (by omega)) ?_
  refine call_to _ (laws_eqChoiceS.R_eq (a0 := ((spec_PutChoice.md a0 a1 a2).1)) (a1 := ((spec_PutChoice.md a0 a1 a2).1)) trivial) ?_
  refine no_ret (by first | (simp only [bne_self_eq_false, beq_self_eq_true, ba_refl, eqB_refl, Bool.not_true, laws_eqChoiceS.md, laws_eqStringS.md, laws_eqEntry.md]; done) | (refine bne_eq_false_iff_eq.2 ?_; omega)) ?_
  refine no_ret (by first | (simp only [bne_self_eq_false, beq_self_eq_true, ba_refl, eqB_refl, Bool.not_true, laws_eqChoiceS.md, laws_eqStringS.md, laws_eqEntry.md]; done) | (refine bne_eq_false_iff_eq.2 ?_; omega)) ?_
  have u7 : laws_markChoiceS.sum ((spec_PutChoice.md a0 a1 a2).1) ≤ 1000000000000000000 := (by
    have h1 := laws_markChoiceS.sz (spec_PutChoice.md a0 a1 a2).1
    have h2 : szL (fun y : MChoice => MChoice.size y) (spec_PutChoice.md a0 a1 a2).1 ≤ szL (fun y : MChoice => MChoice.size y) a0 + (MChoice.size ⟨a1, a2⟩ + 1) := by
      unfold spec_PutChoice.md
      generalize spec_AreChoices.md a0 = b2
      generalize spec_AreChoices.md (List.set a0 (Int.toNat (spec_l30Find.md a0 a1)) (⟨a1, a2⟩ : MChoice)) = b3
      generalize spec_AreChoices.md (a0 ++ [(⟨a1, a2⟩ : MChoice)]) = b4
      cases decide (spec_l30Find.md a0 a1 ≥ 0) <;> cases b2 <;> cases b3 <;> cases b4 <;> simp only [cond_true, cond_false, Bool.not_true, Bool.not_false] <;> first | exact szL_set a0 _ _ | exact szL_app1 a0 _ | exact Nat.le_add_right _ _
    have h3 : MChoice.size ⟨a1, a2⟩ = szL (fun y : ByteArray => y.size) a1 + MEntry.size a2 := by simp only [MChoice.size]
    omega)
  refine call_to ((laws_markChoiceS.md ((spec_PutChoice.md a0 a1 a2).1) 1).1, ((laws_markChoiceS.md ((spec_PutChoice.md a0 a1 a2).1) 1).2.map MChoice.row)) (laws_markChoiceS.R_eq (a0 := ((spec_PutChoice.md a0 a1 a2).1)) (a1 := 1) I64_one) ?_
  have k8 := laws_markChoiceS.kk ((spec_PutChoice.md a0 a1 a2).1) 1 (by omega) (by omega)
  refine call_to (laws_heldChoiceS.md ((laws_markChoiceS.md ((spec_PutChoice.md a0 a1 a2).1) 1).2) 1) (laws_heldChoiceS.R_eq (a0 := ((laws_markChoiceS.md ((spec_PutChoice.md a0 a1 a2).1) 1).2)) (a1 := 1) I64_one) ?_
  have h9 : (laws_heldChoiceS.md ((laws_markChoiceS.md ((spec_PutChoice.md a0 a1 a2).1) 1).2) 1) = 1 + (laws_markChoiceS.sum ((spec_PutChoice.md a0 a1 a2).1) : Int) := laws_heldChoiceS.mk ((spec_PutChoice.md a0 a1 a2).1) 1 (by omega) (by omega)
  refine no_ret (dec_neg (by omega)) ?_
  refine no_ret (by first | (simp only [bne_self_eq_false, beq_self_eq_true, ba_refl, eqB_refl, Bool.not_true, laws_eqChoiceS.md, laws_eqStringS.md, laws_eqEntry.md]; done) | (refine bne_eq_false_iff_eq.2 ?_; omega)) ?_
  refine call_to (a0.map MChoice.row) (laws_toChoiceS.R_eq (a0 := a0) (s0.mono (by decide) (fun x hx => (MChoice.Sm_mono (by decide) hx)))) ?_
  refine call_to (a1.map sRow) (laws_toStringS.R_eq (a0 := a1) (s1.mono (by decide) (fun x hx => (Nat.le_trans hx (by decide))))) ?_
  refine call_to (MEntry.r a2) (laws_toEntry.R_eq (a0 := a2) (MEntry.Sm_mono (by decide) s2)) ?_
  have r_ := impl_PutChoice.R_eq (a0 := a0) (a1 := a1) (a2 := a2) (by
    have := And.intro trivial trivial
    unfold impl_PutChoice.gd
    first | exact (s0.mono (by decide) (fun x hx => (MChoice.Sm_mono (by decide) hx))) | refine ⟨(s0.mono (by decide) (fun x hx => (MChoice.Sm_mono (by decide) hx))), (s1.mono (by decide) (fun x hx => (Nat.le_trans hx (by decide)))), (MEntry.Sm_mono (by decide) s2)⟩)
  rw [impl_PutChoice.br] at r_
  refine call_to (((spec_PutChoice.md a0 a1 a2).1.map MChoice.row), (spec_PutChoice.md a0 a1 a2).2) r_ ?_
  clear r_
  refine call_to _ (laws_eqChoiceS.R_eq (a0 := ((spec_PutChoice.md a0 a1 a2).1)) (a1 := ((spec_PutChoice.md a0 a1 a2).1)) trivial) ?_
  refine no_ret (by first | (simp only [bne_self_eq_false, beq_self_eq_true, ba_refl, eqB_refl, Bool.not_true, laws_eqChoiceS.md, laws_eqStringS.md, laws_eqEntry.md]; done) | (refine bne_eq_false_iff_eq.2 ?_; omega)) ?_
  refine no_ret (by first | (simp only [bne_self_eq_false, beq_self_eq_true, ba_refl, eqB_refl, Bool.not_true, laws_eqChoiceS.md, laws_eqStringS.md, laws_eqEntry.md]; done) | (refine bne_eq_false_iff_eq.2 ?_; omega)) ?_
  refine call_to (laws_heldChoiceS.md ((laws_markChoiceS.md ((spec_PutChoice.md a0 a1 a2).1) 1).2) 1) (laws_heldChoiceS.R_eq (a0 := ((laws_markChoiceS.md ((spec_PutChoice.md a0 a1 a2).1) 1).2)) (a1 := 1) I64_one) ?_
  have h10 : (laws_heldChoiceS.md ((laws_markChoiceS.md ((spec_PutChoice.md a0 a1 a2).1) 1).2) 1) = 1 + (laws_markChoiceS.sum ((spec_PutChoice.md a0 a1 a2).1) : Int) := laws_heldChoiceS.mk ((spec_PutChoice.md a0 a1 a2).1) 1 (by omega) (by omega)
  refine no_ret (dec_neg (by omega)) ?_
  refine no_ret (by first | (simp only [bne_self_eq_false, beq_self_eq_true, ba_refl, eqB_refl, Bool.not_true, laws_eqChoiceS.md, laws_eqStringS.md, laws_eqEntry.md]; done) | (refine bne_eq_false_iff_eq.2 ?_; omega)) ?_
  rfl
theorem valid_ : Valid Try.prog Ev 5 con := VS (run := fun _ x => F x.1 x.2.1 x.2.2) mix tab_ok (.cons laws_szChoiceS.valid_ (.cons laws_szStringS.valid_ (.cons laws_szEntry.valid_ (.cons laws_toChoiceS.valid_ (.cons laws_toStringS.valid_ (.cons laws_toEntry.valid_ (.cons spec_PutChoice.valid_ (.cons impl_PutChoice.valid_ (.cons laws_eqChoiceS.valid_ (.cons laws_eqStringS.valid_ (.cons laws_eqEntry.valid_ (.cons laws_heldChoiceS.valid_ .nil)))))))))))) (.cons laws_markChoiceS.valid_ (.cons laws_markStringS.valid_ (.cons laws_markEntry.valid_ .nil))) Try.func5 (by kernel_rfl) run_eq (fun _ a _ _ hg => ⟨0, okF a.1 a.2.1 a.2.2 hg⟩)
theorem MEntry_wf41 (r : List L) (h : WfAll Ev.cells [.str, .int .i64, .int .i64, .sl 9] r) : ∃ x : MEntry, MEntry.row x = r ∧ MEntry.Sm maxLen x := by
  obtain ⟨l0, t0, rfl, g0, h1⟩ := h.uncons
  obtain ⟨x0, rfl, s0⟩ := wf_str g0
  obtain ⟨l1, t1, rfl, g1, h2⟩ := h1.uncons
  obtain ⟨x1, rfl⟩ := wf_int g1
  obtain ⟨l2, t2, rfl, g2, h3⟩ := h2.uncons
  obtain ⟨x2, rfl⟩ := wf_int g2
  obtain ⟨l3, t3, rfl, g3, h4⟩ := h3.uncons
  obtain ⟨x3, rfl, s3⟩ := wf_list (show Ev.cells 9 = [.str] from by kernel_rfl) wf_srow g3
  obtain rfl := h4.isnil
  exact ⟨⟨x0, x1, x2, x3⟩, rfl, ⟨s0, s3⟩⟩
theorem MChoice_wf102 (r : List L) (h : WfAll Ev.cells [.sl 9, .str, .int .i64, .int .i64, .sl 9] r) : ∃ x : MChoice, MChoice.row x = r ∧ MChoice.Sm maxLen x := by
  obtain ⟨l0, t0, rfl, g0, h1⟩ := h.uncons
  obtain ⟨x0, rfl, s0⟩ := wf_list (show Ev.cells 9 = [.str] from by kernel_rfl) wf_srow g0
  obtain ⟨r1, t1, rfl, g1, h2⟩ := WfAll.unapp (a := [.str, .int .i64, .int .i64, .sl 9]) (b := []) h1
  obtain ⟨x1, rfl, s1⟩ := MEntry_wf41 _ g1
  obtain rfl := h2.isnil
  exact ⟨⟨x0, x1⟩, rfl, ⟨s0, s1⟩⟩
theorem holds (ls : List L) (h : WfAll Ev.cells ([38, 39, 41].flatMap Ev.cells) ls) : con.sem ls = some [.bool true] := by
  have hk : [38, 39, 41].flatMap Ev.cells = [.sl 102, .sl 9, .str, .int .i64, .int .i64, .sl 9] := by kernel_rfl
  rw [hk] at h
  obtain ⟨l0, t0, rfl, g0, h1⟩ := h.uncons
  obtain ⟨x0, rfl, s0⟩ := wf_list (show Ev.cells 102 = [.sl 9, .str, .int .i64, .int .i64, .sl 9] from by kernel_rfl) MChoice_wf102 g0
  obtain ⟨l1, t1, rfl, g1, h2⟩ := h1.uncons
  obtain ⟨x1, rfl, s1⟩ := wf_list (show Ev.cells 9 = [.str] from by kernel_rfl) wf_srow g1
  obtain ⟨r2, t2, rfl, g2, h3⟩ := WfAll.unapp (a := [.str, .int .i64, .int .i64, .sl 9]) (b := []) h2
  obtain ⟨x2, rfl, s2⟩ := MEntry_wf41 _ g2
  obtain rfl := h3.isnil
  show (R ((x0.map MChoice.row), (x1.map sRow), (MEntry.r x2))).map RT.enc = _
  rw [R_eq ⟨s0, s1, s2⟩]
  rfl
end laws_FnExactPutChoice
end Go.DM
