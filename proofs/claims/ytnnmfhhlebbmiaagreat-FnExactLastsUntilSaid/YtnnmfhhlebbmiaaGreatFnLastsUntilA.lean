/- What the functions compute that the law reaches, and that the law returns true. Conditions: none. -/
import Derived.Test.YtnnmfhhlebbmiaaGreatTy
import Derived.Test.YtnnmfhhlebbmiaaGreatProg
import Derived.Lib.AppendZerosOnto
import Derived.Lib.Bytealg
import Derived.Laws.Externs
import Derived.Lib.Walk
import Derived.Lib.Hide
import Derived.Lib.Strings
set_option linter.all false
namespace Go.DM
open Go.Proofs
def Tab : List (Nat × TI) := [
  (2, ⟨[.int .i64], false, [], 8, false⟩),
  (3, ⟨[.int .i64], false, [], 8, false⟩),
  (4, ⟨[.bool], false, [], 1, false⟩),
  (5, ⟨[.int .u8], false, [], 1, false⟩),
  (6, ⟨[.int .u8], false, [], 1, false⟩),
  (7, ⟨[.int .i64, .int .i64, .bool, .int .u8], true, [(0, 2), (1, 3), (2, 4), (3, 6)], 24, false⟩),
  (8, ⟨[.int .i64, .int .i64, .bool, .int .u8], true, [(0, 2), (1, 3), (2, 4), (3, 6)], 24, false⟩),
  (9, ⟨[.str], false, [], 16, false⟩),
  (10, ⟨[.str], false, [], 16, false⟩),
  (11, ⟨[.str], false, [], 16, false⟩),
  (12, ⟨[.int .u64], false, [], 8, false⟩),
  (13, ⟨[.str, .int .u64], true, [(0, 9), (1, 12)], 24, false⟩),
  (14, ⟨[.str, .int .u64], true, [(0, 9), (1, 12)], 24, false⟩),
  (21, ⟨[.int .i32], false, [], 4, false⟩),
  (22, ⟨[.sl 35], false, [], 24, false⟩),
  (23, ⟨[.sl 137], false, [], 24, false⟩),
  (24, ⟨[.sl 35, .sl 137], true, [(0, 22), (1, 23)], 48, false⟩),
  (25, ⟨[.sl 35, .sl 137], true, [(0, 22), (1, 23)], 48, false⟩),
  (28, ⟨[.sl 38], false, [], 24, false⟩),
  (29, ⟨[.sl 95], false, [], 24, false⟩),
  (30, ⟨[.sl 38, .sl 95], true, [(0, 28), (1, 29)], 48, false⟩),
  (31, ⟨[.sl 38, .sl 95], true, [(0, 28), (1, 29)], 48, false⟩),
  (35, ⟨[.sl 108], false, [], 24, false⟩),
  (38, ⟨[.sl 92], false, [], 24, false⟩),
  (42, ⟨[.sl 9], false, [], 24, false⟩),
  (43, ⟨[.str, .int .i64, .int .i64, .sl 9], true, [(0, 9), (1, 3), (2, 3), (3, 42)], 56, false⟩),
  (44, ⟨[.str, .int .i64, .int .i64, .sl 9], true, [(0, 9), (1, 3), (2, 3), (3, 42)], 56, false⟩),
  (45, ⟨[.sl 3], false, [], 24, false⟩),
  (46, ⟨[.sl 35, .sl 137, .int .i64, .str, .int .i64, .int .i64, .sl 9, .sl 3, .int .i64], true, [(0, 25), (2, 3), (3, 44), (7, 45), (8, 3)], 144, false⟩),
  (47, ⟨[.sl 35, .sl 137, .int .i64, .str, .int .i64, .int .i64, .sl 9, .sl 3, .int .i64], true, [(0, 25), (2, 3), (3, 44), (7, 45), (8, 3)], 144, false⟩),
  (48, ⟨[.sl 168], false, [], 24, false⟩),
  (49, ⟨[.sl 168], true, [(0, 48)], 24, false⟩),
  (50, ⟨[.sl 168], true, [(0, 48)], 24, false⟩),
  (51, ⟨[.sl 35, .sl 137, .int .i64, .str, .int .i64, .int .i64, .sl 9, .sl 3, .int .i64, .sl 168], true, [(0, 47), (9, 50)], 168, false⟩),
  (52, ⟨[.sl 35, .sl 137, .int .i64, .str, .int .i64, .int .i64, .sl 9, .sl 3, .int .i64, .sl 168], true, [(0, 47), (9, 50)], 168, false⟩),
  (55, ⟨[.str, .int .i64, .int .i64, .sl 9], true, [(0, 9), (1, 3), (2, 3), (3, 42)], 56, false⟩),
  (56, ⟨[.sl 38, .sl 95, .int .i64, .str, .int .i64, .int .i64, .sl 9, .sl 3, .int .i64], true, [(0, 31), (2, 3), (3, 55), (7, 45), (8, 3)], 144, false⟩),
  (57, ⟨[.sl 38, .sl 95, .int .i64, .str, .int .i64, .int .i64, .sl 9, .sl 3, .int .i64], true, [(0, 31), (2, 3), (3, 55), (7, 45), (8, 3)], 144, false⟩),
  (58, ⟨[.sl 124], false, [], 24, false⟩),
  (59, ⟨[.sl 124], true, [(0, 58)], 24, false⟩),
  (60, ⟨[.sl 124], true, [(0, 58)], 24, false⟩),
  (61, ⟨[.sl 38, .sl 95, .int .i64, .str, .int .i64, .int .i64, .sl 9, .sl 3, .int .i64, .sl 124], true, [(0, 57), (9, 60)], 168, false⟩),
  (62, ⟨[.sl 38, .sl 95, .int .i64, .str, .int .i64, .int .i64, .sl 9, .sl 3, .int .i64, .sl 124], true, [(0, 57), (9, 60)], 168, false⟩),
  (70, ⟨[.int .i64, .sl 9, .sl 168], true, [(0, 3), (1, 42), (2, 48)], 56, false⟩),
  (71, ⟨[.int .i64, .sl 9, .sl 168], true, [(0, 3), (1, 42), (2, 48)], 56, false⟩),
  (74, ⟨[.int .i64, .sl 9, .sl 124], true, [(0, 3), (1, 42), (2, 58)], 56, false⟩),
  (75, ⟨[.int .i64, .sl 9, .sl 124], true, [(0, 3), (1, 42), (2, 58)], 56, false⟩),
  (86, ⟨[.sl 3, .int .i64], true, [(0, 45), (1, 3)], 32, false⟩),
  (87, ⟨[.sl 3, .int .i64], true, [(0, 45), (1, 3)], 32, false⟩),
  (88, ⟨[.int .i64, .int .i64, .int .i64, .int .i64, .int .i64, .int .i64, .int .i64, .int .i64, .sl 3, .int .i64, .sl 3, .int .i64, .int .i64, .sl 3, .int .i64, .bool], true, [(0, 3), (1, 3), (2, 3), (3, 3), (4, 3), (5, 3), (6, 3), (7, 3), (8, 87), (10, 87), (12, 3), (13, 87), (15, 4)], 176, false⟩),
  (89, ⟨[.int .i64, .int .i64, .int .i64, .int .i64, .int .i64, .int .i64, .int .i64, .int .i64, .sl 3, .int .i64, .sl 3, .int .i64, .int .i64, .sl 3, .int .i64, .bool], true, [(0, 3), (1, 3), (2, 3), (3, 3), (4, 3), (5, 3), (6, 3), (7, 3), (8, 87), (10, 87), (12, 3), (13, 87), (15, 4)], 176, false⟩),
  (90, ⟨[.sl 179], false, [], 24, false⟩),
  (91, ⟨[.int .i64, .int .i64, .int .i64, .int .i64, .int .i64, .int .i64, .int .i64, .int .i64, .sl 3, .int .i64, .sl 3, .int .i64, .int .i64, .sl 3, .int .i64, .bool, .sl 179], true, [(0, 89), (16, 90)], 200, false⟩),
  (92, ⟨[.int .i64, .int .i64, .int .i64, .int .i64, .int .i64, .int .i64, .int .i64, .int .i64, .sl 3, .int .i64, .sl 3, .int .i64, .int .i64, .sl 3, .int .i64, .bool, .sl 179], true, [(0, 89), (16, 90)], 200, false⟩),
  (94, ⟨[.int .i64, .int .i64, .int .i64, .int .i64, .int .i64, .int .i64, .int .i64, .int .i64, .sl 3, .int .i64, .sl 3, .int .i64, .int .i64, .sl 3, .int .i64, .bool, .sl 179, .int .i64, .int .i64, .int .i64, .int .i64, .int .i64, .int .i64, .int .i64, .int .i64, .sl 3, .int .i64, .sl 3, .int .i64, .int .i64, .sl 3, .int .i64, .bool, .sl 179, .int .i64, .int .i64, .int .i64, .int .i64, .int .i64, .int .i64, .int .i64, .int .i64, .sl 3, .int .i64, .sl 3, .int .i64, .int .i64, .sl 3, .int .i64, .bool, .sl 179], true, [(0, 92), (17, 92), (34, 92)], 600, false⟩),
  (95, ⟨[.int .i64, .int .i64, .int .i64, .int .i64, .int .i64, .int .i64, .int .i64, .int .i64, .sl 3, .int .i64, .sl 3, .int .i64, .int .i64, .sl 3, .int .i64, .bool, .sl 179, .int .i64, .int .i64, .int .i64, .int .i64, .int .i64, .int .i64, .int .i64, .int .i64, .sl 3, .int .i64, .sl 3, .int .i64, .int .i64, .sl 3, .int .i64, .bool, .sl 179, .int .i64, .int .i64, .int .i64, .int .i64, .int .i64, .int .i64, .int .i64, .int .i64, .sl 3, .int .i64, .sl 3, .int .i64, .int .i64, .sl 3, .int .i64, .bool, .sl 179], true, [(0, 92), (17, 92), (34, 92)], 600, false⟩),
  (103, ⟨[.sl 3, .int .i64], true, [(0, 45), (1, 3)], 32, false⟩),
  (104, ⟨[.int .i64, .int .i64, .int .i64, .int .i64, .int .i64, .int .i64, .int .i64, .int .i64, .sl 3, .int .i64, .sl 3, .int .i64, .int .i64, .sl 3, .int .i64, .bool], true, [(0, 3), (1, 3), (2, 3), (3, 3), (4, 3), (5, 3), (6, 3), (7, 3), (8, 103), (10, 103), (12, 3), (13, 103), (15, 4)], 176, false⟩),
  (105, ⟨[.int .i64, .int .i64, .int .i64, .int .i64, .int .i64, .int .i64, .int .i64, .int .i64, .sl 3, .int .i64, .sl 3, .int .i64, .int .i64, .sl 3, .int .i64, .bool], true, [(0, 3), (1, 3), (2, 3), (3, 3), (4, 3), (5, 3), (6, 3), (7, 3), (8, 103), (10, 103), (12, 3), (13, 103), (15, 4)], 176, false⟩),
  (106, ⟨[.sl 189], false, [], 24, false⟩),
  (107, ⟨[.int .i64, .int .i64, .int .i64, .int .i64, .int .i64, .int .i64, .int .i64, .int .i64, .sl 3, .int .i64, .sl 3, .int .i64, .int .i64, .sl 3, .int .i64, .bool, .sl 189], true, [(0, 105), (16, 106)], 200, false⟩),
  (108, ⟨[.int .i64, .int .i64, .int .i64, .int .i64, .int .i64, .int .i64, .int .i64, .int .i64, .sl 3, .int .i64, .sl 3, .int .i64, .int .i64, .sl 3, .int .i64, .bool, .sl 189], true, [(0, 105), (16, 106)], 200, false⟩),
  (117, ⟨[.int .i64, .sl 3], true, [(0, 3), (1, 45)], 32, false⟩),
  (118, ⟨[.int .i64, .sl 3], true, [(0, 3), (1, 45)], 32, false⟩),
  (119, ⟨[.int .i64, .str, .int .i64, .int .i64, .sl 9, .str, .int .i64, .int .i64, .sl 9, .int .i64, .sl 3, .int .i64, .sl 3], true, [(0, 3), (1, 55), (5, 55), (9, 118), (11, 118)], 184, false⟩),
  (120, ⟨[.int .i64, .str, .int .i64, .int .i64, .sl 9, .str, .int .i64, .int .i64, .sl 9, .int .i64, .sl 3, .int .i64, .sl 3], true, [(0, 3), (1, 55), (5, 55), (9, 118), (11, 118)], 184, false⟩),
  (121, ⟨[.sl 92, .bool, .str, .int .i64, .int .i64, .sl 9, .int .i64, .sl 3, .int .i64, .str, .int .i64, .int .i64, .sl 9, .str, .int .i64, .int .i64, .sl 9, .int .i64, .sl 3, .int .i64, .sl 3], true, [(0, 38), (1, 4), (2, 55), (6, 118), (8, 120)], 304, false⟩),
  (122, ⟨[.sl 92, .bool, .str, .int .i64, .int .i64, .sl 9, .int .i64, .sl 3, .int .i64, .str, .int .i64, .int .i64, .sl 9, .str, .int .i64, .int .i64, .sl 9, .int .i64, .sl 3, .int .i64, .sl 3], true, [(0, 38), (1, 4), (2, 55), (6, 118), (8, 120)], 304, false⟩),
  (123, ⟨[.int .i64, .str, .sl 92, .bool, .str, .int .i64, .int .i64, .sl 9, .int .i64, .sl 3, .int .i64, .str, .int .i64, .int .i64, .sl 9, .str, .int .i64, .int .i64, .sl 9, .int .i64, .sl 3, .int .i64, .sl 3], true, [(0, 3), (1, 9), (2, 122)], 328, false⟩),
  (124, ⟨[.int .i64, .str, .sl 92, .bool, .str, .int .i64, .int .i64, .sl 9, .int .i64, .sl 3, .int .i64, .str, .int .i64, .int .i64, .sl 9, .str, .int .i64, .int .i64, .sl 9, .int .i64, .sl 3, .int .i64, .sl 3], true, [(0, 3), (1, 9), (2, 122)], 328, false⟩),
  (136, ⟨[.int .i64, .int .i64, .int .i64, .int .i64, .int .i64, .int .i64, .int .i64, .int .i64, .sl 3, .int .i64, .sl 3, .int .i64, .int .i64, .sl 3, .int .i64, .bool, .sl 189, .int .i64, .int .i64, .int .i64, .int .i64, .int .i64, .int .i64, .int .i64, .int .i64, .sl 3, .int .i64, .sl 3, .int .i64, .int .i64, .sl 3, .int .i64, .bool, .sl 189, .int .i64, .int .i64, .int .i64, .int .i64, .int .i64, .int .i64, .int .i64, .int .i64, .sl 3, .int .i64, .sl 3, .int .i64, .int .i64, .sl 3, .int .i64, .bool, .sl 189], true, [(0, 108), (17, 108), (34, 108)], 600, false⟩),
  (137, ⟨[.int .i64, .int .i64, .int .i64, .int .i64, .int .i64, .int .i64, .int .i64, .int .i64, .sl 3, .int .i64, .sl 3, .int .i64, .int .i64, .sl 3, .int .i64, .bool, .sl 189, .int .i64, .int .i64, .int .i64, .int .i64, .int .i64, .int .i64, .int .i64, .int .i64, .sl 3, .int .i64, .sl 3, .int .i64, .int .i64, .sl 3, .int .i64, .bool, .sl 189, .int .i64, .int .i64, .int .i64, .int .i64, .int .i64, .int .i64, .int .i64, .int .i64, .sl 3, .int .i64, .sl 3, .int .i64, .int .i64, .sl 3, .int .i64, .bool, .sl 189], true, [(0, 108), (17, 108), (34, 108)], 600, false⟩),
  (162, ⟨[.int .i64, .sl 3], true, [(0, 3), (1, 45)], 32, false⟩),
  (163, ⟨[.int .i64, .str, .int .i64, .int .i64, .sl 9, .str, .int .i64, .int .i64, .sl 9, .int .i64, .sl 3, .int .i64, .sl 3], true, [(0, 3), (1, 44), (5, 44), (9, 162), (11, 162)], 184, false⟩),
  (164, ⟨[.int .i64, .str, .int .i64, .int .i64, .sl 9, .str, .int .i64, .int .i64, .sl 9, .int .i64, .sl 3, .int .i64, .sl 3], true, [(0, 3), (1, 44), (5, 44), (9, 162), (11, 162)], 184, false⟩),
  (165, ⟨[.sl 108, .bool, .str, .int .i64, .int .i64, .sl 9, .int .i64, .sl 3, .int .i64, .str, .int .i64, .int .i64, .sl 9, .str, .int .i64, .int .i64, .sl 9, .int .i64, .sl 3, .int .i64, .sl 3], true, [(0, 35), (1, 4), (2, 44), (6, 162), (8, 164)], 304, false⟩),
  (166, ⟨[.sl 108, .bool, .str, .int .i64, .int .i64, .sl 9, .int .i64, .sl 3, .int .i64, .str, .int .i64, .int .i64, .sl 9, .str, .int .i64, .int .i64, .sl 9, .int .i64, .sl 3, .int .i64, .sl 3], true, [(0, 35), (1, 4), (2, 44), (6, 162), (8, 164)], 304, false⟩),
  (167, ⟨[.int .i64, .str, .sl 108, .bool, .str, .int .i64, .int .i64, .sl 9, .int .i64, .sl 3, .int .i64, .str, .int .i64, .int .i64, .sl 9, .str, .int .i64, .int .i64, .sl 9, .int .i64, .sl 3, .int .i64, .sl 3], true, [(0, 3), (1, 9), (2, 166)], 328, false⟩),
  (168, ⟨[.int .i64, .str, .sl 108, .bool, .str, .int .i64, .int .i64, .sl 9, .int .i64, .sl 3, .int .i64, .str, .int .i64, .int .i64, .sl 9, .str, .int .i64, .int .i64, .sl 9, .int .i64, .sl 3, .int .i64, .sl 3], true, [(0, 3), (1, 9), (2, 166)], 328, false⟩),
  (178, ⟨[.int .i64, .int .i64], true, [(0, 3), (1, 3)], 16, false⟩),
  (179, ⟨[.int .i64, .int .i64], true, [(0, 3), (1, 3)], 16, true⟩),
  (189, ⟨[.int .i64, .int .i64], true, [(0, 3), (1, 3)], 16, true⟩),
  (191, ⟨[.sl 55], false, [], 24, false⟩),
  (192, ⟨[.sl 92, .sl 55], true, [(0, 38), (1, 191)], 48, false⟩),
  (193, ⟨[.sl 92, .sl 55], true, [(0, 38), (1, 191)], 48, false⟩),
  (235, ⟨[.sl 45], false, [], 24, false⟩),
  (250, ⟨[.sl 5], false, [], 24, false⟩),
  (259, ⟨[.int .u32], false, [], 4, false⟩),
  (260, ⟨[.int .u8], false, [], 1, false⟩),
  (261, ⟨[.int .u8], false, [], 1, false⟩),
  (264, ⟨[.int .i32], false, [], 4, false⟩),
  (265, ⟨[.int .i32], false, [], 4, false⟩)]
noncomputable abbrev Ev : Env := ⟨assoc Tab, fun _ => [], 0⟩
theorem tab_ok : tableB Tryz.prog Tab = true := by kernel_rfl
theorem mix : Tryz.prog.follows .mixedOrders = true := by kernel_rfl
/-! laws.szStringS -/
namespace laws_szStringS
inductive Pt where
  | p0 (a : List (List L)) (b : Int) (c : Int)
def pid : Pt → Nat
  | .p0 .. => 5
def pvs : Pt → List V
  | .p0 a b c => [.sl none 9 a, .int .i64 b, .int .i64 c]
def phs : Pt → List Root
  | .p0 a b c => []
noncomputable def step (J : Pt → Ans) : Pt → Ans
  | .p0 a b c => (bif (decide (c < (a.length : Int))) then (bif (decide ((0 : Int) ≤ c)) then (bif (decide (c < (a.length : Int))) then (bif (decide ((IntKind.i64.wrap (b - ((sAt a (Int.toNat c)).size : Int))) < 0)) then ret ((-1) : Int) else J (.p0 a (IntKind.i64.wrap (b - ((sAt a (Int.toNat c)).size : Int))) (IntKind.i64.wrap (c + 1)))) else none) else none) else ret (b : Int))
noncomputable def start (J : Pt → Ans) (x0 : List (List L)) (x1 : Int) : Ans := (bif (decide ((IntKind.i64.wrap (x1 - (x0.length : Int))) < 0)) then ret ((-1) : Int) else J (.p0 x0 (IntKind.i64.wrap (x1 - (x0.length : Int))) 0))
def live : Nat → Live := fun i => match i with | 5 => [(0, none), (1, none), (5, none)] | _ => []
def pats : List Pat := [.rd (.sl 9), .rd (.int .i64)]
def res : RP := .one (.rd (.int .i64))
noncomputable def G : List (Nat × Con) := []
noncomputable abbrev E : Env := ⟨assoc Tab, conG G, 28⟩
set_option maxRecDepth 100000
theorem step_eq (I : Heads) (p : Pt) : enterC E live I (pid p) (bodyOf Tryz.f71) (stOf (live (pid p)) (pvs p) (phs p)) (doneK E Tryz.f71 res) = step (fun q => I (pid q) (pvs q) (phs q)) p := by
  cases p <;> kernel_rfl
theorem start_eq (I : Heads) (ls : List L) : runC E live I (bodyOf Tryz.f71) (initS pats ls) (doneK E Tryz.f71 res) = start (fun q => I (pid q) (pvs q) (phs q)) (ls.headD .hole).toSl ((dropT 1 ls).headD .hole).toInt := by kernel_rfl
theorem run_eq (n : Nat) (ls : List L) : runF E live Tryz.f71 res n (initS pats ls) = start (iter step n) (ls.headD .hole).toSl ((dropT 1 ls).headD .hole).toInt := runF_iter (id := pid) (vs := pvs) (hs := phs) (step := step) (start := fun J => start J (ls.headD .hole).toSl ((dropT 1 ls).headD .hole).toInt) step_eq (fun I => start_eq I ls) n
noncomputable def md (a0 : List ByteArray) (a1 : Int) : Int := szM (szL (fun y : ByteArray => y.size) a0) a1
def gd (a0 : List ByteArray) (a1 : Int) : Prop := (SmL maxLen (fun y : ByteArray => y.size ≤ maxLen) a0) ∧ 0 ≤ a1 ∧ a1 ≤ 1048576
def rf (a : List ByteArray × Int) : List (List L) × Int := ((a.1.map sRow), a.2)
theorem rf_inj (a b : List ByteArray × Int) (h : rf a = rf b) : a = b := by
  exact (Prod.ext (map_inj sRow_inj (congrArg (fun x => x.1) h)) (congrArg (fun x => x.2) h))
noncomputable def R (x0 : List (List L)) (x1 : Int) : Option (Int) := ofM rf (fun a => gd a.1 a.2) (fun a => (md a.1 a.2)) (x0, x1)
theorem R_eq {a0 : List ByteArray} {a1 : Int} (h : gd a0 a1) : R (a0.map sRow) a1 = some (md a0 a1) := ofM_eq (r := rf) (a := (a0, a1)) rf_inj h
theorem okF (a0 : List ByteArray) (a1 : Int) (hg : gd a0 a1) : ∃ n, start (iter step n) (a0.map sRow) a1 = ret ((md a0 a1) : Int) := by
  obtain ⟨hs, g0, g1⟩ := hg
  unfold start md
  simp only [List.length_map]
  refine sz_list (pt := fun left i => Pt.p0 (a0.map sRow) left (i : Int)) (f := fun y : ByteArray => y.size) hs.1 (fun J i h left p0 p1 => ?_) (fun J left => ?_) g0 g1
  · simp only [step, List.length_map, lt_dec h, zle_dec, cond_true, toNat_nat, sAt_row h]
    rw [sz_wrap p0 p1 (hs.get h), wrap_succ h hs.1]
    by_cases hc : left - ((a0[i].size : Nat) : Int) < 0
    · rw [decide_eq_true hc, if_pos (by omega)]; rfl
    · rw [decide_eq_false hc, if_neg (by omega)]; rfl
  · simp only [step, List.length_map, nlt_dec, cond_false]
noncomputable def sem (ls : List L) : Option (List L) := (R (ls.headD .hole).toSl ((dropT 1 ls).headD .hole).toInt).map RT.enc
theorem ok (ls q : List L) (hl : LOKs Ev.cells pats ls) (h : sem ls = some q) : ∃ n, runF E live Tryz.f71 res n (initS pats ls) = some q := by
  obtain ⟨v, hv, hq⟩ := map_some h
  obtain ⟨⟨a0, a1⟩, hg, e, hm⟩ := ofM_some hv
  simp only [rf, Prod.mk.injEq] at e
  obtain ⟨e0, e1⟩ := e
  obtain ⟨n, hn⟩ := okF a0 a1 hg
  refine ⟨n, (run_eq n ls).trans ?_⟩
  rw [← e0, ← e1]
  rw [hn, ← hq, hm]; rfl
noncomputable def con : Con := ⟨pats, res, sem⟩
theorem chk : fnB Tryz.f71 con 28 = true := by kernel_rfl
theorem valid_ : Valid Tryz.prog Ev 71 con := valid mix tab_ok .nil Tryz.func71 chk live ok
end laws_szStringS
/-! laws.szIntS -/
namespace laws_szIntS
noncomputable def F (x0 : List (List L)) (x1 : Int) : Ans := (bif (decide ((IntKind.i64.wrap (x1 - (x0.length : Int))) < 0)) then ret ((-1) : Int) else ret ((IntKind.i64.wrap (x1 - (x0.length : Int))) : Int))
def live : Nat → Live := fun _ => []
def pats : List Pat := [.rd (.sl 3), .rd (.int .i64)]
def res : RP := .one (.rd (.int .i64))
noncomputable def G : List (Nat × Con) := []
noncomputable abbrev E : Env := ⟨assoc Tab, conG G, 12⟩
set_option maxRecDepth 100000
theorem run_eq (n : Nat) (ls : List L) : runF E live Tryz.f105 res n (initS pats ls) = F (ls.headD .hole).toSl ((dropT 1 ls).headD .hole).toInt := by kernel_rfl
noncomputable def md (a0 : List Int) (a1 : Int) : Int := szM (szL (fun y : Int => 0) a0) a1
def gd (a0 : List Int) (a1 : Int) : Prop := (SmL maxLen (fun y : Int => True) a0) ∧ 0 ≤ a1 ∧ a1 ≤ 1048576
def rf (a : List Int × Int) : List (List L) × Int := ((a.1.map iRow), a.2)
theorem rf_inj (a b : List Int × Int) (h : rf a = rf b) : a = b := by
  exact (Prod.ext (map_inj iRow_inj (congrArg (fun x => x.1) h)) (congrArg (fun x => x.2) h))
noncomputable def R (x0 : List (List L)) (x1 : Int) : Option (Int) := ofM rf (fun a => gd a.1 a.2) (fun a => (md a.1 a.2)) (x0, x1)
theorem R_eq {a0 : List Int} {a1 : Int} (h : gd a0 a1) : R (a0.map iRow) a1 = some (md a0 a1) := ofM_eq (r := rf) (a := (a0, a1)) rf_inj h
theorem okF (a0 : List Int) (a1 : Int) (hg : gd a0 a1) : F (a0.map iRow) a1 = ret ((md a0 a1) : Int) := by
  obtain ⟨hs, g0, g1⟩ := hg
  unfold F md
  rw [List.length_map, sz_wrap g0 g1 hs.1]
  have e : szL (fun y : Int => 0) a0 = a0.length := by
    unfold szL
    have : (a0.map (fun y : Int => 0)).sum = 0 := sum_zero (fun _ => rfl) a0
    omega
  rw [e]
  by_cases hc : a1 < ((a0.length : Nat) : Int)
  · rw [szM_neg hc, decide_eq_true (by omega)]; rfl
  · rw [szM_pos hc, decide_eq_false (by omega)]; rfl
noncomputable def sem (ls : List L) : Option (List L) := (R (ls.headD .hole).toSl ((dropT 1 ls).headD .hole).toInt).map RT.enc
theorem ok (ls q : List L) (hl : LOKs Ev.cells pats ls) (h : sem ls = some q) : ∃ n, runF E live Tryz.f105 res n (initS pats ls) = some q := by
  obtain ⟨v, hv, hq⟩ := map_some h
  obtain ⟨⟨a0, a1⟩, hg, e, hm⟩ := ofM_some hv
  simp only [rf, Prod.mk.injEq] at e
  obtain ⟨e0, e1⟩ := e
  have hn := okF a0 a1 hg
  refine ⟨0, (run_eq 0 ls).trans ?_⟩
  rw [← e0, ← e1]
  rw [hn, ← hq, hm]; rfl
noncomputable def con : Con := ⟨pats, res, sem⟩
theorem chk : fnB Tryz.f105 con 12 = true := by kernel_rfl
theorem valid_ : Valid Tryz.prog Ev 105 con := valid mix tab_ok .nil Tryz.func105 chk live ok
end laws_szIntS
/-! laws.szKeys -/
namespace laws_szKeys
noncomputable def F (x0 : RKeys) (x1 : Int) : Ans := (call (laws_szIntS.R x0.fList x1) fun v1 => (bif (decide (v1 < 0)) then ret ((-1) : Int) else ret (v1 : Int)))
def live : Nat → Live := fun _ => []
def pats : List Pat := [.agg [.sl 3, .int .i64], .rd (.int .i64)]
def res : RP := .one (.rd (.int .i64))
noncomputable def G : List (Nat × Con) := [(105, laws_szIntS.con)]
noncomputable abbrev E : Env := ⟨assoc Tab, conG G, 12⟩
set_option maxRecDepth 100000
theorem run_eq (n : Nat) (ls : List L) : runF E live Tryz.f146 res n (initS pats ls) = F (RKeys.dec ls) ((dropT 2 ls).headD .hole).toInt := by kernel_rfl
noncomputable def md (a0 : MKeys) (a1 : Int) : Int := szM (MKeys.size a0) a1
def gd (a0 : MKeys) (a1 : Int) : Prop := (MKeys.Sm maxLen a0) ∧ 0 ≤ a1 ∧ a1 ≤ 1048576
def rf (a : MKeys × Int) : RKeys × Int := ((MKeys.r a.1), a.2)
theorem rf_inj (a b : MKeys × Int) (h : rf a = rf b) : a = b := by
  exact (Prod.ext (MKeys.r_inj (congrArg (fun x => x.1) h)) (congrArg (fun x => x.2) h))
noncomputable def R (x0 : RKeys) (x1 : Int) : Option (Int) := ofM rf (fun a => gd a.1 a.2) (fun a => (md a.1 a.2)) (x0, x1)
theorem R_eq {a0 : MKeys} {a1 : Int} (h : gd a0 a1) : R (MKeys.r a0) a1 = some (md a0 a1) := ofM_eq (r := rf) (a := (a0, a1)) rf_inj h
theorem okF (a0 : MKeys) (a1 : Int) (hg : gd a0 a1) : F (MKeys.r a0) a1 = ret ((md a0 a1) : Int) := by
  obtain ⟨hs, g0, g1⟩ := hg
  unfold md
  show (call (laws_szIntS.R (a0.fList.map iRow) a1) fun v1 => (bif (decide (v1 < 0)) then ret ((-1) : Int) else ret (v1 : Int))) = _
  rw [call_eq (laws_szIntS.R_eq (a1 := a1) ⟨hs, by omega, by omega⟩)]
  unfold laws_szIntS.md
  by_cases c0 : a1 < ((szL (fun y : Int => 0) a0.fList : Nat) : Int)
  · rw [szM_neg c0]; rw [show szM (MKeys.size a0) a1 = -1 from szM_neg (by unfold MKeys.size; omega)]; try rfl
  rw [szM_pos c0, dec_neg (by omega), cond_false]
  rw [show szM (MKeys.size a0) a1 = a1 - ((szL (fun y : Int => 0) a0.fList : Nat) : Int) from by rw [szM_pos (by unfold MKeys.size; omega)]; unfold MKeys.size; omega]
noncomputable def sem (ls : List L) : Option (List L) := (R (RKeys.dec ls) ((dropT 2 ls).headD .hole).toInt).map RT.enc
theorem ok (ls q : List L) (hl : LOKs Ev.cells pats ls) (h : sem ls = some q) : ∃ n, runF E live Tryz.f146 res n (initS pats ls) = some q := by
  obtain ⟨v, hv, hq⟩ := map_some h
  obtain ⟨⟨a0, a1⟩, hg, e, hm⟩ := ofM_some hv
  simp only [rf, Prod.mk.injEq] at e
  obtain ⟨e0, e1⟩ := e
  have hn := okF a0 a1 hg
  refine ⟨0, (run_eq 0 ls).trans ?_⟩
  rw [← e0, ← e1]
  rw [hn, ← hq, hm]; rfl
noncomputable def con : Con := ⟨pats, res, sem⟩
theorem chk : fnB Tryz.f146 con 12 = true := by kernel_rfl
theorem valid_ : Valid Tryz.prog Ev 146 con := valid mix tab_ok (.cons laws_szIntS.valid_ .nil) Tryz.func146 chk live ok
end laws_szKeys
/-! laws.szHead -/
namespace laws_szHead
noncomputable def F (x0 : RHead) (x1 : Int) : Ans := (call (laws_szKeys.R x0.fKeys x1) fun v1 => (bif (decide (v1 < 0)) then ret ((-1) : Int) else (call (laws_szKeys.R x0.fHeirs v1) fun v2 => (bif (decide (v2 < 0)) then ret ((-1) : Int) else (call (laws_szKeys.R x0.fJudge v2) fun v3 => (bif (decide (v3 < 0)) then ret ((-1) : Int) else ret (v3 : Int)))))))
def live : Nat → Live := fun _ => []
def pats : List Pat := [.agg [.int .i64, .int .i64, .int .i64, .int .i64, .int .i64, .int .i64, .int .i64, .int .i64, .sl 3, .int .i64, .sl 3, .int .i64, .int .i64, .sl 3, .int .i64, .bool], .rd (.int .i64)]
def res : RP := .one (.rd (.int .i64))
noncomputable def G : List (Nat × Con) := [(146, laws_szKeys.con)]
noncomputable abbrev E : Env := ⟨assoc Tab, conG G, 24⟩
set_option maxRecDepth 100000
theorem run_eq (n : Nat) (ls : List L) : runF E live Tryz.f98 res n (initS pats ls) = F (RHead.dec ls) ((dropT 16 ls).headD .hole).toInt := by kernel_rfl
noncomputable def md (a0 : MHead) (a1 : Int) : Int := szM (MHead.size a0) a1
def gd (a0 : MHead) (a1 : Int) : Prop := (MHead.Sm maxLen a0) ∧ 0 ≤ a1 ∧ a1 ≤ 1048576
def rf (a : MHead × Int) : RHead × Int := ((MHead.r a.1), a.2)
theorem rf_inj (a b : MHead × Int) (h : rf a = rf b) : a = b := by
  exact (Prod.ext (MHead.r_inj (congrArg (fun x => x.1) h)) (congrArg (fun x => x.2) h))
noncomputable def R (x0 : RHead) (x1 : Int) : Option (Int) := ofM rf (fun a => gd a.1 a.2) (fun a => (md a.1 a.2)) (x0, x1)
theorem R_eq {a0 : MHead} {a1 : Int} (h : gd a0 a1) : R (MHead.r a0) a1 = some (md a0 a1) := ofM_eq (r := rf) (a := (a0, a1)) rf_inj h
theorem okF (a0 : MHead) (a1 : Int) (hg : gd a0 a1) : F (MHead.r a0) a1 = ret ((md a0 a1) : Int) := by
  obtain ⟨hs, g0, g1⟩ := hg
  unfold md
  show (call (laws_szKeys.R (MKeys.r a0.fKeys) a1) fun v1 => (bif (decide (v1 < 0)) then ret ((-1) : Int) else (call (laws_szKeys.R (MKeys.r a0.fHeirs) v1) fun v2 => (bif (decide (v2 < 0)) then ret ((-1) : Int) else (call (laws_szKeys.R (MKeys.r a0.fJudge) v2) fun v3 => (bif (decide (v3 < 0)) then ret ((-1) : Int) else ret (v3 : Int))))))) = _
  rw [call_eq (laws_szKeys.R_eq (a1 := a1) ⟨hs.1, by omega, by omega⟩)]
  unfold laws_szKeys.md
  by_cases c0 : a1 < ((MKeys.size a0.fKeys : Nat) : Int)
  · rw [szM_neg c0]; rw [show szM (MHead.size a0) a1 = -1 from szM_neg (by unfold MHead.size; omega)]; try rfl
  rw [szM_pos c0, dec_neg (by omega), cond_false]
  rw [call_eq (laws_szKeys.R_eq (a1 := (a1 - ((MKeys.size a0.fKeys : Nat) : Int))) ⟨hs.2.1, by omega, by omega⟩)]
  unfold laws_szKeys.md
  by_cases c1 : (a1 - ((MKeys.size a0.fKeys : Nat) : Int)) < ((MKeys.size a0.fHeirs : Nat) : Int)
  · rw [szM_neg c1]; rw [show szM (MHead.size a0) a1 = -1 from szM_neg (by unfold MHead.size; omega)]; try rfl
  rw [szM_pos c1, dec_neg (by omega), cond_false]
  rw [call_eq (laws_szKeys.R_eq (a1 := (a1 - ((MKeys.size a0.fKeys : Nat) : Int) - ((MKeys.size a0.fHeirs : Nat) : Int))) ⟨hs.2.2, by omega, by omega⟩)]
  unfold laws_szKeys.md
  by_cases c2 : (a1 - ((MKeys.size a0.fKeys : Nat) : Int) - ((MKeys.size a0.fHeirs : Nat) : Int)) < ((MKeys.size a0.fJudge : Nat) : Int)
  · rw [szM_neg c2]; rw [show szM (MHead.size a0) a1 = -1 from szM_neg (by unfold MHead.size; omega)]; try rfl
  rw [szM_pos c2, dec_neg (by omega), cond_false]
  rw [show szM (MHead.size a0) a1 = a1 - ((MKeys.size a0.fKeys : Nat) : Int) - ((MKeys.size a0.fHeirs : Nat) : Int) - ((MKeys.size a0.fJudge : Nat) : Int) from by rw [szM_pos (by unfold MHead.size; omega)]; unfold MHead.size; omega]
noncomputable def sem (ls : List L) : Option (List L) := (R (RHead.dec ls) ((dropT 16 ls).headD .hole).toInt).map RT.enc
theorem ok (ls q : List L) (hl : LOKs Ev.cells pats ls) (h : sem ls = some q) : ∃ n, runF E live Tryz.f98 res n (initS pats ls) = some q := by
  obtain ⟨v, hv, hq⟩ := map_some h
  obtain ⟨⟨a0, a1⟩, hg, e, hm⟩ := ofM_some hv
  simp only [rf, Prod.mk.injEq] at e
  obtain ⟨e0, e1⟩ := e
  have hn := okF a0 a1 hg
  refine ⟨0, (run_eq 0 ls).trans ?_⟩
  rw [← e0, ← e1]
  rw [hn, ← hq, hm]; rfl
noncomputable def con : Con := ⟨pats, res, sem⟩
theorem chk : fnB Tryz.f98 con 24 = true := by kernel_rfl
theorem valid_ : Valid Tryz.prog Ev 98 con := valid mix tab_ok (.cons laws_szKeys.valid_ .nil) Tryz.func98 chk live ok
end laws_szHead
/-! laws.szSigS -/
namespace laws_szSigS
noncomputable def F (x0 : List (List L)) (x1 : Int) : Ans := (bif (decide ((IntKind.i64.wrap (x1 - (x0.length : Int))) < 0)) then ret ((-1) : Int) else ret ((IntKind.i64.wrap (x1 - (x0.length : Int))) : Int))
def live : Nat → Live := fun _ => []
def pats : List Pat := [.rd (.sl 189), .rd (.int .i64)]
def res : RP := .one (.rd (.int .i64))
noncomputable def G : List (Nat × Con) := []
noncomputable abbrev E : Env := ⟨assoc Tab, conG G, 12⟩
set_option maxRecDepth 100000
theorem run_eq (n : Nat) (ls : List L) : runF E live Tryz.f99 res n (initS pats ls) = F (ls.headD .hole).toSl ((dropT 1 ls).headD .hole).toInt := by kernel_rfl
noncomputable def md (a0 : List MSig) (a1 : Int) : Int := szM (szL (fun y : MSig => MSig.size y) a0) a1
def gd (a0 : List MSig) (a1 : Int) : Prop := (SmL maxLen (fun y : MSig => MSig.Sm maxLen y) a0) ∧ 0 ≤ a1 ∧ a1 ≤ 1048576
def rf (a : List MSig × Int) : List (List L) × Int := ((a.1.map MSig.row), a.2)
theorem rf_inj (a b : List MSig × Int) (h : rf a = rf b) : a = b := by
  exact (Prod.ext (map_inj MSig.row_inj (congrArg (fun x => x.1) h)) (congrArg (fun x => x.2) h))
noncomputable def R (x0 : List (List L)) (x1 : Int) : Option (Int) := ofM rf (fun a => gd a.1 a.2) (fun a => (md a.1 a.2)) (x0, x1)
theorem R_eq {a0 : List MSig} {a1 : Int} (h : gd a0 a1) : R (a0.map MSig.row) a1 = some (md a0 a1) := ofM_eq (r := rf) (a := (a0, a1)) rf_inj h
theorem okF (a0 : List MSig) (a1 : Int) (hg : gd a0 a1) : F (a0.map MSig.row) a1 = ret ((md a0 a1) : Int) := by
  obtain ⟨hs, g0, g1⟩ := hg
  unfold F md
  rw [List.length_map, sz_wrap g0 g1 hs.1]
  have e : szL (fun y : MSig => MSig.size y) a0 = a0.length := by
    unfold szL
    have : (a0.map (fun y : MSig => MSig.size y)).sum = 0 := sum_zero (fun _ => rfl) a0
    omega
  rw [e]
  by_cases hc : a1 < ((a0.length : Nat) : Int)
  · rw [szM_neg hc, decide_eq_true (by omega)]; rfl
  · rw [szM_pos hc, decide_eq_false (by omega)]; rfl
noncomputable def sem (ls : List L) : Option (List L) := (R (ls.headD .hole).toSl ((dropT 1 ls).headD .hole).toInt).map RT.enc
theorem ok (ls q : List L) (hl : LOKs Ev.cells pats ls) (h : sem ls = some q) : ∃ n, runF E live Tryz.f99 res n (initS pats ls) = some q := by
  obtain ⟨v, hv, hq⟩ := map_some h
  obtain ⟨⟨a0, a1⟩, hg, e, hm⟩ := ofM_some hv
  simp only [rf, Prod.mk.injEq] at e
  obtain ⟨e0, e1⟩ := e
  have hn := okF a0 a1 hg
  refine ⟨0, (run_eq 0 ls).trans ?_⟩
  rw [← e0, ← e1]
  rw [hn, ← hq, hm]; rfl
noncomputable def con : Con := ⟨pats, res, sem⟩
theorem chk : fnB Tryz.f99 con 12 = true := by kernel_rfl
theorem valid_ : Valid Tryz.prog Ev 99 con := valid mix tab_ok .nil Tryz.func99 chk live ok
end laws_szSigS
/-! laws.szSigned -/
namespace laws_szSigned
noncomputable def F (x0 : RSigned) (x1 : Int) : Ans := (call (laws_szHead.R x0.fHead x1) fun v1 => (bif (decide (v1 < 0)) then ret ((-1) : Int) else (call (laws_szSigS.R x0.fSigs v1) fun v2 => (bif (decide (v2 < 0)) then ret ((-1) : Int) else ret (v2 : Int)))))
def live : Nat → Live := fun _ => []
def pats : List Pat := [.agg [.int .i64, .int .i64, .int .i64, .int .i64, .int .i64, .int .i64, .int .i64, .int .i64, .sl 3, .int .i64, .sl 3, .int .i64, .int .i64, .sl 3, .int .i64, .bool, .sl 189], .rd (.int .i64)]
def res : RP := .one (.rd (.int .i64))
noncomputable def G : List (Nat × Con) := [(98, laws_szHead.con), (99, laws_szSigS.con)]
noncomputable abbrev E : Env := ⟨assoc Tab, conG G, 18⟩
set_option maxRecDepth 100000
theorem run_eq (n : Nat) (ls : List L) : runF E live Tryz.f53 res n (initS pats ls) = F (RSigned.dec ls) ((dropT 17 ls).headD .hole).toInt := by kernel_rfl
noncomputable def md (a0 : MSigned) (a1 : Int) : Int := szM (MSigned.size a0) a1
def gd (a0 : MSigned) (a1 : Int) : Prop := (MSigned.Sm maxLen a0) ∧ 0 ≤ a1 ∧ a1 ≤ 1048576
def rf (a : MSigned × Int) : RSigned × Int := ((MSigned.r a.1), a.2)
theorem rf_inj (a b : MSigned × Int) (h : rf a = rf b) : a = b := by
  exact (Prod.ext (MSigned.r_inj (congrArg (fun x => x.1) h)) (congrArg (fun x => x.2) h))
noncomputable def R (x0 : RSigned) (x1 : Int) : Option (Int) := ofM rf (fun a => gd a.1 a.2) (fun a => (md a.1 a.2)) (x0, x1)
theorem R_eq {a0 : MSigned} {a1 : Int} (h : gd a0 a1) : R (MSigned.r a0) a1 = some (md a0 a1) := ofM_eq (r := rf) (a := (a0, a1)) rf_inj h
theorem okF (a0 : MSigned) (a1 : Int) (hg : gd a0 a1) : F (MSigned.r a0) a1 = ret ((md a0 a1) : Int) := by
  obtain ⟨hs, g0, g1⟩ := hg
  unfold md
  show (call (laws_szHead.R (MHead.r a0.fHead) a1) fun v1 => (bif (decide (v1 < 0)) then ret ((-1) : Int) else (call (laws_szSigS.R (a0.fSigs.map MSig.row) v1) fun v2 => (bif (decide (v2 < 0)) then ret ((-1) : Int) else ret (v2 : Int))))) = _
  rw [call_eq (laws_szHead.R_eq (a1 := a1) ⟨hs.1, by omega, by omega⟩)]
  unfold laws_szHead.md
  by_cases c0 : a1 < ((MHead.size a0.fHead : Nat) : Int)
  · rw [szM_neg c0]; rw [show szM (MSigned.size a0) a1 = -1 from szM_neg (by unfold MSigned.size; omega)]; try rfl
  rw [szM_pos c0, dec_neg (by omega), cond_false]
  rw [call_eq (laws_szSigS.R_eq (a1 := (a1 - ((MHead.size a0.fHead : Nat) : Int))) ⟨hs.2, by omega, by omega⟩)]
  unfold laws_szSigS.md
  by_cases c1 : (a1 - ((MHead.size a0.fHead : Nat) : Int)) < ((szL (fun y : MSig => MSig.size y) a0.fSigs : Nat) : Int)
  · rw [szM_neg c1]; rw [show szM (MSigned.size a0) a1 = -1 from szM_neg (by unfold MSigned.size; omega)]; try rfl
  rw [szM_pos c1, dec_neg (by omega), cond_false]
  rw [show szM (MSigned.size a0) a1 = a1 - ((MHead.size a0.fHead : Nat) : Int) - ((szL (fun y : MSig => MSig.size y) a0.fSigs : Nat) : Int) from by rw [szM_pos (by unfold MSigned.size; omega)]; unfold MSigned.size; omega]
noncomputable def sem (ls : List L) : Option (List L) := (R (RSigned.dec ls) ((dropT 17 ls).headD .hole).toInt).map RT.enc
theorem ok (ls q : List L) (hl : LOKs Ev.cells pats ls) (h : sem ls = some q) : ∃ n, runF E live Tryz.f53 res n (initS pats ls) = some q := by
  obtain ⟨v, hv, hq⟩ := map_some h
  obtain ⟨⟨a0, a1⟩, hg, e, hm⟩ := ofM_some hv
  simp only [rf, Prod.mk.injEq] at e
  obtain ⟨e0, e1⟩ := e
  have hn := okF a0 a1 hg
  refine ⟨0, (run_eq 0 ls).trans ?_⟩
  rw [← e0, ← e1]
  rw [hn, ← hq, hm]; rfl
noncomputable def con : Con := ⟨pats, res, sem⟩
theorem chk : fnB Tryz.f53 con 18 = true := by kernel_rfl
theorem valid_ : Valid Tryz.prog Ev 53 con := valid mix tab_ok (.cons laws_szHead.valid_ (.cons laws_szSigS.valid_ .nil)) Tryz.func53 chk live ok
end laws_szSigned
/-! laws.szSignedS -/
namespace laws_szSignedS
inductive Pt where
  | p0 (a : List (List L)) (b : Int) (c : Int)
def pid : Pt → Nat
  | .p0 .. => 5
def pvs : Pt → List V
  | .p0 a b c => [.sl none 108 a, .int .i64 b, .int .i64 c]
def phs : Pt → List Root
  | .p0 a b c => []
noncomputable def step (J : Pt → Ans) : Pt → Ans
  | .p0 a b c => (bif (decide (c < (a.length : Int))) then (bif (decide ((0 : Int) ≤ c)) then (bif (decide (c < (a.length : Int))) then (call (laws_szSigned.R (RSigned.at a (Int.toNat c)) b) fun v1 => (bif (decide (v1 < 0)) then ret ((-1) : Int) else J (.p0 a v1 (IntKind.i64.wrap (c + 1))))) else none) else none) else ret (b : Int))
noncomputable def start (J : Pt → Ans) (x0 : List (List L)) (x1 : Int) : Ans := (bif (decide ((IntKind.i64.wrap (x1 - (x0.length : Int))) < 0)) then ret ((-1) : Int) else J (.p0 x0 (IntKind.i64.wrap (x1 - (x0.length : Int))) 0))
def live : Nat → Live := fun i => match i with | 5 => [(0, none), (1, none), (5, none)] | _ => []
def pats : List Pat := [.rd (.sl 108), .rd (.int .i64)]
def res : RP := .one (.rd (.int .i64))
noncomputable def G : List (Nat × Con) := [(53, laws_szSigned.con)]
noncomputable abbrev E : Env := ⟨assoc Tab, conG G, 27⟩
set_option maxRecDepth 100000
theorem step_eq (I : Heads) (p : Pt) : enterC E live I (pid p) (bodyOf Tryz.f15) (stOf (live (pid p)) (pvs p) (phs p)) (doneK E Tryz.f15 res) = step (fun q => I (pid q) (pvs q) (phs q)) p := by
  cases p <;> kernel_rfl
theorem start_eq (I : Heads) (ls : List L) : runC E live I (bodyOf Tryz.f15) (initS pats ls) (doneK E Tryz.f15 res) = start (fun q => I (pid q) (pvs q) (phs q)) (ls.headD .hole).toSl ((dropT 1 ls).headD .hole).toInt := by kernel_rfl
theorem run_eq (n : Nat) (ls : List L) : runF E live Tryz.f15 res n (initS pats ls) = start (iter step n) (ls.headD .hole).toSl ((dropT 1 ls).headD .hole).toInt := runF_iter (id := pid) (vs := pvs) (hs := phs) (step := step) (start := fun J => start J (ls.headD .hole).toSl ((dropT 1 ls).headD .hole).toInt) step_eq (fun I => start_eq I ls) n
noncomputable def md (a0 : List MSigned) (a1 : Int) : Int := szM (szL (fun y : MSigned => MSigned.size y) a0) a1
def gd (a0 : List MSigned) (a1 : Int) : Prop := (SmL maxLen (fun y : MSigned => MSigned.Sm maxLen y) a0) ∧ 0 ≤ a1 ∧ a1 ≤ 1048576
def rf (a : List MSigned × Int) : List (List L) × Int := ((a.1.map MSigned.row), a.2)
theorem rf_inj (a b : List MSigned × Int) (h : rf a = rf b) : a = b := by
  exact (Prod.ext (map_inj MSigned.row_inj (congrArg (fun x => x.1) h)) (congrArg (fun x => x.2) h))
noncomputable def R (x0 : List (List L)) (x1 : Int) : Option (Int) := ofM rf (fun a => gd a.1 a.2) (fun a => (md a.1 a.2)) (x0, x1)
theorem R_eq {a0 : List MSigned} {a1 : Int} (h : gd a0 a1) : R (a0.map MSigned.row) a1 = some (md a0 a1) := ofM_eq (r := rf) (a := (a0, a1)) rf_inj h
theorem okF (a0 : List MSigned) (a1 : Int) (hg : gd a0 a1) : ∃ n, start (iter step n) (a0.map MSigned.row) a1 = ret ((md a0 a1) : Int) := by
  obtain ⟨hs, g0, g1⟩ := hg
  unfold start md
  simp only [List.length_map]
  refine sz_list (pt := fun left i => Pt.p0 (a0.map MSigned.row) left (i : Int)) (f := fun y : MSigned => MSigned.size y) hs.1 (fun J i h left p0 p1 => ?_) (fun J left => ?_) g0 g1
  · simp only [step, List.length_map, lt_dec h, zle_dec, cond_true, toNat_nat, MSigned.at_row h]
    rw [call_eq (laws_szSigned.R_eq ⟨hs.get h, p0, p1⟩), wrap_succ h hs.1]
    unfold laws_szSigned.md
    by_cases hc : left < ((MSigned.size (a0[i]) : Nat) : Int)
    · rw [szM_neg hc, if_pos hc]; rfl
    · rw [szM_pos hc, if_neg hc, dec_neg (by omega)]; rfl
  · simp only [step, List.length_map, nlt_dec, cond_false]
noncomputable def sem (ls : List L) : Option (List L) := (R (ls.headD .hole).toSl ((dropT 1 ls).headD .hole).toInt).map RT.enc
theorem ok (ls q : List L) (hl : LOKs Ev.cells pats ls) (h : sem ls = some q) : ∃ n, runF E live Tryz.f15 res n (initS pats ls) = some q := by
  obtain ⟨v, hv, hq⟩ := map_some h
  obtain ⟨⟨a0, a1⟩, hg, e, hm⟩ := ofM_some hv
  simp only [rf, Prod.mk.injEq] at e
  obtain ⟨e0, e1⟩ := e
  obtain ⟨n, hn⟩ := okF a0 a1 hg
  refine ⟨n, (run_eq n ls).trans ?_⟩
  rw [← e0, ← e1]
  rw [hn, ← hq, hm]; rfl
noncomputable def con : Con := ⟨pats, res, sem⟩
theorem chk : fnB Tryz.f15 con 27 = true := by kernel_rfl
theorem valid_ : Valid Tryz.prog Ev 15 con := valid mix tab_ok (.cons laws_szSigned.valid_ .nil) Tryz.func15 chk live ok
end laws_szSignedS
/-! laws.szEntry -/
namespace laws_szEntry
noncomputable def F (x0 : REntry) (x1 : Int) : Ans := (bif (decide ((IntKind.i64.wrap (x1 - (x0.fLabel.size : Int))) < 0)) then ret ((-1) : Int) else (call (laws_szStringS.R x0.fPath (IntKind.i64.wrap (x1 - (x0.fLabel.size : Int)))) fun v1 => (bif (decide (v1 < 0)) then ret ((-1) : Int) else ret (v1 : Int))))
def live : Nat → Live := fun _ => []
def pats : List Pat := [.agg [.str, .int .i64, .int .i64, .sl 9], .rd (.int .i64)]
def res : RP := .one (.rd (.int .i64))
noncomputable def G : List (Nat × Con) := [(71, laws_szStringS.con)]
noncomputable abbrev E : Env := ⟨assoc Tab, conG G, 19⟩
set_option maxRecDepth 100000
theorem run_eq (n : Nat) (ls : List L) : runF E live Tryz.f104 res n (initS pats ls) = F (REntry.dec ls) ((dropT 4 ls).headD .hole).toInt := by kernel_rfl
noncomputable def md (a0 : MEntry) (a1 : Int) : Int := szM (MEntry.size a0) a1
def gd (a0 : MEntry) (a1 : Int) : Prop := (MEntry.Sm maxLen a0) ∧ 0 ≤ a1 ∧ a1 ≤ 1048576
def rf (a : MEntry × Int) : REntry × Int := ((MEntry.r a.1), a.2)
theorem rf_inj (a b : MEntry × Int) (h : rf a = rf b) : a = b := by
  exact (Prod.ext (MEntry.r_inj (congrArg (fun x => x.1) h)) (congrArg (fun x => x.2) h))
noncomputable def R (x0 : REntry) (x1 : Int) : Option (Int) := ofM rf (fun a => gd a.1 a.2) (fun a => (md a.1 a.2)) (x0, x1)
theorem R_eq {a0 : MEntry} {a1 : Int} (h : gd a0 a1) : R (MEntry.r a0) a1 = some (md a0 a1) := ofM_eq (r := rf) (a := (a0, a1)) rf_inj h
theorem okF (a0 : MEntry) (a1 : Int) (hg : gd a0 a1) : F (MEntry.r a0) a1 = ret ((md a0 a1) : Int) := by
  obtain ⟨hs, g0, g1⟩ := hg
  unfold md
  show (bif (decide ((IntKind.i64.wrap (a1 - (a0.fLabel.size : Int))) < 0)) then ret ((-1) : Int) else (call (laws_szStringS.R (a0.fPath.map sRow) (IntKind.i64.wrap (a1 - (a0.fLabel.size : Int)))) fun v1 => (bif (decide (v1 < 0)) then ret ((-1) : Int) else ret (v1 : Int)))) = _
  rw [sz_wrap (left := a1) (s := a0.fLabel.size) (by omega) (by omega) hs.1]
  by_cases c0 : a1 - ((a0.fLabel.size : Nat) : Int) < 0
  · rw [decide_eq_true c0, cond_true]; rw [show szM (MEntry.size a0) a1 = -1 from szM_neg (by unfold MEntry.size; omega)]; try rfl
  rw [decide_eq_false c0, cond_false]
  rw [call_eq (laws_szStringS.R_eq (a1 := (a1 - ((a0.fLabel.size : Nat) : Int))) ⟨hs.2, by omega, by omega⟩)]
  unfold laws_szStringS.md
  by_cases c1 : (a1 - ((a0.fLabel.size : Nat) : Int)) < ((szL (fun y : ByteArray => y.size) a0.fPath : Nat) : Int)
  · rw [szM_neg c1]; rw [show szM (MEntry.size a0) a1 = -1 from szM_neg (by unfold MEntry.size; omega)]; try rfl
  rw [szM_pos c1, dec_neg (by omega), cond_false]
  rw [show szM (MEntry.size a0) a1 = a1 - ((a0.fLabel.size : Nat) : Int) - ((szL (fun y : ByteArray => y.size) a0.fPath : Nat) : Int) from by rw [szM_pos (by unfold MEntry.size; omega)]; unfold MEntry.size; omega]
noncomputable def sem (ls : List L) : Option (List L) := (R (REntry.dec ls) ((dropT 4 ls).headD .hole).toInt).map RT.enc
theorem ok (ls q : List L) (hl : LOKs Ev.cells pats ls) (h : sem ls = some q) : ∃ n, runF E live Tryz.f104 res n (initS pats ls) = some q := by
  obtain ⟨v, hv, hq⟩ := map_some h
  obtain ⟨⟨a0, a1⟩, hg, e, hm⟩ := ofM_some hv
  simp only [rf, Prod.mk.injEq] at e
  obtain ⟨e0, e1⟩ := e
  have hn := okF a0 a1 hg
  refine ⟨0, (run_eq 0 ls).trans ?_⟩
  rw [← e0, ← e1]
  rw [hn, ← hq, hm]; rfl
noncomputable def con : Con := ⟨pats, res, sem⟩
theorem chk : fnB Tryz.f104 con 19 = true := by kernel_rfl
theorem valid_ : Valid Tryz.prog Ev 104 con := valid mix tab_ok (.cons laws_szStringS.valid_ .nil) Tryz.func104 chk live ok
end laws_szEntry
/-! laws.szProof -/
namespace laws_szProof
noncomputable def F (x0 : RProof) (x1 : Int) : Ans := (call (laws_szIntS.R x0.fPath x1) fun v1 => (bif (decide (v1 < 0)) then ret ((-1) : Int) else ret (v1 : Int)))
def live : Nat → Live := fun _ => []
def pats : List Pat := [.agg [.int .i64, .sl 3], .rd (.int .i64)]
def res : RP := .one (.rd (.int .i64))
noncomputable def G : List (Nat × Con) := [(105, laws_szIntS.con)]
noncomputable abbrev E : Env := ⟨assoc Tab, conG G, 12⟩
set_option maxRecDepth 100000
theorem run_eq (n : Nat) (ls : List L) : runF E live Tryz.f209 res n (initS pats ls) = F (RProof.dec ls) ((dropT 2 ls).headD .hole).toInt := by kernel_rfl
noncomputable def md (a0 : MProof) (a1 : Int) : Int := szM (MProof.size a0) a1
def gd (a0 : MProof) (a1 : Int) : Prop := (MProof.Sm maxLen a0) ∧ 0 ≤ a1 ∧ a1 ≤ 1048576
def rf (a : MProof × Int) : RProof × Int := ((MProof.r a.1), a.2)
theorem rf_inj (a b : MProof × Int) (h : rf a = rf b) : a = b := by
  exact (Prod.ext (MProof.r_inj (congrArg (fun x => x.1) h)) (congrArg (fun x => x.2) h))
noncomputable def R (x0 : RProof) (x1 : Int) : Option (Int) := ofM rf (fun a => gd a.1 a.2) (fun a => (md a.1 a.2)) (x0, x1)
theorem R_eq {a0 : MProof} {a1 : Int} (h : gd a0 a1) : R (MProof.r a0) a1 = some (md a0 a1) := ofM_eq (r := rf) (a := (a0, a1)) rf_inj h
theorem okF (a0 : MProof) (a1 : Int) (hg : gd a0 a1) : F (MProof.r a0) a1 = ret ((md a0 a1) : Int) := by
  obtain ⟨hs, g0, g1⟩ := hg
  unfold md
  show (call (laws_szIntS.R (a0.fPath.map iRow) a1) fun v1 => (bif (decide (v1 < 0)) then ret ((-1) : Int) else ret (v1 : Int))) = _
  rw [call_eq (laws_szIntS.R_eq (a1 := a1) ⟨hs, by omega, by omega⟩)]
  unfold laws_szIntS.md
  by_cases c0 : a1 < ((szL (fun y : Int => 0) a0.fPath : Nat) : Int)
  · rw [szM_neg c0]; rw [show szM (MProof.size a0) a1 = -1 from szM_neg (by unfold MProof.size; omega)]; try rfl
  rw [szM_pos c0, dec_neg (by omega), cond_false]
  rw [show szM (MProof.size a0) a1 = a1 - ((szL (fun y : Int => 0) a0.fPath : Nat) : Int) from by rw [szM_pos (by unfold MProof.size; omega)]; unfold MProof.size; omega]
noncomputable def sem (ls : List L) : Option (List L) := (R (RProof.dec ls) ((dropT 2 ls).headD .hole).toInt).map RT.enc
theorem ok (ls q : List L) (hl : LOKs Ev.cells pats ls) (h : sem ls = some q) : ∃ n, runF E live Tryz.f209 res n (initS pats ls) = some q := by
  obtain ⟨v, hv, hq⟩ := map_some h
  obtain ⟨⟨a0, a1⟩, hg, e, hm⟩ := ofM_some hv
  simp only [rf, Prod.mk.injEq] at e
  obtain ⟨e0, e1⟩ := e
  have hn := okF a0 a1 hg
  refine ⟨0, (run_eq 0 ls).trans ?_⟩
  rw [← e0, ← e1]
  rw [hn, ← hq, hm]; rfl
noncomputable def con : Con := ⟨pats, res, sem⟩
theorem chk : fnB Tryz.f209 con 12 = true := by kernel_rfl
theorem valid_ : Valid Tryz.prog Ev 209 con := valid mix tab_ok (.cons laws_szIntS.valid_ .nil) Tryz.func209 chk live ok
end laws_szProof
/-! laws.szGap -/
namespace laws_szGap
noncomputable def F (x0 : RGap) (x1 : Int) : Ans := (call (laws_szEntry.R x0.fBefore x1) fun v1 => (bif (decide (v1 < 0)) then ret ((-1) : Int) else (call (laws_szEntry.R x0.fAfter v1) fun v2 => (bif (decide (v2 < 0)) then ret ((-1) : Int) else (call (laws_szProof.R x0.fLeft v2) fun v3 => (bif (decide (v3 < 0)) then ret ((-1) : Int) else (call (laws_szProof.R x0.fRight v3) fun v4 => (bif (decide (v4 < 0)) then ret ((-1) : Int) else ret (v4 : Int)))))))))
def live : Nat → Live := fun _ => []
def pats : List Pat := [.agg [.int .i64, .str, .int .i64, .int .i64, .sl 9, .str, .int .i64, .int .i64, .sl 9, .int .i64, .sl 3, .int .i64, .sl 3], .rd (.int .i64)]
def res : RP := .one (.rd (.int .i64))
noncomputable def G : List (Nat × Con) := [(104, laws_szEntry.con), (209, laws_szProof.con)]
noncomputable abbrev E : Env := ⟨assoc Tab, conG G, 30⟩
set_option maxRecDepth 100000
theorem run_eq (n : Nat) (ls : List L) : runF E live Tryz.f210 res n (initS pats ls) = F (RGap.dec ls) ((dropT 13 ls).headD .hole).toInt := by kernel_rfl
noncomputable def md (a0 : MGap) (a1 : Int) : Int := szM (MGap.size a0) a1
def gd (a0 : MGap) (a1 : Int) : Prop := (MGap.Sm maxLen a0) ∧ 0 ≤ a1 ∧ a1 ≤ 1048576
def rf (a : MGap × Int) : RGap × Int := ((MGap.r a.1), a.2)
theorem rf_inj (a b : MGap × Int) (h : rf a = rf b) : a = b := by
  exact (Prod.ext (MGap.r_inj (congrArg (fun x => x.1) h)) (congrArg (fun x => x.2) h))
noncomputable def R (x0 : RGap) (x1 : Int) : Option (Int) := ofM rf (fun a => gd a.1 a.2) (fun a => (md a.1 a.2)) (x0, x1)
theorem R_eq {a0 : MGap} {a1 : Int} (h : gd a0 a1) : R (MGap.r a0) a1 = some (md a0 a1) := ofM_eq (r := rf) (a := (a0, a1)) rf_inj h
theorem okF (a0 : MGap) (a1 : Int) (hg : gd a0 a1) : F (MGap.r a0) a1 = ret ((md a0 a1) : Int) := by
  obtain ⟨hs, g0, g1⟩ := hg
  unfold md
  show (call (laws_szEntry.R (MEntry.r a0.fBefore) a1) fun v1 => (bif (decide (v1 < 0)) then ret ((-1) : Int) else (call (laws_szEntry.R (MEntry.r a0.fAfter) v1) fun v2 => (bif (decide (v2 < 0)) then ret ((-1) : Int) else (call (laws_szProof.R (MProof.r a0.fLeft) v2) fun v3 => (bif (decide (v3 < 0)) then ret ((-1) : Int) else (call (laws_szProof.R (MProof.r a0.fRight) v3) fun v4 => (bif (decide (v4 < 0)) then ret ((-1) : Int) else ret (v4 : Int))))))))) = _
  rw [call_eq (laws_szEntry.R_eq (a1 := a1) ⟨hs.1, by omega, by omega⟩)]
  unfold laws_szEntry.md
  by_cases c0 : a1 < ((MEntry.size a0.fBefore : Nat) : Int)
  · rw [szM_neg c0]; rw [show szM (MGap.size a0) a1 = -1 from szM_neg (by unfold MGap.size; omega)]; try rfl
  rw [szM_pos c0, dec_neg (by omega), cond_false]
  rw [call_eq (laws_szEntry.R_eq (a1 := (a1 - ((MEntry.size a0.fBefore : Nat) : Int))) ⟨hs.2.1, by omega, by omega⟩)]
  unfold laws_szEntry.md
  by_cases c1 : (a1 - ((MEntry.size a0.fBefore : Nat) : Int)) < ((MEntry.size a0.fAfter : Nat) : Int)
  · rw [szM_neg c1]; rw [show szM (MGap.size a0) a1 = -1 from szM_neg (by unfold MGap.size; omega)]; try rfl
  rw [szM_pos c1, dec_neg (by omega), cond_false]
  rw [call_eq (laws_szProof.R_eq (a1 := (a1 - ((MEntry.size a0.fBefore : Nat) : Int) - ((MEntry.size a0.fAfter : Nat) : Int))) ⟨hs.2.2.1, by omega, by omega⟩)]
  unfold laws_szProof.md
  by_cases c2 : (a1 - ((MEntry.size a0.fBefore : Nat) : Int) - ((MEntry.size a0.fAfter : Nat) : Int)) < ((MProof.size a0.fLeft : Nat) : Int)
  · rw [szM_neg c2]; rw [show szM (MGap.size a0) a1 = -1 from szM_neg (by unfold MGap.size; omega)]; try rfl
  rw [szM_pos c2, dec_neg (by omega), cond_false]
  rw [call_eq (laws_szProof.R_eq (a1 := (a1 - ((MEntry.size a0.fBefore : Nat) : Int) - ((MEntry.size a0.fAfter : Nat) : Int) - ((MProof.size a0.fLeft : Nat) : Int))) ⟨hs.2.2.2, by omega, by omega⟩)]
  unfold laws_szProof.md
  by_cases c3 : (a1 - ((MEntry.size a0.fBefore : Nat) : Int) - ((MEntry.size a0.fAfter : Nat) : Int) - ((MProof.size a0.fLeft : Nat) : Int)) < ((MProof.size a0.fRight : Nat) : Int)
  · rw [szM_neg c3]; rw [show szM (MGap.size a0) a1 = -1 from szM_neg (by unfold MGap.size; omega)]; try rfl
  rw [szM_pos c3, dec_neg (by omega), cond_false]
  rw [show szM (MGap.size a0) a1 = a1 - ((MEntry.size a0.fBefore : Nat) : Int) - ((MEntry.size a0.fAfter : Nat) : Int) - ((MProof.size a0.fLeft : Nat) : Int) - ((MProof.size a0.fRight : Nat) : Int) from by rw [szM_pos (by unfold MGap.size; omega)]; unfold MGap.size; omega]
noncomputable def sem (ls : List L) : Option (List L) := (R (RGap.dec ls) ((dropT 13 ls).headD .hole).toInt).map RT.enc
theorem ok (ls q : List L) (hl : LOKs Ev.cells pats ls) (h : sem ls = some q) : ∃ n, runF E live Tryz.f210 res n (initS pats ls) = some q := by
  obtain ⟨v, hv, hq⟩ := map_some h
  obtain ⟨⟨a0, a1⟩, hg, e, hm⟩ := ofM_some hv
  simp only [rf, Prod.mk.injEq] at e
  obtain ⟨e0, e1⟩ := e
  have hn := okF a0 a1 hg
  refine ⟨0, (run_eq 0 ls).trans ?_⟩
  rw [← e0, ← e1]
  rw [hn, ← hq, hm]; rfl
noncomputable def con : Con := ⟨pats, res, sem⟩
theorem chk : fnB Tryz.f210 con 30 = true := by kernel_rfl
theorem valid_ : Valid Tryz.prog Ev 210 con := valid mix tab_ok (.cons laws_szEntry.valid_ (.cons laws_szProof.valid_ .nil)) Tryz.func210 chk live ok
end laws_szGap
/-! laws.szAnswer -/
namespace laws_szAnswer
noncomputable def F (x0 : RAnswer) (x1 : Int) : Ans := (call (laws_szSignedS.R x0.fChain x1) fun v1 => (bif (decide (v1 < 0)) then ret ((-1) : Int) else (call (laws_szEntry.R x0.fEntry v1) fun v2 => (bif (decide (v2 < 0)) then ret ((-1) : Int) else (call (laws_szProof.R x0.fProof v2) fun v3 => (bif (decide (v3 < 0)) then ret ((-1) : Int) else (call (laws_szGap.R x0.fGap v3) fun v4 => (bif (decide (v4 < 0)) then ret ((-1) : Int) else ret (v4 : Int)))))))))
def live : Nat → Live := fun _ => []
def pats : List Pat := [.agg [.sl 108, .bool, .str, .int .i64, .int .i64, .sl 9, .int .i64, .sl 3, .int .i64, .str, .int .i64, .int .i64, .sl 9, .str, .int .i64, .int .i64, .sl 9, .int .i64, .sl 3, .int .i64, .sl 3], .rd (.int .i64)]
def res : RP := .one (.rd (.int .i64))
noncomputable def G : List (Nat × Con) := [(15, laws_szSignedS.con), (104, laws_szEntry.con), (209, laws_szProof.con), (210, laws_szGap.con)]
noncomputable abbrev E : Env := ⟨assoc Tab, conG G, 30⟩
set_option maxRecDepth 100000
theorem run_eq (n : Nat) (ls : List L) : runF E live Tryz.f163 res n (initS pats ls) = F (RAnswer.dec ls) ((dropT 21 ls).headD .hole).toInt := by kernel_rfl
noncomputable def md (a0 : MAnswer) (a1 : Int) : Int := szM (MAnswer.size a0) a1
def gd (a0 : MAnswer) (a1 : Int) : Prop := (MAnswer.Sm maxLen a0) ∧ 0 ≤ a1 ∧ a1 ≤ 1048576
def rf (a : MAnswer × Int) : RAnswer × Int := ((MAnswer.r a.1), a.2)
theorem rf_inj (a b : MAnswer × Int) (h : rf a = rf b) : a = b := by
  exact (Prod.ext (MAnswer.r_inj (congrArg (fun x => x.1) h)) (congrArg (fun x => x.2) h))
noncomputable def R (x0 : RAnswer) (x1 : Int) : Option (Int) := ofM rf (fun a => gd a.1 a.2) (fun a => (md a.1 a.2)) (x0, x1)
theorem R_eq {a0 : MAnswer} {a1 : Int} (h : gd a0 a1) : R (MAnswer.r a0) a1 = some (md a0 a1) := ofM_eq (r := rf) (a := (a0, a1)) rf_inj h
theorem okF (a0 : MAnswer) (a1 : Int) (hg : gd a0 a1) : F (MAnswer.r a0) a1 = ret ((md a0 a1) : Int) := by
  obtain ⟨hs, g0, g1⟩ := hg
  unfold md
  show (call (laws_szSignedS.R (a0.fChain.map MSigned.row) a1) fun v1 => (bif (decide (v1 < 0)) then ret ((-1) : Int) else (call (laws_szEntry.R (MEntry.r a0.fEntry) v1) fun v2 => (bif (decide (v2 < 0)) then ret ((-1) : Int) else (call (laws_szProof.R (MProof.r a0.fProof) v2) fun v3 => (bif (decide (v3 < 0)) then ret ((-1) : Int) else (call (laws_szGap.R (MGap.r a0.fGap) v3) fun v4 => (bif (decide (v4 < 0)) then ret ((-1) : Int) else ret (v4 : Int))))))))) = _
  rw [call_eq (laws_szSignedS.R_eq (a1 := a1) ⟨hs.1, by omega, by omega⟩)]
  unfold laws_szSignedS.md
  by_cases c0 : a1 < ((szL (fun y : MSigned => MSigned.size y) a0.fChain : Nat) : Int)
  · rw [szM_neg c0]; rw [show szM (MAnswer.size a0) a1 = -1 from szM_neg (by unfold MAnswer.size; omega)]; try rfl
  rw [szM_pos c0, dec_neg (by omega), cond_false]
  rw [call_eq (laws_szEntry.R_eq (a1 := (a1 - ((szL (fun y : MSigned => MSigned.size y) a0.fChain : Nat) : Int))) ⟨hs.2.1, by omega, by omega⟩)]
  unfold laws_szEntry.md
  by_cases c1 : (a1 - ((szL (fun y : MSigned => MSigned.size y) a0.fChain : Nat) : Int)) < ((MEntry.size a0.fEntry : Nat) : Int)
  · rw [szM_neg c1]; rw [show szM (MAnswer.size a0) a1 = -1 from szM_neg (by unfold MAnswer.size; omega)]; try rfl
  rw [szM_pos c1, dec_neg (by omega), cond_false]
  rw [call_eq (laws_szProof.R_eq (a1 := (a1 - ((szL (fun y : MSigned => MSigned.size y) a0.fChain : Nat) : Int) - ((MEntry.size a0.fEntry : Nat) : Int))) ⟨hs.2.2.1, by omega, by omega⟩)]
  unfold laws_szProof.md
  by_cases c2 : (a1 - ((szL (fun y : MSigned => MSigned.size y) a0.fChain : Nat) : Int) - ((MEntry.size a0.fEntry : Nat) : Int)) < ((MProof.size a0.fProof : Nat) : Int)
  · rw [szM_neg c2]; rw [show szM (MAnswer.size a0) a1 = -1 from szM_neg (by unfold MAnswer.size; omega)]; try rfl
  rw [szM_pos c2, dec_neg (by omega), cond_false]
  rw [call_eq (laws_szGap.R_eq (a1 := (a1 - ((szL (fun y : MSigned => MSigned.size y) a0.fChain : Nat) : Int) - ((MEntry.size a0.fEntry : Nat) : Int) - ((MProof.size a0.fProof : Nat) : Int))) ⟨hs.2.2.2, by omega, by omega⟩)]
  unfold laws_szGap.md
  by_cases c3 : (a1 - ((szL (fun y : MSigned => MSigned.size y) a0.fChain : Nat) : Int) - ((MEntry.size a0.fEntry : Nat) : Int) - ((MProof.size a0.fProof : Nat) : Int)) < ((MGap.size a0.fGap : Nat) : Int)
  · rw [szM_neg c3]; rw [show szM (MAnswer.size a0) a1 = -1 from szM_neg (by unfold MAnswer.size; omega)]; try rfl
  rw [szM_pos c3, dec_neg (by omega), cond_false]
  rw [show szM (MAnswer.size a0) a1 = a1 - ((szL (fun y : MSigned => MSigned.size y) a0.fChain : Nat) : Int) - ((MEntry.size a0.fEntry : Nat) : Int) - ((MProof.size a0.fProof : Nat) : Int) - ((MGap.size a0.fGap : Nat) : Int) from by rw [szM_pos (by unfold MAnswer.size; omega)]; unfold MAnswer.size; omega]
noncomputable def sem (ls : List L) : Option (List L) := (R (RAnswer.dec ls) ((dropT 21 ls).headD .hole).toInt).map RT.enc
theorem ok (ls q : List L) (hl : LOKs Ev.cells pats ls) (h : sem ls = some q) : ∃ n, runF E live Tryz.f163 res n (initS pats ls) = some q := by
  obtain ⟨v, hv, hq⟩ := map_some h
  obtain ⟨⟨a0, a1⟩, hg, e, hm⟩ := ofM_some hv
  simp only [rf, Prod.mk.injEq] at e
  obtain ⟨e0, e1⟩ := e
  have hn := okF a0 a1 hg
  refine ⟨0, (run_eq 0 ls).trans ?_⟩
  rw [← e0, ← e1]
  rw [hn, ← hq, hm]; rfl
noncomputable def con : Con := ⟨pats, res, sem⟩
theorem chk : fnB Tryz.f163 con 30 = true := by kernel_rfl
theorem valid_ : Valid Tryz.prog Ev 163 con := valid mix tab_ok (.cons laws_szSignedS.valid_ (.cons laws_szEntry.valid_ (.cons laws_szProof.valid_ (.cons laws_szGap.valid_ .nil)))) Tryz.func163 chk live ok
end laws_szAnswer
/-! laws.szStored -/
namespace laws_szStored
noncomputable def F (x0 : RStored) (x1 : Int) : Ans := (bif (decide ((IntKind.i64.wrap (x1 - (x0.fLabel.size : Int))) < 0)) then ret ((-1) : Int) else (call (laws_szAnswer.R x0.fAnswer (IntKind.i64.wrap (x1 - (x0.fLabel.size : Int)))) fun v1 => (bif (decide (v1 < 0)) then ret ((-1) : Int) else ret (v1 : Int))))
def live : Nat → Live := fun _ => []
def pats : List Pat := [.agg [.int .i64, .str, .sl 108, .bool, .str, .int .i64, .int .i64, .sl 9, .int .i64, .sl 3, .int .i64, .str, .int .i64, .int .i64, .sl 9, .str, .int .i64, .int .i64, .sl 9, .int .i64, .sl 3, .int .i64, .sl 3], .rd (.int .i64)]
def res : RP := .one (.rd (.int .i64))
noncomputable def G : List (Nat × Con) := [(163, laws_szAnswer.con)]
noncomputable abbrev E : Env := ⟨assoc Tab, conG G, 19⟩
set_option maxRecDepth 100000
theorem run_eq (n : Nat) (ls : List L) : runF E live Tryz.f120 res n (initS pats ls) = F (RStored.dec ls) ((dropT 23 ls).headD .hole).toInt := by kernel_rfl
noncomputable def md (a0 : MStored) (a1 : Int) : Int := szM (MStored.size a0) a1
def gd (a0 : MStored) (a1 : Int) : Prop := (MStored.Sm maxLen a0) ∧ 0 ≤ a1 ∧ a1 ≤ 1048576
def rf (a : MStored × Int) : RStored × Int := ((MStored.r a.1), a.2)
theorem rf_inj (a b : MStored × Int) (h : rf a = rf b) : a = b := by
  exact (Prod.ext (MStored.r_inj (congrArg (fun x => x.1) h)) (congrArg (fun x => x.2) h))
noncomputable def R (x0 : RStored) (x1 : Int) : Option (Int) := ofM rf (fun a => gd a.1 a.2) (fun a => (md a.1 a.2)) (x0, x1)
theorem R_eq {a0 : MStored} {a1 : Int} (h : gd a0 a1) : R (MStored.r a0) a1 = some (md a0 a1) := ofM_eq (r := rf) (a := (a0, a1)) rf_inj h
theorem okF (a0 : MStored) (a1 : Int) (hg : gd a0 a1) : F (MStored.r a0) a1 = ret ((md a0 a1) : Int) := by
  obtain ⟨hs, g0, g1⟩ := hg
  unfold md
  show (bif (decide ((IntKind.i64.wrap (a1 - (a0.fLabel.size : Int))) < 0)) then ret ((-1) : Int) else (call (laws_szAnswer.R (MAnswer.r a0.fAnswer) (IntKind.i64.wrap (a1 - (a0.fLabel.size : Int)))) fun v1 => (bif (decide (v1 < 0)) then ret ((-1) : Int) else ret (v1 : Int)))) = _
  rw [sz_wrap (left := a1) (s := a0.fLabel.size) (by omega) (by omega) hs.1]
  by_cases c0 : a1 - ((a0.fLabel.size : Nat) : Int) < 0
  · rw [decide_eq_true c0, cond_true]; rw [show szM (MStored.size a0) a1 = -1 from szM_neg (by unfold MStored.size; omega)]; try rfl
  rw [decide_eq_false c0, cond_false]
  rw [call_eq (laws_szAnswer.R_eq (a1 := (a1 - ((a0.fLabel.size : Nat) : Int))) ⟨hs.2, by omega, by omega⟩)]
  unfold laws_szAnswer.md
  by_cases c1 : (a1 - ((a0.fLabel.size : Nat) : Int)) < ((MAnswer.size a0.fAnswer : Nat) : Int)
  · rw [szM_neg c1]; rw [show szM (MStored.size a0) a1 = -1 from szM_neg (by unfold MStored.size; omega)]; try rfl
  rw [szM_pos c1, dec_neg (by omega), cond_false]
  rw [show szM (MStored.size a0) a1 = a1 - ((a0.fLabel.size : Nat) : Int) - ((MAnswer.size a0.fAnswer : Nat) : Int) from by rw [szM_pos (by unfold MStored.size; omega)]; unfold MStored.size; omega]
noncomputable def sem (ls : List L) : Option (List L) := (R (RStored.dec ls) ((dropT 23 ls).headD .hole).toInt).map RT.enc
theorem ok (ls q : List L) (hl : LOKs Ev.cells pats ls) (h : sem ls = some q) : ∃ n, runF E live Tryz.f120 res n (initS pats ls) = some q := by
  obtain ⟨v, hv, hq⟩ := map_some h
  obtain ⟨⟨a0, a1⟩, hg, e, hm⟩ := ofM_some hv
  simp only [rf, Prod.mk.injEq] at e
  obtain ⟨e0, e1⟩ := e
  have hn := okF a0 a1 hg
  refine ⟨0, (run_eq 0 ls).trans ?_⟩
  rw [← e0, ← e1]
  rw [hn, ← hq, hm]; rfl
noncomputable def con : Con := ⟨pats, res, sem⟩
theorem chk : fnB Tryz.f120 con 19 = true := by kernel_rfl
theorem valid_ : Valid Tryz.prog Ev 120 con := valid mix tab_ok (.cons laws_szAnswer.valid_ .nil) Tryz.func120 chk live ok
end laws_szStored
/-! laws.szStoredS -/
namespace laws_szStoredS
inductive Pt where
  | p0 (a : List (List L)) (b : Int) (c : Int)
def pid : Pt → Nat
  | .p0 .. => 5
def pvs : Pt → List V
  | .p0 a b c => [.sl none 168 a, .int .i64 b, .int .i64 c]
def phs : Pt → List Root
  | .p0 a b c => []
noncomputable def step (J : Pt → Ans) : Pt → Ans
  | .p0 a b c => (bif (decide (c < (a.length : Int))) then (bif (decide ((0 : Int) ≤ c)) then (bif (decide (c < (a.length : Int))) then (call (laws_szStored.R (RStored.at a (Int.toNat c)) b) fun v1 => (bif (decide (v1 < 0)) then ret ((-1) : Int) else J (.p0 a v1 (IntKind.i64.wrap (c + 1))))) else none) else none) else ret (b : Int))
noncomputable def start (J : Pt → Ans) (x0 : List (List L)) (x1 : Int) : Ans := (bif (decide ((IntKind.i64.wrap (x1 - (x0.length : Int))) < 0)) then ret ((-1) : Int) else J (.p0 x0 (IntKind.i64.wrap (x1 - (x0.length : Int))) 0))
def live : Nat → Live := fun i => match i with | 5 => [(0, none), (1, none), (5, none)] | _ => []
def pats : List Pat := [.rd (.sl 168), .rd (.int .i64)]
def res : RP := .one (.rd (.int .i64))
noncomputable def G : List (Nat × Con) := [(120, laws_szStored.con)]
noncomputable abbrev E : Env := ⟨assoc Tab, conG G, 27⟩
set_option maxRecDepth 100000
theorem step_eq (I : Heads) (p : Pt) : enterC E live I (pid p) (bodyOf Tryz.f65) (stOf (live (pid p)) (pvs p) (phs p)) (doneK E Tryz.f65 res) = step (fun q => I (pid q) (pvs q) (phs q)) p := by
  cases p <;> kernel_rfl
theorem start_eq (I : Heads) (ls : List L) : runC E live I (bodyOf Tryz.f65) (initS pats ls) (doneK E Tryz.f65 res) = start (fun q => I (pid q) (pvs q) (phs q)) (ls.headD .hole).toSl ((dropT 1 ls).headD .hole).toInt := by kernel_rfl
theorem run_eq (n : Nat) (ls : List L) : runF E live Tryz.f65 res n (initS pats ls) = start (iter step n) (ls.headD .hole).toSl ((dropT 1 ls).headD .hole).toInt := runF_iter (id := pid) (vs := pvs) (hs := phs) (step := step) (start := fun J => start J (ls.headD .hole).toSl ((dropT 1 ls).headD .hole).toInt) step_eq (fun I => start_eq I ls) n
noncomputable def md (a0 : List MStored) (a1 : Int) : Int := szM (szL (fun y : MStored => MStored.size y) a0) a1
def gd (a0 : List MStored) (a1 : Int) : Prop := (SmL maxLen (fun y : MStored => MStored.Sm maxLen y) a0) ∧ 0 ≤ a1 ∧ a1 ≤ 1048576
def rf (a : List MStored × Int) : List (List L) × Int := ((a.1.map MStored.row), a.2)
theorem rf_inj (a b : List MStored × Int) (h : rf a = rf b) : a = b := by
  exact (Prod.ext (map_inj MStored.row_inj (congrArg (fun x => x.1) h)) (congrArg (fun x => x.2) h))
noncomputable def R (x0 : List (List L)) (x1 : Int) : Option (Int) := ofM rf (fun a => gd a.1 a.2) (fun a => (md a.1 a.2)) (x0, x1)
theorem R_eq {a0 : List MStored} {a1 : Int} (h : gd a0 a1) : R (a0.map MStored.row) a1 = some (md a0 a1) := ofM_eq (r := rf) (a := (a0, a1)) rf_inj h
theorem okF (a0 : List MStored) (a1 : Int) (hg : gd a0 a1) : ∃ n, start (iter step n) (a0.map MStored.row) a1 = ret ((md a0 a1) : Int) := by
  obtain ⟨hs, g0, g1⟩ := hg
  unfold start md
  simp only [List.length_map]
  refine sz_list (pt := fun left i => Pt.p0 (a0.map MStored.row) left (i : Int)) (f := fun y : MStored => MStored.size y) hs.1 (fun J i h left p0 p1 => ?_) (fun J left => ?_) g0 g1
  · simp only [step, List.length_map, lt_dec h, zle_dec, cond_true, toNat_nat, MStored.at_row h]
    rw [call_eq (laws_szStored.R_eq ⟨hs.get h, p0, p1⟩), wrap_succ h hs.1]
    unfold laws_szStored.md
    by_cases hc : left < ((MStored.size (a0[i]) : Nat) : Int)
    · rw [szM_neg hc, if_pos hc]; rfl
    · rw [szM_pos hc, if_neg hc, dec_neg (by omega)]; rfl
  · simp only [step, List.length_map, nlt_dec, cond_false]
noncomputable def sem (ls : List L) : Option (List L) := (R (ls.headD .hole).toSl ((dropT 1 ls).headD .hole).toInt).map RT.enc
theorem ok (ls q : List L) (hl : LOKs Ev.cells pats ls) (h : sem ls = some q) : ∃ n, runF E live Tryz.f65 res n (initS pats ls) = some q := by
  obtain ⟨v, hv, hq⟩ := map_some h
  obtain ⟨⟨a0, a1⟩, hg, e, hm⟩ := ofM_some hv
  simp only [rf, Prod.mk.injEq] at e
  obtain ⟨e0, e1⟩ := e
  obtain ⟨n, hn⟩ := okF a0 a1 hg
  refine ⟨n, (run_eq n ls).trans ?_⟩
  rw [← e0, ← e1]
  rw [hn, ← hq, hm]; rfl
noncomputable def con : Con := ⟨pats, res, sem⟩
theorem chk : fnB Tryz.f65 con 27 = true := by kernel_rfl
theorem valid_ : Valid Tryz.prog Ev 65 con := valid mix tab_ok (.cons laws_szStored.valid_ .nil) Tryz.func65 chk live ok
end laws_szStoredS
/-! laws.szBundle -/
namespace laws_szBundle
noncomputable def F (x0 : RBundle) (x1 : Int) : Ans := (call (laws_szStringS.R x0.fPath x1) fun v1 => (bif (decide (v1 < 0)) then ret ((-1) : Int) else (call (laws_szStoredS.R x0.fSteps v1) fun v2 => (bif (decide (v2 < 0)) then ret ((-1) : Int) else ret (v2 : Int)))))
def live : Nat → Live := fun _ => []
def pats : List Pat := [.agg [.int .i64, .sl 9, .sl 168], .rd (.int .i64)]
def res : RP := .one (.rd (.int .i64))
noncomputable def G : List (Nat × Con) := [(71, laws_szStringS.con), (65, laws_szStoredS.con)]
noncomputable abbrev E : Env := ⟨assoc Tab, conG G, 18⟩
set_option maxRecDepth 100000
theorem run_eq (n : Nat) (ls : List L) : runF E live Tryz.f30 res n (initS pats ls) = F (RBundle.dec ls) ((dropT 3 ls).headD .hole).toInt := by kernel_rfl
noncomputable def md (a0 : MBundle) (a1 : Int) : Int := szM (MBundle.size a0) a1
def gd (a0 : MBundle) (a1 : Int) : Prop := (MBundle.Sm maxLen a0) ∧ 0 ≤ a1 ∧ a1 ≤ 1048576
def rf (a : MBundle × Int) : RBundle × Int := ((MBundle.r a.1), a.2)
theorem rf_inj (a b : MBundle × Int) (h : rf a = rf b) : a = b := by
  exact (Prod.ext (MBundle.r_inj (congrArg (fun x => x.1) h)) (congrArg (fun x => x.2) h))
noncomputable def R (x0 : RBundle) (x1 : Int) : Option (Int) := ofM rf (fun a => gd a.1 a.2) (fun a => (md a.1 a.2)) (x0, x1)
theorem R_eq {a0 : MBundle} {a1 : Int} (h : gd a0 a1) : R (MBundle.r a0) a1 = some (md a0 a1) := ofM_eq (r := rf) (a := (a0, a1)) rf_inj h
theorem okF (a0 : MBundle) (a1 : Int) (hg : gd a0 a1) : F (MBundle.r a0) a1 = ret ((md a0 a1) : Int) := by
  obtain ⟨hs, g0, g1⟩ := hg
  unfold md
  show (call (laws_szStringS.R (a0.fPath.map sRow) a1) fun v1 => (bif (decide (v1 < 0)) then ret ((-1) : Int) else (call (laws_szStoredS.R (a0.fSteps.map MStored.row) v1) fun v2 => (bif (decide (v2 < 0)) then ret ((-1) : Int) else ret (v2 : Int))))) = _
  rw [call_eq (laws_szStringS.R_eq (a1 := a1) ⟨hs.1, by omega, by omega⟩)]
  unfold laws_szStringS.md
  by_cases c0 : a1 < ((szL (fun y : ByteArray => y.size) a0.fPath : Nat) : Int)
  · rw [szM_neg c0]; rw [show szM (MBundle.size a0) a1 = -1 from szM_neg (by unfold MBundle.size; omega)]; try rfl
  rw [szM_pos c0, dec_neg (by omega), cond_false]
  rw [call_eq (laws_szStoredS.R_eq (a1 := (a1 - ((szL (fun y : ByteArray => y.size) a0.fPath : Nat) : Int))) ⟨hs.2, by omega, by omega⟩)]
  unfold laws_szStoredS.md
  by_cases c1 : (a1 - ((szL (fun y : ByteArray => y.size) a0.fPath : Nat) : Int)) < ((szL (fun y : MStored => MStored.size y) a0.fSteps : Nat) : Int)
  · rw [szM_neg c1]; rw [show szM (MBundle.size a0) a1 = -1 from szM_neg (by unfold MBundle.size; omega)]; try rfl
  rw [szM_pos c1, dec_neg (by omega), cond_false]
  rw [show szM (MBundle.size a0) a1 = a1 - ((szL (fun y : ByteArray => y.size) a0.fPath : Nat) : Int) - ((szL (fun y : MStored => MStored.size y) a0.fSteps : Nat) : Int) from by rw [szM_pos (by unfold MBundle.size; omega)]; unfold MBundle.size; omega]
noncomputable def sem (ls : List L) : Option (List L) := (R (RBundle.dec ls) ((dropT 3 ls).headD .hole).toInt).map RT.enc
theorem ok (ls q : List L) (hl : LOKs Ev.cells pats ls) (h : sem ls = some q) : ∃ n, runF E live Tryz.f30 res n (initS pats ls) = some q := by
  obtain ⟨v, hv, hq⟩ := map_some h
  obtain ⟨⟨a0, a1⟩, hg, e, hm⟩ := ofM_some hv
  simp only [rf, Prod.mk.injEq] at e
  obtain ⟨e0, e1⟩ := e
  have hn := okF a0 a1 hg
  refine ⟨0, (run_eq 0 ls).trans ?_⟩
  rw [← e0, ← e1]
  rw [hn, ← hq, hm]; rfl
noncomputable def con : Con := ⟨pats, res, sem⟩
theorem chk : fnB Tryz.f30 con 18 = true := by kernel_rfl
theorem valid_ : Valid Tryz.prog Ev 30 con := valid mix tab_ok (.cons laws_szStringS.valid_ (.cons laws_szStoredS.valid_ .nil)) Tryz.func30 chk live ok
end laws_szBundle
/-! laws.toStringS -/
namespace laws_toStringS
inductive Pt where
  | p0 (a : List (List L)) (b : Int) (c : List (List L))
def pid : Pt → Nat
  | .p0 .. => 3
def pvs : Pt → List V
  | .p0 a b c => [.sl none 9 a, .own 0, .int .i64 b]
def phs : Pt → List Root
  | .p0 a b c => [.row 9 c]
noncomputable def step (J : Pt → Ans) : Pt → Ans
  | .p0 a b c => (bif (decide (b < (a.length : Int))) then (bif (decide ((0 : Int) ≤ b)) then (bif (decide (b < (a.length : Int))) then (bif (decide ((0 : Int) ≤ b)) then (bif (decide (b < (c.length : Int))) then J (.p0 a (IntKind.i64.wrap (b + 1)) (List.set c (Int.toNat b) [L.str (sAt a (Int.toNat b))])) else none) else none) else none) else none) else ret (c : List (List L)))
noncomputable def start (J : Pt → Ans) (x0 : List (List L)) : Ans := (bif (decide ((0 : Int) ≤ (x0.length : Int))) then (bif (decide ((x0.length : Int) ≤ (x0.length : Int))) then (bif (decide ((x0.length : Int) * 16 ≤ 140737488355328)) then J (.p0 x0 0 (List.replicate (Int.toNat (x0.length : Int)) [L.str ⟨#[]⟩])) else none) else none) else none)
def live : Nat → Live := fun i => match i with | 3 => [(0, none), (3, none), (4, none)] | _ => []
def pats : List Pat := [.rd (.sl 9)]
def res : RP := .one (.fr 9)
noncomputable def G : List (Nat × Con) := []
noncomputable abbrev E : Env := ⟨assoc Tab, conG G, 22⟩
set_option maxRecDepth 100000
theorem step_eq (I : Heads) (p : Pt) : enterC E live I (pid p) (bodyOf Tryz.f72) (stOf (live (pid p)) (pvs p) (phs p)) (doneK E Tryz.f72 res) = step (fun q => I (pid q) (pvs q) (phs q)) p := by
  cases p <;> kernel_rfl
theorem start_eq (I : Heads) (ls : List L) : runC E live I (bodyOf Tryz.f72) (initS pats ls) (doneK E Tryz.f72 res) = start (fun q => I (pid q) (pvs q) (phs q)) (ls.headD .hole).toSl := by kernel_rfl
theorem run_eq (n : Nat) (ls : List L) : runF E live Tryz.f72 res n (initS pats ls) = start (iter step n) (ls.headD .hole).toSl := runF_iter (id := pid) (vs := pvs) (hs := phs) (step := step) (start := fun J => start J (ls.headD .hole).toSl) step_eq (fun I => start_eq I ls) n
noncomputable def md (a0 : List ByteArray) : List ByteArray := a0
def gd (a0 : List ByteArray) : Prop := SmL (2 ^ 36) (fun y : ByteArray => y.size ≤ (2 ^ 36)) a0
def rf (a : List ByteArray) : List (List L) := (a.map sRow)
theorem rf_inj (a b : List ByteArray) (h : rf a = rf b) : a = b := by
  exact (map_inj sRow_inj h)
noncomputable def R (x0 : List (List L)) : Option (List (List L)) := ofM rf (fun a => gd a) (fun a => ((md a).map sRow)) x0
theorem R_eq {a0 : List ByteArray} (h : gd a0) : R (a0.map sRow) = some ((md a0).map sRow) := ofM_eq (r := rf) (a := a0) rf_inj h
theorem okF (a0 : List ByteArray) (hg : gd a0) : ∃ n, start (iter step n) (a0.map sRow) = ret (((md a0).map sRow) : List (List L)) := by
  unfold start md
  simp only [List.length_map]
  refine to_list (b := 16) (pt := fun i c => Pt.p0 (a0.map sRow) (i : Int) c) (by have := hg.1; simp at this; omega) (fun J i h c hc => ?_) (fun J c => ?_)
  · simp only [step, List.length_map, lt_dec h, zle_dec, cond_true, toNat_nat, sAt_row h, hc]
    rw [wrap_succ (n := a0.length) h (by have := hg.1; simp only [maxLen]; simp at this; omega)]
    rfl
  · simp only [step, List.length_map, nlt_dec, cond_false]
noncomputable def sem (ls : List L) : Option (List L) := (R (ls.headD .hole).toSl).map RT.enc
theorem ok (ls q : List L) (hl : LOKs Ev.cells pats ls) (h : sem ls = some q) : ∃ n, runF E live Tryz.f72 res n (initS pats ls) = some q := by
  obtain ⟨v, hv, hq⟩ := map_some h
  obtain ⟨a0, hg, e, hm⟩ := ofM_some hv
  have e0 : (a0.map sRow) = _ := e
  obtain ⟨n, hn⟩ := okF a0 hg
  refine ⟨n, (run_eq n ls).trans ?_⟩
  rw [← e0]
  rw [hn, ← hq, hm]; rfl
noncomputable def con : Con := ⟨pats, res, sem⟩
theorem chk : fnB Tryz.f72 con 22 = true := by kernel_rfl
theorem valid_ : Valid Tryz.prog Ev 72 con := valid mix tab_ok .nil Tryz.func72 chk live ok
end laws_toStringS
/-! laws.toIntS -/
namespace laws_toIntS
inductive Pt where
  | p0 (a : List (List L)) (b : Int) (c : List (List L))
def pid : Pt → Nat
  | .p0 .. => 3
def pvs : Pt → List V
  | .p0 a b c => [.sl none 3 a, .own 0, .int .i64 b]
def phs : Pt → List Root
  | .p0 a b c => [.row 3 c]
noncomputable def step (J : Pt → Ans) : Pt → Ans
  | .p0 a b c => (bif (decide (b < (a.length : Int))) then (bif (decide ((0 : Int) ≤ b)) then (bif (decide (b < (a.length : Int))) then (bif (decide ((0 : Int) ≤ b)) then (bif (decide (b < (c.length : Int))) then J (.p0 a (IntKind.i64.wrap (b + 1)) (List.set c (Int.toNat b) [L.int (iAt a (Int.toNat b))])) else none) else none) else none) else none) else ret (c : List (List L)))
noncomputable def start (J : Pt → Ans) (x0 : List (List L)) : Ans := (bif (decide ((0 : Int) ≤ (x0.length : Int))) then (bif (decide ((x0.length : Int) ≤ (x0.length : Int))) then (bif (decide ((x0.length : Int) * 8 ≤ 140737488355328)) then J (.p0 x0 0 (List.replicate (Int.toNat (x0.length : Int)) [L.int 0])) else none) else none) else none)
def live : Nat → Live := fun i => match i with | 3 => [(0, none), (3, none), (4, none)] | _ => []
def pats : List Pat := [.rd (.sl 3)]
def res : RP := .one (.fr 3)
noncomputable def G : List (Nat × Con) := []
noncomputable abbrev E : Env := ⟨assoc Tab, conG G, 22⟩
set_option maxRecDepth 100000
theorem step_eq (I : Heads) (p : Pt) : enterC E live I (pid p) (bodyOf Tryz.f111) (stOf (live (pid p)) (pvs p) (phs p)) (doneK E Tryz.f111 res) = step (fun q => I (pid q) (pvs q) (phs q)) p := by
  cases p <;> kernel_rfl
theorem start_eq (I : Heads) (ls : List L) : runC E live I (bodyOf Tryz.f111) (initS pats ls) (doneK E Tryz.f111 res) = start (fun q => I (pid q) (pvs q) (phs q)) (ls.headD .hole).toSl := by kernel_rfl
theorem run_eq (n : Nat) (ls : List L) : runF E live Tryz.f111 res n (initS pats ls) = start (iter step n) (ls.headD .hole).toSl := runF_iter (id := pid) (vs := pvs) (hs := phs) (step := step) (start := fun J => start J (ls.headD .hole).toSl) step_eq (fun I => start_eq I ls) n
noncomputable def md (a0 : List Int) : List Int := a0
def gd (a0 : List Int) : Prop := SmL (2 ^ 36) (fun y : Int => True) a0
def rf (a : List Int) : List (List L) := (a.map iRow)
theorem rf_inj (a b : List Int) (h : rf a = rf b) : a = b := by
  exact (map_inj iRow_inj h)
noncomputable def R (x0 : List (List L)) : Option (List (List L)) := ofM rf (fun a => gd a) (fun a => ((md a).map iRow)) x0
theorem R_eq {a0 : List Int} (h : gd a0) : R (a0.map iRow) = some ((md a0).map iRow) := ofM_eq (r := rf) (a := a0) rf_inj h
theorem okF (a0 : List Int) (hg : gd a0) : ∃ n, start (iter step n) (a0.map iRow) = ret (((md a0).map iRow) : List (List L)) := by
  unfold start md
  simp only [List.length_map]
  refine to_list (b := 8) (pt := fun i c => Pt.p0 (a0.map iRow) (i : Int) c) (by have := hg.1; simp at this; omega) (fun J i h c hc => ?_) (fun J c => ?_)
  · simp only [step, List.length_map, lt_dec h, zle_dec, cond_true, toNat_nat, iAt_row h, hc]
    rw [wrap_succ (n := a0.length) h (by have := hg.1; simp only [maxLen]; simp at this; omega)]
    rfl
  · simp only [step, List.length_map, nlt_dec, cond_false]
noncomputable def sem (ls : List L) : Option (List L) := (R (ls.headD .hole).toSl).map RT.enc
theorem ok (ls q : List L) (hl : LOKs Ev.cells pats ls) (h : sem ls = some q) : ∃ n, runF E live Tryz.f111 res n (initS pats ls) = some q := by
  obtain ⟨v, hv, hq⟩ := map_some h
  obtain ⟨a0, hg, e, hm⟩ := ofM_some hv
  have e0 : (a0.map iRow) = _ := e
  obtain ⟨n, hn⟩ := okF a0 hg
  refine ⟨n, (run_eq n ls).trans ?_⟩
  rw [← e0]
  rw [hn, ← hq, hm]; rfl
noncomputable def con : Con := ⟨pats, res, sem⟩
theorem chk : fnB Tryz.f111 con 22 = true := by kernel_rfl
theorem valid_ : Valid Tryz.prog Ev 111 con := valid mix tab_ok .nil Tryz.func111 chk live ok
end laws_toIntS
/-! laws.toKeys -/
namespace laws_toKeys
noncomputable def F (x0 : RKeys) : Ans := (call (laws_toIntS.R x0.fList) fun v1 => ret ((⟨v1, x0.fNeed⟩ : RKeys) : RKeys))
def live : Nat → Live := fun _ => []
def pats : List Pat := [.agg [.sl 3, .int .i64]]
def res : RP := .agg [.fr 3, .rd (.int .i64)]
noncomputable def G : List (Nat × Con) := [(111, laws_toIntS.con)]
noncomputable abbrev E : Env := ⟨assoc Tab, conG G, 12⟩
set_option maxRecDepth 100000
theorem run_eq (n : Nat) (ls : List L) : runF E live Tryz.f147 res n (initS pats ls) = F (RKeys.dec ls) := by kernel_rfl
noncomputable def md (a0 : MKeys) : MKeys := a0
def gd (a0 : MKeys) : Prop := MKeys.Sm (2 ^ 36) a0
def rf (a : MKeys) : RKeys := (MKeys.r a)
theorem rf_inj (a b : MKeys) (h : rf a = rf b) : a = b := by
  exact (MKeys.r_inj h)
noncomputable def R (x0 : RKeys) : Option (RKeys) := ofM rf (fun a => gd a) (fun a => (MKeys.r (md a))) x0
theorem R_eq {a0 : MKeys} (h : gd a0) : R (MKeys.r a0) = some (MKeys.r (md a0)) := ofM_eq (r := rf) (a := a0) rf_inj h
theorem okF (a0 : MKeys) (hg : gd a0) : F (MKeys.r a0) = ret ((MKeys.r (md a0)) : RKeys) := by
  unfold md
  show (call (laws_toIntS.R (a0.fList.map iRow)) fun v1 => ret ((⟨v1, a0.fNeed⟩ : RKeys) : RKeys)) = _
  rw [call_eq (laws_toIntS.R_eq hg)]
  rfl
noncomputable def sem (ls : List L) : Option (List L) := (R (RKeys.dec ls)).map RT.enc
theorem ok (ls q : List L) (hl : LOKs Ev.cells pats ls) (h : sem ls = some q) : ∃ n, runF E live Tryz.f147 res n (initS pats ls) = some q := by
  obtain ⟨v, hv, hq⟩ := map_some h
  obtain ⟨a0, hg, e, hm⟩ := ofM_some hv
  have e0 : (MKeys.r a0) = _ := e
  have hn := okF a0 hg
  refine ⟨0, (run_eq 0 ls).trans ?_⟩
  rw [← e0]
  rw [hn, ← hq, hm]; rfl
noncomputable def con : Con := ⟨pats, res, sem⟩
theorem chk : fnB Tryz.f147 con 12 = true := by kernel_rfl
theorem valid_ : Valid Tryz.prog Ev 147 con := valid mix tab_ok (.cons laws_toIntS.valid_ .nil) Tryz.func147 chk live ok
end laws_toKeys
/-! laws.toHead -/
namespace laws_toHead
noncomputable def F (x0 : RHead) : Ans := (call (laws_toKeys.R x0.fKeys) fun v1 => (call (laws_toKeys.R x0.fHeirs) fun v2 => (call (laws_toKeys.R x0.fJudge) fun v3 => ret ((⟨x0.fZone, x0.fEpoch, x0.fKind, x0.fTime, x0.fUntil, x0.fCount, x0.fRoot, x0.fPrev, v1, v2, x0.fWait, v3, x0.fFrozen⟩ : RHead) : RHead))))
def live : Nat → Live := fun _ => []
def pats : List Pat := [.agg [.int .i64, .int .i64, .int .i64, .int .i64, .int .i64, .int .i64, .int .i64, .int .i64, .sl 3, .int .i64, .sl 3, .int .i64, .int .i64, .sl 3, .int .i64, .bool]]
def res : RP := .agg [.rd (.int .i64), .rd (.int .i64), .rd (.int .i64), .rd (.int .i64), .rd (.int .i64), .rd (.int .i64), .rd (.int .i64), .rd (.int .i64), .fr 3, .rd (.int .i64), .fr 3, .rd (.int .i64), .rd (.int .i64), .fr 3, .rd (.int .i64), .rd (.bool)]
noncomputable def G : List (Nat × Con) := [(147, laws_toKeys.con)]
noncomputable abbrev E : Env := ⟨assoc Tab, conG G, 47⟩
set_option maxRecDepth 100000
theorem run_eq (n : Nat) (ls : List L) : runF E live Tryz.f100 res n (initS pats ls) = F (RHead.dec ls) := by kernel_rfl
noncomputable def md (a0 : MHead) : MHead := a0
def gd (a0 : MHead) : Prop := MHead.Sm (2 ^ 36) a0
def rf (a : MHead) : RHead := (MHead.r a)
theorem rf_inj (a b : MHead) (h : rf a = rf b) : a = b := by
  exact (MHead.r_inj h)
noncomputable def R (x0 : RHead) : Option (RHead) := ofM rf (fun a => gd a) (fun a => (MHead.r (md a))) x0
theorem R_eq {a0 : MHead} (h : gd a0) : R (MHead.r a0) = some (MHead.r (md a0)) := ofM_eq (r := rf) (a := a0) rf_inj h
theorem okF (a0 : MHead) (hg : gd a0) : F (MHead.r a0) = ret ((MHead.r (md a0)) : RHead) := by
  unfold md
  show (call (laws_toKeys.R (MKeys.r a0.fKeys)) fun v1 => (call (laws_toKeys.R (MKeys.r a0.fHeirs)) fun v2 => (call (laws_toKeys.R (MKeys.r a0.fJudge)) fun v3 => ret ((⟨a0.fZone, a0.fEpoch, a0.fKind, a0.fTime, a0.fUntil, a0.fCount, a0.fRoot, a0.fPrev, v1, v2, a0.fWait, v3, a0.fFrozen⟩ : RHead) : RHead)))) = _
  rw [call_eq (laws_toKeys.R_eq hg.1)]
  rw [call_eq (laws_toKeys.R_eq hg.2.1)]
  rw [call_eq (laws_toKeys.R_eq hg.2.2)]
  rfl
noncomputable def sem (ls : List L) : Option (List L) := (R (RHead.dec ls)).map RT.enc
theorem ok (ls q : List L) (hl : LOKs Ev.cells pats ls) (h : sem ls = some q) : ∃ n, runF E live Tryz.f100 res n (initS pats ls) = some q := by
  obtain ⟨v, hv, hq⟩ := map_some h
  obtain ⟨a0, hg, e, hm⟩ := ofM_some hv
  have e0 : (MHead.r a0) = _ := e
  have hn := okF a0 hg
  refine ⟨0, (run_eq 0 ls).trans ?_⟩
  rw [← e0]
  rw [hn, ← hq, hm]; rfl
noncomputable def con : Con := ⟨pats, res, sem⟩
theorem chk : fnB Tryz.f100 con 47 = true := by kernel_rfl
theorem valid_ : Valid Tryz.prog Ev 100 con := valid mix tab_ok (.cons laws_toKeys.valid_ .nil) Tryz.func100 chk live ok
end laws_toHead
/-! laws.toSig -/
namespace laws_toSig
noncomputable def F (x0 : MSig) : Ans := ret (x0 : MSig)
def live : Nat → Live := fun _ => []
def pats : List Pat := [.agg [.int .i64, .int .i64]]
def res : RP := .agg [.rd (.int .i64), .rd (.int .i64)]
noncomputable def G : List (Nat × Con) := []
noncomputable abbrev E : Env := ⟨assoc Tab, conG G, 11⟩
set_option maxRecDepth 100000
theorem run_eq (n : Nat) (ls : List L) : runF E live Tryz.f148 res n (initS pats ls) = F (MSig.dec ls) := by kernel_rfl
noncomputable def md (a0 : MSig) : MSig := a0
def gd (a0 : MSig) : Prop := MSig.Sm (2 ^ 36) a0
def rf (a : MSig) : MSig := a
theorem rf_inj (a b : MSig) (h : rf a = rf b) : a = b := by
  exact h
noncomputable def R (x0 : MSig) : Option (MSig) := ofM rf (fun a => gd a) (fun a => (md a)) x0
theorem R_eq {a0 : MSig} (h : gd a0) : R a0 = some (md a0) := ofM_eq (r := rf) (a := a0) rf_inj h
theorem okF (a0 : MSig) (hg : gd a0) : F a0 = ret ((md a0) : MSig) := by
  rfl
noncomputable def sem (ls : List L) : Option (List L) := (R (MSig.dec ls)).map RT.enc
theorem ok (ls q : List L) (hl : LOKs Ev.cells pats ls) (h : sem ls = some q) : ∃ n, runF E live Tryz.f148 res n (initS pats ls) = some q := by
  obtain ⟨v, hv, hq⟩ := map_some h
  obtain ⟨a0, hg, e, hm⟩ := ofM_some hv
  have e0 : a0 = _ := e
  have hn := okF a0 hg
  refine ⟨0, (run_eq 0 ls).trans ?_⟩
  rw [← e0]
  rw [hn, ← hq, hm]; rfl
noncomputable def con : Con := ⟨pats, res, sem⟩
theorem chk : fnB Tryz.f148 con 11 = true := by kernel_rfl
theorem valid_ : Valid Tryz.prog Ev 148 con := valid mix tab_ok .nil Tryz.func148 chk live ok
end laws_toSig
/-! laws.toSigS -/
namespace laws_toSigS
inductive Pt where
  | p0 (a : List (List L)) (b : Int) (c : List (List L))
def pid : Pt → Nat
  | .p0 .. => 3
def pvs : Pt → List V
  | .p0 a b c => [.sl none 189 a, .own 0, .int .i64 b]
def phs : Pt → List Root
  | .p0 a b c => [.row 179 c]
noncomputable def step (J : Pt → Ans) : Pt → Ans
  | .p0 a b c => (bif (decide (b < (a.length : Int))) then (bif (decide ((0 : Int) ≤ b)) then (bif (decide (b < (a.length : Int))) then (call (laws_toSig.R (MSig.at a (Int.toNat b))) fun v1 => (bif (decide ((0 : Int) ≤ b)) then (bif (decide (b < (c.length : Int))) then J (.p0 a (IntKind.i64.wrap (b + 1)) (List.set c (Int.toNat b) (MSig.enc v1))) else none) else none)) else none) else none) else ret (c : List (List L)))
noncomputable def start (J : Pt → Ans) (x0 : List (List L)) : Ans := (bif (decide ((0 : Int) ≤ (x0.length : Int))) then (bif (decide ((x0.length : Int) ≤ (x0.length : Int))) then (bif (decide ((x0.length : Int) * 16 ≤ 140737488355328)) then J (.p0 x0 0 (List.replicate (Int.toNat (x0.length : Int)) [L.int 0, L.int 0])) else none) else none) else none)
def live : Nat → Live := fun i => match i with | 3 => [(0, none), (3, none), (4, none)] | _ => []
def pats : List Pat := [.rd (.sl 189)]
def res : RP := .one (.fr 179)
noncomputable def G : List (Nat × Con) := [(148, laws_toSig.con)]
noncomputable abbrev E : Env := ⟨assoc Tab, conG G, 23⟩
set_option maxRecDepth 100000
theorem step_eq (I : Heads) (p : Pt) : enterC E live I (pid p) (bodyOf Tryz.f101) (stOf (live (pid p)) (pvs p) (phs p)) (doneK E Tryz.f101 res) = step (fun q => I (pid q) (pvs q) (phs q)) p := by
  cases p <;> kernel_rfl
theorem start_eq (I : Heads) (ls : List L) : runC E live I (bodyOf Tryz.f101) (initS pats ls) (doneK E Tryz.f101 res) = start (fun q => I (pid q) (pvs q) (phs q)) (ls.headD .hole).toSl := by kernel_rfl
theorem run_eq (n : Nat) (ls : List L) : runF E live Tryz.f101 res n (initS pats ls) = start (iter step n) (ls.headD .hole).toSl := runF_iter (id := pid) (vs := pvs) (hs := phs) (step := step) (start := fun J => start J (ls.headD .hole).toSl) step_eq (fun I => start_eq I ls) n
noncomputable def md (a0 : List MSig) : List MSig := a0
def gd (a0 : List MSig) : Prop := SmL (2 ^ 36) (fun y : MSig => MSig.Sm (2 ^ 36) y) a0
def rf (a : List MSig) : List (List L) := (a.map MSig.row)
theorem rf_inj (a b : List MSig) (h : rf a = rf b) : a = b := by
  exact (map_inj MSig.row_inj h)
noncomputable def R (x0 : List (List L)) : Option (List (List L)) := ofM rf (fun a => gd a) (fun a => ((md a).map MSig.row)) x0
theorem R_eq {a0 : List MSig} (h : gd a0) : R (a0.map MSig.row) = some ((md a0).map MSig.row) := ofM_eq (r := rf) (a := a0) rf_inj h
theorem okF (a0 : List MSig) (hg : gd a0) : ∃ n, start (iter step n) (a0.map MSig.row) = ret (((md a0).map MSig.row) : List (List L)) := by
  unfold start md
  simp only [List.length_map]
  refine to_list (b := 16) (pt := fun i c => Pt.p0 (a0.map MSig.row) (i : Int) c) (by have := hg.1; simp at this; omega) (fun J i h c hc => ?_) (fun J c => ?_)
  · simp only [step, List.length_map, lt_dec h, zle_dec, cond_true, toNat_nat, MSig.at_row h, hc]
    rw [call_eq (laws_toSig.R_eq (hg.get h))]
    try simp only [hc, lt_dec h, cond_true]
    rw [wrap_succ (n := a0.length) h (by have := hg.1; simp only [maxLen]; simp at this; omega)]
    rfl
  · simp only [step, List.length_map, nlt_dec, cond_false]
noncomputable def sem (ls : List L) : Option (List L) := (R (ls.headD .hole).toSl).map RT.enc
theorem ok (ls q : List L) (hl : LOKs Ev.cells pats ls) (h : sem ls = some q) : ∃ n, runF E live Tryz.f101 res n (initS pats ls) = some q := by
  obtain ⟨v, hv, hq⟩ := map_some h
  obtain ⟨a0, hg, e, hm⟩ := ofM_some hv
  have e0 : (a0.map MSig.row) = _ := e
  obtain ⟨n, hn⟩ := okF a0 hg
  refine ⟨n, (run_eq n ls).trans ?_⟩
  rw [← e0]
  rw [hn, ← hq, hm]; rfl
noncomputable def con : Con := ⟨pats, res, sem⟩
theorem chk : fnB Tryz.f101 con 23 = true := by kernel_rfl
theorem valid_ : Valid Tryz.prog Ev 101 con := valid mix tab_ok (.cons laws_toSig.valid_ .nil) Tryz.func101 chk live ok
end laws_toSigS
/-! laws.toSigned -/
namespace laws_toSigned
noncomputable def F (x0 : RSigned) : Ans := (call (laws_toHead.R x0.fHead) fun v1 => (call (laws_toSigS.R x0.fSigs) fun v2 => ret ((⟨v1, v2⟩ : RSigned) : RSigned)))
def live : Nat → Live := fun _ => []
def pats : List Pat := [.agg [.int .i64, .int .i64, .int .i64, .int .i64, .int .i64, .int .i64, .int .i64, .int .i64, .sl 3, .int .i64, .sl 3, .int .i64, .int .i64, .sl 3, .int .i64, .bool, .sl 189]]
def res : RP := .agg [.rd (.int .i64), .rd (.int .i64), .rd (.int .i64), .rd (.int .i64), .rd (.int .i64), .rd (.int .i64), .rd (.int .i64), .rd (.int .i64), .fr 3, .rd (.int .i64), .fr 3, .rd (.int .i64), .rd (.int .i64), .fr 3, .rd (.int .i64), .rd (.bool), .fr 179]
noncomputable def G : List (Nat × Con) := [(100, laws_toHead.con), (101, laws_toSigS.con)]
noncomputable abbrev E : Env := ⟨assoc Tab, conG G, 13⟩
set_option maxRecDepth 100000
theorem run_eq (n : Nat) (ls : List L) : runF E live Tryz.f55 res n (initS pats ls) = F (RSigned.dec ls) := by kernel_rfl
noncomputable def md (a0 : MSigned) : MSigned := a0
def gd (a0 : MSigned) : Prop := MSigned.Sm (2 ^ 36) a0
def rf (a : MSigned) : RSigned := (MSigned.r a)
theorem rf_inj (a b : MSigned) (h : rf a = rf b) : a = b := by
  exact (MSigned.r_inj h)
noncomputable def R (x0 : RSigned) : Option (RSigned) := ofM rf (fun a => gd a) (fun a => (MSigned.r (md a))) x0
theorem R_eq {a0 : MSigned} (h : gd a0) : R (MSigned.r a0) = some (MSigned.r (md a0)) := ofM_eq (r := rf) (a := a0) rf_inj h
theorem okF (a0 : MSigned) (hg : gd a0) : F (MSigned.r a0) = ret ((MSigned.r (md a0)) : RSigned) := by
  unfold md
  show (call (laws_toHead.R (MHead.r a0.fHead)) fun v1 => (call (laws_toSigS.R (a0.fSigs.map MSig.row)) fun v2 => ret ((⟨v1, v2⟩ : RSigned) : RSigned))) = _
  rw [call_eq (laws_toHead.R_eq hg.1)]
  rw [call_eq (laws_toSigS.R_eq hg.2)]
  rfl
noncomputable def sem (ls : List L) : Option (List L) := (R (RSigned.dec ls)).map RT.enc
theorem ok (ls q : List L) (hl : LOKs Ev.cells pats ls) (h : sem ls = some q) : ∃ n, runF E live Tryz.f55 res n (initS pats ls) = some q := by
  obtain ⟨v, hv, hq⟩ := map_some h
  obtain ⟨a0, hg, e, hm⟩ := ofM_some hv
  have e0 : (MSigned.r a0) = _ := e
  have hn := okF a0 hg
  refine ⟨0, (run_eq 0 ls).trans ?_⟩
  rw [← e0]
  rw [hn, ← hq, hm]; rfl
noncomputable def con : Con := ⟨pats, res, sem⟩
theorem chk : fnB Tryz.f55 con 13 = true := by kernel_rfl
theorem valid_ : Valid Tryz.prog Ev 55 con := valid mix tab_ok (.cons laws_toHead.valid_ (.cons laws_toSigS.valid_ .nil)) Tryz.func55 chk live ok
end laws_toSigned
/-! laws.toSignedS -/
namespace laws_toSignedS
inductive Pt where
  | p0 (a : List (List L)) (b : Int) (c : List (List L))
def pid : Pt → Nat
  | .p0 .. => 3
def pvs : Pt → List V
  | .p0 a b c => [.sl none 108 a, .own 0, .int .i64 b]
def phs : Pt → List Root
  | .p0 a b c => [.row 92 c]
noncomputable def step (J : Pt → Ans) : Pt → Ans
  | .p0 a b c => (bif (decide (b < (a.length : Int))) then (bif (decide ((0 : Int) ≤ b)) then (bif (decide (b < (a.length : Int))) then (call (laws_toSigned.R (RSigned.at a (Int.toNat b))) fun v1 => (bif (decide ((0 : Int) ≤ b)) then (bif (decide (b < (c.length : Int))) then J (.p0 a (IntKind.i64.wrap (b + 1)) (List.set c (Int.toNat b) (RSigned.enc v1))) else none) else none)) else none) else none) else ret (c : List (List L)))
noncomputable def start (J : Pt → Ans) (x0 : List (List L)) : Ans := (bif (decide ((0 : Int) ≤ (x0.length : Int))) then (bif (decide ((x0.length : Int) ≤ (x0.length : Int))) then (bif (decide ((x0.length : Int) * 200 ≤ 140737488355328)) then J (.p0 x0 0 (List.replicate (Int.toNat (x0.length : Int)) [L.int 0, L.int 0, L.int 0, L.int 0, L.int 0, L.int 0, L.int 0, L.int 0, L.sl [], L.int 0, L.sl [], L.int 0, L.int 0, L.sl [], L.int 0, L.bool false, L.sl []])) else none) else none) else none)
def live : Nat → Live := fun i => match i with | 3 => [(0, none), (3, none), (4, none)] | _ => []
def pats : List Pat := [.rd (.sl 108)]
def res : RP := .one (.fr 92)
noncomputable def G : List (Nat × Con) := [(55, laws_toSigned.con)]
noncomputable abbrev E : Env := ⟨assoc Tab, conG G, 23⟩
set_option maxRecDepth 100000
theorem step_eq (I : Heads) (p : Pt) : enterC E live I (pid p) (bodyOf Tryz.f17) (stOf (live (pid p)) (pvs p) (phs p)) (doneK E Tryz.f17 res) = step (fun q => I (pid q) (pvs q) (phs q)) p := by
  cases p <;> kernel_rfl
theorem start_eq (I : Heads) (ls : List L) : runC E live I (bodyOf Tryz.f17) (initS pats ls) (doneK E Tryz.f17 res) = start (fun q => I (pid q) (pvs q) (phs q)) (ls.headD .hole).toSl := by kernel_rfl
theorem run_eq (n : Nat) (ls : List L) : runF E live Tryz.f17 res n (initS pats ls) = start (iter step n) (ls.headD .hole).toSl := runF_iter (id := pid) (vs := pvs) (hs := phs) (step := step) (start := fun J => start J (ls.headD .hole).toSl) step_eq (fun I => start_eq I ls) n
noncomputable def md (a0 : List MSigned) : List MSigned := a0
def gd (a0 : List MSigned) : Prop := SmL (2 ^ 36) (fun y : MSigned => MSigned.Sm (2 ^ 36) y) a0
def rf (a : List MSigned) : List (List L) := (a.map MSigned.row)
theorem rf_inj (a b : List MSigned) (h : rf a = rf b) : a = b := by
  exact (map_inj MSigned.row_inj h)
noncomputable def R (x0 : List (List L)) : Option (List (List L)) := ofM rf (fun a => gd a) (fun a => ((md a).map MSigned.row)) x0
theorem R_eq {a0 : List MSigned} (h : gd a0) : R (a0.map MSigned.row) = some ((md a0).map MSigned.row) := ofM_eq (r := rf) (a := a0) rf_inj h
theorem okF (a0 : List MSigned) (hg : gd a0) : ∃ n, start (iter step n) (a0.map MSigned.row) = ret (((md a0).map MSigned.row) : List (List L)) := by
  unfold start md
  simp only [List.length_map]
  refine to_list (b := 200) (pt := fun i c => Pt.p0 (a0.map MSigned.row) (i : Int) c) (by have := hg.1; simp at this; omega) (fun J i h c hc => ?_) (fun J c => ?_)
  · simp only [step, List.length_map, lt_dec h, zle_dec, cond_true, toNat_nat, MSigned.at_row h, hc]
    rw [call_eq (laws_toSigned.R_eq (hg.get h))]
    try simp only [hc, lt_dec h, cond_true]
    rw [wrap_succ (n := a0.length) h (by have := hg.1; simp only [maxLen]; simp at this; omega)]
    rfl
  · simp only [step, List.length_map, nlt_dec, cond_false]
noncomputable def sem (ls : List L) : Option (List L) := (R (ls.headD .hole).toSl).map RT.enc
theorem ok (ls q : List L) (hl : LOKs Ev.cells pats ls) (h : sem ls = some q) : ∃ n, runF E live Tryz.f17 res n (initS pats ls) = some q := by
  obtain ⟨v, hv, hq⟩ := map_some h
  obtain ⟨a0, hg, e, hm⟩ := ofM_some hv
  have e0 : (a0.map MSigned.row) = _ := e
  obtain ⟨n, hn⟩ := okF a0 hg
  refine ⟨n, (run_eq n ls).trans ?_⟩
  rw [← e0]
  rw [hn, ← hq, hm]; rfl
noncomputable def con : Con := ⟨pats, res, sem⟩
theorem chk : fnB Tryz.f17 con 23 = true := by kernel_rfl
theorem valid_ : Valid Tryz.prog Ev 17 con := valid mix tab_ok (.cons laws_toSigned.valid_ .nil) Tryz.func17 chk live ok
end laws_toSignedS
/-! laws.toEntry -/
namespace laws_toEntry
noncomputable def F (x0 : REntry) : Ans := (call (laws_toStringS.R x0.fPath) fun v1 => ret ((⟨x0.fLabel, x0.fKind, x0.fValue, v1⟩ : REntry) : REntry))
def live : Nat → Live := fun _ => []
def pats : List Pat := [.agg [.str, .int .i64, .int .i64, .sl 9]]
def res : RP := .agg [.rd (.str), .rd (.int .i64), .rd (.int .i64), .fr 9]
noncomputable def G : List (Nat × Con) := [(72, laws_toStringS.con)]
noncomputable abbrev E : Env := ⟨assoc Tab, conG G, 18⟩
set_option maxRecDepth 100000
theorem run_eq (n : Nat) (ls : List L) : runF E live Tryz.f110 res n (initS pats ls) = F (REntry.dec ls) := by kernel_rfl
noncomputable def md (a0 : MEntry) : MEntry := a0
def gd (a0 : MEntry) : Prop := MEntry.Sm (2 ^ 36) a0
def rf (a : MEntry) : REntry := (MEntry.r a)
theorem rf_inj (a b : MEntry) (h : rf a = rf b) : a = b := by
  exact (MEntry.r_inj h)
noncomputable def R (x0 : REntry) : Option (REntry) := ofM rf (fun a => gd a) (fun a => (MEntry.r (md a))) x0
theorem R_eq {a0 : MEntry} (h : gd a0) : R (MEntry.r a0) = some (MEntry.r (md a0)) := ofM_eq (r := rf) (a := a0) rf_inj h
theorem okF (a0 : MEntry) (hg : gd a0) : F (MEntry.r a0) = ret ((MEntry.r (md a0)) : REntry) := by
  unfold md
  show (call (laws_toStringS.R (a0.fPath.map sRow)) fun v1 => ret ((⟨a0.fLabel, a0.fKind, a0.fValue, v1⟩ : REntry) : REntry)) = _
  rw [call_eq (laws_toStringS.R_eq hg.2)]
  rfl
noncomputable def sem (ls : List L) : Option (List L) := (R (REntry.dec ls)).map RT.enc
theorem ok (ls q : List L) (hl : LOKs Ev.cells pats ls) (h : sem ls = some q) : ∃ n, runF E live Tryz.f110 res n (initS pats ls) = some q := by
  obtain ⟨v, hv, hq⟩ := map_some h
  obtain ⟨a0, hg, e, hm⟩ := ofM_some hv
  have e0 : (MEntry.r a0) = _ := e
  have hn := okF a0 hg
  refine ⟨0, (run_eq 0 ls).trans ?_⟩
  rw [← e0]
  rw [hn, ← hq, hm]; rfl
noncomputable def con : Con := ⟨pats, res, sem⟩
theorem chk : fnB Tryz.f110 con 18 = true := by kernel_rfl
theorem valid_ : Valid Tryz.prog Ev 110 con := valid mix tab_ok (.cons laws_toStringS.valid_ .nil) Tryz.func110 chk live ok
end laws_toEntry
/-! laws.toProof -/
namespace laws_toProof
noncomputable def F (x0 : RProof) : Ans := (call (laws_toIntS.R x0.fPath) fun v1 => ret ((⟨x0.fAt, v1⟩ : RProof) : RProof))
def live : Nat → Live := fun _ => []
def pats : List Pat := [.agg [.int .i64, .sl 3]]
def res : RP := .agg [.rd (.int .i64), .fr 3]
noncomputable def G : List (Nat × Con) := [(111, laws_toIntS.con)]
noncomputable abbrev E : Env := ⟨assoc Tab, conG G, 12⟩
set_option maxRecDepth 100000
theorem run_eq (n : Nat) (ls : List L) : runF E live Tryz.f211 res n (initS pats ls) = F (RProof.dec ls) := by kernel_rfl
noncomputable def md (a0 : MProof) : MProof := a0
def gd (a0 : MProof) : Prop := MProof.Sm (2 ^ 36) a0
def rf (a : MProof) : RProof := (MProof.r a)
theorem rf_inj (a b : MProof) (h : rf a = rf b) : a = b := by
  exact (MProof.r_inj h)
noncomputable def R (x0 : RProof) : Option (RProof) := ofM rf (fun a => gd a) (fun a => (MProof.r (md a))) x0
theorem R_eq {a0 : MProof} (h : gd a0) : R (MProof.r a0) = some (MProof.r (md a0)) := ofM_eq (r := rf) (a := a0) rf_inj h
theorem okF (a0 : MProof) (hg : gd a0) : F (MProof.r a0) = ret ((MProof.r (md a0)) : RProof) := by
  unfold md
  show (call (laws_toIntS.R (a0.fPath.map iRow)) fun v1 => ret ((⟨a0.fAt, v1⟩ : RProof) : RProof)) = _
  rw [call_eq (laws_toIntS.R_eq hg)]
  rfl
noncomputable def sem (ls : List L) : Option (List L) := (R (RProof.dec ls)).map RT.enc
theorem ok (ls q : List L) (hl : LOKs Ev.cells pats ls) (h : sem ls = some q) : ∃ n, runF E live Tryz.f211 res n (initS pats ls) = some q := by
  obtain ⟨v, hv, hq⟩ := map_some h
  obtain ⟨a0, hg, e, hm⟩ := ofM_some hv
  have e0 : (MProof.r a0) = _ := e
  have hn := okF a0 hg
  refine ⟨0, (run_eq 0 ls).trans ?_⟩
  rw [← e0]
  rw [hn, ← hq, hm]; rfl
noncomputable def con : Con := ⟨pats, res, sem⟩
theorem chk : fnB Tryz.f211 con 12 = true := by kernel_rfl
theorem valid_ : Valid Tryz.prog Ev 211 con := valid mix tab_ok (.cons laws_toIntS.valid_ .nil) Tryz.func211 chk live ok
end laws_toProof
/-! laws.toGap -/
namespace laws_toGap
noncomputable def F (x0 : RGap) : Ans := (call (laws_toEntry.R x0.fBefore) fun v1 => (call (laws_toEntry.R x0.fAfter) fun v2 => (call (laws_toProof.R x0.fLeft) fun v3 => (call (laws_toProof.R x0.fRight) fun v4 => ret ((⟨x0.fAt, v1, v2, v3, v4⟩ : RGap) : RGap)))))
def live : Nat → Live := fun _ => []
def pats : List Pat := [.agg [.int .i64, .str, .int .i64, .int .i64, .sl 9, .str, .int .i64, .int .i64, .sl 9, .int .i64, .sl 3, .int .i64, .sl 3]]
def res : RP := .agg [.rd (.int .i64), .rd (.str), .rd (.int .i64), .rd (.int .i64), .fr 9, .rd (.str), .rd (.int .i64), .rd (.int .i64), .fr 9, .rd (.int .i64), .fr 3, .rd (.int .i64), .fr 3]
noncomputable def G : List (Nat × Con) := [(110, laws_toEntry.con), (211, laws_toProof.con)]
noncomputable abbrev E : Env := ⟨assoc Tab, conG G, 24⟩
set_option maxRecDepth 100000
theorem run_eq (n : Nat) (ls : List L) : runF E live Tryz.f212 res n (initS pats ls) = F (RGap.dec ls) := by kernel_rfl
noncomputable def md (a0 : MGap) : MGap := a0
def gd (a0 : MGap) : Prop := MGap.Sm (2 ^ 36) a0
def rf (a : MGap) : RGap := (MGap.r a)
theorem rf_inj (a b : MGap) (h : rf a = rf b) : a = b := by
  exact (MGap.r_inj h)
noncomputable def R (x0 : RGap) : Option (RGap) := ofM rf (fun a => gd a) (fun a => (MGap.r (md a))) x0
theorem R_eq {a0 : MGap} (h : gd a0) : R (MGap.r a0) = some (MGap.r (md a0)) := ofM_eq (r := rf) (a := a0) rf_inj h
theorem okF (a0 : MGap) (hg : gd a0) : F (MGap.r a0) = ret ((MGap.r (md a0)) : RGap) := by
  unfold md
  show (call (laws_toEntry.R (MEntry.r a0.fBefore)) fun v1 => (call (laws_toEntry.R (MEntry.r a0.fAfter)) fun v2 => (call (laws_toProof.R (MProof.r a0.fLeft)) fun v3 => (call (laws_toProof.R (MProof.r a0.fRight)) fun v4 => ret ((⟨a0.fAt, v1, v2, v3, v4⟩ : RGap) : RGap))))) = _
  rw [call_eq (laws_toEntry.R_eq hg.1)]
  rw [call_eq (laws_toEntry.R_eq hg.2.1)]
  rw [call_eq (laws_toProof.R_eq hg.2.2.1)]
  rw [call_eq (laws_toProof.R_eq hg.2.2.2)]
  rfl
noncomputable def sem (ls : List L) : Option (List L) := (R (RGap.dec ls)).map RT.enc
theorem ok (ls q : List L) (hl : LOKs Ev.cells pats ls) (h : sem ls = some q) : ∃ n, runF E live Tryz.f212 res n (initS pats ls) = some q := by
  obtain ⟨v, hv, hq⟩ := map_some h
  obtain ⟨a0, hg, e, hm⟩ := ofM_some hv
  have e0 : (MGap.r a0) = _ := e
  have hn := okF a0 hg
  refine ⟨0, (run_eq 0 ls).trans ?_⟩
  rw [← e0]
  rw [hn, ← hq, hm]; rfl
noncomputable def con : Con := ⟨pats, res, sem⟩
theorem chk : fnB Tryz.f212 con 24 = true := by kernel_rfl
theorem valid_ : Valid Tryz.prog Ev 212 con := valid mix tab_ok (.cons laws_toEntry.valid_ (.cons laws_toProof.valid_ .nil)) Tryz.func212 chk live ok
end laws_toGap
/-! laws.toAnswer -/
namespace laws_toAnswer
noncomputable def F (x0 : RAnswer) : Ans := (call (laws_toSignedS.R x0.fChain) fun v1 => (call (laws_toEntry.R x0.fEntry) fun v2 => (call (laws_toProof.R x0.fProof) fun v3 => (call (laws_toGap.R x0.fGap) fun v4 => ret ((⟨v1, x0.fFound, v2, v3, v4⟩ : RAnswer) : RAnswer)))))
def live : Nat → Live := fun _ => []
def pats : List Pat := [.agg [.sl 108, .bool, .str, .int .i64, .int .i64, .sl 9, .int .i64, .sl 3, .int .i64, .str, .int .i64, .int .i64, .sl 9, .str, .int .i64, .int .i64, .sl 9, .int .i64, .sl 3, .int .i64, .sl 3]]
def res : RP := .agg [.fr 92, .rd (.bool), .rd (.str), .rd (.int .i64), .rd (.int .i64), .fr 9, .rd (.int .i64), .fr 3, .rd (.int .i64), .rd (.str), .rd (.int .i64), .rd (.int .i64), .fr 9, .rd (.str), .rd (.int .i64), .rd (.int .i64), .fr 9, .rd (.int .i64), .fr 3, .rd (.int .i64), .fr 3]
noncomputable def G : List (Nat × Con) := [(17, laws_toSignedS.con), (110, laws_toEntry.con), (211, laws_toProof.con), (212, laws_toGap.con)]
noncomputable abbrev E : Env := ⟨assoc Tab, conG G, 24⟩
set_option maxRecDepth 100000
theorem run_eq (n : Nat) (ls : List L) : runF E live Tryz.f165 res n (initS pats ls) = F (RAnswer.dec ls) := by kernel_rfl
noncomputable def md (a0 : MAnswer) : MAnswer := a0
def gd (a0 : MAnswer) : Prop := MAnswer.Sm (2 ^ 36) a0
def rf (a : MAnswer) : RAnswer := (MAnswer.r a)
theorem rf_inj (a b : MAnswer) (h : rf a = rf b) : a = b := by
  exact (MAnswer.r_inj h)
noncomputable def R (x0 : RAnswer) : Option (RAnswer) := ofM rf (fun a => gd a) (fun a => (MAnswer.r (md a))) x0
theorem R_eq {a0 : MAnswer} (h : gd a0) : R (MAnswer.r a0) = some (MAnswer.r (md a0)) := ofM_eq (r := rf) (a := a0) rf_inj h
theorem okF (a0 : MAnswer) (hg : gd a0) : F (MAnswer.r a0) = ret ((MAnswer.r (md a0)) : RAnswer) := by
  unfold md
  show (call (laws_toSignedS.R (a0.fChain.map MSigned.row)) fun v1 => (call (laws_toEntry.R (MEntry.r a0.fEntry)) fun v2 => (call (laws_toProof.R (MProof.r a0.fProof)) fun v3 => (call (laws_toGap.R (MGap.r a0.fGap)) fun v4 => ret ((⟨v1, a0.fFound, v2, v3, v4⟩ : RAnswer) : RAnswer))))) = _
  rw [call_eq (laws_toSignedS.R_eq hg.1)]
  rw [call_eq (laws_toEntry.R_eq hg.2.1)]
  rw [call_eq (laws_toProof.R_eq hg.2.2.1)]
  rw [call_eq (laws_toGap.R_eq hg.2.2.2)]
  rfl
noncomputable def sem (ls : List L) : Option (List L) := (R (RAnswer.dec ls)).map RT.enc
theorem ok (ls q : List L) (hl : LOKs Ev.cells pats ls) (h : sem ls = some q) : ∃ n, runF E live Tryz.f165 res n (initS pats ls) = some q := by
  obtain ⟨v, hv, hq⟩ := map_some h
  obtain ⟨a0, hg, e, hm⟩ := ofM_some hv
  have e0 : (MAnswer.r a0) = _ := e
  have hn := okF a0 hg
  refine ⟨0, (run_eq 0 ls).trans ?_⟩
  rw [← e0]
  rw [hn, ← hq, hm]; rfl
noncomputable def con : Con := ⟨pats, res, sem⟩
theorem chk : fnB Tryz.f165 con 24 = true := by kernel_rfl
theorem valid_ : Valid Tryz.prog Ev 165 con := valid mix tab_ok (.cons laws_toSignedS.valid_ (.cons laws_toEntry.valid_ (.cons laws_toProof.valid_ (.cons laws_toGap.valid_ .nil)))) Tryz.func165 chk live ok
end laws_toAnswer
/-! laws.toStored -/
namespace laws_toStored
noncomputable def F (x0 : RStored) : Ans := (call (laws_toAnswer.R x0.fAnswer) fun v1 => ret ((⟨x0.fZone, x0.fLabel, v1⟩ : RStored) : RStored))
def live : Nat → Live := fun _ => []
def pats : List Pat := [.agg [.int .i64, .str, .sl 108, .bool, .str, .int .i64, .int .i64, .sl 9, .int .i64, .sl 3, .int .i64, .str, .int .i64, .int .i64, .sl 9, .str, .int .i64, .int .i64, .sl 9, .int .i64, .sl 3, .int .i64, .sl 3]]
def res : RP := .agg [.rd (.int .i64), .rd (.str), .fr 92, .rd (.bool), .rd (.str), .rd (.int .i64), .rd (.int .i64), .fr 9, .rd (.int .i64), .fr 3, .rd (.int .i64), .rd (.str), .rd (.int .i64), .rd (.int .i64), .fr 9, .rd (.str), .rd (.int .i64), .rd (.int .i64), .fr 9, .rd (.int .i64), .fr 3, .rd (.int .i64), .fr 3]
noncomputable def G : List (Nat × Con) := [(165, laws_toAnswer.con)]
noncomputable abbrev E : Env := ⟨assoc Tab, conG G, 15⟩
set_option maxRecDepth 100000
theorem run_eq (n : Nat) (ls : List L) : runF E live Tryz.f122 res n (initS pats ls) = F (RStored.dec ls) := by kernel_rfl
noncomputable def md (a0 : MStored) : MStored := a0
def gd (a0 : MStored) : Prop := MStored.Sm (2 ^ 36) a0
def rf (a : MStored) : RStored := (MStored.r a)
theorem rf_inj (a b : MStored) (h : rf a = rf b) : a = b := by
  exact (MStored.r_inj h)
noncomputable def R (x0 : RStored) : Option (RStored) := ofM rf (fun a => gd a) (fun a => (MStored.r (md a))) x0
theorem R_eq {a0 : MStored} (h : gd a0) : R (MStored.r a0) = some (MStored.r (md a0)) := ofM_eq (r := rf) (a := a0) rf_inj h
theorem okF (a0 : MStored) (hg : gd a0) : F (MStored.r a0) = ret ((MStored.r (md a0)) : RStored) := by
  unfold md
  show (call (laws_toAnswer.R (MAnswer.r a0.fAnswer)) fun v1 => ret ((⟨a0.fZone, a0.fLabel, v1⟩ : RStored) : RStored)) = _
  rw [call_eq (laws_toAnswer.R_eq hg.2)]
  rfl
noncomputable def sem (ls : List L) : Option (List L) := (R (RStored.dec ls)).map RT.enc
theorem ok (ls q : List L) (hl : LOKs Ev.cells pats ls) (h : sem ls = some q) : ∃ n, runF E live Tryz.f122 res n (initS pats ls) = some q := by
  obtain ⟨v, hv, hq⟩ := map_some h
  obtain ⟨a0, hg, e, hm⟩ := ofM_some hv
  have e0 : (MStored.r a0) = _ := e
  have hn := okF a0 hg
  refine ⟨0, (run_eq 0 ls).trans ?_⟩
  rw [← e0]
  rw [hn, ← hq, hm]; rfl
noncomputable def con : Con := ⟨pats, res, sem⟩
theorem chk : fnB Tryz.f122 con 15 = true := by kernel_rfl
theorem valid_ : Valid Tryz.prog Ev 122 con := valid mix tab_ok (.cons laws_toAnswer.valid_ .nil) Tryz.func122 chk live ok
end laws_toStored
/-! laws.toStoredS -/
namespace laws_toStoredS
inductive Pt where
  | p0 (a : List (List L)) (b : Int) (c : List (List L))
def pid : Pt → Nat
  | .p0 .. => 3
def pvs : Pt → List V
  | .p0 a b c => [.sl none 168 a, .own 0, .int .i64 b]
def phs : Pt → List Root
  | .p0 a b c => [.row 124 c]
noncomputable def step (J : Pt → Ans) : Pt → Ans
  | .p0 a b c => (bif (decide (b < (a.length : Int))) then (bif (decide ((0 : Int) ≤ b)) then (bif (decide (b < (a.length : Int))) then (call (laws_toStored.R (RStored.at a (Int.toNat b))) fun v1 => (bif (decide ((0 : Int) ≤ b)) then (bif (decide (b < (c.length : Int))) then J (.p0 a (IntKind.i64.wrap (b + 1)) (List.set c (Int.toNat b) (RStored.enc v1))) else none) else none)) else none) else none) else ret (c : List (List L)))
noncomputable def start (J : Pt → Ans) (x0 : List (List L)) : Ans := (bif (decide ((0 : Int) ≤ (x0.length : Int))) then (bif (decide ((x0.length : Int) ≤ (x0.length : Int))) then (bif (decide ((x0.length : Int) * 328 ≤ 140737488355328)) then J (.p0 x0 0 (List.replicate (Int.toNat (x0.length : Int)) [L.int 0, L.str ⟨#[]⟩, L.sl [], L.bool false, L.str ⟨#[]⟩, L.int 0, L.int 0, L.sl [], L.int 0, L.sl [], L.int 0, L.str ⟨#[]⟩, L.int 0, L.int 0, L.sl [], L.str ⟨#[]⟩, L.int 0, L.int 0, L.sl [], L.int 0, L.sl [], L.int 0, L.sl []])) else none) else none) else none)
def live : Nat → Live := fun i => match i with | 3 => [(0, none), (3, none), (4, none)] | _ => []
def pats : List Pat := [.rd (.sl 168)]
def res : RP := .one (.fr 124)
noncomputable def G : List (Nat × Con) := [(122, laws_toStored.con)]
noncomputable abbrev E : Env := ⟨assoc Tab, conG G, 23⟩
set_option maxRecDepth 100000
theorem step_eq (I : Heads) (p : Pt) : enterC E live I (pid p) (bodyOf Tryz.f68) (stOf (live (pid p)) (pvs p) (phs p)) (doneK E Tryz.f68 res) = step (fun q => I (pid q) (pvs q) (phs q)) p := by
  cases p <;> kernel_rfl
theorem start_eq (I : Heads) (ls : List L) : runC E live I (bodyOf Tryz.f68) (initS pats ls) (doneK E Tryz.f68 res) = start (fun q => I (pid q) (pvs q) (phs q)) (ls.headD .hole).toSl := by kernel_rfl
theorem run_eq (n : Nat) (ls : List L) : runF E live Tryz.f68 res n (initS pats ls) = start (iter step n) (ls.headD .hole).toSl := runF_iter (id := pid) (vs := pvs) (hs := phs) (step := step) (start := fun J => start J (ls.headD .hole).toSl) step_eq (fun I => start_eq I ls) n
noncomputable def md (a0 : List MStored) : List MStored := a0
def gd (a0 : List MStored) : Prop := SmL (2 ^ 36) (fun y : MStored => MStored.Sm (2 ^ 36) y) a0
def rf (a : List MStored) : List (List L) := (a.map MStored.row)
theorem rf_inj (a b : List MStored) (h : rf a = rf b) : a = b := by
  exact (map_inj MStored.row_inj h)
noncomputable def R (x0 : List (List L)) : Option (List (List L)) := ofM rf (fun a => gd a) (fun a => ((md a).map MStored.row)) x0
theorem R_eq {a0 : List MStored} (h : gd a0) : R (a0.map MStored.row) = some ((md a0).map MStored.row) := ofM_eq (r := rf) (a := a0) rf_inj h
theorem okF (a0 : List MStored) (hg : gd a0) : ∃ n, start (iter step n) (a0.map MStored.row) = ret (((md a0).map MStored.row) : List (List L)) := by
  unfold start md
  simp only [List.length_map]
  refine to_list (b := 328) (pt := fun i c => Pt.p0 (a0.map MStored.row) (i : Int) c) (by have := hg.1; simp at this; omega) (fun J i h c hc => ?_) (fun J c => ?_)
  · simp only [step, List.length_map, lt_dec h, zle_dec, cond_true, toNat_nat, MStored.at_row h, hc]
    rw [call_eq (laws_toStored.R_eq (hg.get h))]
    try simp only [hc, lt_dec h, cond_true]
    rw [wrap_succ (n := a0.length) h (by have := hg.1; simp only [maxLen]; simp at this; omega)]
    rfl
  · simp only [step, List.length_map, nlt_dec, cond_false]
noncomputable def sem (ls : List L) : Option (List L) := (R (ls.headD .hole).toSl).map RT.enc
theorem ok (ls q : List L) (hl : LOKs Ev.cells pats ls) (h : sem ls = some q) : ∃ n, runF E live Tryz.f68 res n (initS pats ls) = some q := by
  obtain ⟨v, hv, hq⟩ := map_some h
  obtain ⟨a0, hg, e, hm⟩ := ofM_some hv
  have e0 : (a0.map MStored.row) = _ := e
  obtain ⟨n, hn⟩ := okF a0 hg
  refine ⟨n, (run_eq n ls).trans ?_⟩
  rw [← e0]
  rw [hn, ← hq, hm]; rfl
noncomputable def con : Con := ⟨pats, res, sem⟩
theorem chk : fnB Tryz.f68 con 23 = true := by kernel_rfl
theorem valid_ : Valid Tryz.prog Ev 68 con := valid mix tab_ok (.cons laws_toStored.valid_ .nil) Tryz.func68 chk live ok
end laws_toStoredS
/-! laws.toBundle -/
namespace laws_toBundle
noncomputable def F (x0 : RBundle) : Ans := (call (laws_toStringS.R x0.fPath) fun v1 => (call (laws_toStoredS.R x0.fSteps) fun v2 => ret ((⟨x0.fRoot, v1, v2⟩ : RBundle) : RBundle)))
def live : Nat → Live := fun _ => []
def pats : List Pat := [.agg [.int .i64, .sl 9, .sl 168]]
def res : RP := .agg [.rd (.int .i64), .fr 9, .fr 124]
noncomputable def G : List (Nat × Con) := [(72, laws_toStringS.con), (68, laws_toStoredS.con)]
noncomputable abbrev E : Env := ⟨assoc Tab, conG G, 16⟩
set_option maxRecDepth 100000
theorem run_eq (n : Nat) (ls : List L) : runF E live Tryz.f32 res n (initS pats ls) = F (RBundle.dec ls) := by kernel_rfl
noncomputable def md (a0 : MBundle) : MBundle := a0
def gd (a0 : MBundle) : Prop := MBundle.Sm (2 ^ 36) a0
def rf (a : MBundle) : RBundle := (MBundle.r a)
theorem rf_inj (a b : MBundle) (h : rf a = rf b) : a = b := by
  exact (MBundle.r_inj h)
noncomputable def R (x0 : RBundle) : Option (RBundle) := ofM rf (fun a => gd a) (fun a => (MBundle.r (md a))) x0
theorem R_eq {a0 : MBundle} (h : gd a0) : R (MBundle.r a0) = some (MBundle.r (md a0)) := ofM_eq (r := rf) (a := a0) rf_inj h
theorem okF (a0 : MBundle) (hg : gd a0) : F (MBundle.r a0) = ret ((MBundle.r (md a0)) : RBundle) := by
  unfold md
  show (call (laws_toStringS.R (a0.fPath.map sRow)) fun v1 => (call (laws_toStoredS.R (a0.fSteps.map MStored.row)) fun v2 => ret ((⟨a0.fRoot, v1, v2⟩ : RBundle) : RBundle))) = _
  rw [call_eq (laws_toStringS.R_eq hg.1)]
  rw [call_eq (laws_toStoredS.R_eq hg.2)]
  rfl
noncomputable def sem (ls : List L) : Option (List L) := (R (RBundle.dec ls)).map RT.enc
theorem ok (ls q : List L) (hl : LOKs Ev.cells pats ls) (h : sem ls = some q) : ∃ n, runF E live Tryz.f32 res n (initS pats ls) = some q := by
  obtain ⟨v, hv, hq⟩ := map_some h
  obtain ⟨a0, hg, e, hm⟩ := ofM_some hv
  have e0 : (MBundle.r a0) = _ := e
  have hn := okF a0 hg
  refine ⟨0, (run_eq 0 ls).trans ?_⟩
  rw [← e0]
  rw [hn, ← hq, hm]; rfl
noncomputable def con : Con := ⟨pats, res, sem⟩
theorem chk : fnB Tryz.f32 con 16 = true := by kernel_rfl
theorem valid_ : Valid Tryz.prog Ev 32 con := valid mix tab_ok (.cons laws_toStringS.valid_ (.cons laws_toStoredS.valid_ .nil)) Tryz.func32 chk live ok
end laws_toBundle
/-! spec.l1In -/
namespace spec_l1In
noncomputable def F (x0 : Int) (x1 : Int) (x2 : Int) : Ans := (bif (decide (x0 ≥ x1)) then ret ((decide (x0 ≤ x2)) : Bool) else ret (false : Bool))
def live : Nat → Live := fun _ => []
def pats : List Pat := [.rd (.int .i64), .rd (.int .i64), .rd (.int .i64)]
def res : RP := .one (.rd (.bool))
noncomputable def G : List (Nat × Con) := []
noncomputable abbrev E : Env := ⟨assoc Tab, conG G, 15⟩
set_option maxRecDepth 100000
theorem run_eq (n : Nat) (ls : List L) : runF E live Tryz.f81 res n (initS pats ls) = F (ls.headD .hole).toInt ((dropT 1 ls).headD .hole).toInt ((dropT 2 ls).headD .hole).toInt := by kernel_rfl
noncomputable def md (a0 : Int) (a1 : Int) (a2 : Int) : Bool := (bif (decide (a0 ≥ a1)) then ((decide (a0 ≤ a2)) : Bool) else (false : Bool))
def gd (a0 : Int) (a1 : Int) (a2 : Int) : Prop := True
def rf (a : Int × Int × Int) : Int × Int × Int := (a.1, a.2.1, a.2.2)
theorem rf_inj (a b : Int × Int × Int) (h : rf a = rf b) : a = b := by
  exact (Prod.ext (congrArg (fun x => x.1) h) (Prod.ext (congrArg (fun x => x.2.1) h) (congrArg (fun x => x.2.2) h)))
noncomputable def R (x0 : Int) (x1 : Int) (x2 : Int) : Option (Bool) := ofM rf (fun a => gd a.1 a.2.1 a.2.2) (fun a => (md a.1 a.2.1 a.2.2)) (x0, x1, x2)
theorem R_eq {a0 : Int} {a1 : Int} {a2 : Int} (h : gd a0 a1 a2) : R a0 a1 a2 = some (md a0 a1 a2) := ofM_eq (r := rf) (a := (a0, a1, a2)) rf_inj h
theorem okF (a0 : Int) (a1 : Int) (a2 : Int) (hg : gd a0 a1 a2) : F a0 a1 a2 = ret ((md a0 a1 a2) : Bool) := by
  unfold F md
  try simp only [bytesL_map, List.length_map, toNat_nat, iAt_getD, bAt_getD, sAt_getD, lAt_getD]
  refine bif_out (fun b : Bool => ret (b : Bool)) (fun c1 => ?_) (fun c1 => ?_)
  · have dc1 := c1
    simp only [decide_eq_true_eq, decide_eq_false_iff_not] at dc1
    all_goals first | rfl | (simp only [bytesL_map, List.length_map, toNat_nat, iAt_getD, bAt_getD, sAt_getD, lAt_getD]; done) | (simp only [List.map_append, List.map_cons, List.map_nil, List.cons_append, List.nil_append, iRow, sRow, bRow, lRow, List.map_set]; rfl) | (simp only [bytesL_map, List.length_map, toNat_nat, iAt_getD, bAt_getD, sAt_getD, lAt_getD, List.map_append, List.map_cons, List.map_nil, List.cons_append, List.nil_append, iRow, sRow, bRow, lRow, List.map_set]; first | done | rfl)
  · have dc1 := c1
    simp only [decide_eq_true_eq, decide_eq_false_iff_not] at dc1
    all_goals first | rfl | (simp only [bytesL_map, List.length_map, toNat_nat, iAt_getD, bAt_getD, sAt_getD, lAt_getD]; done) | (simp only [List.map_append, List.map_cons, List.map_nil, List.cons_append, List.nil_append, iRow, sRow, bRow, lRow, List.map_set]; rfl) | (simp only [bytesL_map, List.length_map, toNat_nat, iAt_getD, bAt_getD, sAt_getD, lAt_getD, List.map_append, List.map_cons, List.map_nil, List.cons_append, List.nil_append, iRow, sRow, bRow, lRow, List.map_set]; first | done | rfl)
noncomputable def sem (ls : List L) : Option (List L) := (R (ls.headD .hole).toInt ((dropT 1 ls).headD .hole).toInt ((dropT 2 ls).headD .hole).toInt).map RT.enc
theorem ok (ls q : List L) (hl : LOKs Ev.cells pats ls) (h : sem ls = some q) : ∃ n, runF E live Tryz.f81 res n (initS pats ls) = some q := by
  obtain ⟨v, hv, hq⟩ := map_some h
  obtain ⟨⟨a0, a1, a2⟩, hg, e, hm⟩ := ofM_some hv
  simp only [rf, Prod.mk.injEq] at e
  obtain ⟨e0, e1, e2⟩ := e
  have hn := okF a0 a1 a2 hg
  refine ⟨0, (run_eq 0 ls).trans ?_⟩
  rw [← e0, ← e1, ← e2]
  rw [hn, ← hq, hm]; rfl
noncomputable def con : Con := ⟨pats, res, sem⟩
theorem chk : fnB Tryz.f81 con 15 = true := by kernel_rfl
theorem valid_ : Valid Tryz.prog Ev 81 con := valid mix tab_ok .nil Tryz.func81 chk live ok
end spec_l1In
/-! spec.IsKeys -/
namespace spec_IsKeys
inductive Pt where
  | p0 (a : Int) (b : RKeys)
def pid : Pt → Nat
  | .p0 .. => 2
def pvs : Pt → List V
  | .p0 a b => [.bptr 0 0, .int .i64 a]
def phs : Pt → List Root
  | .p0 a b => [.box [.sl none 3 b.fList, .int .i64 b.fNeed]]
noncomputable def step (J : Pt → Ans) : Pt → Ans
  | .p0 a b => (bif (decide (a < (b.fList.length : Int))) then (bif (decide ((0 : Int) ≤ a)) then (bif (decide (a < (b.fList.length : Int))) then (call (spec_l1In.R (iAt b.fList (Int.toNat a)) 1 99) fun v1 => (bif (!v1) then ret (false : Bool) else (bif (decide (a > 0)) then (bif (decide ((0 : Int) ≤ (IntKind.i64.wrap (a - 1)))) then (bif (decide ((IntKind.i64.wrap (a - 1)) < (b.fList.length : Int))) then (bif (decide ((0 : Int) ≤ a)) then (bif (decide (a < (b.fList.length : Int))) then (bif (decide ((iAt b.fList (Int.toNat (IntKind.i64.wrap (a - 1)))) ≥ (iAt b.fList (Int.toNat a)))) then ret (false : Bool) else J (.p0 (IntKind.i64.wrap (a + 1)) b)) else none) else none) else none) else none) else J (.p0 (IntKind.i64.wrap (a + 1)) b)))) else none) else none) else (call (spec_l1In.R (b.fList.length : Int) 1 4) fun v2 => (bif v2 then (call (spec_l1In.R b.fNeed 1 (b.fList.length : Int)) fun v3 => ret (v3 : Bool)) else ret (false : Bool))))
noncomputable def start (J : Pt → Ans) (x0 : RKeys) : Ans := J (.p0 0 x0)
def live : Nat → Live := fun i => match i with | 2 => [(1, none), (3, none)] | _ => []
def pats : List Pat := [.agg [.sl 3, .int .i64]]
def res : RP := .one (.rd (.bool))
noncomputable def G : List (Nat × Con) := [(81, spec_l1In.con)]
noncomputable abbrev E : Env := ⟨assoc Tab, conG G, 48⟩
set_option maxRecDepth 100000
theorem step_eq (I : Heads) (p : Pt) : enterC E live I (pid p) (bodyOf Tryz.f184) (stOf (live (pid p)) (pvs p) (phs p)) (doneK E Tryz.f184 res) = step (fun q => I (pid q) (pvs q) (phs q)) p := by
  cases p <;> kernel_rfl
theorem start_eq (I : Heads) (ls : List L) : runC E live I (bodyOf Tryz.f184) (initS pats ls) (doneK E Tryz.f184 res) = start (fun q => I (pid q) (pvs q) (phs q)) (RKeys.dec ls) := by kernel_rfl
theorem run_eq (n : Nat) (ls : List L) : runF E live Tryz.f184 res n (initS pats ls) = start (iter step n) (RKeys.dec ls) := runF_iter (id := pid) (vs := pvs) (hs := phs) (step := step) (start := fun J => start J (RKeys.dec ls)) step_eq (fun I => start_eq I ls) n
noncomputable def md (a0 : MKeys) : Bool := (eachI (S := Unit) (β := Bool) (fun (i1 : Nat) (y1 : Int) (s3 : Unit) => (bif (!(spec_l1In.md y1 1 99)) then (.inr (false : Bool)) else (bif (decide ((i1 : Int) > 0)) then (bif (decide ((a0.fList.getD (Int.toNat (IntKind.i64.wrap ((i1 : Int) - 1))) 0) ≥ y1)) then (.inr (false : Bool)) else (.inl ())) else (.inl ())))) (fun (s3 : Unit) => (bif (spec_l1In.md (a0.fList.length : Int) 1 4) then ((spec_l1In.md a0.fNeed 1 (a0.fList.length : Int)) : Bool) else (false : Bool))) 0 a0.fList ())
def gd (a0 : MKeys) : Prop := (MKeys.Sm (2 ^ 21) a0)
def rf (a : MKeys) : RKeys := (MKeys.r a)
theorem rf_inj (a b : MKeys) (h : rf a = rf b) : a = b := by
  exact (MKeys.r_inj h)
noncomputable def R (x0 : RKeys) : Option (Bool) := ofM rf (fun a => gd a) (fun a => (md a)) x0
theorem R_eq {a0 : MKeys} (h : gd a0) : R (MKeys.r a0) = some (md a0) := ofM_eq (r := rf) (a := a0) rf_inj h
theorem okF (a0 : MKeys) (hg : gd a0) : ∃ n, start (iter step n) (MKeys.r a0) = ret ((md a0) : Bool) := by
  unfold gd at hg
  have H0 := hg
  unfold start md
  try simp only [bytesL_map, List.length_map, toNat_nat, iAt_getD, bAt_getD, sAt_getD, lAt_getD, MKeys.r_fList, MKeys.r_fNeed]
  have Bh2 : a0.fList.length ≤ maxLen := (by
      have := (H0).1
      try simp only [maxLen] at *
      omega)
  refine ex_eq (out := (fun b : Bool => ret (b : Bool))) (show (loopM (S := Unit) (β := Bool) (fun (i1 : Nat) (s3 : Unit) => (bif (!(spec_l1In.md (a0.fList.getD i1 0) 1 99)) then (.inr (false : Bool)) else (bif (decide ((i1 : Int) > 0)) then (bif (decide ((a0.fList.getD (Int.toNat (IntKind.i64.wrap ((i1 : Int) - 1))) 0) ≥ (a0.fList.getD i1 0))) then (.inr (false : Bool)) else (.inl ())) else (.inl ())))) (fun (s3 : Unit) => (bif (spec_l1In.md (a0.fList.length : Int) 1 4) then ((spec_l1In.md a0.fNeed 1 (a0.fList.length : Int)) : Bool) else (false : Bool))) a0.fList.length 0 ()) = (eachI (S := Unit) (β := Bool) (fun (i1 : Nat) (y1 : Int) (s3 : Unit) => (bif (!(spec_l1In.md y1 1 99)) then (.inr (false : Bool)) else (bif (decide ((i1 : Int) > 0)) then (bif (decide ((a0.fList.getD (Int.toNat (IntKind.i64.wrap ((i1 : Int) - 1))) 0) ≥ y1)) then (.inr (false : Bool)) else (.inl ())) else (.inl ())))) (fun (s3 : Unit) => (bif (spec_l1In.md (a0.fList.length : Int) 1 4) then ((spec_l1In.md a0.fNeed 1 (a0.fList.length : Int)) : Bool) else (false : Bool))) 0 a0.fList ()) from loopM_eachI (S := Unit) (β := Bool) (f := fun (i1 : Nat) (y1 : Int) (s3 : Unit) => (bif (!(spec_l1In.md y1 1 99)) then (.inr (false : Bool)) else (bif (decide ((i1 : Int) > 0)) then (bif (decide ((a0.fList.getD (Int.toNat (IntKind.i64.wrap ((i1 : Int) - 1))) 0) ≥ y1)) then (.inr (false : Bool)) else (.inl ())) else (.inl ())))) (t := fun (s3 : Unit) => (bif (spec_l1In.md (a0.fList.length : Int) 1 4) then ((spec_l1In.md a0.fNeed 1 (a0.fList.length : Int)) : Bool) else (false : Bool))) (xs := a0.fList) (z := 0)) ?_
  refine ex_pt (p := Pt.p0 0 (MKeys.r a0)) (by first | rfl | (simp only [bytesL_map, List.length_map, toNat_nat, iAt_getD, bAt_getD, sAt_getD, lAt_getD, MKeys.r_fList, MKeys.r_fNeed, List.map_append, List.map_cons, List.map_nil, List.cons_append, List.nil_append, iRow, sRow, bRow, lRow, List.map_set]; done) | (simp only [List.map_append, List.map_cons, List.map_nil, List.cons_append, List.nil_append, iRow, sRow, bRow, lRow, List.map_set]; rfl)) ?_
  refine loopM_ok (pt := fun (i1 : Nat) (s3 : Unit) => Pt.p0 (i1 : Int) (MKeys.r a0)) (s := (() : Unit)) (out := (fun b : Bool => ret (b : Bool))) (fun _ _ => True) (fun J i1 s3 h2 hih2 => ?_) (fun s3 hih2 => ?_) trivial
  · simp only [step, bytesL_map, List.length_map, toNat_nat, iAt_getD, bAt_getD, sAt_getD, lAt_getD, MKeys.r_fList, MKeys.r_fNeed]
    have bb_ := Bh2
    simp only [maxLen] at bb_
    have := (H0).1
    refine Rnd.yes (by apply decide_eq_true; omega) ?_
    refine Rnd.yes (by
        refine decide_eq_true ?_
        try simp (disch := omega) only [List.sum_cons, List.sum_nil, List.map_cons, List.map_nil, bytesI_length, bytesL_length, List.length_append, List.length_cons, List.length_nil, List.length_map, List.length_set, List.length_replicate, List.length_take, List.length_drop, Go.IntWalk.i64_in]
        first | omega | (simp; done) | (simp; omega)) ?_
    refine Rnd.yes (by
        have := (H0).1
        refine decide_eq_true ?_
        try simp (disch := omega) only [List.sum_cons, List.sum_nil, List.map_cons, List.map_nil, bytesI_length, bytesL_length, List.length_append, List.length_cons, List.length_nil, List.length_map, List.length_set, List.length_replicate, List.length_take, List.length_drop, Go.IntWalk.i64_in]
        first | omega | (simp; done) | (simp; omega)) ?_
    refine Rnd.call_to (spec_l1In.md (a0.fList.getD i1 0) 1 99) ?_ ?_
    · have R_ := spec_l1In.R_eq (a0 := (a0.fList.getD i1 0)) (a1 := 1) (a2 := 99) trivial
      first | exact R_ | (simp only [List.map_append, List.map_cons, List.map_nil, List.cons_append, List.nil_append, iRow, sRow, bRow, lRow, List.map_set, bytesL_map, List.length_map, toNat_nat, iAt_getD, bAt_getD, sAt_getD, lAt_getD, MKeys.r_fList, MKeys.r_fNeed] at R_ ⊢; first | exact R_ | (rw [← R_]; rfl))
    try simp only [bytesL_map, List.length_map, toNat_nat, iAt_getD, bAt_getD, sAt_getD, lAt_getD, MKeys.r_fList, MKeys.r_fNeed]
    refine Rnd.bif (fun c4 => ?_) (fun c4 => ?_)
    · have dc4 := c4
      try simp only [bne_eq_false_iff_eq, bne_iff_ne, beq_iff_eq, beq_eq_false_iff_ne, ne_eq, Bool.not_eq_true', Bool.not_eq_false'] at dc4
      have dc4 := c4
      try simp [spec_l1In.md] at dc4
      refine Rnd.inr ?_
      all_goals first | rfl | (simp only [bytesL_map, List.length_map, toNat_nat, iAt_getD, bAt_getD, sAt_getD, lAt_getD, MKeys.r_fList, MKeys.r_fNeed]; done) | (simp only [List.map_append, List.map_cons, List.map_nil, List.cons_append, List.nil_append, iRow, sRow, bRow, lRow, List.map_set]; rfl) | (simp only [bytesL_map, List.length_map, toNat_nat, iAt_getD, bAt_getD, sAt_getD, lAt_getD, MKeys.r_fList, MKeys.r_fNeed, List.map_append, List.map_cons, List.map_nil, List.cons_append, List.nil_append, iRow, sRow, bRow, lRow, List.map_set]; first | done | rfl)
    · have dc4 := c4
      try simp only [bne_eq_false_iff_eq, bne_iff_ne, beq_iff_eq, beq_eq_false_iff_ne, ne_eq, Bool.not_eq_true', Bool.not_eq_false'] at dc4
      have dc4 := c4
      try simp [spec_l1In.md] at dc4
      refine Rnd.bif (fun c5 => ?_) (fun c5 => ?_)
      · have dc5 := c5
        simp only [decide_eq_true_eq, decide_eq_false_iff_not] at dc5
        refine Rnd.yes (by
            refine decide_eq_true ?_
            try simp (disch := omega) only [List.sum_cons, List.sum_nil, List.map_cons, List.map_nil, bytesI_length, bytesL_length, List.length_append, List.length_cons, List.length_nil, List.length_map, List.length_set, List.length_replicate, List.length_take, List.length_drop, Go.IntWalk.i64_in]
            first | omega | (simp; done) | (simp; omega)) ?_
        refine Rnd.yes (by
            have := (H0).1
            refine decide_eq_true ?_
            try simp (disch := omega) only [List.sum_cons, List.sum_nil, List.map_cons, List.map_nil, bytesI_length, bytesL_length, List.length_append, List.length_cons, List.length_nil, List.length_map, List.length_set, List.length_replicate, List.length_take, List.length_drop, Go.IntWalk.i64_in]
            first | omega | (simp; done) | (simp; omega)) ?_
        refine Rnd.yes (by
            refine decide_eq_true ?_
            try simp (disch := omega) only [List.sum_cons, List.sum_nil, List.map_cons, List.map_nil, bytesI_length, bytesL_length, List.length_append, List.length_cons, List.length_nil, List.length_map, List.length_set, List.length_replicate, List.length_take, List.length_drop, Go.IntWalk.i64_in]
            first | omega | (simp; done) | (simp; omega)) ?_
        refine Rnd.yes (by
            have := (H0).1
            refine decide_eq_true ?_
            try simp (disch := omega) only [List.sum_cons, List.sum_nil, List.map_cons, List.map_nil, bytesI_length, bytesL_length, List.length_append, List.length_cons, List.length_nil, List.length_map, List.length_set, List.length_replicate, List.length_take, List.length_drop, Go.IntWalk.i64_in]
            first | omega | (simp; done) | (simp; omega)) ?_
        refine Rnd.bif (fun c6 => ?_) (fun c6 => ?_)
        · have dc6 := c6
          simp only [decide_eq_true_eq, decide_eq_false_iff_not] at dc6
          refine Rnd.inr ?_
          all_goals first | rfl | (simp only [bytesL_map, List.length_map, toNat_nat, iAt_getD, bAt_getD, sAt_getD, lAt_getD, MKeys.r_fList, MKeys.r_fNeed]; done) | (simp only [List.map_append, List.map_cons, List.map_nil, List.cons_append, List.nil_append, iRow, sRow, bRow, lRow, List.map_set]; rfl) | (simp only [bytesL_map, List.length_map, toNat_nat, iAt_getD, bAt_getD, sAt_getD, lAt_getD, MKeys.r_fList, MKeys.r_fNeed, List.map_append, List.map_cons, List.map_nil, List.cons_append, List.nil_append, iRow, sRow, bRow, lRow, List.map_set]; first | done | rfl)
        · have dc6 := c6
          simp only [decide_eq_true_eq, decide_eq_false_iff_not] at dc6
          refine Rnd.inl trivial ?_
          rw [wrap_succ h2 Bh2]
          all_goals first | rfl | (simp only [bytesL_map, List.length_map, toNat_nat, iAt_getD, bAt_getD, sAt_getD, lAt_getD, MKeys.r_fList, MKeys.r_fNeed]; done) | (simp only [List.map_append, List.map_cons, List.map_nil, List.cons_append, List.nil_append, iRow, sRow, bRow, lRow, List.map_set]; rfl) | (simp only [bytesL_map, List.length_map, toNat_nat, iAt_getD, bAt_getD, sAt_getD, lAt_getD, MKeys.r_fList, MKeys.r_fNeed, List.map_append, List.map_cons, List.map_nil, List.cons_append, List.nil_append, iRow, sRow, bRow, lRow, List.map_set]; first | done | rfl)
      · have dc5 := c5
        simp only [decide_eq_true_eq, decide_eq_false_iff_not] at dc5
        refine Rnd.inl trivial ?_
        rw [wrap_succ h2 Bh2]
        all_goals first | rfl | (simp only [bytesL_map, List.length_map, toNat_nat, iAt_getD, bAt_getD, sAt_getD, lAt_getD, MKeys.r_fList, MKeys.r_fNeed]; done) | (simp only [List.map_append, List.map_cons, List.map_nil, List.cons_append, List.nil_append, iRow, sRow, bRow, lRow, List.map_set]; rfl) | (simp only [bytesL_map, List.length_map, toNat_nat, iAt_getD, bAt_getD, sAt_getD, lAt_getD, MKeys.r_fList, MKeys.r_fNeed, List.map_append, List.map_cons, List.map_nil, List.cons_append, List.nil_append, iRow, sRow, bRow, lRow, List.map_set]; first | done | rfl)
  · simp only [step, bytesL_map, List.length_map, toNat_nat, iAt_getD, bAt_getD, sAt_getD, lAt_getD, MKeys.r_fList, MKeys.r_fNeed]
    have := (H0).1
    refine ex_no (by apply decide_eq_false; omega) ?_
    refine ex_call_to (spec_l1In.md (a0.fList.length : Int) 1 4) ?_ ?_
    · have R_ := spec_l1In.R_eq (a0 := (a0.fList.length : Int)) (a1 := 1) (a2 := 4) trivial
      first | exact R_ | (simp only [List.map_append, List.map_cons, List.map_nil, List.cons_append, List.nil_append, iRow, sRow, bRow, lRow, List.map_set, bytesL_map, List.length_map, toNat_nat, iAt_getD, bAt_getD, sAt_getD, lAt_getD, MKeys.r_fList, MKeys.r_fNeed] at R_ ⊢; first | exact R_ | (rw [← R_]; rfl))
    try simp only [bytesL_map, List.length_map, toNat_nat, iAt_getD, bAt_getD, sAt_getD, lAt_getD, MKeys.r_fList, MKeys.r_fNeed]
    refine ex_bif (fun b : Bool => ret (b : Bool)) (fun c7 => ?_) (fun c7 => ?_)
    · have dc7 := c7
      try simp [spec_l1In.md] at dc7
      refine ex_call_to (spec_l1In.md a0.fNeed 1 (a0.fList.length : Int)) ?_ ?_
      · have R_ := spec_l1In.R_eq (a0 := a0.fNeed) (a1 := 1) (a2 := (a0.fList.length : Int)) trivial
        first | exact R_ | (simp only [List.map_append, List.map_cons, List.map_nil, List.cons_append, List.nil_append, iRow, sRow, bRow, lRow, List.map_set, bytesL_map, List.length_map, toNat_nat, iAt_getD, bAt_getD, sAt_getD, lAt_getD, MKeys.r_fList, MKeys.r_fNeed] at R_ ⊢; first | exact R_ | (rw [← R_]; rfl))
      try simp only [bytesL_map, List.length_map, toNat_nat, iAt_getD, bAt_getD, sAt_getD, lAt_getD, MKeys.r_fList, MKeys.r_fNeed]
      refine ⟨0, ?_⟩
      all_goals first | rfl | (simp only [bytesL_map, List.length_map, toNat_nat, iAt_getD, bAt_getD, sAt_getD, lAt_getD, MKeys.r_fList, MKeys.r_fNeed]; done) | (simp only [List.map_append, List.map_cons, List.map_nil, List.cons_append, List.nil_append, iRow, sRow, bRow, lRow, List.map_set]; rfl) | (simp only [bytesL_map, List.length_map, toNat_nat, iAt_getD, bAt_getD, sAt_getD, lAt_getD, MKeys.r_fList, MKeys.r_fNeed, List.map_append, List.map_cons, List.map_nil, List.cons_append, List.nil_append, iRow, sRow, bRow, lRow, List.map_set]; first | done | rfl)
    · have dc7 := c7
      try simp [spec_l1In.md] at dc7
      refine ⟨0, ?_⟩
      all_goals first | rfl | (simp only [bytesL_map, List.length_map, toNat_nat, iAt_getD, bAt_getD, sAt_getD, lAt_getD, MKeys.r_fList, MKeys.r_fNeed]; done) | (simp only [List.map_append, List.map_cons, List.map_nil, List.cons_append, List.nil_append, iRow, sRow, bRow, lRow, List.map_set]; rfl) | (simp only [bytesL_map, List.length_map, toNat_nat, iAt_getD, bAt_getD, sAt_getD, lAt_getD, MKeys.r_fList, MKeys.r_fNeed, List.map_append, List.map_cons, List.map_nil, List.cons_append, List.nil_append, iRow, sRow, bRow, lRow, List.map_set]; first | done | rfl)
noncomputable def sem (ls : List L) : Option (List L) := (R (RKeys.dec ls)).map RT.enc
theorem ok (ls q : List L) (hl : LOKs Ev.cells pats ls) (h : sem ls = some q) : ∃ n, runF E live Tryz.f184 res n (initS pats ls) = some q := by
  obtain ⟨v, hv, hq⟩ := map_some h
  obtain ⟨a0, hg, e, hm⟩ := ofM_some hv
  have e0 : (MKeys.r a0) = _ := e
  obtain ⟨n, hn⟩ := okF a0 hg
  refine ⟨n, (run_eq n ls).trans ?_⟩
  rw [← e0]
  rw [hn, ← hq, hm]; rfl
noncomputable def con : Con := ⟨pats, res, sem⟩
theorem chk : fnB Tryz.f184 con 48 = true := by kernel_rfl
theorem valid_ : Valid Tryz.prog Ev 184 con := valid mix tab_ok (.cons spec_l1In.valid_ .nil) Tryz.func184 chk live ok
theorem tr {a0 : MKeys} (h : md a0 = true) : 1 ≤ a0.fList.length ∧ a0.fList.length ≤ 4 := by
  refine Classical.byContradiction fun hc => ?_
  have e1 : spec_l1In.md (a0.fList.length : Int) 1 4 = false := by simp [spec_l1In.md]; omega
  unfold md at h
  rw [e1] at h
  have e2 : ∀ s : Unit, (bif false then spec_l1In.md a0.fNeed 1 (a0.fList.length : Int) else false) = false := fun _ => rfl
  have h3 := eachI_const (c := false) (f := fun (i1 : Nat) (y1 : Int) (s3 : Unit) => (bif (!(spec_l1In.md y1 1 99)) then (.inr (false : Bool)) else (bif (decide ((i1 : Int) > 0)) then (bif (decide ((a0.fList.getD (Int.toNat (IntKind.i64.wrap ((i1 : Int) - 1))) 0) ≥ y1)) then (.inr (false : Bool)) else (.inl ())) else (.inl ())))) (by
    intro i x s b h
    revert h
    simp only [Bool.cond_eq_ite]
    repeat' split
    all_goals (intro h; first | (cases h; rfl) | cases h)) a0.fList 0 ()
  simp only [cond_false] at h
  rw [h3] at h
  cases h
end spec_IsKeys
/-! spec.NoKeys -/
namespace spec_NoKeys
noncomputable def F (x0 : RKeys) : Ans := (bif (x0.fNeed == 0) then ret (((x0.fList.length : Int) == 0) : Bool) else ret (false : Bool))
def live : Nat → Live := fun _ => []
def pats : List Pat := [.agg [.sl 3, .int .i64]]
def res : RP := .one (.rd (.bool))
noncomputable def G : List (Nat × Con) := []
noncomputable abbrev E : Env := ⟨assoc Tab, conG G, 12⟩
set_option maxRecDepth 100000
theorem run_eq (n : Nat) (ls : List L) : runF E live Tryz.f185 res n (initS pats ls) = F (RKeys.dec ls) := by kernel_rfl
noncomputable def md (a0 : MKeys) : Bool := (bif (a0.fNeed == 0) then (((a0.fList.length : Int) == 0) : Bool) else (false : Bool))
def gd (a0 : MKeys) : Prop := True
def rf (a : MKeys) : RKeys := (MKeys.r a)
theorem rf_inj (a b : MKeys) (h : rf a = rf b) : a = b := by
  exact (MKeys.r_inj h)
noncomputable def R (x0 : RKeys) : Option (Bool) := ofM rf (fun a => gd a) (fun a => (md a)) x0
theorem R_eq {a0 : MKeys} (h : gd a0) : R (MKeys.r a0) = some (md a0) := ofM_eq (r := rf) (a := a0) rf_inj h
theorem okF (a0 : MKeys) (hg : gd a0) : F (MKeys.r a0) = ret ((md a0) : Bool) := by
  unfold F md
  try simp only [bytesL_map, List.length_map, toNat_nat, iAt_getD, bAt_getD, sAt_getD, lAt_getD, MKeys.r_fList, MKeys.r_fNeed]
  refine bif_out (fun b : Bool => ret (b : Bool)) (fun c1 => ?_) (fun c1 => ?_)
  · have dc1 := c1
    try simp only [bne_eq_false_iff_eq, bne_iff_ne, beq_iff_eq, beq_eq_false_iff_ne, ne_eq, Bool.not_eq_true', Bool.not_eq_false'] at dc1
    all_goals first | rfl | (simp only [bytesL_map, List.length_map, toNat_nat, iAt_getD, bAt_getD, sAt_getD, lAt_getD, MKeys.r_fList, MKeys.r_fNeed]; done) | (simp only [List.map_append, List.map_cons, List.map_nil, List.cons_append, List.nil_append, iRow, sRow, bRow, lRow, List.map_set]; rfl) | (simp only [bytesL_map, List.length_map, toNat_nat, iAt_getD, bAt_getD, sAt_getD, lAt_getD, MKeys.r_fList, MKeys.r_fNeed, List.map_append, List.map_cons, List.map_nil, List.cons_append, List.nil_append, iRow, sRow, bRow, lRow, List.map_set]; first | done | rfl)
  · have dc1 := c1
    try simp only [bne_eq_false_iff_eq, bne_iff_ne, beq_iff_eq, beq_eq_false_iff_ne, ne_eq, Bool.not_eq_true', Bool.not_eq_false'] at dc1
    all_goals first | rfl | (simp only [bytesL_map, List.length_map, toNat_nat, iAt_getD, bAt_getD, sAt_getD, lAt_getD, MKeys.r_fList, MKeys.r_fNeed]; done) | (simp only [List.map_append, List.map_cons, List.map_nil, List.cons_append, List.nil_append, iRow, sRow, bRow, lRow, List.map_set]; rfl) | (simp only [bytesL_map, List.length_map, toNat_nat, iAt_getD, bAt_getD, sAt_getD, lAt_getD, MKeys.r_fList, MKeys.r_fNeed, List.map_append, List.map_cons, List.map_nil, List.cons_append, List.nil_append, iRow, sRow, bRow, lRow, List.map_set]; first | done | rfl)
noncomputable def sem (ls : List L) : Option (List L) := (R (RKeys.dec ls)).map RT.enc
theorem ok (ls q : List L) (hl : LOKs Ev.cells pats ls) (h : sem ls = some q) : ∃ n, runF E live Tryz.f185 res n (initS pats ls) = some q := by
  obtain ⟨v, hv, hq⟩ := map_some h
  obtain ⟨a0, hg, e, hm⟩ := ofM_some hv
  have e0 : (MKeys.r a0) = _ := e
  have hn := okF a0 hg
  refine ⟨0, (run_eq 0 ls).trans ?_⟩
  rw [← e0]
  rw [hn, ← hq, hm]; rfl
noncomputable def con : Con := ⟨pats, res, sem⟩
theorem chk : fnB Tryz.f185 con 12 = true := by kernel_rfl
theorem valid_ : Valid Tryz.prog Ev 185 con := valid mix tab_ok .nil Tryz.func185 chk live ok
end spec_NoKeys
/-! spec.IsHead -/
namespace spec_IsHead
noncomputable def F (x0 : RHead) : Ans := (call (spec_l1In.R x0.fZone 0 2147483646) fun v1 => (bif (!v1) then ret (false : Bool) else (call (spec_l1In.R x0.fRoot 0 2147483646) fun v2 => (bif (!v2) then ret (false : Bool) else (call (spec_l1In.R x0.fPrev 0 2147483646) fun v3 => (bif (!v3) then ret (false : Bool) else (call (spec_l1In.R x0.fEpoch 0 200) fun v4 => (bif (!v4) then ret (false : Bool) else (call (spec_l1In.R x0.fKind 1 3) fun v5 => (bif (!v5) then ret (false : Bool) else (call (spec_l1In.R x0.fTime 0 100000) fun v6 => (bif (!v6) then ret (false : Bool) else (call (spec_l1In.R x0.fUntil x0.fTime 100000) fun v7 => (bif (!v7) then ret (false : Bool) else (bif (decide ((IntKind.i64.wrap (x0.fUntil - x0.fTime)) > 200)) then ret (false : Bool) else (call (spec_l1In.R x0.fCount 0 12) fun v8 => (bif (!v8) then ret (false : Bool) else (call (spec_IsKeys.R x0.fKeys) fun v9 => (bif (!v9) then ret (false : Bool) else (call (spec_NoKeys.R x0.fHeirs) fun v10 => (bif v10 then (bif (x0.fWait != 0) then ret (false : Bool) else (call (spec_IsKeys.R x0.fJudge) fun v11 => (bif v11 then ret (true : Bool) else (call (spec_NoKeys.R x0.fJudge) fun v12 => (bif v12 then ret ((!x0.fFrozen) : Bool) else ret (false : Bool)))))) else (call (spec_IsKeys.R x0.fHeirs) fun v13 => (bif (!v13) then ret (false : Bool) else (call (spec_l1In.R x0.fWait 1 500) fun v14 => (bif (!v14) then ret (false : Bool) else (call (spec_IsKeys.R x0.fJudge) fun v15 => (bif v15 then ret (true : Bool) else (call (spec_NoKeys.R x0.fJudge) fun v16 => (bif v16 then ret ((!x0.fFrozen) : Bool) else ret (false : Bool))))))))))))))))))))))))))))))
def live : Nat → Live := fun _ => []
def pats : List Pat := [.agg [.int .i64, .int .i64, .int .i64, .int .i64, .int .i64, .int .i64, .int .i64, .int .i64, .sl 3, .int .i64, .sl 3, .int .i64, .int .i64, .sl 3, .int .i64, .bool]]
def res : RP := .one (.rd (.bool))
noncomputable def G : List (Nat × Con) := [(81, spec_l1In.con), (184, spec_IsKeys.con), (185, spec_NoKeys.con)]
noncomputable abbrev E : Env := ⟨assoc Tab, conG G, 92⟩
set_option maxRecDepth 100000
theorem run_eq (n : Nat) (ls : List L) : runF E live Tryz.f135 res n (initS pats ls) = F (RHead.dec ls) := by kernel_rfl
noncomputable def md (a0 : MHead) : Bool := (bif (!(spec_l1In.md a0.fZone 0 2147483646)) then (false : Bool) else (bif (!(spec_l1In.md a0.fRoot 0 2147483646)) then (false : Bool) else (bif (!(spec_l1In.md a0.fPrev 0 2147483646)) then (false : Bool) else (bif (!(spec_l1In.md a0.fEpoch 0 200)) then (false : Bool) else (bif (!(spec_l1In.md a0.fKind 1 3)) then (false : Bool) else (bif (!(spec_l1In.md a0.fTime 0 100000)) then (false : Bool) else (bif (!(spec_l1In.md a0.fUntil a0.fTime 100000)) then (false : Bool) else (bif (decide ((IntKind.i64.wrap (a0.fUntil - a0.fTime)) > 200)) then (false : Bool) else (bif (!(spec_l1In.md a0.fCount 0 12)) then (false : Bool) else (bif (!(spec_IsKeys.md a0.fKeys)) then (false : Bool) else (bif (spec_NoKeys.md a0.fHeirs) then (bif (a0.fWait != 0) then (false : Bool) else (bif (spec_IsKeys.md a0.fJudge) then (true : Bool) else (bif (spec_NoKeys.md a0.fJudge) then ((!a0.fFrozen) : Bool) else (false : Bool)))) else (bif (!(spec_IsKeys.md a0.fHeirs)) then (false : Bool) else (bif (!(spec_l1In.md a0.fWait 1 500)) then (false : Bool) else (bif (spec_IsKeys.md a0.fJudge) then (true : Bool) else (bif (spec_NoKeys.md a0.fJudge) then ((!a0.fFrozen) : Bool) else (false : Bool))))))))))))))))
def gd (a0 : MHead) : Prop := (MHead.Sm (2 ^ 21) a0)
def rf (a : MHead) : RHead := (MHead.r a)
theorem rf_inj (a b : MHead) (h : rf a = rf b) : a = b := by
  exact (MHead.r_inj h)
noncomputable def R (x0 : RHead) : Option (Bool) := ofM rf (fun a => gd a) (fun a => (md a)) x0
theorem R_eq {a0 : MHead} (h : gd a0) : R (MHead.r a0) = some (md a0) := ofM_eq (r := rf) (a := a0) rf_inj h
theorem okF (a0 : MHead) (hg : gd a0) : F (MHead.r a0) = ret ((md a0) : Bool) := by
  unfold gd at hg
  have H0 := hg
  unfold F md
  try simp only [bytesL_map, List.length_map, toNat_nat, iAt_getD, bAt_getD, sAt_getD, lAt_getD, MHead.r_fZone, MHead.r_fEpoch, MHead.r_fKind, MHead.r_fTime, MHead.r_fUntil, MHead.r_fCount, MHead.r_fRoot, MHead.r_fPrev, MHead.r_fKeys, MHead.r_fHeirs, MHead.r_fWait, MHead.r_fJudge, MHead.r_fFrozen]
  refine call_to (spec_l1In.md a0.fZone 0 2147483646) ?_ ?_
  · have R_ := spec_l1In.R_eq (a0 := a0.fZone) (a1 := 0) (a2 := 2147483646) trivial
    first | exact R_ | (simp only [List.map_append, List.map_cons, List.map_nil, List.cons_append, List.nil_append, iRow, sRow, bRow, lRow, List.map_set, bytesL_map, List.length_map, toNat_nat, iAt_getD, bAt_getD, sAt_getD, lAt_getD, MHead.r_fZone, MHead.r_fEpoch, MHead.r_fKind, MHead.r_fTime, MHead.r_fUntil, MHead.r_fCount, MHead.r_fRoot, MHead.r_fPrev, MHead.r_fKeys, MHead.r_fHeirs, MHead.r_fWait, MHead.r_fJudge, MHead.r_fFrozen] at R_ ⊢; first | exact R_ | (rw [← R_]; rfl))
  try simp only [bytesL_map, List.length_map, toNat_nat, iAt_getD, bAt_getD, sAt_getD, lAt_getD, MHead.r_fZone, MHead.r_fEpoch, MHead.r_fKind, MHead.r_fTime, MHead.r_fUntil, MHead.r_fCount, MHead.r_fRoot, MHead.r_fPrev, MHead.r_fKeys, MHead.r_fHeirs, MHead.r_fWait, MHead.r_fJudge, MHead.r_fFrozen]
  refine bif_out (fun b : Bool => ret (b : Bool)) (fun c1 => ?_) (fun c1 => ?_)
  · have dc1 := c1
    try simp only [bne_eq_false_iff_eq, bne_iff_ne, beq_iff_eq, beq_eq_false_iff_ne, ne_eq, Bool.not_eq_true', Bool.not_eq_false'] at dc1
    have dc1 := c1
    try simp [spec_l1In.md] at dc1
    all_goals first | rfl | (simp only [bytesL_map, List.length_map, toNat_nat, iAt_getD, bAt_getD, sAt_getD, lAt_getD, MHead.r_fZone, MHead.r_fEpoch, MHead.r_fKind, MHead.r_fTime, MHead.r_fUntil, MHead.r_fCount, MHead.r_fRoot, MHead.r_fPrev, MHead.r_fKeys, MHead.r_fHeirs, MHead.r_fWait, MHead.r_fJudge, MHead.r_fFrozen]; done) | (simp only [List.map_append, List.map_cons, List.map_nil, List.cons_append, List.nil_append, iRow, sRow, bRow, lRow, List.map_set]; rfl) | (simp only [bytesL_map, List.length_map, toNat_nat, iAt_getD, bAt_getD, sAt_getD, lAt_getD, MHead.r_fZone, MHead.r_fEpoch, MHead.r_fKind, MHead.r_fTime, MHead.r_fUntil, MHead.r_fCount, MHead.r_fRoot, MHead.r_fPrev, MHead.r_fKeys, MHead.r_fHeirs, MHead.r_fWait, MHead.r_fJudge, MHead.r_fFrozen, List.map_append, List.map_cons, List.map_nil, List.cons_append, List.nil_append, iRow, sRow, bRow, lRow, List.map_set]; first | done | rfl)
  · have dc1 := c1
    try simp only [bne_eq_false_iff_eq, bne_iff_ne, beq_iff_eq, beq_eq_false_iff_ne, ne_eq, Bool.not_eq_true', Bool.not_eq_false'] at dc1
    have dc1 := c1
    try simp [spec_l1In.md] at dc1
    refine call_to (spec_l1In.md a0.fRoot 0 2147483646) ?_ ?_
    · have R_ := spec_l1In.R_eq (a0 := a0.fRoot) (a1 := 0) (a2 := 2147483646) trivial
      first | exact R_ | (simp only [List.map_append, List.map_cons, List.map_nil, List.cons_append, List.nil_append, iRow, sRow, bRow, lRow, List.map_set, bytesL_map, List.length_map, toNat_nat, iAt_getD, bAt_getD, sAt_getD, lAt_getD, MHead.r_fZone, MHead.r_fEpoch, MHead.r_fKind, MHead.r_fTime, MHead.r_fUntil, MHead.r_fCount, MHead.r_fRoot, MHead.r_fPrev, MHead.r_fKeys, MHead.r_fHeirs, MHead.r_fWait, MHead.r_fJudge, MHead.r_fFrozen] at R_ ⊢; first | exact R_ | (rw [← R_]; rfl))
    try simp only [bytesL_map, List.length_map, toNat_nat, iAt_getD, bAt_getD, sAt_getD, lAt_getD, MHead.r_fZone, MHead.r_fEpoch, MHead.r_fKind, MHead.r_fTime, MHead.r_fUntil, MHead.r_fCount, MHead.r_fRoot, MHead.r_fPrev, MHead.r_fKeys, MHead.r_fHeirs, MHead.r_fWait, MHead.r_fJudge, MHead.r_fFrozen]
    refine bif_out (fun b : Bool => ret (b : Bool)) (fun c2 => ?_) (fun c2 => ?_)
    · have dc2 := c2
      try simp only [bne_eq_false_iff_eq, bne_iff_ne, beq_iff_eq, beq_eq_false_iff_ne, ne_eq, Bool.not_eq_true', Bool.not_eq_false'] at dc2
      have dc2 := c2
      try simp [spec_l1In.md] at dc2
      all_goals first | rfl | (simp only [bytesL_map, List.length_map, toNat_nat, iAt_getD, bAt_getD, sAt_getD, lAt_getD, MHead.r_fZone, MHead.r_fEpoch, MHead.r_fKind, MHead.r_fTime, MHead.r_fUntil, MHead.r_fCount, MHead.r_fRoot, MHead.r_fPrev, MHead.r_fKeys, MHead.r_fHeirs, MHead.r_fWait, MHead.r_fJudge, MHead.r_fFrozen]; done) | (simp only [List.map_append, List.map_cons, List.map_nil, List.cons_append, List.nil_append, iRow, sRow, bRow, lRow, List.map_set]; rfl) | (simp only [bytesL_map, List.length_map, toNat_nat, iAt_getD, bAt_getD, sAt_getD, lAt_getD, MHead.r_fZone, MHead.r_fEpoch, MHead.r_fKind, MHead.r_fTime, MHead.r_fUntil, MHead.r_fCount, MHead.r_fRoot, MHead.r_fPrev, MHead.r_fKeys, MHead.r_fHeirs, MHead.r_fWait, MHead.r_fJudge, MHead.r_fFrozen, List.map_append, List.map_cons, List.map_nil, List.cons_append, List.nil_append, iRow, sRow, bRow, lRow, List.map_set]; first | done | rfl)
    · have dc2 := c2
      try simp only [bne_eq_false_iff_eq, bne_iff_ne, beq_iff_eq, beq_eq_false_iff_ne, ne_eq, Bool.not_eq_true', Bool.not_eq_false'] at dc2
      have dc2 := c2
      try simp [spec_l1In.md] at dc2
      refine call_to (spec_l1In.md a0.fPrev 0 2147483646) ?_ ?_
      · have R_ := spec_l1In.R_eq (a0 := a0.fPrev) (a1 := 0) (a2 := 2147483646) trivial
        first | exact R_ | (simp only [List.map_append, List.map_cons, List.map_nil, List.cons_append, List.nil_append, iRow, sRow, bRow, lRow, List.map_set, bytesL_map, List.length_map, toNat_nat, iAt_getD, bAt_getD, sAt_getD, lAt_getD, MHead.r_fZone, MHead.r_fEpoch, MHead.r_fKind, MHead.r_fTime, MHead.r_fUntil, MHead.r_fCount, MHead.r_fRoot, MHead.r_fPrev, MHead.r_fKeys, MHead.r_fHeirs, MHead.r_fWait, MHead.r_fJudge, MHead.r_fFrozen] at R_ ⊢; first | exact R_ | (rw [← R_]; rfl))
      try simp only [bytesL_map, List.length_map, toNat_nat, iAt_getD, bAt_getD, sAt_getD, lAt_getD, MHead.r_fZone, MHead.r_fEpoch, MHead.r_fKind, MHead.r_fTime, MHead.r_fUntil, MHead.r_fCount, MHead.r_fRoot, MHead.r_fPrev, MHead.r_fKeys, MHead.r_fHeirs, MHead.r_fWait, MHead.r_fJudge, MHead.r_fFrozen]
      refine bif_out (fun b : Bool => ret (b : Bool)) (fun c3 => ?_) (fun c3 => ?_)
      · have dc3 := c3
        try simp only [bne_eq_false_iff_eq, bne_iff_ne, beq_iff_eq, beq_eq_false_iff_ne, ne_eq, Bool.not_eq_true', Bool.not_eq_false'] at dc3
        have dc3 := c3
        try simp [spec_l1In.md] at dc3
        all_goals first | rfl | (simp only [bytesL_map, List.length_map, toNat_nat, iAt_getD, bAt_getD, sAt_getD, lAt_getD, MHead.r_fZone, MHead.r_fEpoch, MHead.r_fKind, MHead.r_fTime, MHead.r_fUntil, MHead.r_fCount, MHead.r_fRoot, MHead.r_fPrev, MHead.r_fKeys, MHead.r_fHeirs, MHead.r_fWait, MHead.r_fJudge, MHead.r_fFrozen]; done) | (simp only [List.map_append, List.map_cons, List.map_nil, List.cons_append, List.nil_append, iRow, sRow, bRow, lRow, List.map_set]; rfl) | (simp only [bytesL_map, List.length_map, toNat_nat, iAt_getD, bAt_getD, sAt_getD, lAt_getD, MHead.r_fZone, MHead.r_fEpoch, MHead.r_fKind, MHead.r_fTime, MHead.r_fUntil, MHead.r_fCount, MHead.r_fRoot, MHead.r_fPrev, MHead.r_fKeys, MHead.r_fHeirs, MHead.r_fWait, MHead.r_fJudge, MHead.r_fFrozen, List.map_append, List.map_cons, List.map_nil, List.cons_append, List.nil_append, iRow, sRow, bRow, lRow, List.map_set]; first | done | rfl)
      · have dc3 := c3
        try simp only [bne_eq_false_iff_eq, bne_iff_ne, beq_iff_eq, beq_eq_false_iff_ne, ne_eq, Bool.not_eq_true', Bool.not_eq_false'] at dc3
        have dc3 := c3
        try simp [spec_l1In.md] at dc3
        refine call_to (spec_l1In.md a0.fEpoch 0 200) ?_ ?_
        · have R_ := spec_l1In.R_eq (a0 := a0.fEpoch) (a1 := 0) (a2 := 200) trivial
          first | exact R_ | (simp only [List.map_append, List.map_cons, List.map_nil, List.cons_append, List.nil_append, iRow, sRow, bRow, lRow, List.map_set, bytesL_map, List.length_map, toNat_nat, iAt_getD, bAt_getD, sAt_getD, lAt_getD, MHead.r_fZone, MHead.r_fEpoch, MHead.r_fKind, MHead.r_fTime, MHead.r_fUntil, MHead.r_fCount, MHead.r_fRoot, MHead.r_fPrev, MHead.r_fKeys, MHead.r_fHeirs, MHead.r_fWait, MHead.r_fJudge, MHead.r_fFrozen] at R_ ⊢; first | exact R_ | (rw [← R_]; rfl))
        try simp only [bytesL_map, List.length_map, toNat_nat, iAt_getD, bAt_getD, sAt_getD, lAt_getD, MHead.r_fZone, MHead.r_fEpoch, MHead.r_fKind, MHead.r_fTime, MHead.r_fUntil, MHead.r_fCount, MHead.r_fRoot, MHead.r_fPrev, MHead.r_fKeys, MHead.r_fHeirs, MHead.r_fWait, MHead.r_fJudge, MHead.r_fFrozen]
        refine bif_out (fun b : Bool => ret (b : Bool)) (fun c4 => ?_) (fun c4 => ?_)
        · have dc4 := c4
          try simp only [bne_eq_false_iff_eq, bne_iff_ne, beq_iff_eq, beq_eq_false_iff_ne, ne_eq, Bool.not_eq_true', Bool.not_eq_false'] at dc4
          have dc4 := c4
          try simp [spec_l1In.md] at dc4
          all_goals first | rfl | (simp only [bytesL_map, List.length_map, toNat_nat, iAt_getD, bAt_getD, sAt_getD, lAt_getD, MHead.r_fZone, MHead.r_fEpoch, MHead.r_fKind, MHead.r_fTime, MHead.r_fUntil, MHead.r_fCount, MHead.r_fRoot, MHead.r_fPrev, MHead.r_fKeys, MHead.r_fHeirs, MHead.r_fWait, MHead.r_fJudge, MHead.r_fFrozen]; done) | (simp only [List.map_append, List.map_cons, List.map_nil, List.cons_append, List.nil_append, iRow, sRow, bRow, lRow, List.map_set]; rfl) | (simp only [bytesL_map, List.length_map, toNat_nat, iAt_getD, bAt_getD, sAt_getD, lAt_getD, MHead.r_fZone, MHead.r_fEpoch, MHead.r_fKind, MHead.r_fTime, MHead.r_fUntil, MHead.r_fCount, MHead.r_fRoot, MHead.r_fPrev, MHead.r_fKeys, MHead.r_fHeirs, MHead.r_fWait, MHead.r_fJudge, MHead.r_fFrozen, List.map_append, List.map_cons, List.map_nil, List.cons_append, List.nil_append, iRow, sRow, bRow, lRow, List.map_set]; first | done | rfl)
        · have dc4 := c4
          try simp only [bne_eq_false_iff_eq, bne_iff_ne, beq_iff_eq, beq_eq_false_iff_ne, ne_eq, Bool.not_eq_true', Bool.not_eq_false'] at dc4
          have dc4 := c4
          try simp [spec_l1In.md] at dc4
          refine call_to (spec_l1In.md a0.fKind 1 3) ?_ ?_
          · have R_ := spec_l1In.R_eq (a0 := a0.fKind) (a1 := 1) (a2 := 3) trivial
            first | exact R_ | (simp only [List.map_append, List.map_cons, List.map_nil, List.cons_append, List.nil_append, iRow, sRow, bRow, lRow, List.map_set, bytesL_map, List.length_map, toNat_nat, iAt_getD, bAt_getD, sAt_getD, lAt_getD, MHead.r_fZone, MHead.r_fEpoch, MHead.r_fKind, MHead.r_fTime, MHead.r_fUntil, MHead.r_fCount, MHead.r_fRoot, MHead.r_fPrev, MHead.r_fKeys, MHead.r_fHeirs, MHead.r_fWait, MHead.r_fJudge, MHead.r_fFrozen] at R_ ⊢; first | exact R_ | (rw [← R_]; rfl))
          try simp only [bytesL_map, List.length_map, toNat_nat, iAt_getD, bAt_getD, sAt_getD, lAt_getD, MHead.r_fZone, MHead.r_fEpoch, MHead.r_fKind, MHead.r_fTime, MHead.r_fUntil, MHead.r_fCount, MHead.r_fRoot, MHead.r_fPrev, MHead.r_fKeys, MHead.r_fHeirs, MHead.r_fWait, MHead.r_fJudge, MHead.r_fFrozen]
          refine bif_out (fun b : Bool => ret (b : Bool)) (fun c5 => ?_) (fun c5 => ?_)
          · have dc5 := c5
            try simp only [bne_eq_false_iff_eq, bne_iff_ne, beq_iff_eq, beq_eq_false_iff_ne, ne_eq, Bool.not_eq_true', Bool.not_eq_false'] at dc5
            have dc5 := c5
            try simp [spec_l1In.md] at dc5
            all_goals first | rfl | (simp only [bytesL_map, List.length_map, toNat_nat, iAt_getD, bAt_getD, sAt_getD, lAt_getD, MHead.r_fZone, MHead.r_fEpoch, MHead.r_fKind, MHead.r_fTime, MHead.r_fUntil, MHead.r_fCount, MHead.r_fRoot, MHead.r_fPrev, MHead.r_fKeys, MHead.r_fHeirs, MHead.r_fWait, MHead.r_fJudge, MHead.r_fFrozen]; done) | (simp only [List.map_append, List.map_cons, List.map_nil, List.cons_append, List.nil_append, iRow, sRow, bRow, lRow, List.map_set]; rfl) | (simp only [bytesL_map, List.length_map, toNat_nat, iAt_getD, bAt_getD, sAt_getD, lAt_getD, MHead.r_fZone, MHead.r_fEpoch, MHead.r_fKind, MHead.r_fTime, MHead.r_fUntil, MHead.r_fCount, MHead.r_fRoot, MHead.r_fPrev, MHead.r_fKeys, MHead.r_fHeirs, MHead.r_fWait, MHead.r_fJudge, MHead.r_fFrozen, List.map_append, List.map_cons, List.map_nil, List.cons_append, List.nil_append, iRow, sRow, bRow, lRow, List.map_set]; first | done | rfl)
          · have dc5 := c5
            try simp only [bne_eq_false_iff_eq, bne_iff_ne, beq_iff_eq, beq_eq_false_iff_ne, ne_eq, Bool.not_eq_true', Bool.not_eq_false'] at dc5
            have dc5 := c5
            try simp [spec_l1In.md] at dc5
            refine call_to (spec_l1In.md a0.fTime 0 100000) ?_ ?_
            · have R_ := spec_l1In.R_eq (a0 := a0.fTime) (a1 := 0) (a2 := 100000) trivial
              first | exact R_ | (simp only [List.map_append, List.map_cons, List.map_nil, List.cons_append, List.nil_append, iRow, sRow, bRow, lRow, List.map_set, bytesL_map, List.length_map, toNat_nat, iAt_getD, bAt_getD, sAt_getD, lAt_getD, MHead.r_fZone, MHead.r_fEpoch, MHead.r_fKind, MHead.r_fTime, MHead.r_fUntil, MHead.r_fCount, MHead.r_fRoot, MHead.r_fPrev, MHead.r_fKeys, MHead.r_fHeirs, MHead.r_fWait, MHead.r_fJudge, MHead.r_fFrozen] at R_ ⊢; first | exact R_ | (rw [← R_]; rfl))
            try simp only [bytesL_map, List.length_map, toNat_nat, iAt_getD, bAt_getD, sAt_getD, lAt_getD, MHead.r_fZone, MHead.r_fEpoch, MHead.r_fKind, MHead.r_fTime, MHead.r_fUntil, MHead.r_fCount, MHead.r_fRoot, MHead.r_fPrev, MHead.r_fKeys, MHead.r_fHeirs, MHead.r_fWait, MHead.r_fJudge, MHead.r_fFrozen]
            refine bif_out (fun b : Bool => ret (b : Bool)) (fun c6 => ?_) (fun c6 => ?_)
            · have dc6 := c6
              try simp only [bne_eq_false_iff_eq, bne_iff_ne, beq_iff_eq, beq_eq_false_iff_ne, ne_eq, Bool.not_eq_true', Bool.not_eq_false'] at dc6
              have dc6 := c6
              try simp [spec_l1In.md] at dc6
              all_goals first | rfl | (simp only [bytesL_map, List.length_map, toNat_nat, iAt_getD, bAt_getD, sAt_getD, lAt_getD, MHead.r_fZone, MHead.r_fEpoch, MHead.r_fKind, MHead.r_fTime, MHead.r_fUntil, MHead.r_fCount, MHead.r_fRoot, MHead.r_fPrev, MHead.r_fKeys, MHead.r_fHeirs, MHead.r_fWait, MHead.r_fJudge, MHead.r_fFrozen]; done) | (simp only [List.map_append, List.map_cons, List.map_nil, List.cons_append, List.nil_append, iRow, sRow, bRow, lRow, List.map_set]; rfl) | (simp only [bytesL_map, List.length_map, toNat_nat, iAt_getD, bAt_getD, sAt_getD, lAt_getD, MHead.r_fZone, MHead.r_fEpoch, MHead.r_fKind, MHead.r_fTime, MHead.r_fUntil, MHead.r_fCount, MHead.r_fRoot, MHead.r_fPrev, MHead.r_fKeys, MHead.r_fHeirs, MHead.r_fWait, MHead.r_fJudge, MHead.r_fFrozen, List.map_append, List.map_cons, List.map_nil, List.cons_append, List.nil_append, iRow, sRow, bRow, lRow, List.map_set]; first | done | rfl)
            · have dc6 := c6
              try simp only [bne_eq_false_iff_eq, bne_iff_ne, beq_iff_eq, beq_eq_false_iff_ne, ne_eq, Bool.not_eq_true', Bool.not_eq_false'] at dc6
              have dc6 := c6
              try simp [spec_l1In.md] at dc6
              refine call_to (spec_l1In.md a0.fUntil a0.fTime 100000) ?_ ?_
              · have R_ := spec_l1In.R_eq (a0 := a0.fUntil) (a1 := a0.fTime) (a2 := 100000) trivial
                first | exact R_ | (simp only [List.map_append, List.map_cons, List.map_nil, List.cons_append, List.nil_append, iRow, sRow, bRow, lRow, List.map_set, bytesL_map, List.length_map, toNat_nat, iAt_getD, bAt_getD, sAt_getD, lAt_getD, MHead.r_fZone, MHead.r_fEpoch, MHead.r_fKind, MHead.r_fTime, MHead.r_fUntil, MHead.r_fCount, MHead.r_fRoot, MHead.r_fPrev, MHead.r_fKeys, MHead.r_fHeirs, MHead.r_fWait, MHead.r_fJudge, MHead.r_fFrozen] at R_ ⊢; first | exact R_ | (rw [← R_]; rfl))
              try simp only [bytesL_map, List.length_map, toNat_nat, iAt_getD, bAt_getD, sAt_getD, lAt_getD, MHead.r_fZone, MHead.r_fEpoch, MHead.r_fKind, MHead.r_fTime, MHead.r_fUntil, MHead.r_fCount, MHead.r_fRoot, MHead.r_fPrev, MHead.r_fKeys, MHead.r_fHeirs, MHead.r_fWait, MHead.r_fJudge, MHead.r_fFrozen]
              refine bif_out (fun b : Bool => ret (b : Bool)) (fun c7 => ?_) (fun c7 => ?_)
              · have dc7 := c7
                try simp only [bne_eq_false_iff_eq, bne_iff_ne, beq_iff_eq, beq_eq_false_iff_ne, ne_eq, Bool.not_eq_true', Bool.not_eq_false'] at dc7
                have dc7 := c7
                try simp [spec_l1In.md] at dc7
                all_goals first | rfl | (simp only [bytesL_map, List.length_map, toNat_nat, iAt_getD, bAt_getD, sAt_getD, lAt_getD, MHead.r_fZone, MHead.r_fEpoch, MHead.r_fKind, MHead.r_fTime, MHead.r_fUntil, MHead.r_fCount, MHead.r_fRoot, MHead.r_fPrev, MHead.r_fKeys, MHead.r_fHeirs, MHead.r_fWait, MHead.r_fJudge, MHead.r_fFrozen]; done) | (simp only [List.map_append, List.map_cons, List.map_nil, List.cons_append, List.nil_append, iRow, sRow, bRow, lRow, List.map_set]; rfl) | (simp only [bytesL_map, List.length_map, toNat_nat, iAt_getD, bAt_getD, sAt_getD, lAt_getD, MHead.r_fZone, MHead.r_fEpoch, MHead.r_fKind, MHead.r_fTime, MHead.r_fUntil, MHead.r_fCount, MHead.r_fRoot, MHead.r_fPrev, MHead.r_fKeys, MHead.r_fHeirs, MHead.r_fWait, MHead.r_fJudge, MHead.r_fFrozen, List.map_append, List.map_cons, List.map_nil, List.cons_append, List.nil_append, iRow, sRow, bRow, lRow, List.map_set]; first | done | rfl)
              · have dc7 := c7
                try simp only [bne_eq_false_iff_eq, bne_iff_ne, beq_iff_eq, beq_eq_false_iff_ne, ne_eq, Bool.not_eq_true', Bool.not_eq_false'] at dc7
                have dc7 := c7
                try simp [spec_l1In.md] at dc7
                refine bif_out (fun b : Bool => ret (b : Bool)) (fun c8 => ?_) (fun c8 => ?_)
                · have dc8 := c8
                  simp only [decide_eq_true_eq, decide_eq_false_iff_not] at dc8
                  all_goals first | rfl | (simp only [bytesL_map, List.length_map, toNat_nat, iAt_getD, bAt_getD, sAt_getD, lAt_getD, MHead.r_fZone, MHead.r_fEpoch, MHead.r_fKind, MHead.r_fTime, MHead.r_fUntil, MHead.r_fCount, MHead.r_fRoot, MHead.r_fPrev, MHead.r_fKeys, MHead.r_fHeirs, MHead.r_fWait, MHead.r_fJudge, MHead.r_fFrozen]; done) | (simp only [List.map_append, List.map_cons, List.map_nil, List.cons_append, List.nil_append, iRow, sRow, bRow, lRow, List.map_set]; rfl) | (simp only [bytesL_map, List.length_map, toNat_nat, iAt_getD, bAt_getD, sAt_getD, lAt_getD, MHead.r_fZone, MHead.r_fEpoch, MHead.r_fKind, MHead.r_fTime, MHead.r_fUntil, MHead.r_fCount, MHead.r_fRoot, MHead.r_fPrev, MHead.r_fKeys, MHead.r_fHeirs, MHead.r_fWait, MHead.r_fJudge, MHead.r_fFrozen, List.map_append, List.map_cons, List.map_nil, List.cons_append, List.nil_append, iRow, sRow, bRow, lRow, List.map_set]; first | done | rfl)
                · have dc8 := c8
                  simp only [decide_eq_true_eq, decide_eq_false_iff_not] at dc8
                  refine call_to (spec_l1In.md a0.fCount 0 12) ?_ ?_
                  · have R_ := spec_l1In.R_eq (a0 := a0.fCount) (a1 := 0) (a2 := 12) trivial
                    first | exact R_ | (simp only [List.map_append, List.map_cons, List.map_nil, List.cons_append, List.nil_append, iRow, sRow, bRow, lRow, List.map_set, bytesL_map, List.length_map, toNat_nat, iAt_getD, bAt_getD, sAt_getD, lAt_getD, MHead.r_fZone, MHead.r_fEpoch, MHead.r_fKind, MHead.r_fTime, MHead.r_fUntil, MHead.r_fCount, MHead.r_fRoot, MHead.r_fPrev, MHead.r_fKeys, MHead.r_fHeirs, MHead.r_fWait, MHead.r_fJudge, MHead.r_fFrozen] at R_ ⊢; first | exact R_ | (rw [← R_]; rfl))
                  try simp only [bytesL_map, List.length_map, toNat_nat, iAt_getD, bAt_getD, sAt_getD, lAt_getD, MHead.r_fZone, MHead.r_fEpoch, MHead.r_fKind, MHead.r_fTime, MHead.r_fUntil, MHead.r_fCount, MHead.r_fRoot, MHead.r_fPrev, MHead.r_fKeys, MHead.r_fHeirs, MHead.r_fWait, MHead.r_fJudge, MHead.r_fFrozen]
                  refine bif_out (fun b : Bool => ret (b : Bool)) (fun c9 => ?_) (fun c9 => ?_)
                  · have dc9 := c9
                    try simp only [bne_eq_false_iff_eq, bne_iff_ne, beq_iff_eq, beq_eq_false_iff_ne, ne_eq, Bool.not_eq_true', Bool.not_eq_false'] at dc9
                    have dc9 := c9
                    try simp [spec_l1In.md] at dc9
                    all_goals first | rfl | (simp only [bytesL_map, List.length_map, toNat_nat, iAt_getD, bAt_getD, sAt_getD, lAt_getD, MHead.r_fZone, MHead.r_fEpoch, MHead.r_fKind, MHead.r_fTime, MHead.r_fUntil, MHead.r_fCount, MHead.r_fRoot, MHead.r_fPrev, MHead.r_fKeys, MHead.r_fHeirs, MHead.r_fWait, MHead.r_fJudge, MHead.r_fFrozen]; done) | (simp only [List.map_append, List.map_cons, List.map_nil, List.cons_append, List.nil_append, iRow, sRow, bRow, lRow, List.map_set]; rfl) | (simp only [bytesL_map, List.length_map, toNat_nat, iAt_getD, bAt_getD, sAt_getD, lAt_getD, MHead.r_fZone, MHead.r_fEpoch, MHead.r_fKind, MHead.r_fTime, MHead.r_fUntil, MHead.r_fCount, MHead.r_fRoot, MHead.r_fPrev, MHead.r_fKeys, MHead.r_fHeirs, MHead.r_fWait, MHead.r_fJudge, MHead.r_fFrozen, List.map_append, List.map_cons, List.map_nil, List.cons_append, List.nil_append, iRow, sRow, bRow, lRow, List.map_set]; first | done | rfl)
                  · have dc9 := c9
                    try simp only [bne_eq_false_iff_eq, bne_iff_ne, beq_iff_eq, beq_eq_false_iff_ne, ne_eq, Bool.not_eq_true', Bool.not_eq_false'] at dc9
                    have dc9 := c9
                    try simp [spec_l1In.md] at dc9
                    refine call_to (spec_IsKeys.md a0.fKeys) ?_ ?_
                    · have R_ := spec_IsKeys.R_eq (a0 := a0.fKeys) H0.1
                      first | exact R_ | (simp only [List.map_append, List.map_cons, List.map_nil, List.cons_append, List.nil_append, iRow, sRow, bRow, lRow, List.map_set, bytesL_map, List.length_map, toNat_nat, iAt_getD, bAt_getD, sAt_getD, lAt_getD, MHead.r_fZone, MHead.r_fEpoch, MHead.r_fKind, MHead.r_fTime, MHead.r_fUntil, MHead.r_fCount, MHead.r_fRoot, MHead.r_fPrev, MHead.r_fKeys, MHead.r_fHeirs, MHead.r_fWait, MHead.r_fJudge, MHead.r_fFrozen] at R_ ⊢; first | exact R_ | (rw [← R_]; rfl))
                    try simp only [bytesL_map, List.length_map, toNat_nat, iAt_getD, bAt_getD, sAt_getD, lAt_getD, MHead.r_fZone, MHead.r_fEpoch, MHead.r_fKind, MHead.r_fTime, MHead.r_fUntil, MHead.r_fCount, MHead.r_fRoot, MHead.r_fPrev, MHead.r_fKeys, MHead.r_fHeirs, MHead.r_fWait, MHead.r_fJudge, MHead.r_fFrozen]
                    refine bif_out (fun b : Bool => ret (b : Bool)) (fun c10 => ?_) (fun c10 => ?_)
                    · have dc10 := c10
                      try simp only [bne_eq_false_iff_eq, bne_iff_ne, beq_iff_eq, beq_eq_false_iff_ne, ne_eq, Bool.not_eq_true', Bool.not_eq_false'] at dc10
                      try have tc10 := spec_IsKeys.tr (by simpa using c10)
                      all_goals first | rfl | (simp only [bytesL_map, List.length_map, toNat_nat, iAt_getD, bAt_getD, sAt_getD, lAt_getD, MHead.r_fZone, MHead.r_fEpoch, MHead.r_fKind, MHead.r_fTime, MHead.r_fUntil, MHead.r_fCount, MHead.r_fRoot, MHead.r_fPrev, MHead.r_fKeys, MHead.r_fHeirs, MHead.r_fWait, MHead.r_fJudge, MHead.r_fFrozen]; done) | (simp only [List.map_append, List.map_cons, List.map_nil, List.cons_append, List.nil_append, iRow, sRow, bRow, lRow, List.map_set]; rfl) | (simp only [bytesL_map, List.length_map, toNat_nat, iAt_getD, bAt_getD, sAt_getD, lAt_getD, MHead.r_fZone, MHead.r_fEpoch, MHead.r_fKind, MHead.r_fTime, MHead.r_fUntil, MHead.r_fCount, MHead.r_fRoot, MHead.r_fPrev, MHead.r_fKeys, MHead.r_fHeirs, MHead.r_fWait, MHead.r_fJudge, MHead.r_fFrozen, List.map_append, List.map_cons, List.map_nil, List.cons_append, List.nil_append, iRow, sRow, bRow, lRow, List.map_set]; first | done | rfl)
                    · have dc10 := c10
                      try simp only [bne_eq_false_iff_eq, bne_iff_ne, beq_iff_eq, beq_eq_false_iff_ne, ne_eq, Bool.not_eq_true', Bool.not_eq_false'] at dc10
                      try have tc10 := spec_IsKeys.tr (by simpa using c10)
                      refine call_to (spec_NoKeys.md a0.fHeirs) ?_ ?_
                      · have R_ := spec_NoKeys.R_eq (a0 := a0.fHeirs) trivial
                        first | exact R_ | (simp only [List.map_append, List.map_cons, List.map_nil, List.cons_append, List.nil_append, iRow, sRow, bRow, lRow, List.map_set, bytesL_map, List.length_map, toNat_nat, iAt_getD, bAt_getD, sAt_getD, lAt_getD, MHead.r_fZone, MHead.r_fEpoch, MHead.r_fKind, MHead.r_fTime, MHead.r_fUntil, MHead.r_fCount, MHead.r_fRoot, MHead.r_fPrev, MHead.r_fKeys, MHead.r_fHeirs, MHead.r_fWait, MHead.r_fJudge, MHead.r_fFrozen] at R_ ⊢; first | exact R_ | (rw [← R_]; rfl))
                      try simp only [bytesL_map, List.length_map, toNat_nat, iAt_getD, bAt_getD, sAt_getD, lAt_getD, MHead.r_fZone, MHead.r_fEpoch, MHead.r_fKind, MHead.r_fTime, MHead.r_fUntil, MHead.r_fCount, MHead.r_fRoot, MHead.r_fPrev, MHead.r_fKeys, MHead.r_fHeirs, MHead.r_fWait, MHead.r_fJudge, MHead.r_fFrozen]
                      refine bif_out (fun b : Bool => ret (b : Bool)) (fun c11 => ?_) (fun c11 => ?_)
                      · refine bif_out (fun b : Bool => ret (b : Bool)) (fun c12 => ?_) (fun c12 => ?_)
                        · have dc12 := c12
                          try simp only [bne_eq_false_iff_eq, bne_iff_ne, beq_iff_eq, beq_eq_false_iff_ne, ne_eq, Bool.not_eq_true', Bool.not_eq_false'] at dc12
                          all_goals first | rfl | (simp only [bytesL_map, List.length_map, toNat_nat, iAt_getD, bAt_getD, sAt_getD, lAt_getD, MHead.r_fZone, MHead.r_fEpoch, MHead.r_fKind, MHead.r_fTime, MHead.r_fUntil, MHead.r_fCount, MHead.r_fRoot, MHead.r_fPrev, MHead.r_fKeys, MHead.r_fHeirs, MHead.r_fWait, MHead.r_fJudge, MHead.r_fFrozen]; done) | (simp only [List.map_append, List.map_cons, List.map_nil, List.cons_append, List.nil_append, iRow, sRow, bRow, lRow, List.map_set]; rfl) | (simp only [bytesL_map, List.length_map, toNat_nat, iAt_getD, bAt_getD, sAt_getD, lAt_getD, MHead.r_fZone, MHead.r_fEpoch, MHead.r_fKind, MHead.r_fTime, MHead.r_fUntil, MHead.r_fCount, MHead.r_fRoot, MHead.r_fPrev, MHead.r_fKeys, MHead.r_fHeirs, MHead.r_fWait, MHead.r_fJudge, MHead.r_fFrozen, List.map_append, List.map_cons, List.map_nil, List.cons_append, List.nil_append, iRow, sRow, bRow, lRow, List.map_set]; first | done | rfl)
                        · have dc12 := c12
                          try simp only [bne_eq_false_iff_eq, bne_iff_ne, beq_iff_eq, beq_eq_false_iff_ne, ne_eq, Bool.not_eq_true', Bool.not_eq_false'] at dc12
                          refine call_to (spec_IsKeys.md a0.fJudge) ?_ ?_
                          · have R_ := spec_IsKeys.R_eq (a0 := a0.fJudge) H0.2.2
                            first | exact R_ | (simp only [List.map_append, List.map_cons, List.map_nil, List.cons_append, List.nil_append, iRow, sRow, bRow, lRow, List.map_set, bytesL_map, List.length_map, toNat_nat, iAt_getD, bAt_getD, sAt_getD, lAt_getD, MHead.r_fZone, MHead.r_fEpoch, MHead.r_fKind, MHead.r_fTime, MHead.r_fUntil, MHead.r_fCount, MHead.r_fRoot, MHead.r_fPrev, MHead.r_fKeys, MHead.r_fHeirs, MHead.r_fWait, MHead.r_fJudge, MHead.r_fFrozen] at R_ ⊢; first | exact R_ | (rw [← R_]; rfl))
                          try simp only [bytesL_map, List.length_map, toNat_nat, iAt_getD, bAt_getD, sAt_getD, lAt_getD, MHead.r_fZone, MHead.r_fEpoch, MHead.r_fKind, MHead.r_fTime, MHead.r_fUntil, MHead.r_fCount, MHead.r_fRoot, MHead.r_fPrev, MHead.r_fKeys, MHead.r_fHeirs, MHead.r_fWait, MHead.r_fJudge, MHead.r_fFrozen]
                          refine bif_out (fun b : Bool => ret (b : Bool)) (fun c13 => ?_) (fun c13 => ?_)
                          · try have tc13 := spec_IsKeys.tr (by simpa using c13)
                            all_goals first | rfl | (simp only [bytesL_map, List.length_map, toNat_nat, iAt_getD, bAt_getD, sAt_getD, lAt_getD, MHead.r_fZone, MHead.r_fEpoch, MHead.r_fKind, MHead.r_fTime, MHead.r_fUntil, MHead.r_fCount, MHead.r_fRoot, MHead.r_fPrev, MHead.r_fKeys, MHead.r_fHeirs, MHead.r_fWait, MHead.r_fJudge, MHead.r_fFrozen]; done) | (simp only [List.map_append, List.map_cons, List.map_nil, List.cons_append, List.nil_append, iRow, sRow, bRow, lRow, List.map_set]; rfl) | (simp only [bytesL_map, List.length_map, toNat_nat, iAt_getD, bAt_getD, sAt_getD, lAt_getD, MHead.r_fZone, MHead.r_fEpoch, MHead.r_fKind, MHead.r_fTime, MHead.r_fUntil, MHead.r_fCount, MHead.r_fRoot, MHead.r_fPrev, MHead.r_fKeys, MHead.r_fHeirs, MHead.r_fWait, MHead.r_fJudge, MHead.r_fFrozen, List.map_append, List.map_cons, List.map_nil, List.cons_append, List.nil_append, iRow, sRow, bRow, lRow, List.map_set]; first | done | rfl)
                          · try have tc13 := spec_IsKeys.tr (by simpa using c13)
                            refine call_to (spec_NoKeys.md a0.fJudge) ?_ ?_
                            · have R_ := spec_NoKeys.R_eq (a0 := a0.fJudge) trivial
                              first | exact R_ | (simp only [List.map_append, List.map_cons, List.map_nil, List.cons_append, List.nil_append, iRow, sRow, bRow, lRow, List.map_set, bytesL_map, List.length_map, toNat_nat, iAt_getD, bAt_getD, sAt_getD, lAt_getD, MHead.r_fZone, MHead.r_fEpoch, MHead.r_fKind, MHead.r_fTime, MHead.r_fUntil, MHead.r_fCount, MHead.r_fRoot, MHead.r_fPrev, MHead.r_fKeys, MHead.r_fHeirs, MHead.r_fWait, MHead.r_fJudge, MHead.r_fFrozen] at R_ ⊢; first | exact R_ | (rw [← R_]; rfl))
                            try simp only [bytesL_map, List.length_map, toNat_nat, iAt_getD, bAt_getD, sAt_getD, lAt_getD, MHead.r_fZone, MHead.r_fEpoch, MHead.r_fKind, MHead.r_fTime, MHead.r_fUntil, MHead.r_fCount, MHead.r_fRoot, MHead.r_fPrev, MHead.r_fKeys, MHead.r_fHeirs, MHead.r_fWait, MHead.r_fJudge, MHead.r_fFrozen]
                            refine bif_out (fun b : Bool => ret (b : Bool)) (fun c14 => ?_) (fun c14 => ?_)
                            · all_goals first | rfl | (simp only [bytesL_map, List.length_map, toNat_nat, iAt_getD, bAt_getD, sAt_getD, lAt_getD, MHead.r_fZone, MHead.r_fEpoch, MHead.r_fKind, MHead.r_fTime, MHead.r_fUntil, MHead.r_fCount, MHead.r_fRoot, MHead.r_fPrev, MHead.r_fKeys, MHead.r_fHeirs, MHead.r_fWait, MHead.r_fJudge, MHead.r_fFrozen]; done) | (simp only [List.map_append, List.map_cons, List.map_nil, List.cons_append, List.nil_append, iRow, sRow, bRow, lRow, List.map_set]; rfl) | (simp only [bytesL_map, List.length_map, toNat_nat, iAt_getD, bAt_getD, sAt_getD, lAt_getD, MHead.r_fZone, MHead.r_fEpoch, MHead.r_fKind, MHead.r_fTime, MHead.r_fUntil, MHead.r_fCount, MHead.r_fRoot, MHead.r_fPrev, MHead.r_fKeys, MHead.r_fHeirs, MHead.r_fWait, MHead.r_fJudge, MHead.r_fFrozen, List.map_append, List.map_cons, List.map_nil, List.cons_append, List.nil_append, iRow, sRow, bRow, lRow, List.map_set]; first | done | rfl)
                            · all_goals first | rfl | (simp only [bytesL_map, List.length_map, toNat_nat, iAt_getD, bAt_getD, sAt_getD, lAt_getD, MHead.r_fZone, MHead.r_fEpoch, MHead.r_fKind, MHead.r_fTime, MHead.r_fUntil, MHead.r_fCount, MHead.r_fRoot, MHead.r_fPrev, MHead.r_fKeys, MHead.r_fHeirs, MHead.r_fWait, MHead.r_fJudge, MHead.r_fFrozen]; done) | (simp only [List.map_append, List.map_cons, List.map_nil, List.cons_append, List.nil_append, iRow, sRow, bRow, lRow, List.map_set]; rfl) | (simp only [bytesL_map, List.length_map, toNat_nat, iAt_getD, bAt_getD, sAt_getD, lAt_getD, MHead.r_fZone, MHead.r_fEpoch, MHead.r_fKind, MHead.r_fTime, MHead.r_fUntil, MHead.r_fCount, MHead.r_fRoot, MHead.r_fPrev, MHead.r_fKeys, MHead.r_fHeirs, MHead.r_fWait, MHead.r_fJudge, MHead.r_fFrozen, List.map_append, List.map_cons, List.map_nil, List.cons_append, List.nil_append, iRow, sRow, bRow, lRow, List.map_set]; first | done | rfl)
                      · refine call_to (spec_IsKeys.md a0.fHeirs) ?_ ?_
                        · have R_ := spec_IsKeys.R_eq (a0 := a0.fHeirs) H0.2.1
                          first | exact R_ | (simp only [List.map_append, List.map_cons, List.map_nil, List.cons_append, List.nil_append, iRow, sRow, bRow, lRow, List.map_set, bytesL_map, List.length_map, toNat_nat, iAt_getD, bAt_getD, sAt_getD, lAt_getD, MHead.r_fZone, MHead.r_fEpoch, MHead.r_fKind, MHead.r_fTime, MHead.r_fUntil, MHead.r_fCount, MHead.r_fRoot, MHead.r_fPrev, MHead.r_fKeys, MHead.r_fHeirs, MHead.r_fWait, MHead.r_fJudge, MHead.r_fFrozen] at R_ ⊢; first | exact R_ | (rw [← R_]; rfl))
                        try simp only [bytesL_map, List.length_map, toNat_nat, iAt_getD, bAt_getD, sAt_getD, lAt_getD, MHead.r_fZone, MHead.r_fEpoch, MHead.r_fKind, MHead.r_fTime, MHead.r_fUntil, MHead.r_fCount, MHead.r_fRoot, MHead.r_fPrev, MHead.r_fKeys, MHead.r_fHeirs, MHead.r_fWait, MHead.r_fJudge, MHead.r_fFrozen]
                        refine bif_out (fun b : Bool => ret (b : Bool)) (fun c15 => ?_) (fun c15 => ?_)
                        · have dc15 := c15
                          try simp only [bne_eq_false_iff_eq, bne_iff_ne, beq_iff_eq, beq_eq_false_iff_ne, ne_eq, Bool.not_eq_true', Bool.not_eq_false'] at dc15
                          try have tc15 := spec_IsKeys.tr (by simpa using c15)
                          all_goals first | rfl | (simp only [bytesL_map, List.length_map, toNat_nat, iAt_getD, bAt_getD, sAt_getD, lAt_getD, MHead.r_fZone, MHead.r_fEpoch, MHead.r_fKind, MHead.r_fTime, MHead.r_fUntil, MHead.r_fCount, MHead.r_fRoot, MHead.r_fPrev, MHead.r_fKeys, MHead.r_fHeirs, MHead.r_fWait, MHead.r_fJudge, MHead.r_fFrozen]; done) | (simp only [List.map_append, List.map_cons, List.map_nil, List.cons_append, List.nil_append, iRow, sRow, bRow, lRow, List.map_set]; rfl) | (simp only [bytesL_map, List.length_map, toNat_nat, iAt_getD, bAt_getD, sAt_getD, lAt_getD, MHead.r_fZone, MHead.r_fEpoch, MHead.r_fKind, MHead.r_fTime, MHead.r_fUntil, MHead.r_fCount, MHead.r_fRoot, MHead.r_fPrev, MHead.r_fKeys, MHead.r_fHeirs, MHead.r_fWait, MHead.r_fJudge, MHead.r_fFrozen, List.map_append, List.map_cons, List.map_nil, List.cons_append, List.nil_append, iRow, sRow, bRow, lRow, List.map_set]; first | done | rfl)
                        · have dc15 := c15
                          try simp only [bne_eq_false_iff_eq, bne_iff_ne, beq_iff_eq, beq_eq_false_iff_ne, ne_eq, Bool.not_eq_true', Bool.not_eq_false'] at dc15
                          try have tc15 := spec_IsKeys.tr (by simpa using c15)
                          refine call_to (spec_l1In.md a0.fWait 1 500) ?_ ?_
                          · have R_ := spec_l1In.R_eq (a0 := a0.fWait) (a1 := 1) (a2 := 500) trivial
                            first | exact R_ | (simp only [List.map_append, List.map_cons, List.map_nil, List.cons_append, List.nil_append, iRow, sRow, bRow, lRow, List.map_set, bytesL_map, List.length_map, toNat_nat, iAt_getD, bAt_getD, sAt_getD, lAt_getD, MHead.r_fZone, MHead.r_fEpoch, MHead.r_fKind, MHead.r_fTime, MHead.r_fUntil, MHead.r_fCount, MHead.r_fRoot, MHead.r_fPrev, MHead.r_fKeys, MHead.r_fHeirs, MHead.r_fWait, MHead.r_fJudge, MHead.r_fFrozen] at R_ ⊢; first | exact R_ | (rw [← R_]; rfl))
                          try simp only [bytesL_map, List.length_map, toNat_nat, iAt_getD, bAt_getD, sAt_getD, lAt_getD, MHead.r_fZone, MHead.r_fEpoch, MHead.r_fKind, MHead.r_fTime, MHead.r_fUntil, MHead.r_fCount, MHead.r_fRoot, MHead.r_fPrev, MHead.r_fKeys, MHead.r_fHeirs, MHead.r_fWait, MHead.r_fJudge, MHead.r_fFrozen]
                          refine bif_out (fun b : Bool => ret (b : Bool)) (fun c16 => ?_) (fun c16 => ?_)
                          · have dc16 := c16
                            try simp only [bne_eq_false_iff_eq, bne_iff_ne, beq_iff_eq, beq_eq_false_iff_ne, ne_eq, Bool.not_eq_true', Bool.not_eq_false'] at dc16
                            have dc16 := c16
                            try simp [spec_l1In.md] at dc16
                            all_goals first | rfl | (simp only [bytesL_map, List.length_map, toNat_nat, iAt_getD, bAt_getD, sAt_getD, lAt_getD, MHead.r_fZone, MHead.r_fEpoch, MHead.r_fKind, MHead.r_fTime, MHead.r_fUntil, MHead.r_fCount, MHead.r_fRoot, MHead.r_fPrev, MHead.r_fKeys, MHead.r_fHeirs, MHead.r_fWait, MHead.r_fJudge, MHead.r_fFrozen]; done) | (simp only [List.map_append, List.map_cons, List.map_nil, List.cons_append, List.nil_append, iRow, sRow, bRow, lRow, List.map_set]; rfl) | (simp only [bytesL_map, List.length_map, toNat_nat, iAt_getD, bAt_getD, sAt_getD, lAt_getD, MHead.r_fZone, MHead.r_fEpoch, MHead.r_fKind, MHead.r_fTime, MHead.r_fUntil, MHead.r_fCount, MHead.r_fRoot, MHead.r_fPrev, MHead.r_fKeys, MHead.r_fHeirs, MHead.r_fWait, MHead.r_fJudge, MHead.r_fFrozen, List.map_append, List.map_cons, List.map_nil, List.cons_append, List.nil_append, iRow, sRow, bRow, lRow, List.map_set]; first | done | rfl)
                          · have dc16 := c16
                            try simp only [bne_eq_false_iff_eq, bne_iff_ne, beq_iff_eq, beq_eq_false_iff_ne, ne_eq, Bool.not_eq_true', Bool.not_eq_false'] at dc16
                            have dc16 := c16
                            try simp [spec_l1In.md] at dc16
                            refine call_to (spec_IsKeys.md a0.fJudge) ?_ ?_
                            · have R_ := spec_IsKeys.R_eq (a0 := a0.fJudge) H0.2.2
                              first | exact R_ | (simp only [List.map_append, List.map_cons, List.map_nil, List.cons_append, List.nil_append, iRow, sRow, bRow, lRow, List.map_set, bytesL_map, List.length_map, toNat_nat, iAt_getD, bAt_getD, sAt_getD, lAt_getD, MHead.r_fZone, MHead.r_fEpoch, MHead.r_fKind, MHead.r_fTime, MHead.r_fUntil, MHead.r_fCount, MHead.r_fRoot, MHead.r_fPrev, MHead.r_fKeys, MHead.r_fHeirs, MHead.r_fWait, MHead.r_fJudge, MHead.r_fFrozen] at R_ ⊢; first | exact R_ | (rw [← R_]; rfl))
                            try simp only [bytesL_map, List.length_map, toNat_nat, iAt_getD, bAt_getD, sAt_getD, lAt_getD, MHead.r_fZone, MHead.r_fEpoch, MHead.r_fKind, MHead.r_fTime, MHead.r_fUntil, MHead.r_fCount, MHead.r_fRoot, MHead.r_fPrev, MHead.r_fKeys, MHead.r_fHeirs, MHead.r_fWait, MHead.r_fJudge, MHead.r_fFrozen]
                            refine bif_out (fun b : Bool => ret (b : Bool)) (fun c17 => ?_) (fun c17 => ?_)
                            · try have tc17 := spec_IsKeys.tr (by simpa using c17)
                              all_goals first | rfl | (simp only [bytesL_map, List.length_map, toNat_nat, iAt_getD, bAt_getD, sAt_getD, lAt_getD, MHead.r_fZone, MHead.r_fEpoch, MHead.r_fKind, MHead.r_fTime, MHead.r_fUntil, MHead.r_fCount, MHead.r_fRoot, MHead.r_fPrev, MHead.r_fKeys, MHead.r_fHeirs, MHead.r_fWait, MHead.r_fJudge, MHead.r_fFrozen]; done) | (simp only [List.map_append, List.map_cons, List.map_nil, List.cons_append, List.nil_append, iRow, sRow, bRow, lRow, List.map_set]; rfl) | (simp only [bytesL_map, List.length_map, toNat_nat, iAt_getD, bAt_getD, sAt_getD, lAt_getD, MHead.r_fZone, MHead.r_fEpoch, MHead.r_fKind, MHead.r_fTime, MHead.r_fUntil, MHead.r_fCount, MHead.r_fRoot, MHead.r_fPrev, MHead.r_fKeys, MHead.r_fHeirs, MHead.r_fWait, MHead.r_fJudge, MHead.r_fFrozen, List.map_append, List.map_cons, List.map_nil, List.cons_append, List.nil_append, iRow, sRow, bRow, lRow, List.map_set]; first | done | rfl)
                            · try have tc17 := spec_IsKeys.tr (by simpa using c17)
                              refine call_to (spec_NoKeys.md a0.fJudge) ?_ ?_
                              · have R_ := spec_NoKeys.R_eq (a0 := a0.fJudge) trivial
                                first | exact R_ | (simp only [List.map_append, List.map_cons, List.map_nil, List.cons_append, List.nil_append, iRow, sRow, bRow, lRow, List.map_set, bytesL_map, List.length_map, toNat_nat, iAt_getD, bAt_getD, sAt_getD, lAt_getD, MHead.r_fZone, MHead.r_fEpoch, MHead.r_fKind, MHead.r_fTime, MHead.r_fUntil, MHead.r_fCount, MHead.r_fRoot, MHead.r_fPrev, MHead.r_fKeys, MHead.r_fHeirs, MHead.r_fWait, MHead.r_fJudge, MHead.r_fFrozen] at R_ ⊢; first | exact R_ | (rw [← R_]; rfl))
                              try simp only [bytesL_map, List.length_map, toNat_nat, iAt_getD, bAt_getD, sAt_getD, lAt_getD, MHead.r_fZone, MHead.r_fEpoch, MHead.r_fKind, MHead.r_fTime, MHead.r_fUntil, MHead.r_fCount, MHead.r_fRoot, MHead.r_fPrev, MHead.r_fKeys, MHead.r_fHeirs, MHead.r_fWait, MHead.r_fJudge, MHead.r_fFrozen]
                              refine bif_out (fun b : Bool => ret (b : Bool)) (fun c18 => ?_) (fun c18 => ?_)
                              · all_goals first | rfl | (simp only [bytesL_map, List.length_map, toNat_nat, iAt_getD, bAt_getD, sAt_getD, lAt_getD, MHead.r_fZone, MHead.r_fEpoch, MHead.r_fKind, MHead.r_fTime, MHead.r_fUntil, MHead.r_fCount, MHead.r_fRoot, MHead.r_fPrev, MHead.r_fKeys, MHead.r_fHeirs, MHead.r_fWait, MHead.r_fJudge, MHead.r_fFrozen]; done) | (simp only [List.map_append, List.map_cons, List.map_nil, List.cons_append, List.nil_append, iRow, sRow, bRow, lRow, List.map_set]; rfl) | (simp only [bytesL_map, List.length_map, toNat_nat, iAt_getD, bAt_getD, sAt_getD, lAt_getD, MHead.r_fZone, MHead.r_fEpoch, MHead.r_fKind, MHead.r_fTime, MHead.r_fUntil, MHead.r_fCount, MHead.r_fRoot, MHead.r_fPrev, MHead.r_fKeys, MHead.r_fHeirs, MHead.r_fWait, MHead.r_fJudge, MHead.r_fFrozen, List.map_append, List.map_cons, List.map_nil, List.cons_append, List.nil_append, iRow, sRow, bRow, lRow, List.map_set]; first | done | rfl)
                              · all_goals first | rfl | (simp only [bytesL_map, List.length_map, toNat_nat, iAt_getD, bAt_getD, sAt_getD, lAt_getD, MHead.r_fZone, MHead.r_fEpoch, MHead.r_fKind, MHead.r_fTime, MHead.r_fUntil, MHead.r_fCount, MHead.r_fRoot, MHead.r_fPrev, MHead.r_fKeys, MHead.r_fHeirs, MHead.r_fWait, MHead.r_fJudge, MHead.r_fFrozen]; done) | (simp only [List.map_append, List.map_cons, List.map_nil, List.cons_append, List.nil_append, iRow, sRow, bRow, lRow, List.map_set]; rfl) | (simp only [bytesL_map, List.length_map, toNat_nat, iAt_getD, bAt_getD, sAt_getD, lAt_getD, MHead.r_fZone, MHead.r_fEpoch, MHead.r_fKind, MHead.r_fTime, MHead.r_fUntil, MHead.r_fCount, MHead.r_fRoot, MHead.r_fPrev, MHead.r_fKeys, MHead.r_fHeirs, MHead.r_fWait, MHead.r_fJudge, MHead.r_fFrozen, List.map_append, List.map_cons, List.map_nil, List.cons_append, List.nil_append, iRow, sRow, bRow, lRow, List.map_set]; first | done | rfl)
noncomputable def sem (ls : List L) : Option (List L) := (R (RHead.dec ls)).map RT.enc
theorem ok (ls q : List L) (hl : LOKs Ev.cells pats ls) (h : sem ls = some q) : ∃ n, runF E live Tryz.f135 res n (initS pats ls) = some q := by
  obtain ⟨v, hv, hq⟩ := map_some h
  obtain ⟨a0, hg, e, hm⟩ := ofM_some hv
  have e0 : (MHead.r a0) = _ := e
  have hn := okF a0 hg
  refine ⟨0, (run_eq 0 ls).trans ?_⟩
  rw [← e0]
  rw [hn, ← hq, hm]; rfl
noncomputable def con : Con := ⟨pats, res, sem⟩
theorem chk : fnB Tryz.f135 con 92 = true := by kernel_rfl
theorem valid_ : Valid Tryz.prog Ev 135 con := valid mix tab_ok (.cons spec_l1In.valid_ (.cons spec_IsKeys.valid_ (.cons spec_NoKeys.valid_ .nil))) Tryz.func135 chk live ok
theorem tr {a0 : MHead} (h : md a0 = true) : (1 ≤ a0.fKind ∧ a0.fKind ≤ 3) ∧ 0 ≤ a0.fTime ∧ a0.fTime ≤ a0.fUntil ∧ a0.fUntil ≤ 100000 := by
  have key : ∀ x y z : Int, spec_l1In.md x y z = true → y ≤ x ∧ x ≤ z := fun x y z h => by simpa [spec_l1In.md] using h
  unfold md at h
  simp only [and_n, Bool.and_eq_true] at h
  obtain ⟨_, _, _, _, h5, h6, h7, _⟩ := h
  have := key _ _ _ h5
  have := key _ _ _ h6
  have := key _ _ _ h7
  omega
end spec_IsHead
/-! spec.KeysInts -/
namespace spec_KeysInts
noncomputable def F (x0 : RKeys) : Ans := (bif (lim (((2 : Int) + (x0.fList.length : Int)) * 8)) then ret (([[L.int x0.fNeed], [L.int (x0.fList.length : Int)]] ++ x0.fList) : List (List L)) else none)
def live : Nat → Live := fun _ => []
def pats : List Pat := [.agg [.sl 3, .int .i64]]
def res : RP := .one (.fr 3)
noncomputable def G : List (Nat × Con) := []
noncomputable abbrev E : Env := ⟨assoc Tab, conG G, 12⟩
set_option maxRecDepth 100000
theorem run_eq (n : Nat) (ls : List L) : runF E live Tryz.f183 res n (initS pats ls) = F (RKeys.dec ls) := by kernel_rfl
noncomputable def md (a0 : MKeys) : List Int := ([a0.fNeed, (a0.fList.length : Int)] ++ a0.fList)
def gd (a0 : MKeys) : Prop := (MKeys.Sm (2 ^ 21) a0)
def rf (a : MKeys) : RKeys := (MKeys.r a)
theorem rf_inj (a b : MKeys) (h : rf a = rf b) : a = b := by
  exact (MKeys.r_inj h)
noncomputable def R (x0 : RKeys) : Option (List (List L)) := ofM rf (fun a => gd a) (fun a => ((md a).map iRow)) x0
theorem R_eq {a0 : MKeys} (h : gd a0) : R (MKeys.r a0) = some ((md a0).map iRow) := ofM_eq (r := rf) (a := a0) rf_inj h
theorem okF (a0 : MKeys) (hg : gd a0) : F (MKeys.r a0) = ret (((md a0).map iRow) : List (List L)) := by
  unfold gd at hg
  have H0 := hg
  unfold F md
  try simp only [bytesL_map, List.length_map, toNat_nat, iAt_getD, bAt_getD, sAt_getD, lAt_getD, MKeys.r_fList, MKeys.r_fNeed]
  refine yes_ret (by
      have := (H0).1
      refine lim_t ?_
      try simp (disch := omega) only [List.sum_cons, List.sum_nil, List.map_cons, List.map_nil, bytesI_length, bytesL_length, List.length_append, List.length_cons, List.length_nil, List.length_map, List.length_set, List.length_replicate, List.length_take, List.length_drop, Go.IntWalk.i64_in]
      first | omega | (simp; done) | (simp; omega)) ?_
  all_goals first | rfl | (simp only [bytesL_map, List.length_map, toNat_nat, iAt_getD, bAt_getD, sAt_getD, lAt_getD, MKeys.r_fList, MKeys.r_fNeed]; done) | (simp only [List.map_append, List.map_cons, List.map_nil, List.cons_append, List.nil_append, iRow, sRow, bRow, lRow, List.map_set]; rfl) | (simp only [bytesL_map, List.length_map, toNat_nat, iAt_getD, bAt_getD, sAt_getD, lAt_getD, MKeys.r_fList, MKeys.r_fNeed, List.map_append, List.map_cons, List.map_nil, List.cons_append, List.nil_append, iRow, sRow, bRow, lRow, List.map_set]; first | done | rfl)
noncomputable def sem (ls : List L) : Option (List L) := (R (RKeys.dec ls)).map RT.enc
theorem ok (ls q : List L) (hl : LOKs Ev.cells pats ls) (h : sem ls = some q) : ∃ n, runF E live Tryz.f183 res n (initS pats ls) = some q := by
  obtain ⟨v, hv, hq⟩ := map_some h
  obtain ⟨a0, hg, e, hm⟩ := ofM_some hv
  have e0 : (MKeys.r a0) = _ := e
  have hn := okF a0 hg
  refine ⟨0, (run_eq 0 ls).trans ?_⟩
  rw [← e0]
  rw [hn, ← hq, hm]; rfl
noncomputable def con : Con := ⟨pats, res, sem⟩
theorem chk : fnB Tryz.f183 con 12 = true := by kernel_rfl
theorem valid_ : Valid Tryz.prog Ev 183 con := valid mix tab_ok .nil Tryz.func183 chk live ok
theorem len (a0 : MKeys) : (md a0).length = 2 + a0.fList.length := by simp [md]; omega
end spec_KeysInts
/-! spec.Mod -/
namespace spec_Mod
noncomputable def F (x0 : Int) (x1 : Int) : Ans := (call (spec_l1In.R x1 1 1000000000000) fun v1 => (bif (!v1) then ret (0 : Int) else (bif (decide (x1 = 0)) then none else (bif (decide (x1 = 0)) then none else ret ((Int.tmod (IntKind.i64.wrap ((Int.tmod x0 x1) + x1)) x1) : Int)))))
def live : Nat → Live := fun _ => []
def pats : List Pat := [.rd (.int .i64), .rd (.int .i64)]
def res : RP := .one (.rd (.int .i64))
noncomputable def G : List (Nat × Con) := [(81, spec_l1In.con)]
noncomputable abbrev E : Env := ⟨assoc Tab, conG G, 15⟩
set_option maxRecDepth 100000
theorem run_eq (n : Nat) (ls : List L) : runF E live Tryz.f235 res n (initS pats ls) = F (ls.headD .hole).toInt ((dropT 1 ls).headD .hole).toInt := by kernel_rfl
noncomputable def md (a0 : Int) (a1 : Int) : Int := (bif (!(spec_l1In.md a1 1 1000000000000)) then (0 : Int) else ((Int.tmod (IntKind.i64.wrap ((Int.tmod a0 a1) + a1)) a1) : Int))
def gd (a0 : Int) (a1 : Int) : Prop := True
def rf (a : Int × Int) : Int × Int := (a.1, a.2)
theorem rf_inj (a b : Int × Int) (h : rf a = rf b) : a = b := by
  exact (Prod.ext (congrArg (fun x => x.1) h) (congrArg (fun x => x.2) h))
noncomputable def R (x0 : Int) (x1 : Int) : Option (Int) := ofM rf (fun a => gd a.1 a.2) (fun a => (md a.1 a.2)) (x0, x1)
theorem R_eq {a0 : Int} {a1 : Int} (h : gd a0 a1) : R a0 a1 = some (md a0 a1) := ofM_eq (r := rf) (a := (a0, a1)) rf_inj h
theorem okF (a0 : Int) (a1 : Int) (hg : gd a0 a1) : F a0 a1 = ret ((md a0 a1) : Int) := by
  unfold F md
  try simp only [bytesL_map, List.length_map, toNat_nat, iAt_getD, bAt_getD, sAt_getD, lAt_getD]
  refine call_to (spec_l1In.md a1 1 1000000000000) ?_ ?_
  · have R_ := spec_l1In.R_eq (a0 := a1) (a1 := 1) (a2 := 1000000000000) trivial
    first | exact R_ | (simp only [List.map_append, List.map_cons, List.map_nil, List.cons_append, List.nil_append, iRow, sRow, bRow, lRow, List.map_set, bytesL_map, List.length_map, toNat_nat, iAt_getD, bAt_getD, sAt_getD, lAt_getD] at R_ ⊢; first | exact R_ | (rw [← R_]; rfl))
  try simp only [bytesL_map, List.length_map, toNat_nat, iAt_getD, bAt_getD, sAt_getD, lAt_getD]
  refine bif_out (fun b : Int => ret (b : Int)) (fun c1 => ?_) (fun c1 => ?_)
  · have dc1 := c1
    try simp only [bne_eq_false_iff_eq, bne_iff_ne, beq_iff_eq, beq_eq_false_iff_ne, ne_eq, Bool.not_eq_true', Bool.not_eq_false'] at dc1
    have dc1 := c1
    try simp [spec_l1In.md] at dc1
    all_goals first | rfl | (simp only [bytesL_map, List.length_map, toNat_nat, iAt_getD, bAt_getD, sAt_getD, lAt_getD]; done) | (simp only [List.map_append, List.map_cons, List.map_nil, List.cons_append, List.nil_append, iRow, sRow, bRow, lRow, List.map_set]; rfl) | (simp only [bytesL_map, List.length_map, toNat_nat, iAt_getD, bAt_getD, sAt_getD, lAt_getD, List.map_append, List.map_cons, List.map_nil, List.cons_append, List.nil_append, iRow, sRow, bRow, lRow, List.map_set]; first | done | rfl)
  · have dc1 := c1
    try simp only [bne_eq_false_iff_eq, bne_iff_ne, beq_iff_eq, beq_eq_false_iff_ne, ne_eq, Bool.not_eq_true', Bool.not_eq_false'] at dc1
    have dc1 := c1
    try simp [spec_l1In.md] at dc1
    refine no_ret (by
        refine decide_eq_false ?_
        try simp (disch := omega) only [List.sum_cons, List.sum_nil, List.map_cons, List.map_nil, bytesI_length, bytesL_length, List.length_append, List.length_cons, List.length_nil, List.length_map, List.length_set, List.length_replicate, List.length_take, List.length_drop, Go.IntWalk.i64_in]
        first | omega | (simp; done) | (simp; omega)) ?_
    refine no_ret (by
        refine decide_eq_false ?_
        try simp (disch := omega) only [List.sum_cons, List.sum_nil, List.map_cons, List.map_nil, bytesI_length, bytesL_length, List.length_append, List.length_cons, List.length_nil, List.length_map, List.length_set, List.length_replicate, List.length_take, List.length_drop, Go.IntWalk.i64_in]
        first | omega | (simp; done) | (simp; omega)) ?_
    all_goals first | rfl | (simp only [bytesL_map, List.length_map, toNat_nat, iAt_getD, bAt_getD, sAt_getD, lAt_getD]; done) | (simp only [List.map_append, List.map_cons, List.map_nil, List.cons_append, List.nil_append, iRow, sRow, bRow, lRow, List.map_set]; rfl) | (simp only [bytesL_map, List.length_map, toNat_nat, iAt_getD, bAt_getD, sAt_getD, lAt_getD, List.map_append, List.map_cons, List.map_nil, List.cons_append, List.nil_append, iRow, sRow, bRow, lRow, List.map_set]; first | done | rfl)
noncomputable def sem (ls : List L) : Option (List L) := (R (ls.headD .hole).toInt ((dropT 1 ls).headD .hole).toInt).map RT.enc
theorem ok (ls q : List L) (hl : LOKs Ev.cells pats ls) (h : sem ls = some q) : ∃ n, runF E live Tryz.f235 res n (initS pats ls) = some q := by
  obtain ⟨v, hv, hq⟩ := map_some h
  obtain ⟨⟨a0, a1⟩, hg, e, hm⟩ := ofM_some hv
  simp only [rf, Prod.mk.injEq] at e
  obtain ⟨e0, e1⟩ := e
  have hn := okF a0 a1 hg
  refine ⟨0, (run_eq 0 ls).trans ?_⟩
  rw [← e0, ← e1]
  rw [hn, ← hq, hm]; rfl
noncomputable def con : Con := ⟨pats, res, sem⟩
theorem chk : fnB Tryz.f235 con 15 = true := by kernel_rfl
theorem valid_ : Valid Tryz.prog Ev 235 con := valid mix tab_ok (.cons spec_l1In.valid_ .nil) Tryz.func235 chk live ok
end spec_Mod
/-! spec.Hash -/
namespace spec_Hash
inductive Pt where
  | p0 (a : List (List L)) (b : Int) (c : Int)
def pid : Pt → Nat
  | .p0 .. => 3
def pvs : Pt → List V
  | .p0 a b c => [.sl none 3 a, .int .i64 b, .int .i64 c]
def phs : Pt → List Root
  | .p0 a b c => []
noncomputable def step (J : Pt → Ans) : Pt → Ans
  | .p0 a b c => (bif (decide (c < (a.length : Int))) then (bif (decide ((0 : Int) ≤ c)) then (bif (decide (c < (a.length : Int))) then (call (spec_Mod.R (iAt a (Int.toNat c)) 2147483647) fun v1 => J (.p0 a (Int.tmod (IntKind.i64.wrap ((IntKind.i64.wrap ((IntKind.i64.wrap (b * 1000003)) + v1)) + 13)) 2147483647) (IntKind.i64.wrap (c + 1)))) else none) else none) else ret (b : Int))
noncomputable def start (J : Pt → Ans) (x0 : List (List L)) : Ans := J (.p0 x0 11 0)
def live : Nat → Live := fun i => match i with | 3 => [(0, none), (3, none), (4, none)] | _ => []
def pats : List Pat := [.rd (.sl 3)]
def res : RP := .one (.rd (.int .i64))
noncomputable def G : List (Nat × Con) := [(235, spec_Mod.con)]
noncomputable abbrev E : Env := ⟨assoc Tab, conG G, 22⟩
set_option maxRecDepth 100000
theorem step_eq (I : Heads) (p : Pt) : enterC E live I (pid p) (bodyOf Tryz.f186) (stOf (live (pid p)) (pvs p) (phs p)) (doneK E Tryz.f186 res) = step (fun q => I (pid q) (pvs q) (phs q)) p := by
  cases p <;> kernel_rfl
theorem start_eq (I : Heads) (ls : List L) : runC E live I (bodyOf Tryz.f186) (initS pats ls) (doneK E Tryz.f186 res) = start (fun q => I (pid q) (pvs q) (phs q)) (ls.headD .hole).toSl := by kernel_rfl
theorem run_eq (n : Nat) (ls : List L) : runF E live Tryz.f186 res n (initS pats ls) = start (iter step n) (ls.headD .hole).toSl := runF_iter (id := pid) (vs := pvs) (hs := phs) (step := step) (start := fun J => start J (ls.headD .hole).toSl) step_eq (fun I => start_eq I ls) n
noncomputable def md (a0 : List Int) : Int := (eachM (S := Int) (β := Int) (fun (y1 : Int) (s3 : Int) => (.inl (Int.tmod (IntKind.i64.wrap ((IntKind.i64.wrap ((IntKind.i64.wrap (s3 * 1000003)) + (spec_Mod.md y1 2147483647))) + 13)) 2147483647))) (fun (s3 : Int) => (s3 : Int)) a0 11)
def gd (a0 : List Int) : Prop := (SmL (2 ^ 43) (fun y : Int => True) a0)
def rf (a : List Int) : List (List L) := (a.map iRow)
theorem rf_inj (a b : List Int) (h : rf a = rf b) : a = b := by
  exact (map_inj iRow_inj h)
noncomputable def R (x0 : List (List L)) : Option (Int) := ofM rf (fun a => gd a) (fun a => (md a)) x0
theorem R_eq {a0 : List Int} (h : gd a0) : R (a0.map iRow) = some (md a0) := ofM_eq (r := rf) (a := a0) rf_inj h
theorem okF (a0 : List Int) (hg : gd a0) : ∃ n, start (iter step n) (a0.map iRow) = ret ((md a0) : Int) := by
  unfold gd at hg
  have H0 := hg
  unfold start md
  try simp only [bytesL_map, List.length_map, toNat_nat, iAt_getD, bAt_getD, sAt_getD, lAt_getD]
  have Bh2 : a0.length ≤ maxLen := (by
      have := (H0).1
      try simp only [maxLen] at *
      omega)
  refine ex_eq (out := (fun b : Int => ret (b : Int))) (show (loopM (S := Int) (β := Int) (fun (i1 : Nat) (s3 : Int) => (.inl (Int.tmod (IntKind.i64.wrap ((IntKind.i64.wrap ((IntKind.i64.wrap (s3 * 1000003)) + (spec_Mod.md (a0.getD i1 0) 2147483647))) + 13)) 2147483647))) (fun (s3 : Int) => (s3 : Int)) a0.length 0 11) = (eachM (S := Int) (β := Int) (fun (y1 : Int) (s3 : Int) => (.inl (Int.tmod (IntKind.i64.wrap ((IntKind.i64.wrap ((IntKind.i64.wrap (s3 * 1000003)) + (spec_Mod.md y1 2147483647))) + 13)) 2147483647))) (fun (s3 : Int) => (s3 : Int)) a0 11) from loopM_eachM (S := Int) (β := Int) (f := fun (y1 : Int) (s3 : Int) => (.inl (Int.tmod (IntKind.i64.wrap ((IntKind.i64.wrap ((IntKind.i64.wrap (s3 * 1000003)) + (spec_Mod.md y1 2147483647))) + 13)) 2147483647))) (t := fun (s3 : Int) => (s3 : Int)) (xs := a0) (z := 0)) ?_
  refine ex_pt (p := Pt.p0 (a0.map iRow) 11 0) (by first | rfl | (simp only [bytesL_map, List.length_map, toNat_nat, iAt_getD, bAt_getD, sAt_getD, lAt_getD, List.map_append, List.map_cons, List.map_nil, List.cons_append, List.nil_append, iRow, sRow, bRow, lRow, List.map_set]; done) | (simp only [List.map_append, List.map_cons, List.map_nil, List.cons_append, List.nil_append, iRow, sRow, bRow, lRow, List.map_set]; rfl)) ?_
  refine loopM_ok (pt := fun (i1 : Nat) (s3 : Int) => Pt.p0 (a0.map iRow) s3 (i1 : Int)) (s := (11 : Int)) (out := (fun b : Int => ret (b : Int))) (fun _ _ => True) (fun J i1 s3 h2 hih2 => ?_) (fun s3 hih2 => ?_) trivial
  · simp only [step, bytesL_map, List.length_map, toNat_nat, iAt_getD, bAt_getD, sAt_getD, lAt_getD]
    have bb_ := Bh2
    simp only [maxLen] at bb_
    have := (H0).1
    refine Rnd.yes (by apply decide_eq_true; omega) ?_
    refine Rnd.yes (by
        refine decide_eq_true ?_
        try simp (disch := omega) only [List.sum_cons, List.sum_nil, List.map_cons, List.map_nil, bytesI_length, bytesL_length, List.length_append, List.length_cons, List.length_nil, List.length_map, List.length_set, List.length_replicate, List.length_take, List.length_drop, Go.IntWalk.i64_in]
        first | omega | (simp; done) | (simp; omega)) ?_
    refine Rnd.yes (by
        have := (H0).1
        refine decide_eq_true ?_
        try simp (disch := omega) only [List.sum_cons, List.sum_nil, List.map_cons, List.map_nil, bytesI_length, bytesL_length, List.length_append, List.length_cons, List.length_nil, List.length_map, List.length_set, List.length_replicate, List.length_take, List.length_drop, Go.IntWalk.i64_in]
        first | omega | (simp; done) | (simp; omega)) ?_
    refine Rnd.call_to (spec_Mod.md (a0.getD i1 0) 2147483647) ?_ ?_
    · have R_ := spec_Mod.R_eq (a0 := (a0.getD i1 0)) (a1 := 2147483647) trivial
      first | exact R_ | (simp only [List.map_append, List.map_cons, List.map_nil, List.cons_append, List.nil_append, iRow, sRow, bRow, lRow, List.map_set, bytesL_map, List.length_map, toNat_nat, iAt_getD, bAt_getD, sAt_getD, lAt_getD] at R_ ⊢; first | exact R_ | (rw [← R_]; rfl))
    try simp only [bytesL_map, List.length_map, toNat_nat, iAt_getD, bAt_getD, sAt_getD, lAt_getD]
    refine Rnd.inl trivial ?_
    rw [wrap_succ h2 Bh2]
    all_goals first | rfl | (simp only [bytesL_map, List.length_map, toNat_nat, iAt_getD, bAt_getD, sAt_getD, lAt_getD]; done) | (simp only [List.map_append, List.map_cons, List.map_nil, List.cons_append, List.nil_append, iRow, sRow, bRow, lRow, List.map_set]; rfl) | (simp only [bytesL_map, List.length_map, toNat_nat, iAt_getD, bAt_getD, sAt_getD, lAt_getD, List.map_append, List.map_cons, List.map_nil, List.cons_append, List.nil_append, iRow, sRow, bRow, lRow, List.map_set]; first | done | rfl)
  · simp only [step, bytesL_map, List.length_map, toNat_nat, iAt_getD, bAt_getD, sAt_getD, lAt_getD]
    have := (H0).1
    refine ex_no (by apply decide_eq_false; omega) ?_
    refine ⟨0, ?_⟩
    all_goals first | rfl | (simp only [bytesL_map, List.length_map, toNat_nat, iAt_getD, bAt_getD, sAt_getD, lAt_getD]; done) | (simp only [List.map_append, List.map_cons, List.map_nil, List.cons_append, List.nil_append, iRow, sRow, bRow, lRow, List.map_set]; rfl) | (simp only [bytesL_map, List.length_map, toNat_nat, iAt_getD, bAt_getD, sAt_getD, lAt_getD, List.map_append, List.map_cons, List.map_nil, List.cons_append, List.nil_append, iRow, sRow, bRow, lRow, List.map_set]; first | done | rfl)
noncomputable def sem (ls : List L) : Option (List L) := (R (ls.headD .hole).toSl).map RT.enc
theorem ok (ls q : List L) (hl : LOKs Ev.cells pats ls) (h : sem ls = some q) : ∃ n, runF E live Tryz.f186 res n (initS pats ls) = some q := by
  obtain ⟨v, hv, hq⟩ := map_some h
  obtain ⟨a0, hg, e, hm⟩ := ofM_some hv
  have e0 : (a0.map iRow) = _ := e
  obtain ⟨n, hn⟩ := okF a0 hg
  refine ⟨n, (run_eq n ls).trans ?_⟩
  rw [← e0]
  rw [hn, ← hq, hm]; rfl
noncomputable def con : Con := ⟨pats, res, sem⟩
theorem chk : fnB Tryz.f186 con 22 = true := by kernel_rfl
theorem valid_ : Valid Tryz.prog Ev 186 con := valid mix tab_ok (.cons spec_Mod.valid_ .nil) Tryz.func186 chk live ok
end spec_Hash
/-! spec.ZoneOf -/
namespace spec_ZoneOf
noncomputable def F (x0 : RKeys) (x1 : Int) : Ans := (call (spec_KeysInts.R x0) fun v1 => (bif (lim (((2 : Int) + (v1.length : Int)) * 8)) then (call (spec_Hash.R ([[L.int 239], [L.int x1]] ++ v1)) fun v2 => ret (v2 : Int)) else none))
def live : Nat → Live := fun _ => []
def pats : List Pat := [.agg [.sl 3, .int .i64], .rd (.int .i64)]
def res : RP := .one (.rd (.int .i64))
noncomputable def G : List (Nat × Con) := [(183, spec_KeysInts.con), (186, spec_Hash.con)]
noncomputable abbrev E : Env := ⟨assoc Tab, conG G, 11⟩
set_option maxRecDepth 100000
theorem run_eq (n : Nat) (ls : List L) : runF E live Tryz.f136 res n (initS pats ls) = F (RKeys.dec ls) ((dropT 2 ls).headD .hole).toInt := by kernel_rfl
noncomputable def md (a0 : MKeys) (a1 : Int) : Int := ((spec_Hash.md ([239, a1] ++ (spec_KeysInts.md a0))) : Int)
def gd (a0 : MKeys) (a1 : Int) : Prop := (MKeys.Sm (2 ^ 21) a0)
def rf (a : MKeys × Int) : RKeys × Int := ((MKeys.r a.1), a.2)
theorem rf_inj (a b : MKeys × Int) (h : rf a = rf b) : a = b := by
  exact (Prod.ext (MKeys.r_inj (congrArg (fun x => x.1) h)) (congrArg (fun x => x.2) h))
noncomputable def R (x0 : RKeys) (x1 : Int) : Option (Int) := ofM rf (fun a => gd a.1 a.2) (fun a => (md a.1 a.2)) (x0, x1)
theorem R_eq {a0 : MKeys} {a1 : Int} (h : gd a0 a1) : R (MKeys.r a0) a1 = some (md a0 a1) := ofM_eq (r := rf) (a := (a0, a1)) rf_inj h
theorem okF (a0 : MKeys) (a1 : Int) (hg : gd a0 a1) : F (MKeys.r a0) a1 = ret ((md a0 a1) : Int) := by
  unfold gd at hg
  have H0 := hg
  unfold F md
  try simp only [bytesL_map, List.length_map, toNat_nat, iAt_getD, bAt_getD, sAt_getD, lAt_getD]
  refine call_to ((spec_KeysInts.md a0).map iRow) ?_ ?_
  · have R_ := spec_KeysInts.R_eq (a0 := a0) H0
    first | exact R_ | (simp only [List.map_append, List.map_cons, List.map_nil, List.cons_append, List.nil_append, iRow, sRow, bRow, lRow, List.map_set, bytesL_map, List.length_map, toNat_nat, iAt_getD, bAt_getD, sAt_getD, lAt_getD] at R_ ⊢; first | exact R_ | (rw [← R_]; rfl))
  try simp only [bytesL_map, List.length_map, toNat_nat, iAt_getD, bAt_getD, sAt_getD, lAt_getD]
  refine yes_ret (by
      have := spec_KeysInts.len a0
      have := (H0).1
      refine lim_t ?_
      try simp (disch := omega) only [List.sum_cons, List.sum_nil, List.map_cons, List.map_nil, bytesI_length, bytesL_length, List.length_append, List.length_cons, List.length_nil, List.length_map, List.length_set, List.length_replicate, List.length_take, List.length_drop, Go.IntWalk.i64_in]
      first | omega | (simp; done) | (simp; omega)) ?_
  refine call_to (spec_Hash.md ([239, a1] ++ (spec_KeysInts.md a0))) ?_ ?_
  · have R_ := spec_Hash.R_eq (a0 := ([239, a1] ++ (spec_KeysInts.md a0))) ⟨(by
        have := spec_KeysInts.len a0
        have := (H0).1
        try simp (disch := omega) only [List.sum_cons, List.sum_nil, List.map_cons, List.map_nil, bytesI_length, bytesL_length, List.length_append, List.length_cons, List.length_nil, List.length_map, List.length_set, List.length_replicate, List.length_take, List.length_drop, Go.IntWalk.i64_in]
        first | omega | (simp; done) | (simp; omega)), fun _ _ => trivial⟩
    first | exact R_ | (simp only [List.map_append, List.map_cons, List.map_nil, List.cons_append, List.nil_append, iRow, sRow, bRow, lRow, List.map_set, bytesL_map, List.length_map, toNat_nat, iAt_getD, bAt_getD, sAt_getD, lAt_getD] at R_ ⊢; first | exact R_ | (rw [← R_]; rfl))
  try simp only [bytesL_map, List.length_map, toNat_nat, iAt_getD, bAt_getD, sAt_getD, lAt_getD]
  all_goals first | rfl | (simp only [bytesL_map, List.length_map, toNat_nat, iAt_getD, bAt_getD, sAt_getD, lAt_getD]; done) | (simp only [List.map_append, List.map_cons, List.map_nil, List.cons_append, List.nil_append, iRow, sRow, bRow, lRow, List.map_set]; rfl) | (simp only [bytesL_map, List.length_map, toNat_nat, iAt_getD, bAt_getD, sAt_getD, lAt_getD, List.map_append, List.map_cons, List.map_nil, List.cons_append, List.nil_append, iRow, sRow, bRow, lRow, List.map_set]; first | done | rfl)
noncomputable def sem (ls : List L) : Option (List L) := (R (RKeys.dec ls) ((dropT 2 ls).headD .hole).toInt).map RT.enc
theorem ok (ls q : List L) (hl : LOKs Ev.cells pats ls) (h : sem ls = some q) : ∃ n, runF E live Tryz.f136 res n (initS pats ls) = some q := by
  obtain ⟨v, hv, hq⟩ := map_some h
  obtain ⟨⟨a0, a1⟩, hg, e, hm⟩ := ofM_some hv
  simp only [rf, Prod.mk.injEq] at e
  obtain ⟨e0, e1⟩ := e
  have hn := okF a0 a1 hg
  refine ⟨0, (run_eq 0 ls).trans ?_⟩
  rw [← e0, ← e1]
  rw [hn, ← hq, hm]; rfl
noncomputable def con : Con := ⟨pats, res, sem⟩
theorem chk : fnB Tryz.f136 con 11 = true := by kernel_rfl
theorem valid_ : Valid Tryz.prog Ev 136 con := valid mix tab_ok (.cons spec_KeysInts.valid_ (.cons spec_Hash.valid_ .nil)) Tryz.func136 chk live ok
end spec_ZoneOf
/-! spec.HeadInts -/
namespace spec_HeadInts
noncomputable def F (x0 : RHead) : Ans := (call (spec_KeysInts.R x0.fKeys) fun v1 => (bif (lim (((8 : Int) + (v1.length : Int)) * 8)) then (call (spec_KeysInts.R x0.fHeirs) fun v2 => (bif (lim (((([[L.int x0.fZone], [L.int x0.fEpoch], [L.int x0.fKind], [L.int x0.fTime], [L.int x0.fUntil], [L.int x0.fCount], [L.int x0.fRoot], [L.int x0.fPrev]] ++ v1).length : Int) + (v2.length : Int)) * 8)) then (bif (lim ((((([[L.int x0.fZone], [L.int x0.fEpoch], [L.int x0.fKind], [L.int x0.fTime], [L.int x0.fUntil], [L.int x0.fCount], [L.int x0.fRoot], [L.int x0.fPrev]] ++ v1) ++ v2).length : Int) + 1) * 8)) then (call (spec_KeysInts.R x0.fJudge) fun v3 => (bif (lim (((((([[L.int x0.fZone], [L.int x0.fEpoch], [L.int x0.fKind], [L.int x0.fTime], [L.int x0.fUntil], [L.int x0.fCount], [L.int x0.fRoot], [L.int x0.fPrev]] ++ v1) ++ v2) ++ [[L.int x0.fWait]]).length : Int) + (v3.length : Int)) * 8)) then (bif x0.fFrozen then (bif (lim ((((((([[L.int x0.fZone], [L.int x0.fEpoch], [L.int x0.fKind], [L.int x0.fTime], [L.int x0.fUntil], [L.int x0.fCount], [L.int x0.fRoot], [L.int x0.fPrev]] ++ v1) ++ v2) ++ [[L.int x0.fWait]]) ++ v3).length : Int) + 1) * 8)) then ret (((((([[L.int x0.fZone], [L.int x0.fEpoch], [L.int x0.fKind], [L.int x0.fTime], [L.int x0.fUntil], [L.int x0.fCount], [L.int x0.fRoot], [L.int x0.fPrev]] ++ v1) ++ v2) ++ [[L.int x0.fWait]]) ++ v3) ++ [[L.int 1]]) : List (List L)) else none) else (bif (lim ((((((([[L.int x0.fZone], [L.int x0.fEpoch], [L.int x0.fKind], [L.int x0.fTime], [L.int x0.fUntil], [L.int x0.fCount], [L.int x0.fRoot], [L.int x0.fPrev]] ++ v1) ++ v2) ++ [[L.int x0.fWait]]) ++ v3).length : Int) + 1) * 8)) then ret (((((([[L.int x0.fZone], [L.int x0.fEpoch], [L.int x0.fKind], [L.int x0.fTime], [L.int x0.fUntil], [L.int x0.fCount], [L.int x0.fRoot], [L.int x0.fPrev]] ++ v1) ++ v2) ++ [[L.int x0.fWait]]) ++ v3) ++ [[L.int 0]]) : List (List L)) else none)) else none)) else none) else none)) else none))
def live : Nat → Live := fun _ => []
def pats : List Pat := [.agg [.int .i64, .int .i64, .int .i64, .int .i64, .int .i64, .int .i64, .int .i64, .int .i64, .sl 3, .int .i64, .sl 3, .int .i64, .int .i64, .sl 3, .int .i64, .bool]]
def res : RP := .one (.fr 3)
noncomputable def G : List (Nat × Con) := [(183, spec_KeysInts.con)]
noncomputable abbrev E : Env := ⟨assoc Tab, conG G, 49⟩
set_option maxRecDepth 100000
theorem run_eq (n : Nat) (ls : List L) : runF E live Tryz.f134 res n (initS pats ls) = F (RHead.dec ls) := by kernel_rfl
noncomputable def md (a0 : MHead) : List Int := (bif a0.fFrozen then ((((([a0.fZone, a0.fEpoch, a0.fKind, a0.fTime, a0.fUntil, a0.fCount, a0.fRoot, a0.fPrev] ++ (spec_KeysInts.md a0.fKeys)) ++ (spec_KeysInts.md a0.fHeirs)) ++ [a0.fWait]) ++ (spec_KeysInts.md a0.fJudge)) ++ [1]) else ((((([a0.fZone, a0.fEpoch, a0.fKind, a0.fTime, a0.fUntil, a0.fCount, a0.fRoot, a0.fPrev] ++ (spec_KeysInts.md a0.fKeys)) ++ (spec_KeysInts.md a0.fHeirs)) ++ [a0.fWait]) ++ (spec_KeysInts.md a0.fJudge)) ++ [0]))
def gd (a0 : MHead) : Prop := (MHead.Sm (2 ^ 21) a0)
def rf (a : MHead) : RHead := (MHead.r a)
theorem rf_inj (a b : MHead) (h : rf a = rf b) : a = b := by
  exact (MHead.r_inj h)
noncomputable def R (x0 : RHead) : Option (List (List L)) := ofM rf (fun a => gd a) (fun a => ((md a).map iRow)) x0
theorem R_eq {a0 : MHead} (h : gd a0) : R (MHead.r a0) = some ((md a0).map iRow) := ofM_eq (r := rf) (a := a0) rf_inj h
theorem okF (a0 : MHead) (hg : gd a0) : F (MHead.r a0) = ret (((md a0).map iRow) : List (List L)) := by
  unfold gd at hg
  have H0 := hg
  unfold F md
  try simp only [bytesL_map, List.length_map, toNat_nat, iAt_getD, bAt_getD, sAt_getD, lAt_getD, MHead.r_fZone, MHead.r_fEpoch, MHead.r_fKind, MHead.r_fTime, MHead.r_fUntil, MHead.r_fCount, MHead.r_fRoot, MHead.r_fPrev, MHead.r_fKeys, MHead.r_fHeirs, MHead.r_fWait, MHead.r_fJudge, MHead.r_fFrozen]
  refine call_to ((spec_KeysInts.md a0.fKeys).map iRow) ?_ ?_
  · have R_ := spec_KeysInts.R_eq (a0 := a0.fKeys) H0.1
    first | exact R_ | (simp only [List.map_append, List.map_cons, List.map_nil, List.cons_append, List.nil_append, iRow, sRow, bRow, lRow, List.map_set, bytesL_map, List.length_map, toNat_nat, iAt_getD, bAt_getD, sAt_getD, lAt_getD, MHead.r_fZone, MHead.r_fEpoch, MHead.r_fKind, MHead.r_fTime, MHead.r_fUntil, MHead.r_fCount, MHead.r_fRoot, MHead.r_fPrev, MHead.r_fKeys, MHead.r_fHeirs, MHead.r_fWait, MHead.r_fJudge, MHead.r_fFrozen] at R_ ⊢; first | exact R_ | (rw [← R_]; rfl))
  try simp only [bytesL_map, List.length_map, toNat_nat, iAt_getD, bAt_getD, sAt_getD, lAt_getD, MHead.r_fZone, MHead.r_fEpoch, MHead.r_fKind, MHead.r_fTime, MHead.r_fUntil, MHead.r_fCount, MHead.r_fRoot, MHead.r_fPrev, MHead.r_fKeys, MHead.r_fHeirs, MHead.r_fWait, MHead.r_fJudge, MHead.r_fFrozen]
  refine yes_ret (by
      have := spec_KeysInts.len a0.fKeys
      have := (H0.1).1
      refine lim_t ?_
      try simp (disch := omega) only [List.sum_cons, List.sum_nil, List.map_cons, List.map_nil, bytesI_length, bytesL_length, List.length_append, List.length_cons, List.length_nil, List.length_map, List.length_set, List.length_replicate, List.length_take, List.length_drop, Go.IntWalk.i64_in]
      first | omega | (simp; done) | (simp; omega)) ?_
  refine call_to ((spec_KeysInts.md a0.fHeirs).map iRow) ?_ ?_
  · have R_ := spec_KeysInts.R_eq (a0 := a0.fHeirs) H0.2.1
    first | exact R_ | (simp only [List.map_append, List.map_cons, List.map_nil, List.cons_append, List.nil_append, iRow, sRow, bRow, lRow, List.map_set, bytesL_map, List.length_map, toNat_nat, iAt_getD, bAt_getD, sAt_getD, lAt_getD, MHead.r_fZone, MHead.r_fEpoch, MHead.r_fKind, MHead.r_fTime, MHead.r_fUntil, MHead.r_fCount, MHead.r_fRoot, MHead.r_fPrev, MHead.r_fKeys, MHead.r_fHeirs, MHead.r_fWait, MHead.r_fJudge, MHead.r_fFrozen] at R_ ⊢; first | exact R_ | (rw [← R_]; rfl))
  try simp only [bytesL_map, List.length_map, toNat_nat, iAt_getD, bAt_getD, sAt_getD, lAt_getD, MHead.r_fZone, MHead.r_fEpoch, MHead.r_fKind, MHead.r_fTime, MHead.r_fUntil, MHead.r_fCount, MHead.r_fRoot, MHead.r_fPrev, MHead.r_fKeys, MHead.r_fHeirs, MHead.r_fWait, MHead.r_fJudge, MHead.r_fFrozen]
  refine yes_ret (by
      have := spec_KeysInts.len a0.fKeys
      have := (H0.1).1
      have := spec_KeysInts.len a0.fHeirs
      have := (H0.2.1).1
      refine lim_t ?_
      try simp (disch := omega) only [List.sum_cons, List.sum_nil, List.map_cons, List.map_nil, bytesI_length, bytesL_length, List.length_append, List.length_cons, List.length_nil, List.length_map, List.length_set, List.length_replicate, List.length_take, List.length_drop, Go.IntWalk.i64_in]
      first | omega | (simp; done) | (simp; omega)) ?_
  refine yes_ret (by
      have := spec_KeysInts.len a0.fKeys
      have := (H0.1).1
      have := spec_KeysInts.len a0.fHeirs
      have := (H0.2.1).1
      refine lim_t ?_
      try simp (disch := omega) only [List.sum_cons, List.sum_nil, List.map_cons, List.map_nil, bytesI_length, bytesL_length, List.length_append, List.length_cons, List.length_nil, List.length_map, List.length_set, List.length_replicate, List.length_take, List.length_drop, Go.IntWalk.i64_in]
      first | omega | (simp; done) | (simp; omega)) ?_
  refine call_to ((spec_KeysInts.md a0.fJudge).map iRow) ?_ ?_
  · have R_ := spec_KeysInts.R_eq (a0 := a0.fJudge) H0.2.2
    first | exact R_ | (simp only [List.map_append, List.map_cons, List.map_nil, List.cons_append, List.nil_append, iRow, sRow, bRow, lRow, List.map_set, bytesL_map, List.length_map, toNat_nat, iAt_getD, bAt_getD, sAt_getD, lAt_getD, MHead.r_fZone, MHead.r_fEpoch, MHead.r_fKind, MHead.r_fTime, MHead.r_fUntil, MHead.r_fCount, MHead.r_fRoot, MHead.r_fPrev, MHead.r_fKeys, MHead.r_fHeirs, MHead.r_fWait, MHead.r_fJudge, MHead.r_fFrozen] at R_ ⊢; first | exact R_ | (rw [← R_]; rfl))
  try simp only [bytesL_map, List.length_map, toNat_nat, iAt_getD, bAt_getD, sAt_getD, lAt_getD, MHead.r_fZone, MHead.r_fEpoch, MHead.r_fKind, MHead.r_fTime, MHead.r_fUntil, MHead.r_fCount, MHead.r_fRoot, MHead.r_fPrev, MHead.r_fKeys, MHead.r_fHeirs, MHead.r_fWait, MHead.r_fJudge, MHead.r_fFrozen]
  refine yes_ret (by
      have := spec_KeysInts.len a0.fKeys
      have := (H0.1).1
      have := spec_KeysInts.len a0.fHeirs
      have := (H0.2.1).1
      have := spec_KeysInts.len a0.fJudge
      have := (H0.2.2).1
      refine lim_t ?_
      try simp (disch := omega) only [List.sum_cons, List.sum_nil, List.map_cons, List.map_nil, bytesI_length, bytesL_length, List.length_append, List.length_cons, List.length_nil, List.length_map, List.length_set, List.length_replicate, List.length_take, List.length_drop, Go.IntWalk.i64_in]
      first | omega | (simp; done) | (simp; omega)) ?_
  refine bif_out (fun b : List Int => ret ((b.map iRow) : List (List L))) (fun c1 => ?_) (fun c1 => ?_)
  · refine yes_ret (by
        have := spec_KeysInts.len a0.fKeys
        have := (H0.1).1
        have := spec_KeysInts.len a0.fHeirs
        have := (H0.2.1).1
        have := spec_KeysInts.len a0.fJudge
        have := (H0.2.2).1
        refine lim_t ?_
        try simp (disch := omega) only [List.sum_cons, List.sum_nil, List.map_cons, List.map_nil, bytesI_length, bytesL_length, List.length_append, List.length_cons, List.length_nil, List.length_map, List.length_set, List.length_replicate, List.length_take, List.length_drop, Go.IntWalk.i64_in]
        first | omega | (simp; done) | (simp; omega)) ?_
    all_goals first | rfl | (simp only [bytesL_map, List.length_map, toNat_nat, iAt_getD, bAt_getD, sAt_getD, lAt_getD, MHead.r_fZone, MHead.r_fEpoch, MHead.r_fKind, MHead.r_fTime, MHead.r_fUntil, MHead.r_fCount, MHead.r_fRoot, MHead.r_fPrev, MHead.r_fKeys, MHead.r_fHeirs, MHead.r_fWait, MHead.r_fJudge, MHead.r_fFrozen]; done) | (simp only [List.map_append, List.map_cons, List.map_nil, List.cons_append, List.nil_append, iRow, sRow, bRow, lRow, List.map_set]; rfl) | (simp only [bytesL_map, List.length_map, toNat_nat, iAt_getD, bAt_getD, sAt_getD, lAt_getD, MHead.r_fZone, MHead.r_fEpoch, MHead.r_fKind, MHead.r_fTime, MHead.r_fUntil, MHead.r_fCount, MHead.r_fRoot, MHead.r_fPrev, MHead.r_fKeys, MHead.r_fHeirs, MHead.r_fWait, MHead.r_fJudge, MHead.r_fFrozen, List.map_append, List.map_cons, List.map_nil, List.cons_append, List.nil_append, iRow, sRow, bRow, lRow, List.map_set]; first | done | rfl)
  · refine yes_ret (by
        have := spec_KeysInts.len a0.fKeys
        have := (H0.1).1
        have := spec_KeysInts.len a0.fHeirs
        have := (H0.2.1).1
        have := spec_KeysInts.len a0.fJudge
        have := (H0.2.2).1
        refine lim_t ?_
        try simp (disch := omega) only [List.sum_cons, List.sum_nil, List.map_cons, List.map_nil, bytesI_length, bytesL_length, List.length_append, List.length_cons, List.length_nil, List.length_map, List.length_set, List.length_replicate, List.length_take, List.length_drop, Go.IntWalk.i64_in]
        first | omega | (simp; done) | (simp; omega)) ?_
    all_goals first | rfl | (simp only [bytesL_map, List.length_map, toNat_nat, iAt_getD, bAt_getD, sAt_getD, lAt_getD, MHead.r_fZone, MHead.r_fEpoch, MHead.r_fKind, MHead.r_fTime, MHead.r_fUntil, MHead.r_fCount, MHead.r_fRoot, MHead.r_fPrev, MHead.r_fKeys, MHead.r_fHeirs, MHead.r_fWait, MHead.r_fJudge, MHead.r_fFrozen]; done) | (simp only [List.map_append, List.map_cons, List.map_nil, List.cons_append, List.nil_append, iRow, sRow, bRow, lRow, List.map_set]; rfl) | (simp only [bytesL_map, List.length_map, toNat_nat, iAt_getD, bAt_getD, sAt_getD, lAt_getD, MHead.r_fZone, MHead.r_fEpoch, MHead.r_fKind, MHead.r_fTime, MHead.r_fUntil, MHead.r_fCount, MHead.r_fRoot, MHead.r_fPrev, MHead.r_fKeys, MHead.r_fHeirs, MHead.r_fWait, MHead.r_fJudge, MHead.r_fFrozen, List.map_append, List.map_cons, List.map_nil, List.cons_append, List.nil_append, iRow, sRow, bRow, lRow, List.map_set]; first | done | rfl)
noncomputable def sem (ls : List L) : Option (List L) := (R (RHead.dec ls)).map RT.enc
theorem ok (ls q : List L) (hl : LOKs Ev.cells pats ls) (h : sem ls = some q) : ∃ n, runF E live Tryz.f134 res n (initS pats ls) = some q := by
  obtain ⟨v, hv, hq⟩ := map_some h
  obtain ⟨a0, hg, e, hm⟩ := ofM_some hv
  have e0 : (MHead.r a0) = _ := e
  have hn := okF a0 hg
  refine ⟨0, (run_eq 0 ls).trans ?_⟩
  rw [← e0]
  rw [hn, ← hq, hm]; rfl
noncomputable def con : Con := ⟨pats, res, sem⟩
theorem chk : fnB Tryz.f134 con 49 = true := by kernel_rfl
theorem valid_ : Valid Tryz.prog Ev 134 con := valid mix tab_ok (.cons spec_KeysInts.valid_ .nil) Tryz.func134 chk live ok
theorem len (a0 : MHead) : (md a0).length = 16 + a0.fKeys.fList.length + a0.fHeirs.fList.length + a0.fJudge.fList.length := by unfold md; cases a0.fFrozen <;> simp [spec_KeysInts.md] <;> omega
theorem injK {k l : MKeys} {x y : List Int} (h : spec_KeysInts.md k ++ x = spec_KeysInts.md l ++ y) : k = l ∧ x = y := by
  obtain ⟨kl, kn⟩ := k
  obtain ⟨ll, ln⟩ := l
  simp only [spec_KeysInts.md, List.cons_append, List.nil_append, List.cons.injEq] at h
  obtain ⟨h1, h2, h3⟩ := h
  obtain ⟨h4, h5⟩ := List.append_inj h3 (by omega)
  exact ⟨by rw [h1, h4], h5⟩
theorem md_form (a : MHead) : md a = a.fZone :: a.fEpoch :: a.fKind :: a.fTime :: a.fUntil :: a.fCount :: a.fRoot :: a.fPrev :: (spec_KeysInts.md a.fKeys ++ (spec_KeysInts.md a.fHeirs ++ (a.fWait :: (spec_KeysInts.md a.fJudge ++ [bif a.fFrozen then 1 else 0])))) := by
  unfold md
  cases a.fFrozen <;> simp only [cond_true, cond_false, List.append_assoc, List.cons_append, List.nil_append]
theorem inj {a b : MHead} (h : md a = md b) : a = b := by
  rw [md_form, md_form] at h
  simp only [List.cons.injEq] at h
  obtain ⟨g1, g2, g3, g4, g5, g6, g7, g8, g9⟩ := h
  obtain ⟨k1, g9⟩ := injK g9
  obtain ⟨k2, g9⟩ := injK g9
  simp only [List.cons.injEq] at g9
  obtain ⟨k3, g9⟩ := g9
  obtain ⟨k4, g9⟩ := injK g9
  have k5 : a.fFrozen = b.fFrozen := by
    simp only [List.cons.injEq, and_true] at g9
    revert g9
    cases a.fFrozen <;> cases b.fFrozen <;> simp
  cases a; cases b
  simp only [MHead.mk.injEq]
  exact ⟨g1, g2, g3, g4, g5, g6, g7, g8, k1, k2, k3, k4, k5⟩
end spec_HeadInts
/-! spec.KeyedHash -/
namespace spec_KeyedHash
noncomputable def F (x0 : Int) (x1 : List (List L)) : Ans := (bif (lim (((1 : Int) + (x1.length : Int)) * 8)) then (bif (lim (((([[L.int x0]] ++ x1).length : Int) + 1) * 8)) then (call (spec_Hash.R (([[L.int x0]] ++ x1) ++ [[L.int x0]])) fun v1 => ret (v1 : Int)) else none) else none)
def live : Nat → Live := fun _ => []
def pats : List Pat := [.rd (.int .i64), .rd (.sl 3)]
def res : RP := .one (.rd (.int .i64))
noncomputable def G : List (Nat × Con) := [(186, spec_Hash.con)]
noncomputable abbrev E : Env := ⟨assoc Tab, conG G, 13⟩
set_option maxRecDepth 100000
theorem run_eq (n : Nat) (ls : List L) : runF E live Tryz.f270 res n (initS pats ls) = F (ls.headD .hole).toInt ((dropT 1 ls).headD .hole).toSl := by kernel_rfl
noncomputable def md (a0 : Int) (a1 : List Int) : Int := ((spec_Hash.md (([a0] ++ a1) ++ [a0])) : Int)
def gd (a0 : Int) (a1 : List Int) : Prop := (SmL (2 ^ 40) (fun y : Int => True) a1)
def rf (a : Int × List Int) : Int × List (List L) := (a.1, (a.2.map iRow))
theorem rf_inj (a b : Int × List Int) (h : rf a = rf b) : a = b := by
  exact (Prod.ext (congrArg (fun x => x.1) h) (map_inj iRow_inj (congrArg (fun x => x.2) h)))
noncomputable def R (x0 : Int) (x1 : List (List L)) : Option (Int) := ofM rf (fun a => gd a.1 a.2) (fun a => (md a.1 a.2)) (x0, x1)
theorem R_eq {a0 : Int} {a1 : List Int} (h : gd a0 a1) : R a0 (a1.map iRow) = some (md a0 a1) := ofM_eq (r := rf) (a := (a0, a1)) rf_inj h
theorem okF (a0 : Int) (a1 : List Int) (hg : gd a0 a1) : F a0 (a1.map iRow) = ret ((md a0 a1) : Int) := by
  unfold gd at hg
  have H1 := hg
  unfold F md
  try simp only [bytesL_map, List.length_map, toNat_nat, iAt_getD, bAt_getD, sAt_getD, lAt_getD]
  refine yes_ret (by
      have := (H1).1
      refine lim_t ?_
      try simp (disch := omega) only [List.sum_cons, List.sum_nil, List.map_cons, List.map_nil, bytesI_length, bytesL_length, List.length_append, List.length_cons, List.length_nil, List.length_map, List.length_set, List.length_replicate, List.length_take, List.length_drop, Go.IntWalk.i64_in]
      first | omega | (simp; done) | (simp; omega)) ?_
  refine yes_ret (by
      have := (H1).1
      refine lim_t ?_
      try simp (disch := omega) only [List.sum_cons, List.sum_nil, List.map_cons, List.map_nil, bytesI_length, bytesL_length, List.length_append, List.length_cons, List.length_nil, List.length_map, List.length_set, List.length_replicate, List.length_take, List.length_drop, Go.IntWalk.i64_in]
      first | omega | (simp; done) | (simp; omega)) ?_
  refine call_to (spec_Hash.md (([a0] ++ a1) ++ [a0])) ?_ ?_
  · have R_ := spec_Hash.R_eq (a0 := (([a0] ++ a1) ++ [a0])) ⟨(by
        have := (H1).1
        try simp (disch := omega) only [List.sum_cons, List.sum_nil, List.map_cons, List.map_nil, bytesI_length, bytesL_length, List.length_append, List.length_cons, List.length_nil, List.length_map, List.length_set, List.length_replicate, List.length_take, List.length_drop, Go.IntWalk.i64_in]
        first | omega | (simp; done) | (simp; omega)), fun _ _ => trivial⟩
    first | exact R_ | (simp only [List.map_append, List.map_cons, List.map_nil, List.cons_append, List.nil_append, iRow, sRow, bRow, lRow, List.map_set, bytesL_map, List.length_map, toNat_nat, iAt_getD, bAt_getD, sAt_getD, lAt_getD] at R_ ⊢; first | exact R_ | (rw [← R_]; rfl))
  try simp only [bytesL_map, List.length_map, toNat_nat, iAt_getD, bAt_getD, sAt_getD, lAt_getD]
  all_goals first | rfl | (simp only [bytesL_map, List.length_map, toNat_nat, iAt_getD, bAt_getD, sAt_getD, lAt_getD]; done) | (simp only [List.map_append, List.map_cons, List.map_nil, List.cons_append, List.nil_append, iRow, sRow, bRow, lRow, List.map_set]; rfl) | (simp only [bytesL_map, List.length_map, toNat_nat, iAt_getD, bAt_getD, sAt_getD, lAt_getD, List.map_append, List.map_cons, List.map_nil, List.cons_append, List.nil_append, iRow, sRow, bRow, lRow, List.map_set]; first | done | rfl)
noncomputable def sem (ls : List L) : Option (List L) := (R (ls.headD .hole).toInt ((dropT 1 ls).headD .hole).toSl).map RT.enc
theorem ok (ls q : List L) (hl : LOKs Ev.cells pats ls) (h : sem ls = some q) : ∃ n, runF E live Tryz.f270 res n (initS pats ls) = some q := by
  obtain ⟨v, hv, hq⟩ := map_some h
  obtain ⟨⟨a0, a1⟩, hg, e, hm⟩ := ofM_some hv
  simp only [rf, Prod.mk.injEq] at e
  obtain ⟨e0, e1⟩ := e
  have hn := okF a0 a1 hg
  refine ⟨0, (run_eq 0 ls).trans ?_⟩
  rw [← e0, ← e1]
  rw [hn, ← hq, hm]; rfl
noncomputable def con : Con := ⟨pats, res, sem⟩
theorem chk : fnB Tryz.f270 con 13 = true := by kernel_rfl
theorem valid_ : Valid Tryz.prog Ev 270 con := valid mix tab_ok (.cons spec_Hash.valid_ .nil) Tryz.func270 chk live ok
end spec_KeyedHash
/-! spec.TagOf -/
namespace spec_TagOf
noncomputable def F (x0 : Int) (x1 : List (List L)) : Ans := (bif (lim (((1 : Int) + (x1.length : Int)) * 8)) then (call (spec_KeyedHash.R x0 ([[L.int 223]] ++ x1)) fun v1 => ret (v1 : Int)) else none)
def live : Nat → Live := fun _ => []
def pats : List Pat := [.rd (.int .i64), .rd (.sl 3)]
def res : RP := .one (.rd (.int .i64))
noncomputable def G : List (Nat × Con) := [(270, spec_KeyedHash.con)]
noncomputable abbrev E : Env := ⟨assoc Tab, conG G, 10⟩
set_option maxRecDepth 100000
theorem run_eq (n : Nat) (ls : List L) : runF E live Tryz.f259 res n (initS pats ls) = F (ls.headD .hole).toInt ((dropT 1 ls).headD .hole).toSl := by kernel_rfl
noncomputable def md (a0 : Int) (a1 : List Int) : Int := ((spec_KeyedHash.md a0 ([223] ++ a1)) : Int)
def gd (a0 : Int) (a1 : List Int) : Prop := (SmL (2 ^ 39) (fun y : Int => True) a1)
def rf (a : Int × List Int) : Int × List (List L) := (a.1, (a.2.map iRow))
theorem rf_inj (a b : Int × List Int) (h : rf a = rf b) : a = b := by
  exact (Prod.ext (congrArg (fun x => x.1) h) (map_inj iRow_inj (congrArg (fun x => x.2) h)))
noncomputable def R (x0 : Int) (x1 : List (List L)) : Option (Int) := ofM rf (fun a => gd a.1 a.2) (fun a => (md a.1 a.2)) (x0, x1)
theorem R_eq {a0 : Int} {a1 : List Int} (h : gd a0 a1) : R a0 (a1.map iRow) = some (md a0 a1) := ofM_eq (r := rf) (a := (a0, a1)) rf_inj h
theorem okF (a0 : Int) (a1 : List Int) (hg : gd a0 a1) : F a0 (a1.map iRow) = ret ((md a0 a1) : Int) := by
  unfold gd at hg
  have H1 := hg
  unfold F md
  try simp only [bytesL_map, List.length_map, toNat_nat, iAt_getD, bAt_getD, sAt_getD, lAt_getD]
  refine yes_ret (by
      have := (H1).1
      refine lim_t ?_
      try simp (disch := omega) only [List.sum_cons, List.sum_nil, List.map_cons, List.map_nil, bytesI_length, bytesL_length, List.length_append, List.length_cons, List.length_nil, List.length_map, List.length_set, List.length_replicate, List.length_take, List.length_drop, Go.IntWalk.i64_in]
      first | omega | (simp; done) | (simp; omega)) ?_
  refine call_to (spec_KeyedHash.md a0 ([223] ++ a1)) ?_ ?_
  · have R_ := spec_KeyedHash.R_eq (a0 := a0) (a1 := ([223] ++ a1)) ⟨(by
        have := (H1).1
        try simp (disch := omega) only [List.sum_cons, List.sum_nil, List.map_cons, List.map_nil, bytesI_length, bytesL_length, List.length_append, List.length_cons, List.length_nil, List.length_map, List.length_set, List.length_replicate, List.length_take, List.length_drop, Go.IntWalk.i64_in]
        first | omega | (simp; done) | (simp; omega)), fun _ _ => trivial⟩
    first | exact R_ | (simp only [List.map_append, List.map_cons, List.map_nil, List.cons_append, List.nil_append, iRow, sRow, bRow, lRow, List.map_set, bytesL_map, List.length_map, toNat_nat, iAt_getD, bAt_getD, sAt_getD, lAt_getD] at R_ ⊢; first | exact R_ | (rw [← R_]; rfl))
  try simp only [bytesL_map, List.length_map, toNat_nat, iAt_getD, bAt_getD, sAt_getD, lAt_getD]
  all_goals first | rfl | (simp only [bytesL_map, List.length_map, toNat_nat, iAt_getD, bAt_getD, sAt_getD, lAt_getD]; done) | (simp only [List.map_append, List.map_cons, List.map_nil, List.cons_append, List.nil_append, iRow, sRow, bRow, lRow, List.map_set]; rfl) | (simp only [bytesL_map, List.length_map, toNat_nat, iAt_getD, bAt_getD, sAt_getD, lAt_getD, List.map_append, List.map_cons, List.map_nil, List.cons_append, List.nil_append, iRow, sRow, bRow, lRow, List.map_set]; first | done | rfl)
noncomputable def sem (ls : List L) : Option (List L) := (R (ls.headD .hole).toInt ((dropT 1 ls).headD .hole).toSl).map RT.enc
theorem ok (ls q : List L) (hl : LOKs Ev.cells pats ls) (h : sem ls = some q) : ∃ n, runF E live Tryz.f259 res n (initS pats ls) = some q := by
  obtain ⟨v, hv, hq⟩ := map_some h
  obtain ⟨⟨a0, a1⟩, hg, e, hm⟩ := ofM_some hv
  simp only [rf, Prod.mk.injEq] at e
  obtain ⟨e0, e1⟩ := e
  have hn := okF a0 a1 hg
  refine ⟨0, (run_eq 0 ls).trans ?_⟩
  rw [← e0, ← e1]
  rw [hn, ← hq, hm]; rfl
noncomputable def con : Con := ⟨pats, res, sem⟩
theorem chk : fnB Tryz.f259 con 10 = true := by kernel_rfl
theorem valid_ : Valid Tryz.prog Ev 259 con := valid mix tab_ok (.cons spec_KeyedHash.valid_ .nil) Tryz.func259 chk live ok
end spec_TagOf
/-! spec.IsSigBy -/
namespace spec_IsSigBy
noncomputable def F (x0 : MSig) (x1 : List (List L)) : Ans := (call (spec_l1In.R x0.fKey 1 99) fun v1 => (bif v1 then (call (spec_TagOf.R x0.fKey x1) fun v2 => ret ((x0.fTag == v2) : Bool)) else ret (false : Bool)))
def live : Nat → Live := fun _ => []
def pats : List Pat := [.agg [.int .i64, .int .i64], .rd (.sl 3)]
def res : RP := .one (.rd (.bool))
noncomputable def G : List (Nat × Con) := [(81, spec_l1In.con), (259, spec_TagOf.con)]
noncomputable abbrev E : Env := ⟨assoc Tab, conG G, 17⟩
set_option maxRecDepth 100000
theorem run_eq (n : Nat) (ls : List L) : runF E live Tryz.f236 res n (initS pats ls) = F (MSig.dec ls) ((dropT 2 ls).headD .hole).toSl := by kernel_rfl
noncomputable def md (a0 : MSig) (a1 : List Int) : Bool := (bif (spec_l1In.md a0.fKey 1 99) then ((a0.fTag == (spec_TagOf.md a0.fKey a1)) : Bool) else (false : Bool))
def gd (a0 : MSig) (a1 : List Int) : Prop := (SmL (2 ^ 38) (fun y : Int => True) a1)
def rf (a : MSig × List Int) : MSig × List (List L) := (a.1, (a.2.map iRow))
theorem rf_inj (a b : MSig × List Int) (h : rf a = rf b) : a = b := by
  exact (Prod.ext (congrArg (fun x => x.1) h) (map_inj iRow_inj (congrArg (fun x => x.2) h)))
noncomputable def R (x0 : MSig) (x1 : List (List L)) : Option (Bool) := ofM rf (fun a => gd a.1 a.2) (fun a => (md a.1 a.2)) (x0, x1)
theorem R_eq {a0 : MSig} {a1 : List Int} (h : gd a0 a1) : R a0 (a1.map iRow) = some (md a0 a1) := ofM_eq (r := rf) (a := (a0, a1)) rf_inj h
theorem okF (a0 : MSig) (a1 : List Int) (hg : gd a0 a1) : F a0 (a1.map iRow) = ret ((md a0 a1) : Bool) := by
  unfold gd at hg
  have H1 := hg
  unfold F md
  try simp only [bytesL_map, List.length_map, toNat_nat, iAt_getD, bAt_getD, sAt_getD, lAt_getD]
  refine call_to (spec_l1In.md a0.fKey 1 99) ?_ ?_
  · have R_ := spec_l1In.R_eq (a0 := a0.fKey) (a1 := 1) (a2 := 99) trivial
    first | exact R_ | (simp only [List.map_append, List.map_cons, List.map_nil, List.cons_append, List.nil_append, iRow, sRow, bRow, lRow, List.map_set, bytesL_map, List.length_map, toNat_nat, iAt_getD, bAt_getD, sAt_getD, lAt_getD] at R_ ⊢; first | exact R_ | (rw [← R_]; rfl))
  try simp only [bytesL_map, List.length_map, toNat_nat, iAt_getD, bAt_getD, sAt_getD, lAt_getD]
  refine bif_out (fun b : Bool => ret (b : Bool)) (fun c1 => ?_) (fun c1 => ?_)
  · have dc1 := c1
    try simp [spec_l1In.md] at dc1
    refine call_to (spec_TagOf.md a0.fKey a1) ?_ ?_
    · have R_ := spec_TagOf.R_eq (a0 := a0.fKey) (a1 := a1) (H1.mono (by decide) (fun x hx => trivial))
      first | exact R_ | (simp only [List.map_append, List.map_cons, List.map_nil, List.cons_append, List.nil_append, iRow, sRow, bRow, lRow, List.map_set, bytesL_map, List.length_map, toNat_nat, iAt_getD, bAt_getD, sAt_getD, lAt_getD] at R_ ⊢; first | exact R_ | (rw [← R_]; rfl))
    try simp only [bytesL_map, List.length_map, toNat_nat, iAt_getD, bAt_getD, sAt_getD, lAt_getD]
    all_goals first | rfl | (simp only [bytesL_map, List.length_map, toNat_nat, iAt_getD, bAt_getD, sAt_getD, lAt_getD]; done) | (simp only [List.map_append, List.map_cons, List.map_nil, List.cons_append, List.nil_append, iRow, sRow, bRow, lRow, List.map_set]; rfl) | (simp only [bytesL_map, List.length_map, toNat_nat, iAt_getD, bAt_getD, sAt_getD, lAt_getD, List.map_append, List.map_cons, List.map_nil, List.cons_append, List.nil_append, iRow, sRow, bRow, lRow, List.map_set]; first | done | rfl)
  · have dc1 := c1
    try simp [spec_l1In.md] at dc1
    all_goals first | rfl | (simp only [bytesL_map, List.length_map, toNat_nat, iAt_getD, bAt_getD, sAt_getD, lAt_getD]; done) | (simp only [List.map_append, List.map_cons, List.map_nil, List.cons_append, List.nil_append, iRow, sRow, bRow, lRow, List.map_set]; rfl) | (simp only [bytesL_map, List.length_map, toNat_nat, iAt_getD, bAt_getD, sAt_getD, lAt_getD, List.map_append, List.map_cons, List.map_nil, List.cons_append, List.nil_append, iRow, sRow, bRow, lRow, List.map_set]; first | done | rfl)
noncomputable def sem (ls : List L) : Option (List L) := (R (MSig.dec ls) ((dropT 2 ls).headD .hole).toSl).map RT.enc
theorem ok (ls q : List L) (hl : LOKs Ev.cells pats ls) (h : sem ls = some q) : ∃ n, runF E live Tryz.f236 res n (initS pats ls) = some q := by
  obtain ⟨v, hv, hq⟩ := map_some h
  obtain ⟨⟨a0, a1⟩, hg, e, hm⟩ := ofM_some hv
  simp only [rf, Prod.mk.injEq] at e
  obtain ⟨e0, e1⟩ := e
  have hn := okF a0 a1 hg
  refine ⟨0, (run_eq 0 ls).trans ?_⟩
  rw [← e0, ← e1]
  rw [hn, ← hq, hm]; rfl
noncomputable def con : Con := ⟨pats, res, sem⟩
theorem chk : fnB Tryz.f236 con 17 = true := by kernel_rfl
theorem valid_ : Valid Tryz.prog Ev 236 con := valid mix tab_ok (.cons spec_l1In.valid_ (.cons spec_TagOf.valid_ .nil)) Tryz.func236 chk live ok
end spec_IsSigBy
/-! spec.CountSigs -/
namespace spec_CountSigs
inductive Pt where
  | p0 (a : List (List L)) (b : List (List L)) (c : Int) (d : Int) (e : RKeys)
  | p1 (a : List (List L)) (b : List (List L)) (c : Int) (d : Int) (e : Int) (f : RKeys)
def pid : Pt → Nat
  | .p0 .. => 3
  | .p1 .. => 6
def pvs : Pt → List V
  | .p0 a b c d e => [.sl none 3 a, .sl none 179 b, .bptr 0 0, .int .i64 c, .int .i64 d]
  | .p1 a b c d e f => [.sl none 3 a, .sl none 179 b, .bptr 0 0, .int .i64 c, .int .i64 d, .int .i64 e]
def phs : Pt → List Root
  | .p0 a b c d e => [.box [.sl none 3 e.fList, .int .i64 e.fNeed]]
  | .p1 a b c d e f => [.box [.sl none 3 f.fList, .int .i64 f.fNeed]]
noncomputable def step (J : Pt → Ans) : Pt → Ans
  | .p0 a b c d e => (bif (decide (d < (e.fList.length : Int))) then J (.p1 a b c d 0 e) else ret (c : Int))
  | .p1 a b c d e f => (bif (decide (e < (b.length : Int))) then (bif (decide ((0 : Int) ≤ e)) then (bif (decide (e < (b.length : Int))) then (bif (decide ((0 : Int) ≤ d)) then (bif (decide (d < (f.fList.length : Int))) then (bif ((MSig.at b (Int.toNat e)).fKey == (iAt f.fList (Int.toNat d))) then (bif (decide ((0 : Int) ≤ e)) then (bif (decide (e < (b.length : Int))) then (call (spec_IsSigBy.R (MSig.at b (Int.toNat e)) a) fun v1 => (bif v1 then J (.p0 a b (IntKind.i64.wrap (c + 1)) (IntKind.i64.wrap (d + 1)) f) else J (.p1 a b c d (IntKind.i64.wrap (e + 1)) f))) else none) else none) else J (.p1 a b c d (IntKind.i64.wrap (e + 1)) f)) else none) else none) else none) else none) else J (.p0 a b c (IntKind.i64.wrap (d + 1)) f))
noncomputable def start (J : Pt → Ans) (x0 : RKeys) (x1 : List (List L)) (x2 : List (List L)) : Ans := J (.p0 x1 x2 0 0 x0)
def live : Nat → Live := fun i => match i with | 3 => [(1, none), (2, none), (3, none), (7, none), (8, none)] | 6 => [(1, none), (2, none), (3, none), (7, none), (8, none), (9, none)] | _ => []
def pats : List Pat := [.agg [.sl 3, .int .i64], .rd (.sl 3), .rd (.sl 179)]
def res : RP := .one (.rd (.int .i64))
noncomputable def G : List (Nat × Con) := [(236, spec_IsSigBy.con)]
noncomputable abbrev E : Env := ⟨assoc Tab, conG G, 45⟩
set_option maxRecDepth 100000
theorem step_eq (I : Heads) (p : Pt) : enterC E live I (pid p) (bodyOf Tryz.f187) (stOf (live (pid p)) (pvs p) (phs p)) (doneK E Tryz.f187 res) = step (fun q => I (pid q) (pvs q) (phs q)) p := by
  cases p <;> kernel_rfl
theorem start_eq (I : Heads) (ls : List L) : runC E live I (bodyOf Tryz.f187) (initS pats ls) (doneK E Tryz.f187 res) = start (fun q => I (pid q) (pvs q) (phs q)) (RKeys.dec ls) ((dropT 2 ls).headD .hole).toSl ((dropT 3 ls).headD .hole).toSl := by kernel_rfl
theorem run_eq (n : Nat) (ls : List L) : runF E live Tryz.f187 res n (initS pats ls) = start (iter step n) (RKeys.dec ls) ((dropT 2 ls).headD .hole).toSl ((dropT 3 ls).headD .hole).toSl := runF_iter (id := pid) (vs := pvs) (hs := phs) (step := step) (start := fun J => start J (RKeys.dec ls) ((dropT 2 ls).headD .hole).toSl ((dropT 3 ls).headD .hole).toSl) step_eq (fun I => start_eq I ls) n
noncomputable def md (a0 : MKeys) (a1 : List Int) (a2 : List MSig) : Int := (eachM (S := Int) (β := Int) (fun (y1 : Int) (s3 : Int) => (eachM (S := Unit) (β := (Int ⊕ Int)) (fun (y5 : MSig) (s7 : Unit) => (bif (y5.fKey == y1) then (bif (spec_IsSigBy.md y5 a1) then (.inr (.inl (IntKind.i64.wrap (s3 + 1)))) else (.inl ())) else (.inl ()))) (fun (s7 : Unit) => (.inl s3)) a2 ())) (fun (s3 : Int) => (s3 : Int)) a0.fList 0)
def gd (a0 : MKeys) (a1 : List Int) (a2 : List MSig) : Prop := (MKeys.Sm (2 ^ 21) a0) ∧ (SmL (2 ^ 38) (fun y : Int => True) a1) ∧ (SmL (2 ^ 21) (fun y : MSig => MSig.Sm (2 ^ 21) y) a2)
def rf (a : MKeys × List Int × List MSig) : RKeys × List (List L) × List (List L) := ((MKeys.r a.1), (a.2.1.map iRow), (a.2.2.map MSig.row))
theorem rf_inj (a b : MKeys × List Int × List MSig) (h : rf a = rf b) : a = b := by
  exact (Prod.ext (MKeys.r_inj (congrArg (fun x => x.1) h)) (Prod.ext (map_inj iRow_inj (congrArg (fun x => x.2.1) h)) (map_inj MSig.row_inj (congrArg (fun x => x.2.2) h))))
noncomputable def R (x0 : RKeys) (x1 : List (List L)) (x2 : List (List L)) : Option (Int) := ofM rf (fun a => gd a.1 a.2.1 a.2.2) (fun a => (md a.1 a.2.1 a.2.2)) (x0, x1, x2)
theorem R_eq {a0 : MKeys} {a1 : List Int} {a2 : List MSig} (h : gd a0 a1 a2) : R (MKeys.r a0) (a1.map iRow) (a2.map MSig.row) = some (md a0 a1 a2) := ofM_eq (r := rf) (a := (a0, a1, a2)) rf_inj h
theorem okF (a0 : MKeys) (a1 : List Int) (a2 : List MSig) (hg : gd a0 a1 a2) : ∃ n, start (iter step n) (MKeys.r a0) (a1.map iRow) (a2.map MSig.row) = ret ((md a0 a1 a2) : Int) := by
  unfold gd at hg
  obtain ⟨H0, H1, H2⟩ := hg
  unfold start md
  try simp only [bytesL_map, List.length_map, toNat_nat, iAt_getD, bAt_getD, sAt_getD, lAt_getD, MKeys.r_fList, MSig.at_getD]
  have Bh2 : a0.fList.length ≤ maxLen := (by
      have := (H0).1
      try simp only [maxLen] at *
      omega)
  refine ex_eq (out := (fun b : Int => ret (b : Int))) (show (loopM (S := Int) (β := Int) (fun (i1 : Nat) (s3 : Int) => (eachM (S := Unit) (β := (Int ⊕ Int)) (fun (y5 : MSig) (s7 : Unit) => (bif (y5.fKey == (a0.fList.getD i1 0)) then (bif (spec_IsSigBy.md y5 a1) then (.inr (.inl (IntKind.i64.wrap (s3 + 1)))) else (.inl ())) else (.inl ()))) (fun (s7 : Unit) => (.inl s3)) a2 ())) (fun (s3 : Int) => (s3 : Int)) a0.fList.length 0 0) = (eachM (S := Int) (β := Int) (fun (y1 : Int) (s3 : Int) => (eachM (S := Unit) (β := (Int ⊕ Int)) (fun (y5 : MSig) (s7 : Unit) => (bif (y5.fKey == y1) then (bif (spec_IsSigBy.md y5 a1) then (.inr (.inl (IntKind.i64.wrap (s3 + 1)))) else (.inl ())) else (.inl ()))) (fun (s7 : Unit) => (.inl s3)) a2 ())) (fun (s3 : Int) => (s3 : Int)) a0.fList 0) from loopM_eachM (S := Int) (β := Int) (f := fun (y1 : Int) (s3 : Int) => (eachM (S := Unit) (β := (Int ⊕ Int)) (fun (y5 : MSig) (s7 : Unit) => (bif (y5.fKey == y1) then (bif (spec_IsSigBy.md y5 a1) then (.inr (.inl (IntKind.i64.wrap (s3 + 1)))) else (.inl ())) else (.inl ()))) (fun (s7 : Unit) => (.inl s3)) a2 ())) (t := fun (s3 : Int) => (s3 : Int)) (xs := a0.fList) (z := 0)) ?_
  refine ex_pt (p := Pt.p0 (a1.map iRow) (a2.map MSig.row) 0 0 (MKeys.r a0)) (by first | rfl | (simp only [bytesL_map, List.length_map, toNat_nat, iAt_getD, bAt_getD, sAt_getD, lAt_getD, MKeys.r_fList, MSig.at_getD, List.map_append, List.map_cons, List.map_nil, List.cons_append, List.nil_append, iRow, sRow, bRow, lRow, List.map_set]; done) | (simp only [List.map_append, List.map_cons, List.map_nil, List.cons_append, List.nil_append, iRow, sRow, bRow, lRow, List.map_set]; rfl)) ?_
  refine loopM_ex (pt := fun (i1 : Nat) (s3 : Int) => Pt.p0 (a1.map iRow) (a2.map MSig.row) s3 (i1 : Int) (MKeys.r a0)) (s := (0 : Int)) (out := (fun b : Int => ret (b : Int))) (fun _ _ => True) (fun i1 s3 h2 hih2 K4 hK4 rK4 => ?_) (fun s3 hih2 => ?_) trivial
  · simp only [step, bytesL_map, List.length_map, toNat_nat, iAt_getD, bAt_getD, sAt_getD, lAt_getD, MKeys.r_fList, MSig.at_getD]
    have bb_ := Bh2
    simp only [maxLen] at bb_
    have := (H0).1
    refine ex_yes (by apply decide_eq_true; omega) ?_
    have Bh6 : a2.length ≤ maxLen := (by
        have := (H2).1
        try simp only [maxLen] at *
        omega)
    refine ex_eq (out := K4) (show (loopM (S := Unit) (β := (Int ⊕ Int)) (fun (i5 : Nat) (s7 : Unit) => (bif ((a2.getD i5 MSig.zero).fKey == (a0.fList.getD i1 0)) then (bif (spec_IsSigBy.md (a2.getD i5 MSig.zero) a1) then (.inr (.inl (IntKind.i64.wrap (s3 + 1)))) else (.inl ())) else (.inl ()))) (fun (s7 : Unit) => (.inl s3)) a2.length 0 ()) = (eachM (S := Unit) (β := (Int ⊕ Int)) (fun (y5 : MSig) (s7 : Unit) => (bif (y5.fKey == (a0.fList.getD i1 0)) then (bif (spec_IsSigBy.md y5 a1) then (.inr (.inl (IntKind.i64.wrap (s3 + 1)))) else (.inl ())) else (.inl ()))) (fun (s7 : Unit) => (.inl s3)) a2 ()) from loopM_eachM (S := Unit) (β := (Int ⊕ Int)) (f := fun (y5 : MSig) (s7 : Unit) => (bif (y5.fKey == (a0.fList.getD i1 0)) then (bif (spec_IsSigBy.md y5 a1) then (.inr (.inl (IntKind.i64.wrap (s3 + 1)))) else (.inl ())) else (.inl ()))) (t := fun (s7 : Unit) => (.inl s3)) (xs := a2) (z := MSig.zero)) ?_
    refine ex_pt (p := Pt.p1 (a1.map iRow) (a2.map MSig.row) s3 (i1 : Int) 0 (MKeys.r a0)) (by first | rfl | (simp only [bytesL_map, List.length_map, toNat_nat, iAt_getD, bAt_getD, sAt_getD, lAt_getD, MKeys.r_fList, MSig.at_getD, List.map_append, List.map_cons, List.map_nil, List.cons_append, List.nil_append, iRow, sRow, bRow, lRow, List.map_set]; done) | (simp only [List.map_append, List.map_cons, List.map_nil, List.cons_append, List.nil_append, iRow, sRow, bRow, lRow, List.map_set]; rfl)) ?_
    refine loopM_ex (pt := fun (i5 : Nat) (s7 : Unit) => Pt.p1 (a1.map iRow) (a2.map MSig.row) s3 (i1 : Int) (i5 : Int) (MKeys.r a0)) (s := (() : Unit)) (out := K4) (fun _ _ => True) (fun i5 s7 h6 hih6 K8 hK8 rK8 => ?_) (fun s7 hih6 => ?_) trivial
    · simp only [step, bytesL_map, List.length_map, toNat_nat, iAt_getD, bAt_getD, sAt_getD, lAt_getD, MKeys.r_fList, MSig.at_getD]
      have bb_ := Bh6
      simp only [maxLen] at bb_
      have := (H2).1
      refine ex_yes (by apply decide_eq_true; omega) ?_
      refine ex_yes (by
          refine decide_eq_true ?_
          try simp (disch := omega) only [List.sum_cons, List.sum_nil, List.map_cons, List.map_nil, bytesI_length, bytesL_length, List.length_append, List.length_cons, List.length_nil, List.length_map, List.length_set, List.length_replicate, List.length_take, List.length_drop, Go.IntWalk.i64_in]
          first | omega | (simp; done) | (simp; omega)) ?_
      refine ex_yes (by
          have := (H2).1
          refine decide_eq_true ?_
          try simp (disch := omega) only [List.sum_cons, List.sum_nil, List.map_cons, List.map_nil, bytesI_length, bytesL_length, List.length_append, List.length_cons, List.length_nil, List.length_map, List.length_set, List.length_replicate, List.length_take, List.length_drop, Go.IntWalk.i64_in]
          first | omega | (simp; done) | (simp; omega)) ?_
      refine ex_yes (by
          refine decide_eq_true ?_
          try simp (disch := omega) only [List.sum_cons, List.sum_nil, List.map_cons, List.map_nil, bytesI_length, bytesL_length, List.length_append, List.length_cons, List.length_nil, List.length_map, List.length_set, List.length_replicate, List.length_take, List.length_drop, Go.IntWalk.i64_in]
          first | omega | (simp; done) | (simp; omega)) ?_
      refine ex_yes (by
          have := (H0).1
          refine decide_eq_true ?_
          try simp (disch := omega) only [List.sum_cons, List.sum_nil, List.map_cons, List.map_nil, bytesI_length, bytesL_length, List.length_append, List.length_cons, List.length_nil, List.length_map, List.length_set, List.length_replicate, List.length_take, List.length_drop, Go.IntWalk.i64_in]
          first | omega | (simp; done) | (simp; omega)) ?_
      refine ex_bif K8 (fun c9 => ?_) (fun c9 => ?_)
      · have dc9 := c9
        try simp only [bne_eq_false_iff_eq, bne_iff_ne, beq_iff_eq, beq_eq_false_iff_ne, ne_eq, Bool.not_eq_true', Bool.not_eq_false'] at dc9
        refine ex_yes (by
            refine decide_eq_true ?_
            try simp (disch := omega) only [List.sum_cons, List.sum_nil, List.map_cons, List.map_nil, bytesI_length, bytesL_length, List.length_append, List.length_cons, List.length_nil, List.length_map, List.length_set, List.length_replicate, List.length_take, List.length_drop, Go.IntWalk.i64_in]
            first | omega | (simp; done) | (simp; omega)) ?_
        refine ex_yes (by
            have := (H2).1
            refine decide_eq_true ?_
            try simp (disch := omega) only [List.sum_cons, List.sum_nil, List.map_cons, List.map_nil, bytesI_length, bytesL_length, List.length_append, List.length_cons, List.length_nil, List.length_map, List.length_set, List.length_replicate, List.length_take, List.length_drop, Go.IntWalk.i64_in]
            first | omega | (simp; done) | (simp; omega)) ?_
        refine ex_call_to (spec_IsSigBy.md (a2.getD i5 MSig.zero) a1) ?_ ?_
        · have R_ := spec_IsSigBy.R_eq (a0 := (a2.getD i5 MSig.zero)) (a1 := a1) H1
          first | exact R_ | (simp only [List.map_append, List.map_cons, List.map_nil, List.cons_append, List.nil_append, iRow, sRow, bRow, lRow, List.map_set, bytesL_map, List.length_map, toNat_nat, iAt_getD, bAt_getD, sAt_getD, lAt_getD, MKeys.r_fList, MSig.at_getD] at R_ ⊢; first | exact R_ | (rw [← R_]; rfl))
        try simp only [bytesL_map, List.length_map, toNat_nat, iAt_getD, bAt_getD, sAt_getD, lAt_getD, MKeys.r_fList, MSig.at_getD]
        refine ex_bif K8 (fun c10 => ?_) (fun c10 => ?_)
        · rw [rK8]
          rw [wrap_succ h2 Bh2]
          first | exact hK4 _ trivial | (simp only [bytesL_map, List.length_map, toNat_nat, iAt_getD, bAt_getD, sAt_getD, lAt_getD, MKeys.r_fList, MSig.at_getD]; exact hK4 _ trivial) | (simp only [List.map_append, List.map_cons, List.map_nil, List.cons_append, List.nil_append, iRow, sRow, bRow, lRow, List.map_set]; exact hK4 _ trivial)
        · rw [wrap_succ h6 Bh6]
          first | exact hK8 _ trivial | (simp only [bytesL_map, List.length_map, toNat_nat, iAt_getD, bAt_getD, sAt_getD, lAt_getD, MKeys.r_fList, MSig.at_getD]; exact hK8 _ trivial) | (simp only [List.map_append, List.map_cons, List.map_nil, List.cons_append, List.nil_append, iRow, sRow, bRow, lRow, List.map_set]; exact hK8 _ trivial)
      · have dc9 := c9
        try simp only [bne_eq_false_iff_eq, bne_iff_ne, beq_iff_eq, beq_eq_false_iff_ne, ne_eq, Bool.not_eq_true', Bool.not_eq_false'] at dc9
        rw [wrap_succ h6 Bh6]
        first | exact hK8 _ trivial | (simp only [bytesL_map, List.length_map, toNat_nat, iAt_getD, bAt_getD, sAt_getD, lAt_getD, MKeys.r_fList, MSig.at_getD]; exact hK8 _ trivial) | (simp only [List.map_append, List.map_cons, List.map_nil, List.cons_append, List.nil_append, iRow, sRow, bRow, lRow, List.map_set]; exact hK8 _ trivial)
    · simp only [step, bytesL_map, List.length_map, toNat_nat, iAt_getD, bAt_getD, sAt_getD, lAt_getD, MKeys.r_fList, MSig.at_getD]
      have := (H2).1
      refine ex_no (by apply decide_eq_false; omega) ?_
      rw [wrap_succ h2 Bh2]
      first | exact hK4 _ trivial | (simp only [bytesL_map, List.length_map, toNat_nat, iAt_getD, bAt_getD, sAt_getD, lAt_getD, MKeys.r_fList, MSig.at_getD]; exact hK4 _ trivial) | (simp only [List.map_append, List.map_cons, List.map_nil, List.cons_append, List.nil_append, iRow, sRow, bRow, lRow, List.map_set]; exact hK4 _ trivial)
  · simp only [step, bytesL_map, List.length_map, toNat_nat, iAt_getD, bAt_getD, sAt_getD, lAt_getD, MKeys.r_fList, MSig.at_getD]
    have := (H0).1
    refine ex_no (by apply decide_eq_false; omega) ?_
    refine ⟨0, ?_⟩
    all_goals first | rfl | (simp only [bytesL_map, List.length_map, toNat_nat, iAt_getD, bAt_getD, sAt_getD, lAt_getD, MKeys.r_fList, MSig.at_getD]; done) | (simp only [List.map_append, List.map_cons, List.map_nil, List.cons_append, List.nil_append, iRow, sRow, bRow, lRow, List.map_set]; rfl) | (simp only [bytesL_map, List.length_map, toNat_nat, iAt_getD, bAt_getD, sAt_getD, lAt_getD, MKeys.r_fList, MSig.at_getD, List.map_append, List.map_cons, List.map_nil, List.cons_append, List.nil_append, iRow, sRow, bRow, lRow, List.map_set]; first | done | rfl)
noncomputable def sem (ls : List L) : Option (List L) := (R (RKeys.dec ls) ((dropT 2 ls).headD .hole).toSl ((dropT 3 ls).headD .hole).toSl).map RT.enc
theorem ok (ls q : List L) (hl : LOKs Ev.cells pats ls) (h : sem ls = some q) : ∃ n, runF E live Tryz.f187 res n (initS pats ls) = some q := by
  obtain ⟨v, hv, hq⟩ := map_some h
  obtain ⟨⟨a0, a1, a2⟩, hg, e, hm⟩ := ofM_some hv
  simp only [rf, Prod.mk.injEq] at e
  obtain ⟨e0, e1, e2⟩ := e
  obtain ⟨n, hn⟩ := okF a0 a1 a2 hg
  refine ⟨n, (run_eq n ls).trans ?_⟩
  rw [← e0, ← e1, ← e2]
  rw [hn, ← hq, hm]; rfl
noncomputable def con : Con := ⟨pats, res, sem⟩
theorem chk : fnB Tryz.f187 con 45 = true := by kernel_rfl
theorem valid_ : Valid Tryz.prog Ev 187 con := valid mix tab_ok (.cons spec_IsSigBy.valid_ .nil) Tryz.func187 chk live ok
end spec_CountSigs
/-! spec.IsSigned -/
namespace spec_IsSigned
noncomputable def F (x0 : RKeys) (x1 : List (List L)) (x2 : List (List L)) : Ans := (call (spec_IsKeys.R x0) fun v1 => (bif v1 then (call (spec_CountSigs.R x0 x1 x2) fun v2 => ret ((decide (v2 ≥ x0.fNeed)) : Bool)) else ret (false : Bool)))
def live : Nat → Live := fun _ => []
def pats : List Pat := [.agg [.sl 3, .int .i64], .rd (.sl 3), .rd (.sl 179)]
def res : RP := .one (.rd (.bool))
noncomputable def G : List (Nat × Con) := [(184, spec_IsKeys.con), (187, spec_CountSigs.con)]
noncomputable abbrev E : Env := ⟨assoc Tab, conG G, 18⟩
set_option maxRecDepth 100000
theorem run_eq (n : Nat) (ls : List L) : runF E live Tryz.f137 res n (initS pats ls) = F (RKeys.dec ls) ((dropT 2 ls).headD .hole).toSl ((dropT 3 ls).headD .hole).toSl := by kernel_rfl
noncomputable def md (a0 : MKeys) (a1 : List Int) (a2 : List MSig) : Bool := (bif (spec_IsKeys.md a0) then ((decide ((spec_CountSigs.md a0 a1 a2) ≥ a0.fNeed)) : Bool) else (false : Bool))
def gd (a0 : MKeys) (a1 : List Int) (a2 : List MSig) : Prop := (MKeys.Sm (2 ^ 21) a0) ∧ (SmL (2 ^ 38) (fun y : Int => True) a1) ∧ (SmL (2 ^ 21) (fun y : MSig => MSig.Sm (2 ^ 21) y) a2)
def rf (a : MKeys × List Int × List MSig) : RKeys × List (List L) × List (List L) := ((MKeys.r a.1), (a.2.1.map iRow), (a.2.2.map MSig.row))
theorem rf_inj (a b : MKeys × List Int × List MSig) (h : rf a = rf b) : a = b := by
  exact (Prod.ext (MKeys.r_inj (congrArg (fun x => x.1) h)) (Prod.ext (map_inj iRow_inj (congrArg (fun x => x.2.1) h)) (map_inj MSig.row_inj (congrArg (fun x => x.2.2) h))))
noncomputable def R (x0 : RKeys) (x1 : List (List L)) (x2 : List (List L)) : Option (Bool) := ofM rf (fun a => gd a.1 a.2.1 a.2.2) (fun a => (md a.1 a.2.1 a.2.2)) (x0, x1, x2)
theorem R_eq {a0 : MKeys} {a1 : List Int} {a2 : List MSig} (h : gd a0 a1 a2) : R (MKeys.r a0) (a1.map iRow) (a2.map MSig.row) = some (md a0 a1 a2) := ofM_eq (r := rf) (a := (a0, a1, a2)) rf_inj h
theorem okF (a0 : MKeys) (a1 : List Int) (a2 : List MSig) (hg : gd a0 a1 a2) : F (MKeys.r a0) (a1.map iRow) (a2.map MSig.row) = ret ((md a0 a1 a2) : Bool) := by
  unfold gd at hg
  obtain ⟨H0, H1, H2⟩ := hg
  unfold F md
  try simp only [bytesL_map, List.length_map, toNat_nat, iAt_getD, bAt_getD, sAt_getD, lAt_getD, MKeys.r_fNeed]
  refine call_to (spec_IsKeys.md a0) ?_ ?_
  · have R_ := spec_IsKeys.R_eq (a0 := a0) H0
    first | exact R_ | (simp only [List.map_append, List.map_cons, List.map_nil, List.cons_append, List.nil_append, iRow, sRow, bRow, lRow, List.map_set, bytesL_map, List.length_map, toNat_nat, iAt_getD, bAt_getD, sAt_getD, lAt_getD, MKeys.r_fNeed] at R_ ⊢; first | exact R_ | (rw [← R_]; rfl))
  try simp only [bytesL_map, List.length_map, toNat_nat, iAt_getD, bAt_getD, sAt_getD, lAt_getD, MKeys.r_fNeed]
  refine bif_out (fun b : Bool => ret (b : Bool)) (fun c1 => ?_) (fun c1 => ?_)
  · try have tc1 := spec_IsKeys.tr (by simpa using c1)
    refine call_to (spec_CountSigs.md a0 a1 a2) ?_ ?_
    · have R_ := spec_CountSigs.R_eq (a0 := a0) (a1 := a1) (a2 := a2) ⟨H0, H1, H2⟩
      first | exact R_ | (simp only [List.map_append, List.map_cons, List.map_nil, List.cons_append, List.nil_append, iRow, sRow, bRow, lRow, List.map_set, bytesL_map, List.length_map, toNat_nat, iAt_getD, bAt_getD, sAt_getD, lAt_getD, MKeys.r_fNeed] at R_ ⊢; first | exact R_ | (rw [← R_]; rfl))
    try simp only [bytesL_map, List.length_map, toNat_nat, iAt_getD, bAt_getD, sAt_getD, lAt_getD, MKeys.r_fNeed]
    all_goals first | rfl | (simp only [bytesL_map, List.length_map, toNat_nat, iAt_getD, bAt_getD, sAt_getD, lAt_getD, MKeys.r_fNeed]; done) | (simp only [List.map_append, List.map_cons, List.map_nil, List.cons_append, List.nil_append, iRow, sRow, bRow, lRow, List.map_set]; rfl) | (simp only [bytesL_map, List.length_map, toNat_nat, iAt_getD, bAt_getD, sAt_getD, lAt_getD, MKeys.r_fNeed, List.map_append, List.map_cons, List.map_nil, List.cons_append, List.nil_append, iRow, sRow, bRow, lRow, List.map_set]; first | done | rfl)
  · try have tc1 := spec_IsKeys.tr (by simpa using c1)
    all_goals first | rfl | (simp only [bytesL_map, List.length_map, toNat_nat, iAt_getD, bAt_getD, sAt_getD, lAt_getD, MKeys.r_fNeed]; done) | (simp only [List.map_append, List.map_cons, List.map_nil, List.cons_append, List.nil_append, iRow, sRow, bRow, lRow, List.map_set]; rfl) | (simp only [bytesL_map, List.length_map, toNat_nat, iAt_getD, bAt_getD, sAt_getD, lAt_getD, MKeys.r_fNeed, List.map_append, List.map_cons, List.map_nil, List.cons_append, List.nil_append, iRow, sRow, bRow, lRow, List.map_set]; first | done | rfl)
noncomputable def sem (ls : List L) : Option (List L) := (R (RKeys.dec ls) ((dropT 2 ls).headD .hole).toSl ((dropT 3 ls).headD .hole).toSl).map RT.enc
theorem ok (ls q : List L) (hl : LOKs Ev.cells pats ls) (h : sem ls = some q) : ∃ n, runF E live Tryz.f137 res n (initS pats ls) = some q := by
  obtain ⟨v, hv, hq⟩ := map_some h
  obtain ⟨⟨a0, a1, a2⟩, hg, e, hm⟩ := ofM_some hv
  simp only [rf, Prod.mk.injEq] at e
  obtain ⟨e0, e1, e2⟩ := e
  have hn := okF a0 a1 a2 hg
  refine ⟨0, (run_eq 0 ls).trans ?_⟩
  rw [← e0, ← e1, ← e2]
  rw [hn, ← hq, hm]; rfl
noncomputable def con : Con := ⟨pats, res, sem⟩
theorem chk : fnB Tryz.f137 con 18 = true := by kernel_rfl
theorem valid_ : Valid Tryz.prog Ev 137 con := valid mix tab_ok (.cons spec_IsKeys.valid_ (.cons spec_CountSigs.valid_ .nil)) Tryz.func137 chk live ok
end spec_IsSigned
/-! spec.IsFirst -/
namespace spec_IsFirst
noncomputable def F (x0 : RSigned) : Ans := (call (spec_IsHead.R x0.fHead) fun v1 => (bif v1 then (bif (x0.fHead.fEpoch == 0) then (bif (x0.fHead.fKind == 1) then (bif (!x0.fHead.fFrozen) then (call (spec_ZoneOf.R x0.fHead.fKeys x0.fHead.fPrev) fun v2 => (bif (x0.fHead.fZone == v2) then (call (spec_HeadInts.R x0.fHead) fun v3 => (call (spec_IsSigned.R x0.fHead.fKeys v3 x0.fSigs) fun v4 => ret (v4 : Bool))) else ret (false : Bool))) else ret (false : Bool)) else ret (false : Bool)) else ret (false : Bool)) else ret (false : Bool)))
def live : Nat → Live := fun _ => []
def pats : List Pat := [.agg [.int .i64, .int .i64, .int .i64, .int .i64, .int .i64, .int .i64, .int .i64, .int .i64, .sl 3, .int .i64, .sl 3, .int .i64, .int .i64, .sl 3, .int .i64, .bool, .sl 179]]
def res : RP := .one (.rd (.bool))
noncomputable def G : List (Nat × Con) := [(135, spec_IsHead.con), (136, spec_ZoneOf.con), (134, spec_HeadInts.con), (137, spec_IsSigned.con)]
noncomputable abbrev E : Env := ⟨assoc Tab, conG G, 42⟩
set_option maxRecDepth 100000
theorem run_eq (n : Nat) (ls : List L) : runF E live Tryz.f85 res n (initS pats ls) = F (RSigned.dec ls) := by kernel_rfl
noncomputable def md (a0 : MSigned) : Bool := (bif (spec_IsHead.md a0.fHead) then (bif (a0.fHead.fEpoch == 0) then (bif (a0.fHead.fKind == 1) then (bif (!a0.fHead.fFrozen) then (bif (a0.fHead.fZone == (spec_ZoneOf.md a0.fHead.fKeys a0.fHead.fPrev)) then ((spec_IsSigned.md a0.fHead.fKeys (spec_HeadInts.md a0.fHead) a0.fSigs) : Bool) else (false : Bool)) else (false : Bool)) else (false : Bool)) else (false : Bool)) else (false : Bool))
def gd (a0 : MSigned) : Prop := (MSigned.Sm (2 ^ 21) a0)
def rf (a : MSigned) : RSigned := (MSigned.r a)
theorem rf_inj (a b : MSigned) (h : rf a = rf b) : a = b := by
  exact (MSigned.r_inj h)
noncomputable def R (x0 : RSigned) : Option (Bool) := ofM rf (fun a => gd a) (fun a => (md a)) x0
theorem R_eq {a0 : MSigned} (h : gd a0) : R (MSigned.r a0) = some (md a0) := ofM_eq (r := rf) (a := a0) rf_inj h
theorem okF (a0 : MSigned) (hg : gd a0) : F (MSigned.r a0) = ret ((md a0) : Bool) := by
  unfold gd at hg
  have H0 := hg
  unfold F md
  try simp only [bytesL_map, List.length_map, toNat_nat, iAt_getD, bAt_getD, sAt_getD, lAt_getD, MHead.r_fZone, MHead.r_fEpoch, MHead.r_fKind, MHead.r_fPrev, MHead.r_fKeys, MHead.r_fFrozen, MSigned.r_fHead, MSigned.r_fSigs]
  refine call_to (spec_IsHead.md a0.fHead) ?_ ?_
  · have R_ := spec_IsHead.R_eq (a0 := a0.fHead) H0.1
    first | exact R_ | (simp only [List.map_append, List.map_cons, List.map_nil, List.cons_append, List.nil_append, iRow, sRow, bRow, lRow, List.map_set, bytesL_map, List.length_map, toNat_nat, iAt_getD, bAt_getD, sAt_getD, lAt_getD, MHead.r_fZone, MHead.r_fEpoch, MHead.r_fKind, MHead.r_fPrev, MHead.r_fKeys, MHead.r_fFrozen, MSigned.r_fHead, MSigned.r_fSigs] at R_ ⊢; first | exact R_ | (rw [← R_]; rfl))
  try simp only [bytesL_map, List.length_map, toNat_nat, iAt_getD, bAt_getD, sAt_getD, lAt_getD, MHead.r_fZone, MHead.r_fEpoch, MHead.r_fKind, MHead.r_fPrev, MHead.r_fKeys, MHead.r_fFrozen, MSigned.r_fHead, MSigned.r_fSigs]
  refine bif_out (fun b : Bool => ret (b : Bool)) (fun c1 => ?_) (fun c1 => ?_)
  · try have tc1 := spec_IsHead.tr (by simpa using c1)
    refine bif_out (fun b : Bool => ret (b : Bool)) (fun c2 => ?_) (fun c2 => ?_)
    · have dc2 := c2
      try simp only [bne_eq_false_iff_eq, bne_iff_ne, beq_iff_eq, beq_eq_false_iff_ne, ne_eq, Bool.not_eq_true', Bool.not_eq_false'] at dc2
      refine bif_out (fun b : Bool => ret (b : Bool)) (fun c3 => ?_) (fun c3 => ?_)
      · have dc3 := c3
        try simp only [bne_eq_false_iff_eq, bne_iff_ne, beq_iff_eq, beq_eq_false_iff_ne, ne_eq, Bool.not_eq_true', Bool.not_eq_false'] at dc3
        refine bif_out (fun b : Bool => ret (b : Bool)) (fun c4 => ?_) (fun c4 => ?_)
        · have dc4 := c4
          try simp only [bne_eq_false_iff_eq, bne_iff_ne, beq_iff_eq, beq_eq_false_iff_ne, ne_eq, Bool.not_eq_true', Bool.not_eq_false'] at dc4
          refine call_to (spec_ZoneOf.md a0.fHead.fKeys a0.fHead.fPrev) ?_ ?_
          · have R_ := spec_ZoneOf.R_eq (a0 := a0.fHead.fKeys) (a1 := a0.fHead.fPrev) H0.1.1
            first | exact R_ | (simp only [List.map_append, List.map_cons, List.map_nil, List.cons_append, List.nil_append, iRow, sRow, bRow, lRow, List.map_set, bytesL_map, List.length_map, toNat_nat, iAt_getD, bAt_getD, sAt_getD, lAt_getD, MHead.r_fZone, MHead.r_fEpoch, MHead.r_fKind, MHead.r_fPrev, MHead.r_fKeys, MHead.r_fFrozen, MSigned.r_fHead, MSigned.r_fSigs] at R_ ⊢; first | exact R_ | (rw [← R_]; rfl))
          try simp only [bytesL_map, List.length_map, toNat_nat, iAt_getD, bAt_getD, sAt_getD, lAt_getD, MHead.r_fZone, MHead.r_fEpoch, MHead.r_fKind, MHead.r_fPrev, MHead.r_fKeys, MHead.r_fFrozen, MSigned.r_fHead, MSigned.r_fSigs]
          refine bif_out (fun b : Bool => ret (b : Bool)) (fun c5 => ?_) (fun c5 => ?_)
          · have dc5 := c5
            try simp only [bne_eq_false_iff_eq, bne_iff_ne, beq_iff_eq, beq_eq_false_iff_ne, ne_eq, Bool.not_eq_true', Bool.not_eq_false'] at dc5
            refine call_to ((spec_HeadInts.md a0.fHead).map iRow) ?_ ?_
            · have R_ := spec_HeadInts.R_eq (a0 := a0.fHead) H0.1
              first | exact R_ | (simp only [List.map_append, List.map_cons, List.map_nil, List.cons_append, List.nil_append, iRow, sRow, bRow, lRow, List.map_set, bytesL_map, List.length_map, toNat_nat, iAt_getD, bAt_getD, sAt_getD, lAt_getD, MHead.r_fZone, MHead.r_fEpoch, MHead.r_fKind, MHead.r_fPrev, MHead.r_fKeys, MHead.r_fFrozen, MSigned.r_fHead, MSigned.r_fSigs] at R_ ⊢; first | exact R_ | (rw [← R_]; rfl))
            try simp only [bytesL_map, List.length_map, toNat_nat, iAt_getD, bAt_getD, sAt_getD, lAt_getD, MHead.r_fZone, MHead.r_fEpoch, MHead.r_fKind, MHead.r_fPrev, MHead.r_fKeys, MHead.r_fFrozen, MSigned.r_fHead, MSigned.r_fSigs]
            refine call_to (spec_IsSigned.md a0.fHead.fKeys (spec_HeadInts.md a0.fHead) a0.fSigs) ?_ ?_
            · have R_ := spec_IsSigned.R_eq (a0 := a0.fHead.fKeys) (a1 := (spec_HeadInts.md a0.fHead)) (a2 := a0.fSigs) ⟨H0.1.1, ⟨(by
                  have := spec_HeadInts.len a0.fHead
                  have := (H0.1.1).1
                  have := (H0.1.2.1).1
                  have := (H0.1.2.2).1
                  try simp (disch := omega) only [List.sum_cons, List.sum_nil, List.map_cons, List.map_nil, bytesI_length, bytesL_length, List.length_append, List.length_cons, List.length_nil, List.length_map, List.length_set, List.length_replicate, List.length_take, List.length_drop, Go.IntWalk.i64_in]
                  first | omega | (simp; done) | (simp; omega)), fun _ _ => trivial⟩, H0.2⟩
              first | exact R_ | (simp only [List.map_append, List.map_cons, List.map_nil, List.cons_append, List.nil_append, iRow, sRow, bRow, lRow, List.map_set, bytesL_map, List.length_map, toNat_nat, iAt_getD, bAt_getD, sAt_getD, lAt_getD, MHead.r_fZone, MHead.r_fEpoch, MHead.r_fKind, MHead.r_fPrev, MHead.r_fKeys, MHead.r_fFrozen, MSigned.r_fHead, MSigned.r_fSigs] at R_ ⊢; first | exact R_ | (rw [← R_]; rfl))
            try simp only [bytesL_map, List.length_map, toNat_nat, iAt_getD, bAt_getD, sAt_getD, lAt_getD, MHead.r_fZone, MHead.r_fEpoch, MHead.r_fKind, MHead.r_fPrev, MHead.r_fKeys, MHead.r_fFrozen, MSigned.r_fHead, MSigned.r_fSigs]
            all_goals first | rfl | (simp only [bytesL_map, List.length_map, toNat_nat, iAt_getD, bAt_getD, sAt_getD, lAt_getD, MHead.r_fZone, MHead.r_fEpoch, MHead.r_fKind, MHead.r_fPrev, MHead.r_fKeys, MHead.r_fFrozen, MSigned.r_fHead, MSigned.r_fSigs]; done) | (simp only [List.map_append, List.map_cons, List.map_nil, List.cons_append, List.nil_append, iRow, sRow, bRow, lRow, List.map_set]; rfl) | (simp only [bytesL_map, List.length_map, toNat_nat, iAt_getD, bAt_getD, sAt_getD, lAt_getD, MHead.r_fZone, MHead.r_fEpoch, MHead.r_fKind, MHead.r_fPrev, MHead.r_fKeys, MHead.r_fFrozen, MSigned.r_fHead, MSigned.r_fSigs, List.map_append, List.map_cons, List.map_nil, List.cons_append, List.nil_append, iRow, sRow, bRow, lRow, List.map_set]; first | done | rfl)
          · have dc5 := c5
            try simp only [bne_eq_false_iff_eq, bne_iff_ne, beq_iff_eq, beq_eq_false_iff_ne, ne_eq, Bool.not_eq_true', Bool.not_eq_false'] at dc5
            all_goals first | rfl | (simp only [bytesL_map, List.length_map, toNat_nat, iAt_getD, bAt_getD, sAt_getD, lAt_getD, MHead.r_fZone, MHead.r_fEpoch, MHead.r_fKind, MHead.r_fPrev, MHead.r_fKeys, MHead.r_fFrozen, MSigned.r_fHead, MSigned.r_fSigs]; done) | (simp only [List.map_append, List.map_cons, List.map_nil, List.cons_append, List.nil_append, iRow, sRow, bRow, lRow, List.map_set]; rfl) | (simp only [bytesL_map, List.length_map, toNat_nat, iAt_getD, bAt_getD, sAt_getD, lAt_getD, MHead.r_fZone, MHead.r_fEpoch, MHead.r_fKind, MHead.r_fPrev, MHead.r_fKeys, MHead.r_fFrozen, MSigned.r_fHead, MSigned.r_fSigs, List.map_append, List.map_cons, List.map_nil, List.cons_append, List.nil_append, iRow, sRow, bRow, lRow, List.map_set]; first | done | rfl)
        · have dc4 := c4
          try simp only [bne_eq_false_iff_eq, bne_iff_ne, beq_iff_eq, beq_eq_false_iff_ne, ne_eq, Bool.not_eq_true', Bool.not_eq_false'] at dc4
          all_goals first | rfl | (simp only [bytesL_map, List.length_map, toNat_nat, iAt_getD, bAt_getD, sAt_getD, lAt_getD, MHead.r_fZone, MHead.r_fEpoch, MHead.r_fKind, MHead.r_fPrev, MHead.r_fKeys, MHead.r_fFrozen, MSigned.r_fHead, MSigned.r_fSigs]; done) | (simp only [List.map_append, List.map_cons, List.map_nil, List.cons_append, List.nil_append, iRow, sRow, bRow, lRow, List.map_set]; rfl) | (simp only [bytesL_map, List.length_map, toNat_nat, iAt_getD, bAt_getD, sAt_getD, lAt_getD, MHead.r_fZone, MHead.r_fEpoch, MHead.r_fKind, MHead.r_fPrev, MHead.r_fKeys, MHead.r_fFrozen, MSigned.r_fHead, MSigned.r_fSigs, List.map_append, List.map_cons, List.map_nil, List.cons_append, List.nil_append, iRow, sRow, bRow, lRow, List.map_set]; first | done | rfl)
      · have dc3 := c3
        try simp only [bne_eq_false_iff_eq, bne_iff_ne, beq_iff_eq, beq_eq_false_iff_ne, ne_eq, Bool.not_eq_true', Bool.not_eq_false'] at dc3
        all_goals first | rfl | (simp only [bytesL_map, List.length_map, toNat_nat, iAt_getD, bAt_getD, sAt_getD, lAt_getD, MHead.r_fZone, MHead.r_fEpoch, MHead.r_fKind, MHead.r_fPrev, MHead.r_fKeys, MHead.r_fFrozen, MSigned.r_fHead, MSigned.r_fSigs]; done) | (simp only [List.map_append, List.map_cons, List.map_nil, List.cons_append, List.nil_append, iRow, sRow, bRow, lRow, List.map_set]; rfl) | (simp only [bytesL_map, List.length_map, toNat_nat, iAt_getD, bAt_getD, sAt_getD, lAt_getD, MHead.r_fZone, MHead.r_fEpoch, MHead.r_fKind, MHead.r_fPrev, MHead.r_fKeys, MHead.r_fFrozen, MSigned.r_fHead, MSigned.r_fSigs, List.map_append, List.map_cons, List.map_nil, List.cons_append, List.nil_append, iRow, sRow, bRow, lRow, List.map_set]; first | done | rfl)
    · have dc2 := c2
      try simp only [bne_eq_false_iff_eq, bne_iff_ne, beq_iff_eq, beq_eq_false_iff_ne, ne_eq, Bool.not_eq_true', Bool.not_eq_false'] at dc2
      all_goals first | rfl | (simp only [bytesL_map, List.length_map, toNat_nat, iAt_getD, bAt_getD, sAt_getD, lAt_getD, MHead.r_fZone, MHead.r_fEpoch, MHead.r_fKind, MHead.r_fPrev, MHead.r_fKeys, MHead.r_fFrozen, MSigned.r_fHead, MSigned.r_fSigs]; done) | (simp only [List.map_append, List.map_cons, List.map_nil, List.cons_append, List.nil_append, iRow, sRow, bRow, lRow, List.map_set]; rfl) | (simp only [bytesL_map, List.length_map, toNat_nat, iAt_getD, bAt_getD, sAt_getD, lAt_getD, MHead.r_fZone, MHead.r_fEpoch, MHead.r_fKind, MHead.r_fPrev, MHead.r_fKeys, MHead.r_fFrozen, MSigned.r_fHead, MSigned.r_fSigs, List.map_append, List.map_cons, List.map_nil, List.cons_append, List.nil_append, iRow, sRow, bRow, lRow, List.map_set]; first | done | rfl)
  · try have tc1 := spec_IsHead.tr (by simpa using c1)
    all_goals first | rfl | (simp only [bytesL_map, List.length_map, toNat_nat, iAt_getD, bAt_getD, sAt_getD, lAt_getD, MHead.r_fZone, MHead.r_fEpoch, MHead.r_fKind, MHead.r_fPrev, MHead.r_fKeys, MHead.r_fFrozen, MSigned.r_fHead, MSigned.r_fSigs]; done) | (simp only [List.map_append, List.map_cons, List.map_nil, List.cons_append, List.nil_append, iRow, sRow, bRow, lRow, List.map_set]; rfl) | (simp only [bytesL_map, List.length_map, toNat_nat, iAt_getD, bAt_getD, sAt_getD, lAt_getD, MHead.r_fZone, MHead.r_fEpoch, MHead.r_fKind, MHead.r_fPrev, MHead.r_fKeys, MHead.r_fFrozen, MSigned.r_fHead, MSigned.r_fSigs, List.map_append, List.map_cons, List.map_nil, List.cons_append, List.nil_append, iRow, sRow, bRow, lRow, List.map_set]; first | done | rfl)
noncomputable def sem (ls : List L) : Option (List L) := (R (RSigned.dec ls)).map RT.enc
theorem ok (ls q : List L) (hl : LOKs Ev.cells pats ls) (h : sem ls = some q) : ∃ n, runF E live Tryz.f85 res n (initS pats ls) = some q := by
  obtain ⟨v, hv, hq⟩ := map_some h
  obtain ⟨a0, hg, e, hm⟩ := ofM_some hv
  have e0 : (MSigned.r a0) = _ := e
  have hn := okF a0 hg
  refine ⟨0, (run_eq 0 ls).trans ?_⟩
  rw [← e0]
  rw [hn, ← hq, hm]; rfl
noncomputable def con : Con := ⟨pats, res, sem⟩
theorem chk : fnB Tryz.f85 con 42 = true := by kernel_rfl
theorem valid_ : Valid Tryz.prog Ev 85 con := valid mix tab_ok (.cons spec_IsHead.valid_ (.cons spec_ZoneOf.valid_ (.cons spec_HeadInts.valid_ (.cons spec_IsSigned.valid_ .nil)))) Tryz.func85 chk live ok
end spec_IsFirst
/-! spec.HeadDigest -/
namespace spec_HeadDigest
noncomputable def F (x0 : RHead) : Ans := (call (spec_HeadInts.R x0) fun v1 => (bif (lim (((1 : Int) + (v1.length : Int)) * 8)) then (call (spec_Hash.R ([[L.int 233]] ++ v1)) fun v2 => ret (v2 : Int)) else none))
def live : Nat → Live := fun _ => []
def pats : List Pat := [.agg [.int .i64, .int .i64, .int .i64, .int .i64, .int .i64, .int .i64, .int .i64, .int .i64, .sl 3, .int .i64, .sl 3, .int .i64, .int .i64, .sl 3, .int .i64, .bool]]
def res : RP := .one (.rd (.int .i64))
noncomputable def G : List (Nat × Con) := [(134, spec_HeadInts.con), (186, spec_Hash.con)]
noncomputable abbrev E : Env := ⟨assoc Tab, conG G, 8⟩
set_option maxRecDepth 100000
theorem run_eq (n : Nat) (ls : List L) : runF E live Tryz.f188 res n (initS pats ls) = F (RHead.dec ls) := by kernel_rfl
noncomputable def md (a0 : MHead) : Int := ((spec_Hash.md ([233] ++ (spec_HeadInts.md a0))) : Int)
def gd (a0 : MHead) : Prop := (MHead.Sm (2 ^ 21) a0)
def rf (a : MHead) : RHead := (MHead.r a)
theorem rf_inj (a b : MHead) (h : rf a = rf b) : a = b := by
  exact (MHead.r_inj h)
noncomputable def R (x0 : RHead) : Option (Int) := ofM rf (fun a => gd a) (fun a => (md a)) x0
theorem R_eq {a0 : MHead} (h : gd a0) : R (MHead.r a0) = some (md a0) := ofM_eq (r := rf) (a := a0) rf_inj h
theorem okF (a0 : MHead) (hg : gd a0) : F (MHead.r a0) = ret ((md a0) : Int) := by
  unfold gd at hg
  have H0 := hg
  unfold F md
  try simp only [bytesL_map, List.length_map, toNat_nat, iAt_getD, bAt_getD, sAt_getD, lAt_getD]
  refine call_to ((spec_HeadInts.md a0).map iRow) ?_ ?_
  · have R_ := spec_HeadInts.R_eq (a0 := a0) H0
    first | exact R_ | (simp only [List.map_append, List.map_cons, List.map_nil, List.cons_append, List.nil_append, iRow, sRow, bRow, lRow, List.map_set, bytesL_map, List.length_map, toNat_nat, iAt_getD, bAt_getD, sAt_getD, lAt_getD] at R_ ⊢; first | exact R_ | (rw [← R_]; rfl))
  try simp only [bytesL_map, List.length_map, toNat_nat, iAt_getD, bAt_getD, sAt_getD, lAt_getD]
  refine yes_ret (by
      have := spec_HeadInts.len a0
      have := (H0.1).1
      have := (H0.2.1).1
      have := (H0.2.2).1
      refine lim_t ?_
      try simp (disch := omega) only [List.sum_cons, List.sum_nil, List.map_cons, List.map_nil, bytesI_length, bytesL_length, List.length_append, List.length_cons, List.length_nil, List.length_map, List.length_set, List.length_replicate, List.length_take, List.length_drop, Go.IntWalk.i64_in]
      first | omega | (simp; done) | (simp; omega)) ?_
  refine call_to (spec_Hash.md ([233] ++ (spec_HeadInts.md a0))) ?_ ?_
  · have R_ := spec_Hash.R_eq (a0 := ([233] ++ (spec_HeadInts.md a0))) ⟨(by
        have := spec_HeadInts.len a0
        have := (H0.1).1
        have := (H0.2.1).1
        have := (H0.2.2).1
        try simp (disch := omega) only [List.sum_cons, List.sum_nil, List.map_cons, List.map_nil, bytesI_length, bytesL_length, List.length_append, List.length_cons, List.length_nil, List.length_map, List.length_set, List.length_replicate, List.length_take, List.length_drop, Go.IntWalk.i64_in]
        first | omega | (simp; done) | (simp; omega)), fun _ _ => trivial⟩
    first | exact R_ | (simp only [List.map_append, List.map_cons, List.map_nil, List.cons_append, List.nil_append, iRow, sRow, bRow, lRow, List.map_set, bytesL_map, List.length_map, toNat_nat, iAt_getD, bAt_getD, sAt_getD, lAt_getD] at R_ ⊢; first | exact R_ | (rw [← R_]; rfl))
  try simp only [bytesL_map, List.length_map, toNat_nat, iAt_getD, bAt_getD, sAt_getD, lAt_getD]
  all_goals first | rfl | (simp only [bytesL_map, List.length_map, toNat_nat, iAt_getD, bAt_getD, sAt_getD, lAt_getD]; done) | (simp only [List.map_append, List.map_cons, List.map_nil, List.cons_append, List.nil_append, iRow, sRow, bRow, lRow, List.map_set]; rfl) | (simp only [bytesL_map, List.length_map, toNat_nat, iAt_getD, bAt_getD, sAt_getD, lAt_getD, List.map_append, List.map_cons, List.map_nil, List.cons_append, List.nil_append, iRow, sRow, bRow, lRow, List.map_set]; first | done | rfl)
noncomputable def sem (ls : List L) : Option (List L) := (R (RHead.dec ls)).map RT.enc
theorem ok (ls q : List L) (hl : LOKs Ev.cells pats ls) (h : sem ls = some q) : ∃ n, runF E live Tryz.f188 res n (initS pats ls) = some q := by
  obtain ⟨v, hv, hq⟩ := map_some h
  obtain ⟨a0, hg, e, hm⟩ := ofM_some hv
  have e0 : (MHead.r a0) = _ := e
  have hn := okF a0 hg
  refine ⟨0, (run_eq 0 ls).trans ?_⟩
  rw [← e0]
  rw [hn, ← hq, hm]; rfl
noncomputable def con : Con := ⟨pats, res, sem⟩
theorem chk : fnB Tryz.f188 con 8 = true := by kernel_rfl
theorem valid_ : Valid Tryz.prog Ev 188 con := valid mix tab_ok (.cons spec_HeadInts.valid_ (.cons spec_Hash.valid_ .nil)) Tryz.func188 chk live ok
end spec_HeadDigest
/-! spec.l15Owner -/
namespace spec_l15Owner
noncomputable def F (x0 : RHead) (x1 : RHead) : Ans := (bif x0.fFrozen then ret (4 : Int) else (bif x1.fFrozen then ret (6 : Int) else ret (1 : Int)))
def live : Nat → Live := fun _ => []
def pats : List Pat := [.agg [.int .i64, .int .i64, .int .i64, .int .i64, .int .i64, .int .i64, .int .i64, .int .i64, .sl 3, .int .i64, .sl 3, .int .i64, .int .i64, .sl 3, .int .i64, .bool], .agg [.int .i64, .int .i64, .int .i64, .int .i64, .int .i64, .int .i64, .int .i64, .int .i64, .sl 3, .int .i64, .sl 3, .int .i64, .int .i64, .sl 3, .int .i64, .bool]]
def res : RP := .one (.rd (.int .i64))
noncomputable def G : List (Nat × Con) := []
noncomputable abbrev E : Env := ⟨assoc Tab, conG G, 11⟩
set_option maxRecDepth 100000
theorem run_eq (n : Nat) (ls : List L) : runF E live Tryz.f189 res n (initS pats ls) = F (RHead.dec ls) (RHead.dec (dropT 16 ls)) := by kernel_rfl
noncomputable def md (a0 : MHead) (a1 : MHead) : Int := (bif a0.fFrozen then (4 : Int) else (bif a1.fFrozen then (6 : Int) else (1 : Int)))
def gd (a0 : MHead) (a1 : MHead) : Prop := True
def rf (a : MHead × MHead) : RHead × RHead := ((MHead.r a.1), (MHead.r a.2))
theorem rf_inj (a b : MHead × MHead) (h : rf a = rf b) : a = b := by
  exact (Prod.ext (MHead.r_inj (congrArg (fun x => x.1) h)) (MHead.r_inj (congrArg (fun x => x.2) h)))
noncomputable def R (x0 : RHead) (x1 : RHead) : Option (Int) := ofM rf (fun a => gd a.1 a.2) (fun a => (md a.1 a.2)) (x0, x1)
theorem R_eq {a0 : MHead} {a1 : MHead} (h : gd a0 a1) : R (MHead.r a0) (MHead.r a1) = some (md a0 a1) := ofM_eq (r := rf) (a := (a0, a1)) rf_inj h
theorem okF (a0 : MHead) (a1 : MHead) (hg : gd a0 a1) : F (MHead.r a0) (MHead.r a1) = ret ((md a0 a1) : Int) := by
  unfold F md
  try simp only [bytesL_map, List.length_map, toNat_nat, iAt_getD, bAt_getD, sAt_getD, lAt_getD, MHead.r_fFrozen]
  refine bif_out (fun b : Int => ret (b : Int)) (fun c1 => ?_) (fun c1 => ?_)
  · all_goals first | rfl | (simp only [bytesL_map, List.length_map, toNat_nat, iAt_getD, bAt_getD, sAt_getD, lAt_getD, MHead.r_fFrozen]; done) | (simp only [List.map_append, List.map_cons, List.map_nil, List.cons_append, List.nil_append, iRow, sRow, bRow, lRow, List.map_set]; rfl) | (simp only [bytesL_map, List.length_map, toNat_nat, iAt_getD, bAt_getD, sAt_getD, lAt_getD, MHead.r_fFrozen, List.map_append, List.map_cons, List.map_nil, List.cons_append, List.nil_append, iRow, sRow, bRow, lRow, List.map_set]; first | done | rfl)
  · refine bif_out (fun b : Int => ret (b : Int)) (fun c2 => ?_) (fun c2 => ?_)
    · all_goals first | rfl | (simp only [bytesL_map, List.length_map, toNat_nat, iAt_getD, bAt_getD, sAt_getD, lAt_getD, MHead.r_fFrozen]; done) | (simp only [List.map_append, List.map_cons, List.map_nil, List.cons_append, List.nil_append, iRow, sRow, bRow, lRow, List.map_set]; rfl) | (simp only [bytesL_map, List.length_map, toNat_nat, iAt_getD, bAt_getD, sAt_getD, lAt_getD, MHead.r_fFrozen, List.map_append, List.map_cons, List.map_nil, List.cons_append, List.nil_append, iRow, sRow, bRow, lRow, List.map_set]; first | done | rfl)
    · all_goals first | rfl | (simp only [bytesL_map, List.length_map, toNat_nat, iAt_getD, bAt_getD, sAt_getD, lAt_getD, MHead.r_fFrozen]; done) | (simp only [List.map_append, List.map_cons, List.map_nil, List.cons_append, List.nil_append, iRow, sRow, bRow, lRow, List.map_set]; rfl) | (simp only [bytesL_map, List.length_map, toNat_nat, iAt_getD, bAt_getD, sAt_getD, lAt_getD, MHead.r_fFrozen, List.map_append, List.map_cons, List.map_nil, List.cons_append, List.nil_append, iRow, sRow, bRow, lRow, List.map_set]; first | done | rfl)
noncomputable def sem (ls : List L) : Option (List L) := (R (RHead.dec ls) (RHead.dec (dropT 16 ls))).map RT.enc
theorem ok (ls q : List L) (hl : LOKs Ev.cells pats ls) (h : sem ls = some q) : ∃ n, runF E live Tryz.f189 res n (initS pats ls) = some q := by
  obtain ⟨v, hv, hq⟩ := map_some h
  obtain ⟨⟨a0, a1⟩, hg, e, hm⟩ := ofM_some hv
  simp only [rf, Prod.mk.injEq] at e
  obtain ⟨e0, e1⟩ := e
  have hn := okF a0 a1 hg
  refine ⟨0, (run_eq 0 ls).trans ?_⟩
  rw [← e0, ← e1]
  rw [hn, ← hq, hm]; rfl
noncomputable def con : Con := ⟨pats, res, sem⟩
theorem chk : fnB Tryz.f189 con 11 = true := by kernel_rfl
theorem valid_ : Valid Tryz.prog Ev 189 con := valid mix tab_ok .nil Tryz.func189 chk live ok
end spec_l15Owner
end Go.DM
