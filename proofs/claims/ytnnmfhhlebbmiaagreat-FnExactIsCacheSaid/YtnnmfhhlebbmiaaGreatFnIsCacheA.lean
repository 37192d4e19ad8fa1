/- What the functions compute that the law reaches, and that the law returns true. Conditions: none. -/
import Derived.Test.YtnnmfhhlebbmiaaGreatTy
import Derived.Test.YtnnmfhhlebbmiaaGreatProg
import Derived.Lib.AppendZerosOnto
import Derived.Lib.Bytealg
import Derived.Laws.Externs
import Derived.Lib.Walk
import Derived.Lib.Hide
import Derived.Lib.Strings
set_option linter.all false
namespace Go.DM
open Go.Proofs
def Tab : List (Nat × TI) := [
  (2, ⟨[.int .i64], false, [], 8, false⟩),
  (3, ⟨[.int .i64], false, [], 8, false⟩),
  (4, ⟨[.bool], false, [], 1, false⟩),
  (5, ⟨[.int .u8], false, [], 1, false⟩),
  (6, ⟨[.int .u8], false, [], 1, false⟩),
  (7, ⟨[.int .i64, .int .i64, .bool, .int .u8], true, [(0, 2), (1, 3), (2, 4), (3, 6)], 24, false⟩),
  (8, ⟨[.int .i64, .int .i64, .bool, .int .u8], true, [(0, 2), (1, 3), (2, 4), (3, 6)], 24, false⟩),
  (9, ⟨[.str], false, [], 16, false⟩),
  (10, ⟨[.str], false, [], 16, false⟩),
  (11, ⟨[.str], false, [], 16, false⟩),
  (12, ⟨[.int .u64], false, [], 8, false⟩),
  (13, ⟨[.str, .int .u64], true, [(0, 9), (1, 12)], 24, false⟩),
  (14, ⟨[.str, .int .u64], true, [(0, 9), (1, 12)], 24, false⟩),
  (21, ⟨[.int .i32], false, [], 4, false⟩),
  (22, ⟨[.sl 35], false, [], 24, false⟩),
  (23, ⟨[.sl 137], false, [], 24, false⟩),
  (24, ⟨[.sl 35, .sl 137], true, [(0, 22), (1, 23)], 48, false⟩),
  (25, ⟨[.sl 35, .sl 137], true, [(0, 22), (1, 23)], 48, false⟩),
  (28, ⟨[.sl 38], false, [], 24, false⟩),
  (29, ⟨[.sl 95], false, [], 24, false⟩),
  (30, ⟨[.sl 38, .sl 95], true, [(0, 28), (1, 29)], 48, false⟩),
  (31, ⟨[.sl 38, .sl 95], true, [(0, 28), (1, 29)], 48, false⟩),
  (35, ⟨[.sl 108], false, [], 24, false⟩),
  (38, ⟨[.sl 92], false, [], 24, false⟩),
  (42, ⟨[.sl 9], false, [], 24, false⟩),
  (43, ⟨[.str, .int .i64, .int .i64, .sl 9], true, [(0, 9), (1, 3), (2, 3), (3, 42)], 56, false⟩),
  (44, ⟨[.str, .int .i64, .int .i64, .sl 9], true, [(0, 9), (1, 3), (2, 3), (3, 42)], 56, false⟩),
  (45, ⟨[.sl 3], false, [], 24, false⟩),
  (46, ⟨[.sl 35, .sl 137, .int .i64, .str, .int .i64, .int .i64, .sl 9, .sl 3, .int .i64], true, [(0, 25), (2, 3), (3, 44), (7, 45), (8, 3)], 144, false⟩),
  (47, ⟨[.sl 35, .sl 137, .int .i64, .str, .int .i64, .int .i64, .sl 9, .sl 3, .int .i64], true, [(0, 25), (2, 3), (3, 44), (7, 45), (8, 3)], 144, false⟩),
  (48, ⟨[.sl 168], false, [], 24, false⟩),
  (49, ⟨[.sl 168], true, [(0, 48)], 24, false⟩),
  (50, ⟨[.sl 168], true, [(0, 48)], 24, false⟩),
  (51, ⟨[.sl 35, .sl 137, .int .i64, .str, .int .i64, .int .i64, .sl 9, .sl 3, .int .i64, .sl 168], true, [(0, 47), (9, 50)], 168, false⟩),
  (52, ⟨[.sl 35, .sl 137, .int .i64, .str, .int .i64, .int .i64, .sl 9, .sl 3, .int .i64, .sl 168], true, [(0, 47), (9, 50)], 168, false⟩),
  (55, ⟨[.str, .int .i64, .int .i64, .sl 9], true, [(0, 9), (1, 3), (2, 3), (3, 42)], 56, false⟩),
  (56, ⟨[.sl 38, .sl 95, .int .i64, .str, .int .i64, .int .i64, .sl 9, .sl 3, .int .i64], true, [(0, 31), (2, 3), (3, 55), (7, 45), (8, 3)], 144, false⟩),
  (57, ⟨[.sl 38, .sl 95, .int .i64, .str, .int .i64, .int .i64, .sl 9, .sl 3, .int .i64], true, [(0, 31), (2, 3), (3, 55), (7, 45), (8, 3)], 144, false⟩),
  (58, ⟨[.sl 124], false, [], 24, false⟩),
  (59, ⟨[.sl 124], true, [(0, 58)], 24, false⟩),
  (60, ⟨[.sl 124], true, [(0, 58)], 24, false⟩),
  (61, ⟨[.sl 38, .sl 95, .int .i64, .str, .int .i64, .int .i64, .sl 9, .sl 3, .int .i64, .sl 124], true, [(0, 57), (9, 60)], 168, false⟩),
  (62, ⟨[.sl 38, .sl 95, .int .i64, .str, .int .i64, .int .i64, .sl 9, .sl 3, .int .i64, .sl 124], true, [(0, 57), (9, 60)], 168, false⟩),
  (70, ⟨[.int .i64, .sl 9, .sl 168], true, [(0, 3), (1, 42), (2, 48)], 56, false⟩),
  (71, ⟨[.int .i64, .sl 9, .sl 168], true, [(0, 3), (1, 42), (2, 48)], 56, false⟩),
  (74, ⟨[.int .i64, .sl 9, .sl 124], true, [(0, 3), (1, 42), (2, 58)], 56, false⟩),
  (75, ⟨[.int .i64, .sl 9, .sl 124], true, [(0, 3), (1, 42), (2, 58)], 56, false⟩),
  (86, ⟨[.sl 3, .int .i64], true, [(0, 45), (1, 3)], 32, false⟩),
  (87, ⟨[.sl 3, .int .i64], true, [(0, 45), (1, 3)], 32, false⟩),
  (88, ⟨[.int .i64, .int .i64, .int .i64, .int .i64, .int .i64, .int .i64, .int .i64, .int .i64, .sl 3, .int .i64, .sl 3, .int .i64, .int .i64, .sl 3, .int .i64, .bool], true, [(0, 3), (1, 3), (2, 3), (3, 3), (4, 3), (5, 3), (6, 3), (7, 3), (8, 87), (10, 87), (12, 3), (13, 87), (15, 4)], 176, false⟩),
  (89, ⟨[.int .i64, .int .i64, .int .i64, .int .i64, .int .i64, .int .i64, .int .i64, .int .i64, .sl 3, .int .i64, .sl 3, .int .i64, .int .i64, .sl 3, .int .i64, .bool], true, [(0, 3), (1, 3), (2, 3), (3, 3), (4, 3), (5, 3), (6, 3), (7, 3), (8, 87), (10, 87), (12, 3), (13, 87), (15, 4)], 176, false⟩),
  (90, ⟨[.sl 179], false, [], 24, false⟩),
  (91, ⟨[.int .i64, .int .i64, .int .i64, .int .i64, .int .i64, .int .i64, .int .i64, .int .i64, .sl 3, .int .i64, .sl 3, .int .i64, .int .i64, .sl 3, .int .i64, .bool, .sl 179], true, [(0, 89), (16, 90)], 200, false⟩),
  (92, ⟨[.int .i64, .int .i64, .int .i64, .int .i64, .int .i64, .int .i64, .int .i64, .int .i64, .sl 3, .int .i64, .sl 3, .int .i64, .int .i64, .sl 3, .int .i64, .bool, .sl 179], true, [(0, 89), (16, 90)], 200, false⟩),
  (94, ⟨[.int .i64, .int .i64, .int .i64, .int .i64, .int .i64, .int .i64, .int .i64, .int .i64, .sl 3, .int .i64, .sl 3, .int .i64, .int .i64, .sl 3, .int .i64, .bool, .sl 179, .int .i64, .int .i64, .int .i64, .int .i64, .int .i64, .int .i64, .int .i64, .int .i64, .sl 3, .int .i64, .sl 3, .int .i64, .int .i64, .sl 3, .int .i64, .bool, .sl 179, .int .i64, .int .i64, .int .i64, .int .i64, .int .i64, .int .i64, .int .i64, .int .i64, .sl 3, .int .i64, .sl 3, .int .i64, .int .i64, .sl 3, .int .i64, .bool, .sl 179], true, [(0, 92), (17, 92), (34, 92)], 600, false⟩),
  (95, ⟨[.int .i64, .int .i64, .int .i64, .int .i64, .int .i64, .int .i64, .int .i64, .int .i64, .sl 3, .int .i64, .sl 3, .int .i64, .int .i64, .sl 3, .int .i64, .bool, .sl 179, .int .i64, .int .i64, .int .i64, .int .i64, .int .i64, .int .i64, .int .i64, .int .i64, .sl 3, .int .i64, .sl 3, .int .i64, .int .i64, .sl 3, .int .i64, .bool, .sl 179, .int .i64, .int .i64, .int .i64, .int .i64, .int .i64, .int .i64, .int .i64, .int .i64, .sl 3, .int .i64, .sl 3, .int .i64, .int .i64, .sl 3, .int .i64, .bool, .sl 179], true, [(0, 92), (17, 92), (34, 92)], 600, false⟩),
  (103, ⟨[.sl 3, .int .i64], true, [(0, 45), (1, 3)], 32, false⟩),
  (104, ⟨[.int .i64, .int .i64, .int .i64, .int .i64, .int .i64, .int .i64, .int .i64, .int .i64, .sl 3, .int .i64, .sl 3, .int .i64, .int .i64, .sl 3, .int .i64, .bool], true, [(0, 3), (1, 3), (2, 3), (3, 3), (4, 3), (5, 3), (6, 3), (7, 3), (8, 103), (10, 103), (12, 3), (13, 103), (15, 4)], 176, false⟩),
  (105, ⟨[.int .i64, .int .i64, .int .i64, .int .i64, .int .i64, .int .i64, .int .i64, .int .i64, .sl 3, .int .i64, .sl 3, .int .i64, .int .i64, .sl 3, .int .i64, .bool], true, [(0, 3), (1, 3), (2, 3), (3, 3), (4, 3), (5, 3), (6, 3), (7, 3), (8, 103), (10, 103), (12, 3), (13, 103), (15, 4)], 176, false⟩),
  (106, ⟨[.sl 189], false, [], 24, false⟩),
  (107, ⟨[.int .i64, .int .i64, .int .i64, .int .i64, .int .i64, .int .i64, .int .i64, .int .i64, .sl 3, .int .i64, .sl 3, .int .i64, .int .i64, .sl 3, .int .i64, .bool, .sl 189], true, [(0, 105), (16, 106)], 200, false⟩),
  (108, ⟨[.int .i64, .int .i64, .int .i64, .int .i64, .int .i64, .int .i64, .int .i64, .int .i64, .sl 3, .int .i64, .sl 3, .int .i64, .int .i64, .sl 3, .int .i64, .bool, .sl 189], true, [(0, 105), (16, 106)], 200, false⟩),
  (117, ⟨[.int .i64, .sl 3], true, [(0, 3), (1, 45)], 32, false⟩),
  (118, ⟨[.int .i64, .sl 3], true, [(0, 3), (1, 45)], 32, false⟩),
  (119, ⟨[.int .i64, .str, .int .i64, .int .i64, .sl 9, .str, .int .i64, .int .i64, .sl 9, .int .i64, .sl 3, .int .i64, .sl 3], true, [(0, 3), (1, 55), (5, 55), (9, 118), (11, 118)], 184, false⟩),
  (120, ⟨[.int .i64, .str, .int .i64, .int .i64, .sl 9, .str, .int .i64, .int .i64, .sl 9, .int .i64, .sl 3, .int .i64, .sl 3], true, [(0, 3), (1, 55), (5, 55), (9, 118), (11, 118)], 184, false⟩),
  (121, ⟨[.sl 92, .bool, .str, .int .i64, .int .i64, .sl 9, .int .i64, .sl 3, .int .i64, .str, .int .i64, .int .i64, .sl 9, .str, .int .i64, .int .i64, .sl 9, .int .i64, .sl 3, .int .i64, .sl 3], true, [(0, 38), (1, 4), (2, 55), (6, 118), (8, 120)], 304, false⟩),
  (122, ⟨[.sl 92, .bool, .str, .int .i64, .int .i64, .sl 9, .int .i64, .sl 3, .int .i64, .str, .int .i64, .int .i64, .sl 9, .str, .int .i64, .int .i64, .sl 9, .int .i64, .sl 3, .int .i64, .sl 3], true, [(0, 38), (1, 4), (2, 55), (6, 118), (8, 120)], 304, false⟩),
  (123, ⟨[.int .i64, .str, .sl 92, .bool, .str, .int .i64, .int .i64, .sl 9, .int .i64, .sl 3, .int .i64, .str, .int .i64, .int .i64, .sl 9, .str, .int .i64, .int .i64, .sl 9, .int .i64, .sl 3, .int .i64, .sl 3], true, [(0, 3), (1, 9), (2, 122)], 328, false⟩),
  (124, ⟨[.int .i64, .str, .sl 92, .bool, .str, .int .i64, .int .i64, .sl 9, .int .i64, .sl 3, .int .i64, .str, .int .i64, .int .i64, .sl 9, .str, .int .i64, .int .i64, .sl 9, .int .i64, .sl 3, .int .i64, .sl 3], true, [(0, 3), (1, 9), (2, 122)], 328, false⟩),
  (136, ⟨[.int .i64, .int .i64, .int .i64, .int .i64, .int .i64, .int .i64, .int .i64, .int .i64, .sl 3, .int .i64, .sl 3, .int .i64, .int .i64, .sl 3, .int .i64, .bool, .sl 189, .int .i64, .int .i64, .int .i64, .int .i64, .int .i64, .int .i64, .int .i64, .int .i64, .sl 3, .int .i64, .sl 3, .int .i64, .int .i64, .sl 3, .int .i64, .bool, .sl 189, .int .i64, .int .i64, .int .i64, .int .i64, .int .i64, .int .i64, .int .i64, .int .i64, .sl 3, .int .i64, .sl 3, .int .i64, .int .i64, .sl 3, .int .i64, .bool, .sl 189], true, [(0, 108), (17, 108), (34, 108)], 600, false⟩),
  (137, ⟨[.int .i64, .int .i64, .int .i64, .int .i64, .int .i64, .int .i64, .int .i64, .int .i64, .sl 3, .int .i64, .sl 3, .int .i64, .int .i64, .sl 3, .int .i64, .bool, .sl 189, .int .i64, .int .i64, .int .i64, .int .i64, .int .i64, .int .i64, .int .i64, .int .i64, .sl 3, .int .i64, .sl 3, .int .i64, .int .i64, .sl 3, .int .i64, .bool, .sl 189, .int .i64, .int .i64, .int .i64, .int .i64, .int .i64, .int .i64, .int .i64, .int .i64, .sl 3, .int .i64, .sl 3, .int .i64, .int .i64, .sl 3, .int .i64, .bool, .sl 189], true, [(0, 108), (17, 108), (34, 108)], 600, false⟩),
  (162, ⟨[.int .i64, .sl 3], true, [(0, 3), (1, 45)], 32, false⟩),
  (163, ⟨[.int .i64, .str, .int .i64, .int .i64, .sl 9, .str, .int .i64, .int .i64, .sl 9, .int .i64, .sl 3, .int .i64, .sl 3], true, [(0, 3), (1, 44), (5, 44), (9, 162), (11, 162)], 184, false⟩),
  (164, ⟨[.int .i64, .str, .int .i64, .int .i64, .sl 9, .str, .int .i64, .int .i64, .sl 9, .int .i64, .sl 3, .int .i64, .sl 3], true, [(0, 3), (1, 44), (5, 44), (9, 162), (11, 162)], 184, false⟩),
  (165, ⟨[.sl 108, .bool, .str, .int .i64, .int .i64, .sl 9, .int .i64, .sl 3, .int .i64, .str, .int .i64, .int .i64, .sl 9, .str, .int .i64, .int .i64, .sl 9, .int .i64, .sl 3, .int .i64, .sl 3], true, [(0, 35), (1, 4), (2, 44), (6, 162), (8, 164)], 304, false⟩),
  (166, ⟨[.sl 108, .bool, .str, .int .i64, .int .i64, .sl 9, .int .i64, .sl 3, .int .i64, .str, .int .i64, .int .i64, .sl 9, .str, .int .i64, .int .i64, .sl 9, .int .i64, .sl 3, .int .i64, .sl 3], true, [(0, 35), (1, 4), (2, 44), (6, 162), (8, 164)], 304, false⟩),
  (167, ⟨[.int .i64, .str, .sl 108, .bool, .str, .int .i64, .int .i64, .sl 9, .int .i64, .sl 3, .int .i64, .str, .int .i64, .int .i64, .sl 9, .str, .int .i64, .int .i64, .sl 9, .int .i64, .sl 3, .int .i64, .sl 3], true, [(0, 3), (1, 9), (2, 166)], 328, false⟩),
  (168, ⟨[.int .i64, .str, .sl 108, .bool, .str, .int .i64, .int .i64, .sl 9, .int .i64, .sl 3, .int .i64, .str, .int .i64, .int .i64, .sl 9, .str, .int .i64, .int .i64, .sl 9, .int .i64, .sl 3, .int .i64, .sl 3], true, [(0, 3), (1, 9), (2, 166)], 328, false⟩),
  (178, ⟨[.int .i64, .int .i64], true, [(0, 3), (1, 3)], 16, false⟩),
  (179, ⟨[.int .i64, .int .i64], true, [(0, 3), (1, 3)], 16, true⟩),
  (189, ⟨[.int .i64, .int .i64], true, [(0, 3), (1, 3)], 16, true⟩),
  (191, ⟨[.sl 55], false, [], 24, false⟩),
  (192, ⟨[.sl 92, .sl 55], true, [(0, 38), (1, 191)], 48, false⟩),
  (193, ⟨[.sl 92, .sl 55], true, [(0, 38), (1, 191)], 48, false⟩),
  (235, ⟨[.sl 45], false, [], 24, false⟩),
  (250, ⟨[.sl 5], false, [], 24, false⟩),
  (259, ⟨[.int .u32], false, [], 4, false⟩),
  (260, ⟨[.int .u8], false, [], 1, false⟩),
  (261, ⟨[.int .u8], false, [], 1, false⟩),
  (264, ⟨[.int .i32], false, [], 4, false⟩),
  (265, ⟨[.int .i32], false, [], 4, false⟩)]
noncomputable abbrev Ev : Env := ⟨assoc Tab, fun _ => [], 0⟩
theorem tab_ok : tableB Tryz.prog Tab = true := by kernel_rfl
theorem mix : Tryz.prog.follows .mixedOrders = true := by kernel_rfl
/-! laws.szIntS -/
namespace laws_szIntS
noncomputable def F (x0 : List (List L)) (x1 : Int) : Ans := (bif (decide ((IntKind.i64.wrap (x1 - (x0.length : Int))) < 0)) then ret ((-1) : Int) else ret ((IntKind.i64.wrap (x1 - (x0.length : Int))) : Int))
def pats : List Pat := [.rd (.sl 3), .rd (.int .i64)]
def res : RP := .one (.rd (.int .i64))
noncomputable abbrev E : Env := ⟨assoc Tab, conG [], 12⟩
set_option maxRecDepth 100000
theorem run_eq (n : Nat) (ls : List L) : runF E (fun _ => []) Tryz.f105 res n (initS pats ls) = F (ls.headD .hole).toSl ((dropT 1 ls).headD .hole).toInt := by kernel_rfl
noncomputable def md (a0 : List Int) (a1 : Int) : Int := szM (szL (fun y : Int => 0) a0) a1
def gd (a0 : List Int) (a1 : Int) : Prop := (SmL maxLen (fun y : Int => True) a0) ∧ 0 ≤ a1 ∧ a1 ≤ 1048576
def acc (ls : List L) : List (List L) × Int := ((ls.headD .hole).toSl, ((dropT 1 ls).headD .hole).toInt)
noncomputable def R : (List (List L) × Int) → Option Int := RR (p2 gd) (u2 md)
theorem R_eq {a0} {a1} (h : gd a0 a1) : R ((a0.map iRow), a1) = some (md a0 a1) := RR_eq (a := (a0, a1)) h
noncomputable def con : Con := CN pats res acc R
theorem okF (a0 : List Int) (a1 : Int) (hg : gd a0 a1) : F (a0.map iRow) a1 = ret ((md a0 a1) : Int) := by
  obtain ⟨hs, g0, g1⟩ := hg
  unfold F md
  rw [List.length_map, sz_wrap g0 g1 hs.1]
  have e : szL (fun y : Int => 0) a0 = a0.length := by
    unfold szL
    have : (a0.map (fun y : Int => 0)).sum = 0 := sum_zero (fun _ => rfl) a0
    omega
  rw [e]
  by_cases hc : a1 < ((a0.length : Nat) : Int)
  · rw [szM_neg hc, decide_eq_true (by omega)]; rfl
  · rw [szM_pos hc, decide_eq_false (by omega)]; rfl
theorem valid_ : Valid Tryz.prog Ev 105 con := VV (run := fun _ x => F x.1 x.2) mix tab_ok .nil Tryz.func105 (by kernel_rfl) run_eq (fun _ a _ _ hg => ⟨0, okF a.1 a.2 hg⟩)
end laws_szIntS
/-! laws.szKeys -/
namespace laws_szKeys
noncomputable def F (x0 : RKeys) (x1 : Int) : Ans := (call (laws_szIntS.R (x0.fList, x1)) fun v1 => (bif (decide (v1 < 0)) then ret ((-1) : Int) else ret (v1 : Int)))
def pats : List Pat := [.agg [.sl 3, .int .i64], .rd (.int .i64)]
def res : RP := .one (.rd (.int .i64))
noncomputable abbrev E : Env := ⟨assoc Tab, conG [(105, laws_szIntS.con)], 12⟩
set_option maxRecDepth 100000
theorem run_eq (n : Nat) (ls : List L) : runF E (fun _ => []) Tryz.f146 res n (initS pats ls) = F (RKeys.dec ls) ((dropT 2 ls).headD .hole).toInt := by kernel_rfl
noncomputable def md (a0 : MKeys) (a1 : Int) : Int := szM (MKeys.size a0) a1
def gd (a0 : MKeys) (a1 : Int) : Prop := (MKeys.Sm maxLen a0) ∧ 0 ≤ a1 ∧ a1 ≤ 1048576
def acc (ls : List L) : RKeys × Int := ((RKeys.dec ls), ((dropT 2 ls).headD .hole).toInt)
noncomputable def R : (RKeys × Int) → Option Int := RR (p2 gd) (u2 md)
theorem R_eq {a0} {a1} (h : gd a0 a1) : R ((MKeys.r a0), a1) = some (md a0 a1) := RR_eq (a := (a0, a1)) h
noncomputable def con : Con := CN pats res acc R
theorem okF (a0 : MKeys) (a1 : Int) (hg : gd a0 a1) : F (MKeys.r a0) a1 = ret ((md a0 a1) : Int) := by
  obtain ⟨hs, g0, g1⟩ := hg
  unfold md
  show (call (laws_szIntS.R ((a0.fList.map iRow), a1)) fun v1 => (bif (decide (v1 < 0)) then ret ((-1) : Int) else ret (v1 : Int))) = _
  rw [call_eq (laws_szIntS.R_eq (a1 := a1) ⟨hs, by omega, by omega⟩)]
  unfold laws_szIntS.md
  by_cases c0 : a1 < ((szL (fun y : Int => 0) a0.fList : Nat) : Int)
  · rw [szM_neg c0]; rw [show szM (MKeys.size a0) a1 = -1 from szM_neg (by unfold MKeys.size; omega)]; try rfl
  rw [szM_pos c0, dec_neg (by omega), cond_false]
  rw [show szM (MKeys.size a0) a1 = a1 - ((szL (fun y : Int => 0) a0.fList : Nat) : Int) from by rw [szM_pos (by unfold MKeys.size; omega)]; unfold MKeys.size; omega]
theorem valid_ : Valid Tryz.prog Ev 146 con := VV (run := fun _ x => F x.1 x.2) mix tab_ok (.cons laws_szIntS.valid_ .nil) Tryz.func146 (by kernel_rfl) run_eq (fun _ a _ _ hg => ⟨0, okF a.1 a.2 hg⟩)
end laws_szKeys
/-! laws.szHead -/
namespace laws_szHead
noncomputable def F (x0 : RHead) (x1 : Int) : Ans := (call (laws_szKeys.R (x0.fKeys, x1)) fun v1 => (bif (decide (v1 < 0)) then ret ((-1) : Int) else (call (laws_szKeys.R (x0.fHeirs, v1)) fun v2 => (bif (decide (v2 < 0)) then ret ((-1) : Int) else (call (laws_szKeys.R (x0.fJudge, v2)) fun v3 => (bif (decide (v3 < 0)) then ret ((-1) : Int) else ret (v3 : Int)))))))
def pats : List Pat := [.agg [.int .i64, .int .i64, .int .i64, .int .i64, .int .i64, .int .i64, .int .i64, .int .i64, .sl 3, .int .i64, .sl 3, .int .i64, .int .i64, .sl 3, .int .i64, .bool], .rd (.int .i64)]
def res : RP := .one (.rd (.int .i64))
noncomputable abbrev E : Env := ⟨assoc Tab, conG [(146, laws_szKeys.con)], 24⟩
set_option maxRecDepth 100000
theorem run_eq (n : Nat) (ls : List L) : runF E (fun _ => []) Tryz.f98 res n (initS pats ls) = F (RHead.dec ls) ((dropT 16 ls).headD .hole).toInt := by kernel_rfl
noncomputable def md (a0 : MHead) (a1 : Int) : Int := szM (MHead.size a0) a1
def gd (a0 : MHead) (a1 : Int) : Prop := (MHead.Sm maxLen a0) ∧ 0 ≤ a1 ∧ a1 ≤ 1048576
def acc (ls : List L) : RHead × Int := ((RHead.dec ls), ((dropT 16 ls).headD .hole).toInt)
noncomputable def R : (RHead × Int) → Option Int := RR (p2 gd) (u2 md)
theorem R_eq {a0} {a1} (h : gd a0 a1) : R ((MHead.r a0), a1) = some (md a0 a1) := RR_eq (a := (a0, a1)) h
noncomputable def con : Con := CN pats res acc R
theorem okF (a0 : MHead) (a1 : Int) (hg : gd a0 a1) : F (MHead.r a0) a1 = ret ((md a0 a1) : Int) := by
  obtain ⟨hs, g0, g1⟩ := hg
  unfold md
  show (call (laws_szKeys.R ((MKeys.r a0.fKeys), a1)) fun v1 => (bif (decide (v1 < 0)) then ret ((-1) : Int) else (call (laws_szKeys.R ((MKeys.r a0.fHeirs), v1)) fun v2 => (bif (decide (v2 < 0)) then ret ((-1) : Int) else (call (laws_szKeys.R ((MKeys.r a0.fJudge), v2)) fun v3 => (bif (decide (v3 < 0)) then ret ((-1) : Int) else ret (v3 : Int))))))) = _
  rw [call_eq (laws_szKeys.R_eq (a1 := a1) ⟨hs.1, by omega, by omega⟩)]
  unfold laws_szKeys.md
  by_cases c0 : a1 < ((MKeys.size a0.fKeys : Nat) : Int)
  · rw [szM_neg c0]; rw [show szM (MHead.size a0) a1 = -1 from szM_neg (by unfold MHead.size; omega)]; try rfl
  rw [szM_pos c0, dec_neg (by omega), cond_false]
  rw [call_eq (laws_szKeys.R_eq (a1 := (a1 - ((MKeys.size a0.fKeys : Nat) : Int))) ⟨hs.2.1, by omega, by omega⟩)]
  unfold laws_szKeys.md
  by_cases c1 : (a1 - ((MKeys.size a0.fKeys : Nat) : Int)) < ((MKeys.size a0.fHeirs : Nat) : Int)
  · rw [szM_neg c1]; rw [show szM (MHead.size a0) a1 = -1 from szM_neg (by unfold MHead.size; omega)]; try rfl
  rw [szM_pos c1, dec_neg (by omega), cond_false]
  rw [call_eq (laws_szKeys.R_eq (a1 := (a1 - ((MKeys.size a0.fKeys : Nat) : Int) - ((MKeys.size a0.fHeirs : Nat) : Int))) ⟨hs.2.2, by omega, by omega⟩)]
  unfold laws_szKeys.md
  by_cases c2 : (a1 - ((MKeys.size a0.fKeys : Nat) : Int) - ((MKeys.size a0.fHeirs : Nat) : Int)) < ((MKeys.size a0.fJudge : Nat) : Int)
  · rw [szM_neg c2]; rw [show szM (MHead.size a0) a1 = -1 from szM_neg (by unfold MHead.size; omega)]; try rfl
  rw [szM_pos c2, dec_neg (by omega), cond_false]
  rw [show szM (MHead.size a0) a1 = a1 - ((MKeys.size a0.fKeys : Nat) : Int) - ((MKeys.size a0.fHeirs : Nat) : Int) - ((MKeys.size a0.fJudge : Nat) : Int) from by rw [szM_pos (by unfold MHead.size; omega)]; unfold MHead.size; omega]
theorem valid_ : Valid Tryz.prog Ev 98 con := VV (run := fun _ x => F x.1 x.2) mix tab_ok (.cons laws_szKeys.valid_ .nil) Tryz.func98 (by kernel_rfl) run_eq (fun _ a _ _ hg => ⟨0, okF a.1 a.2 hg⟩)
end laws_szHead
/-! laws.szSigS -/
namespace laws_szSigS
noncomputable def F (x0 : List (List L)) (x1 : Int) : Ans := (bif (decide ((IntKind.i64.wrap (x1 - (x0.length : Int))) < 0)) then ret ((-1) : Int) else ret ((IntKind.i64.wrap (x1 - (x0.length : Int))) : Int))
def pats : List Pat := [.rd (.sl 189), .rd (.int .i64)]
def res : RP := .one (.rd (.int .i64))
noncomputable abbrev E : Env := ⟨assoc Tab, conG [], 12⟩
set_option maxRecDepth 100000
theorem run_eq (n : Nat) (ls : List L) : runF E (fun _ => []) Tryz.f99 res n (initS pats ls) = F (ls.headD .hole).toSl ((dropT 1 ls).headD .hole).toInt := by kernel_rfl
noncomputable def md (a0 : List MSig) (a1 : Int) : Int := szM (szL (fun y : MSig => MSig.size y) a0) a1
def gd (a0 : List MSig) (a1 : Int) : Prop := (SmL maxLen (fun y : MSig => MSig.Sm maxLen y) a0) ∧ 0 ≤ a1 ∧ a1 ≤ 1048576
def acc (ls : List L) : List (List L) × Int := ((ls.headD .hole).toSl, ((dropT 1 ls).headD .hole).toInt)
noncomputable def R : (List (List L) × Int) → Option Int := RR (p2 gd) (u2 md)
theorem R_eq {a0} {a1} (h : gd a0 a1) : R ((a0.map MSig.row), a1) = some (md a0 a1) := RR_eq (a := (a0, a1)) h
noncomputable def con : Con := CN pats res acc R
theorem okF (a0 : List MSig) (a1 : Int) (hg : gd a0 a1) : F (a0.map MSig.row) a1 = ret ((md a0 a1) : Int) := by
  obtain ⟨hs, g0, g1⟩ := hg
  unfold F md
  rw [List.length_map, sz_wrap g0 g1 hs.1]
  have e : szL (fun y : MSig => MSig.size y) a0 = a0.length := by
    unfold szL
    have : (a0.map (fun y : MSig => MSig.size y)).sum = 0 := sum_zero (fun _ => rfl) a0
    omega
  rw [e]
  by_cases hc : a1 < ((a0.length : Nat) : Int)
  · rw [szM_neg hc, decide_eq_true (by omega)]; rfl
  · rw [szM_pos hc, decide_eq_false (by omega)]; rfl
theorem valid_ : Valid Tryz.prog Ev 99 con := VV (run := fun _ x => F x.1 x.2) mix tab_ok .nil Tryz.func99 (by kernel_rfl) run_eq (fun _ a _ _ hg => ⟨0, okF a.1 a.2 hg⟩)
end laws_szSigS
/-! laws.szSigned -/
namespace laws_szSigned
noncomputable def F (x0 : RSigned) (x1 : Int) : Ans := (call (laws_szHead.R (x0.fHead, x1)) fun v1 => (bif (decide (v1 < 0)) then ret ((-1) : Int) else (call (laws_szSigS.R (x0.fSigs, v1)) fun v2 => (bif (decide (v2 < 0)) then ret ((-1) : Int) else ret (v2 : Int)))))
def pats : List Pat := [.agg [.int .i64, .int .i64, .int .i64, .int .i64, .int .i64, .int .i64, .int .i64, .int .i64, .sl 3, .int .i64, .sl 3, .int .i64, .int .i64, .sl 3, .int .i64, .bool, .sl 189], .rd (.int .i64)]
def res : RP := .one (.rd (.int .i64))
noncomputable abbrev E : Env := ⟨assoc Tab, conG [(98, laws_szHead.con), (99, laws_szSigS.con)], 18⟩
set_option maxRecDepth 100000
theorem run_eq (n : Nat) (ls : List L) : runF E (fun _ => []) Tryz.f53 res n (initS pats ls) = F (RSigned.dec ls) ((dropT 17 ls).headD .hole).toInt := by kernel_rfl
noncomputable def md (a0 : MSigned) (a1 : Int) : Int := szM (MSigned.size a0) a1
def gd (a0 : MSigned) (a1 : Int) : Prop := (MSigned.Sm maxLen a0) ∧ 0 ≤ a1 ∧ a1 ≤ 1048576
def acc (ls : List L) : RSigned × Int := ((RSigned.dec ls), ((dropT 17 ls).headD .hole).toInt)
noncomputable def R : (RSigned × Int) → Option Int := RR (p2 gd) (u2 md)
theorem R_eq {a0} {a1} (h : gd a0 a1) : R ((MSigned.r a0), a1) = some (md a0 a1) := RR_eq (a := (a0, a1)) h
noncomputable def con : Con := CN pats res acc R
theorem okF (a0 : MSigned) (a1 : Int) (hg : gd a0 a1) : F (MSigned.r a0) a1 = ret ((md a0 a1) : Int) := by
  obtain ⟨hs, g0, g1⟩ := hg
  unfold md
  show (call (laws_szHead.R ((MHead.r a0.fHead), a1)) fun v1 => (bif (decide (v1 < 0)) then ret ((-1) : Int) else (call (laws_szSigS.R ((a0.fSigs.map MSig.row), v1)) fun v2 => (bif (decide (v2 < 0)) then ret ((-1) : Int) else ret (v2 : Int))))) = _
  rw [call_eq (laws_szHead.R_eq (a1 := a1) ⟨hs.1, by omega, by omega⟩)]
  unfold laws_szHead.md
  by_cases c0 : a1 < ((MHead.size a0.fHead : Nat) : Int)
  · rw [szM_neg c0]; rw [show szM (MSigned.size a0) a1 = -1 from szM_neg (by unfold MSigned.size; omega)]; try rfl
  rw [szM_pos c0, dec_neg (by omega), cond_false]
  rw [call_eq (laws_szSigS.R_eq (a1 := (a1 - ((MHead.size a0.fHead : Nat) : Int))) ⟨hs.2, by omega, by omega⟩)]
  unfold laws_szSigS.md
  by_cases c1 : (a1 - ((MHead.size a0.fHead : Nat) : Int)) < ((szL (fun y : MSig => MSig.size y) a0.fSigs : Nat) : Int)
  · rw [szM_neg c1]; rw [show szM (MSigned.size a0) a1 = -1 from szM_neg (by unfold MSigned.size; omega)]; try rfl
  rw [szM_pos c1, dec_neg (by omega), cond_false]
  rw [show szM (MSigned.size a0) a1 = a1 - ((MHead.size a0.fHead : Nat) : Int) - ((szL (fun y : MSig => MSig.size y) a0.fSigs : Nat) : Int) from by rw [szM_pos (by unfold MSigned.size; omega)]; unfold MSigned.size; omega]
theorem valid_ : Valid Tryz.prog Ev 53 con := VV (run := fun _ x => F x.1 x.2) mix tab_ok (.cons laws_szHead.valid_ (.cons laws_szSigS.valid_ .nil)) Tryz.func53 (by kernel_rfl) run_eq (fun _ a _ _ hg => ⟨0, okF a.1 a.2 hg⟩)
end laws_szSigned
/-! laws.szSignedS -/
namespace laws_szSignedS
inductive Pt where
  | p0 (a : List (List L)) (b : Int) (c : Int)
def pid : Pt → Nat
  | .p0 .. => 5
def pvs : Pt → List V
  | .p0 a b c => [.sl none 108 a, .int .i64 b, .int .i64 c]
def phs : Pt → List Root
  | .p0 a b c => []
noncomputable def step (J : Pt → Ans) : Pt → Ans
  | .p0 a b c => (bif (decide (c < (a.length : Int))) then (bif (decide ((0 : Int) ≤ c)) then (bif (decide (c < (a.length : Int))) then (call (laws_szSigned.R ((RSigned.at a (Int.toNat c)), b)) fun v1 => (bif (decide (v1 < 0)) then ret ((-1) : Int) else J (.p0 a v1 (IntKind.i64.wrap (c + 1))))) else none) else none) else ret (b : Int))
noncomputable def start (J : Pt → Ans) (x0 : List (List L)) (x1 : Int) : Ans := (bif (decide ((IntKind.i64.wrap (x1 - (x0.length : Int))) < 0)) then ret ((-1) : Int) else J (.p0 x0 (IntKind.i64.wrap (x1 - (x0.length : Int))) 0))
def live : Nat → Live := fun i => match i with | 5 => [(0, none), (1, none), (5, none)] | _ => []
def pats : List Pat := [.rd (.sl 108), .rd (.int .i64)]
def res : RP := .one (.rd (.int .i64))
noncomputable abbrev E : Env := ⟨assoc Tab, conG [(53, laws_szSigned.con)], 27⟩
set_option maxRecDepth 100000
theorem step_eq (I : Heads) (p : Pt) : enterC E live I (pid p) (bodyOf Tryz.f15) (stOf (live (pid p)) (pvs p) (phs p)) (doneK E Tryz.f15 res) = step (fun q => I (pid q) (pvs q) (phs q)) p := by
  cases p <;> kernel_rfl
theorem start_eq (I : Heads) (ls : List L) : runC E live I (bodyOf Tryz.f15) (initS pats ls) (doneK E Tryz.f15 res) = start (fun q => I (pid q) (pvs q) (phs q)) (ls.headD .hole).toSl ((dropT 1 ls).headD .hole).toInt := by kernel_rfl
theorem run_eq (n : Nat) (ls : List L) : runF E live Tryz.f15 res n (initS pats ls) = start (iter step n) (ls.headD .hole).toSl ((dropT 1 ls).headD .hole).toInt := runF_iter (id := pid) (vs := pvs) (hs := phs) (step := step) (start := fun J => start J (ls.headD .hole).toSl ((dropT 1 ls).headD .hole).toInt) step_eq (fun I => start_eq I ls) n
noncomputable def md (a0 : List MSigned) (a1 : Int) : Int := szM (szL (fun y : MSigned => MSigned.size y) a0) a1
def gd (a0 : List MSigned) (a1 : Int) : Prop := (SmL maxLen (fun y : MSigned => MSigned.Sm maxLen y) a0) ∧ 0 ≤ a1 ∧ a1 ≤ 1048576
def acc (ls : List L) : List (List L) × Int := ((ls.headD .hole).toSl, ((dropT 1 ls).headD .hole).toInt)
noncomputable def R : (List (List L) × Int) → Option Int := RR (p2 gd) (u2 md)
theorem R_eq {a0} {a1} (h : gd a0 a1) : R ((a0.map MSigned.row), a1) = some (md a0 a1) := RR_eq (a := (a0, a1)) h
noncomputable def con : Con := CN pats res acc R
theorem okF (a0 : List MSigned) (a1 : Int) (hg : gd a0 a1) : ∃ n, start (iter step n) (a0.map MSigned.row) a1 = ret ((md a0 a1) : Int) := by
  obtain ⟨hs, g0, g1⟩ := hg
  unfold start md
  simp only [List.length_map]
  refine sz_list (pt := fun left i => Pt.p0 (a0.map MSigned.row) left (i : Int)) (f := fun y : MSigned => MSigned.size y) hs.1 (fun J i h left p0 p1 => ?_) (fun J left => ?_) g0 g1
  · simp only [step, List.length_map, lt_dec h, zle_dec, cond_true, toNat_nat, MSigned.at_row h]
    rw [call_eq (laws_szSigned.R_eq ⟨hs.get h, p0, p1⟩), wrap_succ h hs.1]
    unfold laws_szSigned.md
    by_cases hc : left < ((MSigned.size (a0[i]) : Nat) : Int)
    · rw [szM_neg hc, if_pos hc]; rfl
    · rw [szM_pos hc, if_neg hc, dec_neg (by omega)]; rfl
  · simp only [step, List.length_map, nlt_dec, cond_false]
theorem valid_ : Valid Tryz.prog Ev 15 con := VV (run := fun n x => start (iter step n) x.1 x.2) mix tab_ok (.cons laws_szSigned.valid_ .nil) Tryz.func15 (by kernel_rfl) run_eq (fun _ a _ _ hg => okF a.1 a.2 hg)
end laws_szSignedS
/-! laws.szStringS -/
namespace laws_szStringS
inductive Pt where
  | p0 (a : List (List L)) (b : Int) (c : Int)
def pid : Pt → Nat
  | .p0 .. => 5
def pvs : Pt → List V
  | .p0 a b c => [.sl none 9 a, .int .i64 b, .int .i64 c]
def phs : Pt → List Root
  | .p0 a b c => []
noncomputable def step (J : Pt → Ans) : Pt → Ans
  | .p0 a b c => (bif (decide (c < (a.length : Int))) then (bif (decide ((0 : Int) ≤ c)) then (bif (decide (c < (a.length : Int))) then (bif (decide ((IntKind.i64.wrap (b - ((sAt a (Int.toNat c)).size : Int))) < 0)) then ret ((-1) : Int) else J (.p0 a (IntKind.i64.wrap (b - ((sAt a (Int.toNat c)).size : Int))) (IntKind.i64.wrap (c + 1)))) else none) else none) else ret (b : Int))
noncomputable def start (J : Pt → Ans) (x0 : List (List L)) (x1 : Int) : Ans := (bif (decide ((IntKind.i64.wrap (x1 - (x0.length : Int))) < 0)) then ret ((-1) : Int) else J (.p0 x0 (IntKind.i64.wrap (x1 - (x0.length : Int))) 0))
def live : Nat → Live := fun i => match i with | 5 => [(0, none), (1, none), (5, none)] | _ => []
def pats : List Pat := [.rd (.sl 9), .rd (.int .i64)]
def res : RP := .one (.rd (.int .i64))
noncomputable abbrev E : Env := ⟨assoc Tab, conG [], 28⟩
set_option maxRecDepth 100000
theorem step_eq (I : Heads) (p : Pt) : enterC E live I (pid p) (bodyOf Tryz.f71) (stOf (live (pid p)) (pvs p) (phs p)) (doneK E Tryz.f71 res) = step (fun q => I (pid q) (pvs q) (phs q)) p := by
  cases p <;> kernel_rfl
theorem start_eq (I : Heads) (ls : List L) : runC E live I (bodyOf Tryz.f71) (initS pats ls) (doneK E Tryz.f71 res) = start (fun q => I (pid q) (pvs q) (phs q)) (ls.headD .hole).toSl ((dropT 1 ls).headD .hole).toInt := by kernel_rfl
theorem run_eq (n : Nat) (ls : List L) : runF E live Tryz.f71 res n (initS pats ls) = start (iter step n) (ls.headD .hole).toSl ((dropT 1 ls).headD .hole).toInt := runF_iter (id := pid) (vs := pvs) (hs := phs) (step := step) (start := fun J => start J (ls.headD .hole).toSl ((dropT 1 ls).headD .hole).toInt) step_eq (fun I => start_eq I ls) n
noncomputable def md (a0 : List ByteArray) (a1 : Int) : Int := szM (szL (fun y : ByteArray => y.size) a0) a1
def gd (a0 : List ByteArray) (a1 : Int) : Prop := (SmL maxLen (fun y : ByteArray => y.size ≤ maxLen) a0) ∧ 0 ≤ a1 ∧ a1 ≤ 1048576
def acc (ls : List L) : List (List L) × Int := ((ls.headD .hole).toSl, ((dropT 1 ls).headD .hole).toInt)
noncomputable def R : (List (List L) × Int) → Option Int := RR (p2 gd) (u2 md)
theorem R_eq {a0} {a1} (h : gd a0 a1) : R ((a0.map sRow), a1) = some (md a0 a1) := RR_eq (a := (a0, a1)) h
noncomputable def con : Con := CN pats res acc R
theorem okF (a0 : List ByteArray) (a1 : Int) (hg : gd a0 a1) : ∃ n, start (iter step n) (a0.map sRow) a1 = ret ((md a0 a1) : Int) := by
  obtain ⟨hs, g0, g1⟩ := hg
  unfold start md
  simp only [List.length_map]
  refine sz_list (pt := fun left i => Pt.p0 (a0.map sRow) left (i : Int)) (f := fun y : ByteArray => y.size) hs.1 (fun J i h left p0 p1 => ?_) (fun J left => ?_) g0 g1
  · simp only [step, List.length_map, lt_dec h, zle_dec, cond_true, toNat_nat, sAt_row h]
    rw [sz_wrap p0 p1 (hs.get h), wrap_succ h hs.1]
    by_cases hc : left - ((a0[i].size : Nat) : Int) < 0
    · rw [decide_eq_true hc, if_pos (by omega)]; rfl
    · rw [decide_eq_false hc, if_neg (by omega)]; rfl
  · simp only [step, List.length_map, nlt_dec, cond_false]
theorem valid_ : Valid Tryz.prog Ev 71 con := VV (run := fun n x => start (iter step n) x.1 x.2) mix tab_ok .nil Tryz.func71 (by kernel_rfl) run_eq (fun _ a _ _ hg => okF a.1 a.2 hg)
end laws_szStringS
/-! laws.szEntry -/
namespace laws_szEntry
noncomputable def F (x0 : REntry) (x1 : Int) : Ans := (bif (decide ((IntKind.i64.wrap (x1 - (x0.fLabel.size : Int))) < 0)) then ret ((-1) : Int) else (call (laws_szStringS.R (x0.fPath, (IntKind.i64.wrap (x1 - (x0.fLabel.size : Int))))) fun v1 => (bif (decide (v1 < 0)) then ret ((-1) : Int) else ret (v1 : Int))))
def pats : List Pat := [.agg [.str, .int .i64, .int .i64, .sl 9], .rd (.int .i64)]
def res : RP := .one (.rd (.int .i64))
noncomputable abbrev E : Env := ⟨assoc Tab, conG [(71, laws_szStringS.con)], 19⟩
set_option maxRecDepth 100000
theorem run_eq (n : Nat) (ls : List L) : runF E (fun _ => []) Tryz.f104 res n (initS pats ls) = F (REntry.dec ls) ((dropT 4 ls).headD .hole).toInt := by kernel_rfl
noncomputable def md (a0 : MEntry) (a1 : Int) : Int := szM (MEntry.size a0) a1
def gd (a0 : MEntry) (a1 : Int) : Prop := (MEntry.Sm maxLen a0) ∧ 0 ≤ a1 ∧ a1 ≤ 1048576
def acc (ls : List L) : REntry × Int := ((REntry.dec ls), ((dropT 4 ls).headD .hole).toInt)
noncomputable def R : (REntry × Int) → Option Int := RR (p2 gd) (u2 md)
theorem R_eq {a0} {a1} (h : gd a0 a1) : R ((MEntry.r a0), a1) = some (md a0 a1) := RR_eq (a := (a0, a1)) h
noncomputable def con : Con := CN pats res acc R
theorem okF (a0 : MEntry) (a1 : Int) (hg : gd a0 a1) : F (MEntry.r a0) a1 = ret ((md a0 a1) : Int) := by
  obtain ⟨hs, g0, g1⟩ := hg
  unfold md
  show (bif (decide ((IntKind.i64.wrap (a1 - (a0.fLabel.size : Int))) < 0)) then ret ((-1) : Int) else (call (laws_szStringS.R ((a0.fPath.map sRow), (IntKind.i64.wrap (a1 - (a0.fLabel.size : Int))))) fun v1 => (bif (decide (v1 < 0)) then ret ((-1) : Int) else ret (v1 : Int)))) = _
  rw [sz_wrap (left := a1) (s := a0.fLabel.size) (by omega) (by omega) hs.1]
  by_cases c0 : a1 - ((a0.fLabel.size : Nat) : Int) < 0
  · rw [decide_eq_true c0, cond_true]; rw [show szM (MEntry.size a0) a1 = -1 from szM_neg (by unfold MEntry.size; omega)]; try rfl
  rw [decide_eq_false c0, cond_false]
  rw [call_eq (laws_szStringS.R_eq (a1 := (a1 - ((a0.fLabel.size : Nat) : Int))) ⟨hs.2, by omega, by omega⟩)]
  unfold laws_szStringS.md
  by_cases c1 : (a1 - ((a0.fLabel.size : Nat) : Int)) < ((szL (fun y : ByteArray => y.size) a0.fPath : Nat) : Int)
  · rw [szM_neg c1]; rw [show szM (MEntry.size a0) a1 = -1 from szM_neg (by unfold MEntry.size; omega)]; try rfl
  rw [szM_pos c1, dec_neg (by omega), cond_false]
  rw [show szM (MEntry.size a0) a1 = a1 - ((a0.fLabel.size : Nat) : Int) - ((szL (fun y : ByteArray => y.size) a0.fPath : Nat) : Int) from by rw [szM_pos (by unfold MEntry.size; omega)]; unfold MEntry.size; omega]
theorem valid_ : Valid Tryz.prog Ev 104 con := VV (run := fun _ x => F x.1 x.2) mix tab_ok (.cons laws_szStringS.valid_ .nil) Tryz.func104 (by kernel_rfl) run_eq (fun _ a _ _ hg => ⟨0, okF a.1 a.2 hg⟩)
end laws_szEntry
/-! laws.szProof -/
namespace laws_szProof
noncomputable def F (x0 : RProof) (x1 : Int) : Ans := (call (laws_szIntS.R (x0.fPath, x1)) fun v1 => (bif (decide (v1 < 0)) then ret ((-1) : Int) else ret (v1 : Int)))
def pats : List Pat := [.agg [.int .i64, .sl 3], .rd (.int .i64)]
def res : RP := .one (.rd (.int .i64))
noncomputable abbrev E : Env := ⟨assoc Tab, conG [(105, laws_szIntS.con)], 12⟩
set_option maxRecDepth 100000
theorem run_eq (n : Nat) (ls : List L) : runF E (fun _ => []) Tryz.f209 res n (initS pats ls) = F (RProof.dec ls) ((dropT 2 ls).headD .hole).toInt := by kernel_rfl
noncomputable def md (a0 : MProof) (a1 : Int) : Int := szM (MProof.size a0) a1
def gd (a0 : MProof) (a1 : Int) : Prop := (MProof.Sm maxLen a0) ∧ 0 ≤ a1 ∧ a1 ≤ 1048576
def acc (ls : List L) : RProof × Int := ((RProof.dec ls), ((dropT 2 ls).headD .hole).toInt)
noncomputable def R : (RProof × Int) → Option Int := RR (p2 gd) (u2 md)
theorem R_eq {a0} {a1} (h : gd a0 a1) : R ((MProof.r a0), a1) = some (md a0 a1) := RR_eq (a := (a0, a1)) h
noncomputable def con : Con := CN pats res acc R
theorem okF (a0 : MProof) (a1 : Int) (hg : gd a0 a1) : F (MProof.r a0) a1 = ret ((md a0 a1) : Int) := by
  obtain ⟨hs, g0, g1⟩ := hg
  unfold md
  show (call (laws_szIntS.R ((a0.fPath.map iRow), a1)) fun v1 => (bif (decide (v1 < 0)) then ret ((-1) : Int) else ret (v1 : Int))) = _
  rw [call_eq (laws_szIntS.R_eq (a1 := a1) ⟨hs, by omega, by omega⟩)]
  unfold laws_szIntS.md
  by_cases c0 : a1 < ((szL (fun y : Int => 0) a0.fPath : Nat) : Int)
  · rw [szM_neg c0]; rw [show szM (MProof.size a0) a1 = -1 from szM_neg (by unfold MProof.size; omega)]; try rfl
  rw [szM_pos c0, dec_neg (by omega), cond_false]
  rw [show szM (MProof.size a0) a1 = a1 - ((szL (fun y : Int => 0) a0.fPath : Nat) : Int) from by rw [szM_pos (by unfold MProof.size; omega)]; unfold MProof.size; omega]
theorem valid_ : Valid Tryz.prog Ev 209 con := VV (run := fun _ x => F x.1 x.2) mix tab_ok (.cons laws_szIntS.valid_ .nil) Tryz.func209 (by kernel_rfl) run_eq (fun _ a _ _ hg => ⟨0, okF a.1 a.2 hg⟩)
end laws_szProof
/-! laws.szGap -/
namespace laws_szGap
noncomputable def F (x0 : RGap) (x1 : Int) : Ans := (call (laws_szEntry.R (x0.fBefore, x1)) fun v1 => (bif (decide (v1 < 0)) then ret ((-1) : Int) else (call (laws_szEntry.R (x0.fAfter, v1)) fun v2 => (bif (decide (v2 < 0)) then ret ((-1) : Int) else (call (laws_szProof.R (x0.fLeft, v2)) fun v3 => (bif (decide (v3 < 0)) then ret ((-1) : Int) else (call (laws_szProof.R (x0.fRight, v3)) fun v4 => (bif (decide (v4 < 0)) then ret ((-1) : Int) else ret (v4 : Int)))))))))
def pats : List Pat := [.agg [.int .i64, .str, .int .i64, .int .i64, .sl 9, .str, .int .i64, .int .i64, .sl 9, .int .i64, .sl 3, .int .i64, .sl 3], .rd (.int .i64)]
def res : RP := .one (.rd (.int .i64))
noncomputable abbrev E : Env := ⟨assoc Tab, conG [(104, laws_szEntry.con), (209, laws_szProof.con)], 30⟩
set_option maxRecDepth 100000
theorem run_eq (n : Nat) (ls : List L) : runF E (fun _ => []) Tryz.f210 res n (initS pats ls) = F (RGap.dec ls) ((dropT 13 ls).headD .hole).toInt := by kernel_rfl
noncomputable def md (a0 : MGap) (a1 : Int) : Int := szM (MGap.size a0) a1
def gd (a0 : MGap) (a1 : Int) : Prop := (MGap.Sm maxLen a0) ∧ 0 ≤ a1 ∧ a1 ≤ 1048576
def acc (ls : List L) : RGap × Int := ((RGap.dec ls), ((dropT 13 ls).headD .hole).toInt)
noncomputable def R : (RGap × Int) → Option Int := RR (p2 gd) (u2 md)
theorem R_eq {a0} {a1} (h : gd a0 a1) : R ((MGap.r a0), a1) = some (md a0 a1) := RR_eq (a := (a0, a1)) h
noncomputable def con : Con := CN pats res acc R
theorem okF (a0 : MGap) (a1 : Int) (hg : gd a0 a1) : F (MGap.r a0) a1 = ret ((md a0 a1) : Int) := by
  obtain ⟨hs, g0, g1⟩ := hg
  unfold md
  show (call (laws_szEntry.R ((MEntry.r a0.fBefore), a1)) fun v1 => (bif (decide (v1 < 0)) then ret ((-1) : Int) else (call (laws_szEntry.R ((MEntry.r a0.fAfter), v1)) fun v2 => (bif (decide (v2 < 0)) then ret ((-1) : Int) else (call (laws_szProof.R ((MProof.r a0.fLeft), v2)) fun v3 => (bif (decide (v3 < 0)) then ret ((-1) : Int) else (call (laws_szProof.R ((MProof.r a0.fRight), v3)) fun v4 => (bif (decide (v4 < 0)) then ret ((-1) : Int) else ret (v4 : Int))))))))) = _
  rw [call_eq (laws_szEntry.R_eq (a1 := a1) ⟨hs.1, by omega, by omega⟩)]
  unfold laws_szEntry.md
  by_cases c0 : a1 < ((MEntry.size a0.fBefore : Nat) : Int)
  · rw [szM_neg c0]; rw [show szM (MGap.size a0) a1 = -1 from szM_neg (by unfold MGap.size; omega)]; try rfl
  rw [szM_pos c0, dec_neg (by omega), cond_false]
  rw [call_eq (laws_szEntry.R_eq (a1 := (a1 - ((MEntry.size a0.fBefore : Nat) : Int))) ⟨hs.2.1, by omega, by omega⟩)]
  unfold laws_szEntry.md
  by_cases c1 : (a1 - ((MEntry.size a0.fBefore : Nat) : Int)) < ((MEntry.size a0.fAfter : Nat) : Int)
  · rw [szM_neg c1]; rw [show szM (MGap.size a0) a1 = -1 from szM_neg (by unfold MGap.size; omega)]; try rfl
  rw [szM_pos c1, dec_neg (by omega), cond_false]
  rw [call_eq (laws_szProof.R_eq (a1 := (a1 - ((MEntry.size a0.fBefore : Nat) : Int) - ((MEntry.size a0.fAfter : Nat) : Int))) ⟨hs.2.2.1, by omega, by omega⟩)]
  unfold laws_szProof.md
  by_cases c2 : (a1 - ((MEntry.size a0.fBefore : Nat) : Int) - ((MEntry.size a0.fAfter : Nat) : Int)) < ((MProof.size a0.fLeft : Nat) : Int)
  · rw [szM_neg c2]; rw [show szM (MGap.size a0) a1 = -1 from szM_neg (by unfold MGap.size; omega)]; try rfl
  rw [szM_pos c2, dec_neg (by omega), cond_false]
  rw [call_eq (laws_szProof.R_eq (a1 := (a1 - ((MEntry.size a0.fBefore : Nat) : Int) - ((MEntry.size a0.fAfter : Nat) : Int) - ((MProof.size a0.fLeft : Nat) : Int))) ⟨hs.2.2.2, by omega, by omega⟩)]
  unfold laws_szProof.md
  by_cases c3 : (a1 - ((MEntry.size a0.fBefore : Nat) : Int) - ((MEntry.size a0.fAfter : Nat) : Int) - ((MProof.size a0.fLeft : Nat) : Int)) < ((MProof.size a0.fRight : Nat) : Int)
  · rw [szM_neg c3]; rw [show szM (MGap.size a0) a1 = -1 from szM_neg (by unfold MGap.size; omega)]; try rfl
  rw [szM_pos c3, dec_neg (by omega), cond_false]
  rw [show szM (MGap.size a0) a1 = a1 - ((MEntry.size a0.fBefore : Nat) : Int) - ((MEntry.size a0.fAfter : Nat) : Int) - ((MProof.size a0.fLeft : Nat) : Int) - ((MProof.size a0.fRight : Nat) : Int) from by rw [szM_pos (by unfold MGap.size; omega)]; unfold MGap.size; omega]
theorem valid_ : Valid Tryz.prog Ev 210 con := VV (run := fun _ x => F x.1 x.2) mix tab_ok (.cons laws_szEntry.valid_ (.cons laws_szProof.valid_ .nil)) Tryz.func210 (by kernel_rfl) run_eq (fun _ a _ _ hg => ⟨0, okF a.1 a.2 hg⟩)
end laws_szGap
/-! laws.szAnswer -/
namespace laws_szAnswer
noncomputable def F (x0 : RAnswer) (x1 : Int) : Ans := (call (laws_szSignedS.R (x0.fChain, x1)) fun v1 => (bif (decide (v1 < 0)) then ret ((-1) : Int) else (call (laws_szEntry.R (x0.fEntry, v1)) fun v2 => (bif (decide (v2 < 0)) then ret ((-1) : Int) else (call (laws_szProof.R (x0.fProof, v2)) fun v3 => (bif (decide (v3 < 0)) then ret ((-1) : Int) else (call (laws_szGap.R (x0.fGap, v3)) fun v4 => (bif (decide (v4 < 0)) then ret ((-1) : Int) else ret (v4 : Int)))))))))
def pats : List Pat := [.agg [.sl 108, .bool, .str, .int .i64, .int .i64, .sl 9, .int .i64, .sl 3, .int .i64, .str, .int .i64, .int .i64, .sl 9, .str, .int .i64, .int .i64, .sl 9, .int .i64, .sl 3, .int .i64, .sl 3], .rd (.int .i64)]
def res : RP := .one (.rd (.int .i64))
noncomputable abbrev E : Env := ⟨assoc Tab, conG [(15, laws_szSignedS.con), (104, laws_szEntry.con), (209, laws_szProof.con), (210, laws_szGap.con)], 30⟩
set_option maxRecDepth 100000
theorem run_eq (n : Nat) (ls : List L) : runF E (fun _ => []) Tryz.f163 res n (initS pats ls) = F (RAnswer.dec ls) ((dropT 21 ls).headD .hole).toInt := by kernel_rfl
noncomputable def md (a0 : MAnswer) (a1 : Int) : Int := szM (MAnswer.size a0) a1
def gd (a0 : MAnswer) (a1 : Int) : Prop := (MAnswer.Sm maxLen a0) ∧ 0 ≤ a1 ∧ a1 ≤ 1048576
def acc (ls : List L) : RAnswer × Int := ((RAnswer.dec ls), ((dropT 21 ls).headD .hole).toInt)
noncomputable def R : (RAnswer × Int) → Option Int := RR (p2 gd) (u2 md)
theorem R_eq {a0} {a1} (h : gd a0 a1) : R ((MAnswer.r a0), a1) = some (md a0 a1) := RR_eq (a := (a0, a1)) h
noncomputable def con : Con := CN pats res acc R
theorem okF (a0 : MAnswer) (a1 : Int) (hg : gd a0 a1) : F (MAnswer.r a0) a1 = ret ((md a0 a1) : Int) := by
  obtain ⟨hs, g0, g1⟩ := hg
  unfold md
  show (call (laws_szSignedS.R ((a0.fChain.map MSigned.row), a1)) fun v1 => (bif (decide (v1 < 0)) then ret ((-1) : Int) else (call (laws_szEntry.R ((MEntry.r a0.fEntry), v1)) fun v2 => (bif (decide (v2 < 0)) then ret ((-1) : Int) else (call (laws_szProof.R ((MProof.r a0.fProof), v2)) fun v3 => (bif (decide (v3 < 0)) then ret ((-1) : Int) else (call (laws_szGap.R ((MGap.r a0.fGap), v3)) fun v4 => (bif (decide (v4 < 0)) then ret ((-1) : Int) else ret (v4 : Int))))))))) = _
  rw [call_eq (laws_szSignedS.R_eq (a1 := a1) ⟨hs.1, by omega, by omega⟩)]
  unfold laws_szSignedS.md
  by_cases c0 : a1 < ((szL (fun y : MSigned => MSigned.size y) a0.fChain : Nat) : Int)
  · rw [szM_neg c0]; rw [show szM (MAnswer.size a0) a1 = -1 from szM_neg (by unfold MAnswer.size; omega)]; try rfl
  rw [szM_pos c0, dec_neg (by omega), cond_false]
  rw [call_eq (laws_szEntry.R_eq (a1 := (a1 - ((szL (fun y : MSigned => MSigned.size y) a0.fChain : Nat) : Int))) ⟨hs.2.1, by omega, by omega⟩)]
  unfold laws_szEntry.md
  by_cases c1 : (a1 - ((szL (fun y : MSigned => MSigned.size y) a0.fChain : Nat) : Int)) < ((MEntry.size a0.fEntry : Nat) : Int)
  · rw [szM_neg c1]; rw [show szM (MAnswer.size a0) a1 = -1 from szM_neg (by unfold MAnswer.size; omega)]; try rfl
  rw [szM_pos c1, dec_neg (by omega), cond_false]
  rw [call_eq (laws_szProof.R_eq (a1 := (a1 - ((szL (fun y : MSigned => MSigned.size y) a0.fChain : Nat) : Int) - ((MEntry.size a0.fEntry : Nat) : Int))) ⟨hs.2.2.1, by omega, by omega⟩)]
  unfold laws_szProof.md
  by_cases c2 : (a1 - ((szL (fun y : MSigned => MSigned.size y) a0.fChain : Nat) : Int) - ((MEntry.size a0.fEntry : Nat) : Int)) < ((MProof.size a0.fProof : Nat) : Int)
  · rw [szM_neg c2]; rw [show szM (MAnswer.size a0) a1 = -1 from szM_neg (by unfold MAnswer.size; omega)]; try rfl
  rw [szM_pos c2, dec_neg (by omega), cond_false]
  rw [call_eq (laws_szGap.R_eq (a1 := (a1 - ((szL (fun y : MSigned => MSigned.size y) a0.fChain : Nat) : Int) - ((MEntry.size a0.fEntry : Nat) : Int) - ((MProof.size a0.fProof : Nat) : Int))) ⟨hs.2.2.2, by omega, by omega⟩)]
  unfold laws_szGap.md
  by_cases c3 : (a1 - ((szL (fun y : MSigned => MSigned.size y) a0.fChain : Nat) : Int) - ((MEntry.size a0.fEntry : Nat) : Int) - ((MProof.size a0.fProof : Nat) : Int)) < ((MGap.size a0.fGap : Nat) : Int)
  · rw [szM_neg c3]; rw [show szM (MAnswer.size a0) a1 = -1 from szM_neg (by unfold MAnswer.size; omega)]; try rfl
  rw [szM_pos c3, dec_neg (by omega), cond_false]
  rw [show szM (MAnswer.size a0) a1 = a1 - ((szL (fun y : MSigned => MSigned.size y) a0.fChain : Nat) : Int) - ((MEntry.size a0.fEntry : Nat) : Int) - ((MProof.size a0.fProof : Nat) : Int) - ((MGap.size a0.fGap : Nat) : Int) from by rw [szM_pos (by unfold MAnswer.size; omega)]; unfold MAnswer.size; omega]
theorem valid_ : Valid Tryz.prog Ev 163 con := VV (run := fun _ x => F x.1 x.2) mix tab_ok (.cons laws_szSignedS.valid_ (.cons laws_szEntry.valid_ (.cons laws_szProof.valid_ (.cons laws_szGap.valid_ .nil)))) Tryz.func163 (by kernel_rfl) run_eq (fun _ a _ _ hg => ⟨0, okF a.1 a.2 hg⟩)
end laws_szAnswer
/-! laws.szStored -/
namespace laws_szStored
noncomputable def F (x0 : RStored) (x1 : Int) : Ans := (bif (decide ((IntKind.i64.wrap (x1 - (x0.fLabel.size : Int))) < 0)) then ret ((-1) : Int) else (call (laws_szAnswer.R (x0.fAnswer, (IntKind.i64.wrap (x1 - (x0.fLabel.size : Int))))) fun v1 => (bif (decide (v1 < 0)) then ret ((-1) : Int) else ret (v1 : Int))))
def pats : List Pat := [.agg [.int .i64, .str, .sl 108, .bool, .str, .int .i64, .int .i64, .sl 9, .int .i64, .sl 3, .int .i64, .str, .int .i64, .int .i64, .sl 9, .str, .int .i64, .int .i64, .sl 9, .int .i64, .sl 3, .int .i64, .sl 3], .rd (.int .i64)]
def res : RP := .one (.rd (.int .i64))
noncomputable abbrev E : Env := ⟨assoc Tab, conG [(163, laws_szAnswer.con)], 19⟩
set_option maxRecDepth 100000
theorem run_eq (n : Nat) (ls : List L) : runF E (fun _ => []) Tryz.f120 res n (initS pats ls) = F (RStored.dec ls) ((dropT 23 ls).headD .hole).toInt := by kernel_rfl
noncomputable def md (a0 : MStored) (a1 : Int) : Int := szM (MStored.size a0) a1
def gd (a0 : MStored) (a1 : Int) : Prop := (MStored.Sm maxLen a0) ∧ 0 ≤ a1 ∧ a1 ≤ 1048576
def acc (ls : List L) : RStored × Int := ((RStored.dec ls), ((dropT 23 ls).headD .hole).toInt)
noncomputable def R : (RStored × Int) → Option Int := RR (p2 gd) (u2 md)
theorem R_eq {a0} {a1} (h : gd a0 a1) : R ((MStored.r a0), a1) = some (md a0 a1) := RR_eq (a := (a0, a1)) h
noncomputable def con : Con := CN pats res acc R
theorem okF (a0 : MStored) (a1 : Int) (hg : gd a0 a1) : F (MStored.r a0) a1 = ret ((md a0 a1) : Int) := by
  obtain ⟨hs, g0, g1⟩ := hg
  unfold md
  show (bif (decide ((IntKind.i64.wrap (a1 - (a0.fLabel.size : Int))) < 0)) then ret ((-1) : Int) else (call (laws_szAnswer.R ((MAnswer.r a0.fAnswer), (IntKind.i64.wrap (a1 - (a0.fLabel.size : Int))))) fun v1 => (bif (decide (v1 < 0)) then ret ((-1) : Int) else ret (v1 : Int)))) = _
  rw [sz_wrap (left := a1) (s := a0.fLabel.size) (by omega) (by omega) hs.1]
  by_cases c0 : a1 - ((a0.fLabel.size : Nat) : Int) < 0
  · rw [decide_eq_true c0, cond_true]; rw [show szM (MStored.size a0) a1 = -1 from szM_neg (by unfold MStored.size; omega)]; try rfl
  rw [decide_eq_false c0, cond_false]
  rw [call_eq (laws_szAnswer.R_eq (a1 := (a1 - ((a0.fLabel.size : Nat) : Int))) ⟨hs.2, by omega, by omega⟩)]
  unfold laws_szAnswer.md
  by_cases c1 : (a1 - ((a0.fLabel.size : Nat) : Int)) < ((MAnswer.size a0.fAnswer : Nat) : Int)
  · rw [szM_neg c1]; rw [show szM (MStored.size a0) a1 = -1 from szM_neg (by unfold MStored.size; omega)]; try rfl
  rw [szM_pos c1, dec_neg (by omega), cond_false]
  rw [show szM (MStored.size a0) a1 = a1 - ((a0.fLabel.size : Nat) : Int) - ((MAnswer.size a0.fAnswer : Nat) : Int) from by rw [szM_pos (by unfold MStored.size; omega)]; unfold MStored.size; omega]
theorem valid_ : Valid Tryz.prog Ev 120 con := VV (run := fun _ x => F x.1 x.2) mix tab_ok (.cons laws_szAnswer.valid_ .nil) Tryz.func120 (by kernel_rfl) run_eq (fun _ a _ _ hg => ⟨0, okF a.1 a.2 hg⟩)
end laws_szStored
/-! laws.szStoredS -/
namespace laws_szStoredS
inductive Pt where
  | p0 (a : List (List L)) (b : Int) (c : Int)
def pid : Pt → Nat
  | .p0 .. => 5
def pvs : Pt → List V
  | .p0 a b c => [.sl none 168 a, .int .i64 b, .int .i64 c]
def phs : Pt → List Root
  | .p0 a b c => []
noncomputable def step (J : Pt → Ans) : Pt → Ans
  | .p0 a b c => (bif (decide (c < (a.length : Int))) then (bif (decide ((0 : Int) ≤ c)) then (bif (decide (c < (a.length : Int))) then (call (laws_szStored.R ((RStored.at a (Int.toNat c)), b)) fun v1 => (bif (decide (v1 < 0)) then ret ((-1) : Int) else J (.p0 a v1 (IntKind.i64.wrap (c + 1))))) else none) else none) else ret (b : Int))
noncomputable def start (J : Pt → Ans) (x0 : List (List L)) (x1 : Int) : Ans := (bif (decide ((IntKind.i64.wrap (x1 - (x0.length : Int))) < 0)) then ret ((-1) : Int) else J (.p0 x0 (IntKind.i64.wrap (x1 - (x0.length : Int))) 0))
def live : Nat → Live := fun i => match i with | 5 => [(0, none), (1, none), (5, none)] | _ => []
def pats : List Pat := [.rd (.sl 168), .rd (.int .i64)]
def res : RP := .one (.rd (.int .i64))
noncomputable abbrev E : Env := ⟨assoc Tab, conG [(120, laws_szStored.con)], 27⟩
set_option maxRecDepth 100000
theorem step_eq (I : Heads) (p : Pt) : enterC E live I (pid p) (bodyOf Tryz.f65) (stOf (live (pid p)) (pvs p) (phs p)) (doneK E Tryz.f65 res) = step (fun q => I (pid q) (pvs q) (phs q)) p := by
  cases p <;> kernel_rfl
theorem start_eq (I : Heads) (ls : List L) : runC E live I (bodyOf Tryz.f65) (initS pats ls) (doneK E Tryz.f65 res) = start (fun q => I (pid q) (pvs q) (phs q)) (ls.headD .hole).toSl ((dropT 1 ls).headD .hole).toInt := by kernel_rfl
theorem run_eq (n : Nat) (ls : List L) : runF E live Tryz.f65 res n (initS pats ls) = start (iter step n) (ls.headD .hole).toSl ((dropT 1 ls).headD .hole).toInt := runF_iter (id := pid) (vs := pvs) (hs := phs) (step := step) (start := fun J => start J (ls.headD .hole).toSl ((dropT 1 ls).headD .hole).toInt) step_eq (fun I => start_eq I ls) n
noncomputable def md (a0 : List MStored) (a1 : Int) : Int := szM (szL (fun y : MStored => MStored.size y) a0) a1
def gd (a0 : List MStored) (a1 : Int) : Prop := (SmL maxLen (fun y : MStored => MStored.Sm maxLen y) a0) ∧ 0 ≤ a1 ∧ a1 ≤ 1048576
def acc (ls : List L) : List (List L) × Int := ((ls.headD .hole).toSl, ((dropT 1 ls).headD .hole).toInt)
noncomputable def R : (List (List L) × Int) → Option Int := RR (p2 gd) (u2 md)
theorem R_eq {a0} {a1} (h : gd a0 a1) : R ((a0.map MStored.row), a1) = some (md a0 a1) := RR_eq (a := (a0, a1)) h
noncomputable def con : Con := CN pats res acc R
theorem okF (a0 : List MStored) (a1 : Int) (hg : gd a0 a1) : ∃ n, start (iter step n) (a0.map MStored.row) a1 = ret ((md a0 a1) : Int) := by
  obtain ⟨hs, g0, g1⟩ := hg
  unfold start md
  simp only [List.length_map]
  refine sz_list (pt := fun left i => Pt.p0 (a0.map MStored.row) left (i : Int)) (f := fun y : MStored => MStored.size y) hs.1 (fun J i h left p0 p1 => ?_) (fun J left => ?_) g0 g1
  · simp only [step, List.length_map, lt_dec h, zle_dec, cond_true, toNat_nat, MStored.at_row h]
    rw [call_eq (laws_szStored.R_eq ⟨hs.get h, p0, p1⟩), wrap_succ h hs.1]
    unfold laws_szStored.md
    by_cases hc : left < ((MStored.size (a0[i]) : Nat) : Int)
    · rw [szM_neg hc, if_pos hc]; rfl
    · rw [szM_pos hc, if_neg hc, dec_neg (by omega)]; rfl
  · simp only [step, List.length_map, nlt_dec, cond_false]
theorem valid_ : Valid Tryz.prog Ev 65 con := VV (run := fun n x => start (iter step n) x.1 x.2) mix tab_ok (.cons laws_szStored.valid_ .nil) Tryz.func65 (by kernel_rfl) run_eq (fun _ a _ _ hg => okF a.1 a.2 hg)
end laws_szStoredS
/-! laws.szCache -/
namespace laws_szCache
noncomputable def F (x0 : RCache) (x1 : Int) : Ans := (call (laws_szStoredS.R (x0.fList, x1)) fun v1 => (bif (decide (v1 < 0)) then ret ((-1) : Int) else ret (v1 : Int)))
def pats : List Pat := [.agg [.sl 168], .rd (.int .i64)]
def res : RP := .one (.rd (.int .i64))
noncomputable abbrev E : Env := ⟨assoc Tab, conG [(65, laws_szStoredS.con)], 12⟩
set_option maxRecDepth 100000
theorem run_eq (n : Nat) (ls : List L) : runF E (fun _ => []) Tryz.f25 res n (initS pats ls) = F (RCache.dec ls) ((dropT 1 ls).headD .hole).toInt := by kernel_rfl
noncomputable def md (a0 : MCache) (a1 : Int) : Int := szM (MCache.size a0) a1
def gd (a0 : MCache) (a1 : Int) : Prop := (MCache.Sm maxLen a0) ∧ 0 ≤ a1 ∧ a1 ≤ 1048576
def acc (ls : List L) : RCache × Int := ((RCache.dec ls), ((dropT 1 ls).headD .hole).toInt)
noncomputable def R : (RCache × Int) → Option Int := RR (p2 gd) (u2 md)
theorem R_eq {a0} {a1} (h : gd a0 a1) : R ((MCache.r a0), a1) = some (md a0 a1) := RR_eq (a := (a0, a1)) h
noncomputable def con : Con := CN pats res acc R
theorem okF (a0 : MCache) (a1 : Int) (hg : gd a0 a1) : F (MCache.r a0) a1 = ret ((md a0 a1) : Int) := by
  obtain ⟨hs, g0, g1⟩ := hg
  unfold md
  show (call (laws_szStoredS.R ((a0.fList.map MStored.row), a1)) fun v1 => (bif (decide (v1 < 0)) then ret ((-1) : Int) else ret (v1 : Int))) = _
  rw [call_eq (laws_szStoredS.R_eq (a1 := a1) ⟨hs, by omega, by omega⟩)]
  unfold laws_szStoredS.md
  by_cases c0 : a1 < ((szL (fun y : MStored => MStored.size y) a0.fList : Nat) : Int)
  · rw [szM_neg c0]; rw [show szM (MCache.size a0) a1 = -1 from szM_neg (by unfold MCache.size; omega)]; try rfl
  rw [szM_pos c0, dec_neg (by omega), cond_false]
  rw [show szM (MCache.size a0) a1 = a1 - ((szL (fun y : MStored => MStored.size y) a0.fList : Nat) : Int) from by rw [szM_pos (by unfold MCache.size; omega)]; unfold MCache.size; omega]
theorem valid_ : Valid Tryz.prog Ev 25 con := VV (run := fun _ x => F x.1 x.2) mix tab_ok (.cons laws_szStoredS.valid_ .nil) Tryz.func25 (by kernel_rfl) run_eq (fun _ a _ _ hg => ⟨0, okF a.1 a.2 hg⟩)
end laws_szCache
/-! laws.toIntS -/
namespace laws_toIntS
inductive Pt where
  | p0 (a : List (List L)) (b : Int) (c : List (List L))
def pid : Pt → Nat
  | .p0 .. => 3
def pvs : Pt → List V
  | .p0 a b c => [.sl none 3 a, .own 0, .int .i64 b]
def phs : Pt → List Root
  | .p0 a b c => [.row 3 c]
noncomputable def step (J : Pt → Ans) : Pt → Ans
  | .p0 a b c => (bif (decide (b < (a.length : Int))) then (bif (decide ((0 : Int) ≤ b)) then (bif (decide (b < (a.length : Int))) then (bif (decide ((0 : Int) ≤ b)) then (bif (decide (b < (c.length : Int))) then J (.p0 a (IntKind.i64.wrap (b + 1)) (List.set c (Int.toNat b) [L.int (iAt a (Int.toNat b))])) else none) else none) else none) else none) else ret (c : List (List L)))
noncomputable def start (J : Pt → Ans) (x0 : List (List L)) : Ans := (bif (decide ((0 : Int) ≤ (x0.length : Int))) then (bif (decide ((x0.length : Int) ≤ (x0.length : Int))) then (bif (decide ((x0.length : Int) * 8 ≤ 140737488355328)) then J (.p0 x0 0 (List.replicate (Int.toNat (x0.length : Int)) [L.int 0])) else none) else none) else none)
def live : Nat → Live := fun i => match i with | 3 => [(0, none), (3, none), (4, none)] | _ => []
def pats : List Pat := [.rd (.sl 3)]
def res : RP := .one (.fr 3)
noncomputable abbrev E : Env := ⟨assoc Tab, conG [], 22⟩
set_option maxRecDepth 100000
theorem step_eq (I : Heads) (p : Pt) : enterC E live I (pid p) (bodyOf Tryz.f111) (stOf (live (pid p)) (pvs p) (phs p)) (doneK E Tryz.f111 res) = step (fun q => I (pid q) (pvs q) (phs q)) p := by
  cases p <;> kernel_rfl
theorem start_eq (I : Heads) (ls : List L) : runC E live I (bodyOf Tryz.f111) (initS pats ls) (doneK E Tryz.f111 res) = start (fun q => I (pid q) (pvs q) (phs q)) (ls.headD .hole).toSl := by kernel_rfl
theorem run_eq (n : Nat) (ls : List L) : runF E live Tryz.f111 res n (initS pats ls) = start (iter step n) (ls.headD .hole).toSl := runF_iter (id := pid) (vs := pvs) (hs := phs) (step := step) (start := fun J => start J (ls.headD .hole).toSl) step_eq (fun I => start_eq I ls) n
noncomputable def md (a0 : List Int) : List Int := a0
def gd (a0 : List Int) : Prop := SmL (2 ^ 36) (fun y : Int => True) a0
def acc (ls : List L) : List (List L) := (ls.headD .hole).toSl
noncomputable def R : (List (List L)) → Option (List (List L)) := RR gd md
theorem R_eq {a0} (h : gd a0) : R (a0.map iRow) = some ((md a0).map iRow) := RR_eq (a := a0) h
noncomputable def con : Con := CN pats res acc R
theorem okF (a0 : List Int) (hg : gd a0) : ∃ n, start (iter step n) (a0.map iRow) = ret (((md a0).map iRow) : List (List L)) := by
  unfold start md
  simp only [List.length_map]
  refine to_list (b := 8) (pt := fun i c => Pt.p0 (a0.map iRow) (i : Int) c) (by have := hg.1; simp at this; omega) (fun J i h c hc => ?_) (fun J c => ?_)
  · simp only [step, List.length_map, lt_dec h, zle_dec, cond_true, toNat_nat, iAt_row h, hc]
    rw [wrap_succ (n := a0.length) h (by have := hg.1; simp only [maxLen]; simp at this; omega)]
    rfl
  · simp only [step, List.length_map, nlt_dec, cond_false]
theorem valid_ : Valid Tryz.prog Ev 111 con := VV (run := fun n x => start (iter step n) x) mix tab_ok .nil Tryz.func111 (by kernel_rfl) run_eq (fun _ a _ _ hg => okF a hg)
end laws_toIntS
/-! laws.toKeys -/
namespace laws_toKeys
noncomputable def F (x0 : RKeys) : Ans := (call (laws_toIntS.R x0.fList) fun v1 => ret ((⟨v1, x0.fNeed⟩ : RKeys) : RKeys))
def pats : List Pat := [.agg [.sl 3, .int .i64]]
def res : RP := .agg [.fr 3, .rd (.int .i64)]
noncomputable abbrev E : Env := ⟨assoc Tab, conG [(111, laws_toIntS.con)], 12⟩
set_option maxRecDepth 100000
theorem run_eq (n : Nat) (ls : List L) : runF E (fun _ => []) Tryz.f147 res n (initS pats ls) = F (RKeys.dec ls) := by kernel_rfl
noncomputable def md (a0 : MKeys) : MKeys := a0
def gd (a0 : MKeys) : Prop := MKeys.Sm (2 ^ 36) a0
def acc (ls : List L) : RKeys := (RKeys.dec ls)
noncomputable def R : RKeys → Option RKeys := RR gd md
theorem R_eq {a0} (h : gd a0) : R (MKeys.r a0) = some (MKeys.r (md a0)) := RR_eq (a := a0) h
noncomputable def con : Con := CN pats res acc R
theorem okF (a0 : MKeys) (hg : gd a0) : F (MKeys.r a0) = ret ((MKeys.r (md a0)) : RKeys) := by
  unfold md
  show (call (laws_toIntS.R (a0.fList.map iRow)) fun v1 => ret ((⟨v1, a0.fNeed⟩ : RKeys) : RKeys)) = _
  rw [call_eq (laws_toIntS.R_eq hg)]
  rfl
theorem valid_ : Valid Tryz.prog Ev 147 con := VV (run := fun _ x => F x) mix tab_ok (.cons laws_toIntS.valid_ .nil) Tryz.func147 (by kernel_rfl) run_eq (fun _ a _ _ hg => ⟨0, okF a hg⟩)
end laws_toKeys
/-! laws.toHead -/
namespace laws_toHead
noncomputable def F (x0 : RHead) : Ans := (call (laws_toKeys.R x0.fKeys) fun v1 => (call (laws_toKeys.R x0.fHeirs) fun v2 => (call (laws_toKeys.R x0.fJudge) fun v3 => ret ((⟨x0.fZone, x0.fEpoch, x0.fKind, x0.fTime, x0.fUntil, x0.fCount, x0.fRoot, x0.fPrev, v1, v2, x0.fWait, v3, x0.fFrozen⟩ : RHead) : RHead))))
def pats : List Pat := [.agg [.int .i64, .int .i64, .int .i64, .int .i64, .int .i64, .int .i64, .int .i64, .int .i64, .sl 3, .int .i64, .sl 3, .int .i64, .int .i64, .sl 3, .int .i64, .bool]]
def res : RP := .agg [.rd (.int .i64), .rd (.int .i64), .rd (.int .i64), .rd (.int .i64), .rd (.int .i64), .rd (.int .i64), .rd (.int .i64), .rd (.int .i64), .fr 3, .rd (.int .i64), .fr 3, .rd (.int .i64), .rd (.int .i64), .fr 3, .rd (.int .i64), .rd (.bool)]
noncomputable abbrev E : Env := ⟨assoc Tab, conG [(147, laws_toKeys.con)], 47⟩
set_option maxRecDepth 100000
theorem run_eq (n : Nat) (ls : List L) : runF E (fun _ => []) Tryz.f100 res n (initS pats ls) = F (RHead.dec ls) := by kernel_rfl
noncomputable def md (a0 : MHead) : MHead := a0
def gd (a0 : MHead) : Prop := MHead.Sm (2 ^ 36) a0
def acc (ls : List L) : RHead := (RHead.dec ls)
noncomputable def R : RHead → Option RHead := RR gd md
theorem R_eq {a0} (h : gd a0) : R (MHead.r a0) = some (MHead.r (md a0)) := RR_eq (a := a0) h
noncomputable def con : Con := CN pats res acc R
theorem okF (a0 : MHead) (hg : gd a0) : F (MHead.r a0) = ret ((MHead.r (md a0)) : RHead) := by
  unfold md
  show (call (laws_toKeys.R (MKeys.r a0.fKeys)) fun v1 => (call (laws_toKeys.R (MKeys.r a0.fHeirs)) fun v2 => (call (laws_toKeys.R (MKeys.r a0.fJudge)) fun v3 => ret ((⟨a0.fZone, a0.fEpoch, a0.fKind, a0.fTime, a0.fUntil, a0.fCount, a0.fRoot, a0.fPrev, v1, v2, a0.fWait, v3, a0.fFrozen⟩ : RHead) : RHead)))) = _
  rw [call_eq (laws_toKeys.R_eq hg.1)]
  rw [call_eq (laws_toKeys.R_eq hg.2.1)]
  rw [call_eq (laws_toKeys.R_eq hg.2.2)]
  rfl
theorem valid_ : Valid Tryz.prog Ev 100 con := VV (run := fun _ x => F x) mix tab_ok (.cons laws_toKeys.valid_ .nil) Tryz.func100 (by kernel_rfl) run_eq (fun _ a _ _ hg => ⟨0, okF a hg⟩)
end laws_toHead
/-! laws.toSig -/
namespace laws_toSig
noncomputable def F (x0 : MSig) : Ans := ret (x0 : MSig)
def pats : List Pat := [.agg [.int .i64, .int .i64]]
def res : RP := .agg [.rd (.int .i64), .rd (.int .i64)]
noncomputable abbrev E : Env := ⟨assoc Tab, conG [], 11⟩
set_option maxRecDepth 100000
theorem run_eq (n : Nat) (ls : List L) : runF E (fun _ => []) Tryz.f148 res n (initS pats ls) = F (MSig.dec ls) := by kernel_rfl
noncomputable def md (a0 : MSig) : MSig := a0
def gd (a0 : MSig) : Prop := MSig.Sm (2 ^ 36) a0
def acc (ls : List L) : MSig := (MSig.dec ls)
noncomputable def R : MSig → Option MSig := RR gd md
theorem R_eq {a0} (h : gd a0) : R a0 = some (md a0) := RR_eq (a := a0) h
noncomputable def con : Con := CN pats res acc R
theorem okF (a0 : MSig) (hg : gd a0) : F a0 = ret ((md a0) : MSig) := by
  rfl
theorem valid_ : Valid Tryz.prog Ev 148 con := VV (run := fun _ x => F x) mix tab_ok .nil Tryz.func148 (by kernel_rfl) run_eq (fun _ a _ _ hg => ⟨0, okF a hg⟩)
end laws_toSig
/-! laws.toSigS -/
namespace laws_toSigS
inductive Pt where
  | p0 (a : List (List L)) (b : Int) (c : List (List L))
def pid : Pt → Nat
  | .p0 .. => 3
def pvs : Pt → List V
  | .p0 a b c => [.sl none 189 a, .own 0, .int .i64 b]
def phs : Pt → List Root
  | .p0 a b c => [.row 179 c]
noncomputable def step (J : Pt → Ans) : Pt → Ans
  | .p0 a b c => (bif (decide (b < (a.length : Int))) then (bif (decide ((0 : Int) ≤ b)) then (bif (decide (b < (a.length : Int))) then (call (laws_toSig.R (MSig.at a (Int.toNat b))) fun v1 => (bif (decide ((0 : Int) ≤ b)) then (bif (decide (b < (c.length : Int))) then J (.p0 a (IntKind.i64.wrap (b + 1)) (List.set c (Int.toNat b) (MSig.enc v1))) else none) else none)) else none) else none) else ret (c : List (List L)))
noncomputable def start (J : Pt → Ans) (x0 : List (List L)) : Ans := (bif (decide ((0 : Int) ≤ (x0.length : Int))) then (bif (decide ((x0.length : Int) ≤ (x0.length : Int))) then (bif (decide ((x0.length : Int) * 16 ≤ 140737488355328)) then J (.p0 x0 0 (List.replicate (Int.toNat (x0.length : Int)) [L.int 0, L.int 0])) else none) else none) else none)
def live : Nat → Live := fun i => match i with | 3 => [(0, none), (3, none), (4, none)] | _ => []
def pats : List Pat := [.rd (.sl 189)]
def res : RP := .one (.fr 179)
noncomputable abbrev E : Env := ⟨assoc Tab, conG [(148, laws_toSig.con)], 23⟩
set_option maxRecDepth 100000
theorem step_eq (I : Heads) (p : Pt) : enterC E live I (pid p) (bodyOf Tryz.f101) (stOf (live (pid p)) (pvs p) (phs p)) (doneK E Tryz.f101 res) = step (fun q => I (pid q) (pvs q) (phs q)) p := by
  cases p <;> kernel_rfl
theorem start_eq (I : Heads) (ls : List L) : runC E live I (bodyOf Tryz.f101) (initS pats ls) (doneK E Tryz.f101 res) = start (fun q => I (pid q) (pvs q) (phs q)) (ls.headD .hole).toSl := by kernel_rfl
theorem run_eq (n : Nat) (ls : List L) : runF E live Tryz.f101 res n (initS pats ls) = start (iter step n) (ls.headD .hole).toSl := runF_iter (id := pid) (vs := pvs) (hs := phs) (step := step) (start := fun J => start J (ls.headD .hole).toSl) step_eq (fun I => start_eq I ls) n
noncomputable def md (a0 : List MSig) : List MSig := a0
def gd (a0 : List MSig) : Prop := SmL (2 ^ 36) (fun y : MSig => MSig.Sm (2 ^ 36) y) a0
def acc (ls : List L) : List (List L) := (ls.headD .hole).toSl
noncomputable def R : (List (List L)) → Option (List (List L)) := RR gd md
theorem R_eq {a0} (h : gd a0) : R (a0.map MSig.row) = some ((md a0).map MSig.row) := RR_eq (a := a0) h
noncomputable def con : Con := CN pats res acc R
theorem okF (a0 : List MSig) (hg : gd a0) : ∃ n, start (iter step n) (a0.map MSig.row) = ret (((md a0).map MSig.row) : List (List L)) := by
  unfold start md
  simp only [List.length_map]
  refine to_list (b := 16) (pt := fun i c => Pt.p0 (a0.map MSig.row) (i : Int) c) (by have := hg.1; simp at this; omega) (fun J i h c hc => ?_) (fun J c => ?_)
  · simp only [step, List.length_map, lt_dec h, zle_dec, cond_true, toNat_nat, MSig.at_row h, hc]
    rw [call_eq (laws_toSig.R_eq (hg.get h))]
    try simp only [hc, lt_dec h, cond_true]
    rw [wrap_succ (n := a0.length) h (by have := hg.1; simp only [maxLen]; simp at this; omega)]
    rfl
  · simp only [step, List.length_map, nlt_dec, cond_false]
theorem valid_ : Valid Tryz.prog Ev 101 con := VV (run := fun n x => start (iter step n) x) mix tab_ok (.cons laws_toSig.valid_ .nil) Tryz.func101 (by kernel_rfl) run_eq (fun _ a _ _ hg => okF a hg)
end laws_toSigS
/-! laws.toSigned -/
namespace laws_toSigned
noncomputable def F (x0 : RSigned) : Ans := (call (laws_toHead.R x0.fHead) fun v1 => (call (laws_toSigS.R x0.fSigs) fun v2 => ret ((⟨v1, v2⟩ : RSigned) : RSigned)))
def pats : List Pat := [.agg [.int .i64, .int .i64, .int .i64, .int .i64, .int .i64, .int .i64, .int .i64, .int .i64, .sl 3, .int .i64, .sl 3, .int .i64, .int .i64, .sl 3, .int .i64, .bool, .sl 189]]
def res : RP := .agg [.rd (.int .i64), .rd (.int .i64), .rd (.int .i64), .rd (.int .i64), .rd (.int .i64), .rd (.int .i64), .rd (.int .i64), .rd (.int .i64), .fr 3, .rd (.int .i64), .fr 3, .rd (.int .i64), .rd (.int .i64), .fr 3, .rd (.int .i64), .rd (.bool), .fr 179]
noncomputable abbrev E : Env := ⟨assoc Tab, conG [(100, laws_toHead.con), (101, laws_toSigS.con)], 13⟩
set_option maxRecDepth 100000
theorem run_eq (n : Nat) (ls : List L) : runF E (fun _ => []) Tryz.f55 res n (initS pats ls) = F (RSigned.dec ls) := by kernel_rfl
noncomputable def md (a0 : MSigned) : MSigned := a0
def gd (a0 : MSigned) : Prop := MSigned.Sm (2 ^ 36) a0
def acc (ls : List L) : RSigned := (RSigned.dec ls)
noncomputable def R : RSigned → Option RSigned := RR gd md
theorem R_eq {a0} (h : gd a0) : R (MSigned.r a0) = some (MSigned.r (md a0)) := RR_eq (a := a0) h
noncomputable def con : Con := CN pats res acc R
theorem okF (a0 : MSigned) (hg : gd a0) : F (MSigned.r a0) = ret ((MSigned.r (md a0)) : RSigned) := by
  unfold md
  show (call (laws_toHead.R (MHead.r a0.fHead)) fun v1 => (call (laws_toSigS.R (a0.fSigs.map MSig.row)) fun v2 => ret ((⟨v1, v2⟩ : RSigned) : RSigned))) = _
  rw [call_eq (laws_toHead.R_eq hg.1)]
  rw [call_eq (laws_toSigS.R_eq hg.2)]
  rfl
theorem valid_ : Valid Tryz.prog Ev 55 con := VV (run := fun _ x => F x) mix tab_ok (.cons laws_toHead.valid_ (.cons laws_toSigS.valid_ .nil)) Tryz.func55 (by kernel_rfl) run_eq (fun _ a _ _ hg => ⟨0, okF a hg⟩)
end laws_toSigned
/-! laws.toSignedS -/
namespace laws_toSignedS
inductive Pt where
  | p0 (a : List (List L)) (b : Int) (c : List (List L))
def pid : Pt → Nat
  | .p0 .. => 3
def pvs : Pt → List V
  | .p0 a b c => [.sl none 108 a, .own 0, .int .i64 b]
def phs : Pt → List Root
  | .p0 a b c => [.row 92 c]
noncomputable def step (J : Pt → Ans) : Pt → Ans
  | .p0 a b c => (bif (decide (b < (a.length : Int))) then (bif (decide ((0 : Int) ≤ b)) then (bif (decide (b < (a.length : Int))) then (call (laws_toSigned.R (RSigned.at a (Int.toNat b))) fun v1 => (bif (decide ((0 : Int) ≤ b)) then (bif (decide (b < (c.length : Int))) then J (.p0 a (IntKind.i64.wrap (b + 1)) (List.set c (Int.toNat b) (RSigned.enc v1))) else none) else none)) else none) else none) else ret (c : List (List L)))
noncomputable def start (J : Pt → Ans) (x0 : List (List L)) : Ans := (bif (decide ((0 : Int) ≤ (x0.length : Int))) then (bif (decide ((x0.length : Int) ≤ (x0.length : Int))) then (bif (decide ((x0.length : Int) * 200 ≤ 140737488355328)) then J (.p0 x0 0 (List.replicate (Int.toNat (x0.length : Int)) [L.int 0, L.int 0, L.int 0, L.int 0, L.int 0, L.int 0, L.int 0, L.int 0, L.sl [], L.int 0, L.sl [], L.int 0, L.int 0, L.sl [], L.int 0, L.bool false, L.sl []])) else none) else none) else none)
def live : Nat → Live := fun i => match i with | 3 => [(0, none), (3, none), (4, none)] | _ => []
def pats : List Pat := [.rd (.sl 108)]
def res : RP := .one (.fr 92)
noncomputable abbrev E : Env := ⟨assoc Tab, conG [(55, laws_toSigned.con)], 23⟩
set_option maxRecDepth 100000
theorem step_eq (I : Heads) (p : Pt) : enterC E live I (pid p) (bodyOf Tryz.f17) (stOf (live (pid p)) (pvs p) (phs p)) (doneK E Tryz.f17 res) = step (fun q => I (pid q) (pvs q) (phs q)) p := by
  cases p <;> kernel_rfl
theorem start_eq (I : Heads) (ls : List L) : runC E live I (bodyOf Tryz.f17) (initS pats ls) (doneK E Tryz.f17 res) = start (fun q => I (pid q) (pvs q) (phs q)) (ls.headD .hole).toSl := by kernel_rfl
theorem run_eq (n : Nat) (ls : List L) : runF E live Tryz.f17 res n (initS pats ls) = start (iter step n) (ls.headD .hole).toSl := runF_iter (id := pid) (vs := pvs) (hs := phs) (step := step) (start := fun J => start J (ls.headD .hole).toSl) step_eq (fun I => start_eq I ls) n
noncomputable def md (a0 : List MSigned) : List MSigned := a0
def gd (a0 : List MSigned) : Prop := SmL (2 ^ 36) (fun y : MSigned => MSigned.Sm (2 ^ 36) y) a0
def acc (ls : List L) : List (List L) := (ls.headD .hole).toSl
noncomputable def R : (List (List L)) → Option (List (List L)) := RR gd md
theorem R_eq {a0} (h : gd a0) : R (a0.map MSigned.row) = some ((md a0).map MSigned.row) := RR_eq (a := a0) h
noncomputable def con : Con := CN pats res acc R
theorem okF (a0 : List MSigned) (hg : gd a0) : ∃ n, start (iter step n) (a0.map MSigned.row) = ret (((md a0).map MSigned.row) : List (List L)) := by
  unfold start md
  simp only [List.length_map]
  refine to_list (b := 200) (pt := fun i c => Pt.p0 (a0.map MSigned.row) (i : Int) c) (by have := hg.1; simp at this; omega) (fun J i h c hc => ?_) (fun J c => ?_)
  · simp only [step, List.length_map, lt_dec h, zle_dec, cond_true, toNat_nat, MSigned.at_row h, hc]
    rw [call_eq (laws_toSigned.R_eq (hg.get h))]
    try simp only [hc, lt_dec h, cond_true]
    rw [wrap_succ (n := a0.length) h (by have := hg.1; simp only [maxLen]; simp at this; omega)]
    rfl
  · simp only [step, List.length_map, nlt_dec, cond_false]
theorem valid_ : Valid Tryz.prog Ev 17 con := VV (run := fun n x => start (iter step n) x) mix tab_ok (.cons laws_toSigned.valid_ .nil) Tryz.func17 (by kernel_rfl) run_eq (fun _ a _ _ hg => okF a hg)
end laws_toSignedS
/-! laws.toStringS -/
namespace laws_toStringS
inductive Pt where
  | p0 (a : List (List L)) (b : Int) (c : List (List L))
def pid : Pt → Nat
  | .p0 .. => 3
def pvs : Pt → List V
  | .p0 a b c => [.sl none 9 a, .own 0, .int .i64 b]
def phs : Pt → List Root
  | .p0 a b c => [.row 9 c]
noncomputable def step (J : Pt → Ans) : Pt → Ans
  | .p0 a b c => (bif (decide (b < (a.length : Int))) then (bif (decide ((0 : Int) ≤ b)) then (bif (decide (b < (a.length : Int))) then (bif (decide ((0 : Int) ≤ b)) then (bif (decide (b < (c.length : Int))) then J (.p0 a (IntKind.i64.wrap (b + 1)) (List.set c (Int.toNat b) [L.str (sAt a (Int.toNat b))])) else none) else none) else none) else none) else ret (c : List (List L)))
noncomputable def start (J : Pt → Ans) (x0 : List (List L)) : Ans := (bif (decide ((0 : Int) ≤ (x0.length : Int))) then (bif (decide ((x0.length : Int) ≤ (x0.length : Int))) then (bif (decide ((x0.length : Int) * 16 ≤ 140737488355328)) then J (.p0 x0 0 (List.replicate (Int.toNat (x0.length : Int)) [L.str ⟨#[]⟩])) else none) else none) else none)
def live : Nat → Live := fun i => match i with | 3 => [(0, none), (3, none), (4, none)] | _ => []
def pats : List Pat := [.rd (.sl 9)]
def res : RP := .one (.fr 9)
noncomputable abbrev E : Env := ⟨assoc Tab, conG [], 22⟩
set_option maxRecDepth 100000
theorem step_eq (I : Heads) (p : Pt) : enterC E live I (pid p) (bodyOf Tryz.f72) (stOf (live (pid p)) (pvs p) (phs p)) (doneK E Tryz.f72 res) = step (fun q => I (pid q) (pvs q) (phs q)) p := by
  cases p <;> kernel_rfl
theorem start_eq (I : Heads) (ls : List L) : runC E live I (bodyOf Tryz.f72) (initS pats ls) (doneK E Tryz.f72 res) = start (fun q => I (pid q) (pvs q) (phs q)) (ls.headD .hole).toSl := by kernel_rfl
theorem run_eq (n : Nat) (ls : List L) : runF E live Tryz.f72 res n (initS pats ls) = start (iter step n) (ls.headD .hole).toSl := runF_iter (id := pid) (vs := pvs) (hs := phs) (step := step) (start := fun J => start J (ls.headD .hole).toSl) step_eq (fun I => start_eq I ls) n
noncomputable def md (a0 : List ByteArray) : List ByteArray := a0
def gd (a0 : List ByteArray) : Prop := SmL (2 ^ 36) (fun y : ByteArray => y.size ≤ (2 ^ 36)) a0
def acc (ls : List L) : List (List L) := (ls.headD .hole).toSl
noncomputable def R : (List (List L)) → Option (List (List L)) := RR gd md
theorem R_eq {a0} (h : gd a0) : R (a0.map sRow) = some ((md a0).map sRow) := RR_eq (a := a0) h
noncomputable def con : Con := CN pats res acc R
theorem okF (a0 : List ByteArray) (hg : gd a0) : ∃ n, start (iter step n) (a0.map sRow) = ret (((md a0).map sRow) : List (List L)) := by
  unfold start md
  simp only [List.length_map]
  refine to_list (b := 16) (pt := fun i c => Pt.p0 (a0.map sRow) (i : Int) c) (by have := hg.1; simp at this; omega) (fun J i h c hc => ?_) (fun J c => ?_)
  · simp only [step, List.length_map, lt_dec h, zle_dec, cond_true, toNat_nat, sAt_row h, hc]
    rw [wrap_succ (n := a0.length) h (by have := hg.1; simp only [maxLen]; simp at this; omega)]
    rfl
  · simp only [step, List.length_map, nlt_dec, cond_false]
theorem valid_ : Valid Tryz.prog Ev 72 con := VV (run := fun n x => start (iter step n) x) mix tab_ok .nil Tryz.func72 (by kernel_rfl) run_eq (fun _ a _ _ hg => okF a hg)
end laws_toStringS
/-! laws.toEntry -/
namespace laws_toEntry
noncomputable def F (x0 : REntry) : Ans := (call (laws_toStringS.R x0.fPath) fun v1 => ret ((⟨x0.fLabel, x0.fKind, x0.fValue, v1⟩ : REntry) : REntry))
def pats : List Pat := [.agg [.str, .int .i64, .int .i64, .sl 9]]
def res : RP := .agg [.rd (.str), .rd (.int .i64), .rd (.int .i64), .fr 9]
noncomputable abbrev E : Env := ⟨assoc Tab, conG [(72, laws_toStringS.con)], 18⟩
set_option maxRecDepth 100000
theorem run_eq (n : Nat) (ls : List L) : runF E (fun _ => []) Tryz.f110 res n (initS pats ls) = F (REntry.dec ls) := by kernel_rfl
noncomputable def md (a0 : MEntry) : MEntry := a0
def gd (a0 : MEntry) : Prop := MEntry.Sm (2 ^ 36) a0
def acc (ls : List L) : REntry := (REntry.dec ls)
noncomputable def R : REntry → Option REntry := RR gd md
theorem R_eq {a0} (h : gd a0) : R (MEntry.r a0) = some (MEntry.r (md a0)) := RR_eq (a := a0) h
noncomputable def con : Con := CN pats res acc R
theorem okF (a0 : MEntry) (hg : gd a0) : F (MEntry.r a0) = ret ((MEntry.r (md a0)) : REntry) := by
  unfold md
  show (call (laws_toStringS.R (a0.fPath.map sRow)) fun v1 => ret ((⟨a0.fLabel, a0.fKind, a0.fValue, v1⟩ : REntry) : REntry)) = _
  rw [call_eq (laws_toStringS.R_eq hg.2)]
  rfl
theorem valid_ : Valid Tryz.prog Ev 110 con := VV (run := fun _ x => F x) mix tab_ok (.cons laws_toStringS.valid_ .nil) Tryz.func110 (by kernel_rfl) run_eq (fun _ a _ _ hg => ⟨0, okF a hg⟩)
end laws_toEntry
/-! laws.toProof -/
namespace laws_toProof
noncomputable def F (x0 : RProof) : Ans := (call (laws_toIntS.R x0.fPath) fun v1 => ret ((⟨x0.fAt, v1⟩ : RProof) : RProof))
def pats : List Pat := [.agg [.int .i64, .sl 3]]
def res : RP := .agg [.rd (.int .i64), .fr 3]
noncomputable abbrev E : Env := ⟨assoc Tab, conG [(111, laws_toIntS.con)], 12⟩
set_option maxRecDepth 100000
theorem run_eq (n : Nat) (ls : List L) : runF E (fun _ => []) Tryz.f211 res n (initS pats ls) = F (RProof.dec ls) := by kernel_rfl
noncomputable def md (a0 : MProof) : MProof := a0
def gd (a0 : MProof) : Prop := MProof.Sm (2 ^ 36) a0
def acc (ls : List L) : RProof := (RProof.dec ls)
noncomputable def R : RProof → Option RProof := RR gd md
theorem R_eq {a0} (h : gd a0) : R (MProof.r a0) = some (MProof.r (md a0)) := RR_eq (a := a0) h
noncomputable def con : Con := CN pats res acc R
theorem okF (a0 : MProof) (hg : gd a0) : F (MProof.r a0) = ret ((MProof.r (md a0)) : RProof) := by
  unfold md
  show (call (laws_toIntS.R (a0.fPath.map iRow)) fun v1 => ret ((⟨a0.fAt, v1⟩ : RProof) : RProof)) = _
  rw [call_eq (laws_toIntS.R_eq hg)]
  rfl
theorem valid_ : Valid Tryz.prog Ev 211 con := VV (run := fun _ x => F x) mix tab_ok (.cons laws_toIntS.valid_ .nil) Tryz.func211 (by kernel_rfl) run_eq (fun _ a _ _ hg => ⟨0, okF a hg⟩)
end laws_toProof
/-! laws.toGap -/
namespace laws_toGap
noncomputable def F (x0 : RGap) : Ans := (call (laws_toEntry.R x0.fBefore) fun v1 => (call (laws_toEntry.R x0.fAfter) fun v2 => (call (laws_toProof.R x0.fLeft) fun v3 => (call (laws_toProof.R x0.fRight) fun v4 => ret ((⟨x0.fAt, v1, v2, v3, v4⟩ : RGap) : RGap)))))
def pats : List Pat := [.agg [.int .i64, .str, .int .i64, .int .i64, .sl 9, .str, .int .i64, .int .i64, .sl 9, .int .i64, .sl 3, .int .i64, .sl 3]]
def res : RP := .agg [.rd (.int .i64), .rd (.str), .rd (.int .i64), .rd (.int .i64), .fr 9, .rd (.str), .rd (.int .i64), .rd (.int .i64), .fr 9, .rd (.int .i64), .fr 3, .rd (.int .i64), .fr 3]
noncomputable abbrev E : Env := ⟨assoc Tab, conG [(110, laws_toEntry.con), (211, laws_toProof.con)], 24⟩
set_option maxRecDepth 100000
theorem run_eq (n : Nat) (ls : List L) : runF E (fun _ => []) Tryz.f212 res n (initS pats ls) = F (RGap.dec ls) := by kernel_rfl
noncomputable def md (a0 : MGap) : MGap := a0
def gd (a0 : MGap) : Prop := MGap.Sm (2 ^ 36) a0
def acc (ls : List L) : RGap := (RGap.dec ls)
noncomputable def R : RGap → Option RGap := RR gd md
theorem R_eq {a0} (h : gd a0) : R (MGap.r a0) = some (MGap.r (md a0)) := RR_eq (a := a0) h
noncomputable def con : Con := CN pats res acc R
theorem okF (a0 : MGap) (hg : gd a0) : F (MGap.r a0) = ret ((MGap.r (md a0)) : RGap) := by
  unfold md
  show (call (laws_toEntry.R (MEntry.r a0.fBefore)) fun v1 => (call (laws_toEntry.R (MEntry.r a0.fAfter)) fun v2 => (call (laws_toProof.R (MProof.r a0.fLeft)) fun v3 => (call (laws_toProof.R (MProof.r a0.fRight)) fun v4 => ret ((⟨a0.fAt, v1, v2, v3, v4⟩ : RGap) : RGap))))) = _
  rw [call_eq (laws_toEntry.R_eq hg.1)]
  rw [call_eq (laws_toEntry.R_eq hg.2.1)]
  rw [call_eq (laws_toProof.R_eq hg.2.2.1)]
  rw [call_eq (laws_toProof.R_eq hg.2.2.2)]
  rfl
theorem valid_ : Valid Tryz.prog Ev 212 con := VV (run := fun _ x => F x) mix tab_ok (.cons laws_toEntry.valid_ (.cons laws_toProof.valid_ .nil)) Tryz.func212 (by kernel_rfl) run_eq (fun _ a _ _ hg => ⟨0, okF a hg⟩)
end laws_toGap
/-! laws.toAnswer -/
namespace laws_toAnswer
noncomputable def F (x0 : RAnswer) : Ans := (call (laws_toSignedS.R x0.fChain) fun v1 => (call (laws_toEntry.R x0.fEntry) fun v2 => (call (laws_toProof.R x0.fProof) fun v3 => (call (laws_toGap.R x0.fGap) fun v4 => ret ((⟨v1, x0.fFound, v2, v3, v4⟩ : RAnswer) : RAnswer)))))
def pats : List Pat := [.agg [.sl 108, .bool, .str, .int .i64, .int .i64, .sl 9, .int .i64, .sl 3, .int .i64, .str, .int .i64, .int .i64, .sl 9, .str, .int .i64, .int .i64, .sl 9, .int .i64, .sl 3, .int .i64, .sl 3]]
def res : RP := .agg [.fr 92, .rd (.bool), .rd (.str), .rd (.int .i64), .rd (.int .i64), .fr 9, .rd (.int .i64), .fr 3, .rd (.int .i64), .rd (.str), .rd (.int .i64), .rd (.int .i64), .fr 9, .rd (.str), .rd (.int .i64), .rd (.int .i64), .fr 9, .rd (.int .i64), .fr 3, .rd (.int .i64), .fr 3]
noncomputable abbrev E : Env := ⟨assoc Tab, conG [(17, laws_toSignedS.con), (110, laws_toEntry.con), (211, laws_toProof.con), (212, laws_toGap.con)], 24⟩
set_option maxRecDepth 100000
theorem run_eq (n : Nat) (ls : List L) : runF E (fun _ => []) Tryz.f165 res n (initS pats ls) = F (RAnswer.dec ls) := by kernel_rfl
noncomputable def md (a0 : MAnswer) : MAnswer := a0
def gd (a0 : MAnswer) : Prop := MAnswer.Sm (2 ^ 36) a0
def acc (ls : List L) : RAnswer := (RAnswer.dec ls)
noncomputable def R : RAnswer → Option RAnswer := RR gd md
theorem R_eq {a0} (h : gd a0) : R (MAnswer.r a0) = some (MAnswer.r (md a0)) := RR_eq (a := a0) h
noncomputable def con : Con := CN pats res acc R
theorem okF (a0 : MAnswer) (hg : gd a0) : F (MAnswer.r a0) = ret ((MAnswer.r (md a0)) : RAnswer) := by
  unfold md
  show (call (laws_toSignedS.R (a0.fChain.map MSigned.row)) fun v1 => (call (laws_toEntry.R (MEntry.r a0.fEntry)) fun v2 => (call (laws_toProof.R (MProof.r a0.fProof)) fun v3 => (call (laws_toGap.R (MGap.r a0.fGap)) fun v4 => ret ((⟨v1, a0.fFound, v2, v3, v4⟩ : RAnswer) : RAnswer))))) = _
  rw [call_eq (laws_toSignedS.R_eq hg.1)]
  rw [call_eq (laws_toEntry.R_eq hg.2.1)]
  rw [call_eq (laws_toProof.R_eq hg.2.2.1)]
  rw [call_eq (laws_toGap.R_eq hg.2.2.2)]
  rfl
theorem valid_ : Valid Tryz.prog Ev 165 con := VV (run := fun _ x => F x) mix tab_ok (.cons laws_toSignedS.valid_ (.cons laws_toEntry.valid_ (.cons laws_toProof.valid_ (.cons laws_toGap.valid_ .nil)))) Tryz.func165 (by kernel_rfl) run_eq (fun _ a _ _ hg => ⟨0, okF a hg⟩)
end laws_toAnswer
/-! laws.toStored -/
namespace laws_toStored
noncomputable def F (x0 : RStored) : Ans := (call (laws_toAnswer.R x0.fAnswer) fun v1 => ret ((⟨x0.fZone, x0.fLabel, v1⟩ : RStored) : RStored))
def pats : List Pat := [.agg [.int .i64, .str, .sl 108, .bool, .str, .int .i64, .int .i64, .sl 9, .int .i64, .sl 3, .int .i64, .str, .int .i64, .int .i64, .sl 9, .str, .int .i64, .int .i64, .sl 9, .int .i64, .sl 3, .int .i64, .sl 3]]
def res : RP := .agg [.rd (.int .i64), .rd (.str), .fr 92, .rd (.bool), .rd (.str), .rd (.int .i64), .rd (.int .i64), .fr 9, .rd (.int .i64), .fr 3, .rd (.int .i64), .rd (.str), .rd (.int .i64), .rd (.int .i64), .fr 9, .rd (.str), .rd (.int .i64), .rd (.int .i64), .fr 9, .rd (.int .i64), .fr 3, .rd (.int .i64), .fr 3]
noncomputable abbrev E : Env := ⟨assoc Tab, conG [(165, laws_toAnswer.con)], 15⟩
set_option maxRecDepth 100000
theorem run_eq (n : Nat) (ls : List L) : runF E (fun _ => []) Tryz.f122 res n (initS pats ls) = F (RStored.dec ls) := by kernel_rfl
noncomputable def md (a0 : MStored) : MStored := a0
def gd (a0 : MStored) : Prop := MStored.Sm (2 ^ 36) a0
def acc (ls : List L) : RStored := (RStored.dec ls)
noncomputable def R : RStored → Option RStored := RR gd md
theorem R_eq {a0} (h : gd a0) : R (MStored.r a0) = some (MStored.r (md a0)) := RR_eq (a := a0) h
noncomputable def con : Con := CN pats res acc R
theorem okF (a0 : MStored) (hg : gd a0) : F (MStored.r a0) = ret ((MStored.r (md a0)) : RStored) := by
  unfold md
  show (call (laws_toAnswer.R (MAnswer.r a0.fAnswer)) fun v1 => ret ((⟨a0.fZone, a0.fLabel, v1⟩ : RStored) : RStored)) = _
  rw [call_eq (laws_toAnswer.R_eq hg.2)]
  rfl
theorem valid_ : Valid Tryz.prog Ev 122 con := VV (run := fun _ x => F x) mix tab_ok (.cons laws_toAnswer.valid_ .nil) Tryz.func122 (by kernel_rfl) run_eq (fun _ a _ _ hg => ⟨0, okF a hg⟩)
end laws_toStored
/-! laws.toStoredS -/
namespace laws_toStoredS
inductive Pt where
  | p0 (a : List (List L)) (b : Int) (c : List (List L))
def pid : Pt → Nat
  | .p0 .. => 3
def pvs : Pt → List V
  | .p0 a b c => [.sl none 168 a, .own 0, .int .i64 b]
def phs : Pt → List Root
  | .p0 a b c => [.row 124 c]
noncomputable def step (J : Pt → Ans) : Pt → Ans
  | .p0 a b c => (bif (decide (b < (a.length : Int))) then (bif (decide ((0 : Int) ≤ b)) then (bif (decide (b < (a.length : Int))) then (call (laws_toStored.R (RStored.at a (Int.toNat b))) fun v1 => (bif (decide ((0 : Int) ≤ b)) then (bif (decide (b < (c.length : Int))) then J (.p0 a (IntKind.i64.wrap (b + 1)) (List.set c (Int.toNat b) (RStored.enc v1))) else none) else none)) else none) else none) else ret (c : List (List L)))
noncomputable def start (J : Pt → Ans) (x0 : List (List L)) : Ans := (bif (decide ((0 : Int) ≤ (x0.length : Int))) then (bif (decide ((x0.length : Int) ≤ (x0.length : Int))) then (bif (decide ((x0.length : Int) * 328 ≤ 140737488355328)) then J (.p0 x0 0 (List.replicate (Int.toNat (x0.length : Int)) [L.int 0, L.str ⟨#[]⟩, L.sl [], L.bool false, L.str ⟨#[]⟩, L.int 0, L.int 0, L.sl [], L.int 0, L.sl [], L.int 0, L.str ⟨#[]⟩, L.int 0, L.int 0, L.sl [], L.str ⟨#[]⟩, L.int 0, L.int 0, L.sl [], L.int 0, L.sl [], L.int 0, L.sl []])) else none) else none) else none)
def live : Nat → Live := fun i => match i with | 3 => [(0, none), (3, none), (4, none)] | _ => []
def pats : List Pat := [.rd (.sl 168)]
def res : RP := .one (.fr 124)
noncomputable abbrev E : Env := ⟨assoc Tab, conG [(122, laws_toStored.con)], 23⟩
set_option maxRecDepth 100000
theorem step_eq (I : Heads) (p : Pt) : enterC E live I (pid p) (bodyOf Tryz.f68) (stOf (live (pid p)) (pvs p) (phs p)) (doneK E Tryz.f68 res) = step (fun q => I (pid q) (pvs q) (phs q)) p := by
  cases p <;> kernel_rfl
theorem start_eq (I : Heads) (ls : List L) : runC E live I (bodyOf Tryz.f68) (initS pats ls) (doneK E Tryz.f68 res) = start (fun q => I (pid q) (pvs q) (phs q)) (ls.headD .hole).toSl := by kernel_rfl
theorem run_eq (n : Nat) (ls : List L) : runF E live Tryz.f68 res n (initS pats ls) = start (iter step n) (ls.headD .hole).toSl := runF_iter (id := pid) (vs := pvs) (hs := phs) (step := step) (start := fun J => start J (ls.headD .hole).toSl) step_eq (fun I => start_eq I ls) n
noncomputable def md (a0 : List MStored) : List MStored := a0
def gd (a0 : List MStored) : Prop := SmL (2 ^ 36) (fun y : MStored => MStored.Sm (2 ^ 36) y) a0
def acc (ls : List L) : List (List L) := (ls.headD .hole).toSl
noncomputable def R : (List (List L)) → Option (List (List L)) := RR gd md
theorem R_eq {a0} (h : gd a0) : R (a0.map MStored.row) = some ((md a0).map MStored.row) := RR_eq (a := a0) h
noncomputable def con : Con := CN pats res acc R
theorem okF (a0 : List MStored) (hg : gd a0) : ∃ n, start (iter step n) (a0.map MStored.row) = ret (((md a0).map MStored.row) : List (List L)) := by
  unfold start md
  simp only [List.length_map]
  refine to_list (b := 328) (pt := fun i c => Pt.p0 (a0.map MStored.row) (i : Int) c) (by have := hg.1; simp at this; omega) (fun J i h c hc => ?_) (fun J c => ?_)
  · simp only [step, List.length_map, lt_dec h, zle_dec, cond_true, toNat_nat, MStored.at_row h, hc]
    rw [call_eq (laws_toStored.R_eq (hg.get h))]
    try simp only [hc, lt_dec h, cond_true]
    rw [wrap_succ (n := a0.length) h (by have := hg.1; simp only [maxLen]; simp at this; omega)]
    rfl
  · simp only [step, List.length_map, nlt_dec, cond_false]
theorem valid_ : Valid Tryz.prog Ev 68 con := VV (run := fun n x => start (iter step n) x) mix tab_ok (.cons laws_toStored.valid_ .nil) Tryz.func68 (by kernel_rfl) run_eq (fun _ a _ _ hg => okF a hg)
end laws_toStoredS
/-! laws.toCache -/
namespace laws_toCache
noncomputable def F (x0 : RCache) : Ans := (call (laws_toStoredS.R x0.fList) fun v1 => ret ((⟨v1⟩ : RCache) : RCache))
def pats : List Pat := [.agg [.sl 168]]
def res : RP := .agg [.fr 124]
noncomputable abbrev E : Env := ⟨assoc Tab, conG [(68, laws_toStoredS.con)], 9⟩
set_option maxRecDepth 100000
theorem run_eq (n : Nat) (ls : List L) : runF E (fun _ => []) Tryz.f27 res n (initS pats ls) = F (RCache.dec ls) := by kernel_rfl
noncomputable def md (a0 : MCache) : MCache := a0
def gd (a0 : MCache) : Prop := MCache.Sm (2 ^ 36) a0
def acc (ls : List L) : RCache := (RCache.dec ls)
noncomputable def R : RCache → Option RCache := RR gd md
theorem R_eq {a0} (h : gd a0) : R (MCache.r a0) = some (MCache.r (md a0)) := RR_eq (a := a0) h
noncomputable def con : Con := CN pats res acc R
theorem okF (a0 : MCache) (hg : gd a0) : F (MCache.r a0) = ret ((MCache.r (md a0)) : RCache) := by
  unfold md
  show (call (laws_toStoredS.R (a0.fList.map MStored.row)) fun v1 => ret ((⟨v1⟩ : RCache) : RCache)) = _
  rw [call_eq (laws_toStoredS.R_eq hg)]
  rfl
theorem valid_ : Valid Tryz.prog Ev 27 con := VV (run := fun _ x => F x) mix tab_ok (.cons laws_toStoredS.valid_ .nil) Tryz.func27 (by kernel_rfl) run_eq (fun _ a _ _ hg => ⟨0, okF a hg⟩)
end laws_toCache
/-! spec.l1In -/
namespace spec_l1In
noncomputable def F (x0 : Int) (x1 : Int) (x2 : Int) : Ans := (bif (decide (x0 ≥ x1)) then ret ((decide (x0 ≤ x2)) : Bool) else ret (false : Bool))
def pats : List Pat := [.rd (.int .i64), .rd (.int .i64), .rd (.int .i64)]
def res : RP := .one (.rd (.bool))
noncomputable abbrev E : Env := ⟨assoc Tab, conG [], 15⟩
set_option maxRecDepth 100000
theorem run_eq (n : Nat) (ls : List L) : runF E (fun _ => []) Tryz.f81 res n (initS pats ls) = F (ls.headD .hole).toInt ((dropT 1 ls).headD .hole).toInt ((dropT 2 ls).headD .hole).toInt := by kernel_rfl
noncomputable def md (a0 : Int) (a1 : Int) (a2 : Int) : Bool := (bif (decide (a0 ≥ a1)) then ((decide (a0 ≤ a2)) : Bool) else (false : Bool))
def gd (a0 : Int) (a1 : Int) (a2 : Int) : Prop := True
def acc (ls : List L) : Int × Int × Int := ((ls.headD .hole).toInt, ((dropT 1 ls).headD .hole).toInt, ((dropT 2 ls).headD .hole).toInt)
noncomputable def R : (Int × Int × Int) → Option Bool := RR (p3 gd) (u3 md)
theorem R_eq {a0} {a1} {a2} (h : gd a0 a1 a2) : R (a0, a1, a2) = some (md a0 a1 a2) := RR_eq (a := (a0, a1, a2)) h
noncomputable def con : Con := CN pats res acc R
theorem okF (a0 : Int) (a1 : Int) (a2 : Int) (hg : gd a0 a1 a2) : F a0 a1 a2 = ret ((md a0 a1 a2) : Bool) := by
  unfold F md
  try simp only [S0]
  refine bif_out ret (fun c1 => ?_) (fun _ => rfl)
  first | rfl | (simp only [S0, MP]; first | done | rfl)
theorem valid_ : Valid Tryz.prog Ev 81 con := VV (run := fun _ x => F x.1 x.2.1 x.2.2) mix tab_ok .nil Tryz.func81 (by kernel_rfl) run_eq (fun _ a _ _ hg => ⟨0, okF a.1 a.2.1 a.2.2 hg⟩)
end spec_l1In
/-! spec.IsKeys -/
namespace spec_IsKeys
inductive Pt where
  | p0 (a : Int) (b : RKeys)
def pid : Pt → Nat
  | .p0 .. => 2
def pvs : Pt → List V
  | .p0 a b => [.bptr 0 0, .int .i64 a]
def phs : Pt → List Root
  | .p0 a b => [.box [.sl none 3 b.fList, .int .i64 b.fNeed]]
noncomputable def step (J : Pt → Ans) : Pt → Ans
  | .p0 a b => (bif (decide (a < (b.fList.length : Int))) then (bif (decide ((0 : Int) ≤ a)) then (bif (decide (a < (b.fList.length : Int))) then (call (spec_l1In.R ((iAt b.fList (Int.toNat a)), 1, 99)) fun v1 => (bif (!v1) then ret (false : Bool) else (bif (decide (a > 0)) then (bif (decide ((0 : Int) ≤ (IntKind.i64.wrap (a - 1)))) then (bif (decide ((IntKind.i64.wrap (a - 1)) < (b.fList.length : Int))) then (bif (decide ((0 : Int) ≤ a)) then (bif (decide (a < (b.fList.length : Int))) then (bif (decide ((iAt b.fList (Int.toNat (IntKind.i64.wrap (a - 1)))) ≥ (iAt b.fList (Int.toNat a)))) then ret (false : Bool) else J (.p0 (IntKind.i64.wrap (a + 1)) b)) else none) else none) else none) else none) else J (.p0 (IntKind.i64.wrap (a + 1)) b)))) else none) else none) else (call (spec_l1In.R ((b.fList.length : Int), 1, 4)) fun v2 => (bif v2 then (call (spec_l1In.R (b.fNeed, 1, (b.fList.length : Int))) fun v3 => ret (v3 : Bool)) else ret (false : Bool))))
noncomputable def start (J : Pt → Ans) (x0 : RKeys) : Ans := J (.p0 0 x0)
def live : Nat → Live := fun i => match i with | 2 => [(1, none), (3, none)] | _ => []
def pats : List Pat := [.agg [.sl 3, .int .i64]]
def res : RP := .one (.rd (.bool))
noncomputable abbrev E : Env := ⟨assoc Tab, conG [(81, spec_l1In.con)], 48⟩
set_option maxRecDepth 100000
theorem step_eq (I : Heads) (p : Pt) : enterC E live I (pid p) (bodyOf Tryz.f184) (stOf (live (pid p)) (pvs p) (phs p)) (doneK E Tryz.f184 res) = step (fun q => I (pid q) (pvs q) (phs q)) p := by
  cases p <;> kernel_rfl
theorem start_eq (I : Heads) (ls : List L) : runC E live I (bodyOf Tryz.f184) (initS pats ls) (doneK E Tryz.f184 res) = start (fun q => I (pid q) (pvs q) (phs q)) (RKeys.dec ls) := by kernel_rfl
theorem run_eq (n : Nat) (ls : List L) : runF E live Tryz.f184 res n (initS pats ls) = start (iter step n) (RKeys.dec ls) := runF_iter (id := pid) (vs := pvs) (hs := phs) (step := step) (start := fun J => start J (RKeys.dec ls)) step_eq (fun I => start_eq I ls) n
noncomputable def md (a0 : MKeys) : Bool := (eachI (S := Unit) (β := Bool) (fun (i1 : Nat) (y1 : Int) (s3 : Unit) => (bif (!(spec_l1In.md y1 1 99)) then (.inr (false : Bool)) else (bif (decide ((i1 : Int) > 0)) then (bif (decide ((a0.fList.getD (Int.toNat (IntKind.i64.wrap ((i1 : Int) - 1))) 0) ≥ y1)) then (.inr (false : Bool)) else (.inl ())) else (.inl ())))) (fun (s3 : Unit) => (bif (spec_l1In.md (a0.fList.length : Int) 1 4) then ((spec_l1In.md a0.fNeed 1 (a0.fList.length : Int)) : Bool) else (false : Bool))) 0 a0.fList ())
def gd (a0 : MKeys) : Prop := (MKeys.Sm (2 ^ 21) a0)
def acc (ls : List L) : RKeys := (RKeys.dec ls)
noncomputable def R : RKeys → Option Bool := RR gd md
theorem R_eq {a0} (h : gd a0) : R (MKeys.r a0) = some (md a0) := RR_eq (a := a0) h
noncomputable def con : Con := CN pats res acc R
theorem okF (a0 : MKeys) (hg : gd a0) : ∃ n, start (iter step n) (MKeys.r a0) = ret ((md a0) : Bool) := by
  unfold gd at hg
  have H0 := hg
  unfold start md
  try simp only [S0, MKeys.rs]
  have Bh2 : a0.fList.length ≤ maxLen := (by
      have := (H0).1
      try simp only [maxLen] at *
      omega)
  refine ex_eq (out := ret) (loopM_eachI (z := 0)) ?_
  refine ex_pt (p := Pt.p0 0 (MKeys.r a0)) (by first | rfl | (simp only [S0, MKeys.rs, MP]; done) | (simp only [MP]; rfl)) ?_
  refine loopM_ok (pt := fun (i1 : Nat) (s3 : Unit) => Pt.p0 (i1 : Int) (MKeys.r a0)) (s := (() : Unit)) (out := ret) (fun _ _ => True) (fun J i1 s3 h2 hih2 => ?_) (fun s3 hih2 => ?_) trivial
  · simp only [step, S0, MKeys.rs]
    have bb_ := Bh2
    simp only [maxLen] at bb_
    have := (H0).1
    refine Rnd.yes (by apply decide_eq_true; omega) ?_
    refine Rnd.yes zle_dec ?_
    refine Rnd.yes (lt_dec h2) ?_
    refine Rnd.call_to (spec_l1In.md (a0.fList.getD i1 0) 1 99) (spec_l1In.R_eq (a0 := (a0.fList.getD i1 0)) (a1 := 1) (a2 := 99) trivial) ?_
    refine Rnd.bif (fun _ => Rnd.inr rfl) (fun c4 => ?_)
    have dc4 := c4
    try simp only [DC] at dc4
    have Dc4 := c4
    try simp [spec_l1In.md] at Dc4
    refine Rnd.bif (fun c5 => ?_) (fun c5 => ?_)
    · have dc5 := c5
      try simp only [DC] at dc5
      refine Rnd.yes (by
          refine decide_eq_true ?_
          try simp (disch := omega) only [LN, wi]
          first | omega | (simp; done) | (simp; omega)) ?_
      refine Rnd.yes (by
          have := (H0).1
          refine decide_eq_true ?_
          try simp (disch := omega) only [LN, wi]
          first | omega | (simp; done) | (simp; omega)) ?_
      refine Rnd.yes zle_dec ?_
      refine Rnd.yes (lt_dec h2) ?_
      refine Rnd.bif (fun _ => Rnd.inr rfl) (fun c6 => ?_)
      refine Rnd.inl trivial ?_
      rw [wrap_succ h2 Bh2]
      all_goals first | rfl | (simp only [S0, MKeys.rs, MP]; first | done | rfl)
    · refine Rnd.inl trivial ?_
      rw [wrap_succ h2 Bh2]
      all_goals first | rfl | (simp only [S0, MKeys.rs, MP]; first | done | rfl)
  · simp only [step, S0, MKeys.rs]
    have := (H0).1
    refine ex_no (by apply decide_eq_false; omega) ?_
    refine ex_call_to (spec_l1In.md (a0.fList.length : Int) 1 4) (spec_l1In.R_eq (a0 := (a0.fList.length : Int)) (a1 := 1) (a2 := 4) trivial) ?_
    refine ex_bif ret (fun c7 => ?_) (fun _ => ⟨0, rfl⟩)
    refine ex_call_to (spec_l1In.md a0.fNeed 1 (a0.fList.length : Int)) (spec_l1In.R_eq (a0 := a0.fNeed) (a1 := 1) (a2 := (a0.fList.length : Int)) trivial) ?_
    refine ⟨0, ?_⟩
    first | rfl | (simp only [S0, MKeys.rs, MP]; first | done | rfl)
theorem valid_ : Valid Tryz.prog Ev 184 con := VV (run := fun n x => start (iter step n) x) mix tab_ok (.cons spec_l1In.valid_ .nil) Tryz.func184 (by kernel_rfl) run_eq (fun _ a _ _ hg => okF a hg)
theorem tr {a0 : MKeys} (h : md a0 = true) : 1 ≤ a0.fList.length ∧ a0.fList.length ≤ 4 := by
  refine Classical.byContradiction fun hc => ?_
  have e1 : spec_l1In.md (a0.fList.length : Int) 1 4 = false := by simp [spec_l1In.md]; omega
  unfold md at h
  rw [e1] at h
  have e2 : ∀ s : Unit, (bif false then spec_l1In.md a0.fNeed 1 (a0.fList.length : Int) else false) = false := fun _ => rfl
  have h3 := eachI_const (c := false) (f := fun (i1 : Nat) (y1 : Int) (s3 : Unit) => (bif (!(spec_l1In.md y1 1 99)) then (.inr (false : Bool)) else (bif (decide ((i1 : Int) > 0)) then (bif (decide ((a0.fList.getD (Int.toNat (IntKind.i64.wrap ((i1 : Int) - 1))) 0) ≥ y1)) then (.inr (false : Bool)) else (.inl ())) else (.inl ())))) (by
    intro i x s b h
    revert h
    simp only [Bool.cond_eq_ite]
    repeat' split
    all_goals (intro h; first | (cases h; rfl) | cases h)) a0.fList 0 ()
  simp only [cond_false] at h
  rw [h3] at h
  cases h
end spec_IsKeys
/-! spec.NoKeys -/
namespace spec_NoKeys
noncomputable def F (x0 : RKeys) : Ans := (bif (x0.fNeed == 0) then ret (((x0.fList.length : Int) == 0) : Bool) else ret (false : Bool))
def pats : List Pat := [.agg [.sl 3, .int .i64]]
def res : RP := .one (.rd (.bool))
noncomputable abbrev E : Env := ⟨assoc Tab, conG [], 12⟩
set_option maxRecDepth 100000
theorem run_eq (n : Nat) (ls : List L) : runF E (fun _ => []) Tryz.f185 res n (initS pats ls) = F (RKeys.dec ls) := by kernel_rfl
noncomputable def md (a0 : MKeys) : Bool := (bif (a0.fNeed == 0) then (((a0.fList.length : Int) == 0) : Bool) else (false : Bool))
def gd (a0 : MKeys) : Prop := True
def acc (ls : List L) : RKeys := (RKeys.dec ls)
noncomputable def R : RKeys → Option Bool := RR gd md
theorem R_eq {a0} (h : gd a0) : R (MKeys.r a0) = some (md a0) := RR_eq (a := a0) h
noncomputable def con : Con := CN pats res acc R
theorem okF (a0 : MKeys) (hg : gd a0) : F (MKeys.r a0) = ret ((md a0) : Bool) := by
  unfold F md
  try simp only [S0, MKeys.rs]
  refine bif_out ret (fun c1 => ?_) (fun _ => rfl)
  first | rfl | (simp only [S0, MKeys.rs, MP]; first | done | rfl)
theorem valid_ : Valid Tryz.prog Ev 185 con := VV (run := fun _ x => F x) mix tab_ok .nil Tryz.func185 (by kernel_rfl) run_eq (fun _ a _ _ hg => ⟨0, okF a hg⟩)
end spec_NoKeys
/-! spec.IsHead -/
namespace spec_IsHead
noncomputable def F (x0 : RHead) : Ans := (call (spec_l1In.R (x0.fZone, 0, 2147483646)) fun v1 => (bif (!v1) then ret (false : Bool) else (call (spec_l1In.R (x0.fRoot, 0, 2147483646)) fun v2 => (bif (!v2) then ret (false : Bool) else (call (spec_l1In.R (x0.fPrev, 0, 2147483646)) fun v3 => (bif (!v3) then ret (false : Bool) else (call (spec_l1In.R (x0.fEpoch, 0, 200)) fun v4 => (bif (!v4) then ret (false : Bool) else (call (spec_l1In.R (x0.fKind, 1, 3)) fun v5 => (bif (!v5) then ret (false : Bool) else (call (spec_l1In.R (x0.fTime, 0, 100000)) fun v6 => (bif (!v6) then ret (false : Bool) else (call (spec_l1In.R (x0.fUntil, x0.fTime, 100000)) fun v7 => (bif (!v7) then ret (false : Bool) else (bif (decide ((IntKind.i64.wrap (x0.fUntil - x0.fTime)) > 200)) then ret (false : Bool) else (call (spec_l1In.R (x0.fCount, 0, 12)) fun v8 => (bif (!v8) then ret (false : Bool) else (call (spec_IsKeys.R x0.fKeys) fun v9 => (bif (!v9) then ret (false : Bool) else (call (spec_NoKeys.R x0.fHeirs) fun v10 => (bif v10 then (bif (x0.fWait != 0) then ret (false : Bool) else (call (spec_IsKeys.R x0.fJudge) fun v11 => (bif v11 then ret (true : Bool) else (call (spec_NoKeys.R x0.fJudge) fun v12 => (bif v12 then ret ((!x0.fFrozen) : Bool) else ret (false : Bool)))))) else (call (spec_IsKeys.R x0.fHeirs) fun v13 => (bif (!v13) then ret (false : Bool) else (call (spec_l1In.R (x0.fWait, 1, 500)) fun v14 => (bif (!v14) then ret (false : Bool) else (call (spec_IsKeys.R x0.fJudge) fun v15 => (bif v15 then ret (true : Bool) else (call (spec_NoKeys.R x0.fJudge) fun v16 => (bif v16 then ret ((!x0.fFrozen) : Bool) else ret (false : Bool))))))))))))))))))))))))))))))
def pats : List Pat := [.agg [.int .i64, .int .i64, .int .i64, .int .i64, .int .i64, .int .i64, .int .i64, .int .i64, .sl 3, .int .i64, .sl 3, .int .i64, .int .i64, .sl 3, .int .i64, .bool]]
def res : RP := .one (.rd (.bool))
noncomputable abbrev E : Env := ⟨assoc Tab, conG [(81, spec_l1In.con), (184, spec_IsKeys.con), (185, spec_NoKeys.con)], 92⟩
set_option maxRecDepth 100000
theorem run_eq (n : Nat) (ls : List L) : runF E (fun _ => []) Tryz.f135 res n (initS pats ls) = F (RHead.dec ls) := by kernel_rfl
noncomputable def md (a0 : MHead) : Bool := (bif (!(spec_l1In.md a0.fZone 0 2147483646)) then (false : Bool) else (bif (!(spec_l1In.md a0.fRoot 0 2147483646)) then (false : Bool) else (bif (!(spec_l1In.md a0.fPrev 0 2147483646)) then (false : Bool) else (bif (!(spec_l1In.md a0.fEpoch 0 200)) then (false : Bool) else (bif (!(spec_l1In.md a0.fKind 1 3)) then (false : Bool) else (bif (!(spec_l1In.md a0.fTime 0 100000)) then (false : Bool) else (bif (!(spec_l1In.md a0.fUntil a0.fTime 100000)) then (false : Bool) else (bif (decide ((IntKind.i64.wrap (a0.fUntil - a0.fTime)) > 200)) then (false : Bool) else (bif (!(spec_l1In.md a0.fCount 0 12)) then (false : Bool) else (bif (!(spec_IsKeys.md a0.fKeys)) then (false : Bool) else (bif (spec_NoKeys.md a0.fHeirs) then (bif (a0.fWait != 0) then (false : Bool) else (bif (spec_IsKeys.md a0.fJudge) then (true : Bool) else (bif (spec_NoKeys.md a0.fJudge) then ((!a0.fFrozen) : Bool) else (false : Bool)))) else (bif (!(spec_IsKeys.md a0.fHeirs)) then (false : Bool) else (bif (!(spec_l1In.md a0.fWait 1 500)) then (false : Bool) else (bif (spec_IsKeys.md a0.fJudge) then (true : Bool) else (bif (spec_NoKeys.md a0.fJudge) then ((!a0.fFrozen) : Bool) else (false : Bool))))))))))))))))
def gd (a0 : MHead) : Prop := (MHead.Sm (2 ^ 21) a0)
def acc (ls : List L) : RHead := (RHead.dec ls)
noncomputable def R : RHead → Option Bool := RR gd md
theorem R_eq {a0} (h : gd a0) : R (MHead.r a0) = some (md a0) := RR_eq (a := a0) h
noncomputable def con : Con := CN pats res acc R
theorem okF (a0 : MHead) (hg : gd a0) : F (MHead.r a0) = ret ((md a0) : Bool) := by
  unfold gd at hg
  have H0 := hg
  unfold F md
  try simp only [S0, MHead.rs]
  refine call_to (spec_l1In.md a0.fZone 0 2147483646) (spec_l1In.R_eq (a0 := a0.fZone) (a1 := 0) (a2 := 2147483646) trivial) ?_
  refine bif_out ret (fun _ => rfl) (fun c1 => ?_)
  refine call_to (spec_l1In.md a0.fRoot 0 2147483646) (spec_l1In.R_eq (a0 := a0.fRoot) (a1 := 0) (a2 := 2147483646) trivial) ?_
  refine bif_out ret (fun _ => rfl) (fun c2 => ?_)
  refine call_to (spec_l1In.md a0.fPrev 0 2147483646) (spec_l1In.R_eq (a0 := a0.fPrev) (a1 := 0) (a2 := 2147483646) trivial) ?_
  refine bif_out ret (fun _ => rfl) (fun c3 => ?_)
  refine call_to (spec_l1In.md a0.fEpoch 0 200) (spec_l1In.R_eq (a0 := a0.fEpoch) (a1 := 0) (a2 := 200) trivial) ?_
  refine bif_out ret (fun _ => rfl) (fun c4 => ?_)
  refine call_to (spec_l1In.md a0.fKind 1 3) (spec_l1In.R_eq (a0 := a0.fKind) (a1 := 1) (a2 := 3) trivial) ?_
  refine bif_out ret (fun _ => rfl) (fun c5 => ?_)
  refine call_to (spec_l1In.md a0.fTime 0 100000) (spec_l1In.R_eq (a0 := a0.fTime) (a1 := 0) (a2 := 100000) trivial) ?_
  refine bif_out ret (fun _ => rfl) (fun c6 => ?_)
  refine call_to (spec_l1In.md a0.fUntil a0.fTime 100000) (spec_l1In.R_eq (a0 := a0.fUntil) (a1 := a0.fTime) (a2 := 100000) trivial) ?_
  refine bif_out ret (fun _ => rfl) (fun c7 => ?_)
  refine bif_out ret (fun _ => rfl) (fun c8 => ?_)
  refine call_to (spec_l1In.md a0.fCount 0 12) (spec_l1In.R_eq (a0 := a0.fCount) (a1 := 0) (a2 := 12) trivial) ?_
  refine bif_out ret (fun _ => rfl) (fun c9 => ?_)
  refine call_to (spec_IsKeys.md a0.fKeys) (spec_IsKeys.R_eq (a0 := a0.fKeys) H0.1) ?_
  refine bif_out ret (fun _ => rfl) (fun c10 => ?_)
  refine call_to (spec_NoKeys.md a0.fHeirs) (spec_NoKeys.R_eq (a0 := a0.fHeirs) trivial) ?_
  refine bif_out ret (fun c11 => ?_) (fun c11 => ?_)
  · refine bif_out ret (fun _ => rfl) (fun c12 => ?_)
    refine call_to (spec_IsKeys.md a0.fJudge) (spec_IsKeys.R_eq (a0 := a0.fJudge) H0.2.2) ?_
    refine bif_out ret (fun _ => rfl) (fun c13 => ?_)
    refine call_to (spec_NoKeys.md a0.fJudge) (spec_NoKeys.R_eq (a0 := a0.fJudge) trivial) ?_
    refine bif_out ret (fun c14 => ?_) (fun _ => rfl)
    first | rfl | (simp only [S0, MHead.rs, MP]; first | done | rfl)
  · refine call_to (spec_IsKeys.md a0.fHeirs) (spec_IsKeys.R_eq (a0 := a0.fHeirs) H0.2.1) ?_
    refine bif_out ret (fun _ => rfl) (fun c15 => ?_)
    refine call_to (spec_l1In.md a0.fWait 1 500) (spec_l1In.R_eq (a0 := a0.fWait) (a1 := 1) (a2 := 500) trivial) ?_
    refine bif_out ret (fun _ => rfl) (fun c16 => ?_)
    refine call_to (spec_IsKeys.md a0.fJudge) (spec_IsKeys.R_eq (a0 := a0.fJudge) H0.2.2) ?_
    refine bif_out ret (fun _ => rfl) (fun c17 => ?_)
    refine call_to (spec_NoKeys.md a0.fJudge) (spec_NoKeys.R_eq (a0 := a0.fJudge) trivial) ?_
    refine bif_out ret (fun c18 => ?_) (fun _ => rfl)
    first | rfl | (simp only [S0, MHead.rs, MP]; first | done | rfl)
theorem valid_ : Valid Tryz.prog Ev 135 con := VV (run := fun _ x => F x) mix tab_ok (.cons spec_l1In.valid_ (.cons spec_IsKeys.valid_ (.cons spec_NoKeys.valid_ .nil))) Tryz.func135 (by kernel_rfl) run_eq (fun _ a _ _ hg => ⟨0, okF a hg⟩)
theorem tr {a0 : MHead} (h : md a0 = true) : (1 ≤ a0.fKind ∧ a0.fKind ≤ 3) ∧ 0 ≤ a0.fTime ∧ a0.fTime ≤ a0.fUntil ∧ a0.fUntil ≤ 100000 ∧ 0 ≤ a0.fCount ∧ a0.fCount ≤ 12 := by
  have key : ∀ x y z : Int, spec_l1In.md x y z = true → y ≤ x ∧ x ≤ z := fun x y z h => by simpa [spec_l1In.md] using h
  unfold md at h
  simp only [n_and, Bool.not_not, Bool.and_eq_true] at h
  obtain ⟨_, _, _, _, h5, h6, h7, _, h8, _⟩ := h
  have := key _ _ _ h5
  have := key _ _ _ h6
  have := key _ _ _ h7
  have := key _ _ _ h8
  omega
end spec_IsHead
/-! spec.KeysInts -/
namespace spec_KeysInts
noncomputable def F (x0 : RKeys) : Ans := (bif (lim (((2 : Int) + (x0.fList.length : Int)) * 8)) then ret (([[L.int x0.fNeed], [L.int (x0.fList.length : Int)]] ++ x0.fList) : List (List L)) else none)
def pats : List Pat := [.agg [.sl 3, .int .i64]]
def res : RP := .one (.fr 3)
noncomputable abbrev E : Env := ⟨assoc Tab, conG [], 12⟩
set_option maxRecDepth 100000
theorem run_eq (n : Nat) (ls : List L) : runF E (fun _ => []) Tryz.f183 res n (initS pats ls) = F (RKeys.dec ls) := by kernel_rfl
noncomputable def md (a0 : MKeys) : List Int := ([a0.fNeed, (a0.fList.length : Int)] ++ a0.fList)
def gd (a0 : MKeys) : Prop := (MKeys.Sm (2 ^ 21) a0)
def acc (ls : List L) : RKeys := (RKeys.dec ls)
noncomputable def R : RKeys → Option (List (List L)) := RR gd md
theorem R_eq {a0} (h : gd a0) : R (MKeys.r a0) = some ((md a0).map iRow) := RR_eq (a := a0) h
noncomputable def con : Con := CN pats res acc R
theorem okF (a0 : MKeys) (hg : gd a0) : F (MKeys.r a0) = ret (((md a0).map iRow) : List (List L)) := by
  unfold gd at hg
  have H0 := hg
  unfold F md
  try simp only [S0, MKeys.rs]
  refine yes_ret (by
      have := (H0).1
      refine lim_t ?_
      try simp (disch := omega) only [LN, wi]
      first | omega | (simp; done) | (simp; omega)) ?_
  all_goals first | rfl | (simp only [S0, MKeys.rs]; done) | (simp only [MP]; rfl) | (simp only [S0, MKeys.rs, MP]; first | done | rfl)
theorem valid_ : Valid Tryz.prog Ev 183 con := VV (run := fun _ x => F x) mix tab_ok .nil Tryz.func183 (by kernel_rfl) run_eq (fun _ a _ _ hg => ⟨0, okF a hg⟩)
theorem len (a0 : MKeys) : (md a0).length = 2 + a0.fList.length := by simp [md]; omega
end spec_KeysInts
/-! spec.Mod -/
namespace spec_Mod
noncomputable def F (x0 : Int) (x1 : Int) : Ans := (call (spec_l1In.R (x1, 1, 1000000000000)) fun v1 => (bif (!v1) then ret (0 : Int) else (bif (decide (x1 = 0)) then none else (bif (decide (x1 = 0)) then none else ret ((Int.tmod (IntKind.i64.wrap ((Int.tmod x0 x1) + x1)) x1) : Int)))))
def pats : List Pat := [.rd (.int .i64), .rd (.int .i64)]
def res : RP := .one (.rd (.int .i64))
noncomputable abbrev E : Env := ⟨assoc Tab, conG [(81, spec_l1In.con)], 15⟩
set_option maxRecDepth 100000
theorem run_eq (n : Nat) (ls : List L) : runF E (fun _ => []) Tryz.f235 res n (initS pats ls) = F (ls.headD .hole).toInt ((dropT 1 ls).headD .hole).toInt := by kernel_rfl
noncomputable def md (a0 : Int) (a1 : Int) : Int := (bif (!(spec_l1In.md a1 1 1000000000000)) then (0 : Int) else ((Int.tmod (IntKind.i64.wrap ((Int.tmod a0 a1) + a1)) a1) : Int))
def gd (a0 : Int) (a1 : Int) : Prop := True
def acc (ls : List L) : Int × Int := ((ls.headD .hole).toInt, ((dropT 1 ls).headD .hole).toInt)
noncomputable def R : (Int × Int) → Option Int := RR (p2 gd) (u2 md)
theorem R_eq {a0} {a1} (h : gd a0 a1) : R (a0, a1) = some (md a0 a1) := RR_eq (a := (a0, a1)) h
noncomputable def con : Con := CN pats res acc R
theorem okF (a0 : Int) (a1 : Int) (hg : gd a0 a1) : F a0 a1 = ret ((md a0 a1) : Int) := by
  unfold F md
  try simp only [S0]
  refine call_to (spec_l1In.md a1 1 1000000000000) (spec_l1In.R_eq (a0 := a1) (a1 := 1) (a2 := 1000000000000) trivial) ?_
  refine bif_out ret (fun _ => rfl) (fun c1 => ?_)
  have dc1 := c1
  try simp only [DC] at dc1
  have Dc1 := c1
  try simp [spec_l1In.md] at Dc1
  refine no_ret (by
      refine decide_eq_false ?_
      try simp (disch := omega) only [LN, wi]
      first | omega | (simp; done) | (simp; omega)) ?_
  refine no_ret (by
      refine decide_eq_false ?_
      try simp (disch := omega) only [LN, wi]
      first | omega | (simp; done) | (simp; omega)) ?_
  first | rfl | (simp only [S0, MP]; first | done | rfl)
theorem valid_ : Valid Tryz.prog Ev 235 con := VV (run := fun _ x => F x.1 x.2) mix tab_ok (.cons spec_l1In.valid_ .nil) Tryz.func235 (by kernel_rfl) run_eq (fun _ a _ _ hg => ⟨0, okF a.1 a.2 hg⟩)
end spec_Mod
/-! spec.Hash -/
namespace spec_Hash
inductive Pt where
  | p0 (a : List (List L)) (b : Int) (c : Int)
def pid : Pt → Nat
  | .p0 .. => 3
def pvs : Pt → List V
  | .p0 a b c => [.sl none 3 a, .int .i64 b, .int .i64 c]
def phs : Pt → List Root
  | .p0 a b c => []
noncomputable def step (J : Pt → Ans) : Pt → Ans
  | .p0 a b c => (bif (decide (c < (a.length : Int))) then (bif (decide ((0 : Int) ≤ c)) then (bif (decide (c < (a.length : Int))) then (call (spec_Mod.R ((iAt a (Int.toNat c)), 2147483647)) fun v1 => J (.p0 a (Int.tmod (IntKind.i64.wrap ((IntKind.i64.wrap ((IntKind.i64.wrap (b * 1000003)) + v1)) + 13)) 2147483647) (IntKind.i64.wrap (c + 1)))) else none) else none) else ret (b : Int))
noncomputable def start (J : Pt → Ans) (x0 : List (List L)) : Ans := J (.p0 x0 11 0)
def live : Nat → Live := fun i => match i with | 3 => [(0, none), (3, none), (4, none)] | _ => []
def pats : List Pat := [.rd (.sl 3)]
def res : RP := .one (.rd (.int .i64))
noncomputable abbrev E : Env := ⟨assoc Tab, conG [(235, spec_Mod.con)], 22⟩
set_option maxRecDepth 100000
theorem step_eq (I : Heads) (p : Pt) : enterC E live I (pid p) (bodyOf Tryz.f186) (stOf (live (pid p)) (pvs p) (phs p)) (doneK E Tryz.f186 res) = step (fun q => I (pid q) (pvs q) (phs q)) p := by
  cases p <;> kernel_rfl
theorem start_eq (I : Heads) (ls : List L) : runC E live I (bodyOf Tryz.f186) (initS pats ls) (doneK E Tryz.f186 res) = start (fun q => I (pid q) (pvs q) (phs q)) (ls.headD .hole).toSl := by kernel_rfl
theorem run_eq (n : Nat) (ls : List L) : runF E live Tryz.f186 res n (initS pats ls) = start (iter step n) (ls.headD .hole).toSl := runF_iter (id := pid) (vs := pvs) (hs := phs) (step := step) (start := fun J => start J (ls.headD .hole).toSl) step_eq (fun I => start_eq I ls) n
noncomputable def md (a0 : List Int) : Int := (eachM (S := Int) (β := Int) (fun (y1 : Int) (s3 : Int) => (.inl (Int.tmod (IntKind.i64.wrap ((IntKind.i64.wrap ((IntKind.i64.wrap (s3 * 1000003)) + (spec_Mod.md y1 2147483647))) + 13)) 2147483647))) (fun (s3 : Int) => (s3 : Int)) a0 11)
def gd (a0 : List Int) : Prop := (SmL (2 ^ 43) (fun y : Int => True) a0)
def acc (ls : List L) : List (List L) := (ls.headD .hole).toSl
noncomputable def R : (List (List L)) → Option Int := RR gd md
theorem R_eq {a0} (h : gd a0) : R (a0.map iRow) = some (md a0) := RR_eq (a := a0) h
noncomputable def con : Con := CN pats res acc R
theorem okF (a0 : List Int) (hg : gd a0) : ∃ n, start (iter step n) (a0.map iRow) = ret ((md a0) : Int) := by
  unfold gd at hg
  have H0 := hg
  unfold start md
  try simp only [S0]
  have Bh2 : a0.length ≤ maxLen := (by
      have := (H0).1
      try simp only [maxLen] at *
      omega)
  refine ex_eq (out := ret) (loopM_eachM (z := 0)) ?_
  refine ex_pt (p := Pt.p0 (a0.map iRow) 11 0) (by first | rfl | (simp only [S0, MP]; done) | (simp only [MP]; rfl)) ?_
  refine loopM_ok (pt := fun (i1 : Nat) (s3 : Int) => Pt.p0 (a0.map iRow) s3 (i1 : Int)) (s := (11 : Int)) (out := ret) (fun _ _ => True) (fun J i1 s3 h2 hih2 => ?_) (fun s3 hih2 => ?_) trivial
  · simp only [step, S0]
    have bb_ := Bh2
    simp only [maxLen] at bb_
    have := (H0).1
    refine Rnd.yes (by apply decide_eq_true; omega) ?_
    refine Rnd.yes zle_dec ?_
    refine Rnd.yes (lt_dec h2) ?_
    refine Rnd.call_to (spec_Mod.md (a0.getD i1 0) 2147483647) (spec_Mod.R_eq (a0 := (a0.getD i1 0)) (a1 := 2147483647) trivial) ?_
    refine Rnd.inl trivial ?_
    rw [wrap_succ h2 Bh2]
    all_goals first | rfl | (simp only [S0, MP]; first | done | rfl)
  · simp only [step, S0]
    have := (H0).1
    refine ex_no (by apply decide_eq_false; omega) ?_
    refine ⟨0, ?_⟩
    first | rfl | (simp only [S0, MP]; first | done | rfl)
theorem valid_ : Valid Tryz.prog Ev 186 con := VV (run := fun n x => start (iter step n) x) mix tab_ok (.cons spec_Mod.valid_ .nil) Tryz.func186 (by kernel_rfl) run_eq (fun _ a _ _ hg => okF a hg)
end spec_Hash
/-! spec.ZoneOf -/
namespace spec_ZoneOf
noncomputable def F (x0 : RKeys) (x1 : Int) : Ans := (call (spec_KeysInts.R x0) fun v1 => (bif (lim (((2 : Int) + (v1.length : Int)) * 8)) then (call (spec_Hash.R ([[L.int 239], [L.int x1]] ++ v1)) fun v2 => ret (v2 : Int)) else none))
def pats : List Pat := [.agg [.sl 3, .int .i64], .rd (.int .i64)]
def res : RP := .one (.rd (.int .i64))
noncomputable abbrev E : Env := ⟨assoc Tab, conG [(183, spec_KeysInts.con), (186, spec_Hash.con)], 11⟩
set_option maxRecDepth 100000
theorem run_eq (n : Nat) (ls : List L) : runF E (fun _ => []) Tryz.f136 res n (initS pats ls) = F (RKeys.dec ls) ((dropT 2 ls).headD .hole).toInt := by kernel_rfl
noncomputable def md (a0 : MKeys) (a1 : Int) : Int := ((spec_Hash.md ([239, a1] ++ (spec_KeysInts.md a0))) : Int)
def gd (a0 : MKeys) (a1 : Int) : Prop := (MKeys.Sm (2 ^ 21) a0)
def acc (ls : List L) : RKeys × Int := ((RKeys.dec ls), ((dropT 2 ls).headD .hole).toInt)
noncomputable def R : (RKeys × Int) → Option Int := RR (p2 gd) (u2 md)
theorem R_eq {a0} {a1} (h : gd a0 a1) : R ((MKeys.r a0), a1) = some (md a0 a1) := RR_eq (a := (a0, a1)) h
noncomputable def con : Con := CN pats res acc R
theorem okF (a0 : MKeys) (a1 : Int) (hg : gd a0 a1) : F (MKeys.r a0) a1 = ret ((md a0 a1) : Int) := by
  unfold gd at hg
  have H0 := hg
  unfold F md
  try simp only [S0]
  refine call_to ((spec_KeysInts.md a0).map iRow) (spec_KeysInts.R_eq (a0 := a0) H0) ?_
  try simp only [S0]
  refine yes_ret (by
      have := spec_KeysInts.len a0
      have := (H0).1
      refine lim_t ?_
      try simp (disch := omega) only [LN, wi]
      first | omega | (simp; done) | (simp; omega)) ?_
  refine call_to (spec_Hash.md ([239, a1] ++ (spec_KeysInts.md a0))) ?_ ?_
  · have R_ := spec_Hash.R_eq (a0 := ([239, a1] ++ (spec_KeysInts.md a0))) ⟨(by
        have := spec_KeysInts.len a0
        have := (H0).1
        try simp (disch := omega) only [LN, wi]
        first | omega | (simp; done) | (simp; omega)), fun _ _ => trivial⟩
    first | exact R_ | (simp only [MP, S0] at R_ ⊢; first | exact R_ | (rw [← R_]; rfl))
  first | rfl | (simp only [S0, MP]; first | done | rfl)
theorem valid_ : Valid Tryz.prog Ev 136 con := VV (run := fun _ x => F x.1 x.2) mix tab_ok (.cons spec_KeysInts.valid_ (.cons spec_Hash.valid_ .nil)) Tryz.func136 (by kernel_rfl) run_eq (fun _ a _ _ hg => ⟨0, okF a.1 a.2 hg⟩)
end spec_ZoneOf
/-! spec.HeadInts -/
namespace spec_HeadInts
noncomputable def F (x0 : RHead) : Ans := (call (spec_KeysInts.R x0.fKeys) fun v1 => (bif (lim (((8 : Int) + (v1.length : Int)) * 8)) then (call (spec_KeysInts.R x0.fHeirs) fun v2 => (bif (lim (((([[L.int x0.fZone], [L.int x0.fEpoch], [L.int x0.fKind], [L.int x0.fTime], [L.int x0.fUntil], [L.int x0.fCount], [L.int x0.fRoot], [L.int x0.fPrev]] ++ v1).length : Int) + (v2.length : Int)) * 8)) then (bif (lim ((((([[L.int x0.fZone], [L.int x0.fEpoch], [L.int x0.fKind], [L.int x0.fTime], [L.int x0.fUntil], [L.int x0.fCount], [L.int x0.fRoot], [L.int x0.fPrev]] ++ v1) ++ v2).length : Int) + 1) * 8)) then (call (spec_KeysInts.R x0.fJudge) fun v3 => (bif (lim (((((([[L.int x0.fZone], [L.int x0.fEpoch], [L.int x0.fKind], [L.int x0.fTime], [L.int x0.fUntil], [L.int x0.fCount], [L.int x0.fRoot], [L.int x0.fPrev]] ++ v1) ++ v2) ++ [[L.int x0.fWait]]).length : Int) + (v3.length : Int)) * 8)) then (bif x0.fFrozen then (bif (lim ((((((([[L.int x0.fZone], [L.int x0.fEpoch], [L.int x0.fKind], [L.int x0.fTime], [L.int x0.fUntil], [L.int x0.fCount], [L.int x0.fRoot], [L.int x0.fPrev]] ++ v1) ++ v2) ++ [[L.int x0.fWait]]) ++ v3).length : Int) + 1) * 8)) then ret (((((([[L.int x0.fZone], [L.int x0.fEpoch], [L.int x0.fKind], [L.int x0.fTime], [L.int x0.fUntil], [L.int x0.fCount], [L.int x0.fRoot], [L.int x0.fPrev]] ++ v1) ++ v2) ++ [[L.int x0.fWait]]) ++ v3) ++ [[L.int 1]]) : List (List L)) else none) else (bif (lim ((((((([[L.int x0.fZone], [L.int x0.fEpoch], [L.int x0.fKind], [L.int x0.fTime], [L.int x0.fUntil], [L.int x0.fCount], [L.int x0.fRoot], [L.int x0.fPrev]] ++ v1) ++ v2) ++ [[L.int x0.fWait]]) ++ v3).length : Int) + 1) * 8)) then ret (((((([[L.int x0.fZone], [L.int x0.fEpoch], [L.int x0.fKind], [L.int x0.fTime], [L.int x0.fUntil], [L.int x0.fCount], [L.int x0.fRoot], [L.int x0.fPrev]] ++ v1) ++ v2) ++ [[L.int x0.fWait]]) ++ v3) ++ [[L.int 0]]) : List (List L)) else none)) else none)) else none) else none)) else none))
def pats : List Pat := [.agg [.int .i64, .int .i64, .int .i64, .int .i64, .int .i64, .int .i64, .int .i64, .int .i64, .sl 3, .int .i64, .sl 3, .int .i64, .int .i64, .sl 3, .int .i64, .bool]]
def res : RP := .one (.fr 3)
noncomputable abbrev E : Env := ⟨assoc Tab, conG [(183, spec_KeysInts.con)], 49⟩
set_option maxRecDepth 100000
theorem run_eq (n : Nat) (ls : List L) : runF E (fun _ => []) Tryz.f134 res n (initS pats ls) = F (RHead.dec ls) := by kernel_rfl
noncomputable def md (a0 : MHead) : List Int := (bif a0.fFrozen then ((((([a0.fZone, a0.fEpoch, a0.fKind, a0.fTime, a0.fUntil, a0.fCount, a0.fRoot, a0.fPrev] ++ (spec_KeysInts.md a0.fKeys)) ++ (spec_KeysInts.md a0.fHeirs)) ++ [a0.fWait]) ++ (spec_KeysInts.md a0.fJudge)) ++ [1]) else ((((([a0.fZone, a0.fEpoch, a0.fKind, a0.fTime, a0.fUntil, a0.fCount, a0.fRoot, a0.fPrev] ++ (spec_KeysInts.md a0.fKeys)) ++ (spec_KeysInts.md a0.fHeirs)) ++ [a0.fWait]) ++ (spec_KeysInts.md a0.fJudge)) ++ [0]))
def gd (a0 : MHead) : Prop := (MHead.Sm (2 ^ 21) a0)
def acc (ls : List L) : RHead := (RHead.dec ls)
noncomputable def R : RHead → Option (List (List L)) := RR gd md
theorem R_eq {a0} (h : gd a0) : R (MHead.r a0) = some ((md a0).map iRow) := RR_eq (a := a0) h
noncomputable def con : Con := CN pats res acc R
theorem okF (a0 : MHead) (hg : gd a0) : F (MHead.r a0) = ret (((md a0).map iRow) : List (List L)) := by
  unfold gd at hg
  have H0 := hg
  unfold F md
  try simp only [S0, MHead.rs]
  refine call_to ((spec_KeysInts.md a0.fKeys).map iRow) (spec_KeysInts.R_eq (a0 := a0.fKeys) H0.1) ?_
  try simp only [S0, MHead.rs]
  refine yes_ret (by
      have := spec_KeysInts.len a0.fKeys
      have := (H0.1).1
      refine lim_t ?_
      try simp (disch := omega) only [LN, wi]
      first | omega | (simp; done) | (simp; omega)) ?_
  refine call_to ((spec_KeysInts.md a0.fHeirs).map iRow) (spec_KeysInts.R_eq (a0 := a0.fHeirs) H0.2.1) ?_
  try simp only [S0, MHead.rs]
  refine yes_ret (by
      have := spec_KeysInts.len a0.fKeys
      have := (H0.1).1
      have := spec_KeysInts.len a0.fHeirs
      have := (H0.2.1).1
      refine lim_t ?_
      try simp (disch := omega) only [LN, wi]
      first | omega | (simp; done) | (simp; omega)) ?_
  refine yes_ret (by
      have := spec_KeysInts.len a0.fKeys
      have := (H0.1).1
      have := spec_KeysInts.len a0.fHeirs
      have := (H0.2.1).1
      refine lim_t ?_
      try simp (disch := omega) only [LN, wi]
      first | omega | (simp; done) | (simp; omega)) ?_
  refine call_to ((spec_KeysInts.md a0.fJudge).map iRow) (spec_KeysInts.R_eq (a0 := a0.fJudge) H0.2.2) ?_
  try simp only [S0, MHead.rs]
  refine yes_ret (by
      have := spec_KeysInts.len a0.fKeys
      have := (H0.1).1
      have := spec_KeysInts.len a0.fHeirs
      have := (H0.2.1).1
      have := spec_KeysInts.len a0.fJudge
      have := (H0.2.2).1
      refine lim_t ?_
      try simp (disch := omega) only [LN, wi]
      first | omega | (simp; done) | (simp; omega)) ?_
  refine bif_out (fun b : List Int => ret ((b.map iRow) : List (List L))) (fun c1 => ?_) (fun c1 => ?_)
  · refine yes_ret (by
        have := spec_KeysInts.len a0.fKeys
        have := (H0.1).1
        have := spec_KeysInts.len a0.fHeirs
        have := (H0.2.1).1
        have := spec_KeysInts.len a0.fJudge
        have := (H0.2.2).1
        refine lim_t ?_
        try simp (disch := omega) only [LN, wi]
        first | omega | (simp; done) | (simp; omega)) ?_
    all_goals first | rfl | (simp only [S0, MHead.rs]; done) | (simp only [MP]; rfl) | (simp only [S0, MHead.rs, MP]; first | done | rfl)
  · refine yes_ret (by
        have := spec_KeysInts.len a0.fKeys
        have := (H0.1).1
        have := spec_KeysInts.len a0.fHeirs
        have := (H0.2.1).1
        have := spec_KeysInts.len a0.fJudge
        have := (H0.2.2).1
        refine lim_t ?_
        try simp (disch := omega) only [LN, wi]
        first | omega | (simp; done) | (simp; omega)) ?_
    all_goals first | rfl | (simp only [S0, MHead.rs]; done) | (simp only [MP]; rfl) | (simp only [S0, MHead.rs, MP]; first | done | rfl)
theorem valid_ : Valid Tryz.prog Ev 134 con := VV (run := fun _ x => F x) mix tab_ok (.cons spec_KeysInts.valid_ .nil) Tryz.func134 (by kernel_rfl) run_eq (fun _ a _ _ hg => ⟨0, okF a hg⟩)
theorem len (a0 : MHead) : (md a0).length = 16 + a0.fKeys.fList.length + a0.fHeirs.fList.length + a0.fJudge.fList.length := by unfold md; cases a0.fFrozen <;> simp [spec_KeysInts.md] <;> omega
theorem injK {k l : MKeys} {x y : List Int} (h : spec_KeysInts.md k ++ x = spec_KeysInts.md l ++ y) : k = l ∧ x = y := by
  obtain ⟨kl, kn⟩ := k
  obtain ⟨ll, ln⟩ := l
  simp only [spec_KeysInts.md, List.cons_append, List.nil_append, List.cons.injEq] at h
  obtain ⟨h1, h2, h3⟩ := h
  obtain ⟨h4, h5⟩ := List.append_inj h3 (by omega)
  exact ⟨by rw [h1, h4], h5⟩
theorem md_form (a : MHead) : md a = a.fZone :: a.fEpoch :: a.fKind :: a.fTime :: a.fUntil :: a.fCount :: a.fRoot :: a.fPrev :: (spec_KeysInts.md a.fKeys ++ (spec_KeysInts.md a.fHeirs ++ (a.fWait :: (spec_KeysInts.md a.fJudge ++ [bif a.fFrozen then 1 else 0])))) := by
  unfold md
  cases a.fFrozen <;> simp only [cond_true, cond_false, List.append_assoc, List.cons_append, List.nil_append]
theorem inj {a b : MHead} (h : md a = md b) : a = b := by
  rw [md_form, md_form] at h
  simp only [List.cons.injEq] at h
  obtain ⟨g1, g2, g3, g4, g5, g6, g7, g8, g9⟩ := h
  obtain ⟨k1, g9⟩ := injK g9
  obtain ⟨k2, g9⟩ := injK g9
  simp only [List.cons.injEq] at g9
  obtain ⟨k3, g9⟩ := g9
  obtain ⟨k4, g9⟩ := injK g9
  have k5 : a.fFrozen = b.fFrozen := by
    simp only [List.cons.injEq, and_true] at g9
    revert g9
    cases a.fFrozen <;> cases b.fFrozen <;> simp
  cases a; cases b
  simp only [MHead.mk.injEq]
  exact ⟨g1, g2, g3, g4, g5, g6, g7, g8, k1, k2, k3, k4, k5⟩
end spec_HeadInts
/-! spec.KeyedHash -/
namespace spec_KeyedHash
noncomputable def F (x0 : Int) (x1 : List (List L)) : Ans := (bif (lim (((1 : Int) + (x1.length : Int)) * 8)) then (bif (lim (((([[L.int x0]] ++ x1).length : Int) + 1) * 8)) then (call (spec_Hash.R (([[L.int x0]] ++ x1) ++ [[L.int x0]])) fun v1 => ret (v1 : Int)) else none) else none)
def pats : List Pat := [.rd (.int .i64), .rd (.sl 3)]
def res : RP := .one (.rd (.int .i64))
noncomputable abbrev E : Env := ⟨assoc Tab, conG [(186, spec_Hash.con)], 13⟩
set_option maxRecDepth 100000
theorem run_eq (n : Nat) (ls : List L) : runF E (fun _ => []) Tryz.f270 res n (initS pats ls) = F (ls.headD .hole).toInt ((dropT 1 ls).headD .hole).toSl := by kernel_rfl
noncomputable def md (a0 : Int) (a1 : List Int) : Int := ((spec_Hash.md (([a0] ++ a1) ++ [a0])) : Int)
def gd (a0 : Int) (a1 : List Int) : Prop := (SmL (2 ^ 40) (fun y : Int => True) a1)
def acc (ls : List L) : Int × List (List L) := ((ls.headD .hole).toInt, ((dropT 1 ls).headD .hole).toSl)
noncomputable def R : (Int × List (List L)) → Option Int := RR (p2 gd) (u2 md)
theorem R_eq {a0} {a1} (h : gd a0 a1) : R (a0, (a1.map iRow)) = some (md a0 a1) := RR_eq (a := (a0, a1)) h
noncomputable def con : Con := CN pats res acc R
theorem okF (a0 : Int) (a1 : List Int) (hg : gd a0 a1) : F a0 (a1.map iRow) = ret ((md a0 a1) : Int) := by
  unfold gd at hg
  have H1 := hg
  unfold F md
  try simp only [S0]
  refine yes_ret (by
      have := (H1).1
      refine lim_t ?_
      try simp (disch := omega) only [LN, wi]
      first | omega | (simp; done) | (simp; omega)) ?_
  refine yes_ret (by
      have := (H1).1
      refine lim_t ?_
      try simp (disch := omega) only [LN, wi]
      first | omega | (simp; done) | (simp; omega)) ?_
  refine call_to (spec_Hash.md (([a0] ++ a1) ++ [a0])) ?_ ?_
  · have R_ := spec_Hash.R_eq (a0 := (([a0] ++ a1) ++ [a0])) ⟨(by
        have := (H1).1
        try simp (disch := omega) only [LN, wi]
        first | omega | (simp; done) | (simp; omega)), fun _ _ => trivial⟩
    first | exact R_ | (simp only [MP, S0] at R_ ⊢; first | exact R_ | (rw [← R_]; rfl))
  first | rfl | (simp only [S0, MP]; first | done | rfl)
theorem valid_ : Valid Tryz.prog Ev 270 con := VV (run := fun _ x => F x.1 x.2) mix tab_ok (.cons spec_Hash.valid_ .nil) Tryz.func270 (by kernel_rfl) run_eq (fun _ a _ _ hg => ⟨0, okF a.1 a.2 hg⟩)
end spec_KeyedHash
/-! spec.TagOf -/
namespace spec_TagOf
noncomputable def F (x0 : Int) (x1 : List (List L)) : Ans := (bif (lim (((1 : Int) + (x1.length : Int)) * 8)) then (call (spec_KeyedHash.R (x0, ([[L.int 223]] ++ x1))) fun v1 => ret (v1 : Int)) else none)
def pats : List Pat := [.rd (.int .i64), .rd (.sl 3)]
def res : RP := .one (.rd (.int .i64))
noncomputable abbrev E : Env := ⟨assoc Tab, conG [(270, spec_KeyedHash.con)], 10⟩
set_option maxRecDepth 100000
theorem run_eq (n : Nat) (ls : List L) : runF E (fun _ => []) Tryz.f259 res n (initS pats ls) = F (ls.headD .hole).toInt ((dropT 1 ls).headD .hole).toSl := by kernel_rfl
noncomputable def md (a0 : Int) (a1 : List Int) : Int := ((spec_KeyedHash.md a0 ([223] ++ a1)) : Int)
def gd (a0 : Int) (a1 : List Int) : Prop := (SmL (2 ^ 39) (fun y : Int => True) a1)
def acc (ls : List L) : Int × List (List L) := ((ls.headD .hole).toInt, ((dropT 1 ls).headD .hole).toSl)
noncomputable def R : (Int × List (List L)) → Option Int := RR (p2 gd) (u2 md)
theorem R_eq {a0} {a1} (h : gd a0 a1) : R (a0, (a1.map iRow)) = some (md a0 a1) := RR_eq (a := (a0, a1)) h
noncomputable def con : Con := CN pats res acc R
theorem okF (a0 : Int) (a1 : List Int) (hg : gd a0 a1) : F a0 (a1.map iRow) = ret ((md a0 a1) : Int) := by
  unfold gd at hg
  have H1 := hg
  unfold F md
  try simp only [S0]
  refine yes_ret (by
      have := (H1).1
      refine lim_t ?_
      try simp (disch := omega) only [LN, wi]
      first | omega | (simp; done) | (simp; omega)) ?_
  refine call_to (spec_KeyedHash.md a0 ([223] ++ a1)) ?_ ?_
  · have R_ := spec_KeyedHash.R_eq (a0 := a0) (a1 := ([223] ++ a1)) ⟨(by
        have := (H1).1
        try simp (disch := omega) only [LN, wi]
        first | omega | (simp; done) | (simp; omega)), fun _ _ => trivial⟩
    first | exact R_ | (simp only [MP, S0] at R_ ⊢; first | exact R_ | (rw [← R_]; rfl))
  first | rfl | (simp only [S0, MP]; first | done | rfl)
theorem valid_ : Valid Tryz.prog Ev 259 con := VV (run := fun _ x => F x.1 x.2) mix tab_ok (.cons spec_KeyedHash.valid_ .nil) Tryz.func259 (by kernel_rfl) run_eq (fun _ a _ _ hg => ⟨0, okF a.1 a.2 hg⟩)
end spec_TagOf
/-! spec.IsSigBy -/
namespace spec_IsSigBy
noncomputable def F (x0 : MSig) (x1 : List (List L)) : Ans := (call (spec_l1In.R (x0.fKey, 1, 99)) fun v1 => (bif v1 then (call (spec_TagOf.R (x0.fKey, x1)) fun v2 => ret ((x0.fTag == v2) : Bool)) else ret (false : Bool)))
def pats : List Pat := [.agg [.int .i64, .int .i64], .rd (.sl 3)]
def res : RP := .one (.rd (.bool))
noncomputable abbrev E : Env := ⟨assoc Tab, conG [(81, spec_l1In.con), (259, spec_TagOf.con)], 17⟩
set_option maxRecDepth 100000
theorem run_eq (n : Nat) (ls : List L) : runF E (fun _ => []) Tryz.f236 res n (initS pats ls) = F (MSig.dec ls) ((dropT 2 ls).headD .hole).toSl := by kernel_rfl
noncomputable def md (a0 : MSig) (a1 : List Int) : Bool := (bif (spec_l1In.md a0.fKey 1 99) then ((a0.fTag == (spec_TagOf.md a0.fKey a1)) : Bool) else (false : Bool))
def gd (a0 : MSig) (a1 : List Int) : Prop := (SmL (2 ^ 38) (fun y : Int => True) a1)
def acc (ls : List L) : MSig × List (List L) := ((MSig.dec ls), ((dropT 2 ls).headD .hole).toSl)
noncomputable def R : (MSig × List (List L)) → Option Bool := RR (p2 gd) (u2 md)
theorem R_eq {a0} {a1} (h : gd a0 a1) : R (a0, (a1.map iRow)) = some (md a0 a1) := RR_eq (a := (a0, a1)) h
noncomputable def con : Con := CN pats res acc R
theorem okF (a0 : MSig) (a1 : List Int) (hg : gd a0 a1) : F a0 (a1.map iRow) = ret ((md a0 a1) : Bool) := by
  unfold gd at hg
  have H1 := hg
  unfold F md
  try simp only [S0]
  refine call_to (spec_l1In.md a0.fKey 1 99) (spec_l1In.R_eq (a0 := a0.fKey) (a1 := 1) (a2 := 99) trivial) ?_
  refine bif_out ret (fun c1 => ?_) (fun _ => rfl)
  refine call_to (spec_TagOf.md a0.fKey a1) (spec_TagOf.R_eq (a0 := a0.fKey) (a1 := a1) (H1.mono (by decide) (fun x hx => trivial))) ?_
  first | rfl | (simp only [S0, MP]; first | done | rfl)
theorem valid_ : Valid Tryz.prog Ev 236 con := VV (run := fun _ x => F x.1 x.2) mix tab_ok (.cons spec_l1In.valid_ (.cons spec_TagOf.valid_ .nil)) Tryz.func236 (by kernel_rfl) run_eq (fun _ a _ _ hg => ⟨0, okF a.1 a.2 hg⟩)
end spec_IsSigBy
/-! spec.CountSigs -/
namespace spec_CountSigs
inductive Pt where
  | p0 (a : List (List L)) (b : List (List L)) (c : Int) (d : Int) (e : RKeys)
  | p1 (a : List (List L)) (b : List (List L)) (c : Int) (d : Int) (e : Int) (f : RKeys)
def pid : Pt → Nat
  | .p0 .. => 3
  | .p1 .. => 6
def pvs : Pt → List V
  | .p0 a b c d e => [.sl none 3 a, .sl none 179 b, .bptr 0 0, .int .i64 c, .int .i64 d]
  | .p1 a b c d e f => [.sl none 3 a, .sl none 179 b, .bptr 0 0, .int .i64 c, .int .i64 d, .int .i64 e]
def phs : Pt → List Root
  | .p0 a b c d e => [.box [.sl none 3 e.fList, .int .i64 e.fNeed]]
  | .p1 a b c d e f => [.box [.sl none 3 f.fList, .int .i64 f.fNeed]]
noncomputable def step (J : Pt → Ans) : Pt → Ans
  | .p0 a b c d e => (bif (decide (d < (e.fList.length : Int))) then J (.p1 a b c d 0 e) else ret (c : Int))
  | .p1 a b c d e f => (bif (decide (e < (b.length : Int))) then (bif (decide ((0 : Int) ≤ e)) then (bif (decide (e < (b.length : Int))) then (bif (decide ((0 : Int) ≤ d)) then (bif (decide (d < (f.fList.length : Int))) then (bif ((MSig.at b (Int.toNat e)).fKey == (iAt f.fList (Int.toNat d))) then (bif (decide ((0 : Int) ≤ e)) then (bif (decide (e < (b.length : Int))) then (call (spec_IsSigBy.R ((MSig.at b (Int.toNat e)), a)) fun v1 => (bif v1 then J (.p0 a b (IntKind.i64.wrap (c + 1)) (IntKind.i64.wrap (d + 1)) f) else J (.p1 a b c d (IntKind.i64.wrap (e + 1)) f))) else none) else none) else J (.p1 a b c d (IntKind.i64.wrap (e + 1)) f)) else none) else none) else none) else none) else J (.p0 a b c (IntKind.i64.wrap (d + 1)) f))
noncomputable def start (J : Pt → Ans) (x0 : RKeys) (x1 : List (List L)) (x2 : List (List L)) : Ans := J (.p0 x1 x2 0 0 x0)
def live : Nat → Live := fun i => match i with | 3 => [(1, none), (2, none), (3, none), (7, none), (8, none)] | 6 => [(1, none), (2, none), (3, none), (7, none), (8, none), (9, none)] | _ => []
def pats : List Pat := [.agg [.sl 3, .int .i64], .rd (.sl 3), .rd (.sl 179)]
def res : RP := .one (.rd (.int .i64))
noncomputable abbrev E : Env := ⟨assoc Tab, conG [(236, spec_IsSigBy.con)], 45⟩
set_option maxRecDepth 100000
theorem step_eq (I : Heads) (p : Pt) : enterC E live I (pid p) (bodyOf Tryz.f187) (stOf (live (pid p)) (pvs p) (phs p)) (doneK E Tryz.f187 res) = step (fun q => I (pid q) (pvs q) (phs q)) p := by
  cases p <;> kernel_rfl
theorem start_eq (I : Heads) (ls : List L) : runC E live I (bodyOf Tryz.f187) (initS pats ls) (doneK E Tryz.f187 res) = start (fun q => I (pid q) (pvs q) (phs q)) (RKeys.dec ls) ((dropT 2 ls).headD .hole).toSl ((dropT 3 ls).headD .hole).toSl := by kernel_rfl
theorem run_eq (n : Nat) (ls : List L) : runF E live Tryz.f187 res n (initS pats ls) = start (iter step n) (RKeys.dec ls) ((dropT 2 ls).headD .hole).toSl ((dropT 3 ls).headD .hole).toSl := runF_iter (id := pid) (vs := pvs) (hs := phs) (step := step) (start := fun J => start J (RKeys.dec ls) ((dropT 2 ls).headD .hole).toSl ((dropT 3 ls).headD .hole).toSl) step_eq (fun I => start_eq I ls) n
noncomputable def md (a0 : MKeys) (a1 : List Int) (a2 : List MSig) : Int := (eachM (S := Int) (β := Int) (fun (y1 : Int) (s3 : Int) => (eachM (S := Unit) (β := (Int ⊕ Int)) (fun (y5 : MSig) (s7 : Unit) => (bif (y5.fKey == y1) then (bif (spec_IsSigBy.md y5 a1) then (.inr (.inl (IntKind.i64.wrap (s3 + 1)))) else (.inl ())) else (.inl ()))) (fun (s7 : Unit) => (.inl s3)) a2 ())) (fun (s3 : Int) => (s3 : Int)) a0.fList 0)
def gd (a0 : MKeys) (a1 : List Int) (a2 : List MSig) : Prop := (MKeys.Sm (2 ^ 21) a0) ∧ (SmL (2 ^ 38) (fun y : Int => True) a1) ∧ (SmL (2 ^ 21) (fun y : MSig => MSig.Sm (2 ^ 21) y) a2)
def acc (ls : List L) : RKeys × List (List L) × List (List L) := ((RKeys.dec ls), ((dropT 2 ls).headD .hole).toSl, ((dropT 3 ls).headD .hole).toSl)
noncomputable def R : (RKeys × List (List L) × List (List L)) → Option Int := RR (p3 gd) (u3 md)
theorem R_eq {a0} {a1} {a2} (h : gd a0 a1 a2) : R ((MKeys.r a0), (a1.map iRow), (a2.map MSig.row)) = some (md a0 a1 a2) := RR_eq (a := (a0, a1, a2)) h
noncomputable def con : Con := CN pats res acc R
theorem okF (a0 : MKeys) (a1 : List Int) (a2 : List MSig) (hg : gd a0 a1 a2) : ∃ n, start (iter step n) (MKeys.r a0) (a1.map iRow) (a2.map MSig.row) = ret ((md a0 a1 a2) : Int) := by
  unfold gd at hg
  obtain ⟨H0, H1, H2⟩ := hg
  unfold start md
  try simp only [S0, MKeys.rs, MSig.rs]
  have Bh2 : a0.fList.length ≤ maxLen := (by
      have := (H0).1
      try simp only [maxLen] at *
      omega)
  refine ex_eq (out := ret) (loopM_eachM (z := 0)) ?_
  refine ex_pt (p := Pt.p0 (a1.map iRow) (a2.map MSig.row) 0 0 (MKeys.r a0)) (by first | rfl | (simp only [S0, MKeys.rs, MSig.rs, MP]; done) | (simp only [MP]; rfl)) ?_
  refine loopM_ex (pt := fun (i1 : Nat) (s3 : Int) => Pt.p0 (a1.map iRow) (a2.map MSig.row) s3 (i1 : Int) (MKeys.r a0)) (s := (0 : Int)) (out := ret) (fun _ _ => True) (fun i1 s3 h2 hih2 K4 hK4 rK4 => ?_) (fun s3 hih2 => ?_) trivial
  · simp only [step, S0, MKeys.rs, MSig.rs]
    have bb_ := Bh2
    simp only [maxLen] at bb_
    have := (H0).1
    refine ex_yes (by apply decide_eq_true; omega) ?_
    have Bh6 : a2.length ≤ maxLen := (by
        have := (H2).1
        try simp only [maxLen] at *
        omega)
    refine ex_eq (out := K4) (loopM_eachM (z := MSig.zero)) ?_
    refine ex_pt (p := Pt.p1 (a1.map iRow) (a2.map MSig.row) s3 (i1 : Int) 0 (MKeys.r a0)) (by first | rfl | (simp only [S0, MKeys.rs, MSig.rs, MP]; done) | (simp only [MP]; rfl)) ?_
    refine loopM_ex (pt := fun (i5 : Nat) (s7 : Unit) => Pt.p1 (a1.map iRow) (a2.map MSig.row) s3 (i1 : Int) (i5 : Int) (MKeys.r a0)) (s := (() : Unit)) (out := K4) (fun _ _ => True) (fun i5 s7 h6 hih6 K8 hK8 rK8 => ?_) (fun s7 hih6 => ?_) trivial
    · simp only [step, S0, MKeys.rs, MSig.rs]
      have bb_ := Bh6
      simp only [maxLen] at bb_
      have := (H2).1
      refine ex_yes (by apply decide_eq_true; omega) ?_
      refine ex_yes zle_dec ?_
      refine ex_yes (lt_dec h6) ?_
      refine ex_yes (by
          refine decide_eq_true ?_
          try simp (disch := omega) only [LN, wi]
          first | omega | (simp; done) | (simp; omega)) ?_
      refine ex_yes (by
          have := (H0).1
          refine decide_eq_true ?_
          try simp (disch := omega) only [LN, wi]
          first | omega | (simp; done) | (simp; omega)) ?_
      refine ex_bif K8 (fun c9 => ?_) (fun c9 => ?_)
      · refine ex_yes zle_dec ?_
        refine ex_yes (lt_dec h6) ?_
        refine ex_call_to (spec_IsSigBy.md (a2.getD i5 MSig.zero) a1) (spec_IsSigBy.R_eq (a0 := (a2.getD i5 MSig.zero)) (a1 := a1) H1) ?_
        refine ex_bif K8 (fun c10 => ?_) (fun c10 => ?_)
        · rw [rK8]
          rw [wrap_succ h2 Bh2]
          first | exact hK4 _ trivial | (simp only [S0, MKeys.rs, MSig.rs]; exact hK4 _ trivial) | (simp only [MP]; exact hK4 _ trivial)
        · rw [wrap_succ h6 Bh6]
          first | exact hK8 _ trivial | (simp only [S0, MKeys.rs, MSig.rs]; exact hK8 _ trivial) | (simp only [MP]; exact hK8 _ trivial)
      · rw [wrap_succ h6 Bh6]
        first | exact hK8 _ trivial | (simp only [S0, MKeys.rs, MSig.rs]; exact hK8 _ trivial) | (simp only [MP]; exact hK8 _ trivial)
    · simp only [step, S0, MKeys.rs, MSig.rs]
      have := (H2).1
      refine ex_no (by apply decide_eq_false; omega) ?_
      rw [wrap_succ h2 Bh2]
      first | exact hK4 _ trivial | (simp only [S0, MKeys.rs, MSig.rs]; exact hK4 _ trivial) | (simp only [MP]; exact hK4 _ trivial)
  · simp only [step, S0, MKeys.rs, MSig.rs]
    have := (H0).1
    refine ex_no (by apply decide_eq_false; omega) ?_
    refine ⟨0, ?_⟩
    first | rfl | (simp only [S0, MKeys.rs, MSig.rs, MP]; first | done | rfl)
theorem valid_ : Valid Tryz.prog Ev 187 con := VV (run := fun n x => start (iter step n) x.1 x.2.1 x.2.2) mix tab_ok (.cons spec_IsSigBy.valid_ .nil) Tryz.func187 (by kernel_rfl) run_eq (fun _ a _ _ hg => okF a.1 a.2.1 a.2.2 hg)
end spec_CountSigs
/-! spec.IsSigned -/
namespace spec_IsSigned
noncomputable def F (x0 : RKeys) (x1 : List (List L)) (x2 : List (List L)) : Ans := (call (spec_IsKeys.R x0) fun v1 => (bif v1 then (call (spec_CountSigs.R (x0, x1, x2)) fun v2 => ret ((decide (v2 ≥ x0.fNeed)) : Bool)) else ret (false : Bool)))
def pats : List Pat := [.agg [.sl 3, .int .i64], .rd (.sl 3), .rd (.sl 179)]
def res : RP := .one (.rd (.bool))
noncomputable abbrev E : Env := ⟨assoc Tab, conG [(184, spec_IsKeys.con), (187, spec_CountSigs.con)], 18⟩
set_option maxRecDepth 100000
theorem run_eq (n : Nat) (ls : List L) : runF E (fun _ => []) Tryz.f137 res n (initS pats ls) = F (RKeys.dec ls) ((dropT 2 ls).headD .hole).toSl ((dropT 3 ls).headD .hole).toSl := by kernel_rfl
noncomputable def md (a0 : MKeys) (a1 : List Int) (a2 : List MSig) : Bool := (bif (spec_IsKeys.md a0) then ((decide ((spec_CountSigs.md a0 a1 a2) ≥ a0.fNeed)) : Bool) else (false : Bool))
def gd (a0 : MKeys) (a1 : List Int) (a2 : List MSig) : Prop := (MKeys.Sm (2 ^ 21) a0) ∧ (SmL (2 ^ 38) (fun y : Int => True) a1) ∧ (SmL (2 ^ 21) (fun y : MSig => MSig.Sm (2 ^ 21) y) a2)
def acc (ls : List L) : RKeys × List (List L) × List (List L) := ((RKeys.dec ls), ((dropT 2 ls).headD .hole).toSl, ((dropT 3 ls).headD .hole).toSl)
noncomputable def R : (RKeys × List (List L) × List (List L)) → Option Bool := RR (p3 gd) (u3 md)
theorem R_eq {a0} {a1} {a2} (h : gd a0 a1 a2) : R ((MKeys.r a0), (a1.map iRow), (a2.map MSig.row)) = some (md a0 a1 a2) := RR_eq (a := (a0, a1, a2)) h
noncomputable def con : Con := CN pats res acc R
theorem okF (a0 : MKeys) (a1 : List Int) (a2 : List MSig) (hg : gd a0 a1 a2) : F (MKeys.r a0) (a1.map iRow) (a2.map MSig.row) = ret ((md a0 a1 a2) : Bool) := by
  unfold gd at hg
  obtain ⟨H0, H1, H2⟩ := hg
  unfold F md
  try simp only [S0, MKeys.rs]
  refine call_to (spec_IsKeys.md a0) (spec_IsKeys.R_eq (a0 := a0) H0) ?_
  refine bif_out ret (fun c1 => ?_) (fun _ => rfl)
  refine call_to (spec_CountSigs.md a0 a1 a2) (spec_CountSigs.R_eq (a0 := a0) (a1 := a1) (a2 := a2) ⟨H0, H1, H2⟩) ?_
  first | rfl | (simp only [S0, MKeys.rs, MP]; first | done | rfl)
theorem valid_ : Valid Tryz.prog Ev 137 con := VV (run := fun _ x => F x.1 x.2.1 x.2.2) mix tab_ok (.cons spec_IsKeys.valid_ (.cons spec_CountSigs.valid_ .nil)) Tryz.func137 (by kernel_rfl) run_eq (fun _ a _ _ hg => ⟨0, okF a.1 a.2.1 a.2.2 hg⟩)
end spec_IsSigned
/-! spec.IsFirst -/
namespace spec_IsFirst
noncomputable def F (x0 : RSigned) : Ans := (call (spec_IsHead.R x0.fHead) fun v1 => (bif v1 then (bif (x0.fHead.fEpoch == 0) then (bif (x0.fHead.fKind == 1) then (bif (!x0.fHead.fFrozen) then (call (spec_ZoneOf.R (x0.fHead.fKeys, x0.fHead.fPrev)) fun v2 => (bif (x0.fHead.fZone == v2) then (call (spec_HeadInts.R x0.fHead) fun v3 => (call (spec_IsSigned.R (x0.fHead.fKeys, v3, x0.fSigs)) fun v4 => ret (v4 : Bool))) else ret (false : Bool))) else ret (false : Bool)) else ret (false : Bool)) else ret (false : Bool)) else ret (false : Bool)))
def pats : List Pat := [.agg [.int .i64, .int .i64, .int .i64, .int .i64, .int .i64, .int .i64, .int .i64, .int .i64, .sl 3, .int .i64, .sl 3, .int .i64, .int .i64, .sl 3, .int .i64, .bool, .sl 179]]
def res : RP := .one (.rd (.bool))
noncomputable abbrev E : Env := ⟨assoc Tab, conG [(135, spec_IsHead.con), (136, spec_ZoneOf.con), (134, spec_HeadInts.con), (137, spec_IsSigned.con)], 42⟩
set_option maxRecDepth 100000
theorem run_eq (n : Nat) (ls : List L) : runF E (fun _ => []) Tryz.f85 res n (initS pats ls) = F (RSigned.dec ls) := by kernel_rfl
noncomputable def md (a0 : MSigned) : Bool := (bif (spec_IsHead.md a0.fHead) then (bif (a0.fHead.fEpoch == 0) then (bif (a0.fHead.fKind == 1) then (bif (!a0.fHead.fFrozen) then (bif (a0.fHead.fZone == (spec_ZoneOf.md a0.fHead.fKeys a0.fHead.fPrev)) then ((spec_IsSigned.md a0.fHead.fKeys (spec_HeadInts.md a0.fHead) a0.fSigs) : Bool) else (false : Bool)) else (false : Bool)) else (false : Bool)) else (false : Bool)) else (false : Bool))
def gd (a0 : MSigned) : Prop := (MSigned.Sm (2 ^ 21) a0)
def acc (ls : List L) : RSigned := (RSigned.dec ls)
noncomputable def R : RSigned → Option Bool := RR gd md
theorem R_eq {a0} (h : gd a0) : R (MSigned.r a0) = some (md a0) := RR_eq (a := a0) h
noncomputable def con : Con := CN pats res acc R
theorem okF (a0 : MSigned) (hg : gd a0) : F (MSigned.r a0) = ret ((md a0) : Bool) := by
  unfold gd at hg
  have H0 := hg
  unfold F md
  try simp only [S0, MHead.rs, MSigned.rs]
  refine call_to (spec_IsHead.md a0.fHead) (spec_IsHead.R_eq (a0 := a0.fHead) H0.1) ?_
  refine bif_out ret (fun c1 => ?_) (fun _ => rfl)
  try have tc1 := spec_IsHead.tr (by simpa using c1)
  refine bif_out ret (fun c2 => ?_) (fun _ => rfl)
  have dc2 := c2
  try simp only [DC] at dc2
  refine bif_out ret (fun c3 => ?_) (fun _ => rfl)
  have dc3 := c3
  try simp only [DC] at dc3
  refine bif_out ret (fun c4 => ?_) (fun _ => rfl)
  have dc4 := c4
  try simp only [DC] at dc4
  refine call_to (spec_ZoneOf.md a0.fHead.fKeys a0.fHead.fPrev) (spec_ZoneOf.R_eq (a0 := a0.fHead.fKeys) (a1 := a0.fHead.fPrev) H0.1.1) ?_
  refine bif_out ret (fun c5 => ?_) (fun _ => rfl)
  have dc5 := c5
  try simp only [DC] at dc5
  refine call_to ((spec_HeadInts.md a0.fHead).map iRow) (spec_HeadInts.R_eq (a0 := a0.fHead) H0.1) ?_
  try simp only [S0, MHead.rs, MSigned.rs]
  refine call_to (spec_IsSigned.md a0.fHead.fKeys (spec_HeadInts.md a0.fHead) a0.fSigs) (spec_IsSigned.R_eq (a0 := a0.fHead.fKeys) (a1 := (spec_HeadInts.md a0.fHead)) (a2 := a0.fSigs) ⟨H0.1.1, ⟨(by
      have := spec_HeadInts.len a0.fHead
      have := (H0.1.1).1
      have := (H0.1.2.1).1
      have := (H0.1.2.2).1
      try simp (disch := omega) only [LN, wi]
      first | omega | (simp; done) | (simp; omega)), fun _ _ => trivial⟩, H0.2⟩) ?_
  first | rfl | (simp only [S0, MHead.rs, MSigned.rs, MP]; first | done | rfl)
theorem valid_ : Valid Tryz.prog Ev 85 con := VV (run := fun _ x => F x) mix tab_ok (.cons spec_IsHead.valid_ (.cons spec_ZoneOf.valid_ (.cons spec_HeadInts.valid_ (.cons spec_IsSigned.valid_ .nil)))) Tryz.func85 (by kernel_rfl) run_eq (fun _ a _ _ hg => ⟨0, okF a hg⟩)
end spec_IsFirst
/-! spec.HeadDigest -/
namespace spec_HeadDigest
noncomputable def F (x0 : RHead) : Ans := (call (spec_HeadInts.R x0) fun v1 => (bif (lim (((1 : Int) + (v1.length : Int)) * 8)) then (call (spec_Hash.R ([[L.int 233]] ++ v1)) fun v2 => ret (v2 : Int)) else none))
def pats : List Pat := [.agg [.int .i64, .int .i64, .int .i64, .int .i64, .int .i64, .int .i64, .int .i64, .int .i64, .sl 3, .int .i64, .sl 3, .int .i64, .int .i64, .sl 3, .int .i64, .bool]]
def res : RP := .one (.rd (.int .i64))
noncomputable abbrev E : Env := ⟨assoc Tab, conG [(134, spec_HeadInts.con), (186, spec_Hash.con)], 8⟩
set_option maxRecDepth 100000
theorem run_eq (n : Nat) (ls : List L) : runF E (fun _ => []) Tryz.f188 res n (initS pats ls) = F (RHead.dec ls) := by kernel_rfl
noncomputable def md (a0 : MHead) : Int := ((spec_Hash.md ([233] ++ (spec_HeadInts.md a0))) : Int)
def gd (a0 : MHead) : Prop := (MHead.Sm (2 ^ 21) a0)
def acc (ls : List L) : RHead := (RHead.dec ls)
noncomputable def R : RHead → Option Int := RR gd md
theorem R_eq {a0} (h : gd a0) : R (MHead.r a0) = some (md a0) := RR_eq (a := a0) h
noncomputable def con : Con := CN pats res acc R
theorem okF (a0 : MHead) (hg : gd a0) : F (MHead.r a0) = ret ((md a0) : Int) := by
  unfold gd at hg
  have H0 := hg
  unfold F md
  try simp only [S0]
  refine call_to ((spec_HeadInts.md a0).map iRow) (spec_HeadInts.R_eq (a0 := a0) H0) ?_
  try simp only [S0]
  refine yes_ret (by
      have := spec_HeadInts.len a0
      have := (H0.1).1
      have := (H0.2.1).1
      have := (H0.2.2).1
      refine lim_t ?_
      try simp (disch := omega) only [LN, wi]
      first | omega | (simp; done) | (simp; omega)) ?_
  refine call_to (spec_Hash.md ([233] ++ (spec_HeadInts.md a0))) ?_ ?_
  · have R_ := spec_Hash.R_eq (a0 := ([233] ++ (spec_HeadInts.md a0))) ⟨(by
        have := spec_HeadInts.len a0
        have := (H0.1).1
        have := (H0.2.1).1
        have := (H0.2.2).1
        try simp (disch := omega) only [LN, wi]
        first | omega | (simp; done) | (simp; omega)), fun _ _ => trivial⟩
    first | exact R_ | (simp only [MP, S0] at R_ ⊢; first | exact R_ | (rw [← R_]; rfl))
  first | rfl | (simp only [S0, MP]; first | done | rfl)
theorem valid_ : Valid Tryz.prog Ev 188 con := VV (run := fun _ x => F x) mix tab_ok (.cons spec_HeadInts.valid_ (.cons spec_Hash.valid_ .nil)) Tryz.func188 (by kernel_rfl) run_eq (fun _ a _ _ hg => ⟨0, okF a hg⟩)
end spec_HeadDigest
/-! spec.l15Owner -/
namespace spec_l15Owner
noncomputable def F (x0 : RHead) (x1 : RHead) : Ans := (bif x0.fFrozen then ret (4 : Int) else (bif x1.fFrozen then ret (6 : Int) else ret (1 : Int)))
def pats : List Pat := [.agg [.int .i64, .int .i64, .int .i64, .int .i64, .int .i64, .int .i64, .int .i64, .int .i64, .sl 3, .int .i64, .sl 3, .int .i64, .int .i64, .sl 3, .int .i64, .bool], .agg [.int .i64, .int .i64, .int .i64, .int .i64, .int .i64, .int .i64, .int .i64, .int .i64, .sl 3, .int .i64, .sl 3, .int .i64, .int .i64, .sl 3, .int .i64, .bool]]
def res : RP := .one (.rd (.int .i64))
noncomputable abbrev E : Env := ⟨assoc Tab, conG [], 11⟩
set_option maxRecDepth 100000
theorem run_eq (n : Nat) (ls : List L) : runF E (fun _ => []) Tryz.f189 res n (initS pats ls) = F (RHead.dec ls) (RHead.dec (dropT 16 ls)) := by kernel_rfl
noncomputable def md (a0 : MHead) (a1 : MHead) : Int := (bif a0.fFrozen then (4 : Int) else (bif a1.fFrozen then (6 : Int) else (1 : Int)))
def gd (a0 : MHead) (a1 : MHead) : Prop := True
def acc (ls : List L) : RHead × RHead := ((RHead.dec ls), (RHead.dec (dropT 16 ls)))
noncomputable def R : (RHead × RHead) → Option Int := RR (p2 gd) (u2 md)
theorem R_eq {a0} {a1} (h : gd a0 a1) : R ((MHead.r a0), (MHead.r a1)) = some (md a0 a1) := RR_eq (a := (a0, a1)) h
noncomputable def con : Con := CN pats res acc R
theorem okF (a0 : MHead) (a1 : MHead) (hg : gd a0 a1) : F (MHead.r a0) (MHead.r a1) = ret ((md a0 a1) : Int) := by
  unfold F md
  try simp only [S0, MHead.rs]
  refine bif_out ret (fun _ => rfl) (fun c1 => ?_)
  refine bif_out ret (fun _ => rfl) (fun _ => rfl)
theorem valid_ : Valid Tryz.prog Ev 189 con := VV (run := fun _ x => F x.1 x.2) mix tab_ok .nil Tryz.func189 (by kernel_rfl) run_eq (fun _ a _ _ hg => ⟨0, okF a.1 a.2 hg⟩)
end spec_l15Owner
/-! spec.EqualInts -/
namespace spec_EqualInts
inductive Pt where
  | p0 (a : List (List L)) (b : List (List L)) (c : Int)
def pid : Pt → Nat
  | .p0 .. => 4
def pvs : Pt → List V
  | .p0 a b c => [.sl none 3 a, .sl none 3 b, .int .i64 c]
def phs : Pt → List Root
  | .p0 a b c => []
noncomputable def step (J : Pt → Ans) : Pt → Ans
  | .p0 a b c => (bif (decide (c < (a.length : Int))) then (bif (decide ((0 : Int) ≤ c)) then (bif (decide (c < (a.length : Int))) then (bif (decide ((0 : Int) ≤ c)) then (bif (decide (c < (b.length : Int))) then (bif ((iAt a (Int.toNat c)) != (iAt b (Int.toNat c))) then ret (false : Bool) else J (.p0 a b (IntKind.i64.wrap (c + 1)))) else none) else none) else none) else none) else ret (true : Bool))
noncomputable def start (J : Pt → Ans) (x0 : List (List L)) (x1 : List (List L)) : Ans := (bif ((x0.length : Int) != (x1.length : Int)) then ret (false : Bool) else J (.p0 x0 x1 0))
def live : Nat → Live := fun i => match i with | 4 => [(0, none), (1, none), (5, none)] | _ => []
def pats : List Pat := [.rd (.sl 3), .rd (.sl 3)]
def res : RP := .one (.rd (.bool))
noncomputable abbrev E : Env := ⟨assoc Tab, conG [], 26⟩
set_option maxRecDepth 100000
theorem step_eq (I : Heads) (p : Pt) : enterC E live I (pid p) (bodyOf Tryz.f108) (stOf (live (pid p)) (pvs p) (phs p)) (doneK E Tryz.f108 res) = step (fun q => I (pid q) (pvs q) (phs q)) p := by
  cases p <;> kernel_rfl
theorem start_eq (I : Heads) (ls : List L) : runC E live I (bodyOf Tryz.f108) (initS pats ls) (doneK E Tryz.f108 res) = start (fun q => I (pid q) (pvs q) (phs q)) (ls.headD .hole).toSl ((dropT 1 ls).headD .hole).toSl := by kernel_rfl
theorem run_eq (n : Nat) (ls : List L) : runF E live Tryz.f108 res n (initS pats ls) = start (iter step n) (ls.headD .hole).toSl ((dropT 1 ls).headD .hole).toSl := runF_iter (id := pid) (vs := pvs) (hs := phs) (step := step) (start := fun J => start J (ls.headD .hole).toSl ((dropT 1 ls).headD .hole).toSl) step_eq (fun I => start_eq I ls) n
noncomputable def md (a0 : List Int) (a1 : List Int) : Bool := (bif ((a0.length : Int) != (a1.length : Int)) then (false : Bool) else (loopM (S := Unit) (β := Bool) (fun (i2 : Nat) (s4 : Unit) => (bif ((a0.getD i2 0) != (a1.getD i2 0)) then (.inr (false : Bool)) else (.inl ()))) (fun (s4 : Unit) => (true : Bool)) a0.length 0 ()))
def gd (a0 : List Int) (a1 : List Int) : Prop := (SmL (2 ^ 38) (fun y : Int => True) a0) ∧ (SmL (2 ^ 38) (fun y : Int => True) a1)
def acc (ls : List L) : List (List L) × List (List L) := ((ls.headD .hole).toSl, ((dropT 1 ls).headD .hole).toSl)
noncomputable def R : (List (List L) × List (List L)) → Option Bool := RR (p2 gd) (u2 md)
theorem R_eq {a0} {a1} (h : gd a0 a1) : R ((a0.map iRow), (a1.map iRow)) = some (md a0 a1) := RR_eq (a := (a0, a1)) h
noncomputable def con : Con := CN pats res acc R
theorem okF (a0 : List Int) (a1 : List Int) (hg : gd a0 a1) : ∃ n, start (iter step n) (a0.map iRow) (a1.map iRow) = ret ((md a0 a1) : Bool) := by
  unfold gd at hg
  obtain ⟨H0, H1⟩ := hg
  unfold start md
  try simp only [S0]
  refine ex_bif ret (fun _ => ⟨0, rfl⟩) (fun c1 => ?_)
  have dc1 := c1
  try simp only [DC] at dc1
  have Bh3 : a0.length ≤ maxLen := (by
      have := (H0).1
      try simp only [maxLen] at *
      omega)
  refine ex_pt (p := Pt.p0 (a0.map iRow) (a1.map iRow) 0) (by first | rfl | (simp only [S0, MP]; done) | (simp only [MP]; rfl)) ?_
  refine loopM_ok (pt := fun (i2 : Nat) (s4 : Unit) => Pt.p0 (a0.map iRow) (a1.map iRow) (i2 : Int)) (s := (() : Unit)) (out := ret) (fun _ _ => True) (fun J i2 s4 h3 hih3 => ?_) (fun s4 hih3 => ?_) trivial
  · simp only [step, S0]
    have bb_ := Bh3
    simp only [maxLen] at bb_
    have := (H0).1
    refine Rnd.yes (by apply decide_eq_true; omega) ?_
    refine Rnd.yes zle_dec ?_
    refine Rnd.yes (lt_dec h3) ?_
    refine Rnd.yes zle_dec ?_
    refine Rnd.yes (by
        have := (H1).1
        refine decide_eq_true ?_
        try simp (disch := omega) only [LN, wi]
        first | omega | (simp; done) | (simp; omega)) ?_
    refine Rnd.bif (fun _ => Rnd.inr rfl) (fun c5 => ?_)
    refine Rnd.inl trivial ?_
    rw [wrap_succ h3 Bh3]
    all_goals first | rfl | (simp only [S0, MP]; first | done | rfl)
  · simp only [step, S0]
    have := (H0).1
    refine ex_no (by apply decide_eq_false; omega) ?_
    refine ⟨0, ?_⟩
    first | rfl | (simp only [S0, MP]; first | done | rfl)
theorem valid_ : Valid Tryz.prog Ev 108 con := VV (run := fun n x => start (iter step n) x.1 x.2) mix tab_ok .nil Tryz.func108 (by kernel_rfl) run_eq (fun _ a _ _ hg => okF a.1 a.2 hg)
theorem md_eq (a0 : List Int) (a1 : List Int) : md a0 a1 = eqB a0 a1 := by
  unfold md
  refine loop_eqB (0) (fun i s h h2 => ?_) (fun s => rfl)
  simp only [bne, int_beq, bool_beq, ba_beq]
  cases eqB _ _ <;> rfl
end spec_EqualInts
/-! spec.EqualKeys -/
namespace spec_EqualKeys
noncomputable def F (x0 : RKeys) (x1 : RKeys) : Ans := (bif (x0.fNeed == x1.fNeed) then (call (spec_EqualInts.R (x0.fList, x1.fList)) fun v1 => ret (v1 : Bool)) else ret (false : Bool))
def pats : List Pat := [.agg [.sl 3, .int .i64], .agg [.sl 3, .int .i64]]
def res : RP := .one (.rd (.bool))
noncomputable abbrev E : Env := ⟨assoc Tab, conG [(108, spec_EqualInts.con)], 17⟩
set_option maxRecDepth 100000
theorem run_eq (n : Nat) (ls : List L) : runF E (fun _ => []) Tryz.f237 res n (initS pats ls) = F (RKeys.dec ls) (RKeys.dec (dropT 2 ls)) := by kernel_rfl
noncomputable def md (a0 : MKeys) (a1 : MKeys) : Bool := (bif (a0.fNeed == a1.fNeed) then ((spec_EqualInts.md a0.fList a1.fList) : Bool) else (false : Bool))
def gd (a0 : MKeys) (a1 : MKeys) : Prop := (MKeys.Sm (2 ^ 21) a0) ∧ (MKeys.Sm (2 ^ 21) a1)
def acc (ls : List L) : RKeys × RKeys := ((RKeys.dec ls), (RKeys.dec (dropT 2 ls)))
noncomputable def R : (RKeys × RKeys) → Option Bool := RR (p2 gd) (u2 md)
theorem R_eq {a0} {a1} (h : gd a0 a1) : R ((MKeys.r a0), (MKeys.r a1)) = some (md a0 a1) := RR_eq (a := (a0, a1)) h
noncomputable def con : Con := CN pats res acc R
theorem okF (a0 : MKeys) (a1 : MKeys) (hg : gd a0 a1) : F (MKeys.r a0) (MKeys.r a1) = ret ((md a0 a1) : Bool) := by
  unfold gd at hg
  obtain ⟨H0, H1⟩ := hg
  unfold F md
  try simp only [S0, MKeys.rs]
  refine bif_out ret (fun c1 => ?_) (fun _ => rfl)
  refine call_to (spec_EqualInts.md a0.fList a1.fList) (spec_EqualInts.R_eq (a0 := a0.fList) (a1 := a1.fList) ⟨(H0.mono (by decide) (fun x hx => trivial)), (H1.mono (by decide) (fun x hx => trivial))⟩) ?_
  first | rfl | (simp only [S0, MKeys.rs, MP]; first | done | rfl)
theorem valid_ : Valid Tryz.prog Ev 237 con := VV (run := fun _ x => F x.1 x.2) mix tab_ok (.cons spec_EqualInts.valid_ .nil) Tryz.func237 (by kernel_rfl) run_eq (fun _ a _ _ hg => ⟨0, okF a.1 a.2 hg⟩)
theorem md_eq (a0 : MKeys) (a1 : MKeys) : md a0 a1 = eqB a0 a1 := by
  unfold md
  cases a0; cases a1
  rw [Bool.eq_iff_iff]
  simp [eqB_iff, ba_beq, MKeys.mk.injEq, spec_EqualInts.md_eq]
  try (constructor <;> (intro h; simp_all))
end spec_EqualKeys
/-! spec.SameContents -/
namespace spec_SameContents
noncomputable def F (x0 : RHead) (x1 : RHead) : Ans := (bif (x0.fCount == x1.fCount) then ret ((x0.fRoot == x1.fRoot) : Bool) else ret (false : Bool))
def pats : List Pat := [.agg [.int .i64, .int .i64, .int .i64, .int .i64, .int .i64, .int .i64, .int .i64, .int .i64, .sl 3, .int .i64, .sl 3, .int .i64, .int .i64, .sl 3, .int .i64, .bool], .agg [.int .i64, .int .i64, .int .i64, .int .i64, .int .i64, .int .i64, .int .i64, .int .i64, .sl 3, .int .i64, .sl 3, .int .i64, .int .i64, .sl 3, .int .i64, .bool]]
def res : RP := .one (.rd (.bool))
noncomputable abbrev E : Env := ⟨assoc Tab, conG [], 17⟩
set_option maxRecDepth 100000
theorem run_eq (n : Nat) (ls : List L) : runF E (fun _ => []) Tryz.f238 res n (initS pats ls) = F (RHead.dec ls) (RHead.dec (dropT 16 ls)) := by kernel_rfl
noncomputable def md (a0 : MHead) (a1 : MHead) : Bool := (bif (a0.fCount == a1.fCount) then ((a0.fRoot == a1.fRoot) : Bool) else (false : Bool))
def gd (a0 : MHead) (a1 : MHead) : Prop := True
def acc (ls : List L) : RHead × RHead := ((RHead.dec ls), (RHead.dec (dropT 16 ls)))
noncomputable def R : (RHead × RHead) → Option Bool := RR (p2 gd) (u2 md)
theorem R_eq {a0} {a1} (h : gd a0 a1) : R ((MHead.r a0), (MHead.r a1)) = some (md a0 a1) := RR_eq (a := (a0, a1)) h
noncomputable def con : Con := CN pats res acc R
theorem okF (a0 : MHead) (a1 : MHead) (hg : gd a0 a1) : F (MHead.r a0) (MHead.r a1) = ret ((md a0 a1) : Bool) := by
  unfold F md
  try simp only [S0, MHead.rs]
  refine bif_out ret (fun c1 => ?_) (fun _ => rfl)
  first | rfl | (simp only [S0, MHead.rs, MP]; first | done | rfl)
theorem valid_ : Valid Tryz.prog Ev 238 con := VV (run := fun _ x => F x.1 x.2) mix tab_ok .nil Tryz.func238 (by kernel_rfl) run_eq (fun _ a _ _ hg => ⟨0, okF a.1 a.2 hg⟩)
end spec_SameContents
/-! spec.l15Heir -/
namespace spec_l15Heir
noncomputable def F (x0 : RHead) (x1 : RHead) : Ans := (bif x0.fFrozen then ret (4 : Int) else (call (spec_NoKeys.R x0.fHeirs) fun v1 => (bif v1 then ret (5 : Int) else (bif (decide (x1.fTime < (IntKind.i64.wrap (x0.fUntil + x0.fWait)))) then ret (5 : Int) else (bif x1.fFrozen then ret (6 : Int) else (call (spec_EqualKeys.R (x1.fKeys, x0.fHeirs)) fun v2 => (bif (!v2) then ret (6 : Int) else (call (spec_SameContents.R (x1, x0)) fun v3 => (bif (!v3) then ret (6 : Int) else ret (1 : Int))))))))))
def pats : List Pat := [.agg [.int .i64, .int .i64, .int .i64, .int .i64, .int .i64, .int .i64, .int .i64, .int .i64, .sl 3, .int .i64, .sl 3, .int .i64, .int .i64, .sl 3, .int .i64, .bool], .agg [.int .i64, .int .i64, .int .i64, .int .i64, .int .i64, .int .i64, .int .i64, .int .i64, .sl 3, .int .i64, .sl 3, .int .i64, .int .i64, .sl 3, .int .i64, .bool]]
def res : RP := .one (.rd (.int .i64))
noncomputable abbrev E : Env := ⟨assoc Tab, conG [(185, spec_NoKeys.con), (237, spec_EqualKeys.con), (238, spec_SameContents.con)], 39⟩
set_option maxRecDepth 100000
theorem run_eq (n : Nat) (ls : List L) : runF E (fun _ => []) Tryz.f190 res n (initS pats ls) = F (RHead.dec ls) (RHead.dec (dropT 16 ls)) := by kernel_rfl
noncomputable def md (a0 : MHead) (a1 : MHead) : Int := (bif a0.fFrozen then (4 : Int) else (bif (spec_NoKeys.md a0.fHeirs) then (5 : Int) else (bif (decide (a1.fTime < (IntKind.i64.wrap (a0.fUntil + a0.fWait)))) then (5 : Int) else (bif a1.fFrozen then (6 : Int) else (bif (!(spec_EqualKeys.md a1.fKeys a0.fHeirs)) then (6 : Int) else (bif (!(spec_SameContents.md a1 a0)) then (6 : Int) else (1 : Int)))))))
def gd (a0 : MHead) (a1 : MHead) : Prop := (MHead.Sm (2 ^ 21) a0) ∧ (MHead.Sm (2 ^ 21) a1)
def acc (ls : List L) : RHead × RHead := ((RHead.dec ls), (RHead.dec (dropT 16 ls)))
noncomputable def R : (RHead × RHead) → Option Int := RR (p2 gd) (u2 md)
theorem R_eq {a0} {a1} (h : gd a0 a1) : R ((MHead.r a0), (MHead.r a1)) = some (md a0 a1) := RR_eq (a := (a0, a1)) h
noncomputable def con : Con := CN pats res acc R
theorem okF (a0 : MHead) (a1 : MHead) (hg : gd a0 a1) : F (MHead.r a0) (MHead.r a1) = ret ((md a0 a1) : Int) := by
  unfold gd at hg
  obtain ⟨H0, H1⟩ := hg
  unfold F md
  try simp only [S0, MHead.rs]
  refine bif_out ret (fun _ => rfl) (fun c1 => ?_)
  refine call_to (spec_NoKeys.md a0.fHeirs) (spec_NoKeys.R_eq (a0 := a0.fHeirs) trivial) ?_
  refine bif_out ret (fun _ => rfl) (fun c2 => ?_)
  refine bif_out ret (fun _ => rfl) (fun c3 => ?_)
  refine bif_out ret (fun _ => rfl) (fun c4 => ?_)
  refine call_to (spec_EqualKeys.md a1.fKeys a0.fHeirs) (spec_EqualKeys.R_eq (a0 := a1.fKeys) (a1 := a0.fHeirs) ⟨H1.1, H0.2.1⟩) ?_
  refine bif_out ret (fun _ => rfl) (fun c5 => ?_)
  refine call_to (spec_SameContents.md a1 a0) (spec_SameContents.R_eq (a0 := a1) (a1 := a0) trivial) ?_
  refine bif_out ret (fun _ => rfl) (fun _ => rfl)
theorem valid_ : Valid Tryz.prog Ev 190 con := VV (run := fun _ x => F x.1 x.2) mix tab_ok (.cons spec_NoKeys.valid_ (.cons spec_EqualKeys.valid_ (.cons spec_SameContents.valid_ .nil))) Tryz.func190 (by kernel_rfl) run_eq (fun _ a _ _ hg => ⟨0, okF a.1 a.2 hg⟩)
end spec_l15Heir
/-! spec.l15Judge -/
namespace spec_l15Judge
noncomputable def F (x0 : RHead) (x1 : RHead) : Ans := (call (spec_NoKeys.R x0.fJudge) fun v1 => (bif v1 then ret (5 : Int) else (bif (x1.fFrozen == x0.fFrozen) then ret (6 : Int) else (call (spec_SameContents.R (x1, x0)) fun v2 => (bif (!v2) then ret (6 : Int) else (call (spec_EqualKeys.R (x1.fJudge, x0.fJudge)) fun v3 => (bif (!v3) then ret (6 : Int) else (call (spec_EqualKeys.R (x1.fHeirs, x0.fHeirs)) fun v4 => (bif (!v4) then ret (6 : Int) else (bif (x1.fWait != x0.fWait) then ret (6 : Int) else (bif x1.fFrozen then (call (spec_EqualKeys.R (x1.fKeys, x0.fKeys)) fun v5 => (bif (!v5) then ret (6 : Int) else ret (1 : Int))) else ret (1 : Int))))))))))))
def pats : List Pat := [.agg [.int .i64, .int .i64, .int .i64, .int .i64, .int .i64, .int .i64, .int .i64, .int .i64, .sl 3, .int .i64, .sl 3, .int .i64, .int .i64, .sl 3, .int .i64, .bool], .agg [.int .i64, .int .i64, .int .i64, .int .i64, .int .i64, .int .i64, .int .i64, .int .i64, .sl 3, .int .i64, .sl 3, .int .i64, .int .i64, .sl 3, .int .i64, .bool]]
def res : RP := .one (.rd (.int .i64))
noncomputable abbrev E : Env := ⟨assoc Tab, conG [(185, spec_NoKeys.con), (238, spec_SameContents.con), (237, spec_EqualKeys.con)], 55⟩
set_option maxRecDepth 100000
theorem run_eq (n : Nat) (ls : List L) : runF E (fun _ => []) Tryz.f191 res n (initS pats ls) = F (RHead.dec ls) (RHead.dec (dropT 16 ls)) := by kernel_rfl
noncomputable def md (a0 : MHead) (a1 : MHead) : Int := (bif (spec_NoKeys.md a0.fJudge) then (5 : Int) else (bif (a1.fFrozen == a0.fFrozen) then (6 : Int) else (bif (!(spec_SameContents.md a1 a0)) then (6 : Int) else (bif (!(spec_EqualKeys.md a1.fJudge a0.fJudge)) then (6 : Int) else (bif (!(spec_EqualKeys.md a1.fHeirs a0.fHeirs)) then (6 : Int) else (bif (a1.fWait != a0.fWait) then (6 : Int) else (bif a1.fFrozen then (bif (!(spec_EqualKeys.md a1.fKeys a0.fKeys)) then (6 : Int) else (1 : Int)) else (1 : Int))))))))
def gd (a0 : MHead) (a1 : MHead) : Prop := (MHead.Sm (2 ^ 21) a0) ∧ (MHead.Sm (2 ^ 21) a1)
def acc (ls : List L) : RHead × RHead := ((RHead.dec ls), (RHead.dec (dropT 16 ls)))
noncomputable def R : (RHead × RHead) → Option Int := RR (p2 gd) (u2 md)
theorem R_eq {a0} {a1} (h : gd a0 a1) : R ((MHead.r a0), (MHead.r a1)) = some (md a0 a1) := RR_eq (a := (a0, a1)) h
noncomputable def con : Con := CN pats res acc R
theorem okF (a0 : MHead) (a1 : MHead) (hg : gd a0 a1) : F (MHead.r a0) (MHead.r a1) = ret ((md a0 a1) : Int) := by
  unfold gd at hg
  obtain ⟨H0, H1⟩ := hg
  unfold F md
  try simp only [S0, MHead.rs]
  refine call_to (spec_NoKeys.md a0.fJudge) (spec_NoKeys.R_eq (a0 := a0.fJudge) trivial) ?_
  refine bif_out ret (fun _ => rfl) (fun c1 => ?_)
  refine bif_out ret (fun _ => rfl) (fun c2 => ?_)
  refine call_to (spec_SameContents.md a1 a0) (spec_SameContents.R_eq (a0 := a1) (a1 := a0) trivial) ?_
  refine bif_out ret (fun _ => rfl) (fun c3 => ?_)
  refine call_to (spec_EqualKeys.md a1.fJudge a0.fJudge) (spec_EqualKeys.R_eq (a0 := a1.fJudge) (a1 := a0.fJudge) ⟨H1.2.2, H0.2.2⟩) ?_
  refine bif_out ret (fun _ => rfl) (fun c4 => ?_)
  refine call_to (spec_EqualKeys.md a1.fHeirs a0.fHeirs) (spec_EqualKeys.R_eq (a0 := a1.fHeirs) (a1 := a0.fHeirs) ⟨H1.2.1, H0.2.1⟩) ?_
  refine bif_out ret (fun _ => rfl) (fun c5 => ?_)
  refine bif_out ret (fun _ => rfl) (fun c6 => ?_)
  refine bif_out ret (fun c7 => ?_) (fun _ => rfl)
  refine call_to (spec_EqualKeys.md a1.fKeys a0.fKeys) (spec_EqualKeys.R_eq (a0 := a1.fKeys) (a1 := a0.fKeys) ⟨H1.1, H0.1⟩) ?_
  refine bif_out ret (fun _ => rfl) (fun _ => rfl)
theorem valid_ : Valid Tryz.prog Ev 191 con := VV (run := fun _ x => F x.1 x.2) mix tab_ok (.cons spec_NoKeys.valid_ (.cons spec_SameContents.valid_ (.cons spec_EqualKeys.valid_ .nil))) Tryz.func191 (by kernel_rfl) run_eq (fun _ a _ _ hg => ⟨0, okF a.1 a.2 hg⟩)
end spec_l15Judge
/-! spec.NextCode -/
namespace spec_NextCode
noncomputable def F (x0 : RHead) (x1 : RSigned) : Ans := (call (spec_IsHead.R x0) fun v1 => (bif (!v1) then ret (2 : Int) else (call (spec_IsHead.R x1.fHead) fun v2 => (bif (!v2) then ret (2 : Int) else (bif (x1.fHead.fZone != x0.fZone) then ret (3 : Int) else (bif (x1.fHead.fEpoch != (IntKind.i64.wrap (x0.fEpoch + 1))) then ret (3 : Int) else (call (spec_HeadDigest.R x0) fun v3 => (bif (x1.fHead.fPrev != v3) then ret (3 : Int) else (bif (decide (x1.fHead.fTime < x0.fTime)) then ret (3 : Int) else (call (spec_l15Owner.R (x0, x1.fHead)) fun v4 => (bif (x1.fHead.fKind == 2) then (call (spec_l15Heir.R (x0, x1.fHead)) fun v5 => (bif (v5 == 1) then (call (spec_HeadInts.R x1.fHead) fun v6 => (call (spec_IsSigned.R (x0.fHeirs, v6, x1.fSigs)) fun v7 => (bif (!v7) then ret (7 : Int) else ret (v5 : Int)))) else ret (v5 : Int))) else (bif (x1.fHead.fKind == 3) then (call (spec_l15Judge.R (x0, x1.fHead)) fun v8 => (bif (v8 == 1) then (call (spec_HeadInts.R x1.fHead) fun v9 => (call (spec_IsSigned.R (x0.fJudge, v9, x1.fSigs)) fun v10 => (bif (!v10) then ret (7 : Int) else ret (v8 : Int)))) else ret (v8 : Int))) else (bif (v4 == 1) then (call (spec_HeadInts.R x1.fHead) fun v11 => (call (spec_IsSigned.R (x0.fKeys, v11, x1.fSigs)) fun v12 => (bif (!v12) then ret (7 : Int) else ret (v4 : Int)))) else ret (v4 : Int))))))))))))))
def pats : List Pat := [.agg [.int .i64, .int .i64, .int .i64, .int .i64, .int .i64, .int .i64, .int .i64, .int .i64, .sl 3, .int .i64, .sl 3, .int .i64, .int .i64, .sl 3, .int .i64, .bool], .agg [.int .i64, .int .i64, .int .i64, .int .i64, .int .i64, .int .i64, .int .i64, .int .i64, .sl 3, .int .i64, .sl 3, .int .i64, .int .i64, .sl 3, .int .i64, .bool, .sl 179]]
def res : RP := .one (.rd (.int .i64))
noncomputable abbrev E : Env := ⟨assoc Tab, conG [(135, spec_IsHead.con), (188, spec_HeadDigest.con), (189, spec_l15Owner.con), (190, spec_l15Heir.con), (134, spec_HeadInts.con), (137, spec_IsSigned.con), (191, spec_l15Judge.con)], 78⟩
set_option maxRecDepth 100000
theorem run_eq (n : Nat) (ls : List L) : runF E (fun _ => []) Tryz.f138 res n (initS pats ls) = F (RHead.dec ls) (RSigned.dec (dropT 16 ls)) := by kernel_rfl
noncomputable def md (a0 : MHead) (a1 : MSigned) : Int := (bif (!(spec_IsHead.md a0)) then (2 : Int) else (bif (!(spec_IsHead.md a1.fHead)) then (2 : Int) else (bif (a1.fHead.fZone != a0.fZone) then (3 : Int) else (bif (a1.fHead.fEpoch != (IntKind.i64.wrap (a0.fEpoch + 1))) then (3 : Int) else (bif (a1.fHead.fPrev != (spec_HeadDigest.md a0)) then (3 : Int) else (bif (decide (a1.fHead.fTime < a0.fTime)) then (3 : Int) else (bif (a1.fHead.fKind == 2) then (bif ((spec_l15Heir.md a0 a1.fHead) == 1) then (bif (!(spec_IsSigned.md a0.fHeirs (spec_HeadInts.md a1.fHead) a1.fSigs)) then (7 : Int) else ((spec_l15Heir.md a0 a1.fHead) : Int)) else ((spec_l15Heir.md a0 a1.fHead) : Int)) else (bif (a1.fHead.fKind == 3) then (bif ((spec_l15Judge.md a0 a1.fHead) == 1) then (bif (!(spec_IsSigned.md a0.fJudge (spec_HeadInts.md a1.fHead) a1.fSigs)) then (7 : Int) else ((spec_l15Judge.md a0 a1.fHead) : Int)) else ((spec_l15Judge.md a0 a1.fHead) : Int)) else (bif ((spec_l15Owner.md a0 a1.fHead) == 1) then (bif (!(spec_IsSigned.md a0.fKeys (spec_HeadInts.md a1.fHead) a1.fSigs)) then (7 : Int) else ((spec_l15Owner.md a0 a1.fHead) : Int)) else ((spec_l15Owner.md a0 a1.fHead) : Int))))))))))
def gd (a0 : MHead) (a1 : MSigned) : Prop := (MHead.Sm (2 ^ 21) a0) ∧ (MSigned.Sm (2 ^ 21) a1)
def acc (ls : List L) : RHead × RSigned := ((RHead.dec ls), (RSigned.dec (dropT 16 ls)))
noncomputable def R : (RHead × RSigned) → Option Int := RR (p2 gd) (u2 md)
theorem R_eq {a0} {a1} (h : gd a0 a1) : R ((MHead.r a0), (MSigned.r a1)) = some (md a0 a1) := RR_eq (a := (a0, a1)) h
noncomputable def con : Con := CN pats res acc R
theorem okF (a0 : MHead) (a1 : MSigned) (hg : gd a0 a1) : F (MHead.r a0) (MSigned.r a1) = ret ((md a0 a1) : Int) := by
  unfold gd at hg
  obtain ⟨H0, H1⟩ := hg
  unfold F md
  try simp only [S0, MHead.rs, MSigned.rs]
  refine call_to (spec_IsHead.md a0) (spec_IsHead.R_eq (a0 := a0) H0) ?_
  refine bif_out ret (fun _ => rfl) (fun c1 => ?_)
  have dc1 := c1
  try simp only [DC] at dc1
  try have tc1 := spec_IsHead.tr (by simpa using c1)
  refine call_to (spec_IsHead.md a1.fHead) (spec_IsHead.R_eq (a0 := a1.fHead) H1.1) ?_
  refine bif_out ret (fun _ => rfl) (fun c2 => ?_)
  have dc2 := c2
  try simp only [DC] at dc2
  try have tc2 := spec_IsHead.tr (by simpa using c2)
  refine bif_out ret (fun _ => rfl) (fun c3 => ?_)
  have dc3 := c3
  try simp only [DC] at dc3
  refine bif_out ret (fun _ => rfl) (fun c4 => ?_)
  have dc4 := c4
  try simp only [DC] at dc4
  refine call_to (spec_HeadDigest.md a0) (spec_HeadDigest.R_eq (a0 := a0) H0) ?_
  refine bif_out ret (fun _ => rfl) (fun c5 => ?_)
  have dc5 := c5
  try simp only [DC] at dc5
  refine bif_out ret (fun _ => rfl) (fun c6 => ?_)
  have dc6 := c6
  try simp only [DC] at dc6
  refine call_to (spec_l15Owner.md a0 a1.fHead) (spec_l15Owner.R_eq (a0 := a0) (a1 := a1.fHead) trivial) ?_
  refine bif_out ret (fun c7 => ?_) (fun c7 => ?_)
  · have dc7 := c7
    try simp only [DC] at dc7
    refine call_to (spec_l15Heir.md a0 a1.fHead) (spec_l15Heir.R_eq (a0 := a0) (a1 := a1.fHead) ⟨H0, H1.1⟩) ?_
    refine bif_out ret (fun c8 => ?_) (fun c8 => ?_)
    · have dc8 := c8
      try simp only [DC] at dc8
      refine call_to ((spec_HeadInts.md a1.fHead).map iRow) (spec_HeadInts.R_eq (a0 := a1.fHead) H1.1) ?_
      try simp only [S0, MHead.rs, MSigned.rs]
      refine call_to (spec_IsSigned.md a0.fHeirs (spec_HeadInts.md a1.fHead) a1.fSigs) (spec_IsSigned.R_eq (a0 := a0.fHeirs) (a1 := (spec_HeadInts.md a1.fHead)) (a2 := a1.fSigs) ⟨H0.2.1, ⟨(by
          have := spec_HeadInts.len a1.fHead
          have := (H1.1.1).1
          have := (H1.1.2.1).1
          have := (H1.1.2.2).1
          try simp (disch := omega) only [LN, wi]
          first | omega | (simp; done) | (simp; omega)), fun _ _ => trivial⟩, H1.2⟩) ?_
      refine bif_out ret (fun _ => rfl) (fun c9 => ?_)
      first | rfl | (simp only [S0, MHead.rs, MSigned.rs, MP]; first | done | rfl)
    · first | rfl | (simp only [S0, MHead.rs, MSigned.rs, MP]; first | done | rfl)
  · have dc7 := c7
    try simp only [DC] at dc7
    refine bif_out ret (fun c10 => ?_) (fun c10 => ?_)
    · have dc10 := c10
      try simp only [DC] at dc10
      refine call_to (spec_l15Judge.md a0 a1.fHead) (spec_l15Judge.R_eq (a0 := a0) (a1 := a1.fHead) ⟨H0, H1.1⟩) ?_
      refine bif_out ret (fun c11 => ?_) (fun c11 => ?_)
      · have dc11 := c11
        try simp only [DC] at dc11
        refine call_to ((spec_HeadInts.md a1.fHead).map iRow) (spec_HeadInts.R_eq (a0 := a1.fHead) H1.1) ?_
        try simp only [S0, MHead.rs, MSigned.rs]
        refine call_to (spec_IsSigned.md a0.fJudge (spec_HeadInts.md a1.fHead) a1.fSigs) (spec_IsSigned.R_eq (a0 := a0.fJudge) (a1 := (spec_HeadInts.md a1.fHead)) (a2 := a1.fSigs) ⟨H0.2.2, ⟨(by
            have := spec_HeadInts.len a1.fHead
            have := (H1.1.1).1
            have := (H1.1.2.1).1
            have := (H1.1.2.2).1
            try simp (disch := omega) only [LN, wi]
            first | omega | (simp; done) | (simp; omega)), fun _ _ => trivial⟩, H1.2⟩) ?_
        refine bif_out ret (fun _ => rfl) (fun c12 => ?_)
        first | rfl | (simp only [S0, MHead.rs, MSigned.rs, MP]; first | done | rfl)
      · first | rfl | (simp only [S0, MHead.rs, MSigned.rs, MP]; first | done | rfl)
    · have dc10 := c10
      try simp only [DC] at dc10
      refine bif_out ret (fun c13 => ?_) (fun c13 => ?_)
      · have dc13 := c13
        try simp only [DC] at dc13
        refine call_to ((spec_HeadInts.md a1.fHead).map iRow) (spec_HeadInts.R_eq (a0 := a1.fHead) H1.1) ?_
        try simp only [S0, MHead.rs, MSigned.rs]
        refine call_to (spec_IsSigned.md a0.fKeys (spec_HeadInts.md a1.fHead) a1.fSigs) (spec_IsSigned.R_eq (a0 := a0.fKeys) (a1 := (spec_HeadInts.md a1.fHead)) (a2 := a1.fSigs) ⟨H0.1, ⟨(by
            have := spec_HeadInts.len a1.fHead
            have := (H1.1.1).1
            have := (H1.1.2.1).1
            have := (H1.1.2.2).1
            try simp (disch := omega) only [LN, wi]
            first | omega | (simp; done) | (simp; omega)), fun _ _ => trivial⟩, H1.2⟩) ?_
        refine bif_out ret (fun _ => rfl) (fun c14 => ?_)
        first | rfl | (simp only [S0, MHead.rs, MSigned.rs, MP]; first | done | rfl)
      · first | rfl | (simp only [S0, MHead.rs, MSigned.rs, MP]; first | done | rfl)
theorem valid_ : Valid Tryz.prog Ev 138 con := VV (run := fun _ x => F x.1 x.2) mix tab_ok (.cons spec_IsHead.valid_ (.cons spec_HeadDigest.valid_ (.cons spec_l15Owner.valid_ (.cons spec_l15Heir.valid_ (.cons spec_HeadInts.valid_ (.cons spec_IsSigned.valid_ (.cons spec_l15Judge.valid_ .nil))))))) Tryz.func138 (by kernel_rfl) run_eq (fun _ a _ _ hg => ⟨0, okF a.1 a.2 hg⟩)
end spec_NextCode
/-! spec.MayFollow -/
namespace spec_MayFollow
noncomputable def F (x0 : RHead) (x1 : RSigned) : Ans := (call (spec_NextCode.R (x0, x1)) fun v1 => ret ((v1 == 1) : Bool))
def pats : List Pat := [.agg [.int .i64, .int .i64, .int .i64, .int .i64, .int .i64, .int .i64, .int .i64, .int .i64, .sl 3, .int .i64, .sl 3, .int .i64, .int .i64, .sl 3, .int .i64, .bool], .agg [.int .i64, .int .i64, .int .i64, .int .i64, .int .i64, .int .i64, .int .i64, .int .i64, .sl 3, .int .i64, .sl 3, .int .i64, .int .i64, .sl 3, .int .i64, .bool, .sl 179]]
def res : RP := .one (.rd (.bool))
noncomputable abbrev E : Env := ⟨assoc Tab, conG [(138, spec_NextCode.con)], 9⟩
set_option maxRecDepth 100000
theorem run_eq (n : Nat) (ls : List L) : runF E (fun _ => []) Tryz.f86 res n (initS pats ls) = F (RHead.dec ls) (RSigned.dec (dropT 16 ls)) := by kernel_rfl
noncomputable def md (a0 : MHead) (a1 : MSigned) : Bool := (((spec_NextCode.md a0 a1) == 1) : Bool)
def gd (a0 : MHead) (a1 : MSigned) : Prop := (MHead.Sm (2 ^ 21) a0) ∧ (MSigned.Sm (2 ^ 21) a1)
def acc (ls : List L) : RHead × RSigned := ((RHead.dec ls), (RSigned.dec (dropT 16 ls)))
noncomputable def R : (RHead × RSigned) → Option Bool := RR (p2 gd) (u2 md)
theorem R_eq {a0} {a1} (h : gd a0 a1) : R ((MHead.r a0), (MSigned.r a1)) = some (md a0 a1) := RR_eq (a := (a0, a1)) h
noncomputable def con : Con := CN pats res acc R
theorem okF (a0 : MHead) (a1 : MSigned) (hg : gd a0 a1) : F (MHead.r a0) (MSigned.r a1) = ret ((md a0 a1) : Bool) := by
  unfold gd at hg
  obtain ⟨H0, H1⟩ := hg
  unfold F md
  try simp only [S0]
  refine call_to (spec_NextCode.md a0 a1) (spec_NextCode.R_eq (a0 := a0) (a1 := a1) ⟨H0, H1⟩) ?_
  first | rfl | (simp only [S0, MP]; first | done | rfl)
theorem valid_ : Valid Tryz.prog Ev 86 con := VV (run := fun _ x => F x.1 x.2) mix tab_ok (.cons spec_NextCode.valid_ .nil) Tryz.func86 (by kernel_rfl) run_eq (fun _ a _ _ hg => ⟨0, okF a.1 a.2 hg⟩)
end spec_MayFollow
/-! spec.FirstWrong -/
namespace spec_FirstWrong
inductive Pt where
  | p0 (a : List (List L)) (b : Int)
def pid : Pt → Nat
  | .p0 .. => 2
def pvs : Pt → List V
  | .p0 a b => [.sl none 92 a, .int .i64 b]
def phs : Pt → List Root
  | .p0 a b => []
noncomputable def step (J : Pt → Ans) : Pt → Ans
  | .p0 a b => (bif (decide (b < (a.length : Int))) then (bif (b == 0) then (bif (decide ((0 : Int) < (a.length : Int))) then (call (spec_IsFirst.R (RSigned.at a 0)) fun v1 => (bif (!v1) then ret (b : Int) else (bif (decide (b > 0)) then (bif (decide ((0 : Int) ≤ (IntKind.i64.wrap (b - 1)))) then (bif (decide ((IntKind.i64.wrap (b - 1)) < (a.length : Int))) then (bif (decide ((0 : Int) ≤ b)) then (bif (decide (b < (a.length : Int))) then (call (spec_MayFollow.R ((RSigned.at a (Int.toNat (IntKind.i64.wrap (b - 1)))).fHead, (RSigned.at a (Int.toNat b)))) fun v2 => (bif (!v2) then ret (b : Int) else J (.p0 a (IntKind.i64.wrap (b + 1))))) else none) else none) else none) else none) else J (.p0 a (IntKind.i64.wrap (b + 1)))))) else none) else (bif (decide (b > 0)) then (bif (decide ((0 : Int) ≤ (IntKind.i64.wrap (b - 1)))) then (bif (decide ((IntKind.i64.wrap (b - 1)) < (a.length : Int))) then (bif (decide ((0 : Int) ≤ b)) then (bif (decide (b < (a.length : Int))) then (call (spec_MayFollow.R ((RSigned.at a (Int.toNat (IntKind.i64.wrap (b - 1)))).fHead, (RSigned.at a (Int.toNat b)))) fun v3 => (bif (!v3) then ret (b : Int) else J (.p0 a (IntKind.i64.wrap (b + 1))))) else none) else none) else none) else none) else J (.p0 a (IntKind.i64.wrap (b + 1))))) else ret ((-1) : Int))
noncomputable def start (J : Pt → Ans) (x0 : List (List L)) : Ans := J (.p0 x0 0)
def live : Nat → Live := fun i => match i with | 2 => [(0, none), (3, none)] | _ => []
def pats : List Pat := [.rd (.sl 92)]
def res : RP := .one (.rd (.int .i64))
noncomputable abbrev E : Env := ⟨assoc Tab, conG [(85, spec_IsFirst.con), (86, spec_MayFollow.con)], 38⟩
set_option maxRecDepth 100000
theorem step_eq (I : Heads) (p : Pt) : enterC E live I (pid p) (bodyOf Tryz.f82) (stOf (live (pid p)) (pvs p) (phs p)) (doneK E Tryz.f82 res) = step (fun q => I (pid q) (pvs q) (phs q)) p := by
  cases p <;> kernel_rfl
theorem start_eq (I : Heads) (ls : List L) : runC E live I (bodyOf Tryz.f82) (initS pats ls) (doneK E Tryz.f82 res) = start (fun q => I (pid q) (pvs q) (phs q)) (ls.headD .hole).toSl := by kernel_rfl
theorem run_eq (n : Nat) (ls : List L) : runF E live Tryz.f82 res n (initS pats ls) = start (iter step n) (ls.headD .hole).toSl := runF_iter (id := pid) (vs := pvs) (hs := phs) (step := step) (start := fun J => start J (ls.headD .hole).toSl) step_eq (fun I => start_eq I ls) n
noncomputable def md (a0 : List MSigned) : Int := (eachI (S := Unit) (β := Int) (fun (i1 : Nat) (y1 : MSigned) (s3 : Unit) => (bif ((i1 : Int) == 0) then (bif (!(spec_IsFirst.md (a0.getD 0 MSigned.zero))) then (.inr ((i1 : Int) : Int)) else (bif (decide ((i1 : Int) > 0)) then (bif (!(spec_MayFollow.md ((a0.getD (Int.toNat (IntKind.i64.wrap ((i1 : Int) - 1))) MSigned.zero).fHead) y1)) then (.inr ((i1 : Int) : Int)) else (.inl ())) else (.inl ()))) else (bif (decide ((i1 : Int) > 0)) then (bif (!(spec_MayFollow.md ((a0.getD (Int.toNat (IntKind.i64.wrap ((i1 : Int) - 1))) MSigned.zero).fHead) y1)) then (.inr ((i1 : Int) : Int)) else (.inl ())) else (.inl ())))) (fun (s3 : Unit) => ((-1) : Int)) 0 a0 ())
def gd (a0 : List MSigned) : Prop := (SmL (2 ^ 21) (fun y : MSigned => MSigned.Sm (2 ^ 21) y) a0)
def acc (ls : List L) : List (List L) := (ls.headD .hole).toSl
noncomputable def R : (List (List L)) → Option Int := RR gd md
theorem R_eq {a0} (h : gd a0) : R (a0.map MSigned.row) = some (md a0) := RR_eq (a := a0) h
noncomputable def con : Con := CN pats res acc R
theorem okF (a0 : List MSigned) (hg : gd a0) : ∃ n, start (iter step n) (a0.map MSigned.row) = ret ((md a0) : Int) := by
  unfold gd at hg
  have H0 := hg
  unfold start md
  try simp only [S0, MSigned.rs]
  have Bh2 : a0.length ≤ maxLen := (by
      have := (H0).1
      try simp only [maxLen] at *
      omega)
  refine ex_eq (out := ret) (loopM_eachI (z := MSigned.zero)) ?_
  refine ex_pt (p := Pt.p0 (a0.map MSigned.row) 0) (by first | rfl | (simp only [S0, MSigned.rs, MP]; done) | (simp only [MP]; rfl)) ?_
  refine loopM_ok (pt := fun (i1 : Nat) (s3 : Unit) => Pt.p0 (a0.map MSigned.row) (i1 : Int)) (s := (() : Unit)) (out := ret) (fun _ _ => True) (fun J i1 s3 h2 hih2 => ?_) (fun s3 hih2 => ?_) trivial
  · simp only [step, S0, MSigned.rs]
    have bb_ := Bh2
    simp only [maxLen] at bb_
    have := (H0).1
    refine Rnd.yes (by apply decide_eq_true; omega) ?_
    refine Rnd.bif (fun c4 => ?_) (fun c4 => ?_)
    · have dc4 := c4
      try simp only [DC] at dc4
      refine Rnd.yes (by
          have := (H0).1
          refine decide_eq_true ?_
          try simp (disch := omega) only [LN, wi]
          first | omega | (simp; done) | (simp; omega)) ?_
      refine Rnd.call_to (spec_IsFirst.md (a0.getD 0 MSigned.zero)) (spec_IsFirst.R_eq (a0 := (a0.getD 0 MSigned.zero)) (SmL.getD (z := MSigned.zero) H0 (by first | assumption | omega | (simp (disch := omega) only [wi]; omega) | (simp; omega)))) ?_
      refine Rnd.bif (fun c5 => ?_) (fun c5 => ?_)
      · refine Rnd.inr ?_
        first | rfl | (simp only [S0, MSigned.rs, MP]; first | done | rfl)
      · have dc5 := c5
        try simp only [DC] at dc5
        refine Rnd.bif (fun c6 => ?_) (fun c6 => ?_)
        · have dc6 := c6
          try simp only [DC] at dc6
          refine Rnd.yes (by
              refine decide_eq_true ?_
              try simp (disch := omega) only [LN, wi]
              first | omega | (simp; done) | (simp; omega)) ?_
          refine Rnd.yes (by
              have := (H0).1
              refine decide_eq_true ?_
              try simp (disch := omega) only [LN, wi]
              first | omega | (simp; done) | (simp; omega)) ?_
          refine Rnd.yes zle_dec ?_
          refine Rnd.yes (lt_dec h2) ?_
          refine Rnd.call_to (spec_MayFollow.md ((a0.getD (Int.toNat (IntKind.i64.wrap ((i1 : Int) - 1))) MSigned.zero).fHead) (a0.getD i1 MSigned.zero)) (spec_MayFollow.R_eq (a0 := (a0.getD (Int.toNat (IntKind.i64.wrap ((i1 : Int) - 1))) MSigned.zero).fHead) (a1 := (a0.getD i1 MSigned.zero)) ⟨(SmL.getD (z := MSigned.zero) H0 (by first | assumption | omega | (simp (disch := omega) only [wi]; omega) | (simp; omega))).1, (SmL.getD (z := MSigned.zero) H0 h2)⟩) ?_
          refine Rnd.bif (fun c7 => ?_) (fun c7 => ?_)
          · refine Rnd.inr ?_
            first | rfl | (simp only [S0, MSigned.rs, MP]; first | done | rfl)
          · refine Rnd.inl trivial ?_
            rw [wrap_succ h2 Bh2]
            all_goals first | rfl | (simp only [S0, MSigned.rs, MP]; first | done | rfl)
        · refine Rnd.inl trivial ?_
          rw [wrap_succ h2 Bh2]
          all_goals first | rfl | (simp only [S0, MSigned.rs, MP]; first | done | rfl)
    · have dc4 := c4
      try simp only [DC] at dc4
      refine Rnd.bif (fun c8 => ?_) (fun c8 => ?_)
      · have dc8 := c8
        try simp only [DC] at dc8
        refine Rnd.yes (by
            refine decide_eq_true ?_
            try simp (disch := omega) only [LN, wi]
            first | omega | (simp; done) | (simp; omega)) ?_
        refine Rnd.yes (by
            have := (H0).1
            refine decide_eq_true ?_
            try simp (disch := omega) only [LN, wi]
            first | omega | (simp; done) | (simp; omega)) ?_
        refine Rnd.yes zle_dec ?_
        refine Rnd.yes (lt_dec h2) ?_
        refine Rnd.call_to (spec_MayFollow.md ((a0.getD (Int.toNat (IntKind.i64.wrap ((i1 : Int) - 1))) MSigned.zero).fHead) (a0.getD i1 MSigned.zero)) (spec_MayFollow.R_eq (a0 := (a0.getD (Int.toNat (IntKind.i64.wrap ((i1 : Int) - 1))) MSigned.zero).fHead) (a1 := (a0.getD i1 MSigned.zero)) ⟨(SmL.getD (z := MSigned.zero) H0 (by first | assumption | omega | (simp (disch := omega) only [wi]; omega) | (simp; omega))).1, (SmL.getD (z := MSigned.zero) H0 h2)⟩) ?_
        refine Rnd.bif (fun c9 => ?_) (fun c9 => ?_)
        · refine Rnd.inr ?_
          first | rfl | (simp only [S0, MSigned.rs, MP]; first | done | rfl)
        · refine Rnd.inl trivial ?_
          rw [wrap_succ h2 Bh2]
          all_goals first | rfl | (simp only [S0, MSigned.rs, MP]; first | done | rfl)
      · refine Rnd.inl trivial ?_
        rw [wrap_succ h2 Bh2]
        all_goals first | rfl | (simp only [S0, MSigned.rs, MP]; first | done | rfl)
  · simp only [step, S0, MSigned.rs]
    have := (H0).1
    refine ex_no (by apply decide_eq_false; omega) ?_
    refine ⟨0, ?_⟩
    first | rfl | (simp only [S0, MSigned.rs, MP]; first | done | rfl)
theorem valid_ : Valid Tryz.prog Ev 82 con := VV (run := fun n x => start (iter step n) x) mix tab_ok (.cons spec_IsFirst.valid_ (.cons spec_MayFollow.valid_ .nil)) Tryz.func82 (by kernel_rfl) run_eq (fun _ a _ _ hg => okF a hg)
end spec_FirstWrong
/-! spec.IsChain -/
namespace spec_IsChain
noncomputable def F (x0 : List (List L)) : Ans := (call (spec_l1In.R ((x0.length : Int), 1, 12)) fun v1 => (bif v1 then (call (spec_FirstWrong.R x0) fun v2 => ret ((decide (v2 < 0)) : Bool)) else ret (false : Bool)))
def pats : List Pat := [.rd (.sl 92)]
def res : RP := .one (.rd (.bool))
noncomputable abbrev E : Env := ⟨assoc Tab, conG [(81, spec_l1In.con), (82, spec_FirstWrong.con)], 11⟩
set_option maxRecDepth 100000
theorem run_eq (n : Nat) (ls : List L) : runF E (fun _ => []) Tryz.f41 res n (initS pats ls) = F (ls.headD .hole).toSl := by kernel_rfl
noncomputable def md (a0 : List MSigned) : Bool := (bif (spec_l1In.md (a0.length : Int) 1 12) then ((decide ((spec_FirstWrong.md a0) < 0)) : Bool) else (false : Bool))
def gd (a0 : List MSigned) : Prop := (SmL (2 ^ 21) (fun y : MSigned => MSigned.Sm (2 ^ 21) y) a0)
def acc (ls : List L) : List (List L) := (ls.headD .hole).toSl
noncomputable def R : (List (List L)) → Option Bool := RR gd md
theorem R_eq {a0} (h : gd a0) : R (a0.map MSigned.row) = some (md a0) := RR_eq (a := a0) h
noncomputable def con : Con := CN pats res acc R
theorem okF (a0 : List MSigned) (hg : gd a0) : F (a0.map MSigned.row) = ret ((md a0) : Bool) := by
  unfold gd at hg
  have H0 := hg
  unfold F md
  try simp only [S0]
  refine call_to (spec_l1In.md (a0.length : Int) 1 12) (spec_l1In.R_eq (a0 := (a0.length : Int)) (a1 := 1) (a2 := 12) trivial) ?_
  refine bif_out ret (fun c1 => ?_) (fun _ => rfl)
  refine call_to (spec_FirstWrong.md a0) (spec_FirstWrong.R_eq (a0 := a0) H0) ?_
  first | rfl | (simp only [S0, MP]; first | done | rfl)
theorem valid_ : Valid Tryz.prog Ev 41 con := VV (run := fun _ x => F x) mix tab_ok (.cons spec_l1In.valid_ (.cons spec_FirstWrong.valid_ .nil)) Tryz.func41 (by kernel_rfl) run_eq (fun _ a _ _ hg => ⟨0, okF a hg⟩)
theorem tr {a0 : List MSigned} (h : md a0 = true) : 1 ≤ a0.length ∧ a0.length ≤ 12 := by simp [md, spec_l1In.md] at h; omega
theorem heads {l : List MSigned} (h : md l = true) : ∀ i, i < l.length → spec_IsHead.md (l.getD i MSigned.zero).fHead = true := by
  intro i hi
  have hl := tr h
  have h1 : spec_FirstWrong.md l < 0 := by
    unfold md at h
    cases hc : spec_l1In.md (l.length : Int) 1 12 <;> rw [hc] at h
    · cases h
    · simpa using h
  unfold spec_FirstWrong.md at h1
  have h2 := eachI_neg (z := MSigned.zero) (by
    intro i x s b h
    revert h
    simp only [Bool.cond_eq_ite]
    repeat' split
    all_goals (intro h; first | (cases h; rfl) | cases h)) h1 i hi
  by_cases h0 : i = 0
  · subst h0
    cases hf : spec_IsFirst.md (l.getD 0 MSigned.zero)
    · rw [hf] at h2; cases h2
    · unfold spec_IsFirst.md at hf
      cases hh : spec_IsHead.md (l.getD 0 MSigned.zero).fHead
      · rw [hh] at hf; cases hf
      · rfl
  · have e : ((i : Int) == 0) = false := beq_eq_false_iff_ne.2 (by omega)
    have e2 : decide ((i : Int) > 0) = true := by simpa using by omega
    simp only [e, e2, cond_false, cond_true] at h2
    cases hf : spec_MayFollow.md ((l.getD (Int.toNat (IntKind.i64.wrap ((i : Int) - 1))) MSigned.zero).fHead) (l.getD i MSigned.zero)
    · rw [hf] at h2; cases h2
    · unfold spec_MayFollow.md spec_NextCode.md at hf
      cases hh : spec_IsHead.md (l.getD i MSigned.zero).fHead
      · rw [hh] at hf
        cases hp : spec_IsHead.md ((l.getD (Int.toNat (IntKind.i64.wrap ((i : Int) - 1))) MSigned.zero).fHead) <;> rw [hp] at hf <;> cases hf
      · rfl
end spec_IsChain
/-! spec.l6Copy -/
namespace spec_l6Copy
noncomputable def F (x0 : RKeys) : Ans := (bif (lim ((x0.fList.length : Int) * 8)) then ret (x0 : RKeys) else none)
def pats : List Pat := [.agg [.sl 3, .int .i64]]
def res : RP := .agg [.fr 3, .rd (.int .i64)]
noncomputable abbrev E : Env := ⟨assoc Tab, conG [], 10⟩
set_option maxRecDepth 100000
theorem run_eq (n : Nat) (ls : List L) : runF E (fun _ => []) Tryz.f164 res n (initS pats ls) = F (RKeys.dec ls) := by kernel_rfl
noncomputable def md (a0 : MKeys) : MKeys := a0
def gd (a0 : MKeys) : Prop := (MKeys.Sm (2 ^ 21) a0)
def acc (ls : List L) : RKeys := (RKeys.dec ls)
noncomputable def R : RKeys → Option RKeys := RR gd md
theorem R_eq {a0} (h : gd a0) : R (MKeys.r a0) = some (MKeys.r (md a0)) := RR_eq (a := a0) h
noncomputable def con : Con := CN pats res acc R
theorem okF (a0 : MKeys) (hg : gd a0) : F (MKeys.r a0) = ret ((MKeys.r (md a0)) : RKeys) := by
  unfold gd at hg
  have H0 := hg
  unfold F md
  try simp only [S0, MKeys.rs]
  refine yes_ret (by
      have := (H0).1
      refine lim_t ?_
      try simp (disch := omega) only [LN, wi]
      first | omega | (simp; done) | (simp; omega)) ?_
  all_goals first | rfl | (simp only [S0, MKeys.rs]; done) | (simp only [MP]; rfl) | (simp only [S0, MKeys.rs, MP]; first | done | rfl)
theorem valid_ : Valid Tryz.prog Ev 164 con := VV (run := fun _ x => F x) mix tab_ok .nil Tryz.func164 (by kernel_rfl) run_eq (fun _ a _ _ hg => ⟨0, okF a hg⟩)
end spec_l6Copy
/-! spec.l13Copy -/
namespace spec_l13Copy
noncomputable def F (x0 : RHead) : Ans := (call (spec_l6Copy.R x0.fKeys) fun v1 => (call (spec_l6Copy.R x0.fHeirs) fun v2 => (call (spec_l6Copy.R x0.fJudge) fun v3 => ret ((⟨x0.fZone, x0.fEpoch, x0.fKind, x0.fTime, x0.fUntil, x0.fCount, x0.fRoot, x0.fPrev, v1, v2, x0.fWait, v3, x0.fFrozen⟩ : RHead) : RHead))))
def pats : List Pat := [.agg [.int .i64, .int .i64, .int .i64, .int .i64, .int .i64, .int .i64, .int .i64, .int .i64, .sl 3, .int .i64, .sl 3, .int .i64, .int .i64, .sl 3, .int .i64, .bool]]
def res : RP := .agg [.rd (.int .i64), .rd (.int .i64), .rd (.int .i64), .rd (.int .i64), .rd (.int .i64), .rd (.int .i64), .rd (.int .i64), .rd (.int .i64), .fr 3, .rd (.int .i64), .fr 3, .rd (.int .i64), .rd (.int .i64), .fr 3, .rd (.int .i64), .rd (.bool)]
noncomputable abbrev E : Env := ⟨assoc Tab, conG [(164, spec_l6Copy.con)], 18⟩
set_option maxRecDepth 100000
theorem run_eq (n : Nat) (ls : List L) : runF E (fun _ => []) Tryz.f121 res n (initS pats ls) = F (RHead.dec ls) := by kernel_rfl
noncomputable def md (a0 : MHead) : MHead := a0
def gd (a0 : MHead) : Prop := (MHead.Sm (2 ^ 21) a0)
def acc (ls : List L) : RHead := (RHead.dec ls)
noncomputable def R : RHead → Option RHead := RR gd md
theorem R_eq {a0} (h : gd a0) : R (MHead.r a0) = some (MHead.r (md a0)) := RR_eq (a := a0) h
noncomputable def con : Con := CN pats res acc R
theorem okF (a0 : MHead) (hg : gd a0) : F (MHead.r a0) = ret ((MHead.r (md a0)) : RHead) := by
  unfold gd at hg
  have H0 := hg
  unfold F md
  try simp only [S0, MHead.rs]
  refine call_to (MKeys.r a0.fKeys) ?_ ?_
  · have R_ := spec_l6Copy.R_eq (a0 := a0.fKeys) H0.1
    simp only [spec_l6Copy.md] at R_
    first | exact R_ | (simp only [MP, S0, MHead.rs] at R_ ⊢; first | exact R_ | (rw [← R_]; rfl))
  try simp only [S0, MHead.rs]
  refine call_to (MKeys.r a0.fHeirs) ?_ ?_
  · have R_ := spec_l6Copy.R_eq (a0 := a0.fHeirs) H0.2.1
    simp only [spec_l6Copy.md] at R_
    first | exact R_ | (simp only [MP, S0, MHead.rs] at R_ ⊢; first | exact R_ | (rw [← R_]; rfl))
  try simp only [S0, MHead.rs]
  refine call_to (MKeys.r a0.fJudge) ?_ ?_
  · have R_ := spec_l6Copy.R_eq (a0 := a0.fJudge) H0.2.2
    simp only [spec_l6Copy.md] at R_
    first | exact R_ | (simp only [MP, S0, MHead.rs] at R_ ⊢; first | exact R_ | (rw [← R_]; rfl))
  try simp only [S0, MHead.rs]
  all_goals first | rfl | (simp only [S0, MHead.rs]; done) | (simp only [MP]; rfl) | (simp only [S0, MHead.rs, MP]; first | done | rfl)
theorem valid_ : Valid Tryz.prog Ev 121 con := VV (run := fun _ x => F x) mix tab_ok (.cons spec_l6Copy.valid_ .nil) Tryz.func121 (by kernel_rfl) run_eq (fun _ a _ _ hg => ⟨0, okF a hg⟩)
end spec_l13Copy
/-! spec.LastHead -/
namespace spec_LastHead
noncomputable def F (x0 : List (List L)) : Ans := (call (spec_IsChain.R x0) fun v1 => (bif (!v1) then ret (((⟨0, 0, 0, 0, 0, 0, 0, 0, (⟨[], 0⟩ : RKeys), (⟨[], 0⟩ : RKeys), 0, (⟨[], 0⟩ : RKeys), false⟩ : RHead), false) : RHead × Bool) else (bif (decide ((0 : Int) ≤ (IntKind.i64.wrap ((x0.length : Int) - 1)))) then (bif (decide ((IntKind.i64.wrap ((x0.length : Int) - 1)) < (x0.length : Int))) then (call (spec_l13Copy.R ((RSigned.at x0 (Int.toNat (IntKind.i64.wrap ((x0.length : Int) - 1)))).fHead)) fun v2 => ret ((v2, true) : RHead × Bool)) else none) else none)))
def pats : List Pat := [.rd (.sl 92)]
def res : RP := .tup [(true, [.rd (.int .i64), .rd (.int .i64), .rd (.int .i64), .rd (.int .i64), .rd (.int .i64), .rd (.int .i64), .rd (.int .i64), .rd (.int .i64), .fr 3, .rd (.int .i64), .fr 3, .rd (.int .i64), .rd (.int .i64), .fr 3, .rd (.int .i64), .rd (.bool)]), (false, [.rd (.bool)])]
noncomputable abbrev E : Env := ⟨assoc Tab, conG [(41, spec_IsChain.con), (121, spec_l13Copy.con)], 16⟩
set_option maxRecDepth 100000
theorem run_eq (n : Nat) (ls : List L) : runF E (fun _ => []) Tryz.f66 res n (initS pats ls) = F (ls.headD .hole).toSl := by kernel_rfl
noncomputable def md (a0 : List MSigned) : MHead × Bool := (bif (!(spec_IsChain.md a0)) then ((⟨0, 0, 0, 0, 0, 0, 0, 0, (⟨[], 0⟩ : MKeys), (⟨[], 0⟩ : MKeys), 0, (⟨[], 0⟩ : MKeys), false⟩ : MHead), false) else (((a0.getD (Int.toNat (IntKind.i64.wrap ((a0.length : Int) - 1))) MSigned.zero).fHead), true))
def gd (a0 : List MSigned) : Prop := (SmL (2 ^ 21) (fun y : MSigned => MSigned.Sm (2 ^ 21) y) a0)
def acc (ls : List L) : List (List L) := (ls.headD .hole).toSl
noncomputable def R : (List (List L)) → Option (RHead × Bool) := RR gd md
theorem R_eq {a0} (h : gd a0) : R (a0.map MSigned.row) = some ((MHead.r (md a0).1), (md a0).2) := RR_eq (a := a0) h
noncomputable def con : Con := CN pats res acc R
theorem okF (a0 : List MSigned) (hg : gd a0) : F (a0.map MSigned.row) = ret (((MHead.r (md a0).1), (md a0).2) : RHead × Bool) := by
  unfold gd at hg
  have H0 := hg
  unfold F md
  try simp only [S0, MSigned.rs]
  refine call_to (spec_IsChain.md a0) (spec_IsChain.R_eq (a0 := a0) H0) ?_
  refine bif_out (fun b : MHead × Bool => ret (((MHead.r b.1), b.2) : RHead × Bool)) (fun c1 => ?_) (fun c1 => ?_)
  · all_goals first | rfl | (simp only [S0, MSigned.rs]; done) | (simp only [MP]; rfl) | (simp only [S0, MSigned.rs, MP]; first | done | rfl)
  · have dc1 := c1
    try simp only [DC] at dc1
    try have tc1 := spec_IsChain.tr (by simpa using c1)
    refine yes_ret (by
        have := (H0).1
        refine decide_eq_true ?_
        try simp (disch := omega) only [LN, wi]
        first | omega | (simp; done) | (simp; omega)) ?_
    refine yes_ret (by
        have := (H0).1
        refine decide_eq_true ?_
        try simp (disch := omega) only [LN, wi]
        first | omega | (simp; done) | (simp; omega)) ?_
    refine call_to (MHead.r ((a0.getD (Int.toNat (IntKind.i64.wrap ((a0.length : Int) - 1))) MSigned.zero).fHead)) ?_ ?_
    · have R_ := spec_l13Copy.R_eq (a0 := (a0.getD (Int.toNat (IntKind.i64.wrap ((a0.length : Int) - 1))) MSigned.zero).fHead) (SmL.getD (z := MSigned.zero) H0 (by first | assumption | omega | (simp (disch := omega) only [wi]; omega) | (simp; omega))).1
      simp only [spec_l13Copy.md] at R_
      first | exact R_ | (simp only [MP, S0, MSigned.rs] at R_ ⊢; first | exact R_ | (rw [← R_]; rfl))
    try simp only [S0, MSigned.rs]
    all_goals first | rfl | (simp only [S0, MSigned.rs]; done) | (simp only [MP]; rfl) | (simp only [S0, MSigned.rs, MP]; first | done | rfl)
theorem valid_ : Valid Tryz.prog Ev 66 con := VV (run := fun _ x => F x) mix tab_ok (.cons spec_IsChain.valid_ (.cons spec_l13Copy.valid_ .nil)) Tryz.func66 (by kernel_rfl) run_eq (fun _ a _ _ hg => ⟨0, okF a hg⟩)
theorem sm0 {a0 : List MSigned} (hg : gd a0) : MHead.Sm (2 ^ 21) ((md a0).1) := by
  unfold gd at hg; unfold md
  cases h : spec_IsChain.md a0
  · exact ⟨SmL.nil, SmL.nil, SmL.nil⟩
  · have := spec_IsChain.tr h
    exact (SmL.getD hg (by simp (disch := omega) only [Go.IntWalk.i64_in]; omega)).1
theorem head {l : List MSigned} (h : (md l).2 = true) : spec_IsChain.md l = true ∧ (md l).1 = (l.getD (l.length - 1) MSigned.zero).fHead ∧ spec_IsHead.md (md l).1 = true := by
  unfold md at h ⊢
  cases hc : spec_IsChain.md l
  · rw [hc] at h; cases h
  · have hl := spec_IsChain.tr hc
    have hw : Int.toNat (IntKind.i64.wrap ((l.length : Int) - 1)) = l.length - 1 := by
      rw [Go.IntWalk.i64_in _ (by omega)]; omega
    simp only [Bool.not_true, cond_false, hw]
    exact ⟨trivial, trivial, spec_IsChain.heads hc _ (by omega)⟩
theorem pos {l : List MSigned} (h : (md l).2 = true) : 0 ≤ (md l).1.fUntil := by
  have := spec_IsHead.tr (head h).2.2
  omega
end spec_LastHead
/-! spec.l26Find -/
namespace spec_l26Find
inductive Pt where
  | p0 (a : Int) (b : ByteArray) (c : Int) (d : RCache)
def pid : Pt → Nat
  | .p0 .. => 2
def pvs : Pt → List V
  | .p0 a b c d => [.int .i64 a, .str b, .bptr 0 0, .int .i64 c]
def phs : Pt → List Root
  | .p0 a b c d => [.box [.sl none 124 d.fList]]
noncomputable def step (J : Pt → Ans) : Pt → Ans
  | .p0 a b c d => (bif (decide (c < (d.fList.length : Int))) then (bif (decide ((0 : Int) ≤ c)) then (bif (decide (c < (d.fList.length : Int))) then (bif ((RStored.at d.fList (Int.toNat c)).fZone == a) then (bif (decide ((0 : Int) ≤ c)) then (bif (decide (c < (d.fList.length : Int))) then (bif ((RStored.at d.fList (Int.toNat c)).fLabel == b) then ret (c : Int) else J (.p0 a b (IntKind.i64.wrap (c + 1)) d)) else none) else none) else J (.p0 a b (IntKind.i64.wrap (c + 1)) d)) else none) else none) else ret ((-1) : Int))
noncomputable def start (J : Pt → Ans) (x0 : RCache) (x1 : Int) (x2 : ByteArray) : Ans := J (.p0 x1 x2 0 x0)
def live : Nat → Live := fun i => match i with | 2 => [(1, none), (2, none), (3, none), (7, none)] | _ => []
def pats : List Pat := [.agg [.sl 124], .rd (.int .i64), .rd (.str)]
def res : RP := .one (.rd (.int .i64))
noncomputable abbrev E : Env := ⟨assoc Tab, conG [], 34⟩
set_option maxRecDepth 100000
theorem step_eq (I : Heads) (p : Pt) : enterC E live I (pid p) (bodyOf Tryz.f76) (stOf (live (pid p)) (pvs p) (phs p)) (doneK E Tryz.f76 res) = step (fun q => I (pid q) (pvs q) (phs q)) p := by
  cases p <;> kernel_rfl
theorem start_eq (I : Heads) (ls : List L) : runC E live I (bodyOf Tryz.f76) (initS pats ls) (doneK E Tryz.f76 res) = start (fun q => I (pid q) (pvs q) (phs q)) (RCache.dec ls) ((dropT 1 ls).headD .hole).toInt ((dropT 2 ls).headD .hole).toStr := by kernel_rfl
theorem run_eq (n : Nat) (ls : List L) : runF E live Tryz.f76 res n (initS pats ls) = start (iter step n) (RCache.dec ls) ((dropT 1 ls).headD .hole).toInt ((dropT 2 ls).headD .hole).toStr := runF_iter (id := pid) (vs := pvs) (hs := phs) (step := step) (start := fun J => start J (RCache.dec ls) ((dropT 1 ls).headD .hole).toInt ((dropT 2 ls).headD .hole).toStr) step_eq (fun I => start_eq I ls) n
noncomputable def md (a0 : MCache) (a1 : Int) (a2 : ByteArray) : Int := (eachI (S := Unit) (β := Int) (fun (i1 : Nat) (y1 : MStored) (s3 : Unit) => (bif (y1.fZone == a1) then (bif (y1.fLabel == a2) then (.inr ((i1 : Int) : Int)) else (.inl ())) else (.inl ()))) (fun (s3 : Unit) => ((-1) : Int)) 0 a0.fList ())
def gd (a0 : MCache) (a1 : Int) (a2 : ByteArray) : Prop := (MCache.Sm (2 ^ 21) a0)
def acc (ls : List L) : RCache × Int × ByteArray := ((RCache.dec ls), ((dropT 1 ls).headD .hole).toInt, ((dropT 2 ls).headD .hole).toStr)
noncomputable def R : (RCache × Int × ByteArray) → Option Int := RR (p3 gd) (u3 md)
theorem R_eq {a0} {a1} {a2} (h : gd a0 a1 a2) : R ((MCache.r a0), a1, a2) = some (md a0 a1 a2) := RR_eq (a := (a0, a1, a2)) h
noncomputable def con : Con := CN pats res acc R
theorem okF (a0 : MCache) (a1 : Int) (a2 : ByteArray) (hg : gd a0 a1 a2) : ∃ n, start (iter step n) (MCache.r a0) a1 a2 = ret ((md a0 a1 a2) : Int) := by
  unfold gd at hg
  have H0 := hg
  unfold start md
  try simp only [S0, MKeys.rs, MHead.rs, MEntry.rs, MStored.rs, MCache.rs]
  have Bh2 : a0.fList.length ≤ maxLen := (by
      have := (H0).1
      try simp only [maxLen] at *
      omega)
  refine ex_eq (out := ret) (loopM_eachI (z := MStored.zero)) ?_
  refine ex_pt (p := Pt.p0 a1 a2 0 (MCache.r a0)) (by first | rfl | (simp only [S0, MKeys.rs, MHead.rs, MEntry.rs, MStored.rs, MCache.rs, MP]; done) | (simp only [MP]; rfl)) ?_
  refine loopM_ok (pt := fun (i1 : Nat) (s3 : Unit) => Pt.p0 a1 a2 (i1 : Int) (MCache.r a0)) (s := (() : Unit)) (out := ret) (fun _ _ => True) (fun J i1 s3 h2 hih2 => ?_) (fun s3 hih2 => ?_) trivial
  · simp only [step, S0, MKeys.rs, MHead.rs, MEntry.rs, MStored.rs, MCache.rs]
    have bb_ := Bh2
    simp only [maxLen] at bb_
    have := (H0).1
    refine Rnd.yes (by apply decide_eq_true; omega) ?_
    refine Rnd.yes zle_dec ?_
    refine Rnd.yes (lt_dec h2) ?_
    refine Rnd.bif (fun c4 => ?_) (fun c4 => ?_)
    · refine Rnd.yes zle_dec ?_
      refine Rnd.yes (lt_dec h2) ?_
      refine Rnd.bif (fun c5 => ?_) (fun c5 => ?_)
      · refine Rnd.inr ?_
        first | rfl | (simp only [S0, MKeys.rs, MHead.rs, MEntry.rs, MStored.rs, MCache.rs, MP]; first | done | rfl)
      · refine Rnd.inl trivial ?_
        rw [wrap_succ h2 Bh2]
        all_goals first | rfl | (simp only [S0, MKeys.rs, MHead.rs, MEntry.rs, MStored.rs, MCache.rs, MP]; first | done | rfl)
    · refine Rnd.inl trivial ?_
      rw [wrap_succ h2 Bh2]
      all_goals first | rfl | (simp only [S0, MKeys.rs, MHead.rs, MEntry.rs, MStored.rs, MCache.rs, MP]; first | done | rfl)
  · simp only [step, S0, MKeys.rs, MHead.rs, MEntry.rs, MStored.rs, MCache.rs]
    have := (H0).1
    refine ex_no (by apply decide_eq_false; omega) ?_
    refine ⟨0, ?_⟩
    first | rfl | (simp only [S0, MKeys.rs, MHead.rs, MEntry.rs, MStored.rs, MCache.rs, MP]; first | done | rfl)
theorem valid_ : Valid Tryz.prog Ev 76 con := VV (run := fun n x => start (iter step n) x.1 x.2.1 x.2.2) mix tab_ok .nil Tryz.func76 (by kernel_rfl) run_eq (fun _ a _ _ hg => okF a.1 a.2.1 a.2.2 hg)
theorem fa (a0 : MCache) (a1 : Int) (a2 : ByteArray) : -1 ≤ md a0 a1 a2 ∧ md a0 a1 a2 < (a0.fList.length : Int) := by
  unfold md
  refine eachI_fa0 ?_ _ _
  all_goals
    intro i x s b h
    revert h
    simp only [Bool.cond_eq_ite]
    repeat' split
    all_goals (intro h; first | (cases h; rfl) | cases h)
end spec_l26Find
/-! spec.IsFresh -/
namespace spec_IsFresh
noncomputable def F (x0 : RHead) (x1 : Int) : Ans := (call (spec_l1In.R (x1, x0.fTime, x0.fUntil)) fun v1 => ret (v1 : Bool))
def pats : List Pat := [.agg [.int .i64, .int .i64, .int .i64, .int .i64, .int .i64, .int .i64, .int .i64, .int .i64, .sl 3, .int .i64, .sl 3, .int .i64, .int .i64, .sl 3, .int .i64, .bool], .rd (.int .i64)]
def res : RP := .one (.rd (.bool))
noncomputable abbrev E : Env := ⟨assoc Tab, conG [(81, spec_l1In.con)], 11⟩
set_option maxRecDepth 100000
theorem run_eq (n : Nat) (ls : List L) : runF E (fun _ => []) Tryz.f128 res n (initS pats ls) = F (RHead.dec ls) ((dropT 16 ls).headD .hole).toInt := by kernel_rfl
noncomputable def md (a0 : MHead) (a1 : Int) : Bool := ((spec_l1In.md a1 a0.fTime a0.fUntil) : Bool)
def gd (a0 : MHead) (a1 : Int) : Prop := True
def acc (ls : List L) : RHead × Int := ((RHead.dec ls), ((dropT 16 ls).headD .hole).toInt)
noncomputable def R : (RHead × Int) → Option Bool := RR (p2 gd) (u2 md)
theorem R_eq {a0} {a1} (h : gd a0 a1) : R ((MHead.r a0), a1) = some (md a0 a1) := RR_eq (a := (a0, a1)) h
noncomputable def con : Con := CN pats res acc R
theorem okF (a0 : MHead) (a1 : Int) (hg : gd a0 a1) : F (MHead.r a0) a1 = ret ((md a0 a1) : Bool) := by
  unfold F md
  try simp only [S0, MHead.rs]
  refine call_to (spec_l1In.md a1 a0.fTime a0.fUntil) (spec_l1In.R_eq (a0 := a1) (a1 := a0.fTime) (a2 := a0.fUntil) trivial) ?_
  first | rfl | (simp only [S0, MHead.rs, MP]; first | done | rfl)
theorem valid_ : Valid Tryz.prog Ev 128 con := VV (run := fun _ x => F x.1 x.2) mix tab_ok (.cons spec_l1In.valid_ .nil) Tryz.func128 (by kernel_rfl) run_eq (fun _ a _ _ hg => ⟨0, okF a.1 a.2 hg⟩)
end spec_IsFresh
/-! spec.BytesToInts -/
namespace spec_BytesToInts
inductive Pt where
  | p0 (a : List (List L)) (b : Int) (c : List (List L))
def pid : Pt → Nat
  | .p0 .. => 3
def pvs : Pt → List V
  | .p0 a b c => [.sl none 5 a, .own 0, .int .i64 b]
def phs : Pt → List Root
  | .p0 a b c => [.row 3 c]
noncomputable def step (J : Pt → Ans) : Pt → Ans
  | .p0 a b c => (bif (decide (b < (a.length : Int))) then (bif (decide ((0 : Int) ≤ b)) then (bif (decide (b < (a.length : Int))) then (bif (lim (((c.length : Int) + 1) * 8)) then J (.p0 a (IntKind.i64.wrap (b + 1)) (c ++ [[L.int (IntKind.i64.wrap (iAt a (Int.toNat b)))]])) else none) else none) else none) else ret (c : List (List L)))
noncomputable def start (J : Pt → Ans) (x0 : List (List L)) : Ans := J (.p0 x0 0 [[L.int (x0.length : Int)]])
def live : Nat → Live := fun i => match i with | 3 => [(0, none), (3, none), (4, none)] | _ => []
def pats : List Pat := [.rd (.sl 5)]
def res : RP := .one (.fr 3)
noncomputable abbrev E : Env := ⟨assoc Tab, conG [], 23⟩
set_option maxRecDepth 100000
theorem step_eq (I : Heads) (p : Pt) : enterC E live I (pid p) (bodyOf Tryz.f273) (stOf (live (pid p)) (pvs p) (phs p)) (doneK E Tryz.f273 res) = step (fun q => I (pid q) (pvs q) (phs q)) p := by
  cases p <;> kernel_rfl
theorem start_eq (I : Heads) (ls : List L) : runC E live I (bodyOf Tryz.f273) (initS pats ls) (doneK E Tryz.f273 res) = start (fun q => I (pid q) (pvs q) (phs q)) (ls.headD .hole).toSl := by kernel_rfl
theorem run_eq (n : Nat) (ls : List L) : runF E live Tryz.f273 res n (initS pats ls) = start (iter step n) (ls.headD .hole).toSl := runF_iter (id := pid) (vs := pvs) (hs := phs) (step := step) (start := fun J => start J (ls.headD .hole).toSl) step_eq (fun I => start_eq I ls) n
noncomputable def md (a0 : List Int) : List Int := ([(a0.length : Int)] ++ a0.map (fun (y1 : Int) => (IntKind.i64.wrap y1)))
def gd (a0 : List Int) : Prop := (SmL (2 ^ 38) (fun y : Int => True) a0)
def acc (ls : List L) : List (List L) := (ls.headD .hole).toSl
noncomputable def R : (List (List L)) → Option (List (List L)) := RR gd md
theorem R_eq {a0} (h : gd a0) : R (a0.map iRow) = some ((md a0).map iRow) := RR_eq (a := a0) h
noncomputable def con : Con := CN pats res acc R
theorem okF (a0 : List Int) (hg : gd a0) : ∃ n, start (iter step n) (a0.map iRow) = ret (((md a0).map iRow) : List (List L)) := by
  unfold gd at hg
  have H0 := hg
  unfold start md
  try simp only [S0]
  have Bh2 : a0.length ≤ maxLen := (by
      have := (H0).1
      try simp only [maxLen] at *
      omega)
  refine ex_eq (out := (fun b : List Int => ret ((b.map iRow) : List (List L)))) (loopM_map (g := fun (y1 : Int) => (IntKind.i64.wrap y1)) (z := 0) (t := fun (s3 : List Int) => s3) (s := [(a0.length : Int)])) ?_
  refine ex_pt (p := Pt.p0 (a0.map iRow) 0 ([(a0.length : Int)].map iRow)) (by first | rfl | (simp only [S0, MP]; done) | (simp only [MP]; rfl)) ?_
  refine loopM_ok (pt := fun (i1 : Nat) (s3 : List Int) => Pt.p0 (a0.map iRow) (i1 : Int) (s3.map iRow)) (s := ([(a0.length : Int)] : List Int)) (out := (fun b : List Int => ret ((b.map iRow) : List (List L)))) (fun (i1 : Nat) (s3 : List Int) => s3.length ≤ [(a0.length : Int)].length + 1 * i1) (fun J i1 s3 h2 hih2 => ?_) (fun s3 hih2 => ?_) (by simp)
  · simp only [step, S0]
    have gr_ := hih2
    try simp only [LN] at gr_
    have := (H0).1
    have bb_ := Bh2
    simp only [maxLen] at bb_
    have := (H0).1
    refine Rnd.yes (by apply decide_eq_true; omega) ?_
    refine Rnd.yes zle_dec ?_
    refine Rnd.yes (lt_dec h2) ?_
    refine Rnd.yes (by
        refine lim_t ?_
        try simp (disch := omega) only [LN, wi]
        first | omega | (simp; done) | (simp; omega)) ?_
    refine Rnd.inl (by
        have g_ := hih2
        try simp only [LN] at g_ ⊢
        first | omega | (simp; done) | (simp; omega)) ?_
    rw [wrap_succ h2 Bh2]
    all_goals first | rfl | (simp only [S0]; done) | (simp only [MP]; rfl) | (simp only [S0, MP]; first | done | rfl)
  · simp only [step, S0]
    have gr_ := hih2
    try simp only [LN] at gr_
    have := (H0).1
    have := (H0).1
    refine ex_no (by apply decide_eq_false; omega) ?_
    refine ⟨0, ?_⟩
    all_goals first | rfl | (simp only [S0]; done) | (simp only [MP]; rfl) | (simp only [S0, MP]; first | done | rfl)
theorem valid_ : Valid Tryz.prog Ev 273 con := VV (run := fun n x => start (iter step n) x) mix tab_ok .nil Tryz.func273 (by kernel_rfl) run_eq (fun _ a _ _ hg => okF a hg)
theorem len (a0 : List Int) : (md a0).length = 1 + a0.length := by simp [md]; omega
end spec_BytesToInts
/-! spec.LabelInts -/
namespace spec_LabelInts
noncomputable def F (x0 : ByteArray) : Ans := (bif (decide ((x0.size : Int) ≤ 140737488355328)) then (call (spec_BytesToInts.R (bytesL x0)) fun v1 => ret (v1 : List (List L))) else none)
def pats : List Pat := [.rd (.str)]
def res : RP := .one (.fr 3)
noncomputable abbrev E : Env := ⟨assoc Tab, conG [(273, spec_BytesToInts.con)], 6⟩
set_option maxRecDepth 100000
theorem run_eq (n : Nat) (ls : List L) : runF E (fun _ => []) Tryz.f263 res n (initS pats ls) = F (ls.headD .hole).toStr := by kernel_rfl
noncomputable def md (a0 : ByteArray) : List Int := (spec_BytesToInts.md (bytesI a0))
def gd (a0 : ByteArray) : Prop := (a0.size ≤ (2 ^ 21))
def acc (ls : List L) : ByteArray := (ls.headD .hole).toStr
noncomputable def R : ByteArray → Option (List (List L)) := RR gd md
theorem R_eq {a0} (h : gd a0) : R a0 = some ((md a0).map iRow) := RR_eq (a := a0) h
noncomputable def con : Con := CN pats res acc R
theorem okF (a0 : ByteArray) (hg : gd a0) : F a0 = ret (((md a0).map iRow) : List (List L)) := by
  unfold gd at hg
  have H0 := hg
  unfold F md
  try simp only [S0]
  refine yes_ret (by
      have := H0
      refine decide_eq_true ?_
      try simp (disch := omega) only [LN, wi]
      first | omega | (simp; done) | (simp; omega)) ?_
  refine call_to ((spec_BytesToInts.md (bytesI a0)).map iRow) ?_ ?_
  · have R_ := spec_BytesToInts.R_eq (a0 := (bytesI a0)) ⟨(by
        have := bytesI_length a0
        have := H0
        try simp (disch := omega) only [LN, wi]
        first | omega | (simp; done) | (simp; omega)), fun _ _ => trivial⟩
    first | exact R_ | (simp only [MP, S0] at R_ ⊢; first | exact R_ | (rw [← R_]; rfl))
  try simp only [S0]
  all_goals first | rfl | (simp only [S0]; done) | (simp only [MP]; rfl) | (simp only [S0, MP]; first | done | rfl)
theorem valid_ : Valid Tryz.prog Ev 263 con := VV (run := fun _ x => F x) mix tab_ok (.cons spec_BytesToInts.valid_ .nil) Tryz.func263 (by kernel_rfl) run_eq (fun _ a _ _ hg => ⟨0, okF a hg⟩)
theorem len (a0 : ByteArray) : (md a0).length = 1 + a0.size := by simp [md, spec_BytesToInts.len, bytesI_length]
end spec_LabelInts
/-! spec.EntryInts -/
namespace spec_EntryInts
inductive Pt where
  | p0 (a : Int) (b : REntry) (c : List (List L))
def pid : Pt → Nat
  | .p0 .. => 3
def pvs : Pt → List V
  | .p0 a b c => [.bptr 0 0, .own 1, .int .i64 a]
def phs : Pt → List Root
  | .p0 a b c => [.box [.str b.fLabel, .int .i64 b.fKind, .int .i64 b.fValue, .sl none 9 b.fPath], .row 3 c]
noncomputable def step (J : Pt → Ans) : Pt → Ans
  | .p0 a b c => (bif (decide (a < (b.fPath.length : Int))) then (bif (decide ((0 : Int) ≤ a)) then (bif (decide (a < (b.fPath.length : Int))) then (call (spec_LabelInts.R (sAt b.fPath (Int.toNat a))) fun v1 => (bif (lim (((c.length : Int) + (v1.length : Int)) * 8)) then J (.p0 (IntKind.i64.wrap (a + 1)) b (c ++ v1)) else none)) else none) else none) else ret (c : List (List L)))
noncomputable def start (J : Pt → Ans) (x0 : REntry) : Ans := (call (spec_LabelInts.R x0.fLabel) fun v1 => (bif (lim (((v1.length : Int) + 3) * 8)) then J (.p0 0 x0 (v1 ++ [[L.int x0.fKind], [L.int x0.fValue], [L.int (x0.fPath.length : Int)]])) else none))
def live : Nat → Live := fun i => match i with | 3 => [(1, none), (3, none), (4, none)] | _ => []
def pats : List Pat := [.agg [.str, .int .i64, .int .i64, .sl 9]]
def res : RP := .one (.fr 3)
noncomputable abbrev E : Env := ⟨assoc Tab, conG [(263, spec_LabelInts.con)], 33⟩
set_option maxRecDepth 100000
theorem step_eq (I : Heads) (p : Pt) : enterC E live I (pid p) (bodyOf Tryz.f248) (stOf (live (pid p)) (pvs p) (phs p)) (doneK E Tryz.f248 res) = step (fun q => I (pid q) (pvs q) (phs q)) p := by
  cases p <;> kernel_rfl
theorem start_eq (I : Heads) (ls : List L) : runC E live I (bodyOf Tryz.f248) (initS pats ls) (doneK E Tryz.f248 res) = start (fun q => I (pid q) (pvs q) (phs q)) (REntry.dec ls) := by kernel_rfl
theorem run_eq (n : Nat) (ls : List L) : runF E live Tryz.f248 res n (initS pats ls) = start (iter step n) (REntry.dec ls) := runF_iter (id := pid) (vs := pvs) (hs := phs) (step := step) (start := fun J => start J (REntry.dec ls)) step_eq (fun I => start_eq I ls) n
noncomputable def md (a0 : MEntry) : List Int := (((spec_LabelInts.md a0.fLabel) ++ [a0.fKind, a0.fValue, (a0.fPath.length : Int)]) ++ a0.fPath.flatMap (fun (y1 : ByteArray) => (spec_LabelInts.md y1)))
def gd (a0 : MEntry) : Prop := (MEntry.Sm (2 ^ 21) a0)
def acc (ls : List L) : REntry := (REntry.dec ls)
noncomputable def R : REntry → Option (List (List L)) := RR gd md
theorem R_eq {a0} (h : gd a0) : R (MEntry.r a0) = some ((md a0).map iRow) := RR_eq (a := a0) h
noncomputable def con : Con := CN pats res acc R
theorem okF (a0 : MEntry) (hg : gd a0) : ∃ n, start (iter step n) (MEntry.r a0) = ret (((md a0).map iRow) : List (List L)) := by
  unfold gd at hg
  have H0 := hg
  unfold start md
  try simp only [S0, MEntry.rs]
  refine ex_call_to ((spec_LabelInts.md a0.fLabel).map iRow) (spec_LabelInts.R_eq (a0 := a0.fLabel) H0.1) ?_
  try simp only [S0, MEntry.rs]
  refine ex_yes (by
      have := spec_LabelInts.len a0.fLabel
      have := H0.1
      refine lim_t ?_
      try simp (disch := omega) only [LN, wi]
      first | omega | (simp; done) | (simp; omega)) ?_
  have Bh2 : a0.fPath.length ≤ maxLen := (by
      have := (H0.2).1
      try simp only [maxLen] at *
      omega)
  refine ex_eq (out := (fun b : List Int => ret ((b.map iRow) : List (List L)))) (loopM_flat (g := fun (y1 : ByteArray) => (spec_LabelInts.md y1)) (z := ⟨#[]⟩) (t := fun (s3 : List Int) => s3) (s := ((spec_LabelInts.md a0.fLabel) ++ [a0.fKind, a0.fValue, (a0.fPath.length : Int)]))) ?_
  refine ex_pt (p := Pt.p0 0 (MEntry.r a0) (((spec_LabelInts.md a0.fLabel) ++ [a0.fKind, a0.fValue, (a0.fPath.length : Int)]).map iRow)) (by first | rfl | (simp only [S0, MEntry.rs, MP]; done) | (simp only [MP]; rfl)) ?_
  refine loopM_ok (pt := fun (i1 : Nat) (s3 : List Int) => Pt.p0 (i1 : Int) (MEntry.r a0) (s3.map iRow)) (s := (((spec_LabelInts.md a0.fLabel) ++ [a0.fKind, a0.fValue, (a0.fPath.length : Int)]) : List Int)) (out := (fun b : List Int => ret ((b.map iRow) : List (List L)))) (fun (i1 : Nat) (s3 : List Int) => s3.length ≤ 4 + a0.fLabel.size + i1 * (2 ^ 21 + 1)) (fun J i1 s3 h2 hih2 => ?_) (fun s3 hih2 => ?_) (by
      have := (H0.2).1
      have := spec_LabelInts.len a0.fLabel
      have := H0.1
      try simp only [LN]
      try simp
      try omega)
  · simp only [step, S0, MEntry.rs]
    have gr_ := hih2
    try simp only [LN] at gr_
    have := H0.1
    have bb_ := Bh2
    simp only [maxLen] at bb_
    have := (H0.2).1
    refine Rnd.yes (by apply decide_eq_true; omega) ?_
    refine Rnd.yes zle_dec ?_
    refine Rnd.yes (lt_dec h2) ?_
    refine Rnd.call_to ((spec_LabelInts.md (a0.fPath.getD i1 ⟨#[]⟩)).map iRow) (spec_LabelInts.R_eq (a0 := (a0.fPath.getD i1 ⟨#[]⟩)) (SmL.getD (z := ⟨#[]⟩) H0.2 h2)) ?_
    try simp only [S0, MEntry.rs]
    refine Rnd.yes (by
        have := spec_LabelInts.len (a0.fPath.getD i1 ⟨#[]⟩)
        have := (SmL.getD (z := ⟨#[]⟩) H0.2 h2)
        refine lim_t ?_
        try simp (disch := omega) only [LN, wi]
        first | omega | (simp; done) | (simp; omega)) ?_
    refine Rnd.inl (by
        have := spec_LabelInts.len (a0.fPath.getD i1 ⟨#[]⟩)
        have := (SmL.getD (z := ⟨#[]⟩) H0.2 h2)
        have g_ := hih2
        try simp only [LN] at g_ ⊢
        first | omega | (simp; done) | (simp; omega)) ?_
    rw [wrap_succ h2 Bh2]
    all_goals first | rfl | (simp only [S0, MEntry.rs]; done) | (simp only [MP]; rfl) | (simp only [S0, MEntry.rs, MP]; first | done | rfl)
  · simp only [step, S0, MEntry.rs]
    have gr_ := hih2
    try simp only [LN] at gr_
    have := H0.1
    have := (H0.2).1
    refine ex_no (by apply decide_eq_false; omega) ?_
    refine ⟨0, ?_⟩
    all_goals first | rfl | (simp only [S0, MEntry.rs]; done) | (simp only [MP]; rfl) | (simp only [S0, MEntry.rs, MP]; first | done | rfl)
theorem valid_ : Valid Tryz.prog Ev 248 con := VV (run := fun n x => start (iter step n) x) mix tab_ok (.cons spec_LabelInts.valid_ .nil) Tryz.func248 (by kernel_rfl) run_eq (fun _ a _ _ hg => okF a hg)
theorem sm0 {a0 : MEntry} (hg : gd a0) : SmL (2 ^ 43 - 1) (fun y : Int => True) (md a0) := by
  unfold gd at hg
  refine ⟨?_, fun _ _ => trivial⟩
  unfold md
  have h1 := flatMap_len (xs := a0.fPath) (g := fun y => spec_LabelInts.md y) (n := 2 ^ 21 + 1) (fun x hx => by rw [spec_LabelInts.len]; have := hg.2.2 x hx; omega)
  have h2 := hg.1
  have h3 := hg.2.1
  have h4 := spec_LabelInts.len a0.fLabel
  simp only [List.length_append, List.length_cons, List.length_nil]
  omega
end spec_EntryInts
/-! spec.LeafOf -/
namespace spec_LeafOf
noncomputable def F (x0 : REntry) : Ans := (call (spec_EntryInts.R x0) fun v1 => (bif (lim (((1 : Int) + (v1.length : Int)) * 8)) then (call (spec_Hash.R ([[L.int 227]] ++ v1)) fun v2 => ret (v2 : Int)) else none))
def pats : List Pat := [.agg [.str, .int .i64, .int .i64, .sl 9]]
def res : RP := .one (.rd (.int .i64))
noncomputable abbrev E : Env := ⟨assoc Tab, conG [(248, spec_EntryInts.con), (186, spec_Hash.con)], 8⟩
set_option maxRecDepth 100000
theorem run_eq (n : Nat) (ls : List L) : runF E (fun _ => []) Tryz.f221 res n (initS pats ls) = F (REntry.dec ls) := by kernel_rfl
noncomputable def md (a0 : MEntry) : Int := ((spec_Hash.md ([227] ++ (spec_EntryInts.md a0))) : Int)
def gd (a0 : MEntry) : Prop := (MEntry.Sm (2 ^ 21) a0)
def acc (ls : List L) : REntry := (REntry.dec ls)
noncomputable def R : REntry → Option Int := RR gd md
theorem R_eq {a0} (h : gd a0) : R (MEntry.r a0) = some (md a0) := RR_eq (a := a0) h
noncomputable def con : Con := CN pats res acc R
theorem okF (a0 : MEntry) (hg : gd a0) : F (MEntry.r a0) = ret ((md a0) : Int) := by
  unfold gd at hg
  have H0 := hg
  unfold F md
  try simp only [S0]
  refine call_to ((spec_EntryInts.md a0).map iRow) (spec_EntryInts.R_eq (a0 := a0) H0) ?_
  try simp only [S0]
  refine yes_ret (by
      have := ((spec_EntryInts.sm0 (a0 := a0) H0)).1
      refine lim_t ?_
      try simp (disch := omega) only [LN, wi]
      first | omega | (simp; done) | (simp; omega)) ?_
  refine call_to (spec_Hash.md ([227] ++ (spec_EntryInts.md a0))) ?_ ?_
  · have R_ := spec_Hash.R_eq (a0 := ([227] ++ (spec_EntryInts.md a0))) ⟨(by
        have := ((spec_EntryInts.sm0 (a0 := a0) H0)).1
        try simp (disch := omega) only [LN, wi]
        first | omega | (simp; done) | (simp; omega)), fun _ _ => trivial⟩
    first | exact R_ | (simp only [MP, S0] at R_ ⊢; first | exact R_ | (rw [← R_]; rfl))
  first | rfl | (simp only [S0, MP]; first | done | rfl)
theorem valid_ : Valid Tryz.prog Ev 221 con := VV (run := fun _ x => F x) mix tab_ok (.cons spec_EntryInts.valid_ (.cons spec_Hash.valid_ .nil)) Tryz.func221 (by kernel_rfl) run_eq (fun _ a _ _ hg => ⟨0, okF a hg⟩)
end spec_LeafOf
/-! spec.NodeOf -/
namespace spec_NodeOf
noncomputable def F (x0 : Int) (x1 : Int) : Ans := (call (spec_Hash.R [[L.int 229], [L.int x0], [L.int x1]]) fun v1 => ret (v1 : Int))
def pats : List Pat := [.rd (.int .i64), .rd (.int .i64)]
def res : RP := .one (.rd (.int .i64))
noncomputable abbrev E : Env := ⟨assoc Tab, conG [(186, spec_Hash.con)], 9⟩
set_option maxRecDepth 100000
theorem run_eq (n : Nat) (ls : List L) : runF E (fun _ => []) Tryz.f247 res n (initS pats ls) = F (ls.headD .hole).toInt ((dropT 1 ls).headD .hole).toInt := by kernel_rfl
noncomputable def md (a0 : Int) (a1 : Int) : Int := ((spec_Hash.md [229, a0, a1]) : Int)
def gd (a0 : Int) (a1 : Int) : Prop := True
def acc (ls : List L) : Int × Int := ((ls.headD .hole).toInt, ((dropT 1 ls).headD .hole).toInt)
noncomputable def R : (Int × Int) → Option Int := RR (p2 gd) (u2 md)
theorem R_eq {a0} {a1} (h : gd a0 a1) : R (a0, a1) = some (md a0 a1) := RR_eq (a := (a0, a1)) h
noncomputable def con : Con := CN pats res acc R
theorem okF (a0 : Int) (a1 : Int) (hg : gd a0 a1) : F a0 a1 = ret ((md a0 a1) : Int) := by
  unfold F md
  try simp only [S0]
  refine call_to (spec_Hash.md [229, a0, a1]) ?_ ?_
  · have R_ := spec_Hash.R_eq (a0 := [229, a0, a1]) ⟨(by
        try simp (disch := omega) only [LN, wi]
        first | omega | (simp; done) | (simp; omega)), fun _ _ => trivial⟩
    first | exact R_ | (simp only [MP, S0] at R_ ⊢; first | exact R_ | (rw [← R_]; rfl))
  first | rfl | (simp only [S0, MP]; first | done | rfl)
theorem valid_ : Valid Tryz.prog Ev 247 con := VV (run := fun _ x => F x.1 x.2) mix tab_ok (.cons spec_Hash.valid_ .nil) Tryz.func247 (by kernel_rfl) run_eq (fun _ a _ _ hg => ⟨0, okF a.1 a.2 hg⟩)
end spec_NodeOf
/-! spec.TopFrom -/
namespace spec_TopFrom
inductive Pt where
  | p0 (a : Int) (b : Int) (c : Int) (d : List (List L)) (e : Int)
def pid : Pt → Nat
  | .p0 .. => 4
def pvs : Pt → List V
  | .p0 a b c d e => [.int .i64 a, .int .i64 b, .int .i64 c, .sl none 3 d, .int .i64 e]
def phs : Pt → List Root
  | .p0 a b c d e => []
noncomputable def step (J : Pt → Ans) : Pt → Ans
  | .p0 a b c d e => (bif (decide (c > 1)) then (bif ((Int.tmod b 2) == 1) then (bif (decide (e ≥ (d.length : Int))) then ret ((0, false) : Int × Bool) else (bif ((Int.tmod b 2) == 1) then (bif (decide ((0 : Int) ≤ e)) then (bif (decide (e < (d.length : Int))) then (call (spec_NodeOf.R ((iAt d (Int.toNat e)), a)) fun v1 => J (.p0 v1 (IntKind.i64.wrap (Int.tdiv b 2)) (IntKind.i64.wrap (Int.tdiv (IntKind.i64.wrap (c + 1)) 2)) d (IntKind.i64.wrap (e + 1)))) else none) else none) else (bif (decide ((0 : Int) ≤ e)) then (bif (decide (e < (d.length : Int))) then (call (spec_NodeOf.R (a, (iAt d (Int.toNat e)))) fun v2 => J (.p0 v2 (IntKind.i64.wrap (Int.tdiv b 2)) (IntKind.i64.wrap (Int.tdiv (IntKind.i64.wrap (c + 1)) 2)) d (IntKind.i64.wrap (e + 1)))) else none) else none))) else (bif (decide ((IntKind.i64.wrap (b + 1)) < c)) then (bif (decide (e ≥ (d.length : Int))) then ret ((0, false) : Int × Bool) else (bif ((Int.tmod b 2) == 1) then (bif (decide ((0 : Int) ≤ e)) then (bif (decide (e < (d.length : Int))) then (call (spec_NodeOf.R ((iAt d (Int.toNat e)), a)) fun v3 => J (.p0 v3 (IntKind.i64.wrap (Int.tdiv b 2)) (IntKind.i64.wrap (Int.tdiv (IntKind.i64.wrap (c + 1)) 2)) d (IntKind.i64.wrap (e + 1)))) else none) else none) else (bif (decide ((0 : Int) ≤ e)) then (bif (decide (e < (d.length : Int))) then (call (spec_NodeOf.R (a, (iAt d (Int.toNat e)))) fun v4 => J (.p0 v4 (IntKind.i64.wrap (Int.tdiv b 2)) (IntKind.i64.wrap (Int.tdiv (IntKind.i64.wrap (c + 1)) 2)) d (IntKind.i64.wrap (e + 1)))) else none) else none))) else J (.p0 a (IntKind.i64.wrap (Int.tdiv b 2)) (IntKind.i64.wrap (Int.tdiv (IntKind.i64.wrap (c + 1)) 2)) d e))) else (bif (e != (d.length : Int)) then ret ((0, false) : Int × Bool) else ret ((a, true) : Int × Bool)))
noncomputable def start (J : Pt → Ans) (x0 : Int) (x1 : Int) (x2 : Int) (x3 : List (List L)) : Ans := (call (spec_l1In.R (x2, 1, 12)) fun v1 => (bif (!v1) then ret ((0, false) : Int × Bool) else (call (spec_l1In.R (x1, 0, (IntKind.i64.wrap (x2 - 1)))) fun v2 => (bif (!v2) then ret ((0, false) : Int × Bool) else J (.p0 x0 x1 x2 x3 0)))))
def live : Nat → Live := fun i => match i with | 4 => [(0, none), (1, none), (2, none), (3, none), (10, none)] | _ => []
def pats : List Pat := [.rd (.int .i64), .rd (.int .i64), .rd (.int .i64), .rd (.sl 3)]
def res : RP := .tup [(false, [.rd (.int .i64)]), (false, [.rd (.bool)])]
noncomputable abbrev E : Env := ⟨assoc Tab, conG [(81, spec_l1In.con), (247, spec_NodeOf.con)], 63⟩
set_option maxRecDepth 100000
theorem step_eq (I : Heads) (p : Pt) : enterC E live I (pid p) (bodyOf Tryz.f220) (stOf (live (pid p)) (pvs p) (phs p)) (doneK E Tryz.f220 res) = step (fun q => I (pid q) (pvs q) (phs q)) p := by
  cases p <;> kernel_rfl
theorem start_eq (I : Heads) (ls : List L) : runC E live I (bodyOf Tryz.f220) (initS pats ls) (doneK E Tryz.f220 res) = start (fun q => I (pid q) (pvs q) (phs q)) (ls.headD .hole).toInt ((dropT 1 ls).headD .hole).toInt ((dropT 2 ls).headD .hole).toInt ((dropT 3 ls).headD .hole).toSl := by kernel_rfl
theorem run_eq (n : Nat) (ls : List L) : runF E live Tryz.f220 res n (initS pats ls) = start (iter step n) (ls.headD .hole).toInt ((dropT 1 ls).headD .hole).toInt ((dropT 2 ls).headD .hole).toInt ((dropT 3 ls).headD .hole).toSl := runF_iter (id := pid) (vs := pvs) (hs := phs) (step := step) (start := fun J => start J (ls.headD .hole).toInt ((dropT 1 ls).headD .hole).toInt ((dropT 2 ls).headD .hole).toInt ((dropT 3 ls).headD .hole).toSl) step_eq (fun I => start_eq I ls) n
noncomputable def tf : Nat → Int → Int → Int → List Int → Int × Bool
  | 0, _, _, _, _ => (0, false)
  | k + 1, leaf, i, n, path =>
    if n > 1 then
      if i % 2 = 1 ∨ i + 1 < n then
        match path with
        | [] => (0, false)
        | p :: ps => tf k (if i % 2 = 1 then spec_NodeOf.md p leaf else spec_NodeOf.md leaf p) (i / 2) ((n + 1) / 2) ps
      else tf k leaf (i / 2) ((n + 1) / 2) path
    else if path.isEmpty then (leaf, true) else (0, false)
noncomputable def md (a0 : Int) (a1 : Int) (a2 : Int) (a3 : List Int) : Int × Bool := (bif !(spec_l1In.md a2 1 12) then (0, false) else bif !(spec_l1In.md a1 0 (IntKind.i64.wrap (a2 - 1))) then (0, false) else tf 5 a0 a1 a2 a3)
def gd (a0 : Int) (a1 : Int) (a2 : Int) (a3 : List Int) : Prop := SmL (2 ^ 38) (fun y : Int => True) a3
def acc (ls : List L) : Int × Int × Int × List (List L) := ((ls.headD .hole).toInt, ((dropT 1 ls).headD .hole).toInt, ((dropT 2 ls).headD .hole).toInt, ((dropT 3 ls).headD .hole).toSl)
noncomputable def R : (Int × Int × Int × List (List L)) → Option (Int × Bool) := RR (p4 gd) (u4 md)
theorem R_eq {a0} {a1} {a2} {a3} (h : gd a0 a1 a2 a3) : R (a0, a1, a2, (a3.map iRow)) = some ((md a0 a1 a2 a3).1, (md a0 a1 a2 a3).2) := RR_eq (a := (a0, a1, a2, a3)) h
noncomputable def con : Con := CN pats res acc R
theorem okF (a0 : Int) (a1 : Int) (a2 : Int) (a3 : List Int) (hg : gd a0 a1 a2 a3) : ∃ n, start (iter step n) a0 a1 a2 (a3.map iRow) = ret (((md a0 a1 a2 a3).1, (md a0 a1 a2 a3).2) : Int × Bool) := by
  have tm : ∀ b : Int, 0 ≤ b → b ≤ 11 → Int.tmod b 2 = b % 2 := fun b h1 h2 => Int.tmod_eq_emod_of_nonneg h1
  have td : ∀ b : Int, 0 ≤ b → b ≤ 13 → IntKind.i64.wrap (Int.tdiv b 2) = b / 2 := fun b h1 h2 => by
    rw [Int.tdiv_eq_ediv_of_nonneg h1, Go.IntWalk.i64_in _ (by omega)]
  have t1 : ∀ b : Int, 0 ≤ b → b ≤ 13 → IntKind.i64.wrap (b + 1) = b + 1 := fun b h1 h2 => Go.IntWalk.i64_in _ (by omega)
  obtain ⟨H3, _⟩ := hg
  have key : ∀ (k : Nat) (leaf i n : Int) (u : Nat), 0 ≤ i → i < n → n ≤ 12 → n ≤ 2 ^ k → u ≤ a3.length → ∃ m, iter step m (Pt.p0 leaf i n (a3.map iRow) (u : Int)) = ret ((tf (k + 1) leaf i n (a3.drop u)).1, (tf (k + 1) leaf i n (a3.drop u)).2) := by
    intro k
    induction k with
    | zero =>
      intro leaf i n u h1 h2 h3 h4 h5
      refine ⟨1, ?_⟩
      show step (iter step 0) (Pt.p0 _ _ _ _ _) = _
      have hn : n = 1 := by omega
      subst hn
      simp only [step, List.length_map]
      refine no_ret (by decide) ?_
      unfold tf
      rw [if_neg (by omega)]
      by_cases hu : u = a3.length
      · rw [List.drop_eq_nil_of_le (by omega), show ((u : Int) != (a3.length : Int)) = false from bne_eq_false_iff_eq.2 (by omega)]; rfl
      · have hne : (a3.drop u).isEmpty = false := by
          rw [List.drop_eq_getElem_cons (by omega)]; rfl
        rw [hne, show ((u : Int) != (a3.length : Int)) = true from bne_iff_ne.2 (by omega)]; rfl
    | succ k ih =>
      intro leaf i n u h1 h2 h3 h4 h5
      have hk : n ≤ 2 * 2 ^ k := by rw [Int.pow_succ] at h4; omega
      unfold tf
      by_cases hn : n > 1
      · have e1 := tm i h1 (by omega)
        have e2 := td i h1 (by omega)
        have e3 := t1 n (by omega) (by omega)
        have e4 := td (n + 1) (by omega) (by omega)
        have e5 := t1 i h1 (by omega)
        rw [if_pos hn]
        by_cases hc : i % 2 = 1 ∨ i + 1 < n
        · rw [if_pos hc]
          by_cases hu : u = a3.length
          · refine ⟨1, ?_⟩
            show step (iter step 0) (Pt.p0 _ _ _ _ _) = _
            rw [List.drop_eq_nil_of_le (by omega)]
            simp only [step, List.length_map, e1, e5]
            refine yes_ret (decide_eq_true (by omega)) ?_
            by_cases hm : i % 2 = 1
            · rw [hm]
              exact yes_ret rfl (yes_ret (decide_eq_true (by omega)) rfl)
            · refine no_ret (beq_eq_false_iff_ne.2 hm) (yes_ret (decide_eq_true (by omega)) (yes_ret (decide_eq_true (by omega)) rfl))
          · have hlt : u < a3.length := by omega
            rw [List.drop_eq_getElem_cons hlt]
            obtain ⟨m, hm⟩ := ih (if i % 2 = 1 then spec_NodeOf.md a3[u] leaf else spec_NodeOf.md leaf a3[u]) (i / 2) ((n + 1) / 2) (u + 1) (by omega) (by omega) (by omega) (by omega) (by omega)
            refine ⟨m + 1, ?_⟩
            show step (iter step m) (Pt.p0 _ _ _ _ _) = _
            have w : IntKind.i64.wrap ((u : Int) + 1) = ((u + 1 : Nat) : Int) := by rw [Go.IntWalk.i64_in _ (by omega)]; omega
            simp only [step, List.length_map, e1, e2, e3, e4, e5, w, toNat_nat, iAt_getD, getD_lt hlt]
            refine yes_ret (decide_eq_true (by omega)) ?_
            by_cases hp : i % 2 = 1
            · rw [if_pos hp] at hm
              rw [hp]
              refine yes_ret rfl (no_ret (decide_eq_false (by omega)) (yes_ret rfl (yes_ret (decide_eq_true (by omega)) (yes_ret (decide_eq_true (by omega)) (call_to _ (spec_NodeOf.R_eq trivial) ?_)))))
              rw [if_pos rfl]
              exact hm
            · rw [if_neg hp] at hm
              have hb : (i % 2 == 1) = false := beq_eq_false_iff_ne.2 hp
              rw [hb]
              refine no_ret rfl (yes_ret (decide_eq_true (by omega)) (no_ret (decide_eq_false (by omega)) (no_ret rfl (yes_ret (decide_eq_true (by omega)) (yes_ret (decide_eq_true (by omega)) (call_to _ (spec_NodeOf.R_eq trivial) ?_))))))
              rw [if_neg hp]
              exact hm
        · rw [if_neg hc]
          obtain ⟨m, hm⟩ := ih leaf (i / 2) ((n + 1) / 2) u (by omega) (by omega) (by omega) (by omega) h5
          refine ⟨m + 1, ?_⟩
          show step (iter step m) (Pt.p0 _ _ _ _ _) = _
          simp only [step, List.length_map, e1, e2, e3, e4, e5]
          have hb : (i % 2 == 1) = false := beq_eq_false_iff_ne.2 (by omega)
          rw [hb]
          exact yes_ret (decide_eq_true (by omega)) (no_ret rfl (no_ret (decide_eq_false (by omega)) hm))
      · refine ⟨1, ?_⟩
        show step (iter step 0) (Pt.p0 _ _ _ _ _) = _
        have hn1 : n = 1 := by omega
        subst hn1
        simp only [step, List.length_map]
        refine no_ret (by decide) ?_
        rw [if_neg (by omega)]
        by_cases hu : u = a3.length
        · rw [List.drop_eq_nil_of_le (by omega), show ((u : Int) != (a3.length : Int)) = false from bne_eq_false_iff_eq.2 (by omega)]; rfl
        · have hne : (a3.drop u).isEmpty = false := by
            rw [List.drop_eq_getElem_cons (by omega)]; rfl
          rw [hne, show ((u : Int) != (a3.length : Int)) = true from bne_iff_ne.2 (by omega)]; rfl
  unfold start md
  refine ex_call_to (spec_l1In.md a2 1 12) (spec_l1In.R_eq trivial) ?_
  cases hc : spec_l1In.md a2 1 12
  · exact ⟨0, rfl⟩
  simp only [Bool.not_true, cond_false]
  refine ex_call_to (spec_l1In.md a1 0 (IntKind.i64.wrap (a2 - 1))) (spec_l1In.R_eq trivial) ?_
  cases hd : spec_l1In.md a1 0 (IntKind.i64.wrap (a2 - 1))
  · exact ⟨0, rfl⟩
  have i1 : 1 ≤ a2 ∧ a2 ≤ 12 := by simpa [spec_l1In.md] using hc
  rw [Go.IntWalk.i64_in _ (by omega)] at hd
  have i2 : 0 ≤ a1 ∧ a1 ≤ a2 - 1 := by simpa [spec_l1In.md] using hd
  exact key 4 a0 a1 a2 0 (by omega) (by omega) (by omega) (by omega) (by omega)
theorem valid_ : Valid Tryz.prog Ev 220 con := VV (run := fun n x => start (iter step n) x.1 x.2.1 x.2.2.1 x.2.2.2) mix tab_ok (.cons spec_l1In.valid_ (.cons spec_NodeOf.valid_ .nil)) Tryz.func220 (by kernel_rfl) run_eq (fun _ a _ _ hg => okF a.1 a.2.1 a.2.2.1 a.2.2.2 hg)
end spec_TopFrom
/-! spec.IsLabel -/
namespace spec_IsLabel
inductive Pt where
  | p0 (a : ByteArray) (b : Int)
def pid : Pt → Nat
  | .p0 .. => 4
def pvs : Pt → List V
  | .p0 a b => [.str a, .int .i64 b]
def phs : Pt → List Root
  | .p0 a b => []
noncomputable def step (J : Pt → Ans) : Pt → Ans
  | .p0 a b => (bif (decide (b < (a.size : Int))) then (bif (decide ((0 : Int) ≤ b)) then (bif (decide (b < (a.size : Int))) then (bif (decide ((chAt a (Int.toNat b)) < 97)) then (bif (decide ((0 : Int) ≤ b)) then (bif (decide (b < (a.size : Int))) then (bif (decide ((chAt a (Int.toNat b)) < 48)) then (bif (decide ((0 : Int) ≤ b)) then (bif (decide (b < (a.size : Int))) then (bif ((chAt a (Int.toNat b)) != 45) then ret (false : Bool) else J (.p0 a (IntKind.i64.wrap (b + 1)))) else none) else none) else (bif (decide ((0 : Int) ≤ b)) then (bif (decide (b < (a.size : Int))) then (bif (decide ((chAt a (Int.toNat b)) > 57)) then (bif (decide ((0 : Int) ≤ b)) then (bif (decide (b < (a.size : Int))) then (bif ((chAt a (Int.toNat b)) != 45) then ret (false : Bool) else J (.p0 a (IntKind.i64.wrap (b + 1)))) else none) else none) else J (.p0 a (IntKind.i64.wrap (b + 1)))) else none) else none)) else none) else none) else (bif (decide ((0 : Int) ≤ b)) then (bif (decide (b < (a.size : Int))) then (bif (decide ((chAt a (Int.toNat b)) > 122)) then (bif (decide ((0 : Int) ≤ b)) then (bif (decide (b < (a.size : Int))) then (bif (decide ((chAt a (Int.toNat b)) < 48)) then (bif (decide ((0 : Int) ≤ b)) then (bif (decide (b < (a.size : Int))) then (bif ((chAt a (Int.toNat b)) != 45) then ret (false : Bool) else J (.p0 a (IntKind.i64.wrap (b + 1)))) else none) else none) else (bif (decide ((0 : Int) ≤ b)) then (bif (decide (b < (a.size : Int))) then (bif (decide ((chAt a (Int.toNat b)) > 57)) then (bif (decide ((0 : Int) ≤ b)) then (bif (decide (b < (a.size : Int))) then (bif ((chAt a (Int.toNat b)) != 45) then ret (false : Bool) else J (.p0 a (IntKind.i64.wrap (b + 1)))) else none) else none) else J (.p0 a (IntKind.i64.wrap (b + 1)))) else none) else none)) else none) else none) else J (.p0 a (IntKind.i64.wrap (b + 1)))) else none) else none)) else none) else none) else ret (true : Bool))
noncomputable def start (J : Pt → Ans) (x0 : ByteArray) : Ans := (call (spec_l1In.R ((x0.size : Int), 1, 8)) fun v1 => (bif (!v1) then ret (false : Bool) else (bif (decide ((0 : Int) < (x0.size : Int))) then (bif ((chAt x0 0) == 45) then ret (false : Bool) else (bif (decide ((0 : Int) ≤ (IntKind.i64.wrap ((x0.size : Int) - 1)))) then (bif (decide ((IntKind.i64.wrap ((x0.size : Int) - 1)) < (x0.size : Int))) then (bif ((chAt x0 (Int.toNat (IntKind.i64.wrap ((x0.size : Int) - 1)))) == 45) then ret (false : Bool) else J (.p0 x0 0)) else none) else none)) else none)))
def live : Nat → Live := fun i => match i with | 4 => [(0, none), (3, none)] | _ => []
def pats : List Pat := [.rd (.str)]
def res : RP := .one (.rd (.bool))
noncomputable abbrev E : Env := ⟨assoc Tab, conG [(81, spec_l1In.con)], 55⟩
set_option maxRecDepth 100000
theorem step_eq (I : Heads) (p : Pt) : enterC E live I (pid p) (bodyOf Tryz.f224) (stOf (live (pid p)) (pvs p) (phs p)) (doneK E Tryz.f224 res) = step (fun q => I (pid q) (pvs q) (phs q)) p := by
  cases p <;> kernel_rfl
theorem start_eq (I : Heads) (ls : List L) : runC E live I (bodyOf Tryz.f224) (initS pats ls) (doneK E Tryz.f224 res) = start (fun q => I (pid q) (pvs q) (phs q)) (ls.headD .hole).toStr := by kernel_rfl
theorem run_eq (n : Nat) (ls : List L) : runF E live Tryz.f224 res n (initS pats ls) = start (iter step n) (ls.headD .hole).toStr := runF_iter (id := pid) (vs := pvs) (hs := phs) (step := step) (start := fun J => start J (ls.headD .hole).toStr) step_eq (fun I => start_eq I ls) n
noncomputable def md (a0 : ByteArray) : Bool := (bif (!(spec_l1In.md (a0.size : Int) 1 8)) then (false : Bool) else (bif ((chAt a0 0) == 45) then (false : Bool) else (bif ((chAt a0 (Int.toNat (IntKind.i64.wrap ((a0.size : Int) - 1)))) == 45) then (false : Bool) else (loopM (S := Unit) (β := Bool) (fun (i4 : Nat) (s6 : Unit) => (bif (decide ((chAt a0 i4) < 97)) then (bif (decide ((chAt a0 i4) < 48)) then (bif ((chAt a0 i4) != 45) then (.inr (false : Bool)) else (.inl ())) else (bif (decide ((chAt a0 i4) > 57)) then (bif ((chAt a0 i4) != 45) then (.inr (false : Bool)) else (.inl ())) else (.inl ()))) else (bif (decide ((chAt a0 i4) > 122)) then (bif (decide ((chAt a0 i4) < 48)) then (bif ((chAt a0 i4) != 45) then (.inr (false : Bool)) else (.inl ())) else (bif (decide ((chAt a0 i4) > 57)) then (bif ((chAt a0 i4) != 45) then (.inr (false : Bool)) else (.inl ())) else (.inl ()))) else (.inl ())))) (fun (s6 : Unit) => (true : Bool)) a0.size 0 ()))))
def gd (a0 : ByteArray) : Prop := (a0.size ≤ (2 ^ 21))
def acc (ls : List L) : ByteArray := (ls.headD .hole).toStr
noncomputable def R : ByteArray → Option Bool := RR gd md
theorem R_eq {a0} (h : gd a0) : R a0 = some (md a0) := RR_eq (a := a0) h
noncomputable def con : Con := CN pats res acc R
theorem okF (a0 : ByteArray) (hg : gd a0) : ∃ n, start (iter step n) a0 = ret ((md a0) : Bool) := by
  unfold gd at hg
  have H0 := hg
  unfold start md
  try simp only [S0]
  refine ex_call_to (spec_l1In.md (a0.size : Int) 1 8) (spec_l1In.R_eq (a0 := (a0.size : Int)) (a1 := 1) (a2 := 8) trivial) ?_
  refine ex_bif ret (fun _ => ⟨0, rfl⟩) (fun c1 => ?_)
  have dc1 := c1
  try simp only [DC] at dc1
  have Dc1 := c1
  try simp [spec_l1In.md] at Dc1
  refine ex_yes (by
      have := H0
      refine decide_eq_true ?_
      try simp (disch := omega) only [LN, wi]
      first | omega | (simp; done) | (simp; omega)) ?_
  refine ex_bif ret (fun _ => ⟨0, rfl⟩) (fun c2 => ?_)
  have dc2 := c2
  try simp only [DC] at dc2
  refine ex_yes (by
      have := H0
      refine decide_eq_true ?_
      try simp (disch := omega) only [LN, wi]
      first | omega | (simp; done) | (simp; omega)) ?_
  refine ex_yes (by
      have := H0
      refine decide_eq_true ?_
      try simp (disch := omega) only [LN, wi]
      first | omega | (simp; done) | (simp; omega)) ?_
  refine ex_bif ret (fun _ => ⟨0, rfl⟩) (fun c3 => ?_)
  have dc3 := c3
  try simp only [DC] at dc3
  have Bh5 : a0.size ≤ maxLen := (by
      have := H0
      try simp only [maxLen] at *
      omega)
  refine ex_pt (p := Pt.p0 a0 0) (by first | rfl | (simp only [S0, MP]; done) | (simp only [MP]; rfl)) ?_
  refine loopM_ok (pt := fun (i4 : Nat) (s6 : Unit) => Pt.p0 a0 (i4 : Int)) (s := (() : Unit)) (out := ret) (fun _ _ => True) (fun J i4 s6 h5 hih5 => ?_) (fun s6 hih5 => ?_) trivial
  · simp only [step, S0]
    have bb_ := Bh5
    simp only [maxLen] at bb_
    have := H0
    refine Rnd.yes (by apply decide_eq_true; omega) ?_
    refine Rnd.yes zle_dec ?_
    refine Rnd.yes (lt_dec h5) ?_
    refine Rnd.bif (fun c7 => ?_) (fun c7 => ?_)
    · refine Rnd.yes zle_dec ?_
      refine Rnd.yes (lt_dec h5) ?_
      refine Rnd.bif (fun c8 => ?_) (fun c8 => ?_)
      · refine Rnd.yes zle_dec ?_
        refine Rnd.yes (lt_dec h5) ?_
        refine Rnd.bif (fun _ => Rnd.inr rfl) (fun c9 => ?_)
        refine Rnd.inl trivial ?_
        rw [wrap_succ h5 Bh5]
        all_goals first | rfl | (simp only [S0, MP]; first | done | rfl)
      · refine Rnd.yes zle_dec ?_
        refine Rnd.yes (lt_dec h5) ?_
        refine Rnd.bif (fun c10 => ?_) (fun c10 => ?_)
        · refine Rnd.yes zle_dec ?_
          refine Rnd.yes (lt_dec h5) ?_
          refine Rnd.bif (fun _ => Rnd.inr rfl) (fun c11 => ?_)
          refine Rnd.inl trivial ?_
          rw [wrap_succ h5 Bh5]
          all_goals first | rfl | (simp only [S0, MP]; first | done | rfl)
        · refine Rnd.inl trivial ?_
          rw [wrap_succ h5 Bh5]
          all_goals first | rfl | (simp only [S0, MP]; first | done | rfl)
    · refine Rnd.yes zle_dec ?_
      refine Rnd.yes (lt_dec h5) ?_
      refine Rnd.bif (fun c12 => ?_) (fun c12 => ?_)
      · refine Rnd.yes zle_dec ?_
        refine Rnd.yes (lt_dec h5) ?_
        refine Rnd.bif (fun c13 => ?_) (fun c13 => ?_)
        · refine Rnd.yes zle_dec ?_
          refine Rnd.yes (lt_dec h5) ?_
          refine Rnd.bif (fun _ => Rnd.inr rfl) (fun c14 => ?_)
          refine Rnd.inl trivial ?_
          rw [wrap_succ h5 Bh5]
          all_goals first | rfl | (simp only [S0, MP]; first | done | rfl)
        · refine Rnd.yes zle_dec ?_
          refine Rnd.yes (lt_dec h5) ?_
          refine Rnd.bif (fun c15 => ?_) (fun c15 => ?_)
          · refine Rnd.yes zle_dec ?_
            refine Rnd.yes (lt_dec h5) ?_
            refine Rnd.bif (fun _ => Rnd.inr rfl) (fun c16 => ?_)
            refine Rnd.inl trivial ?_
            rw [wrap_succ h5 Bh5]
            all_goals first | rfl | (simp only [S0, MP]; first | done | rfl)
          · refine Rnd.inl trivial ?_
            rw [wrap_succ h5 Bh5]
            all_goals first | rfl | (simp only [S0, MP]; first | done | rfl)
      · refine Rnd.inl trivial ?_
        rw [wrap_succ h5 Bh5]
        all_goals first | rfl | (simp only [S0, MP]; first | done | rfl)
  · simp only [step, S0]
    have := H0
    refine ex_no (by apply decide_eq_false; omega) ?_
    refine ⟨0, ?_⟩
    first | rfl | (simp only [S0, MP]; first | done | rfl)
theorem valid_ : Valid Tryz.prog Ev 224 con := VV (run := fun n x => start (iter step n) x) mix tab_ok (.cons spec_l1In.valid_ .nil) Tryz.func224 (by kernel_rfl) run_eq (fun _ a _ _ hg => okF a hg)
end spec_IsLabel
/-! spec.IsPath -/
namespace spec_IsPath
inductive Pt where
  | p0 (a : List (List L)) (b : Int)
def pid : Pt → Nat
  | .p0 .. => 2
def pvs : Pt → List V
  | .p0 a b => [.sl none 9 a, .int .i64 b]
def phs : Pt → List Root
  | .p0 a b => []
noncomputable def step (J : Pt → Ans) : Pt → Ans
  | .p0 a b => (bif (decide (b < (a.length : Int))) then (bif (decide ((0 : Int) ≤ b)) then (bif (decide (b < (a.length : Int))) then (call (spec_IsLabel.R (sAt a (Int.toNat b))) fun v1 => (bif (!v1) then ret (false : Bool) else J (.p0 a (IntKind.i64.wrap (b + 1))))) else none) else none) else (call (spec_l1In.R ((a.length : Int), 1, 4)) fun v2 => ret (v2 : Bool)))
noncomputable def start (J : Pt → Ans) (x0 : List (List L)) : Ans := J (.p0 x0 0)
def live : Nat → Live := fun i => match i with | 2 => [(0, none), (3, none)] | _ => []
def pats : List Pat := [.rd (.sl 9)]
def res : RP := .one (.rd (.bool))
noncomputable abbrev E : Env := ⟨assoc Tab, conG [(224, spec_IsLabel.con), (81, spec_l1In.con)], 19⟩
set_option maxRecDepth 100000
theorem step_eq (I : Heads) (p : Pt) : enterC E live I (pid p) (bodyOf Tryz.f249) (stOf (live (pid p)) (pvs p) (phs p)) (doneK E Tryz.f249 res) = step (fun q => I (pid q) (pvs q) (phs q)) p := by
  cases p <;> kernel_rfl
theorem start_eq (I : Heads) (ls : List L) : runC E live I (bodyOf Tryz.f249) (initS pats ls) (doneK E Tryz.f249 res) = start (fun q => I (pid q) (pvs q) (phs q)) (ls.headD .hole).toSl := by kernel_rfl
theorem run_eq (n : Nat) (ls : List L) : runF E live Tryz.f249 res n (initS pats ls) = start (iter step n) (ls.headD .hole).toSl := runF_iter (id := pid) (vs := pvs) (hs := phs) (step := step) (start := fun J => start J (ls.headD .hole).toSl) step_eq (fun I => start_eq I ls) n
noncomputable def md (a0 : List ByteArray) : Bool := (eachM (S := Unit) (β := Bool) (fun (y1 : ByteArray) (s3 : Unit) => (bif (!(spec_IsLabel.md y1)) then (.inr (false : Bool)) else (.inl ()))) (fun (s3 : Unit) => ((spec_l1In.md (a0.length : Int) 1 4) : Bool)) a0 ())
def gd (a0 : List ByteArray) : Prop := (SmL (2 ^ 21) (fun y : ByteArray => y.size ≤ (2 ^ 21)) a0)
def acc (ls : List L) : List (List L) := (ls.headD .hole).toSl
noncomputable def R : (List (List L)) → Option Bool := RR gd md
theorem R_eq {a0} (h : gd a0) : R (a0.map sRow) = some (md a0) := RR_eq (a := a0) h
noncomputable def con : Con := CN pats res acc R
theorem okF (a0 : List ByteArray) (hg : gd a0) : ∃ n, start (iter step n) (a0.map sRow) = ret ((md a0) : Bool) := by
  unfold gd at hg
  have H0 := hg
  unfold start md
  try simp only [S0]
  have Bh2 : a0.length ≤ maxLen := (by
      have := (H0).1
      try simp only [maxLen] at *
      omega)
  refine ex_eq (out := ret) (loopM_eachM (z := ⟨#[]⟩)) ?_
  refine ex_pt (p := Pt.p0 (a0.map sRow) 0) (by first | rfl | (simp only [S0, MP]; done) | (simp only [MP]; rfl)) ?_
  refine loopM_ok (pt := fun (i1 : Nat) (s3 : Unit) => Pt.p0 (a0.map sRow) (i1 : Int)) (s := (() : Unit)) (out := ret) (fun _ _ => True) (fun J i1 s3 h2 hih2 => ?_) (fun s3 hih2 => ?_) trivial
  · simp only [step, S0]
    have bb_ := Bh2
    simp only [maxLen] at bb_
    have := (H0).1
    refine Rnd.yes (by apply decide_eq_true; omega) ?_
    refine Rnd.yes zle_dec ?_
    refine Rnd.yes (lt_dec h2) ?_
    refine Rnd.call_to (spec_IsLabel.md (a0.getD i1 ⟨#[]⟩)) (spec_IsLabel.R_eq (a0 := (a0.getD i1 ⟨#[]⟩)) (SmL.getD (z := ⟨#[]⟩) H0 h2)) ?_
    refine Rnd.bif (fun _ => Rnd.inr rfl) (fun c4 => ?_)
    refine Rnd.inl trivial ?_
    rw [wrap_succ h2 Bh2]
    all_goals first | rfl | (simp only [S0, MP]; first | done | rfl)
  · simp only [step, S0]
    have := (H0).1
    refine ex_no (by apply decide_eq_false; omega) ?_
    refine ex_call_to (spec_l1In.md (a0.length : Int) 1 4) (spec_l1In.R_eq (a0 := (a0.length : Int)) (a1 := 1) (a2 := 4) trivial) ?_
    refine ⟨0, ?_⟩
    first | rfl | (simp only [S0, MP]; first | done | rfl)
theorem valid_ : Valid Tryz.prog Ev 249 con := VV (run := fun n x => start (iter step n) x) mix tab_ok (.cons spec_IsLabel.valid_ (.cons spec_l1In.valid_ .nil)) Tryz.func249 (by kernel_rfl) run_eq (fun _ a _ _ hg => okF a hg)
end spec_IsPath
/-! spec.IsEntry -/
namespace spec_IsEntry
noncomputable def F (x0 : REntry) : Ans := (bif (x0.fKind == 1) then (call (spec_IsLabel.R x0.fLabel) fun v1 => (bif v1 then (call (spec_l1In.R (x0.fValue, 0, 999999)) fun v2 => (bif v2 then ret (((x0.fPath.length : Int) == 0) : Bool) else ret (false : Bool))) else ret (false : Bool))) else (bif (x0.fKind == 2) then (call (spec_IsLabel.R x0.fLabel) fun v3 => (bif v3 then (call (spec_l1In.R (x0.fValue, 0, 2147483646)) fun v4 => (bif v4 then ret (((x0.fPath.length : Int) == 0) : Bool) else ret (false : Bool))) else ret (false : Bool))) else (bif (x0.fKind == 3) then (call (spec_IsLabel.R x0.fLabel) fun v5 => (bif v5 then (call (spec_l1In.R (x0.fValue, 0, 2147483646)) fun v6 => (bif v6 then (call (spec_IsPath.R x0.fPath) fun v7 => ret (v7 : Bool)) else ret (false : Bool))) else ret (false : Bool))) else ret (false : Bool))))
def pats : List Pat := [.agg [.str, .int .i64, .int .i64, .sl 9]]
def res : RP := .one (.rd (.bool))
noncomputable abbrev E : Env := ⟨assoc Tab, conG [(224, spec_IsLabel.con), (81, spec_l1In.con), (249, spec_IsPath.con)], 52⟩
set_option maxRecDepth 100000
theorem run_eq (n : Nat) (ls : List L) : runF E (fun _ => []) Tryz.f222 res n (initS pats ls) = F (REntry.dec ls) := by kernel_rfl
noncomputable def md (a0 : MEntry) : Bool := (bif (a0.fKind == 1) then (bif (spec_IsLabel.md a0.fLabel) then (bif (spec_l1In.md a0.fValue 0 999999) then (((a0.fPath.length : Int) == 0) : Bool) else (false : Bool)) else (false : Bool)) else (bif (a0.fKind == 2) then (bif (spec_IsLabel.md a0.fLabel) then (bif (spec_l1In.md a0.fValue 0 2147483646) then (((a0.fPath.length : Int) == 0) : Bool) else (false : Bool)) else (false : Bool)) else (bif (a0.fKind == 3) then (bif (spec_IsLabel.md a0.fLabel) then (bif (spec_l1In.md a0.fValue 0 2147483646) then ((spec_IsPath.md a0.fPath) : Bool) else (false : Bool)) else (false : Bool)) else (false : Bool))))
def gd (a0 : MEntry) : Prop := (MEntry.Sm (2 ^ 21) a0)
def acc (ls : List L) : REntry := (REntry.dec ls)
noncomputable def R : REntry → Option Bool := RR gd md
theorem R_eq {a0} (h : gd a0) : R (MEntry.r a0) = some (md a0) := RR_eq (a := a0) h
noncomputable def con : Con := CN pats res acc R
theorem okF (a0 : MEntry) (hg : gd a0) : F (MEntry.r a0) = ret ((md a0) : Bool) := by
  unfold gd at hg
  have H0 := hg
  unfold F md
  try simp only [S0, MEntry.rs]
  refine bif_out ret (fun c1 => ?_) (fun c1 => ?_)
  · refine call_to (spec_IsLabel.md a0.fLabel) (spec_IsLabel.R_eq (a0 := a0.fLabel) H0.1) ?_
    refine bif_out ret (fun c2 => ?_) (fun _ => rfl)
    refine call_to (spec_l1In.md a0.fValue 0 999999) (spec_l1In.R_eq (a0 := a0.fValue) (a1 := 0) (a2 := 999999) trivial) ?_
    refine bif_out ret (fun c3 => ?_) (fun _ => rfl)
    first | rfl | (simp only [S0, MEntry.rs, MP]; first | done | rfl)
  · refine bif_out ret (fun c4 => ?_) (fun c4 => ?_)
    · refine call_to (spec_IsLabel.md a0.fLabel) (spec_IsLabel.R_eq (a0 := a0.fLabel) H0.1) ?_
      refine bif_out ret (fun c5 => ?_) (fun _ => rfl)
      refine call_to (spec_l1In.md a0.fValue 0 2147483646) (spec_l1In.R_eq (a0 := a0.fValue) (a1 := 0) (a2 := 2147483646) trivial) ?_
      refine bif_out ret (fun c6 => ?_) (fun _ => rfl)
      first | rfl | (simp only [S0, MEntry.rs, MP]; first | done | rfl)
    · refine bif_out ret (fun c7 => ?_) (fun _ => rfl)
      refine call_to (spec_IsLabel.md a0.fLabel) (spec_IsLabel.R_eq (a0 := a0.fLabel) H0.1) ?_
      refine bif_out ret (fun c8 => ?_) (fun _ => rfl)
      refine call_to (spec_l1In.md a0.fValue 0 2147483646) (spec_l1In.R_eq (a0 := a0.fValue) (a1 := 0) (a2 := 2147483646) trivial) ?_
      refine bif_out ret (fun c9 => ?_) (fun _ => rfl)
      refine call_to (spec_IsPath.md a0.fPath) (spec_IsPath.R_eq (a0 := a0.fPath) H0.2) ?_
      first | rfl | (simp only [S0, MEntry.rs, MP]; first | done | rfl)
theorem valid_ : Valid Tryz.prog Ev 222 con := VV (run := fun _ x => F x) mix tab_ok (.cons spec_IsLabel.valid_ (.cons spec_l1In.valid_ (.cons spec_IsPath.valid_ .nil))) Tryz.func222 (by kernel_rfl) run_eq (fun _ a _ _ hg => ⟨0, okF a hg⟩)
end spec_IsEntry
/-! spec.l10Root -/
namespace spec_l10Root
noncomputable def F (x0 : Int) (x1 : Int) : Ans := (call (spec_Hash.R [[L.int 231], [L.int x0], [L.int x1]]) fun v1 => ret (v1 : Int))
def pats : List Pat := [.rd (.int .i64), .rd (.int .i64)]
def res : RP := .one (.rd (.int .i64))
noncomputable abbrev E : Env := ⟨assoc Tab, conG [(186, spec_Hash.con)], 9⟩
set_option maxRecDepth 100000
theorem run_eq (n : Nat) (ls : List L) : runF E (fun _ => []) Tryz.f223 res n (initS pats ls) = F (ls.headD .hole).toInt ((dropT 1 ls).headD .hole).toInt := by kernel_rfl
noncomputable def md (a0 : Int) (a1 : Int) : Int := ((spec_Hash.md [231, a0, a1]) : Int)
def gd (a0 : Int) (a1 : Int) : Prop := True
def acc (ls : List L) : Int × Int := ((ls.headD .hole).toInt, ((dropT 1 ls).headD .hole).toInt)
noncomputable def R : (Int × Int) → Option Int := RR (p2 gd) (u2 md)
theorem R_eq {a0} {a1} (h : gd a0 a1) : R (a0, a1) = some (md a0 a1) := RR_eq (a := (a0, a1)) h
noncomputable def con : Con := CN pats res acc R
theorem okF (a0 : Int) (a1 : Int) (hg : gd a0 a1) : F a0 a1 = ret ((md a0 a1) : Int) := by
  unfold F md
  try simp only [S0]
  refine call_to (spec_Hash.md [231, a0, a1]) ?_ ?_
  · have R_ := spec_Hash.R_eq (a0 := [231, a0, a1]) ⟨(by
        try simp (disch := omega) only [LN, wi]
        first | omega | (simp; done) | (simp; omega)), fun _ _ => trivial⟩
    first | exact R_ | (simp only [MP, S0] at R_ ⊢; first | exact R_ | (rw [← R_]; rfl))
  first | rfl | (simp only [S0, MP]; first | done | rfl)
theorem valid_ : Valid Tryz.prog Ev 223 con := VV (run := fun _ x => F x.1 x.2) mix tab_ok (.cons spec_Hash.valid_ .nil) Tryz.func223 (by kernel_rfl) run_eq (fun _ a _ _ hg => ⟨0, okF a.1 a.2 hg⟩)
end spec_l10Root
/-! spec.CheckEntry -/
namespace spec_CheckEntry
noncomputable def F (x0 : Int) (x1 : Int) (x2 : REntry) (x3 : RProof) : Ans := (call (spec_LeafOf.R x2) fun v1 => (call (spec_TopFrom.R (v1, x3.fAt, x1, x3.fPath)) fun v2 => (call (spec_IsEntry.R x2) fun v3 => (bif v3 then (bif v2.2 then (call (spec_l10Root.R (x1, v2.1)) fun v4 => ret ((v4 == x0) : Bool)) else ret (false : Bool)) else ret (false : Bool)))))
def pats : List Pat := [.rd (.int .i64), .rd (.int .i64), .agg [.str, .int .i64, .int .i64, .sl 9], .agg [.int .i64, .sl 3]]
def res : RP := .one (.rd (.bool))
noncomputable abbrev E : Env := ⟨assoc Tab, conG [(221, spec_LeafOf.con), (220, spec_TopFrom.con), (222, spec_IsEntry.con), (223, spec_l10Root.con)], 34⟩
set_option maxRecDepth 100000
theorem run_eq (n : Nat) (ls : List L) : runF E (fun _ => []) Tryz.f176 res n (initS pats ls) = F (ls.headD .hole).toInt ((dropT 1 ls).headD .hole).toInt (REntry.dec (dropT 2 ls)) (RProof.dec (dropT 6 ls)) := by kernel_rfl
noncomputable def md (a0 : Int) (a1 : Int) (a2 : MEntry) (a3 : MProof) : Bool := (bif (spec_IsEntry.md a2) then (bif (spec_TopFrom.md (spec_LeafOf.md a2) a3.fAt a1 a3.fPath).2 then (((spec_l10Root.md a1 ((spec_TopFrom.md (spec_LeafOf.md a2) a3.fAt a1 a3.fPath).1)) == a0) : Bool) else (false : Bool)) else (false : Bool))
def gd (a0 : Int) (a1 : Int) (a2 : MEntry) (a3 : MProof) : Prop := (MEntry.Sm (2 ^ 21) a2) ∧ (MProof.Sm (2 ^ 21) a3)
def acc (ls : List L) : Int × Int × REntry × RProof := ((ls.headD .hole).toInt, ((dropT 1 ls).headD .hole).toInt, (REntry.dec (dropT 2 ls)), (RProof.dec (dropT 6 ls)))
noncomputable def R : (Int × Int × REntry × RProof) → Option Bool := RR (p4 gd) (u4 md)
theorem R_eq {a0} {a1} {a2} {a3} (h : gd a0 a1 a2 a3) : R (a0, a1, (MEntry.r a2), (MProof.r a3)) = some (md a0 a1 a2 a3) := RR_eq (a := (a0, a1, a2, a3)) h
noncomputable def con : Con := CN pats res acc R
theorem okF (a0 : Int) (a1 : Int) (a2 : MEntry) (a3 : MProof) (hg : gd a0 a1 a2 a3) : F a0 a1 (MEntry.r a2) (MProof.r a3) = ret ((md a0 a1 a2 a3) : Bool) := by
  unfold gd at hg
  obtain ⟨H2, H3⟩ := hg
  unfold F md
  try simp only [S0, MEntry.rs, MProof.rs]
  refine call_to (spec_LeafOf.md a2) (spec_LeafOf.R_eq (a0 := a2) H2) ?_
  refine call_to ((spec_TopFrom.md (spec_LeafOf.md a2) a3.fAt a1 a3.fPath).1, (spec_TopFrom.md (spec_LeafOf.md a2) a3.fAt a1 a3.fPath).2) (spec_TopFrom.R_eq (a0 := (spec_LeafOf.md a2)) (a1 := a3.fAt) (a2 := a1) (a3 := a3.fPath) (H3.mono (by decide) (fun x hx => trivial))) ?_
  refine call_to (spec_IsEntry.md a2) (spec_IsEntry.R_eq (a0 := a2) H2) ?_
  refine bif_out ret (fun c1 => ?_) (fun _ => rfl)
  refine bif_out ret (fun c2 => ?_) (fun _ => rfl)
  refine call_to (spec_l10Root.md a1 ((spec_TopFrom.md (spec_LeafOf.md a2) a3.fAt a1 a3.fPath).1)) (spec_l10Root.R_eq (a0 := a1) (a1 := (spec_TopFrom.md (spec_LeafOf.md a2) a3.fAt a1 a3.fPath).1) trivial) ?_
  first | rfl | (simp only [S0, MEntry.rs, MProof.rs, MP]; first | done | rfl)
theorem valid_ : Valid Tryz.prog Ev 176 con := VV (run := fun _ x => F x.1 x.2.1 x.2.2.1 x.2.2.2) mix tab_ok (.cons spec_LeafOf.valid_ (.cons spec_TopFrom.valid_ (.cons spec_IsEntry.valid_ (.cons spec_l10Root.valid_ .nil)))) Tryz.func176 (by kernel_rfl) run_eq (fun _ a _ _ hg => ⟨0, okF a.1 a.2.1 a.2.2.1 a.2.2.2 hg⟩)
end spec_CheckEntry
/-! spec.SamePath -/
namespace spec_SamePath
inductive Pt where
  | p0 (a : List (List L)) (b : List (List L)) (c : Int)
def pid : Pt → Nat
  | .p0 .. => 4
def pvs : Pt → List V
  | .p0 a b c => [.sl none 9 a, .sl none 9 b, .int .i64 c]
def phs : Pt → List Root
  | .p0 a b c => []
noncomputable def step (J : Pt → Ans) : Pt → Ans
  | .p0 a b c => (bif (decide (c < (a.length : Int))) then (bif (decide ((0 : Int) ≤ c)) then (bif (decide (c < (a.length : Int))) then (bif (decide ((0 : Int) ≤ c)) then (bif (decide (c < (b.length : Int))) then (bif (!((sAt a (Int.toNat c)) == (sAt b (Int.toNat c)))) then ret (false : Bool) else J (.p0 a b (IntKind.i64.wrap (c + 1)))) else none) else none) else none) else none) else ret (true : Bool))
noncomputable def start (J : Pt → Ans) (x0 : List (List L)) (x1 : List (List L)) : Ans := (bif ((x0.length : Int) != (x1.length : Int)) then ret (false : Bool) else J (.p0 x0 x1 0))
def live : Nat → Live := fun i => match i with | 4 => [(0, none), (1, none), (5, none)] | _ => []
def pats : List Pat := [.rd (.sl 9), .rd (.sl 9)]
def res : RP := .one (.rd (.bool))
noncomputable abbrev E : Env := ⟨assoc Tab, conG [], 26⟩
set_option maxRecDepth 100000
theorem step_eq (I : Heads) (p : Pt) : enterC E live I (pid p) (bodyOf Tryz.f153) (stOf (live (pid p)) (pvs p) (phs p)) (doneK E Tryz.f153 res) = step (fun q => I (pid q) (pvs q) (phs q)) p := by
  cases p <;> kernel_rfl
theorem start_eq (I : Heads) (ls : List L) : runC E live I (bodyOf Tryz.f153) (initS pats ls) (doneK E Tryz.f153 res) = start (fun q => I (pid q) (pvs q) (phs q)) (ls.headD .hole).toSl ((dropT 1 ls).headD .hole).toSl := by kernel_rfl
theorem run_eq (n : Nat) (ls : List L) : runF E live Tryz.f153 res n (initS pats ls) = start (iter step n) (ls.headD .hole).toSl ((dropT 1 ls).headD .hole).toSl := runF_iter (id := pid) (vs := pvs) (hs := phs) (step := step) (start := fun J => start J (ls.headD .hole).toSl ((dropT 1 ls).headD .hole).toSl) step_eq (fun I => start_eq I ls) n
noncomputable def md (a0 : List ByteArray) (a1 : List ByteArray) : Bool := (bif ((a0.length : Int) != (a1.length : Int)) then (false : Bool) else (loopM (S := Unit) (β := Bool) (fun (i2 : Nat) (s4 : Unit) => (bif (!((a0.getD i2 ⟨#[]⟩) == (a1.getD i2 ⟨#[]⟩))) then (.inr (false : Bool)) else (.inl ()))) (fun (s4 : Unit) => (true : Bool)) a0.length 0 ()))
def gd (a0 : List ByteArray) (a1 : List ByteArray) : Prop := (SmL (2 ^ 21) (fun y : ByteArray => y.size ≤ (2 ^ 21)) a0) ∧ (SmL (2 ^ 21) (fun y : ByteArray => y.size ≤ (2 ^ 21)) a1)
def acc (ls : List L) : List (List L) × List (List L) := ((ls.headD .hole).toSl, ((dropT 1 ls).headD .hole).toSl)
noncomputable def R : (List (List L) × List (List L)) → Option Bool := RR (p2 gd) (u2 md)
theorem R_eq {a0} {a1} (h : gd a0 a1) : R ((a0.map sRow), (a1.map sRow)) = some (md a0 a1) := RR_eq (a := (a0, a1)) h
noncomputable def con : Con := CN pats res acc R
theorem okF (a0 : List ByteArray) (a1 : List ByteArray) (hg : gd a0 a1) : ∃ n, start (iter step n) (a0.map sRow) (a1.map sRow) = ret ((md a0 a1) : Bool) := by
  unfold gd at hg
  obtain ⟨H0, H1⟩ := hg
  unfold start md
  try simp only [S0]
  refine ex_bif ret (fun _ => ⟨0, rfl⟩) (fun c1 => ?_)
  have dc1 := c1
  try simp only [DC] at dc1
  have Bh3 : a0.length ≤ maxLen := (by
      have := (H0).1
      try simp only [maxLen] at *
      omega)
  refine ex_pt (p := Pt.p0 (a0.map sRow) (a1.map sRow) 0) (by first | rfl | (simp only [S0, MP]; done) | (simp only [MP]; rfl)) ?_
  refine loopM_ok (pt := fun (i2 : Nat) (s4 : Unit) => Pt.p0 (a0.map sRow) (a1.map sRow) (i2 : Int)) (s := (() : Unit)) (out := ret) (fun _ _ => True) (fun J i2 s4 h3 hih3 => ?_) (fun s4 hih3 => ?_) trivial
  · simp only [step, S0]
    have bb_ := Bh3
    simp only [maxLen] at bb_
    have := (H0).1
    refine Rnd.yes (by apply decide_eq_true; omega) ?_
    refine Rnd.yes zle_dec ?_
    refine Rnd.yes (lt_dec h3) ?_
    refine Rnd.yes zle_dec ?_
    refine Rnd.yes (by
        have := (H1).1
        refine decide_eq_true ?_
        try simp (disch := omega) only [LN, wi]
        first | omega | (simp; done) | (simp; omega)) ?_
    refine Rnd.bif (fun _ => Rnd.inr rfl) (fun c5 => ?_)
    refine Rnd.inl trivial ?_
    rw [wrap_succ h3 Bh3]
    all_goals first | rfl | (simp only [S0, MP]; first | done | rfl)
  · simp only [step, S0]
    have := (H0).1
    refine ex_no (by apply decide_eq_false; omega) ?_
    refine ⟨0, ?_⟩
    first | rfl | (simp only [S0, MP]; first | done | rfl)
theorem valid_ : Valid Tryz.prog Ev 153 con := VV (run := fun n x => start (iter step n) x.1 x.2) mix tab_ok .nil Tryz.func153 (by kernel_rfl) run_eq (fun _ a _ _ hg => okF a.1 a.2 hg)
theorem md_eq (a0 : List ByteArray) (a1 : List ByteArray) : md a0 a1 = eqB a0 a1 := by
  unfold md
  refine loop_eqB (⟨#[]⟩) (fun i s h h2 => ?_) (fun s => rfl)
  simp only [bne, int_beq, bool_beq, ba_beq]
  cases eqB _ _ <;> rfl
end spec_SamePath
/-! spec.EqualEntries -/
namespace spec_EqualEntries
noncomputable def F (x0 : REntry) (x1 : REntry) : Ans := (bif (x0.fLabel == x1.fLabel) then (bif (x0.fKind == x1.fKind) then (bif (x0.fValue == x1.fValue) then (call (spec_SamePath.R (x0.fPath, x1.fPath)) fun v1 => ret (v1 : Bool)) else ret (false : Bool)) else ret (false : Bool)) else ret (false : Bool))
def pats : List Pat := [.agg [.str, .int .i64, .int .i64, .sl 9], .agg [.str, .int .i64, .int .i64, .sl 9]]
def res : RP := .one (.rd (.bool))
noncomputable abbrev E : Env := ⟨assoc Tab, conG [(153, spec_SamePath.con)], 31⟩
set_option maxRecDepth 100000
theorem run_eq (n : Nat) (ls : List L) : runF E (fun _ => []) Tryz.f107 res n (initS pats ls) = F (REntry.dec ls) (REntry.dec (dropT 4 ls)) := by kernel_rfl
noncomputable def md (a0 : MEntry) (a1 : MEntry) : Bool := (bif (a0.fLabel == a1.fLabel) then (bif (a0.fKind == a1.fKind) then (bif (a0.fValue == a1.fValue) then ((spec_SamePath.md a0.fPath a1.fPath) : Bool) else (false : Bool)) else (false : Bool)) else (false : Bool))
def gd (a0 : MEntry) (a1 : MEntry) : Prop := (MEntry.Sm (2 ^ 21) a0) ∧ (MEntry.Sm (2 ^ 21) a1)
def acc (ls : List L) : REntry × REntry := ((REntry.dec ls), (REntry.dec (dropT 4 ls)))
noncomputable def R : (REntry × REntry) → Option Bool := RR (p2 gd) (u2 md)
theorem R_eq {a0} {a1} (h : gd a0 a1) : R ((MEntry.r a0), (MEntry.r a1)) = some (md a0 a1) := RR_eq (a := (a0, a1)) h
noncomputable def con : Con := CN pats res acc R
theorem okF (a0 : MEntry) (a1 : MEntry) (hg : gd a0 a1) : F (MEntry.r a0) (MEntry.r a1) = ret ((md a0 a1) : Bool) := by
  unfold gd at hg
  obtain ⟨H0, H1⟩ := hg
  unfold F md
  try simp only [S0, MEntry.rs]
  refine bif_out ret (fun c1 => ?_) (fun _ => rfl)
  refine bif_out ret (fun c2 => ?_) (fun _ => rfl)
  refine bif_out ret (fun c3 => ?_) (fun _ => rfl)
  refine call_to (spec_SamePath.md a0.fPath a1.fPath) (spec_SamePath.R_eq (a0 := a0.fPath) (a1 := a1.fPath) ⟨H0.2, H1.2⟩) ?_
  first | rfl | (simp only [S0, MEntry.rs, MP]; first | done | rfl)
theorem valid_ : Valid Tryz.prog Ev 107 con := VV (run := fun _ x => F x.1 x.2) mix tab_ok (.cons spec_SamePath.valid_ .nil) Tryz.func107 (by kernel_rfl) run_eq (fun _ a _ _ hg => ⟨0, okF a.1 a.2 hg⟩)
theorem md_eq (a0 : MEntry) (a1 : MEntry) : md a0 a1 = eqB a0 a1 := by
  unfold md
  cases a0; cases a1
  rw [Bool.eq_iff_iff]
  simp [eqB_iff, ba_beq, MEntry.mk.injEq, spec_SamePath.md_eq]
  try (constructor <;> (intro h; simp_all))
end spec_EqualEntries
/-! spec.EqualProofs -/
namespace spec_EqualProofs
noncomputable def F (x0 : RProof) (x1 : RProof) : Ans := (bif (x0.fAt == x1.fAt) then (call (spec_EqualInts.R (x0.fPath, x1.fPath)) fun v1 => ret (v1 : Bool)) else ret (false : Bool))
def pats : List Pat := [.agg [.int .i64, .sl 3], .agg [.int .i64, .sl 3]]
def res : RP := .one (.rd (.bool))
noncomputable abbrev E : Env := ⟨assoc Tab, conG [(108, spec_EqualInts.con)], 17⟩
set_option maxRecDepth 100000
theorem run_eq (n : Nat) (ls : List L) : runF E (fun _ => []) Tryz.f154 res n (initS pats ls) = F (RProof.dec ls) (RProof.dec (dropT 2 ls)) := by kernel_rfl
noncomputable def md (a0 : MProof) (a1 : MProof) : Bool := (bif (a0.fAt == a1.fAt) then ((spec_EqualInts.md a0.fPath a1.fPath) : Bool) else (false : Bool))
def gd (a0 : MProof) (a1 : MProof) : Prop := (MProof.Sm (2 ^ 21) a0) ∧ (MProof.Sm (2 ^ 21) a1)
def acc (ls : List L) : RProof × RProof := ((RProof.dec ls), (RProof.dec (dropT 2 ls)))
noncomputable def R : (RProof × RProof) → Option Bool := RR (p2 gd) (u2 md)
theorem R_eq {a0} {a1} (h : gd a0 a1) : R ((MProof.r a0), (MProof.r a1)) = some (md a0 a1) := RR_eq (a := (a0, a1)) h
noncomputable def con : Con := CN pats res acc R
theorem okF (a0 : MProof) (a1 : MProof) (hg : gd a0 a1) : F (MProof.r a0) (MProof.r a1) = ret ((md a0 a1) : Bool) := by
  unfold gd at hg
  obtain ⟨H0, H1⟩ := hg
  unfold F md
  try simp only [S0, MProof.rs]
  refine bif_out ret (fun c1 => ?_) (fun _ => rfl)
  refine call_to (spec_EqualInts.md a0.fPath a1.fPath) (spec_EqualInts.R_eq (a0 := a0.fPath) (a1 := a1.fPath) ⟨(H0.mono (by decide) (fun x hx => trivial)), (H1.mono (by decide) (fun x hx => trivial))⟩) ?_
  first | rfl | (simp only [S0, MProof.rs, MP]; first | done | rfl)
theorem valid_ : Valid Tryz.prog Ev 154 con := VV (run := fun _ x => F x.1 x.2) mix tab_ok (.cons spec_EqualInts.valid_ .nil) Tryz.func154 (by kernel_rfl) run_eq (fun _ a _ _ hg => ⟨0, okF a.1 a.2 hg⟩)
theorem md_eq (a0 : MProof) (a1 : MProof) : md a0 a1 = eqB a0 a1 := by
  unfold md
  cases a0; cases a1
  rw [Bool.eq_iff_iff]
  simp [eqB_iff, ba_beq, MProof.mk.injEq, spec_EqualInts.md_eq]
  try (constructor <;> (intro h; simp_all))
end spec_EqualProofs
/-! spec.EqualGaps -/
namespace spec_EqualGaps
noncomputable def F (x0 : RGap) (x1 : RGap) : Ans := (bif (x0.fAt == x1.fAt) then (call (spec_EqualEntries.R (x0.fBefore, x1.fBefore)) fun v1 => (bif v1 then (call (spec_EqualEntries.R (x0.fAfter, x1.fAfter)) fun v2 => (bif v2 then (call (spec_EqualProofs.R (x0.fLeft, x1.fLeft)) fun v3 => (bif v3 then (call (spec_EqualProofs.R (x0.fRight, x1.fRight)) fun v4 => ret (v4 : Bool)) else ret (false : Bool))) else ret (false : Bool))) else ret (false : Bool))) else ret (false : Bool))
def pats : List Pat := [.agg [.int .i64, .str, .int .i64, .int .i64, .sl 9, .str, .int .i64, .int .i64, .sl 9, .int .i64, .sl 3, .int .i64, .sl 3], .agg [.int .i64, .str, .int .i64, .int .i64, .sl 9, .str, .int .i64, .int .i64, .sl 9, .int .i64, .sl 3, .int .i64, .sl 3]]
def res : RP := .one (.rd (.bool))
noncomputable abbrev E : Env := ⟨assoc Tab, conG [(107, spec_EqualEntries.con), (154, spec_EqualProofs.con)], 38⟩
set_option maxRecDepth 100000
theorem run_eq (n : Nat) (ls : List L) : runF E (fun _ => []) Tryz.f155 res n (initS pats ls) = F (RGap.dec ls) (RGap.dec (dropT 13 ls)) := by kernel_rfl
noncomputable def md (a0 : MGap) (a1 : MGap) : Bool := (bif (a0.fAt == a1.fAt) then (bif (spec_EqualEntries.md a0.fBefore a1.fBefore) then (bif (spec_EqualEntries.md a0.fAfter a1.fAfter) then (bif (spec_EqualProofs.md a0.fLeft a1.fLeft) then ((spec_EqualProofs.md a0.fRight a1.fRight) : Bool) else (false : Bool)) else (false : Bool)) else (false : Bool)) else (false : Bool))
def gd (a0 : MGap) (a1 : MGap) : Prop := (MGap.Sm (2 ^ 21) a0) ∧ (MGap.Sm (2 ^ 21) a1)
def acc (ls : List L) : RGap × RGap := ((RGap.dec ls), (RGap.dec (dropT 13 ls)))
noncomputable def R : (RGap × RGap) → Option Bool := RR (p2 gd) (u2 md)
theorem R_eq {a0} {a1} (h : gd a0 a1) : R ((MGap.r a0), (MGap.r a1)) = some (md a0 a1) := RR_eq (a := (a0, a1)) h
noncomputable def con : Con := CN pats res acc R
theorem okF (a0 : MGap) (a1 : MGap) (hg : gd a0 a1) : F (MGap.r a0) (MGap.r a1) = ret ((md a0 a1) : Bool) := by
  unfold gd at hg
  obtain ⟨H0, H1⟩ := hg
  unfold F md
  try simp only [S0, MProof.rs, MGap.rs]
  refine bif_out ret (fun c1 => ?_) (fun _ => rfl)
  refine call_to (spec_EqualEntries.md a0.fBefore a1.fBefore) (spec_EqualEntries.R_eq (a0 := a0.fBefore) (a1 := a1.fBefore) ⟨H0.1, H1.1⟩) ?_
  refine bif_out ret (fun c2 => ?_) (fun _ => rfl)
  refine call_to (spec_EqualEntries.md a0.fAfter a1.fAfter) (spec_EqualEntries.R_eq (a0 := a0.fAfter) (a1 := a1.fAfter) ⟨H0.2.1, H1.2.1⟩) ?_
  refine bif_out ret (fun c3 => ?_) (fun _ => rfl)
  refine call_to (spec_EqualProofs.md a0.fLeft a1.fLeft) (spec_EqualProofs.R_eq (a0 := a0.fLeft) (a1 := a1.fLeft) ⟨H0.2.2.1, H1.2.2.1⟩) ?_
  refine bif_out ret (fun c4 => ?_) (fun _ => rfl)
  refine call_to (spec_EqualProofs.md a0.fRight a1.fRight) (spec_EqualProofs.R_eq (a0 := a0.fRight) (a1 := a1.fRight) ⟨H0.2.2.2, H1.2.2.2⟩) ?_
  first | rfl | (simp only [S0, MProof.rs, MGap.rs, MP]; first | done | rfl)
theorem valid_ : Valid Tryz.prog Ev 155 con := VV (run := fun _ x => F x.1 x.2) mix tab_ok (.cons spec_EqualEntries.valid_ (.cons spec_EqualProofs.valid_ .nil)) Tryz.func155 (by kernel_rfl) run_eq (fun _ a _ _ hg => ⟨0, okF a.1 a.2 hg⟩)
theorem md_eq (a0 : MGap) (a1 : MGap) : md a0 a1 = eqB a0 a1 := by
  unfold md
  cases a0; cases a1
  rw [Bool.eq_iff_iff]
  simp [eqB_iff, ba_beq, MGap.mk.injEq, spec_EqualEntries.md_eq, spec_EqualProofs.md_eq]
  try (constructor <;> (intro h; simp_all))
end spec_EqualGaps
/-! spec.LeavesOf -/
namespace spec_LeavesOf
inductive Pt where
  | p0 (a : List (List L)) (b : Int) (c : List (List L))
def pid : Pt → Nat
  | .p0 .. => 3
def pvs : Pt → List V
  | .p0 a b c => [.sl none 55 a, .own 0, .int .i64 b]
def phs : Pt → List Root
  | .p0 a b c => [.row 3 c]
noncomputable def step (J : Pt → Ans) : Pt → Ans
  | .p0 a b c => (bif (decide (b < (a.length : Int))) then (bif (decide ((0 : Int) ≤ b)) then (bif (decide (b < (a.length : Int))) then (call (spec_LeafOf.R (REntry.at a (Int.toNat b))) fun v1 => (bif (lim (((c.length : Int) + 1) * 8)) then J (.p0 a (IntKind.i64.wrap (b + 1)) (c ++ [[L.int v1]])) else none)) else none) else none) else ret (c : List (List L)))
noncomputable def start (J : Pt → Ans) (x0 : List (List L)) : Ans := J (.p0 x0 0 [])
def live : Nat → Live := fun i => match i with | 3 => [(0, none), (3, some 3), (4, none)] | _ => []
def pats : List Pat := [.rd (.sl 55)]
def res : RP := .one (.fr 3)
noncomputable abbrev E : Env := ⟨assoc Tab, conG [(221, spec_LeafOf.con)], 21⟩
set_option maxRecDepth 100000
theorem step_eq (I : Heads) (p : Pt) : enterC E live I (pid p) (bodyOf Tryz.f251) (stOf (live (pid p)) (pvs p) (phs p)) (doneK E Tryz.f251 res) = step (fun q => I (pid q) (pvs q) (phs q)) p := by
  cases p <;> kernel_rfl
theorem start_eq (I : Heads) (ls : List L) : runC E live I (bodyOf Tryz.f251) (initS pats ls) (doneK E Tryz.f251 res) = start (fun q => I (pid q) (pvs q) (phs q)) (ls.headD .hole).toSl := by kernel_rfl
theorem run_eq (n : Nat) (ls : List L) : runF E live Tryz.f251 res n (initS pats ls) = start (iter step n) (ls.headD .hole).toSl := runF_iter (id := pid) (vs := pvs) (hs := phs) (step := step) (start := fun J => start J (ls.headD .hole).toSl) step_eq (fun I => start_eq I ls) n
noncomputable def md (a0 : List MEntry) : List Int := (a0.map (fun (y1 : MEntry) => (spec_LeafOf.md y1)))
def gd (a0 : List MEntry) : Prop := (SmL (2 ^ 21) (fun y : MEntry => MEntry.Sm (2 ^ 21) y) a0)
def acc (ls : List L) : List (List L) := (ls.headD .hole).toSl
noncomputable def R : (List (List L)) → Option (List (List L)) := RR gd md
theorem R_eq {a0} (h : gd a0) : R (a0.map MEntry.row) = some ((md a0).map iRow) := RR_eq (a := a0) h
noncomputable def con : Con := CN pats res acc R
theorem okF (a0 : List MEntry) (hg : gd a0) : ∃ n, start (iter step n) (a0.map MEntry.row) = ret (((md a0).map iRow) : List (List L)) := by
  unfold gd at hg
  have H0 := hg
  unfold start md
  try simp only [S0, MEntry.rs]
  have Bh2 : a0.length ≤ maxLen := (by
      have := (H0).1
      try simp only [maxLen] at *
      omega)
  refine ex_eq (out := (fun b : List Int => ret ((b.map iRow) : List (List L)))) (loopM_map0 (g := fun (y1 : MEntry) => (spec_LeafOf.md y1)) (z := MEntry.zero) (t := fun (s3 : List Int) => s3)) ?_
  refine ex_pt (p := Pt.p0 (a0.map MEntry.row) 0 ([].map iRow)) (by first | rfl | (simp only [S0, MEntry.rs, MP]; done) | (simp only [MP]; rfl)) ?_
  refine loopM_ok (pt := fun (i1 : Nat) (s3 : List Int) => Pt.p0 (a0.map MEntry.row) (i1 : Int) (s3.map iRow)) (s := ([] : List Int)) (out := (fun b : List Int => ret ((b.map iRow) : List (List L)))) (fun (i1 : Nat) (s3 : List Int) => s3.length ≤ ([] : List Int).length + 1 * i1) (fun J i1 s3 h2 hih2 => ?_) (fun s3 hih2 => ?_) (by simp)
  · simp only [step, S0, MEntry.rs]
    have gr_ := hih2
    try simp only [LN] at gr_
    have bb_ := Bh2
    simp only [maxLen] at bb_
    have := (H0).1
    refine Rnd.yes (by apply decide_eq_true; omega) ?_
    refine Rnd.yes zle_dec ?_
    refine Rnd.yes (lt_dec h2) ?_
    refine Rnd.call_to (spec_LeafOf.md (a0.getD i1 MEntry.zero)) (spec_LeafOf.R_eq (a0 := (a0.getD i1 MEntry.zero)) (SmL.getD (z := MEntry.zero) H0 h2)) ?_
    refine Rnd.yes (by
        refine lim_t ?_
        try simp (disch := omega) only [LN, wi]
        first | omega | (simp; done) | (simp; omega)) ?_
    refine Rnd.inl (by
        have g_ := hih2
        try simp only [LN] at g_ ⊢
        first | omega | (simp; done) | (simp; omega)) ?_
    rw [wrap_succ h2 Bh2]
    all_goals first | rfl | (simp only [S0, MEntry.rs]; done) | (simp only [MP]; rfl) | (simp only [S0, MEntry.rs, MP]; first | done | rfl)
  · simp only [step, S0, MEntry.rs]
    have gr_ := hih2
    try simp only [LN] at gr_
    have := (H0).1
    refine ex_no (by apply decide_eq_false; omega) ?_
    refine ⟨0, ?_⟩
    all_goals first | rfl | (simp only [S0, MEntry.rs]; done) | (simp only [MP]; rfl) | (simp only [S0, MEntry.rs, MP]; first | done | rfl)
theorem valid_ : Valid Tryz.prog Ev 251 con := VV (run := fun n x => start (iter step n) x) mix tab_ok (.cons spec_LeafOf.valid_ .nil) Tryz.func251 (by kernel_rfl) run_eq (fun _ a _ _ hg => okF a hg)
theorem len (a0 : List MEntry) : (md a0).length = a0.length := by simp [md]
end spec_LeavesOf
end Go.DM
