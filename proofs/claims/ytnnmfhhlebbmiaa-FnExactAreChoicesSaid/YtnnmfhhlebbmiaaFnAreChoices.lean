/- What the functions compute that the law reaches, and that the law returns true. Conditions: none. -/
import Derived.Test.YtnnmfhhlebbmiaaTy
import Derived.Test.YtnnmfhhlebbmiaaProg
import Derived.Lib.AppendZerosOnto
import Derived.Lib.Bytealg
import Derived.Laws.Externs
import Derived.Lib.Walk
import Derived.Lib.Hide
import Derived.Lib.Strings
set_option linter.all false
namespace Go.DM
open Go.Proofs
def Tab : List (Nat × TI) := [
  (2, ⟨[.int .i64], false, [], 8, false⟩),
  (3, ⟨[.int .i64], false, [], 8, false⟩),
  (4, ⟨[.bool], false, [], 1, false⟩),
  (5, ⟨[.int .u8], false, [], 1, false⟩),
  (6, ⟨[.int .u8], false, [], 1, false⟩),
  (7, ⟨[.int .i64, .int .i64, .bool, .int .u8], true, [(0, 2), (1, 3), (2, 4), (3, 6)], 24, false⟩),
  (8, ⟨[.int .i64, .int .i64, .bool, .int .u8], true, [(0, 2), (1, 3), (2, 4), (3, 6)], 24, false⟩),
  (9, ⟨[.str], false, [], 16, false⟩),
  (10, ⟨[.str], false, [], 16, false⟩),
  (11, ⟨[.str], false, [], 16, false⟩),
  (12, ⟨[.int .u64], false, [], 8, false⟩),
  (13, ⟨[.str, .int .u64], true, [(0, 9), (1, 12)], 24, false⟩),
  (14, ⟨[.str, .int .u64], true, [(0, 9), (1, 12)], 24, false⟩),
  (21, ⟨[.int .i32], false, [], 4, false⟩),
  (22, ⟨[.sl 9], false, [], 24, false⟩),
  (23, ⟨[.str, .int .i64, .int .i64, .sl 9], true, [(0, 9), (1, 3), (2, 3), (3, 22)], 56, false⟩),
  (24, ⟨[.str, .int .i64, .int .i64, .sl 9], true, [(0, 9), (1, 3), (2, 3), (3, 22)], 56, false⟩),
  (25, ⟨[.sl 24], false, [], 24, false⟩),
  (26, ⟨[.int .i64, .str, .int .i64, .int .i64, .sl 9, .sl 24], true, [(0, 3), (1, 24), (5, 25)], 88, false⟩),
  (27, ⟨[.int .i64, .str, .int .i64, .int .i64, .sl 9, .sl 24], true, [(0, 3), (1, 24), (5, 25)], 88, false⟩),
  (30, ⟨[.str, .int .i64, .int .i64, .sl 9], true, [(0, 9), (1, 3), (2, 3), (3, 22)], 56, false⟩),
  (31, ⟨[.sl 30], false, [], 24, false⟩),
  (32, ⟨[.int .i64, .str, .int .i64, .int .i64, .sl 9, .sl 30], true, [(0, 3), (1, 30), (5, 31)], 88, false⟩),
  (33, ⟨[.int .i64, .str, .int .i64, .int .i64, .sl 9, .sl 30], true, [(0, 3), (1, 30), (5, 31)], 88, false⟩),
  (36, ⟨[.sl 113], false, [], 24, false⟩),
  (39, ⟨[.sl 119], false, [], 24, false⟩),
  (43, ⟨[.sl 125], false, [], 24, false⟩),
  (46, ⟨[.sl 128], false, [], 24, false⟩),
  (50, ⟨[.sl 36], false, [], 24, false⟩),
  (51, ⟨[.sl 223], false, [], 24, false⟩),
  (52, ⟨[.sl 36, .sl 223], true, [(0, 50), (1, 51)], 48, false⟩),
  (53, ⟨[.sl 36, .sl 223], true, [(0, 50), (1, 51)], 48, false⟩),
  (54, ⟨[.sl 3], false, [], 24, false⟩),
  (55, ⟨[.sl 36, .sl 223, .int .i64, .str, .int .i64, .int .i64, .sl 9, .sl 3, .int .i64], true, [(0, 53), (2, 3), (3, 24), (7, 54), (8, 3)], 144, false⟩),
  (56, ⟨[.sl 36, .sl 223, .int .i64, .str, .int .i64, .int .i64, .sl 9, .sl 3, .int .i64], true, [(0, 53), (2, 3), (3, 24), (7, 54), (8, 3)], 144, false⟩),
  (59, ⟨[.sl 39], false, [], 24, false⟩),
  (60, ⟨[.sl 199], false, [], 24, false⟩),
  (61, ⟨[.sl 39, .sl 199], true, [(0, 59), (1, 60)], 48, false⟩),
  (62, ⟨[.sl 39, .sl 199], true, [(0, 59), (1, 60)], 48, false⟩),
  (63, ⟨[.sl 39, .sl 199, .int .i64, .str, .int .i64, .int .i64, .sl 9, .sl 3, .int .i64], true, [(0, 62), (2, 3), (3, 30), (7, 54), (8, 3)], 144, false⟩),
  (64, ⟨[.sl 39, .sl 199, .int .i64, .str, .int .i64, .int .i64, .sl 9, .sl 3, .int .i64], true, [(0, 62), (2, 3), (3, 30), (7, 54), (8, 3)], 144, false⟩),
  (72, ⟨[.sl 56], false, [], 24, false⟩),
  (75, ⟨[.sl 64], false, [], 24, false⟩),
  (82, ⟨[.sl 209], false, [], 24, false⟩),
  (83, ⟨[.sl 209], true, [(0, 82)], 24, false⟩),
  (84, ⟨[.sl 209], true, [(0, 82)], 24, false⟩),
  (87, ⟨[.sl 159], false, [], 24, false⟩),
  (88, ⟨[.sl 159], true, [(0, 87)], 24, false⟩),
  (89, ⟨[.sl 159], true, [(0, 87)], 24, false⟩),
  (92, ⟨[.int .i64, .sl 9, .sl 209], true, [(0, 3), (1, 22), (2, 82)], 56, false⟩),
  (93, ⟨[.int .i64, .sl 9, .sl 209], true, [(0, 3), (1, 22), (2, 82)], 56, false⟩),
  (96, ⟨[.int .i64, .sl 9, .sl 159], true, [(0, 3), (1, 22), (2, 87)], 56, false⟩),
  (97, ⟨[.int .i64, .sl 9, .sl 159], true, [(0, 3), (1, 22), (2, 87)], 56, false⟩),
  (107, ⟨[.sl 3, .int .i64], true, [(0, 54), (1, 3)], 32, false⟩),
  (108, ⟨[.sl 3, .int .i64], true, [(0, 54), (1, 3)], 32, false⟩),
  (109, ⟨[.int .i64, .int .i64, .int .i64, .int .i64, .int .i64, .int .i64, .int .i64, .int .i64, .sl 3, .int .i64, .sl 3, .int .i64, .int .i64, .sl 3, .int .i64, .bool], true, [(0, 3), (1, 3), (2, 3), (3, 3), (4, 3), (5, 3), (6, 3), (7, 3), (8, 108), (10, 108), (12, 3), (13, 108), (15, 4)], 176, false⟩),
  (110, ⟨[.int .i64, .int .i64, .int .i64, .int .i64, .int .i64, .int .i64, .int .i64, .int .i64, .sl 3, .int .i64, .sl 3, .int .i64, .int .i64, .sl 3, .int .i64, .bool], true, [(0, 3), (1, 3), (2, 3), (3, 3), (4, 3), (5, 3), (6, 3), (7, 3), (8, 108), (10, 108), (12, 3), (13, 108), (15, 4)], 176, false⟩),
  (111, ⟨[.sl 218], false, [], 24, false⟩),
  (112, ⟨[.int .i64, .int .i64, .int .i64, .int .i64, .int .i64, .int .i64, .int .i64, .int .i64, .sl 3, .int .i64, .sl 3, .int .i64, .int .i64, .sl 3, .int .i64, .bool, .sl 218], true, [(0, 110), (16, 111)], 200, false⟩),
  (113, ⟨[.int .i64, .int .i64, .int .i64, .int .i64, .int .i64, .int .i64, .int .i64, .int .i64, .sl 3, .int .i64, .sl 3, .int .i64, .int .i64, .sl 3, .int .i64, .bool, .sl 218], true, [(0, 110), (16, 111)], 200, false⟩),
  (114, ⟨[.sl 3, .int .i64], true, [(0, 54), (1, 3)], 32, false⟩),
  (115, ⟨[.int .i64, .int .i64, .int .i64, .int .i64, .int .i64, .int .i64, .int .i64, .int .i64, .sl 3, .int .i64, .sl 3, .int .i64, .int .i64, .sl 3, .int .i64, .bool], true, [(0, 3), (1, 3), (2, 3), (3, 3), (4, 3), (5, 3), (6, 3), (7, 3), (8, 114), (10, 114), (12, 3), (13, 114), (15, 4)], 176, false⟩),
  (116, ⟨[.int .i64, .int .i64, .int .i64, .int .i64, .int .i64, .int .i64, .int .i64, .int .i64, .sl 3, .int .i64, .sl 3, .int .i64, .int .i64, .sl 3, .int .i64, .bool], true, [(0, 3), (1, 3), (2, 3), (3, 3), (4, 3), (5, 3), (6, 3), (7, 3), (8, 114), (10, 114), (12, 3), (13, 114), (15, 4)], 176, false⟩),
  (117, ⟨[.sl 216], false, [], 24, false⟩),
  (118, ⟨[.int .i64, .int .i64, .int .i64, .int .i64, .int .i64, .int .i64, .int .i64, .int .i64, .sl 3, .int .i64, .sl 3, .int .i64, .int .i64, .sl 3, .int .i64, .bool, .sl 216], true, [(0, 116), (16, 117)], 200, false⟩),
  (119, ⟨[.int .i64, .int .i64, .int .i64, .int .i64, .int .i64, .int .i64, .int .i64, .int .i64, .sl 3, .int .i64, .sl 3, .int .i64, .int .i64, .sl 3, .int .i64, .bool, .sl 216], true, [(0, 116), (16, 117)], 200, false⟩),
  (124, ⟨[.sl 9, .str, .int .i64, .int .i64, .sl 9], true, [(0, 22), (1, 24)], 80, false⟩),
  (125, ⟨[.sl 9, .str, .int .i64, .int .i64, .sl 9], true, [(0, 22), (1, 24)], 80, false⟩),
  (127, ⟨[.sl 9, .str, .int .i64, .int .i64, .sl 9], true, [(0, 22), (1, 30)], 80, false⟩),
  (128, ⟨[.sl 9, .str, .int .i64, .int .i64, .sl 9], true, [(0, 22), (1, 30)], 80, false⟩),
  (139, ⟨[.sl 54], false, [], 24, false⟩),
  (142, ⟨[.sl 190], false, [], 24, false⟩),
  (152, ⟨[.int .i64, .sl 3], true, [(0, 3), (1, 54)], 32, false⟩),
  (153, ⟨[.int .i64, .sl 3], true, [(0, 3), (1, 54)], 32, false⟩),
  (154, ⟨[.int .i64, .str, .int .i64, .int .i64, .sl 9, .str, .int .i64, .int .i64, .sl 9, .int .i64, .sl 3, .int .i64, .sl 3], true, [(0, 3), (1, 30), (5, 30), (9, 153), (11, 153)], 184, false⟩),
  (155, ⟨[.int .i64, .str, .int .i64, .int .i64, .sl 9, .str, .int .i64, .int .i64, .sl 9, .int .i64, .sl 3, .int .i64, .sl 3], true, [(0, 3), (1, 30), (5, 30), (9, 153), (11, 153)], 184, false⟩),
  (156, ⟨[.sl 119, .bool, .str, .int .i64, .int .i64, .sl 9, .int .i64, .sl 3, .int .i64, .str, .int .i64, .int .i64, .sl 9, .str, .int .i64, .int .i64, .sl 9, .int .i64, .sl 3, .int .i64, .sl 3], true, [(0, 39), (1, 4), (2, 30), (6, 153), (8, 155)], 304, false⟩),
  (157, ⟨[.sl 119, .bool, .str, .int .i64, .int .i64, .sl 9, .int .i64, .sl 3, .int .i64, .str, .int .i64, .int .i64, .sl 9, .str, .int .i64, .int .i64, .sl 9, .int .i64, .sl 3, .int .i64, .sl 3], true, [(0, 39), (1, 4), (2, 30), (6, 153), (8, 155)], 304, false⟩),
  (158, ⟨[.int .i64, .str, .sl 119, .bool, .str, .int .i64, .int .i64, .sl 9, .int .i64, .sl 3, .int .i64, .str, .int .i64, .int .i64, .sl 9, .str, .int .i64, .int .i64, .sl 9, .int .i64, .sl 3, .int .i64, .sl 3], true, [(0, 3), (1, 9), (2, 157)], 328, false⟩),
  (159, ⟨[.int .i64, .str, .sl 119, .bool, .str, .int .i64, .int .i64, .sl 9, .int .i64, .sl 3, .int .i64, .str, .int .i64, .int .i64, .sl 9, .str, .int .i64, .int .i64, .sl 9, .int .i64, .sl 3, .int .i64, .sl 3], true, [(0, 3), (1, 9), (2, 157)], 328, false⟩),
  (189, ⟨[.int .i64, .sl 3, .int .i64, .int .i64], true, [(0, 3), (1, 114), (3, 3)], 48, false⟩),
  (190, ⟨[.int .i64, .sl 3, .int .i64, .int .i64], true, [(0, 3), (1, 114), (3, 3)], 48, false⟩),
  (194, ⟨[.sl 119, .sl 30], true, [(0, 39), (1, 31)], 48, false⟩),
  (195, ⟨[.sl 119, .sl 30], true, [(0, 39), (1, 31)], 48, false⟩),
  (198, ⟨[.int .i64, .int .i64, .int .i64, .int .i64, .int .i64, .int .i64, .int .i64, .int .i64, .sl 3, .int .i64, .sl 3, .int .i64, .int .i64, .sl 3, .int .i64, .bool, .sl 216, .int .i64, .int .i64, .int .i64, .int .i64, .int .i64, .int .i64, .int .i64, .int .i64, .sl 3, .int .i64, .sl 3, .int .i64, .int .i64, .sl 3, .int .i64, .bool, .sl 216, .int .i64, .int .i64, .int .i64, .int .i64, .int .i64, .int .i64, .int .i64, .int .i64, .sl 3, .int .i64, .sl 3, .int .i64, .int .i64, .sl 3, .int .i64, .bool, .sl 216], true, [(0, 119), (17, 119), (34, 119)], 600, false⟩),
  (199, ⟨[.int .i64, .int .i64, .int .i64, .int .i64, .int .i64, .int .i64, .int .i64, .int .i64, .sl 3, .int .i64, .sl 3, .int .i64, .int .i64, .sl 3, .int .i64, .bool, .sl 216, .int .i64, .int .i64, .int .i64, .int .i64, .int .i64, .int .i64, .int .i64, .int .i64, .sl 3, .int .i64, .sl 3, .int .i64, .int .i64, .sl 3, .int .i64, .bool, .sl 216, .int .i64, .int .i64, .int .i64, .int .i64, .int .i64, .int .i64, .int .i64, .int .i64, .sl 3, .int .i64, .sl 3, .int .i64, .int .i64, .sl 3, .int .i64, .bool, .sl 216], true, [(0, 119), (17, 119), (34, 119)], 600, false⟩),
  (203, ⟨[.int .i64, .sl 3], true, [(0, 3), (1, 54)], 32, false⟩),
  (204, ⟨[.int .i64, .str, .int .i64, .int .i64, .sl 9, .str, .int .i64, .int .i64, .sl 9, .int .i64, .sl 3, .int .i64, .sl 3], true, [(0, 3), (1, 24), (5, 24), (9, 203), (11, 203)], 184, false⟩),
  (205, ⟨[.int .i64, .str, .int .i64, .int .i64, .sl 9, .str, .int .i64, .int .i64, .sl 9, .int .i64, .sl 3, .int .i64, .sl 3], true, [(0, 3), (1, 24), (5, 24), (9, 203), (11, 203)], 184, false⟩),
  (206, ⟨[.sl 113, .bool, .str, .int .i64, .int .i64, .sl 9, .int .i64, .sl 3, .int .i64, .str, .int .i64, .int .i64, .sl 9, .str, .int .i64, .int .i64, .sl 9, .int .i64, .sl 3, .int .i64, .sl 3], true, [(0, 36), (1, 4), (2, 24), (6, 203), (8, 205)], 304, false⟩),
  (207, ⟨[.sl 113, .bool, .str, .int .i64, .int .i64, .sl 9, .int .i64, .sl 3, .int .i64, .str, .int .i64, .int .i64, .sl 9, .str, .int .i64, .int .i64, .sl 9, .int .i64, .sl 3, .int .i64, .sl 3], true, [(0, 36), (1, 4), (2, 24), (6, 203), (8, 205)], 304, false⟩),
  (208, ⟨[.int .i64, .str, .sl 113, .bool, .str, .int .i64, .int .i64, .sl 9, .int .i64, .sl 3, .int .i64, .str, .int .i64, .int .i64, .sl 9, .str, .int .i64, .int .i64, .sl 9, .int .i64, .sl 3, .int .i64, .sl 3], true, [(0, 3), (1, 9), (2, 207)], 328, false⟩),
  (209, ⟨[.int .i64, .str, .sl 113, .bool, .str, .int .i64, .int .i64, .sl 9, .int .i64, .sl 3, .int .i64, .str, .int .i64, .int .i64, .sl 9, .str, .int .i64, .int .i64, .sl 9, .int .i64, .sl 3, .int .i64, .sl 3], true, [(0, 3), (1, 9), (2, 207)], 328, false⟩),
  (215, ⟨[.int .i64, .int .i64], true, [(0, 3), (1, 3)], 16, false⟩),
  (216, ⟨[.int .i64, .int .i64], true, [(0, 3), (1, 3)], 16, true⟩),
  (218, ⟨[.int .i64, .int .i64], true, [(0, 3), (1, 3)], 16, true⟩),
  (222, ⟨[.int .i64, .int .i64, .int .i64, .int .i64, .int .i64, .int .i64, .int .i64, .int .i64, .sl 3, .int .i64, .sl 3, .int .i64, .int .i64, .sl 3, .int .i64, .bool, .sl 218, .int .i64, .int .i64, .int .i64, .int .i64, .int .i64, .int .i64, .int .i64, .int .i64, .sl 3, .int .i64, .sl 3, .int .i64, .int .i64, .sl 3, .int .i64, .bool, .sl 218, .int .i64, .int .i64, .int .i64, .int .i64, .int .i64, .int .i64, .int .i64, .int .i64, .sl 3, .int .i64, .sl 3, .int .i64, .int .i64, .sl 3, .int .i64, .bool, .sl 218], true, [(0, 113), (17, 113), (34, 113)], 600, false⟩),
  (223, ⟨[.int .i64, .int .i64, .int .i64, .int .i64, .int .i64, .int .i64, .int .i64, .int .i64, .sl 3, .int .i64, .sl 3, .int .i64, .int .i64, .sl 3, .int .i64, .bool, .sl 218, .int .i64, .int .i64, .int .i64, .int .i64, .int .i64, .int .i64, .int .i64, .int .i64, .sl 3, .int .i64, .sl 3, .int .i64, .int .i64, .sl 3, .int .i64, .bool, .sl 218, .int .i64, .int .i64, .int .i64, .int .i64, .int .i64, .int .i64, .int .i64, .int .i64, .sl 3, .int .i64, .sl 3, .int .i64, .int .i64, .sl 3, .int .i64, .bool, .sl 218], true, [(0, 113), (17, 113), (34, 113)], 600, false⟩),
  (260, ⟨[.int .u32], false, [], 4, false⟩),
  (261, ⟨[.int .u8], false, [], 1, false⟩),
  (262, ⟨[.int .u8], false, [], 1, false⟩),
  (265, ⟨[.int .i32], false, [], 4, false⟩),
  (266, ⟨[.int .i32], false, [], 4, false⟩)]
noncomputable abbrev Ev : Env := ⟨assoc Tab, fun _ => [], 0⟩
theorem tab_ok : tableB Try.prog Tab = true := by kernel_rfl
theorem mix : Try.prog.follows .mixedOrders = true := by kernel_rfl
/-! laws.szStringS -/
namespace laws_szStringS
inductive Pt where
  | p0 (a : List (List L)) (b : Int) (c : Int)
def pid : Pt → Nat
  | .p0 .. => 5
def pvs : Pt → List V
  | .p0 a b c => [.sl none 9 a, .int .i64 b, .int .i64 c]
def phs : Pt → List Root
  | .p0 a b c => []
noncomputable def step (J : Pt → Ans) : Pt → Ans
  | .p0 a b c => (bif (decide (c < (a.length : Int))) then (bif (decide ((0 : Int) ≤ c)) then (bif (decide (c < (a.length : Int))) then (bif (decide ((IntKind.i64.wrap (b - ((sAt a (Int.toNat c)).size : Int))) < 0)) then ret ((-1) : Int) else J (.p0 a (IntKind.i64.wrap (b - ((sAt a (Int.toNat c)).size : Int))) (IntKind.i64.wrap (c + 1)))) else none) else none) else ret (b : Int))
noncomputable def start (J : Pt → Ans) (x0 : List (List L)) (x1 : Int) : Ans := (bif (decide ((IntKind.i64.wrap (x1 - (x0.length : Int))) < 0)) then ret ((-1) : Int) else J (.p0 x0 (IntKind.i64.wrap (x1 - (x0.length : Int))) 0))
def live : Nat → Live := fun i => match i with | 5 => [(0, none), (1, none), (5, none)] | _ => []
def pats : List Pat := [.rd (.sl 9), .rd (.int .i64)]
def res : RP := .one (.rd (.int .i64))
noncomputable abbrev E : Env := ⟨assoc Tab, conG [], 28⟩
set_option maxRecDepth 100000
theorem step_eq (I : Heads) (p : Pt) : enterC E live I (pid p) (bodyOf Try.f119) (stOf (live (pid p)) (pvs p) (phs p)) (doneK E Try.f119 res) = step (fun q => I (pid q) (pvs q) (phs q)) p := by
  cases p <;> kernel_rfl
theorem start_eq (I : Heads) (ls : List L) : runC E live I (bodyOf Try.f119) (initS pats ls) (doneK E Try.f119 res) = start (fun q => I (pid q) (pvs q) (phs q)) (ls.headD .hole).toSl ((dropT 1 ls).headD .hole).toInt := by kernel_rfl
theorem run_eq (n : Nat) (ls : List L) : runF E live Try.f119 res n (initS pats ls) = start (iter step n) (ls.headD .hole).toSl ((dropT 1 ls).headD .hole).toInt := runF_iter (id := pid) (vs := pvs) (hs := phs) (step := step) (start := fun J => start J (ls.headD .hole).toSl ((dropT 1 ls).headD .hole).toInt) step_eq (fun I => start_eq I ls) n
noncomputable def md (a0 : List ByteArray) (a1 : Int) : Int := szM (szL (fun y : ByteArray => y.size) a0) a1
def gd (a0 : List ByteArray) (a1 : Int) : Prop := (SmL maxLen (fun y : ByteArray => y.size ≤ maxLen) a0) ∧ 0 ≤ a1 ∧ a1 ≤ 1048576
def acc (ls : List L) : List (List L) × Int := ((ls.headD .hole).toSl, ((dropT 1 ls).headD .hole).toInt)
noncomputable def R : (List (List L) × Int) → Option Int := RR (p2 gd) (u2 md)
theorem R_eq {a0} {a1} (h : gd a0 a1) : R ((a0.map sRow), a1) = some (md a0 a1) := RR_eq (a := (a0, a1)) h
noncomputable def con : Con := CN pats res acc R
theorem okF (a0 : List ByteArray) (a1 : Int) (hg : gd a0 a1) : ∃ n, start (iter step n) (a0.map sRow) a1 = ret ((md a0 a1) : Int) := by
  obtain ⟨hs, g0, g1⟩ := hg
  unfold start md
  simp only [List.length_map]
  refine sz_list (pt := fun left i => Pt.p0 (a0.map sRow) left (i : Int)) (f := fun y : ByteArray => y.size) hs.1 (fun J i h left p0 p1 => ?_) (fun J left => ?_) g0 g1
  · simp only [step, List.length_map, lt_dec h, zle_dec, cond_true, toNat_nat, sAt_row h]
    rw [sz_wrap p0 p1 (hs.get h), wrap_succ h hs.1]
    by_cases hc : left - ((a0[i].size : Nat) : Int) < 0
    · rw [decide_eq_true hc, if_pos (by omega)]; rfl
    · rw [decide_eq_false hc, if_neg (by omega)]; rfl
  · simp only [step, List.length_map, nlt_dec, cond_false]
theorem valid_ : Valid Try.prog Ev 119 con := VV (run := fun n x => start (iter step n) x.1 x.2) mix tab_ok .nil Try.func119 (by kernel_rfl) run_eq (fun _ a _ _ hg => okF a.1 a.2 hg)
end laws_szStringS
/-! laws.szEntry -/
namespace laws_szEntry
noncomputable def F (x0 : REntry) (x1 : Int) : Ans := (bif (decide ((IntKind.i64.wrap (x1 - (x0.fLabel.size : Int))) < 0)) then ret ((-1) : Int) else (call (laws_szStringS.R (x0.fPath, (IntKind.i64.wrap (x1 - (x0.fLabel.size : Int))))) fun v1 => (bif (decide (v1 < 0)) then ret ((-1) : Int) else ret (v1 : Int))))
def pats : List Pat := [.agg [.str, .int .i64, .int .i64, .sl 9], .rd (.int .i64)]
def res : RP := .one (.rd (.int .i64))
noncomputable abbrev E : Env := ⟨assoc Tab, conG [(119, laws_szStringS.con)], 19⟩
set_option maxRecDepth 100000
theorem run_eq (n : Nat) (ls : List L) : runF E (fun _ => []) Try.f66 res n (initS pats ls) = F (REntry.dec ls) ((dropT 4 ls).headD .hole).toInt := by kernel_rfl
noncomputable def md (a0 : MEntry) (a1 : Int) : Int := szM (MEntry.size a0) a1
def gd (a0 : MEntry) (a1 : Int) : Prop := (MEntry.Sm maxLen a0) ∧ 0 ≤ a1 ∧ a1 ≤ 1048576
def acc (ls : List L) : REntry × Int := ((REntry.dec ls), ((dropT 4 ls).headD .hole).toInt)
noncomputable def R : (REntry × Int) → Option Int := RR (p2 gd) (u2 md)
theorem R_eq {a0} {a1} (h : gd a0 a1) : R ((MEntry.r a0), a1) = some (md a0 a1) := RR_eq (a := (a0, a1)) h
noncomputable def con : Con := CN pats res acc R
theorem okF (a0 : MEntry) (a1 : Int) (hg : gd a0 a1) : F (MEntry.r a0) a1 = ret ((md a0 a1) : Int) := by
  obtain ⟨hs, g0, g1⟩ := hg
  unfold md
  show (bif (decide ((IntKind.i64.wrap (a1 - (a0.fLabel.size : Int))) < 0)) then ret ((-1) : Int) else (call (laws_szStringS.R ((a0.fPath.map sRow), (IntKind.i64.wrap (a1 - (a0.fLabel.size : Int))))) fun v1 => (bif (decide (v1 < 0)) then ret ((-1) : Int) else ret (v1 : Int)))) = _
  rw [sz_wrap (left := a1) (s := a0.fLabel.size) (by omega) (by omega) hs.1]
  by_cases c0 : a1 - ((a0.fLabel.size : Nat) : Int) < 0
  · rw [decide_eq_true c0, cond_true]; rw [show szM (MEntry.size a0) a1 = -1 from szM_neg (by unfold MEntry.size; omega)]; try rfl
  rw [decide_eq_false c0, cond_false]
  rw [call_eq (laws_szStringS.R_eq (a1 := (a1 - ((a0.fLabel.size : Nat) : Int))) ⟨hs.2, by omega, by omega⟩)]
  unfold laws_szStringS.md
  by_cases c1 : (a1 - ((a0.fLabel.size : Nat) : Int)) < ((szL (fun y : ByteArray => y.size) a0.fPath : Nat) : Int)
  · rw [szM_neg c1]; rw [show szM (MEntry.size a0) a1 = -1 from szM_neg (by unfold MEntry.size; omega)]; try rfl
  rw [szM_pos c1, dec_neg (by omega), cond_false]
  rw [show szM (MEntry.size a0) a1 = a1 - ((a0.fLabel.size : Nat) : Int) - ((szL (fun y : ByteArray => y.size) a0.fPath : Nat) : Int) from by rw [szM_pos (by unfold MEntry.size; omega)]; unfold MEntry.size; omega]
theorem valid_ : Valid Try.prog Ev 66 con := VV (run := fun _ x => F x.1 x.2) mix tab_ok (.cons laws_szStringS.valid_ .nil) Try.func66 (by kernel_rfl) run_eq (fun _ a _ _ hg => ⟨0, okF a.1 a.2 hg⟩)
end laws_szEntry
/-! laws.szChoice -/
namespace laws_szChoice
noncomputable def F (x0 : RChoice) (x1 : Int) : Ans := (call (laws_szStringS.R (x0.fPath, x1)) fun v1 => (bif (decide (v1 < 0)) then ret ((-1) : Int) else (call (laws_szEntry.R (x0.fEntry, v1)) fun v2 => (bif (decide (v2 < 0)) then ret ((-1) : Int) else ret (v2 : Int)))))
def pats : List Pat := [.agg [.sl 9, .str, .int .i64, .int .i64, .sl 9], .rd (.int .i64)]
def res : RP := .one (.rd (.int .i64))
noncomputable abbrev E : Env := ⟨assoc Tab, conG [(119, laws_szStringS.con), (66, laws_szEntry.con)], 18⟩
set_option maxRecDepth 100000
theorem run_eq (n : Nat) (ls : List L) : runF E (fun _ => []) Try.f80 res n (initS pats ls) = F (RChoice.dec ls) ((dropT 5 ls).headD .hole).toInt := by kernel_rfl
noncomputable def md (a0 : MChoice) (a1 : Int) : Int := szM (MChoice.size a0) a1
def gd (a0 : MChoice) (a1 : Int) : Prop := (MChoice.Sm maxLen a0) ∧ 0 ≤ a1 ∧ a1 ≤ 1048576
def acc (ls : List L) : RChoice × Int := ((RChoice.dec ls), ((dropT 5 ls).headD .hole).toInt)
noncomputable def R : (RChoice × Int) → Option Int := RR (p2 gd) (u2 md)
theorem R_eq {a0} {a1} (h : gd a0 a1) : R ((MChoice.r a0), a1) = some (md a0 a1) := RR_eq (a := (a0, a1)) h
noncomputable def con : Con := CN pats res acc R
theorem okF (a0 : MChoice) (a1 : Int) (hg : gd a0 a1) : F (MChoice.r a0) a1 = ret ((md a0 a1) : Int) := by
  obtain ⟨hs, g0, g1⟩ := hg
  unfold md
  show (call (laws_szStringS.R ((a0.fPath.map sRow), a1)) fun v1 => (bif (decide (v1 < 0)) then ret ((-1) : Int) else (call (laws_szEntry.R ((MEntry.r a0.fEntry), v1)) fun v2 => (bif (decide (v2 < 0)) then ret ((-1) : Int) else ret (v2 : Int))))) = _
  rw [call_eq (laws_szStringS.R_eq (a1 := a1) ⟨hs.1, by omega, by omega⟩)]
  unfold laws_szStringS.md
  by_cases c0 : a1 < ((szL (fun y : ByteArray => y.size) a0.fPath : Nat) : Int)
  · rw [szM_neg c0]; rw [show szM (MChoice.size a0) a1 = -1 from szM_neg (by unfold MChoice.size; omega)]; try rfl
  rw [szM_pos c0, dec_neg (by omega), cond_false]
  rw [call_eq (laws_szEntry.R_eq (a1 := (a1 - ((szL (fun y : ByteArray => y.size) a0.fPath : Nat) : Int))) ⟨hs.2, by omega, by omega⟩)]
  unfold laws_szEntry.md
  by_cases c1 : (a1 - ((szL (fun y : ByteArray => y.size) a0.fPath : Nat) : Int)) < ((MEntry.size a0.fEntry : Nat) : Int)
  · rw [szM_neg c1]; rw [show szM (MChoice.size a0) a1 = -1 from szM_neg (by unfold MChoice.size; omega)]; try rfl
  rw [szM_pos c1, dec_neg (by omega), cond_false]
  rw [show szM (MChoice.size a0) a1 = a1 - ((szL (fun y : ByteArray => y.size) a0.fPath : Nat) : Int) - ((MEntry.size a0.fEntry : Nat) : Int) from by rw [szM_pos (by unfold MChoice.size; omega)]; unfold MChoice.size; omega]
theorem valid_ : Valid Try.prog Ev 80 con := VV (run := fun _ x => F x.1 x.2) mix tab_ok (.cons laws_szStringS.valid_ (.cons laws_szEntry.valid_ .nil)) Try.func80 (by kernel_rfl) run_eq (fun _ a _ _ hg => ⟨0, okF a.1 a.2 hg⟩)
end laws_szChoice
/-! laws.szChoiceS -/
namespace laws_szChoiceS
inductive Pt where
  | p0 (a : List (List L)) (b : Int) (c : Int)
def pid : Pt → Nat
  | .p0 .. => 5
def pvs : Pt → List V
  | .p0 a b c => [.sl none 125 a, .int .i64 b, .int .i64 c]
def phs : Pt → List Root
  | .p0 a b c => []
noncomputable def step (J : Pt → Ans) : Pt → Ans
  | .p0 a b c => (bif (decide (c < (a.length : Int))) then (bif (decide ((0 : Int) ≤ c)) then (bif (decide (c < (a.length : Int))) then (call (laws_szChoice.R ((RChoice.at a (Int.toNat c)), b)) fun v1 => (bif (decide (v1 < 0)) then ret ((-1) : Int) else J (.p0 a v1 (IntKind.i64.wrap (c + 1))))) else none) else none) else ret (b : Int))
noncomputable def start (J : Pt → Ans) (x0 : List (List L)) (x1 : Int) : Ans := (bif (decide ((IntKind.i64.wrap (x1 - (x0.length : Int))) < 0)) then ret ((-1) : Int) else J (.p0 x0 (IntKind.i64.wrap (x1 - (x0.length : Int))) 0))
def live : Nat → Live := fun i => match i with | 5 => [(0, none), (1, none), (5, none)] | _ => []
def pats : List Pat := [.rd (.sl 125), .rd (.int .i64)]
def res : RP := .one (.rd (.int .i64))
noncomputable abbrev E : Env := ⟨assoc Tab, conG [(80, laws_szChoice.con)], 27⟩
set_option maxRecDepth 100000
theorem step_eq (I : Heads) (p : Pt) : enterC E live I (pid p) (bodyOf Try.f27) (stOf (live (pid p)) (pvs p) (phs p)) (doneK E Try.f27 res) = step (fun q => I (pid q) (pvs q) (phs q)) p := by
  cases p <;> kernel_rfl
theorem start_eq (I : Heads) (ls : List L) : runC E live I (bodyOf Try.f27) (initS pats ls) (doneK E Try.f27 res) = start (fun q => I (pid q) (pvs q) (phs q)) (ls.headD .hole).toSl ((dropT 1 ls).headD .hole).toInt := by kernel_rfl
theorem run_eq (n : Nat) (ls : List L) : runF E live Try.f27 res n (initS pats ls) = start (iter step n) (ls.headD .hole).toSl ((dropT 1 ls).headD .hole).toInt := runF_iter (id := pid) (vs := pvs) (hs := phs) (step := step) (start := fun J => start J (ls.headD .hole).toSl ((dropT 1 ls).headD .hole).toInt) step_eq (fun I => start_eq I ls) n
noncomputable def md (a0 : List MChoice) (a1 : Int) : Int := szM (szL (fun y : MChoice => MChoice.size y) a0) a1
def gd (a0 : List MChoice) (a1 : Int) : Prop := (SmL maxLen (fun y : MChoice => MChoice.Sm maxLen y) a0) ∧ 0 ≤ a1 ∧ a1 ≤ 1048576
def acc (ls : List L) : List (List L) × Int := ((ls.headD .hole).toSl, ((dropT 1 ls).headD .hole).toInt)
noncomputable def R : (List (List L) × Int) → Option Int := RR (p2 gd) (u2 md)
theorem R_eq {a0} {a1} (h : gd a0 a1) : R ((a0.map MChoice.row), a1) = some (md a0 a1) := RR_eq (a := (a0, a1)) h
noncomputable def con : Con := CN pats res acc R
theorem okF (a0 : List MChoice) (a1 : Int) (hg : gd a0 a1) : ∃ n, start (iter step n) (a0.map MChoice.row) a1 = ret ((md a0 a1) : Int) := by
  obtain ⟨hs, g0, g1⟩ := hg
  unfold start md
  simp only [List.length_map]
  refine sz_list (pt := fun left i => Pt.p0 (a0.map MChoice.row) left (i : Int)) (f := fun y : MChoice => MChoice.size y) hs.1 (fun J i h left p0 p1 => ?_) (fun J left => ?_) g0 g1
  · simp only [step, List.length_map, lt_dec h, zle_dec, cond_true, toNat_nat, MChoice.at_row h]
    rw [call_eq (laws_szChoice.R_eq ⟨hs.get h, p0, p1⟩), wrap_succ h hs.1]
    unfold laws_szChoice.md
    by_cases hc : left < ((MChoice.size (a0[i]) : Nat) : Int)
    · rw [szM_neg hc, if_pos hc]; rfl
    · rw [szM_pos hc, if_neg hc, dec_neg (by omega)]; rfl
  · simp only [step, List.length_map, nlt_dec, cond_false]
theorem valid_ : Valid Try.prog Ev 27 con := VV (run := fun n x => start (iter step n) x.1 x.2) mix tab_ok (.cons laws_szChoice.valid_ .nil) Try.func27 (by kernel_rfl) run_eq (fun _ a _ _ hg => okF a.1 a.2 hg)
end laws_szChoiceS
/-! laws.toStringS -/
namespace laws_toStringS
inductive Pt where
  | p0 (a : List (List L)) (b : Int) (c : List (List L))
def pid : Pt → Nat
  | .p0 .. => 3
def pvs : Pt → List V
  | .p0 a b c => [.sl none 9 a, .own 0, .int .i64 b]
def phs : Pt → List Root
  | .p0 a b c => [.row 9 c]
noncomputable def step (J : Pt → Ans) : Pt → Ans
  | .p0 a b c => (bif (decide (b < (a.length : Int))) then (bif (decide ((0 : Int) ≤ b)) then (bif (decide (b < (a.length : Int))) then (bif (decide ((0 : Int) ≤ b)) then (bif (decide (b < (c.length : Int))) then J (.p0 a (IntKind.i64.wrap (b + 1)) (List.set c (Int.toNat b) [L.str (sAt a (Int.toNat b))])) else none) else none) else none) else none) else ret (c : List (List L)))
noncomputable def start (J : Pt → Ans) (x0 : List (List L)) : Ans := (bif (decide ((0 : Int) ≤ (x0.length : Int))) then (bif (decide ((x0.length : Int) ≤ (x0.length : Int))) then (bif (decide ((x0.length : Int) * 16 ≤ 140737488355328)) then J (.p0 x0 0 (List.replicate (Int.toNat (x0.length : Int)) [L.str ⟨#[]⟩])) else none) else none) else none)
def live : Nat → Live := fun i => match i with | 3 => [(0, none), (3, none), (4, none)] | _ => []
def pats : List Pat := [.rd (.sl 9)]
def res : RP := .one (.fr 9)
noncomputable abbrev E : Env := ⟨assoc Tab, conG [], 22⟩
set_option maxRecDepth 100000
theorem step_eq (I : Heads) (p : Pt) : enterC E live I (pid p) (bodyOf Try.f121) (stOf (live (pid p)) (pvs p) (phs p)) (doneK E Try.f121 res) = step (fun q => I (pid q) (pvs q) (phs q)) p := by
  cases p <;> kernel_rfl
theorem start_eq (I : Heads) (ls : List L) : runC E live I (bodyOf Try.f121) (initS pats ls) (doneK E Try.f121 res) = start (fun q => I (pid q) (pvs q) (phs q)) (ls.headD .hole).toSl := by kernel_rfl
theorem run_eq (n : Nat) (ls : List L) : runF E live Try.f121 res n (initS pats ls) = start (iter step n) (ls.headD .hole).toSl := runF_iter (id := pid) (vs := pvs) (hs := phs) (step := step) (start := fun J => start J (ls.headD .hole).toSl) step_eq (fun I => start_eq I ls) n
noncomputable def md (a0 : List ByteArray) : List ByteArray := a0
def gd (a0 : List ByteArray) : Prop := SmL (2 ^ 36) (fun y : ByteArray => y.size ≤ (2 ^ 36)) a0
def acc (ls : List L) : List (List L) := (ls.headD .hole).toSl
noncomputable def R : (List (List L)) → Option (List (List L)) := RR gd md
theorem R_eq {a0} (h : gd a0) : R (a0.map sRow) = some ((md a0).map sRow) := RR_eq (a := a0) h
noncomputable def con : Con := CN pats res acc R
theorem okF (a0 : List ByteArray) (hg : gd a0) : ∃ n, start (iter step n) (a0.map sRow) = ret (((md a0).map sRow) : List (List L)) := by
  unfold start md
  simp only [List.length_map]
  refine to_list (b := 16) (pt := fun i c => Pt.p0 (a0.map sRow) (i : Int) c) (by have := hg.1; simp at this; omega) (fun J i h c hc => ?_) (fun J c => ?_)
  · simp only [step, List.length_map, lt_dec h, zle_dec, cond_true, toNat_nat, sAt_row h, hc]
    rw [wrap_succ (n := a0.length) h (by have := hg.1; simp only [maxLen]; simp at this; omega)]
    rfl
  · simp only [step, List.length_map, nlt_dec, cond_false]
theorem valid_ : Valid Try.prog Ev 121 con := VV (run := fun n x => start (iter step n) x) mix tab_ok .nil Try.func121 (by kernel_rfl) run_eq (fun _ a _ _ hg => okF a hg)
end laws_toStringS
/-! laws.toEntry -/
namespace laws_toEntry
noncomputable def F (x0 : REntry) : Ans := (call (laws_toStringS.R x0.fPath) fun v1 => ret ((⟨x0.fLabel, x0.fKind, x0.fValue, v1⟩ : REntry) : REntry))
def pats : List Pat := [.agg [.str, .int .i64, .int .i64, .sl 9]]
def res : RP := .agg [.rd (.str), .rd (.int .i64), .rd (.int .i64), .fr 9]
noncomputable abbrev E : Env := ⟨assoc Tab, conG [(121, laws_toStringS.con)], 18⟩
set_option maxRecDepth 100000
theorem run_eq (n : Nat) (ls : List L) : runF E (fun _ => []) Try.f70 res n (initS pats ls) = F (REntry.dec ls) := by kernel_rfl
noncomputable def md (a0 : MEntry) : MEntry := a0
def gd (a0 : MEntry) : Prop := MEntry.Sm (2 ^ 36) a0
def acc (ls : List L) : REntry := (REntry.dec ls)
noncomputable def R : REntry → Option REntry := RR gd md
theorem R_eq {a0} (h : gd a0) : R (MEntry.r a0) = some (MEntry.r (md a0)) := RR_eq (a := a0) h
noncomputable def con : Con := CN pats res acc R
theorem okF (a0 : MEntry) (hg : gd a0) : F (MEntry.r a0) = ret ((MEntry.r (md a0)) : REntry) := by
  unfold md
  show (call (laws_toStringS.R (a0.fPath.map sRow)) fun v1 => ret ((⟨a0.fLabel, a0.fKind, a0.fValue, v1⟩ : REntry) : REntry)) = _
  rw [call_eq (laws_toStringS.R_eq hg.2)]
  rfl
theorem valid_ : Valid Try.prog Ev 70 con := VV (run := fun _ x => F x) mix tab_ok (.cons laws_toStringS.valid_ .nil) Try.func70 (by kernel_rfl) run_eq (fun _ a _ _ hg => ⟨0, okF a hg⟩)
end laws_toEntry
/-! laws.toChoice -/
namespace laws_toChoice
noncomputable def F (x0 : RChoice) : Ans := (call (laws_toStringS.R x0.fPath) fun v1 => (call (laws_toEntry.R x0.fEntry) fun v2 => ret ((⟨v1, v2⟩ : RChoice) : RChoice)))
def pats : List Pat := [.agg [.sl 9, .str, .int .i64, .int .i64, .sl 9]]
def res : RP := .agg [.fr 9, .rd (.str), .rd (.int .i64), .rd (.int .i64), .fr 9]
noncomputable abbrev E : Env := ⟨assoc Tab, conG [(121, laws_toStringS.con), (70, laws_toEntry.con)], 13⟩
set_option maxRecDepth 100000
theorem run_eq (n : Nat) (ls : List L) : runF E (fun _ => []) Try.f84 res n (initS pats ls) = F (RChoice.dec ls) := by kernel_rfl
noncomputable def md (a0 : MChoice) : MChoice := a0
def gd (a0 : MChoice) : Prop := MChoice.Sm (2 ^ 36) a0
def acc (ls : List L) : RChoice := (RChoice.dec ls)
noncomputable def R : RChoice → Option RChoice := RR gd md
theorem R_eq {a0} (h : gd a0) : R (MChoice.r a0) = some (MChoice.r (md a0)) := RR_eq (a := a0) h
noncomputable def con : Con := CN pats res acc R
theorem okF (a0 : MChoice) (hg : gd a0) : F (MChoice.r a0) = ret ((MChoice.r (md a0)) : RChoice) := by
  unfold md
  show (call (laws_toStringS.R (a0.fPath.map sRow)) fun v1 => (call (laws_toEntry.R (MEntry.r a0.fEntry)) fun v2 => ret ((⟨v1, v2⟩ : RChoice) : RChoice))) = _
  rw [call_eq (laws_toStringS.R_eq hg.1)]
  rw [call_eq (laws_toEntry.R_eq hg.2)]
  rfl
theorem valid_ : Valid Try.prog Ev 84 con := VV (run := fun _ x => F x) mix tab_ok (.cons laws_toStringS.valid_ (.cons laws_toEntry.valid_ .nil)) Try.func84 (by kernel_rfl) run_eq (fun _ a _ _ hg => ⟨0, okF a hg⟩)
end laws_toChoice
/-! laws.toChoiceS -/
namespace laws_toChoiceS
inductive Pt where
  | p0 (a : List (List L)) (b : Int) (c : List (List L))
def pid : Pt → Nat
  | .p0 .. => 3
def pvs : Pt → List V
  | .p0 a b c => [.sl none 125 a, .own 0, .int .i64 b]
def phs : Pt → List Root
  | .p0 a b c => [.row 128 c]
noncomputable def step (J : Pt → Ans) : Pt → Ans
  | .p0 a b c => (bif (decide (b < (a.length : Int))) then (bif (decide ((0 : Int) ≤ b)) then (bif (decide (b < (a.length : Int))) then (call (laws_toChoice.R (RChoice.at a (Int.toNat b))) fun v1 => (bif (decide ((0 : Int) ≤ b)) then (bif (decide (b < (c.length : Int))) then J (.p0 a (IntKind.i64.wrap (b + 1)) (List.set c (Int.toNat b) (RChoice.enc v1))) else none) else none)) else none) else none) else ret (c : List (List L)))
noncomputable def start (J : Pt → Ans) (x0 : List (List L)) : Ans := (bif (decide ((0 : Int) ≤ (x0.length : Int))) then (bif (decide ((x0.length : Int) ≤ (x0.length : Int))) then (bif (decide ((x0.length : Int) * 80 ≤ 140737488355328)) then J (.p0 x0 0 (List.replicate (Int.toNat (x0.length : Int)) [L.sl [], L.str ⟨#[]⟩, L.int 0, L.int 0, L.sl []])) else none) else none) else none)
def live : Nat → Live := fun i => match i with | 3 => [(0, none), (3, none), (4, none)] | _ => []
def pats : List Pat := [.rd (.sl 125)]
def res : RP := .one (.fr 128)
noncomputable abbrev E : Env := ⟨assoc Tab, conG [(84, laws_toChoice.con)], 23⟩
set_option maxRecDepth 100000
theorem step_eq (I : Heads) (p : Pt) : enterC E live I (pid p) (bodyOf Try.f29) (stOf (live (pid p)) (pvs p) (phs p)) (doneK E Try.f29 res) = step (fun q => I (pid q) (pvs q) (phs q)) p := by
  cases p <;> kernel_rfl
theorem start_eq (I : Heads) (ls : List L) : runC E live I (bodyOf Try.f29) (initS pats ls) (doneK E Try.f29 res) = start (fun q => I (pid q) (pvs q) (phs q)) (ls.headD .hole).toSl := by kernel_rfl
theorem run_eq (n : Nat) (ls : List L) : runF E live Try.f29 res n (initS pats ls) = start (iter step n) (ls.headD .hole).toSl := runF_iter (id := pid) (vs := pvs) (hs := phs) (step := step) (start := fun J => start J (ls.headD .hole).toSl) step_eq (fun I => start_eq I ls) n
noncomputable def md (a0 : List MChoice) : List MChoice := a0
def gd (a0 : List MChoice) : Prop := SmL (2 ^ 36) (fun y : MChoice => MChoice.Sm (2 ^ 36) y) a0
def acc (ls : List L) : List (List L) := (ls.headD .hole).toSl
noncomputable def R : (List (List L)) → Option (List (List L)) := RR gd md
theorem R_eq {a0} (h : gd a0) : R (a0.map MChoice.row) = some ((md a0).map MChoice.row) := RR_eq (a := a0) h
noncomputable def con : Con := CN pats res acc R
theorem okF (a0 : List MChoice) (hg : gd a0) : ∃ n, start (iter step n) (a0.map MChoice.row) = ret (((md a0).map MChoice.row) : List (List L)) := by
  unfold start md
  simp only [List.length_map]
  refine to_list (b := 80) (pt := fun i c => Pt.p0 (a0.map MChoice.row) (i : Int) c) (by have := hg.1; simp at this; omega) (fun J i h c hc => ?_) (fun J c => ?_)
  · simp only [step, List.length_map, lt_dec h, zle_dec, cond_true, toNat_nat, MChoice.at_row h, hc]
    rw [call_eq (laws_toChoice.R_eq (hg.get h))]
    try simp only [hc, lt_dec h, cond_true]
    rw [wrap_succ (n := a0.length) h (by have := hg.1; simp only [maxLen]; simp at this; omega)]
    rfl
  · simp only [step, List.length_map, nlt_dec, cond_false]
theorem valid_ : Valid Try.prog Ev 29 con := VV (run := fun n x => start (iter step n) x) mix tab_ok (.cons laws_toChoice.valid_ .nil) Try.func29 (by kernel_rfl) run_eq (fun _ a _ _ hg => okF a hg)
end laws_toChoiceS
/-! spec.l1In -/
namespace spec_l1In
noncomputable def F (x0 : Int) (x1 : Int) (x2 : Int) : Ans := (bif (decide (x0 ≥ x1)) then ret ((decide (x0 ≤ x2)) : Bool) else ret (false : Bool))
def pats : List Pat := [.rd (.int .i64), .rd (.int .i64), .rd (.int .i64)]
def res : RP := .one (.rd (.bool))
noncomputable abbrev E : Env := ⟨assoc Tab, conG [], 15⟩
set_option maxRecDepth 100000
theorem run_eq (n : Nat) (ls : List L) : runF E (fun _ => []) Try.f133 res n (initS pats ls) = F (ls.headD .hole).toInt ((dropT 1 ls).headD .hole).toInt ((dropT 2 ls).headD .hole).toInt := by kernel_rfl
noncomputable def md (a0 : Int) (a1 : Int) (a2 : Int) : Bool := (bif (decide (a0 ≥ a1)) then ((decide (a0 ≤ a2)) : Bool) else (false : Bool))
def gd (a0 : Int) (a1 : Int) (a2 : Int) : Prop := True
def acc (ls : List L) : Int × Int × Int := ((ls.headD .hole).toInt, ((dropT 1 ls).headD .hole).toInt, ((dropT 2 ls).headD .hole).toInt)
noncomputable def R : (Int × Int × Int) → Option Bool := RR (p3 gd) (u3 md)
theorem R_eq {a0} {a1} {a2} (h : gd a0 a1 a2) : R (a0, a1, a2) = some (md a0 a1 a2) := RR_eq (a := (a0, a1, a2)) h
noncomputable def con : Con := CN pats res acc R
theorem okF (a0 : Int) (a1 : Int) (a2 : Int) (hg : gd a0 a1 a2) : F a0 a1 a2 = ret ((md a0 a1 a2) : Bool) := by
  unfold F md
  try simp only [S0]
  refine bif_out ret (fun c1 => ?_) (fun _ => rfl)
  all_goals first | rfl | (simp only [S0, MP]; first | done | rfl)
theorem valid_ : Valid Try.prog Ev 133 con := VV (run := fun _ x => F x.1 x.2.1 x.2.2) mix tab_ok .nil Try.func133 (by kernel_rfl) run_eq (fun _ a _ _ hg => ⟨0, okF a.1 a.2.1 a.2.2 hg⟩)
end spec_l1In
/-! spec.IsLabel -/
namespace spec_IsLabel
inductive Pt where
  | p0 (a : ByteArray) (b : Int)
def pid : Pt → Nat
  | .p0 .. => 4
def pvs : Pt → List V
  | .p0 a b => [.str a, .int .i64 b]
def phs : Pt → List Root
  | .p0 a b => []
noncomputable def step (J : Pt → Ans) : Pt → Ans
  | .p0 a b => (bif (decide (b < (a.size : Int))) then (bif (decide ((0 : Int) ≤ b)) then (bif (decide (b < (a.size : Int))) then (bif (decide ((chAt a (Int.toNat b)) < 97)) then (bif (decide ((0 : Int) ≤ b)) then (bif (decide (b < (a.size : Int))) then (bif (decide ((chAt a (Int.toNat b)) < 48)) then (bif (decide ((0 : Int) ≤ b)) then (bif (decide (b < (a.size : Int))) then (bif ((chAt a (Int.toNat b)) != 45) then ret (false : Bool) else J (.p0 a (IntKind.i64.wrap (b + 1)))) else none) else none) else (bif (decide ((0 : Int) ≤ b)) then (bif (decide (b < (a.size : Int))) then (bif (decide ((chAt a (Int.toNat b)) > 57)) then (bif (decide ((0 : Int) ≤ b)) then (bif (decide (b < (a.size : Int))) then (bif ((chAt a (Int.toNat b)) != 45) then ret (false : Bool) else J (.p0 a (IntKind.i64.wrap (b + 1)))) else none) else none) else J (.p0 a (IntKind.i64.wrap (b + 1)))) else none) else none)) else none) else none) else (bif (decide ((0 : Int) ≤ b)) then (bif (decide (b < (a.size : Int))) then (bif (decide ((chAt a (Int.toNat b)) > 122)) then (bif (decide ((0 : Int) ≤ b)) then (bif (decide (b < (a.size : Int))) then (bif (decide ((chAt a (Int.toNat b)) < 48)) then (bif (decide ((0 : Int) ≤ b)) then (bif (decide (b < (a.size : Int))) then (bif ((chAt a (Int.toNat b)) != 45) then ret (false : Bool) else J (.p0 a (IntKind.i64.wrap (b + 1)))) else none) else none) else (bif (decide ((0 : Int) ≤ b)) then (bif (decide (b < (a.size : Int))) then (bif (decide ((chAt a (Int.toNat b)) > 57)) then (bif (decide ((0 : Int) ≤ b)) then (bif (decide (b < (a.size : Int))) then (bif ((chAt a (Int.toNat b)) != 45) then ret (false : Bool) else J (.p0 a (IntKind.i64.wrap (b + 1)))) else none) else none) else J (.p0 a (IntKind.i64.wrap (b + 1)))) else none) else none)) else none) else none) else J (.p0 a (IntKind.i64.wrap (b + 1)))) else none) else none)) else none) else none) else ret (true : Bool))
noncomputable def start (J : Pt → Ans) (x0 : ByteArray) : Ans := (call (spec_l1In.R ((x0.size : Int), 1, 8)) fun v1 => (bif (!v1) then ret (false : Bool) else (bif (decide ((0 : Int) < (x0.size : Int))) then (bif ((chAt x0 0) == 45) then ret (false : Bool) else (bif (decide ((0 : Int) ≤ (IntKind.i64.wrap ((x0.size : Int) - 1)))) then (bif (decide ((IntKind.i64.wrap ((x0.size : Int) - 1)) < (x0.size : Int))) then (bif ((chAt x0 (Int.toNat (IntKind.i64.wrap ((x0.size : Int) - 1)))) == 45) then ret (false : Bool) else J (.p0 x0 0)) else none) else none)) else none)))
def live : Nat → Live := fun i => match i with | 4 => [(0, none), (3, none)] | _ => []
def pats : List Pat := [.rd (.str)]
def res : RP := .one (.rd (.bool))
noncomputable abbrev E : Env := ⟨assoc Tab, conG [(133, spec_l1In.con)], 55⟩
set_option maxRecDepth 100000
theorem step_eq (I : Heads) (p : Pt) : enterC E live I (pid p) (bodyOf Try.f132) (stOf (live (pid p)) (pvs p) (phs p)) (doneK E Try.f132 res) = step (fun q => I (pid q) (pvs q) (phs q)) p := by
  cases p <;> kernel_rfl
theorem start_eq (I : Heads) (ls : List L) : runC E live I (bodyOf Try.f132) (initS pats ls) (doneK E Try.f132 res) = start (fun q => I (pid q) (pvs q) (phs q)) (ls.headD .hole).toStr := by kernel_rfl
theorem run_eq (n : Nat) (ls : List L) : runF E live Try.f132 res n (initS pats ls) = start (iter step n) (ls.headD .hole).toStr := runF_iter (id := pid) (vs := pvs) (hs := phs) (step := step) (start := fun J => start J (ls.headD .hole).toStr) step_eq (fun I => start_eq I ls) n
noncomputable def md (a0 : ByteArray) : Bool := (bif (!(spec_l1In.md (a0.size : Int) 1 8)) then (false : Bool) else (bif ((chAt a0 0) == 45) then (false : Bool) else (bif ((chAt a0 (Int.toNat (IntKind.i64.wrap ((a0.size : Int) - 1)))) == 45) then (false : Bool) else (loopM (S := Unit) (β := Bool) (fun (i4 : Nat) (s6 : Unit) => (bif (decide ((chAt a0 i4) < 97)) then (bif (decide ((chAt a0 i4) < 48)) then (bif ((chAt a0 i4) != 45) then (.inr (false : Bool)) else (.inl ())) else (bif (decide ((chAt a0 i4) > 57)) then (bif ((chAt a0 i4) != 45) then (.inr (false : Bool)) else (.inl ())) else (.inl ()))) else (bif (decide ((chAt a0 i4) > 122)) then (bif (decide ((chAt a0 i4) < 48)) then (bif ((chAt a0 i4) != 45) then (.inr (false : Bool)) else (.inl ())) else (bif (decide ((chAt a0 i4) > 57)) then (bif ((chAt a0 i4) != 45) then (.inr (false : Bool)) else (.inl ())) else (.inl ()))) else (.inl ())))) (fun (s6 : Unit) => (true : Bool)) a0.size 0 ()))))
def gd (a0 : ByteArray) : Prop := (a0.size ≤ (2 ^ 21))
def acc (ls : List L) : ByteArray := (ls.headD .hole).toStr
noncomputable def R : ByteArray → Option Bool := RR gd md
theorem R_eq {a0} (h : gd a0) : R a0 = some (md a0) := RR_eq (a := a0) h
noncomputable def con : Con := CN pats res acc R
theorem okF (a0 : ByteArray) (hg : gd a0) : ∃ n, start (iter step n) a0 = ret ((md a0) : Bool) := by
  unfold gd at hg
  have H0 := hg
  unfold start md
  try simp only [S0]
  refine ex_call_to (spec_l1In.md (a0.size : Int) 1 8) (spec_l1In.R_eq (a0 := (a0.size : Int)) (a1 := 1) (a2 := 8) trivial) ?_
  refine ex_bif ret (fun _ => ⟨0, rfl⟩) (fun c1 => ?_)
  have dc1 := c1
  try simp only [DC] at dc1
  have Dc1 := c1
  try simp [spec_l1In.md] at Dc1
  refine ex_yes (by
      have := H0
      refine decide_eq_true ?_
      try simp (disch := omega) only [LN, wi]
      first | omega | (simp; done) | (simp; omega)) ?_
  refine ex_bif ret (fun _ => ⟨0, rfl⟩) (fun c2 => ?_)
  have dc2 := c2
  try simp only [DC] at dc2
  refine ex_yes (by
      have := H0
      refine decide_eq_true ?_
      try simp (disch := omega) only [LN, wi]
      first | omega | (simp; done) | (simp; omega)) ?_
  refine ex_yes (by
      have := H0
      refine decide_eq_true ?_
      try simp (disch := omega) only [LN, wi]
      first | omega | (simp; done) | (simp; omega)) ?_
  refine ex_bif ret (fun _ => ⟨0, rfl⟩) (fun c3 => ?_)
  have dc3 := c3
  try simp only [DC] at dc3
  have Bh5 : a0.size ≤ maxLen := (by
      have := H0
      try simp only [maxLen] at *
      omega)
  refine ex_pt (p := Pt.p0 a0 0) (by first | rfl | (simp only [S0, MP]; done) | (simp only [MP]; rfl)) ?_
  refine loopM_ok (pt := fun (i4 : Nat) (s6 : Unit) => Pt.p0 a0 (i4 : Int)) (s := (() : Unit)) (out := ret) (fun _ _ => True) (fun J i4 s6 h5 hih5 => ?_) (fun s6 hih5 => ?_) trivial
  · simp only [step, S0]
    have bb_ := Bh5
    simp only [maxLen] at bb_
    have := H0
    refine Rnd.yes (by apply decide_eq_true; omega) ?_
    refine Rnd.yes zle_dec ?_
    refine Rnd.yes (lt_dec h5) ?_
    refine Rnd.bif (fun c7 => ?_) (fun c7 => ?_)
    · refine Rnd.yes zle_dec ?_
      refine Rnd.yes (lt_dec h5) ?_
      refine Rnd.bif (fun c8 => ?_) (fun c8 => ?_)
      · refine Rnd.yes zle_dec ?_
        refine Rnd.yes (lt_dec h5) ?_
        refine Rnd.bif (fun _ => Rnd.inr rfl) (fun c9 => ?_)
        refine Rnd.inl trivial ?_
        rw [wrap_succ h5 Bh5]
        all_goals first | rfl | (simp only [S0, MP]; first | done | rfl)
      · refine Rnd.yes zle_dec ?_
        refine Rnd.yes (lt_dec h5) ?_
        refine Rnd.bif (fun c10 => ?_) (fun c10 => ?_)
        · refine Rnd.yes zle_dec ?_
          refine Rnd.yes (lt_dec h5) ?_
          refine Rnd.bif (fun _ => Rnd.inr rfl) (fun c11 => ?_)
          refine Rnd.inl trivial ?_
          rw [wrap_succ h5 Bh5]
          all_goals first | rfl | (simp only [S0, MP]; first | done | rfl)
        · refine Rnd.inl trivial ?_
          rw [wrap_succ h5 Bh5]
          all_goals first | rfl | (simp only [S0, MP]; first | done | rfl)
    · refine Rnd.yes zle_dec ?_
      refine Rnd.yes (lt_dec h5) ?_
      refine Rnd.bif (fun c12 => ?_) (fun c12 => ?_)
      · refine Rnd.yes zle_dec ?_
        refine Rnd.yes (lt_dec h5) ?_
        refine Rnd.bif (fun c13 => ?_) (fun c13 => ?_)
        · refine Rnd.yes zle_dec ?_
          refine Rnd.yes (lt_dec h5) ?_
          refine Rnd.bif (fun _ => Rnd.inr rfl) (fun c14 => ?_)
          refine Rnd.inl trivial ?_
          rw [wrap_succ h5 Bh5]
          all_goals first | rfl | (simp only [S0, MP]; first | done | rfl)
        · refine Rnd.yes zle_dec ?_
          refine Rnd.yes (lt_dec h5) ?_
          refine Rnd.bif (fun c15 => ?_) (fun c15 => ?_)
          · refine Rnd.yes zle_dec ?_
            refine Rnd.yes (lt_dec h5) ?_
            refine Rnd.bif (fun _ => Rnd.inr rfl) (fun c16 => ?_)
            refine Rnd.inl trivial ?_
            rw [wrap_succ h5 Bh5]
            all_goals first | rfl | (simp only [S0, MP]; first | done | rfl)
          · refine Rnd.inl trivial ?_
            rw [wrap_succ h5 Bh5]
            all_goals first | rfl | (simp only [S0, MP]; first | done | rfl)
      · refine Rnd.inl trivial ?_
        rw [wrap_succ h5 Bh5]
        all_goals first | rfl | (simp only [S0, MP]; first | done | rfl)
  · simp only [step, S0]
    have := H0
    refine ex_no (by apply decide_eq_false; omega) ?_
    refine ⟨0, ?_⟩
    all_goals first | rfl | (simp only [S0, MP]; first | done | rfl)
theorem valid_ : Valid Try.prog Ev 132 con := VV (run := fun n x => start (iter step n) x) mix tab_ok (.cons spec_l1In.valid_ .nil) Try.func132 (by kernel_rfl) run_eq (fun _ a _ _ hg => okF a hg)
end spec_IsLabel
/-! spec.IsPath -/
namespace spec_IsPath
inductive Pt where
  | p0 (a : List (List L)) (b : Int)
def pid : Pt → Nat
  | .p0 .. => 2
def pvs : Pt → List V
  | .p0 a b => [.sl none 9 a, .int .i64 b]
def phs : Pt → List Root
  | .p0 a b => []
noncomputable def step (J : Pt → Ans) : Pt → Ans
  | .p0 a b => (bif (decide (b < (a.length : Int))) then (bif (decide ((0 : Int) ≤ b)) then (bif (decide (b < (a.length : Int))) then (call (spec_IsLabel.R (sAt a (Int.toNat b))) fun v1 => (bif (!v1) then ret (false : Bool) else J (.p0 a (IntKind.i64.wrap (b + 1))))) else none) else none) else (call (spec_l1In.R ((a.length : Int), 1, 4)) fun v2 => ret (v2 : Bool)))
noncomputable def start (J : Pt → Ans) (x0 : List (List L)) : Ans := J (.p0 x0 0)
def live : Nat → Live := fun i => match i with | 2 => [(0, none), (3, none)] | _ => []
def pats : List Pat := [.rd (.sl 9)]
def res : RP := .one (.rd (.bool))
noncomputable abbrev E : Env := ⟨assoc Tab, conG [(132, spec_IsLabel.con), (133, spec_l1In.con)], 19⟩
set_option maxRecDepth 100000
theorem step_eq (I : Heads) (p : Pt) : enterC E live I (pid p) (bodyOf Try.f81) (stOf (live (pid p)) (pvs p) (phs p)) (doneK E Try.f81 res) = step (fun q => I (pid q) (pvs q) (phs q)) p := by
  cases p <;> kernel_rfl
theorem start_eq (I : Heads) (ls : List L) : runC E live I (bodyOf Try.f81) (initS pats ls) (doneK E Try.f81 res) = start (fun q => I (pid q) (pvs q) (phs q)) (ls.headD .hole).toSl := by kernel_rfl
theorem run_eq (n : Nat) (ls : List L) : runF E live Try.f81 res n (initS pats ls) = start (iter step n) (ls.headD .hole).toSl := runF_iter (id := pid) (vs := pvs) (hs := phs) (step := step) (start := fun J => start J (ls.headD .hole).toSl) step_eq (fun I => start_eq I ls) n
noncomputable def md (a0 : List ByteArray) : Bool := (eachM (S := Unit) (β := Bool) (fun (y1 : ByteArray) (s3 : Unit) => (bif (!(spec_IsLabel.md y1)) then (.inr (false : Bool)) else (.inl ()))) (fun (s3 : Unit) => ((spec_l1In.md (a0.length : Int) 1 4) : Bool)) a0 ())
def gd (a0 : List ByteArray) : Prop := (SmL (2 ^ 21) (fun y : ByteArray => y.size ≤ (2 ^ 21)) a0)
def acc (ls : List L) : List (List L) := (ls.headD .hole).toSl
noncomputable def R : (List (List L)) → Option Bool := RR gd md
theorem R_eq {a0} (h : gd a0) : R (a0.map sRow) = some (md a0) := RR_eq (a := a0) h
noncomputable def con : Con := CN pats res acc R
theorem okF (a0 : List ByteArray) (hg : gd a0) : ∃ n, start (iter step n) (a0.map sRow) = ret ((md a0) : Bool) := by
  unfold gd at hg
  have H0 := hg
  unfold start md
  try simp only [S0]
  have Bh2 : a0.length ≤ maxLen := (by
      have := (H0).1
      try simp only [maxLen] at *
      omega)
  refine ex_eq (out := ret) (loopM_eachM (z := ⟨#[]⟩)) ?_
  refine ex_pt (p := Pt.p0 (a0.map sRow) 0) (by first | rfl | (simp only [S0, MP]; done) | (simp only [MP]; rfl)) ?_
  refine loopM_ok (pt := fun (i1 : Nat) (s3 : Unit) => Pt.p0 (a0.map sRow) (i1 : Int)) (s := (() : Unit)) (out := ret) (fun _ _ => True) (fun J i1 s3 h2 hih2 => ?_) (fun s3 hih2 => ?_) trivial
  · simp only [step, S0]
    have bb_ := Bh2
    simp only [maxLen] at bb_
    have := (H0).1
    refine Rnd.yes (by apply decide_eq_true; omega) ?_
    refine Rnd.yes zle_dec ?_
    refine Rnd.yes (lt_dec h2) ?_
    refine Rnd.call_to (spec_IsLabel.md (a0.getD i1 ⟨#[]⟩)) (spec_IsLabel.R_eq (a0 := (a0.getD i1 ⟨#[]⟩)) (SmL.getD (z := ⟨#[]⟩) H0 h2)) ?_
    refine Rnd.bif (fun _ => Rnd.inr rfl) (fun c4 => ?_)
    refine Rnd.inl trivial ?_
    rw [wrap_succ h2 Bh2]
    all_goals first | rfl | (simp only [S0, MP]; first | done | rfl)
  · simp only [step, S0]
    have := (H0).1
    refine ex_no (by apply decide_eq_false; omega) ?_
    refine ex_call_to (spec_l1In.md (a0.length : Int) 1 4) (spec_l1In.R_eq (a0 := (a0.length : Int)) (a1 := 1) (a2 := 4) trivial) ?_
    refine ⟨0, ?_⟩
    all_goals first | rfl | (simp only [S0, MP]; first | done | rfl)
theorem valid_ : Valid Try.prog Ev 81 con := VV (run := fun n x => start (iter step n) x) mix tab_ok (.cons spec_IsLabel.valid_ (.cons spec_l1In.valid_ .nil)) Try.func81 (by kernel_rfl) run_eq (fun _ a _ _ hg => okF a hg)
end spec_IsPath
/-! spec.IsEntry -/
namespace spec_IsEntry
noncomputable def F (x0 : REntry) : Ans := (bif (x0.fKind == 1) then (call (spec_IsLabel.R x0.fLabel) fun v1 => (bif v1 then (call (spec_l1In.R (x0.fValue, 0, 999999)) fun v2 => (bif v2 then ret (((x0.fPath.length : Int) == 0) : Bool) else ret (false : Bool))) else ret (false : Bool))) else (bif (x0.fKind == 2) then (call (spec_IsLabel.R x0.fLabel) fun v3 => (bif v3 then (call (spec_l1In.R (x0.fValue, 0, 2147483646)) fun v4 => (bif v4 then ret (((x0.fPath.length : Int) == 0) : Bool) else ret (false : Bool))) else ret (false : Bool))) else (bif (x0.fKind == 3) then (call (spec_IsLabel.R x0.fLabel) fun v5 => (bif v5 then (call (spec_l1In.R (x0.fValue, 0, 2147483646)) fun v6 => (bif v6 then (call (spec_IsPath.R x0.fPath) fun v7 => ret (v7 : Bool)) else ret (false : Bool))) else ret (false : Bool))) else ret (false : Bool))))
def pats : List Pat := [.agg [.str, .int .i64, .int .i64, .sl 9]]
def res : RP := .one (.rd (.bool))
noncomputable abbrev E : Env := ⟨assoc Tab, conG [(132, spec_IsLabel.con), (133, spec_l1In.con), (81, spec_IsPath.con)], 52⟩
set_option maxRecDepth 100000
theorem run_eq (n : Nat) (ls : List L) : runF E (fun _ => []) Try.f82 res n (initS pats ls) = F (REntry.dec ls) := by kernel_rfl
noncomputable def md (a0 : MEntry) : Bool := (bif (a0.fKind == 1) then (bif (spec_IsLabel.md a0.fLabel) then (bif (spec_l1In.md a0.fValue 0 999999) then (((a0.fPath.length : Int) == 0) : Bool) else (false : Bool)) else (false : Bool)) else (bif (a0.fKind == 2) then (bif (spec_IsLabel.md a0.fLabel) then (bif (spec_l1In.md a0.fValue 0 2147483646) then (((a0.fPath.length : Int) == 0) : Bool) else (false : Bool)) else (false : Bool)) else (bif (a0.fKind == 3) then (bif (spec_IsLabel.md a0.fLabel) then (bif (spec_l1In.md a0.fValue 0 2147483646) then ((spec_IsPath.md a0.fPath) : Bool) else (false : Bool)) else (false : Bool)) else (false : Bool))))
def gd (a0 : MEntry) : Prop := (MEntry.Sm (2 ^ 21) a0)
def acc (ls : List L) : REntry := (REntry.dec ls)
noncomputable def R : REntry → Option Bool := RR gd md
theorem R_eq {a0} (h : gd a0) : R (MEntry.r a0) = some (md a0) := RR_eq (a := a0) h
noncomputable def con : Con := CN pats res acc R
theorem okF (a0 : MEntry) (hg : gd a0) : F (MEntry.r a0) = ret ((md a0) : Bool) := by
  unfold gd at hg
  have H0 := hg
  unfold F md
  try simp only [S0, MEntry.rs]
  refine bif_out ret (fun c1 => ?_) (fun c1 => ?_)
  · refine call_to (spec_IsLabel.md a0.fLabel) (spec_IsLabel.R_eq (a0 := a0.fLabel) H0.1) ?_
    refine bif_out ret (fun c2 => ?_) (fun _ => rfl)
    refine call_to (spec_l1In.md a0.fValue 0 999999) (spec_l1In.R_eq (a0 := a0.fValue) (a1 := 0) (a2 := 999999) trivial) ?_
    refine bif_out ret (fun c3 => ?_) (fun _ => rfl)
    all_goals first | rfl | (simp only [S0, MEntry.rs, MP]; first | done | rfl)
  · refine bif_out ret (fun c4 => ?_) (fun c4 => ?_)
    · refine call_to (spec_IsLabel.md a0.fLabel) (spec_IsLabel.R_eq (a0 := a0.fLabel) H0.1) ?_
      refine bif_out ret (fun c5 => ?_) (fun _ => rfl)
      refine call_to (spec_l1In.md a0.fValue 0 2147483646) (spec_l1In.R_eq (a0 := a0.fValue) (a1 := 0) (a2 := 2147483646) trivial) ?_
      refine bif_out ret (fun c6 => ?_) (fun _ => rfl)
      all_goals first | rfl | (simp only [S0, MEntry.rs, MP]; first | done | rfl)
    · refine bif_out ret (fun c7 => ?_) (fun _ => rfl)
      refine call_to (spec_IsLabel.md a0.fLabel) (spec_IsLabel.R_eq (a0 := a0.fLabel) H0.1) ?_
      refine bif_out ret (fun c8 => ?_) (fun _ => rfl)
      refine call_to (spec_l1In.md a0.fValue 0 2147483646) (spec_l1In.R_eq (a0 := a0.fValue) (a1 := 0) (a2 := 2147483646) trivial) ?_
      refine bif_out ret (fun c9 => ?_) (fun _ => rfl)
      refine call_to (spec_IsPath.md a0.fPath) (spec_IsPath.R_eq (a0 := a0.fPath) H0.2) ?_
      all_goals first | rfl | (simp only [S0, MEntry.rs, MP]; first | done | rfl)
theorem valid_ : Valid Try.prog Ev 82 con := VV (run := fun _ x => F x) mix tab_ok (.cons spec_IsLabel.valid_ (.cons spec_l1In.valid_ (.cons spec_IsPath.valid_ .nil))) Try.func82 (by kernel_rfl) run_eq (fun _ a _ _ hg => ⟨0, okF a hg⟩)
end spec_IsEntry
/-! spec.SamePath -/
namespace spec_SamePath
inductive Pt where
  | p0 (a : List (List L)) (b : List (List L)) (c : Int)
def pid : Pt → Nat
  | .p0 .. => 4
def pvs : Pt → List V
  | .p0 a b c => [.sl none 9 a, .sl none 9 b, .int .i64 c]
def phs : Pt → List Root
  | .p0 a b c => []
noncomputable def step (J : Pt → Ans) : Pt → Ans
  | .p0 a b c => (bif (decide (c < (a.length : Int))) then (bif (decide ((0 : Int) ≤ c)) then (bif (decide (c < (a.length : Int))) then (bif (decide ((0 : Int) ≤ c)) then (bif (decide (c < (b.length : Int))) then (bif (!((sAt a (Int.toNat c)) == (sAt b (Int.toNat c)))) then ret (false : Bool) else J (.p0 a b (IntKind.i64.wrap (c + 1)))) else none) else none) else none) else none) else ret (true : Bool))
noncomputable def start (J : Pt → Ans) (x0 : List (List L)) (x1 : List (List L)) : Ans := (bif ((x0.length : Int) != (x1.length : Int)) then ret (false : Bool) else J (.p0 x0 x1 0))
def live : Nat → Live := fun i => match i with | 4 => [(0, none), (1, none), (5, none)] | _ => []
def pats : List Pat := [.rd (.sl 9), .rd (.sl 9)]
def res : RP := .one (.rd (.bool))
noncomputable abbrev E : Env := ⟨assoc Tab, conG [], 26⟩
set_option maxRecDepth 100000
theorem step_eq (I : Heads) (p : Pt) : enterC E live I (pid p) (bodyOf Try.f120) (stOf (live (pid p)) (pvs p) (phs p)) (doneK E Try.f120 res) = step (fun q => I (pid q) (pvs q) (phs q)) p := by
  cases p <;> kernel_rfl
theorem start_eq (I : Heads) (ls : List L) : runC E live I (bodyOf Try.f120) (initS pats ls) (doneK E Try.f120 res) = start (fun q => I (pid q) (pvs q) (phs q)) (ls.headD .hole).toSl ((dropT 1 ls).headD .hole).toSl := by kernel_rfl
theorem run_eq (n : Nat) (ls : List L) : runF E live Try.f120 res n (initS pats ls) = start (iter step n) (ls.headD .hole).toSl ((dropT 1 ls).headD .hole).toSl := runF_iter (id := pid) (vs := pvs) (hs := phs) (step := step) (start := fun J => start J (ls.headD .hole).toSl ((dropT 1 ls).headD .hole).toSl) step_eq (fun I => start_eq I ls) n
noncomputable def md (a0 : List ByteArray) (a1 : List ByteArray) : Bool := (bif ((a0.length : Int) != (a1.length : Int)) then (false : Bool) else (loopM (S := Unit) (β := Bool) (fun (i2 : Nat) (s4 : Unit) => (bif (!((a0.getD i2 ⟨#[]⟩) == (a1.getD i2 ⟨#[]⟩))) then (.inr (false : Bool)) else (.inl ()))) (fun (s4 : Unit) => (true : Bool)) a0.length 0 ()))
def gd (a0 : List ByteArray) (a1 : List ByteArray) : Prop := (SmL (2 ^ 21) (fun y : ByteArray => y.size ≤ (2 ^ 21)) a0) ∧ (SmL (2 ^ 21) (fun y : ByteArray => y.size ≤ (2 ^ 21)) a1)
def acc (ls : List L) : List (List L) × List (List L) := ((ls.headD .hole).toSl, ((dropT 1 ls).headD .hole).toSl)
noncomputable def R : (List (List L) × List (List L)) → Option Bool := RR (p2 gd) (u2 md)
theorem R_eq {a0} {a1} (h : gd a0 a1) : R ((a0.map sRow), (a1.map sRow)) = some (md a0 a1) := RR_eq (a := (a0, a1)) h
noncomputable def con : Con := CN pats res acc R
theorem okF (a0 : List ByteArray) (a1 : List ByteArray) (hg : gd a0 a1) : ∃ n, start (iter step n) (a0.map sRow) (a1.map sRow) = ret ((md a0 a1) : Bool) := by
  unfold gd at hg
  obtain ⟨H0, H1⟩ := hg
  unfold start md
  try simp only [S0]
  refine ex_bif ret (fun _ => ⟨0, rfl⟩) (fun c1 => ?_)
  have dc1 := c1
  try simp only [DC] at dc1
  have Bh3 : a0.length ≤ maxLen := (by
      have := (H0).1
      try simp only [maxLen] at *
      omega)
  refine ex_pt (p := Pt.p0 (a0.map sRow) (a1.map sRow) 0) (by first | rfl | (simp only [S0, MP]; done) | (simp only [MP]; rfl)) ?_
  refine loopM_ok (pt := fun (i2 : Nat) (s4 : Unit) => Pt.p0 (a0.map sRow) (a1.map sRow) (i2 : Int)) (s := (() : Unit)) (out := ret) (fun _ _ => True) (fun J i2 s4 h3 hih3 => ?_) (fun s4 hih3 => ?_) trivial
  · simp only [step, S0]
    have bb_ := Bh3
    simp only [maxLen] at bb_
    have := (H0).1
    refine Rnd.yes (by apply decide_eq_true; omega) ?_
    refine Rnd.yes zle_dec ?_
    refine Rnd.yes (lt_dec h3) ?_
    refine Rnd.yes zle_dec ?_
    refine Rnd.yes (by
        have := (H1).1
        refine decide_eq_true ?_
        try simp (disch := omega) only [LN, wi]
        first | omega | (simp; done) | (simp; omega)) ?_
    refine Rnd.bif (fun _ => Rnd.inr rfl) (fun c5 => ?_)
    refine Rnd.inl trivial ?_
    rw [wrap_succ h3 Bh3]
    all_goals first | rfl | (simp only [S0, MP]; first | done | rfl)
  · simp only [step, S0]
    have := (H0).1
    refine ex_no (by apply decide_eq_false; omega) ?_
    refine ⟨0, ?_⟩
    all_goals first | rfl | (simp only [S0, MP]; first | done | rfl)
theorem valid_ : Valid Try.prog Ev 120 con := VV (run := fun n x => start (iter step n) x.1 x.2) mix tab_ok .nil Try.func120 (by kernel_rfl) run_eq (fun _ a _ _ hg => okF a.1 a.2 hg)
theorem md_eq (a0 : List ByteArray) (a1 : List ByteArray) : md a0 a1 = eqB a0 a1 := by
  unfold md
  refine loop_eqB (⟨#[]⟩) (fun i s h h2 => ?_) (fun s => rfl)
  simp only [bne, int_beq, bool_beq, ba_beq]
  cases eqB _ _ <;> rfl
end spec_SamePath
/-! spec.l30Find -/
namespace spec_l30Find
inductive Pt where
  | p0 (a : List (List L)) (b : List (List L)) (c : Int)
def pid : Pt → Nat
  | .p0 .. => 2
def pvs : Pt → List V
  | .p0 a b c => [.sl none 128 a, .sl none 9 b, .int .i64 c]
def phs : Pt → List Root
  | .p0 a b c => []
noncomputable def step (J : Pt → Ans) : Pt → Ans
  | .p0 a b c => (bif (decide (c < (a.length : Int))) then (bif (decide ((0 : Int) ≤ c)) then (bif (decide (c < (a.length : Int))) then (call (spec_SamePath.R ((RChoice.at a (Int.toNat c)).fPath, b)) fun v1 => (bif v1 then ret (c : Int) else J (.p0 a b (IntKind.i64.wrap (c + 1))))) else none) else none) else ret ((-1) : Int))
noncomputable def start (J : Pt → Ans) (x0 : List (List L)) (x1 : List (List L)) : Ans := J (.p0 x0 x1 0)
def live : Nat → Live := fun i => match i with | 2 => [(0, none), (1, none), (5, none)] | _ => []
def pats : List Pat := [.rd (.sl 128), .rd (.sl 9)]
def res : RP := .one (.rd (.int .i64))
noncomputable abbrev E : Env := ⟨assoc Tab, conG [(120, spec_SamePath.con)], 20⟩
set_option maxRecDepth 100000
theorem step_eq (I : Heads) (p : Pt) : enterC E live I (pid p) (bodyOf Try.f83) (stOf (live (pid p)) (pvs p) (phs p)) (doneK E Try.f83 res) = step (fun q => I (pid q) (pvs q) (phs q)) p := by
  cases p <;> kernel_rfl
theorem start_eq (I : Heads) (ls : List L) : runC E live I (bodyOf Try.f83) (initS pats ls) (doneK E Try.f83 res) = start (fun q => I (pid q) (pvs q) (phs q)) (ls.headD .hole).toSl ((dropT 1 ls).headD .hole).toSl := by kernel_rfl
theorem run_eq (n : Nat) (ls : List L) : runF E live Try.f83 res n (initS pats ls) = start (iter step n) (ls.headD .hole).toSl ((dropT 1 ls).headD .hole).toSl := runF_iter (id := pid) (vs := pvs) (hs := phs) (step := step) (start := fun J => start J (ls.headD .hole).toSl ((dropT 1 ls).headD .hole).toSl) step_eq (fun I => start_eq I ls) n
noncomputable def md (a0 : List MChoice) (a1 : List ByteArray) : Int := (eachI (S := Unit) (β := Int) (fun (i1 : Nat) (y1 : MChoice) (s3 : Unit) => (bif (spec_SamePath.md (y1.fPath) a1) then (.inr ((i1 : Int) : Int)) else (.inl ()))) (fun (s3 : Unit) => ((-1) : Int)) 0 a0 ())
def gd (a0 : List MChoice) (a1 : List ByteArray) : Prop := (SmL (2 ^ 21) (fun y : MChoice => MChoice.Sm (2 ^ 21) y) a0) ∧ (SmL (2 ^ 21) (fun y : ByteArray => y.size ≤ (2 ^ 21)) a1)
def acc (ls : List L) : List (List L) × List (List L) := ((ls.headD .hole).toSl, ((dropT 1 ls).headD .hole).toSl)
noncomputable def R : (List (List L) × List (List L)) → Option Int := RR (p2 gd) (u2 md)
theorem R_eq {a0} {a1} (h : gd a0 a1) : R ((a0.map MChoice.row), (a1.map sRow)) = some (md a0 a1) := RR_eq (a := (a0, a1)) h
noncomputable def con : Con := CN pats res acc R
theorem okF (a0 : List MChoice) (a1 : List ByteArray) (hg : gd a0 a1) : ∃ n, start (iter step n) (a0.map MChoice.row) (a1.map sRow) = ret ((md a0 a1) : Int) := by
  unfold gd at hg
  obtain ⟨H0, H1⟩ := hg
  unfold start md
  try simp only [S0, MEntry.rs, MChoice.rs]
  have Bh2 : a0.length ≤ maxLen := (by
      have := (H0).1
      try simp only [maxLen] at *
      omega)
  refine ex_eq (out := ret) (loopM_eachI (z := MChoice.zero)) ?_
  refine ex_pt (p := Pt.p0 (a0.map MChoice.row) (a1.map sRow) 0) (by first | rfl | (simp only [S0, MEntry.rs, MChoice.rs, MP]; done) | (simp only [MP]; rfl)) ?_
  refine loopM_ok (pt := fun (i1 : Nat) (s3 : Unit) => Pt.p0 (a0.map MChoice.row) (a1.map sRow) (i1 : Int)) (s := (() : Unit)) (out := ret) (fun _ _ => True) (fun J i1 s3 h2 hih2 => ?_) (fun s3 hih2 => ?_) trivial
  · simp only [step, S0, MEntry.rs, MChoice.rs]
    have bb_ := Bh2
    simp only [maxLen] at bb_
    have := (H0).1
    refine Rnd.yes (by apply decide_eq_true; omega) ?_
    refine Rnd.yes zle_dec ?_
    refine Rnd.yes (lt_dec h2) ?_
    refine Rnd.call_to (spec_SamePath.md ((a0.getD i1 MChoice.zero).fPath) a1) (spec_SamePath.R_eq (a0 := (a0.getD i1 MChoice.zero).fPath) (a1 := a1) ⟨(SmL.getD (z := MChoice.zero) H0 h2).1, H1⟩) ?_
    refine Rnd.bif (fun c4 => ?_) (fun c4 => ?_)
    · refine Rnd.inr ?_
      all_goals first | rfl | (simp only [S0, MEntry.rs, MChoice.rs, MP]; first | done | rfl)
    · refine Rnd.inl trivial ?_
      rw [wrap_succ h2 Bh2]
      all_goals first | rfl | (simp only [S0, MEntry.rs, MChoice.rs, MP]; first | done | rfl)
  · simp only [step, S0, MEntry.rs, MChoice.rs]
    have := (H0).1
    refine ex_no (by apply decide_eq_false; omega) ?_
    refine ⟨0, ?_⟩
    all_goals first | rfl | (simp only [S0, MEntry.rs, MChoice.rs, MP]; first | done | rfl)
theorem valid_ : Valid Try.prog Ev 83 con := VV (run := fun n x => start (iter step n) x.1 x.2) mix tab_ok (.cons spec_SamePath.valid_ .nil) Try.func83 (by kernel_rfl) run_eq (fun _ a _ _ hg => okF a.1 a.2 hg)
end spec_l30Find
/-! spec.AreChoices -/
namespace spec_AreChoices
inductive Pt where
  | p0 (a : List (List L)) (b : Int)
def pid : Pt → Nat
  | .p0 .. => 2
def pvs : Pt → List V
  | .p0 a b => [.sl none 128 a, .int .i64 b]
def phs : Pt → List Root
  | .p0 a b => []
noncomputable def step (J : Pt → Ans) : Pt → Ans
  | .p0 a b => (bif (decide (b < (a.length : Int))) then (bif (decide ((0 : Int) ≤ b)) then (bif (decide (b < (a.length : Int))) then (call (spec_IsPath.R ((RChoice.at a (Int.toNat b)).fPath)) fun v1 => (bif (!v1) then ret (false : Bool) else (bif (decide ((0 : Int) ≤ b)) then (bif (decide (b < (a.length : Int))) then (call (spec_IsEntry.R ((RChoice.at a (Int.toNat b)).fEntry)) fun v2 => (bif (!v2) then ret (false : Bool) else (bif (decide ((0 : Int) ≤ b)) then (bif (decide (b < (a.length : Int))) then (call (spec_l30Find.R (a, (RChoice.at a (Int.toNat b)).fPath)) fun v3 => (bif (v3 != b) then ret (false : Bool) else J (.p0 a (IntKind.i64.wrap (b + 1))))) else none) else none))) else none) else none))) else none) else none) else ret ((decide ((a.length : Int) ≤ 8)) : Bool))
noncomputable def start (J : Pt → Ans) (x0 : List (List L)) : Ans := J (.p0 x0 0)
def live : Nat → Live := fun i => match i with | 2 => [(0, none), (3, none)] | _ => []
def pats : List Pat := [.rd (.sl 128)]
def res : RP := .one (.rd (.bool))
noncomputable abbrev E : Env := ⟨assoc Tab, conG [(81, spec_IsPath.con), (82, spec_IsEntry.con), (83, spec_l30Find.con)], 40⟩
set_option maxRecDepth 100000
theorem step_eq (I : Heads) (p : Pt) : enterC E live I (pid p) (bodyOf Try.f28) (stOf (live (pid p)) (pvs p) (phs p)) (doneK E Try.f28 res) = step (fun q => I (pid q) (pvs q) (phs q)) p := by
  cases p <;> kernel_rfl
theorem start_eq (I : Heads) (ls : List L) : runC E live I (bodyOf Try.f28) (initS pats ls) (doneK E Try.f28 res) = start (fun q => I (pid q) (pvs q) (phs q)) (ls.headD .hole).toSl := by kernel_rfl
theorem run_eq (n : Nat) (ls : List L) : runF E live Try.f28 res n (initS pats ls) = start (iter step n) (ls.headD .hole).toSl := runF_iter (id := pid) (vs := pvs) (hs := phs) (step := step) (start := fun J => start J (ls.headD .hole).toSl) step_eq (fun I => start_eq I ls) n
noncomputable def md (a0 : List MChoice) : Bool := (eachI (S := Unit) (β := Bool) (fun (i1 : Nat) (y1 : MChoice) (s3 : Unit) => (bif (!(spec_IsPath.md (y1.fPath))) then (.inr (false : Bool)) else (bif (!(spec_IsEntry.md (y1.fEntry))) then (.inr (false : Bool)) else (bif ((spec_l30Find.md a0 (y1.fPath)) != (i1 : Int)) then (.inr (false : Bool)) else (.inl ()))))) (fun (s3 : Unit) => ((decide ((a0.length : Int) ≤ 8)) : Bool)) 0 a0 ())
def gd (a0 : List MChoice) : Prop := (SmL (2 ^ 21) (fun y : MChoice => MChoice.Sm (2 ^ 21) y) a0)
def acc (ls : List L) : List (List L) := (ls.headD .hole).toSl
noncomputable def R : (List (List L)) → Option Bool := RR gd md
theorem R_eq {a0} (h : gd a0) : R (a0.map MChoice.row) = some (md a0) := RR_eq (a := a0) h
noncomputable def con : Con := CN pats res acc R
theorem okF (a0 : List MChoice) (hg : gd a0) : ∃ n, start (iter step n) (a0.map MChoice.row) = ret ((md a0) : Bool) := by
  unfold gd at hg
  have H0 := hg
  unfold start md
  try simp only [S0, MEntry.rs, MChoice.rs]
  have Bh2 : a0.length ≤ maxLen := (by
      have := (H0).1
      try simp only [maxLen] at *
      omega)
  refine ex_eq (out := ret) (loopM_eachI (z := MChoice.zero)) ?_
  refine ex_pt (p := Pt.p0 (a0.map MChoice.row) 0) (by first | rfl | (simp only [S0, MEntry.rs, MChoice.rs, MP]; done) | (simp only [MP]; rfl)) ?_
  refine loopM_ok (pt := fun (i1 : Nat) (s3 : Unit) => Pt.p0 (a0.map MChoice.row) (i1 : Int)) (s := (() : Unit)) (out := ret) (fun _ _ => True) (fun J i1 s3 h2 hih2 => ?_) (fun s3 hih2 => ?_) trivial
  · simp only [step, S0, MEntry.rs, MChoice.rs]
    have bb_ := Bh2
    simp only [maxLen] at bb_
    have := (H0).1
    refine Rnd.yes (by apply decide_eq_true; omega) ?_
    refine Rnd.yes zle_dec ?_
    refine Rnd.yes (lt_dec h2) ?_
    refine Rnd.call_to (spec_IsPath.md ((a0.getD i1 MChoice.zero).fPath)) (spec_IsPath.R_eq (a0 := (a0.getD i1 MChoice.zero).fPath) (SmL.getD (z := MChoice.zero) H0 h2).1) ?_
    refine Rnd.bif (fun _ => Rnd.inr rfl) (fun c4 => ?_)
    refine Rnd.yes zle_dec ?_
    refine Rnd.yes (lt_dec h2) ?_
    refine Rnd.call_to (spec_IsEntry.md ((a0.getD i1 MChoice.zero).fEntry)) (spec_IsEntry.R_eq (a0 := (a0.getD i1 MChoice.zero).fEntry) (SmL.getD (z := MChoice.zero) H0 h2).2) ?_
    refine Rnd.bif (fun _ => Rnd.inr rfl) (fun c5 => ?_)
    refine Rnd.yes zle_dec ?_
    refine Rnd.yes (lt_dec h2) ?_
    refine Rnd.call_to (spec_l30Find.md a0 ((a0.getD i1 MChoice.zero).fPath)) (spec_l30Find.R_eq (a0 := a0) (a1 := (a0.getD i1 MChoice.zero).fPath) ⟨H0, (SmL.getD (z := MChoice.zero) H0 h2).1⟩) ?_
    refine Rnd.bif (fun _ => Rnd.inr rfl) (fun c6 => ?_)
    refine Rnd.inl trivial ?_
    rw [wrap_succ h2 Bh2]
    all_goals first | rfl | (simp only [S0, MEntry.rs, MChoice.rs, MP]; first | done | rfl)
  · simp only [step, S0, MEntry.rs, MChoice.rs]
    have := (H0).1
    refine ex_no (by apply decide_eq_false; omega) ?_
    refine ⟨0, ?_⟩
    all_goals first | rfl | (simp only [S0, MEntry.rs, MChoice.rs, MP]; first | done | rfl)
theorem valid_ : Valid Try.prog Ev 28 con := VV (run := fun n x => start (iter step n) x) mix tab_ok (.cons spec_IsPath.valid_ (.cons spec_IsEntry.valid_ (.cons spec_l30Find.valid_ .nil))) Try.func28 (by kernel_rfl) run_eq (fun _ a _ _ hg => okF a hg)
end spec_AreChoices
/-! impl.InRange -/
namespace impl_InRange
noncomputable def F (x0 : Int) (x1 : Int) (x2 : Int) : Ans := (bif (decide (x1 ≤ x0)) then ret ((decide (x0 ≤ x2)) : Bool) else ret (false : Bool))
def pats : List Pat := [.rd (.int .i64), .rd (.int .i64), .rd (.int .i64)]
def res : RP := .one (.rd (.bool))
noncomputable abbrev E : Env := ⟨assoc Tab, conG [], 15⟩
set_option maxRecDepth 100000
theorem run_eq (n : Nat) (ls : List L) : runF E (fun _ => []) Try.f134 res n (initS pats ls) = F (ls.headD .hole).toInt ((dropT 1 ls).headD .hole).toInt ((dropT 2 ls).headD .hole).toInt := by kernel_rfl
noncomputable def md (a0 : Int) (a1 : Int) (a2 : Int) : Bool := (bif (decide (a1 ≤ a0)) then ((decide (a0 ≤ a2)) : Bool) else (false : Bool))
def gd (a0 : Int) (a1 : Int) (a2 : Int) : Prop := True
def acc (ls : List L) : Int × Int × Int := ((ls.headD .hole).toInt, ((dropT 1 ls).headD .hole).toInt, ((dropT 2 ls).headD .hole).toInt)
noncomputable def R : (Int × Int × Int) → Option Bool := RR (p3 gd) (u3 md)
theorem R_eq {a0} {a1} {a2} (h : gd a0 a1 a2) : R (a0, a1, a2) = some (md a0 a1 a2) := RR_eq (a := (a0, a1, a2)) h
noncomputable def con : Con := CN pats res acc R
theorem okF (a0 : Int) (a1 : Int) (a2 : Int) (hg : gd a0 a1 a2) : F a0 a1 a2 = ret ((md a0 a1 a2) : Bool) := by
  unfold F md
  try simp only [S0]
  refine bif_out ret (fun c1 => ?_) (fun _ => rfl)
  all_goals first | rfl | (simp only [S0, MP]; first | done | rfl)
theorem valid_ : Valid Try.prog Ev 134 con := VV (run := fun _ x => F x.1 x.2.1 x.2.2) mix tab_ok .nil Try.func134 (by kernel_rfl) run_eq (fun _ a _ _ hg => ⟨0, okF a.1 a.2.1 a.2.2 hg⟩)
theorem br (a0 : Int) (a1 : Int) (a2 : Int) : md a0 a1 a2 = spec_l1In.md a0 a1 a2 := by
  unfold md spec_l1In.md
  first | rfl | (rw [Bool.eq_iff_iff]; simp)
end impl_InRange
/-! impl.IsLabel -/
namespace impl_IsLabel
inductive Pt where
  | p0 (a : ByteArray) (b : Int) (c : Int)
def pid : Pt → Nat
  | .p0 .. => 2
def pvs : Pt → List V
  | .p0 a b c => [.str a, .int .i64 b, .int .i64 c]
def phs : Pt → List Root
  | .p0 a b c => []
noncomputable def step (J : Pt → Ans) : Pt → Ans
  | .p0 a b c => (bif (decide (c < b)) then (bif (decide ((0 : Int) ≤ c)) then (bif (decide (c < (a.size : Int))) then (bif (decide ((chAt a (Int.toNat c)) ≥ 97)) then (bif (decide ((chAt a (Int.toNat c)) ≤ 122)) then J (.p0 a b (IntKind.i64.wrap (c + 1))) else (bif (decide ((chAt a (Int.toNat c)) ≥ 48)) then (bif (decide ((chAt a (Int.toNat c)) ≤ 57)) then J (.p0 a b (IntKind.i64.wrap (c + 1))) else (bif ((chAt a (Int.toNat c)) == 45) then (bif (decide (c > 0)) then (bif (!(decide (c < (IntKind.i64.wrap ((a.size : Int) - 1))))) then ret (false : Bool) else J (.p0 a b (IntKind.i64.wrap (c + 1)))) else ret (false : Bool)) else ret (false : Bool))) else (bif ((chAt a (Int.toNat c)) == 45) then (bif (decide (c > 0)) then (bif (!(decide (c < (IntKind.i64.wrap ((a.size : Int) - 1))))) then ret (false : Bool) else J (.p0 a b (IntKind.i64.wrap (c + 1)))) else ret (false : Bool)) else ret (false : Bool)))) else (bif (decide ((chAt a (Int.toNat c)) ≥ 48)) then (bif (decide ((chAt a (Int.toNat c)) ≤ 57)) then J (.p0 a b (IntKind.i64.wrap (c + 1))) else (bif ((chAt a (Int.toNat c)) == 45) then (bif (decide (c > 0)) then (bif (!(decide (c < (IntKind.i64.wrap ((a.size : Int) - 1))))) then ret (false : Bool) else J (.p0 a b (IntKind.i64.wrap (c + 1)))) else ret (false : Bool)) else ret (false : Bool))) else (bif ((chAt a (Int.toNat c)) == 45) then (bif (decide (c > 0)) then (bif (!(decide (c < (IntKind.i64.wrap ((a.size : Int) - 1))))) then ret (false : Bool) else J (.p0 a b (IntKind.i64.wrap (c + 1)))) else ret (false : Bool)) else ret (false : Bool)))) else none) else none) else (call (impl_InRange.R ((a.size : Int), 1, 8)) fun v1 => ret (v1 : Bool)))
noncomputable def start (J : Pt → Ans) (x0 : ByteArray) : Ans := J (.p0 x0 (x0.size : Int) 0)
def live : Nat → Live := fun i => match i with | 2 => [(0, none), (6, none), (7, none)] | _ => []
def pats : List Pat := [.rd (.str)]
def res : RP := .one (.rd (.bool))
noncomputable abbrev E : Env := ⟨assoc Tab, conG [(134, impl_InRange.con)], 47⟩
set_option maxRecDepth 100000
theorem step_eq (I : Heads) (p : Pt) : enterC E live I (pid p) (bodyOf Try.f137) (stOf (live (pid p)) (pvs p) (phs p)) (doneK E Try.f137 res) = step (fun q => I (pid q) (pvs q) (phs q)) p := by
  cases p <;> kernel_rfl
theorem start_eq (I : Heads) (ls : List L) : runC E live I (bodyOf Try.f137) (initS pats ls) (doneK E Try.f137 res) = start (fun q => I (pid q) (pvs q) (phs q)) (ls.headD .hole).toStr := by kernel_rfl
theorem run_eq (n : Nat) (ls : List L) : runF E live Try.f137 res n (initS pats ls) = start (iter step n) (ls.headD .hole).toStr := runF_iter (id := pid) (vs := pvs) (hs := phs) (step := step) (start := fun J => start J (ls.headD .hole).toStr) step_eq (fun I => start_eq I ls) n
noncomputable def md (a0 : ByteArray) : Bool := (loopM (S := Unit) (β := Bool) (fun (i1 : Nat) (s3 : Unit) => (bif (decide ((chAt a0 i1) ≥ 97)) then (bif (decide ((chAt a0 i1) ≤ 122)) then (.inl ()) else (bif (decide ((chAt a0 i1) ≥ 48)) then (bif (decide ((chAt a0 i1) ≤ 57)) then (.inl ()) else (bif ((chAt a0 i1) == 45) then (bif (decide ((i1 : Int) > 0)) then (bif (!(decide ((i1 : Int) < (IntKind.i64.wrap ((a0.size : Int) - 1))))) then (.inr (false : Bool)) else (.inl ())) else (.inr (false : Bool))) else (.inr (false : Bool)))) else (bif ((chAt a0 i1) == 45) then (bif (decide ((i1 : Int) > 0)) then (bif (!(decide ((i1 : Int) < (IntKind.i64.wrap ((a0.size : Int) - 1))))) then (.inr (false : Bool)) else (.inl ())) else (.inr (false : Bool))) else (.inr (false : Bool))))) else (bif (decide ((chAt a0 i1) ≥ 48)) then (bif (decide ((chAt a0 i1) ≤ 57)) then (.inl ()) else (bif ((chAt a0 i1) == 45) then (bif (decide ((i1 : Int) > 0)) then (bif (!(decide ((i1 : Int) < (IntKind.i64.wrap ((a0.size : Int) - 1))))) then (.inr (false : Bool)) else (.inl ())) else (.inr (false : Bool))) else (.inr (false : Bool)))) else (bif ((chAt a0 i1) == 45) then (bif (decide ((i1 : Int) > 0)) then (bif (!(decide ((i1 : Int) < (IntKind.i64.wrap ((a0.size : Int) - 1))))) then (.inr (false : Bool)) else (.inl ())) else (.inr (false : Bool))) else (.inr (false : Bool)))))) (fun (s3 : Unit) => ((impl_InRange.md (a0.size : Int) 1 8) : Bool)) a0.size 0 ())
def gd (a0 : ByteArray) : Prop := (a0.size ≤ (2 ^ 21))
def acc (ls : List L) : ByteArray := (ls.headD .hole).toStr
noncomputable def R : ByteArray → Option Bool := RR gd md
theorem R_eq {a0} (h : gd a0) : R a0 = some (md a0) := RR_eq (a := a0) h
noncomputable def con : Con := CN pats res acc R
theorem okF (a0 : ByteArray) (hg : gd a0) : ∃ n, start (iter step n) a0 = ret ((md a0) : Bool) := by
  unfold gd at hg
  have H0 := hg
  unfold start md
  try simp only [S0]
  have Bh2 : a0.size ≤ maxLen := (by
      have := H0
      try simp only [maxLen] at *
      omega)
  refine ex_pt (p := Pt.p0 a0 (a0.size : Int) 0) (by first | rfl | (simp only [S0, MP]; done) | (simp only [MP]; rfl)) ?_
  refine loopM_ok (pt := fun (i1 : Nat) (s3 : Unit) => Pt.p0 a0 (a0.size : Int) (i1 : Int)) (s := (() : Unit)) (out := ret) (fun _ _ => True) (fun J i1 s3 h2 hih2 => ?_) (fun s3 hih2 => ?_) trivial
  · simp only [step, S0]
    have bb_ := Bh2
    simp only [maxLen] at bb_
    have := H0
    refine Rnd.yes (by apply decide_eq_true; omega) ?_
    refine Rnd.yes zle_dec ?_
    refine Rnd.yes (lt_dec h2) ?_
    refine Rnd.bif (fun c4 => ?_) (fun c4 => ?_)
    · refine Rnd.bif (fun c5 => ?_) (fun c5 => ?_)
      · refine Rnd.inl trivial ?_
        rw [wrap_succ h2 Bh2]
        all_goals first | rfl | (simp only [S0, MP]; first | done | rfl)
      · refine Rnd.bif (fun c6 => ?_) (fun c6 => ?_)
        · refine Rnd.bif (fun c7 => ?_) (fun c7 => ?_)
          · refine Rnd.inl trivial ?_
            rw [wrap_succ h2 Bh2]
            all_goals first | rfl | (simp only [S0, MP]; first | done | rfl)
          · refine Rnd.bif (fun c8 => ?_) (fun _ => Rnd.inr rfl)
            refine Rnd.bif (fun c9 => ?_) (fun _ => Rnd.inr rfl)
            refine Rnd.bif (fun _ => Rnd.inr rfl) (fun c10 => ?_)
            refine Rnd.inl trivial ?_
            rw [wrap_succ h2 Bh2]
            all_goals first | rfl | (simp only [S0, MP]; first | done | rfl)
        · refine Rnd.bif (fun c11 => ?_) (fun _ => Rnd.inr rfl)
          refine Rnd.bif (fun c12 => ?_) (fun _ => Rnd.inr rfl)
          refine Rnd.bif (fun _ => Rnd.inr rfl) (fun c13 => ?_)
          refine Rnd.inl trivial ?_
          rw [wrap_succ h2 Bh2]
          all_goals first | rfl | (simp only [S0, MP]; first | done | rfl)
    · refine Rnd.bif (fun c14 => ?_) (fun c14 => ?_)
      · refine Rnd.bif (fun c15 => ?_) (fun c15 => ?_)
        · refine Rnd.inl trivial ?_
          rw [wrap_succ h2 Bh2]
          all_goals first | rfl | (simp only [S0, MP]; first | done | rfl)
        · refine Rnd.bif (fun c16 => ?_) (fun _ => Rnd.inr rfl)
          refine Rnd.bif (fun c17 => ?_) (fun _ => Rnd.inr rfl)
          refine Rnd.bif (fun _ => Rnd.inr rfl) (fun c18 => ?_)
          refine Rnd.inl trivial ?_
          rw [wrap_succ h2 Bh2]
          all_goals first | rfl | (simp only [S0, MP]; first | done | rfl)
      · refine Rnd.bif (fun c19 => ?_) (fun _ => Rnd.inr rfl)
        refine Rnd.bif (fun c20 => ?_) (fun _ => Rnd.inr rfl)
        refine Rnd.bif (fun _ => Rnd.inr rfl) (fun c21 => ?_)
        refine Rnd.inl trivial ?_
        rw [wrap_succ h2 Bh2]
        all_goals first | rfl | (simp only [S0, MP]; first | done | rfl)
  · simp only [step, S0]
    have := H0
    refine ex_no (by apply decide_eq_false; omega) ?_
    refine ex_call_to (impl_InRange.md (a0.size : Int) 1 8) (impl_InRange.R_eq (a0 := (a0.size : Int)) (a1 := 1) (a2 := 8) trivial) ?_
    refine ⟨0, ?_⟩
    all_goals first | rfl | (simp only [S0, MP]; first | done | rfl)
theorem valid_ : Valid Try.prog Ev 137 con := VV (run := fun n x => start (iter step n) x) mix tab_ok (.cons impl_InRange.valid_ .nil) Try.func137 (by kernel_rfl) run_eq (fun _ a _ _ hg => okF a hg)
theorem br (a0 : ByteArray) : md a0 = spec_IsLabel.md a0 := by
  unfold md spec_IsLabel.md
  by_cases hl : 1 ≤ a0.size ∧ a0.size ≤ 8
  · have e1 : spec_l1In.md (a0.size : Int) 1 8 = true := by simp [spec_l1In.md]; omega
    simp only [impl_InRange.br, e1]
    have ew : IntKind.i64.wrap ((a0.size : Int) - 1) = ((a0.size - 1 : Nat) : Int) := by
      rw [Go.IntWalk.i64_in _ (by omega)]; omega
    simp only [ew, toNat_nat]
    rw [Bool.eq_iff_iff]
    rw [loopM_true (fun i => (97 ≤ chAt a0 i ∧ chAt a0 i ≤ 122) ∨ (48 ≤ chAt a0 i ∧ chAt a0 i ≤ 57) ∨ (chAt a0 i = 45 ∧ 0 < i ∧ i < a0.size - 1)) (fun i hi h => by simp; grind) (fun i hi h => by simp; grind)]
    have e2 := loopM_true (n := a0.size) (f := fun (i4 : Nat) (s6 : Unit) => (bif (decide ((chAt a0 i4) < 97)) then (bif (decide ((chAt a0 i4) < 48)) then (bif ((chAt a0 i4) != 45) then (.inr (false : Bool)) else (.inl ())) else (bif (decide ((chAt a0 i4) > 57)) then (bif ((chAt a0 i4) != 45) then (.inr (false : Bool)) else (.inl ())) else (.inl ()))) else (bif (decide ((chAt a0 i4) > 122)) then (bif (decide ((chAt a0 i4) < 48)) then (bif ((chAt a0 i4) != 45) then (.inr (false : Bool)) else (.inl ())) else (bif (decide ((chAt a0 i4) > 57)) then (bif ((chAt a0 i4) != 45) then (.inr (false : Bool)) else (.inl ())) else (.inl ()))) else (.inl ())))) (t := fun _ => true)
      (fun i => (97 ≤ chAt a0 i ∧ chAt a0 i ≤ 122) ∨ (48 ≤ chAt a0 i ∧ chAt a0 i ≤ 57) ∨ chAt a0 i = 45) (fun i hi h => by simp; grind) (fun i hi h => by simp; grind)
    have e3 : ∀ b c d : Bool, (bif !true then false else bif b then false else bif c then false else d) = true ↔ b = false ∧ c = false ∧ d = true := by intro b c d; cases b <;> cases c <;> simp
    rw [e3, e2]
    simp only [beq_eq_false_iff_ne, ne_eq, and_true]
    constructor
    · intro h
      refine ⟨fun h0 => ?_, fun h0 => ?_, fun i hi => ?_⟩
      · have := h 0 (by omega); omega
      · have := h (a0.size - 1) (by omega); omega
      · have := h i hi; omega
    · intro ⟨h1, h2, h3⟩ i hi
      have := h3 i hi
      by_cases h0 : i = 0
      · subst h0; omega
      · by_cases h9 : i = a0.size - 1
        · subst h9; omega
        · omega
  · have e1 : spec_l1In.md (a0.size : Int) 1 8 = false := by simp [spec_l1In.md]; omega
    simp only [impl_InRange.br, e1]
    refine loopM_const ?_ _ _ _
    intro i s b h
    revert h
    simp only [Bool.cond_eq_ite]
    repeat' split
    all_goals (intro h; first | (cases h; rfl) | cases h)
end impl_IsLabel
/-! impl.IsPath$1 -/
namespace impl_IsPath_1
noncomputable def F (x0 : ByteArray) : Ans := (call (impl_IsLabel.R x0) fun v1 => ret ((!v1) : Bool))
def pats : List Pat := [.rd (.str)]
def res : RP := .one (.rd (.bool))
noncomputable abbrev E : Env := ⟨assoc Tab, conG [(137, impl_IsLabel.con)], 6⟩
set_option maxRecDepth 100000
theorem run_eq (n : Nat) (ls : List L) : runF E (fun _ => []) Try.f136 res n (initS pats ls) = F (ls.headD .hole).toStr := by kernel_rfl
noncomputable def md (a0 : ByteArray) : Bool := ((!(impl_IsLabel.md a0)) : Bool)
def gd (a0 : ByteArray) : Prop := (a0.size ≤ (2 ^ 21))
def acc (ls : List L) : ByteArray := (ls.headD .hole).toStr
noncomputable def R : ByteArray → Option Bool := RR gd md
theorem R_eq {a0} (h : gd a0) : R a0 = some (md a0) := RR_eq (a := a0) h
noncomputable def con : Con := CN pats res acc R
theorem okF (a0 : ByteArray) (hg : gd a0) : F a0 = ret ((md a0) : Bool) := by
  unfold gd at hg
  have H0 := hg
  unfold F md
  try simp only [S0]
  refine call_to (impl_IsLabel.md a0) (impl_IsLabel.R_eq (a0 := a0) H0) ?_
  all_goals first | rfl | (simp only [S0, MP]; first | done | rfl)
theorem valid_ : Valid Try.prog Ev 136 con := VV (run := fun _ x => F x) mix tab_ok (.cons impl_IsLabel.valid_ .nil) Try.func136 (by kernel_rfl) run_eq (fun _ a _ _ hg => ⟨0, okF a hg⟩)
end impl_IsPath_1
/-! slices.IndexFunc[[]string,string] -/
namespace slices_IndexFunc_Sstring_string__impl_IsPath_1
inductive Pt where
  | p0 (a : List (List L)) (b : Int) (c : Int)
def pid : Pt → Nat
  | .p0 .. => 2
def pvs : Pt → List V
  | .p0 a b c => [.sl none 9 a, .fn 136 [], .int .i64 b, .int .i64 c]
def phs : Pt → List Root
  | .p0 a b c => []
noncomputable def step (J : Pt → Ans) : Pt → Ans
  | .p0 a b c => (bif (decide (c < b)) then (bif (decide ((0 : Int) ≤ c)) then (bif (decide (c < (a.length : Int))) then (call (impl_IsPath_1.R (sAt a (Int.toNat c))) fun v1 => (bif v1 then ret (c : Int) else J (.p0 a b (IntKind.i64.wrap (c + 1))))) else none) else none) else ret ((-1) : Int))
noncomputable def start (J : Pt → Ans) (x0 : List (List L)) : Ans := J (.p0 x0 (x0.length : Int) 0)
def live : Nat → Live := fun i => match i with | 2 => [(0, none), (1, none), (7, none), (8, none)] | _ => []
def pats : List Pat := [.rd (.sl 9), .fn 136 []]
def res : RP := .one (.rd (.int .i64))
noncomputable abbrev E : Env := ⟨assoc Tab, conG [(136, impl_IsPath_1.con)], 19⟩
set_option maxRecDepth 100000
theorem step_eq (I : Heads) (p : Pt) : enterC E live I (pid p) (bodyOf Try.f176) (stOf (live (pid p)) (pvs p) (phs p)) (doneK E Try.f176 res) = step (fun q => I (pid q) (pvs q) (phs q)) p := by
  cases p <;> kernel_rfl
theorem start_eq (I : Heads) (ls : List L) : runC E live I (bodyOf Try.f176) (initS pats ls) (doneK E Try.f176 res) = start (fun q => I (pid q) (pvs q) (phs q)) (ls.headD .hole).toSl := by kernel_rfl
theorem run_eq (n : Nat) (ls : List L) : runF E live Try.f176 res n (initS pats ls) = start (iter step n) (ls.headD .hole).toSl := runF_iter (id := pid) (vs := pvs) (hs := phs) (step := step) (start := fun J => start J (ls.headD .hole).toSl) step_eq (fun I => start_eq I ls) n
noncomputable def md (a0 : List ByteArray) : Int := (eachI (S := Unit) (β := Int) (fun (i1 : Nat) (y1 : ByteArray) (s3 : Unit) => (bif (impl_IsPath_1.md y1) then (.inr ((i1 : Int) : Int)) else (.inl ()))) (fun (s3 : Unit) => ((-1) : Int)) 0 a0 ())
def gd (a0 : List ByteArray) : Prop := (SmL (2 ^ 21) (fun y : ByteArray => y.size ≤ (2 ^ 21)) a0)
def acc (ls : List L) : List (List L) := (ls.headD .hole).toSl
noncomputable def R : (List (List L)) → Option Int := RR gd md
theorem R_eq {a0} (h : gd a0) : R (a0.map sRow) = some (md a0) := RR_eq (a := a0) h
noncomputable def con : Con := CN pats res acc R
theorem okF (a0 : List ByteArray) (hg : gd a0) : ∃ n, start (iter step n) (a0.map sRow) = ret ((md a0) : Int) := by
  unfold gd at hg
  have H0 := hg
  unfold start md
  try simp only [S0]
  have Bh2 : a0.length ≤ maxLen := (by
      have := (H0).1
      try simp only [maxLen] at *
      omega)
  refine ex_eq (out := ret) (loopM_eachI (z := ⟨#[]⟩)) ?_
  refine ex_pt (p := Pt.p0 (a0.map sRow) (a0.length : Int) 0) (by first | rfl | (simp only [S0, MP]; done) | (simp only [MP]; rfl)) ?_
  refine loopM_ok (pt := fun (i1 : Nat) (s3 : Unit) => Pt.p0 (a0.map sRow) (a0.length : Int) (i1 : Int)) (s := (() : Unit)) (out := ret) (fun _ _ => True) (fun J i1 s3 h2 hih2 => ?_) (fun s3 hih2 => ?_) trivial
  · simp only [step, S0]
    have bb_ := Bh2
    simp only [maxLen] at bb_
    have := (H0).1
    refine Rnd.yes (by apply decide_eq_true; omega) ?_
    refine Rnd.yes zle_dec ?_
    refine Rnd.yes (lt_dec h2) ?_
    refine Rnd.call_to (impl_IsPath_1.md (a0.getD i1 ⟨#[]⟩)) (impl_IsPath_1.R_eq (a0 := (a0.getD i1 ⟨#[]⟩)) (SmL.getD (z := ⟨#[]⟩) H0 h2)) ?_
    refine Rnd.bif (fun c4 => ?_) (fun c4 => ?_)
    · refine Rnd.inr ?_
      all_goals first | rfl | (simp only [S0, MP]; first | done | rfl)
    · refine Rnd.inl trivial ?_
      rw [wrap_succ h2 Bh2]
      all_goals first | rfl | (simp only [S0, MP]; first | done | rfl)
  · simp only [step, S0]
    have := (H0).1
    refine ex_no (by apply decide_eq_false; omega) ?_
    refine ⟨0, ?_⟩
    all_goals first | rfl | (simp only [S0, MP]; first | done | rfl)
theorem valid_ : Valid Try.prog Ev 176 con := VV (run := fun n x => start (iter step n) x) mix tab_ok (.cons impl_IsPath_1.valid_ .nil) Try.func176 (by kernel_rfl) run_eq (fun _ a _ _ hg => okF a hg)
theorem fa (a0 : List ByteArray) : -1 ≤ md a0 ∧ md a0 < (a0.length : Int) := by
  unfold md
  refine eachI_fa0 ?_ _ _
  all_goals
    intro i x s b h
    revert h
    simp only [Bool.cond_eq_ite]
    repeat' split
    all_goals (intro h; first | (cases h; rfl) | cases h)
theorem idx_eq (a0 : List ByteArray) : md a0 = findI (fun y => impl_IsPath_1.md y) 0 a0 := by
  unfold md
  exact eachI_find
end slices_IndexFunc_Sstring_string__impl_IsPath_1
/-! slices.ContainsFunc[[]string,string] -/
namespace slices_ContainsFunc_Sstring_string__impl_IsPath_1
noncomputable def F (x0 : List (List L)) : Ans := (call (slices_IndexFunc_Sstring_string__impl_IsPath_1.R x0) fun v1 => ret ((decide (v1 ≥ 0)) : Bool))
def pats : List Pat := [.rd (.sl 9), .fn 136 []]
def res : RP := .one (.rd (.bool))
noncomputable abbrev E : Env := ⟨assoc Tab, conG [(176, slices_IndexFunc_Sstring_string__impl_IsPath_1.con)], 9⟩
set_option maxRecDepth 100000
theorem run_eq (n : Nat) (ls : List L) : runF E (fun _ => []) Try.f135 res n (initS pats ls) = F (ls.headD .hole).toSl := by kernel_rfl
noncomputable def md (a0 : List ByteArray) : Bool := ((decide ((slices_IndexFunc_Sstring_string__impl_IsPath_1.md a0) ≥ 0)) : Bool)
def gd (a0 : List ByteArray) : Prop := (SmL (2 ^ 21) (fun y : ByteArray => y.size ≤ (2 ^ 21)) a0)
def acc (ls : List L) : List (List L) := (ls.headD .hole).toSl
noncomputable def R : (List (List L)) → Option Bool := RR gd md
theorem R_eq {a0} (h : gd a0) : R (a0.map sRow) = some (md a0) := RR_eq (a := a0) h
noncomputable def con : Con := CN pats res acc R
theorem okF (a0 : List ByteArray) (hg : gd a0) : F (a0.map sRow) = ret ((md a0) : Bool) := by
  unfold gd at hg
  have H0 := hg
  unfold F md
  try simp only [S0]
  refine call_to (slices_IndexFunc_Sstring_string__impl_IsPath_1.md a0) (slices_IndexFunc_Sstring_string__impl_IsPath_1.R_eq (a0 := a0) H0) ?_
  have fv1_ := slices_IndexFunc_Sstring_string__impl_IsPath_1.fa a0
  all_goals first | rfl | (simp only [S0, MP]; first | done | rfl)
theorem valid_ : Valid Try.prog Ev 135 con := VV (run := fun _ x => F x) mix tab_ok (.cons slices_IndexFunc_Sstring_string__impl_IsPath_1.valid_ .nil) Try.func135 (by kernel_rfl) run_eq (fun _ a _ _ hg => ⟨0, okF a hg⟩)
theorem any_eq (a0 : List ByteArray) : md a0 = a0.any (fun y => impl_IsPath_1.md y) := by
  unfold md
  rw [slices_IndexFunc_Sstring_string__impl_IsPath_1.idx_eq]
  exact findI_ge
end slices_ContainsFunc_Sstring_string__impl_IsPath_1
/-! impl.IsPath -/
namespace impl_IsPath
noncomputable def F (x0 : List (List L)) : Ans := (call (impl_InRange.R ((x0.length : Int), 1, 4)) fun v1 => (bif v1 then (call (slices_ContainsFunc_Sstring_string__impl_IsPath_1.R x0) fun v2 => ret ((!v2) : Bool)) else ret (false : Bool)))
def pats : List Pat := [.rd (.sl 9)]
def res : RP := .one (.rd (.bool))
noncomputable abbrev E : Env := ⟨assoc Tab, conG [(134, impl_InRange.con), (135, slices_ContainsFunc_Sstring_string__impl_IsPath_1.con)], 11⟩
set_option maxRecDepth 100000
theorem run_eq (n : Nat) (ls : List L) : runF E (fun _ => []) Try.f85 res n (initS pats ls) = F (ls.headD .hole).toSl := by kernel_rfl
noncomputable def md (a0 : List ByteArray) : Bool := (bif (impl_InRange.md (a0.length : Int) 1 4) then ((!(slices_ContainsFunc_Sstring_string__impl_IsPath_1.md a0)) : Bool) else (false : Bool))
def gd (a0 : List ByteArray) : Prop := (SmL (2 ^ 21) (fun y : ByteArray => y.size ≤ (2 ^ 21)) a0)
def acc (ls : List L) : List (List L) := (ls.headD .hole).toSl
noncomputable def R : (List (List L)) → Option Bool := RR gd md
theorem R_eq {a0} (h : gd a0) : R (a0.map sRow) = some (md a0) := RR_eq (a := a0) h
noncomputable def con : Con := CN pats res acc R
theorem okF (a0 : List ByteArray) (hg : gd a0) : F (a0.map sRow) = ret ((md a0) : Bool) := by
  unfold gd at hg
  have H0 := hg
  unfold F md
  try simp only [S0]
  refine call_to (impl_InRange.md (a0.length : Int) 1 4) (impl_InRange.R_eq (a0 := (a0.length : Int)) (a1 := 1) (a2 := 4) trivial) ?_
  refine bif_out ret (fun c1 => ?_) (fun _ => rfl)
  refine call_to (slices_ContainsFunc_Sstring_string__impl_IsPath_1.md a0) (slices_ContainsFunc_Sstring_string__impl_IsPath_1.R_eq (a0 := a0) H0) ?_
  all_goals first | rfl | (simp only [S0, MP]; first | done | rfl)
theorem valid_ : Valid Try.prog Ev 85 con := VV (run := fun _ x => F x) mix tab_ok (.cons impl_InRange.valid_ (.cons slices_ContainsFunc_Sstring_string__impl_IsPath_1.valid_ .nil)) Try.func85 (by kernel_rfl) run_eq (fun _ a _ _ hg => ⟨0, okF a hg⟩)
theorem br (a0 : List ByteArray) : md a0 = spec_IsPath.md a0 := by
  unfold md spec_IsPath.md
  rw [slices_ContainsFunc_Sstring_string__impl_IsPath_1.any_eq]
  have e := eachM_any (p := fun y => !(spec_IsLabel.md y)) (b := false) (c := spec_l1In.md (a0.length : Int) 1 4) (xs := a0) (s := ())
  refine Eq.trans ?_ e.symm
  simp only [impl_IsPath_1.md, impl_IsLabel.br, impl_InRange.br]
  cases a0.any (fun y => !(spec_IsLabel.md y)) <;> cases spec_l1In.md (a0.length : Int) 1 4 <;> rfl
end impl_IsPath
/-! impl.isDigest -/
namespace impl_isDigest
noncomputable def F (x0 : Int) : Ans := (call (impl_InRange.R (x0, 0, 2147483646)) fun v1 => ret (v1 : Bool))
def pats : List Pat := [.rd (.int .i64)]
def res : RP := .one (.rd (.bool))
noncomputable abbrev E : Env := ⟨assoc Tab, conG [(134, impl_InRange.con)], 5⟩
set_option maxRecDepth 100000
theorem run_eq (n : Nat) (ls : List L) : runF E (fun _ => []) Try.f138 res n (initS pats ls) = F (ls.headD .hole).toInt := by kernel_rfl
noncomputable def md (a0 : Int) : Bool := ((impl_InRange.md a0 0 2147483646) : Bool)
def gd (a0 : Int) : Prop := True
def acc (ls : List L) : Int := (ls.headD .hole).toInt
noncomputable def R : Int → Option Bool := RR gd md
theorem R_eq {a0} (h : gd a0) : R a0 = some (md a0) := RR_eq (a := a0) h
noncomputable def con : Con := CN pats res acc R
theorem okF (a0 : Int) (hg : gd a0) : F a0 = ret ((md a0) : Bool) := by
  unfold F md
  try simp only [S0]
  refine call_to (impl_InRange.md a0 0 2147483646) (impl_InRange.R_eq (a0 := a0) (a1 := 0) (a2 := 2147483646) trivial) ?_
  all_goals first | rfl | (simp only [S0, MP]; first | done | rfl)
theorem valid_ : Valid Try.prog Ev 138 con := VV (run := fun _ x => F x) mix tab_ok (.cons impl_InRange.valid_ .nil) Try.func138 (by kernel_rfl) run_eq (fun _ a _ _ hg => ⟨0, okF a hg⟩)
end impl_isDigest
/-! impl.IsEntry -/
namespace impl_IsEntry
noncomputable def F (x0 : REntry) : Ans := (call (impl_IsLabel.R x0.fLabel) fun v1 => (bif (!v1) then ret (false : Bool) else (bif (x0.fKind == 1) then (call (impl_InRange.R (x0.fValue, 0, 999999)) fun v2 => (bif v2 then ret (((x0.fPath.length : Int) == 0) : Bool) else ret (false : Bool))) else (bif (x0.fKind == 2) then (call (impl_isDigest.R x0.fValue) fun v3 => (bif v3 then ret (((x0.fPath.length : Int) == 0) : Bool) else ret (false : Bool))) else (bif (x0.fKind == 3) then (call (impl_isDigest.R x0.fValue) fun v4 => (bif v4 then (call (impl_IsPath.R x0.fPath) fun v5 => ret (v5 : Bool)) else ret (false : Bool))) else ret (false : Bool))))))
def pats : List Pat := [.agg [.str, .int .i64, .int .i64, .sl 9]]
def res : RP := .one (.rd (.bool))
noncomputable abbrev E : Env := ⟨assoc Tab, conG [(137, impl_IsLabel.con), (134, impl_InRange.con), (138, impl_isDigest.con), (85, impl_IsPath.con)], 41⟩
set_option maxRecDepth 100000
theorem run_eq (n : Nat) (ls : List L) : runF E (fun _ => []) Try.f86 res n (initS pats ls) = F (REntry.dec ls) := by kernel_rfl
noncomputable def md (a0 : MEntry) : Bool := (bif (!(impl_IsLabel.md a0.fLabel)) then (false : Bool) else (bif (a0.fKind == 1) then (bif (impl_InRange.md a0.fValue 0 999999) then (((a0.fPath.length : Int) == 0) : Bool) else (false : Bool)) else (bif (a0.fKind == 2) then (bif (impl_isDigest.md a0.fValue) then (((a0.fPath.length : Int) == 0) : Bool) else (false : Bool)) else (bif (a0.fKind == 3) then (bif (impl_isDigest.md a0.fValue) then ((impl_IsPath.md a0.fPath) : Bool) else (false : Bool)) else (false : Bool)))))
def gd (a0 : MEntry) : Prop := (MEntry.Sm (2 ^ 21) a0)
def acc (ls : List L) : REntry := (REntry.dec ls)
noncomputable def R : REntry → Option Bool := RR gd md
theorem R_eq {a0} (h : gd a0) : R (MEntry.r a0) = some (md a0) := RR_eq (a := a0) h
noncomputable def con : Con := CN pats res acc R
theorem okF (a0 : MEntry) (hg : gd a0) : F (MEntry.r a0) = ret ((md a0) : Bool) := by
  unfold gd at hg
  have H0 := hg
  unfold F md
  try simp only [S0, MEntry.rs]
  refine call_to (impl_IsLabel.md a0.fLabel) (impl_IsLabel.R_eq (a0 := a0.fLabel) H0.1) ?_
  refine bif_out ret (fun _ => rfl) (fun c1 => ?_)
  refine bif_out ret (fun c2 => ?_) (fun c2 => ?_)
  · refine call_to (impl_InRange.md a0.fValue 0 999999) (impl_InRange.R_eq (a0 := a0.fValue) (a1 := 0) (a2 := 999999) trivial) ?_
    refine bif_out ret (fun c3 => ?_) (fun _ => rfl)
    all_goals first | rfl | (simp only [S0, MEntry.rs, MP]; first | done | rfl)
  · refine bif_out ret (fun c4 => ?_) (fun c4 => ?_)
    · refine call_to (impl_isDigest.md a0.fValue) (impl_isDigest.R_eq (a0 := a0.fValue) trivial) ?_
      refine bif_out ret (fun c5 => ?_) (fun _ => rfl)
      all_goals first | rfl | (simp only [S0, MEntry.rs, MP]; first | done | rfl)
    · refine bif_out ret (fun c6 => ?_) (fun _ => rfl)
      refine call_to (impl_isDigest.md a0.fValue) (impl_isDigest.R_eq (a0 := a0.fValue) trivial) ?_
      refine bif_out ret (fun c7 => ?_) (fun _ => rfl)
      refine call_to (impl_IsPath.md a0.fPath) (impl_IsPath.R_eq (a0 := a0.fPath) H0.2) ?_
      all_goals first | rfl | (simp only [S0, MEntry.rs, MP]; first | done | rfl)
theorem valid_ : Valid Try.prog Ev 86 con := VV (run := fun _ x => F x) mix tab_ok (.cons impl_IsLabel.valid_ (.cons impl_InRange.valid_ (.cons impl_isDigest.valid_ (.cons impl_IsPath.valid_ .nil)))) Try.func86 (by kernel_rfl) run_eq (fun _ a _ _ hg => ⟨0, okF a hg⟩)
theorem br (a0 : MEntry) : md a0 = spec_IsEntry.md a0 := by
  unfold md spec_IsEntry.md
  simp only [impl_IsLabel.br, impl_InRange.br, impl_isDigest.md, impl_IsPath.br]
  cases spec_IsLabel.md a0.fLabel <;> simp
end impl_IsEntry
/-! slices.Equal[[]string,string] -/
namespace slices_Equal_Sstring_string
inductive Pt where
  | p0 (a : List (List L)) (b : List (List L)) (c : Int) (d : Int)
def pid : Pt → Nat
  | .p0 .. => 4
def pvs : Pt → List V
  | .p0 a b c d => [.sl none 9 a, .sl none 9 b, .int .i64 c, .int .i64 d]
def phs : Pt → List Root
  | .p0 a b c d => []
noncomputable def step (J : Pt → Ans) : Pt → Ans
  | .p0 a b c d => (bif (decide (d < c)) then (bif (decide ((0 : Int) ≤ d)) then (bif (decide (d < (a.length : Int))) then (bif (decide ((0 : Int) ≤ d)) then (bif (decide (d < (b.length : Int))) then (bif (!((sAt a (Int.toNat d)) == (sAt b (Int.toNat d)))) then ret (false : Bool) else J (.p0 a b c (IntKind.i64.wrap (d + 1)))) else none) else none) else none) else none) else ret (true : Bool))
noncomputable def start (J : Pt → Ans) (x0 : List (List L)) (x1 : List (List L)) : Ans := (bif ((x0.length : Int) != (x1.length : Int)) then ret (false : Bool) else J (.p0 x0 x1 (x0.length : Int) 0))
def live : Nat → Live := fun i => match i with | 4 => [(0, none), (1, none), (12, none), (13, none)] | _ => []
def pats : List Pat := [.rd (.sl 9), .rd (.sl 9)]
def res : RP := .one (.rd (.bool))
noncomputable abbrev E : Env := ⟨assoc Tab, conG [], 26⟩
set_option maxRecDepth 100000
theorem step_eq (I : Heads) (p : Pt) : enterC E live I (pid p) (bodyOf Try.f124) (stOf (live (pid p)) (pvs p) (phs p)) (doneK E Try.f124 res) = step (fun q => I (pid q) (pvs q) (phs q)) p := by
  cases p <;> kernel_rfl
theorem start_eq (I : Heads) (ls : List L) : runC E live I (bodyOf Try.f124) (initS pats ls) (doneK E Try.f124 res) = start (fun q => I (pid q) (pvs q) (phs q)) (ls.headD .hole).toSl ((dropT 1 ls).headD .hole).toSl := by kernel_rfl
theorem run_eq (n : Nat) (ls : List L) : runF E live Try.f124 res n (initS pats ls) = start (iter step n) (ls.headD .hole).toSl ((dropT 1 ls).headD .hole).toSl := runF_iter (id := pid) (vs := pvs) (hs := phs) (step := step) (start := fun J => start J (ls.headD .hole).toSl ((dropT 1 ls).headD .hole).toSl) step_eq (fun I => start_eq I ls) n
noncomputable def md (a0 : List ByteArray) (a1 : List ByteArray) : Bool := (bif ((a0.length : Int) != (a1.length : Int)) then (false : Bool) else (loopM (S := Unit) (β := Bool) (fun (i2 : Nat) (s4 : Unit) => (bif (!((a0.getD i2 ⟨#[]⟩) == (a1.getD i2 ⟨#[]⟩))) then (.inr (false : Bool)) else (.inl ()))) (fun (s4 : Unit) => (true : Bool)) a0.length 0 ()))
def gd (a0 : List ByteArray) (a1 : List ByteArray) : Prop := (SmL (2 ^ 21) (fun y : ByteArray => y.size ≤ (2 ^ 21)) a0) ∧ (SmL (2 ^ 21) (fun y : ByteArray => y.size ≤ (2 ^ 21)) a1)
def acc (ls : List L) : List (List L) × List (List L) := ((ls.headD .hole).toSl, ((dropT 1 ls).headD .hole).toSl)
noncomputable def R : (List (List L) × List (List L)) → Option Bool := RR (p2 gd) (u2 md)
theorem R_eq {a0} {a1} (h : gd a0 a1) : R ((a0.map sRow), (a1.map sRow)) = some (md a0 a1) := RR_eq (a := (a0, a1)) h
noncomputable def con : Con := CN pats res acc R
theorem okF (a0 : List ByteArray) (a1 : List ByteArray) (hg : gd a0 a1) : ∃ n, start (iter step n) (a0.map sRow) (a1.map sRow) = ret ((md a0 a1) : Bool) := by
  unfold gd at hg
  obtain ⟨H0, H1⟩ := hg
  unfold start md
  try simp only [S0]
  refine ex_bif ret (fun _ => ⟨0, rfl⟩) (fun c1 => ?_)
  have dc1 := c1
  try simp only [DC] at dc1
  have Bh3 : a0.length ≤ maxLen := (by
      have := (H0).1
      try simp only [maxLen] at *
      omega)
  refine ex_pt (p := Pt.p0 (a0.map sRow) (a1.map sRow) (a0.length : Int) 0) (by first | rfl | (simp only [S0, MP]; done) | (simp only [MP]; rfl)) ?_
  refine loopM_ok (pt := fun (i2 : Nat) (s4 : Unit) => Pt.p0 (a0.map sRow) (a1.map sRow) (a0.length : Int) (i2 : Int)) (s := (() : Unit)) (out := ret) (fun _ _ => True) (fun J i2 s4 h3 hih3 => ?_) (fun s4 hih3 => ?_) trivial
  · simp only [step, S0]
    have bb_ := Bh3
    simp only [maxLen] at bb_
    have := (H0).1
    refine Rnd.yes (by apply decide_eq_true; omega) ?_
    refine Rnd.yes zle_dec ?_
    refine Rnd.yes (lt_dec h3) ?_
    refine Rnd.yes zle_dec ?_
    refine Rnd.yes (by
        have := (H1).1
        refine decide_eq_true ?_
        try simp (disch := omega) only [LN, wi]
        first | omega | (simp; done) | (simp; omega)) ?_
    refine Rnd.bif (fun _ => Rnd.inr rfl) (fun c5 => ?_)
    refine Rnd.inl trivial ?_
    rw [wrap_succ h3 Bh3]
    all_goals first | rfl | (simp only [S0, MP]; first | done | rfl)
  · simp only [step, S0]
    have := (H0).1
    refine ex_no (by apply decide_eq_false; omega) ?_
    refine ⟨0, ?_⟩
    all_goals first | rfl | (simp only [S0, MP]; first | done | rfl)
theorem valid_ : Valid Try.prog Ev 124 con := VV (run := fun n x => start (iter step n) x.1 x.2) mix tab_ok .nil Try.func124 (by kernel_rfl) run_eq (fun _ a _ _ hg => okF a.1 a.2 hg)
theorem md_eq (a0 : List ByteArray) (a1 : List ByteArray) : md a0 a1 = eqB a0 a1 := by
  unfold md
  refine loop_eqB (⟨#[]⟩) (fun i s h h2 => ?_) (fun s => rfl)
  simp only [bne, int_beq, bool_beq, ba_beq]
  cases eqB _ _ <;> rfl
end slices_Equal_Sstring_string
/-! impl.SamePath -/
namespace impl_SamePath
noncomputable def F (x0 : List (List L)) (x1 : List (List L)) : Ans := (call (slices_Equal_Sstring_string.R (x0, x1)) fun v1 => ret (v1 : Bool))
def pats : List Pat := [.rd (.sl 9), .rd (.sl 9)]
def res : RP := .one (.rd (.bool))
noncomputable abbrev E : Env := ⟨assoc Tab, conG [(124, slices_Equal_Sstring_string.con)], 8⟩
set_option maxRecDepth 100000
theorem run_eq (n : Nat) (ls : List L) : runF E (fun _ => []) Try.f122 res n (initS pats ls) = F (ls.headD .hole).toSl ((dropT 1 ls).headD .hole).toSl := by kernel_rfl
noncomputable def md (a0 : List ByteArray) (a1 : List ByteArray) : Bool := ((slices_Equal_Sstring_string.md a0 a1) : Bool)
def gd (a0 : List ByteArray) (a1 : List ByteArray) : Prop := (SmL (2 ^ 21) (fun y : ByteArray => y.size ≤ (2 ^ 21)) a0) ∧ (SmL (2 ^ 21) (fun y : ByteArray => y.size ≤ (2 ^ 21)) a1)
def acc (ls : List L) : List (List L) × List (List L) := ((ls.headD .hole).toSl, ((dropT 1 ls).headD .hole).toSl)
noncomputable def R : (List (List L) × List (List L)) → Option Bool := RR (p2 gd) (u2 md)
theorem R_eq {a0} {a1} (h : gd a0 a1) : R ((a0.map sRow), (a1.map sRow)) = some (md a0 a1) := RR_eq (a := (a0, a1)) h
noncomputable def con : Con := CN pats res acc R
theorem okF (a0 : List ByteArray) (a1 : List ByteArray) (hg : gd a0 a1) : F (a0.map sRow) (a1.map sRow) = ret ((md a0 a1) : Bool) := by
  unfold gd at hg
  obtain ⟨H0, H1⟩ := hg
  unfold F md
  try simp only [S0]
  refine call_to (slices_Equal_Sstring_string.md a0 a1) (slices_Equal_Sstring_string.R_eq (a0 := a0) (a1 := a1) ⟨H0, H1⟩) ?_
  all_goals first | rfl | (simp only [S0, MP]; first | done | rfl)
theorem valid_ : Valid Try.prog Ev 122 con := VV (run := fun _ x => F x.1 x.2) mix tab_ok (.cons slices_Equal_Sstring_string.valid_ .nil) Try.func122 (by kernel_rfl) run_eq (fun _ a _ _ hg => ⟨0, okF a.1 a.2 hg⟩)
theorem md_eq (a0 : List ByteArray) (a1 : List ByteArray) : md a0 a1 = eqB a0 a1 := by
  unfold md
  rw [slices_Equal_Sstring_string.md_eq]
end impl_SamePath
/-! impl.choiceAt$1 -/
namespace impl_choiceAt_1
noncomputable def F (x0 : RChoice) (x1 : List L) : Ans := (call (impl_SamePath.R (x0.fPath, (lDec x1))) fun v1 => ret (v1 : Bool))
def pats : List Pat := [.agg [.sl 9, .str, .int .i64, .int .i64, .sl 9], .ptr [.sl 9]]
def res : RP := .one (.rd (.bool))
noncomputable abbrev E : Env := ⟨assoc Tab, conG [(122, impl_SamePath.con)], 8⟩
set_option maxRecDepth 100000
theorem run_eq (n : Nat) (ls : List L) : runF E (fun _ => []) Try.f140 res n (initS pats ls) = F (RChoice.dec ls) (padL 1 (dropT 5 ls)) := by kernel_rfl
noncomputable def md (a0 : MChoice) (a1 : List ByteArray) : Bool := ((impl_SamePath.md a0.fPath a1) : Bool)
def gd (a0 : MChoice) (a1 : List ByteArray) : Prop := (MChoice.Sm (2 ^ 21) a0) ∧ (SmL (2 ^ 21) (fun y : ByteArray => y.size ≤ (2 ^ 21)) a1)
def acc (ls : List L) : RChoice × List (List L) := ((RChoice.dec ls), (lDec (padL 1 (dropT 5 ls))))
noncomputable def R : (RChoice × List (List L)) → Option Bool := RR (p2 gd) (u2 md)
theorem R_eq {a0} {a1} (h : gd a0 a1) : R ((MChoice.r a0), (a1.map sRow)) = some (md a0 a1) := RR_eq (a := (a0, a1)) h
noncomputable def con : Con := CN pats res acc R
theorem okF (a0 : MChoice) (a1 : List ByteArray) (p1 : List L) (e1 : (a1.map sRow) = (lDec p1)) (hg : gd a0 a1) : F (MChoice.r a0) p1 = ret ((md a0 a1) : Bool) := by
  unfold gd at hg
  obtain ⟨H0, H1⟩ := hg
  unfold F md
  try simp only [S0, MEntry.rs, MChoice.rs, ← e1]
  refine call_to (impl_SamePath.md a0.fPath a1) (impl_SamePath.R_eq (a0 := a0.fPath) (a1 := a1) ⟨H0.1, H1⟩) ?_
  all_goals first | rfl | (simp only [S0, MEntry.rs, MChoice.rs, ← e1, MP]; first | done | rfl)
theorem okV (ls : List L) (a : MChoice × List ByteArray) (e : acc ls = Im.im a) (hg : (p2 gd) a) : ∃ n : Nat, F (RChoice.dec ls) (padL 1 (dropT 5 ls)) = ret (Im.im ((u2 md) a)) := by
  have e0 : (MChoice.r a.1) = (RChoice.dec ls) := (congrArg (fun x => x.1) e.symm)
  have hn := okF a.1 a.2 (padL 1 (dropT 5 ls)) (congrArg (fun x => x.2) e.symm) hg
  refine ⟨0, ?_⟩
  rw [← e0]
  exact hn
theorem valid_ : Valid Try.prog Ev 140 con := VP (accr := fun ls => ((RChoice.dec ls), (padL 1 (dropT 5 ls)))) (run := fun _ x => F x.1 x.2) mix tab_ok (.cons impl_SamePath.valid_ .nil) Try.func140 (by kernel_rfl) run_eq (fun ls a _ e hg => okV ls a e hg)
end impl_choiceAt_1
/-! slices.IndexFunc[[]impl.Choice,impl.Choice] -/
namespace slices_IndexFunc_Simpl_Choice_impl_Choice__impl_choiceAt_1
inductive Pt where
  | p0 (a : List (List L)) (b : List L) (c : Int) (d : Int)
def pid : Pt → Nat
  | .p0 .. => 2
def pvs : Pt → List V
  | .p0 a b c d => [.sl none 128 a, .fn 140 [.cptr none [.sl 9] b 0], .int .i64 c, .int .i64 d]
def phs : Pt → List Root
  | .p0 a b c d => []
noncomputable def step (J : Pt → Ans) : Pt → Ans
  | .p0 a b c d => (bif (decide (d < c)) then (bif (decide ((0 : Int) ≤ d)) then (bif (decide (d < (a.length : Int))) then (call (impl_choiceAt_1.R ((RChoice.at a (Int.toNat d)), (lDec b))) fun v1 => (bif v1 then ret (d : Int) else J (.p0 a b c (IntKind.i64.wrap (d + 1))))) else none) else none) else ret ((-1) : Int))
noncomputable def start (J : Pt → Ans) (x0 : List (List L)) (x1 : List L) : Ans := J (.p0 x0 x1 (x0.length : Int) 0)
def live : Nat → Live := fun i => match i with | 2 => [(0, none), (1, none), (7, none), (8, none)] | _ => []
def pats : List Pat := [.rd (.sl 128), .fn 140 [[.sl 9]]]
def res : RP := .one (.rd (.int .i64))
noncomputable abbrev E : Env := ⟨assoc Tab, conG [(140, impl_choiceAt_1.con)], 19⟩
set_option maxRecDepth 100000
theorem step_eq (I : Heads) (p : Pt) : enterC E live I (pid p) (bodyOf Try.f139) (stOf (live (pid p)) (pvs p) (phs p)) (doneK E Try.f139 res) = step (fun q => I (pid q) (pvs q) (phs q)) p := by
  cases p <;> kernel_rfl
theorem start_eq (I : Heads) (ls : List L) : runC E live I (bodyOf Try.f139) (initS pats ls) (doneK E Try.f139 res) = start (fun q => I (pid q) (pvs q) (phs q)) (ls.headD .hole).toSl (padL 1 (dropT 1 ls)) := by kernel_rfl
theorem run_eq (n : Nat) (ls : List L) : runF E live Try.f139 res n (initS pats ls) = start (iter step n) (ls.headD .hole).toSl (padL 1 (dropT 1 ls)) := runF_iter (id := pid) (vs := pvs) (hs := phs) (step := step) (start := fun J => start J (ls.headD .hole).toSl (padL 1 (dropT 1 ls))) step_eq (fun I => start_eq I ls) n
noncomputable def md (a0 : List MChoice) (a1 : List ByteArray) : Int := (eachI (S := Unit) (β := Int) (fun (i1 : Nat) (y1 : MChoice) (s3 : Unit) => (bif (impl_choiceAt_1.md y1 a1) then (.inr ((i1 : Int) : Int)) else (.inl ()))) (fun (s3 : Unit) => ((-1) : Int)) 0 a0 ())
def gd (a0 : List MChoice) (a1 : List ByteArray) : Prop := (SmL (2 ^ 21) (fun y : MChoice => MChoice.Sm (2 ^ 21) y) a0) ∧ (SmL (2 ^ 21) (fun y : ByteArray => y.size ≤ (2 ^ 21)) a1)
def acc (ls : List L) : List (List L) × List (List L) := ((ls.headD .hole).toSl, (lDec (padL 1 (dropT 1 ls))))
noncomputable def R : (List (List L) × List (List L)) → Option Int := RR (p2 gd) (u2 md)
theorem R_eq {a0} {a1} (h : gd a0 a1) : R ((a0.map MChoice.row), (a1.map sRow)) = some (md a0 a1) := RR_eq (a := (a0, a1)) h
noncomputable def con : Con := CN pats res acc R
theorem okF (a0 : List MChoice) (a1 : List ByteArray) (p1 : List L) (e1 : (a1.map sRow) = (lDec p1)) (hg : gd a0 a1) : ∃ n, start (iter step n) (a0.map MChoice.row) p1 = ret ((md a0 a1) : Int) := by
  unfold gd at hg
  obtain ⟨H0, H1⟩ := hg
  unfold start md
  try simp only [S0, MChoice.rs, ← e1]
  have Bh2 : a0.length ≤ maxLen := (by
      have := (H0).1
      try simp only [maxLen] at *
      omega)
  refine ex_eq (out := ret) (loopM_eachI (z := MChoice.zero)) ?_
  refine ex_pt (p := Pt.p0 (a0.map MChoice.row) p1 (a0.length : Int) 0) (by first | rfl | (simp only [S0, MChoice.rs, ← e1, MP]; done) | (simp only [MP]; rfl)) ?_
  refine loopM_ok (pt := fun (i1 : Nat) (s3 : Unit) => Pt.p0 (a0.map MChoice.row) p1 (a0.length : Int) (i1 : Int)) (s := (() : Unit)) (out := ret) (fun _ _ => True) (fun J i1 s3 h2 hih2 => ?_) (fun s3 hih2 => ?_) trivial
  · simp only [step, S0, MChoice.rs, ← e1]
    have bb_ := Bh2
    simp only [maxLen] at bb_
    have := (H0).1
    refine Rnd.yes (by apply decide_eq_true; omega) ?_
    refine Rnd.yes zle_dec ?_
    refine Rnd.yes (lt_dec h2) ?_
    refine Rnd.call_to (impl_choiceAt_1.md (a0.getD i1 MChoice.zero) a1) (impl_choiceAt_1.R_eq (a0 := (a0.getD i1 MChoice.zero)) (a1 := a1) ⟨(SmL.getD (z := MChoice.zero) H0 h2), H1⟩) ?_
    refine Rnd.bif (fun c4 => ?_) (fun c4 => ?_)
    · refine Rnd.inr ?_
      all_goals first | rfl | (simp only [S0, MChoice.rs, ← e1, MP]; first | done | rfl)
    · refine Rnd.inl trivial ?_
      rw [wrap_succ h2 Bh2]
      all_goals first | rfl | (simp only [S0, MChoice.rs, ← e1, MP]; first | done | rfl)
  · simp only [step, S0, MChoice.rs, ← e1]
    have := (H0).1
    refine ex_no (by apply decide_eq_false; omega) ?_
    refine ⟨0, ?_⟩
    all_goals first | rfl | (simp only [S0, MChoice.rs, ← e1, MP]; first | done | rfl)
theorem okV (ls : List L) (a : List MChoice × List ByteArray) (e : acc ls = Im.im a) (hg : (p2 gd) a) : ∃ n : Nat, start (iter step n) ((ls.headD .hole).toSl) (padL 1 (dropT 1 ls)) = ret (Im.im ((u2 md) a)) := by
  have e0 : (a.1.map MChoice.row) = (ls.headD .hole).toSl := (congrArg (fun x => x.1) e.symm)
  obtain ⟨n, hn⟩ := okF a.1 a.2 (padL 1 (dropT 1 ls)) (congrArg (fun x => x.2) e.symm) hg
  refine ⟨n, ?_⟩
  rw [← e0]
  exact hn
theorem valid_ : Valid Try.prog Ev 139 con := VP (accr := fun ls => ((ls.headD .hole).toSl, (padL 1 (dropT 1 ls)))) (run := fun n x => start (iter step n) x.1 x.2) mix tab_ok (.cons impl_choiceAt_1.valid_ .nil) Try.func139 (by kernel_rfl) run_eq (fun ls a _ e hg => okV ls a e hg)
theorem fa (a0 : List MChoice) (a1 : List ByteArray) : -1 ≤ md a0 a1 ∧ md a0 a1 < (a0.length : Int) := by
  unfold md
  refine eachI_fa0 ?_ _ _
  all_goals
    intro i x s b h
    revert h
    simp only [Bool.cond_eq_ite]
    repeat' split
    all_goals (intro h; first | (cases h; rfl) | cases h)
theorem idx_eq (a0 : List MChoice) (a1 : List ByteArray) : md a0 a1 = findI (fun y => impl_choiceAt_1.md y a1) 0 a0 := by
  unfold md
  exact eachI_find
end slices_IndexFunc_Simpl_Choice_impl_Choice__impl_choiceAt_1
/-! impl.choiceAt -/
namespace impl_choiceAt
noncomputable def F (x0 : List (List L)) (x1 : List (List L)) : Ans := (call (slices_IndexFunc_Simpl_Choice_impl_Choice__impl_choiceAt_1.R (x0, x1)) fun v1 => ret (v1 : Int))
def pats : List Pat := [.rd (.sl 128), .rd (.sl 9)]
def res : RP := .one (.rd (.int .i64))
noncomputable abbrev E : Env := ⟨assoc Tab, conG [(139, slices_IndexFunc_Simpl_Choice_impl_Choice__impl_choiceAt_1.con)], 8⟩
set_option maxRecDepth 100000
theorem run_eq (n : Nat) (ls : List L) : runF E (fun _ => []) Try.f87 res n (initS pats ls) = F (ls.headD .hole).toSl ((dropT 1 ls).headD .hole).toSl := by kernel_rfl
noncomputable def md (a0 : List MChoice) (a1 : List ByteArray) : Int := ((slices_IndexFunc_Simpl_Choice_impl_Choice__impl_choiceAt_1.md a0 a1) : Int)
def gd (a0 : List MChoice) (a1 : List ByteArray) : Prop := (SmL (2 ^ 21) (fun y : MChoice => MChoice.Sm (2 ^ 21) y) a0) ∧ (SmL (2 ^ 21) (fun y : ByteArray => y.size ≤ (2 ^ 21)) a1)
def acc (ls : List L) : List (List L) × List (List L) := ((ls.headD .hole).toSl, ((dropT 1 ls).headD .hole).toSl)
noncomputable def R : (List (List L) × List (List L)) → Option Int := RR (p2 gd) (u2 md)
theorem R_eq {a0} {a1} (h : gd a0 a1) : R ((a0.map MChoice.row), (a1.map sRow)) = some (md a0 a1) := RR_eq (a := (a0, a1)) h
noncomputable def con : Con := CN pats res acc R
theorem okF (a0 : List MChoice) (a1 : List ByteArray) (hg : gd a0 a1) : F (a0.map MChoice.row) (a1.map sRow) = ret ((md a0 a1) : Int) := by
  unfold gd at hg
  obtain ⟨H0, H1⟩ := hg
  unfold F md
  try simp only [S0]
  refine call_to (slices_IndexFunc_Simpl_Choice_impl_Choice__impl_choiceAt_1.md a0 a1) (slices_IndexFunc_Simpl_Choice_impl_Choice__impl_choiceAt_1.R_eq (a0 := a0) (a1 := a1) ⟨H0, H1⟩) ?_
  have fv1_ := slices_IndexFunc_Simpl_Choice_impl_Choice__impl_choiceAt_1.fa a0 a1
  all_goals first | rfl | (simp only [S0, MP]; first | done | rfl)
theorem valid_ : Valid Try.prog Ev 87 con := VV (run := fun _ x => F x.1 x.2) mix tab_ok (.cons slices_IndexFunc_Simpl_Choice_impl_Choice__impl_choiceAt_1.valid_ .nil) Try.func87 (by kernel_rfl) run_eq (fun _ a _ _ hg => ⟨0, okF a.1 a.2 hg⟩)
theorem br (a0 : List MChoice) (a1 : List ByteArray) : md a0 a1 = spec_l30Find.md a0 a1 := by
  unfold md spec_l30Find.md
  first
  | (simp only [slices_IndexFunc_Simpl_Choice_impl_Choice__impl_choiceAt_1.idx_eq, spec_SamePath.md_eq]; done)
  | (simp only [slices_IndexFunc_Simpl_Choice_impl_Choice__impl_choiceAt_1.idx_eq, spec_SamePath.md_eq]; rfl)
  | rfl
end impl_choiceAt
/-! impl.AreChoices -/
namespace impl_AreChoices
inductive Pt where
  | p0 (a : List (List L)) (b : List (List L)) (c : Int) (d : Int)
def pid : Pt → Nat
  | .p0 .. => 2
def pvs : Pt → List V
  | .p0 a b c d => [.sl none 128 a, .sl none 128 b, .int .i64 c, .int .i64 d]
def phs : Pt → List Root
  | .p0 a b c d => []
noncomputable def step (J : Pt → Ans) : Pt → Ans
  | .p0 a b c d => (bif (decide (d < c)) then (bif (decide ((0 : Int) ≤ d)) then (bif (decide (d < (b.length : Int))) then (call (impl_IsPath.R ((RChoice.at b (Int.toNat d)).fPath)) fun v1 => (bif (!v1) then ret (false : Bool) else (call (impl_IsEntry.R ((RChoice.at b (Int.toNat d)).fEntry)) fun v2 => (bif (!v2) then ret (false : Bool) else (call (impl_choiceAt.R (a, (RChoice.at b (Int.toNat d)).fPath)) fun v3 => (bif (v3 != d) then ret (false : Bool) else J (.p0 a b c (IntKind.i64.wrap (d + 1))))))))) else none) else none) else ret ((decide ((a.length : Int) ≤ 8)) : Bool))
noncomputable def start (J : Pt → Ans) (x0 : List (List L)) : Ans := J (.p0 x0 x0 (x0.length : Int) 0)
def live : Nat → Live := fun i => match i with | 2 => [(0, none), (5, none), (6, none), (7, none)] | _ => []
def pats : List Pat := [.rd (.sl 128)]
def res : RP := .one (.rd (.bool))
noncomputable abbrev E : Env := ⟨assoc Tab, conG [(85, impl_IsPath.con), (86, impl_IsEntry.con), (87, impl_choiceAt.con)], 34⟩
set_option maxRecDepth 100000
theorem step_eq (I : Heads) (p : Pt) : enterC E live I (pid p) (bodyOf Try.f30) (stOf (live (pid p)) (pvs p) (phs p)) (doneK E Try.f30 res) = step (fun q => I (pid q) (pvs q) (phs q)) p := by
  cases p <;> kernel_rfl
theorem start_eq (I : Heads) (ls : List L) : runC E live I (bodyOf Try.f30) (initS pats ls) (doneK E Try.f30 res) = start (fun q => I (pid q) (pvs q) (phs q)) (ls.headD .hole).toSl := by kernel_rfl
theorem run_eq (n : Nat) (ls : List L) : runF E live Try.f30 res n (initS pats ls) = start (iter step n) (ls.headD .hole).toSl := runF_iter (id := pid) (vs := pvs) (hs := phs) (step := step) (start := fun J => start J (ls.headD .hole).toSl) step_eq (fun I => start_eq I ls) n
noncomputable def md (a0 : List MChoice) : Bool := (eachI (S := Unit) (β := Bool) (fun (i1 : Nat) (y1 : MChoice) (s3 : Unit) => (bif (!(impl_IsPath.md (y1.fPath))) then (.inr (false : Bool)) else (bif (!(impl_IsEntry.md (y1.fEntry))) then (.inr (false : Bool)) else (bif ((impl_choiceAt.md a0 (y1.fPath)) != (i1 : Int)) then (.inr (false : Bool)) else (.inl ()))))) (fun (s3 : Unit) => ((decide ((a0.length : Int) ≤ 8)) : Bool)) 0 a0 ())
def gd (a0 : List MChoice) : Prop := (SmL (2 ^ 21) (fun y : MChoice => MChoice.Sm (2 ^ 21) y) a0)
def acc (ls : List L) : List (List L) := (ls.headD .hole).toSl
noncomputable def R : (List (List L)) → Option Bool := RR gd md
theorem R_eq {a0} (h : gd a0) : R (a0.map MChoice.row) = some (md a0) := RR_eq (a := a0) h
noncomputable def con : Con := CN pats res acc R
theorem okF (a0 : List MChoice) (hg : gd a0) : ∃ n, start (iter step n) (a0.map MChoice.row) = ret ((md a0) : Bool) := by
  unfold gd at hg
  have H0 := hg
  unfold start md
  try simp only [S0, MEntry.rs, MChoice.rs]
  have Bh2 : a0.length ≤ maxLen := (by
      have := (H0).1
      try simp only [maxLen] at *
      omega)
  refine ex_eq (out := ret) (loopM_eachI (z := MChoice.zero)) ?_
  refine ex_pt (p := Pt.p0 (a0.map MChoice.row) (a0.map MChoice.row) (a0.length : Int) 0) (by first | rfl | (simp only [S0, MEntry.rs, MChoice.rs, MP]; done) | (simp only [MP]; rfl)) ?_
  refine loopM_ok (pt := fun (i1 : Nat) (s3 : Unit) => Pt.p0 (a0.map MChoice.row) (a0.map MChoice.row) (a0.length : Int) (i1 : Int)) (s := (() : Unit)) (out := ret) (fun _ _ => True) (fun J i1 s3 h2 hih2 => ?_) (fun s3 hih2 => ?_) trivial
  · simp only [step, S0, MEntry.rs, MChoice.rs]
    have bb_ := Bh2
    simp only [maxLen] at bb_
    have := (H0).1
    refine Rnd.yes (by apply decide_eq_true; omega) ?_
    refine Rnd.yes zle_dec ?_
    refine Rnd.yes (lt_dec h2) ?_
    refine Rnd.call_to (impl_IsPath.md ((a0.getD i1 MChoice.zero).fPath)) (impl_IsPath.R_eq (a0 := (a0.getD i1 MChoice.zero).fPath) (SmL.getD (z := MChoice.zero) H0 h2).1) ?_
    refine Rnd.bif (fun _ => Rnd.inr rfl) (fun c4 => ?_)
    refine Rnd.call_to (impl_IsEntry.md ((a0.getD i1 MChoice.zero).fEntry)) (impl_IsEntry.R_eq (a0 := (a0.getD i1 MChoice.zero).fEntry) (SmL.getD (z := MChoice.zero) H0 h2).2) ?_
    refine Rnd.bif (fun _ => Rnd.inr rfl) (fun c5 => ?_)
    refine Rnd.call_to (impl_choiceAt.md a0 ((a0.getD i1 MChoice.zero).fPath)) (impl_choiceAt.R_eq (a0 := a0) (a1 := (a0.getD i1 MChoice.zero).fPath) ⟨H0, (SmL.getD (z := MChoice.zero) H0 h2).1⟩) ?_
    refine Rnd.bif (fun _ => Rnd.inr rfl) (fun c6 => ?_)
    refine Rnd.inl trivial ?_
    rw [wrap_succ h2 Bh2]
    all_goals first | rfl | (simp only [S0, MEntry.rs, MChoice.rs, MP]; first | done | rfl)
  · simp only [step, S0, MEntry.rs, MChoice.rs]
    have := (H0).1
    refine ex_no (by apply decide_eq_false; omega) ?_
    refine ⟨0, ?_⟩
    all_goals first | rfl | (simp only [S0, MEntry.rs, MChoice.rs, MP]; first | done | rfl)
theorem valid_ : Valid Try.prog Ev 30 con := VV (run := fun n x => start (iter step n) x) mix tab_ok (.cons impl_IsPath.valid_ (.cons impl_IsEntry.valid_ (.cons impl_choiceAt.valid_ .nil))) Try.func30 (by kernel_rfl) run_eq (fun _ a _ _ hg => okF a hg)
theorem br (a0 : List MChoice) : md a0 = spec_AreChoices.md a0 := by
  unfold md spec_AreChoices.md
  first
  | (simp only [impl_IsPath.br, impl_IsEntry.br, impl_choiceAt.br]; done)
  | (simp only [impl_IsPath.br, impl_IsEntry.br, impl_choiceAt.br]; rfl)
  | rfl
end impl_AreChoices
/-! laws.eqStringS -/
namespace laws_eqStringS
inductive Pt where
  | p0 (a : List (List L)) (b : List (List L)) (c : Int)
def pid : Pt → Nat
  | .p0 .. => 4
def pvs : Pt → List V
  | .p0 a b c => [.sl none 9 a, .sl none 9 b, .int .i64 c]
def phs : Pt → List Root
  | .p0 a b c => []
noncomputable def step (J : Pt → Ans) : Pt → Ans
  | .p0 a b c => (bif (decide (c < (a.length : Int))) then (bif (decide ((0 : Int) ≤ c)) then (bif (decide (c < (a.length : Int))) then (bif (decide ((0 : Int) ≤ c)) then (bif (decide (c < (b.length : Int))) then (bif (!((sAt a (Int.toNat c)) == (sAt b (Int.toNat c)))) then ret (false : Bool) else J (.p0 a b (IntKind.i64.wrap (c + 1)))) else none) else none) else none) else none) else ret (true : Bool))
noncomputable def start (J : Pt → Ans) (x0 : List (List L)) (x1 : List (List L)) : Ans := (bif ((x0.length : Int) != (x1.length : Int)) then ret (false : Bool) else J (.p0 x0 x1 0))
def live : Nat → Live := fun i => match i with | 4 => [(0, none), (1, none), (5, none)] | _ => []
def pats : List Pat := [.rd (.sl 9), .rd (.sl 9)]
def res : RP := .one (.rd (.bool))
noncomputable abbrev E : Env := ⟨assoc Tab, conG [], 26⟩
set_option maxRecDepth 100000
theorem step_eq (I : Heads) (p : Pt) : enterC E live I (pid p) (bodyOf Try.f123) (stOf (live (pid p)) (pvs p) (phs p)) (doneK E Try.f123 res) = step (fun q => I (pid q) (pvs q) (phs q)) p := by
  cases p <;> kernel_rfl
theorem start_eq (I : Heads) (ls : List L) : runC E live I (bodyOf Try.f123) (initS pats ls) (doneK E Try.f123 res) = start (fun q => I (pid q) (pvs q) (phs q)) (ls.headD .hole).toSl ((dropT 1 ls).headD .hole).toSl := by kernel_rfl
theorem run_eq (n : Nat) (ls : List L) : runF E live Try.f123 res n (initS pats ls) = start (iter step n) (ls.headD .hole).toSl ((dropT 1 ls).headD .hole).toSl := runF_iter (id := pid) (vs := pvs) (hs := phs) (step := step) (start := fun J => start J (ls.headD .hole).toSl ((dropT 1 ls).headD .hole).toSl) step_eq (fun I => start_eq I ls) n
noncomputable def md (a0 : List ByteArray) (a1 : List ByteArray) : Bool := eqB a0 a1
def gd (a0 : List ByteArray) (a1 : List ByteArray) : Prop := True
def acc (ls : List L) : List (List L) × List (List L) := ((ls.headD .hole).toSl, ((dropT 1 ls).headD .hole).toSl)
noncomputable def R : (List (List L) × List (List L)) → Option Bool := RR (p2 gd) (u2 md)
theorem R_eq {a0} {a1} (h : gd a0 a1) : R ((a0.map sRow), (a1.map sRow)) = some (md a0 a1) := RR_eq (a := (a0, a1)) h
noncomputable def con : Con := CN pats res acc R
theorem okF (a0 : List ByteArray) (a1 : List ByteArray) (hg : gd a0 a1) (h0 : a0.length ≤ maxLen) (h1 : a1.length ≤ maxLen) : ∃ n, start (iter step n) (a0.map sRow) (a1.map sRow) = ret ((md a0 a1) : Bool) := by
  unfold start md
  simp only [List.length_map]
  refine eq_list (pt := fun i => Pt.p0 (a0.map sRow) (a1.map sRow) (i : Int)) (fun hl J i h h2 => ?_) (fun J => ?_)
  · simp only [step, List.length_map, lt_dec h, lt_dec h2, zle_dec, cond_true, toNat_nat, sAt_row h, sAt_row h2]
    rw [wrap_succ h h0]
    simp only [bne, int_beq, bool_beq, ba_beq]
    cases eqB a0[i] a1[i] <;> rfl
  · simp only [step, List.length_map, nlt_dec, cond_false]
theorem valid_ : Valid Try.prog Ev 123 con := VV (run := fun n x => start (iter step n) x.1 x.2) mix tab_ok .nil Try.func123 (by kernel_rfl) run_eq (fun ls a hl e hg => okF a.1 a.2 hg (by have h : (ls.headD .hole).toSl.length ≤ maxLen := hl.1.len; have e : a.1.map sRow = (ls.headD .hole).toSl := (congrArg (fun x => x.1) e.symm); rw [← e] at h; simpa using h) (by have h : ((dropT 1 ls).headD .hole).toSl.length ≤ maxLen := hl.2.1.len; have e : a.2.map sRow = ((dropT 1 ls).headD .hole).toSl := (congrArg (fun x => x.2) e.symm); rw [← e] at h; simpa using h))
end laws_eqStringS
/-! laws.eqEntry -/
namespace laws_eqEntry
noncomputable def F (x0 : REntry) (x1 : REntry) : Ans := (bif (!(x0.fLabel == x1.fLabel)) then ret (false : Bool) else (bif (x0.fKind != x1.fKind) then ret (false : Bool) else (bif (x0.fValue != x1.fValue) then ret (false : Bool) else (call (laws_eqStringS.R (x0.fPath, x1.fPath)) fun v1 => (bif (!v1) then ret (false : Bool) else ret (true : Bool))))))
def pats : List Pat := [.agg [.str, .int .i64, .int .i64, .sl 9], .agg [.str, .int .i64, .int .i64, .sl 9]]
def res : RP := .one (.rd (.bool))
noncomputable abbrev E : Env := ⟨assoc Tab, conG [(123, laws_eqStringS.con)], 26⟩
set_option maxRecDepth 100000
theorem run_eq (n : Nat) (ls : List L) : runF E (fun _ => []) Try.f74 res n (initS pats ls) = F (REntry.dec ls) (REntry.dec (dropT 4 ls)) := by kernel_rfl
noncomputable def md (a0 : MEntry) (a1 : MEntry) : Bool := eqB a0 a1
def gd (a0 : MEntry) (a1 : MEntry) : Prop := True
def acc (ls : List L) : REntry × REntry := ((REntry.dec ls), (REntry.dec (dropT 4 ls)))
noncomputable def R : (REntry × REntry) → Option Bool := RR (p2 gd) (u2 md)
theorem R_eq {a0} {a1} (h : gd a0 a1) : R ((MEntry.r a0), (MEntry.r a1)) = some (md a0 a1) := RR_eq (a := (a0, a1)) h
noncomputable def con : Con := CN pats res acc R
theorem okF (a0 : MEntry) (a1 : MEntry) (hg : gd a0 a1) : F (MEntry.r a0) (MEntry.r a1) = ret ((md a0 a1) : Bool) := by
  unfold md
  show (bif (!(a0.fLabel == a1.fLabel)) then ret (false : Bool) else (bif (a0.fKind != a1.fKind) then ret (false : Bool) else (bif (a0.fValue != a1.fValue) then ret (false : Bool) else (call (laws_eqStringS.R ((a0.fPath.map sRow), (a1.fPath.map sRow))) fun v1 => (bif (!v1) then ret (false : Bool) else ret (true : Bool)))))) = _
  simp only [call_eq (laws_eqStringS.R_eq (a0 := a0.fPath) (a1 := a1.fPath) trivial), laws_eqStringS.md]
  try simp only [bne, int_beq, bool_beq, ba_beq]
  have e : eqB a0 a1 = (eqB a0.fLabel a1.fLabel && (eqB a0.fKind a1.fKind && (eqB a0.fValue a1.fValue && (eqB a0.fPath a1.fPath && true)))) := by
    cases a0; cases a1
    rw [Bool.eq_iff_iff]
    simp only [eqB_iff, Bool.and_eq_true, MEntry.mk.injEq, and_true]
  rw [e]
  refine and_step fun _ => ?_
  refine and_step fun _ => ?_
  refine and_step fun _ => ?_
  refine and_step fun _ => ?_
  rfl
theorem valid_ : Valid Try.prog Ev 74 con := VV (run := fun _ x => F x.1 x.2) mix tab_ok (.cons laws_eqStringS.valid_ .nil) Try.func74 (by kernel_rfl) run_eq (fun _ a _ _ hg => ⟨0, okF a.1 a.2 hg⟩)
end laws_eqEntry
/-! laws.eqChoice -/
namespace laws_eqChoice
noncomputable def F (x0 : RChoice) (x1 : RChoice) : Ans := (call (laws_eqStringS.R (x0.fPath, x1.fPath)) fun v1 => (bif (!v1) then ret (false : Bool) else (call (laws_eqEntry.R (x0.fEntry, x1.fEntry)) fun v2 => (bif (!v2) then ret (false : Bool) else ret (true : Bool)))))
def pats : List Pat := [.agg [.sl 9, .str, .int .i64, .int .i64, .sl 9], .agg [.sl 9, .str, .int .i64, .int .i64, .sl 9]]
def res : RP := .one (.rd (.bool))
noncomputable abbrev E : Env := ⟨assoc Tab, conG [(123, laws_eqStringS.con), (74, laws_eqEntry.con)], 17⟩
set_option maxRecDepth 100000
theorem run_eq (n : Nat) (ls : List L) : runF E (fun _ => []) Try.f88 res n (initS pats ls) = F (RChoice.dec ls) (RChoice.dec (dropT 5 ls)) := by kernel_rfl
noncomputable def md (a0 : MChoice) (a1 : MChoice) : Bool := eqB a0 a1
def gd (a0 : MChoice) (a1 : MChoice) : Prop := True
def acc (ls : List L) : RChoice × RChoice := ((RChoice.dec ls), (RChoice.dec (dropT 5 ls)))
noncomputable def R : (RChoice × RChoice) → Option Bool := RR (p2 gd) (u2 md)
theorem R_eq {a0} {a1} (h : gd a0 a1) : R ((MChoice.r a0), (MChoice.r a1)) = some (md a0 a1) := RR_eq (a := (a0, a1)) h
noncomputable def con : Con := CN pats res acc R
theorem okF (a0 : MChoice) (a1 : MChoice) (hg : gd a0 a1) : F (MChoice.r a0) (MChoice.r a1) = ret ((md a0 a1) : Bool) := by
  unfold md
  show (call (laws_eqStringS.R ((a0.fPath.map sRow), (a1.fPath.map sRow))) fun v1 => (bif (!v1) then ret (false : Bool) else (call (laws_eqEntry.R ((MEntry.r a0.fEntry), (MEntry.r a1.fEntry))) fun v2 => (bif (!v2) then ret (false : Bool) else ret (true : Bool))))) = _
  simp only [call_eq (laws_eqStringS.R_eq (a0 := a0.fPath) (a1 := a1.fPath) trivial), laws_eqStringS.md]
  simp only [call_eq (laws_eqEntry.R_eq (a0 := a0.fEntry) (a1 := a1.fEntry) trivial), laws_eqEntry.md]
  try simp only [bne, int_beq, bool_beq, ba_beq]
  have e : eqB a0 a1 = (eqB a0.fPath a1.fPath && (eqB a0.fEntry a1.fEntry && true)) := by
    cases a0; cases a1
    rw [Bool.eq_iff_iff]
    simp only [eqB_iff, Bool.and_eq_true, MChoice.mk.injEq, and_true]
  rw [e]
  refine and_step fun _ => ?_
  refine and_step fun _ => ?_
  rfl
theorem valid_ : Valid Try.prog Ev 88 con := VV (run := fun _ x => F x.1 x.2) mix tab_ok (.cons laws_eqStringS.valid_ (.cons laws_eqEntry.valid_ .nil)) Try.func88 (by kernel_rfl) run_eq (fun _ a _ _ hg => ⟨0, okF a.1 a.2 hg⟩)
end laws_eqChoice
/-! laws.eqChoiceS -/
namespace laws_eqChoiceS
inductive Pt where
  | p0 (a : List (List L)) (b : List (List L)) (c : Int)
def pid : Pt → Nat
  | .p0 .. => 4
def pvs : Pt → List V
  | .p0 a b c => [.sl none 128 a, .sl none 128 b, .int .i64 c]
def phs : Pt → List Root
  | .p0 a b c => []
noncomputable def step (J : Pt → Ans) : Pt → Ans
  | .p0 a b c => (bif (decide (c < (a.length : Int))) then (bif (decide ((0 : Int) ≤ c)) then (bif (decide (c < (a.length : Int))) then (bif (decide ((0 : Int) ≤ c)) then (bif (decide (c < (b.length : Int))) then (call (laws_eqChoice.R ((RChoice.at a (Int.toNat c)), (RChoice.at b (Int.toNat c)))) fun v1 => (bif (!v1) then ret (false : Bool) else J (.p0 a b (IntKind.i64.wrap (c + 1))))) else none) else none) else none) else none) else ret (true : Bool))
noncomputable def start (J : Pt → Ans) (x0 : List (List L)) (x1 : List (List L)) : Ans := (bif ((x0.length : Int) != (x1.length : Int)) then ret (false : Bool) else J (.p0 x0 x1 0))
def live : Nat → Live := fun i => match i with | 4 => [(0, none), (1, none), (5, none)] | _ => []
def pats : List Pat := [.rd (.sl 128), .rd (.sl 128)]
def res : RP := .one (.rd (.bool))
noncomputable abbrev E : Env := ⟨assoc Tab, conG [(88, laws_eqChoice.con)], 27⟩
set_option maxRecDepth 100000
theorem step_eq (I : Heads) (p : Pt) : enterC E live I (pid p) (bodyOf Try.f31) (stOf (live (pid p)) (pvs p) (phs p)) (doneK E Try.f31 res) = step (fun q => I (pid q) (pvs q) (phs q)) p := by
  cases p <;> kernel_rfl
theorem start_eq (I : Heads) (ls : List L) : runC E live I (bodyOf Try.f31) (initS pats ls) (doneK E Try.f31 res) = start (fun q => I (pid q) (pvs q) (phs q)) (ls.headD .hole).toSl ((dropT 1 ls).headD .hole).toSl := by kernel_rfl
theorem run_eq (n : Nat) (ls : List L) : runF E live Try.f31 res n (initS pats ls) = start (iter step n) (ls.headD .hole).toSl ((dropT 1 ls).headD .hole).toSl := runF_iter (id := pid) (vs := pvs) (hs := phs) (step := step) (start := fun J => start J (ls.headD .hole).toSl ((dropT 1 ls).headD .hole).toSl) step_eq (fun I => start_eq I ls) n
noncomputable def md (a0 : List MChoice) (a1 : List MChoice) : Bool := eqB a0 a1
def gd (a0 : List MChoice) (a1 : List MChoice) : Prop := True
def acc (ls : List L) : List (List L) × List (List L) := ((ls.headD .hole).toSl, ((dropT 1 ls).headD .hole).toSl)
noncomputable def R : (List (List L) × List (List L)) → Option Bool := RR (p2 gd) (u2 md)
theorem R_eq {a0} {a1} (h : gd a0 a1) : R ((a0.map MChoice.row), (a1.map MChoice.row)) = some (md a0 a1) := RR_eq (a := (a0, a1)) h
noncomputable def con : Con := CN pats res acc R
theorem okF (a0 : List MChoice) (a1 : List MChoice) (hg : gd a0 a1) (h0 : a0.length ≤ maxLen) (h1 : a1.length ≤ maxLen) : ∃ n, start (iter step n) (a0.map MChoice.row) (a1.map MChoice.row) = ret ((md a0 a1) : Bool) := by
  unfold start md
  simp only [List.length_map]
  refine eq_list (pt := fun i => Pt.p0 (a0.map MChoice.row) (a1.map MChoice.row) (i : Int)) (fun hl J i h h2 => ?_) (fun J => ?_)
  · simp only [step, List.length_map, lt_dec h, lt_dec h2, zle_dec, cond_true, toNat_nat, MChoice.at_row h, MChoice.at_row h2]
    rw [wrap_succ h h0]
    rw [call_eq (laws_eqChoice.R_eq (a0 := a0[i]) (a1 := a1[i]) trivial), laws_eqChoice.md]
    cases eqB a0[i] a1[i] <;> rfl
  · simp only [step, List.length_map, nlt_dec, cond_false]
theorem valid_ : Valid Try.prog Ev 31 con := VV (run := fun n x => start (iter step n) x.1 x.2) mix tab_ok (.cons laws_eqChoice.valid_ .nil) Try.func31 (by kernel_rfl) run_eq (fun ls a hl e hg => okF a.1 a.2 hg (by have h : (ls.headD .hole).toSl.length ≤ maxLen := hl.1.len; have e : a.1.map MChoice.row = (ls.headD .hole).toSl := (congrArg (fun x => x.1) e.symm); rw [← e] at h; simpa using h) (by have h : ((dropT 1 ls).headD .hole).toSl.length ≤ maxLen := hl.2.1.len; have e : a.2.map MChoice.row = ((dropT 1 ls).headD .hole).toSl := (congrArg (fun x => x.2) e.symm); rw [← e] at h; simpa using h))
end laws_eqChoiceS
/-! laws.FnExactAreChoices -/
namespace laws_FnExactAreChoices
noncomputable def F (x0 : List (List L)) : Ans := (call (laws_szChoiceS.R (x0, 1048576)) fun v1 => (bif (decide (v1 < 0)) then ret (true : Bool) else (call (laws_toChoiceS.R x0) fun v2 => (call (spec_AreChoices.R v2) fun v3 => (call (laws_toChoiceS.R x0) fun v4 => (call (impl_AreChoices.R v4) fun v5 => (bif (!(v5 == v3)) then ret (false : Bool) else (call (laws_toChoiceS.R x0) fun v6 => (call (laws_eqChoiceS.R (v4, v6)) fun v7 => (bif (!v7) then ret (false : Bool) else ret (true : Bool)))))))))))
def pats : List Pat := [.rd (.sl 125)]
def res : RP := .one (.rd (.bool))
noncomputable abbrev E : Env := ⟨assoc Tab, conG [(27, laws_szChoiceS.con), (29, laws_toChoiceS.con), (28, spec_AreChoices.con), (30, impl_AreChoices.con), (31, laws_eqChoiceS.con)], 27⟩
set_option maxRecDepth 100000
theorem run_eq (n : Nat) (ls : List L) : runF E (fun _ => []) Try.f5 res n (initS pats ls) = F (ls.headD .hole).toSl := by kernel_rfl
noncomputable def md (a0 : List MChoice) : Bool := true
def gd (a0 : List MChoice) : Prop := (SmL maxLen (fun y : MChoice => MChoice.Sm maxLen y) a0)
def acc (ls : List L) : List (List L) := (ls.headD .hole).toSl
noncomputable def R : (List (List L)) → Option Bool := RR gd md
theorem R_eq {a0} (h : gd a0) : R (a0.map MChoice.row) = some (md a0) := RR_eq (a := a0) h
noncomputable def con : Con := CN pats res acc R
theorem okF (a0 : List MChoice) (hg : gd a0) : F (a0.map MChoice.row) = ret ((md a0) : Bool) := by
  unfold md
  show (call (laws_szChoiceS.R ((a0.map MChoice.row), 1048576)) fun v1 => (bif (decide (v1 < 0)) then ret (true : Bool) else (call (laws_toChoiceS.R (a0.map MChoice.row)) fun v2 => (call (spec_AreChoices.R v2) fun v3 => (call (laws_toChoiceS.R (a0.map MChoice.row)) fun v4 => (call (impl_AreChoices.R v4) fun v5 => (bif (!(v5 == v3)) then ret (false : Bool) else (call (laws_toChoiceS.R (a0.map MChoice.row)) fun v6 => (call (laws_eqChoiceS.R (v4, v6)) fun v7 => (bif (!v7) then ret (false : Bool) else ret (true : Bool))))))))))) = _
  rw [call_eq (laws_szChoiceS.R_eq (a1 := (1048576 : Int)) ⟨hg, by omega, by omega⟩)]
  unfold laws_szChoiceS.md
  by_cases c0 : (1048576 : Int) < (((szL (fun y : MChoice => MChoice.size y) a0) : Nat) : Int)
  · rw [szM_neg c0]; rfl
  rw [szM_pos c0, dec_neg (by omega)]
  simp only [cond_false]
  have s0 : SmL (2 ^ 20) (fun y : MChoice => MChoice.Sm (2 ^ 20) y) a0 := (szL_sm (f := fun y : MChoice => MChoice.size y) (by omega) (fun x hx => (MChoice.Sm_of hx)))
  rw [call_eq (laws_toChoiceS.R_eq (a0 := a0) (s0.mono (by decide) (fun x hx => (MChoice.Sm_mono (by decide) hx))))]
  simp only [laws_toChoiceS.md]
  rw [call_eq (spec_AreChoices.R_eq (a0 := a0) (by
    have := And.intro trivial trivial
    unfold spec_AreChoices.gd
    first | exact (s0.mono (by decide) (fun x hx => (MChoice.Sm_mono (by decide) hx))) | refine ⟨(s0.mono (by decide) (fun x hx => (MChoice.Sm_mono (by decide) hx)))⟩))]
  rw [call_eq (laws_toChoiceS.R_eq (a0 := a0) (s0.mono (by decide) (fun x hx => (MChoice.Sm_mono (by decide) hx))))]
  simp only [laws_toChoiceS.md]
  rw [call_eq (impl_AreChoices.R_eq (a0 := a0) (by
    have := And.intro trivial trivial
    unfold impl_AreChoices.gd
    first | exact (s0.mono (by decide) (fun x hx => (MChoice.Sm_mono (by decide) hx))) | refine ⟨(s0.mono (by decide) (fun x hx => (MChoice.Sm_mono (by decide) hx)))⟩))]
  try simp only [impl_AreChoices.br, bne_self_eq_false, beq_self_eq_true, ba_refl, Bool.not_true, cond_false]
  rw [call_eq (laws_toChoiceS.R_eq (a0 := a0) (s0.mono (by decide) (fun x hx => (MChoice.Sm_mono (by decide) hx))))]
  simp only [laws_toChoiceS.md]
  rw [call_eq (laws_eqChoiceS.R_eq (a0 := a0) (a1 := a0) trivial)]
  simp only [laws_eqChoiceS.md, eqB_refl, Bool.not_true, cond_false]
theorem valid_ : Valid Try.prog Ev 5 con := VV (run := fun _ x => F x) mix tab_ok (.cons laws_szChoiceS.valid_ (.cons laws_toChoiceS.valid_ (.cons spec_AreChoices.valid_ (.cons impl_AreChoices.valid_ (.cons laws_eqChoiceS.valid_ .nil))))) Try.func5 (by kernel_rfl) run_eq (fun _ a _ _ hg => ⟨0, okF a hg⟩)
theorem MEntry_wf24 (r : List L) (h : WfAll Ev.cells [.str, .int .i64, .int .i64, .sl 9] r) : ∃ x : MEntry, MEntry.row x = r ∧ MEntry.Sm maxLen x := by
  obtain ⟨l0, t0, rfl, g0, h1⟩ := h.uncons
  obtain ⟨x0, rfl, s0⟩ := wf_str g0
  obtain ⟨l1, t1, rfl, g1, h2⟩ := h1.uncons
  obtain ⟨x1, rfl⟩ := wf_int g1
  obtain ⟨l2, t2, rfl, g2, h3⟩ := h2.uncons
  obtain ⟨x2, rfl⟩ := wf_int g2
  obtain ⟨l3, t3, rfl, g3, h4⟩ := h3.uncons
  obtain ⟨x3, rfl, s3⟩ := wf_list (show Ev.cells 9 = [.str] from by kernel_rfl) wf_srow g3
  obtain rfl := h4.isnil
  exact ⟨⟨x0, x1, x2, x3⟩, rfl, ⟨s0, s3⟩⟩
theorem MChoice_wf125 (r : List L) (h : WfAll Ev.cells [.sl 9, .str, .int .i64, .int .i64, .sl 9] r) : ∃ x : MChoice, MChoice.row x = r ∧ MChoice.Sm maxLen x := by
  obtain ⟨l0, t0, rfl, g0, h1⟩ := h.uncons
  obtain ⟨x0, rfl, s0⟩ := wf_list (show Ev.cells 9 = [.str] from by kernel_rfl) wf_srow g0
  obtain ⟨r1, t1, rfl, g1, h2⟩ := WfAll.unapp (a := [.str, .int .i64, .int .i64, .sl 9]) (b := []) h1
  obtain ⟨x1, rfl, s1⟩ := MEntry_wf24 _ g1
  obtain rfl := h2.isnil
  exact ⟨⟨x0, x1⟩, rfl, ⟨s0, s1⟩⟩
theorem holds (ls : List L) (h : WfAll Ev.cells ([43].flatMap Ev.cells) ls) : con.sem ls = some [.bool true] := by
  have hk : [43].flatMap Ev.cells = [.sl 125] := by kernel_rfl
  rw [hk] at h
  obtain ⟨l0, t0, rfl, g0, h1⟩ := h.uncons
  obtain ⟨x0, rfl, s0⟩ := wf_list (show Ev.cells 125 = [.sl 9, .str, .int .i64, .int .i64, .sl 9] from by kernel_rfl) MChoice_wf125 g0
  obtain rfl := h1.isnil
  show (R (x0.map MChoice.row)).map RT.enc = _
  rw [R_eq s0]
  rfl
end laws_FnExactAreChoices
end Go.DM
