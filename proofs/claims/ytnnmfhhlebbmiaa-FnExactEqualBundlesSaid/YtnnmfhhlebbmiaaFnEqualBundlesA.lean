/- What the functions compute that the law reaches, and that the law returns true. Conditions: none. -/
import Derived.Test.YtnnmfhhlebbmiaaTy
import Derived.Test.YtnnmfhhlebbmiaaProg
import Derived.Lib.AppendZerosOnto
import Derived.Lib.Bytealg
import Derived.Laws.Externs
import Derived.Lib.Walk
import Derived.Lib.Hide
import Derived.Lib.Strings
set_option linter.all false
namespace Go.DM
open Go.Proofs
def Tab : List (Nat × TI) := [
  (2, ⟨[.int .i64], false, [], 8, false⟩),
  (3, ⟨[.int .i64], false, [], 8, false⟩),
  (4, ⟨[.bool], false, [], 1, false⟩),
  (5, ⟨[.int .u8], false, [], 1, false⟩),
  (6, ⟨[.int .u8], false, [], 1, false⟩),
  (7, ⟨[.int .i64, .int .i64, .bool, .int .u8], true, [(0, 2), (1, 3), (2, 4), (3, 6)], 24, false⟩),
  (8, ⟨[.int .i64, .int .i64, .bool, .int .u8], true, [(0, 2), (1, 3), (2, 4), (3, 6)], 24, false⟩),
  (9, ⟨[.str], false, [], 16, false⟩),
  (10, ⟨[.str], false, [], 16, false⟩),
  (11, ⟨[.str], false, [], 16, false⟩),
  (12, ⟨[.int .u64], false, [], 8, false⟩),
  (13, ⟨[.str, .int .u64], true, [(0, 9), (1, 12)], 24, false⟩),
  (14, ⟨[.str, .int .u64], true, [(0, 9), (1, 12)], 24, false⟩),
  (21, ⟨[.int .i32], false, [], 4, false⟩),
  (22, ⟨[.sl 9], false, [], 24, false⟩),
  (23, ⟨[.str, .int .i64, .int .i64, .sl 9], true, [(0, 9), (1, 3), (2, 3), (3, 22)], 56, false⟩),
  (24, ⟨[.str, .int .i64, .int .i64, .sl 9], true, [(0, 9), (1, 3), (2, 3), (3, 22)], 56, false⟩),
  (25, ⟨[.sl 24], false, [], 24, false⟩),
  (26, ⟨[.int .i64, .str, .int .i64, .int .i64, .sl 9, .sl 24], true, [(0, 3), (1, 24), (5, 25)], 88, false⟩),
  (27, ⟨[.int .i64, .str, .int .i64, .int .i64, .sl 9, .sl 24], true, [(0, 3), (1, 24), (5, 25)], 88, false⟩),
  (30, ⟨[.str, .int .i64, .int .i64, .sl 9], true, [(0, 9), (1, 3), (2, 3), (3, 22)], 56, false⟩),
  (31, ⟨[.sl 30], false, [], 24, false⟩),
  (32, ⟨[.int .i64, .str, .int .i64, .int .i64, .sl 9, .sl 30], true, [(0, 3), (1, 30), (5, 31)], 88, false⟩),
  (33, ⟨[.int .i64, .str, .int .i64, .int .i64, .sl 9, .sl 30], true, [(0, 3), (1, 30), (5, 31)], 88, false⟩),
  (36, ⟨[.sl 113], false, [], 24, false⟩),
  (39, ⟨[.sl 119], false, [], 24, false⟩),
  (43, ⟨[.sl 125], false, [], 24, false⟩),
  (46, ⟨[.sl 128], false, [], 24, false⟩),
  (50, ⟨[.sl 36], false, [], 24, false⟩),
  (51, ⟨[.sl 223], false, [], 24, false⟩),
  (52, ⟨[.sl 36, .sl 223], true, [(0, 50), (1, 51)], 48, false⟩),
  (53, ⟨[.sl 36, .sl 223], true, [(0, 50), (1, 51)], 48, false⟩),
  (54, ⟨[.sl 3], false, [], 24, false⟩),
  (55, ⟨[.sl 36, .sl 223, .int .i64, .str, .int .i64, .int .i64, .sl 9, .sl 3, .int .i64], true, [(0, 53), (2, 3), (3, 24), (7, 54), (8, 3)], 144, false⟩),
  (56, ⟨[.sl 36, .sl 223, .int .i64, .str, .int .i64, .int .i64, .sl 9, .sl 3, .int .i64], true, [(0, 53), (2, 3), (3, 24), (7, 54), (8, 3)], 144, false⟩),
  (59, ⟨[.sl 39], false, [], 24, false⟩),
  (60, ⟨[.sl 199], false, [], 24, false⟩),
  (61, ⟨[.sl 39, .sl 199], true, [(0, 59), (1, 60)], 48, false⟩),
  (62, ⟨[.sl 39, .sl 199], true, [(0, 59), (1, 60)], 48, false⟩),
  (63, ⟨[.sl 39, .sl 199, .int .i64, .str, .int .i64, .int .i64, .sl 9, .sl 3, .int .i64], true, [(0, 62), (2, 3), (3, 30), (7, 54), (8, 3)], 144, false⟩),
  (64, ⟨[.sl 39, .sl 199, .int .i64, .str, .int .i64, .int .i64, .sl 9, .sl 3, .int .i64], true, [(0, 62), (2, 3), (3, 30), (7, 54), (8, 3)], 144, false⟩),
  (72, ⟨[.sl 56], false, [], 24, false⟩),
  (75, ⟨[.sl 64], false, [], 24, false⟩),
  (82, ⟨[.sl 209], false, [], 24, false⟩),
  (83, ⟨[.sl 209], true, [(0, 82)], 24, false⟩),
  (84, ⟨[.sl 209], true, [(0, 82)], 24, false⟩),
  (87, ⟨[.sl 159], false, [], 24, false⟩),
  (88, ⟨[.sl 159], true, [(0, 87)], 24, false⟩),
  (89, ⟨[.sl 159], true, [(0, 87)], 24, false⟩),
  (92, ⟨[.int .i64, .sl 9, .sl 209], true, [(0, 3), (1, 22), (2, 82)], 56, false⟩),
  (93, ⟨[.int .i64, .sl 9, .sl 209], true, [(0, 3), (1, 22), (2, 82)], 56, false⟩),
  (96, ⟨[.int .i64, .sl 9, .sl 159], true, [(0, 3), (1, 22), (2, 87)], 56, false⟩),
  (97, ⟨[.int .i64, .sl 9, .sl 159], true, [(0, 3), (1, 22), (2, 87)], 56, false⟩),
  (107, ⟨[.sl 3, .int .i64], true, [(0, 54), (1, 3)], 32, false⟩),
  (108, ⟨[.sl 3, .int .i64], true, [(0, 54), (1, 3)], 32, false⟩),
  (109, ⟨[.int .i64, .int .i64, .int .i64, .int .i64, .int .i64, .int .i64, .int .i64, .int .i64, .sl 3, .int .i64, .sl 3, .int .i64, .int .i64, .sl 3, .int .i64, .bool], true, [(0, 3), (1, 3), (2, 3), (3, 3), (4, 3), (5, 3), (6, 3), (7, 3), (8, 108), (10, 108), (12, 3), (13, 108), (15, 4)], 176, false⟩),
  (110, ⟨[.int .i64, .int .i64, .int .i64, .int .i64, .int .i64, .int .i64, .int .i64, .int .i64, .sl 3, .int .i64, .sl 3, .int .i64, .int .i64, .sl 3, .int .i64, .bool], true, [(0, 3), (1, 3), (2, 3), (3, 3), (4, 3), (5, 3), (6, 3), (7, 3), (8, 108), (10, 108), (12, 3), (13, 108), (15, 4)], 176, false⟩),
  (111, ⟨[.sl 218], false, [], 24, false⟩),
  (112, ⟨[.int .i64, .int .i64, .int .i64, .int .i64, .int .i64, .int .i64, .int .i64, .int .i64, .sl 3, .int .i64, .sl 3, .int .i64, .int .i64, .sl 3, .int .i64, .bool, .sl 218], true, [(0, 110), (16, 111)], 200, false⟩),
  (113, ⟨[.int .i64, .int .i64, .int .i64, .int .i64, .int .i64, .int .i64, .int .i64, .int .i64, .sl 3, .int .i64, .sl 3, .int .i64, .int .i64, .sl 3, .int .i64, .bool, .sl 218], true, [(0, 110), (16, 111)], 200, false⟩),
  (114, ⟨[.sl 3, .int .i64], true, [(0, 54), (1, 3)], 32, false⟩),
  (115, ⟨[.int .i64, .int .i64, .int .i64, .int .i64, .int .i64, .int .i64, .int .i64, .int .i64, .sl 3, .int .i64, .sl 3, .int .i64, .int .i64, .sl 3, .int .i64, .bool], true, [(0, 3), (1, 3), (2, 3), (3, 3), (4, 3), (5, 3), (6, 3), (7, 3), (8, 114), (10, 114), (12, 3), (13, 114), (15, 4)], 176, false⟩),
  (116, ⟨[.int .i64, .int .i64, .int .i64, .int .i64, .int .i64, .int .i64, .int .i64, .int .i64, .sl 3, .int .i64, .sl 3, .int .i64, .int .i64, .sl 3, .int .i64, .bool], true, [(0, 3), (1, 3), (2, 3), (3, 3), (4, 3), (5, 3), (6, 3), (7, 3), (8, 114), (10, 114), (12, 3), (13, 114), (15, 4)], 176, false⟩),
  (117, ⟨[.sl 216], false, [], 24, false⟩),
  (118, ⟨[.int .i64, .int .i64, .int .i64, .int .i64, .int .i64, .int .i64, .int .i64, .int .i64, .sl 3, .int .i64, .sl 3, .int .i64, .int .i64, .sl 3, .int .i64, .bool, .sl 216], true, [(0, 116), (16, 117)], 200, false⟩),
  (119, ⟨[.int .i64, .int .i64, .int .i64, .int .i64, .int .i64, .int .i64, .int .i64, .int .i64, .sl 3, .int .i64, .sl 3, .int .i64, .int .i64, .sl 3, .int .i64, .bool, .sl 216], true, [(0, 116), (16, 117)], 200, false⟩),
  (124, ⟨[.sl 9, .str, .int .i64, .int .i64, .sl 9], true, [(0, 22), (1, 24)], 80, false⟩),
  (125, ⟨[.sl 9, .str, .int .i64, .int .i64, .sl 9], true, [(0, 22), (1, 24)], 80, false⟩),
  (127, ⟨[.sl 9, .str, .int .i64, .int .i64, .sl 9], true, [(0, 22), (1, 30)], 80, false⟩),
  (128, ⟨[.sl 9, .str, .int .i64, .int .i64, .sl 9], true, [(0, 22), (1, 30)], 80, false⟩),
  (139, ⟨[.sl 54], false, [], 24, false⟩),
  (142, ⟨[.sl 190], false, [], 24, false⟩),
  (152, ⟨[.int .i64, .sl 3], true, [(0, 3), (1, 54)], 32, false⟩),
  (153, ⟨[.int .i64, .sl 3], true, [(0, 3), (1, 54)], 32, false⟩),
  (154, ⟨[.int .i64, .str, .int .i64, .int .i64, .sl 9, .str, .int .i64, .int .i64, .sl 9, .int .i64, .sl 3, .int .i64, .sl 3], true, [(0, 3), (1, 30), (5, 30), (9, 153), (11, 153)], 184, false⟩),
  (155, ⟨[.int .i64, .str, .int .i64, .int .i64, .sl 9, .str, .int .i64, .int .i64, .sl 9, .int .i64, .sl 3, .int .i64, .sl 3], true, [(0, 3), (1, 30), (5, 30), (9, 153), (11, 153)], 184, false⟩),
  (156, ⟨[.sl 119, .bool, .str, .int .i64, .int .i64, .sl 9, .int .i64, .sl 3, .int .i64, .str, .int .i64, .int .i64, .sl 9, .str, .int .i64, .int .i64, .sl 9, .int .i64, .sl 3, .int .i64, .sl 3], true, [(0, 39), (1, 4), (2, 30), (6, 153), (8, 155)], 304, false⟩),
  (157, ⟨[.sl 119, .bool, .str, .int .i64, .int .i64, .sl 9, .int .i64, .sl 3, .int .i64, .str, .int .i64, .int .i64, .sl 9, .str, .int .i64, .int .i64, .sl 9, .int .i64, .sl 3, .int .i64, .sl 3], true, [(0, 39), (1, 4), (2, 30), (6, 153), (8, 155)], 304, false⟩),
  (158, ⟨[.int .i64, .str, .sl 119, .bool, .str, .int .i64, .int .i64, .sl 9, .int .i64, .sl 3, .int .i64, .str, .int .i64, .int .i64, .sl 9, .str, .int .i64, .int .i64, .sl 9, .int .i64, .sl 3, .int .i64, .sl 3], true, [(0, 3), (1, 9), (2, 157)], 328, false⟩),
  (159, ⟨[.int .i64, .str, .sl 119, .bool, .str, .int .i64, .int .i64, .sl 9, .int .i64, .sl 3, .int .i64, .str, .int .i64, .int .i64, .sl 9, .str, .int .i64, .int .i64, .sl 9, .int .i64, .sl 3, .int .i64, .sl 3], true, [(0, 3), (1, 9), (2, 157)], 328, false⟩),
  (189, ⟨[.int .i64, .sl 3, .int .i64, .int .i64], true, [(0, 3), (1, 114), (3, 3)], 48, false⟩),
  (190, ⟨[.int .i64, .sl 3, .int .i64, .int .i64], true, [(0, 3), (1, 114), (3, 3)], 48, false⟩),
  (194, ⟨[.sl 119, .sl 30], true, [(0, 39), (1, 31)], 48, false⟩),
  (195, ⟨[.sl 119, .sl 30], true, [(0, 39), (1, 31)], 48, false⟩),
  (198, ⟨[.int .i64, .int .i64, .int .i64, .int .i64, .int .i64, .int .i64, .int .i64, .int .i64, .sl 3, .int .i64, .sl 3, .int .i64, .int .i64, .sl 3, .int .i64, .bool, .sl 216, .int .i64, .int .i64, .int .i64, .int .i64, .int .i64, .int .i64, .int .i64, .int .i64, .sl 3, .int .i64, .sl 3, .int .i64, .int .i64, .sl 3, .int .i64, .bool, .sl 216, .int .i64, .int .i64, .int .i64, .int .i64, .int .i64, .int .i64, .int .i64, .int .i64, .sl 3, .int .i64, .sl 3, .int .i64, .int .i64, .sl 3, .int .i64, .bool, .sl 216], true, [(0, 119), (17, 119), (34, 119)], 600, false⟩),
  (199, ⟨[.int .i64, .int .i64, .int .i64, .int .i64, .int .i64, .int .i64, .int .i64, .int .i64, .sl 3, .int .i64, .sl 3, .int .i64, .int .i64, .sl 3, .int .i64, .bool, .sl 216, .int .i64, .int .i64, .int .i64, .int .i64, .int .i64, .int .i64, .int .i64, .int .i64, .sl 3, .int .i64, .sl 3, .int .i64, .int .i64, .sl 3, .int .i64, .bool, .sl 216, .int .i64, .int .i64, .int .i64, .int .i64, .int .i64, .int .i64, .int .i64, .int .i64, .sl 3, .int .i64, .sl 3, .int .i64, .int .i64, .sl 3, .int .i64, .bool, .sl 216], true, [(0, 119), (17, 119), (34, 119)], 600, false⟩),
  (203, ⟨[.int .i64, .sl 3], true, [(0, 3), (1, 54)], 32, false⟩),
  (204, ⟨[.int .i64, .str, .int .i64, .int .i64, .sl 9, .str, .int .i64, .int .i64, .sl 9, .int .i64, .sl 3, .int .i64, .sl 3], true, [(0, 3), (1, 24), (5, 24), (9, 203), (11, 203)], 184, false⟩),
  (205, ⟨[.int .i64, .str, .int .i64, .int .i64, .sl 9, .str, .int .i64, .int .i64, .sl 9, .int .i64, .sl 3, .int .i64, .sl 3], true, [(0, 3), (1, 24), (5, 24), (9, 203), (11, 203)], 184, false⟩),
  (206, ⟨[.sl 113, .bool, .str, .int .i64, .int .i64, .sl 9, .int .i64, .sl 3, .int .i64, .str, .int .i64, .int .i64, .sl 9, .str, .int .i64, .int .i64, .sl 9, .int .i64, .sl 3, .int .i64, .sl 3], true, [(0, 36), (1, 4), (2, 24), (6, 203), (8, 205)], 304, false⟩),
  (207, ⟨[.sl 113, .bool, .str, .int .i64, .int .i64, .sl 9, .int .i64, .sl 3, .int .i64, .str, .int .i64, .int .i64, .sl 9, .str, .int .i64, .int .i64, .sl 9, .int .i64, .sl 3, .int .i64, .sl 3], true, [(0, 36), (1, 4), (2, 24), (6, 203), (8, 205)], 304, false⟩),
  (208, ⟨[.int .i64, .str, .sl 113, .bool, .str, .int .i64, .int .i64, .sl 9, .int .i64, .sl 3, .int .i64, .str, .int .i64, .int .i64, .sl 9, .str, .int .i64, .int .i64, .sl 9, .int .i64, .sl 3, .int .i64, .sl 3], true, [(0, 3), (1, 9), (2, 207)], 328, false⟩),
  (209, ⟨[.int .i64, .str, .sl 113, .bool, .str, .int .i64, .int .i64, .sl 9, .int .i64, .sl 3, .int .i64, .str, .int .i64, .int .i64, .sl 9, .str, .int .i64, .int .i64, .sl 9, .int .i64, .sl 3, .int .i64, .sl 3], true, [(0, 3), (1, 9), (2, 207)], 328, false⟩),
  (215, ⟨[.int .i64, .int .i64], true, [(0, 3), (1, 3)], 16, false⟩),
  (216, ⟨[.int .i64, .int .i64], true, [(0, 3), (1, 3)], 16, true⟩),
  (218, ⟨[.int .i64, .int .i64], true, [(0, 3), (1, 3)], 16, true⟩),
  (222, ⟨[.int .i64, .int .i64, .int .i64, .int .i64, .int .i64, .int .i64, .int .i64, .int .i64, .sl 3, .int .i64, .sl 3, .int .i64, .int .i64, .sl 3, .int .i64, .bool, .sl 218, .int .i64, .int .i64, .int .i64, .int .i64, .int .i64, .int .i64, .int .i64, .int .i64, .sl 3, .int .i64, .sl 3, .int .i64, .int .i64, .sl 3, .int .i64, .bool, .sl 218, .int .i64, .int .i64, .int .i64, .int .i64, .int .i64, .int .i64, .int .i64, .int .i64, .sl 3, .int .i64, .sl 3, .int .i64, .int .i64, .sl 3, .int .i64, .bool, .sl 218], true, [(0, 113), (17, 113), (34, 113)], 600, false⟩),
  (223, ⟨[.int .i64, .int .i64, .int .i64, .int .i64, .int .i64, .int .i64, .int .i64, .int .i64, .sl 3, .int .i64, .sl 3, .int .i64, .int .i64, .sl 3, .int .i64, .bool, .sl 218, .int .i64, .int .i64, .int .i64, .int .i64, .int .i64, .int .i64, .int .i64, .int .i64, .sl 3, .int .i64, .sl 3, .int .i64, .int .i64, .sl 3, .int .i64, .bool, .sl 218, .int .i64, .int .i64, .int .i64, .int .i64, .int .i64, .int .i64, .int .i64, .int .i64, .sl 3, .int .i64, .sl 3, .int .i64, .int .i64, .sl 3, .int .i64, .bool, .sl 218], true, [(0, 113), (17, 113), (34, 113)], 600, false⟩),
  (260, ⟨[.int .u32], false, [], 4, false⟩),
  (261, ⟨[.int .u8], false, [], 1, false⟩),
  (262, ⟨[.int .u8], false, [], 1, false⟩),
  (265, ⟨[.int .i32], false, [], 4, false⟩),
  (266, ⟨[.int .i32], false, [], 4, false⟩)]
noncomputable abbrev Ev : Env := ⟨assoc Tab, fun _ => [], 0⟩
theorem tab_ok : tableB Try.prog Tab = true := by kernel_rfl
theorem mix : Try.prog.follows .mixedOrders = true := by kernel_rfl
/-! laws.szStringS -/
namespace laws_szStringS
inductive Pt where
  | p0 (a : List (List L)) (b : Int) (c : Int)
def pid : Pt → Nat
  | .p0 .. => 5
def pvs : Pt → List V
  | .p0 a b c => [.sl none 9 a, .int .i64 b, .int .i64 c]
def phs : Pt → List Root
  | .p0 a b c => []
noncomputable def step (J : Pt → Ans) : Pt → Ans
  | .p0 a b c => (bif (decide (c < (a.length : Int))) then (bif (decide ((0 : Int) ≤ c)) then (bif (decide (c < (a.length : Int))) then (bif (decide ((IntKind.i64.wrap (b - ((sAt a (Int.toNat c)).size : Int))) < 0)) then ret ((-1) : Int) else J (.p0 a (IntKind.i64.wrap (b - ((sAt a (Int.toNat c)).size : Int))) (IntKind.i64.wrap (c + 1)))) else none) else none) else ret (b : Int))
noncomputable def start (J : Pt → Ans) (x0 : List (List L)) (x1 : Int) : Ans := (bif (decide ((IntKind.i64.wrap (x1 - (x0.length : Int))) < 0)) then ret ((-1) : Int) else J (.p0 x0 (IntKind.i64.wrap (x1 - (x0.length : Int))) 0))
def live : Nat → Live := fun i => match i with | 5 => [(0, none), (1, none), (5, none)] | _ => []
def pats : List Pat := [.rd (.sl 9), .rd (.int .i64)]
def res : RP := .one (.rd (.int .i64))
noncomputable abbrev E : Env := ⟨assoc Tab, conG [], 28⟩
set_option maxRecDepth 100000
theorem step_eq (I : Heads) (p : Pt) : enterC E live I (pid p) (bodyOf Try.f119) (stOf (live (pid p)) (pvs p) (phs p)) (doneK E Try.f119 res) = step (fun q => I (pid q) (pvs q) (phs q)) p := by
  cases p <;> kernel_rfl
theorem start_eq (I : Heads) (ls : List L) : runC E live I (bodyOf Try.f119) (initS pats ls) (doneK E Try.f119 res) = start (fun q => I (pid q) (pvs q) (phs q)) (ls.headD .hole).toSl ((dropT 1 ls).headD .hole).toInt := by kernel_rfl
theorem run_eq (n : Nat) (ls : List L) : runF E live Try.f119 res n (initS pats ls) = start (iter step n) (ls.headD .hole).toSl ((dropT 1 ls).headD .hole).toInt := runF_iter (id := pid) (vs := pvs) (hs := phs) (step := step) (start := fun J => start J (ls.headD .hole).toSl ((dropT 1 ls).headD .hole).toInt) step_eq (fun I => start_eq I ls) n
noncomputable def md (a0 : List ByteArray) (a1 : Int) : Int := szM (szL (fun y : ByteArray => y.size) a0) a1
def gd (a0 : List ByteArray) (a1 : Int) : Prop := (SmL maxLen (fun y : ByteArray => y.size ≤ maxLen) a0) ∧ 0 ≤ a1 ∧ a1 ≤ 1048576
def acc (ls : List L) : List (List L) × Int := ((ls.headD .hole).toSl, ((dropT 1 ls).headD .hole).toInt)
noncomputable def R : (List (List L) × Int) → Option Int := RR (p2 gd) (u2 md)
theorem R_eq {a0} {a1} (h : gd a0 a1) : R ((a0.map sRow), a1) = some (md a0 a1) := RR_eq (a := (a0, a1)) h
noncomputable def con : Con := CN pats res acc R
theorem okF (a0 : List ByteArray) (a1 : Int) (hg : gd a0 a1) : ∃ n, start (iter step n) (a0.map sRow) a1 = ret ((md a0 a1) : Int) := by
  obtain ⟨hs, g0, g1⟩ := hg
  unfold start md
  simp only [List.length_map]
  refine sz_list (pt := fun left i => Pt.p0 (a0.map sRow) left (i : Int)) (f := fun y : ByteArray => y.size) hs.1 (fun J i h left p0 p1 => ?_) (fun J left => ?_) g0 g1
  · simp only [step, List.length_map, lt_dec h, zle_dec, cond_true, toNat_nat, sAt_row h]
    rw [sz_wrap p0 p1 (hs.get h), wrap_succ h hs.1]
    by_cases hc : left - ((a0[i].size : Nat) : Int) < 0
    · rw [decide_eq_true hc, if_pos (by omega)]; rfl
    · rw [decide_eq_false hc, if_neg (by omega)]; rfl
  · simp only [step, List.length_map, nlt_dec, cond_false]
theorem valid_ : Valid Try.prog Ev 119 con := VV (run := fun n x => start (iter step n) x.1 x.2) mix tab_ok .nil Try.func119 (by kernel_rfl) run_eq (fun _ a _ _ hg => okF a.1 a.2 hg)
end laws_szStringS
/-! laws.szIntS -/
namespace laws_szIntS
noncomputable def F (x0 : List (List L)) (x1 : Int) : Ans := (bif (decide ((IntKind.i64.wrap (x1 - (x0.length : Int))) < 0)) then ret ((-1) : Int) else ret ((IntKind.i64.wrap (x1 - (x0.length : Int))) : Int))
def pats : List Pat := [.rd (.sl 3), .rd (.int .i64)]
def res : RP := .one (.rd (.int .i64))
noncomputable abbrev E : Env := ⟨assoc Tab, conG [], 12⟩
set_option maxRecDepth 100000
theorem run_eq (n : Nat) (ls : List L) : runF E (fun _ => []) Try.f90 res n (initS pats ls) = F (ls.headD .hole).toSl ((dropT 1 ls).headD .hole).toInt := by kernel_rfl
noncomputable def md (a0 : List Int) (a1 : Int) : Int := szM (szL (fun y : Int => 0) a0) a1
def gd (a0 : List Int) (a1 : Int) : Prop := (SmL maxLen (fun y : Int => True) a0) ∧ 0 ≤ a1 ∧ a1 ≤ 1048576
def acc (ls : List L) : List (List L) × Int := ((ls.headD .hole).toSl, ((dropT 1 ls).headD .hole).toInt)
noncomputable def R : (List (List L) × Int) → Option Int := RR (p2 gd) (u2 md)
theorem R_eq {a0} {a1} (h : gd a0 a1) : R ((a0.map iRow), a1) = some (md a0 a1) := RR_eq (a := (a0, a1)) h
noncomputable def con : Con := CN pats res acc R
theorem okF (a0 : List Int) (a1 : Int) (hg : gd a0 a1) : F (a0.map iRow) a1 = ret ((md a0 a1) : Int) := by
  obtain ⟨hs, g0, g1⟩ := hg
  unfold F md
  rw [List.length_map, sz_wrap g0 g1 hs.1]
  have e : szL (fun y : Int => 0) a0 = a0.length := by
    unfold szL
    have : (a0.map (fun y : Int => 0)).sum = 0 := sum_zero (fun _ => rfl) a0
    omega
  rw [e]
  by_cases hc : a1 < ((a0.length : Nat) : Int)
  · rw [szM_neg hc, decide_eq_true (by omega)]; rfl
  · rw [szM_pos hc, decide_eq_false (by omega)]; rfl
theorem valid_ : Valid Try.prog Ev 90 con := VV (run := fun _ x => F x.1 x.2) mix tab_ok .nil Try.func90 (by kernel_rfl) run_eq (fun _ a _ _ hg => ⟨0, okF a.1 a.2 hg⟩)
end laws_szIntS
/-! laws.szKeys -/
namespace laws_szKeys
noncomputable def F (x0 : RKeys) (x1 : Int) : Ans := (call (laws_szIntS.R (x0.fList, x1)) fun v1 => (bif (decide (v1 < 0)) then ret ((-1) : Int) else ret (v1 : Int)))
def pats : List Pat := [.agg [.sl 3, .int .i64], .rd (.int .i64)]
def res : RP := .one (.rd (.int .i64))
noncomputable abbrev E : Env := ⟨assoc Tab, conG [(90, laws_szIntS.con)], 12⟩
set_option maxRecDepth 100000
theorem run_eq (n : Nat) (ls : List L) : runF E (fun _ => []) Try.f171 res n (initS pats ls) = F (RKeys.dec ls) ((dropT 2 ls).headD .hole).toInt := by kernel_rfl
noncomputable def md (a0 : MKeys) (a1 : Int) : Int := szM (MKeys.size a0) a1
def gd (a0 : MKeys) (a1 : Int) : Prop := (MKeys.Sm maxLen a0) ∧ 0 ≤ a1 ∧ a1 ≤ 1048576
def acc (ls : List L) : RKeys × Int := ((RKeys.dec ls), ((dropT 2 ls).headD .hole).toInt)
noncomputable def R : (RKeys × Int) → Option Int := RR (p2 gd) (u2 md)
theorem R_eq {a0} {a1} (h : gd a0 a1) : R ((MKeys.r a0), a1) = some (md a0 a1) := RR_eq (a := (a0, a1)) h
noncomputable def con : Con := CN pats res acc R
theorem okF (a0 : MKeys) (a1 : Int) (hg : gd a0 a1) : F (MKeys.r a0) a1 = ret ((md a0 a1) : Int) := by
  obtain ⟨hs, g0, g1⟩ := hg
  unfold md
  show (call (laws_szIntS.R ((a0.fList.map iRow), a1)) fun v1 => (bif (decide (v1 < 0)) then ret ((-1) : Int) else ret (v1 : Int))) = _
  rw [call_eq (laws_szIntS.R_eq (a1 := a1) ⟨hs, by omega, by omega⟩)]
  unfold laws_szIntS.md
  by_cases c0 : a1 < ((szL (fun y : Int => 0) a0.fList : Nat) : Int)
  · rw [szM_neg c0]; rw [show szM (MKeys.size a0) a1 = -1 from szM_neg (by unfold MKeys.size; omega)]; try rfl
  rw [szM_pos c0, dec_neg (by omega), cond_false]
  rw [show szM (MKeys.size a0) a1 = a1 - ((szL (fun y : Int => 0) a0.fList : Nat) : Int) from by rw [szM_pos (by unfold MKeys.size; omega)]; unfold MKeys.size; omega]
theorem valid_ : Valid Try.prog Ev 171 con := VV (run := fun _ x => F x.1 x.2) mix tab_ok (.cons laws_szIntS.valid_ .nil) Try.func171 (by kernel_rfl) run_eq (fun _ a _ _ hg => ⟨0, okF a.1 a.2 hg⟩)
end laws_szKeys
/-! laws.szHead -/
namespace laws_szHead
noncomputable def F (x0 : RHead) (x1 : Int) : Ans := (call (laws_szKeys.R (x0.fKeys, x1)) fun v1 => (bif (decide (v1 < 0)) then ret ((-1) : Int) else (call (laws_szKeys.R (x0.fHeirs, v1)) fun v2 => (bif (decide (v2 < 0)) then ret ((-1) : Int) else (call (laws_szKeys.R (x0.fJudge, v2)) fun v3 => (bif (decide (v3 < 0)) then ret ((-1) : Int) else ret (v3 : Int)))))))
def pats : List Pat := [.agg [.int .i64, .int .i64, .int .i64, .int .i64, .int .i64, .int .i64, .int .i64, .int .i64, .sl 3, .int .i64, .sl 3, .int .i64, .int .i64, .sl 3, .int .i64, .bool], .rd (.int .i64)]
def res : RP := .one (.rd (.int .i64))
noncomputable abbrev E : Env := ⟨assoc Tab, conG [(171, laws_szKeys.con)], 24⟩
set_option maxRecDepth 100000
theorem run_eq (n : Nat) (ls : List L) : runF E (fun _ => []) Try.f126 res n (initS pats ls) = F (RHead.dec ls) ((dropT 16 ls).headD .hole).toInt := by kernel_rfl
noncomputable def md (a0 : MHead) (a1 : Int) : Int := szM (MHead.size a0) a1
def gd (a0 : MHead) (a1 : Int) : Prop := (MHead.Sm maxLen a0) ∧ 0 ≤ a1 ∧ a1 ≤ 1048576
def acc (ls : List L) : RHead × Int := ((RHead.dec ls), ((dropT 16 ls).headD .hole).toInt)
noncomputable def R : (RHead × Int) → Option Int := RR (p2 gd) (u2 md)
theorem R_eq {a0} {a1} (h : gd a0 a1) : R ((MHead.r a0), a1) = some (md a0 a1) := RR_eq (a := (a0, a1)) h
noncomputable def con : Con := CN pats res acc R
theorem okF (a0 : MHead) (a1 : Int) (hg : gd a0 a1) : F (MHead.r a0) a1 = ret ((md a0 a1) : Int) := by
  obtain ⟨hs, g0, g1⟩ := hg
  unfold md
  show (call (laws_szKeys.R ((MKeys.r a0.fKeys), a1)) fun v1 => (bif (decide (v1 < 0)) then ret ((-1) : Int) else (call (laws_szKeys.R ((MKeys.r a0.fHeirs), v1)) fun v2 => (bif (decide (v2 < 0)) then ret ((-1) : Int) else (call (laws_szKeys.R ((MKeys.r a0.fJudge), v2)) fun v3 => (bif (decide (v3 < 0)) then ret ((-1) : Int) else ret (v3 : Int))))))) = _
  rw [call_eq (laws_szKeys.R_eq (a1 := a1) ⟨hs.1, by omega, by omega⟩)]
  unfold laws_szKeys.md
  by_cases c0 : a1 < ((MKeys.size a0.fKeys : Nat) : Int)
  · rw [szM_neg c0]; rw [show szM (MHead.size a0) a1 = -1 from szM_neg (by unfold MHead.size; omega)]; try rfl
  rw [szM_pos c0, dec_neg (by omega), cond_false]
  rw [call_eq (laws_szKeys.R_eq (a1 := (a1 - ((MKeys.size a0.fKeys : Nat) : Int))) ⟨hs.2.1, by omega, by omega⟩)]
  unfold laws_szKeys.md
  by_cases c1 : (a1 - ((MKeys.size a0.fKeys : Nat) : Int)) < ((MKeys.size a0.fHeirs : Nat) : Int)
  · rw [szM_neg c1]; rw [show szM (MHead.size a0) a1 = -1 from szM_neg (by unfold MHead.size; omega)]; try rfl
  rw [szM_pos c1, dec_neg (by omega), cond_false]
  rw [call_eq (laws_szKeys.R_eq (a1 := (a1 - ((MKeys.size a0.fKeys : Nat) : Int) - ((MKeys.size a0.fHeirs : Nat) : Int))) ⟨hs.2.2, by omega, by omega⟩)]
  unfold laws_szKeys.md
  by_cases c2 : (a1 - ((MKeys.size a0.fKeys : Nat) : Int) - ((MKeys.size a0.fHeirs : Nat) : Int)) < ((MKeys.size a0.fJudge : Nat) : Int)
  · rw [szM_neg c2]; rw [show szM (MHead.size a0) a1 = -1 from szM_neg (by unfold MHead.size; omega)]; try rfl
  rw [szM_pos c2, dec_neg (by omega), cond_false]
  rw [show szM (MHead.size a0) a1 = a1 - ((MKeys.size a0.fKeys : Nat) : Int) - ((MKeys.size a0.fHeirs : Nat) : Int) - ((MKeys.size a0.fJudge : Nat) : Int) from by rw [szM_pos (by unfold MHead.size; omega)]; unfold MHead.size; omega]
theorem valid_ : Valid Try.prog Ev 126 con := VV (run := fun _ x => F x.1 x.2) mix tab_ok (.cons laws_szKeys.valid_ .nil) Try.func126 (by kernel_rfl) run_eq (fun _ a _ _ hg => ⟨0, okF a.1 a.2 hg⟩)
end laws_szHead
/-! laws.szSigS -/
namespace laws_szSigS
noncomputable def F (x0 : List (List L)) (x1 : Int) : Ans := (bif (decide ((IntKind.i64.wrap (x1 - (x0.length : Int))) < 0)) then ret ((-1) : Int) else ret ((IntKind.i64.wrap (x1 - (x0.length : Int))) : Int))
def pats : List Pat := [.rd (.sl 218), .rd (.int .i64)]
def res : RP := .one (.rd (.int .i64))
noncomputable abbrev E : Env := ⟨assoc Tab, conG [], 12⟩
set_option maxRecDepth 100000
theorem run_eq (n : Nat) (ls : List L) : runF E (fun _ => []) Try.f127 res n (initS pats ls) = F (ls.headD .hole).toSl ((dropT 1 ls).headD .hole).toInt := by kernel_rfl
noncomputable def md (a0 : List MSig) (a1 : Int) : Int := szM (szL (fun y : MSig => MSig.size y) a0) a1
def gd (a0 : List MSig) (a1 : Int) : Prop := (SmL maxLen (fun y : MSig => MSig.Sm maxLen y) a0) ∧ 0 ≤ a1 ∧ a1 ≤ 1048576
def acc (ls : List L) : List (List L) × Int := ((ls.headD .hole).toSl, ((dropT 1 ls).headD .hole).toInt)
noncomputable def R : (List (List L) × Int) → Option Int := RR (p2 gd) (u2 md)
theorem R_eq {a0} {a1} (h : gd a0 a1) : R ((a0.map MSig.row), a1) = some (md a0 a1) := RR_eq (a := (a0, a1)) h
noncomputable def con : Con := CN pats res acc R
theorem okF (a0 : List MSig) (a1 : Int) (hg : gd a0 a1) : F (a0.map MSig.row) a1 = ret ((md a0 a1) : Int) := by
  obtain ⟨hs, g0, g1⟩ := hg
  unfold F md
  rw [List.length_map, sz_wrap g0 g1 hs.1]
  have e : szL (fun y : MSig => MSig.size y) a0 = a0.length := by
    unfold szL
    have : (a0.map (fun y : MSig => MSig.size y)).sum = 0 := sum_zero (fun _ => rfl) a0
    omega
  rw [e]
  by_cases hc : a1 < ((a0.length : Nat) : Int)
  · rw [szM_neg hc, decide_eq_true (by omega)]; rfl
  · rw [szM_pos hc, decide_eq_false (by omega)]; rfl
theorem valid_ : Valid Try.prog Ev 127 con := VV (run := fun _ x => F x.1 x.2) mix tab_ok .nil Try.func127 (by kernel_rfl) run_eq (fun _ a _ _ hg => ⟨0, okF a.1 a.2 hg⟩)
end laws_szSigS
/-! laws.szSigned -/
namespace laws_szSigned
noncomputable def F (x0 : RSigned) (x1 : Int) : Ans := (call (laws_szHead.R (x0.fHead, x1)) fun v1 => (bif (decide (v1 < 0)) then ret ((-1) : Int) else (call (laws_szSigS.R (x0.fSigs, v1)) fun v2 => (bif (decide (v2 < 0)) then ret ((-1) : Int) else ret (v2 : Int)))))
def pats : List Pat := [.agg [.int .i64, .int .i64, .int .i64, .int .i64, .int .i64, .int .i64, .int .i64, .int .i64, .sl 3, .int .i64, .sl 3, .int .i64, .int .i64, .sl 3, .int .i64, .bool, .sl 218], .rd (.int .i64)]
def res : RP := .one (.rd (.int .i64))
noncomputable abbrev E : Env := ⟨assoc Tab, conG [(126, laws_szHead.con), (127, laws_szSigS.con)], 18⟩
set_option maxRecDepth 100000
theorem run_eq (n : Nat) (ls : List L) : runF E (fun _ => []) Try.f76 res n (initS pats ls) = F (RSigned.dec ls) ((dropT 17 ls).headD .hole).toInt := by kernel_rfl
noncomputable def md (a0 : MSigned) (a1 : Int) : Int := szM (MSigned.size a0) a1
def gd (a0 : MSigned) (a1 : Int) : Prop := (MSigned.Sm maxLen a0) ∧ 0 ≤ a1 ∧ a1 ≤ 1048576
def acc (ls : List L) : RSigned × Int := ((RSigned.dec ls), ((dropT 17 ls).headD .hole).toInt)
noncomputable def R : (RSigned × Int) → Option Int := RR (p2 gd) (u2 md)
theorem R_eq {a0} {a1} (h : gd a0 a1) : R ((MSigned.r a0), a1) = some (md a0 a1) := RR_eq (a := (a0, a1)) h
noncomputable def con : Con := CN pats res acc R
theorem okF (a0 : MSigned) (a1 : Int) (hg : gd a0 a1) : F (MSigned.r a0) a1 = ret ((md a0 a1) : Int) := by
  obtain ⟨hs, g0, g1⟩ := hg
  unfold md
  show (call (laws_szHead.R ((MHead.r a0.fHead), a1)) fun v1 => (bif (decide (v1 < 0)) then ret ((-1) : Int) else (call (laws_szSigS.R ((a0.fSigs.map MSig.row), v1)) fun v2 => (bif (decide (v2 < 0)) then ret ((-1) : Int) else ret (v2 : Int))))) = _
  rw [call_eq (laws_szHead.R_eq (a1 := a1) ⟨hs.1, by omega, by omega⟩)]
  unfold laws_szHead.md
  by_cases c0 : a1 < ((MHead.size a0.fHead : Nat) : Int)
  · rw [szM_neg c0]; rw [show szM (MSigned.size a0) a1 = -1 from szM_neg (by unfold MSigned.size; omega)]; try rfl
  rw [szM_pos c0, dec_neg (by omega), cond_false]
  rw [call_eq (laws_szSigS.R_eq (a1 := (a1 - ((MHead.size a0.fHead : Nat) : Int))) ⟨hs.2, by omega, by omega⟩)]
  unfold laws_szSigS.md
  by_cases c1 : (a1 - ((MHead.size a0.fHead : Nat) : Int)) < ((szL (fun y : MSig => MSig.size y) a0.fSigs : Nat) : Int)
  · rw [szM_neg c1]; rw [show szM (MSigned.size a0) a1 = -1 from szM_neg (by unfold MSigned.size; omega)]; try rfl
  rw [szM_pos c1, dec_neg (by omega), cond_false]
  rw [show szM (MSigned.size a0) a1 = a1 - ((MHead.size a0.fHead : Nat) : Int) - ((szL (fun y : MSig => MSig.size y) a0.fSigs : Nat) : Int) from by rw [szM_pos (by unfold MSigned.size; omega)]; unfold MSigned.size; omega]
theorem valid_ : Valid Try.prog Ev 76 con := VV (run := fun _ x => F x.1 x.2) mix tab_ok (.cons laws_szHead.valid_ (.cons laws_szSigS.valid_ .nil)) Try.func76 (by kernel_rfl) run_eq (fun _ a _ _ hg => ⟨0, okF a.1 a.2 hg⟩)
end laws_szSigned
/-! laws.szSignedS -/
namespace laws_szSignedS
inductive Pt where
  | p0 (a : List (List L)) (b : Int) (c : Int)
def pid : Pt → Nat
  | .p0 .. => 5
def pvs : Pt → List V
  | .p0 a b c => [.sl none 113 a, .int .i64 b, .int .i64 c]
def phs : Pt → List Root
  | .p0 a b c => []
noncomputable def step (J : Pt → Ans) : Pt → Ans
  | .p0 a b c => (bif (decide (c < (a.length : Int))) then (bif (decide ((0 : Int) ≤ c)) then (bif (decide (c < (a.length : Int))) then (call (laws_szSigned.R ((RSigned.at a (Int.toNat c)), b)) fun v1 => (bif (decide (v1 < 0)) then ret ((-1) : Int) else J (.p0 a v1 (IntKind.i64.wrap (c + 1))))) else none) else none) else ret (b : Int))
noncomputable def start (J : Pt → Ans) (x0 : List (List L)) (x1 : Int) : Ans := (bif (decide ((IntKind.i64.wrap (x1 - (x0.length : Int))) < 0)) then ret ((-1) : Int) else J (.p0 x0 (IntKind.i64.wrap (x1 - (x0.length : Int))) 0))
def live : Nat → Live := fun i => match i with | 5 => [(0, none), (1, none), (5, none)] | _ => []
def pats : List Pat := [.rd (.sl 113), .rd (.int .i64)]
def res : RP := .one (.rd (.int .i64))
noncomputable abbrev E : Env := ⟨assoc Tab, conG [(76, laws_szSigned.con)], 27⟩
set_option maxRecDepth 100000
theorem step_eq (I : Heads) (p : Pt) : enterC E live I (pid p) (bodyOf Try.f22) (stOf (live (pid p)) (pvs p) (phs p)) (doneK E Try.f22 res) = step (fun q => I (pid q) (pvs q) (phs q)) p := by
  cases p <;> kernel_rfl
theorem start_eq (I : Heads) (ls : List L) : runC E live I (bodyOf Try.f22) (initS pats ls) (doneK E Try.f22 res) = start (fun q => I (pid q) (pvs q) (phs q)) (ls.headD .hole).toSl ((dropT 1 ls).headD .hole).toInt := by kernel_rfl
theorem run_eq (n : Nat) (ls : List L) : runF E live Try.f22 res n (initS pats ls) = start (iter step n) (ls.headD .hole).toSl ((dropT 1 ls).headD .hole).toInt := runF_iter (id := pid) (vs := pvs) (hs := phs) (step := step) (start := fun J => start J (ls.headD .hole).toSl ((dropT 1 ls).headD .hole).toInt) step_eq (fun I => start_eq I ls) n
noncomputable def md (a0 : List MSigned) (a1 : Int) : Int := szM (szL (fun y : MSigned => MSigned.size y) a0) a1
def gd (a0 : List MSigned) (a1 : Int) : Prop := (SmL maxLen (fun y : MSigned => MSigned.Sm maxLen y) a0) ∧ 0 ≤ a1 ∧ a1 ≤ 1048576
def acc (ls : List L) : List (List L) × Int := ((ls.headD .hole).toSl, ((dropT 1 ls).headD .hole).toInt)
noncomputable def R : (List (List L) × Int) → Option Int := RR (p2 gd) (u2 md)
theorem R_eq {a0} {a1} (h : gd a0 a1) : R ((a0.map MSigned.row), a1) = some (md a0 a1) := RR_eq (a := (a0, a1)) h
noncomputable def con : Con := CN pats res acc R
theorem okF (a0 : List MSigned) (a1 : Int) (hg : gd a0 a1) : ∃ n, start (iter step n) (a0.map MSigned.row) a1 = ret ((md a0 a1) : Int) := by
  obtain ⟨hs, g0, g1⟩ := hg
  unfold start md
  simp only [List.length_map]
  refine sz_list (pt := fun left i => Pt.p0 (a0.map MSigned.row) left (i : Int)) (f := fun y : MSigned => MSigned.size y) hs.1 (fun J i h left p0 p1 => ?_) (fun J left => ?_) g0 g1
  · simp only [step, List.length_map, lt_dec h, zle_dec, cond_true, toNat_nat, MSigned.at_row h]
    rw [call_eq (laws_szSigned.R_eq ⟨hs.get h, p0, p1⟩), wrap_succ h hs.1]
    unfold laws_szSigned.md
    by_cases hc : left < ((MSigned.size (a0[i]) : Nat) : Int)
    · rw [szM_neg hc, if_pos hc]; rfl
    · rw [szM_pos hc, if_neg hc, dec_neg (by omega)]; rfl
  · simp only [step, List.length_map, nlt_dec, cond_false]
theorem valid_ : Valid Try.prog Ev 22 con := VV (run := fun n x => start (iter step n) x.1 x.2) mix tab_ok (.cons laws_szSigned.valid_ .nil) Try.func22 (by kernel_rfl) run_eq (fun _ a _ _ hg => okF a.1 a.2 hg)
end laws_szSignedS
/-! laws.szEntry -/
namespace laws_szEntry
noncomputable def F (x0 : REntry) (x1 : Int) : Ans := (bif (decide ((IntKind.i64.wrap (x1 - (x0.fLabel.size : Int))) < 0)) then ret ((-1) : Int) else (call (laws_szStringS.R (x0.fPath, (IntKind.i64.wrap (x1 - (x0.fLabel.size : Int))))) fun v1 => (bif (decide (v1 < 0)) then ret ((-1) : Int) else ret (v1 : Int))))
def pats : List Pat := [.agg [.str, .int .i64, .int .i64, .sl 9], .rd (.int .i64)]
def res : RP := .one (.rd (.int .i64))
noncomputable abbrev E : Env := ⟨assoc Tab, conG [(119, laws_szStringS.con)], 19⟩
set_option maxRecDepth 100000
theorem run_eq (n : Nat) (ls : List L) : runF E (fun _ => []) Try.f66 res n (initS pats ls) = F (REntry.dec ls) ((dropT 4 ls).headD .hole).toInt := by kernel_rfl
noncomputable def md (a0 : MEntry) (a1 : Int) : Int := szM (MEntry.size a0) a1
def gd (a0 : MEntry) (a1 : Int) : Prop := (MEntry.Sm maxLen a0) ∧ 0 ≤ a1 ∧ a1 ≤ 1048576
def acc (ls : List L) : REntry × Int := ((REntry.dec ls), ((dropT 4 ls).headD .hole).toInt)
noncomputable def R : (REntry × Int) → Option Int := RR (p2 gd) (u2 md)
theorem R_eq {a0} {a1} (h : gd a0 a1) : R ((MEntry.r a0), a1) = some (md a0 a1) := RR_eq (a := (a0, a1)) h
noncomputable def con : Con := CN pats res acc R
theorem okF (a0 : MEntry) (a1 : Int) (hg : gd a0 a1) : F (MEntry.r a0) a1 = ret ((md a0 a1) : Int) := by
  obtain ⟨hs, g0, g1⟩ := hg
  unfold md
  show (bif (decide ((IntKind.i64.wrap (a1 - (a0.fLabel.size : Int))) < 0)) then ret ((-1) : Int) else (call (laws_szStringS.R ((a0.fPath.map sRow), (IntKind.i64.wrap (a1 - (a0.fLabel.size : Int))))) fun v1 => (bif (decide (v1 < 0)) then ret ((-1) : Int) else ret (v1 : Int)))) = _
  rw [sz_wrap (left := a1) (s := a0.fLabel.size) (by omega) (by omega) hs.1]
  by_cases c0 : a1 - ((a0.fLabel.size : Nat) : Int) < 0
  · rw [decide_eq_true c0, cond_true]; rw [show szM (MEntry.size a0) a1 = -1 from szM_neg (by unfold MEntry.size; omega)]; try rfl
  rw [decide_eq_false c0, cond_false]
  rw [call_eq (laws_szStringS.R_eq (a1 := (a1 - ((a0.fLabel.size : Nat) : Int))) ⟨hs.2, by omega, by omega⟩)]
  unfold laws_szStringS.md
  by_cases c1 : (a1 - ((a0.fLabel.size : Nat) : Int)) < ((szL (fun y : ByteArray => y.size) a0.fPath : Nat) : Int)
  · rw [szM_neg c1]; rw [show szM (MEntry.size a0) a1 = -1 from szM_neg (by unfold MEntry.size; omega)]; try rfl
  rw [szM_pos c1, dec_neg (by omega), cond_false]
  rw [show szM (MEntry.size a0) a1 = a1 - ((a0.fLabel.size : Nat) : Int) - ((szL (fun y : ByteArray => y.size) a0.fPath : Nat) : Int) from by rw [szM_pos (by unfold MEntry.size; omega)]; unfold MEntry.size; omega]
theorem valid_ : Valid Try.prog Ev 66 con := VV (run := fun _ x => F x.1 x.2) mix tab_ok (.cons laws_szStringS.valid_ .nil) Try.func66 (by kernel_rfl) run_eq (fun _ a _ _ hg => ⟨0, okF a.1 a.2 hg⟩)
end laws_szEntry
/-! laws.szProof -/
namespace laws_szProof
noncomputable def F (x0 : RProof) (x1 : Int) : Ans := (call (laws_szIntS.R (x0.fPath, x1)) fun v1 => (bif (decide (v1 < 0)) then ret ((-1) : Int) else ret (v1 : Int)))
def pats : List Pat := [.agg [.int .i64, .sl 3], .rd (.int .i64)]
def res : RP := .one (.rd (.int .i64))
noncomputable abbrev E : Env := ⟨assoc Tab, conG [(90, laws_szIntS.con)], 12⟩
set_option maxRecDepth 100000
theorem run_eq (n : Nat) (ls : List L) : runF E (fun _ => []) Try.f200 res n (initS pats ls) = F (RProof.dec ls) ((dropT 2 ls).headD .hole).toInt := by kernel_rfl
noncomputable def md (a0 : MProof) (a1 : Int) : Int := szM (MProof.size a0) a1
def gd (a0 : MProof) (a1 : Int) : Prop := (MProof.Sm maxLen a0) ∧ 0 ≤ a1 ∧ a1 ≤ 1048576
def acc (ls : List L) : RProof × Int := ((RProof.dec ls), ((dropT 2 ls).headD .hole).toInt)
noncomputable def R : (RProof × Int) → Option Int := RR (p2 gd) (u2 md)
theorem R_eq {a0} {a1} (h : gd a0 a1) : R ((MProof.r a0), a1) = some (md a0 a1) := RR_eq (a := (a0, a1)) h
noncomputable def con : Con := CN pats res acc R
theorem okF (a0 : MProof) (a1 : Int) (hg : gd a0 a1) : F (MProof.r a0) a1 = ret ((md a0 a1) : Int) := by
  obtain ⟨hs, g0, g1⟩ := hg
  unfold md
  show (call (laws_szIntS.R ((a0.fPath.map iRow), a1)) fun v1 => (bif (decide (v1 < 0)) then ret ((-1) : Int) else ret (v1 : Int))) = _
  rw [call_eq (laws_szIntS.R_eq (a1 := a1) ⟨hs, by omega, by omega⟩)]
  unfold laws_szIntS.md
  by_cases c0 : a1 < ((szL (fun y : Int => 0) a0.fPath : Nat) : Int)
  · rw [szM_neg c0]; rw [show szM (MProof.size a0) a1 = -1 from szM_neg (by unfold MProof.size; omega)]; try rfl
  rw [szM_pos c0, dec_neg (by omega), cond_false]
  rw [show szM (MProof.size a0) a1 = a1 - ((szL (fun y : Int => 0) a0.fPath : Nat) : Int) from by rw [szM_pos (by unfold MProof.size; omega)]; unfold MProof.size; omega]
theorem valid_ : Valid Try.prog Ev 200 con := VV (run := fun _ x => F x.1 x.2) mix tab_ok (.cons laws_szIntS.valid_ .nil) Try.func200 (by kernel_rfl) run_eq (fun _ a _ _ hg => ⟨0, okF a.1 a.2 hg⟩)
end laws_szProof
/-! laws.szGap -/
namespace laws_szGap
noncomputable def F (x0 : RGap) (x1 : Int) : Ans := (call (laws_szEntry.R (x0.fBefore, x1)) fun v1 => (bif (decide (v1 < 0)) then ret ((-1) : Int) else (call (laws_szEntry.R (x0.fAfter, v1)) fun v2 => (bif (decide (v2 < 0)) then ret ((-1) : Int) else (call (laws_szProof.R (x0.fLeft, v2)) fun v3 => (bif (decide (v3 < 0)) then ret ((-1) : Int) else (call (laws_szProof.R (x0.fRight, v3)) fun v4 => (bif (decide (v4 < 0)) then ret ((-1) : Int) else ret (v4 : Int)))))))))
def pats : List Pat := [.agg [.int .i64, .str, .int .i64, .int .i64, .sl 9, .str, .int .i64, .int .i64, .sl 9, .int .i64, .sl 3, .int .i64, .sl 3], .rd (.int .i64)]
def res : RP := .one (.rd (.int .i64))
noncomputable abbrev E : Env := ⟨assoc Tab, conG [(66, laws_szEntry.con), (200, laws_szProof.con)], 30⟩
set_option maxRecDepth 100000
theorem run_eq (n : Nat) (ls : List L) : runF E (fun _ => []) Try.f201 res n (initS pats ls) = F (RGap.dec ls) ((dropT 13 ls).headD .hole).toInt := by kernel_rfl
noncomputable def md (a0 : MGap) (a1 : Int) : Int := szM (MGap.size a0) a1
def gd (a0 : MGap) (a1 : Int) : Prop := (MGap.Sm maxLen a0) ∧ 0 ≤ a1 ∧ a1 ≤ 1048576
def acc (ls : List L) : RGap × Int := ((RGap.dec ls), ((dropT 13 ls).headD .hole).toInt)
noncomputable def R : (RGap × Int) → Option Int := RR (p2 gd) (u2 md)
theorem R_eq {a0} {a1} (h : gd a0 a1) : R ((MGap.r a0), a1) = some (md a0 a1) := RR_eq (a := (a0, a1)) h
noncomputable def con : Con := CN pats res acc R
theorem okF (a0 : MGap) (a1 : Int) (hg : gd a0 a1) : F (MGap.r a0) a1 = ret ((md a0 a1) : Int) := by
  obtain ⟨hs, g0, g1⟩ := hg
  unfold md
  show (call (laws_szEntry.R ((MEntry.r a0.fBefore), a1)) fun v1 => (bif (decide (v1 < 0)) then ret ((-1) : Int) else (call (laws_szEntry.R ((MEntry.r a0.fAfter), v1)) fun v2 => (bif (decide (v2 < 0)) then ret ((-1) : Int) else (call (laws_szProof.R ((MProof.r a0.fLeft), v2)) fun v3 => (bif (decide (v3 < 0)) then ret ((-1) : Int) else (call (laws_szProof.R ((MProof.r a0.fRight), v3)) fun v4 => (bif (decide (v4 < 0)) then ret ((-1) : Int) else ret (v4 : Int))))))))) = _
  rw [call_eq (laws_szEntry.R_eq (a1 := a1) ⟨hs.1, by omega, by omega⟩)]
  unfold laws_szEntry.md
  by_cases c0 : a1 < ((MEntry.size a0.fBefore : Nat) : Int)
  · rw [szM_neg c0]; rw [show szM (MGap.size a0) a1 = -1 from szM_neg (by unfold MGap.size; omega)]; try rfl
  rw [szM_pos c0, dec_neg (by omega), cond_false]
  rw [call_eq (laws_szEntry.R_eq (a1 := (a1 - ((MEntry.size a0.fBefore : Nat) : Int))) ⟨hs.2.1, by omega, by omega⟩)]
  unfold laws_szEntry.md
  by_cases c1 : (a1 - ((MEntry.size a0.fBefore : Nat) : Int)) < ((MEntry.size a0.fAfter : Nat) : Int)
  · rw [szM_neg c1]; rw [show szM (MGap.size a0) a1 = -1 from szM_neg (by unfold MGap.size; omega)]; try rfl
  rw [szM_pos c1, dec_neg (by omega), cond_false]
  rw [call_eq (laws_szProof.R_eq (a1 := (a1 - ((MEntry.size a0.fBefore : Nat) : Int) - ((MEntry.size a0.fAfter : Nat) : Int))) ⟨hs.2.2.1, by omega, by omega⟩)]
  unfold laws_szProof.md
  by_cases c2 : (a1 - ((MEntry.size a0.fBefore : Nat) : Int) - ((MEntry.size a0.fAfter : Nat) : Int)) < ((MProof.size a0.fLeft : Nat) : Int)
  · rw [szM_neg c2]; rw [show szM (MGap.size a0) a1 = -1 from szM_neg (by unfold MGap.size; omega)]; try rfl
  rw [szM_pos c2, dec_neg (by omega), cond_false]
  rw [call_eq (laws_szProof.R_eq (a1 := (a1 - ((MEntry.size a0.fBefore : Nat) : Int) - ((MEntry.size a0.fAfter : Nat) : Int) - ((MProof.size a0.fLeft : Nat) : Int))) ⟨hs.2.2.2, by omega, by omega⟩)]
  unfold laws_szProof.md
  by_cases c3 : (a1 - ((MEntry.size a0.fBefore : Nat) : Int) - ((MEntry.size a0.fAfter : Nat) : Int) - ((MProof.size a0.fLeft : Nat) : Int)) < ((MProof.size a0.fRight : Nat) : Int)
  · rw [szM_neg c3]; rw [show szM (MGap.size a0) a1 = -1 from szM_neg (by unfold MGap.size; omega)]; try rfl
  rw [szM_pos c3, dec_neg (by omega), cond_false]
  rw [show szM (MGap.size a0) a1 = a1 - ((MEntry.size a0.fBefore : Nat) : Int) - ((MEntry.size a0.fAfter : Nat) : Int) - ((MProof.size a0.fLeft : Nat) : Int) - ((MProof.size a0.fRight : Nat) : Int) from by rw [szM_pos (by unfold MGap.size; omega)]; unfold MGap.size; omega]
theorem valid_ : Valid Try.prog Ev 201 con := VV (run := fun _ x => F x.1 x.2) mix tab_ok (.cons laws_szEntry.valid_ (.cons laws_szProof.valid_ .nil)) Try.func201 (by kernel_rfl) run_eq (fun _ a _ _ hg => ⟨0, okF a.1 a.2 hg⟩)
end laws_szGap
/-! laws.szAnswer -/
namespace laws_szAnswer
noncomputable def F (x0 : RAnswer) (x1 : Int) : Ans := (call (laws_szSignedS.R (x0.fChain, x1)) fun v1 => (bif (decide (v1 < 0)) then ret ((-1) : Int) else (call (laws_szEntry.R (x0.fEntry, v1)) fun v2 => (bif (decide (v2 < 0)) then ret ((-1) : Int) else (call (laws_szProof.R (x0.fProof, v2)) fun v3 => (bif (decide (v3 < 0)) then ret ((-1) : Int) else (call (laws_szGap.R (x0.fGap, v3)) fun v4 => (bif (decide (v4 < 0)) then ret ((-1) : Int) else ret (v4 : Int)))))))))
def pats : List Pat := [.agg [.sl 113, .bool, .str, .int .i64, .int .i64, .sl 9, .int .i64, .sl 3, .int .i64, .str, .int .i64, .int .i64, .sl 9, .str, .int .i64, .int .i64, .sl 9, .int .i64, .sl 3, .int .i64, .sl 3], .rd (.int .i64)]
def res : RP := .one (.rd (.int .i64))
noncomputable abbrev E : Env := ⟨assoc Tab, conG [(22, laws_szSignedS.con), (66, laws_szEntry.con), (200, laws_szProof.con), (201, laws_szGap.con)], 30⟩
set_option maxRecDepth 100000
theorem run_eq (n : Nat) (ls : List L) : runF E (fun _ => []) Try.f188 res n (initS pats ls) = F (RAnswer.dec ls) ((dropT 21 ls).headD .hole).toInt := by kernel_rfl
noncomputable def md (a0 : MAnswer) (a1 : Int) : Int := szM (MAnswer.size a0) a1
def gd (a0 : MAnswer) (a1 : Int) : Prop := (MAnswer.Sm maxLen a0) ∧ 0 ≤ a1 ∧ a1 ≤ 1048576
def acc (ls : List L) : RAnswer × Int := ((RAnswer.dec ls), ((dropT 21 ls).headD .hole).toInt)
noncomputable def R : (RAnswer × Int) → Option Int := RR (p2 gd) (u2 md)
theorem R_eq {a0} {a1} (h : gd a0 a1) : R ((MAnswer.r a0), a1) = some (md a0 a1) := RR_eq (a := (a0, a1)) h
noncomputable def con : Con := CN pats res acc R
theorem okF (a0 : MAnswer) (a1 : Int) (hg : gd a0 a1) : F (MAnswer.r a0) a1 = ret ((md a0 a1) : Int) := by
  obtain ⟨hs, g0, g1⟩ := hg
  unfold md
  show (call (laws_szSignedS.R ((a0.fChain.map MSigned.row), a1)) fun v1 => (bif (decide (v1 < 0)) then ret ((-1) : Int) else (call (laws_szEntry.R ((MEntry.r a0.fEntry), v1)) fun v2 => (bif (decide (v2 < 0)) then ret ((-1) : Int) else (call (laws_szProof.R ((MProof.r a0.fProof), v2)) fun v3 => (bif (decide (v3 < 0)) then ret ((-1) : Int) else (call (laws_szGap.R ((MGap.r a0.fGap), v3)) fun v4 => (bif (decide (v4 < 0)) then ret ((-1) : Int) else ret (v4 : Int))))))))) = _
  rw [call_eq (laws_szSignedS.R_eq (a1 := a1) ⟨hs.1, by omega, by omega⟩)]
  unfold laws_szSignedS.md
  by_cases c0 : a1 < ((szL (fun y : MSigned => MSigned.size y) a0.fChain : Nat) : Int)
  · rw [szM_neg c0]; rw [show szM (MAnswer.size a0) a1 = -1 from szM_neg (by unfold MAnswer.size; omega)]; try rfl
  rw [szM_pos c0, dec_neg (by omega), cond_false]
  rw [call_eq (laws_szEntry.R_eq (a1 := (a1 - ((szL (fun y : MSigned => MSigned.size y) a0.fChain : Nat) : Int))) ⟨hs.2.1, by omega, by omega⟩)]
  unfold laws_szEntry.md
  by_cases c1 : (a1 - ((szL (fun y : MSigned => MSigned.size y) a0.fChain : Nat) : Int)) < ((MEntry.size a0.fEntry : Nat) : Int)
  · rw [szM_neg c1]; rw [show szM (MAnswer.size a0) a1 = -1 from szM_neg (by unfold MAnswer.size; omega)]; try rfl
  rw [szM_pos c1, dec_neg (by omega), cond_false]
  rw [call_eq (laws_szProof.R_eq (a1 := (a1 - ((szL (fun y : MSigned => MSigned.size y) a0.fChain : Nat) : Int) - ((MEntry.size a0.fEntry : Nat) : Int))) ⟨hs.2.2.1, by omega, by omega⟩)]
  unfold laws_szProof.md
  by_cases c2 : (a1 - ((szL (fun y : MSigned => MSigned.size y) a0.fChain : Nat) : Int) - ((MEntry.size a0.fEntry : Nat) : Int)) < ((MProof.size a0.fProof : Nat) : Int)
  · rw [szM_neg c2]; rw [show szM (MAnswer.size a0) a1 = -1 from szM_neg (by unfold MAnswer.size; omega)]; try rfl
  rw [szM_pos c2, dec_neg (by omega), cond_false]
  rw [call_eq (laws_szGap.R_eq (a1 := (a1 - ((szL (fun y : MSigned => MSigned.size y) a0.fChain : Nat) : Int) - ((MEntry.size a0.fEntry : Nat) : Int) - ((MProof.size a0.fProof : Nat) : Int))) ⟨hs.2.2.2, by omega, by omega⟩)]
  unfold laws_szGap.md
  by_cases c3 : (a1 - ((szL (fun y : MSigned => MSigned.size y) a0.fChain : Nat) : Int) - ((MEntry.size a0.fEntry : Nat) : Int) - ((MProof.size a0.fProof : Nat) : Int)) < ((MGap.size a0.fGap : Nat) : Int)
  · rw [szM_neg c3]; rw [show szM (MAnswer.size a0) a1 = -1 from szM_neg (by unfold MAnswer.size; omega)]; try rfl
  rw [szM_pos c3, dec_neg (by omega), cond_false]
  rw [show szM (MAnswer.size a0) a1 = a1 - ((szL (fun y : MSigned => MSigned.size y) a0.fChain : Nat) : Int) - ((MEntry.size a0.fEntry : Nat) : Int) - ((MProof.size a0.fProof : Nat) : Int) - ((MGap.size a0.fGap : Nat) : Int) from by rw [szM_pos (by unfold MAnswer.size; omega)]; unfold MAnswer.size; omega]
theorem valid_ : Valid Try.prog Ev 188 con := VV (run := fun _ x => F x.1 x.2) mix tab_ok (.cons laws_szSignedS.valid_ (.cons laws_szEntry.valid_ (.cons laws_szProof.valid_ (.cons laws_szGap.valid_ .nil)))) Try.func188 (by kernel_rfl) run_eq (fun _ a _ _ hg => ⟨0, okF a.1 a.2 hg⟩)
end laws_szAnswer
/-! laws.szStored -/
namespace laws_szStored
noncomputable def F (x0 : RStored) (x1 : Int) : Ans := (bif (decide ((IntKind.i64.wrap (x1 - (x0.fLabel.size : Int))) < 0)) then ret ((-1) : Int) else (call (laws_szAnswer.R (x0.fAnswer, (IntKind.i64.wrap (x1 - (x0.fLabel.size : Int))))) fun v1 => (bif (decide (v1 < 0)) then ret ((-1) : Int) else ret (v1 : Int))))
def pats : List Pat := [.agg [.int .i64, .str, .sl 113, .bool, .str, .int .i64, .int .i64, .sl 9, .int .i64, .sl 3, .int .i64, .str, .int .i64, .int .i64, .sl 9, .str, .int .i64, .int .i64, .sl 9, .int .i64, .sl 3, .int .i64, .sl 3], .rd (.int .i64)]
def res : RP := .one (.rd (.int .i64))
noncomputable abbrev E : Env := ⟨assoc Tab, conG [(188, laws_szAnswer.con)], 19⟩
set_option maxRecDepth 100000
theorem run_eq (n : Nat) (ls : List L) : runF E (fun _ => []) Try.f164 res n (initS pats ls) = F (RStored.dec ls) ((dropT 23 ls).headD .hole).toInt := by kernel_rfl
noncomputable def md (a0 : MStored) (a1 : Int) : Int := szM (MStored.size a0) a1
def gd (a0 : MStored) (a1 : Int) : Prop := (MStored.Sm maxLen a0) ∧ 0 ≤ a1 ∧ a1 ≤ 1048576
def acc (ls : List L) : RStored × Int := ((RStored.dec ls), ((dropT 23 ls).headD .hole).toInt)
noncomputable def R : (RStored × Int) → Option Int := RR (p2 gd) (u2 md)
theorem R_eq {a0} {a1} (h : gd a0 a1) : R ((MStored.r a0), a1) = some (md a0 a1) := RR_eq (a := (a0, a1)) h
noncomputable def con : Con := CN pats res acc R
theorem okF (a0 : MStored) (a1 : Int) (hg : gd a0 a1) : F (MStored.r a0) a1 = ret ((md a0 a1) : Int) := by
  obtain ⟨hs, g0, g1⟩ := hg
  unfold md
  show (bif (decide ((IntKind.i64.wrap (a1 - (a0.fLabel.size : Int))) < 0)) then ret ((-1) : Int) else (call (laws_szAnswer.R ((MAnswer.r a0.fAnswer), (IntKind.i64.wrap (a1 - (a0.fLabel.size : Int))))) fun v1 => (bif (decide (v1 < 0)) then ret ((-1) : Int) else ret (v1 : Int)))) = _
  rw [sz_wrap (left := a1) (s := a0.fLabel.size) (by omega) (by omega) hs.1]
  by_cases c0 : a1 - ((a0.fLabel.size : Nat) : Int) < 0
  · rw [decide_eq_true c0, cond_true]; rw [show szM (MStored.size a0) a1 = -1 from szM_neg (by unfold MStored.size; omega)]; try rfl
  rw [decide_eq_false c0, cond_false]
  rw [call_eq (laws_szAnswer.R_eq (a1 := (a1 - ((a0.fLabel.size : Nat) : Int))) ⟨hs.2, by omega, by omega⟩)]
  unfold laws_szAnswer.md
  by_cases c1 : (a1 - ((a0.fLabel.size : Nat) : Int)) < ((MAnswer.size a0.fAnswer : Nat) : Int)
  · rw [szM_neg c1]; rw [show szM (MStored.size a0) a1 = -1 from szM_neg (by unfold MStored.size; omega)]; try rfl
  rw [szM_pos c1, dec_neg (by omega), cond_false]
  rw [show szM (MStored.size a0) a1 = a1 - ((a0.fLabel.size : Nat) : Int) - ((MAnswer.size a0.fAnswer : Nat) : Int) from by rw [szM_pos (by unfold MStored.size; omega)]; unfold MStored.size; omega]
theorem valid_ : Valid Try.prog Ev 164 con := VV (run := fun _ x => F x.1 x.2) mix tab_ok (.cons laws_szAnswer.valid_ .nil) Try.func164 (by kernel_rfl) run_eq (fun _ a _ _ hg => ⟨0, okF a.1 a.2 hg⟩)
end laws_szStored
/-! laws.szStoredS -/
namespace laws_szStoredS
inductive Pt where
  | p0 (a : List (List L)) (b : Int) (c : Int)
def pid : Pt → Nat
  | .p0 .. => 5
def pvs : Pt → List V
  | .p0 a b c => [.sl none 209 a, .int .i64 b, .int .i64 c]
def phs : Pt → List Root
  | .p0 a b c => []
noncomputable def step (J : Pt → Ans) : Pt → Ans
  | .p0 a b c => (bif (decide (c < (a.length : Int))) then (bif (decide ((0 : Int) ≤ c)) then (bif (decide (c < (a.length : Int))) then (call (laws_szStored.R ((RStored.at a (Int.toNat c)), b)) fun v1 => (bif (decide (v1 < 0)) then ret ((-1) : Int) else J (.p0 a v1 (IntKind.i64.wrap (c + 1))))) else none) else none) else ret (b : Int))
noncomputable def start (J : Pt → Ans) (x0 : List (List L)) (x1 : Int) : Ans := (bif (decide ((IntKind.i64.wrap (x1 - (x0.length : Int))) < 0)) then ret ((-1) : Int) else J (.p0 x0 (IntKind.i64.wrap (x1 - (x0.length : Int))) 0))
def live : Nat → Live := fun i => match i with | 5 => [(0, none), (1, none), (5, none)] | _ => []
def pats : List Pat := [.rd (.sl 209), .rd (.int .i64)]
def res : RP := .one (.rd (.int .i64))
noncomputable abbrev E : Env := ⟨assoc Tab, conG [(164, laws_szStored.con)], 27⟩
set_option maxRecDepth 100000
theorem step_eq (I : Heads) (p : Pt) : enterC E live I (pid p) (bodyOf Try.f112) (stOf (live (pid p)) (pvs p) (phs p)) (doneK E Try.f112 res) = step (fun q => I (pid q) (pvs q) (phs q)) p := by
  cases p <;> kernel_rfl
theorem start_eq (I : Heads) (ls : List L) : runC E live I (bodyOf Try.f112) (initS pats ls) (doneK E Try.f112 res) = start (fun q => I (pid q) (pvs q) (phs q)) (ls.headD .hole).toSl ((dropT 1 ls).headD .hole).toInt := by kernel_rfl
theorem run_eq (n : Nat) (ls : List L) : runF E live Try.f112 res n (initS pats ls) = start (iter step n) (ls.headD .hole).toSl ((dropT 1 ls).headD .hole).toInt := runF_iter (id := pid) (vs := pvs) (hs := phs) (step := step) (start := fun J => start J (ls.headD .hole).toSl ((dropT 1 ls).headD .hole).toInt) step_eq (fun I => start_eq I ls) n
noncomputable def md (a0 : List MStored) (a1 : Int) : Int := szM (szL (fun y : MStored => MStored.size y) a0) a1
def gd (a0 : List MStored) (a1 : Int) : Prop := (SmL maxLen (fun y : MStored => MStored.Sm maxLen y) a0) ∧ 0 ≤ a1 ∧ a1 ≤ 1048576
def acc (ls : List L) : List (List L) × Int := ((ls.headD .hole).toSl, ((dropT 1 ls).headD .hole).toInt)
noncomputable def R : (List (List L) × Int) → Option Int := RR (p2 gd) (u2 md)
theorem R_eq {a0} {a1} (h : gd a0 a1) : R ((a0.map MStored.row), a1) = some (md a0 a1) := RR_eq (a := (a0, a1)) h
noncomputable def con : Con := CN pats res acc R
theorem okF (a0 : List MStored) (a1 : Int) (hg : gd a0 a1) : ∃ n, start (iter step n) (a0.map MStored.row) a1 = ret ((md a0 a1) : Int) := by
  obtain ⟨hs, g0, g1⟩ := hg
  unfold start md
  simp only [List.length_map]
  refine sz_list (pt := fun left i => Pt.p0 (a0.map MStored.row) left (i : Int)) (f := fun y : MStored => MStored.size y) hs.1 (fun J i h left p0 p1 => ?_) (fun J left => ?_) g0 g1
  · simp only [step, List.length_map, lt_dec h, zle_dec, cond_true, toNat_nat, MStored.at_row h]
    rw [call_eq (laws_szStored.R_eq ⟨hs.get h, p0, p1⟩), wrap_succ h hs.1]
    unfold laws_szStored.md
    by_cases hc : left < ((MStored.size (a0[i]) : Nat) : Int)
    · rw [szM_neg hc, if_pos hc]; rfl
    · rw [szM_pos hc, if_neg hc, dec_neg (by omega)]; rfl
  · simp only [step, List.length_map, nlt_dec, cond_false]
theorem valid_ : Valid Try.prog Ev 112 con := VV (run := fun n x => start (iter step n) x.1 x.2) mix tab_ok (.cons laws_szStored.valid_ .nil) Try.func112 (by kernel_rfl) run_eq (fun _ a _ _ hg => okF a.1 a.2 hg)
end laws_szStoredS
/-! laws.szBundle -/
namespace laws_szBundle
noncomputable def F (x0 : RBundle) (x1 : Int) : Ans := (call (laws_szStringS.R (x0.fPath, x1)) fun v1 => (bif (decide (v1 < 0)) then ret ((-1) : Int) else (call (laws_szStoredS.R (x0.fSteps, v1)) fun v2 => (bif (decide (v2 < 0)) then ret ((-1) : Int) else ret (v2 : Int)))))
def pats : List Pat := [.agg [.int .i64, .sl 9, .sl 209], .rd (.int .i64)]
def res : RP := .one (.rd (.int .i64))
noncomputable abbrev E : Env := ⟨assoc Tab, conG [(119, laws_szStringS.con), (112, laws_szStoredS.con)], 18⟩
set_option maxRecDepth 100000
theorem run_eq (n : Nat) (ls : List L) : runF E (fun _ => []) Try.f61 res n (initS pats ls) = F (RBundle.dec ls) ((dropT 3 ls).headD .hole).toInt := by kernel_rfl
noncomputable def md (a0 : MBundle) (a1 : Int) : Int := szM (MBundle.size a0) a1
def gd (a0 : MBundle) (a1 : Int) : Prop := (MBundle.Sm maxLen a0) ∧ 0 ≤ a1 ∧ a1 ≤ 1048576
def acc (ls : List L) : RBundle × Int := ((RBundle.dec ls), ((dropT 3 ls).headD .hole).toInt)
noncomputable def R : (RBundle × Int) → Option Int := RR (p2 gd) (u2 md)
theorem R_eq {a0} {a1} (h : gd a0 a1) : R ((MBundle.r a0), a1) = some (md a0 a1) := RR_eq (a := (a0, a1)) h
noncomputable def con : Con := CN pats res acc R
theorem okF (a0 : MBundle) (a1 : Int) (hg : gd a0 a1) : F (MBundle.r a0) a1 = ret ((md a0 a1) : Int) := by
  obtain ⟨hs, g0, g1⟩ := hg
  unfold md
  show (call (laws_szStringS.R ((a0.fPath.map sRow), a1)) fun v1 => (bif (decide (v1 < 0)) then ret ((-1) : Int) else (call (laws_szStoredS.R ((a0.fSteps.map MStored.row), v1)) fun v2 => (bif (decide (v2 < 0)) then ret ((-1) : Int) else ret (v2 : Int))))) = _
  rw [call_eq (laws_szStringS.R_eq (a1 := a1) ⟨hs.1, by omega, by omega⟩)]
  unfold laws_szStringS.md
  by_cases c0 : a1 < ((szL (fun y : ByteArray => y.size) a0.fPath : Nat) : Int)
  · rw [szM_neg c0]; rw [show szM (MBundle.size a0) a1 = -1 from szM_neg (by unfold MBundle.size; omega)]; try rfl
  rw [szM_pos c0, dec_neg (by omega), cond_false]
  rw [call_eq (laws_szStoredS.R_eq (a1 := (a1 - ((szL (fun y : ByteArray => y.size) a0.fPath : Nat) : Int))) ⟨hs.2, by omega, by omega⟩)]
  unfold laws_szStoredS.md
  by_cases c1 : (a1 - ((szL (fun y : ByteArray => y.size) a0.fPath : Nat) : Int)) < ((szL (fun y : MStored => MStored.size y) a0.fSteps : Nat) : Int)
  · rw [szM_neg c1]; rw [show szM (MBundle.size a0) a1 = -1 from szM_neg (by unfold MBundle.size; omega)]; try rfl
  rw [szM_pos c1, dec_neg (by omega), cond_false]
  rw [show szM (MBundle.size a0) a1 = a1 - ((szL (fun y : ByteArray => y.size) a0.fPath : Nat) : Int) - ((szL (fun y : MStored => MStored.size y) a0.fSteps : Nat) : Int) from by rw [szM_pos (by unfold MBundle.size; omega)]; unfold MBundle.size; omega]
theorem valid_ : Valid Try.prog Ev 61 con := VV (run := fun _ x => F x.1 x.2) mix tab_ok (.cons laws_szStringS.valid_ (.cons laws_szStoredS.valid_ .nil)) Try.func61 (by kernel_rfl) run_eq (fun _ a _ _ hg => ⟨0, okF a.1 a.2 hg⟩)
end laws_szBundle
/-! laws.toStringS -/
namespace laws_toStringS
inductive Pt where
  | p0 (a : List (List L)) (b : Int) (c : List (List L))
def pid : Pt → Nat
  | .p0 .. => 3
def pvs : Pt → List V
  | .p0 a b c => [.sl none 9 a, .own 0, .int .i64 b]
def phs : Pt → List Root
  | .p0 a b c => [.row 9 c]
noncomputable def step (J : Pt → Ans) : Pt → Ans
  | .p0 a b c => (bif (decide (b < (a.length : Int))) then (bif (decide ((0 : Int) ≤ b)) then (bif (decide (b < (a.length : Int))) then (bif (decide ((0 : Int) ≤ b)) then (bif (decide (b < (c.length : Int))) then J (.p0 a (IntKind.i64.wrap (b + 1)) (List.set c (Int.toNat b) [L.str (sAt a (Int.toNat b))])) else none) else none) else none) else none) else ret (c : List (List L)))
noncomputable def start (J : Pt → Ans) (x0 : List (List L)) : Ans := (bif (decide ((0 : Int) ≤ (x0.length : Int))) then (bif (decide ((x0.length : Int) ≤ (x0.length : Int))) then (bif (decide ((x0.length : Int) * 16 ≤ 140737488355328)) then J (.p0 x0 0 (List.replicate (Int.toNat (x0.length : Int)) [L.str ⟨#[]⟩])) else none) else none) else none)
def live : Nat → Live := fun i => match i with | 3 => [(0, none), (3, none), (4, none)] | _ => []
def pats : List Pat := [.rd (.sl 9)]
def res : RP := .one (.fr 9)
noncomputable abbrev E : Env := ⟨assoc Tab, conG [], 22⟩
set_option maxRecDepth 100000
theorem step_eq (I : Heads) (p : Pt) : enterC E live I (pid p) (bodyOf Try.f121) (stOf (live (pid p)) (pvs p) (phs p)) (doneK E Try.f121 res) = step (fun q => I (pid q) (pvs q) (phs q)) p := by
  cases p <;> kernel_rfl
theorem start_eq (I : Heads) (ls : List L) : runC E live I (bodyOf Try.f121) (initS pats ls) (doneK E Try.f121 res) = start (fun q => I (pid q) (pvs q) (phs q)) (ls.headD .hole).toSl := by kernel_rfl
theorem run_eq (n : Nat) (ls : List L) : runF E live Try.f121 res n (initS pats ls) = start (iter step n) (ls.headD .hole).toSl := runF_iter (id := pid) (vs := pvs) (hs := phs) (step := step) (start := fun J => start J (ls.headD .hole).toSl) step_eq (fun I => start_eq I ls) n
noncomputable def md (a0 : List ByteArray) : List ByteArray := a0
def gd (a0 : List ByteArray) : Prop := SmL (2 ^ 36) (fun y : ByteArray => y.size ≤ (2 ^ 36)) a0
def acc (ls : List L) : List (List L) := (ls.headD .hole).toSl
noncomputable def R : (List (List L)) → Option (List (List L)) := RR gd md
theorem R_eq {a0} (h : gd a0) : R (a0.map sRow) = some ((md a0).map sRow) := RR_eq (a := a0) h
noncomputable def con : Con := CN pats res acc R
theorem okF (a0 : List ByteArray) (hg : gd a0) : ∃ n, start (iter step n) (a0.map sRow) = ret (((md a0).map sRow) : List (List L)) := by
  unfold start md
  simp only [List.length_map]
  refine to_list (b := 16) (pt := fun i c => Pt.p0 (a0.map sRow) (i : Int) c) (by have := hg.1; simp at this; omega) (fun J i h c hc => ?_) (fun J c => ?_)
  · simp only [step, List.length_map, lt_dec h, zle_dec, cond_true, toNat_nat, sAt_row h, hc]
    rw [wrap_succ (n := a0.length) h (by have := hg.1; simp only [maxLen]; simp at this; omega)]
    rfl
  · simp only [step, List.length_map, nlt_dec, cond_false]
theorem valid_ : Valid Try.prog Ev 121 con := VV (run := fun n x => start (iter step n) x) mix tab_ok .nil Try.func121 (by kernel_rfl) run_eq (fun _ a _ _ hg => okF a hg)
end laws_toStringS
/-! laws.toIntS -/
namespace laws_toIntS
inductive Pt where
  | p0 (a : List (List L)) (b : Int) (c : List (List L))
def pid : Pt → Nat
  | .p0 .. => 3
def pvs : Pt → List V
  | .p0 a b c => [.sl none 3 a, .own 0, .int .i64 b]
def phs : Pt → List Root
  | .p0 a b c => [.row 3 c]
noncomputable def step (J : Pt → Ans) : Pt → Ans
  | .p0 a b c => (bif (decide (b < (a.length : Int))) then (bif (decide ((0 : Int) ≤ b)) then (bif (decide (b < (a.length : Int))) then (bif (decide ((0 : Int) ≤ b)) then (bif (decide (b < (c.length : Int))) then J (.p0 a (IntKind.i64.wrap (b + 1)) (List.set c (Int.toNat b) [L.int (iAt a (Int.toNat b))])) else none) else none) else none) else none) else ret (c : List (List L)))
noncomputable def start (J : Pt → Ans) (x0 : List (List L)) : Ans := (bif (decide ((0 : Int) ≤ (x0.length : Int))) then (bif (decide ((x0.length : Int) ≤ (x0.length : Int))) then (bif (decide ((x0.length : Int) * 8 ≤ 140737488355328)) then J (.p0 x0 0 (List.replicate (Int.toNat (x0.length : Int)) [L.int 0])) else none) else none) else none)
def live : Nat → Live := fun i => match i with | 3 => [(0, none), (3, none), (4, none)] | _ => []
def pats : List Pat := [.rd (.sl 3)]
def res : RP := .one (.fr 3)
noncomputable abbrev E : Env := ⟨assoc Tab, conG [], 22⟩
set_option maxRecDepth 100000
theorem step_eq (I : Heads) (p : Pt) : enterC E live I (pid p) (bodyOf Try.f92) (stOf (live (pid p)) (pvs p) (phs p)) (doneK E Try.f92 res) = step (fun q => I (pid q) (pvs q) (phs q)) p := by
  cases p <;> kernel_rfl
theorem start_eq (I : Heads) (ls : List L) : runC E live I (bodyOf Try.f92) (initS pats ls) (doneK E Try.f92 res) = start (fun q => I (pid q) (pvs q) (phs q)) (ls.headD .hole).toSl := by kernel_rfl
theorem run_eq (n : Nat) (ls : List L) : runF E live Try.f92 res n (initS pats ls) = start (iter step n) (ls.headD .hole).toSl := runF_iter (id := pid) (vs := pvs) (hs := phs) (step := step) (start := fun J => start J (ls.headD .hole).toSl) step_eq (fun I => start_eq I ls) n
noncomputable def md (a0 : List Int) : List Int := a0
def gd (a0 : List Int) : Prop := SmL (2 ^ 36) (fun y : Int => True) a0
def acc (ls : List L) : List (List L) := (ls.headD .hole).toSl
noncomputable def R : (List (List L)) → Option (List (List L)) := RR gd md
theorem R_eq {a0} (h : gd a0) : R (a0.map iRow) = some ((md a0).map iRow) := RR_eq (a := a0) h
noncomputable def con : Con := CN pats res acc R
theorem okF (a0 : List Int) (hg : gd a0) : ∃ n, start (iter step n) (a0.map iRow) = ret (((md a0).map iRow) : List (List L)) := by
  unfold start md
  simp only [List.length_map]
  refine to_list (b := 8) (pt := fun i c => Pt.p0 (a0.map iRow) (i : Int) c) (by have := hg.1; simp at this; omega) (fun J i h c hc => ?_) (fun J c => ?_)
  · simp only [step, List.length_map, lt_dec h, zle_dec, cond_true, toNat_nat, iAt_row h, hc]
    rw [wrap_succ (n := a0.length) h (by have := hg.1; simp only [maxLen]; simp at this; omega)]
    rfl
  · simp only [step, List.length_map, nlt_dec, cond_false]
theorem valid_ : Valid Try.prog Ev 92 con := VV (run := fun n x => start (iter step n) x) mix tab_ok .nil Try.func92 (by kernel_rfl) run_eq (fun _ a _ _ hg => okF a hg)
end laws_toIntS
/-! laws.toKeys -/
namespace laws_toKeys
noncomputable def F (x0 : RKeys) : Ans := (call (laws_toIntS.R x0.fList) fun v1 => ret ((⟨v1, x0.fNeed⟩ : RKeys) : RKeys))
def pats : List Pat := [.agg [.sl 3, .int .i64]]
def res : RP := .agg [.fr 3, .rd (.int .i64)]
noncomputable abbrev E : Env := ⟨assoc Tab, conG [(92, laws_toIntS.con)], 12⟩
set_option maxRecDepth 100000
theorem run_eq (n : Nat) (ls : List L) : runF E (fun _ => []) Try.f172 res n (initS pats ls) = F (RKeys.dec ls) := by kernel_rfl
noncomputable def md (a0 : MKeys) : MKeys := a0
def gd (a0 : MKeys) : Prop := MKeys.Sm (2 ^ 36) a0
def acc (ls : List L) : RKeys := (RKeys.dec ls)
noncomputable def R : RKeys → Option RKeys := RR gd md
theorem R_eq {a0} (h : gd a0) : R (MKeys.r a0) = some (MKeys.r (md a0)) := RR_eq (a := a0) h
noncomputable def con : Con := CN pats res acc R
theorem okF (a0 : MKeys) (hg : gd a0) : F (MKeys.r a0) = ret ((MKeys.r (md a0)) : RKeys) := by
  unfold md
  show (call (laws_toIntS.R (a0.fList.map iRow)) fun v1 => ret ((⟨v1, a0.fNeed⟩ : RKeys) : RKeys)) = _
  rw [call_eq (laws_toIntS.R_eq hg)]
  rfl
theorem valid_ : Valid Try.prog Ev 172 con := VV (run := fun _ x => F x) mix tab_ok (.cons laws_toIntS.valid_ .nil) Try.func172 (by kernel_rfl) run_eq (fun _ a _ _ hg => ⟨0, okF a hg⟩)
end laws_toKeys
/-! laws.toHead -/
namespace laws_toHead
noncomputable def F (x0 : RHead) : Ans := (call (laws_toKeys.R x0.fKeys) fun v1 => (call (laws_toKeys.R x0.fHeirs) fun v2 => (call (laws_toKeys.R x0.fJudge) fun v3 => ret ((⟨x0.fZone, x0.fEpoch, x0.fKind, x0.fTime, x0.fUntil, x0.fCount, x0.fRoot, x0.fPrev, v1, v2, x0.fWait, v3, x0.fFrozen⟩ : RHead) : RHead))))
def pats : List Pat := [.agg [.int .i64, .int .i64, .int .i64, .int .i64, .int .i64, .int .i64, .int .i64, .int .i64, .sl 3, .int .i64, .sl 3, .int .i64, .int .i64, .sl 3, .int .i64, .bool]]
def res : RP := .agg [.rd (.int .i64), .rd (.int .i64), .rd (.int .i64), .rd (.int .i64), .rd (.int .i64), .rd (.int .i64), .rd (.int .i64), .rd (.int .i64), .fr 3, .rd (.int .i64), .fr 3, .rd (.int .i64), .rd (.int .i64), .fr 3, .rd (.int .i64), .rd (.bool)]
noncomputable abbrev E : Env := ⟨assoc Tab, conG [(172, laws_toKeys.con)], 47⟩
set_option maxRecDepth 100000
theorem run_eq (n : Nat) (ls : List L) : runF E (fun _ => []) Try.f128 res n (initS pats ls) = F (RHead.dec ls) := by kernel_rfl
noncomputable def md (a0 : MHead) : MHead := a0
def gd (a0 : MHead) : Prop := MHead.Sm (2 ^ 36) a0
def acc (ls : List L) : RHead := (RHead.dec ls)
noncomputable def R : RHead → Option RHead := RR gd md
theorem R_eq {a0} (h : gd a0) : R (MHead.r a0) = some (MHead.r (md a0)) := RR_eq (a := a0) h
noncomputable def con : Con := CN pats res acc R
theorem okF (a0 : MHead) (hg : gd a0) : F (MHead.r a0) = ret ((MHead.r (md a0)) : RHead) := by
  unfold md
  show (call (laws_toKeys.R (MKeys.r a0.fKeys)) fun v1 => (call (laws_toKeys.R (MKeys.r a0.fHeirs)) fun v2 => (call (laws_toKeys.R (MKeys.r a0.fJudge)) fun v3 => ret ((⟨a0.fZone, a0.fEpoch, a0.fKind, a0.fTime, a0.fUntil, a0.fCount, a0.fRoot, a0.fPrev, v1, v2, a0.fWait, v3, a0.fFrozen⟩ : RHead) : RHead)))) = _
  rw [call_eq (laws_toKeys.R_eq hg.1)]
  rw [call_eq (laws_toKeys.R_eq hg.2.1)]
  rw [call_eq (laws_toKeys.R_eq hg.2.2)]
  rfl
theorem valid_ : Valid Try.prog Ev 128 con := VV (run := fun _ x => F x) mix tab_ok (.cons laws_toKeys.valid_ .nil) Try.func128 (by kernel_rfl) run_eq (fun _ a _ _ hg => ⟨0, okF a hg⟩)
end laws_toHead
/-! laws.toSig -/
namespace laws_toSig
noncomputable def F (x0 : MSig) : Ans := ret (x0 : MSig)
def pats : List Pat := [.agg [.int .i64, .int .i64]]
def res : RP := .agg [.rd (.int .i64), .rd (.int .i64)]
noncomputable abbrev E : Env := ⟨assoc Tab, conG [], 11⟩
set_option maxRecDepth 100000
theorem run_eq (n : Nat) (ls : List L) : runF E (fun _ => []) Try.f173 res n (initS pats ls) = F (MSig.dec ls) := by kernel_rfl
noncomputable def md (a0 : MSig) : MSig := a0
def gd (a0 : MSig) : Prop := MSig.Sm (2 ^ 36) a0
def acc (ls : List L) : MSig := (MSig.dec ls)
noncomputable def R : MSig → Option MSig := RR gd md
theorem R_eq {a0} (h : gd a0) : R a0 = some (md a0) := RR_eq (a := a0) h
noncomputable def con : Con := CN pats res acc R
theorem okF (a0 : MSig) (hg : gd a0) : F a0 = ret ((md a0) : MSig) := by
  rfl
theorem valid_ : Valid Try.prog Ev 173 con := VV (run := fun _ x => F x) mix tab_ok .nil Try.func173 (by kernel_rfl) run_eq (fun _ a _ _ hg => ⟨0, okF a hg⟩)
end laws_toSig
/-! laws.toSigS -/
namespace laws_toSigS
inductive Pt where
  | p0 (a : List (List L)) (b : Int) (c : List (List L))
def pid : Pt → Nat
  | .p0 .. => 3
def pvs : Pt → List V
  | .p0 a b c => [.sl none 218 a, .own 0, .int .i64 b]
def phs : Pt → List Root
  | .p0 a b c => [.row 216 c]
noncomputable def step (J : Pt → Ans) : Pt → Ans
  | .p0 a b c => (bif (decide (b < (a.length : Int))) then (bif (decide ((0 : Int) ≤ b)) then (bif (decide (b < (a.length : Int))) then (call (laws_toSig.R (MSig.at a (Int.toNat b))) fun v1 => (bif (decide ((0 : Int) ≤ b)) then (bif (decide (b < (c.length : Int))) then J (.p0 a (IntKind.i64.wrap (b + 1)) (List.set c (Int.toNat b) (MSig.enc v1))) else none) else none)) else none) else none) else ret (c : List (List L)))
noncomputable def start (J : Pt → Ans) (x0 : List (List L)) : Ans := (bif (decide ((0 : Int) ≤ (x0.length : Int))) then (bif (decide ((x0.length : Int) ≤ (x0.length : Int))) then (bif (decide ((x0.length : Int) * 16 ≤ 140737488355328)) then J (.p0 x0 0 (List.replicate (Int.toNat (x0.length : Int)) [L.int 0, L.int 0])) else none) else none) else none)
def live : Nat → Live := fun i => match i with | 3 => [(0, none), (3, none), (4, none)] | _ => []
def pats : List Pat := [.rd (.sl 218)]
def res : RP := .one (.fr 216)
noncomputable abbrev E : Env := ⟨assoc Tab, conG [(173, laws_toSig.con)], 23⟩
set_option maxRecDepth 100000
theorem step_eq (I : Heads) (p : Pt) : enterC E live I (pid p) (bodyOf Try.f129) (stOf (live (pid p)) (pvs p) (phs p)) (doneK E Try.f129 res) = step (fun q => I (pid q) (pvs q) (phs q)) p := by
  cases p <;> kernel_rfl
theorem start_eq (I : Heads) (ls : List L) : runC E live I (bodyOf Try.f129) (initS pats ls) (doneK E Try.f129 res) = start (fun q => I (pid q) (pvs q) (phs q)) (ls.headD .hole).toSl := by kernel_rfl
theorem run_eq (n : Nat) (ls : List L) : runF E live Try.f129 res n (initS pats ls) = start (iter step n) (ls.headD .hole).toSl := runF_iter (id := pid) (vs := pvs) (hs := phs) (step := step) (start := fun J => start J (ls.headD .hole).toSl) step_eq (fun I => start_eq I ls) n
noncomputable def md (a0 : List MSig) : List MSig := a0
def gd (a0 : List MSig) : Prop := SmL (2 ^ 36) (fun y : MSig => MSig.Sm (2 ^ 36) y) a0
def acc (ls : List L) : List (List L) := (ls.headD .hole).toSl
noncomputable def R : (List (List L)) → Option (List (List L)) := RR gd md
theorem R_eq {a0} (h : gd a0) : R (a0.map MSig.row) = some ((md a0).map MSig.row) := RR_eq (a := a0) h
noncomputable def con : Con := CN pats res acc R
theorem okF (a0 : List MSig) (hg : gd a0) : ∃ n, start (iter step n) (a0.map MSig.row) = ret (((md a0).map MSig.row) : List (List L)) := by
  unfold start md
  simp only [List.length_map]
  refine to_list (b := 16) (pt := fun i c => Pt.p0 (a0.map MSig.row) (i : Int) c) (by have := hg.1; simp at this; omega) (fun J i h c hc => ?_) (fun J c => ?_)
  · simp only [step, List.length_map, lt_dec h, zle_dec, cond_true, toNat_nat, MSig.at_row h, hc]
    rw [call_eq (laws_toSig.R_eq (hg.get h))]
    try simp only [hc, lt_dec h, cond_true]
    rw [wrap_succ (n := a0.length) h (by have := hg.1; simp only [maxLen]; simp at this; omega)]
    rfl
  · simp only [step, List.length_map, nlt_dec, cond_false]
theorem valid_ : Valid Try.prog Ev 129 con := VV (run := fun n x => start (iter step n) x) mix tab_ok (.cons laws_toSig.valid_ .nil) Try.func129 (by kernel_rfl) run_eq (fun _ a _ _ hg => okF a hg)
end laws_toSigS
/-! laws.toSigned -/
namespace laws_toSigned
noncomputable def F (x0 : RSigned) : Ans := (call (laws_toHead.R x0.fHead) fun v1 => (call (laws_toSigS.R x0.fSigs) fun v2 => ret ((⟨v1, v2⟩ : RSigned) : RSigned)))
def pats : List Pat := [.agg [.int .i64, .int .i64, .int .i64, .int .i64, .int .i64, .int .i64, .int .i64, .int .i64, .sl 3, .int .i64, .sl 3, .int .i64, .int .i64, .sl 3, .int .i64, .bool, .sl 218]]
def res : RP := .agg [.rd (.int .i64), .rd (.int .i64), .rd (.int .i64), .rd (.int .i64), .rd (.int .i64), .rd (.int .i64), .rd (.int .i64), .rd (.int .i64), .fr 3, .rd (.int .i64), .fr 3, .rd (.int .i64), .rd (.int .i64), .fr 3, .rd (.int .i64), .rd (.bool), .fr 216]
noncomputable abbrev E : Env := ⟨assoc Tab, conG [(128, laws_toHead.con), (129, laws_toSigS.con)], 13⟩
set_option maxRecDepth 100000
theorem run_eq (n : Nat) (ls : List L) : runF E (fun _ => []) Try.f77 res n (initS pats ls) = F (RSigned.dec ls) := by kernel_rfl
noncomputable def md (a0 : MSigned) : MSigned := a0
def gd (a0 : MSigned) : Prop := MSigned.Sm (2 ^ 36) a0
def acc (ls : List L) : RSigned := (RSigned.dec ls)
noncomputable def R : RSigned → Option RSigned := RR gd md
theorem R_eq {a0} (h : gd a0) : R (MSigned.r a0) = some (MSigned.r (md a0)) := RR_eq (a := a0) h
noncomputable def con : Con := CN pats res acc R
theorem okF (a0 : MSigned) (hg : gd a0) : F (MSigned.r a0) = ret ((MSigned.r (md a0)) : RSigned) := by
  unfold md
  show (call (laws_toHead.R (MHead.r a0.fHead)) fun v1 => (call (laws_toSigS.R (a0.fSigs.map MSig.row)) fun v2 => ret ((⟨v1, v2⟩ : RSigned) : RSigned))) = _
  rw [call_eq (laws_toHead.R_eq hg.1)]
  rw [call_eq (laws_toSigS.R_eq hg.2)]
  rfl
theorem valid_ : Valid Try.prog Ev 77 con := VV (run := fun _ x => F x) mix tab_ok (.cons laws_toHead.valid_ (.cons laws_toSigS.valid_ .nil)) Try.func77 (by kernel_rfl) run_eq (fun _ a _ _ hg => ⟨0, okF a hg⟩)
end laws_toSigned
/-! laws.toSignedS -/
namespace laws_toSignedS
inductive Pt where
  | p0 (a : List (List L)) (b : Int) (c : List (List L))
def pid : Pt → Nat
  | .p0 .. => 3
def pvs : Pt → List V
  | .p0 a b c => [.sl none 113 a, .own 0, .int .i64 b]
def phs : Pt → List Root
  | .p0 a b c => [.row 119 c]
noncomputable def step (J : Pt → Ans) : Pt → Ans
  | .p0 a b c => (bif (decide (b < (a.length : Int))) then (bif (decide ((0 : Int) ≤ b)) then (bif (decide (b < (a.length : Int))) then (call (laws_toSigned.R (RSigned.at a (Int.toNat b))) fun v1 => (bif (decide ((0 : Int) ≤ b)) then (bif (decide (b < (c.length : Int))) then J (.p0 a (IntKind.i64.wrap (b + 1)) (List.set c (Int.toNat b) (RSigned.enc v1))) else none) else none)) else none) else none) else ret (c : List (List L)))
noncomputable def start (J : Pt → Ans) (x0 : List (List L)) : Ans := (bif (decide ((0 : Int) ≤ (x0.length : Int))) then (bif (decide ((x0.length : Int) ≤ (x0.length : Int))) then (bif (decide ((x0.length : Int) * 200 ≤ 140737488355328)) then J (.p0 x0 0 (List.replicate (Int.toNat (x0.length : Int)) [L.int 0, L.int 0, L.int 0, L.int 0, L.int 0, L.int 0, L.int 0, L.int 0, L.sl [], L.int 0, L.sl [], L.int 0, L.int 0, L.sl [], L.int 0, L.bool false, L.sl []])) else none) else none) else none)
def live : Nat → Live := fun i => match i with | 3 => [(0, none), (3, none), (4, none)] | _ => []
def pats : List Pat := [.rd (.sl 113)]
def res : RP := .one (.fr 119)
noncomputable abbrev E : Env := ⟨assoc Tab, conG [(77, laws_toSigned.con)], 23⟩
set_option maxRecDepth 100000
theorem step_eq (I : Heads) (p : Pt) : enterC E live I (pid p) (bodyOf Try.f24) (stOf (live (pid p)) (pvs p) (phs p)) (doneK E Try.f24 res) = step (fun q => I (pid q) (pvs q) (phs q)) p := by
  cases p <;> kernel_rfl
theorem start_eq (I : Heads) (ls : List L) : runC E live I (bodyOf Try.f24) (initS pats ls) (doneK E Try.f24 res) = start (fun q => I (pid q) (pvs q) (phs q)) (ls.headD .hole).toSl := by kernel_rfl
theorem run_eq (n : Nat) (ls : List L) : runF E live Try.f24 res n (initS pats ls) = start (iter step n) (ls.headD .hole).toSl := runF_iter (id := pid) (vs := pvs) (hs := phs) (step := step) (start := fun J => start J (ls.headD .hole).toSl) step_eq (fun I => start_eq I ls) n
noncomputable def md (a0 : List MSigned) : List MSigned := a0
def gd (a0 : List MSigned) : Prop := SmL (2 ^ 36) (fun y : MSigned => MSigned.Sm (2 ^ 36) y) a0
def acc (ls : List L) : List (List L) := (ls.headD .hole).toSl
noncomputable def R : (List (List L)) → Option (List (List L)) := RR gd md
theorem R_eq {a0} (h : gd a0) : R (a0.map MSigned.row) = some ((md a0).map MSigned.row) := RR_eq (a := a0) h
noncomputable def con : Con := CN pats res acc R
theorem okF (a0 : List MSigned) (hg : gd a0) : ∃ n, start (iter step n) (a0.map MSigned.row) = ret (((md a0).map MSigned.row) : List (List L)) := by
  unfold start md
  simp only [List.length_map]
  refine to_list (b := 200) (pt := fun i c => Pt.p0 (a0.map MSigned.row) (i : Int) c) (by have := hg.1; simp at this; omega) (fun J i h c hc => ?_) (fun J c => ?_)
  · simp only [step, List.length_map, lt_dec h, zle_dec, cond_true, toNat_nat, MSigned.at_row h, hc]
    rw [call_eq (laws_toSigned.R_eq (hg.get h))]
    try simp only [hc, lt_dec h, cond_true]
    rw [wrap_succ (n := a0.length) h (by have := hg.1; simp only [maxLen]; simp at this; omega)]
    rfl
  · simp only [step, List.length_map, nlt_dec, cond_false]
theorem valid_ : Valid Try.prog Ev 24 con := VV (run := fun n x => start (iter step n) x) mix tab_ok (.cons laws_toSigned.valid_ .nil) Try.func24 (by kernel_rfl) run_eq (fun _ a _ _ hg => okF a hg)
end laws_toSignedS
/-! laws.toEntry -/
namespace laws_toEntry
noncomputable def F (x0 : REntry) : Ans := (call (laws_toStringS.R x0.fPath) fun v1 => ret ((⟨x0.fLabel, x0.fKind, x0.fValue, v1⟩ : REntry) : REntry))
def pats : List Pat := [.agg [.str, .int .i64, .int .i64, .sl 9]]
def res : RP := .agg [.rd (.str), .rd (.int .i64), .rd (.int .i64), .fr 9]
noncomputable abbrev E : Env := ⟨assoc Tab, conG [(121, laws_toStringS.con)], 18⟩
set_option maxRecDepth 100000
theorem run_eq (n : Nat) (ls : List L) : runF E (fun _ => []) Try.f70 res n (initS pats ls) = F (REntry.dec ls) := by kernel_rfl
noncomputable def md (a0 : MEntry) : MEntry := a0
def gd (a0 : MEntry) : Prop := MEntry.Sm (2 ^ 36) a0
def acc (ls : List L) : REntry := (REntry.dec ls)
noncomputable def R : REntry → Option REntry := RR gd md
theorem R_eq {a0} (h : gd a0) : R (MEntry.r a0) = some (MEntry.r (md a0)) := RR_eq (a := a0) h
noncomputable def con : Con := CN pats res acc R
theorem okF (a0 : MEntry) (hg : gd a0) : F (MEntry.r a0) = ret ((MEntry.r (md a0)) : REntry) := by
  unfold md
  show (call (laws_toStringS.R (a0.fPath.map sRow)) fun v1 => ret ((⟨a0.fLabel, a0.fKind, a0.fValue, v1⟩ : REntry) : REntry)) = _
  rw [call_eq (laws_toStringS.R_eq hg.2)]
  rfl
theorem valid_ : Valid Try.prog Ev 70 con := VV (run := fun _ x => F x) mix tab_ok (.cons laws_toStringS.valid_ .nil) Try.func70 (by kernel_rfl) run_eq (fun _ a _ _ hg => ⟨0, okF a hg⟩)
end laws_toEntry
/-! laws.toProof -/
namespace laws_toProof
noncomputable def F (x0 : RProof) : Ans := (call (laws_toIntS.R x0.fPath) fun v1 => ret ((⟨x0.fAt, v1⟩ : RProof) : RProof))
def pats : List Pat := [.agg [.int .i64, .sl 3]]
def res : RP := .agg [.rd (.int .i64), .fr 3]
noncomputable abbrev E : Env := ⟨assoc Tab, conG [(92, laws_toIntS.con)], 12⟩
set_option maxRecDepth 100000
theorem run_eq (n : Nat) (ls : List L) : runF E (fun _ => []) Try.f202 res n (initS pats ls) = F (RProof.dec ls) := by kernel_rfl
noncomputable def md (a0 : MProof) : MProof := a0
def gd (a0 : MProof) : Prop := MProof.Sm (2 ^ 36) a0
def acc (ls : List L) : RProof := (RProof.dec ls)
noncomputable def R : RProof → Option RProof := RR gd md
theorem R_eq {a0} (h : gd a0) : R (MProof.r a0) = some (MProof.r (md a0)) := RR_eq (a := a0) h
noncomputable def con : Con := CN pats res acc R
theorem okF (a0 : MProof) (hg : gd a0) : F (MProof.r a0) = ret ((MProof.r (md a0)) : RProof) := by
  unfold md
  show (call (laws_toIntS.R (a0.fPath.map iRow)) fun v1 => ret ((⟨a0.fAt, v1⟩ : RProof) : RProof)) = _
  rw [call_eq (laws_toIntS.R_eq hg)]
  rfl
theorem valid_ : Valid Try.prog Ev 202 con := VV (run := fun _ x => F x) mix tab_ok (.cons laws_toIntS.valid_ .nil) Try.func202 (by kernel_rfl) run_eq (fun _ a _ _ hg => ⟨0, okF a hg⟩)
end laws_toProof
/-! laws.toGap -/
namespace laws_toGap
noncomputable def F (x0 : RGap) : Ans := (call (laws_toEntry.R x0.fBefore) fun v1 => (call (laws_toEntry.R x0.fAfter) fun v2 => (call (laws_toProof.R x0.fLeft) fun v3 => (call (laws_toProof.R x0.fRight) fun v4 => ret ((⟨x0.fAt, v1, v2, v3, v4⟩ : RGap) : RGap)))))
def pats : List Pat := [.agg [.int .i64, .str, .int .i64, .int .i64, .sl 9, .str, .int .i64, .int .i64, .sl 9, .int .i64, .sl 3, .int .i64, .sl 3]]
def res : RP := .agg [.rd (.int .i64), .rd (.str), .rd (.int .i64), .rd (.int .i64), .fr 9, .rd (.str), .rd (.int .i64), .rd (.int .i64), .fr 9, .rd (.int .i64), .fr 3, .rd (.int .i64), .fr 3]
noncomputable abbrev E : Env := ⟨assoc Tab, conG [(70, laws_toEntry.con), (202, laws_toProof.con)], 24⟩
set_option maxRecDepth 100000
theorem run_eq (n : Nat) (ls : List L) : runF E (fun _ => []) Try.f203 res n (initS pats ls) = F (RGap.dec ls) := by kernel_rfl
noncomputable def md (a0 : MGap) : MGap := a0
def gd (a0 : MGap) : Prop := MGap.Sm (2 ^ 36) a0
def acc (ls : List L) : RGap := (RGap.dec ls)
noncomputable def R : RGap → Option RGap := RR gd md
theorem R_eq {a0} (h : gd a0) : R (MGap.r a0) = some (MGap.r (md a0)) := RR_eq (a := a0) h
noncomputable def con : Con := CN pats res acc R
theorem okF (a0 : MGap) (hg : gd a0) : F (MGap.r a0) = ret ((MGap.r (md a0)) : RGap) := by
  unfold md
  show (call (laws_toEntry.R (MEntry.r a0.fBefore)) fun v1 => (call (laws_toEntry.R (MEntry.r a0.fAfter)) fun v2 => (call (laws_toProof.R (MProof.r a0.fLeft)) fun v3 => (call (laws_toProof.R (MProof.r a0.fRight)) fun v4 => ret ((⟨a0.fAt, v1, v2, v3, v4⟩ : RGap) : RGap))))) = _
  rw [call_eq (laws_toEntry.R_eq hg.1)]
  rw [call_eq (laws_toEntry.R_eq hg.2.1)]
  rw [call_eq (laws_toProof.R_eq hg.2.2.1)]
  rw [call_eq (laws_toProof.R_eq hg.2.2.2)]
  rfl
theorem valid_ : Valid Try.prog Ev 203 con := VV (run := fun _ x => F x) mix tab_ok (.cons laws_toEntry.valid_ (.cons laws_toProof.valid_ .nil)) Try.func203 (by kernel_rfl) run_eq (fun _ a _ _ hg => ⟨0, okF a hg⟩)
end laws_toGap
/-! laws.toAnswer -/
namespace laws_toAnswer
noncomputable def F (x0 : RAnswer) : Ans := (call (laws_toSignedS.R x0.fChain) fun v1 => (call (laws_toEntry.R x0.fEntry) fun v2 => (call (laws_toProof.R x0.fProof) fun v3 => (call (laws_toGap.R x0.fGap) fun v4 => ret ((⟨v1, x0.fFound, v2, v3, v4⟩ : RAnswer) : RAnswer)))))
def pats : List Pat := [.agg [.sl 113, .bool, .str, .int .i64, .int .i64, .sl 9, .int .i64, .sl 3, .int .i64, .str, .int .i64, .int .i64, .sl 9, .str, .int .i64, .int .i64, .sl 9, .int .i64, .sl 3, .int .i64, .sl 3]]
def res : RP := .agg [.fr 119, .rd (.bool), .rd (.str), .rd (.int .i64), .rd (.int .i64), .fr 9, .rd (.int .i64), .fr 3, .rd (.int .i64), .rd (.str), .rd (.int .i64), .rd (.int .i64), .fr 9, .rd (.str), .rd (.int .i64), .rd (.int .i64), .fr 9, .rd (.int .i64), .fr 3, .rd (.int .i64), .fr 3]
noncomputable abbrev E : Env := ⟨assoc Tab, conG [(24, laws_toSignedS.con), (70, laws_toEntry.con), (202, laws_toProof.con), (203, laws_toGap.con)], 24⟩
set_option maxRecDepth 100000
theorem run_eq (n : Nat) (ls : List L) : runF E (fun _ => []) Try.f189 res n (initS pats ls) = F (RAnswer.dec ls) := by kernel_rfl
noncomputable def md (a0 : MAnswer) : MAnswer := a0
def gd (a0 : MAnswer) : Prop := MAnswer.Sm (2 ^ 36) a0
def acc (ls : List L) : RAnswer := (RAnswer.dec ls)
noncomputable def R : RAnswer → Option RAnswer := RR gd md
theorem R_eq {a0} (h : gd a0) : R (MAnswer.r a0) = some (MAnswer.r (md a0)) := RR_eq (a := a0) h
noncomputable def con : Con := CN pats res acc R
theorem okF (a0 : MAnswer) (hg : gd a0) : F (MAnswer.r a0) = ret ((MAnswer.r (md a0)) : RAnswer) := by
  unfold md
  show (call (laws_toSignedS.R (a0.fChain.map MSigned.row)) fun v1 => (call (laws_toEntry.R (MEntry.r a0.fEntry)) fun v2 => (call (laws_toProof.R (MProof.r a0.fProof)) fun v3 => (call (laws_toGap.R (MGap.r a0.fGap)) fun v4 => ret ((⟨v1, a0.fFound, v2, v3, v4⟩ : RAnswer) : RAnswer))))) = _
  rw [call_eq (laws_toSignedS.R_eq hg.1)]
  rw [call_eq (laws_toEntry.R_eq hg.2.1)]
  rw [call_eq (laws_toProof.R_eq hg.2.2.1)]
  rw [call_eq (laws_toGap.R_eq hg.2.2.2)]
  rfl
theorem valid_ : Valid Try.prog Ev 189 con := VV (run := fun _ x => F x) mix tab_ok (.cons laws_toSignedS.valid_ (.cons laws_toEntry.valid_ (.cons laws_toProof.valid_ (.cons laws_toGap.valid_ .nil)))) Try.func189 (by kernel_rfl) run_eq (fun _ a _ _ hg => ⟨0, okF a hg⟩)
end laws_toAnswer
/-! laws.toStored -/
namespace laws_toStored
noncomputable def F (x0 : RStored) : Ans := (call (laws_toAnswer.R x0.fAnswer) fun v1 => ret ((⟨x0.fZone, x0.fLabel, v1⟩ : RStored) : RStored))
def pats : List Pat := [.agg [.int .i64, .str, .sl 113, .bool, .str, .int .i64, .int .i64, .sl 9, .int .i64, .sl 3, .int .i64, .str, .int .i64, .int .i64, .sl 9, .str, .int .i64, .int .i64, .sl 9, .int .i64, .sl 3, .int .i64, .sl 3]]
def res : RP := .agg [.rd (.int .i64), .rd (.str), .fr 119, .rd (.bool), .rd (.str), .rd (.int .i64), .rd (.int .i64), .fr 9, .rd (.int .i64), .fr 3, .rd (.int .i64), .rd (.str), .rd (.int .i64), .rd (.int .i64), .fr 9, .rd (.str), .rd (.int .i64), .rd (.int .i64), .fr 9, .rd (.int .i64), .fr 3, .rd (.int .i64), .fr 3]
noncomputable abbrev E : Env := ⟨assoc Tab, conG [(189, laws_toAnswer.con)], 15⟩
set_option maxRecDepth 100000
theorem run_eq (n : Nat) (ls : List L) : runF E (fun _ => []) Try.f167 res n (initS pats ls) = F (RStored.dec ls) := by kernel_rfl
noncomputable def md (a0 : MStored) : MStored := a0
def gd (a0 : MStored) : Prop := MStored.Sm (2 ^ 36) a0
def acc (ls : List L) : RStored := (RStored.dec ls)
noncomputable def R : RStored → Option RStored := RR gd md
theorem R_eq {a0} (h : gd a0) : R (MStored.r a0) = some (MStored.r (md a0)) := RR_eq (a := a0) h
noncomputable def con : Con := CN pats res acc R
theorem okF (a0 : MStored) (hg : gd a0) : F (MStored.r a0) = ret ((MStored.r (md a0)) : RStored) := by
  unfold md
  show (call (laws_toAnswer.R (MAnswer.r a0.fAnswer)) fun v1 => ret ((⟨a0.fZone, a0.fLabel, v1⟩ : RStored) : RStored)) = _
  rw [call_eq (laws_toAnswer.R_eq hg.2)]
  rfl
theorem valid_ : Valid Try.prog Ev 167 con := VV (run := fun _ x => F x) mix tab_ok (.cons laws_toAnswer.valid_ .nil) Try.func167 (by kernel_rfl) run_eq (fun _ a _ _ hg => ⟨0, okF a hg⟩)
end laws_toStored
/-! laws.toStoredS -/
namespace laws_toStoredS
inductive Pt where
  | p0 (a : List (List L)) (b : Int) (c : List (List L))
def pid : Pt → Nat
  | .p0 .. => 3
def pvs : Pt → List V
  | .p0 a b c => [.sl none 209 a, .own 0, .int .i64 b]
def phs : Pt → List Root
  | .p0 a b c => [.row 159 c]
noncomputable def step (J : Pt → Ans) : Pt → Ans
  | .p0 a b c => (bif (decide (b < (a.length : Int))) then (bif (decide ((0 : Int) ≤ b)) then (bif (decide (b < (a.length : Int))) then (call (laws_toStored.R (RStored.at a (Int.toNat b))) fun v1 => (bif (decide ((0 : Int) ≤ b)) then (bif (decide (b < (c.length : Int))) then J (.p0 a (IntKind.i64.wrap (b + 1)) (List.set c (Int.toNat b) (RStored.enc v1))) else none) else none)) else none) else none) else ret (c : List (List L)))
noncomputable def start (J : Pt → Ans) (x0 : List (List L)) : Ans := (bif (decide ((0 : Int) ≤ (x0.length : Int))) then (bif (decide ((x0.length : Int) ≤ (x0.length : Int))) then (bif (decide ((x0.length : Int) * 328 ≤ 140737488355328)) then J (.p0 x0 0 (List.replicate (Int.toNat (x0.length : Int)) [L.int 0, L.str ⟨#[]⟩, L.sl [], L.bool false, L.str ⟨#[]⟩, L.int 0, L.int 0, L.sl [], L.int 0, L.sl [], L.int 0, L.str ⟨#[]⟩, L.int 0, L.int 0, L.sl [], L.str ⟨#[]⟩, L.int 0, L.int 0, L.sl [], L.int 0, L.sl [], L.int 0, L.sl []])) else none) else none) else none)
def live : Nat → Live := fun i => match i with | 3 => [(0, none), (3, none), (4, none)] | _ => []
def pats : List Pat := [.rd (.sl 209)]
def res : RP := .one (.fr 159)
noncomputable abbrev E : Env := ⟨assoc Tab, conG [(167, laws_toStored.con)], 23⟩
set_option maxRecDepth 100000
theorem step_eq (I : Heads) (p : Pt) : enterC E live I (pid p) (bodyOf Try.f114) (stOf (live (pid p)) (pvs p) (phs p)) (doneK E Try.f114 res) = step (fun q => I (pid q) (pvs q) (phs q)) p := by
  cases p <;> kernel_rfl
theorem start_eq (I : Heads) (ls : List L) : runC E live I (bodyOf Try.f114) (initS pats ls) (doneK E Try.f114 res) = start (fun q => I (pid q) (pvs q) (phs q)) (ls.headD .hole).toSl := by kernel_rfl
theorem run_eq (n : Nat) (ls : List L) : runF E live Try.f114 res n (initS pats ls) = start (iter step n) (ls.headD .hole).toSl := runF_iter (id := pid) (vs := pvs) (hs := phs) (step := step) (start := fun J => start J (ls.headD .hole).toSl) step_eq (fun I => start_eq I ls) n
noncomputable def md (a0 : List MStored) : List MStored := a0
def gd (a0 : List MStored) : Prop := SmL (2 ^ 36) (fun y : MStored => MStored.Sm (2 ^ 36) y) a0
def acc (ls : List L) : List (List L) := (ls.headD .hole).toSl
noncomputable def R : (List (List L)) → Option (List (List L)) := RR gd md
theorem R_eq {a0} (h : gd a0) : R (a0.map MStored.row) = some ((md a0).map MStored.row) := RR_eq (a := a0) h
noncomputable def con : Con := CN pats res acc R
theorem okF (a0 : List MStored) (hg : gd a0) : ∃ n, start (iter step n) (a0.map MStored.row) = ret (((md a0).map MStored.row) : List (List L)) := by
  unfold start md
  simp only [List.length_map]
  refine to_list (b := 328) (pt := fun i c => Pt.p0 (a0.map MStored.row) (i : Int) c) (by have := hg.1; simp at this; omega) (fun J i h c hc => ?_) (fun J c => ?_)
  · simp only [step, List.length_map, lt_dec h, zle_dec, cond_true, toNat_nat, MStored.at_row h, hc]
    rw [call_eq (laws_toStored.R_eq (hg.get h))]
    try simp only [hc, lt_dec h, cond_true]
    rw [wrap_succ (n := a0.length) h (by have := hg.1; simp only [maxLen]; simp at this; omega)]
    rfl
  · simp only [step, List.length_map, nlt_dec, cond_false]
theorem valid_ : Valid Try.prog Ev 114 con := VV (run := fun n x => start (iter step n) x) mix tab_ok (.cons laws_toStored.valid_ .nil) Try.func114 (by kernel_rfl) run_eq (fun _ a _ _ hg => okF a hg)
end laws_toStoredS
/-! laws.toBundle -/
namespace laws_toBundle
noncomputable def F (x0 : RBundle) : Ans := (call (laws_toStringS.R x0.fPath) fun v1 => (call (laws_toStoredS.R x0.fSteps) fun v2 => ret ((⟨x0.fRoot, v1, v2⟩ : RBundle) : RBundle)))
def pats : List Pat := [.agg [.int .i64, .sl 9, .sl 209]]
def res : RP := .agg [.rd (.int .i64), .fr 9, .fr 159]
noncomputable abbrev E : Env := ⟨assoc Tab, conG [(121, laws_toStringS.con), (114, laws_toStoredS.con)], 16⟩
set_option maxRecDepth 100000
theorem run_eq (n : Nat) (ls : List L) : runF E (fun _ => []) Try.f63 res n (initS pats ls) = F (RBundle.dec ls) := by kernel_rfl
noncomputable def md (a0 : MBundle) : MBundle := a0
def gd (a0 : MBundle) : Prop := MBundle.Sm (2 ^ 36) a0
def acc (ls : List L) : RBundle := (RBundle.dec ls)
noncomputable def R : RBundle → Option RBundle := RR gd md
theorem R_eq {a0} (h : gd a0) : R (MBundle.r a0) = some (MBundle.r (md a0)) := RR_eq (a := a0) h
noncomputable def con : Con := CN pats res acc R
theorem okF (a0 : MBundle) (hg : gd a0) : F (MBundle.r a0) = ret ((MBundle.r (md a0)) : RBundle) := by
  unfold md
  show (call (laws_toStringS.R (a0.fPath.map sRow)) fun v1 => (call (laws_toStoredS.R (a0.fSteps.map MStored.row)) fun v2 => ret ((⟨a0.fRoot, v1, v2⟩ : RBundle) : RBundle))) = _
  rw [call_eq (laws_toStringS.R_eq hg.1)]
  rw [call_eq (laws_toStoredS.R_eq hg.2)]
  rfl
theorem valid_ : Valid Try.prog Ev 63 con := VV (run := fun _ x => F x) mix tab_ok (.cons laws_toStringS.valid_ (.cons laws_toStoredS.valid_ .nil)) Try.func63 (by kernel_rfl) run_eq (fun _ a _ _ hg => ⟨0, okF a hg⟩)
end laws_toBundle
/-! spec.SamePath -/
namespace spec_SamePath
inductive Pt where
  | p0 (a : List (List L)) (b : List (List L)) (c : Int)
def pid : Pt → Nat
  | .p0 .. => 4
def pvs : Pt → List V
  | .p0 a b c => [.sl none 9 a, .sl none 9 b, .int .i64 c]
def phs : Pt → List Root
  | .p0 a b c => []
noncomputable def step (J : Pt → Ans) : Pt → Ans
  | .p0 a b c => (bif (decide (c < (a.length : Int))) then (bif (decide ((0 : Int) ≤ c)) then (bif (decide (c < (a.length : Int))) then (bif (decide ((0 : Int) ≤ c)) then (bif (decide (c < (b.length : Int))) then (bif (!((sAt a (Int.toNat c)) == (sAt b (Int.toNat c)))) then ret (false : Bool) else J (.p0 a b (IntKind.i64.wrap (c + 1)))) else none) else none) else none) else none) else ret (true : Bool))
noncomputable def start (J : Pt → Ans) (x0 : List (List L)) (x1 : List (List L)) : Ans := (bif ((x0.length : Int) != (x1.length : Int)) then ret (false : Bool) else J (.p0 x0 x1 0))
def live : Nat → Live := fun i => match i with | 4 => [(0, none), (1, none), (5, none)] | _ => []
def pats : List Pat := [.rd (.sl 9), .rd (.sl 9)]
def res : RP := .one (.rd (.bool))
noncomputable abbrev E : Env := ⟨assoc Tab, conG [], 26⟩
set_option maxRecDepth 100000
theorem step_eq (I : Heads) (p : Pt) : enterC E live I (pid p) (bodyOf Try.f120) (stOf (live (pid p)) (pvs p) (phs p)) (doneK E Try.f120 res) = step (fun q => I (pid q) (pvs q) (phs q)) p := by
  cases p <;> kernel_rfl
theorem start_eq (I : Heads) (ls : List L) : runC E live I (bodyOf Try.f120) (initS pats ls) (doneK E Try.f120 res) = start (fun q => I (pid q) (pvs q) (phs q)) (ls.headD .hole).toSl ((dropT 1 ls).headD .hole).toSl := by kernel_rfl
theorem run_eq (n : Nat) (ls : List L) : runF E live Try.f120 res n (initS pats ls) = start (iter step n) (ls.headD .hole).toSl ((dropT 1 ls).headD .hole).toSl := runF_iter (id := pid) (vs := pvs) (hs := phs) (step := step) (start := fun J => start J (ls.headD .hole).toSl ((dropT 1 ls).headD .hole).toSl) step_eq (fun I => start_eq I ls) n
noncomputable def md (a0 : List ByteArray) (a1 : List ByteArray) : Bool := (bif ((a0.length : Int) != (a1.length : Int)) then (false : Bool) else (loopM (S := Unit) (β := Bool) (fun (i2 : Nat) (s4 : Unit) => (bif (!((a0.getD i2 ⟨#[]⟩) == (a1.getD i2 ⟨#[]⟩))) then (.inr (false : Bool)) else (.inl ()))) (fun (s4 : Unit) => (true : Bool)) a0.length 0 ()))
def gd (a0 : List ByteArray) (a1 : List ByteArray) : Prop := (SmL (2 ^ 21) (fun y : ByteArray => y.size ≤ (2 ^ 21)) a0) ∧ (SmL (2 ^ 21) (fun y : ByteArray => y.size ≤ (2 ^ 21)) a1)
def acc (ls : List L) : List (List L) × List (List L) := ((ls.headD .hole).toSl, ((dropT 1 ls).headD .hole).toSl)
noncomputable def R : (List (List L) × List (List L)) → Option Bool := RR (p2 gd) (u2 md)
theorem R_eq {a0} {a1} (h : gd a0 a1) : R ((a0.map sRow), (a1.map sRow)) = some (md a0 a1) := RR_eq (a := (a0, a1)) h
noncomputable def con : Con := CN pats res acc R
theorem okF (a0 : List ByteArray) (a1 : List ByteArray) (hg : gd a0 a1) : ∃ n, start (iter step n) (a0.map sRow) (a1.map sRow) = ret ((md a0 a1) : Bool) := by
  unfold gd at hg
  obtain ⟨H0, H1⟩ := hg
  unfold start md
  try simp only [S0]
  refine ex_bif ret (fun _ => ⟨0, rfl⟩) (fun c1 => ?_)
  have dc1 := c1
  try simp only [DC] at dc1
  have Bh3 : a0.length ≤ maxLen := (by
      have := (H0).1
      try simp only [maxLen] at *
      omega)
  refine ex_pt (p := Pt.p0 (a0.map sRow) (a1.map sRow) 0) (by first | rfl | (simp only [S0, MP]; done) | (simp only [MP]; rfl)) ?_
  refine loopM_ok (pt := fun (i2 : Nat) (s4 : Unit) => Pt.p0 (a0.map sRow) (a1.map sRow) (i2 : Int)) (s := (() : Unit)) (out := ret) (fun _ _ => True) (fun J i2 s4 h3 hih3 => ?_) (fun s4 hih3 => ?_) trivial
  · simp only [step, S0]
    have bb_ := Bh3
    simp only [maxLen] at bb_
    have := (H0).1
    refine Rnd.yes (by apply decide_eq_true; omega) ?_
    refine Rnd.yes zle_dec ?_
    refine Rnd.yes (lt_dec h3) ?_
    refine Rnd.yes zle_dec ?_
    refine Rnd.yes (by
        have := (H1).1
        refine decide_eq_true ?_
        try simp (disch := omega) only [LN, wi]
        first | omega | (simp; done) | (simp; omega)) ?_
    refine Rnd.bif (fun _ => Rnd.inr rfl) (fun c5 => ?_)
    refine Rnd.inl trivial ?_
    rw [wrap_succ h3 Bh3]
    all_goals first | rfl | (simp only [S0, MP]; first | done | rfl)
  · simp only [step, S0]
    have := (H0).1
    refine ex_no (by apply decide_eq_false; omega) ?_
    refine ⟨0, ?_⟩
    all_goals first | rfl | (simp only [S0, MP]; first | done | rfl)
theorem valid_ : Valid Try.prog Ev 120 con := VV (run := fun n x => start (iter step n) x.1 x.2) mix tab_ok .nil Try.func120 (by kernel_rfl) run_eq (fun _ a _ _ hg => okF a.1 a.2 hg)
theorem md_eq (a0 : List ByteArray) (a1 : List ByteArray) : md a0 a1 = eqB a0 a1 := by
  unfold md
  refine loop_eqB (⟨#[]⟩) (fun i s h h2 => ?_) (fun s => rfl)
  simp only [bne, int_beq, bool_beq, ba_beq]
  cases eqB _ _ <;> rfl
end spec_SamePath
/-! spec.EqualEntries -/
namespace spec_EqualEntries
noncomputable def F (x0 : REntry) (x1 : REntry) : Ans := (bif (x0.fLabel == x1.fLabel) then (bif (x0.fKind == x1.fKind) then (bif (x0.fValue == x1.fValue) then (call (spec_SamePath.R (x0.fPath, x1.fPath)) fun v1 => ret (v1 : Bool)) else ret (false : Bool)) else ret (false : Bool)) else ret (false : Bool))
def pats : List Pat := [.agg [.str, .int .i64, .int .i64, .sl 9], .agg [.str, .int .i64, .int .i64, .sl 9]]
def res : RP := .one (.rd (.bool))
noncomputable abbrev E : Env := ⟨assoc Tab, conG [(120, spec_SamePath.con)], 31⟩
set_option maxRecDepth 100000
theorem run_eq (n : Nat) (ls : List L) : runF E (fun _ => []) Try.f68 res n (initS pats ls) = F (REntry.dec ls) (REntry.dec (dropT 4 ls)) := by kernel_rfl
noncomputable def md (a0 : MEntry) (a1 : MEntry) : Bool := (bif (a0.fLabel == a1.fLabel) then (bif (a0.fKind == a1.fKind) then (bif (a0.fValue == a1.fValue) then ((spec_SamePath.md a0.fPath a1.fPath) : Bool) else (false : Bool)) else (false : Bool)) else (false : Bool))
def gd (a0 : MEntry) (a1 : MEntry) : Prop := (MEntry.Sm (2 ^ 21) a0) ∧ (MEntry.Sm (2 ^ 21) a1)
def acc (ls : List L) : REntry × REntry := ((REntry.dec ls), (REntry.dec (dropT 4 ls)))
noncomputable def R : (REntry × REntry) → Option Bool := RR (p2 gd) (u2 md)
theorem R_eq {a0} {a1} (h : gd a0 a1) : R ((MEntry.r a0), (MEntry.r a1)) = some (md a0 a1) := RR_eq (a := (a0, a1)) h
noncomputable def con : Con := CN pats res acc R
theorem okF (a0 : MEntry) (a1 : MEntry) (hg : gd a0 a1) : F (MEntry.r a0) (MEntry.r a1) = ret ((md a0 a1) : Bool) := by
  unfold gd at hg
  obtain ⟨H0, H1⟩ := hg
  unfold F md
  try simp only [S0, MEntry.rs]
  refine bif_out ret (fun c1 => ?_) (fun _ => rfl)
  refine bif_out ret (fun c2 => ?_) (fun _ => rfl)
  refine bif_out ret (fun c3 => ?_) (fun _ => rfl)
  refine call_to (spec_SamePath.md a0.fPath a1.fPath) (spec_SamePath.R_eq (a0 := a0.fPath) (a1 := a1.fPath) ⟨H0.2, H1.2⟩) ?_
  all_goals first | rfl | (simp only [S0, MEntry.rs, MP]; first | done | rfl)
theorem valid_ : Valid Try.prog Ev 68 con := VV (run := fun _ x => F x.1 x.2) mix tab_ok (.cons spec_SamePath.valid_ .nil) Try.func68 (by kernel_rfl) run_eq (fun _ a _ _ hg => ⟨0, okF a.1 a.2 hg⟩)
theorem md_eq (a0 : MEntry) (a1 : MEntry) : md a0 a1 = eqB a0 a1 := by
  unfold md
  cases a0; cases a1
  rw [Bool.eq_iff_iff]
  simp [eqB_iff, ba_beq, MEntry.mk.injEq, spec_SamePath.md_eq]
  try (constructor <;> (intro h; simp_all))
end spec_EqualEntries
/-! spec.SameEntries -/
namespace spec_SameEntries
inductive Pt where
  | p0 (a : List (List L)) (b : List (List L)) (c : Int)
def pid : Pt → Nat
  | .p0 .. => 4
def pvs : Pt → List V
  | .p0 a b c => [.sl none 30 a, .sl none 30 b, .int .i64 c]
def phs : Pt → List Root
  | .p0 a b c => []
noncomputable def step (J : Pt → Ans) : Pt → Ans
  | .p0 a b c => (bif (decide (c < (a.length : Int))) then (bif (decide ((0 : Int) ≤ c)) then (bif (decide (c < (a.length : Int))) then (bif (decide ((0 : Int) ≤ c)) then (bif (decide (c < (b.length : Int))) then (call (spec_EqualEntries.R ((REntry.at a (Int.toNat c)), (REntry.at b (Int.toNat c)))) fun v1 => (bif (!v1) then ret (false : Bool) else J (.p0 a b (IntKind.i64.wrap (c + 1))))) else none) else none) else none) else none) else ret (true : Bool))
noncomputable def start (J : Pt → Ans) (x0 : List (List L)) (x1 : List (List L)) : Ans := (bif ((x0.length : Int) != (x1.length : Int)) then ret (false : Bool) else J (.p0 x0 x1 0))
def live : Nat → Live := fun i => match i with | 4 => [(0, none), (1, none), (5, none)] | _ => []
def pats : List Pat := [.rd (.sl 30), .rd (.sl 30)]
def res : RP := .one (.rd (.bool))
noncomputable abbrev E : Env := ⟨assoc Tab, conG [(68, spec_EqualEntries.con)], 27⟩
set_option maxRecDepth 100000
theorem step_eq (I : Heads) (p : Pt) : enterC E live I (pid p) (bodyOf Try.f69) (stOf (live (pid p)) (pvs p) (phs p)) (doneK E Try.f69 res) = step (fun q => I (pid q) (pvs q) (phs q)) p := by
  cases p <;> kernel_rfl
theorem start_eq (I : Heads) (ls : List L) : runC E live I (bodyOf Try.f69) (initS pats ls) (doneK E Try.f69 res) = start (fun q => I (pid q) (pvs q) (phs q)) (ls.headD .hole).toSl ((dropT 1 ls).headD .hole).toSl := by kernel_rfl
theorem run_eq (n : Nat) (ls : List L) : runF E live Try.f69 res n (initS pats ls) = start (iter step n) (ls.headD .hole).toSl ((dropT 1 ls).headD .hole).toSl := runF_iter (id := pid) (vs := pvs) (hs := phs) (step := step) (start := fun J => start J (ls.headD .hole).toSl ((dropT 1 ls).headD .hole).toSl) step_eq (fun I => start_eq I ls) n
noncomputable def md (a0 : List MEntry) (a1 : List MEntry) : Bool := (bif ((a0.length : Int) != (a1.length : Int)) then (false : Bool) else (loopM (S := Unit) (β := Bool) (fun (i2 : Nat) (s4 : Unit) => (bif (!(spec_EqualEntries.md (a0.getD i2 MEntry.zero) (a1.getD i2 MEntry.zero))) then (.inr (false : Bool)) else (.inl ()))) (fun (s4 : Unit) => (true : Bool)) a0.length 0 ()))
def gd (a0 : List MEntry) (a1 : List MEntry) : Prop := (SmL (2 ^ 21) (fun y : MEntry => MEntry.Sm (2 ^ 21) y) a0) ∧ (SmL (2 ^ 21) (fun y : MEntry => MEntry.Sm (2 ^ 21) y) a1)
def acc (ls : List L) : List (List L) × List (List L) := ((ls.headD .hole).toSl, ((dropT 1 ls).headD .hole).toSl)
noncomputable def R : (List (List L) × List (List L)) → Option Bool := RR (p2 gd) (u2 md)
theorem R_eq {a0} {a1} (h : gd a0 a1) : R ((a0.map MEntry.row), (a1.map MEntry.row)) = some (md a0 a1) := RR_eq (a := (a0, a1)) h
noncomputable def con : Con := CN pats res acc R
theorem okF (a0 : List MEntry) (a1 : List MEntry) (hg : gd a0 a1) : ∃ n, start (iter step n) (a0.map MEntry.row) (a1.map MEntry.row) = ret ((md a0 a1) : Bool) := by
  unfold gd at hg
  obtain ⟨H0, H1⟩ := hg
  unfold start md
  try simp only [S0, MEntry.rs]
  refine ex_bif ret (fun _ => ⟨0, rfl⟩) (fun c1 => ?_)
  have dc1 := c1
  try simp only [DC] at dc1
  have Bh3 : a0.length ≤ maxLen := (by
      have := (H0).1
      try simp only [maxLen] at *
      omega)
  refine ex_pt (p := Pt.p0 (a0.map MEntry.row) (a1.map MEntry.row) 0) (by first | rfl | (simp only [S0, MEntry.rs, MP]; done) | (simp only [MP]; rfl)) ?_
  refine loopM_ok (pt := fun (i2 : Nat) (s4 : Unit) => Pt.p0 (a0.map MEntry.row) (a1.map MEntry.row) (i2 : Int)) (s := (() : Unit)) (out := ret) (fun _ _ => True) (fun J i2 s4 h3 hih3 => ?_) (fun s4 hih3 => ?_) trivial
  · simp only [step, S0, MEntry.rs]
    have bb_ := Bh3
    simp only [maxLen] at bb_
    have := (H0).1
    refine Rnd.yes (by apply decide_eq_true; omega) ?_
    refine Rnd.yes zle_dec ?_
    refine Rnd.yes (lt_dec h3) ?_
    refine Rnd.yes zle_dec ?_
    refine Rnd.yes (by
        have := (H1).1
        refine decide_eq_true ?_
        try simp (disch := omega) only [LN, wi]
        first | omega | (simp; done) | (simp; omega)) ?_
    refine Rnd.call_to (spec_EqualEntries.md (a0.getD i2 MEntry.zero) (a1.getD i2 MEntry.zero)) (spec_EqualEntries.R_eq (a0 := (a0.getD i2 MEntry.zero)) (a1 := (a1.getD i2 MEntry.zero)) ⟨(SmL.getD (z := MEntry.zero) H0 h3), (SmL.getD (z := MEntry.zero) H1 (by first | assumption | omega | (simp (disch := omega) only [wi]; omega) | (simp; omega)))⟩) ?_
    refine Rnd.bif (fun _ => Rnd.inr rfl) (fun c5 => ?_)
    refine Rnd.inl trivial ?_
    rw [wrap_succ h3 Bh3]
    all_goals first | rfl | (simp only [S0, MEntry.rs, MP]; first | done | rfl)
  · simp only [step, S0, MEntry.rs]
    have := (H0).1
    refine ex_no (by apply decide_eq_false; omega) ?_
    refine ⟨0, ?_⟩
    all_goals first | rfl | (simp only [S0, MEntry.rs, MP]; first | done | rfl)
theorem valid_ : Valid Try.prog Ev 69 con := VV (run := fun n x => start (iter step n) x.1 x.2) mix tab_ok (.cons spec_EqualEntries.valid_ .nil) Try.func69 (by kernel_rfl) run_eq (fun _ a _ _ hg => okF a.1 a.2 hg)
theorem md_eq (a0 : List MEntry) (a1 : List MEntry) : md a0 a1 = eqB a0 a1 := by
  unfold md
  refine loop_eqB (MEntry.zero) (fun i s h h2 => ?_) (fun s => rfl)
  simp only [bne, int_beq, bool_beq, ba_beq, spec_EqualEntries.md_eq]
  cases eqB _ _ <;> rfl
end spec_SameEntries
/-! spec.KeysInts -/
namespace spec_KeysInts
noncomputable def F (x0 : RKeys) : Ans := (bif (lim (((2 : Int) + (x0.fList.length : Int)) * 8)) then ret (([[L.int x0.fNeed], [L.int (x0.fList.length : Int)]] ++ x0.fList) : List (List L)) else none)
def pats : List Pat := [.agg [.sl 3, .int .i64]]
def res : RP := .one (.fr 3)
noncomputable abbrev E : Env := ⟨assoc Tab, conG [], 12⟩
set_option maxRecDepth 100000
theorem run_eq (n : Nat) (ls : List L) : runF E (fun _ => []) Try.f227 res n (initS pats ls) = F (RKeys.dec ls) := by kernel_rfl
noncomputable def md (a0 : MKeys) : List Int := ([a0.fNeed, (a0.fList.length : Int)] ++ a0.fList)
def gd (a0 : MKeys) : Prop := (MKeys.Sm (2 ^ 21) a0)
def acc (ls : List L) : RKeys := (RKeys.dec ls)
noncomputable def R : RKeys → Option (List (List L)) := RR gd md
theorem R_eq {a0} (h : gd a0) : R (MKeys.r a0) = some ((md a0).map iRow) := RR_eq (a := a0) h
noncomputable def con : Con := CN pats res acc R
theorem okF (a0 : MKeys) (hg : gd a0) : F (MKeys.r a0) = ret (((md a0).map iRow) : List (List L)) := by
  unfold gd at hg
  have H0 := hg
  unfold F md
  try simp only [S0, MKeys.rs]
  refine yes_ret (by
      have := (H0).1
      refine lim_t ?_
      try simp (disch := omega) only [LN, wi]
      first | omega | (simp; done) | (simp; omega)) ?_
  all_goals first | rfl | (simp only [S0, MKeys.rs]; done) | (simp only [MP]; rfl) | (simp only [S0, MKeys.rs, MP]; first | done | rfl)
theorem valid_ : Valid Try.prog Ev 227 con := VV (run := fun _ x => F x) mix tab_ok .nil Try.func227 (by kernel_rfl) run_eq (fun _ a _ _ hg => ⟨0, okF a hg⟩)
theorem len (a0 : MKeys) : (md a0).length = 2 + a0.fList.length := by simp [md]; omega
end spec_KeysInts
/-! spec.HeadInts -/
namespace spec_HeadInts
noncomputable def F (x0 : RHead) : Ans := (call (spec_KeysInts.R x0.fKeys) fun v1 => (bif (lim (((8 : Int) + (v1.length : Int)) * 8)) then (call (spec_KeysInts.R x0.fHeirs) fun v2 => (bif (lim (((([[L.int x0.fZone], [L.int x0.fEpoch], [L.int x0.fKind], [L.int x0.fTime], [L.int x0.fUntil], [L.int x0.fCount], [L.int x0.fRoot], [L.int x0.fPrev]] ++ v1).length : Int) + (v2.length : Int)) * 8)) then (bif (lim ((((([[L.int x0.fZone], [L.int x0.fEpoch], [L.int x0.fKind], [L.int x0.fTime], [L.int x0.fUntil], [L.int x0.fCount], [L.int x0.fRoot], [L.int x0.fPrev]] ++ v1) ++ v2).length : Int) + 1) * 8)) then (call (spec_KeysInts.R x0.fJudge) fun v3 => (bif (lim (((((([[L.int x0.fZone], [L.int x0.fEpoch], [L.int x0.fKind], [L.int x0.fTime], [L.int x0.fUntil], [L.int x0.fCount], [L.int x0.fRoot], [L.int x0.fPrev]] ++ v1) ++ v2) ++ [[L.int x0.fWait]]).length : Int) + (v3.length : Int)) * 8)) then (bif x0.fFrozen then (bif (lim ((((((([[L.int x0.fZone], [L.int x0.fEpoch], [L.int x0.fKind], [L.int x0.fTime], [L.int x0.fUntil], [L.int x0.fCount], [L.int x0.fRoot], [L.int x0.fPrev]] ++ v1) ++ v2) ++ [[L.int x0.fWait]]) ++ v3).length : Int) + 1) * 8)) then ret (((((([[L.int x0.fZone], [L.int x0.fEpoch], [L.int x0.fKind], [L.int x0.fTime], [L.int x0.fUntil], [L.int x0.fCount], [L.int x0.fRoot], [L.int x0.fPrev]] ++ v1) ++ v2) ++ [[L.int x0.fWait]]) ++ v3) ++ [[L.int 1]]) : List (List L)) else none) else (bif (lim ((((((([[L.int x0.fZone], [L.int x0.fEpoch], [L.int x0.fKind], [L.int x0.fTime], [L.int x0.fUntil], [L.int x0.fCount], [L.int x0.fRoot], [L.int x0.fPrev]] ++ v1) ++ v2) ++ [[L.int x0.fWait]]) ++ v3).length : Int) + 1) * 8)) then ret (((((([[L.int x0.fZone], [L.int x0.fEpoch], [L.int x0.fKind], [L.int x0.fTime], [L.int x0.fUntil], [L.int x0.fCount], [L.int x0.fRoot], [L.int x0.fPrev]] ++ v1) ++ v2) ++ [[L.int x0.fWait]]) ++ v3) ++ [[L.int 0]]) : List (List L)) else none)) else none)) else none) else none)) else none))
def pats : List Pat := [.agg [.int .i64, .int .i64, .int .i64, .int .i64, .int .i64, .int .i64, .int .i64, .int .i64, .sl 3, .int .i64, .sl 3, .int .i64, .int .i64, .sl 3, .int .i64, .bool]]
def res : RP := .one (.fr 3)
noncomputable abbrev E : Env := ⟨assoc Tab, conG [(227, spec_KeysInts.con)], 49⟩
set_option maxRecDepth 100000
theorem run_eq (n : Nat) (ls : List L) : runF E (fun _ => []) Try.f209 res n (initS pats ls) = F (RHead.dec ls) := by kernel_rfl
noncomputable def md (a0 : MHead) : List Int := (bif a0.fFrozen then ((((([a0.fZone, a0.fEpoch, a0.fKind, a0.fTime, a0.fUntil, a0.fCount, a0.fRoot, a0.fPrev] ++ (spec_KeysInts.md a0.fKeys)) ++ (spec_KeysInts.md a0.fHeirs)) ++ [a0.fWait]) ++ (spec_KeysInts.md a0.fJudge)) ++ [1]) else ((((([a0.fZone, a0.fEpoch, a0.fKind, a0.fTime, a0.fUntil, a0.fCount, a0.fRoot, a0.fPrev] ++ (spec_KeysInts.md a0.fKeys)) ++ (spec_KeysInts.md a0.fHeirs)) ++ [a0.fWait]) ++ (spec_KeysInts.md a0.fJudge)) ++ [0]))
def gd (a0 : MHead) : Prop := (MHead.Sm (2 ^ 21) a0)
def acc (ls : List L) : RHead := (RHead.dec ls)
noncomputable def R : RHead → Option (List (List L)) := RR gd md
theorem R_eq {a0} (h : gd a0) : R (MHead.r a0) = some ((md a0).map iRow) := RR_eq (a := a0) h
noncomputable def con : Con := CN pats res acc R
theorem okF (a0 : MHead) (hg : gd a0) : F (MHead.r a0) = ret (((md a0).map iRow) : List (List L)) := by
  unfold gd at hg
  have H0 := hg
  unfold F md
  try simp only [S0, MHead.rs]
  refine call_to ((spec_KeysInts.md a0.fKeys).map iRow) (spec_KeysInts.R_eq (a0 := a0.fKeys) H0.1) ?_
  try simp only [S0, MHead.rs]
  refine yes_ret (by
      have := spec_KeysInts.len a0.fKeys
      have := (H0.1).1
      refine lim_t ?_
      try simp (disch := omega) only [LN, wi]
      first | omega | (simp; done) | (simp; omega)) ?_
  refine call_to ((spec_KeysInts.md a0.fHeirs).map iRow) (spec_KeysInts.R_eq (a0 := a0.fHeirs) H0.2.1) ?_
  try simp only [S0, MHead.rs]
  refine yes_ret (by
      have := spec_KeysInts.len a0.fKeys
      have := (H0.1).1
      have := spec_KeysInts.len a0.fHeirs
      have := (H0.2.1).1
      refine lim_t ?_
      try simp (disch := omega) only [LN, wi]
      first | omega | (simp; done) | (simp; omega)) ?_
  refine yes_ret (by
      have := spec_KeysInts.len a0.fKeys
      have := (H0.1).1
      have := spec_KeysInts.len a0.fHeirs
      have := (H0.2.1).1
      refine lim_t ?_
      try simp (disch := omega) only [LN, wi]
      first | omega | (simp; done) | (simp; omega)) ?_
  refine call_to ((spec_KeysInts.md a0.fJudge).map iRow) (spec_KeysInts.R_eq (a0 := a0.fJudge) H0.2.2) ?_
  try simp only [S0, MHead.rs]
  refine yes_ret (by
      have := spec_KeysInts.len a0.fKeys
      have := (H0.1).1
      have := spec_KeysInts.len a0.fHeirs
      have := (H0.2.1).1
      have := spec_KeysInts.len a0.fJudge
      have := (H0.2.2).1
      refine lim_t ?_
      try simp (disch := omega) only [LN, wi]
      first | omega | (simp; done) | (simp; omega)) ?_
  refine bif_out (fun b : List Int => ret ((b.map iRow) : List (List L))) (fun c1 => ?_) (fun c1 => ?_)
  · refine yes_ret (by
        have := spec_KeysInts.len a0.fKeys
        have := (H0.1).1
        have := spec_KeysInts.len a0.fHeirs
        have := (H0.2.1).1
        have := spec_KeysInts.len a0.fJudge
        have := (H0.2.2).1
        refine lim_t ?_
        try simp (disch := omega) only [LN, wi]
        first | omega | (simp; done) | (simp; omega)) ?_
    all_goals first | rfl | (simp only [S0, MHead.rs]; done) | (simp only [MP]; rfl) | (simp only [S0, MHead.rs, MP]; first | done | rfl)
  · refine yes_ret (by
        have := spec_KeysInts.len a0.fKeys
        have := (H0.1).1
        have := spec_KeysInts.len a0.fHeirs
        have := (H0.2.1).1
        have := spec_KeysInts.len a0.fJudge
        have := (H0.2.2).1
        refine lim_t ?_
        try simp (disch := omega) only [LN, wi]
        first | omega | (simp; done) | (simp; omega)) ?_
    all_goals first | rfl | (simp only [S0, MHead.rs]; done) | (simp only [MP]; rfl) | (simp only [S0, MHead.rs, MP]; first | done | rfl)
theorem valid_ : Valid Try.prog Ev 209 con := VV (run := fun _ x => F x) mix tab_ok (.cons spec_KeysInts.valid_ .nil) Try.func209 (by kernel_rfl) run_eq (fun _ a _ _ hg => ⟨0, okF a hg⟩)
theorem len (a0 : MHead) : (md a0).length = 16 + a0.fKeys.fList.length + a0.fHeirs.fList.length + a0.fJudge.fList.length := by unfold md; cases a0.fFrozen <;> simp [spec_KeysInts.md] <;> omega
theorem injK {k l : MKeys} {x y : List Int} (h : spec_KeysInts.md k ++ x = spec_KeysInts.md l ++ y) : k = l ∧ x = y := by
  obtain ⟨kl, kn⟩ := k
  obtain ⟨ll, ln⟩ := l
  simp only [spec_KeysInts.md, List.cons_append, List.nil_append, List.cons.injEq] at h
  obtain ⟨h1, h2, h3⟩ := h
  obtain ⟨h4, h5⟩ := List.append_inj h3 (by omega)
  exact ⟨by rw [h1, h4], h5⟩
theorem md_form (a : MHead) : md a = a.fZone :: a.fEpoch :: a.fKind :: a.fTime :: a.fUntil :: a.fCount :: a.fRoot :: a.fPrev :: (spec_KeysInts.md a.fKeys ++ (spec_KeysInts.md a.fHeirs ++ (a.fWait :: (spec_KeysInts.md a.fJudge ++ [bif a.fFrozen then 1 else 0])))) := by
  unfold md
  cases a.fFrozen <;> simp only [cond_true, cond_false, List.append_assoc, List.cons_append, List.nil_append]
theorem inj {a b : MHead} (h : md a = md b) : a = b := by
  rw [md_form, md_form] at h
  simp only [List.cons.injEq] at h
  obtain ⟨g1, g2, g3, g4, g5, g6, g7, g8, g9⟩ := h
  obtain ⟨k1, g9⟩ := injK g9
  obtain ⟨k2, g9⟩ := injK g9
  simp only [List.cons.injEq] at g9
  obtain ⟨k3, g9⟩ := g9
  obtain ⟨k4, g9⟩ := injK g9
  have k5 : a.fFrozen = b.fFrozen := by
    simp only [List.cons.injEq, and_true] at g9
    revert g9
    cases a.fFrozen <;> cases b.fFrozen <;> simp
  cases a; cases b
  simp only [MHead.mk.injEq]
  exact ⟨g1, g2, g3, g4, g5, g6, g7, g8, k1, k2, k3, k4, k5⟩
end spec_HeadInts
/-! spec.EqualInts -/
namespace spec_EqualInts
inductive Pt where
  | p0 (a : List (List L)) (b : List (List L)) (c : Int)
def pid : Pt → Nat
  | .p0 .. => 4
def pvs : Pt → List V
  | .p0 a b c => [.sl none 3 a, .sl none 3 b, .int .i64 c]
def phs : Pt → List Root
  | .p0 a b c => []
noncomputable def step (J : Pt → Ans) : Pt → Ans
  | .p0 a b c => (bif (decide (c < (a.length : Int))) then (bif (decide ((0 : Int) ≤ c)) then (bif (decide (c < (a.length : Int))) then (bif (decide ((0 : Int) ≤ c)) then (bif (decide (c < (b.length : Int))) then (bif ((iAt a (Int.toNat c)) != (iAt b (Int.toNat c))) then ret (false : Bool) else J (.p0 a b (IntKind.i64.wrap (c + 1)))) else none) else none) else none) else none) else ret (true : Bool))
noncomputable def start (J : Pt → Ans) (x0 : List (List L)) (x1 : List (List L)) : Ans := (bif ((x0.length : Int) != (x1.length : Int)) then ret (false : Bool) else J (.p0 x0 x1 0))
def live : Nat → Live := fun i => match i with | 4 => [(0, none), (1, none), (5, none)] | _ => []
def pats : List Pat := [.rd (.sl 3), .rd (.sl 3)]
def res : RP := .one (.rd (.bool))
noncomputable abbrev E : Env := ⟨assoc Tab, conG [], 26⟩
set_option maxRecDepth 100000
theorem step_eq (I : Heads) (p : Pt) : enterC E live I (pid p) (bodyOf Try.f108) (stOf (live (pid p)) (pvs p) (phs p)) (doneK E Try.f108 res) = step (fun q => I (pid q) (pvs q) (phs q)) p := by
  cases p <;> kernel_rfl
theorem start_eq (I : Heads) (ls : List L) : runC E live I (bodyOf Try.f108) (initS pats ls) (doneK E Try.f108 res) = start (fun q => I (pid q) (pvs q) (phs q)) (ls.headD .hole).toSl ((dropT 1 ls).headD .hole).toSl := by kernel_rfl
theorem run_eq (n : Nat) (ls : List L) : runF E live Try.f108 res n (initS pats ls) = start (iter step n) (ls.headD .hole).toSl ((dropT 1 ls).headD .hole).toSl := runF_iter (id := pid) (vs := pvs) (hs := phs) (step := step) (start := fun J => start J (ls.headD .hole).toSl ((dropT 1 ls).headD .hole).toSl) step_eq (fun I => start_eq I ls) n
noncomputable def md (a0 : List Int) (a1 : List Int) : Bool := (bif ((a0.length : Int) != (a1.length : Int)) then (false : Bool) else (loopM (S := Unit) (β := Bool) (fun (i2 : Nat) (s4 : Unit) => (bif ((a0.getD i2 0) != (a1.getD i2 0)) then (.inr (false : Bool)) else (.inl ()))) (fun (s4 : Unit) => (true : Bool)) a0.length 0 ()))
def gd (a0 : List Int) (a1 : List Int) : Prop := (SmL (2 ^ 38) (fun y : Int => True) a0) ∧ (SmL (2 ^ 38) (fun y : Int => True) a1)
def acc (ls : List L) : List (List L) × List (List L) := ((ls.headD .hole).toSl, ((dropT 1 ls).headD .hole).toSl)
noncomputable def R : (List (List L) × List (List L)) → Option Bool := RR (p2 gd) (u2 md)
theorem R_eq {a0} {a1} (h : gd a0 a1) : R ((a0.map iRow), (a1.map iRow)) = some (md a0 a1) := RR_eq (a := (a0, a1)) h
noncomputable def con : Con := CN pats res acc R
theorem okF (a0 : List Int) (a1 : List Int) (hg : gd a0 a1) : ∃ n, start (iter step n) (a0.map iRow) (a1.map iRow) = ret ((md a0 a1) : Bool) := by
  unfold gd at hg
  obtain ⟨H0, H1⟩ := hg
  unfold start md
  try simp only [S0]
  refine ex_bif ret (fun _ => ⟨0, rfl⟩) (fun c1 => ?_)
  have dc1 := c1
  try simp only [DC] at dc1
  have Bh3 : a0.length ≤ maxLen := (by
      have := (H0).1
      try simp only [maxLen] at *
      omega)
  refine ex_pt (p := Pt.p0 (a0.map iRow) (a1.map iRow) 0) (by first | rfl | (simp only [S0, MP]; done) | (simp only [MP]; rfl)) ?_
  refine loopM_ok (pt := fun (i2 : Nat) (s4 : Unit) => Pt.p0 (a0.map iRow) (a1.map iRow) (i2 : Int)) (s := (() : Unit)) (out := ret) (fun _ _ => True) (fun J i2 s4 h3 hih3 => ?_) (fun s4 hih3 => ?_) trivial
  · simp only [step, S0]
    have bb_ := Bh3
    simp only [maxLen] at bb_
    have := (H0).1
    refine Rnd.yes (by apply decide_eq_true; omega) ?_
    refine Rnd.yes zle_dec ?_
    refine Rnd.yes (lt_dec h3) ?_
    refine Rnd.yes zle_dec ?_
    refine Rnd.yes (by
        have := (H1).1
        refine decide_eq_true ?_
        try simp (disch := omega) only [LN, wi]
        first | omega | (simp; done) | (simp; omega)) ?_
    refine Rnd.bif (fun _ => Rnd.inr rfl) (fun c5 => ?_)
    refine Rnd.inl trivial ?_
    rw [wrap_succ h3 Bh3]
    all_goals first | rfl | (simp only [S0, MP]; first | done | rfl)
  · simp only [step, S0]
    have := (H0).1
    refine ex_no (by apply decide_eq_false; omega) ?_
    refine ⟨0, ?_⟩
    all_goals first | rfl | (simp only [S0, MP]; first | done | rfl)
theorem valid_ : Valid Try.prog Ev 108 con := VV (run := fun n x => start (iter step n) x.1 x.2) mix tab_ok .nil Try.func108 (by kernel_rfl) run_eq (fun _ a _ _ hg => okF a.1 a.2 hg)
theorem md_eq (a0 : List Int) (a1 : List Int) : md a0 a1 = eqB a0 a1 := by
  unfold md
  refine loop_eqB (0) (fun i s h h2 => ?_) (fun s => rfl)
  simp only [bne, int_beq, bool_beq, ba_beq]
  cases eqB _ _ <;> rfl
end spec_EqualInts
/-! spec.EqualHeads -/
namespace spec_EqualHeads
noncomputable def F (x0 : RHead) (x1 : RHead) : Ans := (call (spec_HeadInts.R x0) fun v1 => (call (spec_HeadInts.R x1) fun v2 => (call (spec_EqualInts.R (v1, v2)) fun v3 => (bif v3 then ret ((x0.fFrozen == x1.fFrozen) : Bool) else ret (false : Bool)))))
def pats : List Pat := [.agg [.int .i64, .int .i64, .int .i64, .int .i64, .int .i64, .int .i64, .int .i64, .int .i64, .sl 3, .int .i64, .sl 3, .int .i64, .int .i64, .sl 3, .int .i64, .bool], .agg [.int .i64, .int .i64, .int .i64, .int .i64, .int .i64, .int .i64, .int .i64, .int .i64, .sl 3, .int .i64, .sl 3, .int .i64, .int .i64, .sl 3, .int .i64, .bool]]
def res : RP := .one (.rd (.bool))
noncomputable abbrev E : Env := ⟨assoc Tab, conG [(209, spec_HeadInts.con), (108, spec_EqualInts.con)], 17⟩
set_option maxRecDepth 100000
theorem run_eq (n : Nat) (ls : List L) : runF E (fun _ => []) Try.f197 res n (initS pats ls) = F (RHead.dec ls) (RHead.dec (dropT 16 ls)) := by kernel_rfl
noncomputable def md (a0 : MHead) (a1 : MHead) : Bool := (bif (spec_EqualInts.md (spec_HeadInts.md a0) (spec_HeadInts.md a1)) then ((a0.fFrozen == a1.fFrozen) : Bool) else (false : Bool))
def gd (a0 : MHead) (a1 : MHead) : Prop := (MHead.Sm (2 ^ 21) a0) ∧ (MHead.Sm (2 ^ 21) a1)
def acc (ls : List L) : RHead × RHead := ((RHead.dec ls), (RHead.dec (dropT 16 ls)))
noncomputable def R : (RHead × RHead) → Option Bool := RR (p2 gd) (u2 md)
theorem R_eq {a0} {a1} (h : gd a0 a1) : R ((MHead.r a0), (MHead.r a1)) = some (md a0 a1) := RR_eq (a := (a0, a1)) h
noncomputable def con : Con := CN pats res acc R
theorem okF (a0 : MHead) (a1 : MHead) (hg : gd a0 a1) : F (MHead.r a0) (MHead.r a1) = ret ((md a0 a1) : Bool) := by
  unfold gd at hg
  obtain ⟨H0, H1⟩ := hg
  unfold F md
  try simp only [S0, MHead.rs]
  refine call_to ((spec_HeadInts.md a0).map iRow) (spec_HeadInts.R_eq (a0 := a0) H0) ?_
  try simp only [S0, MHead.rs]
  refine call_to ((spec_HeadInts.md a1).map iRow) (spec_HeadInts.R_eq (a0 := a1) H1) ?_
  try simp only [S0, MHead.rs]
  refine call_to (spec_EqualInts.md (spec_HeadInts.md a0) (spec_HeadInts.md a1)) (spec_EqualInts.R_eq (a0 := (spec_HeadInts.md a0)) (a1 := (spec_HeadInts.md a1)) ⟨⟨(by
      have := spec_HeadInts.len a0
      have := (H0.1).1
      have := (H0.2.1).1
      have := (H0.2.2).1
      try simp (disch := omega) only [LN, wi]
      first | omega | (simp; done) | (simp; omega)), fun _ _ => trivial⟩, ⟨(by
      have := spec_HeadInts.len a1
      have := (H1.1).1
      have := (H1.2.1).1
      have := (H1.2.2).1
      try simp (disch := omega) only [LN, wi]
      first | omega | (simp; done) | (simp; omega)), fun _ _ => trivial⟩⟩) ?_
  refine bif_out ret (fun c1 => ?_) (fun _ => rfl)
  all_goals first | rfl | (simp only [S0, MHead.rs, MP]; first | done | rfl)
theorem valid_ : Valid Try.prog Ev 197 con := VV (run := fun _ x => F x.1 x.2) mix tab_ok (.cons spec_HeadInts.valid_ (.cons spec_EqualInts.valid_ .nil)) Try.func197 (by kernel_rfl) run_eq (fun _ a _ _ hg => ⟨0, okF a.1 a.2 hg⟩)
theorem md_eq (a0 : MHead) (a1 : MHead) : md a0 a1 = eqB a0 a1 := by
  unfold md
  simp only [spec_EqualInts.md_eq, bool_beq]
  rw [Bool.eq_iff_iff]
  constructor
  · intro h
    cases he : eqB (spec_HeadInts.md a0) (spec_HeadInts.md a1) <;> rw [he] at h
    · cases h
    · exact eqB_iff.2 (spec_HeadInts.inj (eqB_iff.1 he))
  · intro h
    rw [eqB_iff] at h
    rw [h, eqB_refl, eqB_refl]; rfl
end spec_EqualHeads
/-! spec.EqualSigned -/
namespace spec_EqualSigned
inductive Pt where
  | p0 (a : Int) (b : RSigned) (c : RSigned)
def pid : Pt → Nat
  | .p0 .. => 4
def pvs : Pt → List V
  | .p0 a b c => [.bptr 0 0, .bptr 1 0, .int .i64 a]
def phs : Pt → List Root
  | .p0 a b c => [.box [.int .i64 b.fHead.fZone, .int .i64 b.fHead.fEpoch, .int .i64 b.fHead.fKind, .int .i64 b.fHead.fTime, .int .i64 b.fHead.fUntil, .int .i64 b.fHead.fCount, .int .i64 b.fHead.fRoot, .int .i64 b.fHead.fPrev, .sl none 3 b.fHead.fKeys.fList, .int .i64 b.fHead.fKeys.fNeed, .sl none 3 b.fHead.fHeirs.fList, .int .i64 b.fHead.fHeirs.fNeed, .int .i64 b.fHead.fWait, .sl none 3 b.fHead.fJudge.fList, .int .i64 b.fHead.fJudge.fNeed, .bool b.fHead.fFrozen, .sl none 216 b.fSigs], .box [.int .i64 c.fHead.fZone, .int .i64 c.fHead.fEpoch, .int .i64 c.fHead.fKind, .int .i64 c.fHead.fTime, .int .i64 c.fHead.fUntil, .int .i64 c.fHead.fCount, .int .i64 c.fHead.fRoot, .int .i64 c.fHead.fPrev, .sl none 3 c.fHead.fKeys.fList, .int .i64 c.fHead.fKeys.fNeed, .sl none 3 c.fHead.fHeirs.fList, .int .i64 c.fHead.fHeirs.fNeed, .int .i64 c.fHead.fWait, .sl none 3 c.fHead.fJudge.fList, .int .i64 c.fHead.fJudge.fNeed, .bool c.fHead.fFrozen, .sl none 216 c.fSigs]]
noncomputable def step (J : Pt → Ans) : Pt → Ans
  | .p0 a b c => (bif (decide (a < (b.fSigs.length : Int))) then (bif (decide ((0 : Int) ≤ a)) then (bif (decide (a < (b.fSigs.length : Int))) then (bif (decide ((0 : Int) ≤ a)) then (bif (decide (a < (c.fSigs.length : Int))) then (bif (!((((MSig.at b.fSigs (Int.toNat a)).fKey : Int) == (MSig.at c.fSigs (Int.toNat a)).fKey) && ((((MSig.at b.fSigs (Int.toNat a)).fTag : Int) == (MSig.at c.fSigs (Int.toNat a)).fTag) && true))) then ret (false : Bool) else J (.p0 (IntKind.i64.wrap (a + 1)) b c)) else none) else none) else none) else none) else ret (true : Bool))
noncomputable def start (J : Pt → Ans) (x0 : RSigned) (x1 : RSigned) : Ans := (call (spec_EqualHeads.R (x0.fHead, x1.fHead)) fun v1 => (bif (!v1) then ret (false : Bool) else (bif ((x0.fSigs.length : Int) != (x1.fSigs.length : Int)) then ret (false : Bool) else J (.p0 0 x0 x1))))
def live : Nat → Live := fun i => match i with | 4 => [(2, none), (3, none), (5, none)] | _ => []
def pats : List Pat := [.agg [.int .i64, .int .i64, .int .i64, .int .i64, .int .i64, .int .i64, .int .i64, .int .i64, .sl 3, .int .i64, .sl 3, .int .i64, .int .i64, .sl 3, .int .i64, .bool, .sl 216], .agg [.int .i64, .int .i64, .int .i64, .int .i64, .int .i64, .int .i64, .int .i64, .int .i64, .sl 3, .int .i64, .sl 3, .int .i64, .int .i64, .sl 3, .int .i64, .bool, .sl 216]]
def res : RP := .one (.rd (.bool))
noncomputable abbrev E : Env := ⟨assoc Tab, conG [(197, spec_EqualHeads.con)], 39⟩
set_option maxRecDepth 100000
theorem step_eq (I : Heads) (p : Pt) : enterC E live I (pid p) (bodyOf Try.f185) (stOf (live (pid p)) (pvs p) (phs p)) (doneK E Try.f185 res) = step (fun q => I (pid q) (pvs q) (phs q)) p := by
  cases p <;> kernel_rfl
theorem start_eq (I : Heads) (ls : List L) : runC E live I (bodyOf Try.f185) (initS pats ls) (doneK E Try.f185 res) = start (fun q => I (pid q) (pvs q) (phs q)) (RSigned.dec ls) (RSigned.dec (dropT 17 ls)) := by kernel_rfl
theorem run_eq (n : Nat) (ls : List L) : runF E live Try.f185 res n (initS pats ls) = start (iter step n) (RSigned.dec ls) (RSigned.dec (dropT 17 ls)) := runF_iter (id := pid) (vs := pvs) (hs := phs) (step := step) (start := fun J => start J (RSigned.dec ls) (RSigned.dec (dropT 17 ls))) step_eq (fun I => start_eq I ls) n
noncomputable def md (a0 : MSigned) (a1 : MSigned) : Bool := (bif (!(spec_EqualHeads.md a0.fHead a1.fHead)) then (false : Bool) else (bif ((a0.fSigs.length : Int) != (a1.fSigs.length : Int)) then (false : Bool) else (loopM (S := Unit) (β := Bool) (fun (i3 : Nat) (s5 : Unit) => (bif (!((((a0.fSigs.getD i3 MSig.zero).fKey : Int) == (a1.fSigs.getD i3 MSig.zero).fKey) && ((((a0.fSigs.getD i3 MSig.zero).fTag : Int) == (a1.fSigs.getD i3 MSig.zero).fTag) && true))) then (.inr (false : Bool)) else (.inl ()))) (fun (s5 : Unit) => (true : Bool)) a0.fSigs.length 0 ())))
def gd (a0 : MSigned) (a1 : MSigned) : Prop := (MSigned.Sm (2 ^ 21) a0) ∧ (MSigned.Sm (2 ^ 21) a1)
def acc (ls : List L) : RSigned × RSigned := ((RSigned.dec ls), (RSigned.dec (dropT 17 ls)))
noncomputable def R : (RSigned × RSigned) → Option Bool := RR (p2 gd) (u2 md)
theorem R_eq {a0} {a1} (h : gd a0 a1) : R ((MSigned.r a0), (MSigned.r a1)) = some (md a0 a1) := RR_eq (a := (a0, a1)) h
noncomputable def con : Con := CN pats res acc R
theorem okF (a0 : MSigned) (a1 : MSigned) (hg : gd a0 a1) : ∃ n, start (iter step n) (MSigned.r a0) (MSigned.r a1) = ret ((md a0 a1) : Bool) := by
  unfold gd at hg
  obtain ⟨H0, H1⟩ := hg
  unfold start md
  try simp only [S0, MSig.rs, MSigned.rs]
  refine ex_call_to (spec_EqualHeads.md a0.fHead a1.fHead) (spec_EqualHeads.R_eq (a0 := a0.fHead) (a1 := a1.fHead) ⟨H0.1, H1.1⟩) ?_
  refine ex_bif ret (fun _ => ⟨0, rfl⟩) (fun c1 => ?_)
  have dc1 := c1
  try simp only [DC] at dc1
  refine ex_bif ret (fun _ => ⟨0, rfl⟩) (fun c2 => ?_)
  have dc2 := c2
  try simp only [DC] at dc2
  have Bh4 : a0.fSigs.length ≤ maxLen := (by
      have := (H0.2).1
      try simp only [maxLen] at *
      omega)
  refine ex_pt (p := Pt.p0 0 (MSigned.r a0) (MSigned.r a1)) (by first | rfl | (simp only [S0, MSig.rs, MSigned.rs, MP]; done) | (simp only [MP]; rfl)) ?_
  refine loopM_ok (pt := fun (i3 : Nat) (s5 : Unit) => Pt.p0 (i3 : Int) (MSigned.r a0) (MSigned.r a1)) (s := (() : Unit)) (out := ret) (fun _ _ => True) (fun J i3 s5 h4 hih4 => ?_) (fun s5 hih4 => ?_) trivial
  · simp only [step, S0, MSig.rs, MSigned.rs]
    have bb_ := Bh4
    simp only [maxLen] at bb_
    have := (H0.2).1
    refine Rnd.yes (by apply decide_eq_true; omega) ?_
    refine Rnd.yes zle_dec ?_
    refine Rnd.yes (lt_dec h4) ?_
    refine Rnd.yes zle_dec ?_
    refine Rnd.yes (by
        have := (H1.2).1
        refine decide_eq_true ?_
        try simp (disch := omega) only [LN, wi]
        first | omega | (simp; done) | (simp; omega)) ?_
    refine Rnd.bif (fun _ => Rnd.inr rfl) (fun c6 => ?_)
    refine Rnd.inl trivial ?_
    rw [wrap_succ h4 Bh4]
    all_goals first | rfl | (simp only [S0, MSig.rs, MSigned.rs, MP]; first | done | rfl)
  · simp only [step, S0, MSig.rs, MSigned.rs]
    have := (H0.2).1
    refine ex_no (by apply decide_eq_false; omega) ?_
    refine ⟨0, ?_⟩
    all_goals first | rfl | (simp only [S0, MSig.rs, MSigned.rs, MP]; first | done | rfl)
theorem valid_ : Valid Try.prog Ev 185 con := VV (run := fun n x => start (iter step n) x.1 x.2) mix tab_ok (.cons spec_EqualHeads.valid_ .nil) Try.func185 (by kernel_rfl) run_eq (fun _ a _ _ hg => okF a.1 a.2 hg)
theorem md_eq (a0 : MSigned) (a1 : MSigned) : md a0 a1 = eqB a0 a1 := by
  unfold md
  simp only [spec_EqualHeads.md_eq, int_beq, MSig.eqc]
  rw [loop_eqB MSig.zero (fun i s h h2 => by cases eqB (a0.fSigs.getD i MSig.zero) (a1.fSigs.getD i MSig.zero) <;> rfl) (fun s => rfl)]
  rw [Bool.eq_iff_iff]
  cases a0; cases a1
  simp [eqB_iff]
end spec_EqualSigned
/-! spec.EqualZones -/
namespace spec_EqualZones
inductive Pt where
  | p0 (a : Int) (b : RZone) (c : RZone)
def pid : Pt → Nat
  | .p0 .. => 4
def pvs : Pt → List V
  | .p0 a b c => [.bptr 0 0, .bptr 1 0, .int .i64 a]
def phs : Pt → List Root
  | .p0 a b c => [.box [.sl none 119 b.fChain, .sl none 30 b.fEntries], .box [.sl none 119 c.fChain, .sl none 30 c.fEntries]]
noncomputable def step (J : Pt → Ans) : Pt → Ans
  | .p0 a b c => (bif (decide (a < (b.fChain.length : Int))) then (bif (decide ((0 : Int) ≤ a)) then (bif (decide (a < (b.fChain.length : Int))) then (bif (decide ((0 : Int) ≤ a)) then (bif (decide (a < (c.fChain.length : Int))) then (call (spec_EqualSigned.R ((RSigned.at b.fChain (Int.toNat a)), (RSigned.at c.fChain (Int.toNat a)))) fun v1 => (bif (!v1) then ret (false : Bool) else J (.p0 (IntKind.i64.wrap (a + 1)) b c))) else none) else none) else none) else none) else ret (true : Bool))
noncomputable def start (J : Pt → Ans) (x0 : RZone) (x1 : RZone) : Ans := (bif ((x0.fChain.length : Int) != (x1.fChain.length : Int)) then ret (false : Bool) else (call (spec_SameEntries.R (x0.fEntries, x1.fEntries)) fun v1 => (bif (!v1) then ret (false : Bool) else J (.p0 0 x0 x1))))
def live : Nat → Live := fun i => match i with | 4 => [(2, none), (3, none), (5, none)] | _ => []
def pats : List Pat := [.agg [.sl 119, .sl 30], .agg [.sl 119, .sl 30]]
def res : RP := .one (.rd (.bool))
noncomputable abbrev E : Env := ⟨assoc Tab, conG [(69, spec_SameEntries.con), (185, spec_EqualSigned.con)], 40⟩
set_option maxRecDepth 100000
theorem step_eq (I : Heads) (p : Pt) : enterC E live I (pid p) (bodyOf Try.f157) (stOf (live (pid p)) (pvs p) (phs p)) (doneK E Try.f157 res) = step (fun q => I (pid q) (pvs q) (phs q)) p := by
  cases p <;> kernel_rfl
theorem start_eq (I : Heads) (ls : List L) : runC E live I (bodyOf Try.f157) (initS pats ls) (doneK E Try.f157 res) = start (fun q => I (pid q) (pvs q) (phs q)) (RZone.dec ls) (RZone.dec (dropT 2 ls)) := by kernel_rfl
theorem run_eq (n : Nat) (ls : List L) : runF E live Try.f157 res n (initS pats ls) = start (iter step n) (RZone.dec ls) (RZone.dec (dropT 2 ls)) := runF_iter (id := pid) (vs := pvs) (hs := phs) (step := step) (start := fun J => start J (RZone.dec ls) (RZone.dec (dropT 2 ls))) step_eq (fun I => start_eq I ls) n
noncomputable def md (a0 : MZone) (a1 : MZone) : Bool := (bif ((a0.fChain.length : Int) != (a1.fChain.length : Int)) then (false : Bool) else (bif (!(spec_SameEntries.md a0.fEntries a1.fEntries)) then (false : Bool) else (loopM (S := Unit) (β := Bool) (fun (i3 : Nat) (s5 : Unit) => (bif (!(spec_EqualSigned.md (a0.fChain.getD i3 MSigned.zero) (a1.fChain.getD i3 MSigned.zero))) then (.inr (false : Bool)) else (.inl ()))) (fun (s5 : Unit) => (true : Bool)) a0.fChain.length 0 ())))
def gd (a0 : MZone) (a1 : MZone) : Prop := (MZone.Sm (2 ^ 21) a0) ∧ (MZone.Sm (2 ^ 21) a1)
def acc (ls : List L) : RZone × RZone := ((RZone.dec ls), (RZone.dec (dropT 2 ls)))
noncomputable def R : (RZone × RZone) → Option Bool := RR (p2 gd) (u2 md)
theorem R_eq {a0} {a1} (h : gd a0 a1) : R ((MZone.r a0), (MZone.r a1)) = some (md a0 a1) := RR_eq (a := (a0, a1)) h
noncomputable def con : Con := CN pats res acc R
theorem okF (a0 : MZone) (a1 : MZone) (hg : gd a0 a1) : ∃ n, start (iter step n) (MZone.r a0) (MZone.r a1) = ret ((md a0 a1) : Bool) := by
  unfold gd at hg
  obtain ⟨H0, H1⟩ := hg
  unfold start md
  try simp only [S0, MSigned.rs, MZone.rs]
  refine ex_bif ret (fun _ => ⟨0, rfl⟩) (fun c1 => ?_)
  have dc1 := c1
  try simp only [DC] at dc1
  refine ex_call_to (spec_SameEntries.md a0.fEntries a1.fEntries) (spec_SameEntries.R_eq (a0 := a0.fEntries) (a1 := a1.fEntries) ⟨H0.2, H1.2⟩) ?_
  refine ex_bif ret (fun _ => ⟨0, rfl⟩) (fun c2 => ?_)
  have dc2 := c2
  try simp only [DC] at dc2
  have Bh4 : a0.fChain.length ≤ maxLen := (by
      have := (H0.1).1
      try simp only [maxLen] at *
      omega)
  refine ex_pt (p := Pt.p0 0 (MZone.r a0) (MZone.r a1)) (by first | rfl | (simp only [S0, MSigned.rs, MZone.rs, MP]; done) | (simp only [MP]; rfl)) ?_
  refine loopM_ok (pt := fun (i3 : Nat) (s5 : Unit) => Pt.p0 (i3 : Int) (MZone.r a0) (MZone.r a1)) (s := (() : Unit)) (out := ret) (fun _ _ => True) (fun J i3 s5 h4 hih4 => ?_) (fun s5 hih4 => ?_) trivial
  · simp only [step, S0, MSigned.rs, MZone.rs]
    have bb_ := Bh4
    simp only [maxLen] at bb_
    have := (H0.1).1
    refine Rnd.yes (by apply decide_eq_true; omega) ?_
    refine Rnd.yes zle_dec ?_
    refine Rnd.yes (lt_dec h4) ?_
    refine Rnd.yes zle_dec ?_
    refine Rnd.yes (by
        have := (H1.1).1
        refine decide_eq_true ?_
        try simp (disch := omega) only [LN, wi]
        first | omega | (simp; done) | (simp; omega)) ?_
    refine Rnd.call_to (spec_EqualSigned.md (a0.fChain.getD i3 MSigned.zero) (a1.fChain.getD i3 MSigned.zero)) (spec_EqualSigned.R_eq (a0 := (a0.fChain.getD i3 MSigned.zero)) (a1 := (a1.fChain.getD i3 MSigned.zero)) ⟨(SmL.getD (z := MSigned.zero) H0.1 h4), (SmL.getD (z := MSigned.zero) H1.1 (by first | assumption | omega | (simp (disch := omega) only [wi]; omega) | (simp; omega)))⟩) ?_
    refine Rnd.bif (fun _ => Rnd.inr rfl) (fun c6 => ?_)
    refine Rnd.inl trivial ?_
    rw [wrap_succ h4 Bh4]
    all_goals first | rfl | (simp only [S0, MSigned.rs, MZone.rs, MP]; first | done | rfl)
  · simp only [step, S0, MSigned.rs, MZone.rs]
    have := (H0.1).1
    refine ex_no (by apply decide_eq_false; omega) ?_
    refine ⟨0, ?_⟩
    all_goals first | rfl | (simp only [S0, MSigned.rs, MZone.rs, MP]; first | done | rfl)
theorem valid_ : Valid Try.prog Ev 157 con := VV (run := fun n x => start (iter step n) x.1 x.2) mix tab_ok (.cons spec_SameEntries.valid_ (.cons spec_EqualSigned.valid_ .nil)) Try.func157 (by kernel_rfl) run_eq (fun _ a _ _ hg => okF a.1 a.2 hg)
theorem md_eq (a0 : MZone) (a1 : MZone) : md a0 a1 = eqB a0 a1 := by
  unfold md
  simp only [spec_SameEntries.md_eq, spec_EqualSigned.md_eq]
  cases he : eqB a0.fEntries a1.fEntries
  · have h1 : eqB a0 a1 = false := eqB_false.2 fun h => eqB_false.1 he (by rw [h])
    rw [h1]
    cases ((a0.fChain.length : Int) != (a1.fChain.length : Int)) <;> rfl
  · simp only [Bool.not_true, cond_false]
    rw [loop_eqB MSigned.zero (fun i s h h2 => by cases eqB (a0.fChain.getD i MSigned.zero) (a1.fChain.getD i MSigned.zero) <;> rfl) (fun s => rfl)]
    rw [eqB_iff] at he
    rw [Bool.eq_iff_iff, eqB_iff, eqB_iff]
    cases a0; cases a1
    simp_all
end spec_EqualZones
/-! spec.EqualProofs -/
namespace spec_EqualProofs
noncomputable def F (x0 : RProof) (x1 : RProof) : Ans := (bif (x0.fAt == x1.fAt) then (call (spec_EqualInts.R (x0.fPath, x1.fPath)) fun v1 => ret (v1 : Bool)) else ret (false : Bool))
def pats : List Pat := [.agg [.int .i64, .sl 3], .agg [.int .i64, .sl 3]]
def res : RP := .one (.rd (.bool))
noncomputable abbrev E : Env := ⟨assoc Tab, conG [(108, spec_EqualInts.con)], 17⟩
set_option maxRecDepth 100000
theorem run_eq (n : Nat) (ls : List L) : runF E (fun _ => []) Try.f165 res n (initS pats ls) = F (RProof.dec ls) (RProof.dec (dropT 2 ls)) := by kernel_rfl
noncomputable def md (a0 : MProof) (a1 : MProof) : Bool := (bif (a0.fAt == a1.fAt) then ((spec_EqualInts.md a0.fPath a1.fPath) : Bool) else (false : Bool))
def gd (a0 : MProof) (a1 : MProof) : Prop := (MProof.Sm (2 ^ 21) a0) ∧ (MProof.Sm (2 ^ 21) a1)
def acc (ls : List L) : RProof × RProof := ((RProof.dec ls), (RProof.dec (dropT 2 ls)))
noncomputable def R : (RProof × RProof) → Option Bool := RR (p2 gd) (u2 md)
theorem R_eq {a0} {a1} (h : gd a0 a1) : R ((MProof.r a0), (MProof.r a1)) = some (md a0 a1) := RR_eq (a := (a0, a1)) h
noncomputable def con : Con := CN pats res acc R
theorem okF (a0 : MProof) (a1 : MProof) (hg : gd a0 a1) : F (MProof.r a0) (MProof.r a1) = ret ((md a0 a1) : Bool) := by
  unfold gd at hg
  obtain ⟨H0, H1⟩ := hg
  unfold F md
  try simp only [S0, MProof.rs]
  refine bif_out ret (fun c1 => ?_) (fun _ => rfl)
  refine call_to (spec_EqualInts.md a0.fPath a1.fPath) (spec_EqualInts.R_eq (a0 := a0.fPath) (a1 := a1.fPath) ⟨(H0.mono (by decide) (fun x hx => trivial)), (H1.mono (by decide) (fun x hx => trivial))⟩) ?_
  all_goals first | rfl | (simp only [S0, MProof.rs, MP]; first | done | rfl)
theorem valid_ : Valid Try.prog Ev 165 con := VV (run := fun _ x => F x.1 x.2) mix tab_ok (.cons spec_EqualInts.valid_ .nil) Try.func165 (by kernel_rfl) run_eq (fun _ a _ _ hg => ⟨0, okF a.1 a.2 hg⟩)
theorem md_eq (a0 : MProof) (a1 : MProof) : md a0 a1 = eqB a0 a1 := by
  unfold md
  cases a0; cases a1
  rw [Bool.eq_iff_iff]
  simp [eqB_iff, ba_beq, MProof.mk.injEq, spec_EqualInts.md_eq]
  try (constructor <;> (intro h; simp_all))
end spec_EqualProofs
/-! spec.EqualGaps -/
namespace spec_EqualGaps
noncomputable def F (x0 : RGap) (x1 : RGap) : Ans := (bif (x0.fAt == x1.fAt) then (call (spec_EqualEntries.R (x0.fBefore, x1.fBefore)) fun v1 => (bif v1 then (call (spec_EqualEntries.R (x0.fAfter, x1.fAfter)) fun v2 => (bif v2 then (call (spec_EqualProofs.R (x0.fLeft, x1.fLeft)) fun v3 => (bif v3 then (call (spec_EqualProofs.R (x0.fRight, x1.fRight)) fun v4 => ret (v4 : Bool)) else ret (false : Bool))) else ret (false : Bool))) else ret (false : Bool))) else ret (false : Bool))
def pats : List Pat := [.agg [.int .i64, .str, .int .i64, .int .i64, .sl 9, .str, .int .i64, .int .i64, .sl 9, .int .i64, .sl 3, .int .i64, .sl 3], .agg [.int .i64, .str, .int .i64, .int .i64, .sl 9, .str, .int .i64, .int .i64, .sl 9, .int .i64, .sl 3, .int .i64, .sl 3]]
def res : RP := .one (.rd (.bool))
noncomputable abbrev E : Env := ⟨assoc Tab, conG [(68, spec_EqualEntries.con), (165, spec_EqualProofs.con)], 38⟩
set_option maxRecDepth 100000
theorem run_eq (n : Nat) (ls : List L) : runF E (fun _ => []) Try.f166 res n (initS pats ls) = F (RGap.dec ls) (RGap.dec (dropT 13 ls)) := by kernel_rfl
noncomputable def md (a0 : MGap) (a1 : MGap) : Bool := (bif (a0.fAt == a1.fAt) then (bif (spec_EqualEntries.md a0.fBefore a1.fBefore) then (bif (spec_EqualEntries.md a0.fAfter a1.fAfter) then (bif (spec_EqualProofs.md a0.fLeft a1.fLeft) then ((spec_EqualProofs.md a0.fRight a1.fRight) : Bool) else (false : Bool)) else (false : Bool)) else (false : Bool)) else (false : Bool))
def gd (a0 : MGap) (a1 : MGap) : Prop := (MGap.Sm (2 ^ 21) a0) ∧ (MGap.Sm (2 ^ 21) a1)
def acc (ls : List L) : RGap × RGap := ((RGap.dec ls), (RGap.dec (dropT 13 ls)))
noncomputable def R : (RGap × RGap) → Option Bool := RR (p2 gd) (u2 md)
theorem R_eq {a0} {a1} (h : gd a0 a1) : R ((MGap.r a0), (MGap.r a1)) = some (md a0 a1) := RR_eq (a := (a0, a1)) h
noncomputable def con : Con := CN pats res acc R
theorem okF (a0 : MGap) (a1 : MGap) (hg : gd a0 a1) : F (MGap.r a0) (MGap.r a1) = ret ((md a0 a1) : Bool) := by
  unfold gd at hg
  obtain ⟨H0, H1⟩ := hg
  unfold F md
  try simp only [S0, MProof.rs, MGap.rs]
  refine bif_out ret (fun c1 => ?_) (fun _ => rfl)
  refine call_to (spec_EqualEntries.md a0.fBefore a1.fBefore) (spec_EqualEntries.R_eq (a0 := a0.fBefore) (a1 := a1.fBefore) ⟨H0.1, H1.1⟩) ?_
  refine bif_out ret (fun c2 => ?_) (fun _ => rfl)
  refine call_to (spec_EqualEntries.md a0.fAfter a1.fAfter) (spec_EqualEntries.R_eq (a0 := a0.fAfter) (a1 := a1.fAfter) ⟨H0.2.1, H1.2.1⟩) ?_
  refine bif_out ret (fun c3 => ?_) (fun _ => rfl)
  refine call_to (spec_EqualProofs.md a0.fLeft a1.fLeft) (spec_EqualProofs.R_eq (a0 := a0.fLeft) (a1 := a1.fLeft) ⟨H0.2.2.1, H1.2.2.1⟩) ?_
  refine bif_out ret (fun c4 => ?_) (fun _ => rfl)
  refine call_to (spec_EqualProofs.md a0.fRight a1.fRight) (spec_EqualProofs.R_eq (a0 := a0.fRight) (a1 := a1.fRight) ⟨H0.2.2.2, H1.2.2.2⟩) ?_
  all_goals first | rfl | (simp only [S0, MProof.rs, MGap.rs, MP]; first | done | rfl)
theorem valid_ : Valid Try.prog Ev 166 con := VV (run := fun _ x => F x.1 x.2) mix tab_ok (.cons spec_EqualEntries.valid_ (.cons spec_EqualProofs.valid_ .nil)) Try.func166 (by kernel_rfl) run_eq (fun _ a _ _ hg => ⟨0, okF a.1 a.2 hg⟩)
theorem md_eq (a0 : MGap) (a1 : MGap) : md a0 a1 = eqB a0 a1 := by
  unfold md
  cases a0; cases a1
  rw [Bool.eq_iff_iff]
  simp [eqB_iff, ba_beq, MGap.mk.injEq, spec_EqualEntries.md_eq, spec_EqualProofs.md_eq]
  try (constructor <;> (intro h; simp_all))
end spec_EqualGaps
/-! spec.EqualAnswers -/
namespace spec_EqualAnswers
noncomputable def F (x0 : RAnswer) (x1 : RAnswer) : Ans := (call (spec_EqualZones.R ((⟨x0.fChain, []⟩ : RZone), (⟨x1.fChain, []⟩ : RZone))) fun v1 => (bif v1 then (bif (x0.fFound == x1.fFound) then (call (spec_EqualEntries.R (x0.fEntry, x1.fEntry)) fun v2 => (bif v2 then (call (spec_EqualProofs.R (x0.fProof, x1.fProof)) fun v3 => (bif v3 then (call (spec_EqualGaps.R (x0.fGap, x1.fGap)) fun v4 => ret (v4 : Bool)) else ret (false : Bool))) else ret (false : Bool))) else ret (false : Bool)) else ret (false : Bool)))
def pats : List Pat := [.agg [.sl 119, .bool, .str, .int .i64, .int .i64, .sl 9, .int .i64, .sl 3, .int .i64, .str, .int .i64, .int .i64, .sl 9, .str, .int .i64, .int .i64, .sl 9, .int .i64, .sl 3, .int .i64, .sl 3], .agg [.sl 119, .bool, .str, .int .i64, .int .i64, .sl 9, .int .i64, .sl 3, .int .i64, .str, .int .i64, .int .i64, .sl 9, .str, .int .i64, .int .i64, .sl 9, .int .i64, .sl 3, .int .i64, .sl 3]]
def res : RP := .one (.rd (.bool))
noncomputable abbrev E : Env := ⟨assoc Tab, conG [(157, spec_EqualZones.con), (68, spec_EqualEntries.con), (165, spec_EqualProofs.con), (166, spec_EqualGaps.con)], 44⟩
set_option maxRecDepth 100000
theorem run_eq (n : Nat) (ls : List L) : runF E (fun _ => []) Try.f113 res n (initS pats ls) = F (RAnswer.dec ls) (RAnswer.dec (dropT 21 ls)) := by kernel_rfl
noncomputable def md (a0 : MAnswer) (a1 : MAnswer) : Bool := (bif (spec_EqualZones.md (⟨a0.fChain, []⟩ : MZone) (⟨a1.fChain, []⟩ : MZone)) then (bif (a0.fFound == a1.fFound) then (bif (spec_EqualEntries.md a0.fEntry a1.fEntry) then (bif (spec_EqualProofs.md a0.fProof a1.fProof) then ((spec_EqualGaps.md a0.fGap a1.fGap) : Bool) else (false : Bool)) else (false : Bool)) else (false : Bool)) else (false : Bool))
def gd (a0 : MAnswer) (a1 : MAnswer) : Prop := (MAnswer.Sm (2 ^ 21) a0) ∧ (MAnswer.Sm (2 ^ 21) a1)
def acc (ls : List L) : RAnswer × RAnswer := ((RAnswer.dec ls), (RAnswer.dec (dropT 21 ls)))
noncomputable def R : (RAnswer × RAnswer) → Option Bool := RR (p2 gd) (u2 md)
theorem R_eq {a0} {a1} (h : gd a0 a1) : R ((MAnswer.r a0), (MAnswer.r a1)) = some (md a0 a1) := RR_eq (a := (a0, a1)) h
noncomputable def con : Con := CN pats res acc R
theorem okF (a0 : MAnswer) (a1 : MAnswer) (hg : gd a0 a1) : F (MAnswer.r a0) (MAnswer.r a1) = ret ((md a0 a1) : Bool) := by
  unfold gd at hg
  obtain ⟨H0, H1⟩ := hg
  unfold F md
  try simp only [S0, MAnswer.rs, MZone.rs]
  refine call_to (spec_EqualZones.md (⟨a0.fChain, []⟩ : MZone) (⟨a1.fChain, []⟩ : MZone)) (spec_EqualZones.R_eq (a0 := (⟨a0.fChain, []⟩ : MZone)) (a1 := (⟨a1.fChain, []⟩ : MZone)) ⟨⟨H0.1, SmL.nil⟩, ⟨H1.1, SmL.nil⟩⟩) ?_
  refine bif_out ret (fun c1 => ?_) (fun _ => rfl)
  refine bif_out ret (fun c2 => ?_) (fun _ => rfl)
  refine call_to (spec_EqualEntries.md a0.fEntry a1.fEntry) (spec_EqualEntries.R_eq (a0 := a0.fEntry) (a1 := a1.fEntry) ⟨H0.2.1, H1.2.1⟩) ?_
  refine bif_out ret (fun c3 => ?_) (fun _ => rfl)
  refine call_to (spec_EqualProofs.md a0.fProof a1.fProof) (spec_EqualProofs.R_eq (a0 := a0.fProof) (a1 := a1.fProof) ⟨H0.2.2.1, H1.2.2.1⟩) ?_
  refine bif_out ret (fun c4 => ?_) (fun _ => rfl)
  refine call_to (spec_EqualGaps.md a0.fGap a1.fGap) (spec_EqualGaps.R_eq (a0 := a0.fGap) (a1 := a1.fGap) ⟨H0.2.2.2, H1.2.2.2⟩) ?_
  all_goals first | rfl | (simp only [S0, MAnswer.rs, MZone.rs, MP]; first | done | rfl)
theorem valid_ : Valid Try.prog Ev 113 con := VV (run := fun _ x => F x.1 x.2) mix tab_ok (.cons spec_EqualZones.valid_ (.cons spec_EqualEntries.valid_ (.cons spec_EqualProofs.valid_ (.cons spec_EqualGaps.valid_ .nil)))) Try.func113 (by kernel_rfl) run_eq (fun _ a _ _ hg => ⟨0, okF a.1 a.2 hg⟩)
theorem md_eq (a0 : MAnswer) (a1 : MAnswer) : md a0 a1 = eqB a0 a1 := by
  unfold md
  cases a0; cases a1
  rw [Bool.eq_iff_iff]
  simp [eqB_iff, ba_beq, MAnswer.mk.injEq, spec_EqualZones.md_eq, spec_EqualEntries.md_eq, spec_EqualProofs.md_eq, spec_EqualGaps.md_eq]
  try (constructor <;> (intro h; simp_all))
end spec_EqualAnswers
/-! spec.EqualCaches -/
namespace spec_EqualCaches
inductive Pt where
  | p0 (a : Int) (b : RCache) (c : RCache)
def pid : Pt → Nat
  | .p0 .. => 4
def pvs : Pt → List V
  | .p0 a b c => [.bptr 0 0, .bptr 1 0, .int .i64 a]
def phs : Pt → List Root
  | .p0 a b c => [.box [.sl none 159 b.fList], .box [.sl none 159 c.fList]]
noncomputable def step (J : Pt → Ans) : Pt → Ans
  | .p0 a b c => (bif (decide (a < (b.fList.length : Int))) then (bif (decide ((0 : Int) ≤ a)) then (bif (decide (a < (b.fList.length : Int))) then (bif (decide ((0 : Int) ≤ a)) then (bif (decide (a < (c.fList.length : Int))) then (bif ((RStored.at b.fList (Int.toNat a)).fZone != (RStored.at c.fList (Int.toNat a)).fZone) then ret (false : Bool) else (bif (decide ((0 : Int) ≤ a)) then (bif (decide (a < (b.fList.length : Int))) then (bif (decide ((0 : Int) ≤ a)) then (bif (decide (a < (c.fList.length : Int))) then (bif (!((RStored.at b.fList (Int.toNat a)).fLabel == (RStored.at c.fList (Int.toNat a)).fLabel)) then ret (false : Bool) else (bif (decide ((0 : Int) ≤ a)) then (bif (decide (a < (b.fList.length : Int))) then (bif (decide ((0 : Int) ≤ a)) then (bif (decide (a < (c.fList.length : Int))) then (call (spec_EqualAnswers.R ((RStored.at b.fList (Int.toNat a)).fAnswer, (RStored.at c.fList (Int.toNat a)).fAnswer)) fun v1 => (bif (!v1) then ret (false : Bool) else J (.p0 (IntKind.i64.wrap (a + 1)) b c))) else none) else none) else none) else none)) else none) else none) else none) else none)) else none) else none) else none) else none) else ret (true : Bool))
noncomputable def start (J : Pt → Ans) (x0 : RCache) (x1 : RCache) : Ans := (bif ((x0.fList.length : Int) != (x1.fList.length : Int)) then ret (false : Bool) else J (.p0 0 x0 x1))
def live : Nat → Live := fun i => match i with | 4 => [(2, none), (3, none), (5, none)] | _ => []
def pats : List Pat := [.agg [.sl 159], .agg [.sl 159]]
def res : RP := .one (.rd (.bool))
noncomputable abbrev E : Env := ⟨assoc Tab, conG [(113, spec_EqualAnswers.con)], 64⟩
set_option maxRecDepth 100000
theorem step_eq (I : Heads) (p : Pt) : enterC E live I (pid p) (bodyOf Try.f57) (stOf (live (pid p)) (pvs p) (phs p)) (doneK E Try.f57 res) = step (fun q => I (pid q) (pvs q) (phs q)) p := by
  cases p <;> kernel_rfl
theorem start_eq (I : Heads) (ls : List L) : runC E live I (bodyOf Try.f57) (initS pats ls) (doneK E Try.f57 res) = start (fun q => I (pid q) (pvs q) (phs q)) (RCache.dec ls) (RCache.dec (dropT 1 ls)) := by kernel_rfl
theorem run_eq (n : Nat) (ls : List L) : runF E live Try.f57 res n (initS pats ls) = start (iter step n) (RCache.dec ls) (RCache.dec (dropT 1 ls)) := runF_iter (id := pid) (vs := pvs) (hs := phs) (step := step) (start := fun J => start J (RCache.dec ls) (RCache.dec (dropT 1 ls))) step_eq (fun I => start_eq I ls) n
noncomputable def md (a0 : MCache) (a1 : MCache) : Bool := (bif ((a0.fList.length : Int) != (a1.fList.length : Int)) then (false : Bool) else (loopM (S := Unit) (β := Bool) (fun (i2 : Nat) (s4 : Unit) => (bif ((a0.fList.getD i2 MStored.zero).fZone != (a1.fList.getD i2 MStored.zero).fZone) then (.inr (false : Bool)) else (bif (!((a0.fList.getD i2 MStored.zero).fLabel == (a1.fList.getD i2 MStored.zero).fLabel)) then (.inr (false : Bool)) else (bif (!(spec_EqualAnswers.md ((a0.fList.getD i2 MStored.zero).fAnswer) ((a1.fList.getD i2 MStored.zero).fAnswer))) then (.inr (false : Bool)) else (.inl ()))))) (fun (s4 : Unit) => (true : Bool)) a0.fList.length 0 ()))
def gd (a0 : MCache) (a1 : MCache) : Prop := (MCache.Sm (2 ^ 21) a0) ∧ (MCache.Sm (2 ^ 21) a1)
def acc (ls : List L) : RCache × RCache := ((RCache.dec ls), (RCache.dec (dropT 1 ls)))
noncomputable def R : (RCache × RCache) → Option Bool := RR (p2 gd) (u2 md)
theorem R_eq {a0} {a1} (h : gd a0 a1) : R ((MCache.r a0), (MCache.r a1)) = some (md a0 a1) := RR_eq (a := (a0, a1)) h
noncomputable def con : Con := CN pats res acc R
theorem okF (a0 : MCache) (a1 : MCache) (hg : gd a0 a1) : ∃ n, start (iter step n) (MCache.r a0) (MCache.r a1) = ret ((md a0 a1) : Bool) := by
  unfold gd at hg
  obtain ⟨H0, H1⟩ := hg
  unfold start md
  try simp only [S0, MKeys.rs, MHead.rs, MEntry.rs, MStored.rs, MCache.rs]
  refine ex_bif ret (fun _ => ⟨0, rfl⟩) (fun c1 => ?_)
  have dc1 := c1
  try simp only [DC] at dc1
  have Bh3 : a0.fList.length ≤ maxLen := (by
      have := (H0).1
      try simp only [maxLen] at *
      omega)
  refine ex_pt (p := Pt.p0 0 (MCache.r a0) (MCache.r a1)) (by first | rfl | (simp only [S0, MKeys.rs, MHead.rs, MEntry.rs, MStored.rs, MCache.rs, MP]; done) | (simp only [MP]; rfl)) ?_
  refine loopM_ok (pt := fun (i2 : Nat) (s4 : Unit) => Pt.p0 (i2 : Int) (MCache.r a0) (MCache.r a1)) (s := (() : Unit)) (out := ret) (fun _ _ => True) (fun J i2 s4 h3 hih3 => ?_) (fun s4 hih3 => ?_) trivial
  · simp only [step, S0, MKeys.rs, MHead.rs, MEntry.rs, MStored.rs, MCache.rs]
    have bb_ := Bh3
    simp only [maxLen] at bb_
    have := (H0).1
    refine Rnd.yes (by apply decide_eq_true; omega) ?_
    refine Rnd.yes zle_dec ?_
    refine Rnd.yes (lt_dec h3) ?_
    refine Rnd.yes zle_dec ?_
    refine Rnd.yes (by
        have := (H1).1
        refine decide_eq_true ?_
        try simp (disch := omega) only [LN, wi]
        first | omega | (simp; done) | (simp; omega)) ?_
    refine Rnd.bif (fun _ => Rnd.inr rfl) (fun c5 => ?_)
    have dc5 := c5
    try simp only [DC] at dc5
    refine Rnd.yes zle_dec ?_
    refine Rnd.yes (lt_dec h3) ?_
    refine Rnd.yes zle_dec ?_
    refine Rnd.yes (by
        have := (H1).1
        refine decide_eq_true ?_
        try simp (disch := omega) only [LN, wi]
        first | omega | (simp; done) | (simp; omega)) ?_
    refine Rnd.bif (fun _ => Rnd.inr rfl) (fun c6 => ?_)
    have dc6 := c6
    try simp only [DC] at dc6
    refine Rnd.yes zle_dec ?_
    refine Rnd.yes (lt_dec h3) ?_
    refine Rnd.yes zle_dec ?_
    refine Rnd.yes (by
        have := (H1).1
        refine decide_eq_true ?_
        try simp (disch := omega) only [LN, wi]
        first | omega | (simp; done) | (simp; omega)) ?_
    refine Rnd.call_to (spec_EqualAnswers.md ((a0.fList.getD i2 MStored.zero).fAnswer) ((a1.fList.getD i2 MStored.zero).fAnswer)) (spec_EqualAnswers.R_eq (a0 := (a0.fList.getD i2 MStored.zero).fAnswer) (a1 := (a1.fList.getD i2 MStored.zero).fAnswer) ⟨(SmL.getD (z := MStored.zero) H0 h3).2, (SmL.getD (z := MStored.zero) H1 (by first | assumption | omega | (simp (disch := omega) only [wi]; omega) | (simp; omega))).2⟩) ?_
    refine Rnd.bif (fun _ => Rnd.inr rfl) (fun c7 => ?_)
    refine Rnd.inl trivial ?_
    rw [wrap_succ h3 Bh3]
    all_goals first | rfl | (simp only [S0, MKeys.rs, MHead.rs, MEntry.rs, MStored.rs, MCache.rs, MP]; first | done | rfl)
  · simp only [step, S0, MKeys.rs, MHead.rs, MEntry.rs, MStored.rs, MCache.rs]
    have := (H0).1
    refine ex_no (by apply decide_eq_false; omega) ?_
    refine ⟨0, ?_⟩
    all_goals first | rfl | (simp only [S0, MKeys.rs, MHead.rs, MEntry.rs, MStored.rs, MCache.rs, MP]; first | done | rfl)
theorem valid_ : Valid Try.prog Ev 57 con := VV (run := fun n x => start (iter step n) x.1 x.2) mix tab_ok (.cons spec_EqualAnswers.valid_ .nil) Try.func57 (by kernel_rfl) run_eq (fun _ a _ _ hg => okF a.1 a.2 hg)
theorem md_eq (a0 : MCache) (a1 : MCache) : md a0 a1 = eqB a0 a1 := by
  unfold md
  simp only [spec_EqualAnswers.md_eq, int_beq, ba_beq, bne]
  have e : ∀ x y : MStored, eqB x y = (eqB x.fZone y.fZone && (eqB x.fLabel y.fLabel && eqB x.fAnswer y.fAnswer)) := by
    intro x y
    cases x; cases y
    rw [Bool.eq_iff_iff]
    simp [eqB_iff]
  have h := loop_eqB (xs := a0.fList) (ys := a1.fList) MStored.zero (f := fun i s => bif eqB (a0.fList.getD i MStored.zero) (a1.fList.getD i MStored.zero) then .inl s else .inr false) (tail := fun _ => true) (fun i s h h2 => rfl) (fun s => rfl)
  refine Eq.trans ?_ (h.trans ?_)
  · simp only [bne, int_beq]
    congr 1
    refine loopM_congr (fun _ _ => True) (fun i s hi _ => ⟨?_, fun _ _ => trivial⟩) (fun _ _ => rfl) trivial
    rw [e]
    cases eqB (a0.fList.getD i MStored.zero).fZone (a1.fList.getD i MStored.zero).fZone <;> cases eqB (a0.fList.getD i MStored.zero).fLabel (a1.fList.getD i MStored.zero).fLabel <;> cases eqB (a0.fList.getD i MStored.zero).fAnswer (a1.fList.getD i MStored.zero).fAnswer <;> rfl
  · rw [Bool.eq_iff_iff]
    cases a0; cases a1
    simp [eqB_iff]
end spec_EqualCaches
/-! spec.EqualBundles -/
namespace spec_EqualBundles
noncomputable def F (x0 : RBundle) (x1 : RBundle) : Ans := (bif (x0.fRoot == x1.fRoot) then (call (spec_SamePath.R (x0.fPath, x1.fPath)) fun v1 => (bif v1 then (call (spec_EqualCaches.R ((⟨x0.fSteps⟩ : RCache), (⟨x1.fSteps⟩ : RCache))) fun v2 => ret (v2 : Bool)) else ret (false : Bool))) else ret (false : Bool))
def pats : List Pat := [.agg [.int .i64, .sl 9, .sl 159], .agg [.int .i64, .sl 9, .sl 159]]
def res : RP := .one (.rd (.bool))
noncomputable abbrev E : Env := ⟨assoc Tab, conG [(120, spec_SamePath.con), (57, spec_EqualCaches.con)], 26⟩
set_option maxRecDepth 100000
theorem run_eq (n : Nat) (ls : List L) : runF E (fun _ => []) Try.f62 res n (initS pats ls) = F (RBundle.dec ls) (RBundle.dec (dropT 3 ls)) := by kernel_rfl
noncomputable def md (a0 : MBundle) (a1 : MBundle) : Bool := (bif (a0.fRoot == a1.fRoot) then (bif (spec_SamePath.md a0.fPath a1.fPath) then ((spec_EqualCaches.md (⟨a0.fSteps⟩ : MCache) (⟨a1.fSteps⟩ : MCache)) : Bool) else (false : Bool)) else (false : Bool))
def gd (a0 : MBundle) (a1 : MBundle) : Prop := (MBundle.Sm (2 ^ 21) a0) ∧ (MBundle.Sm (2 ^ 21) a1)
def acc (ls : List L) : RBundle × RBundle := ((RBundle.dec ls), (RBundle.dec (dropT 3 ls)))
noncomputable def R : (RBundle × RBundle) → Option Bool := RR (p2 gd) (u2 md)
theorem R_eq {a0} {a1} (h : gd a0 a1) : R ((MBundle.r a0), (MBundle.r a1)) = some (md a0 a1) := RR_eq (a := (a0, a1)) h
noncomputable def con : Con := CN pats res acc R
theorem okF (a0 : MBundle) (a1 : MBundle) (hg : gd a0 a1) : F (MBundle.r a0) (MBundle.r a1) = ret ((md a0 a1) : Bool) := by
  unfold gd at hg
  obtain ⟨H0, H1⟩ := hg
  unfold F md
  try simp only [S0, MHead.rs, MEntry.rs, MProof.rs, MBundle.rs]
  refine bif_out ret (fun c1 => ?_) (fun _ => rfl)
  refine call_to (spec_SamePath.md a0.fPath a1.fPath) (spec_SamePath.R_eq (a0 := a0.fPath) (a1 := a1.fPath) ⟨H0.1, H1.1⟩) ?_
  refine bif_out ret (fun c2 => ?_) (fun _ => rfl)
  refine call_to (spec_EqualCaches.md (⟨a0.fSteps⟩ : MCache) (⟨a1.fSteps⟩ : MCache)) (spec_EqualCaches.R_eq (a0 := (⟨a0.fSteps⟩ : MCache)) (a1 := (⟨a1.fSteps⟩ : MCache)) ⟨H0.2, H1.2⟩) ?_
  all_goals first | rfl | (simp only [S0, MHead.rs, MEntry.rs, MProof.rs, MBundle.rs, MP]; first | done | rfl)
theorem valid_ : Valid Try.prog Ev 62 con := VV (run := fun _ x => F x.1 x.2) mix tab_ok (.cons spec_SamePath.valid_ (.cons spec_EqualCaches.valid_ .nil)) Try.func62 (by kernel_rfl) run_eq (fun _ a _ _ hg => ⟨0, okF a.1 a.2 hg⟩)
theorem md_eq (a0 : MBundle) (a1 : MBundle) : md a0 a1 = eqB a0 a1 := by
  unfold md
  cases a0; cases a1
  rw [Bool.eq_iff_iff]
  simp [eqB_iff, ba_beq, MBundle.mk.injEq, spec_SamePath.md_eq, spec_EqualCaches.md_eq]
  try (constructor <;> (intro h; simp_all))
end spec_EqualBundles
/-! slices.Equal[[]string,string] -/
namespace slices_Equal_Sstring_string
inductive Pt where
  | p0 (a : List (List L)) (b : List (List L)) (c : Int) (d : Int)
def pid : Pt → Nat
  | .p0 .. => 4
def pvs : Pt → List V
  | .p0 a b c d => [.sl none 9 a, .sl none 9 b, .int .i64 c, .int .i64 d]
def phs : Pt → List Root
  | .p0 a b c d => []
noncomputable def step (J : Pt → Ans) : Pt → Ans
  | .p0 a b c d => (bif (decide (d < c)) then (bif (decide ((0 : Int) ≤ d)) then (bif (decide (d < (a.length : Int))) then (bif (decide ((0 : Int) ≤ d)) then (bif (decide (d < (b.length : Int))) then (bif (!((sAt a (Int.toNat d)) == (sAt b (Int.toNat d)))) then ret (false : Bool) else J (.p0 a b c (IntKind.i64.wrap (d + 1)))) else none) else none) else none) else none) else ret (true : Bool))
noncomputable def start (J : Pt → Ans) (x0 : List (List L)) (x1 : List (List L)) : Ans := (bif ((x0.length : Int) != (x1.length : Int)) then ret (false : Bool) else J (.p0 x0 x1 (x0.length : Int) 0))
def live : Nat → Live := fun i => match i with | 4 => [(0, none), (1, none), (12, none), (13, none)] | _ => []
def pats : List Pat := [.rd (.sl 9), .rd (.sl 9)]
def res : RP := .one (.rd (.bool))
noncomputable abbrev E : Env := ⟨assoc Tab, conG [], 26⟩
set_option maxRecDepth 100000
theorem step_eq (I : Heads) (p : Pt) : enterC E live I (pid p) (bodyOf Try.f124) (stOf (live (pid p)) (pvs p) (phs p)) (doneK E Try.f124 res) = step (fun q => I (pid q) (pvs q) (phs q)) p := by
  cases p <;> kernel_rfl
theorem start_eq (I : Heads) (ls : List L) : runC E live I (bodyOf Try.f124) (initS pats ls) (doneK E Try.f124 res) = start (fun q => I (pid q) (pvs q) (phs q)) (ls.headD .hole).toSl ((dropT 1 ls).headD .hole).toSl := by kernel_rfl
theorem run_eq (n : Nat) (ls : List L) : runF E live Try.f124 res n (initS pats ls) = start (iter step n) (ls.headD .hole).toSl ((dropT 1 ls).headD .hole).toSl := runF_iter (id := pid) (vs := pvs) (hs := phs) (step := step) (start := fun J => start J (ls.headD .hole).toSl ((dropT 1 ls).headD .hole).toSl) step_eq (fun I => start_eq I ls) n
noncomputable def md (a0 : List ByteArray) (a1 : List ByteArray) : Bool := (bif ((a0.length : Int) != (a1.length : Int)) then (false : Bool) else (loopM (S := Unit) (β := Bool) (fun (i2 : Nat) (s4 : Unit) => (bif (!((a0.getD i2 ⟨#[]⟩) == (a1.getD i2 ⟨#[]⟩))) then (.inr (false : Bool)) else (.inl ()))) (fun (s4 : Unit) => (true : Bool)) a0.length 0 ()))
def gd (a0 : List ByteArray) (a1 : List ByteArray) : Prop := (SmL (2 ^ 21) (fun y : ByteArray => y.size ≤ (2 ^ 21)) a0) ∧ (SmL (2 ^ 21) (fun y : ByteArray => y.size ≤ (2 ^ 21)) a1)
def acc (ls : List L) : List (List L) × List (List L) := ((ls.headD .hole).toSl, ((dropT 1 ls).headD .hole).toSl)
noncomputable def R : (List (List L) × List (List L)) → Option Bool := RR (p2 gd) (u2 md)
theorem R_eq {a0} {a1} (h : gd a0 a1) : R ((a0.map sRow), (a1.map sRow)) = some (md a0 a1) := RR_eq (a := (a0, a1)) h
noncomputable def con : Con := CN pats res acc R
theorem okF (a0 : List ByteArray) (a1 : List ByteArray) (hg : gd a0 a1) : ∃ n, start (iter step n) (a0.map sRow) (a1.map sRow) = ret ((md a0 a1) : Bool) := by
  unfold gd at hg
  obtain ⟨H0, H1⟩ := hg
  unfold start md
  try simp only [S0]
  refine ex_bif ret (fun _ => ⟨0, rfl⟩) (fun c1 => ?_)
  have dc1 := c1
  try simp only [DC] at dc1
  have Bh3 : a0.length ≤ maxLen := (by
      have := (H0).1
      try simp only [maxLen] at *
      omega)
  refine ex_pt (p := Pt.p0 (a0.map sRow) (a1.map sRow) (a0.length : Int) 0) (by first | rfl | (simp only [S0, MP]; done) | (simp only [MP]; rfl)) ?_
  refine loopM_ok (pt := fun (i2 : Nat) (s4 : Unit) => Pt.p0 (a0.map sRow) (a1.map sRow) (a0.length : Int) (i2 : Int)) (s := (() : Unit)) (out := ret) (fun _ _ => True) (fun J i2 s4 h3 hih3 => ?_) (fun s4 hih3 => ?_) trivial
  · simp only [step, S0]
    have bb_ := Bh3
    simp only [maxLen] at bb_
    have := (H0).1
    refine Rnd.yes (by apply decide_eq_true; omega) ?_
    refine Rnd.yes zle_dec ?_
    refine Rnd.yes (lt_dec h3) ?_
    refine Rnd.yes zle_dec ?_
    refine Rnd.yes (by
        have := (H1).1
        refine decide_eq_true ?_
        try simp (disch := omega) only [LN, wi]
        first | omega | (simp; done) | (simp; omega)) ?_
    refine Rnd.bif (fun _ => Rnd.inr rfl) (fun c5 => ?_)
    refine Rnd.inl trivial ?_
    rw [wrap_succ h3 Bh3]
    all_goals first | rfl | (simp only [S0, MP]; first | done | rfl)
  · simp only [step, S0]
    have := (H0).1
    refine ex_no (by apply decide_eq_false; omega) ?_
    refine ⟨0, ?_⟩
    all_goals first | rfl | (simp only [S0, MP]; first | done | rfl)
theorem valid_ : Valid Try.prog Ev 124 con := VV (run := fun n x => start (iter step n) x.1 x.2) mix tab_ok .nil Try.func124 (by kernel_rfl) run_eq (fun _ a _ _ hg => okF a.1 a.2 hg)
theorem md_eq (a0 : List ByteArray) (a1 : List ByteArray) : md a0 a1 = eqB a0 a1 := by
  unfold md
  refine loop_eqB (⟨#[]⟩) (fun i s h h2 => ?_) (fun s => rfl)
  simp only [bne, int_beq, bool_beq, ba_beq]
  cases eqB _ _ <;> rfl
end slices_Equal_Sstring_string
/-! impl.SamePath -/
namespace impl_SamePath
noncomputable def F (x0 : List (List L)) (x1 : List (List L)) : Ans := (call (slices_Equal_Sstring_string.R (x0, x1)) fun v1 => ret (v1 : Bool))
def pats : List Pat := [.rd (.sl 9), .rd (.sl 9)]
def res : RP := .one (.rd (.bool))
noncomputable abbrev E : Env := ⟨assoc Tab, conG [(124, slices_Equal_Sstring_string.con)], 8⟩
set_option maxRecDepth 100000
theorem run_eq (n : Nat) (ls : List L) : runF E (fun _ => []) Try.f122 res n (initS pats ls) = F (ls.headD .hole).toSl ((dropT 1 ls).headD .hole).toSl := by kernel_rfl
noncomputable def md (a0 : List ByteArray) (a1 : List ByteArray) : Bool := ((slices_Equal_Sstring_string.md a0 a1) : Bool)
def gd (a0 : List ByteArray) (a1 : List ByteArray) : Prop := (SmL (2 ^ 21) (fun y : ByteArray => y.size ≤ (2 ^ 21)) a0) ∧ (SmL (2 ^ 21) (fun y : ByteArray => y.size ≤ (2 ^ 21)) a1)
def acc (ls : List L) : List (List L) × List (List L) := ((ls.headD .hole).toSl, ((dropT 1 ls).headD .hole).toSl)
noncomputable def R : (List (List L) × List (List L)) → Option Bool := RR (p2 gd) (u2 md)
theorem R_eq {a0} {a1} (h : gd a0 a1) : R ((a0.map sRow), (a1.map sRow)) = some (md a0 a1) := RR_eq (a := (a0, a1)) h
noncomputable def con : Con := CN pats res acc R
theorem okF (a0 : List ByteArray) (a1 : List ByteArray) (hg : gd a0 a1) : F (a0.map sRow) (a1.map sRow) = ret ((md a0 a1) : Bool) := by
  unfold gd at hg
  obtain ⟨H0, H1⟩ := hg
  unfold F md
  try simp only [S0]
  refine call_to (slices_Equal_Sstring_string.md a0 a1) (slices_Equal_Sstring_string.R_eq (a0 := a0) (a1 := a1) ⟨H0, H1⟩) ?_
  all_goals first | rfl | (simp only [S0, MP]; first | done | rfl)
theorem valid_ : Valid Try.prog Ev 122 con := VV (run := fun _ x => F x.1 x.2) mix tab_ok (.cons slices_Equal_Sstring_string.valid_ .nil) Try.func122 (by kernel_rfl) run_eq (fun _ a _ _ hg => ⟨0, okF a.1 a.2 hg⟩)
theorem md_eq (a0 : List ByteArray) (a1 : List ByteArray) : md a0 a1 = eqB a0 a1 := by
  unfold md
  rw [slices_Equal_Sstring_string.md_eq]
end impl_SamePath
/-! slices.Equal[[]int,int] -/
namespace slices_Equal_Sint_int
inductive Pt where
  | p0 (a : List (List L)) (b : List (List L)) (c : Int) (d : Int)
def pid : Pt → Nat
  | .p0 .. => 4
def pvs : Pt → List V
  | .p0 a b c d => [.sl none 3 a, .sl none 3 b, .int .i64 c, .int .i64 d]
def phs : Pt → List Root
  | .p0 a b c d => []
noncomputable def step (J : Pt → Ans) : Pt → Ans
  | .p0 a b c d => (bif (decide (d < c)) then (bif (decide ((0 : Int) ≤ d)) then (bif (decide (d < (a.length : Int))) then (bif (decide ((0 : Int) ≤ d)) then (bif (decide (d < (b.length : Int))) then (bif ((iAt a (Int.toNat d)) != (iAt b (Int.toNat d))) then ret (false : Bool) else J (.p0 a b c (IntKind.i64.wrap (d + 1)))) else none) else none) else none) else none) else ret (true : Bool))
noncomputable def start (J : Pt → Ans) (x0 : List (List L)) (x1 : List (List L)) : Ans := (bif ((x0.length : Int) != (x1.length : Int)) then ret (false : Bool) else J (.p0 x0 x1 (x0.length : Int) 0))
def live : Nat → Live := fun i => match i with | 4 => [(0, none), (1, none), (12, none), (13, none)] | _ => []
def pats : List Pat := [.rd (.sl 3), .rd (.sl 3)]
def res : RP := .one (.rd (.bool))
noncomputable abbrev E : Env := ⟨assoc Tab, conG [], 26⟩
set_option maxRecDepth 100000
theorem step_eq (I : Heads) (p : Pt) : enterC E live I (pid p) (bodyOf Try.f110) (stOf (live (pid p)) (pvs p) (phs p)) (doneK E Try.f110 res) = step (fun q => I (pid q) (pvs q) (phs q)) p := by
  cases p <;> kernel_rfl
theorem start_eq (I : Heads) (ls : List L) : runC E live I (bodyOf Try.f110) (initS pats ls) (doneK E Try.f110 res) = start (fun q => I (pid q) (pvs q) (phs q)) (ls.headD .hole).toSl ((dropT 1 ls).headD .hole).toSl := by kernel_rfl
theorem run_eq (n : Nat) (ls : List L) : runF E live Try.f110 res n (initS pats ls) = start (iter step n) (ls.headD .hole).toSl ((dropT 1 ls).headD .hole).toSl := runF_iter (id := pid) (vs := pvs) (hs := phs) (step := step) (start := fun J => start J (ls.headD .hole).toSl ((dropT 1 ls).headD .hole).toSl) step_eq (fun I => start_eq I ls) n
noncomputable def md (a0 : List Int) (a1 : List Int) : Bool := (bif ((a0.length : Int) != (a1.length : Int)) then (false : Bool) else (loopM (S := Unit) (β := Bool) (fun (i2 : Nat) (s4 : Unit) => (bif ((a0.getD i2 0) != (a1.getD i2 0)) then (.inr (false : Bool)) else (.inl ()))) (fun (s4 : Unit) => (true : Bool)) a0.length 0 ()))
def gd (a0 : List Int) (a1 : List Int) : Prop := (SmL (2 ^ 38) (fun y : Int => True) a0) ∧ (SmL (2 ^ 38) (fun y : Int => True) a1)
def acc (ls : List L) : List (List L) × List (List L) := ((ls.headD .hole).toSl, ((dropT 1 ls).headD .hole).toSl)
noncomputable def R : (List (List L) × List (List L)) → Option Bool := RR (p2 gd) (u2 md)
theorem R_eq {a0} {a1} (h : gd a0 a1) : R ((a0.map iRow), (a1.map iRow)) = some (md a0 a1) := RR_eq (a := (a0, a1)) h
noncomputable def con : Con := CN pats res acc R
theorem okF (a0 : List Int) (a1 : List Int) (hg : gd a0 a1) : ∃ n, start (iter step n) (a0.map iRow) (a1.map iRow) = ret ((md a0 a1) : Bool) := by
  unfold gd at hg
  obtain ⟨H0, H1⟩ := hg
  unfold start md
  try simp only [S0]
  refine ex_bif ret (fun _ => ⟨0, rfl⟩) (fun c1 => ?_)
  have dc1 := c1
  try simp only [DC] at dc1
  have Bh3 : a0.length ≤ maxLen := (by
      have := (H0).1
      try simp only [maxLen] at *
      omega)
  refine ex_pt (p := Pt.p0 (a0.map iRow) (a1.map iRow) (a0.length : Int) 0) (by first | rfl | (simp only [S0, MP]; done) | (simp only [MP]; rfl)) ?_
  refine loopM_ok (pt := fun (i2 : Nat) (s4 : Unit) => Pt.p0 (a0.map iRow) (a1.map iRow) (a0.length : Int) (i2 : Int)) (s := (() : Unit)) (out := ret) (fun _ _ => True) (fun J i2 s4 h3 hih3 => ?_) (fun s4 hih3 => ?_) trivial
  · simp only [step, S0]
    have bb_ := Bh3
    simp only [maxLen] at bb_
    have := (H0).1
    refine Rnd.yes (by apply decide_eq_true; omega) ?_
    refine Rnd.yes zle_dec ?_
    refine Rnd.yes (lt_dec h3) ?_
    refine Rnd.yes zle_dec ?_
    refine Rnd.yes (by
        have := (H1).1
        refine decide_eq_true ?_
        try simp (disch := omega) only [LN, wi]
        first | omega | (simp; done) | (simp; omega)) ?_
    refine Rnd.bif (fun _ => Rnd.inr rfl) (fun c5 => ?_)
    refine Rnd.inl trivial ?_
    rw [wrap_succ h3 Bh3]
    all_goals first | rfl | (simp only [S0, MP]; first | done | rfl)
  · simp only [step, S0]
    have := (H0).1
    refine ex_no (by apply decide_eq_false; omega) ?_
    refine ⟨0, ?_⟩
    all_goals first | rfl | (simp only [S0, MP]; first | done | rfl)
theorem valid_ : Valid Try.prog Ev 110 con := VV (run := fun n x => start (iter step n) x.1 x.2) mix tab_ok .nil Try.func110 (by kernel_rfl) run_eq (fun _ a _ _ hg => okF a.1 a.2 hg)
theorem md_eq (a0 : List Int) (a1 : List Int) : md a0 a1 = eqB a0 a1 := by
  unfold md
  refine loop_eqB (0) (fun i s h h2 => ?_) (fun s => rfl)
  simp only [bne, int_beq, bool_beq, ba_beq]
  cases eqB _ _ <;> rfl
end slices_Equal_Sint_int
/-! impl.EqualKeys -/
namespace impl_EqualKeys
noncomputable def F (x0 : RKeys) (x1 : RKeys) : Ans := (call (slices_Equal_Sint_int.R (x0.fList, x1.fList)) fun v1 => (bif v1 then ret ((x0.fNeed == x1.fNeed) : Bool) else ret (false : Bool)))
def pats : List Pat := [.agg [.sl 3, .int .i64], .agg [.sl 3, .int .i64]]
def res : RP := .one (.rd (.bool))
noncomputable abbrev E : Env := ⟨assoc Tab, conG [(110, slices_Equal_Sint_int.con)], 17⟩
set_option maxRecDepth 100000
theorem run_eq (n : Nat) (ls : List L) : runF E (fun _ => []) Try.f150 res n (initS pats ls) = F (RKeys.dec ls) (RKeys.dec (dropT 2 ls)) := by kernel_rfl
noncomputable def md (a0 : MKeys) (a1 : MKeys) : Bool := (bif (slices_Equal_Sint_int.md a0.fList a1.fList) then ((a0.fNeed == a1.fNeed) : Bool) else (false : Bool))
def gd (a0 : MKeys) (a1 : MKeys) : Prop := (MKeys.Sm (2 ^ 21) a0) ∧ (MKeys.Sm (2 ^ 21) a1)
def acc (ls : List L) : RKeys × RKeys := ((RKeys.dec ls), (RKeys.dec (dropT 2 ls)))
noncomputable def R : (RKeys × RKeys) → Option Bool := RR (p2 gd) (u2 md)
theorem R_eq {a0} {a1} (h : gd a0 a1) : R ((MKeys.r a0), (MKeys.r a1)) = some (md a0 a1) := RR_eq (a := (a0, a1)) h
noncomputable def con : Con := CN pats res acc R
theorem okF (a0 : MKeys) (a1 : MKeys) (hg : gd a0 a1) : F (MKeys.r a0) (MKeys.r a1) = ret ((md a0 a1) : Bool) := by
  unfold gd at hg
  obtain ⟨H0, H1⟩ := hg
  unfold F md
  try simp only [S0, MKeys.rs]
  refine call_to (slices_Equal_Sint_int.md a0.fList a1.fList) (slices_Equal_Sint_int.R_eq (a0 := a0.fList) (a1 := a1.fList) ⟨(H0.mono (by decide) (fun x hx => trivial)), (H1.mono (by decide) (fun x hx => trivial))⟩) ?_
  refine bif_out ret (fun c1 => ?_) (fun _ => rfl)
  all_goals first | rfl | (simp only [S0, MKeys.rs, MP]; first | done | rfl)
theorem valid_ : Valid Try.prog Ev 150 con := VV (run := fun _ x => F x.1 x.2) mix tab_ok (.cons slices_Equal_Sint_int.valid_ .nil) Try.func150 (by kernel_rfl) run_eq (fun _ a _ _ hg => ⟨0, okF a.1 a.2 hg⟩)
theorem md_eq (a0 : MKeys) (a1 : MKeys) : md a0 a1 = eqB a0 a1 := by
  unfold md
  cases a0; cases a1
  rw [Bool.eq_iff_iff]
  simp [eqB_iff, ba_beq, MKeys.mk.injEq, slices_Equal_Sint_int.md_eq]
  try (constructor <;> (intro h; simp_all))
end impl_EqualKeys
/-! impl.KeysInts -/
namespace impl_KeysInts
noncomputable def F (x0 : RKeys) : Ans := (bif (lim (((2 : Int) + (x0.fList.length : Int)) * 8)) then ret (([[L.int x0.fNeed], [L.int (x0.fList.length : Int)]] ++ x0.fList) : List (List L)) else none)
def pats : List Pat := [.agg [.sl 3, .int .i64]]
def res : RP := .one (.fr 3)
noncomputable abbrev E : Env := ⟨assoc Tab, conG [], 12⟩
set_option maxRecDepth 100000
theorem run_eq (n : Nat) (ls : List L) : runF E (fun _ => []) Try.f217 res n (initS pats ls) = F (RKeys.dec ls) := by kernel_rfl
noncomputable def md (a0 : MKeys) : List Int := ([a0.fNeed, (a0.fList.length : Int)] ++ a0.fList)
def gd (a0 : MKeys) : Prop := (MKeys.Sm (2 ^ 21) a0)
def acc (ls : List L) : RKeys := (RKeys.dec ls)
noncomputable def R : RKeys → Option (List (List L)) := RR gd md
theorem R_eq {a0} (h : gd a0) : R (MKeys.r a0) = some ((md a0).map iRow) := RR_eq (a := a0) h
noncomputable def con : Con := CN pats res acc R
theorem okF (a0 : MKeys) (hg : gd a0) : F (MKeys.r a0) = ret (((md a0).map iRow) : List (List L)) := by
  unfold gd at hg
  have H0 := hg
  unfold F md
  try simp only [S0, MKeys.rs]
  refine yes_ret (by
      have := (H0).1
      refine lim_t ?_
      try simp (disch := omega) only [LN, wi]
      first | omega | (simp; done) | (simp; omega)) ?_
  all_goals first | rfl | (simp only [S0, MKeys.rs]; done) | (simp only [MP]; rfl) | (simp only [S0, MKeys.rs, MP]; first | done | rfl)
theorem valid_ : Valid Try.prog Ev 217 con := VV (run := fun _ x => F x) mix tab_ok .nil Try.func217 (by kernel_rfl) run_eq (fun _ a _ _ hg => ⟨0, okF a hg⟩)
theorem len (a0 : MKeys) : (md a0).length = 2 + a0.fList.length := by simp [md]; omega
theorem br (a0 : MKeys) : md a0 = spec_KeysInts.md a0 := by
  unfold md spec_KeysInts.md
  first
  | (simp only [id]; done)
  | (simp only [id]; rfl)
  | rfl
end impl_KeysInts
/-! impl.bit -/
namespace impl_bit
noncomputable def F (x0 : Bool) : Ans := (bif x0 then ret (1 : Int) else ret (0 : Int))
def pats : List Pat := [.rd (.bool)]
def res : RP := .one (.rd (.int .i64))
noncomputable abbrev E : Env := ⟨assoc Tab, conG [], 4⟩
set_option maxRecDepth 100000
theorem run_eq (n : Nat) (ls : List L) : runF E (fun _ => []) Try.f78 res n (initS pats ls) = F (ls.headD .hole).toBool := by kernel_rfl
noncomputable def md (a0 : Bool) : Int := (bif a0 then (1 : Int) else (0 : Int))
def gd (a0 : Bool) : Prop := True
def acc (ls : List L) : Bool := (ls.headD .hole).toBool
noncomputable def R : Bool → Option Int := RR gd md
theorem R_eq {a0} (h : gd a0) : R a0 = some (md a0) := RR_eq (a := a0) h
noncomputable def con : Con := CN pats res acc R
theorem okF (a0 : Bool) (hg : gd a0) : F a0 = ret ((md a0) : Int) := by
  unfold F md
  try simp only [S0]
  refine bif_out ret (fun _ => rfl) (fun _ => rfl)
theorem valid_ : Valid Try.prog Ev 78 con := VV (run := fun _ x => F x) mix tab_ok .nil Try.func78 (by kernel_rfl) run_eq (fun _ a _ _ hg => ⟨0, okF a hg⟩)
end impl_bit
namespace slices_Grow_Sint_int
set_option maxHeartbeats 1000000 in
set_option maxRecDepth 100000 in
open Go.RowKit in
theorem calls0 (b : Option Addr) (w : World) : Calls Try.prog 246 #[.slice b 0 0, .int .i64 0] w fun e w' => e = .returned (.slice b 0 0) ∧ w' = w := by
  go_enter Try.func246, Try.ntmps246
  go_wp2
  go_ret
  exact ⟨rfl, rfl⟩
theorem size3 : Try.t3.size = 1 := by kernel_rfl
theorem bytes3 : Try.t3.bytes = 8 := by kernel_rfl
set_option maxHeartbeats 1000000 in
set_option maxRecDepth 100000 in
open Go.RowKit in
theorem calls1 (b : Option Addr) (n : Nat) (w : World) (h0 : 0 < n) (h1 : n * 8 ≤ 140737488355328) : Calls Try.prog 246 #[.slice b 0 0, .int .i64 n] w fun e w' => e = .returned (.slice (some ⟨w.heap.size, 0, none⟩) 0 (grownCap w n 0 3)) ∧ w' = (w.drew.alloc (.cells (Builtin.zeroCells #[.int .i64 0] n ++ Builtin.zeroCells #[.int .i64 0] (grownCap w n 0 3 - n)) 3)) := by
  have hp : (0 : Int) < n := by omega
  have hnn : ¬ ((n : Int) < 0) := by omega
  have hold : (Builtin.firstCells Try.t3.size 0 (.slice b 0 0)).run Try.prog w.drew = .ok ([] : List Value).toArray w.drew := by
    cases b with
    | none => exact run_firstCells_none _ _ _ _ _
    | some b => exact run_firstCells_some _ _ _ _ _ _ [] (by simp) (fun j v hj => by simp at hj)
  have H := fun ty => Lib.run_append_grow_zeros (P := Try.prog) w 54 3 ty 3 Try.t3 (.int .i64 0) .i64 .i64 (by kernel_rfl) (by kernel_rfl) (by kernel_rfl) (by kernel_rfl) b 0 0 [] hold n h0 (by rw [size3]; omega) (by omega) (by omega) (by rw [bytes3]; omega) (by
    rw [Nat.zero_add, nextslicecap_zero h0, bytes3]; omega)
  simp only [Nat.zero_add, Array.empty_append] at H
  have H2 := Lib.hid H
  clear H hold
  go_enter Try.func246, Try.ntmps246
  go_wp2_with (at_builtin; refine Lib.wpList_append_run _ rfl _ _ _ _ rfl _ _ rfl rfl _ _ (H2.out _) ?_)
  go_ret
  exact ⟨rfl, rfl⟩
noncomputable def md (_ : Int) : List Int := []
noncomputable def R (x0 : Int) : Option (List (List L)) := bif decide (0 ≤ x0) && decide (x0 * 8 ≤ 140737488355328) then some [] else none
theorem R_eq {a0 : Int} (h : 0 ≤ a0 ∧ a0 * 8 ≤ 140737488355328) : R a0 = some [] := by simp [R, h.1, h.2]
noncomputable def sem : List L → Option (List L)
  | [y0] => (R y0.toInt).map RT.enc
  | _ => none
noncomputable def con : Con := ⟨[.nil, .rd (.int .i64)], .one (.fr 3), sem⟩
theorem cells3 : Ev.cells 3 = [.int .i64] := by kernel_rfl
theorem valid_ : Valid Try.prog Ev 246 con := by
  refine valid_row ⟨Try.f246, Try.func246, by kernel_rfl, by kernel_rfl⟩ rfl fun ls r w vs Z hs hf => ?_
  simp only [con] at hs
  unfold sem at hs
  split at hs
  · rename_i y
    obtain ⟨v, hv, hq⟩ := map_some hs
    unfold R at hv
    cases hc : (decide (0 ≤ y.toInt) && decide (y.toInt * 8 ≤ 140737488355328)) <;> simp only [hc, cond_true, cond_false] at hv
    · cases hv
    injection hv with hv
    subst hv
    subst hq
    simp only [Bool.and_eq_true, decide_eq_true_eq] at hc
    cases hf with
    | cons h1 ht =>
      cases ht with
      | cons h2 ht =>
        cases ht
        obtain ⟨b, rfl⟩ := (show V0 Ev.cells w (A0 Z w) .nil _ from h1)
        have e2 : _ = Value.int .i64 y.toInt := h2
        subst e2
        obtain ⟨n, hn⟩ : ∃ n : Nat, y.toInt = n := ⟨y.toInt.toNat, by omega⟩
        rw [hn] at hc ⊢
        rcases Nat.eq_zero_or_pos n with h0 | h0
        · subst h0
          exact (calls0 b w).mono fun e w' ⟨h3, h4⟩ => ⟨_, fun _ => False, h3, by rw [h4]; exact Fr.refl _ _, fun b hb => hb.elim, .nil _ _ _ _ rfl⟩
        · refine (calls1 b n w h0 (by omega)).mono fun e w' ⟨h3, h4⟩ => ⟨_, fun b => b = w.heap.size, h3, ?_, fun b hb => ?_, ?_⟩
          · rw [h4]; exact ((Fr.refl w _).drew).alloc _
          · subst hb; rw [h4]; simp
          · have hge := grownCap_ge w n 0 3
            have hle : grownCap w n 0 3 ≤ maxLen := grownCap_le_maxLen w n 0 3 (by simp only [maxLen]; omega)
            rw [h4]
            refine .sl _ 3 0 _ w.heap.size 3 _ _ (fun _ _ => Go.undef) (fun _ _ _ => False) rfl (Nat.zero_le _) hle (heap_alloc_new w.drew _) ?_ rfl (fun _ _ _ h => h.elim) (fun _ _ _ _ _ h => h.elim) (fun i j k hi => by omega) (fun i j k hi => by omega)
            rw [cells3]
            simp only [Array.size_append, size_zeroCells, List.length_singleton]
            simp
            omega
  · cases hs
end slices_Grow_Sint_int
/-! slices.Concat[[]int,int] -/
namespace slices_Concat_Sint_int
inductive Pt where
  | p0 (a : List (List L)) (b : Int) (c : List (List L)) (d : Int) (e : Int)
  | p1 (a : List (List L)) (b : Int) (c : Int) (d : List (List L))
def pid : Pt → Nat
  | .p0 .. => 3
  | .p1 .. => 11
def pvs : Pt → List V
  | .p0 a b c d e => [.sl none 54 a, .int .i64 b, .sl none 54 c, .int .i64 d, .int .i64 e]
  | .p1 a b c d => [.own 0, .sl none 54 a, .int .i64 b, .int .i64 c]
def phs : Pt → List Root
  | .p0 a b c d e => []
  | .p1 a b c d => [.row 3 d]
noncomputable def step (J : Pt → Ans) : Pt → Ans
  | .p0 a b c d e => (bif (decide (e < d)) then (bif (decide ((0 : Int) ≤ e)) then (bif (decide (e < (c.length : Int))) then (bif (decide ((IntKind.i64.wrap (b + ((lAt c (Int.toNat e)).length : Int))) < 0)) then none else J (.p0 a (IntKind.i64.wrap (b + ((lAt c (Int.toNat e)).length : Int))) c d (IntKind.i64.wrap (e + 1)))) else none) else none) else (call (slices_Grow_Sint_int.R b) fun v1 => J (.p1 a (a.length : Int) 0 v1)))
  | .p1 a b c d => (bif (decide (c < b)) then (bif (decide ((0 : Int) ≤ c)) then (bif (decide (c < (a.length : Int))) then (bif (lim (((d.length : Int) + ((lAt a (Int.toNat c)).length : Int)) * 8)) then J (.p1 a b (IntKind.i64.wrap (c + 1)) (d ++ (lAt a (Int.toNat c)))) else none) else none) else none) else ret (d : List (List L)))
noncomputable def start (J : Pt → Ans) (x0 : List (List L)) : Ans := J (.p0 x0 0 x0 (x0.length : Int) 0)
def live : Nat → Live := fun i => match i with | 3 => [(0, none), (3, none), (9, none), (10, none), (11, none)] | 11 => [(6, none), (25, none), (26, none), (27, none)] | _ => []
def pats : List Pat := [.rd (.sl 54)]
def res : RP := .one (.fr 3)
noncomputable abbrev E : Env := ⟨assoc Tab, conG [(246, slices_Grow_Sint_int.con)], 36⟩
set_option maxRecDepth 100000
theorem step_eq (I : Heads) (p : Pt) : enterC E live I (pid p) (bodyOf Try.f237) (stOf (live (pid p)) (pvs p) (phs p)) (doneK E Try.f237 res) = step (fun q => I (pid q) (pvs q) (phs q)) p := by
  cases p <;> kernel_rfl
theorem start_eq (I : Heads) (ls : List L) : runC E live I (bodyOf Try.f237) (initS pats ls) (doneK E Try.f237 res) = start (fun q => I (pid q) (pvs q) (phs q)) (ls.headD .hole).toSl := by kernel_rfl
theorem run_eq (n : Nat) (ls : List L) : runF E live Try.f237 res n (initS pats ls) = start (iter step n) (ls.headD .hole).toSl := runF_iter (id := pid) (vs := pvs) (hs := phs) (step := step) (start := fun J => start J (ls.headD .hole).toSl) step_eq (fun I => start_eq I ls) n
noncomputable def md (a0 : List (List Int)) : List Int := a0.flatten
def gd (a0 : List (List Int)) : Prop := a0.length ≤ 8 ∧ ∀ x ∈ a0, x.length ≤ 2 ^ 40
def acc (ls : List L) : List (List L) := (ls.headD .hole).toSl
noncomputable def R : (List (List L)) → Option (List (List L)) := RR gd md
theorem R_eq {a0} (h : gd a0) : R (a0.map (lRow iRow)) = some ((md a0).map iRow) := RR_eq (a := a0) h
noncomputable def con : Con := CN pats res acc R
theorem okF (a0 : List (List Int)) (hg : gd a0) : ∃ n, start (iter step n) (a0.map (lRow iRow)) = ret (((md a0).map iRow) : List (List L)) := by
  obtain ⟨hl, hx⟩ := hg
  have hs : ∀ i, i ≤ a0.length → ((a0.take i).map List.length).sum ≤ i * 2 ^ 40 := by
    intro i
    induction i with
    | zero => intro _; simp
    | succ i ih =>
      intro hi
      rw [List.take_succ_eq_append_getElem (by omega)]
      have h1 := hx a0[i] (List.getElem_mem _)
      have h2 := ih (by omega)
      simp only [List.map_append, List.map_cons, List.map_nil, List.sum_append, List.sum_cons, List.sum_nil]
      omega
  have hstep : ∀ i (h : i < a0.length), ((a0.take (i + 1)).map List.length).sum = ((a0.take i).map List.length).sum + a0[i].length := by
    intro i hi
    rw [List.take_succ_eq_append_getElem (by omega)]
    simp only [List.map_append, List.map_cons, List.map_nil, List.sum_append, List.sum_cons, List.sum_nil]
    omega
  have hf : ∀ i, (a0.take i).flatten.length = ((a0.take i).map List.length).sum := fun i => List.length_flatten
  have second : ∀ k i, i + k = a0.length → ∃ n, iter step n (Pt.p1 (a0.map (lRow iRow)) (a0.length : Int) (i : Int) ((a0.take i).flatten.map iRow)) = ret (a0.flatten.map iRow : List (List L)) := by
    intro k
    induction k with
    | zero =>
      intro i hi
      obtain rfl : i = a0.length := by omega
      refine ⟨1, ?_⟩
      show step (iter step 0) (Pt.p1 _ _ _ _) = _
      simp only [step]
      refine no_ret (by simp) ?_
      rw [List.take_length]
    | succ k ih =>
      intro i hi
      obtain ⟨n, hn⟩ := ih (i + 1) (by omega)
      refine ⟨n + 1, ?_⟩
      show step (iter step n) (Pt.p1 _ _ _ _) = _
      have hlt : i < a0.length := by omega
      have b1 := hs (i + 1) (by omega)
      have b2 := hstep i hlt
      simp only [step, List.length_map, toNat_nat, lAt_getD]
      refine yes_ret (by simp; omega) (yes_ret (by simp) (yes_ret (by simp; omega) (yes_ret (lim_t ?_) ?_)))
      · rw [getD_lt hlt, hf]; omega
      · rw [wrap_succ hlt (by simp only [maxLen]; omega), getD_lt hlt, ← List.map_append]
        have e : (a0.take i).flatten ++ a0[i] = (a0.take (i + 1)).flatten := by
          rw [List.take_succ_eq_append_getElem (by omega)]
          simp only [List.flatten_append, List.flatten_cons, List.flatten_nil, List.append_nil]
        rw [e]; exact hn
  have first : ∀ k i, i + k = a0.length → ∃ n, iter step n (Pt.p0 (a0.map (lRow iRow)) ((((a0.take i).map List.length).sum : Nat) : Int) (a0.map (lRow iRow)) (a0.length : Int) (i : Int)) = ret (a0.flatten.map iRow : List (List L)) := by
    intro k
    induction k with
    | zero =>
      intro i hi
      obtain rfl : i = a0.length := by omega
      obtain ⟨n, hn⟩ := second a0.length 0 (by omega)
      refine ⟨n + 1, ?_⟩
      show step (iter step n) (Pt.p0 _ _ _ _ _) = _
      have b1 := hs a0.length (by omega)
      simp only [step]
      refine no_ret (by simp) (call_to [] (slices_Grow_Sint_int.R_eq ⟨by omega, by omega⟩) ?_)
      simpa using hn
    | succ k ih =>
      intro i hi
      obtain ⟨n, hn⟩ := ih (i + 1) (by omega)
      refine ⟨n + 1, ?_⟩
      show step (iter step n) (Pt.p0 _ _ _ _ _) = _
      have hlt : i < a0.length := by omega
      have b1 := hs (i + 1) (by omega)
      have b2 := hstep i hlt
      simp only [step, List.length_map, toNat_nat, lAt_getD, getD_lt hlt]
      have e : IntKind.i64.wrap (((((a0.take i).map List.length).sum : Nat) : Int) + (a0[i].length : Int)) = ((((a0.take (i + 1)).map List.length).sum : Nat) : Int) := by
        rw [Go.IntWalk.i64_in _ (by omega)]; omega
      rw [e]
      refine yes_ret (by simp; omega) (yes_ret (by simp) (yes_ret (by simp; omega) (no_ret (by simp) ?_)))
      rw [wrap_succ hlt (by simp only [maxLen]; omega)]
      exact hn
  unfold md
  obtain ⟨n, hn⟩ := first a0.length 0 (by omega)
  refine ⟨n, ?_⟩
  unfold start
  simpa using hn
theorem valid_ : Valid Try.prog Ev 237 con := VV (run := fun n x => start (iter step n) x) mix tab_ok (.cons slices_Grow_Sint_int.valid_ .nil) Try.func237 (by kernel_rfl) run_eq (fun _ a _ _ hg => okF a hg)
theorem len (a0 : List (List Int)) : (md a0).length = (a0.map List.length).sum := by simp [md]
end slices_Concat_Sint_int
/-! impl.HeadInts -/
namespace impl_HeadInts
noncomputable def F (x0 : RHead) : Ans := (call (impl_KeysInts.R x0.fKeys) fun v1 => (call (impl_KeysInts.R x0.fHeirs) fun v2 => (call (impl_KeysInts.R x0.fJudge) fun v3 => (call (impl_bit.R x0.fFrozen) fun v4 => (call (slices_Concat_Sint_int.R [[L.sl [[L.int x0.fZone], [L.int x0.fEpoch], [L.int x0.fKind], [L.int x0.fTime], [L.int x0.fUntil], [L.int x0.fCount], [L.int x0.fRoot], [L.int x0.fPrev]]], [L.sl v1], [L.sl v2], [L.sl [[L.int x0.fWait]]], [L.sl v3], [L.sl [[L.int v4]]]]) fun v5 => ret (v5 : List (List L)))))))
def pats : List Pat := [.agg [.int .i64, .int .i64, .int .i64, .int .i64, .int .i64, .int .i64, .int .i64, .int .i64, .sl 3, .int .i64, .sl 3, .int .i64, .int .i64, .sl 3, .int .i64, .bool]]
def res : RP := .one (.fr 3)
noncomputable abbrev E : Env := ⟨assoc Tab, conG [(217, impl_KeysInts.con), (78, impl_bit.con), (237, slices_Concat_Sint_int.con)], 38⟩
set_option maxRecDepth 100000
theorem run_eq (n : Nat) (ls : List L) : runF E (fun _ => []) Try.f219 res n (initS pats ls) = F (RHead.dec ls) := by kernel_rfl
noncomputable def md (a0 : MHead) : List Int := (slices_Concat_Sint_int.md [[a0.fZone, a0.fEpoch, a0.fKind, a0.fTime, a0.fUntil, a0.fCount, a0.fRoot, a0.fPrev], (impl_KeysInts.md a0.fKeys), (impl_KeysInts.md a0.fHeirs), [a0.fWait], (impl_KeysInts.md a0.fJudge), [(impl_bit.md a0.fFrozen)]])
def gd (a0 : MHead) : Prop := (MHead.Sm (2 ^ 21) a0)
def acc (ls : List L) : RHead := (RHead.dec ls)
noncomputable def R : RHead → Option (List (List L)) := RR gd md
theorem R_eq {a0} (h : gd a0) : R (MHead.r a0) = some ((md a0).map iRow) := RR_eq (a := a0) h
noncomputable def con : Con := CN pats res acc R
theorem okF (a0 : MHead) (hg : gd a0) : F (MHead.r a0) = ret (((md a0).map iRow) : List (List L)) := by
  unfold gd at hg
  have H0 := hg
  unfold F md
  try simp only [S0, MHead.rs]
  refine call_to ((impl_KeysInts.md a0.fKeys).map iRow) (impl_KeysInts.R_eq (a0 := a0.fKeys) H0.1) ?_
  try simp only [S0, MHead.rs]
  refine call_to ((impl_KeysInts.md a0.fHeirs).map iRow) (impl_KeysInts.R_eq (a0 := a0.fHeirs) H0.2.1) ?_
  try simp only [S0, MHead.rs]
  refine call_to ((impl_KeysInts.md a0.fJudge).map iRow) (impl_KeysInts.R_eq (a0 := a0.fJudge) H0.2.2) ?_
  try simp only [S0, MHead.rs]
  refine call_to (impl_bit.md a0.fFrozen) (impl_bit.R_eq (a0 := a0.fFrozen) trivial) ?_
  refine call_to ((slices_Concat_Sint_int.md [[a0.fZone, a0.fEpoch, a0.fKind, a0.fTime, a0.fUntil, a0.fCount, a0.fRoot, a0.fPrev], (impl_KeysInts.md a0.fKeys), (impl_KeysInts.md a0.fHeirs), [a0.fWait], (impl_KeysInts.md a0.fJudge), [(impl_bit.md a0.fFrozen)]]).map iRow) ?_ ?_
  · have R_ := slices_Concat_Sint_int.R_eq (a0 := [[a0.fZone, a0.fEpoch, a0.fKind, a0.fTime, a0.fUntil, a0.fCount, a0.fRoot, a0.fPrev], (impl_KeysInts.md a0.fKeys), (impl_KeysInts.md a0.fHeirs), [a0.fWait], (impl_KeysInts.md a0.fJudge), [(impl_bit.md a0.fFrozen)]]) ⟨(by simp), (by
        have := impl_KeysInts.len a0.fKeys
        have := (H0.1).1
        have := impl_KeysInts.len a0.fHeirs
        have := (H0.2.1).1
        have := impl_KeysInts.len a0.fJudge
        have := (H0.2.2).1
        intro x_ hx_
        simp only [List.mem_cons, List.not_mem_nil, or_false] at hx_
        rcases hx_ with hx_ | hx_ | hx_ | hx_ | hx_ | hx_
        all_goals (subst hx_; first | omega | (simp only [LN]; omega)))⟩
    first | exact R_ | (simp only [MP, S0, MHead.rs] at R_ ⊢; first | exact R_ | (rw [← R_]; rfl))
  try simp only [S0, MHead.rs]
  all_goals first | rfl | (simp only [S0, MHead.rs]; done) | (simp only [MP]; rfl) | (simp only [S0, MHead.rs, MP]; first | done | rfl)
theorem valid_ : Valid Try.prog Ev 219 con := VV (run := fun _ x => F x) mix tab_ok (.cons impl_KeysInts.valid_ (.cons impl_bit.valid_ (.cons slices_Concat_Sint_int.valid_ .nil))) Try.func219 (by kernel_rfl) run_eq (fun _ a _ _ hg => ⟨0, okF a hg⟩)
theorem len (a0 : MHead) : (md a0).length = 16 + a0.fKeys.fList.length + a0.fHeirs.fList.length + a0.fJudge.fList.length := by unfold md; simp [slices_Concat_Sint_int.md, impl_KeysInts.len]; omega
theorem br (a0 : MHead) : md a0 = spec_HeadInts.md a0 := by
  rw [spec_HeadInts.md_form]
  unfold md slices_Concat_Sint_int.md
  simp only [impl_KeysInts.br, impl_bit.md, List.flatten_cons, List.flatten_nil, List.cons_append, List.nil_append, List.append_nil]
end impl_HeadInts
/-! impl.EqualHeads -/
namespace impl_EqualHeads
noncomputable def F (x0 : RHead) (x1 : RHead) : Ans := (call (impl_EqualKeys.R (x0.fKeys, x1.fKeys)) fun v1 => (bif v1 then (call (impl_EqualKeys.R (x0.fHeirs, x1.fHeirs)) fun v2 => (bif v2 then (call (impl_EqualKeys.R (x0.fJudge, x1.fJudge)) fun v3 => (bif v3 then (call (impl_HeadInts.R x0) fun v4 => (call (impl_HeadInts.R x1) fun v5 => (call (slices_Equal_Sint_int.R (v4, v5)) fun v6 => ret (v6 : Bool)))) else ret (false : Bool))) else ret (false : Bool))) else ret (false : Bool)))
def pats : List Pat := [.agg [.int .i64, .int .i64, .int .i64, .int .i64, .int .i64, .int .i64, .int .i64, .int .i64, .sl 3, .int .i64, .sl 3, .int .i64, .int .i64, .sl 3, .int .i64, .bool], .agg [.int .i64, .int .i64, .int .i64, .int .i64, .int .i64, .int .i64, .int .i64, .int .i64, .sl 3, .int .i64, .sl 3, .int .i64, .int .i64, .sl 3, .int .i64, .bool]]
def res : RP := .one (.rd (.bool))
noncomputable abbrev E : Env := ⟨assoc Tab, conG [(150, impl_EqualKeys.con), (219, impl_HeadInts.con), (110, slices_Equal_Sint_int.con)], 31⟩
set_option maxRecDepth 100000
theorem run_eq (n : Nat) (ls : List L) : runF E (fun _ => []) Try.f198 res n (initS pats ls) = F (RHead.dec ls) (RHead.dec (dropT 16 ls)) := by kernel_rfl
noncomputable def md (a0 : MHead) (a1 : MHead) : Bool := (bif (impl_EqualKeys.md a0.fKeys a1.fKeys) then (bif (impl_EqualKeys.md a0.fHeirs a1.fHeirs) then (bif (impl_EqualKeys.md a0.fJudge a1.fJudge) then ((slices_Equal_Sint_int.md (impl_HeadInts.md a0) (impl_HeadInts.md a1)) : Bool) else (false : Bool)) else (false : Bool)) else (false : Bool))
def gd (a0 : MHead) (a1 : MHead) : Prop := (MHead.Sm (2 ^ 21) a0) ∧ (MHead.Sm (2 ^ 21) a1)
def acc (ls : List L) : RHead × RHead := ((RHead.dec ls), (RHead.dec (dropT 16 ls)))
noncomputable def R : (RHead × RHead) → Option Bool := RR (p2 gd) (u2 md)
theorem R_eq {a0} {a1} (h : gd a0 a1) : R ((MHead.r a0), (MHead.r a1)) = some (md a0 a1) := RR_eq (a := (a0, a1)) h
noncomputable def con : Con := CN pats res acc R
theorem okF (a0 : MHead) (a1 : MHead) (hg : gd a0 a1) : F (MHead.r a0) (MHead.r a1) = ret ((md a0 a1) : Bool) := by
  unfold gd at hg
  obtain ⟨H0, H1⟩ := hg
  unfold F md
  try simp only [S0, MHead.rs]
  refine call_to (impl_EqualKeys.md a0.fKeys a1.fKeys) (impl_EqualKeys.R_eq (a0 := a0.fKeys) (a1 := a1.fKeys) ⟨H0.1, H1.1⟩) ?_
  refine bif_out ret (fun c1 => ?_) (fun _ => rfl)
  refine call_to (impl_EqualKeys.md a0.fHeirs a1.fHeirs) (impl_EqualKeys.R_eq (a0 := a0.fHeirs) (a1 := a1.fHeirs) ⟨H0.2.1, H1.2.1⟩) ?_
  refine bif_out ret (fun c2 => ?_) (fun _ => rfl)
  refine call_to (impl_EqualKeys.md a0.fJudge a1.fJudge) (impl_EqualKeys.R_eq (a0 := a0.fJudge) (a1 := a1.fJudge) ⟨H0.2.2, H1.2.2⟩) ?_
  refine bif_out ret (fun c3 => ?_) (fun _ => rfl)
  refine call_to ((impl_HeadInts.md a0).map iRow) (impl_HeadInts.R_eq (a0 := a0) H0) ?_
  try simp only [S0, MHead.rs]
  refine call_to ((impl_HeadInts.md a1).map iRow) (impl_HeadInts.R_eq (a0 := a1) H1) ?_
  try simp only [S0, MHead.rs]
  refine call_to (slices_Equal_Sint_int.md (impl_HeadInts.md a0) (impl_HeadInts.md a1)) (slices_Equal_Sint_int.R_eq (a0 := (impl_HeadInts.md a0)) (a1 := (impl_HeadInts.md a1)) ⟨⟨(by
      have := impl_HeadInts.len a0
      have := (H0.1).1
      have := (H0.2.1).1
      have := (H0.2.2).1
      try simp (disch := omega) only [LN, wi]
      first | omega | (simp; done) | (simp; omega)), fun _ _ => trivial⟩, ⟨(by
      have := impl_HeadInts.len a1
      have := (H1.1).1
      have := (H1.2.1).1
      have := (H1.2.2).1
      try simp (disch := omega) only [LN, wi]
      first | omega | (simp; done) | (simp; omega)), fun _ _ => trivial⟩⟩) ?_
  all_goals first | rfl | (simp only [S0, MHead.rs, MP]; first | done | rfl)
theorem valid_ : Valid Try.prog Ev 198 con := VV (run := fun _ x => F x.1 x.2) mix tab_ok (.cons impl_EqualKeys.valid_ (.cons impl_HeadInts.valid_ (.cons slices_Equal_Sint_int.valid_ .nil))) Try.func198 (by kernel_rfl) run_eq (fun _ a _ _ hg => ⟨0, okF a.1 a.2 hg⟩)
theorem md_eq (a0 : MHead) (a1 : MHead) : md a0 a1 = eqB a0 a1 := by
  unfold md
  simp only [slices_Equal_Sint_int.md_eq, impl_EqualKeys.md_eq, impl_HeadInts.br]
  rw [Bool.eq_iff_iff]
  constructor
  · intro h
    simp only [and_p, Bool.and_eq_true] at h
    exact eqB_iff.2 (spec_HeadInts.inj (eqB_iff.1 h.2.2.2))
  · intro h
    rw [eqB_iff] at h
    rw [h]
    simp only [eqB_refl]; rfl
end impl_EqualHeads
/-! slices.Equal[[]impl.Sig,impl.Sig] -/
namespace slices_Equal_Simpl_Sig_impl_Sig
inductive Pt where
  | p0 (a : List (List L)) (b : List (List L)) (c : Int) (d : Int)
def pid : Pt → Nat
  | .p0 .. => 4
def pvs : Pt → List V
  | .p0 a b c d => [.sl none 216 a, .sl none 216 b, .int .i64 c, .int .i64 d]
def phs : Pt → List Root
  | .p0 a b c d => []
noncomputable def step (J : Pt → Ans) : Pt → Ans
  | .p0 a b c d => (bif (decide (d < c)) then (bif (decide ((0 : Int) ≤ d)) then (bif (decide (d < (a.length : Int))) then (bif (decide ((0 : Int) ≤ d)) then (bif (decide (d < (b.length : Int))) then (bif (!((((MSig.at a (Int.toNat d)).fKey : Int) == (MSig.at b (Int.toNat d)).fKey) && ((((MSig.at a (Int.toNat d)).fTag : Int) == (MSig.at b (Int.toNat d)).fTag) && true))) then ret (false : Bool) else J (.p0 a b c (IntKind.i64.wrap (d + 1)))) else none) else none) else none) else none) else ret (true : Bool))
noncomputable def start (J : Pt → Ans) (x0 : List (List L)) (x1 : List (List L)) : Ans := (bif ((x0.length : Int) != (x1.length : Int)) then ret (false : Bool) else J (.p0 x0 x1 (x0.length : Int) 0))
def live : Nat → Live := fun i => match i with | 4 => [(0, none), (1, none), (12, none), (13, none)] | _ => []
def pats : List Pat := [.rd (.sl 216), .rd (.sl 216)]
def res : RP := .one (.rd (.bool))
noncomputable abbrev E : Env := ⟨assoc Tab, conG [], 26⟩
set_option maxRecDepth 100000
theorem step_eq (I : Heads) (p : Pt) : enterC E live I (pid p) (bodyOf Try.f199) (stOf (live (pid p)) (pvs p) (phs p)) (doneK E Try.f199 res) = step (fun q => I (pid q) (pvs q) (phs q)) p := by
  cases p <;> kernel_rfl
theorem start_eq (I : Heads) (ls : List L) : runC E live I (bodyOf Try.f199) (initS pats ls) (doneK E Try.f199 res) = start (fun q => I (pid q) (pvs q) (phs q)) (ls.headD .hole).toSl ((dropT 1 ls).headD .hole).toSl := by kernel_rfl
theorem run_eq (n : Nat) (ls : List L) : runF E live Try.f199 res n (initS pats ls) = start (iter step n) (ls.headD .hole).toSl ((dropT 1 ls).headD .hole).toSl := runF_iter (id := pid) (vs := pvs) (hs := phs) (step := step) (start := fun J => start J (ls.headD .hole).toSl ((dropT 1 ls).headD .hole).toSl) step_eq (fun I => start_eq I ls) n
noncomputable def md (a0 : List MSig) (a1 : List MSig) : Bool := (bif ((a0.length : Int) != (a1.length : Int)) then (false : Bool) else (loopM (S := Unit) (β := Bool) (fun (i2 : Nat) (s4 : Unit) => (bif (!((((a0.getD i2 MSig.zero).fKey : Int) == (a1.getD i2 MSig.zero).fKey) && ((((a0.getD i2 MSig.zero).fTag : Int) == (a1.getD i2 MSig.zero).fTag) && true))) then (.inr (false : Bool)) else (.inl ()))) (fun (s4 : Unit) => (true : Bool)) a0.length 0 ()))
def gd (a0 : List MSig) (a1 : List MSig) : Prop := (SmL (2 ^ 21) (fun y : MSig => MSig.Sm (2 ^ 21) y) a0) ∧ (SmL (2 ^ 21) (fun y : MSig => MSig.Sm (2 ^ 21) y) a1)
def acc (ls : List L) : List (List L) × List (List L) := ((ls.headD .hole).toSl, ((dropT 1 ls).headD .hole).toSl)
noncomputable def R : (List (List L) × List (List L)) → Option Bool := RR (p2 gd) (u2 md)
theorem R_eq {a0} {a1} (h : gd a0 a1) : R ((a0.map MSig.row), (a1.map MSig.row)) = some (md a0 a1) := RR_eq (a := (a0, a1)) h
noncomputable def con : Con := CN pats res acc R
theorem okF (a0 : List MSig) (a1 : List MSig) (hg : gd a0 a1) : ∃ n, start (iter step n) (a0.map MSig.row) (a1.map MSig.row) = ret ((md a0 a1) : Bool) := by
  unfold gd at hg
  obtain ⟨H0, H1⟩ := hg
  unfold start md
  try simp only [S0, MSig.rs]
  refine ex_bif ret (fun _ => ⟨0, rfl⟩) (fun c1 => ?_)
  have dc1 := c1
  try simp only [DC] at dc1
  have Bh3 : a0.length ≤ maxLen := (by
      have := (H0).1
      try simp only [maxLen] at *
      omega)
  refine ex_pt (p := Pt.p0 (a0.map MSig.row) (a1.map MSig.row) (a0.length : Int) 0) (by first | rfl | (simp only [S0, MSig.rs, MP]; done) | (simp only [MP]; rfl)) ?_
  refine loopM_ok (pt := fun (i2 : Nat) (s4 : Unit) => Pt.p0 (a0.map MSig.row) (a1.map MSig.row) (a0.length : Int) (i2 : Int)) (s := (() : Unit)) (out := ret) (fun _ _ => True) (fun J i2 s4 h3 hih3 => ?_) (fun s4 hih3 => ?_) trivial
  · simp only [step, S0, MSig.rs]
    have bb_ := Bh3
    simp only [maxLen] at bb_
    have := (H0).1
    refine Rnd.yes (by apply decide_eq_true; omega) ?_
    refine Rnd.yes zle_dec ?_
    refine Rnd.yes (lt_dec h3) ?_
    refine Rnd.yes zle_dec ?_
    refine Rnd.yes (by
        have := (H1).1
        refine decide_eq_true ?_
        try simp (disch := omega) only [LN, wi]
        first | omega | (simp; done) | (simp; omega)) ?_
    refine Rnd.bif (fun _ => Rnd.inr rfl) (fun c5 => ?_)
    refine Rnd.inl trivial ?_
    rw [wrap_succ h3 Bh3]
    all_goals first | rfl | (simp only [S0, MSig.rs, MP]; first | done | rfl)
  · simp only [step, S0, MSig.rs]
    have := (H0).1
    refine ex_no (by apply decide_eq_false; omega) ?_
    refine ⟨0, ?_⟩
    all_goals first | rfl | (simp only [S0, MSig.rs, MP]; first | done | rfl)
theorem valid_ : Valid Try.prog Ev 199 con := VV (run := fun n x => start (iter step n) x.1 x.2) mix tab_ok .nil Try.func199 (by kernel_rfl) run_eq (fun _ a _ _ hg => okF a.1 a.2 hg)
theorem md_eq (a0 : List MSig) (a1 : List MSig) : md a0 a1 = eqB a0 a1 := by
  unfold md
  refine loop_eqB (MSig.zero) (fun i s h h2 => ?_) (fun s => rfl)
  simp only [bne, int_beq, bool_beq, ba_beq, MSig.eqc]
  cases eqB _ _ <;> rfl
end slices_Equal_Simpl_Sig_impl_Sig
/-! impl.EqualSigned -/
namespace impl_EqualSigned
noncomputable def F (x0 : RSigned) (x1 : RSigned) : Ans := (call (impl_EqualHeads.R (x0.fHead, x1.fHead)) fun v1 => (bif v1 then (call (slices_Equal_Simpl_Sig_impl_Sig.R (x0.fSigs, x1.fSigs)) fun v2 => ret (v2 : Bool)) else ret (false : Bool)))
def pats : List Pat := [.agg [.int .i64, .int .i64, .int .i64, .int .i64, .int .i64, .int .i64, .int .i64, .int .i64, .sl 3, .int .i64, .sl 3, .int .i64, .int .i64, .sl 3, .int .i64, .bool, .sl 216], .agg [.int .i64, .int .i64, .int .i64, .int .i64, .int .i64, .int .i64, .int .i64, .int .i64, .sl 3, .int .i64, .sl 3, .int .i64, .int .i64, .sl 3, .int .i64, .bool, .sl 216]]
def res : RP := .one (.rd (.bool))
noncomputable abbrev E : Env := ⟨assoc Tab, conG [(198, impl_EqualHeads.con), (199, slices_Equal_Simpl_Sig_impl_Sig.con)], 17⟩
set_option maxRecDepth 100000
theorem run_eq (n : Nat) (ls : List L) : runF E (fun _ => []) Try.f187 res n (initS pats ls) = F (RSigned.dec ls) (RSigned.dec (dropT 17 ls)) := by kernel_rfl
noncomputable def md (a0 : MSigned) (a1 : MSigned) : Bool := (bif (impl_EqualHeads.md a0.fHead a1.fHead) then ((slices_Equal_Simpl_Sig_impl_Sig.md a0.fSigs a1.fSigs) : Bool) else (false : Bool))
def gd (a0 : MSigned) (a1 : MSigned) : Prop := (MSigned.Sm (2 ^ 21) a0) ∧ (MSigned.Sm (2 ^ 21) a1)
def acc (ls : List L) : RSigned × RSigned := ((RSigned.dec ls), (RSigned.dec (dropT 17 ls)))
noncomputable def R : (RSigned × RSigned) → Option Bool := RR (p2 gd) (u2 md)
theorem R_eq {a0} {a1} (h : gd a0 a1) : R ((MSigned.r a0), (MSigned.r a1)) = some (md a0 a1) := RR_eq (a := (a0, a1)) h
noncomputable def con : Con := CN pats res acc R
theorem okF (a0 : MSigned) (a1 : MSigned) (hg : gd a0 a1) : F (MSigned.r a0) (MSigned.r a1) = ret ((md a0 a1) : Bool) := by
  unfold gd at hg
  obtain ⟨H0, H1⟩ := hg
  unfold F md
  try simp only [S0, MSigned.rs]
  refine call_to (impl_EqualHeads.md a0.fHead a1.fHead) (impl_EqualHeads.R_eq (a0 := a0.fHead) (a1 := a1.fHead) ⟨H0.1, H1.1⟩) ?_
  refine bif_out ret (fun c1 => ?_) (fun _ => rfl)
  refine call_to (slices_Equal_Simpl_Sig_impl_Sig.md a0.fSigs a1.fSigs) (slices_Equal_Simpl_Sig_impl_Sig.R_eq (a0 := a0.fSigs) (a1 := a1.fSigs) ⟨H0.2, H1.2⟩) ?_
  all_goals first | rfl | (simp only [S0, MSigned.rs, MP]; first | done | rfl)
theorem valid_ : Valid Try.prog Ev 187 con := VV (run := fun _ x => F x.1 x.2) mix tab_ok (.cons impl_EqualHeads.valid_ (.cons slices_Equal_Simpl_Sig_impl_Sig.valid_ .nil)) Try.func187 (by kernel_rfl) run_eq (fun _ a _ _ hg => ⟨0, okF a.1 a.2 hg⟩)
theorem md_eq (a0 : MSigned) (a1 : MSigned) : md a0 a1 = eqB a0 a1 := by
  unfold md
  cases a0; cases a1
  rw [Bool.eq_iff_iff]
  simp [eqB_iff, ba_beq, MSigned.mk.injEq, impl_EqualHeads.md_eq, slices_Equal_Simpl_Sig_impl_Sig.md_eq]
  try (constructor <;> (intro h; simp_all))
end impl_EqualSigned
/-! slices.EqualFunc[[]impl.Signed,[]impl.Signed,impl.Signed,impl.Signed] -/
namespace slices_EqualFunc_Simpl_Signed_Simpl_Signed_impl_Signed_impl_Signed__impl_EqualSigned
inductive Pt where
  | p0 (a : List (List L)) (b : List (List L)) (c : Int) (d : Int)
def pid : Pt → Nat
  | .p0 .. => 4
def pvs : Pt → List V
  | .p0 a b c d => [.sl none 119 a, .fn 187 [], .sl none 119 b, .int .i64 c, .int .i64 d]
def phs : Pt → List Root
  | .p0 a b c d => []
noncomputable def step (J : Pt → Ans) : Pt → Ans
  | .p0 a b c d => (bif (decide (d < c)) then (bif (decide ((0 : Int) ≤ d)) then (bif (decide (d < (b.length : Int))) then (bif (decide ((0 : Int) ≤ d)) then (bif (decide (d < (a.length : Int))) then (call (impl_EqualSigned.R ((RSigned.at b (Int.toNat d)), (RSigned.at a (Int.toNat d)))) fun v1 => (bif (!v1) then ret (false : Bool) else J (.p0 a b c (IntKind.i64.wrap (d + 1))))) else none) else none) else none) else none) else ret (true : Bool))
noncomputable def start (J : Pt → Ans) (x0 : List (List L)) (x1 : List (List L)) : Ans := (bif ((x0.length : Int) != (x1.length : Int)) then ret (false : Bool) else J (.p0 x1 x0 (x0.length : Int) 0))
def live : Nat → Live := fun i => match i with | 4 => [(1, none), (2, none), (15, none), (16, none), (17, none)] | _ => []
def pats : List Pat := [.rd (.sl 119), .rd (.sl 119), .fn 187 []]
def res : RP := .one (.rd (.bool))
noncomputable abbrev E : Env := ⟨assoc Tab, conG [(187, impl_EqualSigned.con)], 32⟩
set_option maxRecDepth 100000
theorem step_eq (I : Heads) (p : Pt) : enterC E live I (pid p) (bodyOf Try.f186) (stOf (live (pid p)) (pvs p) (phs p)) (doneK E Try.f186 res) = step (fun q => I (pid q) (pvs q) (phs q)) p := by
  cases p <;> kernel_rfl
theorem start_eq (I : Heads) (ls : List L) : runC E live I (bodyOf Try.f186) (initS pats ls) (doneK E Try.f186 res) = start (fun q => I (pid q) (pvs q) (phs q)) (ls.headD .hole).toSl ((dropT 1 ls).headD .hole).toSl := by kernel_rfl
theorem run_eq (n : Nat) (ls : List L) : runF E live Try.f186 res n (initS pats ls) = start (iter step n) (ls.headD .hole).toSl ((dropT 1 ls).headD .hole).toSl := runF_iter (id := pid) (vs := pvs) (hs := phs) (step := step) (start := fun J => start J (ls.headD .hole).toSl ((dropT 1 ls).headD .hole).toSl) step_eq (fun I => start_eq I ls) n
noncomputable def md (a0 : List MSigned) (a1 : List MSigned) : Bool := (bif ((a0.length : Int) != (a1.length : Int)) then (false : Bool) else (loopM (S := Unit) (β := Bool) (fun (i2 : Nat) (s4 : Unit) => (bif (!(impl_EqualSigned.md (a0.getD i2 MSigned.zero) (a1.getD i2 MSigned.zero))) then (.inr (false : Bool)) else (.inl ()))) (fun (s4 : Unit) => (true : Bool)) a0.length 0 ()))
def gd (a0 : List MSigned) (a1 : List MSigned) : Prop := (SmL (2 ^ 21) (fun y : MSigned => MSigned.Sm (2 ^ 21) y) a0) ∧ (SmL (2 ^ 21) (fun y : MSigned => MSigned.Sm (2 ^ 21) y) a1)
def acc (ls : List L) : List (List L) × List (List L) := ((ls.headD .hole).toSl, ((dropT 1 ls).headD .hole).toSl)
noncomputable def R : (List (List L) × List (List L)) → Option Bool := RR (p2 gd) (u2 md)
theorem R_eq {a0} {a1} (h : gd a0 a1) : R ((a0.map MSigned.row), (a1.map MSigned.row)) = some (md a0 a1) := RR_eq (a := (a0, a1)) h
noncomputable def con : Con := CN pats res acc R
theorem okF (a0 : List MSigned) (a1 : List MSigned) (hg : gd a0 a1) : ∃ n, start (iter step n) (a0.map MSigned.row) (a1.map MSigned.row) = ret ((md a0 a1) : Bool) := by
  unfold gd at hg
  obtain ⟨H0, H1⟩ := hg
  unfold start md
  try simp only [S0, MSigned.rs]
  refine ex_bif ret (fun _ => ⟨0, rfl⟩) (fun c1 => ?_)
  have dc1 := c1
  try simp only [DC] at dc1
  have Bh3 : a0.length ≤ maxLen := (by
      have := (H0).1
      try simp only [maxLen] at *
      omega)
  refine ex_pt (p := Pt.p0 (a1.map MSigned.row) (a0.map MSigned.row) (a0.length : Int) 0) (by first | rfl | (simp only [S0, MSigned.rs, MP]; done) | (simp only [MP]; rfl)) ?_
  refine loopM_ok (pt := fun (i2 : Nat) (s4 : Unit) => Pt.p0 (a1.map MSigned.row) (a0.map MSigned.row) (a0.length : Int) (i2 : Int)) (s := (() : Unit)) (out := ret) (fun _ _ => True) (fun J i2 s4 h3 hih3 => ?_) (fun s4 hih3 => ?_) trivial
  · simp only [step, S0, MSigned.rs]
    have bb_ := Bh3
    simp only [maxLen] at bb_
    have := (H0).1
    refine Rnd.yes (by apply decide_eq_true; omega) ?_
    refine Rnd.yes zle_dec ?_
    refine Rnd.yes (lt_dec h3) ?_
    refine Rnd.yes zle_dec ?_
    refine Rnd.yes (by
        have := (H1).1
        refine decide_eq_true ?_
        try simp (disch := omega) only [LN, wi]
        first | omega | (simp; done) | (simp; omega)) ?_
    refine Rnd.call_to (impl_EqualSigned.md (a0.getD i2 MSigned.zero) (a1.getD i2 MSigned.zero)) (impl_EqualSigned.R_eq (a0 := (a0.getD i2 MSigned.zero)) (a1 := (a1.getD i2 MSigned.zero)) ⟨(SmL.getD (z := MSigned.zero) H0 h3), (SmL.getD (z := MSigned.zero) H1 (by first | assumption | omega | (simp (disch := omega) only [wi]; omega) | (simp; omega)))⟩) ?_
    refine Rnd.bif (fun _ => Rnd.inr rfl) (fun c5 => ?_)
    refine Rnd.inl trivial ?_
    rw [wrap_succ h3 Bh3]
    all_goals first | rfl | (simp only [S0, MSigned.rs, MP]; first | done | rfl)
  · simp only [step, S0, MSigned.rs]
    have := (H0).1
    refine ex_no (by apply decide_eq_false; omega) ?_
    refine ⟨0, ?_⟩
    all_goals first | rfl | (simp only [S0, MSigned.rs, MP]; first | done | rfl)
theorem valid_ : Valid Try.prog Ev 186 con := VV (run := fun n x => start (iter step n) x.1 x.2) mix tab_ok (.cons impl_EqualSigned.valid_ .nil) Try.func186 (by kernel_rfl) run_eq (fun _ a _ _ hg => okF a.1 a.2 hg)
theorem md_eq (a0 : List MSigned) (a1 : List MSigned) : md a0 a1 = eqB a0 a1 := by
  unfold md
  refine loop_eqB (MSigned.zero) (fun i s h h2 => ?_) (fun s => rfl)
  simp only [bne, int_beq, bool_beq, ba_beq, impl_EqualSigned.md_eq]
  cases eqB _ _ <;> rfl
end slices_EqualFunc_Simpl_Signed_Simpl_Signed_impl_Signed_impl_Signed__impl_EqualSigned
/-! impl.sameChain -/
namespace impl_sameChain
noncomputable def F (x0 : List (List L)) (x1 : List (List L)) : Ans := (call (slices_EqualFunc_Simpl_Signed_Simpl_Signed_impl_Signed_impl_Signed__impl_EqualSigned.R (x0, x1)) fun v1 => ret (v1 : Bool))
def pats : List Pat := [.rd (.sl 119), .rd (.sl 119)]
def res : RP := .one (.rd (.bool))
noncomputable abbrev E : Env := ⟨assoc Tab, conG [(186, slices_EqualFunc_Simpl_Signed_Simpl_Signed_impl_Signed_impl_Signed__impl_EqualSigned.con)], 8⟩
set_option maxRecDepth 100000
theorem run_eq (n : Nat) (ls : List L) : runF E (fun _ => []) Try.f160 res n (initS pats ls) = F (ls.headD .hole).toSl ((dropT 1 ls).headD .hole).toSl := by kernel_rfl
noncomputable def md (a0 : List MSigned) (a1 : List MSigned) : Bool := ((slices_EqualFunc_Simpl_Signed_Simpl_Signed_impl_Signed_impl_Signed__impl_EqualSigned.md a0 a1) : Bool)
def gd (a0 : List MSigned) (a1 : List MSigned) : Prop := (SmL (2 ^ 21) (fun y : MSigned => MSigned.Sm (2 ^ 21) y) a0) ∧ (SmL (2 ^ 21) (fun y : MSigned => MSigned.Sm (2 ^ 21) y) a1)
def acc (ls : List L) : List (List L) × List (List L) := ((ls.headD .hole).toSl, ((dropT 1 ls).headD .hole).toSl)
noncomputable def R : (List (List L) × List (List L)) → Option Bool := RR (p2 gd) (u2 md)
theorem R_eq {a0} {a1} (h : gd a0 a1) : R ((a0.map MSigned.row), (a1.map MSigned.row)) = some (md a0 a1) := RR_eq (a := (a0, a1)) h
noncomputable def con : Con := CN pats res acc R
theorem okF (a0 : List MSigned) (a1 : List MSigned) (hg : gd a0 a1) : F (a0.map MSigned.row) (a1.map MSigned.row) = ret ((md a0 a1) : Bool) := by
  unfold gd at hg
  obtain ⟨H0, H1⟩ := hg
  unfold F md
  try simp only [S0]
  refine call_to (slices_EqualFunc_Simpl_Signed_Simpl_Signed_impl_Signed_impl_Signed__impl_EqualSigned.md a0 a1) (slices_EqualFunc_Simpl_Signed_Simpl_Signed_impl_Signed_impl_Signed__impl_EqualSigned.R_eq (a0 := a0) (a1 := a1) ⟨H0, H1⟩) ?_
  all_goals first | rfl | (simp only [S0, MP]; first | done | rfl)
theorem valid_ : Valid Try.prog Ev 160 con := VV (run := fun _ x => F x.1 x.2) mix tab_ok (.cons slices_EqualFunc_Simpl_Signed_Simpl_Signed_impl_Signed_impl_Signed__impl_EqualSigned.valid_ .nil) Try.func160 (by kernel_rfl) run_eq (fun _ a _ _ hg => ⟨0, okF a.1 a.2 hg⟩)
theorem md_eq (a0 : List MSigned) (a1 : List MSigned) : md a0 a1 = eqB a0 a1 := by
  unfold md
  rw [slices_EqualFunc_Simpl_Signed_Simpl_Signed_impl_Signed_impl_Signed__impl_EqualSigned.md_eq]
end impl_sameChain
/-! impl.EqualEntries -/
namespace impl_EqualEntries
noncomputable def F (x0 : REntry) (x1 : REntry) : Ans := (bif (x0.fLabel == x1.fLabel) then (bif (x0.fKind == x1.fKind) then (bif (x0.fValue == x1.fValue) then (call (slices_Equal_Sstring_string.R (x0.fPath, x1.fPath)) fun v1 => ret (v1 : Bool)) else ret (false : Bool)) else ret (false : Bool)) else ret (false : Bool))
def pats : List Pat := [.agg [.str, .int .i64, .int .i64, .sl 9], .agg [.str, .int .i64, .int .i64, .sl 9]]
def res : RP := .one (.rd (.bool))
noncomputable abbrev E : Env := ⟨assoc Tab, conG [(124, slices_Equal_Sstring_string.con)], 31⟩
set_option maxRecDepth 100000
theorem run_eq (n : Nat) (ls : List L) : runF E (fun _ => []) Try.f72 res n (initS pats ls) = F (REntry.dec ls) (REntry.dec (dropT 4 ls)) := by kernel_rfl
noncomputable def md (a0 : MEntry) (a1 : MEntry) : Bool := (bif (a0.fLabel == a1.fLabel) then (bif (a0.fKind == a1.fKind) then (bif (a0.fValue == a1.fValue) then ((slices_Equal_Sstring_string.md a0.fPath a1.fPath) : Bool) else (false : Bool)) else (false : Bool)) else (false : Bool))
def gd (a0 : MEntry) (a1 : MEntry) : Prop := (MEntry.Sm (2 ^ 21) a0) ∧ (MEntry.Sm (2 ^ 21) a1)
def acc (ls : List L) : REntry × REntry := ((REntry.dec ls), (REntry.dec (dropT 4 ls)))
noncomputable def R : (REntry × REntry) → Option Bool := RR (p2 gd) (u2 md)
theorem R_eq {a0} {a1} (h : gd a0 a1) : R ((MEntry.r a0), (MEntry.r a1)) = some (md a0 a1) := RR_eq (a := (a0, a1)) h
noncomputable def con : Con := CN pats res acc R
theorem okF (a0 : MEntry) (a1 : MEntry) (hg : gd a0 a1) : F (MEntry.r a0) (MEntry.r a1) = ret ((md a0 a1) : Bool) := by
  unfold gd at hg
  obtain ⟨H0, H1⟩ := hg
  unfold F md
  try simp only [S0, MEntry.rs]
  refine bif_out ret (fun c1 => ?_) (fun _ => rfl)
  refine bif_out ret (fun c2 => ?_) (fun _ => rfl)
  refine bif_out ret (fun c3 => ?_) (fun _ => rfl)
  refine call_to (slices_Equal_Sstring_string.md a0.fPath a1.fPath) (slices_Equal_Sstring_string.R_eq (a0 := a0.fPath) (a1 := a1.fPath) ⟨H0.2, H1.2⟩) ?_
  all_goals first | rfl | (simp only [S0, MEntry.rs, MP]; first | done | rfl)
theorem valid_ : Valid Try.prog Ev 72 con := VV (run := fun _ x => F x.1 x.2) mix tab_ok (.cons slices_Equal_Sstring_string.valid_ .nil) Try.func72 (by kernel_rfl) run_eq (fun _ a _ _ hg => ⟨0, okF a.1 a.2 hg⟩)
theorem md_eq (a0 : MEntry) (a1 : MEntry) : md a0 a1 = eqB a0 a1 := by
  unfold md
  cases a0; cases a1
  rw [Bool.eq_iff_iff]
  simp [eqB_iff, ba_beq, MEntry.mk.injEq, slices_Equal_Sstring_string.md_eq]
  try (constructor <;> (intro h; simp_all))
end impl_EqualEntries
/-! impl.EqualProofs -/
namespace impl_EqualProofs
noncomputable def F (x0 : RProof) (x1 : RProof) : Ans := (bif (x0.fAt == x1.fAt) then (call (slices_Equal_Sint_int.R (x0.fPath, x1.fPath)) fun v1 => ret (v1 : Bool)) else ret (false : Bool))
def pats : List Pat := [.agg [.int .i64, .sl 3], .agg [.int .i64, .sl 3]]
def res : RP := .one (.rd (.bool))
noncomputable abbrev E : Env := ⟨assoc Tab, conG [(110, slices_Equal_Sint_int.con)], 17⟩
set_option maxRecDepth 100000
theorem run_eq (n : Nat) (ls : List L) : runF E (fun _ => []) Try.f168 res n (initS pats ls) = F (RProof.dec ls) (RProof.dec (dropT 2 ls)) := by kernel_rfl
noncomputable def md (a0 : MProof) (a1 : MProof) : Bool := (bif (a0.fAt == a1.fAt) then ((slices_Equal_Sint_int.md a0.fPath a1.fPath) : Bool) else (false : Bool))
def gd (a0 : MProof) (a1 : MProof) : Prop := (MProof.Sm (2 ^ 21) a0) ∧ (MProof.Sm (2 ^ 21) a1)
def acc (ls : List L) : RProof × RProof := ((RProof.dec ls), (RProof.dec (dropT 2 ls)))
noncomputable def R : (RProof × RProof) → Option Bool := RR (p2 gd) (u2 md)
theorem R_eq {a0} {a1} (h : gd a0 a1) : R ((MProof.r a0), (MProof.r a1)) = some (md a0 a1) := RR_eq (a := (a0, a1)) h
noncomputable def con : Con := CN pats res acc R
theorem okF (a0 : MProof) (a1 : MProof) (hg : gd a0 a1) : F (MProof.r a0) (MProof.r a1) = ret ((md a0 a1) : Bool) := by
  unfold gd at hg
  obtain ⟨H0, H1⟩ := hg
  unfold F md
  try simp only [S0, MProof.rs]
  refine bif_out ret (fun c1 => ?_) (fun _ => rfl)
  refine call_to (slices_Equal_Sint_int.md a0.fPath a1.fPath) (slices_Equal_Sint_int.R_eq (a0 := a0.fPath) (a1 := a1.fPath) ⟨(H0.mono (by decide) (fun x hx => trivial)), (H1.mono (by decide) (fun x hx => trivial))⟩) ?_
  all_goals first | rfl | (simp only [S0, MProof.rs, MP]; first | done | rfl)
theorem valid_ : Valid Try.prog Ev 168 con := VV (run := fun _ x => F x.1 x.2) mix tab_ok (.cons slices_Equal_Sint_int.valid_ .nil) Try.func168 (by kernel_rfl) run_eq (fun _ a _ _ hg => ⟨0, okF a.1 a.2 hg⟩)
theorem md_eq (a0 : MProof) (a1 : MProof) : md a0 a1 = eqB a0 a1 := by
  unfold md
  cases a0; cases a1
  rw [Bool.eq_iff_iff]
  simp [eqB_iff, ba_beq, MProof.mk.injEq, slices_Equal_Sint_int.md_eq]
  try (constructor <;> (intro h; simp_all))
end impl_EqualProofs
/-! impl.EqualGaps -/
namespace impl_EqualGaps
noncomputable def F (x0 : RGap) (x1 : RGap) : Ans := (bif (x0.fAt == x1.fAt) then (call (impl_EqualEntries.R (x0.fBefore, x1.fBefore)) fun v1 => (bif v1 then (call (impl_EqualEntries.R (x0.fAfter, x1.fAfter)) fun v2 => (bif v2 then (call (impl_EqualProofs.R (x0.fLeft, x1.fLeft)) fun v3 => (bif v3 then (call (impl_EqualProofs.R (x0.fRight, x1.fRight)) fun v4 => ret (v4 : Bool)) else ret (false : Bool))) else ret (false : Bool))) else ret (false : Bool))) else ret (false : Bool))
def pats : List Pat := [.agg [.int .i64, .str, .int .i64, .int .i64, .sl 9, .str, .int .i64, .int .i64, .sl 9, .int .i64, .sl 3, .int .i64, .sl 3], .agg [.int .i64, .str, .int .i64, .int .i64, .sl 9, .str, .int .i64, .int .i64, .sl 9, .int .i64, .sl 3, .int .i64, .sl 3]]
def res : RP := .one (.rd (.bool))
noncomputable abbrev E : Env := ⟨assoc Tab, conG [(72, impl_EqualEntries.con), (168, impl_EqualProofs.con)], 38⟩
set_option maxRecDepth 100000
theorem run_eq (n : Nat) (ls : List L) : runF E (fun _ => []) Try.f169 res n (initS pats ls) = F (RGap.dec ls) (RGap.dec (dropT 13 ls)) := by kernel_rfl
noncomputable def md (a0 : MGap) (a1 : MGap) : Bool := (bif (a0.fAt == a1.fAt) then (bif (impl_EqualEntries.md a0.fBefore a1.fBefore) then (bif (impl_EqualEntries.md a0.fAfter a1.fAfter) then (bif (impl_EqualProofs.md a0.fLeft a1.fLeft) then ((impl_EqualProofs.md a0.fRight a1.fRight) : Bool) else (false : Bool)) else (false : Bool)) else (false : Bool)) else (false : Bool))
def gd (a0 : MGap) (a1 : MGap) : Prop := (MGap.Sm (2 ^ 21) a0) ∧ (MGap.Sm (2 ^ 21) a1)
def acc (ls : List L) : RGap × RGap := ((RGap.dec ls), (RGap.dec (dropT 13 ls)))
noncomputable def R : (RGap × RGap) → Option Bool := RR (p2 gd) (u2 md)
theorem R_eq {a0} {a1} (h : gd a0 a1) : R ((MGap.r a0), (MGap.r a1)) = some (md a0 a1) := RR_eq (a := (a0, a1)) h
noncomputable def con : Con := CN pats res acc R
theorem okF (a0 : MGap) (a1 : MGap) (hg : gd a0 a1) : F (MGap.r a0) (MGap.r a1) = ret ((md a0 a1) : Bool) := by
  unfold gd at hg
  obtain ⟨H0, H1⟩ := hg
  unfold F md
  try simp only [S0, MProof.rs, MGap.rs]
  refine bif_out ret (fun c1 => ?_) (fun _ => rfl)
  refine call_to (impl_EqualEntries.md a0.fBefore a1.fBefore) (impl_EqualEntries.R_eq (a0 := a0.fBefore) (a1 := a1.fBefore) ⟨H0.1, H1.1⟩) ?_
  refine bif_out ret (fun c2 => ?_) (fun _ => rfl)
  refine call_to (impl_EqualEntries.md a0.fAfter a1.fAfter) (impl_EqualEntries.R_eq (a0 := a0.fAfter) (a1 := a1.fAfter) ⟨H0.2.1, H1.2.1⟩) ?_
  refine bif_out ret (fun c3 => ?_) (fun _ => rfl)
  refine call_to (impl_EqualProofs.md a0.fLeft a1.fLeft) (impl_EqualProofs.R_eq (a0 := a0.fLeft) (a1 := a1.fLeft) ⟨H0.2.2.1, H1.2.2.1⟩) ?_
  refine bif_out ret (fun c4 => ?_) (fun _ => rfl)
  refine call_to (impl_EqualProofs.md a0.fRight a1.fRight) (impl_EqualProofs.R_eq (a0 := a0.fRight) (a1 := a1.fRight) ⟨H0.2.2.2, H1.2.2.2⟩) ?_
  all_goals first | rfl | (simp only [S0, MProof.rs, MGap.rs, MP]; first | done | rfl)
theorem valid_ : Valid Try.prog Ev 169 con := VV (run := fun _ x => F x.1 x.2) mix tab_ok (.cons impl_EqualEntries.valid_ (.cons impl_EqualProofs.valid_ .nil)) Try.func169 (by kernel_rfl) run_eq (fun _ a _ _ hg => ⟨0, okF a.1 a.2 hg⟩)
theorem md_eq (a0 : MGap) (a1 : MGap) : md a0 a1 = eqB a0 a1 := by
  unfold md
  cases a0; cases a1
  rw [Bool.eq_iff_iff]
  simp [eqB_iff, ba_beq, MGap.mk.injEq, impl_EqualEntries.md_eq, impl_EqualProofs.md_eq]
  try (constructor <;> (intro h; simp_all))
end impl_EqualGaps
/-! impl.EqualAnswers -/
namespace impl_EqualAnswers
noncomputable def F (x0 : RAnswer) (x1 : RAnswer) : Ans := (call (impl_sameChain.R (x0.fChain, x1.fChain)) fun v1 => (bif v1 then (bif (x0.fFound == x1.fFound) then (call (impl_EqualEntries.R (x0.fEntry, x1.fEntry)) fun v2 => (bif v2 then (call (impl_EqualProofs.R (x0.fProof, x1.fProof)) fun v3 => (bif v3 then (call (impl_EqualGaps.R (x0.fGap, x1.fGap)) fun v4 => ret (v4 : Bool)) else ret (false : Bool))) else ret (false : Bool))) else ret (false : Bool)) else ret (false : Bool)))
def pats : List Pat := [.agg [.sl 119, .bool, .str, .int .i64, .int .i64, .sl 9, .int .i64, .sl 3, .int .i64, .str, .int .i64, .int .i64, .sl 9, .str, .int .i64, .int .i64, .sl 9, .int .i64, .sl 3, .int .i64, .sl 3], .agg [.sl 119, .bool, .str, .int .i64, .int .i64, .sl 9, .int .i64, .sl 3, .int .i64, .str, .int .i64, .int .i64, .sl 9, .str, .int .i64, .int .i64, .sl 9, .int .i64, .sl 3, .int .i64, .sl 3]]
def res : RP := .one (.rd (.bool))
noncomputable abbrev E : Env := ⟨assoc Tab, conG [(160, impl_sameChain.con), (72, impl_EqualEntries.con), (168, impl_EqualProofs.con), (169, impl_EqualGaps.con)], 38⟩
set_option maxRecDepth 100000
theorem run_eq (n : Nat) (ls : List L) : runF E (fun _ => []) Try.f117 res n (initS pats ls) = F (RAnswer.dec ls) (RAnswer.dec (dropT 21 ls)) := by kernel_rfl
noncomputable def md (a0 : MAnswer) (a1 : MAnswer) : Bool := (bif (impl_sameChain.md a0.fChain a1.fChain) then (bif (a0.fFound == a1.fFound) then (bif (impl_EqualEntries.md a0.fEntry a1.fEntry) then (bif (impl_EqualProofs.md a0.fProof a1.fProof) then ((impl_EqualGaps.md a0.fGap a1.fGap) : Bool) else (false : Bool)) else (false : Bool)) else (false : Bool)) else (false : Bool))
def gd (a0 : MAnswer) (a1 : MAnswer) : Prop := (MAnswer.Sm (2 ^ 21) a0) ∧ (MAnswer.Sm (2 ^ 21) a1)
def acc (ls : List L) : RAnswer × RAnswer := ((RAnswer.dec ls), (RAnswer.dec (dropT 21 ls)))
noncomputable def R : (RAnswer × RAnswer) → Option Bool := RR (p2 gd) (u2 md)
theorem R_eq {a0} {a1} (h : gd a0 a1) : R ((MAnswer.r a0), (MAnswer.r a1)) = some (md a0 a1) := RR_eq (a := (a0, a1)) h
noncomputable def con : Con := CN pats res acc R
theorem okF (a0 : MAnswer) (a1 : MAnswer) (hg : gd a0 a1) : F (MAnswer.r a0) (MAnswer.r a1) = ret ((md a0 a1) : Bool) := by
  unfold gd at hg
  obtain ⟨H0, H1⟩ := hg
  unfold F md
  try simp only [S0, MAnswer.rs]
  refine call_to (impl_sameChain.md a0.fChain a1.fChain) (impl_sameChain.R_eq (a0 := a0.fChain) (a1 := a1.fChain) ⟨H0.1, H1.1⟩) ?_
  refine bif_out ret (fun c1 => ?_) (fun _ => rfl)
  refine bif_out ret (fun c2 => ?_) (fun _ => rfl)
  refine call_to (impl_EqualEntries.md a0.fEntry a1.fEntry) (impl_EqualEntries.R_eq (a0 := a0.fEntry) (a1 := a1.fEntry) ⟨H0.2.1, H1.2.1⟩) ?_
  refine bif_out ret (fun c3 => ?_) (fun _ => rfl)
  refine call_to (impl_EqualProofs.md a0.fProof a1.fProof) (impl_EqualProofs.R_eq (a0 := a0.fProof) (a1 := a1.fProof) ⟨H0.2.2.1, H1.2.2.1⟩) ?_
  refine bif_out ret (fun c4 => ?_) (fun _ => rfl)
  refine call_to (impl_EqualGaps.md a0.fGap a1.fGap) (impl_EqualGaps.R_eq (a0 := a0.fGap) (a1 := a1.fGap) ⟨H0.2.2.2, H1.2.2.2⟩) ?_
  all_goals first | rfl | (simp only [S0, MAnswer.rs, MP]; first | done | rfl)
theorem valid_ : Valid Try.prog Ev 117 con := VV (run := fun _ x => F x.1 x.2) mix tab_ok (.cons impl_sameChain.valid_ (.cons impl_EqualEntries.valid_ (.cons impl_EqualProofs.valid_ (.cons impl_EqualGaps.valid_ .nil)))) Try.func117 (by kernel_rfl) run_eq (fun _ a _ _ hg => ⟨0, okF a.1 a.2 hg⟩)
theorem md_eq (a0 : MAnswer) (a1 : MAnswer) : md a0 a1 = eqB a0 a1 := by
  unfold md
  cases a0; cases a1
  rw [Bool.eq_iff_iff]
  simp [eqB_iff, ba_beq, MAnswer.mk.injEq, impl_sameChain.md_eq, impl_EqualEntries.md_eq, impl_EqualProofs.md_eq, impl_EqualGaps.md_eq]
  try (constructor <;> (intro h; simp_all))
end impl_EqualAnswers
/-! impl.EqualCaches$1 -/
namespace impl_EqualCaches_1
noncomputable def F (x0 : RStored) (x1 : RStored) : Ans := (bif (x0.fZone == x1.fZone) then (bif (x0.fLabel == x1.fLabel) then (call (impl_EqualAnswers.R (x0.fAnswer, x1.fAnswer)) fun v1 => ret (v1 : Bool)) else ret (false : Bool)) else ret (false : Bool))
def pats : List Pat := [.agg [.int .i64, .str, .sl 119, .bool, .str, .int .i64, .int .i64, .sl 9, .int .i64, .sl 3, .int .i64, .str, .int .i64, .int .i64, .sl 9, .str, .int .i64, .int .i64, .sl 9, .int .i64, .sl 3, .int .i64, .sl 3], .agg [.int .i64, .str, .sl 119, .bool, .str, .int .i64, .int .i64, .sl 9, .int .i64, .sl 3, .int .i64, .str, .int .i64, .int .i64, .sl 9, .str, .int .i64, .int .i64, .sl 9, .int .i64, .sl 3, .int .i64, .sl 3]]
def res : RP := .one (.rd (.bool))
noncomputable abbrev E : Env := ⟨assoc Tab, conG [(117, impl_EqualAnswers.con)], 24⟩
set_option maxRecDepth 100000
theorem run_eq (n : Nat) (ls : List L) : runF E (fun _ => []) Try.f116 res n (initS pats ls) = F (RStored.dec ls) (RStored.dec (dropT 23 ls)) := by kernel_rfl
noncomputable def md (a0 : MStored) (a1 : MStored) : Bool := (bif (a0.fZone == a1.fZone) then (bif (a0.fLabel == a1.fLabel) then ((impl_EqualAnswers.md a0.fAnswer a1.fAnswer) : Bool) else (false : Bool)) else (false : Bool))
def gd (a0 : MStored) (a1 : MStored) : Prop := (MStored.Sm (2 ^ 21) a0) ∧ (MStored.Sm (2 ^ 21) a1)
def acc (ls : List L) : RStored × RStored := ((RStored.dec ls), (RStored.dec (dropT 23 ls)))
noncomputable def R : (RStored × RStored) → Option Bool := RR (p2 gd) (u2 md)
theorem R_eq {a0} {a1} (h : gd a0 a1) : R ((MStored.r a0), (MStored.r a1)) = some (md a0 a1) := RR_eq (a := (a0, a1)) h
noncomputable def con : Con := CN pats res acc R
theorem okF (a0 : MStored) (a1 : MStored) (hg : gd a0 a1) : F (MStored.r a0) (MStored.r a1) = ret ((md a0 a1) : Bool) := by
  unfold gd at hg
  obtain ⟨H0, H1⟩ := hg
  unfold F md
  try simp only [S0, MHead.rs, MEntry.rs, MStored.rs]
  refine bif_out ret (fun c1 => ?_) (fun _ => rfl)
  refine bif_out ret (fun c2 => ?_) (fun _ => rfl)
  refine call_to (impl_EqualAnswers.md a0.fAnswer a1.fAnswer) (impl_EqualAnswers.R_eq (a0 := a0.fAnswer) (a1 := a1.fAnswer) ⟨H0.2, H1.2⟩) ?_
  all_goals first | rfl | (simp only [S0, MHead.rs, MEntry.rs, MStored.rs, MP]; first | done | rfl)
theorem valid_ : Valid Try.prog Ev 116 con := VV (run := fun _ x => F x.1 x.2) mix tab_ok (.cons impl_EqualAnswers.valid_ .nil) Try.func116 (by kernel_rfl) run_eq (fun _ a _ _ hg => ⟨0, okF a.1 a.2 hg⟩)
theorem md_eq (a0 : MStored) (a1 : MStored) : md a0 a1 = eqB a0 a1 := by
  unfold md
  cases a0; cases a1
  rw [Bool.eq_iff_iff]
  simp [eqB_iff, ba_beq, MStored.mk.injEq, impl_EqualAnswers.md_eq]
  try (constructor <;> (intro h; simp_all))
end impl_EqualCaches_1
/-! slices.EqualFunc[[]impl.Stored,[]impl.Stored,impl.Stored,impl.Stored] -/
namespace slices_EqualFunc_Simpl_Stored_Simpl_Stored_impl_Stored_impl_Stored__impl_EqualCaches_1
inductive Pt where
  | p0 (a : List (List L)) (b : List (List L)) (c : Int) (d : Int)
def pid : Pt → Nat
  | .p0 .. => 4
def pvs : Pt → List V
  | .p0 a b c d => [.sl none 159 a, .fn 116 [], .sl none 159 b, .int .i64 c, .int .i64 d]
def phs : Pt → List Root
  | .p0 a b c d => []
noncomputable def step (J : Pt → Ans) : Pt → Ans
  | .p0 a b c d => (bif (decide (d < c)) then (bif (decide ((0 : Int) ≤ d)) then (bif (decide (d < (b.length : Int))) then (bif (decide ((0 : Int) ≤ d)) then (bif (decide (d < (a.length : Int))) then (call (impl_EqualCaches_1.R ((RStored.at b (Int.toNat d)), (RStored.at a (Int.toNat d)))) fun v1 => (bif (!v1) then ret (false : Bool) else J (.p0 a b c (IntKind.i64.wrap (d + 1))))) else none) else none) else none) else none) else ret (true : Bool))
noncomputable def start (J : Pt → Ans) (x0 : List (List L)) (x1 : List (List L)) : Ans := (bif ((x0.length : Int) != (x1.length : Int)) then ret (false : Bool) else J (.p0 x1 x0 (x0.length : Int) 0))
def live : Nat → Live := fun i => match i with | 4 => [(1, none), (2, none), (15, none), (16, none), (17, none)] | _ => []
def pats : List Pat := [.rd (.sl 159), .rd (.sl 159), .fn 116 []]
def res : RP := .one (.rd (.bool))
noncomputable abbrev E : Env := ⟨assoc Tab, conG [(116, impl_EqualCaches_1.con)], 32⟩
set_option maxRecDepth 100000
theorem step_eq (I : Heads) (p : Pt) : enterC E live I (pid p) (bodyOf Try.f115) (stOf (live (pid p)) (pvs p) (phs p)) (doneK E Try.f115 res) = step (fun q => I (pid q) (pvs q) (phs q)) p := by
  cases p <;> kernel_rfl
theorem start_eq (I : Heads) (ls : List L) : runC E live I (bodyOf Try.f115) (initS pats ls) (doneK E Try.f115 res) = start (fun q => I (pid q) (pvs q) (phs q)) (ls.headD .hole).toSl ((dropT 1 ls).headD .hole).toSl := by kernel_rfl
theorem run_eq (n : Nat) (ls : List L) : runF E live Try.f115 res n (initS pats ls) = start (iter step n) (ls.headD .hole).toSl ((dropT 1 ls).headD .hole).toSl := runF_iter (id := pid) (vs := pvs) (hs := phs) (step := step) (start := fun J => start J (ls.headD .hole).toSl ((dropT 1 ls).headD .hole).toSl) step_eq (fun I => start_eq I ls) n
noncomputable def md (a0 : List MStored) (a1 : List MStored) : Bool := (bif ((a0.length : Int) != (a1.length : Int)) then (false : Bool) else (loopM (S := Unit) (β := Bool) (fun (i2 : Nat) (s4 : Unit) => (bif (!(impl_EqualCaches_1.md (a0.getD i2 MStored.zero) (a1.getD i2 MStored.zero))) then (.inr (false : Bool)) else (.inl ()))) (fun (s4 : Unit) => (true : Bool)) a0.length 0 ()))
def gd (a0 : List MStored) (a1 : List MStored) : Prop := (SmL (2 ^ 21) (fun y : MStored => MStored.Sm (2 ^ 21) y) a0) ∧ (SmL (2 ^ 21) (fun y : MStored => MStored.Sm (2 ^ 21) y) a1)
def acc (ls : List L) : List (List L) × List (List L) := ((ls.headD .hole).toSl, ((dropT 1 ls).headD .hole).toSl)
noncomputable def R : (List (List L) × List (List L)) → Option Bool := RR (p2 gd) (u2 md)
theorem R_eq {a0} {a1} (h : gd a0 a1) : R ((a0.map MStored.row), (a1.map MStored.row)) = some (md a0 a1) := RR_eq (a := (a0, a1)) h
noncomputable def con : Con := CN pats res acc R
theorem okF (a0 : List MStored) (a1 : List MStored) (hg : gd a0 a1) : ∃ n, start (iter step n) (a0.map MStored.row) (a1.map MStored.row) = ret ((md a0 a1) : Bool) := by
  unfold gd at hg
  obtain ⟨H0, H1⟩ := hg
  unfold start md
  try simp only [S0, MStored.rs]
  refine ex_bif ret (fun _ => ⟨0, rfl⟩) (fun c1 => ?_)
  have dc1 := c1
  try simp only [DC] at dc1
  have Bh3 : a0.length ≤ maxLen := (by
      have := (H0).1
      try simp only [maxLen] at *
      omega)
  refine ex_pt (p := Pt.p0 (a1.map MStored.row) (a0.map MStored.row) (a0.length : Int) 0) (by first | rfl | (simp only [S0, MStored.rs, MP]; done) | (simp only [MP]; rfl)) ?_
  refine loopM_ok (pt := fun (i2 : Nat) (s4 : Unit) => Pt.p0 (a1.map MStored.row) (a0.map MStored.row) (a0.length : Int) (i2 : Int)) (s := (() : Unit)) (out := ret) (fun _ _ => True) (fun J i2 s4 h3 hih3 => ?_) (fun s4 hih3 => ?_) trivial
  · simp only [step, S0, MStored.rs]
    have bb_ := Bh3
    simp only [maxLen] at bb_
    have := (H0).1
    refine Rnd.yes (by apply decide_eq_true; omega) ?_
    refine Rnd.yes zle_dec ?_
    refine Rnd.yes (lt_dec h3) ?_
    refine Rnd.yes zle_dec ?_
    refine Rnd.yes (by
        have := (H1).1
        refine decide_eq_true ?_
        try simp (disch := omega) only [LN, wi]
        first | omega | (simp; done) | (simp; omega)) ?_
    refine Rnd.call_to (impl_EqualCaches_1.md (a0.getD i2 MStored.zero) (a1.getD i2 MStored.zero)) (impl_EqualCaches_1.R_eq (a0 := (a0.getD i2 MStored.zero)) (a1 := (a1.getD i2 MStored.zero)) ⟨(SmL.getD (z := MStored.zero) H0 h3), (SmL.getD (z := MStored.zero) H1 (by first | assumption | omega | (simp (disch := omega) only [wi]; omega) | (simp; omega)))⟩) ?_
    refine Rnd.bif (fun _ => Rnd.inr rfl) (fun c5 => ?_)
    refine Rnd.inl trivial ?_
    rw [wrap_succ h3 Bh3]
    all_goals first | rfl | (simp only [S0, MStored.rs, MP]; first | done | rfl)
  · simp only [step, S0, MStored.rs]
    have := (H0).1
    refine ex_no (by apply decide_eq_false; omega) ?_
    refine ⟨0, ?_⟩
    all_goals first | rfl | (simp only [S0, MStored.rs, MP]; first | done | rfl)
theorem valid_ : Valid Try.prog Ev 115 con := VV (run := fun n x => start (iter step n) x.1 x.2) mix tab_ok (.cons impl_EqualCaches_1.valid_ .nil) Try.func115 (by kernel_rfl) run_eq (fun _ a _ _ hg => okF a.1 a.2 hg)
theorem md_eq (a0 : List MStored) (a1 : List MStored) : md a0 a1 = eqB a0 a1 := by
  unfold md
  refine loop_eqB (MStored.zero) (fun i s h h2 => ?_) (fun s => rfl)
  simp only [bne, int_beq, bool_beq, ba_beq, impl_EqualCaches_1.md_eq]
  cases eqB _ _ <;> rfl
end slices_EqualFunc_Simpl_Stored_Simpl_Stored_impl_Stored_impl_Stored__impl_EqualCaches_1
/-! impl.EqualCaches -/
namespace impl_EqualCaches
noncomputable def F (x0 : RCache) (x1 : RCache) : Ans := (call (slices_EqualFunc_Simpl_Stored_Simpl_Stored_impl_Stored_impl_Stored__impl_EqualCaches_1.R (x0.fList, x1.fList)) fun v1 => ret (v1 : Bool))
def pats : List Pat := [.agg [.sl 159], .agg [.sl 159]]
def res : RP := .one (.rd (.bool))
noncomputable abbrev E : Env := ⟨assoc Tab, conG [(115, slices_EqualFunc_Simpl_Stored_Simpl_Stored_impl_Stored_impl_Stored__impl_EqualCaches_1.con)], 10⟩
set_option maxRecDepth 100000
theorem run_eq (n : Nat) (ls : List L) : runF E (fun _ => []) Try.f59 res n (initS pats ls) = F (RCache.dec ls) (RCache.dec (dropT 1 ls)) := by kernel_rfl
noncomputable def md (a0 : MCache) (a1 : MCache) : Bool := ((slices_EqualFunc_Simpl_Stored_Simpl_Stored_impl_Stored_impl_Stored__impl_EqualCaches_1.md a0.fList a1.fList) : Bool)
def gd (a0 : MCache) (a1 : MCache) : Prop := (MCache.Sm (2 ^ 21) a0) ∧ (MCache.Sm (2 ^ 21) a1)
def acc (ls : List L) : RCache × RCache := ((RCache.dec ls), (RCache.dec (dropT 1 ls)))
noncomputable def R : (RCache × RCache) → Option Bool := RR (p2 gd) (u2 md)
theorem R_eq {a0} {a1} (h : gd a0 a1) : R ((MCache.r a0), (MCache.r a1)) = some (md a0 a1) := RR_eq (a := (a0, a1)) h
noncomputable def con : Con := CN pats res acc R
theorem okF (a0 : MCache) (a1 : MCache) (hg : gd a0 a1) : F (MCache.r a0) (MCache.r a1) = ret ((md a0 a1) : Bool) := by
  unfold gd at hg
  obtain ⟨H0, H1⟩ := hg
  unfold F md
  try simp only [S0, MKeys.rs, MCache.rs]
  refine call_to (slices_EqualFunc_Simpl_Stored_Simpl_Stored_impl_Stored_impl_Stored__impl_EqualCaches_1.md a0.fList a1.fList) (slices_EqualFunc_Simpl_Stored_Simpl_Stored_impl_Stored_impl_Stored__impl_EqualCaches_1.R_eq (a0 := a0.fList) (a1 := a1.fList) ⟨H0, H1⟩) ?_
  all_goals first | rfl | (simp only [S0, MKeys.rs, MCache.rs, MP]; first | done | rfl)
theorem valid_ : Valid Try.prog Ev 59 con := VV (run := fun _ x => F x.1 x.2) mix tab_ok (.cons slices_EqualFunc_Simpl_Stored_Simpl_Stored_impl_Stored_impl_Stored__impl_EqualCaches_1.valid_ .nil) Try.func59 (by kernel_rfl) run_eq (fun _ a _ _ hg => ⟨0, okF a.1 a.2 hg⟩)
theorem md_eq (a0 : MCache) (a1 : MCache) : md a0 a1 = eqB a0 a1 := by
  unfold md
  cases a0; cases a1
  rw [Bool.eq_iff_iff]
  simp [eqB_iff, ba_beq, MCache.mk.injEq, slices_EqualFunc_Simpl_Stored_Simpl_Stored_impl_Stored_impl_Stored__impl_EqualCaches_1.md_eq]
  try (constructor <;> (intro h; simp_all))
end impl_EqualCaches
/-! impl.EqualBundles -/
namespace impl_EqualBundles
noncomputable def F (x0 : RBundle) (x1 : RBundle) : Ans := (bif (x0.fRoot == x1.fRoot) then (call (impl_SamePath.R (x0.fPath, x1.fPath)) fun v1 => (bif v1 then (call (impl_EqualCaches.R ((⟨x0.fSteps⟩ : RCache), (⟨x1.fSteps⟩ : RCache))) fun v2 => ret (v2 : Bool)) else ret (false : Bool))) else ret (false : Bool))
def pats : List Pat := [.agg [.int .i64, .sl 9, .sl 159], .agg [.int .i64, .sl 9, .sl 159]]
def res : RP := .one (.rd (.bool))
noncomputable abbrev E : Env := ⟨assoc Tab, conG [(122, impl_SamePath.con), (59, impl_EqualCaches.con)], 26⟩
set_option maxRecDepth 100000
theorem run_eq (n : Nat) (ls : List L) : runF E (fun _ => []) Try.f64 res n (initS pats ls) = F (RBundle.dec ls) (RBundle.dec (dropT 3 ls)) := by kernel_rfl
noncomputable def md (a0 : MBundle) (a1 : MBundle) : Bool := (bif (a0.fRoot == a1.fRoot) then (bif (impl_SamePath.md a0.fPath a1.fPath) then ((impl_EqualCaches.md (⟨a0.fSteps⟩ : MCache) (⟨a1.fSteps⟩ : MCache)) : Bool) else (false : Bool)) else (false : Bool))
def gd (a0 : MBundle) (a1 : MBundle) : Prop := (MBundle.Sm (2 ^ 21) a0) ∧ (MBundle.Sm (2 ^ 21) a1)
def acc (ls : List L) : RBundle × RBundle := ((RBundle.dec ls), (RBundle.dec (dropT 3 ls)))
noncomputable def R : (RBundle × RBundle) → Option Bool := RR (p2 gd) (u2 md)
theorem R_eq {a0} {a1} (h : gd a0 a1) : R ((MBundle.r a0), (MBundle.r a1)) = some (md a0 a1) := RR_eq (a := (a0, a1)) h
noncomputable def con : Con := CN pats res acc R
theorem okF (a0 : MBundle) (a1 : MBundle) (hg : gd a0 a1) : F (MBundle.r a0) (MBundle.r a1) = ret ((md a0 a1) : Bool) := by
  unfold gd at hg
  obtain ⟨H0, H1⟩ := hg
  unfold F md
  try simp only [S0, MHead.rs, MEntry.rs, MProof.rs, MBundle.rs]
  refine bif_out ret (fun c1 => ?_) (fun _ => rfl)
  refine call_to (impl_SamePath.md a0.fPath a1.fPath) (impl_SamePath.R_eq (a0 := a0.fPath) (a1 := a1.fPath) ⟨H0.1, H1.1⟩) ?_
  refine bif_out ret (fun c2 => ?_) (fun _ => rfl)
  refine call_to (impl_EqualCaches.md (⟨a0.fSteps⟩ : MCache) (⟨a1.fSteps⟩ : MCache)) (impl_EqualCaches.R_eq (a0 := (⟨a0.fSteps⟩ : MCache)) (a1 := (⟨a1.fSteps⟩ : MCache)) ⟨H0.2, H1.2⟩) ?_
  all_goals first | rfl | (simp only [S0, MHead.rs, MEntry.rs, MProof.rs, MBundle.rs, MP]; first | done | rfl)
theorem valid_ : Valid Try.prog Ev 64 con := VV (run := fun _ x => F x.1 x.2) mix tab_ok (.cons impl_SamePath.valid_ (.cons impl_EqualCaches.valid_ .nil)) Try.func64 (by kernel_rfl) run_eq (fun _ a _ _ hg => ⟨0, okF a.1 a.2 hg⟩)
theorem md_eq (a0 : MBundle) (a1 : MBundle) : md a0 a1 = eqB a0 a1 := by
  unfold md
  cases a0; cases a1
  rw [Bool.eq_iff_iff]
  simp [eqB_iff, ba_beq, MBundle.mk.injEq, impl_SamePath.md_eq, impl_EqualCaches.md_eq]
  try (constructor <;> (intro h; simp_all))
end impl_EqualBundles
/-! laws.eqStringS -/
namespace laws_eqStringS
inductive Pt where
  | p0 (a : List (List L)) (b : List (List L)) (c : Int)
def pid : Pt → Nat
  | .p0 .. => 4
def pvs : Pt → List V
  | .p0 a b c => [.sl none 9 a, .sl none 9 b, .int .i64 c]
def phs : Pt → List Root
  | .p0 a b c => []
noncomputable def step (J : Pt → Ans) : Pt → Ans
  | .p0 a b c => (bif (decide (c < (a.length : Int))) then (bif (decide ((0 : Int) ≤ c)) then (bif (decide (c < (a.length : Int))) then (bif (decide ((0 : Int) ≤ c)) then (bif (decide (c < (b.length : Int))) then (bif (!((sAt a (Int.toNat c)) == (sAt b (Int.toNat c)))) then ret (false : Bool) else J (.p0 a b (IntKind.i64.wrap (c + 1)))) else none) else none) else none) else none) else ret (true : Bool))
noncomputable def start (J : Pt → Ans) (x0 : List (List L)) (x1 : List (List L)) : Ans := (bif ((x0.length : Int) != (x1.length : Int)) then ret (false : Bool) else J (.p0 x0 x1 0))
def live : Nat → Live := fun i => match i with | 4 => [(0, none), (1, none), (5, none)] | _ => []
def pats : List Pat := [.rd (.sl 9), .rd (.sl 9)]
def res : RP := .one (.rd (.bool))
noncomputable abbrev E : Env := ⟨assoc Tab, conG [], 26⟩
set_option maxRecDepth 100000
theorem step_eq (I : Heads) (p : Pt) : enterC E live I (pid p) (bodyOf Try.f123) (stOf (live (pid p)) (pvs p) (phs p)) (doneK E Try.f123 res) = step (fun q => I (pid q) (pvs q) (phs q)) p := by
  cases p <;> kernel_rfl
theorem start_eq (I : Heads) (ls : List L) : runC E live I (bodyOf Try.f123) (initS pats ls) (doneK E Try.f123 res) = start (fun q => I (pid q) (pvs q) (phs q)) (ls.headD .hole).toSl ((dropT 1 ls).headD .hole).toSl := by kernel_rfl
theorem run_eq (n : Nat) (ls : List L) : runF E live Try.f123 res n (initS pats ls) = start (iter step n) (ls.headD .hole).toSl ((dropT 1 ls).headD .hole).toSl := runF_iter (id := pid) (vs := pvs) (hs := phs) (step := step) (start := fun J => start J (ls.headD .hole).toSl ((dropT 1 ls).headD .hole).toSl) step_eq (fun I => start_eq I ls) n
noncomputable def md (a0 : List ByteArray) (a1 : List ByteArray) : Bool := eqB a0 a1
def gd (a0 : List ByteArray) (a1 : List ByteArray) : Prop := True
def acc (ls : List L) : List (List L) × List (List L) := ((ls.headD .hole).toSl, ((dropT 1 ls).headD .hole).toSl)
noncomputable def R : (List (List L) × List (List L)) → Option Bool := RR (p2 gd) (u2 md)
theorem R_eq {a0} {a1} (h : gd a0 a1) : R ((a0.map sRow), (a1.map sRow)) = some (md a0 a1) := RR_eq (a := (a0, a1)) h
noncomputable def con : Con := CN pats res acc R
theorem okF (a0 : List ByteArray) (a1 : List ByteArray) (hg : gd a0 a1) (h0 : a0.length ≤ maxLen) (h1 : a1.length ≤ maxLen) : ∃ n, start (iter step n) (a0.map sRow) (a1.map sRow) = ret ((md a0 a1) : Bool) := by
  unfold start md
  simp only [List.length_map]
  refine eq_list (pt := fun i => Pt.p0 (a0.map sRow) (a1.map sRow) (i : Int)) (fun hl J i h h2 => ?_) (fun J => ?_)
  · simp only [step, List.length_map, lt_dec h, lt_dec h2, zle_dec, cond_true, toNat_nat, sAt_row h, sAt_row h2]
    rw [wrap_succ h h0]
    simp only [bne, int_beq, bool_beq, ba_beq]
    cases eqB a0[i] a1[i] <;> rfl
  · simp only [step, List.length_map, nlt_dec, cond_false]
theorem valid_ : Valid Try.prog Ev 123 con := VV (run := fun n x => start (iter step n) x.1 x.2) mix tab_ok .nil Try.func123 (by kernel_rfl) run_eq (fun ls a hl e hg => okF a.1 a.2 hg (by have h : (ls.headD .hole).toSl.length ≤ maxLen := hl.1.len; have e : a.1.map sRow = (ls.headD .hole).toSl := (congrArg (fun x => x.1) e.symm); rw [← e] at h; simpa using h) (by have h : ((dropT 1 ls).headD .hole).toSl.length ≤ maxLen := hl.2.1.len; have e : a.2.map sRow = ((dropT 1 ls).headD .hole).toSl := (congrArg (fun x => x.2) e.symm); rw [← e] at h; simpa using h))
end laws_eqStringS
/-! laws.eqIntS -/
namespace laws_eqIntS
inductive Pt where
  | p0 (a : List (List L)) (b : List (List L)) (c : Int)
def pid : Pt → Nat
  | .p0 .. => 4
def pvs : Pt → List V
  | .p0 a b c => [.sl none 3 a, .sl none 3 b, .int .i64 c]
def phs : Pt → List Root
  | .p0 a b c => []
noncomputable def step (J : Pt → Ans) : Pt → Ans
  | .p0 a b c => (bif (decide (c < (a.length : Int))) then (bif (decide ((0 : Int) ≤ c)) then (bif (decide (c < (a.length : Int))) then (bif (decide ((0 : Int) ≤ c)) then (bif (decide (c < (b.length : Int))) then (bif ((iAt a (Int.toNat c)) != (iAt b (Int.toNat c))) then ret (false : Bool) else J (.p0 a b (IntKind.i64.wrap (c + 1)))) else none) else none) else none) else none) else ret (true : Bool))
noncomputable def start (J : Pt → Ans) (x0 : List (List L)) (x1 : List (List L)) : Ans := (bif ((x0.length : Int) != (x1.length : Int)) then ret (false : Bool) else J (.p0 x0 x1 0))
def live : Nat → Live := fun i => match i with | 4 => [(0, none), (1, none), (5, none)] | _ => []
def pats : List Pat := [.rd (.sl 3), .rd (.sl 3)]
def res : RP := .one (.rd (.bool))
noncomputable abbrev E : Env := ⟨assoc Tab, conG [], 26⟩
set_option maxRecDepth 100000
theorem step_eq (I : Heads) (p : Pt) : enterC E live I (pid p) (bodyOf Try.f94) (stOf (live (pid p)) (pvs p) (phs p)) (doneK E Try.f94 res) = step (fun q => I (pid q) (pvs q) (phs q)) p := by
  cases p <;> kernel_rfl
theorem start_eq (I : Heads) (ls : List L) : runC E live I (bodyOf Try.f94) (initS pats ls) (doneK E Try.f94 res) = start (fun q => I (pid q) (pvs q) (phs q)) (ls.headD .hole).toSl ((dropT 1 ls).headD .hole).toSl := by kernel_rfl
theorem run_eq (n : Nat) (ls : List L) : runF E live Try.f94 res n (initS pats ls) = start (iter step n) (ls.headD .hole).toSl ((dropT 1 ls).headD .hole).toSl := runF_iter (id := pid) (vs := pvs) (hs := phs) (step := step) (start := fun J => start J (ls.headD .hole).toSl ((dropT 1 ls).headD .hole).toSl) step_eq (fun I => start_eq I ls) n
noncomputable def md (a0 : List Int) (a1 : List Int) : Bool := eqB a0 a1
def gd (a0 : List Int) (a1 : List Int) : Prop := True
def acc (ls : List L) : List (List L) × List (List L) := ((ls.headD .hole).toSl, ((dropT 1 ls).headD .hole).toSl)
noncomputable def R : (List (List L) × List (List L)) → Option Bool := RR (p2 gd) (u2 md)
theorem R_eq {a0} {a1} (h : gd a0 a1) : R ((a0.map iRow), (a1.map iRow)) = some (md a0 a1) := RR_eq (a := (a0, a1)) h
noncomputable def con : Con := CN pats res acc R
theorem okF (a0 : List Int) (a1 : List Int) (hg : gd a0 a1) (h0 : a0.length ≤ maxLen) (h1 : a1.length ≤ maxLen) : ∃ n, start (iter step n) (a0.map iRow) (a1.map iRow) = ret ((md a0 a1) : Bool) := by
  unfold start md
  simp only [List.length_map]
  refine eq_list (pt := fun i => Pt.p0 (a0.map iRow) (a1.map iRow) (i : Int)) (fun hl J i h h2 => ?_) (fun J => ?_)
  · simp only [step, List.length_map, lt_dec h, lt_dec h2, zle_dec, cond_true, toNat_nat, iAt_row h, iAt_row h2]
    rw [wrap_succ h h0]
    simp only [bne, int_beq, bool_beq, ba_beq]
    cases eqB a0[i] a1[i] <;> rfl
  · simp only [step, List.length_map, nlt_dec, cond_false]
theorem valid_ : Valid Try.prog Ev 94 con := VV (run := fun n x => start (iter step n) x.1 x.2) mix tab_ok .nil Try.func94 (by kernel_rfl) run_eq (fun ls a hl e hg => okF a.1 a.2 hg (by have h : (ls.headD .hole).toSl.length ≤ maxLen := hl.1.len; have e : a.1.map iRow = (ls.headD .hole).toSl := (congrArg (fun x => x.1) e.symm); rw [← e] at h; simpa using h) (by have h : ((dropT 1 ls).headD .hole).toSl.length ≤ maxLen := hl.2.1.len; have e : a.2.map iRow = ((dropT 1 ls).headD .hole).toSl := (congrArg (fun x => x.2) e.symm); rw [← e] at h; simpa using h))
end laws_eqIntS
/-! laws.eqKeys -/
namespace laws_eqKeys
noncomputable def F (x0 : RKeys) (x1 : RKeys) : Ans := (call (laws_eqIntS.R (x0.fList, x1.fList)) fun v1 => (bif (!v1) then ret (false : Bool) else (bif (x0.fNeed != x1.fNeed) then ret (false : Bool) else ret (true : Bool))))
def pats : List Pat := [.agg [.sl 3, .int .i64], .agg [.sl 3, .int .i64]]
def res : RP := .one (.rd (.bool))
noncomputable abbrev E : Env := ⟨assoc Tab, conG [(94, laws_eqIntS.con)], 16⟩
set_option maxRecDepth 100000
theorem run_eq (n : Nat) (ls : List L) : runF E (fun _ => []) Try.f174 res n (initS pats ls) = F (RKeys.dec ls) (RKeys.dec (dropT 2 ls)) := by kernel_rfl
noncomputable def md (a0 : MKeys) (a1 : MKeys) : Bool := eqB a0 a1
def gd (a0 : MKeys) (a1 : MKeys) : Prop := True
def acc (ls : List L) : RKeys × RKeys := ((RKeys.dec ls), (RKeys.dec (dropT 2 ls)))
noncomputable def R : (RKeys × RKeys) → Option Bool := RR (p2 gd) (u2 md)
theorem R_eq {a0} {a1} (h : gd a0 a1) : R ((MKeys.r a0), (MKeys.r a1)) = some (md a0 a1) := RR_eq (a := (a0, a1)) h
noncomputable def con : Con := CN pats res acc R
theorem okF (a0 : MKeys) (a1 : MKeys) (hg : gd a0 a1) : F (MKeys.r a0) (MKeys.r a1) = ret ((md a0 a1) : Bool) := by
  unfold md
  show (call (laws_eqIntS.R ((a0.fList.map iRow), (a1.fList.map iRow))) fun v1 => (bif (!v1) then ret (false : Bool) else (bif (a0.fNeed != a1.fNeed) then ret (false : Bool) else ret (true : Bool)))) = _
  simp only [call_eq (laws_eqIntS.R_eq (a0 := a0.fList) (a1 := a1.fList) trivial), laws_eqIntS.md]
  try simp only [bne, int_beq, bool_beq, ba_beq]
  have e : eqB a0 a1 = (eqB a0.fList a1.fList && (eqB a0.fNeed a1.fNeed && true)) := by
    cases a0; cases a1
    rw [Bool.eq_iff_iff]
    simp only [eqB_iff, Bool.and_eq_true, MKeys.mk.injEq, and_true]
  rw [e]
  refine and_step fun _ => ?_
  refine and_step fun _ => ?_
  rfl
theorem valid_ : Valid Try.prog Ev 174 con := VV (run := fun _ x => F x.1 x.2) mix tab_ok (.cons laws_eqIntS.valid_ .nil) Try.func174 (by kernel_rfl) run_eq (fun _ a _ _ hg => ⟨0, okF a.1 a.2 hg⟩)
end laws_eqKeys
/-! laws.eqHead -/
namespace laws_eqHead
noncomputable def F (x0 : RHead) (x1 : RHead) : Ans := (bif (x0.fZone != x1.fZone) then ret (false : Bool) else (bif (x0.fEpoch != x1.fEpoch) then ret (false : Bool) else (bif (x0.fKind != x1.fKind) then ret (false : Bool) else (bif (x0.fTime != x1.fTime) then ret (false : Bool) else (bif (x0.fUntil != x1.fUntil) then ret (false : Bool) else (bif (x0.fCount != x1.fCount) then ret (false : Bool) else (bif (x0.fRoot != x1.fRoot) then ret (false : Bool) else (bif (x0.fPrev != x1.fPrev) then ret (false : Bool) else (call (laws_eqKeys.R (x0.fKeys, x1.fKeys)) fun v1 => (bif (!v1) then ret (false : Bool) else (call (laws_eqKeys.R (x0.fHeirs, x1.fHeirs)) fun v2 => (bif (!v2) then ret (false : Bool) else (bif (x0.fWait != x1.fWait) then ret (false : Bool) else (call (laws_eqKeys.R (x0.fJudge, x1.fJudge)) fun v3 => (bif (!v3) then ret (false : Bool) else (bif (!(x0.fFrozen == x1.fFrozen)) then ret (false : Bool) else ret (true : Bool)))))))))))))))))
def pats : List Pat := [.agg [.int .i64, .int .i64, .int .i64, .int .i64, .int .i64, .int .i64, .int .i64, .int .i64, .sl 3, .int .i64, .sl 3, .int .i64, .int .i64, .sl 3, .int .i64, .bool], .agg [.int .i64, .int .i64, .int .i64, .int .i64, .int .i64, .int .i64, .int .i64, .int .i64, .sl 3, .int .i64, .sl 3, .int .i64, .int .i64, .sl 3, .int .i64, .bool]]
def res : RP := .one (.rd (.bool))
noncomputable abbrev E : Env := ⟨assoc Tab, conG [(174, laws_eqKeys.con)], 73⟩
set_option maxRecDepth 100000
theorem run_eq (n : Nat) (ls : List L) : runF E (fun _ => []) Try.f130 res n (initS pats ls) = F (RHead.dec ls) (RHead.dec (dropT 16 ls)) := by kernel_rfl
noncomputable def md (a0 : MHead) (a1 : MHead) : Bool := eqB a0 a1
def gd (a0 : MHead) (a1 : MHead) : Prop := True
def acc (ls : List L) : RHead × RHead := ((RHead.dec ls), (RHead.dec (dropT 16 ls)))
noncomputable def R : (RHead × RHead) → Option Bool := RR (p2 gd) (u2 md)
theorem R_eq {a0} {a1} (h : gd a0 a1) : R ((MHead.r a0), (MHead.r a1)) = some (md a0 a1) := RR_eq (a := (a0, a1)) h
noncomputable def con : Con := CN pats res acc R
theorem okF (a0 : MHead) (a1 : MHead) (hg : gd a0 a1) : F (MHead.r a0) (MHead.r a1) = ret ((md a0 a1) : Bool) := by
  unfold md
  show (bif (a0.fZone != a1.fZone) then ret (false : Bool) else (bif (a0.fEpoch != a1.fEpoch) then ret (false : Bool) else (bif (a0.fKind != a1.fKind) then ret (false : Bool) else (bif (a0.fTime != a1.fTime) then ret (false : Bool) else (bif (a0.fUntil != a1.fUntil) then ret (false : Bool) else (bif (a0.fCount != a1.fCount) then ret (false : Bool) else (bif (a0.fRoot != a1.fRoot) then ret (false : Bool) else (bif (a0.fPrev != a1.fPrev) then ret (false : Bool) else (call (laws_eqKeys.R ((MKeys.r a0.fKeys), (MKeys.r a1.fKeys))) fun v1 => (bif (!v1) then ret (false : Bool) else (call (laws_eqKeys.R ((MKeys.r a0.fHeirs), (MKeys.r a1.fHeirs))) fun v2 => (bif (!v2) then ret (false : Bool) else (bif (a0.fWait != a1.fWait) then ret (false : Bool) else (call (laws_eqKeys.R ((MKeys.r a0.fJudge), (MKeys.r a1.fJudge))) fun v3 => (bif (!v3) then ret (false : Bool) else (bif (!(a0.fFrozen == a1.fFrozen)) then ret (false : Bool) else ret (true : Bool))))))))))))))))) = _
  simp only [call_eq (laws_eqKeys.R_eq (a0 := a0.fKeys) (a1 := a1.fKeys) trivial), laws_eqKeys.md]
  simp only [call_eq (laws_eqKeys.R_eq (a0 := a0.fHeirs) (a1 := a1.fHeirs) trivial), laws_eqKeys.md]
  simp only [call_eq (laws_eqKeys.R_eq (a0 := a0.fJudge) (a1 := a1.fJudge) trivial), laws_eqKeys.md]
  try simp only [bne, int_beq, bool_beq, ba_beq]
  have e : eqB a0 a1 = (eqB a0.fZone a1.fZone && (eqB a0.fEpoch a1.fEpoch && (eqB a0.fKind a1.fKind && (eqB a0.fTime a1.fTime && (eqB a0.fUntil a1.fUntil && (eqB a0.fCount a1.fCount && (eqB a0.fRoot a1.fRoot && (eqB a0.fPrev a1.fPrev && (eqB a0.fKeys a1.fKeys && (eqB a0.fHeirs a1.fHeirs && (eqB a0.fWait a1.fWait && (eqB a0.fJudge a1.fJudge && (eqB a0.fFrozen a1.fFrozen && true))))))))))))) := by
    cases a0; cases a1
    rw [Bool.eq_iff_iff]
    simp only [eqB_iff, Bool.and_eq_true, MHead.mk.injEq, and_true]
  rw [e]
  refine and_step fun _ => ?_
  refine and_step fun _ => ?_
  refine and_step fun _ => ?_
  refine and_step fun _ => ?_
  refine and_step fun _ => ?_
  refine and_step fun _ => ?_
  refine and_step fun _ => ?_
  refine and_step fun _ => ?_
  refine and_step fun _ => ?_
  refine and_step fun _ => ?_
  refine and_step fun _ => ?_
  refine and_step fun _ => ?_
  refine and_step fun _ => ?_
  rfl
theorem valid_ : Valid Try.prog Ev 130 con := VV (run := fun _ x => F x.1 x.2) mix tab_ok (.cons laws_eqKeys.valid_ .nil) Try.func130 (by kernel_rfl) run_eq (fun _ a _ _ hg => ⟨0, okF a.1 a.2 hg⟩)
end laws_eqHead
/-! laws.eqSig -/
namespace laws_eqSig
noncomputable def F (x0 : MSig) (x1 : MSig) : Ans := (bif (x0.fKey != x1.fKey) then ret (false : Bool) else (bif (x0.fTag != x1.fTag) then ret (false : Bool) else ret (true : Bool)))
def pats : List Pat := [.agg [.int .i64, .int .i64], .agg [.int .i64, .int .i64]]
def res : RP := .one (.rd (.bool))
noncomputable abbrev E : Env := ⟨assoc Tab, conG [], 15⟩
set_option maxRecDepth 100000
theorem run_eq (n : Nat) (ls : List L) : runF E (fun _ => []) Try.f175 res n (initS pats ls) = F (MSig.dec ls) (MSig.dec (dropT 2 ls)) := by kernel_rfl
noncomputable def md (a0 : MSig) (a1 : MSig) : Bool := eqB a0 a1
def gd (a0 : MSig) (a1 : MSig) : Prop := True
def acc (ls : List L) : MSig × MSig := ((MSig.dec ls), (MSig.dec (dropT 2 ls)))
noncomputable def R : (MSig × MSig) → Option Bool := RR (p2 gd) (u2 md)
theorem R_eq {a0} {a1} (h : gd a0 a1) : R (a0, a1) = some (md a0 a1) := RR_eq (a := (a0, a1)) h
noncomputable def con : Con := CN pats res acc R
theorem okF (a0 : MSig) (a1 : MSig) (hg : gd a0 a1) : F a0 a1 = ret ((md a0 a1) : Bool) := by
  unfold md
  show (bif (a0.fKey != a1.fKey) then ret (false : Bool) else (bif (a0.fTag != a1.fTag) then ret (false : Bool) else ret (true : Bool))) = _
  try simp only [bne, int_beq, bool_beq, ba_beq]
  have e : eqB a0 a1 = (eqB a0.fKey a1.fKey && (eqB a0.fTag a1.fTag && true)) := by
    cases a0; cases a1
    rw [Bool.eq_iff_iff]
    simp only [eqB_iff, Bool.and_eq_true, MSig.mk.injEq, and_true]
  rw [e]
  refine and_step fun _ => ?_
  refine and_step fun _ => ?_
  rfl
theorem valid_ : Valid Try.prog Ev 175 con := VV (run := fun _ x => F x.1 x.2) mix tab_ok .nil Try.func175 (by kernel_rfl) run_eq (fun _ a _ _ hg => ⟨0, okF a.1 a.2 hg⟩)
end laws_eqSig
/-! laws.eqSigS -/
namespace laws_eqSigS
inductive Pt where
  | p0 (a : List (List L)) (b : List (List L)) (c : Int)
def pid : Pt → Nat
  | .p0 .. => 4
def pvs : Pt → List V
  | .p0 a b c => [.sl none 216 a, .sl none 216 b, .int .i64 c]
def phs : Pt → List Root
  | .p0 a b c => []
noncomputable def step (J : Pt → Ans) : Pt → Ans
  | .p0 a b c => (bif (decide (c < (a.length : Int))) then (bif (decide ((0 : Int) ≤ c)) then (bif (decide (c < (a.length : Int))) then (bif (decide ((0 : Int) ≤ c)) then (bif (decide (c < (b.length : Int))) then (call (laws_eqSig.R ((MSig.at a (Int.toNat c)), (MSig.at b (Int.toNat c)))) fun v1 => (bif (!v1) then ret (false : Bool) else J (.p0 a b (IntKind.i64.wrap (c + 1))))) else none) else none) else none) else none) else ret (true : Bool))
noncomputable def start (J : Pt → Ans) (x0 : List (List L)) (x1 : List (List L)) : Ans := (bif ((x0.length : Int) != (x1.length : Int)) then ret (false : Bool) else J (.p0 x0 x1 0))
def live : Nat → Live := fun i => match i with | 4 => [(0, none), (1, none), (5, none)] | _ => []
def pats : List Pat := [.rd (.sl 216), .rd (.sl 216)]
def res : RP := .one (.rd (.bool))
noncomputable abbrev E : Env := ⟨assoc Tab, conG [(175, laws_eqSig.con)], 27⟩
set_option maxRecDepth 100000
theorem step_eq (I : Heads) (p : Pt) : enterC E live I (pid p) (bodyOf Try.f131) (stOf (live (pid p)) (pvs p) (phs p)) (doneK E Try.f131 res) = step (fun q => I (pid q) (pvs q) (phs q)) p := by
  cases p <;> kernel_rfl
theorem start_eq (I : Heads) (ls : List L) : runC E live I (bodyOf Try.f131) (initS pats ls) (doneK E Try.f131 res) = start (fun q => I (pid q) (pvs q) (phs q)) (ls.headD .hole).toSl ((dropT 1 ls).headD .hole).toSl := by kernel_rfl
theorem run_eq (n : Nat) (ls : List L) : runF E live Try.f131 res n (initS pats ls) = start (iter step n) (ls.headD .hole).toSl ((dropT 1 ls).headD .hole).toSl := runF_iter (id := pid) (vs := pvs) (hs := phs) (step := step) (start := fun J => start J (ls.headD .hole).toSl ((dropT 1 ls).headD .hole).toSl) step_eq (fun I => start_eq I ls) n
noncomputable def md (a0 : List MSig) (a1 : List MSig) : Bool := eqB a0 a1
def gd (a0 : List MSig) (a1 : List MSig) : Prop := True
def acc (ls : List L) : List (List L) × List (List L) := ((ls.headD .hole).toSl, ((dropT 1 ls).headD .hole).toSl)
noncomputable def R : (List (List L) × List (List L)) → Option Bool := RR (p2 gd) (u2 md)
theorem R_eq {a0} {a1} (h : gd a0 a1) : R ((a0.map MSig.row), (a1.map MSig.row)) = some (md a0 a1) := RR_eq (a := (a0, a1)) h
noncomputable def con : Con := CN pats res acc R
theorem okF (a0 : List MSig) (a1 : List MSig) (hg : gd a0 a1) (h0 : a0.length ≤ maxLen) (h1 : a1.length ≤ maxLen) : ∃ n, start (iter step n) (a0.map MSig.row) (a1.map MSig.row) = ret ((md a0 a1) : Bool) := by
  unfold start md
  simp only [List.length_map]
  refine eq_list (pt := fun i => Pt.p0 (a0.map MSig.row) (a1.map MSig.row) (i : Int)) (fun hl J i h h2 => ?_) (fun J => ?_)
  · simp only [step, List.length_map, lt_dec h, lt_dec h2, zle_dec, cond_true, toNat_nat, MSig.at_row h, MSig.at_row h2]
    rw [wrap_succ h h0]
    rw [call_eq (laws_eqSig.R_eq (a0 := a0[i]) (a1 := a1[i]) trivial), laws_eqSig.md]
    cases eqB a0[i] a1[i] <;> rfl
  · simp only [step, List.length_map, nlt_dec, cond_false]
theorem valid_ : Valid Try.prog Ev 131 con := VV (run := fun n x => start (iter step n) x.1 x.2) mix tab_ok (.cons laws_eqSig.valid_ .nil) Try.func131 (by kernel_rfl) run_eq (fun ls a hl e hg => okF a.1 a.2 hg (by have h : (ls.headD .hole).toSl.length ≤ maxLen := hl.1.len; have e : a.1.map MSig.row = (ls.headD .hole).toSl := (congrArg (fun x => x.1) e.symm); rw [← e] at h; simpa using h) (by have h : ((dropT 1 ls).headD .hole).toSl.length ≤ maxLen := hl.2.1.len; have e : a.2.map MSig.row = ((dropT 1 ls).headD .hole).toSl := (congrArg (fun x => x.2) e.symm); rw [← e] at h; simpa using h))
end laws_eqSigS
/-! laws.eqSigned -/
namespace laws_eqSigned
noncomputable def F (x0 : RSigned) (x1 : RSigned) : Ans := (call (laws_eqHead.R (x0.fHead, x1.fHead)) fun v1 => (bif (!v1) then ret (false : Bool) else (call (laws_eqSigS.R (x0.fSigs, x1.fSigs)) fun v2 => (bif (!v2) then ret (false : Bool) else ret (true : Bool)))))
def pats : List Pat := [.agg [.int .i64, .int .i64, .int .i64, .int .i64, .int .i64, .int .i64, .int .i64, .int .i64, .sl 3, .int .i64, .sl 3, .int .i64, .int .i64, .sl 3, .int .i64, .bool, .sl 216], .agg [.int .i64, .int .i64, .int .i64, .int .i64, .int .i64, .int .i64, .int .i64, .int .i64, .sl 3, .int .i64, .sl 3, .int .i64, .int .i64, .sl 3, .int .i64, .bool, .sl 216]]
def res : RP := .one (.rd (.bool))
noncomputable abbrev E : Env := ⟨assoc Tab, conG [(130, laws_eqHead.con), (131, laws_eqSigS.con)], 17⟩
set_option maxRecDepth 100000
theorem run_eq (n : Nat) (ls : List L) : runF E (fun _ => []) Try.f79 res n (initS pats ls) = F (RSigned.dec ls) (RSigned.dec (dropT 17 ls)) := by kernel_rfl
noncomputable def md (a0 : MSigned) (a1 : MSigned) : Bool := eqB a0 a1
def gd (a0 : MSigned) (a1 : MSigned) : Prop := True
def acc (ls : List L) : RSigned × RSigned := ((RSigned.dec ls), (RSigned.dec (dropT 17 ls)))
noncomputable def R : (RSigned × RSigned) → Option Bool := RR (p2 gd) (u2 md)
theorem R_eq {a0} {a1} (h : gd a0 a1) : R ((MSigned.r a0), (MSigned.r a1)) = some (md a0 a1) := RR_eq (a := (a0, a1)) h
noncomputable def con : Con := CN pats res acc R
theorem okF (a0 : MSigned) (a1 : MSigned) (hg : gd a0 a1) : F (MSigned.r a0) (MSigned.r a1) = ret ((md a0 a1) : Bool) := by
  unfold md
  show (call (laws_eqHead.R ((MHead.r a0.fHead), (MHead.r a1.fHead))) fun v1 => (bif (!v1) then ret (false : Bool) else (call (laws_eqSigS.R ((a0.fSigs.map MSig.row), (a1.fSigs.map MSig.row))) fun v2 => (bif (!v2) then ret (false : Bool) else ret (true : Bool))))) = _
  simp only [call_eq (laws_eqHead.R_eq (a0 := a0.fHead) (a1 := a1.fHead) trivial), laws_eqHead.md]
  simp only [call_eq (laws_eqSigS.R_eq (a0 := a0.fSigs) (a1 := a1.fSigs) trivial), laws_eqSigS.md]
  try simp only [bne, int_beq, bool_beq, ba_beq]
  have e : eqB a0 a1 = (eqB a0.fHead a1.fHead && (eqB a0.fSigs a1.fSigs && true)) := by
    cases a0; cases a1
    rw [Bool.eq_iff_iff]
    simp only [eqB_iff, Bool.and_eq_true, MSigned.mk.injEq, and_true]
  rw [e]
  refine and_step fun _ => ?_
  refine and_step fun _ => ?_
  rfl
theorem valid_ : Valid Try.prog Ev 79 con := VV (run := fun _ x => F x.1 x.2) mix tab_ok (.cons laws_eqHead.valid_ (.cons laws_eqSigS.valid_ .nil)) Try.func79 (by kernel_rfl) run_eq (fun _ a _ _ hg => ⟨0, okF a.1 a.2 hg⟩)
end laws_eqSigned
/-! laws.eqSignedS -/
namespace laws_eqSignedS
inductive Pt where
  | p0 (a : List (List L)) (b : List (List L)) (c : Int)
def pid : Pt → Nat
  | .p0 .. => 4
def pvs : Pt → List V
  | .p0 a b c => [.sl none 119 a, .sl none 119 b, .int .i64 c]
def phs : Pt → List Root
  | .p0 a b c => []
noncomputable def step (J : Pt → Ans) : Pt → Ans
  | .p0 a b c => (bif (decide (c < (a.length : Int))) then (bif (decide ((0 : Int) ≤ c)) then (bif (decide (c < (a.length : Int))) then (bif (decide ((0 : Int) ≤ c)) then (bif (decide (c < (b.length : Int))) then (call (laws_eqSigned.R ((RSigned.at a (Int.toNat c)), (RSigned.at b (Int.toNat c)))) fun v1 => (bif (!v1) then ret (false : Bool) else J (.p0 a b (IntKind.i64.wrap (c + 1))))) else none) else none) else none) else none) else ret (true : Bool))
noncomputable def start (J : Pt → Ans) (x0 : List (List L)) (x1 : List (List L)) : Ans := (bif ((x0.length : Int) != (x1.length : Int)) then ret (false : Bool) else J (.p0 x0 x1 0))
def live : Nat → Live := fun i => match i with | 4 => [(0, none), (1, none), (5, none)] | _ => []
def pats : List Pat := [.rd (.sl 119), .rd (.sl 119)]
def res : RP := .one (.rd (.bool))
noncomputable abbrev E : Env := ⟨assoc Tab, conG [(79, laws_eqSigned.con)], 27⟩
set_option maxRecDepth 100000
theorem step_eq (I : Heads) (p : Pt) : enterC E live I (pid p) (bodyOf Try.f26) (stOf (live (pid p)) (pvs p) (phs p)) (doneK E Try.f26 res) = step (fun q => I (pid q) (pvs q) (phs q)) p := by
  cases p <;> kernel_rfl
theorem start_eq (I : Heads) (ls : List L) : runC E live I (bodyOf Try.f26) (initS pats ls) (doneK E Try.f26 res) = start (fun q => I (pid q) (pvs q) (phs q)) (ls.headD .hole).toSl ((dropT 1 ls).headD .hole).toSl := by kernel_rfl
theorem run_eq (n : Nat) (ls : List L) : runF E live Try.f26 res n (initS pats ls) = start (iter step n) (ls.headD .hole).toSl ((dropT 1 ls).headD .hole).toSl := runF_iter (id := pid) (vs := pvs) (hs := phs) (step := step) (start := fun J => start J (ls.headD .hole).toSl ((dropT 1 ls).headD .hole).toSl) step_eq (fun I => start_eq I ls) n
noncomputable def md (a0 : List MSigned) (a1 : List MSigned) : Bool := eqB a0 a1
def gd (a0 : List MSigned) (a1 : List MSigned) : Prop := True
def acc (ls : List L) : List (List L) × List (List L) := ((ls.headD .hole).toSl, ((dropT 1 ls).headD .hole).toSl)
noncomputable def R : (List (List L) × List (List L)) → Option Bool := RR (p2 gd) (u2 md)
theorem R_eq {a0} {a1} (h : gd a0 a1) : R ((a0.map MSigned.row), (a1.map MSigned.row)) = some (md a0 a1) := RR_eq (a := (a0, a1)) h
noncomputable def con : Con := CN pats res acc R
theorem okF (a0 : List MSigned) (a1 : List MSigned) (hg : gd a0 a1) (h0 : a0.length ≤ maxLen) (h1 : a1.length ≤ maxLen) : ∃ n, start (iter step n) (a0.map MSigned.row) (a1.map MSigned.row) = ret ((md a0 a1) : Bool) := by
  unfold start md
  simp only [List.length_map]
  refine eq_list (pt := fun i => Pt.p0 (a0.map MSigned.row) (a1.map MSigned.row) (i : Int)) (fun hl J i h h2 => ?_) (fun J => ?_)
  · simp only [step, List.length_map, lt_dec h, lt_dec h2, zle_dec, cond_true, toNat_nat, MSigned.at_row h, MSigned.at_row h2]
    rw [wrap_succ h h0]
    rw [call_eq (laws_eqSigned.R_eq (a0 := a0[i]) (a1 := a1[i]) trivial), laws_eqSigned.md]
    cases eqB a0[i] a1[i] <;> rfl
  · simp only [step, List.length_map, nlt_dec, cond_false]
theorem valid_ : Valid Try.prog Ev 26 con := VV (run := fun n x => start (iter step n) x.1 x.2) mix tab_ok (.cons laws_eqSigned.valid_ .nil) Try.func26 (by kernel_rfl) run_eq (fun ls a hl e hg => okF a.1 a.2 hg (by have h : (ls.headD .hole).toSl.length ≤ maxLen := hl.1.len; have e : a.1.map MSigned.row = (ls.headD .hole).toSl := (congrArg (fun x => x.1) e.symm); rw [← e] at h; simpa using h) (by have h : ((dropT 1 ls).headD .hole).toSl.length ≤ maxLen := hl.2.1.len; have e : a.2.map MSigned.row = ((dropT 1 ls).headD .hole).toSl := (congrArg (fun x => x.2) e.symm); rw [← e] at h; simpa using h))
end laws_eqSignedS
/-! laws.eqEntry -/
namespace laws_eqEntry
noncomputable def F (x0 : REntry) (x1 : REntry) : Ans := (bif (!(x0.fLabel == x1.fLabel)) then ret (false : Bool) else (bif (x0.fKind != x1.fKind) then ret (false : Bool) else (bif (x0.fValue != x1.fValue) then ret (false : Bool) else (call (laws_eqStringS.R (x0.fPath, x1.fPath)) fun v1 => (bif (!v1) then ret (false : Bool) else ret (true : Bool))))))
def pats : List Pat := [.agg [.str, .int .i64, .int .i64, .sl 9], .agg [.str, .int .i64, .int .i64, .sl 9]]
def res : RP := .one (.rd (.bool))
noncomputable abbrev E : Env := ⟨assoc Tab, conG [(123, laws_eqStringS.con)], 26⟩
set_option maxRecDepth 100000
theorem run_eq (n : Nat) (ls : List L) : runF E (fun _ => []) Try.f74 res n (initS pats ls) = F (REntry.dec ls) (REntry.dec (dropT 4 ls)) := by kernel_rfl
noncomputable def md (a0 : MEntry) (a1 : MEntry) : Bool := eqB a0 a1
def gd (a0 : MEntry) (a1 : MEntry) : Prop := True
def acc (ls : List L) : REntry × REntry := ((REntry.dec ls), (REntry.dec (dropT 4 ls)))
noncomputable def R : (REntry × REntry) → Option Bool := RR (p2 gd) (u2 md)
theorem R_eq {a0} {a1} (h : gd a0 a1) : R ((MEntry.r a0), (MEntry.r a1)) = some (md a0 a1) := RR_eq (a := (a0, a1)) h
noncomputable def con : Con := CN pats res acc R
theorem okF (a0 : MEntry) (a1 : MEntry) (hg : gd a0 a1) : F (MEntry.r a0) (MEntry.r a1) = ret ((md a0 a1) : Bool) := by
  unfold md
  show (bif (!(a0.fLabel == a1.fLabel)) then ret (false : Bool) else (bif (a0.fKind != a1.fKind) then ret (false : Bool) else (bif (a0.fValue != a1.fValue) then ret (false : Bool) else (call (laws_eqStringS.R ((a0.fPath.map sRow), (a1.fPath.map sRow))) fun v1 => (bif (!v1) then ret (false : Bool) else ret (true : Bool)))))) = _
  simp only [call_eq (laws_eqStringS.R_eq (a0 := a0.fPath) (a1 := a1.fPath) trivial), laws_eqStringS.md]
  try simp only [bne, int_beq, bool_beq, ba_beq]
  have e : eqB a0 a1 = (eqB a0.fLabel a1.fLabel && (eqB a0.fKind a1.fKind && (eqB a0.fValue a1.fValue && (eqB a0.fPath a1.fPath && true)))) := by
    cases a0; cases a1
    rw [Bool.eq_iff_iff]
    simp only [eqB_iff, Bool.and_eq_true, MEntry.mk.injEq, and_true]
  rw [e]
  refine and_step fun _ => ?_
  refine and_step fun _ => ?_
  refine and_step fun _ => ?_
  refine and_step fun _ => ?_
  rfl
theorem valid_ : Valid Try.prog Ev 74 con := VV (run := fun _ x => F x.1 x.2) mix tab_ok (.cons laws_eqStringS.valid_ .nil) Try.func74 (by kernel_rfl) run_eq (fun _ a _ _ hg => ⟨0, okF a.1 a.2 hg⟩)
end laws_eqEntry
/-! laws.eqProof -/
namespace laws_eqProof
noncomputable def F (x0 : RProof) (x1 : RProof) : Ans := (bif (x0.fAt != x1.fAt) then ret (false : Bool) else (call (laws_eqIntS.R (x0.fPath, x1.fPath)) fun v1 => (bif (!v1) then ret (false : Bool) else ret (true : Bool))))
def pats : List Pat := [.agg [.int .i64, .sl 3], .agg [.int .i64, .sl 3]]
def res : RP := .one (.rd (.bool))
noncomputable abbrev E : Env := ⟨assoc Tab, conG [(94, laws_eqIntS.con)], 16⟩
set_option maxRecDepth 100000
theorem run_eq (n : Nat) (ls : List L) : runF E (fun _ => []) Try.f204 res n (initS pats ls) = F (RProof.dec ls) (RProof.dec (dropT 2 ls)) := by kernel_rfl
noncomputable def md (a0 : MProof) (a1 : MProof) : Bool := eqB a0 a1
def gd (a0 : MProof) (a1 : MProof) : Prop := True
def acc (ls : List L) : RProof × RProof := ((RProof.dec ls), (RProof.dec (dropT 2 ls)))
noncomputable def R : (RProof × RProof) → Option Bool := RR (p2 gd) (u2 md)
theorem R_eq {a0} {a1} (h : gd a0 a1) : R ((MProof.r a0), (MProof.r a1)) = some (md a0 a1) := RR_eq (a := (a0, a1)) h
noncomputable def con : Con := CN pats res acc R
theorem okF (a0 : MProof) (a1 : MProof) (hg : gd a0 a1) : F (MProof.r a0) (MProof.r a1) = ret ((md a0 a1) : Bool) := by
  unfold md
  show (bif (a0.fAt != a1.fAt) then ret (false : Bool) else (call (laws_eqIntS.R ((a0.fPath.map iRow), (a1.fPath.map iRow))) fun v1 => (bif (!v1) then ret (false : Bool) else ret (true : Bool)))) = _
  simp only [call_eq (laws_eqIntS.R_eq (a0 := a0.fPath) (a1 := a1.fPath) trivial), laws_eqIntS.md]
  try simp only [bne, int_beq, bool_beq, ba_beq]
  have e : eqB a0 a1 = (eqB a0.fAt a1.fAt && (eqB a0.fPath a1.fPath && true)) := by
    cases a0; cases a1
    rw [Bool.eq_iff_iff]
    simp only [eqB_iff, Bool.and_eq_true, MProof.mk.injEq, and_true]
  rw [e]
  refine and_step fun _ => ?_
  refine and_step fun _ => ?_
  rfl
theorem valid_ : Valid Try.prog Ev 204 con := VV (run := fun _ x => F x.1 x.2) mix tab_ok (.cons laws_eqIntS.valid_ .nil) Try.func204 (by kernel_rfl) run_eq (fun _ a _ _ hg => ⟨0, okF a.1 a.2 hg⟩)
end laws_eqProof
/-! laws.eqGap -/
namespace laws_eqGap
noncomputable def F (x0 : RGap) (x1 : RGap) : Ans := (bif (x0.fAt != x1.fAt) then ret (false : Bool) else (call (laws_eqEntry.R (x0.fBefore, x1.fBefore)) fun v1 => (bif (!v1) then ret (false : Bool) else (call (laws_eqEntry.R (x0.fAfter, x1.fAfter)) fun v2 => (bif (!v2) then ret (false : Bool) else (call (laws_eqProof.R (x0.fLeft, x1.fLeft)) fun v3 => (bif (!v3) then ret (false : Bool) else (call (laws_eqProof.R (x0.fRight, x1.fRight)) fun v4 => (bif (!v4) then ret (false : Bool) else ret (true : Bool))))))))))
def pats : List Pat := [.agg [.int .i64, .str, .int .i64, .int .i64, .sl 9, .str, .int .i64, .int .i64, .sl 9, .int .i64, .sl 3, .int .i64, .sl 3], .agg [.int .i64, .str, .int .i64, .int .i64, .sl 9, .str, .int .i64, .int .i64, .sl 9, .int .i64, .sl 3, .int .i64, .sl 3]]
def res : RP := .one (.rd (.bool))
noncomputable abbrev E : Env := ⟨assoc Tab, conG [(74, laws_eqEntry.con), (204, laws_eqProof.con)], 34⟩
set_option maxRecDepth 100000
theorem run_eq (n : Nat) (ls : List L) : runF E (fun _ => []) Try.f205 res n (initS pats ls) = F (RGap.dec ls) (RGap.dec (dropT 13 ls)) := by kernel_rfl
noncomputable def md (a0 : MGap) (a1 : MGap) : Bool := eqB a0 a1
def gd (a0 : MGap) (a1 : MGap) : Prop := True
def acc (ls : List L) : RGap × RGap := ((RGap.dec ls), (RGap.dec (dropT 13 ls)))
noncomputable def R : (RGap × RGap) → Option Bool := RR (p2 gd) (u2 md)
theorem R_eq {a0} {a1} (h : gd a0 a1) : R ((MGap.r a0), (MGap.r a1)) = some (md a0 a1) := RR_eq (a := (a0, a1)) h
noncomputable def con : Con := CN pats res acc R
theorem okF (a0 : MGap) (a1 : MGap) (hg : gd a0 a1) : F (MGap.r a0) (MGap.r a1) = ret ((md a0 a1) : Bool) := by
  unfold md
  show (bif (a0.fAt != a1.fAt) then ret (false : Bool) else (call (laws_eqEntry.R ((MEntry.r a0.fBefore), (MEntry.r a1.fBefore))) fun v1 => (bif (!v1) then ret (false : Bool) else (call (laws_eqEntry.R ((MEntry.r a0.fAfter), (MEntry.r a1.fAfter))) fun v2 => (bif (!v2) then ret (false : Bool) else (call (laws_eqProof.R ((MProof.r a0.fLeft), (MProof.r a1.fLeft))) fun v3 => (bif (!v3) then ret (false : Bool) else (call (laws_eqProof.R ((MProof.r a0.fRight), (MProof.r a1.fRight))) fun v4 => (bif (!v4) then ret (false : Bool) else ret (true : Bool)))))))))) = _
  simp only [call_eq (laws_eqEntry.R_eq (a0 := a0.fBefore) (a1 := a1.fBefore) trivial), laws_eqEntry.md]
  simp only [call_eq (laws_eqEntry.R_eq (a0 := a0.fAfter) (a1 := a1.fAfter) trivial), laws_eqEntry.md]
  simp only [call_eq (laws_eqProof.R_eq (a0 := a0.fLeft) (a1 := a1.fLeft) trivial), laws_eqProof.md]
  simp only [call_eq (laws_eqProof.R_eq (a0 := a0.fRight) (a1 := a1.fRight) trivial), laws_eqProof.md]
  try simp only [bne, int_beq, bool_beq, ba_beq]
  have e : eqB a0 a1 = (eqB a0.fAt a1.fAt && (eqB a0.fBefore a1.fBefore && (eqB a0.fAfter a1.fAfter && (eqB a0.fLeft a1.fLeft && (eqB a0.fRight a1.fRight && true))))) := by
    cases a0; cases a1
    rw [Bool.eq_iff_iff]
    simp only [eqB_iff, Bool.and_eq_true, MGap.mk.injEq, and_true]
  rw [e]
  refine and_step fun _ => ?_
  refine and_step fun _ => ?_
  refine and_step fun _ => ?_
  refine and_step fun _ => ?_
  refine and_step fun _ => ?_
  rfl
theorem valid_ : Valid Try.prog Ev 205 con := VV (run := fun _ x => F x.1 x.2) mix tab_ok (.cons laws_eqEntry.valid_ (.cons laws_eqProof.valid_ .nil)) Try.func205 (by kernel_rfl) run_eq (fun _ a _ _ hg => ⟨0, okF a.1 a.2 hg⟩)
end laws_eqGap
/-! laws.eqAnswer -/
namespace laws_eqAnswer
noncomputable def F (x0 : RAnswer) (x1 : RAnswer) : Ans := (call (laws_eqSignedS.R (x0.fChain, x1.fChain)) fun v1 => (bif (!v1) then ret (false : Bool) else (bif (!(x0.fFound == x1.fFound)) then ret (false : Bool) else (call (laws_eqEntry.R (x0.fEntry, x1.fEntry)) fun v2 => (bif (!v2) then ret (false : Bool) else (call (laws_eqProof.R (x0.fProof, x1.fProof)) fun v3 => (bif (!v3) then ret (false : Bool) else (call (laws_eqGap.R (x0.fGap, x1.fGap)) fun v4 => (bif (!v4) then ret (false : Bool) else ret (true : Bool))))))))))
def pats : List Pat := [.agg [.sl 119, .bool, .str, .int .i64, .int .i64, .sl 9, .int .i64, .sl 3, .int .i64, .str, .int .i64, .int .i64, .sl 9, .str, .int .i64, .int .i64, .sl 9, .int .i64, .sl 3, .int .i64, .sl 3], .agg [.sl 119, .bool, .str, .int .i64, .int .i64, .sl 9, .int .i64, .sl 3, .int .i64, .str, .int .i64, .int .i64, .sl 9, .str, .int .i64, .int .i64, .sl 9, .int .i64, .sl 3, .int .i64, .sl 3]]
def res : RP := .one (.rd (.bool))
noncomputable abbrev E : Env := ⟨assoc Tab, conG [(26, laws_eqSignedS.con), (74, laws_eqEntry.con), (204, laws_eqProof.con), (205, laws_eqGap.con)], 34⟩
set_option maxRecDepth 100000
theorem run_eq (n : Nat) (ls : List L) : runF E (fun _ => []) Try.f190 res n (initS pats ls) = F (RAnswer.dec ls) (RAnswer.dec (dropT 21 ls)) := by kernel_rfl
noncomputable def md (a0 : MAnswer) (a1 : MAnswer) : Bool := eqB a0 a1
def gd (a0 : MAnswer) (a1 : MAnswer) : Prop := True
def acc (ls : List L) : RAnswer × RAnswer := ((RAnswer.dec ls), (RAnswer.dec (dropT 21 ls)))
noncomputable def R : (RAnswer × RAnswer) → Option Bool := RR (p2 gd) (u2 md)
theorem R_eq {a0} {a1} (h : gd a0 a1) : R ((MAnswer.r a0), (MAnswer.r a1)) = some (md a0 a1) := RR_eq (a := (a0, a1)) h
noncomputable def con : Con := CN pats res acc R
theorem okF (a0 : MAnswer) (a1 : MAnswer) (hg : gd a0 a1) : F (MAnswer.r a0) (MAnswer.r a1) = ret ((md a0 a1) : Bool) := by
  unfold md
  show (call (laws_eqSignedS.R ((a0.fChain.map MSigned.row), (a1.fChain.map MSigned.row))) fun v1 => (bif (!v1) then ret (false : Bool) else (bif (!(a0.fFound == a1.fFound)) then ret (false : Bool) else (call (laws_eqEntry.R ((MEntry.r a0.fEntry), (MEntry.r a1.fEntry))) fun v2 => (bif (!v2) then ret (false : Bool) else (call (laws_eqProof.R ((MProof.r a0.fProof), (MProof.r a1.fProof))) fun v3 => (bif (!v3) then ret (false : Bool) else (call (laws_eqGap.R ((MGap.r a0.fGap), (MGap.r a1.fGap))) fun v4 => (bif (!v4) then ret (false : Bool) else ret (true : Bool)))))))))) = _
  simp only [call_eq (laws_eqSignedS.R_eq (a0 := a0.fChain) (a1 := a1.fChain) trivial), laws_eqSignedS.md]
  simp only [call_eq (laws_eqEntry.R_eq (a0 := a0.fEntry) (a1 := a1.fEntry) trivial), laws_eqEntry.md]
  simp only [call_eq (laws_eqProof.R_eq (a0 := a0.fProof) (a1 := a1.fProof) trivial), laws_eqProof.md]
  simp only [call_eq (laws_eqGap.R_eq (a0 := a0.fGap) (a1 := a1.fGap) trivial), laws_eqGap.md]
  try simp only [bne, int_beq, bool_beq, ba_beq]
  have e : eqB a0 a1 = (eqB a0.fChain a1.fChain && (eqB a0.fFound a1.fFound && (eqB a0.fEntry a1.fEntry && (eqB a0.fProof a1.fProof && (eqB a0.fGap a1.fGap && true))))) := by
    cases a0; cases a1
    rw [Bool.eq_iff_iff]
    simp only [eqB_iff, Bool.and_eq_true, MAnswer.mk.injEq, and_true]
  rw [e]
  refine and_step fun _ => ?_
  refine and_step fun _ => ?_
  refine and_step fun _ => ?_
  refine and_step fun _ => ?_
  refine and_step fun _ => ?_
  rfl
theorem valid_ : Valid Try.prog Ev 190 con := VV (run := fun _ x => F x.1 x.2) mix tab_ok (.cons laws_eqSignedS.valid_ (.cons laws_eqEntry.valid_ (.cons laws_eqProof.valid_ (.cons laws_eqGap.valid_ .nil)))) Try.func190 (by kernel_rfl) run_eq (fun _ a _ _ hg => ⟨0, okF a.1 a.2 hg⟩)
end laws_eqAnswer
/-! laws.eqStored -/
namespace laws_eqStored
noncomputable def F (x0 : RStored) (x1 : RStored) : Ans := (bif (x0.fZone != x1.fZone) then ret (false : Bool) else (bif (!(x0.fLabel == x1.fLabel)) then ret (false : Bool) else (call (laws_eqAnswer.R (x0.fAnswer, x1.fAnswer)) fun v1 => (bif (!v1) then ret (false : Bool) else ret (true : Bool)))))
def pats : List Pat := [.agg [.int .i64, .str, .sl 119, .bool, .str, .int .i64, .int .i64, .sl 9, .int .i64, .sl 3, .int .i64, .str, .int .i64, .int .i64, .sl 9, .str, .int .i64, .int .i64, .sl 9, .int .i64, .sl 3, .int .i64, .sl 3], .agg [.int .i64, .str, .sl 119, .bool, .str, .int .i64, .int .i64, .sl 9, .int .i64, .sl 3, .int .i64, .str, .int .i64, .int .i64, .sl 9, .str, .int .i64, .int .i64, .sl 9, .int .i64, .sl 3, .int .i64, .sl 3]]
def res : RP := .one (.rd (.bool))
noncomputable abbrev E : Env := ⟨assoc Tab, conG [(190, laws_eqAnswer.con)], 21⟩
set_option maxRecDepth 100000
theorem run_eq (n : Nat) (ls : List L) : runF E (fun _ => []) Try.f170 res n (initS pats ls) = F (RStored.dec ls) (RStored.dec (dropT 23 ls)) := by kernel_rfl
noncomputable def md (a0 : MStored) (a1 : MStored) : Bool := eqB a0 a1
def gd (a0 : MStored) (a1 : MStored) : Prop := True
def acc (ls : List L) : RStored × RStored := ((RStored.dec ls), (RStored.dec (dropT 23 ls)))
noncomputable def R : (RStored × RStored) → Option Bool := RR (p2 gd) (u2 md)
theorem R_eq {a0} {a1} (h : gd a0 a1) : R ((MStored.r a0), (MStored.r a1)) = some (md a0 a1) := RR_eq (a := (a0, a1)) h
noncomputable def con : Con := CN pats res acc R
theorem okF (a0 : MStored) (a1 : MStored) (hg : gd a0 a1) : F (MStored.r a0) (MStored.r a1) = ret ((md a0 a1) : Bool) := by
  unfold md
  show (bif (a0.fZone != a1.fZone) then ret (false : Bool) else (bif (!(a0.fLabel == a1.fLabel)) then ret (false : Bool) else (call (laws_eqAnswer.R ((MAnswer.r a0.fAnswer), (MAnswer.r a1.fAnswer))) fun v1 => (bif (!v1) then ret (false : Bool) else ret (true : Bool))))) = _
  simp only [call_eq (laws_eqAnswer.R_eq (a0 := a0.fAnswer) (a1 := a1.fAnswer) trivial), laws_eqAnswer.md]
  try simp only [bne, int_beq, bool_beq, ba_beq]
  have e : eqB a0 a1 = (eqB a0.fZone a1.fZone && (eqB a0.fLabel a1.fLabel && (eqB a0.fAnswer a1.fAnswer && true))) := by
    cases a0; cases a1
    rw [Bool.eq_iff_iff]
    simp only [eqB_iff, Bool.and_eq_true, MStored.mk.injEq, and_true]
  rw [e]
  refine and_step fun _ => ?_
  refine and_step fun _ => ?_
  refine and_step fun _ => ?_
  rfl
theorem valid_ : Valid Try.prog Ev 170 con := VV (run := fun _ x => F x.1 x.2) mix tab_ok (.cons laws_eqAnswer.valid_ .nil) Try.func170 (by kernel_rfl) run_eq (fun _ a _ _ hg => ⟨0, okF a.1 a.2 hg⟩)
end laws_eqStored
end Go.DM
