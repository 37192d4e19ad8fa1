/- What the functions compute that the law reaches, and that the law returns true. Conditions: none. -/
import Derived.Test.YtnnmfhhlebbmiaaTy
import Derived.Test.YtnnmfhhlebbmiaaProg
import Derived.Lib.AppendZerosOnto
import Derived.Lib.Bytealg
import Derived.Laws.Externs
import Derived.Lib.Walk
import Derived.Lib.Hide
import Derived.Lib.Strings
set_option linter.all false
namespace Go.DM
open Go.Proofs
def Tab : List (Nat × TI) := [
  (2, ⟨[.int .i64], false, [], 8, false⟩),
  (3, ⟨[.int .i64], false, [], 8, false⟩),
  (4, ⟨[.bool], false, [], 1, false⟩),
  (5, ⟨[.int .u8], false, [], 1, false⟩),
  (6, ⟨[.int .u8], false, [], 1, false⟩),
  (7, ⟨[.int .i64, .int .i64, .bool, .int .u8], true, [(0, 2), (1, 3), (2, 4), (3, 6)], 24, false⟩),
  (8, ⟨[.int .i64, .int .i64, .bool, .int .u8], true, [(0, 2), (1, 3), (2, 4), (3, 6)], 24, false⟩),
  (9, ⟨[.str], false, [], 16, false⟩),
  (10, ⟨[.str], false, [], 16, false⟩),
  (11, ⟨[.str], false, [], 16, false⟩),
  (12, ⟨[.int .u64], false, [], 8, false⟩),
  (13, ⟨[.str, .int .u64], true, [(0, 9), (1, 12)], 24, false⟩),
  (14, ⟨[.str, .int .u64], true, [(0, 9), (1, 12)], 24, false⟩),
  (21, ⟨[.int .i32], false, [], 4, false⟩),
  (22, ⟨[.sl 9], false, [], 24, false⟩),
  (23, ⟨[.str, .int .i64, .int .i64, .sl 9], true, [(0, 9), (1, 3), (2, 3), (3, 22)], 56, false⟩),
  (24, ⟨[.str, .int .i64, .int .i64, .sl 9], true, [(0, 9), (1, 3), (2, 3), (3, 22)], 56, false⟩),
  (25, ⟨[.sl 24], false, [], 24, false⟩),
  (26, ⟨[.int .i64, .str, .int .i64, .int .i64, .sl 9, .sl 24], true, [(0, 3), (1, 24), (5, 25)], 88, false⟩),
  (27, ⟨[.int .i64, .str, .int .i64, .int .i64, .sl 9, .sl 24], true, [(0, 3), (1, 24), (5, 25)], 88, false⟩),
  (30, ⟨[.str, .int .i64, .int .i64, .sl 9], true, [(0, 9), (1, 3), (2, 3), (3, 22)], 56, false⟩),
  (31, ⟨[.sl 30], false, [], 24, false⟩),
  (32, ⟨[.int .i64, .str, .int .i64, .int .i64, .sl 9, .sl 30], true, [(0, 3), (1, 30), (5, 31)], 88, false⟩),
  (33, ⟨[.int .i64, .str, .int .i64, .int .i64, .sl 9, .sl 30], true, [(0, 3), (1, 30), (5, 31)], 88, false⟩),
  (36, ⟨[.sl 113], false, [], 24, false⟩),
  (39, ⟨[.sl 119], false, [], 24, false⟩),
  (43, ⟨[.sl 125], false, [], 24, false⟩),
  (46, ⟨[.sl 128], false, [], 24, false⟩),
  (50, ⟨[.sl 36], false, [], 24, false⟩),
  (51, ⟨[.sl 223], false, [], 24, false⟩),
  (52, ⟨[.sl 36, .sl 223], true, [(0, 50), (1, 51)], 48, false⟩),
  (53, ⟨[.sl 36, .sl 223], true, [(0, 50), (1, 51)], 48, false⟩),
  (54, ⟨[.sl 3], false, [], 24, false⟩),
  (55, ⟨[.sl 36, .sl 223, .int .i64, .str, .int .i64, .int .i64, .sl 9, .sl 3, .int .i64], true, [(0, 53), (2, 3), (3, 24), (7, 54), (8, 3)], 144, false⟩),
  (56, ⟨[.sl 36, .sl 223, .int .i64, .str, .int .i64, .int .i64, .sl 9, .sl 3, .int .i64], true, [(0, 53), (2, 3), (3, 24), (7, 54), (8, 3)], 144, false⟩),
  (59, ⟨[.sl 39], false, [], 24, false⟩),
  (60, ⟨[.sl 199], false, [], 24, false⟩),
  (61, ⟨[.sl 39, .sl 199], true, [(0, 59), (1, 60)], 48, false⟩),
  (62, ⟨[.sl 39, .sl 199], true, [(0, 59), (1, 60)], 48, false⟩),
  (63, ⟨[.sl 39, .sl 199, .int .i64, .str, .int .i64, .int .i64, .sl 9, .sl 3, .int .i64], true, [(0, 62), (2, 3), (3, 30), (7, 54), (8, 3)], 144, false⟩),
  (64, ⟨[.sl 39, .sl 199, .int .i64, .str, .int .i64, .int .i64, .sl 9, .sl 3, .int .i64], true, [(0, 62), (2, 3), (3, 30), (7, 54), (8, 3)], 144, false⟩),
  (72, ⟨[.sl 56], false, [], 24, false⟩),
  (75, ⟨[.sl 64], false, [], 24, false⟩),
  (82, ⟨[.sl 209], false, [], 24, false⟩),
  (83, ⟨[.sl 209], true, [(0, 82)], 24, false⟩),
  (84, ⟨[.sl 209], true, [(0, 82)], 24, false⟩),
  (87, ⟨[.sl 159], false, [], 24, false⟩),
  (88, ⟨[.sl 159], true, [(0, 87)], 24, false⟩),
  (89, ⟨[.sl 159], true, [(0, 87)], 24, false⟩),
  (92, ⟨[.int .i64, .sl 9, .sl 209], true, [(0, 3), (1, 22), (2, 82)], 56, false⟩),
  (93, ⟨[.int .i64, .sl 9, .sl 209], true, [(0, 3), (1, 22), (2, 82)], 56, false⟩),
  (96, ⟨[.int .i64, .sl 9, .sl 159], true, [(0, 3), (1, 22), (2, 87)], 56, false⟩),
  (97, ⟨[.int .i64, .sl 9, .sl 159], true, [(0, 3), (1, 22), (2, 87)], 56, false⟩),
  (107, ⟨[.sl 3, .int .i64], true, [(0, 54), (1, 3)], 32, false⟩),
  (108, ⟨[.sl 3, .int .i64], true, [(0, 54), (1, 3)], 32, false⟩),
  (109, ⟨[.int .i64, .int .i64, .int .i64, .int .i64, .int .i64, .int .i64, .int .i64, .int .i64, .sl 3, .int .i64, .sl 3, .int .i64, .int .i64, .sl 3, .int .i64, .bool], true, [(0, 3), (1, 3), (2, 3), (3, 3), (4, 3), (5, 3), (6, 3), (7, 3), (8, 108), (10, 108), (12, 3), (13, 108), (15, 4)], 176, false⟩),
  (110, ⟨[.int .i64, .int .i64, .int .i64, .int .i64, .int .i64, .int .i64, .int .i64, .int .i64, .sl 3, .int .i64, .sl 3, .int .i64, .int .i64, .sl 3, .int .i64, .bool], true, [(0, 3), (1, 3), (2, 3), (3, 3), (4, 3), (5, 3), (6, 3), (7, 3), (8, 108), (10, 108), (12, 3), (13, 108), (15, 4)], 176, false⟩),
  (111, ⟨[.sl 218], false, [], 24, false⟩),
  (112, ⟨[.int .i64, .int .i64, .int .i64, .int .i64, .int .i64, .int .i64, .int .i64, .int .i64, .sl 3, .int .i64, .sl 3, .int .i64, .int .i64, .sl 3, .int .i64, .bool, .sl 218], true, [(0, 110), (16, 111)], 200, false⟩),
  (113, ⟨[.int .i64, .int .i64, .int .i64, .int .i64, .int .i64, .int .i64, .int .i64, .int .i64, .sl 3, .int .i64, .sl 3, .int .i64, .int .i64, .sl 3, .int .i64, .bool, .sl 218], true, [(0, 110), (16, 111)], 200, false⟩),
  (114, ⟨[.sl 3, .int .i64], true, [(0, 54), (1, 3)], 32, false⟩),
  (115, ⟨[.int .i64, .int .i64, .int .i64, .int .i64, .int .i64, .int .i64, .int .i64, .int .i64, .sl 3, .int .i64, .sl 3, .int .i64, .int .i64, .sl 3, .int .i64, .bool], true, [(0, 3), (1, 3), (2, 3), (3, 3), (4, 3), (5, 3), (6, 3), (7, 3), (8, 114), (10, 114), (12, 3), (13, 114), (15, 4)], 176, false⟩),
  (116, ⟨[.int .i64, .int .i64, .int .i64, .int .i64, .int .i64, .int .i64, .int .i64, .int .i64, .sl 3, .int .i64, .sl 3, .int .i64, .int .i64, .sl 3, .int .i64, .bool], true, [(0, 3), (1, 3), (2, 3), (3, 3), (4, 3), (5, 3), (6, 3), (7, 3), (8, 114), (10, 114), (12, 3), (13, 114), (15, 4)], 176, false⟩),
  (117, ⟨[.sl 216], false, [], 24, false⟩),
  (118, ⟨[.int .i64, .int .i64, .int .i64, .int .i64, .int .i64, .int .i64, .int .i64, .int .i64, .sl 3, .int .i64, .sl 3, .int .i64, .int .i64, .sl 3, .int .i64, .bool, .sl 216], true, [(0, 116), (16, 117)], 200, false⟩),
  (119, ⟨[.int .i64, .int .i64, .int .i64, .int .i64, .int .i64, .int .i64, .int .i64, .int .i64, .sl 3, .int .i64, .sl 3, .int .i64, .int .i64, .sl 3, .int .i64, .bool, .sl 216], true, [(0, 116), (16, 117)], 200, false⟩),
  (124, ⟨[.sl 9, .str, .int .i64, .int .i64, .sl 9], true, [(0, 22), (1, 24)], 80, false⟩),
  (125, ⟨[.sl 9, .str, .int .i64, .int .i64, .sl 9], true, [(0, 22), (1, 24)], 80, false⟩),
  (127, ⟨[.sl 9, .str, .int .i64, .int .i64, .sl 9], true, [(0, 22), (1, 30)], 80, false⟩),
  (128, ⟨[.sl 9, .str, .int .i64, .int .i64, .sl 9], true, [(0, 22), (1, 30)], 80, false⟩),
  (139, ⟨[.sl 54], false, [], 24, false⟩),
  (142, ⟨[.sl 190], false, [], 24, false⟩),
  (152, ⟨[.int .i64, .sl 3], true, [(0, 3), (1, 54)], 32, false⟩),
  (153, ⟨[.int .i64, .sl 3], true, [(0, 3), (1, 54)], 32, false⟩),
  (154, ⟨[.int .i64, .str, .int .i64, .int .i64, .sl 9, .str, .int .i64, .int .i64, .sl 9, .int .i64, .sl 3, .int .i64, .sl 3], true, [(0, 3), (1, 30), (5, 30), (9, 153), (11, 153)], 184, false⟩),
  (155, ⟨[.int .i64, .str, .int .i64, .int .i64, .sl 9, .str, .int .i64, .int .i64, .sl 9, .int .i64, .sl 3, .int .i64, .sl 3], true, [(0, 3), (1, 30), (5, 30), (9, 153), (11, 153)], 184, false⟩),
  (156, ⟨[.sl 119, .bool, .str, .int .i64, .int .i64, .sl 9, .int .i64, .sl 3, .int .i64, .str, .int .i64, .int .i64, .sl 9, .str, .int .i64, .int .i64, .sl 9, .int .i64, .sl 3, .int .i64, .sl 3], true, [(0, 39), (1, 4), (2, 30), (6, 153), (8, 155)], 304, false⟩),
  (157, ⟨[.sl 119, .bool, .str, .int .i64, .int .i64, .sl 9, .int .i64, .sl 3, .int .i64, .str, .int .i64, .int .i64, .sl 9, .str, .int .i64, .int .i64, .sl 9, .int .i64, .sl 3, .int .i64, .sl 3], true, [(0, 39), (1, 4), (2, 30), (6, 153), (8, 155)], 304, false⟩),
  (158, ⟨[.int .i64, .str, .sl 119, .bool, .str, .int .i64, .int .i64, .sl 9, .int .i64, .sl 3, .int .i64, .str, .int .i64, .int .i64, .sl 9, .str, .int .i64, .int .i64, .sl 9, .int .i64, .sl 3, .int .i64, .sl 3], true, [(0, 3), (1, 9), (2, 157)], 328, false⟩),
  (159, ⟨[.int .i64, .str, .sl 119, .bool, .str, .int .i64, .int .i64, .sl 9, .int .i64, .sl 3, .int .i64, .str, .int .i64, .int .i64, .sl 9, .str, .int .i64, .int .i64, .sl 9, .int .i64, .sl 3, .int .i64, .sl 3], true, [(0, 3), (1, 9), (2, 157)], 328, false⟩),
  (189, ⟨[.int .i64, .sl 3, .int .i64, .int .i64], true, [(0, 3), (1, 114), (3, 3)], 48, false⟩),
  (190, ⟨[.int .i64, .sl 3, .int .i64, .int .i64], true, [(0, 3), (1, 114), (3, 3)], 48, false⟩),
  (194, ⟨[.sl 119, .sl 30], true, [(0, 39), (1, 31)], 48, false⟩),
  (195, ⟨[.sl 119, .sl 30], true, [(0, 39), (1, 31)], 48, false⟩),
  (198, ⟨[.int .i64, .int .i64, .int .i64, .int .i64, .int .i64, .int .i64, .int .i64, .int .i64, .sl 3, .int .i64, .sl 3, .int .i64, .int .i64, .sl 3, .int .i64, .bool, .sl 216, .int .i64, .int .i64, .int .i64, .int .i64, .int .i64, .int .i64, .int .i64, .int .i64, .sl 3, .int .i64, .sl 3, .int .i64, .int .i64, .sl 3, .int .i64, .bool, .sl 216, .int .i64, .int .i64, .int .i64, .int .i64, .int .i64, .int .i64, .int .i64, .int .i64, .sl 3, .int .i64, .sl 3, .int .i64, .int .i64, .sl 3, .int .i64, .bool, .sl 216], true, [(0, 119), (17, 119), (34, 119)], 600, false⟩),
  (199, ⟨[.int .i64, .int .i64, .int .i64, .int .i64, .int .i64, .int .i64, .int .i64, .int .i64, .sl 3, .int .i64, .sl 3, .int .i64, .int .i64, .sl 3, .int .i64, .bool, .sl 216, .int .i64, .int .i64, .int .i64, .int .i64, .int .i64, .int .i64, .int .i64, .int .i64, .sl 3, .int .i64, .sl 3, .int .i64, .int .i64, .sl 3, .int .i64, .bool, .sl 216, .int .i64, .int .i64, .int .i64, .int .i64, .int .i64, .int .i64, .int .i64, .int .i64, .sl 3, .int .i64, .sl 3, .int .i64, .int .i64, .sl 3, .int .i64, .bool, .sl 216], true, [(0, 119), (17, 119), (34, 119)], 600, false⟩),
  (203, ⟨[.int .i64, .sl 3], true, [(0, 3), (1, 54)], 32, false⟩),
  (204, ⟨[.int .i64, .str, .int .i64, .int .i64, .sl 9, .str, .int .i64, .int .i64, .sl 9, .int .i64, .sl 3, .int .i64, .sl 3], true, [(0, 3), (1, 24), (5, 24), (9, 203), (11, 203)], 184, false⟩),
  (205, ⟨[.int .i64, .str, .int .i64, .int .i64, .sl 9, .str, .int .i64, .int .i64, .sl 9, .int .i64, .sl 3, .int .i64, .sl 3], true, [(0, 3), (1, 24), (5, 24), (9, 203), (11, 203)], 184, false⟩),
  (206, ⟨[.sl 113, .bool, .str, .int .i64, .int .i64, .sl 9, .int .i64, .sl 3, .int .i64, .str, .int .i64, .int .i64, .sl 9, .str, .int .i64, .int .i64, .sl 9, .int .i64, .sl 3, .int .i64, .sl 3], true, [(0, 36), (1, 4), (2, 24), (6, 203), (8, 205)], 304, false⟩),
  (207, ⟨[.sl 113, .bool, .str, .int .i64, .int .i64, .sl 9, .int .i64, .sl 3, .int .i64, .str, .int .i64, .int .i64, .sl 9, .str, .int .i64, .int .i64, .sl 9, .int .i64, .sl 3, .int .i64, .sl 3], true, [(0, 36), (1, 4), (2, 24), (6, 203), (8, 205)], 304, false⟩),
  (208, ⟨[.int .i64, .str, .sl 113, .bool, .str, .int .i64, .int .i64, .sl 9, .int .i64, .sl 3, .int .i64, .str, .int .i64, .int .i64, .sl 9, .str, .int .i64, .int .i64, .sl 9, .int .i64, .sl 3, .int .i64, .sl 3], true, [(0, 3), (1, 9), (2, 207)], 328, false⟩),
  (209, ⟨[.int .i64, .str, .sl 113, .bool, .str, .int .i64, .int .i64, .sl 9, .int .i64, .sl 3, .int .i64, .str, .int .i64, .int .i64, .sl 9, .str, .int .i64, .int .i64, .sl 9, .int .i64, .sl 3, .int .i64, .sl 3], true, [(0, 3), (1, 9), (2, 207)], 328, false⟩),
  (215, ⟨[.int .i64, .int .i64], true, [(0, 3), (1, 3)], 16, false⟩),
  (216, ⟨[.int .i64, .int .i64], true, [(0, 3), (1, 3)], 16, true⟩),
  (218, ⟨[.int .i64, .int .i64], true, [(0, 3), (1, 3)], 16, true⟩),
  (222, ⟨[.int .i64, .int .i64, .int .i64, .int .i64, .int .i64, .int .i64, .int .i64, .int .i64, .sl 3, .int .i64, .sl 3, .int .i64, .int .i64, .sl 3, .int .i64, .bool, .sl 218, .int .i64, .int .i64, .int .i64, .int .i64, .int .i64, .int .i64, .int .i64, .int .i64, .sl 3, .int .i64, .sl 3, .int .i64, .int .i64, .sl 3, .int .i64, .bool, .sl 218, .int .i64, .int .i64, .int .i64, .int .i64, .int .i64, .int .i64, .int .i64, .int .i64, .sl 3, .int .i64, .sl 3, .int .i64, .int .i64, .sl 3, .int .i64, .bool, .sl 218], true, [(0, 113), (17, 113), (34, 113)], 600, false⟩),
  (223, ⟨[.int .i64, .int .i64, .int .i64, .int .i64, .int .i64, .int .i64, .int .i64, .int .i64, .sl 3, .int .i64, .sl 3, .int .i64, .int .i64, .sl 3, .int .i64, .bool, .sl 218, .int .i64, .int .i64, .int .i64, .int .i64, .int .i64, .int .i64, .int .i64, .int .i64, .sl 3, .int .i64, .sl 3, .int .i64, .int .i64, .sl 3, .int .i64, .bool, .sl 218, .int .i64, .int .i64, .int .i64, .int .i64, .int .i64, .int .i64, .int .i64, .int .i64, .sl 3, .int .i64, .sl 3, .int .i64, .int .i64, .sl 3, .int .i64, .bool, .sl 218], true, [(0, 113), (17, 113), (34, 113)], 600, false⟩),
  (260, ⟨[.int .u32], false, [], 4, false⟩),
  (261, ⟨[.int .u8], false, [], 1, false⟩),
  (262, ⟨[.int .u8], false, [], 1, false⟩),
  (265, ⟨[.int .i32], false, [], 4, false⟩),
  (266, ⟨[.int .i32], false, [], 4, false⟩)]
noncomputable abbrev Ev : Env := ⟨assoc Tab, fun _ => [], 0⟩
theorem tab_ok : tableB Try.prog Tab = true := by kernel_rfl
theorem mix : Try.prog.follows .mixedOrders = true := by kernel_rfl
/-! laws.szStringS -/
namespace laws_szStringS
inductive Pt where
  | p0 (a : List (List L)) (b : Int) (c : Int)
def pid : Pt → Nat
  | .p0 .. => 5
def pvs : Pt → List V
  | .p0 a b c => [.sl none 9 a, .int .i64 b, .int .i64 c]
def phs : Pt → List Root
  | .p0 a b c => []
noncomputable def step (J : Pt → Ans) : Pt → Ans
  | .p0 a b c => (bif (decide (c < (a.length : Int))) then (bif (decide ((0 : Int) ≤ c)) then (bif (decide (c < (a.length : Int))) then (bif (decide ((IntKind.i64.wrap (b - ((sAt a (Int.toNat c)).size : Int))) < 0)) then ret ((-1) : Int) else J (.p0 a (IntKind.i64.wrap (b - ((sAt a (Int.toNat c)).size : Int))) (IntKind.i64.wrap (c + 1)))) else none) else none) else ret (b : Int))
noncomputable def start (J : Pt → Ans) (x0 : List (List L)) (x1 : Int) : Ans := (bif (decide ((IntKind.i64.wrap (x1 - (x0.length : Int))) < 0)) then ret ((-1) : Int) else J (.p0 x0 (IntKind.i64.wrap (x1 - (x0.length : Int))) 0))
def live : Nat → Live := fun i => match i with | 5 => [(0, none), (1, none), (5, none)] | _ => []
def pats : List Pat := [.rd (.sl 9), .rd (.int .i64)]
def res : RP := .one (.rd (.int .i64))
noncomputable abbrev E : Env := ⟨assoc Tab, conG [], 28⟩
set_option maxRecDepth 100000
theorem step_eq (I : Heads) (p : Pt) : enterC E live I (pid p) (bodyOf Try.f119) (stOf (live (pid p)) (pvs p) (phs p)) (doneK E Try.f119 res) = step (fun q => I (pid q) (pvs q) (phs q)) p := by
  cases p <;> kernel_rfl
theorem start_eq (I : Heads) (ls : List L) : runC E live I (bodyOf Try.f119) (initS pats ls) (doneK E Try.f119 res) = start (fun q => I (pid q) (pvs q) (phs q)) (ls.headD .hole).toSl ((dropT 1 ls).headD .hole).toInt := by kernel_rfl
theorem run_eq (n : Nat) (ls : List L) : runF E live Try.f119 res n (initS pats ls) = start (iter step n) (ls.headD .hole).toSl ((dropT 1 ls).headD .hole).toInt := runF_iter (id := pid) (vs := pvs) (hs := phs) (step := step) (start := fun J => start J (ls.headD .hole).toSl ((dropT 1 ls).headD .hole).toInt) step_eq (fun I => start_eq I ls) n
noncomputable def md (a0 : List ByteArray) (a1 : Int) : Int := szM (szL (fun y : ByteArray => y.size) a0) a1
def gd (a0 : List ByteArray) (a1 : Int) : Prop := (SmL maxLen (fun y : ByteArray => y.size ≤ maxLen) a0) ∧ 0 ≤ a1 ∧ a1 ≤ 1048576
def acc (ls : List L) : List (List L) × Int := ((ls.headD .hole).toSl, ((dropT 1 ls).headD .hole).toInt)
noncomputable def R : (List (List L) × Int) → Option Int := RR (p2 gd) (u2 md)
theorem R_eq {a0} {a1} (h : gd a0 a1) : R ((a0.map sRow), a1) = some (md a0 a1) := RR_eq (a := (a0, a1)) h
noncomputable def con : Con := CN pats res acc R
theorem okF (a0 : List ByteArray) (a1 : Int) (hg : gd a0 a1) : ∃ n, start (iter step n) (a0.map sRow) a1 = ret ((md a0 a1) : Int) := by
  obtain ⟨hs, g0, g1⟩ := hg
  unfold start md
  simp only [List.length_map]
  refine sz_list (pt := fun left i => Pt.p0 (a0.map sRow) left (i : Int)) (f := fun y : ByteArray => y.size) hs.1 (fun J i h left p0 p1 => ?_) (fun J left => ?_) g0 g1
  · simp only [step, List.length_map, lt_dec h, zle_dec, cond_true, toNat_nat, sAt_row h]
    rw [sz_wrap p0 p1 (hs.get h), wrap_succ h hs.1]
    by_cases hc : left - ((a0[i].size : Nat) : Int) < 0
    · rw [decide_eq_true hc, if_pos (by omega)]; rfl
    · rw [decide_eq_false hc, if_neg (by omega)]; rfl
  · simp only [step, List.length_map, nlt_dec, cond_false]
theorem valid_ : Valid Try.prog Ev 119 con := VV (run := fun n x => start (iter step n) x.1 x.2) mix tab_ok .nil Try.func119 (by kernel_rfl) run_eq (fun _ a _ _ hg => okF a.1 a.2 hg)
end laws_szStringS
/-! laws.szEntry -/
namespace laws_szEntry
noncomputable def F (x0 : REntry) (x1 : Int) : Ans := (bif (decide ((IntKind.i64.wrap (x1 - (x0.fLabel.size : Int))) < 0)) then ret ((-1) : Int) else (call (laws_szStringS.R (x0.fPath, (IntKind.i64.wrap (x1 - (x0.fLabel.size : Int))))) fun v1 => (bif (decide (v1 < 0)) then ret ((-1) : Int) else ret (v1 : Int))))
def pats : List Pat := [.agg [.str, .int .i64, .int .i64, .sl 9], .rd (.int .i64)]
def res : RP := .one (.rd (.int .i64))
noncomputable abbrev E : Env := ⟨assoc Tab, conG [(119, laws_szStringS.con)], 19⟩
set_option maxRecDepth 100000
theorem run_eq (n : Nat) (ls : List L) : runF E (fun _ => []) Try.f66 res n (initS pats ls) = F (REntry.dec ls) ((dropT 4 ls).headD .hole).toInt := by kernel_rfl
noncomputable def md (a0 : MEntry) (a1 : Int) : Int := szM (MEntry.size a0) a1
def gd (a0 : MEntry) (a1 : Int) : Prop := (MEntry.Sm maxLen a0) ∧ 0 ≤ a1 ∧ a1 ≤ 1048576
def acc (ls : List L) : REntry × Int := ((REntry.dec ls), ((dropT 4 ls).headD .hole).toInt)
noncomputable def R : (REntry × Int) → Option Int := RR (p2 gd) (u2 md)
theorem R_eq {a0} {a1} (h : gd a0 a1) : R ((MEntry.r a0), a1) = some (md a0 a1) := RR_eq (a := (a0, a1)) h
noncomputable def con : Con := CN pats res acc R
theorem okF (a0 : MEntry) (a1 : Int) (hg : gd a0 a1) : F (MEntry.r a0) a1 = ret ((md a0 a1) : Int) := by
  obtain ⟨hs, g0, g1⟩ := hg
  unfold md
  show (bif (decide ((IntKind.i64.wrap (a1 - (a0.fLabel.size : Int))) < 0)) then ret ((-1) : Int) else (call (laws_szStringS.R ((a0.fPath.map sRow), (IntKind.i64.wrap (a1 - (a0.fLabel.size : Int))))) fun v1 => (bif (decide (v1 < 0)) then ret ((-1) : Int) else ret (v1 : Int)))) = _
  rw [sz_wrap (left := a1) (s := a0.fLabel.size) (by omega) (by omega) hs.1]
  by_cases c0 : a1 - ((a0.fLabel.size : Nat) : Int) < 0
  · rw [decide_eq_true c0, cond_true]; rw [show szM (MEntry.size a0) a1 = -1 from szM_neg (by unfold MEntry.size; omega)]; try rfl
  rw [decide_eq_false c0, cond_false]
  rw [call_eq (laws_szStringS.R_eq (a1 := (a1 - ((a0.fLabel.size : Nat) : Int))) ⟨hs.2, by omega, by omega⟩)]
  unfold laws_szStringS.md
  by_cases c1 : (a1 - ((a0.fLabel.size : Nat) : Int)) < ((szL (fun y : ByteArray => y.size) a0.fPath : Nat) : Int)
  · rw [szM_neg c1]; rw [show szM (MEntry.size a0) a1 = -1 from szM_neg (by unfold MEntry.size; omega)]; try rfl
  rw [szM_pos c1, dec_neg (by omega), cond_false]
  rw [show szM (MEntry.size a0) a1 = a1 - ((a0.fLabel.size : Nat) : Int) - ((szL (fun y : ByteArray => y.size) a0.fPath : Nat) : Int) from by rw [szM_pos (by unfold MEntry.size; omega)]; unfold MEntry.size; omega]
theorem valid_ : Valid Try.prog Ev 66 con := VV (run := fun _ x => F x.1 x.2) mix tab_ok (.cons laws_szStringS.valid_ .nil) Try.func66 (by kernel_rfl) run_eq (fun _ a _ _ hg => ⟨0, okF a.1 a.2 hg⟩)
end laws_szEntry
/-! laws.szEntryS -/
namespace laws_szEntryS
inductive Pt where
  | p0 (a : List (List L)) (b : Int) (c : Int)
def pid : Pt → Nat
  | .p0 .. => 5
def pvs : Pt → List V
  | .p0 a b c => [.sl none 24 a, .int .i64 b, .int .i64 c]
def phs : Pt → List Root
  | .p0 a b c => []
noncomputable def step (J : Pt → Ans) : Pt → Ans
  | .p0 a b c => (bif (decide (c < (a.length : Int))) then (bif (decide ((0 : Int) ≤ c)) then (bif (decide (c < (a.length : Int))) then (call (laws_szEntry.R ((REntry.at a (Int.toNat c)), b)) fun v1 => (bif (decide (v1 < 0)) then ret ((-1) : Int) else J (.p0 a v1 (IntKind.i64.wrap (c + 1))))) else none) else none) else ret (b : Int))
noncomputable def start (J : Pt → Ans) (x0 : List (List L)) (x1 : Int) : Ans := (bif (decide ((IntKind.i64.wrap (x1 - (x0.length : Int))) < 0)) then ret ((-1) : Int) else J (.p0 x0 (IntKind.i64.wrap (x1 - (x0.length : Int))) 0))
def live : Nat → Live := fun i => match i with | 5 => [(0, none), (1, none), (5, none)] | _ => []
def pats : List Pat := [.rd (.sl 24), .rd (.int .i64)]
def res : RP := .one (.rd (.int .i64))
noncomputable abbrev E : Env := ⟨assoc Tab, conG [(66, laws_szEntry.con)], 27⟩
set_option maxRecDepth 100000
theorem step_eq (I : Heads) (p : Pt) : enterC E live I (pid p) (bodyOf Try.f67) (stOf (live (pid p)) (pvs p) (phs p)) (doneK E Try.f67 res) = step (fun q => I (pid q) (pvs q) (phs q)) p := by
  cases p <;> kernel_rfl
theorem start_eq (I : Heads) (ls : List L) : runC E live I (bodyOf Try.f67) (initS pats ls) (doneK E Try.f67 res) = start (fun q => I (pid q) (pvs q) (phs q)) (ls.headD .hole).toSl ((dropT 1 ls).headD .hole).toInt := by kernel_rfl
theorem run_eq (n : Nat) (ls : List L) : runF E live Try.f67 res n (initS pats ls) = start (iter step n) (ls.headD .hole).toSl ((dropT 1 ls).headD .hole).toInt := runF_iter (id := pid) (vs := pvs) (hs := phs) (step := step) (start := fun J => start J (ls.headD .hole).toSl ((dropT 1 ls).headD .hole).toInt) step_eq (fun I => start_eq I ls) n
noncomputable def md (a0 : List MEntry) (a1 : Int) : Int := szM (szL (fun y : MEntry => MEntry.size y) a0) a1
def gd (a0 : List MEntry) (a1 : Int) : Prop := (SmL maxLen (fun y : MEntry => MEntry.Sm maxLen y) a0) ∧ 0 ≤ a1 ∧ a1 ≤ 1048576
def acc (ls : List L) : List (List L) × Int := ((ls.headD .hole).toSl, ((dropT 1 ls).headD .hole).toInt)
noncomputable def R : (List (List L) × Int) → Option Int := RR (p2 gd) (u2 md)
theorem R_eq {a0} {a1} (h : gd a0 a1) : R ((a0.map MEntry.row), a1) = some (md a0 a1) := RR_eq (a := (a0, a1)) h
noncomputable def con : Con := CN pats res acc R
theorem okF (a0 : List MEntry) (a1 : Int) (hg : gd a0 a1) : ∃ n, start (iter step n) (a0.map MEntry.row) a1 = ret ((md a0 a1) : Int) := by
  obtain ⟨hs, g0, g1⟩ := hg
  unfold start md
  simp only [List.length_map]
  refine sz_list (pt := fun left i => Pt.p0 (a0.map MEntry.row) left (i : Int)) (f := fun y : MEntry => MEntry.size y) hs.1 (fun J i h left p0 p1 => ?_) (fun J left => ?_) g0 g1
  · simp only [step, List.length_map, lt_dec h, zle_dec, cond_true, toNat_nat, MEntry.at_row h]
    rw [call_eq (laws_szEntry.R_eq ⟨hs.get h, p0, p1⟩), wrap_succ h hs.1]
    unfold laws_szEntry.md
    by_cases hc : left < ((MEntry.size (a0[i]) : Nat) : Int)
    · rw [szM_neg hc, if_pos hc]; rfl
    · rw [szM_pos hc, if_neg hc, dec_neg (by omega)]; rfl
  · simp only [step, List.length_map, nlt_dec, cond_false]
theorem valid_ : Valid Try.prog Ev 67 con := VV (run := fun n x => start (iter step n) x.1 x.2) mix tab_ok (.cons laws_szEntry.valid_ .nil) Try.func67 (by kernel_rfl) run_eq (fun _ a _ _ hg => okF a.1 a.2 hg)
end laws_szEntryS
/-! laws.szDecision -/
namespace laws_szDecision
noncomputable def F (x0 : RDecision) (x1 : Int) : Ans := (call (laws_szEntry.R (x0.fEntry, x1)) fun v1 => (bif (decide (v1 < 0)) then ret ((-1) : Int) else (call (laws_szEntryS.R (x0.fOthers, v1)) fun v2 => (bif (decide (v2 < 0)) then ret ((-1) : Int) else ret (v2 : Int)))))
def pats : List Pat := [.agg [.int .i64, .str, .int .i64, .int .i64, .sl 9, .sl 24], .rd (.int .i64)]
def res : RP := .one (.rd (.int .i64))
noncomputable abbrev E : Env := ⟨assoc Tab, conG [(66, laws_szEntry.con), (67, laws_szEntryS.con)], 18⟩
set_option maxRecDepth 100000
theorem run_eq (n : Nat) (ls : List L) : runF E (fun _ => []) Try.f17 res n (initS pats ls) = F (RDecision.dec ls) ((dropT 6 ls).headD .hole).toInt := by kernel_rfl
noncomputable def md (a0 : MDecision) (a1 : Int) : Int := szM (MDecision.size a0) a1
def gd (a0 : MDecision) (a1 : Int) : Prop := (MDecision.Sm maxLen a0) ∧ 0 ≤ a1 ∧ a1 ≤ 1048576
def acc (ls : List L) : RDecision × Int := ((RDecision.dec ls), ((dropT 6 ls).headD .hole).toInt)
noncomputable def R : (RDecision × Int) → Option Int := RR (p2 gd) (u2 md)
theorem R_eq {a0} {a1} (h : gd a0 a1) : R ((MDecision.r a0), a1) = some (md a0 a1) := RR_eq (a := (a0, a1)) h
noncomputable def con : Con := CN pats res acc R
theorem okF (a0 : MDecision) (a1 : Int) (hg : gd a0 a1) : F (MDecision.r a0) a1 = ret ((md a0 a1) : Int) := by
  obtain ⟨hs, g0, g1⟩ := hg
  unfold md
  show (call (laws_szEntry.R ((MEntry.r a0.fEntry), a1)) fun v1 => (bif (decide (v1 < 0)) then ret ((-1) : Int) else (call (laws_szEntryS.R ((a0.fOthers.map MEntry.row), v1)) fun v2 => (bif (decide (v2 < 0)) then ret ((-1) : Int) else ret (v2 : Int))))) = _
  rw [call_eq (laws_szEntry.R_eq (a1 := a1) ⟨hs.1, by omega, by omega⟩)]
  unfold laws_szEntry.md
  by_cases c0 : a1 < ((MEntry.size a0.fEntry : Nat) : Int)
  · rw [szM_neg c0]; rw [show szM (MDecision.size a0) a1 = -1 from szM_neg (by unfold MDecision.size; omega)]; try rfl
  rw [szM_pos c0, dec_neg (by omega), cond_false]
  rw [call_eq (laws_szEntryS.R_eq (a1 := (a1 - ((MEntry.size a0.fEntry : Nat) : Int))) ⟨hs.2, by omega, by omega⟩)]
  unfold laws_szEntryS.md
  by_cases c1 : (a1 - ((MEntry.size a0.fEntry : Nat) : Int)) < ((szL (fun y : MEntry => MEntry.size y) a0.fOthers : Nat) : Int)
  · rw [szM_neg c1]; rw [show szM (MDecision.size a0) a1 = -1 from szM_neg (by unfold MDecision.size; omega)]; try rfl
  rw [szM_pos c1, dec_neg (by omega), cond_false]
  rw [show szM (MDecision.size a0) a1 = a1 - ((MEntry.size a0.fEntry : Nat) : Int) - ((szL (fun y : MEntry => MEntry.size y) a0.fOthers : Nat) : Int) from by rw [szM_pos (by unfold MDecision.size; omega)]; unfold MDecision.size; omega]
theorem valid_ : Valid Try.prog Ev 17 con := VV (run := fun _ x => F x.1 x.2) mix tab_ok (.cons laws_szEntry.valid_ (.cons laws_szEntryS.valid_ .nil)) Try.func17 (by kernel_rfl) run_eq (fun _ a _ _ hg => ⟨0, okF a.1 a.2 hg⟩)
end laws_szDecision
/-! laws.toStringS -/
namespace laws_toStringS
inductive Pt where
  | p0 (a : List (List L)) (b : Int) (c : List (List L))
def pid : Pt → Nat
  | .p0 .. => 3
def pvs : Pt → List V
  | .p0 a b c => [.sl none 9 a, .own 0, .int .i64 b]
def phs : Pt → List Root
  | .p0 a b c => [.row 9 c]
noncomputable def step (J : Pt → Ans) : Pt → Ans
  | .p0 a b c => (bif (decide (b < (a.length : Int))) then (bif (decide ((0 : Int) ≤ b)) then (bif (decide (b < (a.length : Int))) then (bif (decide ((0 : Int) ≤ b)) then (bif (decide (b < (c.length : Int))) then J (.p0 a (IntKind.i64.wrap (b + 1)) (List.set c (Int.toNat b) [L.str (sAt a (Int.toNat b))])) else none) else none) else none) else none) else ret (c : List (List L)))
noncomputable def start (J : Pt → Ans) (x0 : List (List L)) : Ans := (bif (decide ((0 : Int) ≤ (x0.length : Int))) then (bif (decide ((x0.length : Int) ≤ (x0.length : Int))) then (bif (decide ((x0.length : Int) * 16 ≤ 140737488355328)) then J (.p0 x0 0 (List.replicate (Int.toNat (x0.length : Int)) [L.str ⟨#[]⟩])) else none) else none) else none)
def live : Nat → Live := fun i => match i with | 3 => [(0, none), (3, none), (4, none)] | _ => []
def pats : List Pat := [.rd (.sl 9)]
def res : RP := .one (.fr 9)
noncomputable abbrev E : Env := ⟨assoc Tab, conG [], 22⟩
set_option maxRecDepth 100000
theorem step_eq (I : Heads) (p : Pt) : enterC E live I (pid p) (bodyOf Try.f121) (stOf (live (pid p)) (pvs p) (phs p)) (doneK E Try.f121 res) = step (fun q => I (pid q) (pvs q) (phs q)) p := by
  cases p <;> kernel_rfl
theorem start_eq (I : Heads) (ls : List L) : runC E live I (bodyOf Try.f121) (initS pats ls) (doneK E Try.f121 res) = start (fun q => I (pid q) (pvs q) (phs q)) (ls.headD .hole).toSl := by kernel_rfl
theorem run_eq (n : Nat) (ls : List L) : runF E live Try.f121 res n (initS pats ls) = start (iter step n) (ls.headD .hole).toSl := runF_iter (id := pid) (vs := pvs) (hs := phs) (step := step) (start := fun J => start J (ls.headD .hole).toSl) step_eq (fun I => start_eq I ls) n
noncomputable def md (a0 : List ByteArray) : List ByteArray := a0
def gd (a0 : List ByteArray) : Prop := SmL (2 ^ 36) (fun y : ByteArray => y.size ≤ (2 ^ 36)) a0
def acc (ls : List L) : List (List L) := (ls.headD .hole).toSl
noncomputable def R : (List (List L)) → Option (List (List L)) := RR gd md
theorem R_eq {a0} (h : gd a0) : R (a0.map sRow) = some ((md a0).map sRow) := RR_eq (a := a0) h
noncomputable def con : Con := CN pats res acc R
theorem okF (a0 : List ByteArray) (hg : gd a0) : ∃ n, start (iter step n) (a0.map sRow) = ret (((md a0).map sRow) : List (List L)) := by
  unfold start md
  simp only [List.length_map]
  refine to_list (b := 16) (pt := fun i c => Pt.p0 (a0.map sRow) (i : Int) c) (by have := hg.1; simp at this; omega) (fun J i h c hc => ?_) (fun J c => ?_)
  · simp only [step, List.length_map, lt_dec h, zle_dec, cond_true, toNat_nat, sAt_row h, hc]
    rw [wrap_succ (n := a0.length) h (by have := hg.1; simp only [maxLen]; simp at this; omega)]
    rfl
  · simp only [step, List.length_map, nlt_dec, cond_false]
theorem valid_ : Valid Try.prog Ev 121 con := VV (run := fun n x => start (iter step n) x) mix tab_ok .nil Try.func121 (by kernel_rfl) run_eq (fun _ a _ _ hg => okF a hg)
end laws_toStringS
/-! laws.toEntry -/
namespace laws_toEntry
noncomputable def F (x0 : REntry) : Ans := (call (laws_toStringS.R x0.fPath) fun v1 => ret ((⟨x0.fLabel, x0.fKind, x0.fValue, v1⟩ : REntry) : REntry))
def pats : List Pat := [.agg [.str, .int .i64, .int .i64, .sl 9]]
def res : RP := .agg [.rd (.str), .rd (.int .i64), .rd (.int .i64), .fr 9]
noncomputable abbrev E : Env := ⟨assoc Tab, conG [(121, laws_toStringS.con)], 18⟩
set_option maxRecDepth 100000
theorem run_eq (n : Nat) (ls : List L) : runF E (fun _ => []) Try.f70 res n (initS pats ls) = F (REntry.dec ls) := by kernel_rfl
noncomputable def md (a0 : MEntry) : MEntry := a0
def gd (a0 : MEntry) : Prop := MEntry.Sm (2 ^ 36) a0
def acc (ls : List L) : REntry := (REntry.dec ls)
noncomputable def R : REntry → Option REntry := RR gd md
theorem R_eq {a0} (h : gd a0) : R (MEntry.r a0) = some (MEntry.r (md a0)) := RR_eq (a := a0) h
noncomputable def con : Con := CN pats res acc R
theorem okF (a0 : MEntry) (hg : gd a0) : F (MEntry.r a0) = ret ((MEntry.r (md a0)) : REntry) := by
  unfold md
  show (call (laws_toStringS.R (a0.fPath.map sRow)) fun v1 => ret ((⟨a0.fLabel, a0.fKind, a0.fValue, v1⟩ : REntry) : REntry)) = _
  rw [call_eq (laws_toStringS.R_eq hg.2)]
  rfl
theorem valid_ : Valid Try.prog Ev 70 con := VV (run := fun _ x => F x) mix tab_ok (.cons laws_toStringS.valid_ .nil) Try.func70 (by kernel_rfl) run_eq (fun _ a _ _ hg => ⟨0, okF a hg⟩)
end laws_toEntry
/-! laws.toEntryS -/
namespace laws_toEntryS
inductive Pt where
  | p0 (a : List (List L)) (b : Int) (c : List (List L))
def pid : Pt → Nat
  | .p0 .. => 3
def pvs : Pt → List V
  | .p0 a b c => [.sl none 24 a, .own 0, .int .i64 b]
def phs : Pt → List Root
  | .p0 a b c => [.row 30 c]
noncomputable def step (J : Pt → Ans) : Pt → Ans
  | .p0 a b c => (bif (decide (b < (a.length : Int))) then (bif (decide ((0 : Int) ≤ b)) then (bif (decide (b < (a.length : Int))) then (call (laws_toEntry.R (REntry.at a (Int.toNat b))) fun v1 => (bif (decide ((0 : Int) ≤ b)) then (bif (decide (b < (c.length : Int))) then J (.p0 a (IntKind.i64.wrap (b + 1)) (List.set c (Int.toNat b) (REntry.enc v1))) else none) else none)) else none) else none) else ret (c : List (List L)))
noncomputable def start (J : Pt → Ans) (x0 : List (List L)) : Ans := (bif (decide ((0 : Int) ≤ (x0.length : Int))) then (bif (decide ((x0.length : Int) ≤ (x0.length : Int))) then (bif (decide ((x0.length : Int) * 56 ≤ 140737488355328)) then J (.p0 x0 0 (List.replicate (Int.toNat (x0.length : Int)) [L.str ⟨#[]⟩, L.int 0, L.int 0, L.sl []])) else none) else none) else none)
def live : Nat → Live := fun i => match i with | 3 => [(0, none), (3, none), (4, none)] | _ => []
def pats : List Pat := [.rd (.sl 24)]
def res : RP := .one (.fr 30)
noncomputable abbrev E : Env := ⟨assoc Tab, conG [(70, laws_toEntry.con)], 23⟩
set_option maxRecDepth 100000
theorem step_eq (I : Heads) (p : Pt) : enterC E live I (pid p) (bodyOf Try.f71) (stOf (live (pid p)) (pvs p) (phs p)) (doneK E Try.f71 res) = step (fun q => I (pid q) (pvs q) (phs q)) p := by
  cases p <;> kernel_rfl
theorem start_eq (I : Heads) (ls : List L) : runC E live I (bodyOf Try.f71) (initS pats ls) (doneK E Try.f71 res) = start (fun q => I (pid q) (pvs q) (phs q)) (ls.headD .hole).toSl := by kernel_rfl
theorem run_eq (n : Nat) (ls : List L) : runF E live Try.f71 res n (initS pats ls) = start (iter step n) (ls.headD .hole).toSl := runF_iter (id := pid) (vs := pvs) (hs := phs) (step := step) (start := fun J => start J (ls.headD .hole).toSl) step_eq (fun I => start_eq I ls) n
noncomputable def md (a0 : List MEntry) : List MEntry := a0
def gd (a0 : List MEntry) : Prop := SmL (2 ^ 36) (fun y : MEntry => MEntry.Sm (2 ^ 36) y) a0
def acc (ls : List L) : List (List L) := (ls.headD .hole).toSl
noncomputable def R : (List (List L)) → Option (List (List L)) := RR gd md
theorem R_eq {a0} (h : gd a0) : R (a0.map MEntry.row) = some ((md a0).map MEntry.row) := RR_eq (a := a0) h
noncomputable def con : Con := CN pats res acc R
theorem okF (a0 : List MEntry) (hg : gd a0) : ∃ n, start (iter step n) (a0.map MEntry.row) = ret (((md a0).map MEntry.row) : List (List L)) := by
  unfold start md
  simp only [List.length_map]
  refine to_list (b := 56) (pt := fun i c => Pt.p0 (a0.map MEntry.row) (i : Int) c) (by have := hg.1; simp at this; omega) (fun J i h c hc => ?_) (fun J c => ?_)
  · simp only [step, List.length_map, lt_dec h, zle_dec, cond_true, toNat_nat, MEntry.at_row h, hc]
    rw [call_eq (laws_toEntry.R_eq (hg.get h))]
    try simp only [hc, lt_dec h, cond_true]
    rw [wrap_succ (n := a0.length) h (by have := hg.1; simp only [maxLen]; simp at this; omega)]
    rfl
  · simp only [step, List.length_map, nlt_dec, cond_false]
theorem valid_ : Valid Try.prog Ev 71 con := VV (run := fun n x => start (iter step n) x) mix tab_ok (.cons laws_toEntry.valid_ .nil) Try.func71 (by kernel_rfl) run_eq (fun _ a _ _ hg => okF a hg)
end laws_toEntryS
/-! laws.toDecision -/
namespace laws_toDecision
noncomputable def F (x0 : RDecision) : Ans := (call (laws_toEntry.R x0.fEntry) fun v1 => (call (laws_toEntryS.R x0.fOthers) fun v2 => ret ((⟨x0.fCode, v1, v2⟩ : RDecision) : RDecision)))
def pats : List Pat := [.agg [.int .i64, .str, .int .i64, .int .i64, .sl 9, .sl 24]]
def res : RP := .agg [.rd (.int .i64), .rd (.str), .rd (.int .i64), .rd (.int .i64), .fr 9, .fr 30]
noncomputable abbrev E : Env := ⟨assoc Tab, conG [(70, laws_toEntry.con), (71, laws_toEntryS.con)], 16⟩
set_option maxRecDepth 100000
theorem run_eq (n : Nat) (ls : List L) : runF E (fun _ => []) Try.f19 res n (initS pats ls) = F (RDecision.dec ls) := by kernel_rfl
noncomputable def md (a0 : MDecision) : MDecision := a0
def gd (a0 : MDecision) : Prop := MDecision.Sm (2 ^ 36) a0
def acc (ls : List L) : RDecision := (RDecision.dec ls)
noncomputable def R : RDecision → Option RDecision := RR gd md
theorem R_eq {a0} (h : gd a0) : R (MDecision.r a0) = some (MDecision.r (md a0)) := RR_eq (a := a0) h
noncomputable def con : Con := CN pats res acc R
theorem okF (a0 : MDecision) (hg : gd a0) : F (MDecision.r a0) = ret ((MDecision.r (md a0)) : RDecision) := by
  unfold md
  show (call (laws_toEntry.R (MEntry.r a0.fEntry)) fun v1 => (call (laws_toEntryS.R (a0.fOthers.map MEntry.row)) fun v2 => ret ((⟨a0.fCode, v1, v2⟩ : RDecision) : RDecision))) = _
  rw [call_eq (laws_toEntry.R_eq hg.1)]
  rw [call_eq (laws_toEntryS.R_eq hg.2)]
  rfl
theorem valid_ : Valid Try.prog Ev 19 con := VV (run := fun _ x => F x) mix tab_ok (.cons laws_toEntry.valid_ (.cons laws_toEntryS.valid_ .nil)) Try.func19 (by kernel_rfl) run_eq (fun _ a _ _ hg => ⟨0, okF a hg⟩)
end laws_toDecision
/-! spec.SamePath -/
namespace spec_SamePath
inductive Pt where
  | p0 (a : List (List L)) (b : List (List L)) (c : Int)
def pid : Pt → Nat
  | .p0 .. => 4
def pvs : Pt → List V
  | .p0 a b c => [.sl none 9 a, .sl none 9 b, .int .i64 c]
def phs : Pt → List Root
  | .p0 a b c => []
noncomputable def step (J : Pt → Ans) : Pt → Ans
  | .p0 a b c => (bif (decide (c < (a.length : Int))) then (bif (decide ((0 : Int) ≤ c)) then (bif (decide (c < (a.length : Int))) then (bif (decide ((0 : Int) ≤ c)) then (bif (decide (c < (b.length : Int))) then (bif (!((sAt a (Int.toNat c)) == (sAt b (Int.toNat c)))) then ret (false : Bool) else J (.p0 a b (IntKind.i64.wrap (c + 1)))) else none) else none) else none) else none) else ret (true : Bool))
noncomputable def start (J : Pt → Ans) (x0 : List (List L)) (x1 : List (List L)) : Ans := (bif ((x0.length : Int) != (x1.length : Int)) then ret (false : Bool) else J (.p0 x0 x1 0))
def live : Nat → Live := fun i => match i with | 4 => [(0, none), (1, none), (5, none)] | _ => []
def pats : List Pat := [.rd (.sl 9), .rd (.sl 9)]
def res : RP := .one (.rd (.bool))
noncomputable abbrev E : Env := ⟨assoc Tab, conG [], 26⟩
set_option maxRecDepth 100000
theorem step_eq (I : Heads) (p : Pt) : enterC E live I (pid p) (bodyOf Try.f120) (stOf (live (pid p)) (pvs p) (phs p)) (doneK E Try.f120 res) = step (fun q => I (pid q) (pvs q) (phs q)) p := by
  cases p <;> kernel_rfl
theorem start_eq (I : Heads) (ls : List L) : runC E live I (bodyOf Try.f120) (initS pats ls) (doneK E Try.f120 res) = start (fun q => I (pid q) (pvs q) (phs q)) (ls.headD .hole).toSl ((dropT 1 ls).headD .hole).toSl := by kernel_rfl
theorem run_eq (n : Nat) (ls : List L) : runF E live Try.f120 res n (initS pats ls) = start (iter step n) (ls.headD .hole).toSl ((dropT 1 ls).headD .hole).toSl := runF_iter (id := pid) (vs := pvs) (hs := phs) (step := step) (start := fun J => start J (ls.headD .hole).toSl ((dropT 1 ls).headD .hole).toSl) step_eq (fun I => start_eq I ls) n
noncomputable def md (a0 : List ByteArray) (a1 : List ByteArray) : Bool := (bif ((a0.length : Int) != (a1.length : Int)) then (false : Bool) else (loopM (S := Unit) (β := Bool) (fun (i2 : Nat) (s4 : Unit) => (bif (!((a0.getD i2 ⟨#[]⟩) == (a1.getD i2 ⟨#[]⟩))) then (.inr (false : Bool)) else (.inl ()))) (fun (s4 : Unit) => (true : Bool)) a0.length 0 ()))
def gd (a0 : List ByteArray) (a1 : List ByteArray) : Prop := (SmL (2 ^ 21) (fun y : ByteArray => y.size ≤ (2 ^ 21)) a0) ∧ (SmL (2 ^ 21) (fun y : ByteArray => y.size ≤ (2 ^ 21)) a1)
def acc (ls : List L) : List (List L) × List (List L) := ((ls.headD .hole).toSl, ((dropT 1 ls).headD .hole).toSl)
noncomputable def R : (List (List L) × List (List L)) → Option Bool := RR (p2 gd) (u2 md)
theorem R_eq {a0} {a1} (h : gd a0 a1) : R ((a0.map sRow), (a1.map sRow)) = some (md a0 a1) := RR_eq (a := (a0, a1)) h
noncomputable def con : Con := CN pats res acc R
theorem okF (a0 : List ByteArray) (a1 : List ByteArray) (hg : gd a0 a1) : ∃ n, start (iter step n) (a0.map sRow) (a1.map sRow) = ret ((md a0 a1) : Bool) := by
  unfold gd at hg
  obtain ⟨H0, H1⟩ := hg
  unfold start md
  try simp only [S0]
  refine ex_bif ret (fun _ => ⟨0, rfl⟩) (fun c1 => ?_)
  have dc1 := c1
  try simp only [DC] at dc1
  have Bh3 : a0.length ≤ maxLen := (by
      have := (H0).1
      try simp only [maxLen] at *
      omega)
  refine ex_pt (p := Pt.p0 (a0.map sRow) (a1.map sRow) 0) (by first | rfl | (simp only [S0, MP]; done) | (simp only [MP]; rfl)) ?_
  refine loopM_ok (pt := fun (i2 : Nat) (s4 : Unit) => Pt.p0 (a0.map sRow) (a1.map sRow) (i2 : Int)) (s := (() : Unit)) (out := ret) (fun _ _ => True) (fun J i2 s4 h3 hih3 => ?_) (fun s4 hih3 => ?_) trivial
  · simp only [step, S0]
    have bb_ := Bh3
    simp only [maxLen] at bb_
    have := (H0).1
    refine Rnd.yes (by apply decide_eq_true; omega) ?_
    refine Rnd.yes zle_dec ?_
    refine Rnd.yes (lt_dec h3) ?_
    refine Rnd.yes zle_dec ?_
    refine Rnd.yes (by
        have := (H1).1
        refine decide_eq_true ?_
        try simp (disch := omega) only [LN, wi]
        first | omega | (simp; done) | (simp; omega)) ?_
    refine Rnd.bif (fun _ => Rnd.inr rfl) (fun c5 => ?_)
    refine Rnd.inl trivial ?_
    rw [wrap_succ h3 Bh3]
    all_goals first | rfl | (simp only [S0, MP]; first | done | rfl)
  · simp only [step, S0]
    have := (H0).1
    refine ex_no (by apply decide_eq_false; omega) ?_
    refine ⟨0, ?_⟩
    all_goals first | rfl | (simp only [S0, MP]; first | done | rfl)
theorem valid_ : Valid Try.prog Ev 120 con := VV (run := fun n x => start (iter step n) x.1 x.2) mix tab_ok .nil Try.func120 (by kernel_rfl) run_eq (fun _ a _ _ hg => okF a.1 a.2 hg)
theorem md_eq (a0 : List ByteArray) (a1 : List ByteArray) : md a0 a1 = eqB a0 a1 := by
  unfold md
  refine loop_eqB (⟨#[]⟩) (fun i s h h2 => ?_) (fun s => rfl)
  simp only [bne, int_beq, bool_beq, ba_beq]
  cases eqB _ _ <;> rfl
end spec_SamePath
/-! spec.EqualEntries -/
namespace spec_EqualEntries
noncomputable def F (x0 : REntry) (x1 : REntry) : Ans := (bif (x0.fLabel == x1.fLabel) then (bif (x0.fKind == x1.fKind) then (bif (x0.fValue == x1.fValue) then (call (spec_SamePath.R (x0.fPath, x1.fPath)) fun v1 => ret (v1 : Bool)) else ret (false : Bool)) else ret (false : Bool)) else ret (false : Bool))
def pats : List Pat := [.agg [.str, .int .i64, .int .i64, .sl 9], .agg [.str, .int .i64, .int .i64, .sl 9]]
def res : RP := .one (.rd (.bool))
noncomputable abbrev E : Env := ⟨assoc Tab, conG [(120, spec_SamePath.con)], 31⟩
set_option maxRecDepth 100000
theorem run_eq (n : Nat) (ls : List L) : runF E (fun _ => []) Try.f68 res n (initS pats ls) = F (REntry.dec ls) (REntry.dec (dropT 4 ls)) := by kernel_rfl
noncomputable def md (a0 : MEntry) (a1 : MEntry) : Bool := (bif (a0.fLabel == a1.fLabel) then (bif (a0.fKind == a1.fKind) then (bif (a0.fValue == a1.fValue) then ((spec_SamePath.md a0.fPath a1.fPath) : Bool) else (false : Bool)) else (false : Bool)) else (false : Bool))
def gd (a0 : MEntry) (a1 : MEntry) : Prop := (MEntry.Sm (2 ^ 21) a0) ∧ (MEntry.Sm (2 ^ 21) a1)
def acc (ls : List L) : REntry × REntry := ((REntry.dec ls), (REntry.dec (dropT 4 ls)))
noncomputable def R : (REntry × REntry) → Option Bool := RR (p2 gd) (u2 md)
theorem R_eq {a0} {a1} (h : gd a0 a1) : R ((MEntry.r a0), (MEntry.r a1)) = some (md a0 a1) := RR_eq (a := (a0, a1)) h
noncomputable def con : Con := CN pats res acc R
theorem okF (a0 : MEntry) (a1 : MEntry) (hg : gd a0 a1) : F (MEntry.r a0) (MEntry.r a1) = ret ((md a0 a1) : Bool) := by
  unfold gd at hg
  obtain ⟨H0, H1⟩ := hg
  unfold F md
  try simp only [S0, MEntry.rs]
  refine bif_out ret (fun c1 => ?_) (fun _ => rfl)
  refine bif_out ret (fun c2 => ?_) (fun _ => rfl)
  refine bif_out ret (fun c3 => ?_) (fun _ => rfl)
  refine call_to (spec_SamePath.md a0.fPath a1.fPath) (spec_SamePath.R_eq (a0 := a0.fPath) (a1 := a1.fPath) ⟨H0.2, H1.2⟩) ?_
  all_goals first | rfl | (simp only [S0, MEntry.rs, MP]; first | done | rfl)
theorem valid_ : Valid Try.prog Ev 68 con := VV (run := fun _ x => F x.1 x.2) mix tab_ok (.cons spec_SamePath.valid_ .nil) Try.func68 (by kernel_rfl) run_eq (fun _ a _ _ hg => ⟨0, okF a.1 a.2 hg⟩)
theorem md_eq (a0 : MEntry) (a1 : MEntry) : md a0 a1 = eqB a0 a1 := by
  unfold md
  cases a0; cases a1
  rw [Bool.eq_iff_iff]
  simp [eqB_iff, ba_beq, MEntry.mk.injEq, spec_SamePath.md_eq]
  try (constructor <;> (intro h; simp_all))
end spec_EqualEntries
/-! spec.SameEntries -/
namespace spec_SameEntries
inductive Pt where
  | p0 (a : List (List L)) (b : List (List L)) (c : Int)
def pid : Pt → Nat
  | .p0 .. => 4
def pvs : Pt → List V
  | .p0 a b c => [.sl none 30 a, .sl none 30 b, .int .i64 c]
def phs : Pt → List Root
  | .p0 a b c => []
noncomputable def step (J : Pt → Ans) : Pt → Ans
  | .p0 a b c => (bif (decide (c < (a.length : Int))) then (bif (decide ((0 : Int) ≤ c)) then (bif (decide (c < (a.length : Int))) then (bif (decide ((0 : Int) ≤ c)) then (bif (decide (c < (b.length : Int))) then (call (spec_EqualEntries.R ((REntry.at a (Int.toNat c)), (REntry.at b (Int.toNat c)))) fun v1 => (bif (!v1) then ret (false : Bool) else J (.p0 a b (IntKind.i64.wrap (c + 1))))) else none) else none) else none) else none) else ret (true : Bool))
noncomputable def start (J : Pt → Ans) (x0 : List (List L)) (x1 : List (List L)) : Ans := (bif ((x0.length : Int) != (x1.length : Int)) then ret (false : Bool) else J (.p0 x0 x1 0))
def live : Nat → Live := fun i => match i with | 4 => [(0, none), (1, none), (5, none)] | _ => []
def pats : List Pat := [.rd (.sl 30), .rd (.sl 30)]
def res : RP := .one (.rd (.bool))
noncomputable abbrev E : Env := ⟨assoc Tab, conG [(68, spec_EqualEntries.con)], 27⟩
set_option maxRecDepth 100000
theorem step_eq (I : Heads) (p : Pt) : enterC E live I (pid p) (bodyOf Try.f69) (stOf (live (pid p)) (pvs p) (phs p)) (doneK E Try.f69 res) = step (fun q => I (pid q) (pvs q) (phs q)) p := by
  cases p <;> kernel_rfl
theorem start_eq (I : Heads) (ls : List L) : runC E live I (bodyOf Try.f69) (initS pats ls) (doneK E Try.f69 res) = start (fun q => I (pid q) (pvs q) (phs q)) (ls.headD .hole).toSl ((dropT 1 ls).headD .hole).toSl := by kernel_rfl
theorem run_eq (n : Nat) (ls : List L) : runF E live Try.f69 res n (initS pats ls) = start (iter step n) (ls.headD .hole).toSl ((dropT 1 ls).headD .hole).toSl := runF_iter (id := pid) (vs := pvs) (hs := phs) (step := step) (start := fun J => start J (ls.headD .hole).toSl ((dropT 1 ls).headD .hole).toSl) step_eq (fun I => start_eq I ls) n
noncomputable def md (a0 : List MEntry) (a1 : List MEntry) : Bool := (bif ((a0.length : Int) != (a1.length : Int)) then (false : Bool) else (loopM (S := Unit) (β := Bool) (fun (i2 : Nat) (s4 : Unit) => (bif (!(spec_EqualEntries.md (a0.getD i2 MEntry.zero) (a1.getD i2 MEntry.zero))) then (.inr (false : Bool)) else (.inl ()))) (fun (s4 : Unit) => (true : Bool)) a0.length 0 ()))
def gd (a0 : List MEntry) (a1 : List MEntry) : Prop := (SmL (2 ^ 21) (fun y : MEntry => MEntry.Sm (2 ^ 21) y) a0) ∧ (SmL (2 ^ 21) (fun y : MEntry => MEntry.Sm (2 ^ 21) y) a1)
def acc (ls : List L) : List (List L) × List (List L) := ((ls.headD .hole).toSl, ((dropT 1 ls).headD .hole).toSl)
noncomputable def R : (List (List L) × List (List L)) → Option Bool := RR (p2 gd) (u2 md)
theorem R_eq {a0} {a1} (h : gd a0 a1) : R ((a0.map MEntry.row), (a1.map MEntry.row)) = some (md a0 a1) := RR_eq (a := (a0, a1)) h
noncomputable def con : Con := CN pats res acc R
theorem okF (a0 : List MEntry) (a1 : List MEntry) (hg : gd a0 a1) : ∃ n, start (iter step n) (a0.map MEntry.row) (a1.map MEntry.row) = ret ((md a0 a1) : Bool) := by
  unfold gd at hg
  obtain ⟨H0, H1⟩ := hg
  unfold start md
  try simp only [S0, MEntry.rs]
  refine ex_bif ret (fun _ => ⟨0, rfl⟩) (fun c1 => ?_)
  have dc1 := c1
  try simp only [DC] at dc1
  have Bh3 : a0.length ≤ maxLen := (by
      have := (H0).1
      try simp only [maxLen] at *
      omega)
  refine ex_pt (p := Pt.p0 (a0.map MEntry.row) (a1.map MEntry.row) 0) (by first | rfl | (simp only [S0, MEntry.rs, MP]; done) | (simp only [MP]; rfl)) ?_
  refine loopM_ok (pt := fun (i2 : Nat) (s4 : Unit) => Pt.p0 (a0.map MEntry.row) (a1.map MEntry.row) (i2 : Int)) (s := (() : Unit)) (out := ret) (fun _ _ => True) (fun J i2 s4 h3 hih3 => ?_) (fun s4 hih3 => ?_) trivial
  · simp only [step, S0, MEntry.rs]
    have bb_ := Bh3
    simp only [maxLen] at bb_
    have := (H0).1
    refine Rnd.yes (by apply decide_eq_true; omega) ?_
    refine Rnd.yes zle_dec ?_
    refine Rnd.yes (lt_dec h3) ?_
    refine Rnd.yes zle_dec ?_
    refine Rnd.yes (by
        have := (H1).1
        refine decide_eq_true ?_
        try simp (disch := omega) only [LN, wi]
        first | omega | (simp; done) | (simp; omega)) ?_
    refine Rnd.call_to (spec_EqualEntries.md (a0.getD i2 MEntry.zero) (a1.getD i2 MEntry.zero)) (spec_EqualEntries.R_eq (a0 := (a0.getD i2 MEntry.zero)) (a1 := (a1.getD i2 MEntry.zero)) ⟨(SmL.getD (z := MEntry.zero) H0 h3), (SmL.getD (z := MEntry.zero) H1 (by first | assumption | omega | (simp (disch := omega) only [wi]; omega) | (simp; omega)))⟩) ?_
    refine Rnd.bif (fun _ => Rnd.inr rfl) (fun c5 => ?_)
    refine Rnd.inl trivial ?_
    rw [wrap_succ h3 Bh3]
    all_goals first | rfl | (simp only [S0, MEntry.rs, MP]; first | done | rfl)
  · simp only [step, S0, MEntry.rs]
    have := (H0).1
    refine ex_no (by apply decide_eq_false; omega) ?_
    refine ⟨0, ?_⟩
    all_goals first | rfl | (simp only [S0, MEntry.rs, MP]; first | done | rfl)
theorem valid_ : Valid Try.prog Ev 69 con := VV (run := fun n x => start (iter step n) x.1 x.2) mix tab_ok (.cons spec_EqualEntries.valid_ .nil) Try.func69 (by kernel_rfl) run_eq (fun _ a _ _ hg => okF a.1 a.2 hg)
theorem md_eq (a0 : List MEntry) (a1 : List MEntry) : md a0 a1 = eqB a0 a1 := by
  unfold md
  refine loop_eqB (MEntry.zero) (fun i s h h2 => ?_) (fun s => rfl)
  simp only [bne, int_beq, bool_beq, ba_beq, spec_EqualEntries.md_eq]
  cases eqB _ _ <;> rfl
end spec_SameEntries
/-! spec.EqualDecisions -/
namespace spec_EqualDecisions
noncomputable def F (x0 : RDecision) (x1 : RDecision) : Ans := (bif (x0.fCode == x1.fCode) then (call (spec_EqualEntries.R (x0.fEntry, x1.fEntry)) fun v1 => (bif v1 then (call (spec_SameEntries.R (x0.fOthers, x1.fOthers)) fun v2 => ret (v2 : Bool)) else ret (false : Bool))) else ret (false : Bool))
def pats : List Pat := [.agg [.int .i64, .str, .int .i64, .int .i64, .sl 9, .sl 30], .agg [.int .i64, .str, .int .i64, .int .i64, .sl 9, .sl 30]]
def res : RP := .one (.rd (.bool))
noncomputable abbrev E : Env := ⟨assoc Tab, conG [(68, spec_EqualEntries.con), (69, spec_SameEntries.con)], 24⟩
set_option maxRecDepth 100000
theorem run_eq (n : Nat) (ls : List L) : runF E (fun _ => []) Try.f18 res n (initS pats ls) = F (RDecision.dec ls) (RDecision.dec (dropT 6 ls)) := by kernel_rfl
noncomputable def md (a0 : MDecision) (a1 : MDecision) : Bool := (bif (a0.fCode == a1.fCode) then (bif (spec_EqualEntries.md a0.fEntry a1.fEntry) then ((spec_SameEntries.md a0.fOthers a1.fOthers) : Bool) else (false : Bool)) else (false : Bool))
def gd (a0 : MDecision) (a1 : MDecision) : Prop := (MDecision.Sm (2 ^ 21) a0) ∧ (MDecision.Sm (2 ^ 21) a1)
def acc (ls : List L) : RDecision × RDecision := ((RDecision.dec ls), (RDecision.dec (dropT 6 ls)))
noncomputable def R : (RDecision × RDecision) → Option Bool := RR (p2 gd) (u2 md)
theorem R_eq {a0} {a1} (h : gd a0 a1) : R ((MDecision.r a0), (MDecision.r a1)) = some (md a0 a1) := RR_eq (a := (a0, a1)) h
noncomputable def con : Con := CN pats res acc R
theorem okF (a0 : MDecision) (a1 : MDecision) (hg : gd a0 a1) : F (MDecision.r a0) (MDecision.r a1) = ret ((md a0 a1) : Bool) := by
  unfold gd at hg
  obtain ⟨H0, H1⟩ := hg
  unfold F md
  try simp only [S0, MDecision.rs]
  refine bif_out ret (fun c1 => ?_) (fun _ => rfl)
  refine call_to (spec_EqualEntries.md a0.fEntry a1.fEntry) (spec_EqualEntries.R_eq (a0 := a0.fEntry) (a1 := a1.fEntry) ⟨H0.1, H1.1⟩) ?_
  refine bif_out ret (fun c2 => ?_) (fun _ => rfl)
  refine call_to (spec_SameEntries.md a0.fOthers a1.fOthers) (spec_SameEntries.R_eq (a0 := a0.fOthers) (a1 := a1.fOthers) ⟨H0.2, H1.2⟩) ?_
  all_goals first | rfl | (simp only [S0, MDecision.rs, MP]; first | done | rfl)
theorem valid_ : Valid Try.prog Ev 18 con := VV (run := fun _ x => F x.1 x.2) mix tab_ok (.cons spec_EqualEntries.valid_ (.cons spec_SameEntries.valid_ .nil)) Try.func18 (by kernel_rfl) run_eq (fun _ a _ _ hg => ⟨0, okF a.1 a.2 hg⟩)
theorem md_eq (a0 : MDecision) (a1 : MDecision) : md a0 a1 = eqB a0 a1 := by
  unfold md
  cases a0; cases a1
  rw [Bool.eq_iff_iff]
  simp [eqB_iff, ba_beq, MDecision.mk.injEq, spec_EqualEntries.md_eq, spec_SameEntries.md_eq]
  try (constructor <;> (intro h; simp_all))
end spec_EqualDecisions
/-! slices.Equal[[]string,string] -/
namespace slices_Equal_Sstring_string
inductive Pt where
  | p0 (a : List (List L)) (b : List (List L)) (c : Int) (d : Int)
def pid : Pt → Nat
  | .p0 .. => 4
def pvs : Pt → List V
  | .p0 a b c d => [.sl none 9 a, .sl none 9 b, .int .i64 c, .int .i64 d]
def phs : Pt → List Root
  | .p0 a b c d => []
noncomputable def step (J : Pt → Ans) : Pt → Ans
  | .p0 a b c d => (bif (decide (d < c)) then (bif (decide ((0 : Int) ≤ d)) then (bif (decide (d < (a.length : Int))) then (bif (decide ((0 : Int) ≤ d)) then (bif (decide (d < (b.length : Int))) then (bif (!((sAt a (Int.toNat d)) == (sAt b (Int.toNat d)))) then ret (false : Bool) else J (.p0 a b c (IntKind.i64.wrap (d + 1)))) else none) else none) else none) else none) else ret (true : Bool))
noncomputable def start (J : Pt → Ans) (x0 : List (List L)) (x1 : List (List L)) : Ans := (bif ((x0.length : Int) != (x1.length : Int)) then ret (false : Bool) else J (.p0 x0 x1 (x0.length : Int) 0))
def live : Nat → Live := fun i => match i with | 4 => [(0, none), (1, none), (12, none), (13, none)] | _ => []
def pats : List Pat := [.rd (.sl 9), .rd (.sl 9)]
def res : RP := .one (.rd (.bool))
noncomputable abbrev E : Env := ⟨assoc Tab, conG [], 26⟩
set_option maxRecDepth 100000
theorem step_eq (I : Heads) (p : Pt) : enterC E live I (pid p) (bodyOf Try.f124) (stOf (live (pid p)) (pvs p) (phs p)) (doneK E Try.f124 res) = step (fun q => I (pid q) (pvs q) (phs q)) p := by
  cases p <;> kernel_rfl
theorem start_eq (I : Heads) (ls : List L) : runC E live I (bodyOf Try.f124) (initS pats ls) (doneK E Try.f124 res) = start (fun q => I (pid q) (pvs q) (phs q)) (ls.headD .hole).toSl ((dropT 1 ls).headD .hole).toSl := by kernel_rfl
theorem run_eq (n : Nat) (ls : List L) : runF E live Try.f124 res n (initS pats ls) = start (iter step n) (ls.headD .hole).toSl ((dropT 1 ls).headD .hole).toSl := runF_iter (id := pid) (vs := pvs) (hs := phs) (step := step) (start := fun J => start J (ls.headD .hole).toSl ((dropT 1 ls).headD .hole).toSl) step_eq (fun I => start_eq I ls) n
noncomputable def md (a0 : List ByteArray) (a1 : List ByteArray) : Bool := (bif ((a0.length : Int) != (a1.length : Int)) then (false : Bool) else (loopM (S := Unit) (β := Bool) (fun (i2 : Nat) (s4 : Unit) => (bif (!((a0.getD i2 ⟨#[]⟩) == (a1.getD i2 ⟨#[]⟩))) then (.inr (false : Bool)) else (.inl ()))) (fun (s4 : Unit) => (true : Bool)) a0.length 0 ()))
def gd (a0 : List ByteArray) (a1 : List ByteArray) : Prop := (SmL (2 ^ 21) (fun y : ByteArray => y.size ≤ (2 ^ 21)) a0) ∧ (SmL (2 ^ 21) (fun y : ByteArray => y.size ≤ (2 ^ 21)) a1)
def acc (ls : List L) : List (List L) × List (List L) := ((ls.headD .hole).toSl, ((dropT 1 ls).headD .hole).toSl)
noncomputable def R : (List (List L) × List (List L)) → Option Bool := RR (p2 gd) (u2 md)
theorem R_eq {a0} {a1} (h : gd a0 a1) : R ((a0.map sRow), (a1.map sRow)) = some (md a0 a1) := RR_eq (a := (a0, a1)) h
noncomputable def con : Con := CN pats res acc R
theorem okF (a0 : List ByteArray) (a1 : List ByteArray) (hg : gd a0 a1) : ∃ n, start (iter step n) (a0.map sRow) (a1.map sRow) = ret ((md a0 a1) : Bool) := by
  unfold gd at hg
  obtain ⟨H0, H1⟩ := hg
  unfold start md
  try simp only [S0]
  refine ex_bif ret (fun _ => ⟨0, rfl⟩) (fun c1 => ?_)
  have dc1 := c1
  try simp only [DC] at dc1
  have Bh3 : a0.length ≤ maxLen := (by
      have := (H0).1
      try simp only [maxLen] at *
      omega)
  refine ex_pt (p := Pt.p0 (a0.map sRow) (a1.map sRow) (a0.length : Int) 0) (by first | rfl | (simp only [S0, MP]; done) | (simp only [MP]; rfl)) ?_
  refine loopM_ok (pt := fun (i2 : Nat) (s4 : Unit) => Pt.p0 (a0.map sRow) (a1.map sRow) (a0.length : Int) (i2 : Int)) (s := (() : Unit)) (out := ret) (fun _ _ => True) (fun J i2 s4 h3 hih3 => ?_) (fun s4 hih3 => ?_) trivial
  · simp only [step, S0]
    have bb_ := Bh3
    simp only [maxLen] at bb_
    have := (H0).1
    refine Rnd.yes (by apply decide_eq_true; omega) ?_
    refine Rnd.yes zle_dec ?_
    refine Rnd.yes (lt_dec h3) ?_
    refine Rnd.yes zle_dec ?_
    refine Rnd.yes (by
        have := (H1).1
        refine decide_eq_true ?_
        try simp (disch := omega) only [LN, wi]
        first | omega | (simp; done) | (simp; omega)) ?_
    refine Rnd.bif (fun _ => Rnd.inr rfl) (fun c5 => ?_)
    refine Rnd.inl trivial ?_
    rw [wrap_succ h3 Bh3]
    all_goals first | rfl | (simp only [S0, MP]; first | done | rfl)
  · simp only [step, S0]
    have := (H0).1
    refine ex_no (by apply decide_eq_false; omega) ?_
    refine ⟨0, ?_⟩
    all_goals first | rfl | (simp only [S0, MP]; first | done | rfl)
theorem valid_ : Valid Try.prog Ev 124 con := VV (run := fun n x => start (iter step n) x.1 x.2) mix tab_ok .nil Try.func124 (by kernel_rfl) run_eq (fun _ a _ _ hg => okF a.1 a.2 hg)
theorem md_eq (a0 : List ByteArray) (a1 : List ByteArray) : md a0 a1 = eqB a0 a1 := by
  unfold md
  refine loop_eqB (⟨#[]⟩) (fun i s h h2 => ?_) (fun s => rfl)
  simp only [bne, int_beq, bool_beq, ba_beq]
  cases eqB _ _ <;> rfl
end slices_Equal_Sstring_string
/-! impl.EqualEntries -/
namespace impl_EqualEntries
noncomputable def F (x0 : REntry) (x1 : REntry) : Ans := (bif (x0.fLabel == x1.fLabel) then (bif (x0.fKind == x1.fKind) then (bif (x0.fValue == x1.fValue) then (call (slices_Equal_Sstring_string.R (x0.fPath, x1.fPath)) fun v1 => ret (v1 : Bool)) else ret (false : Bool)) else ret (false : Bool)) else ret (false : Bool))
def pats : List Pat := [.agg [.str, .int .i64, .int .i64, .sl 9], .agg [.str, .int .i64, .int .i64, .sl 9]]
def res : RP := .one (.rd (.bool))
noncomputable abbrev E : Env := ⟨assoc Tab, conG [(124, slices_Equal_Sstring_string.con)], 31⟩
set_option maxRecDepth 100000
theorem run_eq (n : Nat) (ls : List L) : runF E (fun _ => []) Try.f72 res n (initS pats ls) = F (REntry.dec ls) (REntry.dec (dropT 4 ls)) := by kernel_rfl
noncomputable def md (a0 : MEntry) (a1 : MEntry) : Bool := (bif (a0.fLabel == a1.fLabel) then (bif (a0.fKind == a1.fKind) then (bif (a0.fValue == a1.fValue) then ((slices_Equal_Sstring_string.md a0.fPath a1.fPath) : Bool) else (false : Bool)) else (false : Bool)) else (false : Bool))
def gd (a0 : MEntry) (a1 : MEntry) : Prop := (MEntry.Sm (2 ^ 21) a0) ∧ (MEntry.Sm (2 ^ 21) a1)
def acc (ls : List L) : REntry × REntry := ((REntry.dec ls), (REntry.dec (dropT 4 ls)))
noncomputable def R : (REntry × REntry) → Option Bool := RR (p2 gd) (u2 md)
theorem R_eq {a0} {a1} (h : gd a0 a1) : R ((MEntry.r a0), (MEntry.r a1)) = some (md a0 a1) := RR_eq (a := (a0, a1)) h
noncomputable def con : Con := CN pats res acc R
theorem okF (a0 : MEntry) (a1 : MEntry) (hg : gd a0 a1) : F (MEntry.r a0) (MEntry.r a1) = ret ((md a0 a1) : Bool) := by
  unfold gd at hg
  obtain ⟨H0, H1⟩ := hg
  unfold F md
  try simp only [S0, MEntry.rs]
  refine bif_out ret (fun c1 => ?_) (fun _ => rfl)
  refine bif_out ret (fun c2 => ?_) (fun _ => rfl)
  refine bif_out ret (fun c3 => ?_) (fun _ => rfl)
  refine call_to (slices_Equal_Sstring_string.md a0.fPath a1.fPath) (slices_Equal_Sstring_string.R_eq (a0 := a0.fPath) (a1 := a1.fPath) ⟨H0.2, H1.2⟩) ?_
  all_goals first | rfl | (simp only [S0, MEntry.rs, MP]; first | done | rfl)
theorem valid_ : Valid Try.prog Ev 72 con := VV (run := fun _ x => F x.1 x.2) mix tab_ok (.cons slices_Equal_Sstring_string.valid_ .nil) Try.func72 (by kernel_rfl) run_eq (fun _ a _ _ hg => ⟨0, okF a.1 a.2 hg⟩)
theorem md_eq (a0 : MEntry) (a1 : MEntry) : md a0 a1 = eqB a0 a1 := by
  unfold md
  cases a0; cases a1
  rw [Bool.eq_iff_iff]
  simp [eqB_iff, ba_beq, MEntry.mk.injEq, slices_Equal_Sstring_string.md_eq]
  try (constructor <;> (intro h; simp_all))
end impl_EqualEntries
/-! slices.EqualFunc[[]impl.Entry,[]impl.Entry,impl.Entry,impl.Entry] -/
namespace slices_EqualFunc_Simpl_Entry_Simpl_Entry_impl_Entry_impl_Entry__impl_EqualEntries
inductive Pt where
  | p0 (a : List (List L)) (b : List (List L)) (c : Int) (d : Int)
def pid : Pt → Nat
  | .p0 .. => 4
def pvs : Pt → List V
  | .p0 a b c d => [.sl none 30 a, .fn 72 [], .sl none 30 b, .int .i64 c, .int .i64 d]
def phs : Pt → List Root
  | .p0 a b c d => []
noncomputable def step (J : Pt → Ans) : Pt → Ans
  | .p0 a b c d => (bif (decide (d < c)) then (bif (decide ((0 : Int) ≤ d)) then (bif (decide (d < (b.length : Int))) then (bif (decide ((0 : Int) ≤ d)) then (bif (decide (d < (a.length : Int))) then (call (impl_EqualEntries.R ((REntry.at b (Int.toNat d)), (REntry.at a (Int.toNat d)))) fun v1 => (bif (!v1) then ret (false : Bool) else J (.p0 a b c (IntKind.i64.wrap (d + 1))))) else none) else none) else none) else none) else ret (true : Bool))
noncomputable def start (J : Pt → Ans) (x0 : List (List L)) (x1 : List (List L)) : Ans := (bif ((x0.length : Int) != (x1.length : Int)) then ret (false : Bool) else J (.p0 x1 x0 (x0.length : Int) 0))
def live : Nat → Live := fun i => match i with | 4 => [(1, none), (2, none), (15, none), (16, none), (17, none)] | _ => []
def pats : List Pat := [.rd (.sl 30), .rd (.sl 30), .fn 72 []]
def res : RP := .one (.rd (.bool))
noncomputable abbrev E : Env := ⟨assoc Tab, conG [(72, impl_EqualEntries.con)], 32⟩
set_option maxRecDepth 100000
theorem step_eq (I : Heads) (p : Pt) : enterC E live I (pid p) (bodyOf Try.f125) (stOf (live (pid p)) (pvs p) (phs p)) (doneK E Try.f125 res) = step (fun q => I (pid q) (pvs q) (phs q)) p := by
  cases p <;> kernel_rfl
theorem start_eq (I : Heads) (ls : List L) : runC E live I (bodyOf Try.f125) (initS pats ls) (doneK E Try.f125 res) = start (fun q => I (pid q) (pvs q) (phs q)) (ls.headD .hole).toSl ((dropT 1 ls).headD .hole).toSl := by kernel_rfl
theorem run_eq (n : Nat) (ls : List L) : runF E live Try.f125 res n (initS pats ls) = start (iter step n) (ls.headD .hole).toSl ((dropT 1 ls).headD .hole).toSl := runF_iter (id := pid) (vs := pvs) (hs := phs) (step := step) (start := fun J => start J (ls.headD .hole).toSl ((dropT 1 ls).headD .hole).toSl) step_eq (fun I => start_eq I ls) n
noncomputable def md (a0 : List MEntry) (a1 : List MEntry) : Bool := (bif ((a0.length : Int) != (a1.length : Int)) then (false : Bool) else (loopM (S := Unit) (β := Bool) (fun (i2 : Nat) (s4 : Unit) => (bif (!(impl_EqualEntries.md (a0.getD i2 MEntry.zero) (a1.getD i2 MEntry.zero))) then (.inr (false : Bool)) else (.inl ()))) (fun (s4 : Unit) => (true : Bool)) a0.length 0 ()))
def gd (a0 : List MEntry) (a1 : List MEntry) : Prop := (SmL (2 ^ 21) (fun y : MEntry => MEntry.Sm (2 ^ 21) y) a0) ∧ (SmL (2 ^ 21) (fun y : MEntry => MEntry.Sm (2 ^ 21) y) a1)
def acc (ls : List L) : List (List L) × List (List L) := ((ls.headD .hole).toSl, ((dropT 1 ls).headD .hole).toSl)
noncomputable def R : (List (List L) × List (List L)) → Option Bool := RR (p2 gd) (u2 md)
theorem R_eq {a0} {a1} (h : gd a0 a1) : R ((a0.map MEntry.row), (a1.map MEntry.row)) = some (md a0 a1) := RR_eq (a := (a0, a1)) h
noncomputable def con : Con := CN pats res acc R
theorem okF (a0 : List MEntry) (a1 : List MEntry) (hg : gd a0 a1) : ∃ n, start (iter step n) (a0.map MEntry.row) (a1.map MEntry.row) = ret ((md a0 a1) : Bool) := by
  unfold gd at hg
  obtain ⟨H0, H1⟩ := hg
  unfold start md
  try simp only [S0, MEntry.rs]
  refine ex_bif ret (fun _ => ⟨0, rfl⟩) (fun c1 => ?_)
  have dc1 := c1
  try simp only [DC] at dc1
  have Bh3 : a0.length ≤ maxLen := (by
      have := (H0).1
      try simp only [maxLen] at *
      omega)
  refine ex_pt (p := Pt.p0 (a1.map MEntry.row) (a0.map MEntry.row) (a0.length : Int) 0) (by first | rfl | (simp only [S0, MEntry.rs, MP]; done) | (simp only [MP]; rfl)) ?_
  refine loopM_ok (pt := fun (i2 : Nat) (s4 : Unit) => Pt.p0 (a1.map MEntry.row) (a0.map MEntry.row) (a0.length : Int) (i2 : Int)) (s := (() : Unit)) (out := ret) (fun _ _ => True) (fun J i2 s4 h3 hih3 => ?_) (fun s4 hih3 => ?_) trivial
  · simp only [step, S0, MEntry.rs]
    have bb_ := Bh3
    simp only [maxLen] at bb_
    have := (H0).1
    refine Rnd.yes (by apply decide_eq_true; omega) ?_
    refine Rnd.yes zle_dec ?_
    refine Rnd.yes (lt_dec h3) ?_
    refine Rnd.yes zle_dec ?_
    refine Rnd.yes (by
        have := (H1).1
        refine decide_eq_true ?_
        try simp (disch := omega) only [LN, wi]
        first | omega | (simp; done) | (simp; omega)) ?_
    refine Rnd.call_to (impl_EqualEntries.md (a0.getD i2 MEntry.zero) (a1.getD i2 MEntry.zero)) (impl_EqualEntries.R_eq (a0 := (a0.getD i2 MEntry.zero)) (a1 := (a1.getD i2 MEntry.zero)) ⟨(SmL.getD (z := MEntry.zero) H0 h3), (SmL.getD (z := MEntry.zero) H1 (by first | assumption | omega | (simp (disch := omega) only [wi]; omega) | (simp; omega)))⟩) ?_
    refine Rnd.bif (fun _ => Rnd.inr rfl) (fun c5 => ?_)
    refine Rnd.inl trivial ?_
    rw [wrap_succ h3 Bh3]
    all_goals first | rfl | (simp only [S0, MEntry.rs, MP]; first | done | rfl)
  · simp only [step, S0, MEntry.rs]
    have := (H0).1
    refine ex_no (by apply decide_eq_false; omega) ?_
    refine ⟨0, ?_⟩
    all_goals first | rfl | (simp only [S0, MEntry.rs, MP]; first | done | rfl)
theorem valid_ : Valid Try.prog Ev 125 con := VV (run := fun n x => start (iter step n) x.1 x.2) mix tab_ok (.cons impl_EqualEntries.valid_ .nil) Try.func125 (by kernel_rfl) run_eq (fun _ a _ _ hg => okF a.1 a.2 hg)
theorem md_eq (a0 : List MEntry) (a1 : List MEntry) : md a0 a1 = eqB a0 a1 := by
  unfold md
  refine loop_eqB (MEntry.zero) (fun i s h h2 => ?_) (fun s => rfl)
  simp only [bne, int_beq, bool_beq, ba_beq, impl_EqualEntries.md_eq]
  cases eqB _ _ <;> rfl
end slices_EqualFunc_Simpl_Entry_Simpl_Entry_impl_Entry_impl_Entry__impl_EqualEntries
/-! impl.SameEntries -/
namespace impl_SameEntries
noncomputable def F (x0 : List (List L)) (x1 : List (List L)) : Ans := (call (slices_EqualFunc_Simpl_Entry_Simpl_Entry_impl_Entry_impl_Entry__impl_EqualEntries.R (x0, x1)) fun v1 => ret (v1 : Bool))
def pats : List Pat := [.rd (.sl 30), .rd (.sl 30)]
def res : RP := .one (.rd (.bool))
noncomputable abbrev E : Env := ⟨assoc Tab, conG [(125, slices_EqualFunc_Simpl_Entry_Simpl_Entry_impl_Entry_impl_Entry__impl_EqualEntries.con)], 8⟩
set_option maxRecDepth 100000
theorem run_eq (n : Nat) (ls : List L) : runF E (fun _ => []) Try.f73 res n (initS pats ls) = F (ls.headD .hole).toSl ((dropT 1 ls).headD .hole).toSl := by kernel_rfl
noncomputable def md (a0 : List MEntry) (a1 : List MEntry) : Bool := ((slices_EqualFunc_Simpl_Entry_Simpl_Entry_impl_Entry_impl_Entry__impl_EqualEntries.md a0 a1) : Bool)
def gd (a0 : List MEntry) (a1 : List MEntry) : Prop := (SmL (2 ^ 21) (fun y : MEntry => MEntry.Sm (2 ^ 21) y) a0) ∧ (SmL (2 ^ 21) (fun y : MEntry => MEntry.Sm (2 ^ 21) y) a1)
def acc (ls : List L) : List (List L) × List (List L) := ((ls.headD .hole).toSl, ((dropT 1 ls).headD .hole).toSl)
noncomputable def R : (List (List L) × List (List L)) → Option Bool := RR (p2 gd) (u2 md)
theorem R_eq {a0} {a1} (h : gd a0 a1) : R ((a0.map MEntry.row), (a1.map MEntry.row)) = some (md a0 a1) := RR_eq (a := (a0, a1)) h
noncomputable def con : Con := CN pats res acc R
theorem okF (a0 : List MEntry) (a1 : List MEntry) (hg : gd a0 a1) : F (a0.map MEntry.row) (a1.map MEntry.row) = ret ((md a0 a1) : Bool) := by
  unfold gd at hg
  obtain ⟨H0, H1⟩ := hg
  unfold F md
  try simp only [S0]
  refine call_to (slices_EqualFunc_Simpl_Entry_Simpl_Entry_impl_Entry_impl_Entry__impl_EqualEntries.md a0 a1) (slices_EqualFunc_Simpl_Entry_Simpl_Entry_impl_Entry_impl_Entry__impl_EqualEntries.R_eq (a0 := a0) (a1 := a1) ⟨H0, H1⟩) ?_
  all_goals first | rfl | (simp only [S0, MP]; first | done | rfl)
theorem valid_ : Valid Try.prog Ev 73 con := VV (run := fun _ x => F x.1 x.2) mix tab_ok (.cons slices_EqualFunc_Simpl_Entry_Simpl_Entry_impl_Entry_impl_Entry__impl_EqualEntries.valid_ .nil) Try.func73 (by kernel_rfl) run_eq (fun _ a _ _ hg => ⟨0, okF a.1 a.2 hg⟩)
theorem md_eq (a0 : List MEntry) (a1 : List MEntry) : md a0 a1 = eqB a0 a1 := by
  unfold md
  rw [slices_EqualFunc_Simpl_Entry_Simpl_Entry_impl_Entry_impl_Entry__impl_EqualEntries.md_eq]
end impl_SameEntries
/-! impl.EqualDecisions -/
namespace impl_EqualDecisions
noncomputable def F (x0 : RDecision) (x1 : RDecision) : Ans := (bif (x0.fCode == x1.fCode) then (call (impl_EqualEntries.R (x0.fEntry, x1.fEntry)) fun v1 => (bif v1 then (call (impl_SameEntries.R (x0.fOthers, x1.fOthers)) fun v2 => ret (v2 : Bool)) else ret (false : Bool))) else ret (false : Bool))
def pats : List Pat := [.agg [.int .i64, .str, .int .i64, .int .i64, .sl 9, .sl 30], .agg [.int .i64, .str, .int .i64, .int .i64, .sl 9, .sl 30]]
def res : RP := .one (.rd (.bool))
noncomputable abbrev E : Env := ⟨assoc Tab, conG [(72, impl_EqualEntries.con), (73, impl_SameEntries.con)], 24⟩
set_option maxRecDepth 100000
theorem run_eq (n : Nat) (ls : List L) : runF E (fun _ => []) Try.f20 res n (initS pats ls) = F (RDecision.dec ls) (RDecision.dec (dropT 6 ls)) := by kernel_rfl
noncomputable def md (a0 : MDecision) (a1 : MDecision) : Bool := (bif (a0.fCode == a1.fCode) then (bif (impl_EqualEntries.md a0.fEntry a1.fEntry) then ((impl_SameEntries.md a0.fOthers a1.fOthers) : Bool) else (false : Bool)) else (false : Bool))
def gd (a0 : MDecision) (a1 : MDecision) : Prop := (MDecision.Sm (2 ^ 21) a0) ∧ (MDecision.Sm (2 ^ 21) a1)
def acc (ls : List L) : RDecision × RDecision := ((RDecision.dec ls), (RDecision.dec (dropT 6 ls)))
noncomputable def R : (RDecision × RDecision) → Option Bool := RR (p2 gd) (u2 md)
theorem R_eq {a0} {a1} (h : gd a0 a1) : R ((MDecision.r a0), (MDecision.r a1)) = some (md a0 a1) := RR_eq (a := (a0, a1)) h
noncomputable def con : Con := CN pats res acc R
theorem okF (a0 : MDecision) (a1 : MDecision) (hg : gd a0 a1) : F (MDecision.r a0) (MDecision.r a1) = ret ((md a0 a1) : Bool) := by
  unfold gd at hg
  obtain ⟨H0, H1⟩ := hg
  unfold F md
  try simp only [S0, MDecision.rs]
  refine bif_out ret (fun c1 => ?_) (fun _ => rfl)
  refine call_to (impl_EqualEntries.md a0.fEntry a1.fEntry) (impl_EqualEntries.R_eq (a0 := a0.fEntry) (a1 := a1.fEntry) ⟨H0.1, H1.1⟩) ?_
  refine bif_out ret (fun c2 => ?_) (fun _ => rfl)
  refine call_to (impl_SameEntries.md a0.fOthers a1.fOthers) (impl_SameEntries.R_eq (a0 := a0.fOthers) (a1 := a1.fOthers) ⟨H0.2, H1.2⟩) ?_
  all_goals first | rfl | (simp only [S0, MDecision.rs, MP]; first | done | rfl)
theorem valid_ : Valid Try.prog Ev 20 con := VV (run := fun _ x => F x.1 x.2) mix tab_ok (.cons impl_EqualEntries.valid_ (.cons impl_SameEntries.valid_ .nil)) Try.func20 (by kernel_rfl) run_eq (fun _ a _ _ hg => ⟨0, okF a.1 a.2 hg⟩)
theorem md_eq (a0 : MDecision) (a1 : MDecision) : md a0 a1 = eqB a0 a1 := by
  unfold md
  cases a0; cases a1
  rw [Bool.eq_iff_iff]
  simp [eqB_iff, ba_beq, MDecision.mk.injEq, impl_EqualEntries.md_eq, impl_SameEntries.md_eq]
  try (constructor <;> (intro h; simp_all))
end impl_EqualDecisions
/-! laws.eqStringS -/
namespace laws_eqStringS
inductive Pt where
  | p0 (a : List (List L)) (b : List (List L)) (c : Int)
def pid : Pt → Nat
  | .p0 .. => 4
def pvs : Pt → List V
  | .p0 a b c => [.sl none 9 a, .sl none 9 b, .int .i64 c]
def phs : Pt → List Root
  | .p0 a b c => []
noncomputable def step (J : Pt → Ans) : Pt → Ans
  | .p0 a b c => (bif (decide (c < (a.length : Int))) then (bif (decide ((0 : Int) ≤ c)) then (bif (decide (c < (a.length : Int))) then (bif (decide ((0 : Int) ≤ c)) then (bif (decide (c < (b.length : Int))) then (bif (!((sAt a (Int.toNat c)) == (sAt b (Int.toNat c)))) then ret (false : Bool) else J (.p0 a b (IntKind.i64.wrap (c + 1)))) else none) else none) else none) else none) else ret (true : Bool))
noncomputable def start (J : Pt → Ans) (x0 : List (List L)) (x1 : List (List L)) : Ans := (bif ((x0.length : Int) != (x1.length : Int)) then ret (false : Bool) else J (.p0 x0 x1 0))
def live : Nat → Live := fun i => match i with | 4 => [(0, none), (1, none), (5, none)] | _ => []
def pats : List Pat := [.rd (.sl 9), .rd (.sl 9)]
def res : RP := .one (.rd (.bool))
noncomputable abbrev E : Env := ⟨assoc Tab, conG [], 26⟩
set_option maxRecDepth 100000
theorem step_eq (I : Heads) (p : Pt) : enterC E live I (pid p) (bodyOf Try.f123) (stOf (live (pid p)) (pvs p) (phs p)) (doneK E Try.f123 res) = step (fun q => I (pid q) (pvs q) (phs q)) p := by
  cases p <;> kernel_rfl
theorem start_eq (I : Heads) (ls : List L) : runC E live I (bodyOf Try.f123) (initS pats ls) (doneK E Try.f123 res) = start (fun q => I (pid q) (pvs q) (phs q)) (ls.headD .hole).toSl ((dropT 1 ls).headD .hole).toSl := by kernel_rfl
theorem run_eq (n : Nat) (ls : List L) : runF E live Try.f123 res n (initS pats ls) = start (iter step n) (ls.headD .hole).toSl ((dropT 1 ls).headD .hole).toSl := runF_iter (id := pid) (vs := pvs) (hs := phs) (step := step) (start := fun J => start J (ls.headD .hole).toSl ((dropT 1 ls).headD .hole).toSl) step_eq (fun I => start_eq I ls) n
noncomputable def md (a0 : List ByteArray) (a1 : List ByteArray) : Bool := eqB a0 a1
def gd (a0 : List ByteArray) (a1 : List ByteArray) : Prop := True
def acc (ls : List L) : List (List L) × List (List L) := ((ls.headD .hole).toSl, ((dropT 1 ls).headD .hole).toSl)
noncomputable def R : (List (List L) × List (List L)) → Option Bool := RR (p2 gd) (u2 md)
theorem R_eq {a0} {a1} (h : gd a0 a1) : R ((a0.map sRow), (a1.map sRow)) = some (md a0 a1) := RR_eq (a := (a0, a1)) h
noncomputable def con : Con := CN pats res acc R
theorem okF (a0 : List ByteArray) (a1 : List ByteArray) (hg : gd a0 a1) (h0 : a0.length ≤ maxLen) (h1 : a1.length ≤ maxLen) : ∃ n, start (iter step n) (a0.map sRow) (a1.map sRow) = ret ((md a0 a1) : Bool) := by
  unfold start md
  simp only [List.length_map]
  refine eq_list (pt := fun i => Pt.p0 (a0.map sRow) (a1.map sRow) (i : Int)) (fun hl J i h h2 => ?_) (fun J => ?_)
  · simp only [step, List.length_map, lt_dec h, lt_dec h2, zle_dec, cond_true, toNat_nat, sAt_row h, sAt_row h2]
    rw [wrap_succ h h0]
    simp only [bne, int_beq, bool_beq, ba_beq]
    cases eqB a0[i] a1[i] <;> rfl
  · simp only [step, List.length_map, nlt_dec, cond_false]
theorem valid_ : Valid Try.prog Ev 123 con := VV (run := fun n x => start (iter step n) x.1 x.2) mix tab_ok .nil Try.func123 (by kernel_rfl) run_eq (fun ls a hl e hg => okF a.1 a.2 hg (by have h : (ls.headD .hole).toSl.length ≤ maxLen := hl.1.len; have e : a.1.map sRow = (ls.headD .hole).toSl := (congrArg (fun x => x.1) e.symm); rw [← e] at h; simpa using h) (by have h : ((dropT 1 ls).headD .hole).toSl.length ≤ maxLen := hl.2.1.len; have e : a.2.map sRow = ((dropT 1 ls).headD .hole).toSl := (congrArg (fun x => x.2) e.symm); rw [← e] at h; simpa using h))
end laws_eqStringS
/-! laws.eqEntry -/
namespace laws_eqEntry
noncomputable def F (x0 : REntry) (x1 : REntry) : Ans := (bif (!(x0.fLabel == x1.fLabel)) then ret (false : Bool) else (bif (x0.fKind != x1.fKind) then ret (false : Bool) else (bif (x0.fValue != x1.fValue) then ret (false : Bool) else (call (laws_eqStringS.R (x0.fPath, x1.fPath)) fun v1 => (bif (!v1) then ret (false : Bool) else ret (true : Bool))))))
def pats : List Pat := [.agg [.str, .int .i64, .int .i64, .sl 9], .agg [.str, .int .i64, .int .i64, .sl 9]]
def res : RP := .one (.rd (.bool))
noncomputable abbrev E : Env := ⟨assoc Tab, conG [(123, laws_eqStringS.con)], 26⟩
set_option maxRecDepth 100000
theorem run_eq (n : Nat) (ls : List L) : runF E (fun _ => []) Try.f74 res n (initS pats ls) = F (REntry.dec ls) (REntry.dec (dropT 4 ls)) := by kernel_rfl
noncomputable def md (a0 : MEntry) (a1 : MEntry) : Bool := eqB a0 a1
def gd (a0 : MEntry) (a1 : MEntry) : Prop := True
def acc (ls : List L) : REntry × REntry := ((REntry.dec ls), (REntry.dec (dropT 4 ls)))
noncomputable def R : (REntry × REntry) → Option Bool := RR (p2 gd) (u2 md)
theorem R_eq {a0} {a1} (h : gd a0 a1) : R ((MEntry.r a0), (MEntry.r a1)) = some (md a0 a1) := RR_eq (a := (a0, a1)) h
noncomputable def con : Con := CN pats res acc R
theorem okF (a0 : MEntry) (a1 : MEntry) (hg : gd a0 a1) : F (MEntry.r a0) (MEntry.r a1) = ret ((md a0 a1) : Bool) := by
  unfold md
  show (bif (!(a0.fLabel == a1.fLabel)) then ret (false : Bool) else (bif (a0.fKind != a1.fKind) then ret (false : Bool) else (bif (a0.fValue != a1.fValue) then ret (false : Bool) else (call (laws_eqStringS.R ((a0.fPath.map sRow), (a1.fPath.map sRow))) fun v1 => (bif (!v1) then ret (false : Bool) else ret (true : Bool)))))) = _
  simp only [call_eq (laws_eqStringS.R_eq (a0 := a0.fPath) (a1 := a1.fPath) trivial), laws_eqStringS.md]
  try simp only [bne, int_beq, bool_beq, ba_beq]
  have e : eqB a0 a1 = (eqB a0.fLabel a1.fLabel && (eqB a0.fKind a1.fKind && (eqB a0.fValue a1.fValue && (eqB a0.fPath a1.fPath && true)))) := by
    cases a0; cases a1
    rw [Bool.eq_iff_iff]
    simp only [eqB_iff, Bool.and_eq_true, MEntry.mk.injEq, and_true]
  rw [e]
  refine and_step fun _ => ?_
  refine and_step fun _ => ?_
  refine and_step fun _ => ?_
  refine and_step fun _ => ?_
  rfl
theorem valid_ : Valid Try.prog Ev 74 con := VV (run := fun _ x => F x.1 x.2) mix tab_ok (.cons laws_eqStringS.valid_ .nil) Try.func74 (by kernel_rfl) run_eq (fun _ a _ _ hg => ⟨0, okF a.1 a.2 hg⟩)
end laws_eqEntry
/-! laws.eqEntryS -/
namespace laws_eqEntryS
inductive Pt where
  | p0 (a : List (List L)) (b : List (List L)) (c : Int)
def pid : Pt → Nat
  | .p0 .. => 4
def pvs : Pt → List V
  | .p0 a b c => [.sl none 30 a, .sl none 30 b, .int .i64 c]
def phs : Pt → List Root
  | .p0 a b c => []
noncomputable def step (J : Pt → Ans) : Pt → Ans
  | .p0 a b c => (bif (decide (c < (a.length : Int))) then (bif (decide ((0 : Int) ≤ c)) then (bif (decide (c < (a.length : Int))) then (bif (decide ((0 : Int) ≤ c)) then (bif (decide (c < (b.length : Int))) then (call (laws_eqEntry.R ((REntry.at a (Int.toNat c)), (REntry.at b (Int.toNat c)))) fun v1 => (bif (!v1) then ret (false : Bool) else J (.p0 a b (IntKind.i64.wrap (c + 1))))) else none) else none) else none) else none) else ret (true : Bool))
noncomputable def start (J : Pt → Ans) (x0 : List (List L)) (x1 : List (List L)) : Ans := (bif ((x0.length : Int) != (x1.length : Int)) then ret (false : Bool) else J (.p0 x0 x1 0))
def live : Nat → Live := fun i => match i with | 4 => [(0, none), (1, none), (5, none)] | _ => []
def pats : List Pat := [.rd (.sl 30), .rd (.sl 30)]
def res : RP := .one (.rd (.bool))
noncomputable abbrev E : Env := ⟨assoc Tab, conG [(74, laws_eqEntry.con)], 27⟩
set_option maxRecDepth 100000
theorem step_eq (I : Heads) (p : Pt) : enterC E live I (pid p) (bodyOf Try.f75) (stOf (live (pid p)) (pvs p) (phs p)) (doneK E Try.f75 res) = step (fun q => I (pid q) (pvs q) (phs q)) p := by
  cases p <;> kernel_rfl
theorem start_eq (I : Heads) (ls : List L) : runC E live I (bodyOf Try.f75) (initS pats ls) (doneK E Try.f75 res) = start (fun q => I (pid q) (pvs q) (phs q)) (ls.headD .hole).toSl ((dropT 1 ls).headD .hole).toSl := by kernel_rfl
theorem run_eq (n : Nat) (ls : List L) : runF E live Try.f75 res n (initS pats ls) = start (iter step n) (ls.headD .hole).toSl ((dropT 1 ls).headD .hole).toSl := runF_iter (id := pid) (vs := pvs) (hs := phs) (step := step) (start := fun J => start J (ls.headD .hole).toSl ((dropT 1 ls).headD .hole).toSl) step_eq (fun I => start_eq I ls) n
noncomputable def md (a0 : List MEntry) (a1 : List MEntry) : Bool := eqB a0 a1
def gd (a0 : List MEntry) (a1 : List MEntry) : Prop := True
def acc (ls : List L) : List (List L) × List (List L) := ((ls.headD .hole).toSl, ((dropT 1 ls).headD .hole).toSl)
noncomputable def R : (List (List L) × List (List L)) → Option Bool := RR (p2 gd) (u2 md)
theorem R_eq {a0} {a1} (h : gd a0 a1) : R ((a0.map MEntry.row), (a1.map MEntry.row)) = some (md a0 a1) := RR_eq (a := (a0, a1)) h
noncomputable def con : Con := CN pats res acc R
theorem okF (a0 : List MEntry) (a1 : List MEntry) (hg : gd a0 a1) (h0 : a0.length ≤ maxLen) (h1 : a1.length ≤ maxLen) : ∃ n, start (iter step n) (a0.map MEntry.row) (a1.map MEntry.row) = ret ((md a0 a1) : Bool) := by
  unfold start md
  simp only [List.length_map]
  refine eq_list (pt := fun i => Pt.p0 (a0.map MEntry.row) (a1.map MEntry.row) (i : Int)) (fun hl J i h h2 => ?_) (fun J => ?_)
  · simp only [step, List.length_map, lt_dec h, lt_dec h2, zle_dec, cond_true, toNat_nat, MEntry.at_row h, MEntry.at_row h2]
    rw [wrap_succ h h0]
    rw [call_eq (laws_eqEntry.R_eq (a0 := a0[i]) (a1 := a1[i]) trivial), laws_eqEntry.md]
    cases eqB a0[i] a1[i] <;> rfl
  · simp only [step, List.length_map, nlt_dec, cond_false]
theorem valid_ : Valid Try.prog Ev 75 con := VV (run := fun n x => start (iter step n) x.1 x.2) mix tab_ok (.cons laws_eqEntry.valid_ .nil) Try.func75 (by kernel_rfl) run_eq (fun ls a hl e hg => okF a.1 a.2 hg (by have h : (ls.headD .hole).toSl.length ≤ maxLen := hl.1.len; have e : a.1.map MEntry.row = (ls.headD .hole).toSl := (congrArg (fun x => x.1) e.symm); rw [← e] at h; simpa using h) (by have h : ((dropT 1 ls).headD .hole).toSl.length ≤ maxLen := hl.2.1.len; have e : a.2.map MEntry.row = ((dropT 1 ls).headD .hole).toSl := (congrArg (fun x => x.2) e.symm); rw [← e] at h; simpa using h))
end laws_eqEntryS
/-! laws.eqDecision -/
namespace laws_eqDecision
noncomputable def F (x0 : RDecision) (x1 : RDecision) : Ans := (bif (x0.fCode != x1.fCode) then ret (false : Bool) else (call (laws_eqEntry.R (x0.fEntry, x1.fEntry)) fun v1 => (bif (!v1) then ret (false : Bool) else (call (laws_eqEntryS.R (x0.fOthers, x1.fOthers)) fun v2 => (bif (!v2) then ret (false : Bool) else ret (true : Bool))))))
def pats : List Pat := [.agg [.int .i64, .str, .int .i64, .int .i64, .sl 9, .sl 30], .agg [.int .i64, .str, .int .i64, .int .i64, .sl 9, .sl 30]]
def res : RP := .one (.rd (.bool))
noncomputable abbrev E : Env := ⟨assoc Tab, conG [(74, laws_eqEntry.con), (75, laws_eqEntryS.con)], 22⟩
set_option maxRecDepth 100000
theorem run_eq (n : Nat) (ls : List L) : runF E (fun _ => []) Try.f21 res n (initS pats ls) = F (RDecision.dec ls) (RDecision.dec (dropT 6 ls)) := by kernel_rfl
noncomputable def md (a0 : MDecision) (a1 : MDecision) : Bool := eqB a0 a1
def gd (a0 : MDecision) (a1 : MDecision) : Prop := True
def acc (ls : List L) : RDecision × RDecision := ((RDecision.dec ls), (RDecision.dec (dropT 6 ls)))
noncomputable def R : (RDecision × RDecision) → Option Bool := RR (p2 gd) (u2 md)
theorem R_eq {a0} {a1} (h : gd a0 a1) : R ((MDecision.r a0), (MDecision.r a1)) = some (md a0 a1) := RR_eq (a := (a0, a1)) h
noncomputable def con : Con := CN pats res acc R
theorem okF (a0 : MDecision) (a1 : MDecision) (hg : gd a0 a1) : F (MDecision.r a0) (MDecision.r a1) = ret ((md a0 a1) : Bool) := by
  unfold md
  show (bif (a0.fCode != a1.fCode) then ret (false : Bool) else (call (laws_eqEntry.R ((MEntry.r a0.fEntry), (MEntry.r a1.fEntry))) fun v1 => (bif (!v1) then ret (false : Bool) else (call (laws_eqEntryS.R ((a0.fOthers.map MEntry.row), (a1.fOthers.map MEntry.row))) fun v2 => (bif (!v2) then ret (false : Bool) else ret (true : Bool)))))) = _
  simp only [call_eq (laws_eqEntry.R_eq (a0 := a0.fEntry) (a1 := a1.fEntry) trivial), laws_eqEntry.md]
  simp only [call_eq (laws_eqEntryS.R_eq (a0 := a0.fOthers) (a1 := a1.fOthers) trivial), laws_eqEntryS.md]
  try simp only [bne, int_beq, bool_beq, ba_beq]
  have e : eqB a0 a1 = (eqB a0.fCode a1.fCode && (eqB a0.fEntry a1.fEntry && (eqB a0.fOthers a1.fOthers && true))) := by
    cases a0; cases a1
    rw [Bool.eq_iff_iff]
    simp only [eqB_iff, Bool.and_eq_true, MDecision.mk.injEq, and_true]
  rw [e]
  refine and_step fun _ => ?_
  refine and_step fun _ => ?_
  refine and_step fun _ => ?_
  rfl
theorem valid_ : Valid Try.prog Ev 21 con := VV (run := fun _ x => F x.1 x.2) mix tab_ok (.cons laws_eqEntry.valid_ (.cons laws_eqEntryS.valid_ .nil)) Try.func21 (by kernel_rfl) run_eq (fun _ a _ _ hg => ⟨0, okF a.1 a.2 hg⟩)
end laws_eqDecision
/-! laws.FnExactEqualDecisions -/
namespace laws_FnExactEqualDecisions
noncomputable def F (x0 : RDecision) (x1 : RDecision) : Ans := (call (laws_szDecision.R (x0, 1048576)) fun v1 => (bif (decide (v1 < 0)) then ret (true : Bool) else (call (laws_szDecision.R (x1, v1)) fun v2 => (bif (decide (v2 < 0)) then ret (true : Bool) else (call (laws_toDecision.R x0) fun v3 => (call (laws_toDecision.R x1) fun v4 => (call (spec_EqualDecisions.R (v3, v4)) fun v5 => (call (laws_toDecision.R x0) fun v6 => (call (laws_toDecision.R x1) fun v7 => (call (impl_EqualDecisions.R (v6, v7)) fun v8 => (bif (!(v8 == v5)) then ret (false : Bool) else (call (laws_toDecision.R x0) fun v9 => (call (laws_eqDecision.R (v6, v9)) fun v10 => (bif (!v10) then ret (false : Bool) else (call (laws_toDecision.R x1) fun v11 => (call (laws_eqDecision.R (v7, v11)) fun v12 => (bif (!v12) then ret (false : Bool) else ret (true : Bool))))))))))))))))))
def pats : List Pat := [.agg [.int .i64, .str, .int .i64, .int .i64, .sl 9, .sl 24], .agg [.int .i64, .str, .int .i64, .int .i64, .sl 9, .sl 24]]
def res : RP := .one (.rd (.bool))
noncomputable abbrev E : Env := ⟨assoc Tab, conG [(17, laws_szDecision.con), (19, laws_toDecision.con), (18, spec_EqualDecisions.con), (20, impl_EqualDecisions.con), (21, laws_eqDecision.con)], 45⟩
set_option maxRecDepth 100000
theorem run_eq (n : Nat) (ls : List L) : runF E (fun _ => []) Try.f3 res n (initS pats ls) = F (RDecision.dec ls) (RDecision.dec (dropT 6 ls)) := by kernel_rfl
noncomputable def md (a0 : MDecision) (a1 : MDecision) : Bool := true
def gd (a0 : MDecision) (a1 : MDecision) : Prop := (MDecision.Sm maxLen a0) ∧ (MDecision.Sm maxLen a1)
def acc (ls : List L) : RDecision × RDecision := ((RDecision.dec ls), (RDecision.dec (dropT 6 ls)))
noncomputable def R : (RDecision × RDecision) → Option Bool := RR (p2 gd) (u2 md)
theorem R_eq {a0} {a1} (h : gd a0 a1) : R ((MDecision.r a0), (MDecision.r a1)) = some (md a0 a1) := RR_eq (a := (a0, a1)) h
noncomputable def con : Con := CN pats res acc R
theorem okF (a0 : MDecision) (a1 : MDecision) (hg : gd a0 a1) : F (MDecision.r a0) (MDecision.r a1) = ret ((md a0 a1) : Bool) := by
  unfold md
  show (call (laws_szDecision.R ((MDecision.r a0), 1048576)) fun v1 => (bif (decide (v1 < 0)) then ret (true : Bool) else (call (laws_szDecision.R ((MDecision.r a1), v1)) fun v2 => (bif (decide (v2 < 0)) then ret (true : Bool) else (call (laws_toDecision.R (MDecision.r a0)) fun v3 => (call (laws_toDecision.R (MDecision.r a1)) fun v4 => (call (spec_EqualDecisions.R (v3, v4)) fun v5 => (call (laws_toDecision.R (MDecision.r a0)) fun v6 => (call (laws_toDecision.R (MDecision.r a1)) fun v7 => (call (impl_EqualDecisions.R (v6, v7)) fun v8 => (bif (!(v8 == v5)) then ret (false : Bool) else (call (laws_toDecision.R (MDecision.r a0)) fun v9 => (call (laws_eqDecision.R (v6, v9)) fun v10 => (bif (!v10) then ret (false : Bool) else (call (laws_toDecision.R (MDecision.r a1)) fun v11 => (call (laws_eqDecision.R (v7, v11)) fun v12 => (bif (!v12) then ret (false : Bool) else ret (true : Bool)))))))))))))))))) = _
  rw [call_eq (laws_szDecision.R_eq (a1 := (1048576 : Int)) ⟨hg.1, by omega, by omega⟩)]
  unfold laws_szDecision.md
  by_cases c0 : (1048576 : Int) < (((MDecision.size a0) : Nat) : Int)
  · rw [szM_neg c0]; rfl
  rw [szM_pos c0, dec_neg (by omega)]
  simp only [cond_false]
  have s0 : MDecision.Sm (2 ^ 20) a0 := (MDecision.Sm_of (by omega))
  rw [call_eq (laws_szDecision.R_eq (a1 := (1048576 - (((MDecision.size a0) : Nat) : Int) : Int)) ⟨hg.2, by omega, by omega⟩)]
  unfold laws_szDecision.md
  by_cases c1 : (1048576 - (((MDecision.size a0) : Nat) : Int) : Int) < (((MDecision.size a1) : Nat) : Int)
  · rw [szM_neg c1]; rfl
  rw [szM_pos c1, dec_neg (by omega)]
  simp only [cond_false]
  have s1 : MDecision.Sm (2 ^ 20) a1 := (MDecision.Sm_of (by omega))
  rw [call_eq (laws_toDecision.R_eq (a0 := a0) (MDecision.Sm_mono (by decide) s0))]
  simp only [laws_toDecision.md]
  rw [call_eq (laws_toDecision.R_eq (a0 := a1) (MDecision.Sm_mono (by decide) s1))]
  simp only [laws_toDecision.md]
  rw [call_eq (spec_EqualDecisions.R_eq (a0 := a0) (a1 := a1) (by
    have := And.intro trivial trivial
    unfold spec_EqualDecisions.gd
    first | exact (MDecision.Sm_mono (by decide) s0) | refine ⟨(MDecision.Sm_mono (by decide) s0), (MDecision.Sm_mono (by decide) s1)⟩))]
  rw [call_eq (laws_toDecision.R_eq (a0 := a0) (MDecision.Sm_mono (by decide) s0))]
  simp only [laws_toDecision.md]
  rw [call_eq (laws_toDecision.R_eq (a0 := a1) (MDecision.Sm_mono (by decide) s1))]
  simp only [laws_toDecision.md]
  rw [call_eq (impl_EqualDecisions.R_eq (a0 := a0) (a1 := a1) (by
    have := And.intro trivial trivial
    unfold impl_EqualDecisions.gd
    first | exact (MDecision.Sm_mono (by decide) s0) | refine ⟨(MDecision.Sm_mono (by decide) s0), (MDecision.Sm_mono (by decide) s1)⟩))]
  try simp only [spec_EqualDecisions.md_eq, impl_EqualDecisions.md_eq, bne_self_eq_false, beq_self_eq_true, ba_refl, Bool.not_true, cond_false]
  rw [call_eq (laws_toDecision.R_eq (a0 := a0) (MDecision.Sm_mono (by decide) s0))]
  simp only [laws_toDecision.md]
  rw [call_eq (laws_eqDecision.R_eq (a0 := a0) (a1 := a0) trivial)]
  simp only [laws_eqDecision.md, eqB_refl, Bool.not_true, cond_false]
  rw [call_eq (laws_toDecision.R_eq (a0 := a1) (MDecision.Sm_mono (by decide) s1))]
  simp only [laws_toDecision.md]
  rw [call_eq (laws_eqDecision.R_eq (a0 := a1) (a1 := a1) trivial)]
  simp only [laws_eqDecision.md, eqB_refl, Bool.not_true, cond_false]
theorem valid_ : Valid Try.prog Ev 3 con := VV (run := fun _ x => F x.1 x.2) mix tab_ok (.cons laws_szDecision.valid_ (.cons laws_toDecision.valid_ (.cons spec_EqualDecisions.valid_ (.cons impl_EqualDecisions.valid_ (.cons laws_eqDecision.valid_ .nil))))) Try.func3 (by kernel_rfl) run_eq (fun _ a _ _ hg => ⟨0, okF a.1 a.2 hg⟩)
theorem MEntry_wf24 (r : List L) (h : WfAll Ev.cells [.str, .int .i64, .int .i64, .sl 9] r) : ∃ x : MEntry, MEntry.row x = r ∧ MEntry.Sm maxLen x := by
  obtain ⟨l0, t0, rfl, g0, h1⟩ := h.uncons
  obtain ⟨x0, rfl, s0⟩ := wf_str g0
  obtain ⟨l1, t1, rfl, g1, h2⟩ := h1.uncons
  obtain ⟨x1, rfl⟩ := wf_int g1
  obtain ⟨l2, t2, rfl, g2, h3⟩ := h2.uncons
  obtain ⟨x2, rfl⟩ := wf_int g2
  obtain ⟨l3, t3, rfl, g3, h4⟩ := h3.uncons
  obtain ⟨x3, rfl, s3⟩ := wf_list (show Ev.cells 9 = [.str] from by kernel_rfl) wf_srow g3
  obtain rfl := h4.isnil
  exact ⟨⟨x0, x1, x2, x3⟩, rfl, ⟨s0, s3⟩⟩
theorem MDecision_wf27 (r : List L) (h : WfAll Ev.cells [.int .i64, .str, .int .i64, .int .i64, .sl 9, .sl 24] r) : ∃ x : MDecision, MDecision.row x = r ∧ MDecision.Sm maxLen x := by
  obtain ⟨l0, t0, rfl, g0, h1⟩ := h.uncons
  obtain ⟨x0, rfl⟩ := wf_int g0
  obtain ⟨r1, t1, rfl, g1, h2⟩ := WfAll.unapp (a := [.str, .int .i64, .int .i64, .sl 9]) (b := [.sl 24]) h1
  obtain ⟨x1, rfl, s1⟩ := MEntry_wf24 _ g1
  obtain ⟨l2, t2, rfl, g2, h3⟩ := h2.uncons
  obtain ⟨x2, rfl, s2⟩ := wf_list (show Ev.cells 24 = [.str, .int .i64, .int .i64, .sl 9] from by kernel_rfl) MEntry_wf24 g2
  obtain rfl := h3.isnil
  exact ⟨⟨x0, x1, x2⟩, rfl, ⟨s1, s2⟩⟩
theorem holds (ls : List L) (h : WfAll Ev.cells ([27, 27].flatMap Ev.cells) ls) : con.sem ls = some [.bool true] := by
  have hk : [27, 27].flatMap Ev.cells = [.int .i64, .str, .int .i64, .int .i64, .sl 9, .sl 24, .int .i64, .str, .int .i64, .int .i64, .sl 9, .sl 24] := by kernel_rfl
  rw [hk] at h
  obtain ⟨r0, t0, rfl, g0, h1⟩ := WfAll.unapp (a := [.int .i64, .str, .int .i64, .int .i64, .sl 9, .sl 24]) (b := [.int .i64, .str, .int .i64, .int .i64, .sl 9, .sl 24]) h
  obtain ⟨x0, rfl, s0⟩ := MDecision_wf27 _ g0
  obtain ⟨r1, t1, rfl, g1, h2⟩ := WfAll.unapp (a := [.int .i64, .str, .int .i64, .int .i64, .sl 9, .sl 24]) (b := []) h1
  obtain ⟨x1, rfl, s1⟩ := MDecision_wf27 _ g1
  obtain rfl := h2.isnil
  show (R ((MDecision.r x0), (MDecision.r x1))).map RT.enc = _
  rw [R_eq ⟨s0, s1⟩]
  rfl
end laws_FnExactEqualDecisions
end Go.DM
