/- What the functions compute that the law reaches, and that the law returns true. Conditions: none. -/
import Derived.Test.YtedhlofhkcggpaaTy
import Derived.Test.YtedhlofhkcggpaaProg
import Derived.Lib.AppendZerosOnto
import Derived.Lib.Bytealg
import Derived.Laws.Externs
import Derived.Lib.Walk
import Derived.Lib.Hide
import Derived.Lib.Strings
set_option linter.all false
namespace Go.DM
open Go.Proofs
def Tab : List (Nat × TI) := [
  (2, ⟨[.int .i64], false, [], 8, false⟩),
  (3, ⟨[.int .i64], false, [], 8, false⟩),
  (4, ⟨[.bool], false, [], 1, false⟩),
  (5, ⟨[.int .u8], false, [], 1, false⟩),
  (6, ⟨[.int .u8], false, [], 1, false⟩),
  (7, ⟨[.int .i64, .int .i64, .bool, .int .u8], true, [(0, 2), (1, 3), (2, 4), (3, 6)], 24, false⟩),
  (8, ⟨[.int .i64, .int .i64, .bool, .int .u8], true, [(0, 2), (1, 3), (2, 4), (3, 6)], 24, false⟩),
  (9, ⟨[.str], false, [], 16, false⟩),
  (10, ⟨[.str], false, [], 16, false⟩),
  (11, ⟨[.str], false, [], 16, false⟩),
  (12, ⟨[.int .u64], false, [], 8, false⟩),
  (13, ⟨[.str, .int .u64], true, [(0, 9), (1, 12)], 24, false⟩),
  (14, ⟨[.str, .int .u64], true, [(0, 9), (1, 12)], 24, false⟩),
  (21, ⟨[.int .i32], false, [], 4, false⟩),
  (22, ⟨[.sl 140], false, [], 24, false⟩),
  (25, ⟨[.sl 142], false, [], 24, false⟩),
  (29, ⟨[.sl 149], false, [], 24, false⟩),
  (32, ⟨[.sl 150], false, [], 24, false⟩),
  (36, ⟨[.sl 9], false, [], 24, false⟩),
  (37, ⟨[.str, .int .i64, .int .i64, .sl 9], true, [(0, 9), (1, 3), (2, 3), (3, 36)], 56, false⟩),
  (38, ⟨[.str, .int .i64, .int .i64, .sl 9], true, [(0, 9), (1, 3), (2, 3), (3, 36)], 56, false⟩),
  (39, ⟨[.sl 38], false, [], 24, false⟩),
  (40, ⟨[.int .i64, .str, .int .i64, .int .i64, .sl 9, .sl 38], true, [(0, 3), (1, 38), (5, 39)], 88, false⟩),
  (41, ⟨[.int .i64, .str, .int .i64, .int .i64, .sl 9, .sl 38], true, [(0, 3), (1, 38), (5, 39)], 88, false⟩),
  (44, ⟨[.str, .int .i64, .int .i64, .sl 9], true, [(0, 9), (1, 3), (2, 3), (3, 36)], 56, false⟩),
  (45, ⟨[.sl 44], false, [], 24, false⟩),
  (46, ⟨[.int .i64, .str, .int .i64, .int .i64, .sl 9, .sl 44], true, [(0, 3), (1, 44), (5, 45)], 88, false⟩),
  (47, ⟨[.int .i64, .str, .int .i64, .int .i64, .sl 9, .sl 44], true, [(0, 3), (1, 44), (5, 45)], 88, false⟩),
  (55, ⟨[.sl 162], false, [], 24, false⟩),
  (60, ⟨[.sl 166], false, [], 24, false⟩),
  (74, ⟨[.sl 92], false, [], 24, false⟩),
  (75, ⟨[.sl 238], false, [], 24, false⟩),
  (76, ⟨[.sl 92, .sl 238], true, [(0, 74), (1, 75)], 48, false⟩),
  (77, ⟨[.sl 92, .sl 238], true, [(0, 74), (1, 75)], 48, false⟩),
  (79, ⟨[.sl 184], false, [], 24, false⟩),
  (82, ⟨[.sl 79], false, [], 24, false⟩),
  (83, ⟨[.sl 241], false, [], 24, false⟩),
  (84, ⟨[.sl 79, .sl 241], true, [(0, 82), (1, 83)], 48, false⟩),
  (85, ⟨[.sl 79, .sl 241], true, [(0, 82), (1, 83)], 48, false⟩),
  (92, ⟨[.sl 197], false, [], 24, false⟩),
  (94, ⟨[.sl 202], false, [], 24, false⟩),
  (100, ⟨[.sl 207], false, [], 24, false⟩),
  (102, ⟨[.sl 121], false, [], 24, false⟩),
  (104, ⟨[.sl 210], false, [], 24, false⟩),
  (117, ⟨[.sl 263], false, [], 24, false⟩),
  (118, ⟨[.sl 263], true, [(0, 117)], 24, false⟩),
  (119, ⟨[.sl 263], true, [(0, 117)], 24, false⟩),
  (121, ⟨[.sl 3], false, [], 24, false⟩),
  (122, ⟨[.int .i64, .sl 3], true, [(0, 3), (1, 121)], 32, false⟩),
  (123, ⟨[.int .i64, .sl 3], true, [(0, 3), (1, 121)], 32, false⟩),
  (124, ⟨[.int .i64, .str, .int .i64, .int .i64, .sl 9, .str, .int .i64, .int .i64, .sl 9, .int .i64, .sl 3, .int .i64, .sl 3], true, [(0, 3), (1, 44), (5, 44), (9, 123), (11, 123)], 184, false⟩),
  (125, ⟨[.int .i64, .str, .int .i64, .int .i64, .sl 9, .str, .int .i64, .int .i64, .sl 9, .int .i64, .sl 3, .int .i64, .sl 3], true, [(0, 3), (1, 44), (5, 44), (9, 123), (11, 123)], 184, false⟩),
  (126, ⟨[.sl 184, .bool, .str, .int .i64, .int .i64, .sl 9, .int .i64, .sl 3, .int .i64, .str, .int .i64, .int .i64, .sl 9, .str, .int .i64, .int .i64, .sl 9, .int .i64, .sl 3, .int .i64, .sl 3], true, [(0, 79), (1, 4), (2, 44), (6, 123), (8, 125)], 304, false⟩),
  (127, ⟨[.sl 184, .bool, .str, .int .i64, .int .i64, .sl 9, .int .i64, .sl 3, .int .i64, .str, .int .i64, .int .i64, .sl 9, .str, .int .i64, .int .i64, .sl 9, .int .i64, .sl 3, .int .i64, .sl 3], true, [(0, 79), (1, 4), (2, 44), (6, 123), (8, 125)], 304, false⟩),
  (129, ⟨[.sl 220], false, [], 24, false⟩),
  (130, ⟨[.sl 220], true, [(0, 129)], 24, false⟩),
  (131, ⟨[.sl 220], true, [(0, 129)], 24, false⟩),
  (139, ⟨[.str, .int .i64], true, [(0, 9), (1, 3)], 24, false⟩),
  (140, ⟨[.str, .int .i64], true, [(0, 9), (1, 3)], 24, true⟩),
  (142, ⟨[.str, .int .i64], true, [(0, 9), (1, 3)], 24, true⟩),
  (149, ⟨[.str, .int .i64], true, [(0, 9), (1, 3)], 24, true⟩),
  (150, ⟨[.str, .int .i64], true, [(0, 9), (1, 3)], 24, true⟩),
  (161, ⟨[.sl 9, .str, .int .i64, .int .i64, .sl 9], true, [(0, 36), (1, 38)], 80, false⟩),
  (162, ⟨[.sl 9, .str, .int .i64, .int .i64, .sl 9], true, [(0, 36), (1, 38)], 80, false⟩),
  (165, ⟨[.sl 9, .str, .int .i64, .int .i64, .sl 9], true, [(0, 36), (1, 44)], 80, false⟩),
  (166, ⟨[.sl 9, .str, .int .i64, .int .i64, .sl 9], true, [(0, 36), (1, 44)], 80, false⟩),
  (178, ⟨[.sl 3, .int .i64], true, [(0, 121), (1, 3)], 32, false⟩),
  (179, ⟨[.sl 3, .int .i64], true, [(0, 121), (1, 3)], 32, false⟩),
  (180, ⟨[.int .i64, .int .i64, .int .i64, .int .i64, .int .i64, .int .i64, .int .i64, .int .i64, .sl 3, .int .i64, .sl 3, .int .i64, .int .i64, .sl 3, .int .i64, .bool], true, [(0, 3), (1, 3), (2, 3), (3, 3), (4, 3), (5, 3), (6, 3), (7, 3), (8, 179), (10, 179), (12, 3), (13, 179), (15, 4)], 176, false⟩),
  (181, ⟨[.int .i64, .int .i64, .int .i64, .int .i64, .int .i64, .int .i64, .int .i64, .int .i64, .sl 3, .int .i64, .sl 3, .int .i64, .int .i64, .sl 3, .int .i64, .bool], true, [(0, 3), (1, 3), (2, 3), (3, 3), (4, 3), (5, 3), (6, 3), (7, 3), (8, 179), (10, 179), (12, 3), (13, 179), (15, 4)], 176, false⟩),
  (182, ⟨[.sl 248], false, [], 24, false⟩),
  (183, ⟨[.int .i64, .int .i64, .int .i64, .int .i64, .int .i64, .int .i64, .int .i64, .int .i64, .sl 3, .int .i64, .sl 3, .int .i64, .int .i64, .sl 3, .int .i64, .bool, .sl 248], true, [(0, 181), (16, 182)], 200, false⟩),
  (184, ⟨[.int .i64, .int .i64, .int .i64, .int .i64, .int .i64, .int .i64, .int .i64, .int .i64, .sl 3, .int .i64, .sl 3, .int .i64, .int .i64, .sl 3, .int .i64, .bool, .sl 248], true, [(0, 181), (16, 182)], 200, false⟩),
  (192, ⟨[.sl 3, .int .i64], true, [(0, 121), (1, 3)], 32, false⟩),
  (193, ⟨[.int .i64, .int .i64, .int .i64, .int .i64, .int .i64, .int .i64, .int .i64, .int .i64, .sl 3, .int .i64, .sl 3, .int .i64, .int .i64, .sl 3, .int .i64, .bool], true, [(0, 3), (1, 3), (2, 3), (3, 3), (4, 3), (5, 3), (6, 3), (7, 3), (8, 192), (10, 192), (12, 3), (13, 192), (15, 4)], 176, false⟩),
  (194, ⟨[.int .i64, .int .i64, .int .i64, .int .i64, .int .i64, .int .i64, .int .i64, .int .i64, .sl 3, .int .i64, .sl 3, .int .i64, .int .i64, .sl 3, .int .i64, .bool], true, [(0, 3), (1, 3), (2, 3), (3, 3), (4, 3), (5, 3), (6, 3), (7, 3), (8, 192), (10, 192), (12, 3), (13, 192), (15, 4)], 176, false⟩),
  (195, ⟨[.sl 279], false, [], 24, false⟩),
  (196, ⟨[.int .i64, .int .i64, .int .i64, .int .i64, .int .i64, .int .i64, .int .i64, .int .i64, .sl 3, .int .i64, .sl 3, .int .i64, .int .i64, .sl 3, .int .i64, .bool, .sl 279], true, [(0, 194), (16, 195)], 200, false⟩),
  (197, ⟨[.int .i64, .int .i64, .int .i64, .int .i64, .int .i64, .int .i64, .int .i64, .int .i64, .sl 3, .int .i64, .sl 3, .int .i64, .int .i64, .sl 3, .int .i64, .bool, .sl 279], true, [(0, 194), (16, 195)], 200, false⟩),
  (201, ⟨[.int .i64, .sl 3, .int .i64, .int .i64], true, [(0, 3), (1, 179), (3, 3)], 48, false⟩),
  (202, ⟨[.int .i64, .sl 3, .int .i64, .int .i64], true, [(0, 3), (1, 179), (3, 3)], 48, false⟩),
  (206, ⟨[.sl 92, .sl 238, .int .i64, .str, .int .i64, .int .i64, .sl 9, .sl 3, .int .i64], true, [(0, 77), (2, 3), (3, 38), (7, 121), (8, 3)], 144, false⟩),
  (207, ⟨[.sl 92, .sl 238, .int .i64, .str, .int .i64, .int .i64, .sl 9, .sl 3, .int .i64], true, [(0, 77), (2, 3), (3, 38), (7, 121), (8, 3)], 144, false⟩),
  (209, ⟨[.sl 79, .sl 241, .int .i64, .str, .int .i64, .int .i64, .sl 9, .sl 3, .int .i64], true, [(0, 85), (2, 3), (3, 44), (7, 121), (8, 3)], 144, false⟩),
  (210, ⟨[.sl 79, .sl 241, .int .i64, .str, .int .i64, .int .i64, .sl 9, .sl 3, .int .i64], true, [(0, 85), (2, 3), (3, 44), (7, 121), (8, 3)], 144, false⟩),
  (219, ⟨[.int .i64, .str, .sl 184, .bool, .str, .int .i64, .int .i64, .sl 9, .int .i64, .sl 3, .int .i64, .str, .int .i64, .int .i64, .sl 9, .str, .int .i64, .int .i64, .sl 9, .int .i64, .sl 3, .int .i64, .sl 3], true, [(0, 3), (1, 9), (2, 127)], 328, false⟩),
  (220, ⟨[.int .i64, .str, .sl 184, .bool, .str, .int .i64, .int .i64, .sl 9, .int .i64, .sl 3, .int .i64, .str, .int .i64, .int .i64, .sl 9, .str, .int .i64, .int .i64, .sl 9, .int .i64, .sl 3, .int .i64, .sl 3], true, [(0, 3), (1, 9), (2, 127)], 328, false⟩),
  (231, ⟨[.sl 5], false, [], 24, false⟩),
  (237, ⟨[.int .i64, .int .i64, .int .i64, .int .i64, .int .i64, .int .i64, .int .i64, .int .i64, .sl 3, .int .i64, .sl 3, .int .i64, .int .i64, .sl 3, .int .i64, .bool, .sl 279, .int .i64, .int .i64, .int .i64, .int .i64, .int .i64, .int .i64, .int .i64, .int .i64, .sl 3, .int .i64, .sl 3, .int .i64, .int .i64, .sl 3, .int .i64, .bool, .sl 279, .int .i64, .int .i64, .int .i64, .int .i64, .int .i64, .int .i64, .int .i64, .int .i64, .sl 3, .int .i64, .sl 3, .int .i64, .int .i64, .sl 3, .int .i64, .bool, .sl 279], true, [(0, 197), (17, 197), (34, 197)], 600, false⟩),
  (238, ⟨[.int .i64, .int .i64, .int .i64, .int .i64, .int .i64, .int .i64, .int .i64, .int .i64, .sl 3, .int .i64, .sl 3, .int .i64, .int .i64, .sl 3, .int .i64, .bool, .sl 279, .int .i64, .int .i64, .int .i64, .int .i64, .int .i64, .int .i64, .int .i64, .int .i64, .sl 3, .int .i64, .sl 3, .int .i64, .int .i64, .sl 3, .int .i64, .bool, .sl 279, .int .i64, .int .i64, .int .i64, .int .i64, .int .i64, .int .i64, .int .i64, .int .i64, .sl 3, .int .i64, .sl 3, .int .i64, .int .i64, .sl 3, .int .i64, .bool, .sl 279], true, [(0, 197), (17, 197), (34, 197)], 600, false⟩),
  (240, ⟨[.int .i64, .int .i64, .int .i64, .int .i64, .int .i64, .int .i64, .int .i64, .int .i64, .sl 3, .int .i64, .sl 3, .int .i64, .int .i64, .sl 3, .int .i64, .bool, .sl 248, .int .i64, .int .i64, .int .i64, .int .i64, .int .i64, .int .i64, .int .i64, .int .i64, .sl 3, .int .i64, .sl 3, .int .i64, .int .i64, .sl 3, .int .i64, .bool, .sl 248, .int .i64, .int .i64, .int .i64, .int .i64, .int .i64, .int .i64, .int .i64, .int .i64, .sl 3, .int .i64, .sl 3, .int .i64, .int .i64, .sl 3, .int .i64, .bool, .sl 248], true, [(0, 184), (17, 184), (34, 184)], 600, false⟩),
  (241, ⟨[.int .i64, .int .i64, .int .i64, .int .i64, .int .i64, .int .i64, .int .i64, .int .i64, .sl 3, .int .i64, .sl 3, .int .i64, .int .i64, .sl 3, .int .i64, .bool, .sl 248, .int .i64, .int .i64, .int .i64, .int .i64, .int .i64, .int .i64, .int .i64, .int .i64, .sl 3, .int .i64, .sl 3, .int .i64, .int .i64, .sl 3, .int .i64, .bool, .sl 248, .int .i64, .int .i64, .int .i64, .int .i64, .int .i64, .int .i64, .int .i64, .int .i64, .sl 3, .int .i64, .sl 3, .int .i64, .int .i64, .sl 3, .int .i64, .bool, .sl 248], true, [(0, 184), (17, 184), (34, 184)], 600, false⟩),
  (247, ⟨[.int .i64, .int .i64], true, [(0, 3), (1, 3)], 16, false⟩),
  (248, ⟨[.int .i64, .int .i64], true, [(0, 3), (1, 3)], 16, true⟩),
  (257, ⟨[.int .i64, .sl 3], true, [(0, 3), (1, 121)], 32, false⟩),
  (258, ⟨[.int .i64, .str, .int .i64, .int .i64, .sl 9, .str, .int .i64, .int .i64, .sl 9, .int .i64, .sl 3, .int .i64, .sl 3], true, [(0, 3), (1, 38), (5, 38), (9, 257), (11, 257)], 184, false⟩),
  (259, ⟨[.int .i64, .str, .int .i64, .int .i64, .sl 9, .str, .int .i64, .int .i64, .sl 9, .int .i64, .sl 3, .int .i64, .sl 3], true, [(0, 3), (1, 38), (5, 38), (9, 257), (11, 257)], 184, false⟩),
  (260, ⟨[.sl 197, .bool, .str, .int .i64, .int .i64, .sl 9, .int .i64, .sl 3, .int .i64, .str, .int .i64, .int .i64, .sl 9, .str, .int .i64, .int .i64, .sl 9, .int .i64, .sl 3, .int .i64, .sl 3], true, [(0, 92), (1, 4), (2, 38), (6, 257), (8, 259)], 304, false⟩),
  (261, ⟨[.sl 197, .bool, .str, .int .i64, .int .i64, .sl 9, .int .i64, .sl 3, .int .i64, .str, .int .i64, .int .i64, .sl 9, .str, .int .i64, .int .i64, .sl 9, .int .i64, .sl 3, .int .i64, .sl 3], true, [(0, 92), (1, 4), (2, 38), (6, 257), (8, 259)], 304, false⟩),
  (262, ⟨[.int .i64, .str, .sl 197, .bool, .str, .int .i64, .int .i64, .sl 9, .int .i64, .sl 3, .int .i64, .str, .int .i64, .int .i64, .sl 9, .str, .int .i64, .int .i64, .sl 9, .int .i64, .sl 3, .int .i64, .sl 3], true, [(0, 3), (1, 9), (2, 261)], 328, false⟩),
  (263, ⟨[.int .i64, .str, .sl 197, .bool, .str, .int .i64, .int .i64, .sl 9, .int .i64, .sl 3, .int .i64, .str, .int .i64, .int .i64, .sl 9, .str, .int .i64, .int .i64, .sl 9, .int .i64, .sl 3, .int .i64, .sl 3], true, [(0, 3), (1, 9), (2, 261)], 328, false⟩),
  (279, ⟨[.int .i64, .int .i64], true, [(0, 3), (1, 3)], 16, true⟩),
  (316, ⟨[.int .u32], false, [], 4, false⟩),
  (317, ⟨[.int .u8], false, [], 1, false⟩),
  (318, ⟨[.int .u8], false, [], 1, false⟩),
  (321, ⟨[.int .i32], false, [], 4, false⟩),
  (322, ⟨[.int .i32], false, [], 4, false⟩)]
noncomputable abbrev Ev : Env := Env0 Tab
theorem tab_ok : tableB Try.prog Tab = true := by kernel_rfl
theorem mix : Try.prog.follows .mixedOrders = true := by kernel_rfl
/-! laws.szStringS -/
namespace laws_szStringS
inductive Pt where
  | p0 (a : List (List L)) (b : Int) (c : Int)
def pid : Pt → Nat
  | .p0 .. => 5
def pvs : Pt → List V
  | .p0 a b c => [.sl none 9 a, .int .i64 b, .int .i64 c]
def phs : Pt → List Root
  | .p0 a b c => []
noncomputable def step (J : Pt → Ans) : Pt → Ans
  | .p0 a b c => (bif (decide (c < (a.length : Int))) then (bif (decide ((0 : Int) ≤ c)) then (bif (decide (c < (a.length : Int))) then (bif (decide ((IntKind.i64.wrap (b - ((sAt a (Int.toNat c)).size : Int))) < 0)) then ret ((-1) : Int) else J (.p0 a (IntKind.i64.wrap (b - ((sAt a (Int.toNat c)).size : Int))) (IntKind.i64.wrap (c + 1)))) else none) else none) else ret (b : Int))
noncomputable def start (J : Pt → Ans) (x0 : List (List L)) (x1 : Int) : Ans := (bif (decide ((IntKind.i64.wrap (x1 - (x0.length : Int))) < 0)) then ret ((-1) : Int) else J (.p0 x0 (IntKind.i64.wrap (x1 - (x0.length : Int))) 0))
def live : Nat → Live := fun i => match i with | 5 => [(0, none), (1, none), (5, none)] | _ => []
def pats : List Pat := [.rd (.sl 9), .rd (.int .i64)]
def res : RP := .one (.rd (.int .i64))
noncomputable abbrev E : Env := { T := assoc Tab, G := conG [], nt := 28 }
set_option maxRecDepth 100000
theorem step_eq (I : Heads) (p : Pt) : enterC E live I (pid p) (bodyOf Try.f35) (stOf (live (pid p)) (pvs p) (phs p)) (doneK E Try.f35 res) = step (fun q => I (pid q) (pvs q) (phs q)) p := by
  cases p <;> kernel_rfl
theorem start_eq (I : Heads) (ls : List L) : runC E live I (bodyOf Try.f35) (initS pats ls) (doneK E Try.f35 res) = start (fun q => I (pid q) (pvs q) (phs q)) (ls.headD .hole).toSl ((dropT 1 ls).headD .hole).toInt := by kernel_rfl
theorem run_eq (n : Nat) (ls : List L) : runF E live Try.f35 res n (initS pats ls) = start (iter step n) (ls.headD .hole).toSl ((dropT 1 ls).headD .hole).toInt := runF_iter (id := pid) (vs := pvs) (hs := phs) (step := step) (start := fun J => start J (ls.headD .hole).toSl ((dropT 1 ls).headD .hole).toInt) step_eq (fun I => start_eq I ls) n
noncomputable def md (a0 : List ByteArray) (a1 : Int) : Int := szM (szL (fun y : ByteArray => y.size) a0) a1
def gd (a0 : List ByteArray) (a1 : Int) : Prop := (SmL maxLen (fun y : ByteArray => y.size ≤ maxLen) a0) ∧ 0 ≤ a1 ∧ a1 ≤ 1048576
def acc (ls : List L) : List (List L) × Int := ((ls.headD .hole).toSl, ((dropT 1 ls).headD .hole).toInt)
noncomputable def R : (List (List L) × Int) → Option Int := RR (p2 gd) (u2 md)
theorem R_eq {a0} {a1} (h : gd a0 a1) : R ((a0.map sRow), a1) = some (md a0 a1) := RR_eq (a := (a0, a1)) h
noncomputable def con : Con := CN pats res acc R
theorem okF (a0 : List ByteArray) (a1 : Int) (hg : gd a0 a1) : ∃ n, start (iter step n) (a0.map sRow) a1 = ret ((md a0 a1) : Int) := by
  obtain ⟨hs, g0, g1⟩ := hg
  unfold start md
  simp only [List.length_map]
  refine sz_list (pt := fun left i => Pt.p0 (a0.map sRow) left (i : Int)) (f := fun y : ByteArray => y.size) hs.1 (fun J i h left p0 p1 => ?_) (fun J left => ?_) g0 g1
  · simp only [step, List.length_map, lt_dec h, zle_dec, cond_true, toNat_nat, sAt_row h]
    rw [sz_wrap p0 p1 (hs.get h), wrap_succ h hs.1]
    by_cases hc : left - ((a0[i].size : Nat) : Int) < 0
    · rw [decide_eq_true hc, if_pos (by omega)]; rfl
    · rw [decide_eq_false hc, if_neg (by omega)]; rfl
  · simp only [step, List.length_map, nlt_dec, cond_false]
theorem valid_ : Valid Try.prog Ev 35 con := VV (run := fun n x => start (iter step n) x.1 x.2) mix tab_ok .nil Try.func35 (by kernel_rfl) run_eq (fun _ a _ _ hg => okF a.1 a.2 hg)
end laws_szStringS
/-! laws.szEntry -/
namespace laws_szEntry
noncomputable def F (x0 : REntry) (x1 : Int) : Ans := (bif (decide ((IntKind.i64.wrap (x1 - (x0.fLabel.size : Int))) < 0)) then ret ((-1) : Int) else (call (laws_szStringS.R (x0.fPath, (IntKind.i64.wrap (x1 - (x0.fLabel.size : Int))))) fun v1 => (bif (decide (v1 < 0)) then ret ((-1) : Int) else ret (v1 : Int))))
def pats : List Pat := [.agg [.str, .int .i64, .int .i64, .sl 9], .rd (.int .i64)]
def res : RP := .one (.rd (.int .i64))
noncomputable abbrev E : Env := { T := assoc Tab, G := conG [(35, laws_szStringS.con)], nt := 19 }
set_option maxRecDepth 100000
theorem run_eq (n : Nat) (ls : List L) : runF E (fun _ => []) Try.f47 res n (initS pats ls) = F (REntry.dec ls) ((dropT 4 ls).headD .hole).toInt := by kernel_rfl
noncomputable def md (a0 : MEntry) (a1 : Int) : Int := szM (MEntry.size a0) a1
def gd (a0 : MEntry) (a1 : Int) : Prop := (MEntry.Sm maxLen a0) ∧ 0 ≤ a1 ∧ a1 ≤ 1048576
def acc (ls : List L) : REntry × Int := ((REntry.dec ls), ((dropT 4 ls).headD .hole).toInt)
noncomputable def R : (REntry × Int) → Option Int := RR (p2 gd) (u2 md)
theorem R_eq {a0} {a1} (h : gd a0 a1) : R ((MEntry.r a0), a1) = some (md a0 a1) := RR_eq (a := (a0, a1)) h
noncomputable def con : Con := CN pats res acc R
theorem okF (a0 : MEntry) (a1 : Int) (hg : gd a0 a1) : F (MEntry.r a0) a1 = ret ((md a0 a1) : Int) := by
  obtain ⟨hs, g0, g1⟩ := hg
  unfold md
  show (bif (decide ((IntKind.i64.wrap (a1 - (a0.fLabel.size : Int))) < 0)) then ret ((-1) : Int) else (call (laws_szStringS.R ((a0.fPath.map sRow), (IntKind.i64.wrap (a1 - (a0.fLabel.size : Int))))) fun v1 => (bif (decide (v1 < 0)) then ret ((-1) : Int) else ret (v1 : Int)))) = _
  rw [sz_wrap (left := a1) (s := a0.fLabel.size) (by omega) (by omega) hs.1]
  by_cases c0 : a1 - ((a0.fLabel.size : Nat) : Int) < 0
  · rw [decide_eq_true c0, cond_true]; rw [show szM (MEntry.size a0) a1 = -1 from szM_neg (by unfold MEntry.size; omega)]; try rfl
  rw [decide_eq_false c0, cond_false]
  rw [call_eq (laws_szStringS.R_eq (a1 := (a1 - ((a0.fLabel.size : Nat) : Int))) ⟨hs.2, by omega, by omega⟩)]
  unfold laws_szStringS.md
  by_cases c1 : (a1 - ((a0.fLabel.size : Nat) : Int)) < ((szL (fun y : ByteArray => y.size) a0.fPath : Nat) : Int)
  · rw [szM_neg c1]; rw [show szM (MEntry.size a0) a1 = -1 from szM_neg (by unfold MEntry.size; omega)]; try rfl
  rw [szM_pos c1, dec_neg (by omega), cond_false]
  rw [show szM (MEntry.size a0) a1 = a1 - ((a0.fLabel.size : Nat) : Int) - ((szL (fun y : ByteArray => y.size) a0.fPath : Nat) : Int) from by rw [szM_pos (by unfold MEntry.size; omega)]; unfold MEntry.size; omega]
theorem valid_ : Valid Try.prog Ev 47 con := VV (run := fun _ x => F x.1 x.2) mix tab_ok (.cons laws_szStringS.valid_ .nil) Try.func47 (by kernel_rfl) run_eq (fun _ a _ _ hg => ⟨0, okF a.1 a.2 hg⟩)
end laws_szEntry
/-! laws.szChoice -/
namespace laws_szChoice
noncomputable def F (x0 : RChoice) (x1 : Int) : Ans := (call (laws_szStringS.R (x0.fPath, x1)) fun v1 => (bif (decide (v1 < 0)) then ret ((-1) : Int) else (call (laws_szEntry.R (x0.fEntry, v1)) fun v2 => (bif (decide (v2 < 0)) then ret ((-1) : Int) else ret (v2 : Int)))))
def pats : List Pat := [.agg [.sl 9, .str, .int .i64, .int .i64, .sl 9], .rd (.int .i64)]
def res : RP := .one (.rd (.int .i64))
noncomputable abbrev E : Env := { T := assoc Tab, G := conG [(35, laws_szStringS.con), (47, laws_szEntry.con)], nt := 18 }
set_option maxRecDepth 100000
theorem run_eq (n : Nat) (ls : List L) : runF E (fun _ => []) Try.f115 res n (initS pats ls) = F (RChoice.dec ls) ((dropT 5 ls).headD .hole).toInt := by kernel_rfl
noncomputable def md (a0 : MChoice) (a1 : Int) : Int := szM (MChoice.size a0) a1
def gd (a0 : MChoice) (a1 : Int) : Prop := (MChoice.Sm maxLen a0) ∧ 0 ≤ a1 ∧ a1 ≤ 1048576
def acc (ls : List L) : RChoice × Int := ((RChoice.dec ls), ((dropT 5 ls).headD .hole).toInt)
noncomputable def R : (RChoice × Int) → Option Int := RR (p2 gd) (u2 md)
theorem R_eq {a0} {a1} (h : gd a0 a1) : R ((MChoice.r a0), a1) = some (md a0 a1) := RR_eq (a := (a0, a1)) h
noncomputable def con : Con := CN pats res acc R
theorem okF (a0 : MChoice) (a1 : Int) (hg : gd a0 a1) : F (MChoice.r a0) a1 = ret ((md a0 a1) : Int) := by
  obtain ⟨hs, g0, g1⟩ := hg
  unfold md
  show (call (laws_szStringS.R ((a0.fPath.map sRow), a1)) fun v1 => (bif (decide (v1 < 0)) then ret ((-1) : Int) else (call (laws_szEntry.R ((MEntry.r a0.fEntry), v1)) fun v2 => (bif (decide (v2 < 0)) then ret ((-1) : Int) else ret (v2 : Int))))) = _
  rw [call_eq (laws_szStringS.R_eq (a1 := a1) ⟨hs.1, by omega, by omega⟩)]
  unfold laws_szStringS.md
  by_cases c0 : a1 < ((szL (fun y : ByteArray => y.size) a0.fPath : Nat) : Int)
  · rw [szM_neg c0]; rw [show szM (MChoice.size a0) a1 = -1 from szM_neg (by unfold MChoice.size; omega)]; try rfl
  rw [szM_pos c0, dec_neg (by omega), cond_false]
  rw [call_eq (laws_szEntry.R_eq (a1 := (a1 - ((szL (fun y : ByteArray => y.size) a0.fPath : Nat) : Int))) ⟨hs.2, by omega, by omega⟩)]
  unfold laws_szEntry.md
  by_cases c1 : (a1 - ((szL (fun y : ByteArray => y.size) a0.fPath : Nat) : Int)) < ((MEntry.size a0.fEntry : Nat) : Int)
  · rw [szM_neg c1]; rw [show szM (MChoice.size a0) a1 = -1 from szM_neg (by unfold MChoice.size; omega)]; try rfl
  rw [szM_pos c1, dec_neg (by omega), cond_false]
  rw [show szM (MChoice.size a0) a1 = a1 - ((szL (fun y : ByteArray => y.size) a0.fPath : Nat) : Int) - ((MEntry.size a0.fEntry : Nat) : Int) from by rw [szM_pos (by unfold MChoice.size; omega)]; unfold MChoice.size; omega]
theorem valid_ : Valid Try.prog Ev 115 con := VV (run := fun _ x => F x.1 x.2) mix tab_ok (.cons laws_szStringS.valid_ (.cons laws_szEntry.valid_ .nil)) Try.func115 (by kernel_rfl) run_eq (fun _ a _ _ hg => ⟨0, okF a.1 a.2 hg⟩)
end laws_szChoice
/-! laws.szChoiceS -/
namespace laws_szChoiceS
inductive Pt where
  | p0 (a : List (List L)) (b : Int) (c : Int)
def pid : Pt → Nat
  | .p0 .. => 5
def pvs : Pt → List V
  | .p0 a b c => [.sl none 162 a, .int .i64 b, .int .i64 c]
def phs : Pt → List Root
  | .p0 a b c => []
noncomputable def step (J : Pt → Ans) : Pt → Ans
  | .p0 a b c => (bif (decide (c < (a.length : Int))) then (bif (decide ((0 : Int) ≤ c)) then (bif (decide (c < (a.length : Int))) then (call (laws_szChoice.R ((RChoice.at a (Int.toNat c)), b)) fun v1 => (bif (decide (v1 < 0)) then ret ((-1) : Int) else J (.p0 a v1 (IntKind.i64.wrap (c + 1))))) else none) else none) else ret (b : Int))
noncomputable def start (J : Pt → Ans) (x0 : List (List L)) (x1 : Int) : Ans := (bif (decide ((IntKind.i64.wrap (x1 - (x0.length : Int))) < 0)) then ret ((-1) : Int) else J (.p0 x0 (IntKind.i64.wrap (x1 - (x0.length : Int))) 0))
def live : Nat → Live := fun i => match i with | 5 => [(0, none), (1, none), (5, none)] | _ => []
def pats : List Pat := [.rd (.sl 162), .rd (.int .i64)]
def res : RP := .one (.rd (.int .i64))
noncomputable abbrev E : Env := { T := assoc Tab, G := conG [(115, laws_szChoice.con)], nt := 27 }
set_option maxRecDepth 100000
theorem step_eq (I : Heads) (p : Pt) : enterC E live I (pid p) (bodyOf Try.f34) (stOf (live (pid p)) (pvs p) (phs p)) (doneK E Try.f34 res) = step (fun q => I (pid q) (pvs q) (phs q)) p := by
  cases p <;> kernel_rfl
theorem start_eq (I : Heads) (ls : List L) : runC E live I (bodyOf Try.f34) (initS pats ls) (doneK E Try.f34 res) = start (fun q => I (pid q) (pvs q) (phs q)) (ls.headD .hole).toSl ((dropT 1 ls).headD .hole).toInt := by kernel_rfl
theorem run_eq (n : Nat) (ls : List L) : runF E live Try.f34 res n (initS pats ls) = start (iter step n) (ls.headD .hole).toSl ((dropT 1 ls).headD .hole).toInt := runF_iter (id := pid) (vs := pvs) (hs := phs) (step := step) (start := fun J => start J (ls.headD .hole).toSl ((dropT 1 ls).headD .hole).toInt) step_eq (fun I => start_eq I ls) n
noncomputable def md (a0 : List MChoice) (a1 : Int) : Int := szM (szL (fun y : MChoice => MChoice.size y) a0) a1
def gd (a0 : List MChoice) (a1 : Int) : Prop := (SmL maxLen (fun y : MChoice => MChoice.Sm maxLen y) a0) ∧ 0 ≤ a1 ∧ a1 ≤ 1048576
def acc (ls : List L) : List (List L) × Int := ((ls.headD .hole).toSl, ((dropT 1 ls).headD .hole).toInt)
noncomputable def R : (List (List L) × Int) → Option Int := RR (p2 gd) (u2 md)
theorem R_eq {a0} {a1} (h : gd a0 a1) : R ((a0.map MChoice.row), a1) = some (md a0 a1) := RR_eq (a := (a0, a1)) h
noncomputable def con : Con := CN pats res acc R
theorem okF (a0 : List MChoice) (a1 : Int) (hg : gd a0 a1) : ∃ n, start (iter step n) (a0.map MChoice.row) a1 = ret ((md a0 a1) : Int) := by
  obtain ⟨hs, g0, g1⟩ := hg
  unfold start md
  simp only [List.length_map]
  refine sz_list (pt := fun left i => Pt.p0 (a0.map MChoice.row) left (i : Int)) (f := fun y : MChoice => MChoice.size y) hs.1 (fun J i h left p0 p1 => ?_) (fun J left => ?_) g0 g1
  · simp only [step, List.length_map, lt_dec h, zle_dec, cond_true, toNat_nat, MChoice.at_row h]
    rw [call_eq (laws_szChoice.R_eq ⟨hs.get h, p0, p1⟩), wrap_succ h hs.1]
    unfold laws_szChoice.md
    by_cases hc : left < ((MChoice.size (a0[i]) : Nat) : Int)
    · rw [szM_neg hc, if_pos hc]; rfl
    · rw [szM_pos hc, if_neg hc, dec_neg (by omega)]; rfl
  · simp only [step, List.length_map, nlt_dec, cond_false]
theorem valid_ : Valid Try.prog Ev 34 con := VV (run := fun n x => start (iter step n) x.1 x.2) mix tab_ok (.cons laws_szChoice.valid_ .nil) Try.func34 (by kernel_rfl) run_eq (fun _ a _ _ hg => okF a.1 a.2 hg)
end laws_szChoiceS
/-! laws.toStringS -/
namespace laws_toStringS
inductive Pt where
  | p0 (a : List (List L)) (b : Int) (c : List (List L))
def pid : Pt → Nat
  | .p0 .. => 3
def pvs : Pt → List V
  | .p0 a b c => [.sl none 9 a, .own 0, .int .i64 b]
def phs : Pt → List Root
  | .p0 a b c => [.row 9 c]
noncomputable def step (J : Pt → Ans) : Pt → Ans
  | .p0 a b c => (bif (decide (b < (a.length : Int))) then (bif (decide ((0 : Int) ≤ b)) then (bif (decide (b < (a.length : Int))) then (bif (decide ((0 : Int) ≤ b)) then (bif (decide (b < (c.length : Int))) then J (.p0 a (IntKind.i64.wrap (b + 1)) (List.set c (Int.toNat b) [L.str (sAt a (Int.toNat b))])) else none) else none) else none) else none) else ret (c : List (List L)))
noncomputable def start (J : Pt → Ans) (x0 : List (List L)) : Ans := (bif (decide ((0 : Int) ≤ (x0.length : Int))) then (bif (decide ((x0.length : Int) ≤ (x0.length : Int))) then (bif (decide ((x0.length : Int) * 16 ≤ 140737488355328)) then J (.p0 x0 0 (List.replicate (Int.toNat (x0.length : Int)) [L.str ⟨#[]⟩])) else none) else none) else none)
def live : Nat → Live := fun i => match i with | 3 => [(0, none), (3, none), (4, none)] | _ => []
def pats : List Pat := [.rd (.sl 9)]
def res : RP := .one (.fr 9)
noncomputable abbrev E : Env := { T := assoc Tab, G := conG [], nt := 22 }
set_option maxRecDepth 100000
theorem step_eq (I : Heads) (p : Pt) : enterC E live I (pid p) (bodyOf Try.f38) (stOf (live (pid p)) (pvs p) (phs p)) (doneK E Try.f38 res) = step (fun q => I (pid q) (pvs q) (phs q)) p := by
  cases p <;> kernel_rfl
theorem start_eq (I : Heads) (ls : List L) : runC E live I (bodyOf Try.f38) (initS pats ls) (doneK E Try.f38 res) = start (fun q => I (pid q) (pvs q) (phs q)) (ls.headD .hole).toSl := by kernel_rfl
theorem run_eq (n : Nat) (ls : List L) : runF E live Try.f38 res n (initS pats ls) = start (iter step n) (ls.headD .hole).toSl := runF_iter (id := pid) (vs := pvs) (hs := phs) (step := step) (start := fun J => start J (ls.headD .hole).toSl) step_eq (fun I => start_eq I ls) n
noncomputable def md (a0 : List ByteArray) : List ByteArray := a0
def gd (a0 : List ByteArray) : Prop := SmL (2 ^ 36) (fun y : ByteArray => y.size ≤ (2 ^ 36)) a0
def acc (ls : List L) : List (List L) := (ls.headD .hole).toSl
noncomputable def R : (List (List L)) → Option (List (List L)) := RR gd md
theorem R_eq {a0} (h : gd a0) : R (a0.map sRow) = some ((md a0).map sRow) := RR_eq (a := a0) h
noncomputable def con : Con := CN pats res acc R
theorem okF (a0 : List ByteArray) (hg : gd a0) : ∃ n, start (iter step n) (a0.map sRow) = ret (((md a0).map sRow) : List (List L)) := by
  unfold start md
  simp only [List.length_map]
  refine to_list (b := 16) (pt := fun i c => Pt.p0 (a0.map sRow) (i : Int) c) (by have := hg.1; simp at this; omega) (fun J i h c hc => ?_) (fun J c => ?_)
  · simp only [step, List.length_map, lt_dec h, zle_dec, cond_true, toNat_nat, sAt_row h, hc]
    rw [wrap_succ (n := a0.length) h (by have := hg.1; simp only [maxLen]; simp at this; omega)]
    rfl
  · simp only [step, List.length_map, nlt_dec, cond_false]
theorem valid_ : Valid Try.prog Ev 38 con := VV (run := fun n x => start (iter step n) x) mix tab_ok .nil Try.func38 (by kernel_rfl) run_eq (fun _ a _ _ hg => okF a hg)
end laws_toStringS
/-! laws.toEntry -/
namespace laws_toEntry
noncomputable def F (x0 : REntry) : Ans := (call (laws_toStringS.R x0.fPath) fun v1 => ret ((⟨x0.fLabel, x0.fKind, x0.fValue, v1⟩ : REntry) : REntry))
def pats : List Pat := [.agg [.str, .int .i64, .int .i64, .sl 9]]
def res : RP := .agg [.rd (.str), .rd (.int .i64), .rd (.int .i64), .fr 9]
noncomputable abbrev E : Env := { T := assoc Tab, G := conG [(38, laws_toStringS.con)], nt := 18 }
set_option maxRecDepth 100000
theorem run_eq (n : Nat) (ls : List L) : runF E (fun _ => []) Try.f49 res n (initS pats ls) = F (REntry.dec ls) := by kernel_rfl
noncomputable def md (a0 : MEntry) : MEntry := a0
def gd (a0 : MEntry) : Prop := MEntry.Sm (2 ^ 36) a0
def acc (ls : List L) : REntry := (REntry.dec ls)
noncomputable def R : REntry → Option REntry := RR gd md
theorem R_eq {a0} (h : gd a0) : R (MEntry.r a0) = some (MEntry.r (md a0)) := RR_eq (a := a0) h
noncomputable def con : Con := CN pats res acc R
theorem okF (a0 : MEntry) (hg : gd a0) : F (MEntry.r a0) = ret ((MEntry.r (md a0)) : REntry) := by
  unfold md
  show (call (laws_toStringS.R (a0.fPath.map sRow)) fun v1 => ret ((⟨a0.fLabel, a0.fKind, a0.fValue, v1⟩ : REntry) : REntry)) = _
  rw [call_eq (laws_toStringS.R_eq hg.2)]
  rfl
theorem valid_ : Valid Try.prog Ev 49 con := VV (run := fun _ x => F x) mix tab_ok (.cons laws_toStringS.valid_ .nil) Try.func49 (by kernel_rfl) run_eq (fun _ a _ _ hg => ⟨0, okF a hg⟩)
end laws_toEntry
/-! laws.toChoice -/
namespace laws_toChoice
noncomputable def F (x0 : RChoice) : Ans := (call (laws_toStringS.R x0.fPath) fun v1 => (call (laws_toEntry.R x0.fEntry) fun v2 => ret ((⟨v1, v2⟩ : RChoice) : RChoice)))
def pats : List Pat := [.agg [.sl 9, .str, .int .i64, .int .i64, .sl 9]]
def res : RP := .agg [.fr 9, .rd (.str), .rd (.int .i64), .rd (.int .i64), .fr 9]
noncomputable abbrev E : Env := { T := assoc Tab, G := conG [(38, laws_toStringS.con), (49, laws_toEntry.con)], nt := 13 }
set_option maxRecDepth 100000
theorem run_eq (n : Nat) (ls : List L) : runF E (fun _ => []) Try.f118 res n (initS pats ls) = F (RChoice.dec ls) := by kernel_rfl
noncomputable def md (a0 : MChoice) : MChoice := a0
def gd (a0 : MChoice) : Prop := MChoice.Sm (2 ^ 36) a0
def acc (ls : List L) : RChoice := (RChoice.dec ls)
noncomputable def R : RChoice → Option RChoice := RR gd md
theorem R_eq {a0} (h : gd a0) : R (MChoice.r a0) = some (MChoice.r (md a0)) := RR_eq (a := a0) h
noncomputable def con : Con := CN pats res acc R
theorem okF (a0 : MChoice) (hg : gd a0) : F (MChoice.r a0) = ret ((MChoice.r (md a0)) : RChoice) := by
  unfold md
  show (call (laws_toStringS.R (a0.fPath.map sRow)) fun v1 => (call (laws_toEntry.R (MEntry.r a0.fEntry)) fun v2 => ret ((⟨v1, v2⟩ : RChoice) : RChoice))) = _
  rw [call_eq (laws_toStringS.R_eq hg.1)]
  rw [call_eq (laws_toEntry.R_eq hg.2)]
  rfl
theorem valid_ : Valid Try.prog Ev 118 con := VV (run := fun _ x => F x) mix tab_ok (.cons laws_toStringS.valid_ (.cons laws_toEntry.valid_ .nil)) Try.func118 (by kernel_rfl) run_eq (fun _ a _ _ hg => ⟨0, okF a hg⟩)
end laws_toChoice
/-! laws.toChoiceS -/
namespace laws_toChoiceS
inductive Pt where
  | p0 (a : List (List L)) (b : Int) (c : List (List L))
def pid : Pt → Nat
  | .p0 .. => 3
def pvs : Pt → List V
  | .p0 a b c => [.sl none 162 a, .own 0, .int .i64 b]
def phs : Pt → List Root
  | .p0 a b c => [.row 166 c]
noncomputable def step (J : Pt → Ans) : Pt → Ans
  | .p0 a b c => (bif (decide (b < (a.length : Int))) then (bif (decide ((0 : Int) ≤ b)) then (bif (decide (b < (a.length : Int))) then (call (laws_toChoice.R (RChoice.at a (Int.toNat b))) fun v1 => (bif (decide ((0 : Int) ≤ b)) then (bif (decide (b < (c.length : Int))) then J (.p0 a (IntKind.i64.wrap (b + 1)) (List.set c (Int.toNat b) (RChoice.enc v1))) else none) else none)) else none) else none) else ret (c : List (List L)))
noncomputable def start (J : Pt → Ans) (x0 : List (List L)) : Ans := (bif (decide ((0 : Int) ≤ (x0.length : Int))) then (bif (decide ((x0.length : Int) ≤ (x0.length : Int))) then (bif (decide ((x0.length : Int) * 80 ≤ 140737488355328)) then J (.p0 x0 0 (List.replicate (Int.toNat (x0.length : Int)) [L.sl [], L.str ⟨#[]⟩, L.int 0, L.int 0, L.sl []])) else none) else none) else none)
def live : Nat → Live := fun i => match i with | 3 => [(0, none), (3, none), (4, none)] | _ => []
def pats : List Pat := [.rd (.sl 162)]
def res : RP := .one (.fr 166)
noncomputable abbrev E : Env := { T := assoc Tab, G := conG [(118, laws_toChoice.con)], nt := 23 }
set_option maxRecDepth 100000
theorem step_eq (I : Heads) (p : Pt) : enterC E live I (pid p) (bodyOf Try.f37) (stOf (live (pid p)) (pvs p) (phs p)) (doneK E Try.f37 res) = step (fun q => I (pid q) (pvs q) (phs q)) p := by
  cases p <;> kernel_rfl
theorem start_eq (I : Heads) (ls : List L) : runC E live I (bodyOf Try.f37) (initS pats ls) (doneK E Try.f37 res) = start (fun q => I (pid q) (pvs q) (phs q)) (ls.headD .hole).toSl := by kernel_rfl
theorem run_eq (n : Nat) (ls : List L) : runF E live Try.f37 res n (initS pats ls) = start (iter step n) (ls.headD .hole).toSl := runF_iter (id := pid) (vs := pvs) (hs := phs) (step := step) (start := fun J => start J (ls.headD .hole).toSl) step_eq (fun I => start_eq I ls) n
noncomputable def md (a0 : List MChoice) : List MChoice := a0
def gd (a0 : List MChoice) : Prop := SmL (2 ^ 36) (fun y : MChoice => MChoice.Sm (2 ^ 36) y) a0
def acc (ls : List L) : List (List L) := (ls.headD .hole).toSl
noncomputable def R : (List (List L)) → Option (List (List L)) := RR gd md
theorem R_eq {a0} (h : gd a0) : R (a0.map MChoice.row) = some ((md a0).map MChoice.row) := RR_eq (a := a0) h
noncomputable def con : Con := CN pats res acc R
theorem okF (a0 : List MChoice) (hg : gd a0) : ∃ n, start (iter step n) (a0.map MChoice.row) = ret (((md a0).map MChoice.row) : List (List L)) := by
  unfold start md
  simp only [List.length_map]
  refine to_list (b := 80) (pt := fun i c => Pt.p0 (a0.map MChoice.row) (i : Int) c) (by have := hg.1; simp at this; omega) (fun J i h c hc => ?_) (fun J c => ?_)
  · simp only [step, List.length_map, lt_dec h, zle_dec, cond_true, toNat_nat, MChoice.at_row h, hc]
    rw [call_eq (laws_toChoice.R_eq (hg.get h))]
    try simp only [hc, lt_dec h, cond_true]
    rw [wrap_succ (n := a0.length) h (by have := hg.1; simp only [maxLen]; simp at this; omega)]
    rfl
  · simp only [step, List.length_map, nlt_dec, cond_false]
theorem valid_ : Valid Try.prog Ev 37 con := VV (run := fun n x => start (iter step n) x) mix tab_ok (.cons laws_toChoice.valid_ .nil) Try.func37 (by kernel_rfl) run_eq (fun _ a _ _ hg => okF a hg)
end laws_toChoiceS
/-! spec.SamePath -/
namespace spec_SamePath
inductive Pt where
  | p0 (a : List (List L)) (b : List (List L)) (c : Int)
def pid : Pt → Nat
  | .p0 .. => 4
def pvs : Pt → List V
  | .p0 a b c => [.sl none 9 a, .sl none 9 b, .int .i64 c]
def phs : Pt → List Root
  | .p0 a b c => []
noncomputable def step (J : Pt → Ans) : Pt → Ans
  | .p0 a b c => (bif (decide (c < (a.length : Int))) then (bif (decide ((0 : Int) ≤ c)) then (bif (decide (c < (a.length : Int))) then (bif (decide ((0 : Int) ≤ c)) then (bif (decide (c < (b.length : Int))) then (bif (!((sAt a (Int.toNat c)) == (sAt b (Int.toNat c)))) then ret (false : Bool) else J (.p0 a b (IntKind.i64.wrap (c + 1)))) else none) else none) else none) else none) else ret (true : Bool))
noncomputable def start (J : Pt → Ans) (x0 : List (List L)) (x1 : List (List L)) : Ans := (bif ((x0.length : Int) != (x1.length : Int)) then ret (false : Bool) else J (.p0 x0 x1 0))
def live : Nat → Live := fun i => match i with | 4 => [(0, none), (1, none), (5, none)] | _ => []
def pats : List Pat := [.rd (.sl 9), .rd (.sl 9)]
def res : RP := .one (.rd (.bool))
noncomputable abbrev E : Env := { T := assoc Tab, G := conG [], nt := 26 }
set_option maxRecDepth 100000
theorem step_eq (I : Heads) (p : Pt) : enterC E live I (pid p) (bodyOf Try.f185) (stOf (live (pid p)) (pvs p) (phs p)) (doneK E Try.f185 res) = step (fun q => I (pid q) (pvs q) (phs q)) p := by
  cases p <;> kernel_rfl
theorem start_eq (I : Heads) (ls : List L) : runC E live I (bodyOf Try.f185) (initS pats ls) (doneK E Try.f185 res) = start (fun q => I (pid q) (pvs q) (phs q)) (ls.headD .hole).toSl ((dropT 1 ls).headD .hole).toSl := by kernel_rfl
theorem run_eq (n : Nat) (ls : List L) : runF E live Try.f185 res n (initS pats ls) = start (iter step n) (ls.headD .hole).toSl ((dropT 1 ls).headD .hole).toSl := runF_iter (id := pid) (vs := pvs) (hs := phs) (step := step) (start := fun J => start J (ls.headD .hole).toSl ((dropT 1 ls).headD .hole).toSl) step_eq (fun I => start_eq I ls) n
noncomputable def md (a0 : List ByteArray) (a1 : List ByteArray) : Bool := (bif ((a0.length : Int) != (a1.length : Int)) then (false : Bool) else (loopM (S := Unit) (β := Bool) (fun (i2 : Nat) (s4 : Unit) => (bif (!((a0.getD i2 ⟨#[]⟩) == (a1.getD i2 ⟨#[]⟩))) then (.inr (false : Bool)) else (.inl ()))) (fun (s4 : Unit) => (true : Bool)) a0.length 0 ()))
def gd (a0 : List ByteArray) (a1 : List ByteArray) : Prop := (SmL (2 ^ 21) (fun y : ByteArray => y.size ≤ (2 ^ 21)) a0) ∧ (SmL (2 ^ 21) (fun y : ByteArray => y.size ≤ (2 ^ 21)) a1)
def acc (ls : List L) : List (List L) × List (List L) := ((ls.headD .hole).toSl, ((dropT 1 ls).headD .hole).toSl)
noncomputable def R : (List (List L) × List (List L)) → Option Bool := RR (p2 gd) (u2 md)
theorem R_eq {a0} {a1} (h : gd a0 a1) : R ((a0.map sRow), (a1.map sRow)) = some (md a0 a1) := RR_eq (a := (a0, a1)) h
noncomputable def con : Con := CN pats res acc R
theorem okF (a0 : List ByteArray) (a1 : List ByteArray) (hg : gd a0 a1) : ∃ n, start (iter step n) (a0.map sRow) (a1.map sRow) = ret ((md a0 a1) : Bool) := by
  unfold gd at hg
  obtain ⟨H0, H1⟩ := hg
  unfold start md
  try simp only [S0]
  refine ex_bif ret (fun _ => ⟨0, rfl⟩) (fun c1 => ?_)
  have dc1 := c1
  try simp only [DC] at dc1
  have Bh3 : a0.length ≤ maxLen := (by
      have := (H0).1
      try simp only [maxLen] at *
      omega)
  refine ex_pt (p := Pt.p0 (a0.map sRow) (a1.map sRow) 0) (by first | rfl | (simp only [S0, MP]; done) | (simp only [MP]; rfl)) ?_
  refine loopM_ok (pt := fun (i2 : Nat) (s4 : Unit) => Pt.p0 (a0.map sRow) (a1.map sRow) (i2 : Int)) (s := (() : Unit)) (out := ret) (fun _ _ => True) (fun J i2 s4 h3 hih3 => ?_) (fun s4 hih3 => ?_) trivial
  · simp only [step, S0]
    have bb_ := Bh3
    simp only [maxLen] at bb_
    have := (H0).1
    refine Rnd.yes (by apply decide_eq_true; omega) ?_
    refine Rnd.yes zle_dec ?_
    refine Rnd.yes (lt_dec h3) ?_
    refine Rnd.yes zle_dec ?_
    refine Rnd.yes (by
        have := (H1).1
        refine decide_eq_true ?_
        try simp (disch := omega) only [LN, wi]
        first | omega | (simp; done) | (simp; omega)) ?_
    refine Rnd.bif (fun _ => Rnd.inr rfl) (fun c5 => ?_)
    refine Rnd.inl trivial ?_
    rw [wrap_succ h3 Bh3]
    all_goals first | rfl | (simp only [S0, MP]; first | done | rfl)
  · simp only [step, S0]
    have := (H0).1
    refine ex_no (by apply decide_eq_false; omega) ?_
    refine ⟨0, ?_⟩
    all_goals first | rfl | (simp only [S0, MP]; first | done | rfl)
theorem valid_ : Valid Try.prog Ev 185 con := VV (run := fun n x => start (iter step n) x.1 x.2) mix tab_ok .nil Try.func185 (by kernel_rfl) run_eq (fun _ a _ _ hg => okF a.1 a.2 hg)
theorem md_eq (a0 : List ByteArray) (a1 : List ByteArray) : md a0 a1 = eqB a0 a1 := by
  unfold md
  refine loop_eqB (⟨#[]⟩) (fun i s h h2 => ?_) (fun s => rfl)
  simp only [bne, int_beq, bool_beq, ba_beq]
  cases eqB _ _ <;> rfl
end spec_SamePath
/-! spec.l30Find -/
namespace spec_l30Find
inductive Pt where
  | p0 (a : List (List L)) (b : List (List L)) (c : Int)
def pid : Pt → Nat
  | .p0 .. => 2
def pvs : Pt → List V
  | .p0 a b c => [.sl none 166 a, .sl none 9 b, .int .i64 c]
def phs : Pt → List Root
  | .p0 a b c => []
noncomputable def step (J : Pt → Ans) : Pt → Ans
  | .p0 a b c => (bif (decide (c < (a.length : Int))) then (bif (decide ((0 : Int) ≤ c)) then (bif (decide (c < (a.length : Int))) then (call (spec_SamePath.R ((RChoice.at a (Int.toNat c)).fPath, b)) fun v1 => (bif v1 then ret (c : Int) else J (.p0 a b (IntKind.i64.wrap (c + 1))))) else none) else none) else ret ((-1) : Int))
noncomputable def start (J : Pt → Ans) (x0 : List (List L)) (x1 : List (List L)) : Ans := J (.p0 x0 x1 0)
def live : Nat → Live := fun i => match i with | 2 => [(0, none), (1, none), (5, none)] | _ => []
def pats : List Pat := [.rd (.sl 166), .rd (.sl 9)]
def res : RP := .one (.rd (.int .i64))
noncomputable abbrev E : Env := { T := assoc Tab, G := conG [(185, spec_SamePath.con)], nt := 20 }
set_option maxRecDepth 100000
theorem step_eq (I : Heads) (p : Pt) : enterC E live I (pid p) (bodyOf Try.f116) (stOf (live (pid p)) (pvs p) (phs p)) (doneK E Try.f116 res) = step (fun q => I (pid q) (pvs q) (phs q)) p := by
  cases p <;> kernel_rfl
theorem start_eq (I : Heads) (ls : List L) : runC E live I (bodyOf Try.f116) (initS pats ls) (doneK E Try.f116 res) = start (fun q => I (pid q) (pvs q) (phs q)) (ls.headD .hole).toSl ((dropT 1 ls).headD .hole).toSl := by kernel_rfl
theorem run_eq (n : Nat) (ls : List L) : runF E live Try.f116 res n (initS pats ls) = start (iter step n) (ls.headD .hole).toSl ((dropT 1 ls).headD .hole).toSl := runF_iter (id := pid) (vs := pvs) (hs := phs) (step := step) (start := fun J => start J (ls.headD .hole).toSl ((dropT 1 ls).headD .hole).toSl) step_eq (fun I => start_eq I ls) n
noncomputable def md (a0 : List MChoice) (a1 : List ByteArray) : Int := (eachI (S := Unit) (β := Int) (fun (i1 : Nat) (y1 : MChoice) (s3 : Unit) => (bif (spec_SamePath.md (y1.fPath) a1) then (.inr ((i1 : Int) : Int)) else (.inl ()))) (fun (s3 : Unit) => ((-1) : Int)) 0 a0 ())
def gd (a0 : List MChoice) (a1 : List ByteArray) : Prop := (SmL (2 ^ 21) (fun y : MChoice => MChoice.Sm (2 ^ 21) y) a0) ∧ (SmL (2 ^ 21) (fun y : ByteArray => y.size ≤ (2 ^ 21)) a1)
def acc (ls : List L) : List (List L) × List (List L) := ((ls.headD .hole).toSl, ((dropT 1 ls).headD .hole).toSl)
noncomputable def R : (List (List L) × List (List L)) → Option Int := RR (p2 gd) (u2 md)
theorem R_eq {a0} {a1} (h : gd a0 a1) : R ((a0.map MChoice.row), (a1.map sRow)) = some (md a0 a1) := RR_eq (a := (a0, a1)) h
noncomputable def con : Con := CN pats res acc R
theorem okF (a0 : List MChoice) (a1 : List ByteArray) (hg : gd a0 a1) : ∃ n, start (iter step n) (a0.map MChoice.row) (a1.map sRow) = ret ((md a0 a1) : Int) := by
  unfold gd at hg
  obtain ⟨H0, H1⟩ := hg
  unfold start md
  try simp only [S0, MEntry.rs, MChoice.rs]
  have Bh2 : a0.length ≤ maxLen := (by
      have := (H0).1
      try simp only [maxLen] at *
      omega)
  refine ex_eq (out := ret) (loopM_eachI (z := MChoice.zero)) ?_
  refine ex_pt (p := Pt.p0 (a0.map MChoice.row) (a1.map sRow) 0) (by first | rfl | (simp only [S0, MEntry.rs, MChoice.rs, MP]; done) | (simp only [MP]; rfl)) ?_
  refine loopM_ok (pt := fun (i1 : Nat) (s3 : Unit) => Pt.p0 (a0.map MChoice.row) (a1.map sRow) (i1 : Int)) (s := (() : Unit)) (out := ret) (fun _ _ => True) (fun J i1 s3 h2 hih2 => ?_) (fun s3 hih2 => ?_) trivial
  · simp only [step, S0, MEntry.rs, MChoice.rs]
    have bb_ := Bh2
    simp only [maxLen] at bb_
    have := (H0).1
    refine Rnd.yes (by apply decide_eq_true; omega) ?_
    refine Rnd.yes zle_dec ?_
    refine Rnd.yes (lt_dec h2) ?_
    refine Rnd.call_to (spec_SamePath.md ((a0.getD i1 MChoice.zero).fPath) a1) (spec_SamePath.R_eq (a0 := (a0.getD i1 MChoice.zero).fPath) (a1 := a1) ⟨(SmL.getD (z := MChoice.zero) H0 h2).1, H1⟩) ?_
    refine Rnd.bif (fun c4 => ?_) (fun c4 => ?_)
    · refine Rnd.inr ?_
      all_goals first | rfl | (simp only [S0, MEntry.rs, MChoice.rs, MP]; first | done | rfl)
    · refine Rnd.inl trivial ?_
      rw [wrap_succ h2 Bh2]
      all_goals first | rfl | (simp only [S0, MEntry.rs, MChoice.rs, MP]; first | done | rfl)
  · simp only [step, S0, MEntry.rs, MChoice.rs]
    have := (H0).1
    refine ex_no (by apply decide_eq_false; omega) ?_
    refine ⟨0, ?_⟩
    all_goals first | rfl | (simp only [S0, MEntry.rs, MChoice.rs, MP]; first | done | rfl)
theorem valid_ : Valid Try.prog Ev 116 con := VV (run := fun n x => start (iter step n) x.1 x.2) mix tab_ok (.cons spec_SamePath.valid_ .nil) Try.func116 (by kernel_rfl) run_eq (fun _ a _ _ hg => okF a.1 a.2 hg)
theorem fa (a0 : List MChoice) (a1 : List ByteArray) : -1 ≤ md a0 a1 ∧ md a0 a1 < (a0.length : Int) := by
  unfold md
  refine eachI_fa0 ?_ _ _
  all_goals
    intro i x s b h
    revert h
    simp only [Bool.cond_eq_ite]
    repeat' split
    all_goals (intro h; first | (cases h; rfl) | cases h)
end spec_l30Find
/-! spec.l5Copy -/
namespace spec_l5Copy
noncomputable def F (x0 : List (List L)) : Ans := (bif (lim ((x0.length : Int) * 16)) then ret (x0 : List (List L)) else none)
def pats : List Pat := [.rd (.sl 9)]
def res : RP := .one (.fr 9)
noncomputable abbrev E : Env := { T := assoc Tab, G := conG [], nt := 6 }
set_option maxRecDepth 100000
theorem run_eq (n : Nat) (ls : List L) : runF E (fun _ => []) Try.f124 res n (initS pats ls) = F (ls.headD .hole).toSl := by kernel_rfl
noncomputable def md (a0 : List ByteArray) : List ByteArray := a0
def gd (a0 : List ByteArray) : Prop := (SmL (2 ^ 21) (fun y : ByteArray => y.size ≤ (2 ^ 21)) a0)
def acc (ls : List L) : List (List L) := (ls.headD .hole).toSl
noncomputable def R : (List (List L)) → Option (List (List L)) := RR gd md
theorem R_eq {a0} (h : gd a0) : R (a0.map sRow) = some ((md a0).map sRow) := RR_eq (a := a0) h
noncomputable def con : Con := CN pats res acc R
theorem okF (a0 : List ByteArray) (hg : gd a0) : F (a0.map sRow) = ret (((md a0).map sRow) : List (List L)) := by
  unfold gd at hg
  have H0 := hg
  unfold F md
  try simp only [S0]
  refine yes_ret (by
      have := (H0).1
      refine lim_t ?_
      try simp (disch := omega) only [LN, wi]
      first | omega | (simp; done) | (simp; omega)) ?_
  all_goals first | rfl | (simp only [S0]; done) | (simp only [MP]; rfl) | (simp only [S0, MP]; first | done | rfl)
theorem valid_ : Valid Try.prog Ev 124 con := VV (run := fun _ x => F x) mix tab_ok .nil Try.func124 (by kernel_rfl) run_eq (fun _ a _ _ hg => ⟨0, okF a hg⟩)
end spec_l5Copy
/-! spec.l8Copy -/
namespace spec_l8Copy
noncomputable def F (x0 : REntry) : Ans := (call (spec_l5Copy.R x0.fPath) fun v1 => ret ((⟨x0.fLabel, x0.fKind, x0.fValue, v1⟩ : REntry) : REntry))
def pats : List Pat := [.agg [.str, .int .i64, .int .i64, .sl 9]]
def res : RP := .agg [.rd (.str), .rd (.int .i64), .rd (.int .i64), .fr 9]
noncomputable abbrev E : Env := { T := assoc Tab, G := conG [(124, spec_l5Copy.con)], nt := 13 }
set_option maxRecDepth 100000
theorem run_eq (n : Nat) (ls : List L) : runF E (fun _ => []) Try.f117 res n (initS pats ls) = F (REntry.dec ls) := by kernel_rfl
noncomputable def md (a0 : MEntry) : MEntry := a0
def gd (a0 : MEntry) : Prop := (MEntry.Sm (2 ^ 21) a0)
def acc (ls : List L) : REntry := (REntry.dec ls)
noncomputable def R : REntry → Option REntry := RR gd md
theorem R_eq {a0} (h : gd a0) : R (MEntry.r a0) = some (MEntry.r (md a0)) := RR_eq (a := a0) h
noncomputable def con : Con := CN pats res acc R
theorem okF (a0 : MEntry) (hg : gd a0) : F (MEntry.r a0) = ret ((MEntry.r (md a0)) : REntry) := by
  unfold gd at hg
  have H0 := hg
  unfold F md
  try simp only [S0, MEntry.rs]
  refine call_to (a0.fPath.map sRow) ?_ ?_
  · have R_ := spec_l5Copy.R_eq (a0 := a0.fPath) H0.2
    simp only [spec_l5Copy.md] at R_
    first | exact R_ | (simp only [MP, S0, MEntry.rs] at R_ ⊢; first | exact R_ | (rw [← R_]; rfl))
  try simp only [S0, MEntry.rs]
  all_goals first | rfl | (simp only [S0, MEntry.rs]; done) | (simp only [MP]; rfl) | (simp only [S0, MEntry.rs, MP]; first | done | rfl)
theorem valid_ : Valid Try.prog Ev 117 con := VV (run := fun _ x => F x) mix tab_ok (.cons spec_l5Copy.valid_ .nil) Try.func117 (by kernel_rfl) run_eq (fun _ a _ _ hg => ⟨0, okF a hg⟩)
end spec_l8Copy
/-! spec.Confirmed -/
namespace spec_Confirmed
noncomputable def F (x0 : List (List L)) (x1 : List (List L)) : Ans := (call (spec_l30Find.R (x0, x1)) fun v1 => (bif (decide (v1 < 0)) then ret (((⟨(⟨#[]⟩ : ByteArray), 0, 0, []⟩ : REntry), false) : REntry × Bool) else (bif (decide ((0 : Int) ≤ v1)) then (bif (decide (v1 < (x0.length : Int))) then (call (spec_l8Copy.R ((RChoice.at x0 (Int.toNat v1)).fEntry)) fun v2 => ret ((v2, true) : REntry × Bool)) else none) else none)))
def pats : List Pat := [.rd (.sl 166), .rd (.sl 9)]
def res : RP := .tup [(true, [.rd (.str), .rd (.int .i64), .rd (.int .i64), .fr 9]), (false, [.rd (.bool)])]
noncomputable abbrev E : Env := { T := assoc Tab, G := conG [(116, spec_l30Find.con), (117, spec_l8Copy.con)], nt := 19 }
set_option maxRecDepth 100000
theorem run_eq (n : Nat) (ls : List L) : runF E (fun _ => []) Try.f36 res n (initS pats ls) = F (ls.headD .hole).toSl ((dropT 1 ls).headD .hole).toSl := by kernel_rfl
noncomputable def md (a0 : List MChoice) (a1 : List ByteArray) : MEntry × Bool := (bif (decide ((spec_l30Find.md a0 a1) < 0)) then ((⟨((⟨#[]⟩ : ByteArray) : ByteArray), 0, 0, []⟩ : MEntry), false) else (((a0.getD (Int.toNat (spec_l30Find.md a0 a1)) MChoice.zero).fEntry), true))
def gd (a0 : List MChoice) (a1 : List ByteArray) : Prop := (SmL (2 ^ 21) (fun y : MChoice => MChoice.Sm (2 ^ 21) y) a0) ∧ (SmL (2 ^ 21) (fun y : ByteArray => y.size ≤ (2 ^ 21)) a1)
def acc (ls : List L) : List (List L) × List (List L) := ((ls.headD .hole).toSl, ((dropT 1 ls).headD .hole).toSl)
noncomputable def R : (List (List L) × List (List L)) → Option (REntry × Bool) := RR (p2 gd) (u2 md)
theorem R_eq {a0} {a1} (h : gd a0 a1) : R ((a0.map MChoice.row), (a1.map sRow)) = some ((MEntry.r (md a0 a1).1), (md a0 a1).2) := RR_eq (a := (a0, a1)) h
noncomputable def con : Con := CN pats res acc R
theorem okF (a0 : List MChoice) (a1 : List ByteArray) (hg : gd a0 a1) : F (a0.map MChoice.row) (a1.map sRow) = ret (((MEntry.r (md a0 a1).1), (md a0 a1).2) : REntry × Bool) := by
  unfold gd at hg
  obtain ⟨H0, H1⟩ := hg
  unfold F md
  try simp only [S0, MChoice.rs]
  refine call_to (spec_l30Find.md a0 a1) (spec_l30Find.R_eq (a0 := a0) (a1 := a1) ⟨H0, H1⟩) ?_
  have fv1_ := spec_l30Find.fa a0 a1
  refine bif_out (fun b : MEntry × Bool => ret (((MEntry.r b.1), b.2) : REntry × Bool)) (fun c1 => ?_) (fun c1 => ?_)
  · all_goals first | rfl | (simp only [S0, MChoice.rs]; done) | (simp only [MP]; rfl) | (simp only [S0, MChoice.rs, MP]; first | done | rfl)
  · have dc1 := c1
    try simp only [DC] at dc1
    refine yes_ret (by
        refine decide_eq_true ?_
        try simp (disch := omega) only [LN, wi]
        first | omega | (simp; done) | (simp; omega)) ?_
    refine yes_ret (by
        have := (H0).1
        refine decide_eq_true ?_
        try simp (disch := omega) only [LN, wi]
        first | omega | (simp; done) | (simp; omega)) ?_
    refine call_to (MEntry.r ((a0.getD (Int.toNat (spec_l30Find.md a0 a1)) MChoice.zero).fEntry)) ?_ ?_
    · have R_ := spec_l8Copy.R_eq (a0 := (a0.getD (Int.toNat (spec_l30Find.md a0 a1)) MChoice.zero).fEntry) (SmL.getD (z := MChoice.zero) H0 (by first | assumption | omega | (simp (disch := omega) only [wi]; omega) | (simp; omega))).2
      simp only [spec_l8Copy.md] at R_
      first | exact R_ | (simp only [MP, S0, MChoice.rs] at R_ ⊢; first | exact R_ | (rw [← R_]; rfl))
    try simp only [S0, MChoice.rs]
    all_goals first | rfl | (simp only [S0, MChoice.rs]; done) | (simp only [MP]; rfl) | (simp only [S0, MChoice.rs, MP]; first | done | rfl)
theorem valid_ : Valid Try.prog Ev 36 con := VV (run := fun _ x => F x.1 x.2) mix tab_ok (.cons spec_l30Find.valid_ (.cons spec_l8Copy.valid_ .nil)) Try.func36 (by kernel_rfl) run_eq (fun _ a _ _ hg => ⟨0, okF a.1 a.2 hg⟩)
end spec_Confirmed
/-! slices.Equal[[]string,string] -/
namespace slices_Equal_Sstring_string
inductive Pt where
  | p0 (a : List (List L)) (b : List (List L)) (c : Int) (d : Int)
def pid : Pt → Nat
  | .p0 .. => 4
def pvs : Pt → List V
  | .p0 a b c d => [.sl none 9 a, .sl none 9 b, .int .i64 c, .int .i64 d]
def phs : Pt → List Root
  | .p0 a b c d => []
noncomputable def step (J : Pt → Ans) : Pt → Ans
  | .p0 a b c d => (bif (decide (d < c)) then (bif (decide ((0 : Int) ≤ d)) then (bif (decide (d < (a.length : Int))) then (bif (decide ((0 : Int) ≤ d)) then (bif (decide (d < (b.length : Int))) then (bif (!((sAt a (Int.toNat d)) == (sAt b (Int.toNat d)))) then ret (false : Bool) else J (.p0 a b c (IntKind.i64.wrap (d + 1)))) else none) else none) else none) else none) else ret (true : Bool))
noncomputable def start (J : Pt → Ans) (x0 : List (List L)) (x1 : List (List L)) : Ans := (bif ((x0.length : Int) != (x1.length : Int)) then ret (false : Bool) else J (.p0 x0 x1 (x0.length : Int) 0))
def live : Nat → Live := fun i => match i with | 4 => [(0, none), (1, none), (12, none), (13, none)] | _ => []
def pats : List Pat := [.rd (.sl 9), .rd (.sl 9)]
def res : RP := .one (.rd (.bool))
noncomputable abbrev E : Env := { T := assoc Tab, G := conG [], nt := 26 }
set_option maxRecDepth 100000
theorem step_eq (I : Heads) (p : Pt) : enterC E live I (pid p) (bodyOf Try.f216) (stOf (live (pid p)) (pvs p) (phs p)) (doneK E Try.f216 res) = step (fun q => I (pid q) (pvs q) (phs q)) p := by
  cases p <;> kernel_rfl
theorem start_eq (I : Heads) (ls : List L) : runC E live I (bodyOf Try.f216) (initS pats ls) (doneK E Try.f216 res) = start (fun q => I (pid q) (pvs q) (phs q)) (ls.headD .hole).toSl ((dropT 1 ls).headD .hole).toSl := by kernel_rfl
theorem run_eq (n : Nat) (ls : List L) : runF E live Try.f216 res n (initS pats ls) = start (iter step n) (ls.headD .hole).toSl ((dropT 1 ls).headD .hole).toSl := runF_iter (id := pid) (vs := pvs) (hs := phs) (step := step) (start := fun J => start J (ls.headD .hole).toSl ((dropT 1 ls).headD .hole).toSl) step_eq (fun I => start_eq I ls) n
noncomputable def md (a0 : List ByteArray) (a1 : List ByteArray) : Bool := (bif ((a0.length : Int) != (a1.length : Int)) then (false : Bool) else (loopM (S := Unit) (β := Bool) (fun (i2 : Nat) (s4 : Unit) => (bif (!((a0.getD i2 ⟨#[]⟩) == (a1.getD i2 ⟨#[]⟩))) then (.inr (false : Bool)) else (.inl ()))) (fun (s4 : Unit) => (true : Bool)) a0.length 0 ()))
def gd (a0 : List ByteArray) (a1 : List ByteArray) : Prop := (SmL (2 ^ 21) (fun y : ByteArray => y.size ≤ (2 ^ 21)) a0) ∧ (SmL (2 ^ 21) (fun y : ByteArray => y.size ≤ (2 ^ 21)) a1)
def acc (ls : List L) : List (List L) × List (List L) := ((ls.headD .hole).toSl, ((dropT 1 ls).headD .hole).toSl)
noncomputable def R : (List (List L) × List (List L)) → Option Bool := RR (p2 gd) (u2 md)
theorem R_eq {a0} {a1} (h : gd a0 a1) : R ((a0.map sRow), (a1.map sRow)) = some (md a0 a1) := RR_eq (a := (a0, a1)) h
noncomputable def con : Con := CN pats res acc R
theorem okF (a0 : List ByteArray) (a1 : List ByteArray) (hg : gd a0 a1) : ∃ n, start (iter step n) (a0.map sRow) (a1.map sRow) = ret ((md a0 a1) : Bool) := by
  unfold gd at hg
  obtain ⟨H0, H1⟩ := hg
  unfold start md
  try simp only [S0]
  refine ex_bif ret (fun _ => ⟨0, rfl⟩) (fun c1 => ?_)
  have dc1 := c1
  try simp only [DC] at dc1
  have Bh3 : a0.length ≤ maxLen := (by
      have := (H0).1
      try simp only [maxLen] at *
      omega)
  refine ex_pt (p := Pt.p0 (a0.map sRow) (a1.map sRow) (a0.length : Int) 0) (by first | rfl | (simp only [S0, MP]; done) | (simp only [MP]; rfl)) ?_
  refine loopM_ok (pt := fun (i2 : Nat) (s4 : Unit) => Pt.p0 (a0.map sRow) (a1.map sRow) (a0.length : Int) (i2 : Int)) (s := (() : Unit)) (out := ret) (fun _ _ => True) (fun J i2 s4 h3 hih3 => ?_) (fun s4 hih3 => ?_) trivial
  · simp only [step, S0]
    have bb_ := Bh3
    simp only [maxLen] at bb_
    have := (H0).1
    refine Rnd.yes (by apply decide_eq_true; omega) ?_
    refine Rnd.yes zle_dec ?_
    refine Rnd.yes (lt_dec h3) ?_
    refine Rnd.yes zle_dec ?_
    refine Rnd.yes (by
        have := (H1).1
        refine decide_eq_true ?_
        try simp (disch := omega) only [LN, wi]
        first | omega | (simp; done) | (simp; omega)) ?_
    refine Rnd.bif (fun _ => Rnd.inr rfl) (fun c5 => ?_)
    refine Rnd.inl trivial ?_
    rw [wrap_succ h3 Bh3]
    all_goals first | rfl | (simp only [S0, MP]; first | done | rfl)
  · simp only [step, S0]
    have := (H0).1
    refine ex_no (by apply decide_eq_false; omega) ?_
    refine ⟨0, ?_⟩
    all_goals first | rfl | (simp only [S0, MP]; first | done | rfl)
theorem valid_ : Valid Try.prog Ev 216 con := VV (run := fun n x => start (iter step n) x.1 x.2) mix tab_ok .nil Try.func216 (by kernel_rfl) run_eq (fun _ a _ _ hg => okF a.1 a.2 hg)
theorem md_eq (a0 : List ByteArray) (a1 : List ByteArray) : md a0 a1 = eqB a0 a1 := by
  unfold md
  refine loop_eqB (⟨#[]⟩) (fun i s h h2 => ?_) (fun s => rfl)
  simp only [bne, int_beq, bool_beq, ba_beq]
  cases eqB _ _ <;> rfl
end slices_Equal_Sstring_string
/-! impl.SamePath -/
namespace impl_SamePath
noncomputable def F (x0 : List (List L)) (x1 : List (List L)) : Ans := (call (slices_Equal_Sstring_string.R (x0, x1)) fun v1 => ret (v1 : Bool))
def pats : List Pat := [.rd (.sl 9), .rd (.sl 9)]
def res : RP := .one (.rd (.bool))
noncomputable abbrev E : Env := { T := assoc Tab, G := conG [(216, slices_Equal_Sstring_string.con)], nt := 8 }
set_option maxRecDepth 100000
theorem run_eq (n : Nat) (ls : List L) : runF E (fun _ => []) Try.f188 res n (initS pats ls) = F (ls.headD .hole).toSl ((dropT 1 ls).headD .hole).toSl := by kernel_rfl
noncomputable def md (a0 : List ByteArray) (a1 : List ByteArray) : Bool := ((slices_Equal_Sstring_string.md a0 a1) : Bool)
def gd (a0 : List ByteArray) (a1 : List ByteArray) : Prop := (SmL (2 ^ 21) (fun y : ByteArray => y.size ≤ (2 ^ 21)) a0) ∧ (SmL (2 ^ 21) (fun y : ByteArray => y.size ≤ (2 ^ 21)) a1)
def acc (ls : List L) : List (List L) × List (List L) := ((ls.headD .hole).toSl, ((dropT 1 ls).headD .hole).toSl)
noncomputable def R : (List (List L) × List (List L)) → Option Bool := RR (p2 gd) (u2 md)
theorem R_eq {a0} {a1} (h : gd a0 a1) : R ((a0.map sRow), (a1.map sRow)) = some (md a0 a1) := RR_eq (a := (a0, a1)) h
noncomputable def con : Con := CN pats res acc R
theorem okF (a0 : List ByteArray) (a1 : List ByteArray) (hg : gd a0 a1) : F (a0.map sRow) (a1.map sRow) = ret ((md a0 a1) : Bool) := by
  unfold gd at hg
  obtain ⟨H0, H1⟩ := hg
  unfold F md
  try simp only [S0]
  refine call_to (slices_Equal_Sstring_string.md a0 a1) (slices_Equal_Sstring_string.R_eq (a0 := a0) (a1 := a1) ⟨H0, H1⟩) ?_
  all_goals first | rfl | (simp only [S0, MP]; first | done | rfl)
theorem valid_ : Valid Try.prog Ev 188 con := VV (run := fun _ x => F x.1 x.2) mix tab_ok (.cons slices_Equal_Sstring_string.valid_ .nil) Try.func188 (by kernel_rfl) run_eq (fun _ a _ _ hg => ⟨0, okF a.1 a.2 hg⟩)
theorem md_eq (a0 : List ByteArray) (a1 : List ByteArray) : md a0 a1 = eqB a0 a1 := by
  unfold md
  rw [slices_Equal_Sstring_string.md_eq]
end impl_SamePath
/-! impl.choiceAt$1 -/
namespace impl_choiceAt_1
noncomputable def F (x0 : RChoice) (x1 : List L) : Ans := (call (impl_SamePath.R (x0.fPath, (lDec x1))) fun v1 => ret (v1 : Bool))
def pats : List Pat := [.agg [.sl 9, .str, .int .i64, .int .i64, .sl 9], .ptr [.sl 9]]
def res : RP := .one (.rd (.bool))
noncomputable abbrev E : Env := { T := assoc Tab, G := conG [(188, impl_SamePath.con)], nt := 8 }
set_option maxRecDepth 100000
theorem run_eq (n : Nat) (ls : List L) : runF E (fun _ => []) Try.f187 res n (initS pats ls) = F (RChoice.dec ls) (padL 1 (dropT 5 ls)) := by kernel_rfl
noncomputable def md (a0 : MChoice) (a1 : List ByteArray) : Bool := ((impl_SamePath.md a0.fPath a1) : Bool)
def gd (a0 : MChoice) (a1 : List ByteArray) : Prop := (MChoice.Sm (2 ^ 21) a0) ∧ (SmL (2 ^ 21) (fun y : ByteArray => y.size ≤ (2 ^ 21)) a1)
def acc (ls : List L) : RChoice × List (List L) := ((RChoice.dec ls), (lDec (padL 1 (dropT 5 ls))))
noncomputable def R : (RChoice × List (List L)) → Option Bool := RR (p2 gd) (u2 md)
theorem R_eq {a0} {a1} (h : gd a0 a1) : R ((MChoice.r a0), (a1.map sRow)) = some (md a0 a1) := RR_eq (a := (a0, a1)) h
noncomputable def con : Con := CN pats res acc R
theorem okF (a0 : MChoice) (a1 : List ByteArray) (p1 : List L) (e1 : (a1.map sRow) = (lDec p1)) (hg : gd a0 a1) : F (MChoice.r a0) p1 = ret ((md a0 a1) : Bool) := by
  unfold gd at hg
  obtain ⟨H0, H1⟩ := hg
  unfold F md
  try simp only [S0, MEntry.rs, MChoice.rs, ← e1]
  refine call_to (impl_SamePath.md a0.fPath a1) (impl_SamePath.R_eq (a0 := a0.fPath) (a1 := a1) ⟨H0.1, H1⟩) ?_
  all_goals first | rfl | (simp only [S0, MEntry.rs, MChoice.rs, ← e1, MP]; first | done | rfl)
theorem okV (ls : List L) (a : MChoice × List ByteArray) (e : acc ls = Im.im a) (hg : (p2 gd) a) : ∃ n : Nat, F (RChoice.dec ls) (padL 1 (dropT 5 ls)) = ret (Im.im ((u2 md) a)) := by
  have e0 : (MChoice.r a.1) = (RChoice.dec ls) := (congrArg (fun x => x.1) e.symm)
  have hn := okF a.1 a.2 (padL 1 (dropT 5 ls)) (congrArg (fun x => x.2) e.symm) hg
  refine ⟨0, ?_⟩
  rw [← e0]
  exact hn
theorem valid_ : Valid Try.prog Ev 187 con := VP (accr := fun ls => ((RChoice.dec ls), (padL 1 (dropT 5 ls)))) (run := fun _ x => F x.1 x.2) mix tab_ok (.cons impl_SamePath.valid_ .nil) Try.func187 (by kernel_rfl) run_eq (fun ls a _ e hg => okV ls a e hg)
end impl_choiceAt_1
/-! slices.IndexFunc[[]impl.Choice,impl.Choice] -/
namespace slices_IndexFunc_Simpl_Choice_impl_Choice__impl_choiceAt_1
inductive Pt where
  | p0 (a : List (List L)) (b : List L) (c : Int) (d : Int)
def pid : Pt → Nat
  | .p0 .. => 2
def pvs : Pt → List V
  | .p0 a b c d => [.sl none 166 a, .fn 187 [.cptr none [.sl 9] b 0], .int .i64 c, .int .i64 d]
def phs : Pt → List Root
  | .p0 a b c d => []
noncomputable def step (J : Pt → Ans) : Pt → Ans
  | .p0 a b c d => (bif (decide (d < c)) then (bif (decide ((0 : Int) ≤ d)) then (bif (decide (d < (a.length : Int))) then (call (impl_choiceAt_1.R ((RChoice.at a (Int.toNat d)), (lDec b))) fun v1 => (bif v1 then ret (d : Int) else J (.p0 a b c (IntKind.i64.wrap (d + 1))))) else none) else none) else ret ((-1) : Int))
noncomputable def start (J : Pt → Ans) (x0 : List (List L)) (x1 : List L) : Ans := J (.p0 x0 x1 (x0.length : Int) 0)
def live : Nat → Live := fun i => match i with | 2 => [(0, none), (1, none), (7, none), (8, none)] | _ => []
def pats : List Pat := [.rd (.sl 166), .fn 187 [[.sl 9]]]
def res : RP := .one (.rd (.int .i64))
noncomputable abbrev E : Env := { T := assoc Tab, G := conG [(187, impl_choiceAt_1.con)], nt := 19 }
set_option maxRecDepth 100000
theorem step_eq (I : Heads) (p : Pt) : enterC E live I (pid p) (bodyOf Try.f186) (stOf (live (pid p)) (pvs p) (phs p)) (doneK E Try.f186 res) = step (fun q => I (pid q) (pvs q) (phs q)) p := by
  cases p <;> kernel_rfl
theorem start_eq (I : Heads) (ls : List L) : runC E live I (bodyOf Try.f186) (initS pats ls) (doneK E Try.f186 res) = start (fun q => I (pid q) (pvs q) (phs q)) (ls.headD .hole).toSl (padL 1 (dropT 1 ls)) := by kernel_rfl
theorem run_eq (n : Nat) (ls : List L) : runF E live Try.f186 res n (initS pats ls) = start (iter step n) (ls.headD .hole).toSl (padL 1 (dropT 1 ls)) := runF_iter (id := pid) (vs := pvs) (hs := phs) (step := step) (start := fun J => start J (ls.headD .hole).toSl (padL 1 (dropT 1 ls))) step_eq (fun I => start_eq I ls) n
noncomputable def md (a0 : List MChoice) (a1 : List ByteArray) : Int := (eachI (S := Unit) (β := Int) (fun (i1 : Nat) (y1 : MChoice) (s3 : Unit) => (bif (impl_choiceAt_1.md y1 a1) then (.inr ((i1 : Int) : Int)) else (.inl ()))) (fun (s3 : Unit) => ((-1) : Int)) 0 a0 ())
def gd (a0 : List MChoice) (a1 : List ByteArray) : Prop := (SmL (2 ^ 21) (fun y : MChoice => MChoice.Sm (2 ^ 21) y) a0) ∧ (SmL (2 ^ 21) (fun y : ByteArray => y.size ≤ (2 ^ 21)) a1)
def acc (ls : List L) : List (List L) × List (List L) := ((ls.headD .hole).toSl, (lDec (padL 1 (dropT 1 ls))))
noncomputable def R : (List (List L) × List (List L)) → Option Int := RR (p2 gd) (u2 md)
theorem R_eq {a0} {a1} (h : gd a0 a1) : R ((a0.map MChoice.row), (a1.map sRow)) = some (md a0 a1) := RR_eq (a := (a0, a1)) h
noncomputable def con : Con := CN pats res acc R
theorem okF (a0 : List MChoice) (a1 : List ByteArray) (p1 : List L) (e1 : (a1.map sRow) = (lDec p1)) (hg : gd a0 a1) : ∃ n, start (iter step n) (a0.map MChoice.row) p1 = ret ((md a0 a1) : Int) := by
  unfold gd at hg
  obtain ⟨H0, H1⟩ := hg
  unfold start md
  try simp only [S0, MChoice.rs, ← e1]
  have Bh2 : a0.length ≤ maxLen := (by
      have := (H0).1
      try simp only [maxLen] at *
      omega)
  refine ex_eq (out := ret) (loopM_eachI (z := MChoice.zero)) ?_
  refine ex_pt (p := Pt.p0 (a0.map MChoice.row) p1 (a0.length : Int) 0) (by first | rfl | (simp only [S0, MChoice.rs, ← e1, MP]; done) | (simp only [MP]; rfl)) ?_
  refine loopM_ok (pt := fun (i1 : Nat) (s3 : Unit) => Pt.p0 (a0.map MChoice.row) p1 (a0.length : Int) (i1 : Int)) (s := (() : Unit)) (out := ret) (fun _ _ => True) (fun J i1 s3 h2 hih2 => ?_) (fun s3 hih2 => ?_) trivial
  · simp only [step, S0, MChoice.rs, ← e1]
    have bb_ := Bh2
    simp only [maxLen] at bb_
    have := (H0).1
    refine Rnd.yes (by apply decide_eq_true; omega) ?_
    refine Rnd.yes zle_dec ?_
    refine Rnd.yes (lt_dec h2) ?_
    refine Rnd.call_to (impl_choiceAt_1.md (a0.getD i1 MChoice.zero) a1) (impl_choiceAt_1.R_eq (a0 := (a0.getD i1 MChoice.zero)) (a1 := a1) ⟨(SmL.getD (z := MChoice.zero) H0 h2), H1⟩) ?_
    refine Rnd.bif (fun c4 => ?_) (fun c4 => ?_)
    · refine Rnd.inr ?_
      all_goals first | rfl | (simp only [S0, MChoice.rs, ← e1, MP]; first | done | rfl)
    · refine Rnd.inl trivial ?_
      rw [wrap_succ h2 Bh2]
      all_goals first | rfl | (simp only [S0, MChoice.rs, ← e1, MP]; first | done | rfl)
  · simp only [step, S0, MChoice.rs, ← e1]
    have := (H0).1
    refine ex_no (by apply decide_eq_false; omega) ?_
    refine ⟨0, ?_⟩
    all_goals first | rfl | (simp only [S0, MChoice.rs, ← e1, MP]; first | done | rfl)
theorem okV (ls : List L) (a : List MChoice × List ByteArray) (e : acc ls = Im.im a) (hg : (p2 gd) a) : ∃ n : Nat, start (iter step n) ((ls.headD .hole).toSl) (padL 1 (dropT 1 ls)) = ret (Im.im ((u2 md) a)) := by
  have e0 : (a.1.map MChoice.row) = (ls.headD .hole).toSl := (congrArg (fun x => x.1) e.symm)
  obtain ⟨n, hn⟩ := okF a.1 a.2 (padL 1 (dropT 1 ls)) (congrArg (fun x => x.2) e.symm) hg
  refine ⟨n, ?_⟩
  rw [← e0]
  exact hn
theorem valid_ : Valid Try.prog Ev 186 con := VP (accr := fun ls => ((ls.headD .hole).toSl, (padL 1 (dropT 1 ls)))) (run := fun n x => start (iter step n) x.1 x.2) mix tab_ok (.cons impl_choiceAt_1.valid_ .nil) Try.func186 (by kernel_rfl) run_eq (fun ls a _ e hg => okV ls a e hg)
theorem fa (a0 : List MChoice) (a1 : List ByteArray) : -1 ≤ md a0 a1 ∧ md a0 a1 < (a0.length : Int) := by
  unfold md
  refine eachI_fa0 ?_ _ _
  all_goals
    intro i x s b h
    revert h
    simp only [Bool.cond_eq_ite]
    repeat' split
    all_goals (intro h; first | (cases h; rfl) | cases h)
theorem idx_eq (a0 : List MChoice) (a1 : List ByteArray) : md a0 a1 = findI (fun y => impl_choiceAt_1.md y a1) 0 a0 := by
  unfold md
  exact eachI_find
end slices_IndexFunc_Simpl_Choice_impl_Choice__impl_choiceAt_1
/-! impl.choiceAt -/
namespace impl_choiceAt
noncomputable def F (x0 : List (List L)) (x1 : List (List L)) : Ans := (call (slices_IndexFunc_Simpl_Choice_impl_Choice__impl_choiceAt_1.R (x0, x1)) fun v1 => ret (v1 : Int))
def pats : List Pat := [.rd (.sl 166), .rd (.sl 9)]
def res : RP := .one (.rd (.int .i64))
noncomputable abbrev E : Env := { T := assoc Tab, G := conG [(186, slices_IndexFunc_Simpl_Choice_impl_Choice__impl_choiceAt_1.con)], nt := 8 }
set_option maxRecDepth 100000
theorem run_eq (n : Nat) (ls : List L) : runF E (fun _ => []) Try.f119 res n (initS pats ls) = F (ls.headD .hole).toSl ((dropT 1 ls).headD .hole).toSl := by kernel_rfl
noncomputable def md (a0 : List MChoice) (a1 : List ByteArray) : Int := ((slices_IndexFunc_Simpl_Choice_impl_Choice__impl_choiceAt_1.md a0 a1) : Int)
def gd (a0 : List MChoice) (a1 : List ByteArray) : Prop := (SmL (2 ^ 21) (fun y : MChoice => MChoice.Sm (2 ^ 21) y) a0) ∧ (SmL (2 ^ 21) (fun y : ByteArray => y.size ≤ (2 ^ 21)) a1)
def acc (ls : List L) : List (List L) × List (List L) := ((ls.headD .hole).toSl, ((dropT 1 ls).headD .hole).toSl)
noncomputable def R : (List (List L) × List (List L)) → Option Int := RR (p2 gd) (u2 md)
theorem R_eq {a0} {a1} (h : gd a0 a1) : R ((a0.map MChoice.row), (a1.map sRow)) = some (md a0 a1) := RR_eq (a := (a0, a1)) h
noncomputable def con : Con := CN pats res acc R
theorem okF (a0 : List MChoice) (a1 : List ByteArray) (hg : gd a0 a1) : F (a0.map MChoice.row) (a1.map sRow) = ret ((md a0 a1) : Int) := by
  unfold gd at hg
  obtain ⟨H0, H1⟩ := hg
  unfold F md
  try simp only [S0]
  refine call_to (slices_IndexFunc_Simpl_Choice_impl_Choice__impl_choiceAt_1.md a0 a1) (slices_IndexFunc_Simpl_Choice_impl_Choice__impl_choiceAt_1.R_eq (a0 := a0) (a1 := a1) ⟨H0, H1⟩) ?_
  have fv1_ := slices_IndexFunc_Simpl_Choice_impl_Choice__impl_choiceAt_1.fa a0 a1
  all_goals first | rfl | (simp only [S0, MP]; first | done | rfl)
theorem valid_ : Valid Try.prog Ev 119 con := VV (run := fun _ x => F x.1 x.2) mix tab_ok (.cons slices_IndexFunc_Simpl_Choice_impl_Choice__impl_choiceAt_1.valid_ .nil) Try.func119 (by kernel_rfl) run_eq (fun _ a _ _ hg => ⟨0, okF a.1 a.2 hg⟩)
theorem fa (a0 : List MChoice) (a1 : List ByteArray) : -1 ≤ md a0 a1 ∧ md a0 a1 < (a0.length : Int) := by unfold md; exact slices_IndexFunc_Simpl_Choice_impl_Choice__impl_choiceAt_1.fa _ _
theorem br (a0 : List MChoice) (a1 : List ByteArray) : md a0 a1 = spec_l30Find.md a0 a1 := by
  unfold md spec_l30Find.md
  first
  | (simp only [slices_IndexFunc_Simpl_Choice_impl_Choice__impl_choiceAt_1.idx_eq, spec_SamePath.md_eq]; done)
  | (simp only [slices_IndexFunc_Simpl_Choice_impl_Choice__impl_choiceAt_1.idx_eq, spec_SamePath.md_eq]; rfl)
  | rfl
end impl_choiceAt
/-! slices.Clone[[]string,string] -/
namespace slices_Clone_Sstring_string
noncomputable def F (x0 : List (List L)) : Ans := (bif x0.isEmpty then (either (ret ([] : List (List L))) ((bif (lim ((x0.length : Int) * 16)) then ret (x0 : List (List L)) else none))) else (bif (lim ((x0.length : Int) * 16)) then ret (x0 : List (List L)) else none))
def pats : List Pat := [.rd (.sl 9)]
def res : RP := .one (.fr 9)
noncomputable abbrev E : Env := { T := assoc Tab, G := conG [], nt := 8 }
set_option maxRecDepth 100000
theorem run_eq (n : Nat) (ls : List L) : runF E (fun _ => []) Try.f127 res n (initS pats ls) = F (ls.headD .hole).toSl := by kernel_rfl
noncomputable def md (a0 : List ByteArray) : List ByteArray := a0
def gd (a0 : List ByteArray) : Prop := SmL (2 ^ 21) (fun y : ByteArray => y.size ≤ (2 ^ 21)) a0
def acc (ls : List L) : List (List L) := (ls.headD .hole).toSl
noncomputable def R : (List (List L)) → Option (List (List L)) := RR gd md
theorem R_eq {a0} (h : gd a0) : R (a0.map sRow) = some ((md a0).map sRow) := RR_eq (a := a0) h
noncomputable def con : Con := CN pats res acc R
theorem okF (a0 : List ByteArray) (hg : gd a0) : F (a0.map sRow) = ret (((md a0).map sRow) : List (List L)) := by
  have H0 := hg.1
  unfold F md
  have hl : lim (((a0.map sRow).length : Int) * 16) = true := lim_t (by simp only [List.length_map]; omega)
  simp only [hl, cond_true]
  cases a0 with
  | nil => exact either_same
  | cons x xs => rfl
theorem valid_ : Valid Try.prog Ev 127 con := VV (run := fun _ x => F x) mix tab_ok .nil Try.func127 (by kernel_rfl) run_eq (fun _ a _ _ hg => ⟨0, okF a hg⟩)
end slices_Clone_Sstring_string
/-! impl.copyEntry -/
namespace impl_copyEntry
noncomputable def F (x0 : REntry) : Ans := (call (slices_Clone_Sstring_string.R x0.fPath) fun v1 => ret ((⟨x0.fLabel, x0.fKind, x0.fValue, v1⟩ : REntry) : REntry))
def pats : List Pat := [.agg [.str, .int .i64, .int .i64, .sl 9]]
def res : RP := .agg [.rd (.str), .rd (.int .i64), .rd (.int .i64), .fr 9]
noncomputable abbrev E : Env := { T := assoc Tab, G := conG [(127, slices_Clone_Sstring_string.con)], nt := 8 }
set_option maxRecDepth 100000
theorem run_eq (n : Nat) (ls : List L) : runF E (fun _ => []) Try.f120 res n (initS pats ls) = F (REntry.dec ls) := by kernel_rfl
noncomputable def md (a0 : MEntry) : MEntry := a0
def gd (a0 : MEntry) : Prop := (MEntry.Sm (2 ^ 21) a0)
def acc (ls : List L) : REntry := (REntry.dec ls)
noncomputable def R : REntry → Option REntry := RR gd md
theorem R_eq {a0} (h : gd a0) : R (MEntry.r a0) = some (MEntry.r (md a0)) := RR_eq (a := a0) h
noncomputable def con : Con := CN pats res acc R
theorem okF (a0 : MEntry) (hg : gd a0) : F (MEntry.r a0) = ret ((MEntry.r (md a0)) : REntry) := by
  unfold gd at hg
  have H0 := hg
  unfold F md
  try simp only [S0, MEntry.rs]
  refine call_to (a0.fPath.map sRow) ?_ ?_
  · have R_ := slices_Clone_Sstring_string.R_eq (a0 := a0.fPath) H0.2
    simp only [slices_Clone_Sstring_string.md] at R_
    first | exact R_ | (simp only [MP, S0, MEntry.rs] at R_ ⊢; first | exact R_ | (rw [← R_]; rfl))
  try simp only [S0, MEntry.rs]
  all_goals first | rfl | (simp only [S0, MEntry.rs]; done) | (simp only [MP]; rfl) | (simp only [S0, MEntry.rs, MP]; first | done | rfl)
theorem valid_ : Valid Try.prog Ev 120 con := VV (run := fun _ x => F x) mix tab_ok (.cons slices_Clone_Sstring_string.valid_ .nil) Try.func120 (by kernel_rfl) run_eq (fun _ a _ _ hg => ⟨0, okF a hg⟩)
end impl_copyEntry
/-! impl.Confirmed -/
namespace impl_Confirmed
noncomputable def F (x0 : List (List L)) (x1 : List (List L)) : Ans := (call (impl_choiceAt.R (x0, x1)) fun v1 => (bif (decide (v1 < 0)) then ret (((⟨(⟨#[]⟩ : ByteArray), 0, 0, []⟩ : REntry), false) : REntry × Bool) else (bif (decide ((0 : Int) ≤ v1)) then (bif (decide (v1 < (x0.length : Int))) then (call (impl_copyEntry.R ((RChoice.at x0 (Int.toNat v1)).fEntry)) fun v2 => ret ((v2, true) : REntry × Bool)) else none) else none)))
def pats : List Pat := [.rd (.sl 166), .rd (.sl 9)]
def res : RP := .tup [(true, [.rd (.str), .rd (.int .i64), .rd (.int .i64), .fr 9]), (false, [.rd (.bool)])]
noncomputable abbrev E : Env := { T := assoc Tab, G := conG [(119, impl_choiceAt.con), (120, impl_copyEntry.con)], nt := 19 }
set_option maxRecDepth 100000
theorem run_eq (n : Nat) (ls : List L) : runF E (fun _ => []) Try.f39 res n (initS pats ls) = F (ls.headD .hole).toSl ((dropT 1 ls).headD .hole).toSl := by kernel_rfl
noncomputable def md (a0 : List MChoice) (a1 : List ByteArray) : MEntry × Bool := (bif (decide ((impl_choiceAt.md a0 a1) < 0)) then ((⟨((⟨#[]⟩ : ByteArray) : ByteArray), 0, 0, []⟩ : MEntry), false) else (((a0.getD (Int.toNat (impl_choiceAt.md a0 a1)) MChoice.zero).fEntry), true))
def gd (a0 : List MChoice) (a1 : List ByteArray) : Prop := (SmL (2 ^ 21) (fun y : MChoice => MChoice.Sm (2 ^ 21) y) a0) ∧ (SmL (2 ^ 21) (fun y : ByteArray => y.size ≤ (2 ^ 21)) a1)
def acc (ls : List L) : List (List L) × List (List L) := ((ls.headD .hole).toSl, ((dropT 1 ls).headD .hole).toSl)
noncomputable def R : (List (List L) × List (List L)) → Option (REntry × Bool) := RR (p2 gd) (u2 md)
theorem R_eq {a0} {a1} (h : gd a0 a1) : R ((a0.map MChoice.row), (a1.map sRow)) = some ((MEntry.r (md a0 a1).1), (md a0 a1).2) := RR_eq (a := (a0, a1)) h
noncomputable def con : Con := CN pats res acc R
theorem okF (a0 : List MChoice) (a1 : List ByteArray) (hg : gd a0 a1) : F (a0.map MChoice.row) (a1.map sRow) = ret (((MEntry.r (md a0 a1).1), (md a0 a1).2) : REntry × Bool) := by
  unfold gd at hg
  obtain ⟨H0, H1⟩ := hg
  unfold F md
  try simp only [S0, MChoice.rs]
  refine call_to (impl_choiceAt.md a0 a1) (impl_choiceAt.R_eq (a0 := a0) (a1 := a1) ⟨H0, H1⟩) ?_
  have fv1_ := impl_choiceAt.fa a0 a1
  refine bif_out (fun b : MEntry × Bool => ret (((MEntry.r b.1), b.2) : REntry × Bool)) (fun c1 => ?_) (fun c1 => ?_)
  · all_goals first | rfl | (simp only [S0, MChoice.rs]; done) | (simp only [MP]; rfl) | (simp only [S0, MChoice.rs, MP]; first | done | rfl)
  · have dc1 := c1
    try simp only [DC] at dc1
    refine yes_ret (by
        refine decide_eq_true ?_
        try simp (disch := omega) only [LN, wi]
        first | omega | (simp; done) | (simp; omega)) ?_
    refine yes_ret (by
        have := (H0).1
        refine decide_eq_true ?_
        try simp (disch := omega) only [LN, wi]
        first | omega | (simp; done) | (simp; omega)) ?_
    refine call_to (MEntry.r ((a0.getD (Int.toNat (impl_choiceAt.md a0 a1)) MChoice.zero).fEntry)) ?_ ?_
    · have R_ := impl_copyEntry.R_eq (a0 := (a0.getD (Int.toNat (impl_choiceAt.md a0 a1)) MChoice.zero).fEntry) (SmL.getD (z := MChoice.zero) H0 (by first | assumption | omega | (simp (disch := omega) only [wi]; omega) | (simp; omega))).2
      simp only [impl_copyEntry.md] at R_
      first | exact R_ | (simp only [MP, S0, MChoice.rs] at R_ ⊢; first | exact R_ | (rw [← R_]; rfl))
    try simp only [S0, MChoice.rs]
    all_goals first | rfl | (simp only [S0, MChoice.rs]; done) | (simp only [MP]; rfl) | (simp only [S0, MChoice.rs, MP]; first | done | rfl)
theorem valid_ : Valid Try.prog Ev 39 con := VV (run := fun _ x => F x.1 x.2) mix tab_ok (.cons impl_choiceAt.valid_ (.cons impl_copyEntry.valid_ .nil)) Try.func39 (by kernel_rfl) run_eq (fun _ a _ _ hg => ⟨0, okF a.1 a.2 hg⟩)
theorem br (a0 : List MChoice) (a1 : List ByteArray) : md a0 a1 = spec_Confirmed.md a0 a1 := by
  unfold md spec_Confirmed.md
  first
  | (simp only [impl_choiceAt.br]; done)
  | (simp only [impl_choiceAt.br]; rfl)
  | rfl
end impl_Confirmed
/-! laws.eqStringS -/
namespace laws_eqStringS
inductive Pt where
  | p0 (a : List (List L)) (b : List (List L)) (c : Int)
def pid : Pt → Nat
  | .p0 .. => 4
def pvs : Pt → List V
  | .p0 a b c => [.sl none 9 a, .sl none 9 b, .int .i64 c]
def phs : Pt → List Root
  | .p0 a b c => []
noncomputable def step (J : Pt → Ans) : Pt → Ans
  | .p0 a b c => (bif (decide (c < (a.length : Int))) then (bif (decide ((0 : Int) ≤ c)) then (bif (decide (c < (a.length : Int))) then (bif (decide ((0 : Int) ≤ c)) then (bif (decide (c < (b.length : Int))) then (bif (!((sAt a (Int.toNat c)) == (sAt b (Int.toNat c)))) then ret (false : Bool) else J (.p0 a b (IntKind.i64.wrap (c + 1)))) else none) else none) else none) else none) else ret (true : Bool))
noncomputable def start (J : Pt → Ans) (x0 : List (List L)) (x1 : List (List L)) : Ans := (bif ((x0.length : Int) != (x1.length : Int)) then ret (false : Bool) else J (.p0 x0 x1 0))
def live : Nat → Live := fun i => match i with | 4 => [(0, none), (1, none), (5, none)] | _ => []
def pats : List Pat := [.rd (.sl 9), .rd (.sl 9)]
def res : RP := .one (.rd (.bool))
noncomputable abbrev E : Env := { T := assoc Tab, G := conG [], nt := 26 }
set_option maxRecDepth 100000
theorem step_eq (I : Heads) (p : Pt) : enterC E live I (pid p) (bodyOf Try.f42) (stOf (live (pid p)) (pvs p) (phs p)) (doneK E Try.f42 res) = step (fun q => I (pid q) (pvs q) (phs q)) p := by
  cases p <;> kernel_rfl
theorem start_eq (I : Heads) (ls : List L) : runC E live I (bodyOf Try.f42) (initS pats ls) (doneK E Try.f42 res) = start (fun q => I (pid q) (pvs q) (phs q)) (ls.headD .hole).toSl ((dropT 1 ls).headD .hole).toSl := by kernel_rfl
theorem run_eq (n : Nat) (ls : List L) : runF E live Try.f42 res n (initS pats ls) = start (iter step n) (ls.headD .hole).toSl ((dropT 1 ls).headD .hole).toSl := runF_iter (id := pid) (vs := pvs) (hs := phs) (step := step) (start := fun J => start J (ls.headD .hole).toSl ((dropT 1 ls).headD .hole).toSl) step_eq (fun I => start_eq I ls) n
noncomputable def md (a0 : List ByteArray) (a1 : List ByteArray) : Bool := eqB a0 a1
def gd (a0 : List ByteArray) (a1 : List ByteArray) : Prop := True
def acc (ls : List L) : List (List L) × List (List L) := ((ls.headD .hole).toSl, ((dropT 1 ls).headD .hole).toSl)
noncomputable def R : (List (List L) × List (List L)) → Option Bool := RR (p2 gd) (u2 md)
theorem R_eq {a0} {a1} (h : gd a0 a1) : R ((a0.map sRow), (a1.map sRow)) = some (md a0 a1) := RR_eq (a := (a0, a1)) h
noncomputable def con : Con := CN pats res acc R
theorem okF (a0 : List ByteArray) (a1 : List ByteArray) (hg : gd a0 a1) (h0 : a0.length ≤ maxLen) (h1 : a1.length ≤ maxLen) : ∃ n, start (iter step n) (a0.map sRow) (a1.map sRow) = ret ((md a0 a1) : Bool) := by
  unfold start md
  simp only [List.length_map]
  refine eq_list (pt := fun i => Pt.p0 (a0.map sRow) (a1.map sRow) (i : Int)) (fun hl J i h h2 => ?_) (fun J => ?_)
  · simp only [step, List.length_map, lt_dec h, lt_dec h2, zle_dec, cond_true, toNat_nat, sAt_row h, sAt_row h2]
    rw [wrap_succ h h0]
    simp only [bne, int_beq, bool_beq, ba_beq]
    cases eqB a0[i] a1[i] <;> rfl
  · simp only [step, List.length_map, nlt_dec, cond_false]
theorem valid_ : Valid Try.prog Ev 42 con := VV (run := fun n x => start (iter step n) x.1 x.2) mix tab_ok .nil Try.func42 (by kernel_rfl) run_eq (fun ls a hl e hg => okF a.1 a.2 hg (by have h : (ls.headD .hole).toSl.length ≤ maxLen := hl.1.len; have e : a.1.map sRow = (ls.headD .hole).toSl := (congrArg (fun x => x.1) e.symm); rw [← e] at h; simpa using h) (by have h : ((dropT 1 ls).headD .hole).toSl.length ≤ maxLen := hl.2.1.len; have e : a.2.map sRow = ((dropT 1 ls).headD .hole).toSl := (congrArg (fun x => x.2) e.symm); rw [← e] at h; simpa using h))
end laws_eqStringS
/-! laws.eqEntry -/
namespace laws_eqEntry
noncomputable def F (x0 : REntry) (x1 : REntry) : Ans := (bif (!(x0.fLabel == x1.fLabel)) then ret (false : Bool) else (bif (x0.fKind != x1.fKind) then ret (false : Bool) else (bif (x0.fValue != x1.fValue) then ret (false : Bool) else (call (laws_eqStringS.R (x0.fPath, x1.fPath)) fun v1 => (bif (!v1) then ret (false : Bool) else ret (true : Bool))))))
def pats : List Pat := [.agg [.str, .int .i64, .int .i64, .sl 9], .agg [.str, .int .i64, .int .i64, .sl 9]]
def res : RP := .one (.rd (.bool))
noncomputable abbrev E : Env := { T := assoc Tab, G := conG [(42, laws_eqStringS.con)], nt := 26 }
set_option maxRecDepth 100000
theorem run_eq (n : Nat) (ls : List L) : runF E (fun _ => []) Try.f40 res n (initS pats ls) = F (REntry.dec ls) (REntry.dec (dropT 4 ls)) := by kernel_rfl
noncomputable def md (a0 : MEntry) (a1 : MEntry) : Bool := eqB a0 a1
def gd (a0 : MEntry) (a1 : MEntry) : Prop := True
def acc (ls : List L) : REntry × REntry := ((REntry.dec ls), (REntry.dec (dropT 4 ls)))
noncomputable def R : (REntry × REntry) → Option Bool := RR (p2 gd) (u2 md)
theorem R_eq {a0} {a1} (h : gd a0 a1) : R ((MEntry.r a0), (MEntry.r a1)) = some (md a0 a1) := RR_eq (a := (a0, a1)) h
noncomputable def con : Con := CN pats res acc R
theorem okF (a0 : MEntry) (a1 : MEntry) (hg : gd a0 a1) : F (MEntry.r a0) (MEntry.r a1) = ret ((md a0 a1) : Bool) := by
  unfold md
  show (bif (!(a0.fLabel == a1.fLabel)) then ret (false : Bool) else (bif (a0.fKind != a1.fKind) then ret (false : Bool) else (bif (a0.fValue != a1.fValue) then ret (false : Bool) else (call (laws_eqStringS.R ((a0.fPath.map sRow), (a1.fPath.map sRow))) fun v1 => (bif (!v1) then ret (false : Bool) else ret (true : Bool)))))) = _
  simp only [call_eq (laws_eqStringS.R_eq (a0 := a0.fPath) (a1 := a1.fPath) trivial), laws_eqStringS.md]
  try simp only [bne, int_beq, bool_beq, ba_beq]
  have e : eqB a0 a1 = (eqB a0.fLabel a1.fLabel && (eqB a0.fKind a1.fKind && (eqB a0.fValue a1.fValue && (eqB a0.fPath a1.fPath && true)))) := by
    cases a0; cases a1
    rw [Bool.eq_iff_iff]
    simp only [eqB_iff, Bool.and_eq_true, MEntry.mk.injEq, and_true]
  rw [e]
  refine and_step fun _ => ?_
  refine and_step fun _ => ?_
  refine and_step fun _ => ?_
  refine and_step fun _ => ?_
  rfl
theorem valid_ : Valid Try.prog Ev 40 con := VV (run := fun _ x => F x.1 x.2) mix tab_ok (.cons laws_eqStringS.valid_ .nil) Try.func40 (by kernel_rfl) run_eq (fun _ a _ _ hg => ⟨0, okF a.1 a.2 hg⟩)
end laws_eqEntry
/-! laws.eqChoice -/
namespace laws_eqChoice
noncomputable def F (x0 : RChoice) (x1 : RChoice) : Ans := (call (laws_eqStringS.R (x0.fPath, x1.fPath)) fun v1 => (bif (!v1) then ret (false : Bool) else (call (laws_eqEntry.R (x0.fEntry, x1.fEntry)) fun v2 => (bif (!v2) then ret (false : Bool) else ret (true : Bool)))))
def pats : List Pat := [.agg [.sl 9, .str, .int .i64, .int .i64, .sl 9], .agg [.sl 9, .str, .int .i64, .int .i64, .sl 9]]
def res : RP := .one (.rd (.bool))
noncomputable abbrev E : Env := { T := assoc Tab, G := conG [(42, laws_eqStringS.con), (40, laws_eqEntry.con)], nt := 17 }
set_option maxRecDepth 100000
theorem run_eq (n : Nat) (ls : List L) : runF E (fun _ => []) Try.f121 res n (initS pats ls) = F (RChoice.dec ls) (RChoice.dec (dropT 5 ls)) := by kernel_rfl
noncomputable def md (a0 : MChoice) (a1 : MChoice) : Bool := eqB a0 a1
def gd (a0 : MChoice) (a1 : MChoice) : Prop := True
def acc (ls : List L) : RChoice × RChoice := ((RChoice.dec ls), (RChoice.dec (dropT 5 ls)))
noncomputable def R : (RChoice × RChoice) → Option Bool := RR (p2 gd) (u2 md)
theorem R_eq {a0} {a1} (h : gd a0 a1) : R ((MChoice.r a0), (MChoice.r a1)) = some (md a0 a1) := RR_eq (a := (a0, a1)) h
noncomputable def con : Con := CN pats res acc R
theorem okF (a0 : MChoice) (a1 : MChoice) (hg : gd a0 a1) : F (MChoice.r a0) (MChoice.r a1) = ret ((md a0 a1) : Bool) := by
  unfold md
  show (call (laws_eqStringS.R ((a0.fPath.map sRow), (a1.fPath.map sRow))) fun v1 => (bif (!v1) then ret (false : Bool) else (call (laws_eqEntry.R ((MEntry.r a0.fEntry), (MEntry.r a1.fEntry))) fun v2 => (bif (!v2) then ret (false : Bool) else ret (true : Bool))))) = _
  simp only [call_eq (laws_eqStringS.R_eq (a0 := a0.fPath) (a1 := a1.fPath) trivial), laws_eqStringS.md]
  simp only [call_eq (laws_eqEntry.R_eq (a0 := a0.fEntry) (a1 := a1.fEntry) trivial), laws_eqEntry.md]
  try simp only [bne, int_beq, bool_beq, ba_beq]
  have e : eqB a0 a1 = (eqB a0.fPath a1.fPath && (eqB a0.fEntry a1.fEntry && true)) := by
    cases a0; cases a1
    rw [Bool.eq_iff_iff]
    simp only [eqB_iff, Bool.and_eq_true, MChoice.mk.injEq, and_true]
  rw [e]
  refine and_step fun _ => ?_
  refine and_step fun _ => ?_
  rfl
theorem valid_ : Valid Try.prog Ev 121 con := VV (run := fun _ x => F x.1 x.2) mix tab_ok (.cons laws_eqStringS.valid_ (.cons laws_eqEntry.valid_ .nil)) Try.func121 (by kernel_rfl) run_eq (fun _ a _ _ hg => ⟨0, okF a.1 a.2 hg⟩)
end laws_eqChoice
/-! laws.eqChoiceS -/
namespace laws_eqChoiceS
inductive Pt where
  | p0 (a : List (List L)) (b : List (List L)) (c : Int)
def pid : Pt → Nat
  | .p0 .. => 4
def pvs : Pt → List V
  | .p0 a b c => [.sl none 166 a, .sl none 166 b, .int .i64 c]
def phs : Pt → List Root
  | .p0 a b c => []
noncomputable def step (J : Pt → Ans) : Pt → Ans
  | .p0 a b c => (bif (decide (c < (a.length : Int))) then (bif (decide ((0 : Int) ≤ c)) then (bif (decide (c < (a.length : Int))) then (bif (decide ((0 : Int) ≤ c)) then (bif (decide (c < (b.length : Int))) then (call (laws_eqChoice.R ((RChoice.at a (Int.toNat c)), (RChoice.at b (Int.toNat c)))) fun v1 => (bif (!v1) then ret (false : Bool) else J (.p0 a b (IntKind.i64.wrap (c + 1))))) else none) else none) else none) else none) else ret (true : Bool))
noncomputable def start (J : Pt → Ans) (x0 : List (List L)) (x1 : List (List L)) : Ans := (bif ((x0.length : Int) != (x1.length : Int)) then ret (false : Bool) else J (.p0 x0 x1 0))
def live : Nat → Live := fun i => match i with | 4 => [(0, none), (1, none), (5, none)] | _ => []
def pats : List Pat := [.rd (.sl 166), .rd (.sl 166)]
def res : RP := .one (.rd (.bool))
noncomputable abbrev E : Env := { T := assoc Tab, G := conG [(121, laws_eqChoice.con)], nt := 27 }
set_option maxRecDepth 100000
theorem step_eq (I : Heads) (p : Pt) : enterC E live I (pid p) (bodyOf Try.f41) (stOf (live (pid p)) (pvs p) (phs p)) (doneK E Try.f41 res) = step (fun q => I (pid q) (pvs q) (phs q)) p := by
  cases p <;> kernel_rfl
theorem start_eq (I : Heads) (ls : List L) : runC E live I (bodyOf Try.f41) (initS pats ls) (doneK E Try.f41 res) = start (fun q => I (pid q) (pvs q) (phs q)) (ls.headD .hole).toSl ((dropT 1 ls).headD .hole).toSl := by kernel_rfl
theorem run_eq (n : Nat) (ls : List L) : runF E live Try.f41 res n (initS pats ls) = start (iter step n) (ls.headD .hole).toSl ((dropT 1 ls).headD .hole).toSl := runF_iter (id := pid) (vs := pvs) (hs := phs) (step := step) (start := fun J => start J (ls.headD .hole).toSl ((dropT 1 ls).headD .hole).toSl) step_eq (fun I => start_eq I ls) n
noncomputable def md (a0 : List MChoice) (a1 : List MChoice) : Bool := eqB a0 a1
def gd (a0 : List MChoice) (a1 : List MChoice) : Prop := True
def acc (ls : List L) : List (List L) × List (List L) := ((ls.headD .hole).toSl, ((dropT 1 ls).headD .hole).toSl)
noncomputable def R : (List (List L) × List (List L)) → Option Bool := RR (p2 gd) (u2 md)
theorem R_eq {a0} {a1} (h : gd a0 a1) : R ((a0.map MChoice.row), (a1.map MChoice.row)) = some (md a0 a1) := RR_eq (a := (a0, a1)) h
noncomputable def con : Con := CN pats res acc R
theorem okF (a0 : List MChoice) (a1 : List MChoice) (hg : gd a0 a1) (h0 : a0.length ≤ maxLen) (h1 : a1.length ≤ maxLen) : ∃ n, start (iter step n) (a0.map MChoice.row) (a1.map MChoice.row) = ret ((md a0 a1) : Bool) := by
  unfold start md
  simp only [List.length_map]
  refine eq_list (pt := fun i => Pt.p0 (a0.map MChoice.row) (a1.map MChoice.row) (i : Int)) (fun hl J i h h2 => ?_) (fun J => ?_)
  · simp only [step, List.length_map, lt_dec h, lt_dec h2, zle_dec, cond_true, toNat_nat, MChoice.at_row h, MChoice.at_row h2]
    rw [wrap_succ h h0]
    rw [call_eq (laws_eqChoice.R_eq (a0 := a0[i]) (a1 := a1[i]) trivial), laws_eqChoice.md]
    cases eqB a0[i] a1[i] <;> rfl
  · simp only [step, List.length_map, nlt_dec, cond_false]
theorem valid_ : Valid Try.prog Ev 41 con := VV (run := fun n x => start (iter step n) x.1 x.2) mix tab_ok (.cons laws_eqChoice.valid_ .nil) Try.func41 (by kernel_rfl) run_eq (fun ls a hl e hg => okF a.1 a.2 hg (by have h : (ls.headD .hole).toSl.length ≤ maxLen := hl.1.len; have e : a.1.map MChoice.row = (ls.headD .hole).toSl := (congrArg (fun x => x.1) e.symm); rw [← e] at h; simpa using h) (by have h : ((dropT 1 ls).headD .hole).toSl.length ≤ maxLen := hl.2.1.len; have e : a.2.map MChoice.row = ((dropT 1 ls).headD .hole).toSl := (congrArg (fun x => x.2) e.symm); rw [← e] at h; simpa using h))
end laws_eqChoiceS
/-! laws.markText -/
namespace laws_markText
inductive Pt where
  | p0 (a : Int) (b : ByteArray)
def pid : Pt → Nat
  | .p0 .. => 4
def pvs : Pt → List V
  | .p0 a b => [.int .i64 a, .str b]
def phs : Pt → List Root
  | .p0 a b => []
noncomputable def step (J : Pt → Ans) : Pt → Ans
  | .p0 a b => (bif (decide (a > 0)) then (bif (decide ((((strL [[L.int (IntKind.u8.wrap (IntKind.i64.wrap (48 + (Int.tmod a 10))))]]).size + b.size : Nat) : Int) > 9223372036854775807)) then none else J (.p0 (IntKind.i64.wrap (Int.tdiv a 10)) ((strL [[L.int (IntKind.u8.wrap (IntKind.i64.wrap (48 + (Int.tmod a 10))))]]) ++ b))) else (bif (decide ((((⟨#[109]⟩ : ByteArray).size + b.size : Nat) : Int) > 9223372036854775807)) then none else ret (((⟨#[109]⟩ : ByteArray) ++ b) : ByteArray)))
noncomputable def start (J : Pt → Ans) (x0 : Int) : Ans := (bif (decide (x0 ≤ 0)) then ret ((⟨#[109, 48]⟩ : ByteArray) : ByteArray) else J (.p0 x0 ⟨#[]⟩))
def live : Nat → Live := fun i => match i with | 4 => [(0, none), (3, none)] | _ => []
def pats : List Pat := [.rd (.int .i64)]
def res : RP := .one (.rd (.str))
noncomputable abbrev E : Env := { T := assoc Tab, G := conG [], nt := 20 }
set_option maxRecDepth 100000
theorem step_eq (I : Heads) (p : Pt) : enterC E live I (pid p) (bodyOf Try.f114) (stOf (live (pid p)) (pvs p) (phs p)) (doneK E Try.f114 res) = step (fun q => I (pid q) (pvs q) (phs q)) p := by
  cases p <;> kernel_rfl
theorem start_eq (I : Heads) (ls : List L) : runC E live I (bodyOf Try.f114) (initS pats ls) (doneK E Try.f114 res) = start (fun q => I (pid q) (pvs q) (phs q)) (ls.headD .hole).toInt := by kernel_rfl
theorem run_eq (n : Nat) (ls : List L) : runF E live Try.f114 res n (initS pats ls) = start (iter step n) (ls.headD .hole).toInt := runF_iter (id := pid) (vs := pvs) (hs := phs) (step := step) (start := fun J => start J (ls.headD .hole).toInt) step_eq (fun I => start_eq I ls) n
noncomputable def dg (a : Int) : ByteArray := strL [[L.int (IntKind.u8.wrap (IntKind.i64.wrap (48 + (Int.tmod a 10))))]]
noncomputable def txt : Nat → Int → ByteArray → ByteArray
  | 0, _, b => b
  | n + 1, a, b => bif decide (a > 0) then txt n (IntKind.i64.wrap (Int.tdiv a 10)) (dg a ++ b) else b
theorem dg_size (a : Int) : (strL [[L.int (IntKind.u8.wrap (IntKind.i64.wrap (48 + (Int.tmod a 10))))]]).size = 1 := rfl
theorem run : ∀ (n : Nat) (a : Int) (b : ByteArray), n ≤ 64 → a < 2 ^ n → I64 a → b.size + n ≤ 1000 → ∃ m, iter step m (.p0 a b) = ret ((⟨#[109]⟩ : ByteArray) ++ txt n a b)
  | 0, a, b, _, h1, _, h3 => by
    refine ⟨1, ?_⟩
    show step _ (.p0 a b) = _
    have e1 : decide (a > 0) = false := decide_eq_false (by simp at h1; omega)
    have e2 : decide ((((⟨#[109]⟩ : ByteArray).size + b.size : Nat) : Int) > 9223372036854775807) = false := decide_eq_false (by have : (⟨#[109]⟩ : ByteArray).size = 1 := rfl; omega)
    simp only [step, e1, e2, cond_false]
    rfl
  | n + 1, a, b, hn, h1, h2, h3 => by
    by_cases hp : a > 0
    · have e1 : decide (a > 0) = true := decide_eq_true hp
      have hq : Int.tdiv a 10 = a / 10 := Int.tdiv_eq_ediv_of_nonneg (by omega)
      unfold I64 at h2
      have hw : IntKind.i64.wrap (Int.tdiv a 10) = a / 10 := by rw [hq]; exact wi _ (by omega)
      have hlt : a / 10 < 2 ^ n := by
        have : (2 : Int) ^ (n + 1) = 2 ^ n * 2 := Int.pow_succ 2 n
        omega
      have hs : (dg a ++ b).size = 1 + b.size := by rw [ByteArray.size_append]; rfl
      obtain ⟨m, hm⟩ := run n (a / 10) (dg a ++ b) (by omega) hlt ⟨by omega, by omega⟩ (by rw [hs]; omega)
      refine ⟨m + 1, ?_⟩
      show step _ (.p0 a b) = _
      have e2 : decide ((((strL [[L.int (IntKind.u8.wrap (IntKind.i64.wrap (48 + (Int.tmod a 10))))]]).size + b.size : Nat) : Int) > 9223372036854775807) = false := decide_eq_false (by rw [dg_size]; omega)
      simp only [step, txt, e1, e2, cond_true, cond_false, hw]
      exact hm
    · refine ⟨1, ?_⟩
      show step _ (.p0 a b) = _
      have e1 : decide (a > 0) = false := decide_eq_false hp
      have e2 : decide ((((⟨#[109]⟩ : ByteArray).size + b.size : Nat) : Int) > 9223372036854775807) = false := decide_eq_false (by have : (⟨#[109]⟩ : ByteArray).size = 1 := rfl; omega)
      simp only [step, txt, e1, e2, cond_false]
noncomputable def md (a0 : Int) : ByteArray := (bif decide (a0 ≤ 0) then (⟨#[109, 48]⟩ : ByteArray) else (⟨#[109]⟩ : ByteArray) ++ txt 64 a0 ⟨#[]⟩)
def gd (a0 : Int) : Prop := I64 a0
def acc (ls : List L) : Int := (ls.headD .hole).toInt
noncomputable def R : Int → Option ByteArray := RR gd md
theorem R_eq {a0} (h : gd a0) : R a0 = some (md a0) := RR_eq (a := a0) h
noncomputable def con : Con := CN pats res acc R
theorem okF (a0 : Int) (hg : gd a0) : ∃ n, start (iter step n) a0 = ret ((md a0) : ByteArray) := by
  unfold gd at hg
  unfold start md
  cases h : decide (a0 ≤ 0)
  · have h2 := hg.2
    have h3 : (2 : Int) ^ 64 = 18446744073709551616 := by decide
    obtain ⟨m, hm⟩ := run 64 a0 ⟨#[]⟩ (Nat.le_refl _) (by rw [h3]; omega) hg (by show 0 + 64 ≤ 1000; omega)
    exact ⟨m, hm⟩
  · exact ⟨0, rfl⟩
theorem valid_ : Valid Try.prog Ev 114 con := VV (run := fun n x => start (iter step n) x) mix tab_ok .nil Try.func114 (by kernel_rfl) run_eq (fun _ a _ _ hg => okF a hg)
end laws_markText
/-! laws.markStringS -/
namespace laws_markStringS
set_option maxRecDepth 100000
set_option maxHeartbeats 8000000
inductive Pt where
  | p0 (a : Int) (b : Int) (c : List (List L))
def pid : Pt → Nat
  | .p0 .. => 2
def pvs : Pt → List V
  | .p0 a b c => [.own 0, .int .i64 a, .int .i64 b]
def phs : Pt → List Root
  | .p0 a b c => [.row 9 c]
noncomputable def step (J : Pt → Ans) : Pt → Ans
  | .p0 a b c => (bif (decide (b < (c.length : Int))) then (call (laws_markText.R a) fun v1 => (bif (decide ((0 : Int) ≤ b)) then (bif (decide (b < (c.length : Int))) then J (.p0 (IntKind.i64.wrap (a + 1)) (IntKind.i64.wrap (b + 1)) (List.set c (Int.toNat b) [L.str v1])) else none) else none)) else ret ((a, c) : Int × List (List L)))
noncomputable def start (J : Pt → Ans) (x0 : List (List L)) (x1 : Int) : Ans := J (.p0 x1 0 x0)
def live : Nat → Live := fun i => match i with | 2 => [(0, none), (1, none), (5, none)] | _ => []
def pats : List (Bool × List K) := [(false, [.sl 9]), (false, [.int .i64])]
def res : RP := .chg [9]
noncomputable abbrev E : Env := { T := assoc Tab, G := conG [(114, laws_markText.con)], nt := 20, M := conM [], np := 1, mt := true }
set_option maxRecDepth 100000
theorem step_eq (I : Heads) (p : Pt) : enterC E live I (pid p) (bodyOf Try.f44) (stOf (live (pid p)) (pvs p) (phs p)) (doneK E Try.f44 res) = step (fun q => I (pid q) (pvs q) (phs q)) p := by
  cases p <;> kernel_rfl
theorem start_eq (I : Heads) (ls : List L) : runC E live I (bodyOf Try.f44) (initM pats ls) (doneK E Try.f44 res) = start (fun q => I (pid q) (pvs q) (phs q)) (ls.headD .hole).toSl ((dropT 1 ls).headD .hole).toInt := by kernel_rfl
theorem run_eq (n : Nat) (ls : List L) : runF E live Try.f44 res n (initM pats ls) = start (iter step n) (ls.headD .hole).toSl ((dropT 1 ls).headD .hole).toInt := runF_iter (id := pid) (vs := pvs) (hs := phs) (step := step) (start := fun J => start J (ls.headD .hole).toSl ((dropT 1 ls).headD .hole).toInt) step_eq (fun I => start_eq I ls) n
noncomputable def el (x : ByteArray) (k : Int) : Int × ByteArray := ((IntKind.i64.wrap (k + 1)), (laws_markText.md k))
theorem el_I (x : ByteArray) (k : Int) (hk : I64 k) : I64 (el x k).1 := (wrap_I64 _)
noncomputable def cnt (x : ByteArray) : Nat := 1
noncomputable def sum (a : List ByteArray) : Nat := (a.map cnt).sum
noncomputable def md (a0 : List ByteArray) (a1 : Int) : Int × List ByteArray := accM el a0 a1
def gd (a0 : List ByteArray) (a1 : Int) : Prop := I64 a1
def acc (ls : List L) : List (List L) × Int := ((ls.headD .hole).toSl, ((dropT 1 ls).headD .hole).toInt)
noncomputable def R : (List (List L) × Int) → Option (Int × List (List L)) := RR (p2 gd) (u2 md)
theorem R_eq {a0} {a1} (h : gd a0 a1) : R ((a0.map sRow), a1) = some ((md a0 a1).1, ((md a0 a1).2.map sRow)) := RR_eq (a := (a0, a1)) h
noncomputable def con : MCon := MN pats acc R
theorem okF (a0 : List ByteArray) (a1 : Int) (hg : gd a0 a1) (h0 : a0.length ≤ maxLen) : ∃ n, start (iter step n) (a0.map sRow) a1 = ret (((md a0 a1).1, ((md a0 a1).2.map sRow)) : Int × List (List L)) := by
  unfold gd at hg
  show ∃ n, iter step n (Pt.p0 a1 0 (a0.map sRow)) = _
  unfold md
  refine mark_loop (el := el) (xs := a0) ⟨#[]⟩ I64 el_I (pt := fun i k c => Pt.p0 k (i : Int) (c.map sRow)) (out := fun b => ret (b.1, b.2.map sRow)) (fun J i k c hi hc hk => ?_) (fun J k c hc => ?_) hg
  · have hm : c.length ≤ maxLen := hc ▸ h0
    simp only [step, S0]
    refine yes_ret (lt_dec hi) ?_
    refine call_to (laws_markText.md k) (laws_markText.R_eq (a0 := k) hk) ?_
    refine yes_ret zle_dec ?_
    refine yes_ret (lt_dec hi) ?_
    rw [wrap_succ hi hm]
    exact congrArg (fun q => J (Pt.p0 (el (c.getD i ⟨#[]⟩) k).1 ((i + 1 : Nat) : Int) q)) (List.map_set (f := sRow) (l := c) (i := i) (a := (el (c.getD i ⟨#[]⟩) k).2)).symm
  · simp only [step, S0]
    refine no_ret (by apply decide_eq_false; omega) ?_
    rfl
theorem valid_ : MValid Try.prog Ev 44 con := MV (run := fun n x => start (iter step n) x.1 x.2) mix tab_ok (.cons laws_markText.valid_ .nil) .nil Try.func44 (by kernel_rfl) run_eq (fun ls a hl e hg => okF a.1 a.2 hg (by have h : (ls.headD .hole).toSl.length ≤ maxLen := (hl _ _ (.head _)).len; have e : a.1.map sRow = (ls.headD .hole).toSl := (congrArg (fun x => x.1) e.symm); rw [← e] at h; simpa using h))
theorem i64 {a0 : List ByteArray} {a1 : Int} (h : I64 a1) : I64 (md a0 a1).1 := accM_I el_I h
theorem elk (x : ByteArray) (k : Int) (h0 : 0 ≤ k) (hb : k + (cnt x : Int) ≤ 4611686018427387904) : (el x k).1 = k + cnt x := by
  simp only [cnt, Int.natCast_add] at hb ⊢
  simp (disch := omega) only [el, wi]
  all_goals first | done | omega
theorem kk (a0 : List ByteArray) (a1 : Int) (h0 : 0 ≤ a1) (hb : a1 + (sum a0 : Int) ≤ 4611686018427387904) : (md a0 a1).1 = a1 + sum a0 := accM_sum elk a0 a1 h0 hb
theorem sz (a : List ByteArray) : sum a ≤ 60 * (szL (fun y : ByteArray => y.size) a) := sum_le (fun x => by
    simp only [cnt]
    omega) a
end laws_markStringS
/-! laws.markChoiceS -/
namespace laws_markChoiceS
set_option maxRecDepth 100000
set_option maxHeartbeats 8000000
inductive Pt where
  | p0 (a : Int) (b : Int) (c : List (List L))
def pid : Pt → Nat
  | .p0 .. => 2
def pvs : Pt → List V
  | .p0 a b c => [.own 0, .int .i64 a, .int .i64 b]
def phs : Pt → List Root
  | .p0 a b c => [.row 166 c]
noncomputable def step (J : Pt → Ans) : Pt → Ans
  | .p0 a b c => (bif (decide (b < (c.length : Int))) then (bif (decide ((0 : Int) ≤ b)) then (bif (decide (b < (c.length : Int))) then (call (laws_markStringS.R ((RChoice.at c (Int.toNat b)).fPath, a)) fun v1 => (call (laws_markText.R v1.1) fun v2 => (bif (decide ((0 : Int) ≤ b)) then (bif (decide (b < (c.length : Int))) then (bif (Nat.beq (Int.toNat b) (Int.toNat b) && true) then (bif (decide ((0 : Int) ≤ b)) then (bif (decide (b < (c.length : Int))) then (bif (Nat.beq (Int.toNat b) (Int.toNat b) && true) then (bif (decide ((0 : Int) ≤ b)) then (bif (decide (b < (c.length : Int))) then (bif (Nat.beq (Int.toNat b) (Int.toNat b) && true) then (bif (decide ((0 : Int) ≤ b)) then (bif (decide (b < (c.length : Int))) then (bif (Nat.beq (Int.toNat b) (Int.toNat b) && true) then (bif (Nat.beq (Int.toNat b) (Int.toNat b) && true) then (call (laws_markStringS.R ((RChoice.at c (Int.toNat b)).fEntry.fPath, (IntKind.i64.wrap ((IntKind.i64.wrap ((IntKind.i64.wrap (v1.1 + 1)) + 1)) + 1)))) fun v3 => J (.p0 v3.1 (IntKind.i64.wrap (b + 1)) (List.set c (Int.toNat b) (RChoice.enc (⟨v1.2, (⟨v2, (IntKind.i64.wrap (v1.1 + 1)), (IntKind.i64.wrap ((IntKind.i64.wrap (v1.1 + 1)) + 1)), v3.2⟩ : REntry)⟩ : RChoice))))) else none) else none) else none) else none) else none) else none) else none) else none) else none) else none) else none) else none) else none))) else none) else none) else ret ((a, c) : Int × List (List L)))
noncomputable def start (J : Pt → Ans) (x0 : List (List L)) (x1 : Int) : Ans := J (.p0 x1 0 x0)
def live : Nat → Live := fun i => match i with | 2 => [(0, none), (1, none), (5, none)] | _ => []
def pats : List (Bool × List K) := [(false, [.sl 166]), (false, [.int .i64])]
def res : RP := .chg [166]
noncomputable abbrev E : Env := { T := assoc Tab, G := conG [(114, laws_markText.con)], nt := 53, M := conM [(44, laws_markStringS.con)], np := 1, mt := true }
set_option maxRecDepth 100000
theorem step_eq (I : Heads) (p : Pt) : enterC E live I (pid p) (bodyOf Try.f43) (stOf (live (pid p)) (pvs p) (phs p)) (doneK E Try.f43 res) = step (fun q => I (pid q) (pvs q) (phs q)) p := by
  cases p <;> kernel_rfl
theorem start_eq (I : Heads) (ls : List L) : runC E live I (bodyOf Try.f43) (initM pats ls) (doneK E Try.f43 res) = start (fun q => I (pid q) (pvs q) (phs q)) (ls.headD .hole).toSl ((dropT 1 ls).headD .hole).toInt := by kernel_rfl
theorem run_eq (n : Nat) (ls : List L) : runF E live Try.f43 res n (initM pats ls) = start (iter step n) (ls.headD .hole).toSl ((dropT 1 ls).headD .hole).toInt := runF_iter (id := pid) (vs := pvs) (hs := phs) (step := step) (start := fun J => start J (ls.headD .hole).toSl ((dropT 1 ls).headD .hole).toInt) step_eq (fun I => start_eq I ls) n
noncomputable def e1 (x : MChoice) (k : Int) := laws_markStringS.md x.fPath k
noncomputable def e2 (x : MChoice) (k : Int) := laws_markStringS.md ((x.fEntry).fPath) (IntKind.i64.wrap ((IntKind.i64.wrap ((IntKind.i64.wrap ((e1 x k).1 + 1)) + 1)) + 1))
noncomputable def el (x : MChoice) (k : Int) : Int × MChoice := ((e2 x k).1, (⟨(e1 x k).2, (⟨(laws_markText.md ((e1 x k).1)), (IntKind.i64.wrap ((e1 x k).1 + 1)), (IntKind.i64.wrap ((IntKind.i64.wrap ((e1 x k).1 + 1)) + 1)), (e2 x k).2⟩ : MEntry)⟩ : MChoice))
theorem el_I (x : MChoice) (k : Int) (hk : I64 k) : I64 (el x k).1 := (laws_markStringS.i64 (wrap_I64 _))
noncomputable def cnt (x : MChoice) : Nat := 3 + laws_markStringS.sum x.fPath + laws_markStringS.sum ((x.fEntry).fPath)
noncomputable def sum (a : List MChoice) : Nat := (a.map cnt).sum
noncomputable def md (a0 : List MChoice) (a1 : Int) : Int × List MChoice := accM el a0 a1
def gd (a0 : List MChoice) (a1 : Int) : Prop := I64 a1
def acc (ls : List L) : List (List L) × Int := ((ls.headD .hole).toSl, ((dropT 1 ls).headD .hole).toInt)
noncomputable def R : (List (List L) × Int) → Option (Int × List (List L)) := RR (p2 gd) (u2 md)
theorem R_eq {a0} {a1} (h : gd a0 a1) : R ((a0.map MChoice.row), a1) = some ((md a0 a1).1, ((md a0 a1).2.map MChoice.row)) := RR_eq (a := (a0, a1)) h
noncomputable def con : MCon := MN pats acc R
theorem okF (a0 : List MChoice) (a1 : Int) (hg : gd a0 a1) (h0 : a0.length ≤ maxLen) : ∃ n, start (iter step n) (a0.map MChoice.row) a1 = ret (((md a0 a1).1, ((md a0 a1).2.map MChoice.row)) : Int × List (List L)) := by
  unfold gd at hg
  show ∃ n, iter step n (Pt.p0 a1 0 (a0.map MChoice.row)) = _
  unfold md
  refine mark_loop (el := el) (xs := a0) MChoice.zero I64 el_I (pt := fun i k c => Pt.p0 k (i : Int) (c.map MChoice.row)) (out := fun b => ret (b.1, b.2.map MChoice.row)) (fun J i k c hi hc hk => ?_) (fun J k c hc => ?_) hg
  · have hm : c.length ≤ maxLen := hc ▸ h0
    simp only [step, S0, MEntry.rs, MChoice.rs]
    refine yes_ret (lt_dec hi) ?_
    refine yes_ret zle_dec ?_
    refine yes_ret (lt_dec hi) ?_
    refine call_to ((e1 (c.getD i MChoice.zero) k).1, ((e1 (c.getD i MChoice.zero) k).2.map sRow)) (laws_markStringS.R_eq (a0 := (c.getD i MChoice.zero).fPath) (a1 := k) hk) ?_
    refine call_to (laws_markText.md ((e1 (c.getD i MChoice.zero) k).1)) (laws_markText.R_eq (a0 := (e1 (c.getD i MChoice.zero) k).1) (laws_markStringS.i64 hk)) ?_
    refine yes_ret zle_dec ?_
    refine yes_ret (lt_dec hi) ?_
    refine yes_ret (beq_t _) ?_
    refine yes_ret zle_dec ?_
    refine yes_ret (lt_dec hi) ?_
    refine yes_ret (beq_t _) ?_
    refine yes_ret zle_dec ?_
    refine yes_ret (lt_dec hi) ?_
    refine yes_ret (beq_t _) ?_
    refine yes_ret zle_dec ?_
    refine yes_ret (lt_dec hi) ?_
    refine yes_ret (beq_t _) ?_
    refine yes_ret (beq_t _) ?_
    refine call_to ((e2 (c.getD i MChoice.zero) k).1, ((e2 (c.getD i MChoice.zero) k).2.map sRow)) (laws_markStringS.R_eq (a0 := ((c.getD i MChoice.zero).fEntry).fPath) (a1 := IntKind.i64.wrap ((IntKind.i64.wrap ((IntKind.i64.wrap ((e1 (c.getD i MChoice.zero) k).1 + 1)) + 1)) + 1)) (wrap_I64 _)) ?_
    rw [wrap_succ hi hm]
    exact congrArg (fun q => J (Pt.p0 (el (c.getD i MChoice.zero) k).1 ((i + 1 : Nat) : Int) q)) (List.map_set (f := MChoice.row) (l := c) (i := i) (a := (el (c.getD i MChoice.zero) k).2)).symm
  · simp only [step, S0, MEntry.rs, MChoice.rs]
    refine no_ret (by apply decide_eq_false; omega) ?_
    rfl
theorem valid_ : MValid Try.prog Ev 43 con := MV (run := fun n x => start (iter step n) x.1 x.2) mix tab_ok (.cons laws_markText.valid_ .nil) (.cons laws_markStringS.valid_ .nil) Try.func43 (by kernel_rfl) run_eq (fun ls a hl e hg => okF a.1 a.2 hg (by have h : (ls.headD .hole).toSl.length ≤ maxLen := (hl _ _ (.head _)).len; have e : a.1.map MChoice.row = (ls.headD .hole).toSl := (congrArg (fun x => x.1) e.symm); rw [← e] at h; simpa using h))
theorem i64 {a0 : List MChoice} {a1 : Int} (h : I64 a1) : I64 (md a0 a1).1 := accM_I el_I h
theorem elk (x : MChoice) (k : Int) (h0 : 0 ≤ k) (hb : k + (cnt x : Int) ≤ 4611686018427387904) : (el x k).1 = k + cnt x := by
  simp only [cnt, Int.natCast_add] at hb ⊢
  simp (disch := omega) only [el, e1, e2, wi, laws_markStringS.kk]
  all_goals first | done | omega
theorem kk (a0 : List MChoice) (a1 : Int) (h0 : 0 ≤ a1) (hb : a1 + (sum a0 : Int) ≤ 4611686018427387904) : (md a0 a1).1 = a1 + sum a0 := accM_sum elk a0 a1 h0 hb
theorem sz (a : List MChoice) : sum a ≤ 60 * (szL (fun y : MChoice => MChoice.size y) a) := sum_le (fun x => by
    have := laws_markStringS.sz x.fPath
    have := laws_markStringS.sz ((x.fEntry).fPath)
    simp only [cnt, MChoice.size, MEntry.size]
    omega) a
end laws_markChoiceS
/-! laws.markEntry -/
namespace laws_markEntry
set_option maxRecDepth 100000
set_option maxHeartbeats 8000000
noncomputable def F (x0 : REntry) (x1 : Int) : Ans := (call (laws_markStringS.R (x0.fPath, x1)) fun v1 => ret ((v1.1, v1.2) : Int × List (List L)))
def pats : List (Bool × List K) := [(true, [.str, .int .i64, .int .i64, .sl 9]), (false, [.int .i64])]
def res : RP := .chg [9]
noncomputable abbrev E : Env := { T := assoc Tab, G := conG [], nt := 10, M := conM [(44, laws_markStringS.con)], np := 1, mt := true }
set_option maxRecDepth 100000
theorem run_eq (n : Nat) (ls : List L) : runF E (fun _ => []) Try.f45 res n (initM pats ls) = F (REntry.dec ls) ((dropT 4 ls).headD .hole).toInt := by kernel_rfl
noncomputable def e1 (x : MEntry) (k : Int) := laws_markStringS.md x.fPath k
noncomputable def sum (x : MEntry) : Nat := 0 + laws_markStringS.sum x.fPath
noncomputable def md (a0 : MEntry) (a1 : Int) : Int × List ByteArray := ((e1 a0 a1).1, (e1 a0 a1).2)
def gd (a0 : MEntry) (a1 : Int) : Prop := I64 a1
def acc (ls : List L) : REntry × Int := ((REntry.dec ls), ((dropT 4 ls).headD .hole).toInt)
noncomputable def R : (REntry × Int) → Option (Int × List (List L)) := RR (p2 gd) (u2 md)
theorem R_eq {a0} {a1} (h : gd a0 a1) : R ((MEntry.r a0), a1) = some ((md a0 a1).1, ((md a0 a1).2.map sRow)) := RR_eq (a := (a0, a1)) h
noncomputable def con : MCon := MN pats acc R
theorem okF (a0 : MEntry) (a1 : Int) (hg : gd a0 a1) : F (MEntry.r a0) a1 = ret (((md a0 a1).1, ((md a0 a1).2.map sRow)) : Int × List (List L)) := by
  unfold gd at hg
  simp only [F, S0, MEntry.rs]
  unfold md
  refine call_to ((e1 a0 a1).1, ((e1 a0 a1).2.map sRow)) (laws_markStringS.R_eq (a0 := a0.fPath) (a1 := a1) hg) ?_
  first | rfl | (simp only [S0, MEntry.rs]; rfl)
theorem valid_ : MValid Try.prog Ev 45 con := MV (run := fun _ x => F x.1 x.2) mix tab_ok .nil (.cons laws_markStringS.valid_ .nil) Try.func45 (by kernel_rfl) run_eq (fun _ a _ _ hg => ⟨0, okF a.1 a.2 hg⟩)
theorem i64 {a0 : MEntry} {a1 : Int} (hk : I64 a1) : I64 (md a0 a1).1 := (laws_markStringS.i64 hk)
theorem kk (x : MEntry) (k : Int) (h0 : 0 ≤ k) (hb : k + (sum x : Int) ≤ 4611686018427387904) : (md x k).1 = k + sum x := by
  simp only [sum, Int.natCast_add] at hb ⊢
  simp (disch := omega) only [md, e1, wi, laws_markStringS.kk]
  all_goals first | done | omega
theorem sz (x : MEntry) : sum x ≤ 60 * MEntry.size x := by
    have := laws_markStringS.sz x.fPath
    simp only [sum, MEntry.size]
    omega
noncomputable def upd (x : MEntry) (k : Int) : MEntry := (⟨x.fLabel, x.fKind, x.fValue, (md x k).2⟩ : MEntry)
end laws_markEntry
/-! laws.heldStringS -/
namespace laws_heldStringS
set_option maxRecDepth 100000
set_option maxHeartbeats 8000000
inductive Pt where
  | p0 (a : List (List L)) (b : Int) (c : Int)
def pid : Pt → Nat
  | .p0 .. => 2
def pvs : Pt → List V
  | .p0 a b c => [.sl none 9 a, .int .i64 b, .int .i64 c]
def phs : Pt → List Root
  | .p0 a b c => []
noncomputable def step (J : Pt → Ans) : Pt → Ans
  | .p0 a b c => (bif (decide (c < (a.length : Int))) then (bif (decide ((0 : Int) ≤ c)) then (bif (decide (c < (a.length : Int))) then (call (laws_markText.R b) fun v1 => (bif (!((sAt a (Int.toNat c)) == v1)) then ret ((-1) : Int) else J (.p0 a (IntKind.i64.wrap (b + 1)) (IntKind.i64.wrap (c + 1))))) else none) else none) else ret (b : Int))
noncomputable def start (J : Pt → Ans) (x0 : List (List L)) (x1 : Int) : Ans := J (.p0 x0 x1 0)
def live : Nat → Live := fun i => match i with | 2 => [(0, none), (1, none), (5, none)] | _ => []
def pats : List Pat := [.rd (.sl 9), .rd (.int .i64)]
def res : RP := .one (.rd (.int .i64))
noncomputable abbrev E : Env := { T := assoc Tab, G := conG [(114, laws_markText.con)], nt := 22 }
set_option maxRecDepth 100000
theorem step_eq (I : Heads) (p : Pt) : enterC E live I (pid p) (bodyOf Try.f122) (stOf (live (pid p)) (pvs p) (phs p)) (doneK E Try.f122 res) = step (fun q => I (pid q) (pvs q) (phs q)) p := by
  cases p <;> kernel_rfl
theorem start_eq (I : Heads) (ls : List L) : runC E live I (bodyOf Try.f122) (initS pats ls) (doneK E Try.f122 res) = start (fun q => I (pid q) (pvs q) (phs q)) (ls.headD .hole).toSl ((dropT 1 ls).headD .hole).toInt := by kernel_rfl
theorem run_eq (n : Nat) (ls : List L) : runF E live Try.f122 res n (initS pats ls) = start (iter step n) (ls.headD .hole).toSl ((dropT 1 ls).headD .hole).toInt := runF_iter (id := pid) (vs := pvs) (hs := phs) (step := step) (start := fun J => start J (ls.headD .hole).toSl ((dropT 1 ls).headD .hole).toInt) step_eq (fun I => start_eq I ls) n
noncomputable def f (x : ByteArray) (k : Int) : Option Int := (bif (!(x == (laws_markText.md k))) then none else (some (IntKind.i64.wrap (k + 1))))
theorem f_I (x : ByteArray) (k k2 : Int) (hk : I64 k) (h : f x k = some k2) : I64 k2 := by
  unfold f at h
  have h := bif_some h
  injection h with h
  subst h
  exact (wrap_I64 _)
noncomputable def md (a0 : List ByteArray) (a1 : Int) : Int := heldM f a0 a1
def gd (a0 : List ByteArray) (a1 : Int) : Prop := I64 a1
def acc (ls : List L) : List (List L) × Int := ((ls.headD .hole).toSl, ((dropT 1 ls).headD .hole).toInt)
noncomputable def R : (List (List L) × Int) → Option Int := RR (p2 gd) (u2 md)
theorem R_eq {a0} {a1} (h : gd a0 a1) : R ((a0.map sRow), a1) = some (md a0 a1) := RR_eq (a := (a0, a1)) h
noncomputable def con : Con := CN pats res acc R
theorem okF (a0 : List ByteArray) (a1 : Int) (hg : gd a0 a1) (h0 : a0.length ≤ maxLen) : ∃ n, start (iter step n) (a0.map sRow) a1 = ret ((md a0 a1) : Int) := by
  unfold gd at hg
  show ∃ n, iter step n (Pt.p0 (a0.map sRow) a1 0) = _
  unfold md
  refine held_loop (f := f) (xs := a0) ⟨#[]⟩ I64 f_I (pt := fun i k => Pt.p0 (a0.map sRow) k (i : Int)) (fun J i k hi hk => ?_) (fun J k => ?_) hg
  · simp only [step, S0]
    refine yes_ret (lt_dec hi) ?_
    refine yes_ret zle_dec ?_
    refine yes_ret (lt_dec hi) ?_
    refine call_to (laws_markText.md k) (laws_markText.R_eq (a0 := k) hk) ?_
    refine held_bif rfl ?_
    rw [wrap_succ hi h0]
    rfl
  · simp only [step, S0]
    refine no_ret (by apply decide_eq_false; omega) ?_
    rfl
theorem valid_ : Valid Try.prog Ev 122 con := VV (run := fun n x => start (iter step n) x.1 x.2) mix tab_ok (.cons laws_markText.valid_ .nil) Try.func122 (by kernel_rfl) run_eq (fun ls a hl e hg => okF a.1 a.2 hg (by have h : (ls.headD .hole).toSl.length ≤ maxLen := hl.1.len; have e : a.1.map sRow = (ls.headD .hole).toSl := (congrArg (fun x => x.1) e.symm); rw [← e] at h; simpa using h))
theorem i64 {a0 : List ByteArray} {a1 : Int} (h : I64 a1) : I64 (md a0 a1) := heldM_I f_I I64_neg h
theorem elh (x : ByteArray) (k : Int) (h0 : 0 ≤ k) (hb : k + (laws_markStringS.cnt x : Int) ≤ 4611686018427387904) : f (laws_markStringS.el x k).2 k = some (k + laws_markStringS.cnt x) := by
  simp only [laws_markStringS.cnt, Int.natCast_add] at hb ⊢
  simp (disch := omega) only [laws_markStringS.el, f, wi, bne_self_eq_false, beq_self_eq_true, ba_refl, Bool.not_true, cond_false, dec_neg]
  all_goals first | done | omega | (congr 1 <;> omega)
theorem mk (a0 : List ByteArray) (a1 : Int) (h0 : 0 ≤ a1) (hb : a1 + (laws_markStringS.sum a0 : Int) ≤ 4611686018427387904) : md (laws_markStringS.md a0 a1).2 a1 = a1 + laws_markStringS.sum a0 := held_mark laws_markStringS.elk elh a0 a1 h0 hb
end laws_heldStringS
/-! laws.heldEntry -/
namespace laws_heldEntry
set_option maxRecDepth 100000
set_option maxHeartbeats 8000000
noncomputable def F (x0 : REntry) (x1 : Int) : Ans := (call (laws_heldStringS.R (x0.fPath, x1)) fun v1 => (bif (decide (v1 < 0)) then ret ((-1) : Int) else ret (v1 : Int)))
def pats : List Pat := [.agg [.str, .int .i64, .int .i64, .sl 9], .rd (.int .i64)]
def res : RP := .one (.rd (.int .i64))
noncomputable abbrev E : Env := { T := assoc Tab, G := conG [(122, laws_heldStringS.con)], nt := 12 }
set_option maxRecDepth 100000
theorem run_eq (n : Nat) (ls : List L) : runF E (fun _ => []) Try.f46 res n (initS pats ls) = F (REntry.dec ls) ((dropT 4 ls).headD .hole).toInt := by kernel_rfl
noncomputable def e1 (x : MEntry) (k : Int) := laws_heldStringS.md x.fPath k
noncomputable def f (x : MEntry) (k : Int) : Option Int := (bif (decide ((e1 x k) < 0)) then none else (some ((e1 x k) : Int)))
noncomputable def md (a0 : MEntry) (a1 : Int) : Int := heldO (f a0 a1)
def gd (a0 : MEntry) (a1 : Int) : Prop := I64 a1
def acc (ls : List L) : REntry × Int := ((REntry.dec ls), ((dropT 4 ls).headD .hole).toInt)
noncomputable def R : (REntry × Int) → Option Int := RR (p2 gd) (u2 md)
theorem R_eq {a0} {a1} (h : gd a0 a1) : R ((MEntry.r a0), a1) = some (md a0 a1) := RR_eq (a := (a0, a1)) h
noncomputable def con : Con := CN pats res acc R
theorem okF (a0 : MEntry) (a1 : Int) (hg : gd a0 a1) : F (MEntry.r a0) a1 = ret ((md a0 a1) : Int) := by
  unfold gd at hg
  simp only [F, S0, MEntry.rs]
  unfold md
  refine call_to (e1 a0 a1) (laws_heldStringS.R_eq (a0 := a0.fPath) (a1 := a1) hg) ?_
  refine held_bif_ret rfl ?_
  first | rfl | (simp only [S0, MEntry.rs]; rfl)
theorem valid_ : Valid Try.prog Ev 46 con := VV (run := fun _ x => F x.1 x.2) mix tab_ok (.cons laws_heldStringS.valid_ .nil) Try.func46 (by kernel_rfl) run_eq (fun _ a _ _ hg => ⟨0, okF a.1 a.2 hg⟩)
theorem i64 {a0 : MEntry} {a1 : Int} (hk : I64 a1) : I64 (md a0 a1) := by
  unfold md
  cases h : f a0 a1 with
  | none => exact I64_neg
  | some k2 =>
    unfold f at h
    have h := bif_some h
    injection h with h
    subst h
    exact (laws_heldStringS.i64 hk)
theorem mk (x : MEntry) (k : Int) (h0 : 0 ≤ k) (hb : k + (laws_markEntry.sum x : Int) ≤ 4611686018427387904) : md (laws_markEntry.upd x k) k = k + laws_markEntry.sum x := by
  simp only [laws_markEntry.sum, Int.natCast_add] at hb ⊢
  simp (disch := omega) only [laws_markEntry.md, laws_markEntry.upd, md, f, heldO, laws_markEntry.e1, e1, wi, laws_markStringS.kk, laws_heldStringS.mk, cond_false, dec_neg]
  all_goals first | done | omega
end laws_heldEntry
/-! laws.FnExactConfirmed -/
namespace laws_FnExactConfirmed
noncomputable def F (x0 : List (List L)) (x1 : List (List L)) : Ans := (call (laws_szChoiceS.R (x0, 1048576)) fun v1 => (bif (decide (v1 < 0)) then ret (true : Bool) else (call (laws_szStringS.R (x1, v1)) fun v2 => (bif (decide (v2 < 0)) then ret (true : Bool) else (call (laws_toChoiceS.R x0) fun v3 => (call (laws_toStringS.R x1) fun v4 => (call (spec_Confirmed.R (v3, v4)) fun v5 => (call (laws_toChoiceS.R x0) fun v6 => (call (laws_toStringS.R x1) fun v7 => (call (impl_Confirmed.R (v6, v7)) fun v8 => (call (laws_eqEntry.R (v8.1, v5.1)) fun v9 => (bif (!v9) then ret (false : Bool) else (bif (!(v8.2 == v5.2)) then ret (false : Bool) else (call (laws_toChoiceS.R x0) fun v10 => (call (laws_eqChoiceS.R (v6, v10)) fun v11 => (bif (!v11) then ret (false : Bool) else (call (laws_toStringS.R x1) fun v12 => (call (laws_eqStringS.R (v7, v12)) fun v13 => (bif (!v13) then ret (false : Bool) else (call (laws_markChoiceS.R (v6, 1)) fun v14 => (call (laws_markStringS.R (v7, v14.1)) fun v15 => (bif (decide (v15.1 < 0)) then ret (false : Bool) else (call (laws_eqEntry.R (v8.1, v5.1)) fun v16 => (bif (!v16) then ret (false : Bool) else (bif (!(v8.2 == v5.2)) then ret (false : Bool) else (call (laws_markEntry.R (v8.1, 1)) fun v17 => (call (laws_heldEntry.R ((⟨v8.1.fLabel, v8.1.fKind, v8.1.fValue, v17.2⟩ : REntry), 1)) fun v18 => (bif (decide (v18 < 0)) then ret (false : Bool) else (bif (v18 != v17.1) then ret (false : Bool) else (call (laws_toChoiceS.R x0) fun v19 => (call (laws_toStringS.R x1) fun v20 => (call (impl_Confirmed.R (v19, v20)) fun v21 => (call (laws_eqEntry.R (v21.1, v5.1)) fun v22 => (bif (!v22) then ret (false : Bool) else (bif (!(v21.2 == v5.2)) then ret (false : Bool) else (call (laws_heldEntry.R ((⟨v8.1.fLabel, v8.1.fKind, v8.1.fValue, v17.2⟩ : REntry), 1)) fun v23 => (bif (decide (v23 < 0)) then ret (false : Bool) else (bif (v23 != v17.1) then ret (false : Bool) else ret (true : Bool)))))))))))))))))))))))))))))))))))))))
def pats : List Pat := [.rd (.sl 162), .rd (.sl 9)]
def res : RP := .one (.rd (.bool))
noncomputable abbrev E : Env := { T := assoc Tab, G := conG [(34, laws_szChoiceS.con), (35, laws_szStringS.con), (37, laws_toChoiceS.con), (38, laws_toStringS.con), (36, spec_Confirmed.con), (39, impl_Confirmed.con), (40, laws_eqEntry.con), (41, laws_eqChoiceS.con), (42, laws_eqStringS.con), (46, laws_heldEntry.con)], nt := 119, M := conM [(43, laws_markChoiceS.con), (44, laws_markStringS.con), (45, laws_markEntry.con)] }
set_option maxRecDepth 100000
theorem run_eq (n : Nat) (ls : List L) : runF E (fun _ => []) Try.f7 res n (initS pats ls) = F (ls.headD .hole).toSl ((dropT 1 ls).headD .hole).toSl := by kernel_rfl
noncomputable def md (a0 : List MChoice) (a1 : List ByteArray) : Bool := true
def gd (a0 : List MChoice) (a1 : List ByteArray) : Prop := (SmL maxLen (fun y : MChoice => MChoice.Sm maxLen y) a0) ∧ (SmL maxLen (fun y : ByteArray => y.size ≤ maxLen) a1)
def acc (ls : List L) : List (List L) × List (List L) := ((ls.headD .hole).toSl, ((dropT 1 ls).headD .hole).toSl)
noncomputable def R : (List (List L) × List (List L)) → Option Bool := RR (p2 gd) (u2 md)
theorem R_eq {a0} {a1} (h : gd a0 a1) : R ((a0.map MChoice.row), (a1.map sRow)) = some (md a0 a1) := RR_eq (a := (a0, a1)) h
noncomputable def con : Con := CN pats res acc R
theorem okF (a0 : List MChoice) (a1 : List ByteArray) (hg : gd a0 a1) : F (a0.map MChoice.row) (a1.map sRow) = ret ((md a0 a1) : Bool) := by
  unfold md
  show (call (laws_szChoiceS.R ((a0.map MChoice.row), 1048576)) fun v1 => (bif (decide (v1 < 0)) then ret (true : Bool) else (call (laws_szStringS.R ((a1.map sRow), v1)) fun v2 => (bif (decide (v2 < 0)) then ret (true : Bool) else (call (laws_toChoiceS.R (a0.map MChoice.row)) fun v3 => (call (laws_toStringS.R (a1.map sRow)) fun v4 => (call (spec_Confirmed.R (v3, v4)) fun v5 => (call (laws_toChoiceS.R (a0.map MChoice.row)) fun v6 => (call (laws_toStringS.R (a1.map sRow)) fun v7 => (call (impl_Confirmed.R (v6, v7)) fun v8 => (call (laws_eqEntry.R (v8.1, v5.1)) fun v9 => (bif (!v9) then ret (false : Bool) else (bif (!(v8.2 == v5.2)) then ret (false : Bool) else (call (laws_toChoiceS.R (a0.map MChoice.row)) fun v10 => (call (laws_eqChoiceS.R (v6, v10)) fun v11 => (bif (!v11) then ret (false : Bool) else (call (laws_toStringS.R (a1.map sRow)) fun v12 => (call (laws_eqStringS.R (v7, v12)) fun v13 => (bif (!v13) then ret (false : Bool) else (call (laws_markChoiceS.R (v6, 1)) fun v14 => (call (laws_markStringS.R (v7, v14.1)) fun v15 => (bif (decide (v15.1 < 0)) then ret (false : Bool) else (call (laws_eqEntry.R (v8.1, v5.1)) fun v16 => (bif (!v16) then ret (false : Bool) else (bif (!(v8.2 == v5.2)) then ret (false : Bool) else (call (laws_markEntry.R (v8.1, 1)) fun v17 => (call (laws_heldEntry.R ((⟨v8.1.fLabel, v8.1.fKind, v8.1.fValue, v17.2⟩ : REntry), 1)) fun v18 => (bif (decide (v18 < 0)) then ret (false : Bool) else (bif (v18 != v17.1) then ret (false : Bool) else (call (laws_toChoiceS.R (a0.map MChoice.row)) fun v19 => (call (laws_toStringS.R (a1.map sRow)) fun v20 => (call (impl_Confirmed.R (v19, v20)) fun v21 => (call (laws_eqEntry.R (v21.1, v5.1)) fun v22 => (bif (!v22) then ret (false : Bool) else (bif (!(v21.2 == v5.2)) then ret (false : Bool) else (call (laws_heldEntry.R ((⟨v8.1.fLabel, v8.1.fKind, v8.1.fValue, v17.2⟩ : REntry), 1)) fun v23 => (bif (decide (v23 < 0)) then ret (false : Bool) else (bif (v23 != v17.1) then ret (false : Bool) else ret (true : Bool))))))))))))))))))))))))))))))))))))))) = _
  rw [call_eq (laws_szChoiceS.R_eq (a1 := (1048576 : Int)) ⟨hg.1, by omega, by omega⟩)]
  unfold laws_szChoiceS.md
  by_cases c0 : (1048576 : Int) < (((szL (fun y : MChoice => MChoice.size y) a0) : Nat) : Int)
  · rw [szM_neg c0]; rfl
  rw [szM_pos c0, dec_neg (by omega)]
  simp only [cond_false]
  have s0 : SmL (2 ^ 20) (fun y : MChoice => MChoice.Sm (2 ^ 20) y) a0 := (szL_sm (f := fun y : MChoice => MChoice.size y) (by omega) (fun x hx => (MChoice.Sm_of hx)))
  rw [call_eq (laws_szStringS.R_eq (a1 := (1048576 - (((szL (fun y : MChoice => MChoice.size y) a0) : Nat) : Int) : Int)) ⟨hg.2, by omega, by omega⟩)]
  unfold laws_szStringS.md
  by_cases c1 : (1048576 - (((szL (fun y : MChoice => MChoice.size y) a0) : Nat) : Int) : Int) < (((szL (fun y : ByteArray => y.size) a1) : Nat) : Int)
  · rw [szM_neg c1]; rfl
  rw [szM_pos c1, dec_neg (by omega)]
  simp only [cond_false]
  have s1 : SmL (2 ^ 20) (fun y : ByteArray => y.size ≤ (2 ^ 20)) a1 := (szL_sm (f := fun y : ByteArray => y.size) (by omega) (fun x hx => hx))
  refine call_to (a0.map MChoice.row) (laws_toChoiceS.R_eq (a0 := a0) (s0.mono (by decide) (fun x hx => (MChoice.Sm_mono (by decide) hx)))) ?_
  refine call_to (a1.map sRow) (laws_toStringS.R_eq (a0 := a1) (s1.mono (by decide) (fun x hx => (Nat.le_trans hx (by decide))))) ?_
  refine call_to ((MEntry.r (spec_Confirmed.md a0 a1).1), (spec_Confirmed.md a0 a1).2) (spec_Confirmed.R_eq (a0 := a0) (a1 := a1) (by
    have := And.intro trivial trivial
    unfold spec_Confirmed.gd
    first | exact (s0.mono (by decide) (fun x hx => (MChoice.Sm_mono (by decide) hx))) | refine ⟨(s0.mono (by decide) (fun x hx => (MChoice.Sm_mono (by decide) hx))), (s1.mono (by decide) (fun x hx => (Nat.le_trans hx (by decide))))⟩)) ?_
  refine call_to (a0.map MChoice.row) (laws_toChoiceS.R_eq (a0 := a0) (s0.mono (by decide) (fun x hx => (MChoice.Sm_mono (by decide) hx)))) ?_
  refine call_to (a1.map sRow) (laws_toStringS.R_eq (a0 := a1) (s1.mono (by decide) (fun x hx => (Nat.le_trans hx (by decide))))) ?_
  have r_ := impl_Confirmed.R_eq (a0 := a0) (a1 := a1) (by
    have := And.intro trivial trivial
    unfold impl_Confirmed.gd
    first | exact (s0.mono (by decide) (fun x hx => (MChoice.Sm_mono (by decide) hx))) | refine ⟨(s0.mono (by decide) (fun x hx => (MChoice.Sm_mono (by decide) hx))), (s1.mono (by decide) (fun x hx => (Nat.le_trans hx (by decide))))⟩)
  rw [impl_Confirmed.br] at r_
  refine call_to ((MEntry.r (spec_Confirmed.md a0 a1).1), (spec_Confirmed.md a0 a1).2) r_ ?_
  clear r_
  refine call_to _ (laws_eqEntry.R_eq (a0 := ((spec_Confirmed.md a0 a1).1)) (a1 := ((spec_Confirmed.md a0 a1).1)) trivial) ?_
  refine no_ret (by first | (simp only [bne_self_eq_false, beq_self_eq_true, ba_refl, eqB_refl, Bool.not_true, laws_eqEntry.md]; done) | (refine bne_eq_false_iff_eq.2 ?_; omega)) ?_
  refine no_ret (by first | (simp only [bne_self_eq_false, beq_self_eq_true, ba_refl, eqB_refl, Bool.not_true, laws_eqEntry.md]; done) | (refine bne_eq_false_iff_eq.2 ?_; omega)) ?_
  refine call_to (a0.map MChoice.row) (laws_toChoiceS.R_eq (a0 := a0) (s0.mono (by decide) (fun x hx => (MChoice.Sm_mono (by decide) hx)))) ?_
  refine call_to _ (laws_eqChoiceS.R_eq (a0 := a0) (a1 := a0) trivial) ?_
  refine no_ret (by first | (simp only [bne_self_eq_false, beq_self_eq_true, ba_refl, eqB_refl, Bool.not_true, laws_eqEntry.md, laws_eqChoiceS.md]; done) | (refine bne_eq_false_iff_eq.2 ?_; omega)) ?_
  refine call_to (a1.map sRow) (laws_toStringS.R_eq (a0 := a1) (s1.mono (by decide) (fun x hx => (Nat.le_trans hx (by decide))))) ?_
  refine call_to _ (laws_eqStringS.R_eq (a0 := a1) (a1 := a1) trivial) ?_
  refine no_ret (by first | (simp only [bne_self_eq_false, beq_self_eq_true, ba_refl, eqB_refl, Bool.not_true, laws_eqEntry.md, laws_eqChoiceS.md, laws_eqStringS.md]; done) | (refine bne_eq_false_iff_eq.2 ?_; omega)) ?_
  have u1 := laws_markChoiceS.sz a0
  refine call_to ((laws_markChoiceS.md a0 1).1, ((laws_markChoiceS.md a0 1).2.map MChoice.row)) (laws_markChoiceS.R_eq (a0 := a0) (a1 := 1) I64_one) ?_
  have k2 := laws_markChoiceS.kk a0 1 (by omega) (by omega)
  have u3 := laws_markStringS.sz a1
  refine call_to ((laws_markStringS.md a1 ((laws_markChoiceS.md a0 1).1)).1, ((laws_markStringS.md a1 ((laws_markChoiceS.md a0 1).1)).2.map sRow)) (laws_markStringS.R_eq (a0 := a1) (a1 := (laws_markChoiceS.md a0 1).1) (laws_markChoiceS.i64 I64_one)) ?_
  have k4 := laws_markStringS.kk a1 ((laws_markChoiceS.md a0 1).1) (by omega) (by omega)
  refine no_ret (dec_neg (by omega)) ?_
  refine call_to _ (laws_eqEntry.R_eq (a0 := ((spec_Confirmed.md a0 a1).1)) (a1 := ((spec_Confirmed.md a0 a1).1)) trivial) ?_
  refine no_ret (by first | (simp only [bne_self_eq_false, beq_self_eq_true, ba_refl, eqB_refl, Bool.not_true, laws_eqEntry.md, laws_eqChoiceS.md, laws_eqStringS.md]; done) | (refine bne_eq_false_iff_eq.2 ?_; omega)) ?_
  refine no_ret (by first | (simp only [bne_self_eq_false, beq_self_eq_true, ba_refl, eqB_refl, Bool.not_true, laws_eqEntry.md, laws_eqChoiceS.md, laws_eqStringS.md]; done) | (refine bne_eq_false_iff_eq.2 ?_; omega)) ?_
  have u5 : laws_markEntry.sum ((spec_Confirmed.md a0 a1).1) ≤ 1000000000000000000 := (by
    have hf := spec_l30Find.fa a0 a1
    unfold spec_Confirmed.md
    cases hd : decide (spec_l30Find.md a0 a1 < 0)
    · simp only [decide_eq_false_iff_not] at hd
      have h1 := laws_markEntry.sz (a0.getD (Int.toNat (spec_l30Find.md a0 a1)) MChoice.zero).fEntry
      have h2 := szL_getD (f := fun y : MChoice => MChoice.size y) (xs := a0) (i := Int.toNat (spec_l30Find.md a0 a1)) (z := MChoice.zero) (by omega)
      simp only [cond_false]
      try simp only at h2
      unfold MChoice.size at h2
      have c1 := c0
      unfold MChoice.size at c1
      omega
    · simp [laws_markEntry.sum, laws_markStringS.sum, MEntry.zero])
  refine call_to ((laws_markEntry.md ((spec_Confirmed.md a0 a1).1) 1).1, ((laws_markEntry.md ((spec_Confirmed.md a0 a1).1) 1).2.map sRow)) (laws_markEntry.R_eq (a0 := ((spec_Confirmed.md a0 a1).1)) (a1 := 1) I64_one) ?_
  have k6 := laws_markEntry.kk ((spec_Confirmed.md a0 a1).1) 1 (by omega) (by omega)
  refine call_to (laws_heldEntry.md (⟨(spec_Confirmed.md a0 a1).1.fLabel, (spec_Confirmed.md a0 a1).1.fKind, (spec_Confirmed.md a0 a1).1.fValue, (laws_markEntry.md ((spec_Confirmed.md a0 a1).1) 1).2⟩ : MEntry) 1) (laws_heldEntry.R_eq (a0 := (⟨(spec_Confirmed.md a0 a1).1.fLabel, (spec_Confirmed.md a0 a1).1.fKind, (spec_Confirmed.md a0 a1).1.fValue, (laws_markEntry.md ((spec_Confirmed.md a0 a1).1) 1).2⟩ : MEntry)) (a1 := 1) I64_one) ?_
  have h7 : (laws_heldEntry.md (⟨(spec_Confirmed.md a0 a1).1.fLabel, (spec_Confirmed.md a0 a1).1.fKind, (spec_Confirmed.md a0 a1).1.fValue, (laws_markEntry.md ((spec_Confirmed.md a0 a1).1) 1).2⟩ : MEntry) 1) = 1 + (laws_markEntry.sum ((spec_Confirmed.md a0 a1).1) : Int) := laws_heldEntry.mk ((spec_Confirmed.md a0 a1).1) 1 (by omega) (by omega)
  refine no_ret (dec_neg (by omega)) ?_
  refine no_ret (by first | (simp only [bne_self_eq_false, beq_self_eq_true, ba_refl, eqB_refl, Bool.not_true, laws_eqEntry.md, laws_eqChoiceS.md, laws_eqStringS.md]; done) | (refine bne_eq_false_iff_eq.2 ?_; omega)) ?_
  refine call_to (a0.map MChoice.row) (laws_toChoiceS.R_eq (a0 := a0) (s0.mono (by decide) (fun x hx => (MChoice.Sm_mono (by decide) hx)))) ?_
  refine call_to (a1.map sRow) (laws_toStringS.R_eq (a0 := a1) (s1.mono (by decide) (fun x hx => (Nat.le_trans hx (by decide))))) ?_
  have r_ := impl_Confirmed.R_eq (a0 := a0) (a1 := a1) (by
    have := And.intro trivial trivial
    unfold impl_Confirmed.gd
    first | exact (s0.mono (by decide) (fun x hx => (MChoice.Sm_mono (by decide) hx))) | refine ⟨(s0.mono (by decide) (fun x hx => (MChoice.Sm_mono (by decide) hx))), (s1.mono (by decide) (fun x hx => (Nat.le_trans hx (by decide))))⟩)
  rw [impl_Confirmed.br] at r_
  refine call_to ((MEntry.r (spec_Confirmed.md a0 a1).1), (spec_Confirmed.md a0 a1).2) r_ ?_
  clear r_
  refine call_to _ (laws_eqEntry.R_eq (a0 := ((spec_Confirmed.md a0 a1).1)) (a1 := ((spec_Confirmed.md a0 a1).1)) trivial) ?_
  refine no_ret (by first | (simp only [bne_self_eq_false, beq_self_eq_true, ba_refl, eqB_refl, Bool.not_true, laws_eqEntry.md, laws_eqChoiceS.md, laws_eqStringS.md]; done) | (refine bne_eq_false_iff_eq.2 ?_; omega)) ?_
  refine no_ret (by first | (simp only [bne_self_eq_false, beq_self_eq_true, ba_refl, eqB_refl, Bool.not_true, laws_eqEntry.md, laws_eqChoiceS.md, laws_eqStringS.md]; done) | (refine bne_eq_false_iff_eq.2 ?_; omega)) ?_
  refine call_to (laws_heldEntry.md (⟨(spec_Confirmed.md a0 a1).1.fLabel, (spec_Confirmed.md a0 a1).1.fKind, (spec_Confirmed.md a0 a1).1.fValue, (laws_markEntry.md ((spec_Confirmed.md a0 a1).1) 1).2⟩ : MEntry) 1) (laws_heldEntry.R_eq (a0 := (⟨(spec_Confirmed.md a0 a1).1.fLabel, (spec_Confirmed.md a0 a1).1.fKind, (spec_Confirmed.md a0 a1).1.fValue, (laws_markEntry.md ((spec_Confirmed.md a0 a1).1) 1).2⟩ : MEntry)) (a1 := 1) I64_one) ?_
  have h8 : (laws_heldEntry.md (⟨(spec_Confirmed.md a0 a1).1.fLabel, (spec_Confirmed.md a0 a1).1.fKind, (spec_Confirmed.md a0 a1).1.fValue, (laws_markEntry.md ((spec_Confirmed.md a0 a1).1) 1).2⟩ : MEntry) 1) = 1 + (laws_markEntry.sum ((spec_Confirmed.md a0 a1).1) : Int) := laws_heldEntry.mk ((spec_Confirmed.md a0 a1).1) 1 (by omega) (by omega)
  refine no_ret (dec_neg (by omega)) ?_
  refine no_ret (by first | (simp only [bne_self_eq_false, beq_self_eq_true, ba_refl, eqB_refl, Bool.not_true, laws_eqEntry.md, laws_eqChoiceS.md, laws_eqStringS.md]; done) | (refine bne_eq_false_iff_eq.2 ?_; omega)) ?_
  rfl
theorem valid_ : Valid Try.prog Ev 7 con := VS (run := fun _ x => F x.1 x.2) mix tab_ok (.cons laws_szChoiceS.valid_ (.cons laws_szStringS.valid_ (.cons laws_toChoiceS.valid_ (.cons laws_toStringS.valid_ (.cons spec_Confirmed.valid_ (.cons impl_Confirmed.valid_ (.cons laws_eqEntry.valid_ (.cons laws_eqChoiceS.valid_ (.cons laws_eqStringS.valid_ (.cons laws_heldEntry.valid_ .nil)))))))))) (.cons laws_markChoiceS.valid_ (.cons laws_markStringS.valid_ (.cons laws_markEntry.valid_ .nil))) Try.func7 (by kernel_rfl) run_eq (fun _ a _ _ hg => ⟨0, okF a.1 a.2 hg⟩)
theorem MEntry_wf38 (r : List L) (h : WfAll Ev.cells [.str, .int .i64, .int .i64, .sl 9] r) : ∃ x : MEntry, MEntry.row x = r ∧ MEntry.Sm maxLen x := by
  obtain ⟨l0, t0, rfl, g0, h1⟩ := h.uncons
  obtain ⟨x0, rfl, s0⟩ := wf_str g0
  obtain ⟨l1, t1, rfl, g1, h2⟩ := h1.uncons
  obtain ⟨x1, rfl⟩ := wf_int g1
  obtain ⟨l2, t2, rfl, g2, h3⟩ := h2.uncons
  obtain ⟨x2, rfl⟩ := wf_int g2
  obtain ⟨l3, t3, rfl, g3, h4⟩ := h3.uncons
  obtain ⟨x3, rfl, s3⟩ := wf_list (show Ev.cells 9 = [.str] from by kernel_rfl) wf_srow g3
  obtain rfl := h4.isnil
  exact ⟨⟨x0, x1, x2, x3⟩, rfl, ⟨s0, s3⟩⟩
theorem MChoice_wf162 (r : List L) (h : WfAll Ev.cells [.sl 9, .str, .int .i64, .int .i64, .sl 9] r) : ∃ x : MChoice, MChoice.row x = r ∧ MChoice.Sm maxLen x := by
  obtain ⟨l0, t0, rfl, g0, h1⟩ := h.uncons
  obtain ⟨x0, rfl, s0⟩ := wf_list (show Ev.cells 9 = [.str] from by kernel_rfl) wf_srow g0
  obtain ⟨r1, t1, rfl, g1, h2⟩ := WfAll.unapp (a := [.str, .int .i64, .int .i64, .sl 9]) (b := []) h1
  obtain ⟨x1, rfl, s1⟩ := MEntry_wf38 _ g1
  obtain rfl := h2.isnil
  exact ⟨⟨x0, x1⟩, rfl, ⟨s0, s1⟩⟩
theorem holds (ls : List L) (h : WfAll Ev.cells ([55, 36].flatMap Ev.cells) ls) : con.sem ls = some [.bool true] := by
  have hk : [55, 36].flatMap Ev.cells = [.sl 162, .sl 9] := by kernel_rfl
  rw [hk] at h
  obtain ⟨l0, t0, rfl, g0, h1⟩ := h.uncons
  obtain ⟨x0, rfl, s0⟩ := wf_list (show Ev.cells 162 = [.sl 9, .str, .int .i64, .int .i64, .sl 9] from by kernel_rfl) MChoice_wf162 g0
  obtain ⟨l1, t1, rfl, g1, h2⟩ := h1.uncons
  obtain ⟨x1, rfl, s1⟩ := wf_list (show Ev.cells 9 = [.str] from by kernel_rfl) wf_srow g1
  obtain rfl := h2.isnil
  show (R ((x0.map MChoice.row), (x1.map sRow))).map RT.enc = _
  rw [R_eq ⟨s0, s1⟩]
  rfl
end laws_FnExactConfirmed
end Go.DM
