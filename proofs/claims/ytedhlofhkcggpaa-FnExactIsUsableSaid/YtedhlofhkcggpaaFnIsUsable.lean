/- What the functions compute that the law reaches, and that the law returns true. Conditions: none. -/
import Derived.Test.YtedhlofhkcggpaaTy
import Derived.Test.YtedhlofhkcggpaaProg
import Derived.Lib.AppendZerosOnto
import Derived.Lib.Bytealg
import Derived.Laws.Externs
import Derived.Lib.Walk
import Derived.Lib.Hide
import Derived.Lib.Strings
set_option linter.all false
namespace Go.DM
open Go.Proofs
def Tab : List (Nat × TI) := [
  (2, ⟨[.int .i64], false, [], 8, false⟩),
  (3, ⟨[.int .i64], false, [], 8, false⟩),
  (4, ⟨[.bool], false, [], 1, false⟩),
  (5, ⟨[.int .u8], false, [], 1, false⟩),
  (6, ⟨[.int .u8], false, [], 1, false⟩),
  (7, ⟨[.int .i64, .int .i64, .bool, .int .u8], true, [(0, 2), (1, 3), (2, 4), (3, 6)], 24, false⟩),
  (8, ⟨[.int .i64, .int .i64, .bool, .int .u8], true, [(0, 2), (1, 3), (2, 4), (3, 6)], 24, false⟩),
  (9, ⟨[.str], false, [], 16, false⟩),
  (10, ⟨[.str], false, [], 16, false⟩),
  (11, ⟨[.str], false, [], 16, false⟩),
  (12, ⟨[.int .u64], false, [], 8, false⟩),
  (13, ⟨[.str, .int .u64], true, [(0, 9), (1, 12)], 24, false⟩),
  (14, ⟨[.str, .int .u64], true, [(0, 9), (1, 12)], 24, false⟩),
  (21, ⟨[.int .i32], false, [], 4, false⟩),
  (22, ⟨[.sl 140], false, [], 24, false⟩),
  (25, ⟨[.sl 142], false, [], 24, false⟩),
  (29, ⟨[.sl 149], false, [], 24, false⟩),
  (32, ⟨[.sl 150], false, [], 24, false⟩),
  (36, ⟨[.sl 9], false, [], 24, false⟩),
  (37, ⟨[.str, .int .i64, .int .i64, .sl 9], true, [(0, 9), (1, 3), (2, 3), (3, 36)], 56, false⟩),
  (38, ⟨[.str, .int .i64, .int .i64, .sl 9], true, [(0, 9), (1, 3), (2, 3), (3, 36)], 56, false⟩),
  (39, ⟨[.sl 38], false, [], 24, false⟩),
  (40, ⟨[.int .i64, .str, .int .i64, .int .i64, .sl 9, .sl 38], true, [(0, 3), (1, 38), (5, 39)], 88, false⟩),
  (41, ⟨[.int .i64, .str, .int .i64, .int .i64, .sl 9, .sl 38], true, [(0, 3), (1, 38), (5, 39)], 88, false⟩),
  (44, ⟨[.str, .int .i64, .int .i64, .sl 9], true, [(0, 9), (1, 3), (2, 3), (3, 36)], 56, false⟩),
  (45, ⟨[.sl 44], false, [], 24, false⟩),
  (46, ⟨[.int .i64, .str, .int .i64, .int .i64, .sl 9, .sl 44], true, [(0, 3), (1, 44), (5, 45)], 88, false⟩),
  (47, ⟨[.int .i64, .str, .int .i64, .int .i64, .sl 9, .sl 44], true, [(0, 3), (1, 44), (5, 45)], 88, false⟩),
  (55, ⟨[.sl 162], false, [], 24, false⟩),
  (60, ⟨[.sl 166], false, [], 24, false⟩),
  (74, ⟨[.sl 92], false, [], 24, false⟩),
  (75, ⟨[.sl 238], false, [], 24, false⟩),
  (76, ⟨[.sl 92, .sl 238], true, [(0, 74), (1, 75)], 48, false⟩),
  (77, ⟨[.sl 92, .sl 238], true, [(0, 74), (1, 75)], 48, false⟩),
  (79, ⟨[.sl 184], false, [], 24, false⟩),
  (82, ⟨[.sl 79], false, [], 24, false⟩),
  (83, ⟨[.sl 241], false, [], 24, false⟩),
  (84, ⟨[.sl 79, .sl 241], true, [(0, 82), (1, 83)], 48, false⟩),
  (85, ⟨[.sl 79, .sl 241], true, [(0, 82), (1, 83)], 48, false⟩),
  (92, ⟨[.sl 197], false, [], 24, false⟩),
  (94, ⟨[.sl 202], false, [], 24, false⟩),
  (100, ⟨[.sl 207], false, [], 24, false⟩),
  (102, ⟨[.sl 121], false, [], 24, false⟩),
  (104, ⟨[.sl 210], false, [], 24, false⟩),
  (117, ⟨[.sl 263], false, [], 24, false⟩),
  (118, ⟨[.sl 263], true, [(0, 117)], 24, false⟩),
  (119, ⟨[.sl 263], true, [(0, 117)], 24, false⟩),
  (121, ⟨[.sl 3], false, [], 24, false⟩),
  (122, ⟨[.int .i64, .sl 3], true, [(0, 3), (1, 121)], 32, false⟩),
  (123, ⟨[.int .i64, .sl 3], true, [(0, 3), (1, 121)], 32, false⟩),
  (124, ⟨[.int .i64, .str, .int .i64, .int .i64, .sl 9, .str, .int .i64, .int .i64, .sl 9, .int .i64, .sl 3, .int .i64, .sl 3], true, [(0, 3), (1, 44), (5, 44), (9, 123), (11, 123)], 184, false⟩),
  (125, ⟨[.int .i64, .str, .int .i64, .int .i64, .sl 9, .str, .int .i64, .int .i64, .sl 9, .int .i64, .sl 3, .int .i64, .sl 3], true, [(0, 3), (1, 44), (5, 44), (9, 123), (11, 123)], 184, false⟩),
  (126, ⟨[.sl 184, .bool, .str, .int .i64, .int .i64, .sl 9, .int .i64, .sl 3, .int .i64, .str, .int .i64, .int .i64, .sl 9, .str, .int .i64, .int .i64, .sl 9, .int .i64, .sl 3, .int .i64, .sl 3], true, [(0, 79), (1, 4), (2, 44), (6, 123), (8, 125)], 304, false⟩),
  (127, ⟨[.sl 184, .bool, .str, .int .i64, .int .i64, .sl 9, .int .i64, .sl 3, .int .i64, .str, .int .i64, .int .i64, .sl 9, .str, .int .i64, .int .i64, .sl 9, .int .i64, .sl 3, .int .i64, .sl 3], true, [(0, 79), (1, 4), (2, 44), (6, 123), (8, 125)], 304, false⟩),
  (129, ⟨[.sl 220], false, [], 24, false⟩),
  (130, ⟨[.sl 220], true, [(0, 129)], 24, false⟩),
  (131, ⟨[.sl 220], true, [(0, 129)], 24, false⟩),
  (139, ⟨[.str, .int .i64], true, [(0, 9), (1, 3)], 24, false⟩),
  (140, ⟨[.str, .int .i64], true, [(0, 9), (1, 3)], 24, true⟩),
  (142, ⟨[.str, .int .i64], true, [(0, 9), (1, 3)], 24, true⟩),
  (149, ⟨[.str, .int .i64], true, [(0, 9), (1, 3)], 24, true⟩),
  (150, ⟨[.str, .int .i64], true, [(0, 9), (1, 3)], 24, true⟩),
  (161, ⟨[.sl 9, .str, .int .i64, .int .i64, .sl 9], true, [(0, 36), (1, 38)], 80, false⟩),
  (162, ⟨[.sl 9, .str, .int .i64, .int .i64, .sl 9], true, [(0, 36), (1, 38)], 80, false⟩),
  (165, ⟨[.sl 9, .str, .int .i64, .int .i64, .sl 9], true, [(0, 36), (1, 44)], 80, false⟩),
  (166, ⟨[.sl 9, .str, .int .i64, .int .i64, .sl 9], true, [(0, 36), (1, 44)], 80, false⟩),
  (178, ⟨[.sl 3, .int .i64], true, [(0, 121), (1, 3)], 32, false⟩),
  (179, ⟨[.sl 3, .int .i64], true, [(0, 121), (1, 3)], 32, false⟩),
  (180, ⟨[.int .i64, .int .i64, .int .i64, .int .i64, .int .i64, .int .i64, .int .i64, .int .i64, .sl 3, .int .i64, .sl 3, .int .i64, .int .i64, .sl 3, .int .i64, .bool], true, [(0, 3), (1, 3), (2, 3), (3, 3), (4, 3), (5, 3), (6, 3), (7, 3), (8, 179), (10, 179), (12, 3), (13, 179), (15, 4)], 176, false⟩),
  (181, ⟨[.int .i64, .int .i64, .int .i64, .int .i64, .int .i64, .int .i64, .int .i64, .int .i64, .sl 3, .int .i64, .sl 3, .int .i64, .int .i64, .sl 3, .int .i64, .bool], true, [(0, 3), (1, 3), (2, 3), (3, 3), (4, 3), (5, 3), (6, 3), (7, 3), (8, 179), (10, 179), (12, 3), (13, 179), (15, 4)], 176, false⟩),
  (182, ⟨[.sl 248], false, [], 24, false⟩),
  (183, ⟨[.int .i64, .int .i64, .int .i64, .int .i64, .int .i64, .int .i64, .int .i64, .int .i64, .sl 3, .int .i64, .sl 3, .int .i64, .int .i64, .sl 3, .int .i64, .bool, .sl 248], true, [(0, 181), (16, 182)], 200, false⟩),
  (184, ⟨[.int .i64, .int .i64, .int .i64, .int .i64, .int .i64, .int .i64, .int .i64, .int .i64, .sl 3, .int .i64, .sl 3, .int .i64, .int .i64, .sl 3, .int .i64, .bool, .sl 248], true, [(0, 181), (16, 182)], 200, false⟩),
  (192, ⟨[.sl 3, .int .i64], true, [(0, 121), (1, 3)], 32, false⟩),
  (193, ⟨[.int .i64, .int .i64, .int .i64, .int .i64, .int .i64, .int .i64, .int .i64, .int .i64, .sl 3, .int .i64, .sl 3, .int .i64, .int .i64, .sl 3, .int .i64, .bool], true, [(0, 3), (1, 3), (2, 3), (3, 3), (4, 3), (5, 3), (6, 3), (7, 3), (8, 192), (10, 192), (12, 3), (13, 192), (15, 4)], 176, false⟩),
  (194, ⟨[.int .i64, .int .i64, .int .i64, .int .i64, .int .i64, .int .i64, .int .i64, .int .i64, .sl 3, .int .i64, .sl 3, .int .i64, .int .i64, .sl 3, .int .i64, .bool], true, [(0, 3), (1, 3), (2, 3), (3, 3), (4, 3), (5, 3), (6, 3), (7, 3), (8, 192), (10, 192), (12, 3), (13, 192), (15, 4)], 176, false⟩),
  (195, ⟨[.sl 279], false, [], 24, false⟩),
  (196, ⟨[.int .i64, .int .i64, .int .i64, .int .i64, .int .i64, .int .i64, .int .i64, .int .i64, .sl 3, .int .i64, .sl 3, .int .i64, .int .i64, .sl 3, .int .i64, .bool, .sl 279], true, [(0, 194), (16, 195)], 200, false⟩),
  (197, ⟨[.int .i64, .int .i64, .int .i64, .int .i64, .int .i64, .int .i64, .int .i64, .int .i64, .sl 3, .int .i64, .sl 3, .int .i64, .int .i64, .sl 3, .int .i64, .bool, .sl 279], true, [(0, 194), (16, 195)], 200, false⟩),
  (201, ⟨[.int .i64, .sl 3, .int .i64, .int .i64], true, [(0, 3), (1, 179), (3, 3)], 48, false⟩),
  (202, ⟨[.int .i64, .sl 3, .int .i64, .int .i64], true, [(0, 3), (1, 179), (3, 3)], 48, false⟩),
  (206, ⟨[.sl 92, .sl 238, .int .i64, .str, .int .i64, .int .i64, .sl 9, .sl 3, .int .i64], true, [(0, 77), (2, 3), (3, 38), (7, 121), (8, 3)], 144, false⟩),
  (207, ⟨[.sl 92, .sl 238, .int .i64, .str, .int .i64, .int .i64, .sl 9, .sl 3, .int .i64], true, [(0, 77), (2, 3), (3, 38), (7, 121), (8, 3)], 144, false⟩),
  (209, ⟨[.sl 79, .sl 241, .int .i64, .str, .int .i64, .int .i64, .sl 9, .sl 3, .int .i64], true, [(0, 85), (2, 3), (3, 44), (7, 121), (8, 3)], 144, false⟩),
  (210, ⟨[.sl 79, .sl 241, .int .i64, .str, .int .i64, .int .i64, .sl 9, .sl 3, .int .i64], true, [(0, 85), (2, 3), (3, 44), (7, 121), (8, 3)], 144, false⟩),
  (219, ⟨[.int .i64, .str, .sl 184, .bool, .str, .int .i64, .int .i64, .sl 9, .int .i64, .sl 3, .int .i64, .str, .int .i64, .int .i64, .sl 9, .str, .int .i64, .int .i64, .sl 9, .int .i64, .sl 3, .int .i64, .sl 3], true, [(0, 3), (1, 9), (2, 127)], 328, false⟩),
  (220, ⟨[.int .i64, .str, .sl 184, .bool, .str, .int .i64, .int .i64, .sl 9, .int .i64, .sl 3, .int .i64, .str, .int .i64, .int .i64, .sl 9, .str, .int .i64, .int .i64, .sl 9, .int .i64, .sl 3, .int .i64, .sl 3], true, [(0, 3), (1, 9), (2, 127)], 328, false⟩),
  (231, ⟨[.sl 5], false, [], 24, false⟩),
  (237, ⟨[.int .i64, .int .i64, .int .i64, .int .i64, .int .i64, .int .i64, .int .i64, .int .i64, .sl 3, .int .i64, .sl 3, .int .i64, .int .i64, .sl 3, .int .i64, .bool, .sl 279, .int .i64, .int .i64, .int .i64, .int .i64, .int .i64, .int .i64, .int .i64, .int .i64, .sl 3, .int .i64, .sl 3, .int .i64, .int .i64, .sl 3, .int .i64, .bool, .sl 279, .int .i64, .int .i64, .int .i64, .int .i64, .int .i64, .int .i64, .int .i64, .int .i64, .sl 3, .int .i64, .sl 3, .int .i64, .int .i64, .sl 3, .int .i64, .bool, .sl 279], true, [(0, 197), (17, 197), (34, 197)], 600, false⟩),
  (238, ⟨[.int .i64, .int .i64, .int .i64, .int .i64, .int .i64, .int .i64, .int .i64, .int .i64, .sl 3, .int .i64, .sl 3, .int .i64, .int .i64, .sl 3, .int .i64, .bool, .sl 279, .int .i64, .int .i64, .int .i64, .int .i64, .int .i64, .int .i64, .int .i64, .int .i64, .sl 3, .int .i64, .sl 3, .int .i64, .int .i64, .sl 3, .int .i64, .bool, .sl 279, .int .i64, .int .i64, .int .i64, .int .i64, .int .i64, .int .i64, .int .i64, .int .i64, .sl 3, .int .i64, .sl 3, .int .i64, .int .i64, .sl 3, .int .i64, .bool, .sl 279], true, [(0, 197), (17, 197), (34, 197)], 600, false⟩),
  (240, ⟨[.int .i64, .int .i64, .int .i64, .int .i64, .int .i64, .int .i64, .int .i64, .int .i64, .sl 3, .int .i64, .sl 3, .int .i64, .int .i64, .sl 3, .int .i64, .bool, .sl 248, .int .i64, .int .i64, .int .i64, .int .i64, .int .i64, .int .i64, .int .i64, .int .i64, .sl 3, .int .i64, .sl 3, .int .i64, .int .i64, .sl 3, .int .i64, .bool, .sl 248, .int .i64, .int .i64, .int .i64, .int .i64, .int .i64, .int .i64, .int .i64, .int .i64, .sl 3, .int .i64, .sl 3, .int .i64, .int .i64, .sl 3, .int .i64, .bool, .sl 248], true, [(0, 184), (17, 184), (34, 184)], 600, false⟩),
  (241, ⟨[.int .i64, .int .i64, .int .i64, .int .i64, .int .i64, .int .i64, .int .i64, .int .i64, .sl 3, .int .i64, .sl 3, .int .i64, .int .i64, .sl 3, .int .i64, .bool, .sl 248, .int .i64, .int .i64, .int .i64, .int .i64, .int .i64, .int .i64, .int .i64, .int .i64, .sl 3, .int .i64, .sl 3, .int .i64, .int .i64, .sl 3, .int .i64, .bool, .sl 248, .int .i64, .int .i64, .int .i64, .int .i64, .int .i64, .int .i64, .int .i64, .int .i64, .sl 3, .int .i64, .sl 3, .int .i64, .int .i64, .sl 3, .int .i64, .bool, .sl 248], true, [(0, 184), (17, 184), (34, 184)], 600, false⟩),
  (247, ⟨[.int .i64, .int .i64], true, [(0, 3), (1, 3)], 16, false⟩),
  (248, ⟨[.int .i64, .int .i64], true, [(0, 3), (1, 3)], 16, true⟩),
  (257, ⟨[.int .i64, .sl 3], true, [(0, 3), (1, 121)], 32, false⟩),
  (258, ⟨[.int .i64, .str, .int .i64, .int .i64, .sl 9, .str, .int .i64, .int .i64, .sl 9, .int .i64, .sl 3, .int .i64, .sl 3], true, [(0, 3), (1, 38), (5, 38), (9, 257), (11, 257)], 184, false⟩),
  (259, ⟨[.int .i64, .str, .int .i64, .int .i64, .sl 9, .str, .int .i64, .int .i64, .sl 9, .int .i64, .sl 3, .int .i64, .sl 3], true, [(0, 3), (1, 38), (5, 38), (9, 257), (11, 257)], 184, false⟩),
  (260, ⟨[.sl 197, .bool, .str, .int .i64, .int .i64, .sl 9, .int .i64, .sl 3, .int .i64, .str, .int .i64, .int .i64, .sl 9, .str, .int .i64, .int .i64, .sl 9, .int .i64, .sl 3, .int .i64, .sl 3], true, [(0, 92), (1, 4), (2, 38), (6, 257), (8, 259)], 304, false⟩),
  (261, ⟨[.sl 197, .bool, .str, .int .i64, .int .i64, .sl 9, .int .i64, .sl 3, .int .i64, .str, .int .i64, .int .i64, .sl 9, .str, .int .i64, .int .i64, .sl 9, .int .i64, .sl 3, .int .i64, .sl 3], true, [(0, 92), (1, 4), (2, 38), (6, 257), (8, 259)], 304, false⟩),
  (262, ⟨[.int .i64, .str, .sl 197, .bool, .str, .int .i64, .int .i64, .sl 9, .int .i64, .sl 3, .int .i64, .str, .int .i64, .int .i64, .sl 9, .str, .int .i64, .int .i64, .sl 9, .int .i64, .sl 3, .int .i64, .sl 3], true, [(0, 3), (1, 9), (2, 261)], 328, false⟩),
  (263, ⟨[.int .i64, .str, .sl 197, .bool, .str, .int .i64, .int .i64, .sl 9, .int .i64, .sl 3, .int .i64, .str, .int .i64, .int .i64, .sl 9, .str, .int .i64, .int .i64, .sl 9, .int .i64, .sl 3, .int .i64, .sl 3], true, [(0, 3), (1, 9), (2, 261)], 328, false⟩),
  (279, ⟨[.int .i64, .int .i64], true, [(0, 3), (1, 3)], 16, true⟩),
  (316, ⟨[.int .u32], false, [], 4, false⟩),
  (317, ⟨[.int .u8], false, [], 1, false⟩),
  (318, ⟨[.int .u8], false, [], 1, false⟩),
  (321, ⟨[.int .i32], false, [], 4, false⟩),
  (322, ⟨[.int .i32], false, [], 4, false⟩)]
noncomputable abbrev Ev : Env := Env0 Tab
theorem tab_ok : tableB Try.prog Tab = true := by kernel_rfl
theorem mix : Try.prog.follows .mixedOrders = true := by kernel_rfl
/-! laws.szStringS -/
namespace laws_szStringS
inductive Pt where
  | p0 (a : List (List L)) (b : Int) (c : Int)
def pid : Pt → Nat
  | .p0 .. => 5
def pvs : Pt → List V
  | .p0 a b c => [.sl none 9 a, .int .i64 b, .int .i64 c]
def phs : Pt → List Root
  | .p0 a b c => []
noncomputable def step (J : Pt → Ans) : Pt → Ans
  | .p0 a b c => (bif (decide (c < (a.length : Int))) then (bif (decide ((0 : Int) ≤ c)) then (bif (decide (c < (a.length : Int))) then (bif (decide ((IntKind.i64.wrap (b - ((sAt a (Int.toNat c)).size : Int))) < 0)) then ret ((-1) : Int) else J (.p0 a (IntKind.i64.wrap (b - ((sAt a (Int.toNat c)).size : Int))) (IntKind.i64.wrap (c + 1)))) else none) else none) else ret (b : Int))
noncomputable def start (J : Pt → Ans) (x0 : List (List L)) (x1 : Int) : Ans := (bif (decide ((IntKind.i64.wrap (x1 - (x0.length : Int))) < 0)) then ret ((-1) : Int) else J (.p0 x0 (IntKind.i64.wrap (x1 - (x0.length : Int))) 0))
def live : Nat → Live := fun i => match i with | 5 => [(0, none), (1, none), (5, none)] | _ => []
def pats : List Pat := [.rd (.sl 9), .rd (.int .i64)]
def res : RP := .one (.rd (.int .i64))
noncomputable abbrev E : Env := { T := assoc Tab, G := conG [], nt := 28 }
set_option maxRecDepth 100000
theorem step_eq (I : Heads) (p : Pt) : enterC E live I (pid p) (bodyOf Try.f35) (stOf (live (pid p)) (pvs p) (phs p)) (doneK E Try.f35 res) = step (fun q => I (pid q) (pvs q) (phs q)) p := by
  cases p <;> kernel_rfl
theorem start_eq (I : Heads) (ls : List L) : runC E live I (bodyOf Try.f35) (initS pats ls) (doneK E Try.f35 res) = start (fun q => I (pid q) (pvs q) (phs q)) (ls.headD .hole).toSl ((dropT 1 ls).headD .hole).toInt := by kernel_rfl
theorem run_eq (n : Nat) (ls : List L) : runF E live Try.f35 res n (initS pats ls) = start (iter step n) (ls.headD .hole).toSl ((dropT 1 ls).headD .hole).toInt := runF_iter (id := pid) (vs := pvs) (hs := phs) (step := step) (start := fun J => start J (ls.headD .hole).toSl ((dropT 1 ls).headD .hole).toInt) step_eq (fun I => start_eq I ls) n
noncomputable def md (a0 : List ByteArray) (a1 : Int) : Int := szM (szL (fun y : ByteArray => y.size) a0) a1
def gd (a0 : List ByteArray) (a1 : Int) : Prop := (SmL maxLen (fun y : ByteArray => y.size ≤ maxLen) a0) ∧ 0 ≤ a1 ∧ a1 ≤ 1048576
def acc (ls : List L) : List (List L) × Int := ((ls.headD .hole).toSl, ((dropT 1 ls).headD .hole).toInt)
noncomputable def R : (List (List L) × Int) → Option Int := RR (p2 gd) (u2 md)
theorem R_eq {a0} {a1} (h : gd a0 a1) : R ((a0.map sRow), a1) = some (md a0 a1) := RR_eq (a := (a0, a1)) h
noncomputable def con : Con := CN pats res acc R
theorem okF (a0 : List ByteArray) (a1 : Int) (hg : gd a0 a1) : ∃ n, start (iter step n) (a0.map sRow) a1 = ret ((md a0 a1) : Int) := by
  obtain ⟨hs, g0, g1⟩ := hg
  unfold start md
  simp only [List.length_map]
  refine sz_list (pt := fun left i => Pt.p0 (a0.map sRow) left (i : Int)) (f := fun y : ByteArray => y.size) hs.1 (fun J i h left p0 p1 => ?_) (fun J left => ?_) g0 g1
  · simp only [step, List.length_map, lt_dec h, zle_dec, cond_true, toNat_nat, sAt_row h]
    rw [sz_wrap p0 p1 (hs.get h), wrap_succ h hs.1]
    by_cases hc : left - ((a0[i].size : Nat) : Int) < 0
    · rw [decide_eq_true hc, if_pos (by omega)]; rfl
    · rw [decide_eq_false hc, if_neg (by omega)]; rfl
  · simp only [step, List.length_map, nlt_dec, cond_false]
theorem valid_ : Valid Try.prog Ev 35 con := VV (run := fun n x => start (iter step n) x.1 x.2) mix tab_ok .nil Try.func35 (by kernel_rfl) run_eq (fun _ a _ _ hg => okF a.1 a.2 hg)
end laws_szStringS
/-! laws.szEntry -/
namespace laws_szEntry
noncomputable def F (x0 : REntry) (x1 : Int) : Ans := (bif (decide ((IntKind.i64.wrap (x1 - (x0.fLabel.size : Int))) < 0)) then ret ((-1) : Int) else (call (laws_szStringS.R (x0.fPath, (IntKind.i64.wrap (x1 - (x0.fLabel.size : Int))))) fun v1 => (bif (decide (v1 < 0)) then ret ((-1) : Int) else ret (v1 : Int))))
def pats : List Pat := [.agg [.str, .int .i64, .int .i64, .sl 9], .rd (.int .i64)]
def res : RP := .one (.rd (.int .i64))
noncomputable abbrev E : Env := { T := assoc Tab, G := conG [(35, laws_szStringS.con)], nt := 19 }
set_option maxRecDepth 100000
theorem run_eq (n : Nat) (ls : List L) : runF E (fun _ => []) Try.f47 res n (initS pats ls) = F (REntry.dec ls) ((dropT 4 ls).headD .hole).toInt := by kernel_rfl
noncomputable def md (a0 : MEntry) (a1 : Int) : Int := szM (MEntry.size a0) a1
def gd (a0 : MEntry) (a1 : Int) : Prop := (MEntry.Sm maxLen a0) ∧ 0 ≤ a1 ∧ a1 ≤ 1048576
def acc (ls : List L) : REntry × Int := ((REntry.dec ls), ((dropT 4 ls).headD .hole).toInt)
noncomputable def R : (REntry × Int) → Option Int := RR (p2 gd) (u2 md)
theorem R_eq {a0} {a1} (h : gd a0 a1) : R ((MEntry.r a0), a1) = some (md a0 a1) := RR_eq (a := (a0, a1)) h
noncomputable def con : Con := CN pats res acc R
theorem okF (a0 : MEntry) (a1 : Int) (hg : gd a0 a1) : F (MEntry.r a0) a1 = ret ((md a0 a1) : Int) := by
  obtain ⟨hs, g0, g1⟩ := hg
  unfold md
  show (bif (decide ((IntKind.i64.wrap (a1 - (a0.fLabel.size : Int))) < 0)) then ret ((-1) : Int) else (call (laws_szStringS.R ((a0.fPath.map sRow), (IntKind.i64.wrap (a1 - (a0.fLabel.size : Int))))) fun v1 => (bif (decide (v1 < 0)) then ret ((-1) : Int) else ret (v1 : Int)))) = _
  rw [sz_wrap (left := a1) (s := a0.fLabel.size) (by omega) (by omega) hs.1]
  by_cases c0 : a1 - ((a0.fLabel.size : Nat) : Int) < 0
  · rw [decide_eq_true c0, cond_true]; rw [show szM (MEntry.size a0) a1 = -1 from szM_neg (by unfold MEntry.size; omega)]; try rfl
  rw [decide_eq_false c0, cond_false]
  rw [call_eq (laws_szStringS.R_eq (a1 := (a1 - ((a0.fLabel.size : Nat) : Int))) ⟨hs.2, by omega, by omega⟩)]
  unfold laws_szStringS.md
  by_cases c1 : (a1 - ((a0.fLabel.size : Nat) : Int)) < ((szL (fun y : ByteArray => y.size) a0.fPath : Nat) : Int)
  · rw [szM_neg c1]; rw [show szM (MEntry.size a0) a1 = -1 from szM_neg (by unfold MEntry.size; omega)]; try rfl
  rw [szM_pos c1, dec_neg (by omega), cond_false]
  rw [show szM (MEntry.size a0) a1 = a1 - ((a0.fLabel.size : Nat) : Int) - ((szL (fun y : ByteArray => y.size) a0.fPath : Nat) : Int) from by rw [szM_pos (by unfold MEntry.size; omega)]; unfold MEntry.size; omega]
theorem valid_ : Valid Try.prog Ev 47 con := VV (run := fun _ x => F x.1 x.2) mix tab_ok (.cons laws_szStringS.valid_ .nil) Try.func47 (by kernel_rfl) run_eq (fun _ a _ _ hg => ⟨0, okF a.1 a.2 hg⟩)
end laws_szEntry
/-! laws.szEntryS -/
namespace laws_szEntryS
inductive Pt where
  | p0 (a : List (List L)) (b : Int) (c : Int)
def pid : Pt → Nat
  | .p0 .. => 5
def pvs : Pt → List V
  | .p0 a b c => [.sl none 38 a, .int .i64 b, .int .i64 c]
def phs : Pt → List Root
  | .p0 a b c => []
noncomputable def step (J : Pt → Ans) : Pt → Ans
  | .p0 a b c => (bif (decide (c < (a.length : Int))) then (bif (decide ((0 : Int) ≤ c)) then (bif (decide (c < (a.length : Int))) then (call (laws_szEntry.R ((REntry.at a (Int.toNat c)), b)) fun v1 => (bif (decide (v1 < 0)) then ret ((-1) : Int) else J (.p0 a v1 (IntKind.i64.wrap (c + 1))))) else none) else none) else ret (b : Int))
noncomputable def start (J : Pt → Ans) (x0 : List (List L)) (x1 : Int) : Ans := (bif (decide ((IntKind.i64.wrap (x1 - (x0.length : Int))) < 0)) then ret ((-1) : Int) else J (.p0 x0 (IntKind.i64.wrap (x1 - (x0.length : Int))) 0))
def live : Nat → Live := fun i => match i with | 5 => [(0, none), (1, none), (5, none)] | _ => []
def pats : List Pat := [.rd (.sl 38), .rd (.int .i64)]
def res : RP := .one (.rd (.int .i64))
noncomputable abbrev E : Env := { T := assoc Tab, G := conG [(47, laws_szEntry.con)], nt := 27 }
set_option maxRecDepth 100000
theorem step_eq (I : Heads) (p : Pt) : enterC E live I (pid p) (bodyOf Try.f107) (stOf (live (pid p)) (pvs p) (phs p)) (doneK E Try.f107 res) = step (fun q => I (pid q) (pvs q) (phs q)) p := by
  cases p <;> kernel_rfl
theorem start_eq (I : Heads) (ls : List L) : runC E live I (bodyOf Try.f107) (initS pats ls) (doneK E Try.f107 res) = start (fun q => I (pid q) (pvs q) (phs q)) (ls.headD .hole).toSl ((dropT 1 ls).headD .hole).toInt := by kernel_rfl
theorem run_eq (n : Nat) (ls : List L) : runF E live Try.f107 res n (initS pats ls) = start (iter step n) (ls.headD .hole).toSl ((dropT 1 ls).headD .hole).toInt := runF_iter (id := pid) (vs := pvs) (hs := phs) (step := step) (start := fun J => start J (ls.headD .hole).toSl ((dropT 1 ls).headD .hole).toInt) step_eq (fun I => start_eq I ls) n
noncomputable def md (a0 : List MEntry) (a1 : Int) : Int := szM (szL (fun y : MEntry => MEntry.size y) a0) a1
def gd (a0 : List MEntry) (a1 : Int) : Prop := (SmL maxLen (fun y : MEntry => MEntry.Sm maxLen y) a0) ∧ 0 ≤ a1 ∧ a1 ≤ 1048576
def acc (ls : List L) : List (List L) × Int := ((ls.headD .hole).toSl, ((dropT 1 ls).headD .hole).toInt)
noncomputable def R : (List (List L) × Int) → Option Int := RR (p2 gd) (u2 md)
theorem R_eq {a0} {a1} (h : gd a0 a1) : R ((a0.map MEntry.row), a1) = some (md a0 a1) := RR_eq (a := (a0, a1)) h
noncomputable def con : Con := CN pats res acc R
theorem okF (a0 : List MEntry) (a1 : Int) (hg : gd a0 a1) : ∃ n, start (iter step n) (a0.map MEntry.row) a1 = ret ((md a0 a1) : Int) := by
  obtain ⟨hs, g0, g1⟩ := hg
  unfold start md
  simp only [List.length_map]
  refine sz_list (pt := fun left i => Pt.p0 (a0.map MEntry.row) left (i : Int)) (f := fun y : MEntry => MEntry.size y) hs.1 (fun J i h left p0 p1 => ?_) (fun J left => ?_) g0 g1
  · simp only [step, List.length_map, lt_dec h, zle_dec, cond_true, toNat_nat, MEntry.at_row h]
    rw [call_eq (laws_szEntry.R_eq ⟨hs.get h, p0, p1⟩), wrap_succ h hs.1]
    unfold laws_szEntry.md
    by_cases hc : left < ((MEntry.size (a0[i]) : Nat) : Int)
    · rw [szM_neg hc, if_pos hc]; rfl
    · rw [szM_pos hc, if_neg hc, dec_neg (by omega)]; rfl
  · simp only [step, List.length_map, nlt_dec, cond_false]
theorem valid_ : Valid Try.prog Ev 107 con := VV (run := fun n x => start (iter step n) x.1 x.2) mix tab_ok (.cons laws_szEntry.valid_ .nil) Try.func107 (by kernel_rfl) run_eq (fun _ a _ _ hg => okF a.1 a.2 hg)
end laws_szEntryS
/-! laws.szDecision -/
namespace laws_szDecision
noncomputable def F (x0 : RDecision) (x1 : Int) : Ans := (call (laws_szEntry.R (x0.fEntry, x1)) fun v1 => (bif (decide (v1 < 0)) then ret ((-1) : Int) else (call (laws_szEntryS.R (x0.fOthers, v1)) fun v2 => (bif (decide (v2 < 0)) then ret ((-1) : Int) else ret (v2 : Int)))))
def pats : List Pat := [.agg [.int .i64, .str, .int .i64, .int .i64, .sl 9, .sl 38], .rd (.int .i64)]
def res : RP := .one (.rd (.int .i64))
noncomputable abbrev E : Env := { T := assoc Tab, G := conG [(47, laws_szEntry.con), (107, laws_szEntryS.con)], nt := 18 }
set_option maxRecDepth 100000
theorem run_eq (n : Nat) (ls : List L) : runF E (fun _ => []) Try.f25 res n (initS pats ls) = F (RDecision.dec ls) ((dropT 6 ls).headD .hole).toInt := by kernel_rfl
noncomputable def md (a0 : MDecision) (a1 : Int) : Int := szM (MDecision.size a0) a1
def gd (a0 : MDecision) (a1 : Int) : Prop := (MDecision.Sm maxLen a0) ∧ 0 ≤ a1 ∧ a1 ≤ 1048576
def acc (ls : List L) : RDecision × Int := ((RDecision.dec ls), ((dropT 6 ls).headD .hole).toInt)
noncomputable def R : (RDecision × Int) → Option Int := RR (p2 gd) (u2 md)
theorem R_eq {a0} {a1} (h : gd a0 a1) : R ((MDecision.r a0), a1) = some (md a0 a1) := RR_eq (a := (a0, a1)) h
noncomputable def con : Con := CN pats res acc R
theorem okF (a0 : MDecision) (a1 : Int) (hg : gd a0 a1) : F (MDecision.r a0) a1 = ret ((md a0 a1) : Int) := by
  obtain ⟨hs, g0, g1⟩ := hg
  unfold md
  show (call (laws_szEntry.R ((MEntry.r a0.fEntry), a1)) fun v1 => (bif (decide (v1 < 0)) then ret ((-1) : Int) else (call (laws_szEntryS.R ((a0.fOthers.map MEntry.row), v1)) fun v2 => (bif (decide (v2 < 0)) then ret ((-1) : Int) else ret (v2 : Int))))) = _
  rw [call_eq (laws_szEntry.R_eq (a1 := a1) ⟨hs.1, by omega, by omega⟩)]
  unfold laws_szEntry.md
  by_cases c0 : a1 < ((MEntry.size a0.fEntry : Nat) : Int)
  · rw [szM_neg c0]; rw [show szM (MDecision.size a0) a1 = -1 from szM_neg (by unfold MDecision.size; omega)]; try rfl
  rw [szM_pos c0, dec_neg (by omega), cond_false]
  rw [call_eq (laws_szEntryS.R_eq (a1 := (a1 - ((MEntry.size a0.fEntry : Nat) : Int))) ⟨hs.2, by omega, by omega⟩)]
  unfold laws_szEntryS.md
  by_cases c1 : (a1 - ((MEntry.size a0.fEntry : Nat) : Int)) < ((szL (fun y : MEntry => MEntry.size y) a0.fOthers : Nat) : Int)
  · rw [szM_neg c1]; rw [show szM (MDecision.size a0) a1 = -1 from szM_neg (by unfold MDecision.size; omega)]; try rfl
  rw [szM_pos c1, dec_neg (by omega), cond_false]
  rw [show szM (MDecision.size a0) a1 = a1 - ((MEntry.size a0.fEntry : Nat) : Int) - ((szL (fun y : MEntry => MEntry.size y) a0.fOthers : Nat) : Int) from by rw [szM_pos (by unfold MDecision.size; omega)]; unfold MDecision.size; omega]
theorem valid_ : Valid Try.prog Ev 25 con := VV (run := fun _ x => F x.1 x.2) mix tab_ok (.cons laws_szEntry.valid_ (.cons laws_szEntryS.valid_ .nil)) Try.func25 (by kernel_rfl) run_eq (fun _ a _ _ hg => ⟨0, okF a.1 a.2 hg⟩)
end laws_szDecision
/-! laws.toStringS -/
namespace laws_toStringS
inductive Pt where
  | p0 (a : List (List L)) (b : Int) (c : List (List L))
def pid : Pt → Nat
  | .p0 .. => 3
def pvs : Pt → List V
  | .p0 a b c => [.sl none 9 a, .own 0, .int .i64 b]
def phs : Pt → List Root
  | .p0 a b c => [.row 9 c]
noncomputable def step (J : Pt → Ans) : Pt → Ans
  | .p0 a b c => (bif (decide (b < (a.length : Int))) then (bif (decide ((0 : Int) ≤ b)) then (bif (decide (b < (a.length : Int))) then (bif (decide ((0 : Int) ≤ b)) then (bif (decide (b < (c.length : Int))) then J (.p0 a (IntKind.i64.wrap (b + 1)) (List.set c (Int.toNat b) [L.str (sAt a (Int.toNat b))])) else none) else none) else none) else none) else ret (c : List (List L)))
noncomputable def start (J : Pt → Ans) (x0 : List (List L)) : Ans := (bif (decide ((0 : Int) ≤ (x0.length : Int))) then (bif (decide ((x0.length : Int) ≤ (x0.length : Int))) then (bif (decide ((x0.length : Int) * 16 ≤ 140737488355328)) then J (.p0 x0 0 (List.replicate (Int.toNat (x0.length : Int)) [L.str ⟨#[]⟩])) else none) else none) else none)
def live : Nat → Live := fun i => match i with | 3 => [(0, none), (3, none), (4, none)] | _ => []
def pats : List Pat := [.rd (.sl 9)]
def res : RP := .one (.fr 9)
noncomputable abbrev E : Env := { T := assoc Tab, G := conG [], nt := 22 }
set_option maxRecDepth 100000
theorem step_eq (I : Heads) (p : Pt) : enterC E live I (pid p) (bodyOf Try.f38) (stOf (live (pid p)) (pvs p) (phs p)) (doneK E Try.f38 res) = step (fun q => I (pid q) (pvs q) (phs q)) p := by
  cases p <;> kernel_rfl
theorem start_eq (I : Heads) (ls : List L) : runC E live I (bodyOf Try.f38) (initS pats ls) (doneK E Try.f38 res) = start (fun q => I (pid q) (pvs q) (phs q)) (ls.headD .hole).toSl := by kernel_rfl
theorem run_eq (n : Nat) (ls : List L) : runF E live Try.f38 res n (initS pats ls) = start (iter step n) (ls.headD .hole).toSl := runF_iter (id := pid) (vs := pvs) (hs := phs) (step := step) (start := fun J => start J (ls.headD .hole).toSl) step_eq (fun I => start_eq I ls) n
noncomputable def md (a0 : List ByteArray) : List ByteArray := a0
def gd (a0 : List ByteArray) : Prop := SmL (2 ^ 36) (fun y : ByteArray => y.size ≤ (2 ^ 36)) a0
def acc (ls : List L) : List (List L) := (ls.headD .hole).toSl
noncomputable def R : (List (List L)) → Option (List (List L)) := RR gd md
theorem R_eq {a0} (h : gd a0) : R (a0.map sRow) = some ((md a0).map sRow) := RR_eq (a := a0) h
noncomputable def con : Con := CN pats res acc R
theorem okF (a0 : List ByteArray) (hg : gd a0) : ∃ n, start (iter step n) (a0.map sRow) = ret (((md a0).map sRow) : List (List L)) := by
  unfold start md
  simp only [List.length_map]
  refine to_list (b := 16) (pt := fun i c => Pt.p0 (a0.map sRow) (i : Int) c) (by have := hg.1; simp at this; omega) (fun J i h c hc => ?_) (fun J c => ?_)
  · simp only [step, List.length_map, lt_dec h, zle_dec, cond_true, toNat_nat, sAt_row h, hc]
    rw [wrap_succ (n := a0.length) h (by have := hg.1; simp only [maxLen]; simp at this; omega)]
    rfl
  · simp only [step, List.length_map, nlt_dec, cond_false]
theorem valid_ : Valid Try.prog Ev 38 con := VV (run := fun n x => start (iter step n) x) mix tab_ok .nil Try.func38 (by kernel_rfl) run_eq (fun _ a _ _ hg => okF a hg)
end laws_toStringS
/-! laws.toEntry -/
namespace laws_toEntry
noncomputable def F (x0 : REntry) : Ans := (call (laws_toStringS.R x0.fPath) fun v1 => ret ((⟨x0.fLabel, x0.fKind, x0.fValue, v1⟩ : REntry) : REntry))
def pats : List Pat := [.agg [.str, .int .i64, .int .i64, .sl 9]]
def res : RP := .agg [.rd (.str), .rd (.int .i64), .rd (.int .i64), .fr 9]
noncomputable abbrev E : Env := { T := assoc Tab, G := conG [(38, laws_toStringS.con)], nt := 18 }
set_option maxRecDepth 100000
theorem run_eq (n : Nat) (ls : List L) : runF E (fun _ => []) Try.f49 res n (initS pats ls) = F (REntry.dec ls) := by kernel_rfl
noncomputable def md (a0 : MEntry) : MEntry := a0
def gd (a0 : MEntry) : Prop := MEntry.Sm (2 ^ 36) a0
def acc (ls : List L) : REntry := (REntry.dec ls)
noncomputable def R : REntry → Option REntry := RR gd md
theorem R_eq {a0} (h : gd a0) : R (MEntry.r a0) = some (MEntry.r (md a0)) := RR_eq (a := a0) h
noncomputable def con : Con := CN pats res acc R
theorem okF (a0 : MEntry) (hg : gd a0) : F (MEntry.r a0) = ret ((MEntry.r (md a0)) : REntry) := by
  unfold md
  show (call (laws_toStringS.R (a0.fPath.map sRow)) fun v1 => ret ((⟨a0.fLabel, a0.fKind, a0.fValue, v1⟩ : REntry) : REntry)) = _
  rw [call_eq (laws_toStringS.R_eq hg.2)]
  rfl
theorem valid_ : Valid Try.prog Ev 49 con := VV (run := fun _ x => F x) mix tab_ok (.cons laws_toStringS.valid_ .nil) Try.func49 (by kernel_rfl) run_eq (fun _ a _ _ hg => ⟨0, okF a hg⟩)
end laws_toEntry
/-! laws.toEntryS -/
namespace laws_toEntryS
inductive Pt where
  | p0 (a : List (List L)) (b : Int) (c : List (List L))
def pid : Pt → Nat
  | .p0 .. => 3
def pvs : Pt → List V
  | .p0 a b c => [.sl none 38 a, .own 0, .int .i64 b]
def phs : Pt → List Root
  | .p0 a b c => [.row 44 c]
noncomputable def step (J : Pt → Ans) : Pt → Ans
  | .p0 a b c => (bif (decide (b < (a.length : Int))) then (bif (decide ((0 : Int) ≤ b)) then (bif (decide (b < (a.length : Int))) then (call (laws_toEntry.R (REntry.at a (Int.toNat b))) fun v1 => (bif (decide ((0 : Int) ≤ b)) then (bif (decide (b < (c.length : Int))) then J (.p0 a (IntKind.i64.wrap (b + 1)) (List.set c (Int.toNat b) (REntry.enc v1))) else none) else none)) else none) else none) else ret (c : List (List L)))
noncomputable def start (J : Pt → Ans) (x0 : List (List L)) : Ans := (bif (decide ((0 : Int) ≤ (x0.length : Int))) then (bif (decide ((x0.length : Int) ≤ (x0.length : Int))) then (bif (decide ((x0.length : Int) * 56 ≤ 140737488355328)) then J (.p0 x0 0 (List.replicate (Int.toNat (x0.length : Int)) [L.str ⟨#[]⟩, L.int 0, L.int 0, L.sl []])) else none) else none) else none)
def live : Nat → Live := fun i => match i with | 3 => [(0, none), (3, none), (4, none)] | _ => []
def pats : List Pat := [.rd (.sl 38)]
def res : RP := .one (.fr 44)
noncomputable abbrev E : Env := { T := assoc Tab, G := conG [(49, laws_toEntry.con)], nt := 23 }
set_option maxRecDepth 100000
theorem step_eq (I : Heads) (p : Pt) : enterC E live I (pid p) (bodyOf Try.f108) (stOf (live (pid p)) (pvs p) (phs p)) (doneK E Try.f108 res) = step (fun q => I (pid q) (pvs q) (phs q)) p := by
  cases p <;> kernel_rfl
theorem start_eq (I : Heads) (ls : List L) : runC E live I (bodyOf Try.f108) (initS pats ls) (doneK E Try.f108 res) = start (fun q => I (pid q) (pvs q) (phs q)) (ls.headD .hole).toSl := by kernel_rfl
theorem run_eq (n : Nat) (ls : List L) : runF E live Try.f108 res n (initS pats ls) = start (iter step n) (ls.headD .hole).toSl := runF_iter (id := pid) (vs := pvs) (hs := phs) (step := step) (start := fun J => start J (ls.headD .hole).toSl) step_eq (fun I => start_eq I ls) n
noncomputable def md (a0 : List MEntry) : List MEntry := a0
def gd (a0 : List MEntry) : Prop := SmL (2 ^ 36) (fun y : MEntry => MEntry.Sm (2 ^ 36) y) a0
def acc (ls : List L) : List (List L) := (ls.headD .hole).toSl
noncomputable def R : (List (List L)) → Option (List (List L)) := RR gd md
theorem R_eq {a0} (h : gd a0) : R (a0.map MEntry.row) = some ((md a0).map MEntry.row) := RR_eq (a := a0) h
noncomputable def con : Con := CN pats res acc R
theorem okF (a0 : List MEntry) (hg : gd a0) : ∃ n, start (iter step n) (a0.map MEntry.row) = ret (((md a0).map MEntry.row) : List (List L)) := by
  unfold start md
  simp only [List.length_map]
  refine to_list (b := 56) (pt := fun i c => Pt.p0 (a0.map MEntry.row) (i : Int) c) (by have := hg.1; simp at this; omega) (fun J i h c hc => ?_) (fun J c => ?_)
  · simp only [step, List.length_map, lt_dec h, zle_dec, cond_true, toNat_nat, MEntry.at_row h, hc]
    rw [call_eq (laws_toEntry.R_eq (hg.get h))]
    try simp only [hc, lt_dec h, cond_true]
    rw [wrap_succ (n := a0.length) h (by have := hg.1; simp only [maxLen]; simp at this; omega)]
    rfl
  · simp only [step, List.length_map, nlt_dec, cond_false]
theorem valid_ : Valid Try.prog Ev 108 con := VV (run := fun n x => start (iter step n) x) mix tab_ok (.cons laws_toEntry.valid_ .nil) Try.func108 (by kernel_rfl) run_eq (fun _ a _ _ hg => okF a hg)
end laws_toEntryS
/-! laws.toDecision -/
namespace laws_toDecision
noncomputable def F (x0 : RDecision) : Ans := (call (laws_toEntry.R x0.fEntry) fun v1 => (call (laws_toEntryS.R x0.fOthers) fun v2 => ret ((⟨x0.fCode, v1, v2⟩ : RDecision) : RDecision)))
def pats : List Pat := [.agg [.int .i64, .str, .int .i64, .int .i64, .sl 9, .sl 38]]
def res : RP := .agg [.rd (.int .i64), .rd (.str), .rd (.int .i64), .rd (.int .i64), .fr 9, .fr 44]
noncomputable abbrev E : Env := { T := assoc Tab, G := conG [(49, laws_toEntry.con), (108, laws_toEntryS.con)], nt := 16 }
set_option maxRecDepth 100000
theorem run_eq (n : Nat) (ls : List L) : runF E (fun _ => []) Try.f27 res n (initS pats ls) = F (RDecision.dec ls) := by kernel_rfl
noncomputable def md (a0 : MDecision) : MDecision := a0
def gd (a0 : MDecision) : Prop := MDecision.Sm (2 ^ 36) a0
def acc (ls : List L) : RDecision := (RDecision.dec ls)
noncomputable def R : RDecision → Option RDecision := RR gd md
theorem R_eq {a0} (h : gd a0) : R (MDecision.r a0) = some (MDecision.r (md a0)) := RR_eq (a := a0) h
noncomputable def con : Con := CN pats res acc R
theorem okF (a0 : MDecision) (hg : gd a0) : F (MDecision.r a0) = ret ((MDecision.r (md a0)) : RDecision) := by
  unfold md
  show (call (laws_toEntry.R (MEntry.r a0.fEntry)) fun v1 => (call (laws_toEntryS.R (a0.fOthers.map MEntry.row)) fun v2 => ret ((⟨a0.fCode, v1, v2⟩ : RDecision) : RDecision))) = _
  rw [call_eq (laws_toEntry.R_eq hg.1)]
  rw [call_eq (laws_toEntryS.R_eq hg.2)]
  rfl
theorem valid_ : Valid Try.prog Ev 27 con := VV (run := fun _ x => F x) mix tab_ok (.cons laws_toEntry.valid_ (.cons laws_toEntryS.valid_ .nil)) Try.func27 (by kernel_rfl) run_eq (fun _ a _ _ hg => ⟨0, okF a hg⟩)
end laws_toDecision
/-! spec.IsUsable -/
namespace spec_IsUsable
noncomputable def F (x0 : RDecision) : Ans := (bif (x0.fCode == 1) then ret (true : Bool) else ret ((x0.fCode == 2) : Bool))
def pats : List Pat := [.agg [.int .i64, .str, .int .i64, .int .i64, .sl 9, .sl 44]]
def res : RP := .one (.rd (.bool))
noncomputable abbrev E : Env := { T := assoc Tab, G := conG [], nt := 11 }
set_option maxRecDepth 100000
theorem run_eq (n : Nat) (ls : List L) : runF E (fun _ => []) Try.f26 res n (initS pats ls) = F (RDecision.dec ls) := by kernel_rfl
noncomputable def md (a0 : MDecision) : Bool := (bif (a0.fCode == 1) then (true : Bool) else ((a0.fCode == 2) : Bool))
def gd (a0 : MDecision) : Prop := True
def acc (ls : List L) : RDecision := (RDecision.dec ls)
noncomputable def R : RDecision → Option Bool := RR gd md
theorem R_eq {a0} (h : gd a0) : R (MDecision.r a0) = some (md a0) := RR_eq (a := a0) h
noncomputable def con : Con := CN pats res acc R
theorem okF (a0 : MDecision) (hg : gd a0) : F (MDecision.r a0) = ret ((md a0) : Bool) := by
  unfold F md
  try simp only [S0, MDecision.rs]
  refine bif_out ret (fun _ => rfl) (fun c1 => ?_)
  all_goals first | rfl | (simp only [S0, MDecision.rs, MP]; first | done | rfl)
theorem valid_ : Valid Try.prog Ev 26 con := VV (run := fun _ x => F x) mix tab_ok .nil Try.func26 (by kernel_rfl) run_eq (fun _ a _ _ hg => ⟨0, okF a hg⟩)
end spec_IsUsable
/-! impl.IsUsable -/
namespace impl_IsUsable
noncomputable def F (x0 : RDecision) : Ans := (bif (x0.fCode == 1) then ret (true : Bool) else ret ((x0.fCode == 2) : Bool))
def pats : List Pat := [.agg [.int .i64, .str, .int .i64, .int .i64, .sl 9, .sl 44]]
def res : RP := .one (.rd (.bool))
noncomputable abbrev E : Env := { T := assoc Tab, G := conG [], nt := 11 }
set_option maxRecDepth 100000
theorem run_eq (n : Nat) (ls : List L) : runF E (fun _ => []) Try.f28 res n (initS pats ls) = F (RDecision.dec ls) := by kernel_rfl
noncomputable def md (a0 : MDecision) : Bool := (bif (a0.fCode == 1) then (true : Bool) else ((a0.fCode == 2) : Bool))
def gd (a0 : MDecision) : Prop := True
def acc (ls : List L) : RDecision := (RDecision.dec ls)
noncomputable def R : RDecision → Option Bool := RR gd md
theorem R_eq {a0} (h : gd a0) : R (MDecision.r a0) = some (md a0) := RR_eq (a := a0) h
noncomputable def con : Con := CN pats res acc R
theorem okF (a0 : MDecision) (hg : gd a0) : F (MDecision.r a0) = ret ((md a0) : Bool) := by
  unfold F md
  try simp only [S0, MDecision.rs]
  refine bif_out ret (fun _ => rfl) (fun c1 => ?_)
  all_goals first | rfl | (simp only [S0, MDecision.rs, MP]; first | done | rfl)
theorem valid_ : Valid Try.prog Ev 28 con := VV (run := fun _ x => F x) mix tab_ok .nil Try.func28 (by kernel_rfl) run_eq (fun _ a _ _ hg => ⟨0, okF a hg⟩)
theorem br (a0 : MDecision) : md a0 = spec_IsUsable.md a0 := by
  unfold md spec_IsUsable.md
  first
  | (simp only [id]; done)
  | (simp only [id]; rfl)
  | rfl
end impl_IsUsable
/-! laws.eqStringS -/
namespace laws_eqStringS
inductive Pt where
  | p0 (a : List (List L)) (b : List (List L)) (c : Int)
def pid : Pt → Nat
  | .p0 .. => 4
def pvs : Pt → List V
  | .p0 a b c => [.sl none 9 a, .sl none 9 b, .int .i64 c]
def phs : Pt → List Root
  | .p0 a b c => []
noncomputable def step (J : Pt → Ans) : Pt → Ans
  | .p0 a b c => (bif (decide (c < (a.length : Int))) then (bif (decide ((0 : Int) ≤ c)) then (bif (decide (c < (a.length : Int))) then (bif (decide ((0 : Int) ≤ c)) then (bif (decide (c < (b.length : Int))) then (bif (!((sAt a (Int.toNat c)) == (sAt b (Int.toNat c)))) then ret (false : Bool) else J (.p0 a b (IntKind.i64.wrap (c + 1)))) else none) else none) else none) else none) else ret (true : Bool))
noncomputable def start (J : Pt → Ans) (x0 : List (List L)) (x1 : List (List L)) : Ans := (bif ((x0.length : Int) != (x1.length : Int)) then ret (false : Bool) else J (.p0 x0 x1 0))
def live : Nat → Live := fun i => match i with | 4 => [(0, none), (1, none), (5, none)] | _ => []
def pats : List Pat := [.rd (.sl 9), .rd (.sl 9)]
def res : RP := .one (.rd (.bool))
noncomputable abbrev E : Env := { T := assoc Tab, G := conG [], nt := 26 }
set_option maxRecDepth 100000
theorem step_eq (I : Heads) (p : Pt) : enterC E live I (pid p) (bodyOf Try.f42) (stOf (live (pid p)) (pvs p) (phs p)) (doneK E Try.f42 res) = step (fun q => I (pid q) (pvs q) (phs q)) p := by
  cases p <;> kernel_rfl
theorem start_eq (I : Heads) (ls : List L) : runC E live I (bodyOf Try.f42) (initS pats ls) (doneK E Try.f42 res) = start (fun q => I (pid q) (pvs q) (phs q)) (ls.headD .hole).toSl ((dropT 1 ls).headD .hole).toSl := by kernel_rfl
theorem run_eq (n : Nat) (ls : List L) : runF E live Try.f42 res n (initS pats ls) = start (iter step n) (ls.headD .hole).toSl ((dropT 1 ls).headD .hole).toSl := runF_iter (id := pid) (vs := pvs) (hs := phs) (step := step) (start := fun J => start J (ls.headD .hole).toSl ((dropT 1 ls).headD .hole).toSl) step_eq (fun I => start_eq I ls) n
noncomputable def md (a0 : List ByteArray) (a1 : List ByteArray) : Bool := eqB a0 a1
def gd (a0 : List ByteArray) (a1 : List ByteArray) : Prop := True
def acc (ls : List L) : List (List L) × List (List L) := ((ls.headD .hole).toSl, ((dropT 1 ls).headD .hole).toSl)
noncomputable def R : (List (List L) × List (List L)) → Option Bool := RR (p2 gd) (u2 md)
theorem R_eq {a0} {a1} (h : gd a0 a1) : R ((a0.map sRow), (a1.map sRow)) = some (md a0 a1) := RR_eq (a := (a0, a1)) h
noncomputable def con : Con := CN pats res acc R
theorem okF (a0 : List ByteArray) (a1 : List ByteArray) (hg : gd a0 a1) (h0 : a0.length ≤ maxLen) (h1 : a1.length ≤ maxLen) : ∃ n, start (iter step n) (a0.map sRow) (a1.map sRow) = ret ((md a0 a1) : Bool) := by
  unfold start md
  simp only [List.length_map]
  refine eq_list (pt := fun i => Pt.p0 (a0.map sRow) (a1.map sRow) (i : Int)) (fun hl J i h h2 => ?_) (fun J => ?_)
  · simp only [step, List.length_map, lt_dec h, lt_dec h2, zle_dec, cond_true, toNat_nat, sAt_row h, sAt_row h2]
    rw [wrap_succ h h0]
    simp only [bne, int_beq, bool_beq, ba_beq]
    cases eqB a0[i] a1[i] <;> rfl
  · simp only [step, List.length_map, nlt_dec, cond_false]
theorem valid_ : Valid Try.prog Ev 42 con := VV (run := fun n x => start (iter step n) x.1 x.2) mix tab_ok .nil Try.func42 (by kernel_rfl) run_eq (fun ls a hl e hg => okF a.1 a.2 hg (by have h : (ls.headD .hole).toSl.length ≤ maxLen := hl.1.len; have e : a.1.map sRow = (ls.headD .hole).toSl := (congrArg (fun x => x.1) e.symm); rw [← e] at h; simpa using h) (by have h : ((dropT 1 ls).headD .hole).toSl.length ≤ maxLen := hl.2.1.len; have e : a.2.map sRow = ((dropT 1 ls).headD .hole).toSl := (congrArg (fun x => x.2) e.symm); rw [← e] at h; simpa using h))
end laws_eqStringS
/-! laws.eqEntry -/
namespace laws_eqEntry
noncomputable def F (x0 : REntry) (x1 : REntry) : Ans := (bif (!(x0.fLabel == x1.fLabel)) then ret (false : Bool) else (bif (x0.fKind != x1.fKind) then ret (false : Bool) else (bif (x0.fValue != x1.fValue) then ret (false : Bool) else (call (laws_eqStringS.R (x0.fPath, x1.fPath)) fun v1 => (bif (!v1) then ret (false : Bool) else ret (true : Bool))))))
def pats : List Pat := [.agg [.str, .int .i64, .int .i64, .sl 9], .agg [.str, .int .i64, .int .i64, .sl 9]]
def res : RP := .one (.rd (.bool))
noncomputable abbrev E : Env := { T := assoc Tab, G := conG [(42, laws_eqStringS.con)], nt := 26 }
set_option maxRecDepth 100000
theorem run_eq (n : Nat) (ls : List L) : runF E (fun _ => []) Try.f40 res n (initS pats ls) = F (REntry.dec ls) (REntry.dec (dropT 4 ls)) := by kernel_rfl
noncomputable def md (a0 : MEntry) (a1 : MEntry) : Bool := eqB a0 a1
def gd (a0 : MEntry) (a1 : MEntry) : Prop := True
def acc (ls : List L) : REntry × REntry := ((REntry.dec ls), (REntry.dec (dropT 4 ls)))
noncomputable def R : (REntry × REntry) → Option Bool := RR (p2 gd) (u2 md)
theorem R_eq {a0} {a1} (h : gd a0 a1) : R ((MEntry.r a0), (MEntry.r a1)) = some (md a0 a1) := RR_eq (a := (a0, a1)) h
noncomputable def con : Con := CN pats res acc R
theorem okF (a0 : MEntry) (a1 : MEntry) (hg : gd a0 a1) : F (MEntry.r a0) (MEntry.r a1) = ret ((md a0 a1) : Bool) := by
  unfold md
  show (bif (!(a0.fLabel == a1.fLabel)) then ret (false : Bool) else (bif (a0.fKind != a1.fKind) then ret (false : Bool) else (bif (a0.fValue != a1.fValue) then ret (false : Bool) else (call (laws_eqStringS.R ((a0.fPath.map sRow), (a1.fPath.map sRow))) fun v1 => (bif (!v1) then ret (false : Bool) else ret (true : Bool)))))) = _
  simp only [call_eq (laws_eqStringS.R_eq (a0 := a0.fPath) (a1 := a1.fPath) trivial), laws_eqStringS.md]
  try simp only [bne, int_beq, bool_beq, ba_beq]
  have e : eqB a0 a1 = (eqB a0.fLabel a1.fLabel && (eqB a0.fKind a1.fKind && (eqB a0.fValue a1.fValue && (eqB a0.fPath a1.fPath && true)))) := by
    cases a0; cases a1
    rw [Bool.eq_iff_iff]
    simp only [eqB_iff, Bool.and_eq_true, MEntry.mk.injEq, and_true]
  rw [e]
  refine and_step fun _ => ?_
  refine and_step fun _ => ?_
  refine and_step fun _ => ?_
  refine and_step fun _ => ?_
  rfl
theorem valid_ : Valid Try.prog Ev 40 con := VV (run := fun _ x => F x.1 x.2) mix tab_ok (.cons laws_eqStringS.valid_ .nil) Try.func40 (by kernel_rfl) run_eq (fun _ a _ _ hg => ⟨0, okF a.1 a.2 hg⟩)
end laws_eqEntry
/-! laws.eqEntryS -/
namespace laws_eqEntryS
inductive Pt where
  | p0 (a : List (List L)) (b : List (List L)) (c : Int)
def pid : Pt → Nat
  | .p0 .. => 4
def pvs : Pt → List V
  | .p0 a b c => [.sl none 44 a, .sl none 44 b, .int .i64 c]
def phs : Pt → List Root
  | .p0 a b c => []
noncomputable def step (J : Pt → Ans) : Pt → Ans
  | .p0 a b c => (bif (decide (c < (a.length : Int))) then (bif (decide ((0 : Int) ≤ c)) then (bif (decide (c < (a.length : Int))) then (bif (decide ((0 : Int) ≤ c)) then (bif (decide (c < (b.length : Int))) then (call (laws_eqEntry.R ((REntry.at a (Int.toNat c)), (REntry.at b (Int.toNat c)))) fun v1 => (bif (!v1) then ret (false : Bool) else J (.p0 a b (IntKind.i64.wrap (c + 1))))) else none) else none) else none) else none) else ret (true : Bool))
noncomputable def start (J : Pt → Ans) (x0 : List (List L)) (x1 : List (List L)) : Ans := (bif ((x0.length : Int) != (x1.length : Int)) then ret (false : Bool) else J (.p0 x0 x1 0))
def live : Nat → Live := fun i => match i with | 4 => [(0, none), (1, none), (5, none)] | _ => []
def pats : List Pat := [.rd (.sl 44), .rd (.sl 44)]
def res : RP := .one (.rd (.bool))
noncomputable abbrev E : Env := { T := assoc Tab, G := conG [(40, laws_eqEntry.con)], nt := 27 }
set_option maxRecDepth 100000
theorem step_eq (I : Heads) (p : Pt) : enterC E live I (pid p) (bodyOf Try.f79) (stOf (live (pid p)) (pvs p) (phs p)) (doneK E Try.f79 res) = step (fun q => I (pid q) (pvs q) (phs q)) p := by
  cases p <;> kernel_rfl
theorem start_eq (I : Heads) (ls : List L) : runC E live I (bodyOf Try.f79) (initS pats ls) (doneK E Try.f79 res) = start (fun q => I (pid q) (pvs q) (phs q)) (ls.headD .hole).toSl ((dropT 1 ls).headD .hole).toSl := by kernel_rfl
theorem run_eq (n : Nat) (ls : List L) : runF E live Try.f79 res n (initS pats ls) = start (iter step n) (ls.headD .hole).toSl ((dropT 1 ls).headD .hole).toSl := runF_iter (id := pid) (vs := pvs) (hs := phs) (step := step) (start := fun J => start J (ls.headD .hole).toSl ((dropT 1 ls).headD .hole).toSl) step_eq (fun I => start_eq I ls) n
noncomputable def md (a0 : List MEntry) (a1 : List MEntry) : Bool := eqB a0 a1
def gd (a0 : List MEntry) (a1 : List MEntry) : Prop := True
def acc (ls : List L) : List (List L) × List (List L) := ((ls.headD .hole).toSl, ((dropT 1 ls).headD .hole).toSl)
noncomputable def R : (List (List L) × List (List L)) → Option Bool := RR (p2 gd) (u2 md)
theorem R_eq {a0} {a1} (h : gd a0 a1) : R ((a0.map MEntry.row), (a1.map MEntry.row)) = some (md a0 a1) := RR_eq (a := (a0, a1)) h
noncomputable def con : Con := CN pats res acc R
theorem okF (a0 : List MEntry) (a1 : List MEntry) (hg : gd a0 a1) (h0 : a0.length ≤ maxLen) (h1 : a1.length ≤ maxLen) : ∃ n, start (iter step n) (a0.map MEntry.row) (a1.map MEntry.row) = ret ((md a0 a1) : Bool) := by
  unfold start md
  simp only [List.length_map]
  refine eq_list (pt := fun i => Pt.p0 (a0.map MEntry.row) (a1.map MEntry.row) (i : Int)) (fun hl J i h h2 => ?_) (fun J => ?_)
  · simp only [step, List.length_map, lt_dec h, lt_dec h2, zle_dec, cond_true, toNat_nat, MEntry.at_row h, MEntry.at_row h2]
    rw [wrap_succ h h0]
    rw [call_eq (laws_eqEntry.R_eq (a0 := a0[i]) (a1 := a1[i]) trivial), laws_eqEntry.md]
    cases eqB a0[i] a1[i] <;> rfl
  · simp only [step, List.length_map, nlt_dec, cond_false]
theorem valid_ : Valid Try.prog Ev 79 con := VV (run := fun n x => start (iter step n) x.1 x.2) mix tab_ok (.cons laws_eqEntry.valid_ .nil) Try.func79 (by kernel_rfl) run_eq (fun ls a hl e hg => okF a.1 a.2 hg (by have h : (ls.headD .hole).toSl.length ≤ maxLen := hl.1.len; have e : a.1.map MEntry.row = (ls.headD .hole).toSl := (congrArg (fun x => x.1) e.symm); rw [← e] at h; simpa using h) (by have h : ((dropT 1 ls).headD .hole).toSl.length ≤ maxLen := hl.2.1.len; have e : a.2.map MEntry.row = ((dropT 1 ls).headD .hole).toSl := (congrArg (fun x => x.2) e.symm); rw [← e] at h; simpa using h))
end laws_eqEntryS
/-! laws.eqDecision -/
namespace laws_eqDecision
noncomputable def F (x0 : RDecision) (x1 : RDecision) : Ans := (bif (x0.fCode != x1.fCode) then ret (false : Bool) else (call (laws_eqEntry.R (x0.fEntry, x1.fEntry)) fun v1 => (bif (!v1) then ret (false : Bool) else (call (laws_eqEntryS.R (x0.fOthers, x1.fOthers)) fun v2 => (bif (!v2) then ret (false : Bool) else ret (true : Bool))))))
def pats : List Pat := [.agg [.int .i64, .str, .int .i64, .int .i64, .sl 9, .sl 44], .agg [.int .i64, .str, .int .i64, .int .i64, .sl 9, .sl 44]]
def res : RP := .one (.rd (.bool))
noncomputable abbrev E : Env := { T := assoc Tab, G := conG [(40, laws_eqEntry.con), (79, laws_eqEntryS.con)], nt := 22 }
set_option maxRecDepth 100000
theorem run_eq (n : Nat) (ls : List L) : runF E (fun _ => []) Try.f29 res n (initS pats ls) = F (RDecision.dec ls) (RDecision.dec (dropT 6 ls)) := by kernel_rfl
noncomputable def md (a0 : MDecision) (a1 : MDecision) : Bool := eqB a0 a1
def gd (a0 : MDecision) (a1 : MDecision) : Prop := True
def acc (ls : List L) : RDecision × RDecision := ((RDecision.dec ls), (RDecision.dec (dropT 6 ls)))
noncomputable def R : (RDecision × RDecision) → Option Bool := RR (p2 gd) (u2 md)
theorem R_eq {a0} {a1} (h : gd a0 a1) : R ((MDecision.r a0), (MDecision.r a1)) = some (md a0 a1) := RR_eq (a := (a0, a1)) h
noncomputable def con : Con := CN pats res acc R
theorem okF (a0 : MDecision) (a1 : MDecision) (hg : gd a0 a1) : F (MDecision.r a0) (MDecision.r a1) = ret ((md a0 a1) : Bool) := by
  unfold md
  show (bif (a0.fCode != a1.fCode) then ret (false : Bool) else (call (laws_eqEntry.R ((MEntry.r a0.fEntry), (MEntry.r a1.fEntry))) fun v1 => (bif (!v1) then ret (false : Bool) else (call (laws_eqEntryS.R ((a0.fOthers.map MEntry.row), (a1.fOthers.map MEntry.row))) fun v2 => (bif (!v2) then ret (false : Bool) else ret (true : Bool)))))) = _
  simp only [call_eq (laws_eqEntry.R_eq (a0 := a0.fEntry) (a1 := a1.fEntry) trivial), laws_eqEntry.md]
  simp only [call_eq (laws_eqEntryS.R_eq (a0 := a0.fOthers) (a1 := a1.fOthers) trivial), laws_eqEntryS.md]
  try simp only [bne, int_beq, bool_beq, ba_beq]
  have e : eqB a0 a1 = (eqB a0.fCode a1.fCode && (eqB a0.fEntry a1.fEntry && (eqB a0.fOthers a1.fOthers && true))) := by
    cases a0; cases a1
    rw [Bool.eq_iff_iff]
    simp only [eqB_iff, Bool.and_eq_true, MDecision.mk.injEq, and_true]
  rw [e]
  refine and_step fun _ => ?_
  refine and_step fun _ => ?_
  refine and_step fun _ => ?_
  rfl
theorem valid_ : Valid Try.prog Ev 29 con := VV (run := fun _ x => F x.1 x.2) mix tab_ok (.cons laws_eqEntry.valid_ (.cons laws_eqEntryS.valid_ .nil)) Try.func29 (by kernel_rfl) run_eq (fun _ a _ _ hg => ⟨0, okF a.1 a.2 hg⟩)
end laws_eqDecision
/-! laws.FnExactIsUsable -/
namespace laws_FnExactIsUsable
noncomputable def F (x0 : RDecision) : Ans := (call (laws_szDecision.R (x0, 1048576)) fun v1 => (bif (decide (v1 < 0)) then ret (true : Bool) else (call (laws_toDecision.R x0) fun v2 => (call (spec_IsUsable.R v2) fun v3 => (call (laws_toDecision.R x0) fun v4 => (call (impl_IsUsable.R v4) fun v5 => (bif (!(v5 == v3)) then ret (false : Bool) else (call (laws_toDecision.R x0) fun v6 => (call (laws_eqDecision.R (v4, v6)) fun v7 => (bif (!v7) then ret (false : Bool) else ret (true : Bool)))))))))))
def pats : List Pat := [.agg [.int .i64, .str, .int .i64, .int .i64, .sl 9, .sl 38]]
def res : RP := .one (.rd (.bool))
noncomputable abbrev E : Env := { T := assoc Tab, G := conG [(25, laws_szDecision.con), (27, laws_toDecision.con), (26, spec_IsUsable.con), (28, impl_IsUsable.con), (29, laws_eqDecision.con)], nt := 27 }
set_option maxRecDepth 100000
theorem run_eq (n : Nat) (ls : List L) : runF E (fun _ => []) Try.f5 res n (initS pats ls) = F (RDecision.dec ls) := by kernel_rfl
noncomputable def md (a0 : MDecision) : Bool := true
def gd (a0 : MDecision) : Prop := (MDecision.Sm maxLen a0)
def acc (ls : List L) : RDecision := (RDecision.dec ls)
noncomputable def R : RDecision → Option Bool := RR gd md
theorem R_eq {a0} (h : gd a0) : R (MDecision.r a0) = some (md a0) := RR_eq (a := a0) h
noncomputable def con : Con := CN pats res acc R
theorem okF (a0 : MDecision) (hg : gd a0) : F (MDecision.r a0) = ret ((md a0) : Bool) := by
  unfold md
  show (call (laws_szDecision.R ((MDecision.r a0), 1048576)) fun v1 => (bif (decide (v1 < 0)) then ret (true : Bool) else (call (laws_toDecision.R (MDecision.r a0)) fun v2 => (call (spec_IsUsable.R v2) fun v3 => (call (laws_toDecision.R (MDecision.r a0)) fun v4 => (call (impl_IsUsable.R v4) fun v5 => (bif (!(v5 == v3)) then ret (false : Bool) else (call (laws_toDecision.R (MDecision.r a0)) fun v6 => (call (laws_eqDecision.R (v4, v6)) fun v7 => (bif (!v7) then ret (false : Bool) else ret (true : Bool))))))))))) = _
  rw [call_eq (laws_szDecision.R_eq (a1 := (1048576 : Int)) ⟨hg, by omega, by omega⟩)]
  unfold laws_szDecision.md
  by_cases c0 : (1048576 : Int) < (((MDecision.size a0) : Nat) : Int)
  · rw [szM_neg c0]; rfl
  rw [szM_pos c0, dec_neg (by omega)]
  simp only [cond_false]
  have s0 : MDecision.Sm (2 ^ 20) a0 := (MDecision.Sm_of (by omega))
  rw [call_eq (laws_toDecision.R_eq (a0 := a0) (MDecision.Sm_mono (by decide) s0))]
  simp only [laws_toDecision.md]
  rw [call_eq (spec_IsUsable.R_eq (a0 := a0) trivial)]
  rw [call_eq (laws_toDecision.R_eq (a0 := a0) (MDecision.Sm_mono (by decide) s0))]
  simp only [laws_toDecision.md]
  rw [call_eq (impl_IsUsable.R_eq (a0 := a0) trivial)]
  try simp only [impl_IsUsable.br, bne_self_eq_false, beq_self_eq_true, ba_refl, Bool.not_true, cond_false]
  rw [call_eq (laws_toDecision.R_eq (a0 := a0) (MDecision.Sm_mono (by decide) s0))]
  simp only [laws_toDecision.md]
  rw [call_eq (laws_eqDecision.R_eq (a0 := a0) (a1 := a0) trivial)]
  simp only [laws_eqDecision.md, eqB_refl, Bool.not_true, cond_false]
theorem valid_ : Valid Try.prog Ev 5 con := VV (run := fun _ x => F x) mix tab_ok (.cons laws_szDecision.valid_ (.cons laws_toDecision.valid_ (.cons spec_IsUsable.valid_ (.cons impl_IsUsable.valid_ (.cons laws_eqDecision.valid_ .nil))))) Try.func5 (by kernel_rfl) run_eq (fun _ a _ _ hg => ⟨0, okF a hg⟩)
theorem MEntry_wf38 (r : List L) (h : WfAll Ev.cells [.str, .int .i64, .int .i64, .sl 9] r) : ∃ x : MEntry, MEntry.row x = r ∧ MEntry.Sm maxLen x := by
  obtain ⟨l0, t0, rfl, g0, h1⟩ := h.uncons
  obtain ⟨x0, rfl, s0⟩ := wf_str g0
  obtain ⟨l1, t1, rfl, g1, h2⟩ := h1.uncons
  obtain ⟨x1, rfl⟩ := wf_int g1
  obtain ⟨l2, t2, rfl, g2, h3⟩ := h2.uncons
  obtain ⟨x2, rfl⟩ := wf_int g2
  obtain ⟨l3, t3, rfl, g3, h4⟩ := h3.uncons
  obtain ⟨x3, rfl, s3⟩ := wf_list (show Ev.cells 9 = [.str] from by kernel_rfl) wf_srow g3
  obtain rfl := h4.isnil
  exact ⟨⟨x0, x1, x2, x3⟩, rfl, ⟨s0, s3⟩⟩
theorem MDecision_wf41 (r : List L) (h : WfAll Ev.cells [.int .i64, .str, .int .i64, .int .i64, .sl 9, .sl 38] r) : ∃ x : MDecision, MDecision.row x = r ∧ MDecision.Sm maxLen x := by
  obtain ⟨l0, t0, rfl, g0, h1⟩ := h.uncons
  obtain ⟨x0, rfl⟩ := wf_int g0
  obtain ⟨r1, t1, rfl, g1, h2⟩ := WfAll.unapp (a := [.str, .int .i64, .int .i64, .sl 9]) (b := [.sl 38]) h1
  obtain ⟨x1, rfl, s1⟩ := MEntry_wf38 _ g1
  obtain ⟨l2, t2, rfl, g2, h3⟩ := h2.uncons
  obtain ⟨x2, rfl, s2⟩ := wf_list (show Ev.cells 38 = [.str, .int .i64, .int .i64, .sl 9] from by kernel_rfl) MEntry_wf38 g2
  obtain rfl := h3.isnil
  exact ⟨⟨x0, x1, x2⟩, rfl, ⟨s1, s2⟩⟩
theorem holds (ls : List L) (h : WfAll Ev.cells ([41].flatMap Ev.cells) ls) : con.sem ls = some [.bool true] := by
  have hk : [41].flatMap Ev.cells = [.int .i64, .str, .int .i64, .int .i64, .sl 9, .sl 38] := by kernel_rfl
  rw [hk] at h
  obtain ⟨r0, t0, rfl, g0, h1⟩ := WfAll.unapp (a := [.int .i64, .str, .int .i64, .int .i64, .sl 9, .sl 38]) (b := []) h
  obtain ⟨x0, rfl, s0⟩ := MDecision_wf41 _ g0
  obtain rfl := h1.isnil
  show (R (MDecision.r x0)).map RT.enc = _
  rw [R_eq s0]
  rfl
end laws_FnExactIsUsable
end Go.DM
