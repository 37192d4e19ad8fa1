/- What the functions compute that the law reaches, and that the law returns true. Conditions: none. -/
import Derived.Test.YtedhlofhkcggpaaTy
import Derived.Test.YtedhlofhkcggpaaProg
import Derived.Lib.AppendZerosOnto
import Derived.Lib.Bytealg
import Derived.Laws.Externs
import Derived.Lib.Walk
import Derived.Lib.Hide
import Derived.Lib.Strings
set_option linter.all false
namespace Go.DM
open Go.Proofs
def Tab : List (Nat × TI) := [
  (2, ⟨[.int .i64], false, [], 8, false⟩),
  (3, ⟨[.int .i64], false, [], 8, false⟩),
  (4, ⟨[.bool], false, [], 1, false⟩),
  (5, ⟨[.int .u8], false, [], 1, false⟩),
  (6, ⟨[.int .u8], false, [], 1, false⟩),
  (7, ⟨[.int .i64, .int .i64, .bool, .int .u8], true, [(0, 2), (1, 3), (2, 4), (3, 6)], 24, false⟩),
  (8, ⟨[.int .i64, .int .i64, .bool, .int .u8], true, [(0, 2), (1, 3), (2, 4), (3, 6)], 24, false⟩),
  (9, ⟨[.str], false, [], 16, false⟩),
  (10, ⟨[.str], false, [], 16, false⟩),
  (11, ⟨[.str], false, [], 16, false⟩),
  (12, ⟨[.int .u64], false, [], 8, false⟩),
  (13, ⟨[.str, .int .u64], true, [(0, 9), (1, 12)], 24, false⟩),
  (14, ⟨[.str, .int .u64], true, [(0, 9), (1, 12)], 24, false⟩),
  (21, ⟨[.int .i32], false, [], 4, false⟩),
  (22, ⟨[.sl 140], false, [], 24, false⟩),
  (25, ⟨[.sl 142], false, [], 24, false⟩),
  (29, ⟨[.sl 149], false, [], 24, false⟩),
  (32, ⟨[.sl 150], false, [], 24, false⟩),
  (36, ⟨[.sl 9], false, [], 24, false⟩),
  (37, ⟨[.str, .int .i64, .int .i64, .sl 9], true, [(0, 9), (1, 3), (2, 3), (3, 36)], 56, false⟩),
  (38, ⟨[.str, .int .i64, .int .i64, .sl 9], true, [(0, 9), (1, 3), (2, 3), (3, 36)], 56, false⟩),
  (39, ⟨[.sl 38], false, [], 24, false⟩),
  (40, ⟨[.int .i64, .str, .int .i64, .int .i64, .sl 9, .sl 38], true, [(0, 3), (1, 38), (5, 39)], 88, false⟩),
  (41, ⟨[.int .i64, .str, .int .i64, .int .i64, .sl 9, .sl 38], true, [(0, 3), (1, 38), (5, 39)], 88, false⟩),
  (44, ⟨[.str, .int .i64, .int .i64, .sl 9], true, [(0, 9), (1, 3), (2, 3), (3, 36)], 56, false⟩),
  (45, ⟨[.sl 44], false, [], 24, false⟩),
  (46, ⟨[.int .i64, .str, .int .i64, .int .i64, .sl 9, .sl 44], true, [(0, 3), (1, 44), (5, 45)], 88, false⟩),
  (47, ⟨[.int .i64, .str, .int .i64, .int .i64, .sl 9, .sl 44], true, [(0, 3), (1, 44), (5, 45)], 88, false⟩),
  (55, ⟨[.sl 162], false, [], 24, false⟩),
  (60, ⟨[.sl 166], false, [], 24, false⟩),
  (74, ⟨[.sl 92], false, [], 24, false⟩),
  (75, ⟨[.sl 238], false, [], 24, false⟩),
  (76, ⟨[.sl 92, .sl 238], true, [(0, 74), (1, 75)], 48, false⟩),
  (77, ⟨[.sl 92, .sl 238], true, [(0, 74), (1, 75)], 48, false⟩),
  (79, ⟨[.sl 184], false, [], 24, false⟩),
  (82, ⟨[.sl 79], false, [], 24, false⟩),
  (83, ⟨[.sl 241], false, [], 24, false⟩),
  (84, ⟨[.sl 79, .sl 241], true, [(0, 82), (1, 83)], 48, false⟩),
  (85, ⟨[.sl 79, .sl 241], true, [(0, 82), (1, 83)], 48, false⟩),
  (92, ⟨[.sl 197], false, [], 24, false⟩),
  (94, ⟨[.sl 202], false, [], 24, false⟩),
  (100, ⟨[.sl 207], false, [], 24, false⟩),
  (102, ⟨[.sl 121], false, [], 24, false⟩),
  (104, ⟨[.sl 210], false, [], 24, false⟩),
  (117, ⟨[.sl 263], false, [], 24, false⟩),
  (118, ⟨[.sl 263], true, [(0, 117)], 24, false⟩),
  (119, ⟨[.sl 263], true, [(0, 117)], 24, false⟩),
  (121, ⟨[.sl 3], false, [], 24, false⟩),
  (122, ⟨[.int .i64, .sl 3], true, [(0, 3), (1, 121)], 32, false⟩),
  (123, ⟨[.int .i64, .sl 3], true, [(0, 3), (1, 121)], 32, false⟩),
  (124, ⟨[.int .i64, .str, .int .i64, .int .i64, .sl 9, .str, .int .i64, .int .i64, .sl 9, .int .i64, .sl 3, .int .i64, .sl 3], true, [(0, 3), (1, 44), (5, 44), (9, 123), (11, 123)], 184, false⟩),
  (125, ⟨[.int .i64, .str, .int .i64, .int .i64, .sl 9, .str, .int .i64, .int .i64, .sl 9, .int .i64, .sl 3, .int .i64, .sl 3], true, [(0, 3), (1, 44), (5, 44), (9, 123), (11, 123)], 184, false⟩),
  (126, ⟨[.sl 184, .bool, .str, .int .i64, .int .i64, .sl 9, .int .i64, .sl 3, .int .i64, .str, .int .i64, .int .i64, .sl 9, .str, .int .i64, .int .i64, .sl 9, .int .i64, .sl 3, .int .i64, .sl 3], true, [(0, 79), (1, 4), (2, 44), (6, 123), (8, 125)], 304, false⟩),
  (127, ⟨[.sl 184, .bool, .str, .int .i64, .int .i64, .sl 9, .int .i64, .sl 3, .int .i64, .str, .int .i64, .int .i64, .sl 9, .str, .int .i64, .int .i64, .sl 9, .int .i64, .sl 3, .int .i64, .sl 3], true, [(0, 79), (1, 4), (2, 44), (6, 123), (8, 125)], 304, false⟩),
  (129, ⟨[.sl 220], false, [], 24, false⟩),
  (130, ⟨[.sl 220], true, [(0, 129)], 24, false⟩),
  (131, ⟨[.sl 220], true, [(0, 129)], 24, false⟩),
  (139, ⟨[.str, .int .i64], true, [(0, 9), (1, 3)], 24, false⟩),
  (140, ⟨[.str, .int .i64], true, [(0, 9), (1, 3)], 24, true⟩),
  (142, ⟨[.str, .int .i64], true, [(0, 9), (1, 3)], 24, true⟩),
  (149, ⟨[.str, .int .i64], true, [(0, 9), (1, 3)], 24, true⟩),
  (150, ⟨[.str, .int .i64], true, [(0, 9), (1, 3)], 24, true⟩),
  (161, ⟨[.sl 9, .str, .int .i64, .int .i64, .sl 9], true, [(0, 36), (1, 38)], 80, false⟩),
  (162, ⟨[.sl 9, .str, .int .i64, .int .i64, .sl 9], true, [(0, 36), (1, 38)], 80, false⟩),
  (165, ⟨[.sl 9, .str, .int .i64, .int .i64, .sl 9], true, [(0, 36), (1, 44)], 80, false⟩),
  (166, ⟨[.sl 9, .str, .int .i64, .int .i64, .sl 9], true, [(0, 36), (1, 44)], 80, false⟩),
  (178, ⟨[.sl 3, .int .i64], true, [(0, 121), (1, 3)], 32, false⟩),
  (179, ⟨[.sl 3, .int .i64], true, [(0, 121), (1, 3)], 32, false⟩),
  (180, ⟨[.int .i64, .int .i64, .int .i64, .int .i64, .int .i64, .int .i64, .int .i64, .int .i64, .sl 3, .int .i64, .sl 3, .int .i64, .int .i64, .sl 3, .int .i64, .bool], true, [(0, 3), (1, 3), (2, 3), (3, 3), (4, 3), (5, 3), (6, 3), (7, 3), (8, 179), (10, 179), (12, 3), (13, 179), (15, 4)], 176, false⟩),
  (181, ⟨[.int .i64, .int .i64, .int .i64, .int .i64, .int .i64, .int .i64, .int .i64, .int .i64, .sl 3, .int .i64, .sl 3, .int .i64, .int .i64, .sl 3, .int .i64, .bool], true, [(0, 3), (1, 3), (2, 3), (3, 3), (4, 3), (5, 3), (6, 3), (7, 3), (8, 179), (10, 179), (12, 3), (13, 179), (15, 4)], 176, false⟩),
  (182, ⟨[.sl 248], false, [], 24, false⟩),
  (183, ⟨[.int .i64, .int .i64, .int .i64, .int .i64, .int .i64, .int .i64, .int .i64, .int .i64, .sl 3, .int .i64, .sl 3, .int .i64, .int .i64, .sl 3, .int .i64, .bool, .sl 248], true, [(0, 181), (16, 182)], 200, false⟩),
  (184, ⟨[.int .i64, .int .i64, .int .i64, .int .i64, .int .i64, .int .i64, .int .i64, .int .i64, .sl 3, .int .i64, .sl 3, .int .i64, .int .i64, .sl 3, .int .i64, .bool, .sl 248], true, [(0, 181), (16, 182)], 200, false⟩),
  (192, ⟨[.sl 3, .int .i64], true, [(0, 121), (1, 3)], 32, false⟩),
  (193, ⟨[.int .i64, .int .i64, .int .i64, .int .i64, .int .i64, .int .i64, .int .i64, .int .i64, .sl 3, .int .i64, .sl 3, .int .i64, .int .i64, .sl 3, .int .i64, .bool], true, [(0, 3), (1, 3), (2, 3), (3, 3), (4, 3), (5, 3), (6, 3), (7, 3), (8, 192), (10, 192), (12, 3), (13, 192), (15, 4)], 176, false⟩),
  (194, ⟨[.int .i64, .int .i64, .int .i64, .int .i64, .int .i64, .int .i64, .int .i64, .int .i64, .sl 3, .int .i64, .sl 3, .int .i64, .int .i64, .sl 3, .int .i64, .bool], true, [(0, 3), (1, 3), (2, 3), (3, 3), (4, 3), (5, 3), (6, 3), (7, 3), (8, 192), (10, 192), (12, 3), (13, 192), (15, 4)], 176, false⟩),
  (195, ⟨[.sl 279], false, [], 24, false⟩),
  (196, ⟨[.int .i64, .int .i64, .int .i64, .int .i64, .int .i64, .int .i64, .int .i64, .int .i64, .sl 3, .int .i64, .sl 3, .int .i64, .int .i64, .sl 3, .int .i64, .bool, .sl 279], true, [(0, 194), (16, 195)], 200, false⟩),
  (197, ⟨[.int .i64, .int .i64, .int .i64, .int .i64, .int .i64, .int .i64, .int .i64, .int .i64, .sl 3, .int .i64, .sl 3, .int .i64, .int .i64, .sl 3, .int .i64, .bool, .sl 279], true, [(0, 194), (16, 195)], 200, false⟩),
  (201, ⟨[.int .i64, .sl 3, .int .i64, .int .i64], true, [(0, 3), (1, 179), (3, 3)], 48, false⟩),
  (202, ⟨[.int .i64, .sl 3, .int .i64, .int .i64], true, [(0, 3), (1, 179), (3, 3)], 48, false⟩),
  (206, ⟨[.sl 92, .sl 238, .int .i64, .str, .int .i64, .int .i64, .sl 9, .sl 3, .int .i64], true, [(0, 77), (2, 3), (3, 38), (7, 121), (8, 3)], 144, false⟩),
  (207, ⟨[.sl 92, .sl 238, .int .i64, .str, .int .i64, .int .i64, .sl 9, .sl 3, .int .i64], true, [(0, 77), (2, 3), (3, 38), (7, 121), (8, 3)], 144, false⟩),
  (209, ⟨[.sl 79, .sl 241, .int .i64, .str, .int .i64, .int .i64, .sl 9, .sl 3, .int .i64], true, [(0, 85), (2, 3), (3, 44), (7, 121), (8, 3)], 144, false⟩),
  (210, ⟨[.sl 79, .sl 241, .int .i64, .str, .int .i64, .int .i64, .sl 9, .sl 3, .int .i64], true, [(0, 85), (2, 3), (3, 44), (7, 121), (8, 3)], 144, false⟩),
  (219, ⟨[.int .i64, .str, .sl 184, .bool, .str, .int .i64, .int .i64, .sl 9, .int .i64, .sl 3, .int .i64, .str, .int .i64, .int .i64, .sl 9, .str, .int .i64, .int .i64, .sl 9, .int .i64, .sl 3, .int .i64, .sl 3], true, [(0, 3), (1, 9), (2, 127)], 328, false⟩),
  (220, ⟨[.int .i64, .str, .sl 184, .bool, .str, .int .i64, .int .i64, .sl 9, .int .i64, .sl 3, .int .i64, .str, .int .i64, .int .i64, .sl 9, .str, .int .i64, .int .i64, .sl 9, .int .i64, .sl 3, .int .i64, .sl 3], true, [(0, 3), (1, 9), (2, 127)], 328, false⟩),
  (231, ⟨[.sl 5], false, [], 24, false⟩),
  (237, ⟨[.int .i64, .int .i64, .int .i64, .int .i64, .int .i64, .int .i64, .int .i64, .int .i64, .sl 3, .int .i64, .sl 3, .int .i64, .int .i64, .sl 3, .int .i64, .bool, .sl 279, .int .i64, .int .i64, .int .i64, .int .i64, .int .i64, .int .i64, .int .i64, .int .i64, .sl 3, .int .i64, .sl 3, .int .i64, .int .i64, .sl 3, .int .i64, .bool, .sl 279, .int .i64, .int .i64, .int .i64, .int .i64, .int .i64, .int .i64, .int .i64, .int .i64, .sl 3, .int .i64, .sl 3, .int .i64, .int .i64, .sl 3, .int .i64, .bool, .sl 279], true, [(0, 197), (17, 197), (34, 197)], 600, false⟩),
  (238, ⟨[.int .i64, .int .i64, .int .i64, .int .i64, .int .i64, .int .i64, .int .i64, .int .i64, .sl 3, .int .i64, .sl 3, .int .i64, .int .i64, .sl 3, .int .i64, .bool, .sl 279, .int .i64, .int .i64, .int .i64, .int .i64, .int .i64, .int .i64, .int .i64, .int .i64, .sl 3, .int .i64, .sl 3, .int .i64, .int .i64, .sl 3, .int .i64, .bool, .sl 279, .int .i64, .int .i64, .int .i64, .int .i64, .int .i64, .int .i64, .int .i64, .int .i64, .sl 3, .int .i64, .sl 3, .int .i64, .int .i64, .sl 3, .int .i64, .bool, .sl 279], true, [(0, 197), (17, 197), (34, 197)], 600, false⟩),
  (240, ⟨[.int .i64, .int .i64, .int .i64, .int .i64, .int .i64, .int .i64, .int .i64, .int .i64, .sl 3, .int .i64, .sl 3, .int .i64, .int .i64, .sl 3, .int .i64, .bool, .sl 248, .int .i64, .int .i64, .int .i64, .int .i64, .int .i64, .int .i64, .int .i64, .int .i64, .sl 3, .int .i64, .sl 3, .int .i64, .int .i64, .sl 3, .int .i64, .bool, .sl 248, .int .i64, .int .i64, .int .i64, .int .i64, .int .i64, .int .i64, .int .i64, .int .i64, .sl 3, .int .i64, .sl 3, .int .i64, .int .i64, .sl 3, .int .i64, .bool, .sl 248], true, [(0, 184), (17, 184), (34, 184)], 600, false⟩),
  (241, ⟨[.int .i64, .int .i64, .int .i64, .int .i64, .int .i64, .int .i64, .int .i64, .int .i64, .sl 3, .int .i64, .sl 3, .int .i64, .int .i64, .sl 3, .int .i64, .bool, .sl 248, .int .i64, .int .i64, .int .i64, .int .i64, .int .i64, .int .i64, .int .i64, .int .i64, .sl 3, .int .i64, .sl 3, .int .i64, .int .i64, .sl 3, .int .i64, .bool, .sl 248, .int .i64, .int .i64, .int .i64, .int .i64, .int .i64, .int .i64, .int .i64, .int .i64, .sl 3, .int .i64, .sl 3, .int .i64, .int .i64, .sl 3, .int .i64, .bool, .sl 248], true, [(0, 184), (17, 184), (34, 184)], 600, false⟩),
  (247, ⟨[.int .i64, .int .i64], true, [(0, 3), (1, 3)], 16, false⟩),
  (248, ⟨[.int .i64, .int .i64], true, [(0, 3), (1, 3)], 16, true⟩),
  (257, ⟨[.int .i64, .sl 3], true, [(0, 3), (1, 121)], 32, false⟩),
  (258, ⟨[.int .i64, .str, .int .i64, .int .i64, .sl 9, .str, .int .i64, .int .i64, .sl 9, .int .i64, .sl 3, .int .i64, .sl 3], true, [(0, 3), (1, 38), (5, 38), (9, 257), (11, 257)], 184, false⟩),
  (259, ⟨[.int .i64, .str, .int .i64, .int .i64, .sl 9, .str, .int .i64, .int .i64, .sl 9, .int .i64, .sl 3, .int .i64, .sl 3], true, [(0, 3), (1, 38), (5, 38), (9, 257), (11, 257)], 184, false⟩),
  (260, ⟨[.sl 197, .bool, .str, .int .i64, .int .i64, .sl 9, .int .i64, .sl 3, .int .i64, .str, .int .i64, .int .i64, .sl 9, .str, .int .i64, .int .i64, .sl 9, .int .i64, .sl 3, .int .i64, .sl 3], true, [(0, 92), (1, 4), (2, 38), (6, 257), (8, 259)], 304, false⟩),
  (261, ⟨[.sl 197, .bool, .str, .int .i64, .int .i64, .sl 9, .int .i64, .sl 3, .int .i64, .str, .int .i64, .int .i64, .sl 9, .str, .int .i64, .int .i64, .sl 9, .int .i64, .sl 3, .int .i64, .sl 3], true, [(0, 92), (1, 4), (2, 38), (6, 257), (8, 259)], 304, false⟩),
  (262, ⟨[.int .i64, .str, .sl 197, .bool, .str, .int .i64, .int .i64, .sl 9, .int .i64, .sl 3, .int .i64, .str, .int .i64, .int .i64, .sl 9, .str, .int .i64, .int .i64, .sl 9, .int .i64, .sl 3, .int .i64, .sl 3], true, [(0, 3), (1, 9), (2, 261)], 328, false⟩),
  (263, ⟨[.int .i64, .str, .sl 197, .bool, .str, .int .i64, .int .i64, .sl 9, .int .i64, .sl 3, .int .i64, .str, .int .i64, .int .i64, .sl 9, .str, .int .i64, .int .i64, .sl 9, .int .i64, .sl 3, .int .i64, .sl 3], true, [(0, 3), (1, 9), (2, 261)], 328, false⟩),
  (279, ⟨[.int .i64, .int .i64], true, [(0, 3), (1, 3)], 16, true⟩),
  (316, ⟨[.int .u32], false, [], 4, false⟩),
  (317, ⟨[.int .u8], false, [], 1, false⟩),
  (318, ⟨[.int .u8], false, [], 1, false⟩),
  (321, ⟨[.int .i32], false, [], 4, false⟩),
  (322, ⟨[.int .i32], false, [], 4, false⟩)]
noncomputable abbrev Ev : Env := Env0 Tab
theorem tab_ok : tableB Try.prog Tab = true := by kernel_rfl
theorem mix : Try.prog.follows .mixedOrders = true := by kernel_rfl
/-! laws.szPet -/
namespace laws_szPet
noncomputable def F (x0 : MPet) (x1 : Int) : Ans := (bif (decide ((IntKind.i64.wrap (x1 - (x0.fName.size : Int))) < 0)) then ret ((-1) : Int) else ret ((IntKind.i64.wrap (x1 - (x0.fName.size : Int))) : Int))
def pats : List Pat := [.agg [.str, .int .i64], .rd (.int .i64)]
def res : RP := .one (.rd (.int .i64))
noncomputable abbrev E : Env := { T := assoc Tab, G := conG [], nt := 13 }
set_option maxRecDepth 100000
theorem run_eq (n : Nat) (ls : List L) : runF E (fun _ => []) Try.f102 res n (initS pats ls) = F (MPet.dec ls) ((dropT 2 ls).headD .hole).toInt := by kernel_rfl
noncomputable def md (a0 : MPet) (a1 : Int) : Int := szM (MPet.size a0) a1
def gd (a0 : MPet) (a1 : Int) : Prop := (MPet.Sm maxLen a0) ∧ 0 ≤ a1 ∧ a1 ≤ 1048576
def acc (ls : List L) : MPet × Int := ((MPet.dec ls), ((dropT 2 ls).headD .hole).toInt)
noncomputable def R : (MPet × Int) → Option Int := RR (p2 gd) (u2 md)
theorem R_eq {a0} {a1} (h : gd a0 a1) : R (a0, a1) = some (md a0 a1) := RR_eq (a := (a0, a1)) h
noncomputable def con : Con := CN pats res acc R
theorem okF (a0 : MPet) (a1 : Int) (hg : gd a0 a1) : F a0 a1 = ret ((md a0 a1) : Int) := by
  obtain ⟨hs, g0, g1⟩ := hg
  unfold md
  show (bif (decide ((IntKind.i64.wrap (a1 - (a0.fName.size : Int))) < 0)) then ret ((-1) : Int) else ret ((IntKind.i64.wrap (a1 - (a0.fName.size : Int))) : Int)) = _
  rw [sz_wrap (left := a1) (s := a0.fName.size) (by omega) (by omega) hs]
  by_cases c0 : a1 - ((a0.fName.size : Nat) : Int) < 0
  · rw [decide_eq_true c0, cond_true]; rw [show szM (MPet.size a0) a1 = -1 from szM_neg (by unfold MPet.size; omega)]; try rfl
  rw [decide_eq_false c0, cond_false]
  rw [show szM (MPet.size a0) a1 = a1 - ((a0.fName.size : Nat) : Int) from by rw [szM_pos (by unfold MPet.size; omega)]; unfold MPet.size; omega]
theorem valid_ : Valid Try.prog Ev 102 con := VV (run := fun _ x => F x.1 x.2) mix tab_ok .nil Try.func102 (by kernel_rfl) run_eq (fun _ a _ _ hg => ⟨0, okF a.1 a.2 hg⟩)
end laws_szPet
/-! laws.szPetS -/
namespace laws_szPetS
inductive Pt where
  | p0 (a : List (List L)) (b : Int) (c : Int)
def pid : Pt → Nat
  | .p0 .. => 5
def pvs : Pt → List V
  | .p0 a b c => [.sl none 149 a, .int .i64 b, .int .i64 c]
def phs : Pt → List Root
  | .p0 a b c => []
noncomputable def step (J : Pt → Ans) : Pt → Ans
  | .p0 a b c => (bif (decide (c < (a.length : Int))) then (bif (decide ((0 : Int) ≤ c)) then (bif (decide (c < (a.length : Int))) then (call (laws_szPet.R ((MPet.at a (Int.toNat c)), b)) fun v1 => (bif (decide (v1 < 0)) then ret ((-1) : Int) else J (.p0 a v1 (IntKind.i64.wrap (c + 1))))) else none) else none) else ret (b : Int))
noncomputable def start (J : Pt → Ans) (x0 : List (List L)) (x1 : Int) : Ans := (bif (decide ((IntKind.i64.wrap (x1 - (x0.length : Int))) < 0)) then ret ((-1) : Int) else J (.p0 x0 (IntKind.i64.wrap (x1 - (x0.length : Int))) 0))
def live : Nat → Live := fun i => match i with | 5 => [(0, none), (1, none), (5, none)] | _ => []
def pats : List Pat := [.rd (.sl 149), .rd (.int .i64)]
def res : RP := .one (.rd (.int .i64))
noncomputable abbrev E : Env := { T := assoc Tab, G := conG [(102, laws_szPet.con)], nt := 27 }
set_option maxRecDepth 100000
theorem step_eq (I : Heads) (p : Pt) : enterC E live I (pid p) (bodyOf Try.f20) (stOf (live (pid p)) (pvs p) (phs p)) (doneK E Try.f20 res) = step (fun q => I (pid q) (pvs q) (phs q)) p := by
  cases p <;> kernel_rfl
theorem start_eq (I : Heads) (ls : List L) : runC E live I (bodyOf Try.f20) (initS pats ls) (doneK E Try.f20 res) = start (fun q => I (pid q) (pvs q) (phs q)) (ls.headD .hole).toSl ((dropT 1 ls).headD .hole).toInt := by kernel_rfl
theorem run_eq (n : Nat) (ls : List L) : runF E live Try.f20 res n (initS pats ls) = start (iter step n) (ls.headD .hole).toSl ((dropT 1 ls).headD .hole).toInt := runF_iter (id := pid) (vs := pvs) (hs := phs) (step := step) (start := fun J => start J (ls.headD .hole).toSl ((dropT 1 ls).headD .hole).toInt) step_eq (fun I => start_eq I ls) n
noncomputable def md (a0 : List MPet) (a1 : Int) : Int := szM (szL (fun y : MPet => MPet.size y) a0) a1
def gd (a0 : List MPet) (a1 : Int) : Prop := (SmL maxLen (fun y : MPet => MPet.Sm maxLen y) a0) ∧ 0 ≤ a1 ∧ a1 ≤ 1048576
def acc (ls : List L) : List (List L) × Int := ((ls.headD .hole).toSl, ((dropT 1 ls).headD .hole).toInt)
noncomputable def R : (List (List L) × Int) → Option Int := RR (p2 gd) (u2 md)
theorem R_eq {a0} {a1} (h : gd a0 a1) : R ((a0.map MPet.row), a1) = some (md a0 a1) := RR_eq (a := (a0, a1)) h
noncomputable def con : Con := CN pats res acc R
theorem okF (a0 : List MPet) (a1 : Int) (hg : gd a0 a1) : ∃ n, start (iter step n) (a0.map MPet.row) a1 = ret ((md a0 a1) : Int) := by
  obtain ⟨hs, g0, g1⟩ := hg
  unfold start md
  simp only [List.length_map]
  refine sz_list (pt := fun left i => Pt.p0 (a0.map MPet.row) left (i : Int)) (f := fun y : MPet => MPet.size y) hs.1 (fun J i h left p0 p1 => ?_) (fun J left => ?_) g0 g1
  · simp only [step, List.length_map, lt_dec h, zle_dec, cond_true, toNat_nat, MPet.at_row h]
    rw [call_eq (laws_szPet.R_eq ⟨hs.get h, p0, p1⟩), wrap_succ h hs.1]
    unfold laws_szPet.md
    by_cases hc : left < ((MPet.size (a0[i]) : Nat) : Int)
    · rw [szM_neg hc, if_pos hc]; rfl
    · rw [szM_pos hc, if_neg hc, dec_neg (by omega)]; rfl
  · simp only [step, List.length_map, nlt_dec, cond_false]
theorem valid_ : Valid Try.prog Ev 20 con := VV (run := fun n x => start (iter step n) x.1 x.2) mix tab_ok (.cons laws_szPet.valid_ .nil) Try.func20 (by kernel_rfl) run_eq (fun _ a _ _ hg => okF a.1 a.2 hg)
end laws_szPetS
/-! laws.toPet -/
namespace laws_toPet
noncomputable def F (x0 : MPet) : Ans := ret (x0 : MPet)
def pats : List Pat := [.agg [.str, .int .i64]]
def res : RP := .agg [.rd (.str), .rd (.int .i64)]
noncomputable abbrev E : Env := { T := assoc Tab, G := conG [], nt := 11 }
set_option maxRecDepth 100000
theorem run_eq (n : Nat) (ls : List L) : runF E (fun _ => []) Try.f104 res n (initS pats ls) = F (MPet.dec ls) := by kernel_rfl
noncomputable def md (a0 : MPet) : MPet := a0
def gd (a0 : MPet) : Prop := MPet.Sm (2 ^ 36) a0
def acc (ls : List L) : MPet := (MPet.dec ls)
noncomputable def R : MPet → Option MPet := RR gd md
theorem R_eq {a0} (h : gd a0) : R a0 = some (md a0) := RR_eq (a := a0) h
noncomputable def con : Con := CN pats res acc R
theorem okF (a0 : MPet) (hg : gd a0) : F a0 = ret ((md a0) : MPet) := by
  unfold md
  show ret (a0 : MPet) = _
  rfl
theorem valid_ : Valid Try.prog Ev 104 con := VV (run := fun _ x => F x) mix tab_ok .nil Try.func104 (by kernel_rfl) run_eq (fun _ a _ _ hg => ⟨0, okF a hg⟩)
end laws_toPet
/-! laws.toPetS -/
namespace laws_toPetS
inductive Pt where
  | p0 (a : List (List L)) (b : Int) (c : List (List L))
def pid : Pt → Nat
  | .p0 .. => 3
def pvs : Pt → List V
  | .p0 a b c => [.sl none 149 a, .own 0, .int .i64 b]
def phs : Pt → List Root
  | .p0 a b c => [.row 150 c]
noncomputable def step (J : Pt → Ans) : Pt → Ans
  | .p0 a b c => (bif (decide (b < (a.length : Int))) then (bif (decide ((0 : Int) ≤ b)) then (bif (decide (b < (a.length : Int))) then (call (laws_toPet.R (MPet.at a (Int.toNat b))) fun v1 => (bif (decide ((0 : Int) ≤ b)) then (bif (decide (b < (c.length : Int))) then J (.p0 a (IntKind.i64.wrap (b + 1)) (List.set c (Int.toNat b) (MPet.enc v1))) else none) else none)) else none) else none) else ret (c : List (List L)))
noncomputable def start (J : Pt → Ans) (x0 : List (List L)) : Ans := (bif (decide ((0 : Int) ≤ (x0.length : Int))) then (bif (decide ((x0.length : Int) ≤ (x0.length : Int))) then (bif (decide ((x0.length : Int) * 24 ≤ 140737488355328)) then J (.p0 x0 0 (List.replicate (Int.toNat (x0.length : Int)) [L.str ⟨#[]⟩, L.int 0])) else none) else none) else none)
def live : Nat → Live := fun i => match i with | 3 => [(0, none), (3, none), (4, none)] | _ => []
def pats : List Pat := [.rd (.sl 149)]
def res : RP := .one (.fr 150)
noncomputable abbrev E : Env := { T := assoc Tab, G := conG [(104, laws_toPet.con)], nt := 23 }
set_option maxRecDepth 100000
theorem step_eq (I : Heads) (p : Pt) : enterC E live I (pid p) (bodyOf Try.f22) (stOf (live (pid p)) (pvs p) (phs p)) (doneK E Try.f22 res) = step (fun q => I (pid q) (pvs q) (phs q)) p := by
  cases p <;> kernel_rfl
theorem start_eq (I : Heads) (ls : List L) : runC E live I (bodyOf Try.f22) (initS pats ls) (doneK E Try.f22 res) = start (fun q => I (pid q) (pvs q) (phs q)) (ls.headD .hole).toSl := by kernel_rfl
theorem run_eq (n : Nat) (ls : List L) : runF E live Try.f22 res n (initS pats ls) = start (iter step n) (ls.headD .hole).toSl := runF_iter (id := pid) (vs := pvs) (hs := phs) (step := step) (start := fun J => start J (ls.headD .hole).toSl) step_eq (fun I => start_eq I ls) n
noncomputable def md (a0 : List MPet) : List MPet := a0
def gd (a0 : List MPet) : Prop := SmL (2 ^ 36) (fun y : MPet => MPet.Sm (2 ^ 36) y) a0
def acc (ls : List L) : List (List L) := (ls.headD .hole).toSl
noncomputable def R : (List (List L)) → Option (List (List L)) := RR gd md
theorem R_eq {a0} (h : gd a0) : R (a0.map MPet.row) = some ((md a0).map MPet.row) := RR_eq (a := a0) h
noncomputable def con : Con := CN pats res acc R
theorem okF (a0 : List MPet) (hg : gd a0) : ∃ n, start (iter step n) (a0.map MPet.row) = ret (((md a0).map MPet.row) : List (List L)) := by
  unfold start md
  simp only [List.length_map]
  refine to_list (b := 24) (pt := fun i c => Pt.p0 (a0.map MPet.row) (i : Int) c) (by have := hg.1; simp at this; omega) (fun J i h c hc => ?_) (fun J c => ?_)
  · simp only [step, List.length_map, lt_dec h, zle_dec, cond_true, toNat_nat, MPet.at_row h, hc]
    rw [call_eq (laws_toPet.R_eq (hg.get h))]
    try simp only [hc, lt_dec h, cond_true]
    rw [wrap_succ (n := a0.length) h (by have := hg.1; simp only [maxLen]; simp at this; omega)]
    rfl
  · simp only [step, List.length_map, nlt_dec, cond_false]
theorem valid_ : Valid Try.prog Ev 22 con := VV (run := fun n x => start (iter step n) x) mix tab_ok (.cons laws_toPet.valid_ .nil) Try.func22 (by kernel_rfl) run_eq (fun _ a _ _ hg => okF a hg)
end laws_toPetS
/-! spec.l1In -/
namespace spec_l1In
noncomputable def F (x0 : Int) (x1 : Int) (x2 : Int) : Ans := (bif (decide (x0 ≥ x1)) then ret ((decide (x0 ≤ x2)) : Bool) else ret (false : Bool))
def pats : List Pat := [.rd (.int .i64), .rd (.int .i64), .rd (.int .i64)]
def res : RP := .one (.rd (.bool))
noncomputable abbrev E : Env := { T := assoc Tab, G := conG [], nt := 15 }
set_option maxRecDepth 100000
theorem run_eq (n : Nat) (ls : List L) : runF E (fun _ => []) Try.f97 res n (initS pats ls) = F (ls.headD .hole).toInt ((dropT 1 ls).headD .hole).toInt ((dropT 2 ls).headD .hole).toInt := by kernel_rfl
noncomputable def md (a0 : Int) (a1 : Int) (a2 : Int) : Bool := (bif (decide (a0 ≥ a1)) then ((decide (a0 ≤ a2)) : Bool) else (false : Bool))
def gd (a0 : Int) (a1 : Int) (a2 : Int) : Prop := True
def acc (ls : List L) : Int × Int × Int := ((ls.headD .hole).toInt, ((dropT 1 ls).headD .hole).toInt, ((dropT 2 ls).headD .hole).toInt)
noncomputable def R : (Int × Int × Int) → Option Bool := RR (p3 gd) (u3 md)
theorem R_eq {a0} {a1} {a2} (h : gd a0 a1 a2) : R (a0, a1, a2) = some (md a0 a1 a2) := RR_eq (a := (a0, a1, a2)) h
noncomputable def con : Con := CN pats res acc R
theorem okF (a0 : Int) (a1 : Int) (a2 : Int) (hg : gd a0 a1 a2) : F a0 a1 a2 = ret ((md a0 a1 a2) : Bool) := by
  unfold F md
  try simp only [S0]
  refine bif_out ret (fun c1 => ?_) (fun _ => rfl)
  all_goals first | rfl | (simp only [S0, MP]; first | done | rfl)
theorem valid_ : Valid Try.prog Ev 97 con := VV (run := fun _ x => F x.1 x.2.1 x.2.2) mix tab_ok .nil Try.func97 (by kernel_rfl) run_eq (fun _ a _ _ hg => ⟨0, okF a.1 a.2.1 a.2.2 hg⟩)
end spec_l1In
/-! spec.IsLabel -/
namespace spec_IsLabel
inductive Pt where
  | p0 (a : ByteArray) (b : Int)
def pid : Pt → Nat
  | .p0 .. => 4
def pvs : Pt → List V
  | .p0 a b => [.str a, .int .i64 b]
def phs : Pt → List Root
  | .p0 a b => []
noncomputable def step (J : Pt → Ans) : Pt → Ans
  | .p0 a b => (bif (decide (b < (a.size : Int))) then (bif (decide ((0 : Int) ≤ b)) then (bif (decide (b < (a.size : Int))) then (bif (decide ((chAt a (Int.toNat b)) < 97)) then (bif (decide ((0 : Int) ≤ b)) then (bif (decide (b < (a.size : Int))) then (bif (decide ((chAt a (Int.toNat b)) < 48)) then (bif (decide ((0 : Int) ≤ b)) then (bif (decide (b < (a.size : Int))) then (bif ((chAt a (Int.toNat b)) != 45) then ret (false : Bool) else J (.p0 a (IntKind.i64.wrap (b + 1)))) else none) else none) else (bif (decide ((0 : Int) ≤ b)) then (bif (decide (b < (a.size : Int))) then (bif (decide ((chAt a (Int.toNat b)) > 57)) then (bif (decide ((0 : Int) ≤ b)) then (bif (decide (b < (a.size : Int))) then (bif ((chAt a (Int.toNat b)) != 45) then ret (false : Bool) else J (.p0 a (IntKind.i64.wrap (b + 1)))) else none) else none) else J (.p0 a (IntKind.i64.wrap (b + 1)))) else none) else none)) else none) else none) else (bif (decide ((0 : Int) ≤ b)) then (bif (decide (b < (a.size : Int))) then (bif (decide ((chAt a (Int.toNat b)) > 122)) then (bif (decide ((0 : Int) ≤ b)) then (bif (decide (b < (a.size : Int))) then (bif (decide ((chAt a (Int.toNat b)) < 48)) then (bif (decide ((0 : Int) ≤ b)) then (bif (decide (b < (a.size : Int))) then (bif ((chAt a (Int.toNat b)) != 45) then ret (false : Bool) else J (.p0 a (IntKind.i64.wrap (b + 1)))) else none) else none) else (bif (decide ((0 : Int) ≤ b)) then (bif (decide (b < (a.size : Int))) then (bif (decide ((chAt a (Int.toNat b)) > 57)) then (bif (decide ((0 : Int) ≤ b)) then (bif (decide (b < (a.size : Int))) then (bif ((chAt a (Int.toNat b)) != 45) then ret (false : Bool) else J (.p0 a (IntKind.i64.wrap (b + 1)))) else none) else none) else J (.p0 a (IntKind.i64.wrap (b + 1)))) else none) else none)) else none) else none) else J (.p0 a (IntKind.i64.wrap (b + 1)))) else none) else none)) else none) else none) else ret (true : Bool))
noncomputable def start (J : Pt → Ans) (x0 : ByteArray) : Ans := (call (spec_l1In.R ((x0.size : Int), 1, 8)) fun v1 => (bif (!v1) then ret (false : Bool) else (bif (decide ((0 : Int) < (x0.size : Int))) then (bif ((chAt x0 0) == 45) then ret (false : Bool) else (bif (decide ((0 : Int) ≤ (IntKind.i64.wrap ((x0.size : Int) - 1)))) then (bif (decide ((IntKind.i64.wrap ((x0.size : Int) - 1)) < (x0.size : Int))) then (bif ((chAt x0 (Int.toNat (IntKind.i64.wrap ((x0.size : Int) - 1)))) == 45) then ret (false : Bool) else J (.p0 x0 0)) else none) else none)) else none)))
def live : Nat → Live := fun i => match i with | 4 => [(0, none), (3, none)] | _ => []
def pats : List Pat := [.rd (.str)]
def res : RP := .one (.rd (.bool))
noncomputable abbrev E : Env := { T := assoc Tab, G := conG [(97, spec_l1In.con)], nt := 55 }
set_option maxRecDepth 100000
theorem step_eq (I : Heads) (p : Pt) : enterC E live I (pid p) (bodyOf Try.f96) (stOf (live (pid p)) (pvs p) (phs p)) (doneK E Try.f96 res) = step (fun q => I (pid q) (pvs q) (phs q)) p := by
  cases p <;> kernel_rfl
theorem start_eq (I : Heads) (ls : List L) : runC E live I (bodyOf Try.f96) (initS pats ls) (doneK E Try.f96 res) = start (fun q => I (pid q) (pvs q) (phs q)) (ls.headD .hole).toStr := by kernel_rfl
theorem run_eq (n : Nat) (ls : List L) : runF E live Try.f96 res n (initS pats ls) = start (iter step n) (ls.headD .hole).toStr := runF_iter (id := pid) (vs := pvs) (hs := phs) (step := step) (start := fun J => start J (ls.headD .hole).toStr) step_eq (fun I => start_eq I ls) n
noncomputable def md (a0 : ByteArray) : Bool := (bif (!(spec_l1In.md (a0.size : Int) 1 8)) then (false : Bool) else (bif ((chAt a0 0) == 45) then (false : Bool) else (bif ((chAt a0 (Int.toNat (IntKind.i64.wrap ((a0.size : Int) - 1)))) == 45) then (false : Bool) else (loopM (S := Unit) (β := Bool) (fun (i4 : Nat) (s6 : Unit) => (bif (decide ((chAt a0 i4) < 97)) then (bif (decide ((chAt a0 i4) < 48)) then (bif ((chAt a0 i4) != 45) then (.inr (false : Bool)) else (.inl ())) else (bif (decide ((chAt a0 i4) > 57)) then (bif ((chAt a0 i4) != 45) then (.inr (false : Bool)) else (.inl ())) else (.inl ()))) else (bif (decide ((chAt a0 i4) > 122)) then (bif (decide ((chAt a0 i4) < 48)) then (bif ((chAt a0 i4) != 45) then (.inr (false : Bool)) else (.inl ())) else (bif (decide ((chAt a0 i4) > 57)) then (bif ((chAt a0 i4) != 45) then (.inr (false : Bool)) else (.inl ())) else (.inl ()))) else (.inl ())))) (fun (s6 : Unit) => (true : Bool)) a0.size 0 ()))))
def gd (a0 : ByteArray) : Prop := (a0.size ≤ (2 ^ 21))
def acc (ls : List L) : ByteArray := (ls.headD .hole).toStr
noncomputable def R : ByteArray → Option Bool := RR gd md
theorem R_eq {a0} (h : gd a0) : R a0 = some (md a0) := RR_eq (a := a0) h
noncomputable def con : Con := CN pats res acc R
theorem okF (a0 : ByteArray) (hg : gd a0) : ∃ n, start (iter step n) a0 = ret ((md a0) : Bool) := by
  unfold gd at hg
  have H0 := hg
  unfold start md
  try simp only [S0]
  refine ex_call_to (spec_l1In.md (a0.size : Int) 1 8) (spec_l1In.R_eq (a0 := (a0.size : Int)) (a1 := 1) (a2 := 8) trivial) ?_
  refine ex_bif ret (fun _ => ⟨0, rfl⟩) (fun c1 => ?_)
  have dc1 := c1
  try simp only [DC] at dc1
  have Dc1 := c1
  try simp [spec_l1In.md] at Dc1
  refine ex_yes (by
      have := H0
      refine decide_eq_true ?_
      try simp (disch := omega) only [LN, wi]
      first | omega | (simp; done) | (simp; omega)) ?_
  refine ex_bif ret (fun _ => ⟨0, rfl⟩) (fun c2 => ?_)
  have dc2 := c2
  try simp only [DC] at dc2
  refine ex_yes (by
      have := H0
      refine decide_eq_true ?_
      try simp (disch := omega) only [LN, wi]
      first | omega | (simp; done) | (simp; omega)) ?_
  refine ex_yes (by
      have := H0
      refine decide_eq_true ?_
      try simp (disch := omega) only [LN, wi]
      first | omega | (simp; done) | (simp; omega)) ?_
  refine ex_bif ret (fun _ => ⟨0, rfl⟩) (fun c3 => ?_)
  have dc3 := c3
  try simp only [DC] at dc3
  have Bh5 : a0.size ≤ maxLen := (by
      have := H0
      try simp only [maxLen] at *
      omega)
  refine ex_pt (p := Pt.p0 a0 0) (by first | rfl | (simp only [S0, MP]; done) | (simp only [MP]; rfl)) ?_
  refine loopM_ok (pt := fun (i4 : Nat) (s6 : Unit) => Pt.p0 a0 (i4 : Int)) (s := (() : Unit)) (out := ret) (fun _ _ => True) (fun J i4 s6 h5 hih5 => ?_) (fun s6 hih5 => ?_) trivial
  · simp only [step, S0]
    have bb_ := Bh5
    simp only [maxLen] at bb_
    have := H0
    refine Rnd.yes (by apply decide_eq_true; omega) ?_
    refine Rnd.yes zle_dec ?_
    refine Rnd.yes (lt_dec h5) ?_
    refine Rnd.bif (fun c7 => ?_) (fun c7 => ?_)
    · refine Rnd.yes zle_dec ?_
      refine Rnd.yes (lt_dec h5) ?_
      refine Rnd.bif (fun c8 => ?_) (fun c8 => ?_)
      · refine Rnd.yes zle_dec ?_
        refine Rnd.yes (lt_dec h5) ?_
        refine Rnd.bif (fun _ => Rnd.inr rfl) (fun c9 => ?_)
        refine Rnd.inl trivial ?_
        rw [wrap_succ h5 Bh5]
        all_goals first | rfl | (simp only [S0, MP]; first | done | rfl)
      · refine Rnd.yes zle_dec ?_
        refine Rnd.yes (lt_dec h5) ?_
        refine Rnd.bif (fun c10 => ?_) (fun c10 => ?_)
        · refine Rnd.yes zle_dec ?_
          refine Rnd.yes (lt_dec h5) ?_
          refine Rnd.bif (fun _ => Rnd.inr rfl) (fun c11 => ?_)
          refine Rnd.inl trivial ?_
          rw [wrap_succ h5 Bh5]
          all_goals first | rfl | (simp only [S0, MP]; first | done | rfl)
        · refine Rnd.inl trivial ?_
          rw [wrap_succ h5 Bh5]
          all_goals first | rfl | (simp only [S0, MP]; first | done | rfl)
    · refine Rnd.yes zle_dec ?_
      refine Rnd.yes (lt_dec h5) ?_
      refine Rnd.bif (fun c12 => ?_) (fun c12 => ?_)
      · refine Rnd.yes zle_dec ?_
        refine Rnd.yes (lt_dec h5) ?_
        refine Rnd.bif (fun c13 => ?_) (fun c13 => ?_)
        · refine Rnd.yes zle_dec ?_
          refine Rnd.yes (lt_dec h5) ?_
          refine Rnd.bif (fun _ => Rnd.inr rfl) (fun c14 => ?_)
          refine Rnd.inl trivial ?_
          rw [wrap_succ h5 Bh5]
          all_goals first | rfl | (simp only [S0, MP]; first | done | rfl)
        · refine Rnd.yes zle_dec ?_
          refine Rnd.yes (lt_dec h5) ?_
          refine Rnd.bif (fun c15 => ?_) (fun c15 => ?_)
          · refine Rnd.yes zle_dec ?_
            refine Rnd.yes (lt_dec h5) ?_
            refine Rnd.bif (fun _ => Rnd.inr rfl) (fun c16 => ?_)
            refine Rnd.inl trivial ?_
            rw [wrap_succ h5 Bh5]
            all_goals first | rfl | (simp only [S0, MP]; first | done | rfl)
          · refine Rnd.inl trivial ?_
            rw [wrap_succ h5 Bh5]
            all_goals first | rfl | (simp only [S0, MP]; first | done | rfl)
      · refine Rnd.inl trivial ?_
        rw [wrap_succ h5 Bh5]
        all_goals first | rfl | (simp only [S0, MP]; first | done | rfl)
  · simp only [step, S0]
    have := H0
    refine ex_no (by apply decide_eq_false; omega) ?_
    refine ⟨0, ?_⟩
    all_goals first | rfl | (simp only [S0, MP]; first | done | rfl)
theorem valid_ : Valid Try.prog Ev 96 con := VV (run := fun n x => start (iter step n) x) mix tab_ok (.cons spec_l1In.valid_ .nil) Try.func96 (by kernel_rfl) run_eq (fun _ a _ _ hg => okF a hg)
end spec_IsLabel
/-! spec.CompareLabels -/
namespace spec_CompareLabels
noncomputable def F (x0 : ByteArray) (x1 : ByteArray) : Ans := (bif (Op.bytesLess x0.toList x1.toList) then ret ((-1) : Int) else (bif (!((Op.bytesLess x0.toList x1.toList) || (x0.toList == x1.toList))) then ret (1 : Int) else ret (0 : Int)))
def pats : List Pat := [.rd (.str), .rd (.str)]
def res : RP := .one (.rd (.int .i64))
noncomputable abbrev E : Env := { T := assoc Tab, G := conG [], nt := 13 }
set_option maxRecDepth 100000
theorem run_eq (n : Nat) (ls : List L) : runF E (fun _ => []) Try.f103 res n (initS pats ls) = F (ls.headD .hole).toStr ((dropT 1 ls).headD .hole).toStr := by kernel_rfl
noncomputable def md (a0 : ByteArray) (a1 : ByteArray) : Int := (bif (Op.bytesLess a0.toList a1.toList) then ((-1) : Int) else (bif (!((Op.bytesLess a0.toList a1.toList) || (a0.toList == a1.toList))) then (1 : Int) else (0 : Int)))
def gd (a0 : ByteArray) (a1 : ByteArray) : Prop := True
def acc (ls : List L) : ByteArray × ByteArray := ((ls.headD .hole).toStr, ((dropT 1 ls).headD .hole).toStr)
noncomputable def R : (ByteArray × ByteArray) → Option Int := RR (p2 gd) (u2 md)
theorem R_eq {a0} {a1} (h : gd a0 a1) : R (a0, a1) = some (md a0 a1) := RR_eq (a := (a0, a1)) h
noncomputable def con : Con := CN pats res acc R
theorem okF (a0 : ByteArray) (a1 : ByteArray) (hg : gd a0 a1) : F a0 a1 = ret ((md a0 a1) : Int) := by
  unfold F md
  try simp only [S0]
  refine bif_out ret (fun _ => rfl) (fun c1 => ?_)
  refine bif_out ret (fun _ => rfl) (fun _ => rfl)
theorem valid_ : Valid Try.prog Ev 103 con := VV (run := fun _ x => F x.1 x.2) mix tab_ok .nil Try.func103 (by kernel_rfl) run_eq (fun _ a _ _ hg => ⟨0, okF a.1 a.2 hg⟩)
theorem vals (a b : ByteArray) : md a b = -1 ∨ md a b = 0 ∨ md a b = 1 := by
  unfold md
  cases Op.bytesLess a.toList b.toList
  · cases (!(false || (a.toList == b.toList))) <;> simp
  · simp
theorem lt (a b : ByteArray) : decide (md a b < 0) = (md a b == -1) := by
  rcases vals a b with h | h | h <;> rw [h] <;> rfl
theorem gt (a b : ByteArray) : decide (md a b > 0) = (md a b == 1) := by
  rcases vals a b with h | h | h <;> rw [h] <;> rfl
end spec_CompareLabels
/-! spec.AreNames -/
namespace spec_AreNames
inductive Pt where
  | p0 (a : List (List L)) (b : Int)
def pid : Pt → Nat
  | .p0 .. => 2
def pvs : Pt → List V
  | .p0 a b => [.sl none 150 a, .int .i64 b]
def phs : Pt → List Root
  | .p0 a b => []
noncomputable def step (J : Pt → Ans) : Pt → Ans
  | .p0 a b => (bif (decide (b < (a.length : Int))) then (bif (decide ((0 : Int) ≤ b)) then (bif (decide (b < (a.length : Int))) then (call (spec_IsLabel.R ((MPet.at a (Int.toNat b)).fName)) fun v1 => (bif (!v1) then ret (false : Bool) else (bif (decide ((0 : Int) ≤ b)) then (bif (decide (b < (a.length : Int))) then (call (spec_l1In.R ((MPet.at a (Int.toNat b)).fZone, 0, 2147483646)) fun v2 => (bif (!v2) then ret (false : Bool) else (bif (decide (b > 0)) then (bif (decide ((0 : Int) ≤ (IntKind.i64.wrap (b - 1)))) then (bif (decide ((IntKind.i64.wrap (b - 1)) < (a.length : Int))) then (bif (decide ((0 : Int) ≤ b)) then (bif (decide (b < (a.length : Int))) then (call (spec_CompareLabels.R ((MPet.at a (Int.toNat (IntKind.i64.wrap (b - 1)))).fName, (MPet.at a (Int.toNat b)).fName)) fun v3 => (bif (v3 != (-1)) then ret (false : Bool) else J (.p0 a (IntKind.i64.wrap (b + 1))))) else none) else none) else none) else none) else J (.p0 a (IntKind.i64.wrap (b + 1)))))) else none) else none))) else none) else none) else ret ((decide ((a.length : Int) ≤ 8)) : Bool))
noncomputable def start (J : Pt → Ans) (x0 : List (List L)) : Ans := J (.p0 x0 0)
def live : Nat → Live := fun i => match i with | 2 => [(0, none), (3, none)] | _ => []
def pats : List Pat := [.rd (.sl 150)]
def res : RP := .one (.rd (.bool))
noncomputable abbrev E : Env := { T := assoc Tab, G := conG [(96, spec_IsLabel.con), (97, spec_l1In.con), (103, spec_CompareLabels.con)], nt := 48 }
set_option maxRecDepth 100000
theorem step_eq (I : Heads) (p : Pt) : enterC E live I (pid p) (bodyOf Try.f21) (stOf (live (pid p)) (pvs p) (phs p)) (doneK E Try.f21 res) = step (fun q => I (pid q) (pvs q) (phs q)) p := by
  cases p <;> kernel_rfl
theorem start_eq (I : Heads) (ls : List L) : runC E live I (bodyOf Try.f21) (initS pats ls) (doneK E Try.f21 res) = start (fun q => I (pid q) (pvs q) (phs q)) (ls.headD .hole).toSl := by kernel_rfl
theorem run_eq (n : Nat) (ls : List L) : runF E live Try.f21 res n (initS pats ls) = start (iter step n) (ls.headD .hole).toSl := runF_iter (id := pid) (vs := pvs) (hs := phs) (step := step) (start := fun J => start J (ls.headD .hole).toSl) step_eq (fun I => start_eq I ls) n
noncomputable def md (a0 : List MPet) : Bool := (eachI (S := Unit) (β := Bool) (fun (i1 : Nat) (y1 : MPet) (s3 : Unit) => (bif (!(spec_IsLabel.md (y1.fName))) then (.inr (false : Bool)) else (bif (!(spec_l1In.md (y1.fZone) 0 2147483646)) then (.inr (false : Bool)) else (bif (decide ((i1 : Int) > 0)) then (bif ((spec_CompareLabels.md ((a0.getD (Int.toNat (IntKind.i64.wrap ((i1 : Int) - 1))) MPet.zero).fName) (y1.fName)) != (-1)) then (.inr (false : Bool)) else (.inl ())) else (.inl ()))))) (fun (s3 : Unit) => ((decide ((a0.length : Int) ≤ 8)) : Bool)) 0 a0 ())
def gd (a0 : List MPet) : Prop := (SmL (2 ^ 21) (fun y : MPet => MPet.Sm (2 ^ 21) y) a0)
def acc (ls : List L) : List (List L) := (ls.headD .hole).toSl
noncomputable def R : (List (List L)) → Option Bool := RR gd md
theorem R_eq {a0} (h : gd a0) : R (a0.map MPet.row) = some (md a0) := RR_eq (a := a0) h
noncomputable def con : Con := CN pats res acc R
theorem okF (a0 : List MPet) (hg : gd a0) : ∃ n, start (iter step n) (a0.map MPet.row) = ret ((md a0) : Bool) := by
  unfold gd at hg
  have H0 := hg
  unfold start md
  try simp only [S0, MPet.rs]
  have Bh2 : a0.length ≤ maxLen := (by
      have := (H0).1
      try simp only [maxLen] at *
      omega)
  refine ex_eq (out := ret) (loopM_eachI (z := MPet.zero)) ?_
  refine ex_pt (p := Pt.p0 (a0.map MPet.row) 0) (by first | rfl | (simp only [S0, MPet.rs, MP]; done) | (simp only [MP]; rfl)) ?_
  refine loopM_ok (pt := fun (i1 : Nat) (s3 : Unit) => Pt.p0 (a0.map MPet.row) (i1 : Int)) (s := (() : Unit)) (out := ret) (fun _ _ => True) (fun J i1 s3 h2 hih2 => ?_) (fun s3 hih2 => ?_) trivial
  · simp only [step, S0, MPet.rs]
    have bb_ := Bh2
    simp only [maxLen] at bb_
    have := (H0).1
    refine Rnd.yes (by apply decide_eq_true; omega) ?_
    refine Rnd.yes zle_dec ?_
    refine Rnd.yes (lt_dec h2) ?_
    refine Rnd.call_to (spec_IsLabel.md ((a0.getD i1 MPet.zero).fName)) (spec_IsLabel.R_eq (a0 := (a0.getD i1 MPet.zero).fName) (SmL.getD (z := MPet.zero) H0 h2)) ?_
    refine Rnd.bif (fun _ => Rnd.inr rfl) (fun c4 => ?_)
    have dc4 := c4
    try simp only [DC] at dc4
    refine Rnd.yes zle_dec ?_
    refine Rnd.yes (lt_dec h2) ?_
    refine Rnd.call_to (spec_l1In.md ((a0.getD i1 MPet.zero).fZone) 0 2147483646) (spec_l1In.R_eq (a0 := (a0.getD i1 MPet.zero).fZone) (a1 := 0) (a2 := 2147483646) trivial) ?_
    refine Rnd.bif (fun _ => Rnd.inr rfl) (fun c5 => ?_)
    have dc5 := c5
    try simp only [DC] at dc5
    have Dc5 := c5
    try simp [spec_l1In.md] at Dc5
    refine Rnd.bif (fun c6 => ?_) (fun c6 => ?_)
    · have dc6 := c6
      try simp only [DC] at dc6
      refine Rnd.yes (by
          refine decide_eq_true ?_
          try simp (disch := omega) only [LN, wi]
          first | omega | (simp; done) | (simp; omega)) ?_
      refine Rnd.yes (by
          have := (H0).1
          refine decide_eq_true ?_
          try simp (disch := omega) only [LN, wi]
          first | omega | (simp; done) | (simp; omega)) ?_
      refine Rnd.yes zle_dec ?_
      refine Rnd.yes (lt_dec h2) ?_
      refine Rnd.call_to (spec_CompareLabels.md ((a0.getD (Int.toNat (IntKind.i64.wrap ((i1 : Int) - 1))) MPet.zero).fName) ((a0.getD i1 MPet.zero).fName)) (spec_CompareLabels.R_eq (a0 := (a0.getD (Int.toNat (IntKind.i64.wrap ((i1 : Int) - 1))) MPet.zero).fName) (a1 := (a0.getD i1 MPet.zero).fName) trivial) ?_
      refine Rnd.bif (fun _ => Rnd.inr rfl) (fun c7 => ?_)
      refine Rnd.inl trivial ?_
      rw [wrap_succ h2 Bh2]
      all_goals first | rfl | (simp only [S0, MPet.rs, MP]; first | done | rfl)
    · refine Rnd.inl trivial ?_
      rw [wrap_succ h2 Bh2]
      all_goals first | rfl | (simp only [S0, MPet.rs, MP]; first | done | rfl)
  · simp only [step, S0, MPet.rs]
    have := (H0).1
    refine ex_no (by apply decide_eq_false; omega) ?_
    refine ⟨0, ?_⟩
    all_goals first | rfl | (simp only [S0, MPet.rs, MP]; first | done | rfl)
theorem valid_ : Valid Try.prog Ev 21 con := VV (run := fun n x => start (iter step n) x) mix tab_ok (.cons spec_IsLabel.valid_ (.cons spec_l1In.valid_ (.cons spec_CompareLabels.valid_ .nil))) Try.func21 (by kernel_rfl) run_eq (fun _ a _ _ hg => okF a hg)
end spec_AreNames
/-! impl.InRange -/
namespace impl_InRange
noncomputable def F (x0 : Int) (x1 : Int) (x2 : Int) : Ans := (bif (decide (x1 ≤ x0)) then ret ((decide (x0 ≤ x2)) : Bool) else ret (false : Bool))
def pats : List Pat := [.rd (.int .i64), .rd (.int .i64), .rd (.int .i64)]
def res : RP := .one (.rd (.bool))
noncomputable abbrev E : Env := { T := assoc Tab, G := conG [], nt := 15 }
set_option maxRecDepth 100000
theorem run_eq (n : Nat) (ls : List L) : runF E (fun _ => []) Try.f181 res n (initS pats ls) = F (ls.headD .hole).toInt ((dropT 1 ls).headD .hole).toInt ((dropT 2 ls).headD .hole).toInt := by kernel_rfl
noncomputable def md (a0 : Int) (a1 : Int) (a2 : Int) : Bool := (bif (decide (a1 ≤ a0)) then ((decide (a0 ≤ a2)) : Bool) else (false : Bool))
def gd (a0 : Int) (a1 : Int) (a2 : Int) : Prop := True
def acc (ls : List L) : Int × Int × Int := ((ls.headD .hole).toInt, ((dropT 1 ls).headD .hole).toInt, ((dropT 2 ls).headD .hole).toInt)
noncomputable def R : (Int × Int × Int) → Option Bool := RR (p3 gd) (u3 md)
theorem R_eq {a0} {a1} {a2} (h : gd a0 a1 a2) : R (a0, a1, a2) = some (md a0 a1 a2) := RR_eq (a := (a0, a1, a2)) h
noncomputable def con : Con := CN pats res acc R
theorem okF (a0 : Int) (a1 : Int) (a2 : Int) (hg : gd a0 a1 a2) : F a0 a1 a2 = ret ((md a0 a1 a2) : Bool) := by
  unfold F md
  try simp only [S0]
  refine bif_out ret (fun c1 => ?_) (fun _ => rfl)
  all_goals first | rfl | (simp only [S0, MP]; first | done | rfl)
theorem valid_ : Valid Try.prog Ev 181 con := VV (run := fun _ x => F x.1 x.2.1 x.2.2) mix tab_ok .nil Try.func181 (by kernel_rfl) run_eq (fun _ a _ _ hg => ⟨0, okF a.1 a.2.1 a.2.2 hg⟩)
theorem br (a0 : Int) (a1 : Int) (a2 : Int) : md a0 a1 a2 = spec_l1In.md a0 a1 a2 := by
  unfold md spec_l1In.md
  first | rfl | (rw [Bool.eq_iff_iff]; simp)
end impl_InRange
/-! impl.IsLabel -/
namespace impl_IsLabel
inductive Pt where
  | p0 (a : ByteArray) (b : Int) (c : Int)
def pid : Pt → Nat
  | .p0 .. => 2
def pvs : Pt → List V
  | .p0 a b c => [.str a, .int .i64 b, .int .i64 c]
def phs : Pt → List Root
  | .p0 a b c => []
noncomputable def step (J : Pt → Ans) : Pt → Ans
  | .p0 a b c => (bif (decide (c < b)) then (bif (decide ((0 : Int) ≤ c)) then (bif (decide (c < (a.size : Int))) then (bif (decide ((chAt a (Int.toNat c)) ≥ 97)) then (bif (decide ((chAt a (Int.toNat c)) ≤ 122)) then J (.p0 a b (IntKind.i64.wrap (c + 1))) else (bif (decide ((chAt a (Int.toNat c)) ≥ 48)) then (bif (decide ((chAt a (Int.toNat c)) ≤ 57)) then J (.p0 a b (IntKind.i64.wrap (c + 1))) else (bif ((chAt a (Int.toNat c)) == 45) then (bif (decide (c > 0)) then (bif (!(decide (c < (IntKind.i64.wrap ((a.size : Int) - 1))))) then ret (false : Bool) else J (.p0 a b (IntKind.i64.wrap (c + 1)))) else ret (false : Bool)) else ret (false : Bool))) else (bif ((chAt a (Int.toNat c)) == 45) then (bif (decide (c > 0)) then (bif (!(decide (c < (IntKind.i64.wrap ((a.size : Int) - 1))))) then ret (false : Bool) else J (.p0 a b (IntKind.i64.wrap (c + 1)))) else ret (false : Bool)) else ret (false : Bool)))) else (bif (decide ((chAt a (Int.toNat c)) ≥ 48)) then (bif (decide ((chAt a (Int.toNat c)) ≤ 57)) then J (.p0 a b (IntKind.i64.wrap (c + 1))) else (bif ((chAt a (Int.toNat c)) == 45) then (bif (decide (c > 0)) then (bif (!(decide (c < (IntKind.i64.wrap ((a.size : Int) - 1))))) then ret (false : Bool) else J (.p0 a b (IntKind.i64.wrap (c + 1)))) else ret (false : Bool)) else ret (false : Bool))) else (bif ((chAt a (Int.toNat c)) == 45) then (bif (decide (c > 0)) then (bif (!(decide (c < (IntKind.i64.wrap ((a.size : Int) - 1))))) then ret (false : Bool) else J (.p0 a b (IntKind.i64.wrap (c + 1)))) else ret (false : Bool)) else ret (false : Bool)))) else none) else none) else (call (impl_InRange.R ((a.size : Int), 1, 8)) fun v1 => ret (v1 : Bool)))
noncomputable def start (J : Pt → Ans) (x0 : ByteArray) : Ans := J (.p0 x0 (x0.size : Int) 0)
def live : Nat → Live := fun i => match i with | 2 => [(0, none), (6, none), (7, none)] | _ => []
def pats : List Pat := [.rd (.str)]
def res : RP := .one (.rd (.bool))
noncomputable abbrev E : Env := { T := assoc Tab, G := conG [(181, impl_InRange.con)], nt := 47 }
set_option maxRecDepth 100000
theorem step_eq (I : Heads) (p : Pt) : enterC E live I (pid p) (bodyOf Try.f99) (stOf (live (pid p)) (pvs p) (phs p)) (doneK E Try.f99 res) = step (fun q => I (pid q) (pvs q) (phs q)) p := by
  cases p <;> kernel_rfl
theorem start_eq (I : Heads) (ls : List L) : runC E live I (bodyOf Try.f99) (initS pats ls) (doneK E Try.f99 res) = start (fun q => I (pid q) (pvs q) (phs q)) (ls.headD .hole).toStr := by kernel_rfl
theorem run_eq (n : Nat) (ls : List L) : runF E live Try.f99 res n (initS pats ls) = start (iter step n) (ls.headD .hole).toStr := runF_iter (id := pid) (vs := pvs) (hs := phs) (step := step) (start := fun J => start J (ls.headD .hole).toStr) step_eq (fun I => start_eq I ls) n
noncomputable def md (a0 : ByteArray) : Bool := (loopM (S := Unit) (β := Bool) (fun (i1 : Nat) (s3 : Unit) => (bif (decide ((chAt a0 i1) ≥ 97)) then (bif (decide ((chAt a0 i1) ≤ 122)) then (.inl ()) else (bif (decide ((chAt a0 i1) ≥ 48)) then (bif (decide ((chAt a0 i1) ≤ 57)) then (.inl ()) else (bif ((chAt a0 i1) == 45) then (bif (decide ((i1 : Int) > 0)) then (bif (!(decide ((i1 : Int) < (IntKind.i64.wrap ((a0.size : Int) - 1))))) then (.inr (false : Bool)) else (.inl ())) else (.inr (false : Bool))) else (.inr (false : Bool)))) else (bif ((chAt a0 i1) == 45) then (bif (decide ((i1 : Int) > 0)) then (bif (!(decide ((i1 : Int) < (IntKind.i64.wrap ((a0.size : Int) - 1))))) then (.inr (false : Bool)) else (.inl ())) else (.inr (false : Bool))) else (.inr (false : Bool))))) else (bif (decide ((chAt a0 i1) ≥ 48)) then (bif (decide ((chAt a0 i1) ≤ 57)) then (.inl ()) else (bif ((chAt a0 i1) == 45) then (bif (decide ((i1 : Int) > 0)) then (bif (!(decide ((i1 : Int) < (IntKind.i64.wrap ((a0.size : Int) - 1))))) then (.inr (false : Bool)) else (.inl ())) else (.inr (false : Bool))) else (.inr (false : Bool)))) else (bif ((chAt a0 i1) == 45) then (bif (decide ((i1 : Int) > 0)) then (bif (!(decide ((i1 : Int) < (IntKind.i64.wrap ((a0.size : Int) - 1))))) then (.inr (false : Bool)) else (.inl ())) else (.inr (false : Bool))) else (.inr (false : Bool)))))) (fun (s3 : Unit) => ((impl_InRange.md (a0.size : Int) 1 8) : Bool)) a0.size 0 ())
def gd (a0 : ByteArray) : Prop := (a0.size ≤ (2 ^ 21))
def acc (ls : List L) : ByteArray := (ls.headD .hole).toStr
noncomputable def R : ByteArray → Option Bool := RR gd md
theorem R_eq {a0} (h : gd a0) : R a0 = some (md a0) := RR_eq (a := a0) h
noncomputable def con : Con := CN pats res acc R
theorem okF (a0 : ByteArray) (hg : gd a0) : ∃ n, start (iter step n) a0 = ret ((md a0) : Bool) := by
  unfold gd at hg
  have H0 := hg
  unfold start md
  try simp only [S0]
  have Bh2 : a0.size ≤ maxLen := (by
      have := H0
      try simp only [maxLen] at *
      omega)
  refine ex_pt (p := Pt.p0 a0 (a0.size : Int) 0) (by first | rfl | (simp only [S0, MP]; done) | (simp only [MP]; rfl)) ?_
  refine loopM_ok (pt := fun (i1 : Nat) (s3 : Unit) => Pt.p0 a0 (a0.size : Int) (i1 : Int)) (s := (() : Unit)) (out := ret) (fun _ _ => True) (fun J i1 s3 h2 hih2 => ?_) (fun s3 hih2 => ?_) trivial
  · simp only [step, S0]
    have bb_ := Bh2
    simp only [maxLen] at bb_
    have := H0
    refine Rnd.yes (by apply decide_eq_true; omega) ?_
    refine Rnd.yes zle_dec ?_
    refine Rnd.yes (lt_dec h2) ?_
    refine Rnd.bif (fun c4 => ?_) (fun c4 => ?_)
    · refine Rnd.bif (fun c5 => ?_) (fun c5 => ?_)
      · refine Rnd.inl trivial ?_
        rw [wrap_succ h2 Bh2]
        all_goals first | rfl | (simp only [S0, MP]; first | done | rfl)
      · refine Rnd.bif (fun c6 => ?_) (fun c6 => ?_)
        · refine Rnd.bif (fun c7 => ?_) (fun c7 => ?_)
          · refine Rnd.inl trivial ?_
            rw [wrap_succ h2 Bh2]
            all_goals first | rfl | (simp only [S0, MP]; first | done | rfl)
          · refine Rnd.bif (fun c8 => ?_) (fun _ => Rnd.inr rfl)
            refine Rnd.bif (fun c9 => ?_) (fun _ => Rnd.inr rfl)
            refine Rnd.bif (fun _ => Rnd.inr rfl) (fun c10 => ?_)
            refine Rnd.inl trivial ?_
            rw [wrap_succ h2 Bh2]
            all_goals first | rfl | (simp only [S0, MP]; first | done | rfl)
        · refine Rnd.bif (fun c11 => ?_) (fun _ => Rnd.inr rfl)
          refine Rnd.bif (fun c12 => ?_) (fun _ => Rnd.inr rfl)
          refine Rnd.bif (fun _ => Rnd.inr rfl) (fun c13 => ?_)
          refine Rnd.inl trivial ?_
          rw [wrap_succ h2 Bh2]
          all_goals first | rfl | (simp only [S0, MP]; first | done | rfl)
    · refine Rnd.bif (fun c14 => ?_) (fun c14 => ?_)
      · refine Rnd.bif (fun c15 => ?_) (fun c15 => ?_)
        · refine Rnd.inl trivial ?_
          rw [wrap_succ h2 Bh2]
          all_goals first | rfl | (simp only [S0, MP]; first | done | rfl)
        · refine Rnd.bif (fun c16 => ?_) (fun _ => Rnd.inr rfl)
          refine Rnd.bif (fun c17 => ?_) (fun _ => Rnd.inr rfl)
          refine Rnd.bif (fun _ => Rnd.inr rfl) (fun c18 => ?_)
          refine Rnd.inl trivial ?_
          rw [wrap_succ h2 Bh2]
          all_goals first | rfl | (simp only [S0, MP]; first | done | rfl)
      · refine Rnd.bif (fun c19 => ?_) (fun _ => Rnd.inr rfl)
        refine Rnd.bif (fun c20 => ?_) (fun _ => Rnd.inr rfl)
        refine Rnd.bif (fun _ => Rnd.inr rfl) (fun c21 => ?_)
        refine Rnd.inl trivial ?_
        rw [wrap_succ h2 Bh2]
        all_goals first | rfl | (simp only [S0, MP]; first | done | rfl)
  · simp only [step, S0]
    have := H0
    refine ex_no (by apply decide_eq_false; omega) ?_
    refine ex_call_to (impl_InRange.md (a0.size : Int) 1 8) (impl_InRange.R_eq (a0 := (a0.size : Int)) (a1 := 1) (a2 := 8) trivial) ?_
    refine ⟨0, ?_⟩
    all_goals first | rfl | (simp only [S0, MP]; first | done | rfl)
theorem valid_ : Valid Try.prog Ev 99 con := VV (run := fun n x => start (iter step n) x) mix tab_ok (.cons impl_InRange.valid_ .nil) Try.func99 (by kernel_rfl) run_eq (fun _ a _ _ hg => okF a hg)
theorem br (a0 : ByteArray) : md a0 = spec_IsLabel.md a0 := by
  unfold md spec_IsLabel.md
  by_cases hl : 1 ≤ a0.size ∧ a0.size ≤ 8
  · have e1 : spec_l1In.md (a0.size : Int) 1 8 = true := by simp [spec_l1In.md]; omega
    simp only [impl_InRange.br, e1]
    have ew : IntKind.i64.wrap ((a0.size : Int) - 1) = ((a0.size - 1 : Nat) : Int) := by
      rw [Go.IntWalk.i64_in _ (by omega)]; omega
    simp only [ew, toNat_nat]
    rw [Bool.eq_iff_iff]
    rw [loopM_true (fun i => (97 ≤ chAt a0 i ∧ chAt a0 i ≤ 122) ∨ (48 ≤ chAt a0 i ∧ chAt a0 i ≤ 57) ∨ (chAt a0 i = 45 ∧ 0 < i ∧ i < a0.size - 1)) (fun i hi h => by simp; grind) (fun i hi h => by simp; grind)]
    have e2 := loopM_true (n := a0.size) (f := fun (i4 : Nat) (s6 : Unit) => (bif (decide ((chAt a0 i4) < 97)) then (bif (decide ((chAt a0 i4) < 48)) then (bif ((chAt a0 i4) != 45) then (.inr (false : Bool)) else (.inl ())) else (bif (decide ((chAt a0 i4) > 57)) then (bif ((chAt a0 i4) != 45) then (.inr (false : Bool)) else (.inl ())) else (.inl ()))) else (bif (decide ((chAt a0 i4) > 122)) then (bif (decide ((chAt a0 i4) < 48)) then (bif ((chAt a0 i4) != 45) then (.inr (false : Bool)) else (.inl ())) else (bif (decide ((chAt a0 i4) > 57)) then (bif ((chAt a0 i4) != 45) then (.inr (false : Bool)) else (.inl ())) else (.inl ()))) else (.inl ())))) (t := fun _ => true)
      (fun i => (97 ≤ chAt a0 i ∧ chAt a0 i ≤ 122) ∨ (48 ≤ chAt a0 i ∧ chAt a0 i ≤ 57) ∨ chAt a0 i = 45) (fun i hi h => by simp; grind) (fun i hi h => by simp; grind)
    have e3 : ∀ b c d : Bool, (bif !true then false else bif b then false else bif c then false else d) = true ↔ b = false ∧ c = false ∧ d = true := by intro b c d; cases b <;> cases c <;> simp
    rw [e3, e2]
    simp only [beq_eq_false_iff_ne, ne_eq, and_true]
    constructor
    · intro h
      refine ⟨fun h0 => ?_, fun h0 => ?_, fun i hi => ?_⟩
      · have := h 0 (by omega); omega
      · have := h (a0.size - 1) (by omega); omega
      · have := h i hi; omega
    · intro ⟨h1, h2, h3⟩ i hi
      have := h3 i hi
      by_cases h0 : i = 0
      · subst h0; omega
      · by_cases h9 : i = a0.size - 1
        · subst h9; omega
        · omega
  · have e1 : spec_l1In.md (a0.size : Int) 1 8 = false := by simp [spec_l1In.md]; omega
    simp only [impl_InRange.br, e1]
    refine loopM_const ?_ _ _ _
    intro i s b h
    revert h
    simp only [Bool.cond_eq_ite]
    repeat' split
    all_goals (intro h; first | (cases h; rfl) | cases h)
end impl_IsLabel
/-! impl.isDigest -/
namespace impl_isDigest
noncomputable def F (x0 : Int) : Ans := (call (impl_InRange.R (x0, 0, 2147483646)) fun v1 => ret (v1 : Bool))
def pats : List Pat := [.rd (.int .i64)]
def res : RP := .one (.rd (.bool))
noncomputable abbrev E : Env := { T := assoc Tab, G := conG [(181, impl_InRange.con)], nt := 5 }
set_option maxRecDepth 100000
theorem run_eq (n : Nat) (ls : List L) : runF E (fun _ => []) Try.f100 res n (initS pats ls) = F (ls.headD .hole).toInt := by kernel_rfl
noncomputable def md (a0 : Int) : Bool := ((impl_InRange.md a0 0 2147483646) : Bool)
def gd (a0 : Int) : Prop := True
def acc (ls : List L) : Int := (ls.headD .hole).toInt
noncomputable def R : Int → Option Bool := RR gd md
theorem R_eq {a0} (h : gd a0) : R a0 = some (md a0) := RR_eq (a := a0) h
noncomputable def con : Con := CN pats res acc R
theorem okF (a0 : Int) (hg : gd a0) : F a0 = ret ((md a0) : Bool) := by
  unfold F md
  try simp only [S0]
  refine call_to (impl_InRange.md a0 0 2147483646) (impl_InRange.R_eq (a0 := a0) (a1 := 0) (a2 := 2147483646) trivial) ?_
  all_goals first | rfl | (simp only [S0, MP]; first | done | rfl)
theorem valid_ : Valid Try.prog Ev 100 con := VV (run := fun _ x => F x) mix tab_ok (.cons impl_InRange.valid_ .nil) Try.func100 (by kernel_rfl) run_eq (fun _ a _ _ hg => ⟨0, okF a hg⟩)
end impl_isDigest
namespace internal_bytealg_CompareString
set_option maxHeartbeats 1000000 in
set_option maxRecDepth 100000 in
open Go.RowKit in
theorem calls (a b : ByteArray) (w : World) : Calls Try.prog 226 #[.string a, .string b] w fun e w' => e = .returned (.int .i64 (Lib.compareBytes a.data.toList b.data.toList)) ∧ w' = w := by
  go_enter Try.func226, Try.ntmps226
  go_wp2
  rw [run_callFunc_extern Try.func242 (by kernel_rfl) (by kernel_rfl) (by kernel_rfl) (e := Extern.BytealgCompare.compare) (by kernel_rfl), Lib.run_compareString]
  simp only [Result.andThen]
  rw [Oper.upon_value]
  go_wp2
  go_ret
  exact ⟨rfl, rfl⟩
noncomputable def md (a0 a1 : ByteArray) : Int := Lib.compareBytes a0.data.toList a1.data.toList
noncomputable def R (x : ByteArray × ByteArray) : Option Int := some (md x.1 x.2)
theorem R_eq {a0 a1 : ByteArray} (_ : True) : R (a0, a1) = some (md a0 a1) := rfl
noncomputable def sem : List L → Option (List L)
  | [y0, y1] => (R (y0.toStr, y1.toStr)).map RT.enc
  | _ => none
noncomputable def con : Con := ⟨[.rd .str, .rd .str], .one (.rd (.int .i64)), sem⟩
theorem valid_ : Valid Try.prog Ev 226 con := by
  refine valid_still ⟨Try.f226, Try.func226, by kernel_rfl, by kernel_rfl⟩ rfl (fun _ => rfl) fun ls r w vs Z hs hf => ?_
  simp only [con] at hs
  unfold sem at hs
  split at hs
  · rename_i a b
    cases hf with
    | cons h1 ht =>
      cases ht with
      | cons h2 ht =>
        cases ht
        have e1 : _ = Value.string a.toStr := h1
        have e2 : _ = Value.string b.toStr := h2
        subst e1; subst e2
        refine (calls a.toStr b.toStr w).mono fun e w' ⟨h3, h4⟩ => ⟨_, h3, h4, ?_⟩
        injection hs with hs
        subst hs
        rfl
  · cases hs
end internal_bytealg_CompareString
/-! strings.Compare -/
namespace strings_Compare
noncomputable def F (x0 : ByteArray) (x1 : ByteArray) : Ans := (call (internal_bytealg_CompareString.R (x0, x1)) fun v1 => ret (v1 : Int))
def pats : List Pat := [.rd (.str), .rd (.str)]
def res : RP := .one (.rd (.int .i64))
noncomputable abbrev E : Env := { T := assoc Tab, G := conG [(226, internal_bytealg_CompareString.con)], nt := 8 }
set_option maxRecDepth 100000
theorem run_eq (n : Nat) (ls : List L) : runF E (fun _ => []) Try.f182 res n (initS pats ls) = F (ls.headD .hole).toStr ((dropT 1 ls).headD .hole).toStr := by kernel_rfl
noncomputable def md (a0 : ByteArray) (a1 : ByteArray) : Int := ((internal_bytealg_CompareString.md a0 a1) : Int)
def gd (a0 : ByteArray) (a1 : ByteArray) : Prop := True
def acc (ls : List L) : ByteArray × ByteArray := ((ls.headD .hole).toStr, ((dropT 1 ls).headD .hole).toStr)
noncomputable def R : (ByteArray × ByteArray) → Option Int := RR (p2 gd) (u2 md)
theorem R_eq {a0} {a1} (h : gd a0 a1) : R (a0, a1) = some (md a0 a1) := RR_eq (a := (a0, a1)) h
noncomputable def con : Con := CN pats res acc R
theorem okF (a0 : ByteArray) (a1 : ByteArray) (hg : gd a0 a1) : F a0 a1 = ret ((md a0 a1) : Int) := by
  unfold F md
  try simp only [S0]
  refine call_to (internal_bytealg_CompareString.md a0 a1) (internal_bytealg_CompareString.R_eq (a0 := a0) (a1 := a1) trivial) ?_
  all_goals first | rfl | (simp only [S0, MP]; first | done | rfl)
theorem valid_ : Valid Try.prog Ev 182 con := VV (run := fun _ x => F x.1 x.2) mix tab_ok (.cons internal_bytealg_CompareString.valid_ .nil) Try.func182 (by kernel_rfl) run_eq (fun _ a _ _ hg => ⟨0, okF a.1 a.2 hg⟩)
end strings_Compare
/-! impl.CompareLabels -/
namespace impl_CompareLabels
noncomputable def F (x0 : ByteArray) (x1 : ByteArray) : Ans := (call (strings_Compare.R (x0, x1)) fun v1 => ret (v1 : Int))
def pats : List Pat := [.rd (.str), .rd (.str)]
def res : RP := .one (.rd (.int .i64))
noncomputable abbrev E : Env := { T := assoc Tab, G := conG [(182, strings_Compare.con)], nt := 8 }
set_option maxRecDepth 100000
theorem run_eq (n : Nat) (ls : List L) : runF E (fun _ => []) Try.f105 res n (initS pats ls) = F (ls.headD .hole).toStr ((dropT 1 ls).headD .hole).toStr := by kernel_rfl
noncomputable def md (a0 : ByteArray) (a1 : ByteArray) : Int := ((strings_Compare.md a0 a1) : Int)
def gd (a0 : ByteArray) (a1 : ByteArray) : Prop := True
def acc (ls : List L) : ByteArray × ByteArray := ((ls.headD .hole).toStr, ((dropT 1 ls).headD .hole).toStr)
noncomputable def R : (ByteArray × ByteArray) → Option Int := RR (p2 gd) (u2 md)
theorem R_eq {a0} {a1} (h : gd a0 a1) : R (a0, a1) = some (md a0 a1) := RR_eq (a := (a0, a1)) h
noncomputable def con : Con := CN pats res acc R
theorem okF (a0 : ByteArray) (a1 : ByteArray) (hg : gd a0 a1) : F a0 a1 = ret ((md a0 a1) : Int) := by
  unfold F md
  try simp only [S0]
  refine call_to (strings_Compare.md a0 a1) (strings_Compare.R_eq (a0 := a0) (a1 := a1) trivial) ?_
  all_goals first | rfl | (simp only [S0, MP]; first | done | rfl)
theorem valid_ : Valid Try.prog Ev 105 con := VV (run := fun _ x => F x.1 x.2) mix tab_ok (.cons strings_Compare.valid_ .nil) Try.func105 (by kernel_rfl) run_eq (fun _ a _ _ hg => ⟨0, okF a.1 a.2 hg⟩)
theorem cmp : ∀ a b : List UInt8, Lib.compareBytes a b = (bif Op.bytesLess a b then ((-1) : Int) else (bif (!((Op.bytesLess a b) || (a == b))) then (1 : Int) else (0 : Int)))
  | [], [] => by simp [Lib.compareBytes, Op.bytesLess]
  | [], _ :: _ => by simp [Lib.compareBytes, Op.bytesLess]
  | _ :: _, [] => by simp [Lib.compareBytes, Op.bytesLess]
  | a :: xs, b :: ys => by
    simp only [Lib.compareBytes, Op.bytesLess]
    rw [cmp xs ys]
    by_cases h1 : a < b
    · simp [h1]
    · by_cases h2 : b < a
      · have hne : a ≠ b := fun e => by subst e; exact h1 h2
        have hb : (a == b) = false := beq_eq_false_iff_ne.2 hne
        simp [h1, h2, hb, hne]
      · have he : a = b := by
          have := UInt8.lt_or_eq_of_le (UInt8.not_lt.1 h1)
          rcases this with h | h
          · exact (h2 h).elim
          · exact h.symm
        subst he
        simp [h1]
theorem br (a0 : ByteArray) (a1 : ByteArray) : md a0 a1 = spec_CompareLabels.md a0 a1 := by
  unfold md spec_CompareLabels.md strings_Compare.md internal_bytealg_CompareString.md
  rw [cmp, ByteArray.toList_eq, ByteArray.toList_eq]
end impl_CompareLabels
/-! impl.AreNames -/
namespace impl_AreNames
inductive Pt where
  | p0 (a : List (List L)) (b : List (List L)) (c : Int) (d : Int)
def pid : Pt → Nat
  | .p0 .. => 2
def pvs : Pt → List V
  | .p0 a b c d => [.sl none 150 a, .sl none 150 b, .int .i64 c, .int .i64 d]
def phs : Pt → List Root
  | .p0 a b c d => []
noncomputable def step (J : Pt → Ans) : Pt → Ans
  | .p0 a b c d => (bif (decide (d < c)) then (bif (decide ((0 : Int) ≤ d)) then (bif (decide (d < (b.length : Int))) then (call (impl_IsLabel.R ((MPet.at b (Int.toNat d)).fName)) fun v1 => (bif (!v1) then ret (false : Bool) else (call (impl_isDigest.R ((MPet.at b (Int.toNat d)).fZone)) fun v2 => (bif (!v2) then ret (false : Bool) else (bif (decide (d > 0)) then (bif (decide ((0 : Int) ≤ (IntKind.i64.wrap (d - 1)))) then (bif (decide ((IntKind.i64.wrap (d - 1)) < (a.length : Int))) then (call (impl_CompareLabels.R ((MPet.at b (Int.toNat d)).fName, (MPet.at a (Int.toNat (IntKind.i64.wrap (d - 1)))).fName)) fun v3 => (bif (decide (v3 ≤ 0)) then ret (false : Bool) else J (.p0 a b c (IntKind.i64.wrap (d + 1))))) else none) else none) else J (.p0 a b c (IntKind.i64.wrap (d + 1)))))))) else none) else none) else ret ((decide ((a.length : Int) ≤ 8)) : Bool))
noncomputable def start (J : Pt → Ans) (x0 : List (List L)) : Ans := J (.p0 x0 x0 (x0.length : Int) 0)
def live : Nat → Live := fun i => match i with | 2 => [(0, none), (5, none), (6, none), (7, none)] | _ => []
def pats : List Pat := [.rd (.sl 150)]
def res : RP := .one (.rd (.bool))
noncomputable abbrev E : Env := { T := assoc Tab, G := conG [(99, impl_IsLabel.con), (100, impl_isDigest.con), (105, impl_CompareLabels.con)], nt := 42 }
set_option maxRecDepth 100000
theorem step_eq (I : Heads) (p : Pt) : enterC E live I (pid p) (bodyOf Try.f23) (stOf (live (pid p)) (pvs p) (phs p)) (doneK E Try.f23 res) = step (fun q => I (pid q) (pvs q) (phs q)) p := by
  cases p <;> kernel_rfl
theorem start_eq (I : Heads) (ls : List L) : runC E live I (bodyOf Try.f23) (initS pats ls) (doneK E Try.f23 res) = start (fun q => I (pid q) (pvs q) (phs q)) (ls.headD .hole).toSl := by kernel_rfl
theorem run_eq (n : Nat) (ls : List L) : runF E live Try.f23 res n (initS pats ls) = start (iter step n) (ls.headD .hole).toSl := runF_iter (id := pid) (vs := pvs) (hs := phs) (step := step) (start := fun J => start J (ls.headD .hole).toSl) step_eq (fun I => start_eq I ls) n
noncomputable def md (a0 : List MPet) : Bool := (eachI (S := Unit) (β := Bool) (fun (i1 : Nat) (y1 : MPet) (s3 : Unit) => (bif (!(impl_IsLabel.md (y1.fName))) then (.inr (false : Bool)) else (bif (!(impl_isDigest.md (y1.fZone))) then (.inr (false : Bool)) else (bif (decide ((i1 : Int) > 0)) then (bif (decide ((impl_CompareLabels.md (y1.fName) ((a0.getD (Int.toNat (IntKind.i64.wrap ((i1 : Int) - 1))) MPet.zero).fName)) ≤ 0)) then (.inr (false : Bool)) else (.inl ())) else (.inl ()))))) (fun (s3 : Unit) => ((decide ((a0.length : Int) ≤ 8)) : Bool)) 0 a0 ())
def gd (a0 : List MPet) : Prop := (SmL (2 ^ 21) (fun y : MPet => MPet.Sm (2 ^ 21) y) a0)
def acc (ls : List L) : List (List L) := (ls.headD .hole).toSl
noncomputable def R : (List (List L)) → Option Bool := RR gd md
theorem R_eq {a0} (h : gd a0) : R (a0.map MPet.row) = some (md a0) := RR_eq (a := a0) h
noncomputable def con : Con := CN pats res acc R
theorem okF (a0 : List MPet) (hg : gd a0) : ∃ n, start (iter step n) (a0.map MPet.row) = ret ((md a0) : Bool) := by
  unfold gd at hg
  have H0 := hg
  unfold start md
  try simp only [S0, MPet.rs]
  have Bh2 : a0.length ≤ maxLen := (by
      have := (H0).1
      try simp only [maxLen] at *
      omega)
  refine ex_eq (out := ret) (loopM_eachI (z := MPet.zero)) ?_
  refine ex_pt (p := Pt.p0 (a0.map MPet.row) (a0.map MPet.row) (a0.length : Int) 0) (by first | rfl | (simp only [S0, MPet.rs, MP]; done) | (simp only [MP]; rfl)) ?_
  refine loopM_ok (pt := fun (i1 : Nat) (s3 : Unit) => Pt.p0 (a0.map MPet.row) (a0.map MPet.row) (a0.length : Int) (i1 : Int)) (s := (() : Unit)) (out := ret) (fun _ _ => True) (fun J i1 s3 h2 hih2 => ?_) (fun s3 hih2 => ?_) trivial
  · simp only [step, S0, MPet.rs]
    have bb_ := Bh2
    simp only [maxLen] at bb_
    have := (H0).1
    refine Rnd.yes (by apply decide_eq_true; omega) ?_
    refine Rnd.yes zle_dec ?_
    refine Rnd.yes (lt_dec h2) ?_
    refine Rnd.call_to (impl_IsLabel.md ((a0.getD i1 MPet.zero).fName)) (impl_IsLabel.R_eq (a0 := (a0.getD i1 MPet.zero).fName) (SmL.getD (z := MPet.zero) H0 h2)) ?_
    refine Rnd.bif (fun _ => Rnd.inr rfl) (fun c4 => ?_)
    have dc4 := c4
    try simp only [DC] at dc4
    refine Rnd.call_to (impl_isDigest.md ((a0.getD i1 MPet.zero).fZone)) (impl_isDigest.R_eq (a0 := (a0.getD i1 MPet.zero).fZone) trivial) ?_
    refine Rnd.bif (fun _ => Rnd.inr rfl) (fun c5 => ?_)
    have dc5 := c5
    try simp only [DC] at dc5
    refine Rnd.bif (fun c6 => ?_) (fun c6 => ?_)
    · have dc6 := c6
      try simp only [DC] at dc6
      refine Rnd.yes (by
          refine decide_eq_true ?_
          try simp (disch := omega) only [LN, wi]
          first | omega | (simp; done) | (simp; omega)) ?_
      refine Rnd.yes (by
          have := (H0).1
          refine decide_eq_true ?_
          try simp (disch := omega) only [LN, wi]
          first | omega | (simp; done) | (simp; omega)) ?_
      refine Rnd.call_to (impl_CompareLabels.md ((a0.getD i1 MPet.zero).fName) ((a0.getD (Int.toNat (IntKind.i64.wrap ((i1 : Int) - 1))) MPet.zero).fName)) (impl_CompareLabels.R_eq (a0 := (a0.getD i1 MPet.zero).fName) (a1 := (a0.getD (Int.toNat (IntKind.i64.wrap ((i1 : Int) - 1))) MPet.zero).fName) trivial) ?_
      refine Rnd.bif (fun _ => Rnd.inr rfl) (fun c7 => ?_)
      refine Rnd.inl trivial ?_
      rw [wrap_succ h2 Bh2]
      all_goals first | rfl | (simp only [S0, MPet.rs, MP]; first | done | rfl)
    · refine Rnd.inl trivial ?_
      rw [wrap_succ h2 Bh2]
      all_goals first | rfl | (simp only [S0, MPet.rs, MP]; first | done | rfl)
  · simp only [step, S0, MPet.rs]
    have := (H0).1
    refine ex_no (by apply decide_eq_false; omega) ?_
    refine ⟨0, ?_⟩
    all_goals first | rfl | (simp only [S0, MPet.rs, MP]; first | done | rfl)
theorem valid_ : Valid Try.prog Ev 23 con := VV (run := fun n x => start (iter step n) x) mix tab_ok (.cons impl_IsLabel.valid_ (.cons impl_isDigest.valid_ (.cons impl_CompareLabels.valid_ .nil))) Try.func23 (by kernel_rfl) run_eq (fun _ a _ _ hg => okF a hg)
theorem bl : ∀ a b : List UInt8, (Op.bytesLess a b || a == b) = !(Op.bytesLess b a)
  | [], [] => by simp [Op.bytesLess]
  | [], _ :: _ => by simp [Op.bytesLess]
  | _ :: _, [] => by simp [Op.bytesLess]
  | a :: xs, b :: ys => by
    have ih := bl xs ys
    simp only [Op.bytesLess]
    by_cases h1 : a < b
    · have h2 : ¬ b < a := UInt8.not_lt.2 (UInt8.le_of_lt h1)
      have h3 : ¬ b = a := fun h => by subst h; exact UInt8.lt_irrefl _ h1
      simp [h1, h2, h3]
    · by_cases h2 : a = b
      · subst h2
        have hr : ¬ a < a := UInt8.lt_irrefl a
        simp only [hr, decide_false, Bool.false_or, beq_self_eq_true, Bool.true_and, List.cons_beq_cons]
        exact ih
      · have h3 : b < a := by
          rcases UInt8.lt_or_lt_of_ne h2 with h | h
          · exact (h1 h).elim
          · exact h
        simp [h1, h2, h3, List.cons_beq_cons]
theorem swap (a b : ByteArray) : decide (spec_CompareLabels.md a b ≤ 0) = (spec_CompareLabels.md b a != -1) := by
  unfold spec_CompareLabels.md
  rw [bl a.toList b.toList, bl b.toList a.toList]
  have h := bl a.toList b.toList
  cases h1 : Op.bytesLess a.toList b.toList <;> cases h2 : Op.bytesLess b.toList a.toList <;> rw [h1, h2] at h <;> simp at h ⊢
theorem br (a0 : List MPet) : md a0 = spec_AreNames.md a0 := by
  unfold md spec_AreNames.md
  refine eachI_congr (fun i x _ s => ?_) (fun s => rfl)
  simp only [impl_IsLabel.br, impl_isDigest.md, impl_InRange.br, impl_CompareLabels.br, swap]
end impl_AreNames
/-! laws.eqPet -/
namespace laws_eqPet
noncomputable def F (x0 : MPet) (x1 : MPet) : Ans := (bif (!(x0.fName == x1.fName)) then ret (false : Bool) else (bif (x0.fZone != x1.fZone) then ret (false : Bool) else ret (true : Bool)))
def pats : List Pat := [.agg [.str, .int .i64], .agg [.str, .int .i64]]
def res : RP := .one (.rd (.bool))
noncomputable abbrev E : Env := { T := assoc Tab, G := conG [], nt := 15 }
set_option maxRecDepth 100000
theorem run_eq (n : Nat) (ls : List L) : runF E (fun _ => []) Try.f106 res n (initS pats ls) = F (MPet.dec ls) (MPet.dec (dropT 2 ls)) := by kernel_rfl
noncomputable def md (a0 : MPet) (a1 : MPet) : Bool := eqB a0 a1
def gd (a0 : MPet) (a1 : MPet) : Prop := True
def acc (ls : List L) : MPet × MPet := ((MPet.dec ls), (MPet.dec (dropT 2 ls)))
noncomputable def R : (MPet × MPet) → Option Bool := RR (p2 gd) (u2 md)
theorem R_eq {a0} {a1} (h : gd a0 a1) : R (a0, a1) = some (md a0 a1) := RR_eq (a := (a0, a1)) h
noncomputable def con : Con := CN pats res acc R
theorem okF (a0 : MPet) (a1 : MPet) (hg : gd a0 a1) : F a0 a1 = ret ((md a0 a1) : Bool) := by
  unfold md
  show (bif (!(a0.fName == a1.fName)) then ret (false : Bool) else (bif (a0.fZone != a1.fZone) then ret (false : Bool) else ret (true : Bool))) = _
  try simp only [bne, int_beq, bool_beq, ba_beq]
  have e : eqB a0 a1 = (eqB a0.fName a1.fName && (eqB a0.fZone a1.fZone && true)) := by
    cases a0; cases a1
    rw [Bool.eq_iff_iff]
    simp only [eqB_iff, Bool.and_eq_true, MPet.mk.injEq, and_true]
  rw [e]
  refine and_step fun _ => ?_
  refine and_step fun _ => ?_
  rfl
theorem valid_ : Valid Try.prog Ev 106 con := VV (run := fun _ x => F x.1 x.2) mix tab_ok .nil Try.func106 (by kernel_rfl) run_eq (fun _ a _ _ hg => ⟨0, okF a.1 a.2 hg⟩)
end laws_eqPet
/-! laws.eqPetS -/
namespace laws_eqPetS
inductive Pt where
  | p0 (a : List (List L)) (b : List (List L)) (c : Int)
def pid : Pt → Nat
  | .p0 .. => 4
def pvs : Pt → List V
  | .p0 a b c => [.sl none 150 a, .sl none 150 b, .int .i64 c]
def phs : Pt → List Root
  | .p0 a b c => []
noncomputable def step (J : Pt → Ans) : Pt → Ans
  | .p0 a b c => (bif (decide (c < (a.length : Int))) then (bif (decide ((0 : Int) ≤ c)) then (bif (decide (c < (a.length : Int))) then (bif (decide ((0 : Int) ≤ c)) then (bif (decide (c < (b.length : Int))) then (call (laws_eqPet.R ((MPet.at a (Int.toNat c)), (MPet.at b (Int.toNat c)))) fun v1 => (bif (!v1) then ret (false : Bool) else J (.p0 a b (IntKind.i64.wrap (c + 1))))) else none) else none) else none) else none) else ret (true : Bool))
noncomputable def start (J : Pt → Ans) (x0 : List (List L)) (x1 : List (List L)) : Ans := (bif ((x0.length : Int) != (x1.length : Int)) then ret (false : Bool) else J (.p0 x0 x1 0))
def live : Nat → Live := fun i => match i with | 4 => [(0, none), (1, none), (5, none)] | _ => []
def pats : List Pat := [.rd (.sl 150), .rd (.sl 150)]
def res : RP := .one (.rd (.bool))
noncomputable abbrev E : Env := { T := assoc Tab, G := conG [(106, laws_eqPet.con)], nt := 27 }
set_option maxRecDepth 100000
theorem step_eq (I : Heads) (p : Pt) : enterC E live I (pid p) (bodyOf Try.f24) (stOf (live (pid p)) (pvs p) (phs p)) (doneK E Try.f24 res) = step (fun q => I (pid q) (pvs q) (phs q)) p := by
  cases p <;> kernel_rfl
theorem start_eq (I : Heads) (ls : List L) : runC E live I (bodyOf Try.f24) (initS pats ls) (doneK E Try.f24 res) = start (fun q => I (pid q) (pvs q) (phs q)) (ls.headD .hole).toSl ((dropT 1 ls).headD .hole).toSl := by kernel_rfl
theorem run_eq (n : Nat) (ls : List L) : runF E live Try.f24 res n (initS pats ls) = start (iter step n) (ls.headD .hole).toSl ((dropT 1 ls).headD .hole).toSl := runF_iter (id := pid) (vs := pvs) (hs := phs) (step := step) (start := fun J => start J (ls.headD .hole).toSl ((dropT 1 ls).headD .hole).toSl) step_eq (fun I => start_eq I ls) n
noncomputable def md (a0 : List MPet) (a1 : List MPet) : Bool := eqB a0 a1
def gd (a0 : List MPet) (a1 : List MPet) : Prop := True
def acc (ls : List L) : List (List L) × List (List L) := ((ls.headD .hole).toSl, ((dropT 1 ls).headD .hole).toSl)
noncomputable def R : (List (List L) × List (List L)) → Option Bool := RR (p2 gd) (u2 md)
theorem R_eq {a0} {a1} (h : gd a0 a1) : R ((a0.map MPet.row), (a1.map MPet.row)) = some (md a0 a1) := RR_eq (a := (a0, a1)) h
noncomputable def con : Con := CN pats res acc R
theorem okF (a0 : List MPet) (a1 : List MPet) (hg : gd a0 a1) (h0 : a0.length ≤ maxLen) (h1 : a1.length ≤ maxLen) : ∃ n, start (iter step n) (a0.map MPet.row) (a1.map MPet.row) = ret ((md a0 a1) : Bool) := by
  unfold start md
  simp only [List.length_map]
  refine eq_list (pt := fun i => Pt.p0 (a0.map MPet.row) (a1.map MPet.row) (i : Int)) (fun hl J i h h2 => ?_) (fun J => ?_)
  · simp only [step, List.length_map, lt_dec h, lt_dec h2, zle_dec, cond_true, toNat_nat, MPet.at_row h, MPet.at_row h2]
    rw [wrap_succ h h0]
    rw [call_eq (laws_eqPet.R_eq (a0 := a0[i]) (a1 := a1[i]) trivial), laws_eqPet.md]
    cases eqB a0[i] a1[i] <;> rfl
  · simp only [step, List.length_map, nlt_dec, cond_false]
theorem valid_ : Valid Try.prog Ev 24 con := VV (run := fun n x => start (iter step n) x.1 x.2) mix tab_ok (.cons laws_eqPet.valid_ .nil) Try.func24 (by kernel_rfl) run_eq (fun ls a hl e hg => okF a.1 a.2 hg (by have h : (ls.headD .hole).toSl.length ≤ maxLen := hl.1.len; have e : a.1.map MPet.row = (ls.headD .hole).toSl := (congrArg (fun x => x.1) e.symm); rw [← e] at h; simpa using h) (by have h : ((dropT 1 ls).headD .hole).toSl.length ≤ maxLen := hl.2.1.len; have e : a.2.map MPet.row = ((dropT 1 ls).headD .hole).toSl := (congrArg (fun x => x.2) e.symm); rw [← e] at h; simpa using h))
end laws_eqPetS
/-! laws.FnExactAreNames -/
namespace laws_FnExactAreNames
noncomputable def F (x0 : List (List L)) : Ans := (call (laws_szPetS.R (x0, 1048576)) fun v1 => (bif (decide (v1 < 0)) then ret (true : Bool) else (call (laws_toPetS.R x0) fun v2 => (call (spec_AreNames.R v2) fun v3 => (call (laws_toPetS.R x0) fun v4 => (call (impl_AreNames.R v4) fun v5 => (bif (!(v5 == v3)) then ret (false : Bool) else (call (laws_toPetS.R x0) fun v6 => (call (laws_eqPetS.R (v4, v6)) fun v7 => (bif (!v7) then ret (false : Bool) else ret (true : Bool)))))))))))
def pats : List Pat := [.rd (.sl 149)]
def res : RP := .one (.rd (.bool))
noncomputable abbrev E : Env := { T := assoc Tab, G := conG [(20, laws_szPetS.con), (22, laws_toPetS.con), (21, spec_AreNames.con), (23, impl_AreNames.con), (24, laws_eqPetS.con)], nt := 27 }
set_option maxRecDepth 100000
theorem run_eq (n : Nat) (ls : List L) : runF E (fun _ => []) Try.f4 res n (initS pats ls) = F (ls.headD .hole).toSl := by kernel_rfl
noncomputable def md (a0 : List MPet) : Bool := true
def gd (a0 : List MPet) : Prop := (SmL maxLen (fun y : MPet => MPet.Sm maxLen y) a0)
def acc (ls : List L) : List (List L) := (ls.headD .hole).toSl
noncomputable def R : (List (List L)) → Option Bool := RR gd md
theorem R_eq {a0} (h : gd a0) : R (a0.map MPet.row) = some (md a0) := RR_eq (a := a0) h
noncomputable def con : Con := CN pats res acc R
theorem okF (a0 : List MPet) (hg : gd a0) : F (a0.map MPet.row) = ret ((md a0) : Bool) := by
  unfold md
  show (call (laws_szPetS.R ((a0.map MPet.row), 1048576)) fun v1 => (bif (decide (v1 < 0)) then ret (true : Bool) else (call (laws_toPetS.R (a0.map MPet.row)) fun v2 => (call (spec_AreNames.R v2) fun v3 => (call (laws_toPetS.R (a0.map MPet.row)) fun v4 => (call (impl_AreNames.R v4) fun v5 => (bif (!(v5 == v3)) then ret (false : Bool) else (call (laws_toPetS.R (a0.map MPet.row)) fun v6 => (call (laws_eqPetS.R (v4, v6)) fun v7 => (bif (!v7) then ret (false : Bool) else ret (true : Bool))))))))))) = _
  rw [call_eq (laws_szPetS.R_eq (a1 := (1048576 : Int)) ⟨hg, by omega, by omega⟩)]
  unfold laws_szPetS.md
  by_cases c0 : (1048576 : Int) < (((szL (fun y : MPet => MPet.size y) a0) : Nat) : Int)
  · rw [szM_neg c0]; rfl
  rw [szM_pos c0, dec_neg (by omega)]
  simp only [cond_false]
  have s0 : SmL (2 ^ 20) (fun y : MPet => MPet.Sm (2 ^ 20) y) a0 := (szL_sm (f := fun y : MPet => MPet.size y) (by omega) (fun x hx => (MPet.Sm_of hx)))
  rw [call_eq (laws_toPetS.R_eq (a0 := a0) (s0.mono (by decide) (fun x hx => (MPet.Sm_mono (by decide) hx))))]
  simp only [laws_toPetS.md]
  rw [call_eq (spec_AreNames.R_eq (a0 := a0) (by
    have := And.intro trivial trivial
    unfold spec_AreNames.gd
    first | exact (s0.mono (by decide) (fun x hx => (MPet.Sm_mono (by decide) hx))) | refine ⟨(s0.mono (by decide) (fun x hx => (MPet.Sm_mono (by decide) hx)))⟩))]
  rw [call_eq (laws_toPetS.R_eq (a0 := a0) (s0.mono (by decide) (fun x hx => (MPet.Sm_mono (by decide) hx))))]
  simp only [laws_toPetS.md]
  rw [call_eq (impl_AreNames.R_eq (a0 := a0) (by
    have := And.intro trivial trivial
    unfold impl_AreNames.gd
    first | exact (s0.mono (by decide) (fun x hx => (MPet.Sm_mono (by decide) hx))) | refine ⟨(s0.mono (by decide) (fun x hx => (MPet.Sm_mono (by decide) hx)))⟩))]
  try simp only [impl_AreNames.br, bne_self_eq_false, beq_self_eq_true, ba_refl, Bool.not_true, cond_false]
  rw [call_eq (laws_toPetS.R_eq (a0 := a0) (s0.mono (by decide) (fun x hx => (MPet.Sm_mono (by decide) hx))))]
  simp only [laws_toPetS.md]
  rw [call_eq (laws_eqPetS.R_eq (a0 := a0) (a1 := a0) trivial)]
  simp only [laws_eqPetS.md, eqB_refl, Bool.not_true, cond_false]
theorem valid_ : Valid Try.prog Ev 4 con := VV (run := fun _ x => F x) mix tab_ok (.cons laws_szPetS.valid_ (.cons laws_toPetS.valid_ (.cons spec_AreNames.valid_ (.cons impl_AreNames.valid_ (.cons laws_eqPetS.valid_ .nil))))) Try.func4 (by kernel_rfl) run_eq (fun _ a _ _ hg => ⟨0, okF a hg⟩)
theorem MPet_wf149 (r : List L) (h : WfAll Ev.cells [.str, .int .i64] r) : ∃ x : MPet, MPet.row x = r ∧ MPet.Sm maxLen x := by
  obtain ⟨l0, t0, rfl, g0, h1⟩ := h.uncons
  obtain ⟨x0, rfl, s0⟩ := wf_str g0
  obtain ⟨l1, t1, rfl, g1, h2⟩ := h1.uncons
  obtain ⟨x1, rfl⟩ := wf_int g1
  obtain rfl := h2.isnil
  exact ⟨⟨x0, x1⟩, rfl, s0⟩
theorem holds (ls : List L) (h : WfAll Ev.cells ([29].flatMap Ev.cells) ls) : con.sem ls = some [.bool true] := by
  have hk : [29].flatMap Ev.cells = [.sl 149] := by kernel_rfl
  rw [hk] at h
  obtain ⟨l0, t0, rfl, g0, h1⟩ := h.uncons
  obtain ⟨x0, rfl, s0⟩ := wf_list (show Ev.cells 149 = [.str, .int .i64] from by kernel_rfl) MPet_wf149 g0
  obtain rfl := h1.isnil
  show (R (x0.map MPet.row)).map RT.enc = _
  rw [R_eq s0]
  rfl
end laws_FnExactAreNames
end Go.DM
