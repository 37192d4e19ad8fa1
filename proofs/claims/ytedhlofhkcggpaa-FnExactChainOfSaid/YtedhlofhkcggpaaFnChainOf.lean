/- What the functions compute that the law reaches, and that the law returns true. Conditions: none. -/
import Derived.Test.YtedhlofhkcggpaaTy
import Derived.Test.YtedhlofhkcggpaaProg
import Derived.Lib.AppendZerosOnto
import Derived.Lib.Bytealg
import Derived.Laws.Externs
import Derived.Lib.Walk
import Derived.Lib.Hide
import Derived.Lib.Strings
set_option linter.all false
namespace Go.DM
open Go.Proofs
def Tab : List (Nat × TI) := [
  (2, ⟨[.int .i64], false, [], 8, false⟩),
  (3, ⟨[.int .i64], false, [], 8, false⟩),
  (4, ⟨[.bool], false, [], 1, false⟩),
  (5, ⟨[.int .u8], false, [], 1, false⟩),
  (6, ⟨[.int .u8], false, [], 1, false⟩),
  (7, ⟨[.int .i64, .int .i64, .bool, .int .u8], true, [(0, 2), (1, 3), (2, 4), (3, 6)], 24, false⟩),
  (8, ⟨[.int .i64, .int .i64, .bool, .int .u8], true, [(0, 2), (1, 3), (2, 4), (3, 6)], 24, false⟩),
  (9, ⟨[.str], false, [], 16, false⟩),
  (10, ⟨[.str], false, [], 16, false⟩),
  (11, ⟨[.str], false, [], 16, false⟩),
  (12, ⟨[.int .u64], false, [], 8, false⟩),
  (13, ⟨[.str, .int .u64], true, [(0, 9), (1, 12)], 24, false⟩),
  (14, ⟨[.str, .int .u64], true, [(0, 9), (1, 12)], 24, false⟩),
  (21, ⟨[.int .i32], false, [], 4, false⟩),
  (22, ⟨[.sl 140], false, [], 24, false⟩),
  (25, ⟨[.sl 142], false, [], 24, false⟩),
  (29, ⟨[.sl 149], false, [], 24, false⟩),
  (32, ⟨[.sl 150], false, [], 24, false⟩),
  (36, ⟨[.sl 9], false, [], 24, false⟩),
  (37, ⟨[.str, .int .i64, .int .i64, .sl 9], true, [(0, 9), (1, 3), (2, 3), (3, 36)], 56, false⟩),
  (38, ⟨[.str, .int .i64, .int .i64, .sl 9], true, [(0, 9), (1, 3), (2, 3), (3, 36)], 56, false⟩),
  (39, ⟨[.sl 38], false, [], 24, false⟩),
  (40, ⟨[.int .i64, .str, .int .i64, .int .i64, .sl 9, .sl 38], true, [(0, 3), (1, 38), (5, 39)], 88, false⟩),
  (41, ⟨[.int .i64, .str, .int .i64, .int .i64, .sl 9, .sl 38], true, [(0, 3), (1, 38), (5, 39)], 88, false⟩),
  (44, ⟨[.str, .int .i64, .int .i64, .sl 9], true, [(0, 9), (1, 3), (2, 3), (3, 36)], 56, false⟩),
  (45, ⟨[.sl 44], false, [], 24, false⟩),
  (46, ⟨[.int .i64, .str, .int .i64, .int .i64, .sl 9, .sl 44], true, [(0, 3), (1, 44), (5, 45)], 88, false⟩),
  (47, ⟨[.int .i64, .str, .int .i64, .int .i64, .sl 9, .sl 44], true, [(0, 3), (1, 44), (5, 45)], 88, false⟩),
  (55, ⟨[.sl 162], false, [], 24, false⟩),
  (60, ⟨[.sl 166], false, [], 24, false⟩),
  (74, ⟨[.sl 92], false, [], 24, false⟩),
  (75, ⟨[.sl 238], false, [], 24, false⟩),
  (76, ⟨[.sl 92, .sl 238], true, [(0, 74), (1, 75)], 48, false⟩),
  (77, ⟨[.sl 92, .sl 238], true, [(0, 74), (1, 75)], 48, false⟩),
  (79, ⟨[.sl 184], false, [], 24, false⟩),
  (82, ⟨[.sl 79], false, [], 24, false⟩),
  (83, ⟨[.sl 241], false, [], 24, false⟩),
  (84, ⟨[.sl 79, .sl 241], true, [(0, 82), (1, 83)], 48, false⟩),
  (85, ⟨[.sl 79, .sl 241], true, [(0, 82), (1, 83)], 48, false⟩),
  (92, ⟨[.sl 197], false, [], 24, false⟩),
  (94, ⟨[.sl 202], false, [], 24, false⟩),
  (100, ⟨[.sl 207], false, [], 24, false⟩),
  (102, ⟨[.sl 121], false, [], 24, false⟩),
  (104, ⟨[.sl 210], false, [], 24, false⟩),
  (117, ⟨[.sl 263], false, [], 24, false⟩),
  (118, ⟨[.sl 263], true, [(0, 117)], 24, false⟩),
  (119, ⟨[.sl 263], true, [(0, 117)], 24, false⟩),
  (121, ⟨[.sl 3], false, [], 24, false⟩),
  (122, ⟨[.int .i64, .sl 3], true, [(0, 3), (1, 121)], 32, false⟩),
  (123, ⟨[.int .i64, .sl 3], true, [(0, 3), (1, 121)], 32, false⟩),
  (124, ⟨[.int .i64, .str, .int .i64, .int .i64, .sl 9, .str, .int .i64, .int .i64, .sl 9, .int .i64, .sl 3, .int .i64, .sl 3], true, [(0, 3), (1, 44), (5, 44), (9, 123), (11, 123)], 184, false⟩),
  (125, ⟨[.int .i64, .str, .int .i64, .int .i64, .sl 9, .str, .int .i64, .int .i64, .sl 9, .int .i64, .sl 3, .int .i64, .sl 3], true, [(0, 3), (1, 44), (5, 44), (9, 123), (11, 123)], 184, false⟩),
  (126, ⟨[.sl 184, .bool, .str, .int .i64, .int .i64, .sl 9, .int .i64, .sl 3, .int .i64, .str, .int .i64, .int .i64, .sl 9, .str, .int .i64, .int .i64, .sl 9, .int .i64, .sl 3, .int .i64, .sl 3], true, [(0, 79), (1, 4), (2, 44), (6, 123), (8, 125)], 304, false⟩),
  (127, ⟨[.sl 184, .bool, .str, .int .i64, .int .i64, .sl 9, .int .i64, .sl 3, .int .i64, .str, .int .i64, .int .i64, .sl 9, .str, .int .i64, .int .i64, .sl 9, .int .i64, .sl 3, .int .i64, .sl 3], true, [(0, 79), (1, 4), (2, 44), (6, 123), (8, 125)], 304, false⟩),
  (129, ⟨[.sl 220], false, [], 24, false⟩),
  (130, ⟨[.sl 220], true, [(0, 129)], 24, false⟩),
  (131, ⟨[.sl 220], true, [(0, 129)], 24, false⟩),
  (139, ⟨[.str, .int .i64], true, [(0, 9), (1, 3)], 24, false⟩),
  (140, ⟨[.str, .int .i64], true, [(0, 9), (1, 3)], 24, true⟩),
  (142, ⟨[.str, .int .i64], true, [(0, 9), (1, 3)], 24, true⟩),
  (149, ⟨[.str, .int .i64], true, [(0, 9), (1, 3)], 24, true⟩),
  (150, ⟨[.str, .int .i64], true, [(0, 9), (1, 3)], 24, true⟩),
  (161, ⟨[.sl 9, .str, .int .i64, .int .i64, .sl 9], true, [(0, 36), (1, 38)], 80, false⟩),
  (162, ⟨[.sl 9, .str, .int .i64, .int .i64, .sl 9], true, [(0, 36), (1, 38)], 80, false⟩),
  (165, ⟨[.sl 9, .str, .int .i64, .int .i64, .sl 9], true, [(0, 36), (1, 44)], 80, false⟩),
  (166, ⟨[.sl 9, .str, .int .i64, .int .i64, .sl 9], true, [(0, 36), (1, 44)], 80, false⟩),
  (178, ⟨[.sl 3, .int .i64], true, [(0, 121), (1, 3)], 32, false⟩),
  (179, ⟨[.sl 3, .int .i64], true, [(0, 121), (1, 3)], 32, false⟩),
  (180, ⟨[.int .i64, .int .i64, .int .i64, .int .i64, .int .i64, .int .i64, .int .i64, .int .i64, .sl 3, .int .i64, .sl 3, .int .i64, .int .i64, .sl 3, .int .i64, .bool], true, [(0, 3), (1, 3), (2, 3), (3, 3), (4, 3), (5, 3), (6, 3), (7, 3), (8, 179), (10, 179), (12, 3), (13, 179), (15, 4)], 176, false⟩),
  (181, ⟨[.int .i64, .int .i64, .int .i64, .int .i64, .int .i64, .int .i64, .int .i64, .int .i64, .sl 3, .int .i64, .sl 3, .int .i64, .int .i64, .sl 3, .int .i64, .bool], true, [(0, 3), (1, 3), (2, 3), (3, 3), (4, 3), (5, 3), (6, 3), (7, 3), (8, 179), (10, 179), (12, 3), (13, 179), (15, 4)], 176, false⟩),
  (182, ⟨[.sl 248], false, [], 24, false⟩),
  (183, ⟨[.int .i64, .int .i64, .int .i64, .int .i64, .int .i64, .int .i64, .int .i64, .int .i64, .sl 3, .int .i64, .sl 3, .int .i64, .int .i64, .sl 3, .int .i64, .bool, .sl 248], true, [(0, 181), (16, 182)], 200, false⟩),
  (184, ⟨[.int .i64, .int .i64, .int .i64, .int .i64, .int .i64, .int .i64, .int .i64, .int .i64, .sl 3, .int .i64, .sl 3, .int .i64, .int .i64, .sl 3, .int .i64, .bool, .sl 248], true, [(0, 181), (16, 182)], 200, false⟩),
  (192, ⟨[.sl 3, .int .i64], true, [(0, 121), (1, 3)], 32, false⟩),
  (193, ⟨[.int .i64, .int .i64, .int .i64, .int .i64, .int .i64, .int .i64, .int .i64, .int .i64, .sl 3, .int .i64, .sl 3, .int .i64, .int .i64, .sl 3, .int .i64, .bool], true, [(0, 3), (1, 3), (2, 3), (3, 3), (4, 3), (5, 3), (6, 3), (7, 3), (8, 192), (10, 192), (12, 3), (13, 192), (15, 4)], 176, false⟩),
  (194, ⟨[.int .i64, .int .i64, .int .i64, .int .i64, .int .i64, .int .i64, .int .i64, .int .i64, .sl 3, .int .i64, .sl 3, .int .i64, .int .i64, .sl 3, .int .i64, .bool], true, [(0, 3), (1, 3), (2, 3), (3, 3), (4, 3), (5, 3), (6, 3), (7, 3), (8, 192), (10, 192), (12, 3), (13, 192), (15, 4)], 176, false⟩),
  (195, ⟨[.sl 279], false, [], 24, false⟩),
  (196, ⟨[.int .i64, .int .i64, .int .i64, .int .i64, .int .i64, .int .i64, .int .i64, .int .i64, .sl 3, .int .i64, .sl 3, .int .i64, .int .i64, .sl 3, .int .i64, .bool, .sl 279], true, [(0, 194), (16, 195)], 200, false⟩),
  (197, ⟨[.int .i64, .int .i64, .int .i64, .int .i64, .int .i64, .int .i64, .int .i64, .int .i64, .sl 3, .int .i64, .sl 3, .int .i64, .int .i64, .sl 3, .int .i64, .bool, .sl 279], true, [(0, 194), (16, 195)], 200, false⟩),
  (201, ⟨[.int .i64, .sl 3, .int .i64, .int .i64], true, [(0, 3), (1, 179), (3, 3)], 48, false⟩),
  (202, ⟨[.int .i64, .sl 3, .int .i64, .int .i64], true, [(0, 3), (1, 179), (3, 3)], 48, false⟩),
  (206, ⟨[.sl 92, .sl 238, .int .i64, .str, .int .i64, .int .i64, .sl 9, .sl 3, .int .i64], true, [(0, 77), (2, 3), (3, 38), (7, 121), (8, 3)], 144, false⟩),
  (207, ⟨[.sl 92, .sl 238, .int .i64, .str, .int .i64, .int .i64, .sl 9, .sl 3, .int .i64], true, [(0, 77), (2, 3), (3, 38), (7, 121), (8, 3)], 144, false⟩),
  (209, ⟨[.sl 79, .sl 241, .int .i64, .str, .int .i64, .int .i64, .sl 9, .sl 3, .int .i64], true, [(0, 85), (2, 3), (3, 44), (7, 121), (8, 3)], 144, false⟩),
  (210, ⟨[.sl 79, .sl 241, .int .i64, .str, .int .i64, .int .i64, .sl 9, .sl 3, .int .i64], true, [(0, 85), (2, 3), (3, 44), (7, 121), (8, 3)], 144, false⟩),
  (219, ⟨[.int .i64, .str, .sl 184, .bool, .str, .int .i64, .int .i64, .sl 9, .int .i64, .sl 3, .int .i64, .str, .int .i64, .int .i64, .sl 9, .str, .int .i64, .int .i64, .sl 9, .int .i64, .sl 3, .int .i64, .sl 3], true, [(0, 3), (1, 9), (2, 127)], 328, false⟩),
  (220, ⟨[.int .i64, .str, .sl 184, .bool, .str, .int .i64, .int .i64, .sl 9, .int .i64, .sl 3, .int .i64, .str, .int .i64, .int .i64, .sl 9, .str, .int .i64, .int .i64, .sl 9, .int .i64, .sl 3, .int .i64, .sl 3], true, [(0, 3), (1, 9), (2, 127)], 328, false⟩),
  (231, ⟨[.sl 5], false, [], 24, false⟩),
  (237, ⟨[.int .i64, .int .i64, .int .i64, .int .i64, .int .i64, .int .i64, .int .i64, .int .i64, .sl 3, .int .i64, .sl 3, .int .i64, .int .i64, .sl 3, .int .i64, .bool, .sl 279, .int .i64, .int .i64, .int .i64, .int .i64, .int .i64, .int .i64, .int .i64, .int .i64, .sl 3, .int .i64, .sl 3, .int .i64, .int .i64, .sl 3, .int .i64, .bool, .sl 279, .int .i64, .int .i64, .int .i64, .int .i64, .int .i64, .int .i64, .int .i64, .int .i64, .sl 3, .int .i64, .sl 3, .int .i64, .int .i64, .sl 3, .int .i64, .bool, .sl 279], true, [(0, 197), (17, 197), (34, 197)], 600, false⟩),
  (238, ⟨[.int .i64, .int .i64, .int .i64, .int .i64, .int .i64, .int .i64, .int .i64, .int .i64, .sl 3, .int .i64, .sl 3, .int .i64, .int .i64, .sl 3, .int .i64, .bool, .sl 279, .int .i64, .int .i64, .int .i64, .int .i64, .int .i64, .int .i64, .int .i64, .int .i64, .sl 3, .int .i64, .sl 3, .int .i64, .int .i64, .sl 3, .int .i64, .bool, .sl 279, .int .i64, .int .i64, .int .i64, .int .i64, .int .i64, .int .i64, .int .i64, .int .i64, .sl 3, .int .i64, .sl 3, .int .i64, .int .i64, .sl 3, .int .i64, .bool, .sl 279], true, [(0, 197), (17, 197), (34, 197)], 600, false⟩),
  (240, ⟨[.int .i64, .int .i64, .int .i64, .int .i64, .int .i64, .int .i64, .int .i64, .int .i64, .sl 3, .int .i64, .sl 3, .int .i64, .int .i64, .sl 3, .int .i64, .bool, .sl 248, .int .i64, .int .i64, .int .i64, .int .i64, .int .i64, .int .i64, .int .i64, .int .i64, .sl 3, .int .i64, .sl 3, .int .i64, .int .i64, .sl 3, .int .i64, .bool, .sl 248, .int .i64, .int .i64, .int .i64, .int .i64, .int .i64, .int .i64, .int .i64, .int .i64, .sl 3, .int .i64, .sl 3, .int .i64, .int .i64, .sl 3, .int .i64, .bool, .sl 248], true, [(0, 184), (17, 184), (34, 184)], 600, false⟩),
  (241, ⟨[.int .i64, .int .i64, .int .i64, .int .i64, .int .i64, .int .i64, .int .i64, .int .i64, .sl 3, .int .i64, .sl 3, .int .i64, .int .i64, .sl 3, .int .i64, .bool, .sl 248, .int .i64, .int .i64, .int .i64, .int .i64, .int .i64, .int .i64, .int .i64, .int .i64, .sl 3, .int .i64, .sl 3, .int .i64, .int .i64, .sl 3, .int .i64, .bool, .sl 248, .int .i64, .int .i64, .int .i64, .int .i64, .int .i64, .int .i64, .int .i64, .int .i64, .sl 3, .int .i64, .sl 3, .int .i64, .int .i64, .sl 3, .int .i64, .bool, .sl 248], true, [(0, 184), (17, 184), (34, 184)], 600, false⟩),
  (247, ⟨[.int .i64, .int .i64], true, [(0, 3), (1, 3)], 16, false⟩),
  (248, ⟨[.int .i64, .int .i64], true, [(0, 3), (1, 3)], 16, true⟩),
  (257, ⟨[.int .i64, .sl 3], true, [(0, 3), (1, 121)], 32, false⟩),
  (258, ⟨[.int .i64, .str, .int .i64, .int .i64, .sl 9, .str, .int .i64, .int .i64, .sl 9, .int .i64, .sl 3, .int .i64, .sl 3], true, [(0, 3), (1, 38), (5, 38), (9, 257), (11, 257)], 184, false⟩),
  (259, ⟨[.int .i64, .str, .int .i64, .int .i64, .sl 9, .str, .int .i64, .int .i64, .sl 9, .int .i64, .sl 3, .int .i64, .sl 3], true, [(0, 3), (1, 38), (5, 38), (9, 257), (11, 257)], 184, false⟩),
  (260, ⟨[.sl 197, .bool, .str, .int .i64, .int .i64, .sl 9, .int .i64, .sl 3, .int .i64, .str, .int .i64, .int .i64, .sl 9, .str, .int .i64, .int .i64, .sl 9, .int .i64, .sl 3, .int .i64, .sl 3], true, [(0, 92), (1, 4), (2, 38), (6, 257), (8, 259)], 304, false⟩),
  (261, ⟨[.sl 197, .bool, .str, .int .i64, .int .i64, .sl 9, .int .i64, .sl 3, .int .i64, .str, .int .i64, .int .i64, .sl 9, .str, .int .i64, .int .i64, .sl 9, .int .i64, .sl 3, .int .i64, .sl 3], true, [(0, 92), (1, 4), (2, 38), (6, 257), (8, 259)], 304, false⟩),
  (262, ⟨[.int .i64, .str, .sl 197, .bool, .str, .int .i64, .int .i64, .sl 9, .int .i64, .sl 3, .int .i64, .str, .int .i64, .int .i64, .sl 9, .str, .int .i64, .int .i64, .sl 9, .int .i64, .sl 3, .int .i64, .sl 3], true, [(0, 3), (1, 9), (2, 261)], 328, false⟩),
  (263, ⟨[.int .i64, .str, .sl 197, .bool, .str, .int .i64, .int .i64, .sl 9, .int .i64, .sl 3, .int .i64, .str, .int .i64, .int .i64, .sl 9, .str, .int .i64, .int .i64, .sl 9, .int .i64, .sl 3, .int .i64, .sl 3], true, [(0, 3), (1, 9), (2, 261)], 328, false⟩),
  (279, ⟨[.int .i64, .int .i64], true, [(0, 3), (1, 3)], 16, true⟩),
  (316, ⟨[.int .u32], false, [], 4, false⟩),
  (317, ⟨[.int .u8], false, [], 1, false⟩),
  (318, ⟨[.int .u8], false, [], 1, false⟩),
  (321, ⟨[.int .i32], false, [], 4, false⟩),
  (322, ⟨[.int .i32], false, [], 4, false⟩)]
noncomputable abbrev Ev : Env := Env0 Tab
theorem tab_ok : tableB Try.prog Tab = true := by kernel_rfl
theorem mix : Try.prog.follows .mixedOrders = true := by kernel_rfl
/-! laws.szIntS -/
namespace laws_szIntS
noncomputable def F (x0 : List (List L)) (x1 : Int) : Ans := (bif (decide ((IntKind.i64.wrap (x1 - (x0.length : Int))) < 0)) then ret ((-1) : Int) else ret ((IntKind.i64.wrap (x1 - (x0.length : Int))) : Int))
def pats : List Pat := [.rd (.sl 3), .rd (.int .i64)]
def res : RP := .one (.rd (.int .i64))
noncomputable abbrev E : Env := { T := assoc Tab, G := conG [], nt := 12 }
set_option maxRecDepth 100000
theorem run_eq (n : Nat) (ls : List L) : runF E (fun _ => []) Try.f212 res n (initS pats ls) = F (ls.headD .hole).toSl ((dropT 1 ls).headD .hole).toInt := by kernel_rfl
noncomputable def md (a0 : List Int) (a1 : Int) : Int := szM (szL (fun y : Int => 0) a0) a1
def gd (a0 : List Int) (a1 : Int) : Prop := (SmL maxLen (fun y : Int => True) a0) ∧ 0 ≤ a1 ∧ a1 ≤ 1048576
def acc (ls : List L) : List (List L) × Int := ((ls.headD .hole).toSl, ((dropT 1 ls).headD .hole).toInt)
noncomputable def R : (List (List L) × Int) → Option Int := RR (p2 gd) (u2 md)
theorem R_eq {a0} {a1} (h : gd a0 a1) : R ((a0.map iRow), a1) = some (md a0 a1) := RR_eq (a := (a0, a1)) h
noncomputable def con : Con := CN pats res acc R
theorem okF (a0 : List Int) (a1 : Int) (hg : gd a0 a1) : F (a0.map iRow) a1 = ret ((md a0 a1) : Int) := by
  obtain ⟨hs, g0, g1⟩ := hg
  unfold F md
  rw [List.length_map, sz_wrap g0 g1 hs.1]
  have e : szL (fun y : Int => 0) a0 = a0.length := by
    unfold szL
    have : (a0.map (fun y : Int => 0)).sum = 0 := sum_zero (fun _ => rfl) a0
    omega
  rw [e]
  by_cases hc : a1 < ((a0.length : Nat) : Int)
  · rw [szM_neg hc, decide_eq_true (by omega)]; rfl
  · rw [szM_pos hc, decide_eq_false (by omega)]; rfl
theorem valid_ : Valid Try.prog Ev 212 con := VV (run := fun _ x => F x.1 x.2) mix tab_ok .nil Try.func212 (by kernel_rfl) run_eq (fun _ a _ _ hg => ⟨0, okF a.1 a.2 hg⟩)
end laws_szIntS
/-! laws.szKeys -/
namespace laws_szKeys
noncomputable def F (x0 : RKeys) (x1 : Int) : Ans := (call (laws_szIntS.R (x0.fList, x1)) fun v1 => (bif (decide (v1 < 0)) then ret ((-1) : Int) else ret (v1 : Int)))
def pats : List Pat := [.agg [.sl 3, .int .i64], .rd (.int .i64)]
def res : RP := .one (.rd (.int .i64))
noncomputable abbrev E : Env := { T := assoc Tab, G := conG [(212, laws_szIntS.con)], nt := 12 }
set_option maxRecDepth 100000
theorem run_eq (n : Nat) (ls : List L) : runF E (fun _ => []) Try.f233 res n (initS pats ls) = F (RKeys.dec ls) ((dropT 2 ls).headD .hole).toInt := by kernel_rfl
noncomputable def md (a0 : MKeys) (a1 : Int) : Int := szM (MKeys.size a0) a1
def gd (a0 : MKeys) (a1 : Int) : Prop := (MKeys.Sm maxLen a0) ∧ 0 ≤ a1 ∧ a1 ≤ 1048576
def acc (ls : List L) : RKeys × Int := ((RKeys.dec ls), ((dropT 2 ls).headD .hole).toInt)
noncomputable def R : (RKeys × Int) → Option Int := RR (p2 gd) (u2 md)
theorem R_eq {a0} {a1} (h : gd a0 a1) : R ((MKeys.r a0), a1) = some (md a0 a1) := RR_eq (a := (a0, a1)) h
noncomputable def con : Con := CN pats res acc R
theorem okF (a0 : MKeys) (a1 : Int) (hg : gd a0 a1) : F (MKeys.r a0) a1 = ret ((md a0 a1) : Int) := by
  obtain ⟨hs, g0, g1⟩ := hg
  unfold md
  show (call (laws_szIntS.R ((a0.fList.map iRow), a1)) fun v1 => (bif (decide (v1 < 0)) then ret ((-1) : Int) else ret (v1 : Int))) = _
  rw [call_eq (laws_szIntS.R_eq (a1 := a1) ⟨hs, by omega, by omega⟩)]
  unfold laws_szIntS.md
  by_cases c0 : a1 < ((szL (fun y : Int => 0) a0.fList : Nat) : Int)
  · rw [szM_neg c0]; rw [show szM (MKeys.size a0) a1 = -1 from szM_neg (by unfold MKeys.size; omega)]; try rfl
  rw [szM_pos c0, dec_neg (by omega), cond_false]
  rw [show szM (MKeys.size a0) a1 = a1 - ((szL (fun y : Int => 0) a0.fList : Nat) : Int) from by rw [szM_pos (by unfold MKeys.size; omega)]; unfold MKeys.size; omega]
theorem valid_ : Valid Try.prog Ev 233 con := VV (run := fun _ x => F x.1 x.2) mix tab_ok (.cons laws_szIntS.valid_ .nil) Try.func233 (by kernel_rfl) run_eq (fun _ a _ _ hg => ⟨0, okF a.1 a.2 hg⟩)
end laws_szKeys
/-! laws.szHead -/
namespace laws_szHead
noncomputable def F (x0 : RHead) (x1 : Int) : Ans := (call (laws_szKeys.R (x0.fKeys, x1)) fun v1 => (bif (decide (v1 < 0)) then ret ((-1) : Int) else (call (laws_szKeys.R (x0.fHeirs, v1)) fun v2 => (bif (decide (v2 < 0)) then ret ((-1) : Int) else (call (laws_szKeys.R (x0.fJudge, v2)) fun v3 => (bif (decide (v3 < 0)) then ret ((-1) : Int) else ret (v3 : Int)))))))
def pats : List Pat := [.agg [.int .i64, .int .i64, .int .i64, .int .i64, .int .i64, .int .i64, .int .i64, .int .i64, .sl 3, .int .i64, .sl 3, .int .i64, .int .i64, .sl 3, .int .i64, .bool], .rd (.int .i64)]
def res : RP := .one (.rd (.int .i64))
noncomputable abbrev E : Env := { T := assoc Tab, G := conG [(233, laws_szKeys.con)], nt := 24 }
set_option maxRecDepth 100000
theorem run_eq (n : Nat) (ls : List L) : runF E (fun _ => []) Try.f202 res n (initS pats ls) = F (RHead.dec ls) ((dropT 16 ls).headD .hole).toInt := by kernel_rfl
noncomputable def md (a0 : MHead) (a1 : Int) : Int := szM (MHead.size a0) a1
def gd (a0 : MHead) (a1 : Int) : Prop := (MHead.Sm maxLen a0) ∧ 0 ≤ a1 ∧ a1 ≤ 1048576
def acc (ls : List L) : RHead × Int := ((RHead.dec ls), ((dropT 16 ls).headD .hole).toInt)
noncomputable def R : (RHead × Int) → Option Int := RR (p2 gd) (u2 md)
theorem R_eq {a0} {a1} (h : gd a0 a1) : R ((MHead.r a0), a1) = some (md a0 a1) := RR_eq (a := (a0, a1)) h
noncomputable def con : Con := CN pats res acc R
theorem okF (a0 : MHead) (a1 : Int) (hg : gd a0 a1) : F (MHead.r a0) a1 = ret ((md a0 a1) : Int) := by
  obtain ⟨hs, g0, g1⟩ := hg
  unfold md
  show (call (laws_szKeys.R ((MKeys.r a0.fKeys), a1)) fun v1 => (bif (decide (v1 < 0)) then ret ((-1) : Int) else (call (laws_szKeys.R ((MKeys.r a0.fHeirs), v1)) fun v2 => (bif (decide (v2 < 0)) then ret ((-1) : Int) else (call (laws_szKeys.R ((MKeys.r a0.fJudge), v2)) fun v3 => (bif (decide (v3 < 0)) then ret ((-1) : Int) else ret (v3 : Int))))))) = _
  rw [call_eq (laws_szKeys.R_eq (a1 := a1) ⟨hs.1, by omega, by omega⟩)]
  unfold laws_szKeys.md
  by_cases c0 : a1 < ((MKeys.size a0.fKeys : Nat) : Int)
  · rw [szM_neg c0]; rw [show szM (MHead.size a0) a1 = -1 from szM_neg (by unfold MHead.size; omega)]; try rfl
  rw [szM_pos c0, dec_neg (by omega), cond_false]
  rw [call_eq (laws_szKeys.R_eq (a1 := (a1 - ((MKeys.size a0.fKeys : Nat) : Int))) ⟨hs.2.1, by omega, by omega⟩)]
  unfold laws_szKeys.md
  by_cases c1 : (a1 - ((MKeys.size a0.fKeys : Nat) : Int)) < ((MKeys.size a0.fHeirs : Nat) : Int)
  · rw [szM_neg c1]; rw [show szM (MHead.size a0) a1 = -1 from szM_neg (by unfold MHead.size; omega)]; try rfl
  rw [szM_pos c1, dec_neg (by omega), cond_false]
  rw [call_eq (laws_szKeys.R_eq (a1 := (a1 - ((MKeys.size a0.fKeys : Nat) : Int) - ((MKeys.size a0.fHeirs : Nat) : Int))) ⟨hs.2.2, by omega, by omega⟩)]
  unfold laws_szKeys.md
  by_cases c2 : (a1 - ((MKeys.size a0.fKeys : Nat) : Int) - ((MKeys.size a0.fHeirs : Nat) : Int)) < ((MKeys.size a0.fJudge : Nat) : Int)
  · rw [szM_neg c2]; rw [show szM (MHead.size a0) a1 = -1 from szM_neg (by unfold MHead.size; omega)]; try rfl
  rw [szM_pos c2, dec_neg (by omega), cond_false]
  rw [show szM (MHead.size a0) a1 = a1 - ((MKeys.size a0.fKeys : Nat) : Int) - ((MKeys.size a0.fHeirs : Nat) : Int) - ((MKeys.size a0.fJudge : Nat) : Int) from by rw [szM_pos (by unfold MHead.size; omega)]; unfold MHead.size; omega]
theorem valid_ : Valid Try.prog Ev 202 con := VV (run := fun _ x => F x.1 x.2) mix tab_ok (.cons laws_szKeys.valid_ .nil) Try.func202 (by kernel_rfl) run_eq (fun _ a _ _ hg => ⟨0, okF a.1 a.2 hg⟩)
end laws_szHead
/-! laws.szSigS -/
namespace laws_szSigS
noncomputable def F (x0 : List (List L)) (x1 : Int) : Ans := (bif (decide ((IntKind.i64.wrap (x1 - (x0.length : Int))) < 0)) then ret ((-1) : Int) else ret ((IntKind.i64.wrap (x1 - (x0.length : Int))) : Int))
def pats : List Pat := [.rd (.sl 279), .rd (.int .i64)]
def res : RP := .one (.rd (.int .i64))
noncomputable abbrev E : Env := { T := assoc Tab, G := conG [], nt := 12 }
set_option maxRecDepth 100000
theorem run_eq (n : Nat) (ls : List L) : runF E (fun _ => []) Try.f203 res n (initS pats ls) = F (ls.headD .hole).toSl ((dropT 1 ls).headD .hole).toInt := by kernel_rfl
noncomputable def md (a0 : List MSig) (a1 : Int) : Int := szM (szL (fun y : MSig => MSig.size y) a0) a1
def gd (a0 : List MSig) (a1 : Int) : Prop := (SmL maxLen (fun y : MSig => MSig.Sm maxLen y) a0) ∧ 0 ≤ a1 ∧ a1 ≤ 1048576
def acc (ls : List L) : List (List L) × Int := ((ls.headD .hole).toSl, ((dropT 1 ls).headD .hole).toInt)
noncomputable def R : (List (List L) × Int) → Option Int := RR (p2 gd) (u2 md)
theorem R_eq {a0} {a1} (h : gd a0 a1) : R ((a0.map MSig.row), a1) = some (md a0 a1) := RR_eq (a := (a0, a1)) h
noncomputable def con : Con := CN pats res acc R
theorem okF (a0 : List MSig) (a1 : Int) (hg : gd a0 a1) : F (a0.map MSig.row) a1 = ret ((md a0 a1) : Int) := by
  obtain ⟨hs, g0, g1⟩ := hg
  unfold F md
  rw [List.length_map, sz_wrap g0 g1 hs.1]
  have e : szL (fun y : MSig => MSig.size y) a0 = a0.length := by
    unfold szL
    have : (a0.map (fun y : MSig => MSig.size y)).sum = 0 := sum_zero (fun _ => rfl) a0
    omega
  rw [e]
  by_cases hc : a1 < ((a0.length : Nat) : Int)
  · rw [szM_neg hc, decide_eq_true (by omega)]; rfl
  · rw [szM_pos hc, decide_eq_false (by omega)]; rfl
theorem valid_ : Valid Try.prog Ev 203 con := VV (run := fun _ x => F x.1 x.2) mix tab_ok .nil Try.func203 (by kernel_rfl) run_eq (fun _ a _ _ hg => ⟨0, okF a.1 a.2 hg⟩)
end laws_szSigS
/-! laws.szSigned -/
namespace laws_szSigned
noncomputable def F (x0 : RSigned) (x1 : Int) : Ans := (call (laws_szHead.R (x0.fHead, x1)) fun v1 => (bif (decide (v1 < 0)) then ret ((-1) : Int) else (call (laws_szSigS.R (x0.fSigs, v1)) fun v2 => (bif (decide (v2 < 0)) then ret ((-1) : Int) else ret (v2 : Int)))))
def pats : List Pat := [.agg [.int .i64, .int .i64, .int .i64, .int .i64, .int .i64, .int .i64, .int .i64, .int .i64, .sl 3, .int .i64, .sl 3, .int .i64, .int .i64, .sl 3, .int .i64, .bool, .sl 279], .rd (.int .i64)]
def res : RP := .one (.rd (.int .i64))
noncomputable abbrev E : Env := { T := assoc Tab, G := conG [(202, laws_szHead.con), (203, laws_szSigS.con)], nt := 18 }
set_option maxRecDepth 100000
theorem run_eq (n : Nat) (ls : List L) : runF E (fun _ => []) Try.f146 res n (initS pats ls) = F (RSigned.dec ls) ((dropT 17 ls).headD .hole).toInt := by kernel_rfl
noncomputable def md (a0 : MSigned) (a1 : Int) : Int := szM (MSigned.size a0) a1
def gd (a0 : MSigned) (a1 : Int) : Prop := (MSigned.Sm maxLen a0) ∧ 0 ≤ a1 ∧ a1 ≤ 1048576
def acc (ls : List L) : RSigned × Int := ((RSigned.dec ls), ((dropT 17 ls).headD .hole).toInt)
noncomputable def R : (RSigned × Int) → Option Int := RR (p2 gd) (u2 md)
theorem R_eq {a0} {a1} (h : gd a0 a1) : R ((MSigned.r a0), a1) = some (md a0 a1) := RR_eq (a := (a0, a1)) h
noncomputable def con : Con := CN pats res acc R
theorem okF (a0 : MSigned) (a1 : Int) (hg : gd a0 a1) : F (MSigned.r a0) a1 = ret ((md a0 a1) : Int) := by
  obtain ⟨hs, g0, g1⟩ := hg
  unfold md
  show (call (laws_szHead.R ((MHead.r a0.fHead), a1)) fun v1 => (bif (decide (v1 < 0)) then ret ((-1) : Int) else (call (laws_szSigS.R ((a0.fSigs.map MSig.row), v1)) fun v2 => (bif (decide (v2 < 0)) then ret ((-1) : Int) else ret (v2 : Int))))) = _
  rw [call_eq (laws_szHead.R_eq (a1 := a1) ⟨hs.1, by omega, by omega⟩)]
  unfold laws_szHead.md
  by_cases c0 : a1 < ((MHead.size a0.fHead : Nat) : Int)
  · rw [szM_neg c0]; rw [show szM (MSigned.size a0) a1 = -1 from szM_neg (by unfold MSigned.size; omega)]; try rfl
  rw [szM_pos c0, dec_neg (by omega), cond_false]
  rw [call_eq (laws_szSigS.R_eq (a1 := (a1 - ((MHead.size a0.fHead : Nat) : Int))) ⟨hs.2, by omega, by omega⟩)]
  unfold laws_szSigS.md
  by_cases c1 : (a1 - ((MHead.size a0.fHead : Nat) : Int)) < ((szL (fun y : MSig => MSig.size y) a0.fSigs : Nat) : Int)
  · rw [szM_neg c1]; rw [show szM (MSigned.size a0) a1 = -1 from szM_neg (by unfold MSigned.size; omega)]; try rfl
  rw [szM_pos c1, dec_neg (by omega), cond_false]
  rw [show szM (MSigned.size a0) a1 = a1 - ((MHead.size a0.fHead : Nat) : Int) - ((szL (fun y : MSig => MSig.size y) a0.fSigs : Nat) : Int) from by rw [szM_pos (by unfold MSigned.size; omega)]; unfold MSigned.size; omega]
theorem valid_ : Valid Try.prog Ev 146 con := VV (run := fun _ x => F x.1 x.2) mix tab_ok (.cons laws_szHead.valid_ (.cons laws_szSigS.valid_ .nil)) Try.func146 (by kernel_rfl) run_eq (fun _ a _ _ hg => ⟨0, okF a.1 a.2 hg⟩)
end laws_szSigned
/-! laws.szSignedS -/
namespace laws_szSignedS
inductive Pt where
  | p0 (a : List (List L)) (b : Int) (c : Int)
def pid : Pt → Nat
  | .p0 .. => 5
def pvs : Pt → List V
  | .p0 a b c => [.sl none 197 a, .int .i64 b, .int .i64 c]
def phs : Pt → List Root
  | .p0 a b c => []
noncomputable def step (J : Pt → Ans) : Pt → Ans
  | .p0 a b c => (bif (decide (c < (a.length : Int))) then (bif (decide ((0 : Int) ≤ c)) then (bif (decide (c < (a.length : Int))) then (call (laws_szSigned.R ((RSigned.at a (Int.toNat c)), b)) fun v1 => (bif (decide (v1 < 0)) then ret ((-1) : Int) else J (.p0 a v1 (IntKind.i64.wrap (c + 1))))) else none) else none) else ret (b : Int))
noncomputable def start (J : Pt → Ans) (x0 : List (List L)) (x1 : Int) : Ans := (bif (decide ((IntKind.i64.wrap (x1 - (x0.length : Int))) < 0)) then ret ((-1) : Int) else J (.p0 x0 (IntKind.i64.wrap (x1 - (x0.length : Int))) 0))
def live : Nat → Live := fun i => match i with | 5 => [(0, none), (1, none), (5, none)] | _ => []
def pats : List Pat := [.rd (.sl 197), .rd (.int .i64)]
def res : RP := .one (.rd (.int .i64))
noncomputable abbrev E : Env := { T := assoc Tab, G := conG [(146, laws_szSigned.con)], nt := 27 }
set_option maxRecDepth 100000
theorem step_eq (I : Heads) (p : Pt) : enterC E live I (pid p) (bodyOf Try.f61) (stOf (live (pid p)) (pvs p) (phs p)) (doneK E Try.f61 res) = step (fun q => I (pid q) (pvs q) (phs q)) p := by
  cases p <;> kernel_rfl
theorem start_eq (I : Heads) (ls : List L) : runC E live I (bodyOf Try.f61) (initS pats ls) (doneK E Try.f61 res) = start (fun q => I (pid q) (pvs q) (phs q)) (ls.headD .hole).toSl ((dropT 1 ls).headD .hole).toInt := by kernel_rfl
theorem run_eq (n : Nat) (ls : List L) : runF E live Try.f61 res n (initS pats ls) = start (iter step n) (ls.headD .hole).toSl ((dropT 1 ls).headD .hole).toInt := runF_iter (id := pid) (vs := pvs) (hs := phs) (step := step) (start := fun J => start J (ls.headD .hole).toSl ((dropT 1 ls).headD .hole).toInt) step_eq (fun I => start_eq I ls) n
noncomputable def md (a0 : List MSigned) (a1 : Int) : Int := szM (szL (fun y : MSigned => MSigned.size y) a0) a1
def gd (a0 : List MSigned) (a1 : Int) : Prop := (SmL maxLen (fun y : MSigned => MSigned.Sm maxLen y) a0) ∧ 0 ≤ a1 ∧ a1 ≤ 1048576
def acc (ls : List L) : List (List L) × Int := ((ls.headD .hole).toSl, ((dropT 1 ls).headD .hole).toInt)
noncomputable def R : (List (List L) × Int) → Option Int := RR (p2 gd) (u2 md)
theorem R_eq {a0} {a1} (h : gd a0 a1) : R ((a0.map MSigned.row), a1) = some (md a0 a1) := RR_eq (a := (a0, a1)) h
noncomputable def con : Con := CN pats res acc R
theorem okF (a0 : List MSigned) (a1 : Int) (hg : gd a0 a1) : ∃ n, start (iter step n) (a0.map MSigned.row) a1 = ret ((md a0 a1) : Int) := by
  obtain ⟨hs, g0, g1⟩ := hg
  unfold start md
  simp only [List.length_map]
  refine sz_list (pt := fun left i => Pt.p0 (a0.map MSigned.row) left (i : Int)) (f := fun y : MSigned => MSigned.size y) hs.1 (fun J i h left p0 p1 => ?_) (fun J left => ?_) g0 g1
  · simp only [step, List.length_map, lt_dec h, zle_dec, cond_true, toNat_nat, MSigned.at_row h]
    rw [call_eq (laws_szSigned.R_eq ⟨hs.get h, p0, p1⟩), wrap_succ h hs.1]
    unfold laws_szSigned.md
    by_cases hc : left < ((MSigned.size (a0[i]) : Nat) : Int)
    · rw [szM_neg hc, if_pos hc]; rfl
    · rw [szM_pos hc, if_neg hc, dec_neg (by omega)]; rfl
  · simp only [step, List.length_map, nlt_dec, cond_false]
theorem valid_ : Valid Try.prog Ev 61 con := VV (run := fun n x => start (iter step n) x.1 x.2) mix tab_ok (.cons laws_szSigned.valid_ .nil) Try.func61 (by kernel_rfl) run_eq (fun _ a _ _ hg => okF a.1 a.2 hg)
end laws_szSignedS
/-! laws.szSignedSS -/
namespace laws_szSignedSS
inductive Pt where
  | p0 (a : List (List L)) (b : Int) (c : Int)
def pid : Pt → Nat
  | .p0 .. => 5
def pvs : Pt → List V
  | .p0 a b c => [.sl none 92 a, .int .i64 b, .int .i64 c]
def phs : Pt → List Root
  | .p0 a b c => []
noncomputable def step (J : Pt → Ans) : Pt → Ans
  | .p0 a b c => (bif (decide (c < (a.length : Int))) then (bif (decide ((0 : Int) ≤ c)) then (bif (decide (c < (a.length : Int))) then (call (laws_szSignedS.R ((lAt a (Int.toNat c)), b)) fun v1 => (bif (decide (v1 < 0)) then ret ((-1) : Int) else J (.p0 a v1 (IntKind.i64.wrap (c + 1))))) else none) else none) else ret (b : Int))
noncomputable def start (J : Pt → Ans) (x0 : List (List L)) (x1 : Int) : Ans := (bif (decide ((IntKind.i64.wrap (x1 - (x0.length : Int))) < 0)) then ret ((-1) : Int) else J (.p0 x0 (IntKind.i64.wrap (x1 - (x0.length : Int))) 0))
def live : Nat → Live := fun i => match i with | 5 => [(0, none), (1, none), (5, none)] | _ => []
def pats : List Pat := [.rd (.sl 92), .rd (.int .i64)]
def res : RP := .one (.rd (.int .i64))
noncomputable abbrev E : Env := { T := assoc Tab, G := conG [(61, laws_szSignedS.con)], nt := 27 }
set_option maxRecDepth 100000
theorem step_eq (I : Heads) (p : Pt) : enterC E live I (pid p) (bodyOf Try.f129) (stOf (live (pid p)) (pvs p) (phs p)) (doneK E Try.f129 res) = step (fun q => I (pid q) (pvs q) (phs q)) p := by
  cases p <;> kernel_rfl
theorem start_eq (I : Heads) (ls : List L) : runC E live I (bodyOf Try.f129) (initS pats ls) (doneK E Try.f129 res) = start (fun q => I (pid q) (pvs q) (phs q)) (ls.headD .hole).toSl ((dropT 1 ls).headD .hole).toInt := by kernel_rfl
theorem run_eq (n : Nat) (ls : List L) : runF E live Try.f129 res n (initS pats ls) = start (iter step n) (ls.headD .hole).toSl ((dropT 1 ls).headD .hole).toInt := runF_iter (id := pid) (vs := pvs) (hs := phs) (step := step) (start := fun J => start J (ls.headD .hole).toSl ((dropT 1 ls).headD .hole).toInt) step_eq (fun I => start_eq I ls) n
noncomputable def md (a0 : List (List MSigned)) (a1 : Int) : Int := szM (szL (fun y : List MSigned => szL (fun y : MSigned => MSigned.size y) y) a0) a1
def gd (a0 : List (List MSigned)) (a1 : Int) : Prop := (SmL maxLen (fun y : List MSigned => SmL maxLen (fun y : MSigned => MSigned.Sm maxLen y) y) a0) ∧ 0 ≤ a1 ∧ a1 ≤ 1048576
def acc (ls : List L) : List (List L) × Int := ((ls.headD .hole).toSl, ((dropT 1 ls).headD .hole).toInt)
noncomputable def R : (List (List L) × Int) → Option Int := RR (p2 gd) (u2 md)
theorem R_eq {a0} {a1} (h : gd a0 a1) : R ((a0.map (lRow MSigned.row)), a1) = some (md a0 a1) := RR_eq (a := (a0, a1)) h
noncomputable def con : Con := CN pats res acc R
theorem okF (a0 : List (List MSigned)) (a1 : Int) (hg : gd a0 a1) : ∃ n, start (iter step n) (a0.map (lRow MSigned.row)) a1 = ret ((md a0 a1) : Int) := by
  obtain ⟨hs, g0, g1⟩ := hg
  unfold start md
  simp only [List.length_map]
  refine sz_list (pt := fun left i => Pt.p0 (a0.map (lRow MSigned.row)) left (i : Int)) (f := fun y : List MSigned => szL (fun y : MSigned => MSigned.size y) y) hs.1 (fun J i h left p0 p1 => ?_) (fun J left => ?_) g0 g1
  · simp only [step, List.length_map, lt_dec h, zle_dec, cond_true, toNat_nat, lAt_row h]
    rw [call_eq (laws_szSignedS.R_eq ⟨hs.get h, p0, p1⟩), wrap_succ h hs.1]
    unfold laws_szSignedS.md
    by_cases hc : left < ((szL (fun y : MSigned => MSigned.size y) (a0[i]) : Nat) : Int)
    · rw [szM_neg hc, if_pos hc]; rfl
    · rw [szM_pos hc, if_neg hc, dec_neg (by omega)]; rfl
  · simp only [step, List.length_map, nlt_dec, cond_false]
theorem valid_ : Valid Try.prog Ev 129 con := VV (run := fun n x => start (iter step n) x.1 x.2) mix tab_ok (.cons laws_szSignedS.valid_ .nil) Try.func129 (by kernel_rfl) run_eq (fun _ a _ _ hg => okF a.1 a.2 hg)
end laws_szSignedSS
/-! laws.szFork -/
namespace laws_szFork
noncomputable def F (x0 : RFork) (x1 : Int) : Ans := (call (laws_szSigned.R (x0.fBefore, x1)) fun v1 => (bif (decide (v1 < 0)) then ret ((-1) : Int) else (call (laws_szSigned.R (x0.fA, v1)) fun v2 => (bif (decide (v2 < 0)) then ret ((-1) : Int) else (call (laws_szSigned.R (x0.fB, v2)) fun v3 => (bif (decide (v3 < 0)) then ret ((-1) : Int) else ret (v3 : Int)))))))
def pats : List Pat := [.agg [.int .i64, .int .i64, .int .i64, .int .i64, .int .i64, .int .i64, .int .i64, .int .i64, .sl 3, .int .i64, .sl 3, .int .i64, .int .i64, .sl 3, .int .i64, .bool, .sl 279, .int .i64, .int .i64, .int .i64, .int .i64, .int .i64, .int .i64, .int .i64, .int .i64, .sl 3, .int .i64, .sl 3, .int .i64, .int .i64, .sl 3, .int .i64, .bool, .sl 279, .int .i64, .int .i64, .int .i64, .int .i64, .int .i64, .int .i64, .int .i64, .int .i64, .sl 3, .int .i64, .sl 3, .int .i64, .int .i64, .sl 3, .int .i64, .bool, .sl 279], .rd (.int .i64)]
def res : RP := .one (.rd (.int .i64))
noncomputable abbrev E : Env := { T := assoc Tab, G := conG [(146, laws_szSigned.con)], nt := 24 }
set_option maxRecDepth 100000
theorem run_eq (n : Nat) (ls : List L) : runF E (fun _ => []) Try.f193 res n (initS pats ls) = F (RFork.dec ls) ((dropT 51 ls).headD .hole).toInt := by kernel_rfl
noncomputable def md (a0 : MFork) (a1 : Int) : Int := szM (MFork.size a0) a1
def gd (a0 : MFork) (a1 : Int) : Prop := (MFork.Sm maxLen a0) ∧ 0 ≤ a1 ∧ a1 ≤ 1048576
def acc (ls : List L) : RFork × Int := ((RFork.dec ls), ((dropT 51 ls).headD .hole).toInt)
noncomputable def R : (RFork × Int) → Option Int := RR (p2 gd) (u2 md)
theorem R_eq {a0} {a1} (h : gd a0 a1) : R ((MFork.r a0), a1) = some (md a0 a1) := RR_eq (a := (a0, a1)) h
noncomputable def con : Con := CN pats res acc R
theorem okF (a0 : MFork) (a1 : Int) (hg : gd a0 a1) : F (MFork.r a0) a1 = ret ((md a0 a1) : Int) := by
  obtain ⟨hs, g0, g1⟩ := hg
  unfold md
  show (call (laws_szSigned.R ((MSigned.r a0.fBefore), a1)) fun v1 => (bif (decide (v1 < 0)) then ret ((-1) : Int) else (call (laws_szSigned.R ((MSigned.r a0.fA), v1)) fun v2 => (bif (decide (v2 < 0)) then ret ((-1) : Int) else (call (laws_szSigned.R ((MSigned.r a0.fB), v2)) fun v3 => (bif (decide (v3 < 0)) then ret ((-1) : Int) else ret (v3 : Int))))))) = _
  rw [call_eq (laws_szSigned.R_eq (a1 := a1) ⟨hs.1, by omega, by omega⟩)]
  unfold laws_szSigned.md
  by_cases c0 : a1 < ((MSigned.size a0.fBefore : Nat) : Int)
  · rw [szM_neg c0]; rw [show szM (MFork.size a0) a1 = -1 from szM_neg (by unfold MFork.size; omega)]; try rfl
  rw [szM_pos c0, dec_neg (by omega), cond_false]
  rw [call_eq (laws_szSigned.R_eq (a1 := (a1 - ((MSigned.size a0.fBefore : Nat) : Int))) ⟨hs.2.1, by omega, by omega⟩)]
  unfold laws_szSigned.md
  by_cases c1 : (a1 - ((MSigned.size a0.fBefore : Nat) : Int)) < ((MSigned.size a0.fA : Nat) : Int)
  · rw [szM_neg c1]; rw [show szM (MFork.size a0) a1 = -1 from szM_neg (by unfold MFork.size; omega)]; try rfl
  rw [szM_pos c1, dec_neg (by omega), cond_false]
  rw [call_eq (laws_szSigned.R_eq (a1 := (a1 - ((MSigned.size a0.fBefore : Nat) : Int) - ((MSigned.size a0.fA : Nat) : Int))) ⟨hs.2.2, by omega, by omega⟩)]
  unfold laws_szSigned.md
  by_cases c2 : (a1 - ((MSigned.size a0.fBefore : Nat) : Int) - ((MSigned.size a0.fA : Nat) : Int)) < ((MSigned.size a0.fB : Nat) : Int)
  · rw [szM_neg c2]; rw [show szM (MFork.size a0) a1 = -1 from szM_neg (by unfold MFork.size; omega)]; try rfl
  rw [szM_pos c2, dec_neg (by omega), cond_false]
  rw [show szM (MFork.size a0) a1 = a1 - ((MSigned.size a0.fBefore : Nat) : Int) - ((MSigned.size a0.fA : Nat) : Int) - ((MSigned.size a0.fB : Nat) : Int) from by rw [szM_pos (by unfold MFork.size; omega)]; unfold MFork.size; omega]
theorem valid_ : Valid Try.prog Ev 193 con := VV (run := fun _ x => F x.1 x.2) mix tab_ok (.cons laws_szSigned.valid_ .nil) Try.func193 (by kernel_rfl) run_eq (fun _ a _ _ hg => ⟨0, okF a.1 a.2 hg⟩)
end laws_szFork
/-! laws.szForkS -/
namespace laws_szForkS
inductive Pt where
  | p0 (a : List (List L)) (b : Int) (c : Int)
def pid : Pt → Nat
  | .p0 .. => 5
def pvs : Pt → List V
  | .p0 a b c => [.sl none 238 a, .int .i64 b, .int .i64 c]
def phs : Pt → List Root
  | .p0 a b c => []
noncomputable def step (J : Pt → Ans) : Pt → Ans
  | .p0 a b c => (bif (decide (c < (a.length : Int))) then (bif (decide ((0 : Int) ≤ c)) then (bif (decide (c < (a.length : Int))) then (call (laws_szFork.R ((RFork.at a (Int.toNat c)), b)) fun v1 => (bif (decide (v1 < 0)) then ret ((-1) : Int) else J (.p0 a v1 (IntKind.i64.wrap (c + 1))))) else none) else none) else ret (b : Int))
noncomputable def start (J : Pt → Ans) (x0 : List (List L)) (x1 : Int) : Ans := (bif (decide ((IntKind.i64.wrap (x1 - (x0.length : Int))) < 0)) then ret ((-1) : Int) else J (.p0 x0 (IntKind.i64.wrap (x1 - (x0.length : Int))) 0))
def live : Nat → Live := fun i => match i with | 5 => [(0, none), (1, none), (5, none)] | _ => []
def pats : List Pat := [.rd (.sl 238), .rd (.int .i64)]
def res : RP := .one (.rd (.int .i64))
noncomputable abbrev E : Env := { T := assoc Tab, G := conG [(193, laws_szFork.con)], nt := 27 }
set_option maxRecDepth 100000
theorem step_eq (I : Heads) (p : Pt) : enterC E live I (pid p) (bodyOf Try.f130) (stOf (live (pid p)) (pvs p) (phs p)) (doneK E Try.f130 res) = step (fun q => I (pid q) (pvs q) (phs q)) p := by
  cases p <;> kernel_rfl
theorem start_eq (I : Heads) (ls : List L) : runC E live I (bodyOf Try.f130) (initS pats ls) (doneK E Try.f130 res) = start (fun q => I (pid q) (pvs q) (phs q)) (ls.headD .hole).toSl ((dropT 1 ls).headD .hole).toInt := by kernel_rfl
theorem run_eq (n : Nat) (ls : List L) : runF E live Try.f130 res n (initS pats ls) = start (iter step n) (ls.headD .hole).toSl ((dropT 1 ls).headD .hole).toInt := runF_iter (id := pid) (vs := pvs) (hs := phs) (step := step) (start := fun J => start J (ls.headD .hole).toSl ((dropT 1 ls).headD .hole).toInt) step_eq (fun I => start_eq I ls) n
noncomputable def md (a0 : List MFork) (a1 : Int) : Int := szM (szL (fun y : MFork => MFork.size y) a0) a1
def gd (a0 : List MFork) (a1 : Int) : Prop := (SmL maxLen (fun y : MFork => MFork.Sm maxLen y) a0) ∧ 0 ≤ a1 ∧ a1 ≤ 1048576
def acc (ls : List L) : List (List L) × Int := ((ls.headD .hole).toSl, ((dropT 1 ls).headD .hole).toInt)
noncomputable def R : (List (List L) × Int) → Option Int := RR (p2 gd) (u2 md)
theorem R_eq {a0} {a1} (h : gd a0 a1) : R ((a0.map MFork.row), a1) = some (md a0 a1) := RR_eq (a := (a0, a1)) h
noncomputable def con : Con := CN pats res acc R
theorem okF (a0 : List MFork) (a1 : Int) (hg : gd a0 a1) : ∃ n, start (iter step n) (a0.map MFork.row) a1 = ret ((md a0 a1) : Int) := by
  obtain ⟨hs, g0, g1⟩ := hg
  unfold start md
  simp only [List.length_map]
  refine sz_list (pt := fun left i => Pt.p0 (a0.map MFork.row) left (i : Int)) (f := fun y : MFork => MFork.size y) hs.1 (fun J i h left p0 p1 => ?_) (fun J left => ?_) g0 g1
  · simp only [step, List.length_map, lt_dec h, zle_dec, cond_true, toNat_nat, MFork.at_row h]
    rw [call_eq (laws_szFork.R_eq ⟨hs.get h, p0, p1⟩), wrap_succ h hs.1]
    unfold laws_szFork.md
    by_cases hc : left < ((MFork.size (a0[i]) : Nat) : Int)
    · rw [szM_neg hc, if_pos hc]; rfl
    · rw [szM_pos hc, if_neg hc, dec_neg (by omega)]; rfl
  · simp only [step, List.length_map, nlt_dec, cond_false]
theorem valid_ : Valid Try.prog Ev 130 con := VV (run := fun n x => start (iter step n) x.1 x.2) mix tab_ok (.cons laws_szFork.valid_ .nil) Try.func130 (by kernel_rfl) run_eq (fun _ a _ _ hg => okF a.1 a.2 hg)
end laws_szForkS
/-! laws.szKnown -/
namespace laws_szKnown
noncomputable def F (x0 : RKnown) (x1 : Int) : Ans := (call (laws_szSignedSS.R (x0.fChains, x1)) fun v1 => (bif (decide (v1 < 0)) then ret ((-1) : Int) else (call (laws_szForkS.R (x0.fForks, v1)) fun v2 => (bif (decide (v2 < 0)) then ret ((-1) : Int) else ret (v2 : Int)))))
def pats : List Pat := [.agg [.sl 92, .sl 238], .rd (.int .i64)]
def res : RP := .one (.rd (.int .i64))
noncomputable abbrev E : Env := { T := assoc Tab, G := conG [(129, laws_szSignedSS.con), (130, laws_szForkS.con)], nt := 18 }
set_option maxRecDepth 100000
theorem run_eq (n : Nat) (ls : List L) : runF E (fun _ => []) Try.f52 res n (initS pats ls) = F (RKnown.dec ls) ((dropT 2 ls).headD .hole).toInt := by kernel_rfl
noncomputable def md (a0 : MKnown) (a1 : Int) : Int := szM (MKnown.size a0) a1
def gd (a0 : MKnown) (a1 : Int) : Prop := (MKnown.Sm maxLen a0) ∧ 0 ≤ a1 ∧ a1 ≤ 1048576
def acc (ls : List L) : RKnown × Int := ((RKnown.dec ls), ((dropT 2 ls).headD .hole).toInt)
noncomputable def R : (RKnown × Int) → Option Int := RR (p2 gd) (u2 md)
theorem R_eq {a0} {a1} (h : gd a0 a1) : R ((MKnown.r a0), a1) = some (md a0 a1) := RR_eq (a := (a0, a1)) h
noncomputable def con : Con := CN pats res acc R
theorem okF (a0 : MKnown) (a1 : Int) (hg : gd a0 a1) : F (MKnown.r a0) a1 = ret ((md a0 a1) : Int) := by
  obtain ⟨hs, g0, g1⟩ := hg
  unfold md
  show (call (laws_szSignedSS.R ((a0.fChains.map (lRow MSigned.row)), a1)) fun v1 => (bif (decide (v1 < 0)) then ret ((-1) : Int) else (call (laws_szForkS.R ((a0.fForks.map MFork.row), v1)) fun v2 => (bif (decide (v2 < 0)) then ret ((-1) : Int) else ret (v2 : Int))))) = _
  rw [call_eq (laws_szSignedSS.R_eq (a1 := a1) ⟨hs.1, by omega, by omega⟩)]
  unfold laws_szSignedSS.md
  by_cases c0 : a1 < ((szL (fun y : List MSigned => szL (fun y : MSigned => MSigned.size y) y) a0.fChains : Nat) : Int)
  · rw [szM_neg c0]; rw [show szM (MKnown.size a0) a1 = -1 from szM_neg (by unfold MKnown.size; omega)]; try rfl
  rw [szM_pos c0, dec_neg (by omega), cond_false]
  rw [call_eq (laws_szForkS.R_eq (a1 := (a1 - ((szL (fun y : List MSigned => szL (fun y : MSigned => MSigned.size y) y) a0.fChains : Nat) : Int))) ⟨hs.2, by omega, by omega⟩)]
  unfold laws_szForkS.md
  by_cases c1 : (a1 - ((szL (fun y : List MSigned => szL (fun y : MSigned => MSigned.size y) y) a0.fChains : Nat) : Int)) < ((szL (fun y : MFork => MFork.size y) a0.fForks : Nat) : Int)
  · rw [szM_neg c1]; rw [show szM (MKnown.size a0) a1 = -1 from szM_neg (by unfold MKnown.size; omega)]; try rfl
  rw [szM_pos c1, dec_neg (by omega), cond_false]
  rw [show szM (MKnown.size a0) a1 = a1 - ((szL (fun y : List MSigned => szL (fun y : MSigned => MSigned.size y) y) a0.fChains : Nat) : Int) - ((szL (fun y : MFork => MFork.size y) a0.fForks : Nat) : Int) from by rw [szM_pos (by unfold MKnown.size; omega)]; unfold MKnown.size; omega]
theorem valid_ : Valid Try.prog Ev 52 con := VV (run := fun _ x => F x.1 x.2) mix tab_ok (.cons laws_szSignedSS.valid_ (.cons laws_szForkS.valid_ .nil)) Try.func52 (by kernel_rfl) run_eq (fun _ a _ _ hg => ⟨0, okF a.1 a.2 hg⟩)
end laws_szKnown
/-! laws.toIntS -/
namespace laws_toIntS
inductive Pt where
  | p0 (a : List (List L)) (b : Int) (c : List (List L))
def pid : Pt → Nat
  | .p0 .. => 3
def pvs : Pt → List V
  | .p0 a b c => [.sl none 3 a, .own 0, .int .i64 b]
def phs : Pt → List Root
  | .p0 a b c => [.row 3 c]
noncomputable def step (J : Pt → Ans) : Pt → Ans
  | .p0 a b c => (bif (decide (b < (a.length : Int))) then (bif (decide ((0 : Int) ≤ b)) then (bif (decide (b < (a.length : Int))) then (bif (decide ((0 : Int) ≤ b)) then (bif (decide (b < (c.length : Int))) then J (.p0 a (IntKind.i64.wrap (b + 1)) (List.set c (Int.toNat b) [L.int (iAt a (Int.toNat b))])) else none) else none) else none) else none) else ret (c : List (List L)))
noncomputable def start (J : Pt → Ans) (x0 : List (List L)) : Ans := (bif (decide ((0 : Int) ≤ (x0.length : Int))) then (bif (decide ((x0.length : Int) ≤ (x0.length : Int))) then (bif (decide ((x0.length : Int) * 8 ≤ 140737488355328)) then J (.p0 x0 0 (List.replicate (Int.toNat (x0.length : Int)) [L.int 0])) else none) else none) else none)
def live : Nat → Live := fun i => match i with | 3 => [(0, none), (3, none), (4, none)] | _ => []
def pats : List Pat := [.rd (.sl 3)]
def res : RP := .one (.fr 3)
noncomputable abbrev E : Env := { T := assoc Tab, G := conG [], nt := 22 }
set_option maxRecDepth 100000
theorem step_eq (I : Heads) (p : Pt) : enterC E live I (pid p) (bodyOf Try.f214) (stOf (live (pid p)) (pvs p) (phs p)) (doneK E Try.f214 res) = step (fun q => I (pid q) (pvs q) (phs q)) p := by
  cases p <;> kernel_rfl
theorem start_eq (I : Heads) (ls : List L) : runC E live I (bodyOf Try.f214) (initS pats ls) (doneK E Try.f214 res) = start (fun q => I (pid q) (pvs q) (phs q)) (ls.headD .hole).toSl := by kernel_rfl
theorem run_eq (n : Nat) (ls : List L) : runF E live Try.f214 res n (initS pats ls) = start (iter step n) (ls.headD .hole).toSl := runF_iter (id := pid) (vs := pvs) (hs := phs) (step := step) (start := fun J => start J (ls.headD .hole).toSl) step_eq (fun I => start_eq I ls) n
noncomputable def md (a0 : List Int) : List Int := a0
def gd (a0 : List Int) : Prop := SmL (2 ^ 36) (fun y : Int => True) a0
def acc (ls : List L) : List (List L) := (ls.headD .hole).toSl
noncomputable def R : (List (List L)) → Option (List (List L)) := RR gd md
theorem R_eq {a0} (h : gd a0) : R (a0.map iRow) = some ((md a0).map iRow) := RR_eq (a := a0) h
noncomputable def con : Con := CN pats res acc R
theorem okF (a0 : List Int) (hg : gd a0) : ∃ n, start (iter step n) (a0.map iRow) = ret (((md a0).map iRow) : List (List L)) := by
  unfold start md
  simp only [List.length_map]
  refine to_list (b := 8) (pt := fun i c => Pt.p0 (a0.map iRow) (i : Int) c) (by have := hg.1; simp at this; omega) (fun J i h c hc => ?_) (fun J c => ?_)
  · simp only [step, List.length_map, lt_dec h, zle_dec, cond_true, toNat_nat, iAt_row h, hc]
    rw [wrap_succ (n := a0.length) h (by have := hg.1; simp only [maxLen]; simp at this; omega)]
    rfl
  · simp only [step, List.length_map, nlt_dec, cond_false]
theorem valid_ : Valid Try.prog Ev 214 con := VV (run := fun n x => start (iter step n) x) mix tab_ok .nil Try.func214 (by kernel_rfl) run_eq (fun _ a _ _ hg => okF a hg)
end laws_toIntS
/-! laws.toKeys -/
namespace laws_toKeys
noncomputable def F (x0 : RKeys) : Ans := (call (laws_toIntS.R x0.fList) fun v1 => ret ((⟨v1, x0.fNeed⟩ : RKeys) : RKeys))
def pats : List Pat := [.agg [.sl 3, .int .i64]]
def res : RP := .agg [.fr 3, .rd (.int .i64)]
noncomputable abbrev E : Env := { T := assoc Tab, G := conG [(214, laws_toIntS.con)], nt := 12 }
set_option maxRecDepth 100000
theorem run_eq (n : Nat) (ls : List L) : runF E (fun _ => []) Try.f236 res n (initS pats ls) = F (RKeys.dec ls) := by kernel_rfl
noncomputable def md (a0 : MKeys) : MKeys := a0
def gd (a0 : MKeys) : Prop := MKeys.Sm (2 ^ 36) a0
def acc (ls : List L) : RKeys := (RKeys.dec ls)
noncomputable def R : RKeys → Option RKeys := RR gd md
theorem R_eq {a0} (h : gd a0) : R (MKeys.r a0) = some (MKeys.r (md a0)) := RR_eq (a := a0) h
noncomputable def con : Con := CN pats res acc R
theorem okF (a0 : MKeys) (hg : gd a0) : F (MKeys.r a0) = ret ((MKeys.r (md a0)) : RKeys) := by
  unfold md
  show (call (laws_toIntS.R (a0.fList.map iRow)) fun v1 => ret ((⟨v1, a0.fNeed⟩ : RKeys) : RKeys)) = _
  rw [call_eq (laws_toIntS.R_eq hg)]
  rfl
theorem valid_ : Valid Try.prog Ev 236 con := VV (run := fun _ x => F x) mix tab_ok (.cons laws_toIntS.valid_ .nil) Try.func236 (by kernel_rfl) run_eq (fun _ a _ _ hg => ⟨0, okF a hg⟩)
end laws_toKeys
/-! laws.toHead -/
namespace laws_toHead
noncomputable def F (x0 : RHead) : Ans := (call (laws_toKeys.R x0.fKeys) fun v1 => (call (laws_toKeys.R x0.fHeirs) fun v2 => (call (laws_toKeys.R x0.fJudge) fun v3 => ret ((⟨x0.fZone, x0.fEpoch, x0.fKind, x0.fTime, x0.fUntil, x0.fCount, x0.fRoot, x0.fPrev, v1, v2, x0.fWait, v3, x0.fFrozen⟩ : RHead) : RHead))))
def pats : List Pat := [.agg [.int .i64, .int .i64, .int .i64, .int .i64, .int .i64, .int .i64, .int .i64, .int .i64, .sl 3, .int .i64, .sl 3, .int .i64, .int .i64, .sl 3, .int .i64, .bool]]
def res : RP := .agg [.rd (.int .i64), .rd (.int .i64), .rd (.int .i64), .rd (.int .i64), .rd (.int .i64), .rd (.int .i64), .rd (.int .i64), .rd (.int .i64), .fr 3, .rd (.int .i64), .fr 3, .rd (.int .i64), .rd (.int .i64), .fr 3, .rd (.int .i64), .rd (.bool)]
noncomputable abbrev E : Env := { T := assoc Tab, G := conG [(236, laws_toKeys.con)], nt := 47 }
set_option maxRecDepth 100000
theorem run_eq (n : Nat) (ls : List L) : runF E (fun _ => []) Try.f206 res n (initS pats ls) = F (RHead.dec ls) := by kernel_rfl
noncomputable def md (a0 : MHead) : MHead := a0
def gd (a0 : MHead) : Prop := MHead.Sm (2 ^ 36) a0
def acc (ls : List L) : RHead := (RHead.dec ls)
noncomputable def R : RHead → Option RHead := RR gd md
theorem R_eq {a0} (h : gd a0) : R (MHead.r a0) = some (MHead.r (md a0)) := RR_eq (a := a0) h
noncomputable def con : Con := CN pats res acc R
theorem okF (a0 : MHead) (hg : gd a0) : F (MHead.r a0) = ret ((MHead.r (md a0)) : RHead) := by
  unfold md
  show (call (laws_toKeys.R (MKeys.r a0.fKeys)) fun v1 => (call (laws_toKeys.R (MKeys.r a0.fHeirs)) fun v2 => (call (laws_toKeys.R (MKeys.r a0.fJudge)) fun v3 => ret ((⟨a0.fZone, a0.fEpoch, a0.fKind, a0.fTime, a0.fUntil, a0.fCount, a0.fRoot, a0.fPrev, v1, v2, a0.fWait, v3, a0.fFrozen⟩ : RHead) : RHead)))) = _
  rw [call_eq (laws_toKeys.R_eq hg.1)]
  rw [call_eq (laws_toKeys.R_eq hg.2.1)]
  rw [call_eq (laws_toKeys.R_eq hg.2.2)]
  rfl
theorem valid_ : Valid Try.prog Ev 206 con := VV (run := fun _ x => F x) mix tab_ok (.cons laws_toKeys.valid_ .nil) Try.func206 (by kernel_rfl) run_eq (fun _ a _ _ hg => ⟨0, okF a hg⟩)
end laws_toHead
/-! laws.toSig -/
namespace laws_toSig
noncomputable def F (x0 : MSig) : Ans := ret (x0 : MSig)
def pats : List Pat := [.agg [.int .i64, .int .i64]]
def res : RP := .agg [.rd (.int .i64), .rd (.int .i64)]
noncomputable abbrev E : Env := { T := assoc Tab, G := conG [], nt := 11 }
set_option maxRecDepth 100000
theorem run_eq (n : Nat) (ls : List L) : runF E (fun _ => []) Try.f237 res n (initS pats ls) = F (MSig.dec ls) := by kernel_rfl
noncomputable def md (a0 : MSig) : MSig := a0
def gd (a0 : MSig) : Prop := MSig.Sm (2 ^ 36) a0
def acc (ls : List L) : MSig := (MSig.dec ls)
noncomputable def R : MSig → Option MSig := RR gd md
theorem R_eq {a0} (h : gd a0) : R a0 = some (md a0) := RR_eq (a := a0) h
noncomputable def con : Con := CN pats res acc R
theorem okF (a0 : MSig) (hg : gd a0) : F a0 = ret ((md a0) : MSig) := by
  rfl
theorem valid_ : Valid Try.prog Ev 237 con := VV (run := fun _ x => F x) mix tab_ok .nil Try.func237 (by kernel_rfl) run_eq (fun _ a _ _ hg => ⟨0, okF a hg⟩)
end laws_toSig
/-! laws.toSigS -/
namespace laws_toSigS
inductive Pt where
  | p0 (a : List (List L)) (b : Int) (c : List (List L))
def pid : Pt → Nat
  | .p0 .. => 3
def pvs : Pt → List V
  | .p0 a b c => [.sl none 279 a, .own 0, .int .i64 b]
def phs : Pt → List Root
  | .p0 a b c => [.row 248 c]
noncomputable def step (J : Pt → Ans) : Pt → Ans
  | .p0 a b c => (bif (decide (b < (a.length : Int))) then (bif (decide ((0 : Int) ≤ b)) then (bif (decide (b < (a.length : Int))) then (call (laws_toSig.R (MSig.at a (Int.toNat b))) fun v1 => (bif (decide ((0 : Int) ≤ b)) then (bif (decide (b < (c.length : Int))) then J (.p0 a (IntKind.i64.wrap (b + 1)) (List.set c (Int.toNat b) (MSig.enc v1))) else none) else none)) else none) else none) else ret (c : List (List L)))
noncomputable def start (J : Pt → Ans) (x0 : List (List L)) : Ans := (bif (decide ((0 : Int) ≤ (x0.length : Int))) then (bif (decide ((x0.length : Int) ≤ (x0.length : Int))) then (bif (decide ((x0.length : Int) * 16 ≤ 140737488355328)) then J (.p0 x0 0 (List.replicate (Int.toNat (x0.length : Int)) [L.int 0, L.int 0])) else none) else none) else none)
def live : Nat → Live := fun i => match i with | 3 => [(0, none), (3, none), (4, none)] | _ => []
def pats : List Pat := [.rd (.sl 279)]
def res : RP := .one (.fr 248)
noncomputable abbrev E : Env := { T := assoc Tab, G := conG [(237, laws_toSig.con)], nt := 23 }
set_option maxRecDepth 100000
theorem step_eq (I : Heads) (p : Pt) : enterC E live I (pid p) (bodyOf Try.f207) (stOf (live (pid p)) (pvs p) (phs p)) (doneK E Try.f207 res) = step (fun q => I (pid q) (pvs q) (phs q)) p := by
  cases p <;> kernel_rfl
theorem start_eq (I : Heads) (ls : List L) : runC E live I (bodyOf Try.f207) (initS pats ls) (doneK E Try.f207 res) = start (fun q => I (pid q) (pvs q) (phs q)) (ls.headD .hole).toSl := by kernel_rfl
theorem run_eq (n : Nat) (ls : List L) : runF E live Try.f207 res n (initS pats ls) = start (iter step n) (ls.headD .hole).toSl := runF_iter (id := pid) (vs := pvs) (hs := phs) (step := step) (start := fun J => start J (ls.headD .hole).toSl) step_eq (fun I => start_eq I ls) n
noncomputable def md (a0 : List MSig) : List MSig := a0
def gd (a0 : List MSig) : Prop := SmL (2 ^ 36) (fun y : MSig => MSig.Sm (2 ^ 36) y) a0
def acc (ls : List L) : List (List L) := (ls.headD .hole).toSl
noncomputable def R : (List (List L)) → Option (List (List L)) := RR gd md
theorem R_eq {a0} (h : gd a0) : R (a0.map MSig.row) = some ((md a0).map MSig.row) := RR_eq (a := a0) h
noncomputable def con : Con := CN pats res acc R
theorem okF (a0 : List MSig) (hg : gd a0) : ∃ n, start (iter step n) (a0.map MSig.row) = ret (((md a0).map MSig.row) : List (List L)) := by
  unfold start md
  simp only [List.length_map]
  refine to_list (b := 16) (pt := fun i c => Pt.p0 (a0.map MSig.row) (i : Int) c) (by have := hg.1; simp at this; omega) (fun J i h c hc => ?_) (fun J c => ?_)
  · simp only [step, List.length_map, lt_dec h, zle_dec, cond_true, toNat_nat, MSig.at_row h, hc]
    rw [call_eq (laws_toSig.R_eq (hg.get h))]
    try simp only [hc, lt_dec h, cond_true]
    rw [wrap_succ (n := a0.length) h (by have := hg.1; simp only [maxLen]; simp at this; omega)]
    rfl
  · simp only [step, List.length_map, nlt_dec, cond_false]
theorem valid_ : Valid Try.prog Ev 207 con := VV (run := fun n x => start (iter step n) x) mix tab_ok (.cons laws_toSig.valid_ .nil) Try.func207 (by kernel_rfl) run_eq (fun _ a _ _ hg => okF a hg)
end laws_toSigS
/-! laws.toSigned -/
namespace laws_toSigned
noncomputable def F (x0 : RSigned) : Ans := (call (laws_toHead.R x0.fHead) fun v1 => (call (laws_toSigS.R x0.fSigs) fun v2 => ret ((⟨v1, v2⟩ : RSigned) : RSigned)))
def pats : List Pat := [.agg [.int .i64, .int .i64, .int .i64, .int .i64, .int .i64, .int .i64, .int .i64, .int .i64, .sl 3, .int .i64, .sl 3, .int .i64, .int .i64, .sl 3, .int .i64, .bool, .sl 279]]
def res : RP := .agg [.rd (.int .i64), .rd (.int .i64), .rd (.int .i64), .rd (.int .i64), .rd (.int .i64), .rd (.int .i64), .rd (.int .i64), .rd (.int .i64), .fr 3, .rd (.int .i64), .fr 3, .rd (.int .i64), .rd (.int .i64), .fr 3, .rd (.int .i64), .rd (.bool), .fr 248]
noncomputable abbrev E : Env := { T := assoc Tab, G := conG [(206, laws_toHead.con), (207, laws_toSigS.con)], nt := 13 }
set_option maxRecDepth 100000
theorem run_eq (n : Nat) (ls : List L) : runF E (fun _ => []) Try.f150 res n (initS pats ls) = F (RSigned.dec ls) := by kernel_rfl
noncomputable def md (a0 : MSigned) : MSigned := a0
def gd (a0 : MSigned) : Prop := MSigned.Sm (2 ^ 36) a0
def acc (ls : List L) : RSigned := (RSigned.dec ls)
noncomputable def R : RSigned → Option RSigned := RR gd md
theorem R_eq {a0} (h : gd a0) : R (MSigned.r a0) = some (MSigned.r (md a0)) := RR_eq (a := a0) h
noncomputable def con : Con := CN pats res acc R
theorem okF (a0 : MSigned) (hg : gd a0) : F (MSigned.r a0) = ret ((MSigned.r (md a0)) : RSigned) := by
  unfold md
  show (call (laws_toHead.R (MHead.r a0.fHead)) fun v1 => (call (laws_toSigS.R (a0.fSigs.map MSig.row)) fun v2 => ret ((⟨v1, v2⟩ : RSigned) : RSigned))) = _
  rw [call_eq (laws_toHead.R_eq hg.1)]
  rw [call_eq (laws_toSigS.R_eq hg.2)]
  rfl
theorem valid_ : Valid Try.prog Ev 150 con := VV (run := fun _ x => F x) mix tab_ok (.cons laws_toHead.valid_ (.cons laws_toSigS.valid_ .nil)) Try.func150 (by kernel_rfl) run_eq (fun _ a _ _ hg => ⟨0, okF a hg⟩)
end laws_toSigned
/-! laws.toSignedS -/
namespace laws_toSignedS
inductive Pt where
  | p0 (a : List (List L)) (b : Int) (c : List (List L))
def pid : Pt → Nat
  | .p0 .. => 3
def pvs : Pt → List V
  | .p0 a b c => [.sl none 197 a, .own 0, .int .i64 b]
def phs : Pt → List Root
  | .p0 a b c => [.row 184 c]
noncomputable def step (J : Pt → Ans) : Pt → Ans
  | .p0 a b c => (bif (decide (b < (a.length : Int))) then (bif (decide ((0 : Int) ≤ b)) then (bif (decide (b < (a.length : Int))) then (call (laws_toSigned.R (RSigned.at a (Int.toNat b))) fun v1 => (bif (decide ((0 : Int) ≤ b)) then (bif (decide (b < (c.length : Int))) then J (.p0 a (IntKind.i64.wrap (b + 1)) (List.set c (Int.toNat b) (RSigned.enc v1))) else none) else none)) else none) else none) else ret (c : List (List L)))
noncomputable def start (J : Pt → Ans) (x0 : List (List L)) : Ans := (bif (decide ((0 : Int) ≤ (x0.length : Int))) then (bif (decide ((x0.length : Int) ≤ (x0.length : Int))) then (bif (decide ((x0.length : Int) * 200 ≤ 140737488355328)) then J (.p0 x0 0 (List.replicate (Int.toNat (x0.length : Int)) [L.int 0, L.int 0, L.int 0, L.int 0, L.int 0, L.int 0, L.int 0, L.int 0, L.sl [], L.int 0, L.sl [], L.int 0, L.int 0, L.sl [], L.int 0, L.bool false, L.sl []])) else none) else none) else none)
def live : Nat → Live := fun i => match i with | 3 => [(0, none), (3, none), (4, none)] | _ => []
def pats : List Pat := [.rd (.sl 197)]
def res : RP := .one (.fr 184)
noncomputable abbrev E : Env := { T := assoc Tab, G := conG [(150, laws_toSigned.con)], nt := 23 }
set_option maxRecDepth 100000
theorem step_eq (I : Heads) (p : Pt) : enterC E live I (pid p) (bodyOf Try.f63) (stOf (live (pid p)) (pvs p) (phs p)) (doneK E Try.f63 res) = step (fun q => I (pid q) (pvs q) (phs q)) p := by
  cases p <;> kernel_rfl
theorem start_eq (I : Heads) (ls : List L) : runC E live I (bodyOf Try.f63) (initS pats ls) (doneK E Try.f63 res) = start (fun q => I (pid q) (pvs q) (phs q)) (ls.headD .hole).toSl := by kernel_rfl
theorem run_eq (n : Nat) (ls : List L) : runF E live Try.f63 res n (initS pats ls) = start (iter step n) (ls.headD .hole).toSl := runF_iter (id := pid) (vs := pvs) (hs := phs) (step := step) (start := fun J => start J (ls.headD .hole).toSl) step_eq (fun I => start_eq I ls) n
noncomputable def md (a0 : List MSigned) : List MSigned := a0
def gd (a0 : List MSigned) : Prop := SmL (2 ^ 36) (fun y : MSigned => MSigned.Sm (2 ^ 36) y) a0
def acc (ls : List L) : List (List L) := (ls.headD .hole).toSl
noncomputable def R : (List (List L)) → Option (List (List L)) := RR gd md
theorem R_eq {a0} (h : gd a0) : R (a0.map MSigned.row) = some ((md a0).map MSigned.row) := RR_eq (a := a0) h
noncomputable def con : Con := CN pats res acc R
theorem okF (a0 : List MSigned) (hg : gd a0) : ∃ n, start (iter step n) (a0.map MSigned.row) = ret (((md a0).map MSigned.row) : List (List L)) := by
  unfold start md
  simp only [List.length_map]
  refine to_list (b := 200) (pt := fun i c => Pt.p0 (a0.map MSigned.row) (i : Int) c) (by have := hg.1; simp at this; omega) (fun J i h c hc => ?_) (fun J c => ?_)
  · simp only [step, List.length_map, lt_dec h, zle_dec, cond_true, toNat_nat, MSigned.at_row h, hc]
    rw [call_eq (laws_toSigned.R_eq (hg.get h))]
    try simp only [hc, lt_dec h, cond_true]
    rw [wrap_succ (n := a0.length) h (by have := hg.1; simp only [maxLen]; simp at this; omega)]
    rfl
  · simp only [step, List.length_map, nlt_dec, cond_false]
theorem valid_ : Valid Try.prog Ev 63 con := VV (run := fun n x => start (iter step n) x) mix tab_ok (.cons laws_toSigned.valid_ .nil) Try.func63 (by kernel_rfl) run_eq (fun _ a _ _ hg => okF a hg)
end laws_toSignedS
/-! laws.toSignedSS -/
namespace laws_toSignedSS
inductive Pt where
  | p0 (a : List (List L)) (b : Int) (c : List (List L))
def pid : Pt → Nat
  | .p0 .. => 3
def pvs : Pt → List V
  | .p0 a b c => [.sl none 92 a, .own 0, .int .i64 b]
def phs : Pt → List Root
  | .p0 a b c => [.row 79 c]
noncomputable def step (J : Pt → Ans) : Pt → Ans
  | .p0 a b c => (bif (decide (b < (a.length : Int))) then (bif (decide ((0 : Int) ≤ b)) then (bif (decide (b < (a.length : Int))) then (call (laws_toSignedS.R (lAt a (Int.toNat b))) fun v1 => (bif (decide ((0 : Int) ≤ b)) then (bif (decide (b < (c.length : Int))) then J (.p0 a (IntKind.i64.wrap (b + 1)) (List.set c (Int.toNat b) [L.sl v1])) else none) else none)) else none) else none) else ret (c : List (List L)))
noncomputable def start (J : Pt → Ans) (x0 : List (List L)) : Ans := (bif (decide ((0 : Int) ≤ (x0.length : Int))) then (bif (decide ((x0.length : Int) ≤ (x0.length : Int))) then (bif (decide ((x0.length : Int) * 24 ≤ 140737488355328)) then J (.p0 x0 0 (List.replicate (Int.toNat (x0.length : Int)) [L.sl []])) else none) else none) else none)
def live : Nat → Live := fun i => match i with | 3 => [(0, none), (3, none), (4, none)] | _ => []
def pats : List Pat := [.rd (.sl 92)]
def res : RP := .one (.fr 79)
noncomputable abbrev E : Env := { T := assoc Tab, G := conG [(63, laws_toSignedS.con)], nt := 23 }
set_option maxRecDepth 100000
theorem step_eq (I : Heads) (p : Pt) : enterC E live I (pid p) (bodyOf Try.f133) (stOf (live (pid p)) (pvs p) (phs p)) (doneK E Try.f133 res) = step (fun q => I (pid q) (pvs q) (phs q)) p := by
  cases p <;> kernel_rfl
theorem start_eq (I : Heads) (ls : List L) : runC E live I (bodyOf Try.f133) (initS pats ls) (doneK E Try.f133 res) = start (fun q => I (pid q) (pvs q) (phs q)) (ls.headD .hole).toSl := by kernel_rfl
theorem run_eq (n : Nat) (ls : List L) : runF E live Try.f133 res n (initS pats ls) = start (iter step n) (ls.headD .hole).toSl := runF_iter (id := pid) (vs := pvs) (hs := phs) (step := step) (start := fun J => start J (ls.headD .hole).toSl) step_eq (fun I => start_eq I ls) n
noncomputable def md (a0 : List (List MSigned)) : List (List MSigned) := a0
def gd (a0 : List (List MSigned)) : Prop := SmL (2 ^ 36) (fun y : List MSigned => SmL (2 ^ 36) (fun y : MSigned => MSigned.Sm (2 ^ 36) y) y) a0
def acc (ls : List L) : List (List L) := (ls.headD .hole).toSl
noncomputable def R : (List (List L)) → Option (List (List L)) := RR gd md
theorem R_eq {a0} (h : gd a0) : R (a0.map (lRow MSigned.row)) = some ((md a0).map (lRow MSigned.row)) := RR_eq (a := a0) h
noncomputable def con : Con := CN pats res acc R
theorem okF (a0 : List (List MSigned)) (hg : gd a0) : ∃ n, start (iter step n) (a0.map (lRow MSigned.row)) = ret (((md a0).map (lRow MSigned.row)) : List (List L)) := by
  unfold start md
  simp only [List.length_map]
  refine to_list (b := 24) (pt := fun i c => Pt.p0 (a0.map (lRow MSigned.row)) (i : Int) c) (by have := hg.1; simp at this; omega) (fun J i h c hc => ?_) (fun J c => ?_)
  · simp only [step, List.length_map, lt_dec h, zle_dec, cond_true, toNat_nat, lAt_row h, hc]
    rw [call_eq (laws_toSignedS.R_eq (hg.get h))]
    try simp only [hc, lt_dec h, cond_true]
    rw [wrap_succ (n := a0.length) h (by have := hg.1; simp only [maxLen]; simp at this; omega)]
    rfl
  · simp only [step, List.length_map, nlt_dec, cond_false]
theorem valid_ : Valid Try.prog Ev 133 con := VV (run := fun n x => start (iter step n) x) mix tab_ok (.cons laws_toSignedS.valid_ .nil) Try.func133 (by kernel_rfl) run_eq (fun _ a _ _ hg => okF a hg)
end laws_toSignedSS
/-! laws.toFork -/
namespace laws_toFork
noncomputable def F (x0 : RFork) : Ans := (call (laws_toSigned.R x0.fBefore) fun v1 => (call (laws_toSigned.R x0.fA) fun v2 => (call (laws_toSigned.R x0.fB) fun v3 => ret ((⟨v1, v2, v3⟩ : RFork) : RFork))))
def pats : List Pat := [.agg [.int .i64, .int .i64, .int .i64, .int .i64, .int .i64, .int .i64, .int .i64, .int .i64, .sl 3, .int .i64, .sl 3, .int .i64, .int .i64, .sl 3, .int .i64, .bool, .sl 279, .int .i64, .int .i64, .int .i64, .int .i64, .int .i64, .int .i64, .int .i64, .int .i64, .sl 3, .int .i64, .sl 3, .int .i64, .int .i64, .sl 3, .int .i64, .bool, .sl 279, .int .i64, .int .i64, .int .i64, .int .i64, .int .i64, .int .i64, .int .i64, .int .i64, .sl 3, .int .i64, .sl 3, .int .i64, .int .i64, .sl 3, .int .i64, .bool, .sl 279]]
def res : RP := .agg [.rd (.int .i64), .rd (.int .i64), .rd (.int .i64), .rd (.int .i64), .rd (.int .i64), .rd (.int .i64), .rd (.int .i64), .rd (.int .i64), .fr 3, .rd (.int .i64), .fr 3, .rd (.int .i64), .rd (.int .i64), .fr 3, .rd (.int .i64), .rd (.bool), .fr 248, .rd (.int .i64), .rd (.int .i64), .rd (.int .i64), .rd (.int .i64), .rd (.int .i64), .rd (.int .i64), .rd (.int .i64), .rd (.int .i64), .fr 3, .rd (.int .i64), .fr 3, .rd (.int .i64), .rd (.int .i64), .fr 3, .rd (.int .i64), .rd (.bool), .fr 248, .rd (.int .i64), .rd (.int .i64), .rd (.int .i64), .rd (.int .i64), .rd (.int .i64), .rd (.int .i64), .rd (.int .i64), .rd (.int .i64), .fr 3, .rd (.int .i64), .fr 3, .rd (.int .i64), .rd (.int .i64), .fr 3, .rd (.int .i64), .rd (.bool), .fr 248]
noncomputable abbrev E : Env := { T := assoc Tab, G := conG [(150, laws_toSigned.con)], nt := 17 }
set_option maxRecDepth 100000
theorem run_eq (n : Nat) (ls : List L) : runF E (fun _ => []) Try.f195 res n (initS pats ls) = F (RFork.dec ls) := by kernel_rfl
noncomputable def md (a0 : MFork) : MFork := a0
def gd (a0 : MFork) : Prop := MFork.Sm (2 ^ 36) a0
def acc (ls : List L) : RFork := (RFork.dec ls)
noncomputable def R : RFork → Option RFork := RR gd md
theorem R_eq {a0} (h : gd a0) : R (MFork.r a0) = some (MFork.r (md a0)) := RR_eq (a := a0) h
noncomputable def con : Con := CN pats res acc R
theorem okF (a0 : MFork) (hg : gd a0) : F (MFork.r a0) = ret ((MFork.r (md a0)) : RFork) := by
  unfold md
  show (call (laws_toSigned.R (MSigned.r a0.fBefore)) fun v1 => (call (laws_toSigned.R (MSigned.r a0.fA)) fun v2 => (call (laws_toSigned.R (MSigned.r a0.fB)) fun v3 => ret ((⟨v1, v2, v3⟩ : RFork) : RFork)))) = _
  rw [call_eq (laws_toSigned.R_eq hg.1)]
  rw [call_eq (laws_toSigned.R_eq hg.2.1)]
  rw [call_eq (laws_toSigned.R_eq hg.2.2)]
  rfl
theorem valid_ : Valid Try.prog Ev 195 con := VV (run := fun _ x => F x) mix tab_ok (.cons laws_toSigned.valid_ .nil) Try.func195 (by kernel_rfl) run_eq (fun _ a _ _ hg => ⟨0, okF a hg⟩)
end laws_toFork
/-! laws.toForkS -/
namespace laws_toForkS
inductive Pt where
  | p0 (a : List (List L)) (b : Int) (c : List (List L))
def pid : Pt → Nat
  | .p0 .. => 3
def pvs : Pt → List V
  | .p0 a b c => [.sl none 238 a, .own 0, .int .i64 b]
def phs : Pt → List Root
  | .p0 a b c => [.row 241 c]
noncomputable def step (J : Pt → Ans) : Pt → Ans
  | .p0 a b c => (bif (decide (b < (a.length : Int))) then (bif (decide ((0 : Int) ≤ b)) then (bif (decide (b < (a.length : Int))) then (call (laws_toFork.R (RFork.at a (Int.toNat b))) fun v1 => (bif (decide ((0 : Int) ≤ b)) then (bif (decide (b < (c.length : Int))) then J (.p0 a (IntKind.i64.wrap (b + 1)) (List.set c (Int.toNat b) (RFork.enc v1))) else none) else none)) else none) else none) else ret (c : List (List L)))
noncomputable def start (J : Pt → Ans) (x0 : List (List L)) : Ans := (bif (decide ((0 : Int) ≤ (x0.length : Int))) then (bif (decide ((x0.length : Int) ≤ (x0.length : Int))) then (bif (decide ((x0.length : Int) * 600 ≤ 140737488355328)) then J (.p0 x0 0 (List.replicate (Int.toNat (x0.length : Int)) [L.int 0, L.int 0, L.int 0, L.int 0, L.int 0, L.int 0, L.int 0, L.int 0, L.sl [], L.int 0, L.sl [], L.int 0, L.int 0, L.sl [], L.int 0, L.bool false, L.sl [], L.int 0, L.int 0, L.int 0, L.int 0, L.int 0, L.int 0, L.int 0, L.int 0, L.sl [], L.int 0, L.sl [], L.int 0, L.int 0, L.sl [], L.int 0, L.bool false, L.sl [], L.int 0, L.int 0, L.int 0, L.int 0, L.int 0, L.int 0, L.int 0, L.int 0, L.sl [], L.int 0, L.sl [], L.int 0, L.int 0, L.sl [], L.int 0, L.bool false, L.sl []])) else none) else none) else none)
def live : Nat → Live := fun i => match i with | 3 => [(0, none), (3, none), (4, none)] | _ => []
def pats : List Pat := [.rd (.sl 238)]
def res : RP := .one (.fr 241)
noncomputable abbrev E : Env := { T := assoc Tab, G := conG [(195, laws_toFork.con)], nt := 23 }
set_option maxRecDepth 100000
theorem step_eq (I : Heads) (p : Pt) : enterC E live I (pid p) (bodyOf Try.f134) (stOf (live (pid p)) (pvs p) (phs p)) (doneK E Try.f134 res) = step (fun q => I (pid q) (pvs q) (phs q)) p := by
  cases p <;> kernel_rfl
theorem start_eq (I : Heads) (ls : List L) : runC E live I (bodyOf Try.f134) (initS pats ls) (doneK E Try.f134 res) = start (fun q => I (pid q) (pvs q) (phs q)) (ls.headD .hole).toSl := by kernel_rfl
theorem run_eq (n : Nat) (ls : List L) : runF E live Try.f134 res n (initS pats ls) = start (iter step n) (ls.headD .hole).toSl := runF_iter (id := pid) (vs := pvs) (hs := phs) (step := step) (start := fun J => start J (ls.headD .hole).toSl) step_eq (fun I => start_eq I ls) n
noncomputable def md (a0 : List MFork) : List MFork := a0
def gd (a0 : List MFork) : Prop := SmL (2 ^ 36) (fun y : MFork => MFork.Sm (2 ^ 36) y) a0
def acc (ls : List L) : List (List L) := (ls.headD .hole).toSl
noncomputable def R : (List (List L)) → Option (List (List L)) := RR gd md
theorem R_eq {a0} (h : gd a0) : R (a0.map MFork.row) = some ((md a0).map MFork.row) := RR_eq (a := a0) h
noncomputable def con : Con := CN pats res acc R
theorem okF (a0 : List MFork) (hg : gd a0) : ∃ n, start (iter step n) (a0.map MFork.row) = ret (((md a0).map MFork.row) : List (List L)) := by
  unfold start md
  simp only [List.length_map]
  refine to_list (b := 600) (pt := fun i c => Pt.p0 (a0.map MFork.row) (i : Int) c) (by have := hg.1; simp at this; omega) (fun J i h c hc => ?_) (fun J c => ?_)
  · simp only [step, List.length_map, lt_dec h, zle_dec, cond_true, toNat_nat, MFork.at_row h, hc]
    rw [call_eq (laws_toFork.R_eq (hg.get h))]
    try simp only [hc, lt_dec h, cond_true]
    rw [wrap_succ (n := a0.length) h (by have := hg.1; simp only [maxLen]; simp at this; omega)]
    rfl
  · simp only [step, List.length_map, nlt_dec, cond_false]
theorem valid_ : Valid Try.prog Ev 134 con := VV (run := fun n x => start (iter step n) x) mix tab_ok (.cons laws_toFork.valid_ .nil) Try.func134 (by kernel_rfl) run_eq (fun _ a _ _ hg => okF a hg)
end laws_toForkS
/-! laws.toKnown -/
namespace laws_toKnown
noncomputable def F (x0 : RKnown) : Ans := (call (laws_toSignedSS.R x0.fChains) fun v1 => (call (laws_toForkS.R x0.fForks) fun v2 => ret ((⟨v1, v2⟩ : RKnown) : RKnown)))
def pats : List Pat := [.agg [.sl 92, .sl 238]]
def res : RP := .agg [.fr 79, .fr 241]
noncomputable abbrev E : Env := { T := assoc Tab, G := conG [(133, laws_toSignedSS.con), (134, laws_toForkS.con)], nt := 13 }
set_option maxRecDepth 100000
theorem run_eq (n : Nat) (ls : List L) : runF E (fun _ => []) Try.f54 res n (initS pats ls) = F (RKnown.dec ls) := by kernel_rfl
noncomputable def md (a0 : MKnown) : MKnown := a0
def gd (a0 : MKnown) : Prop := MKnown.Sm (2 ^ 36) a0
def acc (ls : List L) : RKnown := (RKnown.dec ls)
noncomputable def R : RKnown → Option RKnown := RR gd md
theorem R_eq {a0} (h : gd a0) : R (MKnown.r a0) = some (MKnown.r (md a0)) := RR_eq (a := a0) h
noncomputable def con : Con := CN pats res acc R
theorem okF (a0 : MKnown) (hg : gd a0) : F (MKnown.r a0) = ret ((MKnown.r (md a0)) : RKnown) := by
  unfold md
  show (call (laws_toSignedSS.R (a0.fChains.map (lRow MSigned.row))) fun v1 => (call (laws_toForkS.R (a0.fForks.map MFork.row)) fun v2 => ret ((⟨v1, v2⟩ : RKnown) : RKnown))) = _
  rw [call_eq (laws_toSignedSS.R_eq hg.1)]
  rw [call_eq (laws_toForkS.R_eq hg.2)]
  rfl
theorem valid_ : Valid Try.prog Ev 54 con := VV (run := fun _ x => F x) mix tab_ok (.cons laws_toSignedSS.valid_ (.cons laws_toForkS.valid_ .nil)) Try.func54 (by kernel_rfl) run_eq (fun _ a _ _ hg => ⟨0, okF a hg⟩)
end laws_toKnown
/-! spec.l22Find -/
namespace spec_l22Find
inductive Pt where
  | p0 (a : Int) (b : Int) (c : RKnown)
def pid : Pt → Nat
  | .p0 .. => 2
def pvs : Pt → List V
  | .p0 a b c => [.int .i64 a, .bptr 0 0, .int .i64 b]
def phs : Pt → List Root
  | .p0 a b c => [.box [.sl none 79 c.fChains, .sl none 241 c.fForks]]
noncomputable def step (J : Pt → Ans) : Pt → Ans
  | .p0 a b c => (bif (decide (b < (c.fChains.length : Int))) then (bif (decide ((0 : Int) ≤ b)) then (bif (decide (b < (c.fChains.length : Int))) then (bif (decide (((lAt c.fChains (Int.toNat b)).length : Int) > 0)) then (bif (decide ((0 : Int) ≤ b)) then (bif (decide (b < (c.fChains.length : Int))) then (bif (decide ((0 : Int) < ((lAt c.fChains (Int.toNat b)).length : Int))) then (bif ((RSigned.at (lAt c.fChains (Int.toNat b)) 0).fHead.fZone == a) then ret (b : Int) else J (.p0 a (IntKind.i64.wrap (b + 1)) c)) else none) else none) else none) else J (.p0 a (IntKind.i64.wrap (b + 1)) c)) else none) else none) else ret ((-1) : Int))
noncomputable def start (J : Pt → Ans) (x0 : RKnown) (x1 : Int) : Ans := J (.p0 x1 0 x0)
def live : Nat → Live := fun i => match i with | 2 => [(1, none), (2, none), (5, none)] | _ => []
def pats : List Pat := [.agg [.sl 79, .sl 241], .rd (.int .i64)]
def res : RP := .one (.rd (.int .i64))
noncomputable abbrev E : Env := { T := assoc Tab, G := conG [], nt := 34 }
set_option maxRecDepth 100000
theorem step_eq (I : Heads) (p : Pt) : enterC E live I (pid p) (bodyOf Try.f131) (stOf (live (pid p)) (pvs p) (phs p)) (doneK E Try.f131 res) = step (fun q => I (pid q) (pvs q) (phs q)) p := by
  cases p <;> kernel_rfl
theorem start_eq (I : Heads) (ls : List L) : runC E live I (bodyOf Try.f131) (initS pats ls) (doneK E Try.f131 res) = start (fun q => I (pid q) (pvs q) (phs q)) (RKnown.dec ls) ((dropT 2 ls).headD .hole).toInt := by kernel_rfl
theorem run_eq (n : Nat) (ls : List L) : runF E live Try.f131 res n (initS pats ls) = start (iter step n) (RKnown.dec ls) ((dropT 2 ls).headD .hole).toInt := runF_iter (id := pid) (vs := pvs) (hs := phs) (step := step) (start := fun J => start J (RKnown.dec ls) ((dropT 2 ls).headD .hole).toInt) step_eq (fun I => start_eq I ls) n
noncomputable def md (a0 : MKnown) (a1 : Int) : Int := (eachI (S := Unit) (β := Int) (fun (i1 : Nat) (y1 : List MSigned) (s3 : Unit) => (bif (decide ((y1.length : Int) > 0)) then (bif (((y1.getD 0 MSigned.zero).fHead).fZone == a1) then (.inr ((i1 : Int) : Int)) else (.inl ())) else (.inl ()))) (fun (s3 : Unit) => ((-1) : Int)) 0 a0.fChains ())
def gd (a0 : MKnown) (a1 : Int) : Prop := (MKnown.Sm (2 ^ 21) a0)
def acc (ls : List L) : RKnown × Int := ((RKnown.dec ls), ((dropT 2 ls).headD .hole).toInt)
noncomputable def R : (RKnown × Int) → Option Int := RR (p2 gd) (u2 md)
theorem R_eq {a0} {a1} (h : gd a0 a1) : R ((MKnown.r a0), a1) = some (md a0 a1) := RR_eq (a := (a0, a1)) h
noncomputable def con : Con := CN pats res acc R
theorem okF (a0 : MKnown) (a1 : Int) (hg : gd a0 a1) : ∃ n, start (iter step n) (MKnown.r a0) a1 = ret ((md a0 a1) : Int) := by
  unfold gd at hg
  have H0 := hg
  unfold start md
  try simp only [S0, MHead.rs, MSigned.rs, MKnown.rs]
  have Bh2 : a0.fChains.length ≤ maxLen := (by
      have := (H0.1).1
      try simp only [maxLen] at *
      omega)
  refine ex_eq (out := ret) (loopM_eachI (z := [])) ?_
  refine ex_pt (p := Pt.p0 a1 0 (MKnown.r a0)) (by first | rfl | (simp only [S0, MHead.rs, MSigned.rs, MKnown.rs, MP]; done) | (simp only [MP]; rfl)) ?_
  refine loopM_ok (pt := fun (i1 : Nat) (s3 : Unit) => Pt.p0 a1 (i1 : Int) (MKnown.r a0)) (s := (() : Unit)) (out := ret) (fun _ _ => True) (fun J i1 s3 h2 hih2 => ?_) (fun s3 hih2 => ?_) trivial
  · simp only [step, S0, MHead.rs, MSigned.rs, MKnown.rs]
    have bb_ := Bh2
    simp only [maxLen] at bb_
    have := (H0.1).1
    refine Rnd.yes (by apply decide_eq_true; omega) ?_
    refine Rnd.yes zle_dec ?_
    refine Rnd.yes (lt_dec h2) ?_
    refine Rnd.bif (fun c4 => ?_) (fun c4 => ?_)
    · have dc4 := c4
      try simp only [DC] at dc4
      refine Rnd.yes zle_dec ?_
      refine Rnd.yes (lt_dec h2) ?_
      refine Rnd.yes (by
          have := ((SmL.getD (z := []) H0.1 h2)).1
          refine decide_eq_true ?_
          try simp (disch := omega) only [LN, wi]
          first | omega | (simp; done) | (simp; omega)) ?_
      refine Rnd.bif (fun c5 => ?_) (fun c5 => ?_)
      · refine Rnd.inr ?_
        all_goals first | rfl | (simp only [S0, MHead.rs, MSigned.rs, MKnown.rs, MP]; first | done | rfl)
      · refine Rnd.inl trivial ?_
        rw [wrap_succ h2 Bh2]
        all_goals first | rfl | (simp only [S0, MHead.rs, MSigned.rs, MKnown.rs, MP]; first | done | rfl)
    · refine Rnd.inl trivial ?_
      rw [wrap_succ h2 Bh2]
      all_goals first | rfl | (simp only [S0, MHead.rs, MSigned.rs, MKnown.rs, MP]; first | done | rfl)
  · simp only [step, S0, MHead.rs, MSigned.rs, MKnown.rs]
    have := (H0.1).1
    refine ex_no (by apply decide_eq_false; omega) ?_
    refine ⟨0, ?_⟩
    all_goals first | rfl | (simp only [S0, MHead.rs, MSigned.rs, MKnown.rs, MP]; first | done | rfl)
theorem valid_ : Valid Try.prog Ev 131 con := VV (run := fun n x => start (iter step n) x.1 x.2) mix tab_ok .nil Try.func131 (by kernel_rfl) run_eq (fun _ a _ _ hg => okF a.1 a.2 hg)
theorem fa (a0 : MKnown) (a1 : Int) : -1 ≤ md a0 a1 ∧ md a0 a1 < (a0.fChains.length : Int) := by
  unfold md
  refine eachI_fa0 ?_ _ _
  all_goals
    intro i x s b h
    revert h
    simp only [Bool.cond_eq_ite]
    repeat' split
    all_goals (intro h; first | (cases h; rfl) | cases h)
end spec_l22Find
/-! spec.l6Copy -/
namespace spec_l6Copy
noncomputable def F (x0 : RKeys) : Ans := (bif (lim ((x0.fList.length : Int) * 8)) then ret (x0 : RKeys) else none)
def pats : List Pat := [.agg [.sl 3, .int .i64]]
def res : RP := .agg [.fr 3, .rd (.int .i64)]
noncomputable abbrev E : Env := { T := assoc Tab, G := conG [], nt := 10 }
set_option maxRecDepth 100000
theorem run_eq (n : Nat) (ls : List L) : runF E (fun _ => []) Try.f149 res n (initS pats ls) = F (RKeys.dec ls) := by kernel_rfl
noncomputable def md (a0 : MKeys) : MKeys := a0
def gd (a0 : MKeys) : Prop := (MKeys.Sm (2 ^ 21) a0)
def acc (ls : List L) : RKeys := (RKeys.dec ls)
noncomputable def R : RKeys → Option RKeys := RR gd md
theorem R_eq {a0} (h : gd a0) : R (MKeys.r a0) = some (MKeys.r (md a0)) := RR_eq (a := a0) h
noncomputable def con : Con := CN pats res acc R
theorem okF (a0 : MKeys) (hg : gd a0) : F (MKeys.r a0) = ret ((MKeys.r (md a0)) : RKeys) := by
  unfold gd at hg
  have H0 := hg
  unfold F md
  try simp only [S0, MKeys.rs]
  refine yes_ret (by
      have := (H0).1
      refine lim_t ?_
      try simp (disch := omega) only [LN, wi]
      first | omega | (simp; done) | (simp; omega)) ?_
  all_goals first | rfl | (simp only [S0, MKeys.rs]; done) | (simp only [MP]; rfl) | (simp only [S0, MKeys.rs, MP]; first | done | rfl)
theorem valid_ : Valid Try.prog Ev 149 con := VV (run := fun _ x => F x) mix tab_ok .nil Try.func149 (by kernel_rfl) run_eq (fun _ a _ _ hg => ⟨0, okF a hg⟩)
end spec_l6Copy
/-! spec.l13Copy -/
namespace spec_l13Copy
noncomputable def F (x0 : RHead) : Ans := (call (spec_l6Copy.R x0.fKeys) fun v1 => (call (spec_l6Copy.R x0.fHeirs) fun v2 => (call (spec_l6Copy.R x0.fJudge) fun v3 => ret ((⟨x0.fZone, x0.fEpoch, x0.fKind, x0.fTime, x0.fUntil, x0.fCount, x0.fRoot, x0.fPrev, v1, v2, x0.fWait, v3, x0.fFrozen⟩ : RHead) : RHead))))
def pats : List Pat := [.agg [.int .i64, .int .i64, .int .i64, .int .i64, .int .i64, .int .i64, .int .i64, .int .i64, .sl 3, .int .i64, .sl 3, .int .i64, .int .i64, .sl 3, .int .i64, .bool]]
def res : RP := .agg [.rd (.int .i64), .rd (.int .i64), .rd (.int .i64), .rd (.int .i64), .rd (.int .i64), .rd (.int .i64), .rd (.int .i64), .rd (.int .i64), .fr 3, .rd (.int .i64), .fr 3, .rd (.int .i64), .rd (.int .i64), .fr 3, .rd (.int .i64), .rd (.bool)]
noncomputable abbrev E : Env := { T := assoc Tab, G := conG [(149, spec_l6Copy.con)], nt := 18 }
set_option maxRecDepth 100000
theorem run_eq (n : Nat) (ls : List L) : runF E (fun _ => []) Try.f229 res n (initS pats ls) = F (RHead.dec ls) := by kernel_rfl
noncomputable def md (a0 : MHead) : MHead := a0
def gd (a0 : MHead) : Prop := (MHead.Sm (2 ^ 21) a0)
def acc (ls : List L) : RHead := (RHead.dec ls)
noncomputable def R : RHead → Option RHead := RR gd md
theorem R_eq {a0} (h : gd a0) : R (MHead.r a0) = some (MHead.r (md a0)) := RR_eq (a := a0) h
noncomputable def con : Con := CN pats res acc R
theorem okF (a0 : MHead) (hg : gd a0) : F (MHead.r a0) = ret ((MHead.r (md a0)) : RHead) := by
  unfold gd at hg
  have H0 := hg
  unfold F md
  try simp only [S0, MHead.rs]
  refine call_to (MKeys.r a0.fKeys) ?_ ?_
  · have R_ := spec_l6Copy.R_eq (a0 := a0.fKeys) H0.1
    simp only [spec_l6Copy.md] at R_
    first | exact R_ | (simp only [MP, S0, MHead.rs] at R_ ⊢; first | exact R_ | (rw [← R_]; rfl))
  try simp only [S0, MHead.rs]
  refine call_to (MKeys.r a0.fHeirs) ?_ ?_
  · have R_ := spec_l6Copy.R_eq (a0 := a0.fHeirs) H0.2.1
    simp only [spec_l6Copy.md] at R_
    first | exact R_ | (simp only [MP, S0, MHead.rs] at R_ ⊢; first | exact R_ | (rw [← R_]; rfl))
  try simp only [S0, MHead.rs]
  refine call_to (MKeys.r a0.fJudge) ?_ ?_
  · have R_ := spec_l6Copy.R_eq (a0 := a0.fJudge) H0.2.2
    simp only [spec_l6Copy.md] at R_
    first | exact R_ | (simp only [MP, S0, MHead.rs] at R_ ⊢; first | exact R_ | (rw [← R_]; rfl))
  try simp only [S0, MHead.rs]
  all_goals first | rfl | (simp only [S0, MHead.rs]; done) | (simp only [MP]; rfl) | (simp only [S0, MHead.rs, MP]; first | done | rfl)
theorem valid_ : Valid Try.prog Ev 229 con := VV (run := fun _ x => F x) mix tab_ok (.cons spec_l6Copy.valid_ .nil) Try.func229 (by kernel_rfl) run_eq (fun _ a _ _ hg => ⟨0, okF a hg⟩)
end spec_l13Copy
/-! spec.l14Copy -/
namespace spec_l14Copy
noncomputable def F (x0 : RSigned) : Ans := (call (spec_l13Copy.R x0.fHead) fun v1 => (bif (lim ((x0.fSigs.length : Int) * 16)) then ret ((⟨v1, x0.fSigs⟩ : RSigned) : RSigned) else none))
def pats : List Pat := [.agg [.int .i64, .int .i64, .int .i64, .int .i64, .int .i64, .int .i64, .int .i64, .int .i64, .sl 3, .int .i64, .sl 3, .int .i64, .int .i64, .sl 3, .int .i64, .bool, .sl 248]]
def res : RP := .agg [.rd (.int .i64), .rd (.int .i64), .rd (.int .i64), .rd (.int .i64), .rd (.int .i64), .rd (.int .i64), .rd (.int .i64), .rd (.int .i64), .fr 3, .rd (.int .i64), .fr 3, .rd (.int .i64), .rd (.int .i64), .fr 3, .rd (.int .i64), .rd (.bool), .fr 248]
noncomputable abbrev E : Env := { T := assoc Tab, G := conG [(229, spec_l13Copy.con)], nt := 11 }
set_option maxRecDepth 100000
theorem run_eq (n : Nat) (ls : List L) : runF E (fun _ => []) Try.f194 res n (initS pats ls) = F (RSigned.dec ls) := by kernel_rfl
noncomputable def md (a0 : MSigned) : MSigned := a0
def gd (a0 : MSigned) : Prop := (MSigned.Sm (2 ^ 21) a0)
def acc (ls : List L) : RSigned := (RSigned.dec ls)
noncomputable def R : RSigned → Option RSigned := RR gd md
theorem R_eq {a0} (h : gd a0) : R (MSigned.r a0) = some (MSigned.r (md a0)) := RR_eq (a := a0) h
noncomputable def con : Con := CN pats res acc R
theorem okF (a0 : MSigned) (hg : gd a0) : F (MSigned.r a0) = ret ((MSigned.r (md a0)) : RSigned) := by
  unfold gd at hg
  have H0 := hg
  unfold F md
  try simp only [S0, MSigned.rs]
  refine call_to (MHead.r a0.fHead) ?_ ?_
  · have R_ := spec_l13Copy.R_eq (a0 := a0.fHead) H0.1
    simp only [spec_l13Copy.md] at R_
    first | exact R_ | (simp only [MP, S0, MSigned.rs] at R_ ⊢; first | exact R_ | (rw [← R_]; rfl))
  try simp only [S0, MSigned.rs]
  refine yes_ret (by
      have := (H0.2).1
      refine lim_t ?_
      try simp (disch := omega) only [LN, wi]
      first | omega | (simp; done) | (simp; omega)) ?_
  all_goals first | rfl | (simp only [S0, MSigned.rs]; done) | (simp only [MP]; rfl) | (simp only [S0, MSigned.rs, MP]; first | done | rfl)
theorem valid_ : Valid Try.prog Ev 194 con := VV (run := fun _ x => F x) mix tab_ok (.cons spec_l13Copy.valid_ .nil) Try.func194 (by kernel_rfl) run_eq (fun _ a _ _ hg => ⟨0, okF a hg⟩)
end spec_l14Copy
/-! spec.l16Copy -/
namespace spec_l16Copy
inductive Pt where
  | p0 (a : List (List L)) (b : Int) (c : List (List L))
def pid : Pt → Nat
  | .p0 .. => 3
def pvs : Pt → List V
  | .p0 a b c => [.sl none 184 a, .own 0, .int .i64 b]
def phs : Pt → List Root
  | .p0 a b c => [.row 184 c]
noncomputable def step (J : Pt → Ans) : Pt → Ans
  | .p0 a b c => (bif (decide (b < (a.length : Int))) then (bif (decide ((0 : Int) ≤ b)) then (bif (decide (b < (a.length : Int))) then (call (spec_l14Copy.R (RSigned.at a (Int.toNat b))) fun v1 => (bif (lim (((c.length : Int) + 1) * 200)) then J (.p0 a (IntKind.i64.wrap (b + 1)) (c ++ [(RSigned.enc v1)])) else none)) else none) else none) else ret (c : List (List L)))
noncomputable def start (J : Pt → Ans) (x0 : List (List L)) : Ans := J (.p0 x0 0 [])
def live : Nat → Live := fun i => match i with | 3 => [(0, none), (3, some 184), (4, none)] | _ => []
def pats : List Pat := [.rd (.sl 184)]
def res : RP := .one (.fr 184)
noncomputable abbrev E : Env := { T := assoc Tab, G := conG [(194, spec_l14Copy.con)], nt := 21 }
set_option maxRecDepth 100000
theorem step_eq (I : Heads) (p : Pt) : enterC E live I (pid p) (bodyOf Try.f132) (stOf (live (pid p)) (pvs p) (phs p)) (doneK E Try.f132 res) = step (fun q => I (pid q) (pvs q) (phs q)) p := by
  cases p <;> kernel_rfl
theorem start_eq (I : Heads) (ls : List L) : runC E live I (bodyOf Try.f132) (initS pats ls) (doneK E Try.f132 res) = start (fun q => I (pid q) (pvs q) (phs q)) (ls.headD .hole).toSl := by kernel_rfl
theorem run_eq (n : Nat) (ls : List L) : runF E live Try.f132 res n (initS pats ls) = start (iter step n) (ls.headD .hole).toSl := runF_iter (id := pid) (vs := pvs) (hs := phs) (step := step) (start := fun J => start J (ls.headD .hole).toSl) step_eq (fun I => start_eq I ls) n
noncomputable def md (a0 : List MSigned) : List MSigned := a0
def gd (a0 : List MSigned) : Prop := (SmL (2 ^ 21) (fun y : MSigned => MSigned.Sm (2 ^ 21) y) a0)
def acc (ls : List L) : List (List L) := (ls.headD .hole).toSl
noncomputable def R : (List (List L)) → Option (List (List L)) := RR gd md
theorem R_eq {a0} (h : gd a0) : R (a0.map MSigned.row) = some ((md a0).map MSigned.row) := RR_eq (a := a0) h
noncomputable def con : Con := CN pats res acc R
theorem okF (a0 : List MSigned) (hg : gd a0) : ∃ n, start (iter step n) (a0.map MSigned.row) = ret (((md a0).map MSigned.row) : List (List L)) := by
  unfold gd at hg
  have H0 := hg
  unfold start md
  try simp only [S0, MSigned.rs]
  have Bh2 : a0.length ≤ maxLen := (by
      have := (H0).1
      try simp only [maxLen] at *
      omega)
  refine ex_eq (out := (fun b : List MSigned => ret ((b.map MSigned.row) : List (List L)))) (loopM_copy (xs := a0) (z := MSigned.zero) (t := fun s3 : List MSigned => s3)) ?_
  refine ex_pt (p := Pt.p0 (a0.map MSigned.row) 0 ([].map MSigned.row)) (by first | rfl | (simp only [S0, MSigned.rs, MP]; done) | (simp only [MP]; rfl)) ?_
  refine loopM_ok (pt := fun (i1 : Nat) (s3 : List MSigned) => Pt.p0 (a0.map MSigned.row) (i1 : Int) (s3.map MSigned.row)) (s := ([] : List MSigned)) (out := (fun b : List MSigned => ret ((b.map MSigned.row) : List (List L)))) (fun (i1 : Nat) (s3 : List MSigned) => s3.length ≤ ([] : List Int).length + 1 * i1) (fun J i1 s3 h2 hih2 => ?_) (fun s3 hih2 => ?_) (by simp)
  · simp only [step, S0, MSigned.rs]
    have gr_ := hih2
    try simp only [LN] at gr_
    have bb_ := Bh2
    simp only [maxLen] at bb_
    have := (H0).1
    refine Rnd.yes (by apply decide_eq_true; omega) ?_
    refine Rnd.yes zle_dec ?_
    refine Rnd.yes (lt_dec h2) ?_
    refine Rnd.call_to (MSigned.r (a0.getD i1 MSigned.zero)) ?_ ?_
    · have R_ := spec_l14Copy.R_eq (a0 := (a0.getD i1 MSigned.zero)) (SmL.getD (z := MSigned.zero) H0 h2)
      simp only [spec_l14Copy.md] at R_
      first | exact R_ | (simp only [MP, S0, MSigned.rs] at R_ ⊢; first | exact R_ | (rw [← R_]; rfl))
    try simp only [S0, MSigned.rs]
    refine Rnd.yes (by
        refine lim_t ?_
        try simp (disch := omega) only [LN, wi]
        first | omega | (simp; done) | (simp; omega)) ?_
    refine Rnd.inl (by
        have g_ := hih2
        try simp only [LN] at g_ ⊢
        first | omega | (simp; done) | (simp; omega)) ?_
    rw [wrap_succ h2 Bh2]
    all_goals first | rfl | (simp only [S0, MSigned.rs]; done) | (simp only [MP]; rfl) | (simp only [S0, MSigned.rs, MP]; first | done | rfl)
  · simp only [step, S0, MSigned.rs]
    have gr_ := hih2
    try simp only [LN] at gr_
    have := (H0).1
    refine ex_no (by apply decide_eq_false; omega) ?_
    refine ⟨0, ?_⟩
    all_goals first | rfl | (simp only [S0, MSigned.rs]; done) | (simp only [MP]; rfl) | (simp only [S0, MSigned.rs, MP]; first | done | rfl)
theorem valid_ : Valid Try.prog Ev 132 con := VV (run := fun n x => start (iter step n) x) mix tab_ok (.cons spec_l14Copy.valid_ .nil) Try.func132 (by kernel_rfl) run_eq (fun _ a _ _ hg => okF a hg)
end spec_l16Copy
/-! spec.ChainOf -/
namespace spec_ChainOf
noncomputable def F (x0 : RKnown) (x1 : Int) : Ans := (call (spec_l22Find.R (x0, x1)) fun v1 => (bif (decide (v1 < 0)) then ret (([], false) : List (List L) × Bool) else (bif (decide ((0 : Int) ≤ v1)) then (bif (decide (v1 < (x0.fChains.length : Int))) then (call (spec_l16Copy.R (lAt x0.fChains (Int.toNat v1))) fun v2 => ret ((v2, true) : List (List L) × Bool)) else none) else none)))
def pats : List Pat := [.agg [.sl 79, .sl 241], .rd (.int .i64)]
def res : RP := .tup [(false, [.fr 184]), (false, [.rd (.bool)])]
noncomputable abbrev E : Env := { T := assoc Tab, G := conG [(131, spec_l22Find.con), (132, spec_l16Copy.con)], nt := 19 }
set_option maxRecDepth 100000
theorem run_eq (n : Nat) (ls : List L) : runF E (fun _ => []) Try.f53 res n (initS pats ls) = F (RKnown.dec ls) ((dropT 2 ls).headD .hole).toInt := by kernel_rfl
noncomputable def md (a0 : MKnown) (a1 : Int) : List MSigned × Bool := (bif (decide ((spec_l22Find.md a0 a1) < 0)) then ([], false) else ((a0.fChains.getD (Int.toNat (spec_l22Find.md a0 a1)) []), true))
def gd (a0 : MKnown) (a1 : Int) : Prop := (MKnown.Sm (2 ^ 21) a0)
def acc (ls : List L) : RKnown × Int := ((RKnown.dec ls), ((dropT 2 ls).headD .hole).toInt)
noncomputable def R : (RKnown × Int) → Option (List (List L) × Bool) := RR (p2 gd) (u2 md)
theorem R_eq {a0} {a1} (h : gd a0 a1) : R ((MKnown.r a0), a1) = some (((md a0 a1).1.map MSigned.row), (md a0 a1).2) := RR_eq (a := (a0, a1)) h
noncomputable def con : Con := CN pats res acc R
theorem okF (a0 : MKnown) (a1 : Int) (hg : gd a0 a1) : F (MKnown.r a0) a1 = ret ((((md a0 a1).1.map MSigned.row), (md a0 a1).2) : List (List L) × Bool) := by
  unfold gd at hg
  have H0 := hg
  unfold F md
  try simp only [S0, MKnown.rs]
  refine call_to (spec_l22Find.md a0 a1) (spec_l22Find.R_eq (a0 := a0) (a1 := a1) H0) ?_
  have fv1_ := spec_l22Find.fa a0 a1
  refine bif_out (fun b : List MSigned × Bool => ret (((b.1.map MSigned.row), b.2) : List (List L) × Bool)) (fun c1 => ?_) (fun c1 => ?_)
  · all_goals first | rfl | (simp only [S0, MKnown.rs]; done) | (simp only [MP]; rfl) | (simp only [S0, MKnown.rs, MP]; first | done | rfl)
  · have dc1 := c1
    try simp only [DC] at dc1
    refine yes_ret (by
        refine decide_eq_true ?_
        try simp (disch := omega) only [LN, wi]
        first | omega | (simp; done) | (simp; omega)) ?_
    refine yes_ret (by
        have := (H0.1).1
        refine decide_eq_true ?_
        try simp (disch := omega) only [LN, wi]
        first | omega | (simp; done) | (simp; omega)) ?_
    refine call_to ((a0.fChains.getD (Int.toNat (spec_l22Find.md a0 a1)) []).map MSigned.row) ?_ ?_
    · have R_ := spec_l16Copy.R_eq (a0 := (a0.fChains.getD (Int.toNat (spec_l22Find.md a0 a1)) [])) (SmL.getD (z := []) H0.1 (by first | assumption | omega | (simp (disch := omega) only [wi]; omega) | (simp; omega)))
      simp only [spec_l16Copy.md] at R_
      first | exact R_ | (simp only [MP, S0, MKnown.rs] at R_ ⊢; first | exact R_ | (rw [← R_]; rfl))
    try simp only [S0, MKnown.rs]
    all_goals first | rfl | (simp only [S0, MKnown.rs]; done) | (simp only [MP]; rfl) | (simp only [S0, MKnown.rs, MP]; first | done | rfl)
theorem valid_ : Valid Try.prog Ev 53 con := VV (run := fun _ x => F x.1 x.2) mix tab_ok (.cons spec_l22Find.valid_ (.cons spec_l16Copy.valid_ .nil)) Try.func53 (by kernel_rfl) run_eq (fun _ a _ _ hg => ⟨0, okF a.1 a.2 hg⟩)
end spec_ChainOf
/-! (impl.Known).find$1 -/
namespace impl_Known_find_1
noncomputable def F (x0 : List (List L)) (x1 : List L) : Ans := (bif (decide ((x0.length : Int) > 0)) then (bif (decide ((0 : Int) < (x0.length : Int))) then ret (((RSigned.at x0 0).fHead.fZone == (iDec x1)) : Bool) else none) else ret (false : Bool))
def pats : List Pat := [.rd (.sl 184), .ptr [.int .i64]]
def res : RP := .one (.rd (.bool))
noncomputable abbrev E : Env := { T := assoc Tab, G := conG [], nt := 16 }
set_option maxRecDepth 100000
theorem run_eq (n : Nat) (ls : List L) : runF E (fun _ => []) Try.f197 res n (initS pats ls) = F (ls.headD .hole).toSl (padL 1 (dropT 1 ls)) := by kernel_rfl
noncomputable def md (a0 : List MSigned) (a1 : Int) : Bool := (bif (decide ((a0.length : Int) > 0)) then ((((a0.getD 0 MSigned.zero).fHead).fZone == a1) : Bool) else (false : Bool))
def gd (a0 : List MSigned) (a1 : Int) : Prop := (SmL (2 ^ 21) (fun y : MSigned => MSigned.Sm (2 ^ 21) y) a0)
def acc (ls : List L) : List (List L) × Int := ((ls.headD .hole).toSl, (iDec (padL 1 (dropT 1 ls))))
noncomputable def R : (List (List L) × Int) → Option Bool := RR (p2 gd) (u2 md)
theorem R_eq {a0} {a1} (h : gd a0 a1) : R ((a0.map MSigned.row), a1) = some (md a0 a1) := RR_eq (a := (a0, a1)) h
noncomputable def con : Con := CN pats res acc R
theorem okF (a0 : List MSigned) (a1 : Int) (p1 : List L) (e1 : a1 = (iDec p1)) (hg : gd a0 a1) : F (a0.map MSigned.row) p1 = ret ((md a0 a1) : Bool) := by
  unfold gd at hg
  have H0 := hg
  unfold F md
  try simp only [S0, MHead.rs, MSigned.rs, ← e1]
  refine bif_out ret (fun c1 => ?_) (fun _ => rfl)
  have dc1 := c1
  try simp only [DC] at dc1
  refine yes_ret (by
      have := (H0).1
      refine decide_eq_true ?_
      try simp (disch := omega) only [LN, wi]
      first | omega | (simp; done) | (simp; omega)) ?_
  all_goals first | rfl | (simp only [S0, MHead.rs, MSigned.rs, ← e1, MP]; first | done | rfl)
theorem okV (ls : List L) (a : List MSigned × Int) (e : acc ls = Im.im a) (hg : (p2 gd) a) : ∃ n : Nat, F ((ls.headD .hole).toSl) (padL 1 (dropT 1 ls)) = ret (Im.im ((u2 md) a)) := by
  have e0 : (a.1.map MSigned.row) = (ls.headD .hole).toSl := (congrArg (fun x => x.1) e.symm)
  have hn := okF a.1 a.2 (padL 1 (dropT 1 ls)) (congrArg (fun x => x.2) e.symm) hg
  refine ⟨0, ?_⟩
  rw [← e0]
  exact hn
theorem valid_ : Valid Try.prog Ev 197 con := VP (accr := fun ls => ((ls.headD .hole).toSl, (padL 1 (dropT 1 ls)))) (run := fun _ x => F x.1 x.2) mix tab_ok .nil Try.func197 (by kernel_rfl) run_eq (fun ls a _ e hg => okV ls a e hg)
end impl_Known_find_1
/-! slices.IndexFunc[[][]impl.Signed,[]impl.Signed] -/
namespace slices_IndexFunc_SSimpl_Signed_Simpl_Signed__impl_Known_find_1
inductive Pt where
  | p0 (a : List (List L)) (b : List L) (c : Int) (d : Int)
def pid : Pt → Nat
  | .p0 .. => 2
def pvs : Pt → List V
  | .p0 a b c d => [.sl none 79 a, .fn 197 [.cptr none [.int .i64] b 0], .int .i64 c, .int .i64 d]
def phs : Pt → List Root
  | .p0 a b c d => []
noncomputable def step (J : Pt → Ans) : Pt → Ans
  | .p0 a b c d => (bif (decide (d < c)) then (bif (decide ((0 : Int) ≤ d)) then (bif (decide (d < (a.length : Int))) then (call (impl_Known_find_1.R ((lAt a (Int.toNat d)), (iDec b))) fun v1 => (bif v1 then ret (d : Int) else J (.p0 a b c (IntKind.i64.wrap (d + 1))))) else none) else none) else ret ((-1) : Int))
noncomputable def start (J : Pt → Ans) (x0 : List (List L)) (x1 : List L) : Ans := J (.p0 x0 x1 (x0.length : Int) 0)
def live : Nat → Live := fun i => match i with | 2 => [(0, none), (1, none), (7, none), (8, none)] | _ => []
def pats : List Pat := [.rd (.sl 79), .fn 197 [[.int .i64]]]
def res : RP := .one (.rd (.int .i64))
noncomputable abbrev E : Env := { T := assoc Tab, G := conG [(197, impl_Known_find_1.con)], nt := 19 }
set_option maxRecDepth 100000
theorem step_eq (I : Heads) (p : Pt) : enterC E live I (pid p) (bodyOf Try.f196) (stOf (live (pid p)) (pvs p) (phs p)) (doneK E Try.f196 res) = step (fun q => I (pid q) (pvs q) (phs q)) p := by
  cases p <;> kernel_rfl
theorem start_eq (I : Heads) (ls : List L) : runC E live I (bodyOf Try.f196) (initS pats ls) (doneK E Try.f196 res) = start (fun q => I (pid q) (pvs q) (phs q)) (ls.headD .hole).toSl (padL 1 (dropT 1 ls)) := by kernel_rfl
theorem run_eq (n : Nat) (ls : List L) : runF E live Try.f196 res n (initS pats ls) = start (iter step n) (ls.headD .hole).toSl (padL 1 (dropT 1 ls)) := runF_iter (id := pid) (vs := pvs) (hs := phs) (step := step) (start := fun J => start J (ls.headD .hole).toSl (padL 1 (dropT 1 ls))) step_eq (fun I => start_eq I ls) n
noncomputable def md (a0 : List (List MSigned)) (a1 : Int) : Int := (eachI (S := Unit) (β := Int) (fun (i1 : Nat) (y1 : List MSigned) (s3 : Unit) => (bif (impl_Known_find_1.md y1 a1) then (.inr ((i1 : Int) : Int)) else (.inl ()))) (fun (s3 : Unit) => ((-1) : Int)) 0 a0 ())
def gd (a0 : List (List MSigned)) (a1 : Int) : Prop := (SmL (2 ^ 21) (fun y : List MSigned => SmL (2 ^ 21) (fun y : MSigned => MSigned.Sm (2 ^ 21) y) y) a0)
def acc (ls : List L) : List (List L) × Int := ((ls.headD .hole).toSl, (iDec (padL 1 (dropT 1 ls))))
noncomputable def R : (List (List L) × Int) → Option Int := RR (p2 gd) (u2 md)
theorem R_eq {a0} {a1} (h : gd a0 a1) : R ((a0.map (lRow MSigned.row)), a1) = some (md a0 a1) := RR_eq (a := (a0, a1)) h
noncomputable def con : Con := CN pats res acc R
theorem okF (a0 : List (List MSigned)) (a1 : Int) (p1 : List L) (e1 : a1 = (iDec p1)) (hg : gd a0 a1) : ∃ n, start (iter step n) (a0.map (lRow MSigned.row)) p1 = ret ((md a0 a1) : Int) := by
  unfold gd at hg
  have H0 := hg
  unfold start md
  try simp only [S0, ← e1]
  have Bh2 : a0.length ≤ maxLen := (by
      have := (H0).1
      try simp only [maxLen] at *
      omega)
  refine ex_eq (out := ret) (loopM_eachI (z := [])) ?_
  refine ex_pt (p := Pt.p0 (a0.map (lRow MSigned.row)) p1 (a0.length : Int) 0) (by first | rfl | (simp only [S0, ← e1, MP]; done) | (simp only [MP]; rfl)) ?_
  refine loopM_ok (pt := fun (i1 : Nat) (s3 : Unit) => Pt.p0 (a0.map (lRow MSigned.row)) p1 (a0.length : Int) (i1 : Int)) (s := (() : Unit)) (out := ret) (fun _ _ => True) (fun J i1 s3 h2 hih2 => ?_) (fun s3 hih2 => ?_) trivial
  · simp only [step, S0, ← e1]
    have bb_ := Bh2
    simp only [maxLen] at bb_
    have := (H0).1
    refine Rnd.yes (by apply decide_eq_true; omega) ?_
    refine Rnd.yes zle_dec ?_
    refine Rnd.yes (lt_dec h2) ?_
    refine Rnd.call_to (impl_Known_find_1.md (a0.getD i1 []) a1) (impl_Known_find_1.R_eq (a0 := (a0.getD i1 [])) (a1 := a1) (SmL.getD (z := []) H0 h2)) ?_
    refine Rnd.bif (fun c4 => ?_) (fun c4 => ?_)
    · refine Rnd.inr ?_
      all_goals first | rfl | (simp only [S0, ← e1, MP]; first | done | rfl)
    · refine Rnd.inl trivial ?_
      rw [wrap_succ h2 Bh2]
      all_goals first | rfl | (simp only [S0, ← e1, MP]; first | done | rfl)
  · simp only [step, S0, ← e1]
    have := (H0).1
    refine ex_no (by apply decide_eq_false; omega) ?_
    refine ⟨0, ?_⟩
    all_goals first | rfl | (simp only [S0, ← e1, MP]; first | done | rfl)
theorem okV (ls : List L) (a : List (List MSigned) × Int) (e : acc ls = Im.im a) (hg : (p2 gd) a) : ∃ n : Nat, start (iter step n) ((ls.headD .hole).toSl) (padL 1 (dropT 1 ls)) = ret (Im.im ((u2 md) a)) := by
  have e0 : (a.1.map (lRow MSigned.row)) = (ls.headD .hole).toSl := (congrArg (fun x => x.1) e.symm)
  obtain ⟨n, hn⟩ := okF a.1 a.2 (padL 1 (dropT 1 ls)) (congrArg (fun x => x.2) e.symm) hg
  refine ⟨n, ?_⟩
  rw [← e0]
  exact hn
theorem valid_ : Valid Try.prog Ev 196 con := VP (accr := fun ls => ((ls.headD .hole).toSl, (padL 1 (dropT 1 ls)))) (run := fun n x => start (iter step n) x.1 x.2) mix tab_ok (.cons impl_Known_find_1.valid_ .nil) Try.func196 (by kernel_rfl) run_eq (fun ls a _ e hg => okV ls a e hg)
theorem fa (a0 : List (List MSigned)) (a1 : Int) : -1 ≤ md a0 a1 ∧ md a0 a1 < (a0.length : Int) := by
  unfold md
  refine eachI_fa0 ?_ _ _
  all_goals
    intro i x s b h
    revert h
    simp only [Bool.cond_eq_ite]
    repeat' split
    all_goals (intro h; first | (cases h; rfl) | cases h)
theorem idx_eq (a0 : List (List MSigned)) (a1 : Int) : md a0 a1 = findI (fun y => impl_Known_find_1.md y a1) 0 a0 := by
  unfold md
  exact eachI_find
end slices_IndexFunc_SSimpl_Signed_Simpl_Signed__impl_Known_find_1
/-! (impl.Known).find -/
namespace impl_Known_find
noncomputable def F (x0 : RKnown) (x1 : Int) : Ans := (call (slices_IndexFunc_SSimpl_Signed_Simpl_Signed__impl_Known_find_1.R (x0.fChains, x1)) fun v1 => ret (v1 : Int))
def pats : List Pat := [.agg [.sl 79, .sl 241], .rd (.int .i64)]
def res : RP := .one (.rd (.int .i64))
noncomputable abbrev E : Env := { T := assoc Tab, G := conG [(196, slices_IndexFunc_SSimpl_Signed_Simpl_Signed__impl_Known_find_1.con)], nt := 9 }
set_option maxRecDepth 100000
theorem run_eq (n : Nat) (ls : List L) : runF E (fun _ => []) Try.f135 res n (initS pats ls) = F (RKnown.dec ls) ((dropT 2 ls).headD .hole).toInt := by kernel_rfl
noncomputable def md (a0 : MKnown) (a1 : Int) : Int := ((slices_IndexFunc_SSimpl_Signed_Simpl_Signed__impl_Known_find_1.md a0.fChains a1) : Int)
def gd (a0 : MKnown) (a1 : Int) : Prop := (MKnown.Sm (2 ^ 21) a0)
def acc (ls : List L) : RKnown × Int := ((RKnown.dec ls), ((dropT 2 ls).headD .hole).toInt)
noncomputable def R : (RKnown × Int) → Option Int := RR (p2 gd) (u2 md)
theorem R_eq {a0} {a1} (h : gd a0 a1) : R ((MKnown.r a0), a1) = some (md a0 a1) := RR_eq (a := (a0, a1)) h
noncomputable def con : Con := CN pats res acc R
theorem okF (a0 : MKnown) (a1 : Int) (hg : gd a0 a1) : F (MKnown.r a0) a1 = ret ((md a0 a1) : Int) := by
  unfold gd at hg
  have H0 := hg
  unfold F md
  try simp only [S0, MKnown.rs]
  refine call_to (slices_IndexFunc_SSimpl_Signed_Simpl_Signed__impl_Known_find_1.md a0.fChains a1) (slices_IndexFunc_SSimpl_Signed_Simpl_Signed__impl_Known_find_1.R_eq (a0 := a0.fChains) (a1 := a1) H0.1) ?_
  have fv1_ := slices_IndexFunc_SSimpl_Signed_Simpl_Signed__impl_Known_find_1.fa a0.fChains a1
  all_goals first | rfl | (simp only [S0, MKnown.rs, MP]; first | done | rfl)
theorem valid_ : Valid Try.prog Ev 135 con := VV (run := fun _ x => F x.1 x.2) mix tab_ok (.cons slices_IndexFunc_SSimpl_Signed_Simpl_Signed__impl_Known_find_1.valid_ .nil) Try.func135 (by kernel_rfl) run_eq (fun _ a _ _ hg => ⟨0, okF a.1 a.2 hg⟩)
theorem fa (a0 : MKnown) (a1 : Int) : -1 ≤ md a0 a1 ∧ md a0 a1 < (a0.fChains.length : Int) := by unfold md; exact slices_IndexFunc_SSimpl_Signed_Simpl_Signed__impl_Known_find_1.fa _ _
theorem br (a0 : MKnown) (a1 : Int) : md a0 a1 = spec_l22Find.md a0 a1 := by
  unfold md spec_l22Find.md
  rw [slices_IndexFunc_SSimpl_Signed_Simpl_Signed__impl_Known_find_1.idx_eq]
  symm
  refine eachI_find' (fun i x s => ?_) _ _ _
  unfold impl_Known_find_1.md
  cases decide ((x.length : Int) > 0) <;> first | rfl | (cases ((x.getD 0 MSigned.zero).fHead).fZone == a1 <;> rfl)
end impl_Known_find
/-! slices.Clone[[]int,int] -/
namespace slices_Clone_Sint_int
noncomputable def F (x0 : List (List L)) : Ans := (bif x0.isEmpty then (either (ret ([] : List (List L))) ((bif (lim ((x0.length : Int) * 8)) then ret (x0 : List (List L)) else none))) else (bif (lim ((x0.length : Int) * 8)) then ret (x0 : List (List L)) else none))
def pats : List Pat := [.rd (.sl 3)]
def res : RP := .one (.fr 3)
noncomputable abbrev E : Env := { T := assoc Tab, G := conG [], nt := 8 }
set_option maxRecDepth 100000
theorem run_eq (n : Nat) (ls : List L) : runF E (fun _ => []) Try.f210 res n (initS pats ls) = F (ls.headD .hole).toSl := by kernel_rfl
noncomputable def md (a0 : List Int) : List Int := a0
def gd (a0 : List Int) : Prop := SmL (2 ^ 38) (fun y : Int => True) a0
def acc (ls : List L) : List (List L) := (ls.headD .hole).toSl
noncomputable def R : (List (List L)) → Option (List (List L)) := RR gd md
theorem R_eq {a0} (h : gd a0) : R (a0.map iRow) = some ((md a0).map iRow) := RR_eq (a := a0) h
noncomputable def con : Con := CN pats res acc R
theorem okF (a0 : List Int) (hg : gd a0) : F (a0.map iRow) = ret (((md a0).map iRow) : List (List L)) := by
  have H0 := hg.1
  unfold F md
  have hl : lim (((a0.map iRow).length : Int) * 8) = true := lim_t (by simp only [List.length_map]; omega)
  simp only [hl, cond_true]
  cases a0 with
  | nil => exact either_same
  | cons x xs => rfl
theorem valid_ : Valid Try.prog Ev 210 con := VV (run := fun _ x => F x) mix tab_ok .nil Try.func210 (by kernel_rfl) run_eq (fun _ a _ _ hg => ⟨0, okF a hg⟩)
end slices_Clone_Sint_int
/-! impl.copyKeys -/
namespace impl_copyKeys
noncomputable def F (x0 : RKeys) : Ans := (call (slices_Clone_Sint_int.R x0.fList) fun v1 => ret ((⟨v1, x0.fNeed⟩ : RKeys) : RKeys))
def pats : List Pat := [.agg [.sl 3, .int .i64]]
def res : RP := .agg [.fr 3, .rd (.int .i64)]
noncomputable abbrev E : Env := { T := assoc Tab, G := conG [(210, slices_Clone_Sint_int.con)], nt := 9 }
set_option maxRecDepth 100000
theorem run_eq (n : Nat) (ls : List L) : runF E (fun _ => []) Try.f153 res n (initS pats ls) = F (RKeys.dec ls) := by kernel_rfl
noncomputable def md (a0 : MKeys) : MKeys := a0
def gd (a0 : MKeys) : Prop := (MKeys.Sm (2 ^ 21) a0)
def acc (ls : List L) : RKeys := (RKeys.dec ls)
noncomputable def R : RKeys → Option RKeys := RR gd md
theorem R_eq {a0} (h : gd a0) : R (MKeys.r a0) = some (MKeys.r (md a0)) := RR_eq (a := a0) h
noncomputable def con : Con := CN pats res acc R
theorem okF (a0 : MKeys) (hg : gd a0) : F (MKeys.r a0) = ret ((MKeys.r (md a0)) : RKeys) := by
  unfold gd at hg
  have H0 := hg
  unfold F md
  try simp only [S0, MKeys.rs]
  refine call_to (a0.fList.map iRow) ?_ ?_
  · have R_ := slices_Clone_Sint_int.R_eq (a0 := a0.fList) (H0.mono (by decide) (fun x hx => trivial))
    simp only [slices_Clone_Sint_int.md] at R_
    first | exact R_ | (simp only [MP, S0, MKeys.rs] at R_ ⊢; first | exact R_ | (rw [← R_]; rfl))
  try simp only [S0, MKeys.rs]
  all_goals first | rfl | (simp only [S0, MKeys.rs]; done) | (simp only [MP]; rfl) | (simp only [S0, MKeys.rs, MP]; first | done | rfl)
theorem valid_ : Valid Try.prog Ev 153 con := VV (run := fun _ x => F x) mix tab_ok (.cons slices_Clone_Sint_int.valid_ .nil) Try.func153 (by kernel_rfl) run_eq (fun _ a _ _ hg => ⟨0, okF a hg⟩)
end impl_copyKeys
/-! impl.copyHead -/
namespace impl_copyHead
noncomputable def F (x0 : RHead) : Ans := (call (impl_copyKeys.R x0.fKeys) fun v1 => (call (impl_copyKeys.R x0.fHeirs) fun v2 => (call (impl_copyKeys.R x0.fJudge) fun v3 => ret ((⟨x0.fZone, x0.fEpoch, x0.fKind, x0.fTime, x0.fUntil, x0.fCount, x0.fRoot, x0.fPrev, v1, v2, x0.fWait, v3, x0.fFrozen⟩ : RHead) : RHead))))
def pats : List Pat := [.agg [.int .i64, .int .i64, .int .i64, .int .i64, .int .i64, .int .i64, .int .i64, .int .i64, .sl 3, .int .i64, .sl 3, .int .i64, .int .i64, .sl 3, .int .i64, .bool]]
def res : RP := .agg [.rd (.int .i64), .rd (.int .i64), .rd (.int .i64), .rd (.int .i64), .rd (.int .i64), .rd (.int .i64), .rd (.int .i64), .rd (.int .i64), .fr 3, .rd (.int .i64), .fr 3, .rd (.int .i64), .rd (.int .i64), .fr 3, .rd (.int .i64), .rd (.bool)]
noncomputable abbrev E : Env := { T := assoc Tab, G := conG [(153, impl_copyKeys.con)], nt := 16 }
set_option maxRecDepth 100000
theorem run_eq (n : Nat) (ls : List L) : runF E (fun _ => []) Try.f230 res n (initS pats ls) = F (RHead.dec ls) := by kernel_rfl
noncomputable def md (a0 : MHead) : MHead := a0
def gd (a0 : MHead) : Prop := (MHead.Sm (2 ^ 21) a0)
def acc (ls : List L) : RHead := (RHead.dec ls)
noncomputable def R : RHead → Option RHead := RR gd md
theorem R_eq {a0} (h : gd a0) : R (MHead.r a0) = some (MHead.r (md a0)) := RR_eq (a := a0) h
noncomputable def con : Con := CN pats res acc R
theorem okF (a0 : MHead) (hg : gd a0) : F (MHead.r a0) = ret ((MHead.r (md a0)) : RHead) := by
  unfold gd at hg
  have H0 := hg
  unfold F md
  try simp only [S0, MHead.rs]
  refine call_to (MKeys.r a0.fKeys) ?_ ?_
  · have R_ := impl_copyKeys.R_eq (a0 := a0.fKeys) H0.1
    simp only [impl_copyKeys.md] at R_
    first | exact R_ | (simp only [MP, S0, MHead.rs] at R_ ⊢; first | exact R_ | (rw [← R_]; rfl))
  try simp only [S0, MHead.rs]
  refine call_to (MKeys.r a0.fHeirs) ?_ ?_
  · have R_ := impl_copyKeys.R_eq (a0 := a0.fHeirs) H0.2.1
    simp only [impl_copyKeys.md] at R_
    first | exact R_ | (simp only [MP, S0, MHead.rs] at R_ ⊢; first | exact R_ | (rw [← R_]; rfl))
  try simp only [S0, MHead.rs]
  refine call_to (MKeys.r a0.fJudge) ?_ ?_
  · have R_ := impl_copyKeys.R_eq (a0 := a0.fJudge) H0.2.2
    simp only [impl_copyKeys.md] at R_
    first | exact R_ | (simp only [MP, S0, MHead.rs] at R_ ⊢; first | exact R_ | (rw [← R_]; rfl))
  try simp only [S0, MHead.rs]
  all_goals first | rfl | (simp only [S0, MHead.rs]; done) | (simp only [MP]; rfl) | (simp only [S0, MHead.rs, MP]; first | done | rfl)
theorem valid_ : Valid Try.prog Ev 230 con := VV (run := fun _ x => F x) mix tab_ok (.cons impl_copyKeys.valid_ .nil) Try.func230 (by kernel_rfl) run_eq (fun _ a _ _ hg => ⟨0, okF a hg⟩)
end impl_copyHead
/-! slices.Clone[[]impl.Sig,impl.Sig] -/
namespace slices_Clone_Simpl_Sig_impl_Sig
noncomputable def F (x0 : List (List L)) : Ans := (bif x0.isEmpty then (either (ret ([] : List (List L))) ((bif (lim ((x0.length : Int) * 16)) then ret (x0 : List (List L)) else none))) else (bif (lim ((x0.length : Int) * 16)) then ret (x0 : List (List L)) else none))
def pats : List Pat := [.rd (.sl 248)]
def res : RP := .one (.fr 248)
noncomputable abbrev E : Env := { T := assoc Tab, G := conG [], nt := 8 }
set_option maxRecDepth 100000
theorem run_eq (n : Nat) (ls : List L) : runF E (fun _ => []) Try.f231 res n (initS pats ls) = F (ls.headD .hole).toSl := by kernel_rfl
noncomputable def md (a0 : List MSig) : List MSig := a0
def gd (a0 : List MSig) : Prop := SmL (2 ^ 21) (fun y : MSig => MSig.Sm (2 ^ 21) y) a0
def acc (ls : List L) : List (List L) := (ls.headD .hole).toSl
noncomputable def R : (List (List L)) → Option (List (List L)) := RR gd md
theorem R_eq {a0} (h : gd a0) : R (a0.map MSig.row) = some ((md a0).map MSig.row) := RR_eq (a := a0) h
noncomputable def con : Con := CN pats res acc R
theorem okF (a0 : List MSig) (hg : gd a0) : F (a0.map MSig.row) = ret (((md a0).map MSig.row) : List (List L)) := by
  have H0 := hg.1
  unfold F md
  have hl : lim (((a0.map MSig.row).length : Int) * 16) = true := lim_t (by simp only [List.length_map]; omega)
  simp only [hl, cond_true]
  cases a0 with
  | nil => exact either_same
  | cons x xs => rfl
theorem valid_ : Valid Try.prog Ev 231 con := VV (run := fun _ x => F x) mix tab_ok .nil Try.func231 (by kernel_rfl) run_eq (fun _ a _ _ hg => ⟨0, okF a hg⟩)
end slices_Clone_Simpl_Sig_impl_Sig
/-! impl.copySigned -/
namespace impl_copySigned
noncomputable def F (x0 : RSigned) : Ans := (call (impl_copyHead.R x0.fHead) fun v1 => (call (slices_Clone_Simpl_Sig_impl_Sig.R x0.fSigs) fun v2 => ret ((⟨v1, v2⟩ : RSigned) : RSigned)))
def pats : List Pat := [.agg [.int .i64, .int .i64, .int .i64, .int .i64, .int .i64, .int .i64, .int .i64, .int .i64, .sl 3, .int .i64, .sl 3, .int .i64, .int .i64, .sl 3, .int .i64, .bool, .sl 248]]
def res : RP := .agg [.rd (.int .i64), .rd (.int .i64), .rd (.int .i64), .rd (.int .i64), .rd (.int .i64), .rd (.int .i64), .rd (.int .i64), .rd (.int .i64), .fr 3, .rd (.int .i64), .fr 3, .rd (.int .i64), .rd (.int .i64), .fr 3, .rd (.int .i64), .rd (.bool), .fr 248]
noncomputable abbrev E : Env := { T := assoc Tab, G := conG [(230, impl_copyHead.con), (231, slices_Clone_Simpl_Sig_impl_Sig.con)], nt := 10 }
set_option maxRecDepth 100000
theorem run_eq (n : Nat) (ls : List L) : runF E (fun _ => []) Try.f198 res n (initS pats ls) = F (RSigned.dec ls) := by kernel_rfl
noncomputable def md (a0 : MSigned) : MSigned := a0
def gd (a0 : MSigned) : Prop := (MSigned.Sm (2 ^ 21) a0)
def acc (ls : List L) : RSigned := (RSigned.dec ls)
noncomputable def R : RSigned → Option RSigned := RR gd md
theorem R_eq {a0} (h : gd a0) : R (MSigned.r a0) = some (MSigned.r (md a0)) := RR_eq (a := a0) h
noncomputable def con : Con := CN pats res acc R
theorem okF (a0 : MSigned) (hg : gd a0) : F (MSigned.r a0) = ret ((MSigned.r (md a0)) : RSigned) := by
  unfold gd at hg
  have H0 := hg
  unfold F md
  try simp only [S0, MSigned.rs]
  refine call_to (MHead.r a0.fHead) ?_ ?_
  · have R_ := impl_copyHead.R_eq (a0 := a0.fHead) H0.1
    simp only [impl_copyHead.md] at R_
    first | exact R_ | (simp only [MP, S0, MSigned.rs] at R_ ⊢; first | exact R_ | (rw [← R_]; rfl))
  try simp only [S0, MSigned.rs]
  refine call_to (a0.fSigs.map MSig.row) ?_ ?_
  · have R_ := slices_Clone_Simpl_Sig_impl_Sig.R_eq (a0 := a0.fSigs) H0.2
    simp only [slices_Clone_Simpl_Sig_impl_Sig.md] at R_
    first | exact R_ | (simp only [MP, S0, MSigned.rs] at R_ ⊢; first | exact R_ | (rw [← R_]; rfl))
  try simp only [S0, MSigned.rs]
  all_goals first | rfl | (simp only [S0, MSigned.rs]; done) | (simp only [MP]; rfl) | (simp only [S0, MSigned.rs, MP]; first | done | rfl)
theorem valid_ : Valid Try.prog Ev 198 con := VV (run := fun _ x => F x) mix tab_ok (.cons impl_copyHead.valid_ (.cons slices_Clone_Simpl_Sig_impl_Sig.valid_ .nil)) Try.func198 (by kernel_rfl) run_eq (fun _ a _ _ hg => ⟨0, okF a hg⟩)
end impl_copySigned
/-! impl.copyChain -/
namespace impl_copyChain
inductive Pt where
  | p0 (a : List (List L)) (b : Int) (c : Int) (d : List (List L))
def pid : Pt → Nat
  | .p0 .. => 3
def pvs : Pt → List V
  | .p0 a b c d => [.own 0, .sl none 184 a, .int .i64 b, .int .i64 c]
def phs : Pt → List Root
  | .p0 a b c d => [.row 184 d]
noncomputable def step (J : Pt → Ans) : Pt → Ans
  | .p0 a b c d => (bif (decide (c < b)) then (bif (decide ((0 : Int) ≤ c)) then (bif (decide (c < (a.length : Int))) then (call (impl_copySigned.R (RSigned.at a (Int.toNat c))) fun v1 => (bif (lim (((d.length : Int) + 1) * 200)) then J (.p0 a b (IntKind.i64.wrap (c + 1)) (d ++ [(RSigned.enc v1)])) else none)) else none) else none) else ret (d : List (List L)))
noncomputable def start (J : Pt → Ans) (x0 : List (List L)) : Ans := J (.p0 x0 (x0.length : Int) 0 [])
def live : Nat → Live := fun i => match i with | 3 => [(3, some 184), (7, none), (8, none), (9, none)] | _ => []
def pats : List Pat := [.rd (.sl 184)]
def res : RP := .one (.fr 184)
noncomputable abbrev E : Env := { T := assoc Tab, G := conG [(198, impl_copySigned.con)], nt := 20 }
set_option maxRecDepth 100000
theorem step_eq (I : Heads) (p : Pt) : enterC E live I (pid p) (bodyOf Try.f136) (stOf (live (pid p)) (pvs p) (phs p)) (doneK E Try.f136 res) = step (fun q => I (pid q) (pvs q) (phs q)) p := by
  cases p <;> kernel_rfl
theorem start_eq (I : Heads) (ls : List L) : runC E live I (bodyOf Try.f136) (initS pats ls) (doneK E Try.f136 res) = start (fun q => I (pid q) (pvs q) (phs q)) (ls.headD .hole).toSl := by kernel_rfl
theorem run_eq (n : Nat) (ls : List L) : runF E live Try.f136 res n (initS pats ls) = start (iter step n) (ls.headD .hole).toSl := runF_iter (id := pid) (vs := pvs) (hs := phs) (step := step) (start := fun J => start J (ls.headD .hole).toSl) step_eq (fun I => start_eq I ls) n
noncomputable def md (a0 : List MSigned) : List MSigned := a0
def gd (a0 : List MSigned) : Prop := (SmL (2 ^ 21) (fun y : MSigned => MSigned.Sm (2 ^ 21) y) a0)
def acc (ls : List L) : List (List L) := (ls.headD .hole).toSl
noncomputable def R : (List (List L)) → Option (List (List L)) := RR gd md
theorem R_eq {a0} (h : gd a0) : R (a0.map MSigned.row) = some ((md a0).map MSigned.row) := RR_eq (a := a0) h
noncomputable def con : Con := CN pats res acc R
theorem okF (a0 : List MSigned) (hg : gd a0) : ∃ n, start (iter step n) (a0.map MSigned.row) = ret (((md a0).map MSigned.row) : List (List L)) := by
  unfold gd at hg
  have H0 := hg
  unfold start md
  try simp only [S0, MSigned.rs]
  have Bh2 : a0.length ≤ maxLen := (by
      have := (H0).1
      try simp only [maxLen] at *
      omega)
  refine ex_eq (out := (fun b : List MSigned => ret ((b.map MSigned.row) : List (List L)))) (loopM_copy (xs := a0) (z := MSigned.zero) (t := fun s3 : List MSigned => s3)) ?_
  refine ex_pt (p := Pt.p0 (a0.map MSigned.row) (a0.length : Int) 0 ([].map MSigned.row)) (by first | rfl | (simp only [S0, MSigned.rs, MP]; done) | (simp only [MP]; rfl)) ?_
  refine loopM_ok (pt := fun (i1 : Nat) (s3 : List MSigned) => Pt.p0 (a0.map MSigned.row) (a0.length : Int) (i1 : Int) (s3.map MSigned.row)) (s := ([] : List MSigned)) (out := (fun b : List MSigned => ret ((b.map MSigned.row) : List (List L)))) (fun (i1 : Nat) (s3 : List MSigned) => s3.length ≤ ([] : List Int).length + 1 * i1) (fun J i1 s3 h2 hih2 => ?_) (fun s3 hih2 => ?_) (by simp)
  · simp only [step, S0, MSigned.rs]
    have gr_ := hih2
    try simp only [LN] at gr_
    have bb_ := Bh2
    simp only [maxLen] at bb_
    have := (H0).1
    refine Rnd.yes (by apply decide_eq_true; omega) ?_
    refine Rnd.yes zle_dec ?_
    refine Rnd.yes (lt_dec h2) ?_
    refine Rnd.call_to (MSigned.r (a0.getD i1 MSigned.zero)) ?_ ?_
    · have R_ := impl_copySigned.R_eq (a0 := (a0.getD i1 MSigned.zero)) (SmL.getD (z := MSigned.zero) H0 h2)
      simp only [impl_copySigned.md] at R_
      first | exact R_ | (simp only [MP, S0, MSigned.rs] at R_ ⊢; first | exact R_ | (rw [← R_]; rfl))
    try simp only [S0, MSigned.rs]
    refine Rnd.yes (by
        refine lim_t ?_
        try simp (disch := omega) only [LN, wi]
        first | omega | (simp; done) | (simp; omega)) ?_
    refine Rnd.inl (by
        have g_ := hih2
        try simp only [LN] at g_ ⊢
        first | omega | (simp; done) | (simp; omega)) ?_
    rw [wrap_succ h2 Bh2]
    all_goals first | rfl | (simp only [S0, MSigned.rs]; done) | (simp only [MP]; rfl) | (simp only [S0, MSigned.rs, MP]; first | done | rfl)
  · simp only [step, S0, MSigned.rs]
    have gr_ := hih2
    try simp only [LN] at gr_
    have := (H0).1
    refine ex_no (by apply decide_eq_false; omega) ?_
    refine ⟨0, ?_⟩
    all_goals first | rfl | (simp only [S0, MSigned.rs]; done) | (simp only [MP]; rfl) | (simp only [S0, MSigned.rs, MP]; first | done | rfl)
theorem valid_ : Valid Try.prog Ev 136 con := VV (run := fun n x => start (iter step n) x) mix tab_ok (.cons impl_copySigned.valid_ .nil) Try.func136 (by kernel_rfl) run_eq (fun _ a _ _ hg => okF a hg)
end impl_copyChain
/-! impl.ChainOf -/
namespace impl_ChainOf
noncomputable def F (x0 : RKnown) (x1 : Int) : Ans := (call (impl_Known_find.R (x0, x1)) fun v1 => (bif (decide (v1 < 0)) then ret (([], false) : List (List L) × Bool) else (bif (decide ((0 : Int) ≤ v1)) then (bif (decide (v1 < (x0.fChains.length : Int))) then (call (impl_copyChain.R (lAt x0.fChains (Int.toNat v1))) fun v2 => ret ((v2, true) : List (List L) × Bool)) else none) else none)))
def pats : List Pat := [.agg [.sl 79, .sl 241], .rd (.int .i64)]
def res : RP := .tup [(false, [.fr 184]), (false, [.rd (.bool)])]
noncomputable abbrev E : Env := { T := assoc Tab, G := conG [(135, impl_Known_find.con), (136, impl_copyChain.con)], nt := 18 }
set_option maxRecDepth 100000
theorem run_eq (n : Nat) (ls : List L) : runF E (fun _ => []) Try.f55 res n (initS pats ls) = F (RKnown.dec ls) ((dropT 2 ls).headD .hole).toInt := by kernel_rfl
noncomputable def md (a0 : MKnown) (a1 : Int) : List MSigned × Bool := (bif (decide ((impl_Known_find.md a0 a1) < 0)) then ([], false) else ((a0.fChains.getD (Int.toNat (impl_Known_find.md a0 a1)) []), true))
def gd (a0 : MKnown) (a1 : Int) : Prop := (MKnown.Sm (2 ^ 21) a0)
def acc (ls : List L) : RKnown × Int := ((RKnown.dec ls), ((dropT 2 ls).headD .hole).toInt)
noncomputable def R : (RKnown × Int) → Option (List (List L) × Bool) := RR (p2 gd) (u2 md)
theorem R_eq {a0} {a1} (h : gd a0 a1) : R ((MKnown.r a0), a1) = some (((md a0 a1).1.map MSigned.row), (md a0 a1).2) := RR_eq (a := (a0, a1)) h
noncomputable def con : Con := CN pats res acc R
theorem okF (a0 : MKnown) (a1 : Int) (hg : gd a0 a1) : F (MKnown.r a0) a1 = ret ((((md a0 a1).1.map MSigned.row), (md a0 a1).2) : List (List L) × Bool) := by
  unfold gd at hg
  have H0 := hg
  unfold F md
  try simp only [S0, MKnown.rs]
  refine call_to (impl_Known_find.md a0 a1) (impl_Known_find.R_eq (a0 := a0) (a1 := a1) H0) ?_
  have fv1_ := impl_Known_find.fa a0 a1
  refine bif_out (fun b : List MSigned × Bool => ret (((b.1.map MSigned.row), b.2) : List (List L) × Bool)) (fun c1 => ?_) (fun c1 => ?_)
  · all_goals first | rfl | (simp only [S0, MKnown.rs]; done) | (simp only [MP]; rfl) | (simp only [S0, MKnown.rs, MP]; first | done | rfl)
  · have dc1 := c1
    try simp only [DC] at dc1
    refine yes_ret (by
        refine decide_eq_true ?_
        try simp (disch := omega) only [LN, wi]
        first | omega | (simp; done) | (simp; omega)) ?_
    refine yes_ret (by
        have := (H0.1).1
        refine decide_eq_true ?_
        try simp (disch := omega) only [LN, wi]
        first | omega | (simp; done) | (simp; omega)) ?_
    refine call_to ((a0.fChains.getD (Int.toNat (impl_Known_find.md a0 a1)) []).map MSigned.row) ?_ ?_
    · have R_ := impl_copyChain.R_eq (a0 := (a0.fChains.getD (Int.toNat (impl_Known_find.md a0 a1)) [])) (SmL.getD (z := []) H0.1 (by first | assumption | omega | (simp (disch := omega) only [wi]; omega) | (simp; omega)))
      simp only [impl_copyChain.md] at R_
      first | exact R_ | (simp only [MP, S0, MKnown.rs] at R_ ⊢; first | exact R_ | (rw [← R_]; rfl))
    try simp only [S0, MKnown.rs]
    all_goals first | rfl | (simp only [S0, MKnown.rs]; done) | (simp only [MP]; rfl) | (simp only [S0, MKnown.rs, MP]; first | done | rfl)
theorem valid_ : Valid Try.prog Ev 55 con := VV (run := fun _ x => F x.1 x.2) mix tab_ok (.cons impl_Known_find.valid_ (.cons impl_copyChain.valid_ .nil)) Try.func55 (by kernel_rfl) run_eq (fun _ a _ _ hg => ⟨0, okF a.1 a.2 hg⟩)
theorem br (a0 : MKnown) (a1 : Int) : md a0 a1 = spec_ChainOf.md a0 a1 := by
  unfold md spec_ChainOf.md
  first
  | (simp only [impl_Known_find.br]; done)
  | (simp only [impl_Known_find.br]; rfl)
  | rfl
end impl_ChainOf
/-! laws.eqIntS -/
namespace laws_eqIntS
inductive Pt where
  | p0 (a : List (List L)) (b : List (List L)) (c : Int)
def pid : Pt → Nat
  | .p0 .. => 4
def pvs : Pt → List V
  | .p0 a b c => [.sl none 3 a, .sl none 3 b, .int .i64 c]
def phs : Pt → List Root
  | .p0 a b c => []
noncomputable def step (J : Pt → Ans) : Pt → Ans
  | .p0 a b c => (bif (decide (c < (a.length : Int))) then (bif (decide ((0 : Int) ≤ c)) then (bif (decide (c < (a.length : Int))) then (bif (decide ((0 : Int) ≤ c)) then (bif (decide (c < (b.length : Int))) then (bif ((iAt a (Int.toNat c)) != (iAt b (Int.toNat c))) then ret (false : Bool) else J (.p0 a b (IntKind.i64.wrap (c + 1)))) else none) else none) else none) else none) else ret (true : Bool))
noncomputable def start (J : Pt → Ans) (x0 : List (List L)) (x1 : List (List L)) : Ans := (bif ((x0.length : Int) != (x1.length : Int)) then ret (false : Bool) else J (.p0 x0 x1 0))
def live : Nat → Live := fun i => match i with | 4 => [(0, none), (1, none), (5, none)] | _ => []
def pats : List Pat := [.rd (.sl 3), .rd (.sl 3)]
def res : RP := .one (.rd (.bool))
noncomputable abbrev E : Env := { T := assoc Tab, G := conG [], nt := 26 }
set_option maxRecDepth 100000
theorem step_eq (I : Heads) (p : Pt) : enterC E live I (pid p) (bodyOf Try.f161) (stOf (live (pid p)) (pvs p) (phs p)) (doneK E Try.f161 res) = step (fun q => I (pid q) (pvs q) (phs q)) p := by
  cases p <;> kernel_rfl
theorem start_eq (I : Heads) (ls : List L) : runC E live I (bodyOf Try.f161) (initS pats ls) (doneK E Try.f161 res) = start (fun q => I (pid q) (pvs q) (phs q)) (ls.headD .hole).toSl ((dropT 1 ls).headD .hole).toSl := by kernel_rfl
theorem run_eq (n : Nat) (ls : List L) : runF E live Try.f161 res n (initS pats ls) = start (iter step n) (ls.headD .hole).toSl ((dropT 1 ls).headD .hole).toSl := runF_iter (id := pid) (vs := pvs) (hs := phs) (step := step) (start := fun J => start J (ls.headD .hole).toSl ((dropT 1 ls).headD .hole).toSl) step_eq (fun I => start_eq I ls) n
noncomputable def md (a0 : List Int) (a1 : List Int) : Bool := eqB a0 a1
def gd (a0 : List Int) (a1 : List Int) : Prop := True
def acc (ls : List L) : List (List L) × List (List L) := ((ls.headD .hole).toSl, ((dropT 1 ls).headD .hole).toSl)
noncomputable def R : (List (List L) × List (List L)) → Option Bool := RR (p2 gd) (u2 md)
theorem R_eq {a0} {a1} (h : gd a0 a1) : R ((a0.map iRow), (a1.map iRow)) = some (md a0 a1) := RR_eq (a := (a0, a1)) h
noncomputable def con : Con := CN pats res acc R
theorem okF (a0 : List Int) (a1 : List Int) (hg : gd a0 a1) (h0 : a0.length ≤ maxLen) (h1 : a1.length ≤ maxLen) : ∃ n, start (iter step n) (a0.map iRow) (a1.map iRow) = ret ((md a0 a1) : Bool) := by
  unfold start md
  simp only [List.length_map]
  refine eq_list (pt := fun i => Pt.p0 (a0.map iRow) (a1.map iRow) (i : Int)) (fun hl J i h h2 => ?_) (fun J => ?_)
  · simp only [step, List.length_map, lt_dec h, lt_dec h2, zle_dec, cond_true, toNat_nat, iAt_row h, iAt_row h2]
    rw [wrap_succ h h0]
    simp only [bne, int_beq, bool_beq, ba_beq]
    cases eqB a0[i] a1[i] <;> rfl
  · simp only [step, List.length_map, nlt_dec, cond_false]
theorem valid_ : Valid Try.prog Ev 161 con := VV (run := fun n x => start (iter step n) x.1 x.2) mix tab_ok .nil Try.func161 (by kernel_rfl) run_eq (fun ls a hl e hg => okF a.1 a.2 hg (by have h : (ls.headD .hole).toSl.length ≤ maxLen := hl.1.len; have e : a.1.map iRow = (ls.headD .hole).toSl := (congrArg (fun x => x.1) e.symm); rw [← e] at h; simpa using h) (by have h : ((dropT 1 ls).headD .hole).toSl.length ≤ maxLen := hl.2.1.len; have e : a.2.map iRow = ((dropT 1 ls).headD .hole).toSl := (congrArg (fun x => x.2) e.symm); rw [← e] at h; simpa using h))
end laws_eqIntS
/-! laws.eqKeys -/
namespace laws_eqKeys
noncomputable def F (x0 : RKeys) (x1 : RKeys) : Ans := (call (laws_eqIntS.R (x0.fList, x1.fList)) fun v1 => (bif (!v1) then ret (false : Bool) else (bif (x0.fNeed != x1.fNeed) then ret (false : Bool) else ret (true : Bool))))
def pats : List Pat := [.agg [.sl 3, .int .i64], .agg [.sl 3, .int .i64]]
def res : RP := .one (.rd (.bool))
noncomputable abbrev E : Env := { T := assoc Tab, G := conG [(161, laws_eqIntS.con)], nt := 16 }
set_option maxRecDepth 100000
theorem run_eq (n : Nat) (ls : List L) : runF E (fun _ => []) Try.f211 res n (initS pats ls) = F (RKeys.dec ls) (RKeys.dec (dropT 2 ls)) := by kernel_rfl
noncomputable def md (a0 : MKeys) (a1 : MKeys) : Bool := eqB a0 a1
def gd (a0 : MKeys) (a1 : MKeys) : Prop := True
def acc (ls : List L) : RKeys × RKeys := ((RKeys.dec ls), (RKeys.dec (dropT 2 ls)))
noncomputable def R : (RKeys × RKeys) → Option Bool := RR (p2 gd) (u2 md)
theorem R_eq {a0} {a1} (h : gd a0 a1) : R ((MKeys.r a0), (MKeys.r a1)) = some (md a0 a1) := RR_eq (a := (a0, a1)) h
noncomputable def con : Con := CN pats res acc R
theorem okF (a0 : MKeys) (a1 : MKeys) (hg : gd a0 a1) : F (MKeys.r a0) (MKeys.r a1) = ret ((md a0 a1) : Bool) := by
  unfold md
  show (call (laws_eqIntS.R ((a0.fList.map iRow), (a1.fList.map iRow))) fun v1 => (bif (!v1) then ret (false : Bool) else (bif (a0.fNeed != a1.fNeed) then ret (false : Bool) else ret (true : Bool)))) = _
  simp only [call_eq (laws_eqIntS.R_eq (a0 := a0.fList) (a1 := a1.fList) trivial), laws_eqIntS.md]
  try simp only [bne, int_beq, bool_beq, ba_beq]
  have e : eqB a0 a1 = (eqB a0.fList a1.fList && (eqB a0.fNeed a1.fNeed && true)) := by
    cases a0; cases a1
    rw [Bool.eq_iff_iff]
    simp only [eqB_iff, Bool.and_eq_true, MKeys.mk.injEq, and_true]
  rw [e]
  refine and_step fun _ => ?_
  refine and_step fun _ => ?_
  rfl
theorem valid_ : Valid Try.prog Ev 211 con := VV (run := fun _ x => F x.1 x.2) mix tab_ok (.cons laws_eqIntS.valid_ .nil) Try.func211 (by kernel_rfl) run_eq (fun _ a _ _ hg => ⟨0, okF a.1 a.2 hg⟩)
end laws_eqKeys
/-! laws.eqHead -/
namespace laws_eqHead
noncomputable def F (x0 : RHead) (x1 : RHead) : Ans := (bif (x0.fZone != x1.fZone) then ret (false : Bool) else (bif (x0.fEpoch != x1.fEpoch) then ret (false : Bool) else (bif (x0.fKind != x1.fKind) then ret (false : Bool) else (bif (x0.fTime != x1.fTime) then ret (false : Bool) else (bif (x0.fUntil != x1.fUntil) then ret (false : Bool) else (bif (x0.fCount != x1.fCount) then ret (false : Bool) else (bif (x0.fRoot != x1.fRoot) then ret (false : Bool) else (bif (x0.fPrev != x1.fPrev) then ret (false : Bool) else (call (laws_eqKeys.R (x0.fKeys, x1.fKeys)) fun v1 => (bif (!v1) then ret (false : Bool) else (call (laws_eqKeys.R (x0.fHeirs, x1.fHeirs)) fun v2 => (bif (!v2) then ret (false : Bool) else (bif (x0.fWait != x1.fWait) then ret (false : Bool) else (call (laws_eqKeys.R (x0.fJudge, x1.fJudge)) fun v3 => (bif (!v3) then ret (false : Bool) else (bif (!(x0.fFrozen == x1.fFrozen)) then ret (false : Bool) else ret (true : Bool)))))))))))))))))
def pats : List Pat := [.agg [.int .i64, .int .i64, .int .i64, .int .i64, .int .i64, .int .i64, .int .i64, .int .i64, .sl 3, .int .i64, .sl 3, .int .i64, .int .i64, .sl 3, .int .i64, .bool], .agg [.int .i64, .int .i64, .int .i64, .int .i64, .int .i64, .int .i64, .int .i64, .int .i64, .sl 3, .int .i64, .sl 3, .int .i64, .int .i64, .sl 3, .int .i64, .bool]]
def res : RP := .one (.rd (.bool))
noncomputable abbrev E : Env := { T := assoc Tab, G := conG [(211, laws_eqKeys.con)], nt := 73 }
set_option maxRecDepth 100000
theorem run_eq (n : Nat) (ls : List L) : runF E (fun _ => []) Try.f199 res n (initS pats ls) = F (RHead.dec ls) (RHead.dec (dropT 16 ls)) := by kernel_rfl
noncomputable def md (a0 : MHead) (a1 : MHead) : Bool := eqB a0 a1
def gd (a0 : MHead) (a1 : MHead) : Prop := True
def acc (ls : List L) : RHead × RHead := ((RHead.dec ls), (RHead.dec (dropT 16 ls)))
noncomputable def R : (RHead × RHead) → Option Bool := RR (p2 gd) (u2 md)
theorem R_eq {a0} {a1} (h : gd a0 a1) : R ((MHead.r a0), (MHead.r a1)) = some (md a0 a1) := RR_eq (a := (a0, a1)) h
noncomputable def con : Con := CN pats res acc R
theorem okF (a0 : MHead) (a1 : MHead) (hg : gd a0 a1) : F (MHead.r a0) (MHead.r a1) = ret ((md a0 a1) : Bool) := by
  unfold md
  show (bif (a0.fZone != a1.fZone) then ret (false : Bool) else (bif (a0.fEpoch != a1.fEpoch) then ret (false : Bool) else (bif (a0.fKind != a1.fKind) then ret (false : Bool) else (bif (a0.fTime != a1.fTime) then ret (false : Bool) else (bif (a0.fUntil != a1.fUntil) then ret (false : Bool) else (bif (a0.fCount != a1.fCount) then ret (false : Bool) else (bif (a0.fRoot != a1.fRoot) then ret (false : Bool) else (bif (a0.fPrev != a1.fPrev) then ret (false : Bool) else (call (laws_eqKeys.R ((MKeys.r a0.fKeys), (MKeys.r a1.fKeys))) fun v1 => (bif (!v1) then ret (false : Bool) else (call (laws_eqKeys.R ((MKeys.r a0.fHeirs), (MKeys.r a1.fHeirs))) fun v2 => (bif (!v2) then ret (false : Bool) else (bif (a0.fWait != a1.fWait) then ret (false : Bool) else (call (laws_eqKeys.R ((MKeys.r a0.fJudge), (MKeys.r a1.fJudge))) fun v3 => (bif (!v3) then ret (false : Bool) else (bif (!(a0.fFrozen == a1.fFrozen)) then ret (false : Bool) else ret (true : Bool))))))))))))))))) = _
  simp only [call_eq (laws_eqKeys.R_eq (a0 := a0.fKeys) (a1 := a1.fKeys) trivial), laws_eqKeys.md]
  simp only [call_eq (laws_eqKeys.R_eq (a0 := a0.fHeirs) (a1 := a1.fHeirs) trivial), laws_eqKeys.md]
  simp only [call_eq (laws_eqKeys.R_eq (a0 := a0.fJudge) (a1 := a1.fJudge) trivial), laws_eqKeys.md]
  try simp only [bne, int_beq, bool_beq, ba_beq]
  have e : eqB a0 a1 = (eqB a0.fZone a1.fZone && (eqB a0.fEpoch a1.fEpoch && (eqB a0.fKind a1.fKind && (eqB a0.fTime a1.fTime && (eqB a0.fUntil a1.fUntil && (eqB a0.fCount a1.fCount && (eqB a0.fRoot a1.fRoot && (eqB a0.fPrev a1.fPrev && (eqB a0.fKeys a1.fKeys && (eqB a0.fHeirs a1.fHeirs && (eqB a0.fWait a1.fWait && (eqB a0.fJudge a1.fJudge && (eqB a0.fFrozen a1.fFrozen && true))))))))))))) := by
    cases a0; cases a1
    rw [Bool.eq_iff_iff]
    simp only [eqB_iff, Bool.and_eq_true, MHead.mk.injEq, and_true]
  rw [e]
  refine and_step fun _ => ?_
  refine and_step fun _ => ?_
  refine and_step fun _ => ?_
  refine and_step fun _ => ?_
  refine and_step fun _ => ?_
  refine and_step fun _ => ?_
  refine and_step fun _ => ?_
  refine and_step fun _ => ?_
  refine and_step fun _ => ?_
  refine and_step fun _ => ?_
  refine and_step fun _ => ?_
  refine and_step fun _ => ?_
  refine and_step fun _ => ?_
  rfl
theorem valid_ : Valid Try.prog Ev 199 con := VV (run := fun _ x => F x.1 x.2) mix tab_ok (.cons laws_eqKeys.valid_ .nil) Try.func199 (by kernel_rfl) run_eq (fun _ a _ _ hg => ⟨0, okF a.1 a.2 hg⟩)
end laws_eqHead
/-! laws.eqSig -/
namespace laws_eqSig
noncomputable def F (x0 : MSig) (x1 : MSig) : Ans := (bif (x0.fKey != x1.fKey) then ret (false : Bool) else (bif (x0.fTag != x1.fTag) then ret (false : Bool) else ret (true : Bool)))
def pats : List Pat := [.agg [.int .i64, .int .i64], .agg [.int .i64, .int .i64]]
def res : RP := .one (.rd (.bool))
noncomputable abbrev E : Env := { T := assoc Tab, G := conG [], nt := 15 }
set_option maxRecDepth 100000
theorem run_eq (n : Nat) (ls : List L) : runF E (fun _ => []) Try.f232 res n (initS pats ls) = F (MSig.dec ls) (MSig.dec (dropT 2 ls)) := by kernel_rfl
noncomputable def md (a0 : MSig) (a1 : MSig) : Bool := eqB a0 a1
def gd (a0 : MSig) (a1 : MSig) : Prop := True
def acc (ls : List L) : MSig × MSig := ((MSig.dec ls), (MSig.dec (dropT 2 ls)))
noncomputable def R : (MSig × MSig) → Option Bool := RR (p2 gd) (u2 md)
theorem R_eq {a0} {a1} (h : gd a0 a1) : R (a0, a1) = some (md a0 a1) := RR_eq (a := (a0, a1)) h
noncomputable def con : Con := CN pats res acc R
theorem okF (a0 : MSig) (a1 : MSig) (hg : gd a0 a1) : F a0 a1 = ret ((md a0 a1) : Bool) := by
  unfold md
  show (bif (a0.fKey != a1.fKey) then ret (false : Bool) else (bif (a0.fTag != a1.fTag) then ret (false : Bool) else ret (true : Bool))) = _
  try simp only [bne, int_beq, bool_beq, ba_beq]
  have e : eqB a0 a1 = (eqB a0.fKey a1.fKey && (eqB a0.fTag a1.fTag && true)) := by
    cases a0; cases a1
    rw [Bool.eq_iff_iff]
    simp only [eqB_iff, Bool.and_eq_true, MSig.mk.injEq, and_true]
  rw [e]
  refine and_step fun _ => ?_
  refine and_step fun _ => ?_
  rfl
theorem valid_ : Valid Try.prog Ev 232 con := VV (run := fun _ x => F x.1 x.2) mix tab_ok .nil Try.func232 (by kernel_rfl) run_eq (fun _ a _ _ hg => ⟨0, okF a.1 a.2 hg⟩)
end laws_eqSig
/-! laws.eqSigS -/
namespace laws_eqSigS
inductive Pt where
  | p0 (a : List (List L)) (b : List (List L)) (c : Int)
def pid : Pt → Nat
  | .p0 .. => 4
def pvs : Pt → List V
  | .p0 a b c => [.sl none 248 a, .sl none 248 b, .int .i64 c]
def phs : Pt → List Root
  | .p0 a b c => []
noncomputable def step (J : Pt → Ans) : Pt → Ans
  | .p0 a b c => (bif (decide (c < (a.length : Int))) then (bif (decide ((0 : Int) ≤ c)) then (bif (decide (c < (a.length : Int))) then (bif (decide ((0 : Int) ≤ c)) then (bif (decide (c < (b.length : Int))) then (call (laws_eqSig.R ((MSig.at a (Int.toNat c)), (MSig.at b (Int.toNat c)))) fun v1 => (bif (!v1) then ret (false : Bool) else J (.p0 a b (IntKind.i64.wrap (c + 1))))) else none) else none) else none) else none) else ret (true : Bool))
noncomputable def start (J : Pt → Ans) (x0 : List (List L)) (x1 : List (List L)) : Ans := (bif ((x0.length : Int) != (x1.length : Int)) then ret (false : Bool) else J (.p0 x0 x1 0))
def live : Nat → Live := fun i => match i with | 4 => [(0, none), (1, none), (5, none)] | _ => []
def pats : List Pat := [.rd (.sl 248), .rd (.sl 248)]
def res : RP := .one (.rd (.bool))
noncomputable abbrev E : Env := { T := assoc Tab, G := conG [(232, laws_eqSig.con)], nt := 27 }
set_option maxRecDepth 100000
theorem step_eq (I : Heads) (p : Pt) : enterC E live I (pid p) (bodyOf Try.f200) (stOf (live (pid p)) (pvs p) (phs p)) (doneK E Try.f200 res) = step (fun q => I (pid q) (pvs q) (phs q)) p := by
  cases p <;> kernel_rfl
theorem start_eq (I : Heads) (ls : List L) : runC E live I (bodyOf Try.f200) (initS pats ls) (doneK E Try.f200 res) = start (fun q => I (pid q) (pvs q) (phs q)) (ls.headD .hole).toSl ((dropT 1 ls).headD .hole).toSl := by kernel_rfl
theorem run_eq (n : Nat) (ls : List L) : runF E live Try.f200 res n (initS pats ls) = start (iter step n) (ls.headD .hole).toSl ((dropT 1 ls).headD .hole).toSl := runF_iter (id := pid) (vs := pvs) (hs := phs) (step := step) (start := fun J => start J (ls.headD .hole).toSl ((dropT 1 ls).headD .hole).toSl) step_eq (fun I => start_eq I ls) n
noncomputable def md (a0 : List MSig) (a1 : List MSig) : Bool := eqB a0 a1
def gd (a0 : List MSig) (a1 : List MSig) : Prop := True
def acc (ls : List L) : List (List L) × List (List L) := ((ls.headD .hole).toSl, ((dropT 1 ls).headD .hole).toSl)
noncomputable def R : (List (List L) × List (List L)) → Option Bool := RR (p2 gd) (u2 md)
theorem R_eq {a0} {a1} (h : gd a0 a1) : R ((a0.map MSig.row), (a1.map MSig.row)) = some (md a0 a1) := RR_eq (a := (a0, a1)) h
noncomputable def con : Con := CN pats res acc R
theorem okF (a0 : List MSig) (a1 : List MSig) (hg : gd a0 a1) (h0 : a0.length ≤ maxLen) (h1 : a1.length ≤ maxLen) : ∃ n, start (iter step n) (a0.map MSig.row) (a1.map MSig.row) = ret ((md a0 a1) : Bool) := by
  unfold start md
  simp only [List.length_map]
  refine eq_list (pt := fun i => Pt.p0 (a0.map MSig.row) (a1.map MSig.row) (i : Int)) (fun hl J i h h2 => ?_) (fun J => ?_)
  · simp only [step, List.length_map, lt_dec h, lt_dec h2, zle_dec, cond_true, toNat_nat, MSig.at_row h, MSig.at_row h2]
    rw [wrap_succ h h0]
    rw [call_eq (laws_eqSig.R_eq (a0 := a0[i]) (a1 := a1[i]) trivial), laws_eqSig.md]
    cases eqB a0[i] a1[i] <;> rfl
  · simp only [step, List.length_map, nlt_dec, cond_false]
theorem valid_ : Valid Try.prog Ev 200 con := VV (run := fun n x => start (iter step n) x.1 x.2) mix tab_ok (.cons laws_eqSig.valid_ .nil) Try.func200 (by kernel_rfl) run_eq (fun ls a hl e hg => okF a.1 a.2 hg (by have h : (ls.headD .hole).toSl.length ≤ maxLen := hl.1.len; have e : a.1.map MSig.row = (ls.headD .hole).toSl := (congrArg (fun x => x.1) e.symm); rw [← e] at h; simpa using h) (by have h : ((dropT 1 ls).headD .hole).toSl.length ≤ maxLen := hl.2.1.len; have e : a.2.map MSig.row = ((dropT 1 ls).headD .hole).toSl := (congrArg (fun x => x.2) e.symm); rw [← e] at h; simpa using h))
end laws_eqSigS
/-! laws.eqSigned -/
namespace laws_eqSigned
noncomputable def F (x0 : RSigned) (x1 : RSigned) : Ans := (call (laws_eqHead.R (x0.fHead, x1.fHead)) fun v1 => (bif (!v1) then ret (false : Bool) else (call (laws_eqSigS.R (x0.fSigs, x1.fSigs)) fun v2 => (bif (!v2) then ret (false : Bool) else ret (true : Bool)))))
def pats : List Pat := [.agg [.int .i64, .int .i64, .int .i64, .int .i64, .int .i64, .int .i64, .int .i64, .int .i64, .sl 3, .int .i64, .sl 3, .int .i64, .int .i64, .sl 3, .int .i64, .bool, .sl 248], .agg [.int .i64, .int .i64, .int .i64, .int .i64, .int .i64, .int .i64, .int .i64, .int .i64, .sl 3, .int .i64, .sl 3, .int .i64, .int .i64, .sl 3, .int .i64, .bool, .sl 248]]
def res : RP := .one (.rd (.bool))
noncomputable abbrev E : Env := { T := assoc Tab, G := conG [(199, laws_eqHead.con), (200, laws_eqSigS.con)], nt := 17 }
set_option maxRecDepth 100000
theorem run_eq (n : Nat) (ls : List L) : runF E (fun _ => []) Try.f137 res n (initS pats ls) = F (RSigned.dec ls) (RSigned.dec (dropT 17 ls)) := by kernel_rfl
noncomputable def md (a0 : MSigned) (a1 : MSigned) : Bool := eqB a0 a1
def gd (a0 : MSigned) (a1 : MSigned) : Prop := True
def acc (ls : List L) : RSigned × RSigned := ((RSigned.dec ls), (RSigned.dec (dropT 17 ls)))
noncomputable def R : (RSigned × RSigned) → Option Bool := RR (p2 gd) (u2 md)
theorem R_eq {a0} {a1} (h : gd a0 a1) : R ((MSigned.r a0), (MSigned.r a1)) = some (md a0 a1) := RR_eq (a := (a0, a1)) h
noncomputable def con : Con := CN pats res acc R
theorem okF (a0 : MSigned) (a1 : MSigned) (hg : gd a0 a1) : F (MSigned.r a0) (MSigned.r a1) = ret ((md a0 a1) : Bool) := by
  unfold md
  show (call (laws_eqHead.R ((MHead.r a0.fHead), (MHead.r a1.fHead))) fun v1 => (bif (!v1) then ret (false : Bool) else (call (laws_eqSigS.R ((a0.fSigs.map MSig.row), (a1.fSigs.map MSig.row))) fun v2 => (bif (!v2) then ret (false : Bool) else ret (true : Bool))))) = _
  simp only [call_eq (laws_eqHead.R_eq (a0 := a0.fHead) (a1 := a1.fHead) trivial), laws_eqHead.md]
  simp only [call_eq (laws_eqSigS.R_eq (a0 := a0.fSigs) (a1 := a1.fSigs) trivial), laws_eqSigS.md]
  try simp only [bne, int_beq, bool_beq, ba_beq]
  have e : eqB a0 a1 = (eqB a0.fHead a1.fHead && (eqB a0.fSigs a1.fSigs && true)) := by
    cases a0; cases a1
    rw [Bool.eq_iff_iff]
    simp only [eqB_iff, Bool.and_eq_true, MSigned.mk.injEq, and_true]
  rw [e]
  refine and_step fun _ => ?_
  refine and_step fun _ => ?_
  rfl
theorem valid_ : Valid Try.prog Ev 137 con := VV (run := fun _ x => F x.1 x.2) mix tab_ok (.cons laws_eqHead.valid_ (.cons laws_eqSigS.valid_ .nil)) Try.func137 (by kernel_rfl) run_eq (fun _ a _ _ hg => ⟨0, okF a.1 a.2 hg⟩)
end laws_eqSigned
/-! laws.eqSignedS -/
namespace laws_eqSignedS
inductive Pt where
  | p0 (a : List (List L)) (b : List (List L)) (c : Int)
def pid : Pt → Nat
  | .p0 .. => 4
def pvs : Pt → List V
  | .p0 a b c => [.sl none 184 a, .sl none 184 b, .int .i64 c]
def phs : Pt → List Root
  | .p0 a b c => []
noncomputable def step (J : Pt → Ans) : Pt → Ans
  | .p0 a b c => (bif (decide (c < (a.length : Int))) then (bif (decide ((0 : Int) ≤ c)) then (bif (decide (c < (a.length : Int))) then (bif (decide ((0 : Int) ≤ c)) then (bif (decide (c < (b.length : Int))) then (call (laws_eqSigned.R ((RSigned.at a (Int.toNat c)), (RSigned.at b (Int.toNat c)))) fun v1 => (bif (!v1) then ret (false : Bool) else J (.p0 a b (IntKind.i64.wrap (c + 1))))) else none) else none) else none) else none) else ret (true : Bool))
noncomputable def start (J : Pt → Ans) (x0 : List (List L)) (x1 : List (List L)) : Ans := (bif ((x0.length : Int) != (x1.length : Int)) then ret (false : Bool) else J (.p0 x0 x1 0))
def live : Nat → Live := fun i => match i with | 4 => [(0, none), (1, none), (5, none)] | _ => []
def pats : List Pat := [.rd (.sl 184), .rd (.sl 184)]
def res : RP := .one (.rd (.bool))
noncomputable abbrev E : Env := { T := assoc Tab, G := conG [(137, laws_eqSigned.con)], nt := 27 }
set_option maxRecDepth 100000
theorem step_eq (I : Heads) (p : Pt) : enterC E live I (pid p) (bodyOf Try.f56) (stOf (live (pid p)) (pvs p) (phs p)) (doneK E Try.f56 res) = step (fun q => I (pid q) (pvs q) (phs q)) p := by
  cases p <;> kernel_rfl
theorem start_eq (I : Heads) (ls : List L) : runC E live I (bodyOf Try.f56) (initS pats ls) (doneK E Try.f56 res) = start (fun q => I (pid q) (pvs q) (phs q)) (ls.headD .hole).toSl ((dropT 1 ls).headD .hole).toSl := by kernel_rfl
theorem run_eq (n : Nat) (ls : List L) : runF E live Try.f56 res n (initS pats ls) = start (iter step n) (ls.headD .hole).toSl ((dropT 1 ls).headD .hole).toSl := runF_iter (id := pid) (vs := pvs) (hs := phs) (step := step) (start := fun J => start J (ls.headD .hole).toSl ((dropT 1 ls).headD .hole).toSl) step_eq (fun I => start_eq I ls) n
noncomputable def md (a0 : List MSigned) (a1 : List MSigned) : Bool := eqB a0 a1
def gd (a0 : List MSigned) (a1 : List MSigned) : Prop := True
def acc (ls : List L) : List (List L) × List (List L) := ((ls.headD .hole).toSl, ((dropT 1 ls).headD .hole).toSl)
noncomputable def R : (List (List L) × List (List L)) → Option Bool := RR (p2 gd) (u2 md)
theorem R_eq {a0} {a1} (h : gd a0 a1) : R ((a0.map MSigned.row), (a1.map MSigned.row)) = some (md a0 a1) := RR_eq (a := (a0, a1)) h
noncomputable def con : Con := CN pats res acc R
theorem okF (a0 : List MSigned) (a1 : List MSigned) (hg : gd a0 a1) (h0 : a0.length ≤ maxLen) (h1 : a1.length ≤ maxLen) : ∃ n, start (iter step n) (a0.map MSigned.row) (a1.map MSigned.row) = ret ((md a0 a1) : Bool) := by
  unfold start md
  simp only [List.length_map]
  refine eq_list (pt := fun i => Pt.p0 (a0.map MSigned.row) (a1.map MSigned.row) (i : Int)) (fun hl J i h h2 => ?_) (fun J => ?_)
  · simp only [step, List.length_map, lt_dec h, lt_dec h2, zle_dec, cond_true, toNat_nat, MSigned.at_row h, MSigned.at_row h2]
    rw [wrap_succ h h0]
    rw [call_eq (laws_eqSigned.R_eq (a0 := a0[i]) (a1 := a1[i]) trivial), laws_eqSigned.md]
    cases eqB a0[i] a1[i] <;> rfl
  · simp only [step, List.length_map, nlt_dec, cond_false]
theorem valid_ : Valid Try.prog Ev 56 con := VV (run := fun n x => start (iter step n) x.1 x.2) mix tab_ok (.cons laws_eqSigned.valid_ .nil) Try.func56 (by kernel_rfl) run_eq (fun ls a hl e hg => okF a.1 a.2 hg (by have h : (ls.headD .hole).toSl.length ≤ maxLen := hl.1.len; have e : a.1.map MSigned.row = (ls.headD .hole).toSl := (congrArg (fun x => x.1) e.symm); rw [← e] at h; simpa using h) (by have h : ((dropT 1 ls).headD .hole).toSl.length ≤ maxLen := hl.2.1.len; have e : a.2.map MSigned.row = ((dropT 1 ls).headD .hole).toSl := (congrArg (fun x => x.2) e.symm); rw [← e] at h; simpa using h))
end laws_eqSignedS
/-! laws.eqSignedSS -/
namespace laws_eqSignedSS
inductive Pt where
  | p0 (a : List (List L)) (b : List (List L)) (c : Int)
def pid : Pt → Nat
  | .p0 .. => 4
def pvs : Pt → List V
  | .p0 a b c => [.sl none 79 a, .sl none 79 b, .int .i64 c]
def phs : Pt → List Root
  | .p0 a b c => []
noncomputable def step (J : Pt → Ans) : Pt → Ans
  | .p0 a b c => (bif (decide (c < (a.length : Int))) then (bif (decide ((0 : Int) ≤ c)) then (bif (decide (c < (a.length : Int))) then (bif (decide ((0 : Int) ≤ c)) then (bif (decide (c < (b.length : Int))) then (call (laws_eqSignedS.R ((lAt a (Int.toNat c)), (lAt b (Int.toNat c)))) fun v1 => (bif (!v1) then ret (false : Bool) else J (.p0 a b (IntKind.i64.wrap (c + 1))))) else none) else none) else none) else none) else ret (true : Bool))
noncomputable def start (J : Pt → Ans) (x0 : List (List L)) (x1 : List (List L)) : Ans := (bif ((x0.length : Int) != (x1.length : Int)) then ret (false : Bool) else J (.p0 x0 x1 0))
def live : Nat → Live := fun i => match i with | 4 => [(0, none), (1, none), (5, none)] | _ => []
def pats : List Pat := [.rd (.sl 79), .rd (.sl 79)]
def res : RP := .one (.rd (.bool))
noncomputable abbrev E : Env := { T := assoc Tab, G := conG [(56, laws_eqSignedS.con)], nt := 27 }
set_option maxRecDepth 100000
theorem step_eq (I : Heads) (p : Pt) : enterC E live I (pid p) (bodyOf Try.f138) (stOf (live (pid p)) (pvs p) (phs p)) (doneK E Try.f138 res) = step (fun q => I (pid q) (pvs q) (phs q)) p := by
  cases p <;> kernel_rfl
theorem start_eq (I : Heads) (ls : List L) : runC E live I (bodyOf Try.f138) (initS pats ls) (doneK E Try.f138 res) = start (fun q => I (pid q) (pvs q) (phs q)) (ls.headD .hole).toSl ((dropT 1 ls).headD .hole).toSl := by kernel_rfl
theorem run_eq (n : Nat) (ls : List L) : runF E live Try.f138 res n (initS pats ls) = start (iter step n) (ls.headD .hole).toSl ((dropT 1 ls).headD .hole).toSl := runF_iter (id := pid) (vs := pvs) (hs := phs) (step := step) (start := fun J => start J (ls.headD .hole).toSl ((dropT 1 ls).headD .hole).toSl) step_eq (fun I => start_eq I ls) n
noncomputable def md (a0 : List (List MSigned)) (a1 : List (List MSigned)) : Bool := eqB a0 a1
def gd (a0 : List (List MSigned)) (a1 : List (List MSigned)) : Prop := True
def acc (ls : List L) : List (List L) × List (List L) := ((ls.headD .hole).toSl, ((dropT 1 ls).headD .hole).toSl)
noncomputable def R : (List (List L) × List (List L)) → Option Bool := RR (p2 gd) (u2 md)
theorem R_eq {a0} {a1} (h : gd a0 a1) : R ((a0.map (lRow MSigned.row)), (a1.map (lRow MSigned.row))) = some (md a0 a1) := RR_eq (a := (a0, a1)) h
noncomputable def con : Con := CN pats res acc R
theorem okF (a0 : List (List MSigned)) (a1 : List (List MSigned)) (hg : gd a0 a1) (h0 : a0.length ≤ maxLen) (h1 : a1.length ≤ maxLen) : ∃ n, start (iter step n) (a0.map (lRow MSigned.row)) (a1.map (lRow MSigned.row)) = ret ((md a0 a1) : Bool) := by
  unfold start md
  simp only [List.length_map]
  refine eq_list (pt := fun i => Pt.p0 (a0.map (lRow MSigned.row)) (a1.map (lRow MSigned.row)) (i : Int)) (fun hl J i h h2 => ?_) (fun J => ?_)
  · simp only [step, List.length_map, lt_dec h, lt_dec h2, zle_dec, cond_true, toNat_nat, lAt_row h, lAt_row h2]
    rw [wrap_succ h h0]
    rw [call_eq (laws_eqSignedS.R_eq (a0 := a0[i]) (a1 := a1[i]) trivial), laws_eqSignedS.md]
    cases eqB a0[i] a1[i] <;> rfl
  · simp only [step, List.length_map, nlt_dec, cond_false]
theorem valid_ : Valid Try.prog Ev 138 con := VV (run := fun n x => start (iter step n) x.1 x.2) mix tab_ok (.cons laws_eqSignedS.valid_ .nil) Try.func138 (by kernel_rfl) run_eq (fun ls a hl e hg => okF a.1 a.2 hg (by have h : (ls.headD .hole).toSl.length ≤ maxLen := hl.1.len; have e : a.1.map (lRow MSigned.row) = (ls.headD .hole).toSl := (congrArg (fun x => x.1) e.symm); rw [← e] at h; simpa using h) (by have h : ((dropT 1 ls).headD .hole).toSl.length ≤ maxLen := hl.2.1.len; have e : a.2.map (lRow MSigned.row) = ((dropT 1 ls).headD .hole).toSl := (congrArg (fun x => x.2) e.symm); rw [← e] at h; simpa using h))
end laws_eqSignedSS
/-! laws.eqFork -/
namespace laws_eqFork
noncomputable def F (x0 : RFork) (x1 : RFork) : Ans := (call (laws_eqSigned.R (x0.fBefore, x1.fBefore)) fun v1 => (bif (!v1) then ret (false : Bool) else (call (laws_eqSigned.R (x0.fA, x1.fA)) fun v2 => (bif (!v2) then ret (false : Bool) else (call (laws_eqSigned.R (x0.fB, x1.fB)) fun v3 => (bif (!v3) then ret (false : Bool) else ret (true : Bool)))))))
def pats : List Pat := [.agg [.int .i64, .int .i64, .int .i64, .int .i64, .int .i64, .int .i64, .int .i64, .int .i64, .sl 3, .int .i64, .sl 3, .int .i64, .int .i64, .sl 3, .int .i64, .bool, .sl 248, .int .i64, .int .i64, .int .i64, .int .i64, .int .i64, .int .i64, .int .i64, .int .i64, .sl 3, .int .i64, .sl 3, .int .i64, .int .i64, .sl 3, .int .i64, .bool, .sl 248, .int .i64, .int .i64, .int .i64, .int .i64, .int .i64, .int .i64, .int .i64, .int .i64, .sl 3, .int .i64, .sl 3, .int .i64, .int .i64, .sl 3, .int .i64, .bool, .sl 248], .agg [.int .i64, .int .i64, .int .i64, .int .i64, .int .i64, .int .i64, .int .i64, .int .i64, .sl 3, .int .i64, .sl 3, .int .i64, .int .i64, .sl 3, .int .i64, .bool, .sl 248, .int .i64, .int .i64, .int .i64, .int .i64, .int .i64, .int .i64, .int .i64, .int .i64, .sl 3, .int .i64, .sl 3, .int .i64, .int .i64, .sl 3, .int .i64, .bool, .sl 248, .int .i64, .int .i64, .int .i64, .int .i64, .int .i64, .int .i64, .int .i64, .int .i64, .sl 3, .int .i64, .sl 3, .int .i64, .int .i64, .sl 3, .int .i64, .bool, .sl 248]]
def res : RP := .one (.rd (.bool))
noncomputable abbrev E : Env := { T := assoc Tab, G := conG [(137, laws_eqSigned.con)], nt := 23 }
set_option maxRecDepth 100000
theorem run_eq (n : Nat) (ls : List L) : runF E (fun _ => []) Try.f201 res n (initS pats ls) = F (RFork.dec ls) (RFork.dec (dropT 51 ls)) := by kernel_rfl
noncomputable def md (a0 : MFork) (a1 : MFork) : Bool := eqB a0 a1
def gd (a0 : MFork) (a1 : MFork) : Prop := True
def acc (ls : List L) : RFork × RFork := ((RFork.dec ls), (RFork.dec (dropT 51 ls)))
noncomputable def R : (RFork × RFork) → Option Bool := RR (p2 gd) (u2 md)
theorem R_eq {a0} {a1} (h : gd a0 a1) : R ((MFork.r a0), (MFork.r a1)) = some (md a0 a1) := RR_eq (a := (a0, a1)) h
noncomputable def con : Con := CN pats res acc R
theorem okF (a0 : MFork) (a1 : MFork) (hg : gd a0 a1) : F (MFork.r a0) (MFork.r a1) = ret ((md a0 a1) : Bool) := by
  unfold md
  show (call (laws_eqSigned.R ((MSigned.r a0.fBefore), (MSigned.r a1.fBefore))) fun v1 => (bif (!v1) then ret (false : Bool) else (call (laws_eqSigned.R ((MSigned.r a0.fA), (MSigned.r a1.fA))) fun v2 => (bif (!v2) then ret (false : Bool) else (call (laws_eqSigned.R ((MSigned.r a0.fB), (MSigned.r a1.fB))) fun v3 => (bif (!v3) then ret (false : Bool) else ret (true : Bool))))))) = _
  simp only [call_eq (laws_eqSigned.R_eq (a0 := a0.fBefore) (a1 := a1.fBefore) trivial), laws_eqSigned.md]
  simp only [call_eq (laws_eqSigned.R_eq (a0 := a0.fA) (a1 := a1.fA) trivial), laws_eqSigned.md]
  simp only [call_eq (laws_eqSigned.R_eq (a0 := a0.fB) (a1 := a1.fB) trivial), laws_eqSigned.md]
  try simp only [bne, int_beq, bool_beq, ba_beq]
  have e : eqB a0 a1 = (eqB a0.fBefore a1.fBefore && (eqB a0.fA a1.fA && (eqB a0.fB a1.fB && true))) := by
    cases a0; cases a1
    rw [Bool.eq_iff_iff]
    simp only [eqB_iff, Bool.and_eq_true, MFork.mk.injEq, and_true]
  rw [e]
  refine and_step fun _ => ?_
  refine and_step fun _ => ?_
  refine and_step fun _ => ?_
  rfl
theorem valid_ : Valid Try.prog Ev 201 con := VV (run := fun _ x => F x.1 x.2) mix tab_ok (.cons laws_eqSigned.valid_ .nil) Try.func201 (by kernel_rfl) run_eq (fun _ a _ _ hg => ⟨0, okF a.1 a.2 hg⟩)
end laws_eqFork
/-! laws.eqForkS -/
namespace laws_eqForkS
inductive Pt where
  | p0 (a : List (List L)) (b : List (List L)) (c : Int)
def pid : Pt → Nat
  | .p0 .. => 4
def pvs : Pt → List V
  | .p0 a b c => [.sl none 241 a, .sl none 241 b, .int .i64 c]
def phs : Pt → List Root
  | .p0 a b c => []
noncomputable def step (J : Pt → Ans) : Pt → Ans
  | .p0 a b c => (bif (decide (c < (a.length : Int))) then (bif (decide ((0 : Int) ≤ c)) then (bif (decide (c < (a.length : Int))) then (bif (decide ((0 : Int) ≤ c)) then (bif (decide (c < (b.length : Int))) then (call (laws_eqFork.R ((RFork.at a (Int.toNat c)), (RFork.at b (Int.toNat c)))) fun v1 => (bif (!v1) then ret (false : Bool) else J (.p0 a b (IntKind.i64.wrap (c + 1))))) else none) else none) else none) else none) else ret (true : Bool))
noncomputable def start (J : Pt → Ans) (x0 : List (List L)) (x1 : List (List L)) : Ans := (bif ((x0.length : Int) != (x1.length : Int)) then ret (false : Bool) else J (.p0 x0 x1 0))
def live : Nat → Live := fun i => match i with | 4 => [(0, none), (1, none), (5, none)] | _ => []
def pats : List Pat := [.rd (.sl 241), .rd (.sl 241)]
def res : RP := .one (.rd (.bool))
noncomputable abbrev E : Env := { T := assoc Tab, G := conG [(201, laws_eqFork.con)], nt := 27 }
set_option maxRecDepth 100000
theorem step_eq (I : Heads) (p : Pt) : enterC E live I (pid p) (bodyOf Try.f139) (stOf (live (pid p)) (pvs p) (phs p)) (doneK E Try.f139 res) = step (fun q => I (pid q) (pvs q) (phs q)) p := by
  cases p <;> kernel_rfl
theorem start_eq (I : Heads) (ls : List L) : runC E live I (bodyOf Try.f139) (initS pats ls) (doneK E Try.f139 res) = start (fun q => I (pid q) (pvs q) (phs q)) (ls.headD .hole).toSl ((dropT 1 ls).headD .hole).toSl := by kernel_rfl
theorem run_eq (n : Nat) (ls : List L) : runF E live Try.f139 res n (initS pats ls) = start (iter step n) (ls.headD .hole).toSl ((dropT 1 ls).headD .hole).toSl := runF_iter (id := pid) (vs := pvs) (hs := phs) (step := step) (start := fun J => start J (ls.headD .hole).toSl ((dropT 1 ls).headD .hole).toSl) step_eq (fun I => start_eq I ls) n
noncomputable def md (a0 : List MFork) (a1 : List MFork) : Bool := eqB a0 a1
def gd (a0 : List MFork) (a1 : List MFork) : Prop := True
def acc (ls : List L) : List (List L) × List (List L) := ((ls.headD .hole).toSl, ((dropT 1 ls).headD .hole).toSl)
noncomputable def R : (List (List L) × List (List L)) → Option Bool := RR (p2 gd) (u2 md)
theorem R_eq {a0} {a1} (h : gd a0 a1) : R ((a0.map MFork.row), (a1.map MFork.row)) = some (md a0 a1) := RR_eq (a := (a0, a1)) h
noncomputable def con : Con := CN pats res acc R
theorem okF (a0 : List MFork) (a1 : List MFork) (hg : gd a0 a1) (h0 : a0.length ≤ maxLen) (h1 : a1.length ≤ maxLen) : ∃ n, start (iter step n) (a0.map MFork.row) (a1.map MFork.row) = ret ((md a0 a1) : Bool) := by
  unfold start md
  simp only [List.length_map]
  refine eq_list (pt := fun i => Pt.p0 (a0.map MFork.row) (a1.map MFork.row) (i : Int)) (fun hl J i h h2 => ?_) (fun J => ?_)
  · simp only [step, List.length_map, lt_dec h, lt_dec h2, zle_dec, cond_true, toNat_nat, MFork.at_row h, MFork.at_row h2]
    rw [wrap_succ h h0]
    rw [call_eq (laws_eqFork.R_eq (a0 := a0[i]) (a1 := a1[i]) trivial), laws_eqFork.md]
    cases eqB a0[i] a1[i] <;> rfl
  · simp only [step, List.length_map, nlt_dec, cond_false]
theorem valid_ : Valid Try.prog Ev 139 con := VV (run := fun n x => start (iter step n) x.1 x.2) mix tab_ok (.cons laws_eqFork.valid_ .nil) Try.func139 (by kernel_rfl) run_eq (fun ls a hl e hg => okF a.1 a.2 hg (by have h : (ls.headD .hole).toSl.length ≤ maxLen := hl.1.len; have e : a.1.map MFork.row = (ls.headD .hole).toSl := (congrArg (fun x => x.1) e.symm); rw [← e] at h; simpa using h) (by have h : ((dropT 1 ls).headD .hole).toSl.length ≤ maxLen := hl.2.1.len; have e : a.2.map MFork.row = ((dropT 1 ls).headD .hole).toSl := (congrArg (fun x => x.2) e.symm); rw [← e] at h; simpa using h))
end laws_eqForkS
/-! laws.eqKnown -/
namespace laws_eqKnown
noncomputable def F (x0 : RKnown) (x1 : RKnown) : Ans := (call (laws_eqSignedSS.R (x0.fChains, x1.fChains)) fun v1 => (bif (!v1) then ret (false : Bool) else (call (laws_eqForkS.R (x0.fForks, x1.fForks)) fun v2 => (bif (!v2) then ret (false : Bool) else ret (true : Bool)))))
def pats : List Pat := [.agg [.sl 79, .sl 241], .agg [.sl 79, .sl 241]]
def res : RP := .one (.rd (.bool))
noncomputable abbrev E : Env := { T := assoc Tab, G := conG [(138, laws_eqSignedSS.con), (139, laws_eqForkS.con)], nt := 17 }
set_option maxRecDepth 100000
theorem run_eq (n : Nat) (ls : List L) : runF E (fun _ => []) Try.f57 res n (initS pats ls) = F (RKnown.dec ls) (RKnown.dec (dropT 2 ls)) := by kernel_rfl
noncomputable def md (a0 : MKnown) (a1 : MKnown) : Bool := eqB a0 a1
def gd (a0 : MKnown) (a1 : MKnown) : Prop := True
def acc (ls : List L) : RKnown × RKnown := ((RKnown.dec ls), (RKnown.dec (dropT 2 ls)))
noncomputable def R : (RKnown × RKnown) → Option Bool := RR (p2 gd) (u2 md)
theorem R_eq {a0} {a1} (h : gd a0 a1) : R ((MKnown.r a0), (MKnown.r a1)) = some (md a0 a1) := RR_eq (a := (a0, a1)) h
noncomputable def con : Con := CN pats res acc R
theorem okF (a0 : MKnown) (a1 : MKnown) (hg : gd a0 a1) : F (MKnown.r a0) (MKnown.r a1) = ret ((md a0 a1) : Bool) := by
  unfold md
  show (call (laws_eqSignedSS.R ((a0.fChains.map (lRow MSigned.row)), (a1.fChains.map (lRow MSigned.row)))) fun v1 => (bif (!v1) then ret (false : Bool) else (call (laws_eqForkS.R ((a0.fForks.map MFork.row), (a1.fForks.map MFork.row))) fun v2 => (bif (!v2) then ret (false : Bool) else ret (true : Bool))))) = _
  simp only [call_eq (laws_eqSignedSS.R_eq (a0 := a0.fChains) (a1 := a1.fChains) trivial), laws_eqSignedSS.md]
  simp only [call_eq (laws_eqForkS.R_eq (a0 := a0.fForks) (a1 := a1.fForks) trivial), laws_eqForkS.md]
  try simp only [bne, int_beq, bool_beq, ba_beq]
  have e : eqB a0 a1 = (eqB a0.fChains a1.fChains && (eqB a0.fForks a1.fForks && true)) := by
    cases a0; cases a1
    rw [Bool.eq_iff_iff]
    simp only [eqB_iff, Bool.and_eq_true, MKnown.mk.injEq, and_true]
  rw [e]
  refine and_step fun _ => ?_
  refine and_step fun _ => ?_
  rfl
theorem valid_ : Valid Try.prog Ev 57 con := VV (run := fun _ x => F x.1 x.2) mix tab_ok (.cons laws_eqSignedSS.valid_ (.cons laws_eqForkS.valid_ .nil)) Try.func57 (by kernel_rfl) run_eq (fun _ a _ _ hg => ⟨0, okF a.1 a.2 hg⟩)
end laws_eqKnown
/-! laws.markIntS -/
namespace laws_markIntS
set_option maxRecDepth 100000
set_option maxHeartbeats 8000000
inductive Pt where
  | p0 (a : Int) (b : Int) (c : List (List L))
def pid : Pt → Nat
  | .p0 .. => 2
def pvs : Pt → List V
  | .p0 a b c => [.own 0, .int .i64 a, .int .i64 b]
def phs : Pt → List Root
  | .p0 a b c => [.row 3 c]
noncomputable def step (J : Pt → Ans) : Pt → Ans
  | .p0 a b c => (bif (decide (b < (c.length : Int))) then (bif (decide ((0 : Int) ≤ b)) then (bif (decide (b < (c.length : Int))) then J (.p0 (IntKind.i64.wrap (a + 1)) (IntKind.i64.wrap (b + 1)) (List.set c (Int.toNat b) [L.int a])) else none) else none) else ret ((a, c) : Int × List (List L)))
noncomputable def start (J : Pt → Ans) (x0 : List (List L)) (x1 : Int) : Ans := J (.p0 x1 0 x0)
def live : Nat → Live := fun i => match i with | 2 => [(0, none), (1, none), (5, none)] | _ => []
def pats : List (Bool × List K) := [(false, [.sl 3]), (false, [.int .i64])]
def res : RP := .chg [3]
noncomputable abbrev E : Env := { T := assoc Tab, G := conG [], nt := 19, M := conM [], np := 1, mt := true }
set_option maxRecDepth 100000
theorem step_eq (I : Heads) (p : Pt) : enterC E live I (pid p) (bodyOf Try.f142) (stOf (live (pid p)) (pvs p) (phs p)) (doneK E Try.f142 res) = step (fun q => I (pid q) (pvs q) (phs q)) p := by
  cases p <;> kernel_rfl
theorem start_eq (I : Heads) (ls : List L) : runC E live I (bodyOf Try.f142) (initM pats ls) (doneK E Try.f142 res) = start (fun q => I (pid q) (pvs q) (phs q)) (ls.headD .hole).toSl ((dropT 1 ls).headD .hole).toInt := by kernel_rfl
theorem run_eq (n : Nat) (ls : List L) : runF E live Try.f142 res n (initM pats ls) = start (iter step n) (ls.headD .hole).toSl ((dropT 1 ls).headD .hole).toInt := runF_iter (id := pid) (vs := pvs) (hs := phs) (step := step) (start := fun J => start J (ls.headD .hole).toSl ((dropT 1 ls).headD .hole).toInt) step_eq (fun I => start_eq I ls) n
noncomputable def el (x : Int) (k : Int) : Int × Int := ((IntKind.i64.wrap (k + 1)), (k))
theorem el_I (x : Int) (k : Int) (hk : I64 k) : I64 (el x k).1 := (wrap_I64 _)
noncomputable def cnt (x : Int) : Nat := 1
noncomputable def sum (a : List Int) : Nat := (a.map cnt).sum
noncomputable def md (a0 : List Int) (a1 : Int) : Int × List Int := accM el a0 a1
def gd (a0 : List Int) (a1 : Int) : Prop := I64 a1
def acc (ls : List L) : List (List L) × Int := ((ls.headD .hole).toSl, ((dropT 1 ls).headD .hole).toInt)
noncomputable def R : (List (List L) × Int) → Option (Int × List (List L)) := RR (p2 gd) (u2 md)
theorem R_eq {a0} {a1} (h : gd a0 a1) : R ((a0.map iRow), a1) = some ((md a0 a1).1, ((md a0 a1).2.map iRow)) := RR_eq (a := (a0, a1)) h
noncomputable def con : MCon := MN pats acc R
theorem okF (a0 : List Int) (a1 : Int) (hg : gd a0 a1) (h0 : a0.length ≤ maxLen) : ∃ n, start (iter step n) (a0.map iRow) a1 = ret (((md a0 a1).1, ((md a0 a1).2.map iRow)) : Int × List (List L)) := by
  unfold gd at hg
  show ∃ n, iter step n (Pt.p0 a1 0 (a0.map iRow)) = _
  unfold md
  refine mark_loop (el := el) (xs := a0) 0 I64 el_I (pt := fun i k c => Pt.p0 k (i : Int) (c.map iRow)) (out := fun b => ret (b.1, b.2.map iRow)) (fun J i k c hi hc hk => ?_) (fun J k c hc => ?_) hg
  · have hm : c.length ≤ maxLen := hc ▸ h0
    simp only [step, S0]
    refine yes_ret (lt_dec hi) ?_
    refine yes_ret zle_dec ?_
    refine yes_ret (lt_dec hi) ?_
    rw [wrap_succ hi hm]
    exact congrArg (fun q => J (Pt.p0 (el (c.getD i 0) k).1 ((i + 1 : Nat) : Int) q)) (List.map_set (f := iRow) (l := c) (i := i) (a := (el (c.getD i 0) k).2)).symm
  · simp only [step, S0]
    refine no_ret (by apply decide_eq_false; omega) ?_
    rfl
theorem valid_ : MValid Try.prog Ev 142 con := MV (run := fun n x => start (iter step n) x.1 x.2) mix tab_ok .nil .nil Try.func142 (by kernel_rfl) run_eq (fun ls a hl e hg => okF a.1 a.2 hg (by have h : (ls.headD .hole).toSl.length ≤ maxLen := (hl _ _ (.head _)).len; have e : a.1.map iRow = (ls.headD .hole).toSl := (congrArg (fun x => x.1) e.symm); rw [← e] at h; simpa using h))
theorem i64 {a0 : List Int} {a1 : Int} (h : I64 a1) : I64 (md a0 a1).1 := accM_I el_I h
theorem elk (x : Int) (k : Int) (h0 : 0 ≤ k) (hb : k + (cnt x : Int) ≤ 4611686018427387904) : (el x k).1 = k + cnt x := by
  simp only [cnt, Int.natCast_add] at hb ⊢
  simp (disch := omega) only [el, wi]
  all_goals first | done | omega
theorem kk (a0 : List Int) (a1 : Int) (h0 : 0 ≤ a1) (hb : a1 + (sum a0 : Int) ≤ 4611686018427387904) : (md a0 a1).1 = a1 + sum a0 := accM_sum elk a0 a1 h0 hb
theorem sz (a : List Int) : sum a ≤ 60 * (szL (fun y : Int => 0) a) := sum_le (fun x => by
    simp only [cnt]
    omega) a
end laws_markIntS
/-! laws.markSigS -/
namespace laws_markSigS
set_option maxRecDepth 100000
set_option maxHeartbeats 8000000
inductive Pt where
  | p0 (a : Int) (b : Int) (c : List (List L))
def pid : Pt → Nat
  | .p0 .. => 2
def pvs : Pt → List V
  | .p0 a b c => [.own 0, .int .i64 a, .int .i64 b]
def phs : Pt → List Root
  | .p0 a b c => [.row 248 c]
noncomputable def step (J : Pt → Ans) : Pt → Ans
  | .p0 a b c => (bif (decide (b < (c.length : Int))) then (bif (decide ((0 : Int) ≤ b)) then (bif (decide (b < (c.length : Int))) then (bif (decide ((0 : Int) ≤ b)) then (bif (decide (b < (c.length : Int))) then (bif (Nat.beq (Int.toNat b) (Int.toNat b) && true) then J (.p0 (IntKind.i64.wrap ((IntKind.i64.wrap (a + 1)) + 1)) (IntKind.i64.wrap (b + 1)) (List.set c (Int.toNat b) (MSig.enc (⟨a, (IntKind.i64.wrap (a + 1))⟩ : MSig)))) else none) else none) else none) else none) else none) else ret ((a, c) : Int × List (List L)))
noncomputable def start (J : Pt → Ans) (x0 : List (List L)) (x1 : Int) : Ans := J (.p0 x1 0 x0)
def live : Nat → Live := fun i => match i with | 2 => [(0, none), (1, none), (5, none)] | _ => []
def pats : List (Bool × List K) := [(false, [.sl 248]), (false, [.int .i64])]
def res : RP := .chg [248]
noncomputable abbrev E : Env := { T := assoc Tab, G := conG [], nt := 27, M := conM [], np := 1, mt := true }
set_option maxRecDepth 100000
theorem step_eq (I : Heads) (p : Pt) : enterC E live I (pid p) (bodyOf Try.f143) (stOf (live (pid p)) (pvs p) (phs p)) (doneK E Try.f143 res) = step (fun q => I (pid q) (pvs q) (phs q)) p := by
  cases p <;> kernel_rfl
theorem start_eq (I : Heads) (ls : List L) : runC E live I (bodyOf Try.f143) (initM pats ls) (doneK E Try.f143 res) = start (fun q => I (pid q) (pvs q) (phs q)) (ls.headD .hole).toSl ((dropT 1 ls).headD .hole).toInt := by kernel_rfl
theorem run_eq (n : Nat) (ls : List L) : runF E live Try.f143 res n (initM pats ls) = start (iter step n) (ls.headD .hole).toSl ((dropT 1 ls).headD .hole).toInt := runF_iter (id := pid) (vs := pvs) (hs := phs) (step := step) (start := fun J => start J (ls.headD .hole).toSl ((dropT 1 ls).headD .hole).toInt) step_eq (fun I => start_eq I ls) n
noncomputable def el (x : MSig) (k : Int) : Int × MSig := ((IntKind.i64.wrap ((IntKind.i64.wrap (k + 1)) + 1)), (⟨k, (IntKind.i64.wrap (k + 1))⟩ : MSig))
theorem el_I (x : MSig) (k : Int) (hk : I64 k) : I64 (el x k).1 := (wrap_I64 _)
noncomputable def cnt (x : MSig) : Nat := 2
noncomputable def sum (a : List MSig) : Nat := (a.map cnt).sum
noncomputable def md (a0 : List MSig) (a1 : Int) : Int × List MSig := accM el a0 a1
def gd (a0 : List MSig) (a1 : Int) : Prop := I64 a1
def acc (ls : List L) : List (List L) × Int := ((ls.headD .hole).toSl, ((dropT 1 ls).headD .hole).toInt)
noncomputable def R : (List (List L) × Int) → Option (Int × List (List L)) := RR (p2 gd) (u2 md)
theorem R_eq {a0} {a1} (h : gd a0 a1) : R ((a0.map MSig.row), a1) = some ((md a0 a1).1, ((md a0 a1).2.map MSig.row)) := RR_eq (a := (a0, a1)) h
noncomputable def con : MCon := MN pats acc R
theorem okF (a0 : List MSig) (a1 : Int) (hg : gd a0 a1) (h0 : a0.length ≤ maxLen) : ∃ n, start (iter step n) (a0.map MSig.row) a1 = ret (((md a0 a1).1, ((md a0 a1).2.map MSig.row)) : Int × List (List L)) := by
  unfold gd at hg
  show ∃ n, iter step n (Pt.p0 a1 0 (a0.map MSig.row)) = _
  unfold md
  refine mark_loop (el := el) (xs := a0) MSig.zero I64 el_I (pt := fun i k c => Pt.p0 k (i : Int) (c.map MSig.row)) (out := fun b => ret (b.1, b.2.map MSig.row)) (fun J i k c hi hc hk => ?_) (fun J k c hc => ?_) hg
  · have hm : c.length ≤ maxLen := hc ▸ h0
    simp only [step, S0]
    refine yes_ret (lt_dec hi) ?_
    refine yes_ret zle_dec ?_
    refine yes_ret (lt_dec hi) ?_
    refine yes_ret zle_dec ?_
    refine yes_ret (lt_dec hi) ?_
    refine yes_ret (beq_t _) ?_
    rw [wrap_succ hi hm]
    exact congrArg (fun q => J (Pt.p0 (el (c.getD i MSig.zero) k).1 ((i + 1 : Nat) : Int) q)) (List.map_set (f := MSig.row) (l := c) (i := i) (a := (el (c.getD i MSig.zero) k).2)).symm
  · simp only [step, S0]
    refine no_ret (by apply decide_eq_false; omega) ?_
    rfl
theorem valid_ : MValid Try.prog Ev 143 con := MV (run := fun n x => start (iter step n) x.1 x.2) mix tab_ok .nil .nil Try.func143 (by kernel_rfl) run_eq (fun ls a hl e hg => okF a.1 a.2 hg (by have h : (ls.headD .hole).toSl.length ≤ maxLen := (hl _ _ (.head _)).len; have e : a.1.map MSig.row = (ls.headD .hole).toSl := (congrArg (fun x => x.1) e.symm); rw [← e] at h; simpa using h))
theorem i64 {a0 : List MSig} {a1 : Int} (h : I64 a1) : I64 (md a0 a1).1 := accM_I el_I h
theorem elk (x : MSig) (k : Int) (h0 : 0 ≤ k) (hb : k + (cnt x : Int) ≤ 4611686018427387904) : (el x k).1 = k + cnt x := by
  simp only [cnt, Int.natCast_add] at hb ⊢
  simp (disch := omega) only [el, wi]
  all_goals first | done | omega
theorem kk (a0 : List MSig) (a1 : Int) (h0 : 0 ≤ a1) (hb : a1 + (sum a0 : Int) ≤ 4611686018427387904) : (md a0 a1).1 = a1 + sum a0 := accM_sum elk a0 a1 h0 hb
theorem sz (a : List MSig) : sum a ≤ 60 * (szL (fun y : MSig => MSig.size y) a) := sum_le (fun x => by
    simp only [cnt, MSig.size]
    omega) a
end laws_markSigS
/-! laws.markSignedS -/
namespace laws_markSignedS
set_option maxRecDepth 100000
set_option maxHeartbeats 8000000
inductive Pt where
  | p0 (a : Int) (b : Int) (c : List (List L))
def pid : Pt → Nat
  | .p0 .. => 2
def pvs : Pt → List V
  | .p0 a b c => [.own 0, .int .i64 a, .int .i64 b]
def phs : Pt → List Root
  | .p0 a b c => [.row 184 c]
noncomputable def step (J : Pt → Ans) : Pt → Ans
  | .p0 a b c => (bif (decide (b < (c.length : Int))) then (bif (decide ((0 : Int) ≤ b)) then (bif (decide (b < (c.length : Int))) then (bif (decide ((0 : Int) ≤ b)) then (bif (decide (b < (c.length : Int))) then (bif (Nat.beq (Int.toNat b) (Int.toNat b) && true) then (bif (decide ((0 : Int) ≤ b)) then (bif (decide (b < (c.length : Int))) then (bif (Nat.beq (Int.toNat b) (Int.toNat b) && true) then (bif (decide ((0 : Int) ≤ b)) then (bif (decide (b < (c.length : Int))) then (bif (Nat.beq (Int.toNat b) (Int.toNat b) && true) then (bif (decide ((0 : Int) ≤ b)) then (bif (decide (b < (c.length : Int))) then (bif (Nat.beq (Int.toNat b) (Int.toNat b) && true) then (bif (decide ((0 : Int) ≤ b)) then (bif (decide (b < (c.length : Int))) then (bif (Nat.beq (Int.toNat b) (Int.toNat b) && true) then (bif (decide ((0 : Int) ≤ b)) then (bif (decide (b < (c.length : Int))) then (bif (Nat.beq (Int.toNat b) (Int.toNat b) && true) then (bif (decide ((0 : Int) ≤ b)) then (bif (decide (b < (c.length : Int))) then (bif (Nat.beq (Int.toNat b) (Int.toNat b) && true) then (bif (decide ((0 : Int) ≤ b)) then (bif (decide (b < (c.length : Int))) then (bif (Nat.beq (Int.toNat b) (Int.toNat b) && true) then (bif (Nat.beq (Int.toNat b) (Int.toNat b) && true) then (call (laws_markIntS.R ((RSigned.at c (Int.toNat b)).fHead.fKeys.fList, (IntKind.i64.wrap ((IntKind.i64.wrap ((IntKind.i64.wrap ((IntKind.i64.wrap ((IntKind.i64.wrap ((IntKind.i64.wrap ((IntKind.i64.wrap ((IntKind.i64.wrap (a + 1)) + 1)) + 1)) + 1)) + 1)) + 1)) + 1)) + 1)))) fun v1 => (bif (decide ((0 : Int) ≤ b)) then (bif (decide (b < (c.length : Int))) then (bif (Nat.beq (Int.toNat b) (Int.toNat b) && true) then (bif (decide ((0 : Int) ≤ b)) then (bif (decide (b < (c.length : Int))) then (bif (Nat.beq (Int.toNat b) (Int.toNat b) && true) then (bif (Nat.beq (Int.toNat b) (Int.toNat b) && true) then (call (laws_markIntS.R ((RSigned.at c (Int.toNat b)).fHead.fHeirs.fList, (IntKind.i64.wrap (v1.1 + 1)))) fun v2 => (bif (decide ((0 : Int) ≤ b)) then (bif (decide (b < (c.length : Int))) then (bif (Nat.beq (Int.toNat b) (Int.toNat b) && true) then (bif (decide ((0 : Int) ≤ b)) then (bif (decide (b < (c.length : Int))) then (bif (Nat.beq (Int.toNat b) (Int.toNat b) && true) then (bif (decide ((0 : Int) ≤ b)) then (bif (decide (b < (c.length : Int))) then (bif (Nat.beq (Int.toNat b) (Int.toNat b) && true) then (bif (Nat.beq (Int.toNat b) (Int.toNat b) && true) then (call (laws_markIntS.R ((RSigned.at c (Int.toNat b)).fHead.fJudge.fList, (IntKind.i64.wrap ((IntKind.i64.wrap (v2.1 + 1)) + 1)))) fun v3 => (bif (decide ((0 : Int) ≤ b)) then (bif (decide (b < (c.length : Int))) then (bif (Nat.beq (Int.toNat b) (Int.toNat b) && true) then (bif (decide ((0 : Int) ≤ b)) then (bif (decide (b < (c.length : Int))) then (bif (Nat.beq (Int.toNat b) (Int.toNat b) && true) then (bif (decide ((0 : Int) ≤ b)) then (bif (decide (b < (c.length : Int))) then (bif (Nat.beq (Int.toNat b) (Int.toNat b) && true) then (bif (Nat.beq (Int.toNat b) (Int.toNat b) && true) then (call (laws_markSigS.R ((RSigned.at c (Int.toNat b)).fSigs, (IntKind.i64.wrap ((IntKind.i64.wrap (v3.1 + 1)) + 1)))) fun v4 => J (.p0 v4.1 (IntKind.i64.wrap (b + 1)) (List.set c (Int.toNat b) (RSigned.enc (⟨(⟨a, (IntKind.i64.wrap (a + 1)), (IntKind.i64.wrap ((IntKind.i64.wrap (a + 1)) + 1)), (IntKind.i64.wrap ((IntKind.i64.wrap ((IntKind.i64.wrap (a + 1)) + 1)) + 1)), (IntKind.i64.wrap ((IntKind.i64.wrap ((IntKind.i64.wrap ((IntKind.i64.wrap (a + 1)) + 1)) + 1)) + 1)), (IntKind.i64.wrap ((IntKind.i64.wrap ((IntKind.i64.wrap ((IntKind.i64.wrap ((IntKind.i64.wrap (a + 1)) + 1)) + 1)) + 1)) + 1)), (IntKind.i64.wrap ((IntKind.i64.wrap ((IntKind.i64.wrap ((IntKind.i64.wrap ((IntKind.i64.wrap ((IntKind.i64.wrap (a + 1)) + 1)) + 1)) + 1)) + 1)) + 1)), (IntKind.i64.wrap ((IntKind.i64.wrap ((IntKind.i64.wrap ((IntKind.i64.wrap ((IntKind.i64.wrap ((IntKind.i64.wrap ((IntKind.i64.wrap (a + 1)) + 1)) + 1)) + 1)) + 1)) + 1)) + 1)), (⟨v1.2, v1.1⟩ : RKeys), (⟨v2.2, v2.1⟩ : RKeys), (IntKind.i64.wrap (v2.1 + 1)), (⟨v3.2, v3.1⟩ : RKeys), ((Int.tmod (IntKind.i64.wrap (v3.1 + 1)) 3) == 0)⟩ : RHead), v4.2⟩ : RSigned))))) else none) else none) else none) else none) else none) else none) else none) else none) else none) else none)) else none) else none) else none) else none) else none) else none) else none) else none) else none) else none)) else none) else none) else none) else none) else none) else none) else none)) else none) else none) else none) else none) else none) else none) else none) else none) else none) else none) else none) else none) else none) else none) else none) else none) else none) else none) else none) else none) else none) else none) else none) else none) else none) else none) else none) else ret ((a, c) : Int × List (List L)))
noncomputable def start (J : Pt → Ans) (x0 : List (List L)) (x1 : Int) : Ans := J (.p0 x1 0 x0)
def live : Nat → Live := fun i => match i with | 2 => [(0, none), (1, none), (5, none)] | _ => []
def pats : List (Bool × List K) := [(false, [.sl 184]), (false, [.int .i64])]
def res : RP := .chg [184]
noncomputable abbrev E : Env := { T := assoc Tab, G := conG [], nt := 156, M := conM [(142, laws_markIntS.con), (143, laws_markSigS.con)], np := 1, mt := true }
set_option maxRecDepth 100000
theorem step_eq (I : Heads) (p : Pt) : enterC E live I (pid p) (bodyOf Try.f59) (stOf (live (pid p)) (pvs p) (phs p)) (doneK E Try.f59 res) = step (fun q => I (pid q) (pvs q) (phs q)) p := by
  cases p <;> kernel_rfl
theorem start_eq (I : Heads) (ls : List L) : runC E live I (bodyOf Try.f59) (initM pats ls) (doneK E Try.f59 res) = start (fun q => I (pid q) (pvs q) (phs q)) (ls.headD .hole).toSl ((dropT 1 ls).headD .hole).toInt := by kernel_rfl
theorem run_eq (n : Nat) (ls : List L) : runF E live Try.f59 res n (initM pats ls) = start (iter step n) (ls.headD .hole).toSl ((dropT 1 ls).headD .hole).toInt := runF_iter (id := pid) (vs := pvs) (hs := phs) (step := step) (start := fun J => start J (ls.headD .hole).toSl ((dropT 1 ls).headD .hole).toInt) step_eq (fun I => start_eq I ls) n
noncomputable def e1 (x : MSigned) (k : Int) := laws_markIntS.md (((x.fHead).fKeys).fList) (IntKind.i64.wrap ((IntKind.i64.wrap ((IntKind.i64.wrap ((IntKind.i64.wrap ((IntKind.i64.wrap ((IntKind.i64.wrap ((IntKind.i64.wrap ((IntKind.i64.wrap (k + 1)) + 1)) + 1)) + 1)) + 1)) + 1)) + 1)) + 1))
noncomputable def e2 (x : MSigned) (k : Int) := laws_markIntS.md (((x.fHead).fHeirs).fList) (IntKind.i64.wrap ((e1 x k).1 + 1))
noncomputable def e3 (x : MSigned) (k : Int) := laws_markIntS.md (((x.fHead).fJudge).fList) (IntKind.i64.wrap ((IntKind.i64.wrap ((e2 x k).1 + 1)) + 1))
noncomputable def e4 (x : MSigned) (k : Int) := laws_markSigS.md x.fSigs (IntKind.i64.wrap ((IntKind.i64.wrap ((e3 x k).1 + 1)) + 1))
noncomputable def el (x : MSigned) (k : Int) : Int × MSigned := ((e4 x k).1, (⟨(⟨k, (IntKind.i64.wrap (k + 1)), (IntKind.i64.wrap ((IntKind.i64.wrap (k + 1)) + 1)), (IntKind.i64.wrap ((IntKind.i64.wrap ((IntKind.i64.wrap (k + 1)) + 1)) + 1)), (IntKind.i64.wrap ((IntKind.i64.wrap ((IntKind.i64.wrap ((IntKind.i64.wrap (k + 1)) + 1)) + 1)) + 1)), (IntKind.i64.wrap ((IntKind.i64.wrap ((IntKind.i64.wrap ((IntKind.i64.wrap ((IntKind.i64.wrap (k + 1)) + 1)) + 1)) + 1)) + 1)), (IntKind.i64.wrap ((IntKind.i64.wrap ((IntKind.i64.wrap ((IntKind.i64.wrap ((IntKind.i64.wrap ((IntKind.i64.wrap (k + 1)) + 1)) + 1)) + 1)) + 1)) + 1)), (IntKind.i64.wrap ((IntKind.i64.wrap ((IntKind.i64.wrap ((IntKind.i64.wrap ((IntKind.i64.wrap ((IntKind.i64.wrap ((IntKind.i64.wrap (k + 1)) + 1)) + 1)) + 1)) + 1)) + 1)) + 1)), (⟨(e1 x k).2, (e1 x k).1⟩ : MKeys), (⟨(e2 x k).2, (e2 x k).1⟩ : MKeys), (IntKind.i64.wrap ((e2 x k).1 + 1)), (⟨(e3 x k).2, (e3 x k).1⟩ : MKeys), ((Int.tmod (IntKind.i64.wrap ((e3 x k).1 + 1)) 3) == 0)⟩ : MHead), (e4 x k).2⟩ : MSigned))
theorem el_I (x : MSigned) (k : Int) (hk : I64 k) : I64 (el x k).1 := (laws_markSigS.i64 (wrap_I64 _))
noncomputable def cnt (x : MSigned) : Nat := 13 + laws_markIntS.sum (((x.fHead).fKeys).fList) + laws_markIntS.sum (((x.fHead).fHeirs).fList) + laws_markIntS.sum (((x.fHead).fJudge).fList) + laws_markSigS.sum x.fSigs
noncomputable def sum (a : List MSigned) : Nat := (a.map cnt).sum
noncomputable def md (a0 : List MSigned) (a1 : Int) : Int × List MSigned := accM el a0 a1
def gd (a0 : List MSigned) (a1 : Int) : Prop := I64 a1
def acc (ls : List L) : List (List L) × Int := ((ls.headD .hole).toSl, ((dropT 1 ls).headD .hole).toInt)
noncomputable def R : (List (List L) × Int) → Option (Int × List (List L)) := RR (p2 gd) (u2 md)
theorem R_eq {a0} {a1} (h : gd a0 a1) : R ((a0.map MSigned.row), a1) = some ((md a0 a1).1, ((md a0 a1).2.map MSigned.row)) := RR_eq (a := (a0, a1)) h
noncomputable def con : MCon := MN pats acc R
theorem okF (a0 : List MSigned) (a1 : Int) (hg : gd a0 a1) (h0 : a0.length ≤ maxLen) : ∃ n, start (iter step n) (a0.map MSigned.row) a1 = ret (((md a0 a1).1, ((md a0 a1).2.map MSigned.row)) : Int × List (List L)) := by
  unfold gd at hg
  show ∃ n, iter step n (Pt.p0 a1 0 (a0.map MSigned.row)) = _
  unfold md
  refine mark_loop (el := el) (xs := a0) MSigned.zero I64 el_I (pt := fun i k c => Pt.p0 k (i : Int) (c.map MSigned.row)) (out := fun b => ret (b.1, b.2.map MSigned.row)) (fun J i k c hi hc hk => ?_) (fun J k c hc => ?_) hg
  · have hm : c.length ≤ maxLen := hc ▸ h0
    simp only [step, S0, MKeys.rs, MHead.rs, MSigned.rs]
    refine yes_ret (lt_dec hi) ?_
    refine yes_ret zle_dec ?_
    refine yes_ret (lt_dec hi) ?_
    refine yes_ret zle_dec ?_
    refine yes_ret (lt_dec hi) ?_
    refine yes_ret (beq_t _) ?_
    refine yes_ret zle_dec ?_
    refine yes_ret (lt_dec hi) ?_
    refine yes_ret (beq_t _) ?_
    refine yes_ret zle_dec ?_
    refine yes_ret (lt_dec hi) ?_
    refine yes_ret (beq_t _) ?_
    refine yes_ret zle_dec ?_
    refine yes_ret (lt_dec hi) ?_
    refine yes_ret (beq_t _) ?_
    refine yes_ret zle_dec ?_
    refine yes_ret (lt_dec hi) ?_
    refine yes_ret (beq_t _) ?_
    refine yes_ret zle_dec ?_
    refine yes_ret (lt_dec hi) ?_
    refine yes_ret (beq_t _) ?_
    refine yes_ret zle_dec ?_
    refine yes_ret (lt_dec hi) ?_
    refine yes_ret (beq_t _) ?_
    refine yes_ret zle_dec ?_
    refine yes_ret (lt_dec hi) ?_
    refine yes_ret (beq_t _) ?_
    refine yes_ret (beq_t _) ?_
    refine call_to ((e1 (c.getD i MSigned.zero) k).1, ((e1 (c.getD i MSigned.zero) k).2.map iRow)) (laws_markIntS.R_eq (a0 := (((c.getD i MSigned.zero).fHead).fKeys).fList) (a1 := IntKind.i64.wrap ((IntKind.i64.wrap ((IntKind.i64.wrap ((IntKind.i64.wrap ((IntKind.i64.wrap ((IntKind.i64.wrap ((IntKind.i64.wrap ((IntKind.i64.wrap (k + 1)) + 1)) + 1)) + 1)) + 1)) + 1)) + 1)) + 1)) (wrap_I64 _)) ?_
    refine yes_ret zle_dec ?_
    refine yes_ret (lt_dec hi) ?_
    refine yes_ret (beq_t _) ?_
    refine yes_ret zle_dec ?_
    refine yes_ret (lt_dec hi) ?_
    refine yes_ret (beq_t _) ?_
    refine yes_ret (beq_t _) ?_
    refine call_to ((e2 (c.getD i MSigned.zero) k).1, ((e2 (c.getD i MSigned.zero) k).2.map iRow)) (laws_markIntS.R_eq (a0 := (((c.getD i MSigned.zero).fHead).fHeirs).fList) (a1 := IntKind.i64.wrap ((e1 (c.getD i MSigned.zero) k).1 + 1)) (wrap_I64 _)) ?_
    refine yes_ret zle_dec ?_
    refine yes_ret (lt_dec hi) ?_
    refine yes_ret (beq_t _) ?_
    refine yes_ret zle_dec ?_
    refine yes_ret (lt_dec hi) ?_
    refine yes_ret (beq_t _) ?_
    refine yes_ret zle_dec ?_
    refine yes_ret (lt_dec hi) ?_
    refine yes_ret (beq_t _) ?_
    refine yes_ret (beq_t _) ?_
    refine call_to ((e3 (c.getD i MSigned.zero) k).1, ((e3 (c.getD i MSigned.zero) k).2.map iRow)) (laws_markIntS.R_eq (a0 := (((c.getD i MSigned.zero).fHead).fJudge).fList) (a1 := IntKind.i64.wrap ((IntKind.i64.wrap ((e2 (c.getD i MSigned.zero) k).1 + 1)) + 1)) (wrap_I64 _)) ?_
    refine yes_ret zle_dec ?_
    refine yes_ret (lt_dec hi) ?_
    refine yes_ret (beq_t _) ?_
    refine yes_ret zle_dec ?_
    refine yes_ret (lt_dec hi) ?_
    refine yes_ret (beq_t _) ?_
    refine yes_ret zle_dec ?_
    refine yes_ret (lt_dec hi) ?_
    refine yes_ret (beq_t _) ?_
    refine yes_ret (beq_t _) ?_
    refine call_to ((e4 (c.getD i MSigned.zero) k).1, ((e4 (c.getD i MSigned.zero) k).2.map MSig.row)) (laws_markSigS.R_eq (a0 := (c.getD i MSigned.zero).fSigs) (a1 := IntKind.i64.wrap ((IntKind.i64.wrap ((e3 (c.getD i MSigned.zero) k).1 + 1)) + 1)) (wrap_I64 _)) ?_
    rw [wrap_succ hi hm]
    exact congrArg (fun q => J (Pt.p0 (el (c.getD i MSigned.zero) k).1 ((i + 1 : Nat) : Int) q)) (List.map_set (f := MSigned.row) (l := c) (i := i) (a := (el (c.getD i MSigned.zero) k).2)).symm
  · simp only [step, S0, MKeys.rs, MHead.rs, MSigned.rs]
    refine no_ret (by apply decide_eq_false; omega) ?_
    rfl
theorem valid_ : MValid Try.prog Ev 59 con := MV (run := fun n x => start (iter step n) x.1 x.2) mix tab_ok .nil (.cons laws_markIntS.valid_ (.cons laws_markSigS.valid_ .nil)) Try.func59 (by kernel_rfl) run_eq (fun ls a hl e hg => okF a.1 a.2 hg (by have h : (ls.headD .hole).toSl.length ≤ maxLen := (hl _ _ (.head _)).len; have e : a.1.map MSigned.row = (ls.headD .hole).toSl := (congrArg (fun x => x.1) e.symm); rw [← e] at h; simpa using h))
theorem i64 {a0 : List MSigned} {a1 : Int} (h : I64 a1) : I64 (md a0 a1).1 := accM_I el_I h
theorem elk (x : MSigned) (k : Int) (h0 : 0 ≤ k) (hb : k + (cnt x : Int) ≤ 4611686018427387904) : (el x k).1 = k + cnt x := by
  simp only [cnt, Int.natCast_add] at hb ⊢
  simp (disch := omega) only [el, e1, e2, e3, e4, wi, laws_markIntS.kk, laws_markSigS.kk]
  all_goals first | done | omega
theorem kk (a0 : List MSigned) (a1 : Int) (h0 : 0 ≤ a1) (hb : a1 + (sum a0 : Int) ≤ 4611686018427387904) : (md a0 a1).1 = a1 + sum a0 := accM_sum elk a0 a1 h0 hb
theorem sz (a : List MSigned) : sum a ≤ 60 * (szL (fun y : MSigned => MSigned.size y) a) := sum_le (fun x => by
    have := laws_markIntS.sz (((x.fHead).fKeys).fList)
    have := laws_markIntS.sz (((x.fHead).fHeirs).fList)
    have := laws_markIntS.sz (((x.fHead).fJudge).fList)
    have := laws_markSigS.sz x.fSigs
    simp only [cnt, MSigned.size, MHead.size, MKeys.size]
    omega) a
end laws_markSignedS
/-! laws.markSignedSS -/
namespace laws_markSignedSS
set_option maxRecDepth 100000
set_option maxHeartbeats 8000000
inductive Pt where
  | p0 (a : Int) (b : Int) (c : List (List L))
def pid : Pt → Nat
  | .p0 .. => 2
def pvs : Pt → List V
  | .p0 a b c => [.own 0, .int .i64 a, .int .i64 b]
def phs : Pt → List Root
  | .p0 a b c => [.row 79 c]
noncomputable def step (J : Pt → Ans) : Pt → Ans
  | .p0 a b c => (bif (decide (b < (c.length : Int))) then (bif (decide ((0 : Int) ≤ b)) then (bif (decide (b < (c.length : Int))) then (call (laws_markSignedS.R ((lAt c (Int.toNat b)), a)) fun v1 => J (.p0 v1.1 (IntKind.i64.wrap (b + 1)) (List.set c (Int.toNat b) [L.sl v1.2]))) else none) else none) else ret ((a, c) : Int × List (List L)))
noncomputable def start (J : Pt → Ans) (x0 : List (List L)) (x1 : Int) : Ans := J (.p0 x1 0 x0)
def live : Nat → Live := fun i => match i with | 2 => [(0, none), (1, none), (5, none)] | _ => []
def pats : List (Bool × List K) := [(false, [.sl 79]), (false, [.int .i64])]
def res : RP := .chg [79]
noncomputable abbrev E : Env := { T := assoc Tab, G := conG [], nt := 19, M := conM [(59, laws_markSignedS.con)], np := 1, mt := true }
set_option maxRecDepth 100000
theorem step_eq (I : Heads) (p : Pt) : enterC E live I (pid p) (bodyOf Try.f140) (stOf (live (pid p)) (pvs p) (phs p)) (doneK E Try.f140 res) = step (fun q => I (pid q) (pvs q) (phs q)) p := by
  cases p <;> kernel_rfl
theorem start_eq (I : Heads) (ls : List L) : runC E live I (bodyOf Try.f140) (initM pats ls) (doneK E Try.f140 res) = start (fun q => I (pid q) (pvs q) (phs q)) (ls.headD .hole).toSl ((dropT 1 ls).headD .hole).toInt := by kernel_rfl
theorem run_eq (n : Nat) (ls : List L) : runF E live Try.f140 res n (initM pats ls) = start (iter step n) (ls.headD .hole).toSl ((dropT 1 ls).headD .hole).toInt := runF_iter (id := pid) (vs := pvs) (hs := phs) (step := step) (start := fun J => start J (ls.headD .hole).toSl ((dropT 1 ls).headD .hole).toInt) step_eq (fun I => start_eq I ls) n
noncomputable def e1 (x : List MSigned) (k : Int) := laws_markSignedS.md x k
noncomputable def el (x : List MSigned) (k : Int) : Int × (List MSigned) := ((e1 x k).1, ((e1 x k).2))
theorem el_I (x : List MSigned) (k : Int) (hk : I64 k) : I64 (el x k).1 := (laws_markSignedS.i64 hk)
noncomputable def cnt (x : List MSigned) : Nat := 0 + laws_markSignedS.sum x
noncomputable def sum (a : List (List MSigned)) : Nat := (a.map cnt).sum
noncomputable def md (a0 : List (List MSigned)) (a1 : Int) : Int × List (List MSigned) := accM el a0 a1
def gd (a0 : List (List MSigned)) (a1 : Int) : Prop := I64 a1
def acc (ls : List L) : List (List L) × Int := ((ls.headD .hole).toSl, ((dropT 1 ls).headD .hole).toInt)
noncomputable def R : (List (List L) × Int) → Option (Int × List (List L)) := RR (p2 gd) (u2 md)
theorem R_eq {a0} {a1} (h : gd a0 a1) : R ((a0.map (lRow MSigned.row)), a1) = some ((md a0 a1).1, ((md a0 a1).2.map (lRow MSigned.row))) := RR_eq (a := (a0, a1)) h
noncomputable def con : MCon := MN pats acc R
theorem okF (a0 : List (List MSigned)) (a1 : Int) (hg : gd a0 a1) (h0 : a0.length ≤ maxLen) : ∃ n, start (iter step n) (a0.map (lRow MSigned.row)) a1 = ret (((md a0 a1).1, ((md a0 a1).2.map (lRow MSigned.row))) : Int × List (List L)) := by
  unfold gd at hg
  show ∃ n, iter step n (Pt.p0 a1 0 (a0.map (lRow MSigned.row))) = _
  unfold md
  refine mark_loop (el := el) (xs := a0) [] I64 el_I (pt := fun i k c => Pt.p0 k (i : Int) (c.map (lRow MSigned.row))) (out := fun b => ret (b.1, b.2.map (lRow MSigned.row))) (fun J i k c hi hc hk => ?_) (fun J k c hc => ?_) hg
  · have hm : c.length ≤ maxLen := hc ▸ h0
    simp only [step, S0]
    refine yes_ret (lt_dec hi) ?_
    refine yes_ret zle_dec ?_
    refine yes_ret (lt_dec hi) ?_
    refine call_to ((e1 (c.getD i []) k).1, ((e1 (c.getD i []) k).2.map MSigned.row)) (laws_markSignedS.R_eq (a0 := c.getD i []) (a1 := k) hk) ?_
    rw [wrap_succ hi hm]
    exact congrArg (fun q => J (Pt.p0 (el (c.getD i []) k).1 ((i + 1 : Nat) : Int) q)) (List.map_set (f := (lRow MSigned.row)) (l := c) (i := i) (a := (el (c.getD i []) k).2)).symm
  · simp only [step, S0]
    refine no_ret (by apply decide_eq_false; omega) ?_
    rfl
theorem valid_ : MValid Try.prog Ev 140 con := MV (run := fun n x => start (iter step n) x.1 x.2) mix tab_ok .nil (.cons laws_markSignedS.valid_ .nil) Try.func140 (by kernel_rfl) run_eq (fun ls a hl e hg => okF a.1 a.2 hg (by have h : (ls.headD .hole).toSl.length ≤ maxLen := (hl _ _ (.head _)).len; have e : a.1.map (lRow MSigned.row) = (ls.headD .hole).toSl := (congrArg (fun x => x.1) e.symm); rw [← e] at h; simpa using h))
theorem i64 {a0 : List (List MSigned)} {a1 : Int} (h : I64 a1) : I64 (md a0 a1).1 := accM_I el_I h
theorem elk (x : List MSigned) (k : Int) (h0 : 0 ≤ k) (hb : k + (cnt x : Int) ≤ 4611686018427387904) : (el x k).1 = k + cnt x := by
  simp only [cnt, Int.natCast_add] at hb ⊢
  simp (disch := omega) only [el, e1, wi, laws_markSignedS.kk]
  all_goals first | done | omega
theorem kk (a0 : List (List MSigned)) (a1 : Int) (h0 : 0 ≤ a1) (hb : a1 + (sum a0 : Int) ≤ 4611686018427387904) : (md a0 a1).1 = a1 + sum a0 := accM_sum elk a0 a1 h0 hb
theorem sz (a : List (List MSigned)) : sum a ≤ 60 * (szL (fun y : List MSigned => szL (fun y : MSigned => MSigned.size y) y) a) := sum_le (fun x => by
    have := laws_markSignedS.sz x
    simp only [cnt]
    omega) a
end laws_markSignedSS
/-! laws.markForkS -/
namespace laws_markForkS
set_option maxRecDepth 100000
set_option maxHeartbeats 8000000
inductive Pt where
  | p0 (a : Int) (b : Int) (c : List (List L))
def pid : Pt → Nat
  | .p0 .. => 2
def pvs : Pt → List V
  | .p0 a b c => [.own 0, .int .i64 a, .int .i64 b]
def phs : Pt → List Root
  | .p0 a b c => [.row 241 c]
noncomputable def step (J : Pt → Ans) : Pt → Ans
  | .p0 a b c => (bif (decide (b < (c.length : Int))) then (bif (decide ((0 : Int) ≤ b)) then (bif (decide (b < (c.length : Int))) then (bif (decide ((0 : Int) ≤ b)) then (bif (decide (b < (c.length : Int))) then (bif (Nat.beq (Int.toNat b) (Int.toNat b) && true) then (bif (decide ((0 : Int) ≤ b)) then (bif (decide (b < (c.length : Int))) then (bif (Nat.beq (Int.toNat b) (Int.toNat b) && true) then (bif (decide ((0 : Int) ≤ b)) then (bif (decide (b < (c.length : Int))) then (bif (Nat.beq (Int.toNat b) (Int.toNat b) && true) then (bif (decide ((0 : Int) ≤ b)) then (bif (decide (b < (c.length : Int))) then (bif (Nat.beq (Int.toNat b) (Int.toNat b) && true) then (bif (decide ((0 : Int) ≤ b)) then (bif (decide (b < (c.length : Int))) then (bif (Nat.beq (Int.toNat b) (Int.toNat b) && true) then (bif (decide ((0 : Int) ≤ b)) then (bif (decide (b < (c.length : Int))) then (bif (Nat.beq (Int.toNat b) (Int.toNat b) && true) then (bif (decide ((0 : Int) ≤ b)) then (bif (decide (b < (c.length : Int))) then (bif (Nat.beq (Int.toNat b) (Int.toNat b) && true) then (bif (decide ((0 : Int) ≤ b)) then (bif (decide (b < (c.length : Int))) then (bif (Nat.beq (Int.toNat b) (Int.toNat b) && true) then (bif (Nat.beq (Int.toNat b) (Int.toNat b) && true) then (call (laws_markIntS.R ((RFork.at c (Int.toNat b)).fBefore.fHead.fKeys.fList, (IntKind.i64.wrap ((IntKind.i64.wrap ((IntKind.i64.wrap ((IntKind.i64.wrap ((IntKind.i64.wrap ((IntKind.i64.wrap ((IntKind.i64.wrap ((IntKind.i64.wrap (a + 1)) + 1)) + 1)) + 1)) + 1)) + 1)) + 1)) + 1)))) fun v1 => (bif (decide ((0 : Int) ≤ b)) then (bif (decide (b < (c.length : Int))) then (bif (Nat.beq (Int.toNat b) (Int.toNat b) && true) then (bif (decide ((0 : Int) ≤ b)) then (bif (decide (b < (c.length : Int))) then (bif (Nat.beq (Int.toNat b) (Int.toNat b) && true) then (bif (Nat.beq (Int.toNat b) (Int.toNat b) && true) then (call (laws_markIntS.R ((RFork.at c (Int.toNat b)).fBefore.fHead.fHeirs.fList, (IntKind.i64.wrap (v1.1 + 1)))) fun v2 => (bif (decide ((0 : Int) ≤ b)) then (bif (decide (b < (c.length : Int))) then (bif (Nat.beq (Int.toNat b) (Int.toNat b) && true) then (bif (decide ((0 : Int) ≤ b)) then (bif (decide (b < (c.length : Int))) then (bif (Nat.beq (Int.toNat b) (Int.toNat b) && true) then (bif (decide ((0 : Int) ≤ b)) then (bif (decide (b < (c.length : Int))) then (bif (Nat.beq (Int.toNat b) (Int.toNat b) && true) then (bif (Nat.beq (Int.toNat b) (Int.toNat b) && true) then (call (laws_markIntS.R ((RFork.at c (Int.toNat b)).fBefore.fHead.fJudge.fList, (IntKind.i64.wrap ((IntKind.i64.wrap (v2.1 + 1)) + 1)))) fun v3 => (bif (decide ((0 : Int) ≤ b)) then (bif (decide (b < (c.length : Int))) then (bif (Nat.beq (Int.toNat b) (Int.toNat b) && true) then (bif (decide ((0 : Int) ≤ b)) then (bif (decide (b < (c.length : Int))) then (bif (Nat.beq (Int.toNat b) (Int.toNat b) && true) then (bif (decide ((0 : Int) ≤ b)) then (bif (decide (b < (c.length : Int))) then (bif (Nat.beq (Int.toNat b) (Int.toNat b) && true) then (bif (Nat.beq (Int.toNat b) (Int.toNat b) && true) then (call (laws_markSigS.R ((RFork.at c (Int.toNat b)).fBefore.fSigs, (IntKind.i64.wrap ((IntKind.i64.wrap (v3.1 + 1)) + 1)))) fun v4 => (bif (decide ((0 : Int) ≤ b)) then (bif (decide (b < (c.length : Int))) then (bif (Nat.beq (Int.toNat b) (Int.toNat b) && true) then (bif (decide ((0 : Int) ≤ b)) then (bif (decide (b < (c.length : Int))) then (bif (Nat.beq (Int.toNat b) (Int.toNat b) && true) then (bif (decide ((0 : Int) ≤ b)) then (bif (decide (b < (c.length : Int))) then (bif (Nat.beq (Int.toNat b) (Int.toNat b) && true) then (bif (decide ((0 : Int) ≤ b)) then (bif (decide (b < (c.length : Int))) then (bif (Nat.beq (Int.toNat b) (Int.toNat b) && true) then (bif (decide ((0 : Int) ≤ b)) then (bif (decide (b < (c.length : Int))) then (bif (Nat.beq (Int.toNat b) (Int.toNat b) && true) then (bif (decide ((0 : Int) ≤ b)) then (bif (decide (b < (c.length : Int))) then (bif (Nat.beq (Int.toNat b) (Int.toNat b) && true) then (bif (decide ((0 : Int) ≤ b)) then (bif (decide (b < (c.length : Int))) then (bif (Nat.beq (Int.toNat b) (Int.toNat b) && true) then (bif (decide ((0 : Int) ≤ b)) then (bif (decide (b < (c.length : Int))) then (bif (Nat.beq (Int.toNat b) (Int.toNat b) && true) then (bif (decide ((0 : Int) ≤ b)) then (bif (decide (b < (c.length : Int))) then (bif (Nat.beq (Int.toNat b) (Int.toNat b) && true) then (bif (Nat.beq (Int.toNat b) (Int.toNat b) && true) then (call (laws_markIntS.R ((RFork.at c (Int.toNat b)).fA.fHead.fKeys.fList, (IntKind.i64.wrap ((IntKind.i64.wrap ((IntKind.i64.wrap ((IntKind.i64.wrap ((IntKind.i64.wrap ((IntKind.i64.wrap ((IntKind.i64.wrap ((IntKind.i64.wrap (v4.1 + 1)) + 1)) + 1)) + 1)) + 1)) + 1)) + 1)) + 1)))) fun v5 => (bif (decide ((0 : Int) ≤ b)) then (bif (decide (b < (c.length : Int))) then (bif (Nat.beq (Int.toNat b) (Int.toNat b) && true) then (bif (decide ((0 : Int) ≤ b)) then (bif (decide (b < (c.length : Int))) then (bif (Nat.beq (Int.toNat b) (Int.toNat b) && true) then (bif (Nat.beq (Int.toNat b) (Int.toNat b) && true) then (call (laws_markIntS.R ((RFork.at c (Int.toNat b)).fA.fHead.fHeirs.fList, (IntKind.i64.wrap (v5.1 + 1)))) fun v6 => (bif (decide ((0 : Int) ≤ b)) then (bif (decide (b < (c.length : Int))) then (bif (Nat.beq (Int.toNat b) (Int.toNat b) && true) then (bif (decide ((0 : Int) ≤ b)) then (bif (decide (b < (c.length : Int))) then (bif (Nat.beq (Int.toNat b) (Int.toNat b) && true) then (bif (decide ((0 : Int) ≤ b)) then (bif (decide (b < (c.length : Int))) then (bif (Nat.beq (Int.toNat b) (Int.toNat b) && true) then (bif (Nat.beq (Int.toNat b) (Int.toNat b) && true) then (call (laws_markIntS.R ((RFork.at c (Int.toNat b)).fA.fHead.fJudge.fList, (IntKind.i64.wrap ((IntKind.i64.wrap (v6.1 + 1)) + 1)))) fun v7 => (bif (decide ((0 : Int) ≤ b)) then (bif (decide (b < (c.length : Int))) then (bif (Nat.beq (Int.toNat b) (Int.toNat b) && true) then (bif (decide ((0 : Int) ≤ b)) then (bif (decide (b < (c.length : Int))) then (bif (Nat.beq (Int.toNat b) (Int.toNat b) && true) then (bif (decide ((0 : Int) ≤ b)) then (bif (decide (b < (c.length : Int))) then (bif (Nat.beq (Int.toNat b) (Int.toNat b) && true) then (bif (Nat.beq (Int.toNat b) (Int.toNat b) && true) then (call (laws_markSigS.R ((RFork.at c (Int.toNat b)).fA.fSigs, (IntKind.i64.wrap ((IntKind.i64.wrap (v7.1 + 1)) + 1)))) fun v8 => (bif (decide ((0 : Int) ≤ b)) then (bif (decide (b < (c.length : Int))) then (bif (Nat.beq (Int.toNat b) (Int.toNat b) && true) then (bif (decide ((0 : Int) ≤ b)) then (bif (decide (b < (c.length : Int))) then (bif (Nat.beq (Int.toNat b) (Int.toNat b) && true) then (bif (decide ((0 : Int) ≤ b)) then (bif (decide (b < (c.length : Int))) then (bif (Nat.beq (Int.toNat b) (Int.toNat b) && true) then (bif (decide ((0 : Int) ≤ b)) then (bif (decide (b < (c.length : Int))) then (bif (Nat.beq (Int.toNat b) (Int.toNat b) && true) then (bif (decide ((0 : Int) ≤ b)) then (bif (decide (b < (c.length : Int))) then (bif (Nat.beq (Int.toNat b) (Int.toNat b) && true) then (bif (decide ((0 : Int) ≤ b)) then (bif (decide (b < (c.length : Int))) then (bif (Nat.beq (Int.toNat b) (Int.toNat b) && true) then (bif (decide ((0 : Int) ≤ b)) then (bif (decide (b < (c.length : Int))) then (bif (Nat.beq (Int.toNat b) (Int.toNat b) && true) then (bif (decide ((0 : Int) ≤ b)) then (bif (decide (b < (c.length : Int))) then (bif (Nat.beq (Int.toNat b) (Int.toNat b) && true) then (bif (decide ((0 : Int) ≤ b)) then (bif (decide (b < (c.length : Int))) then (bif (Nat.beq (Int.toNat b) (Int.toNat b) && true) then (bif (Nat.beq (Int.toNat b) (Int.toNat b) && true) then (call (laws_markIntS.R ((RFork.at c (Int.toNat b)).fB.fHead.fKeys.fList, (IntKind.i64.wrap ((IntKind.i64.wrap ((IntKind.i64.wrap ((IntKind.i64.wrap ((IntKind.i64.wrap ((IntKind.i64.wrap ((IntKind.i64.wrap ((IntKind.i64.wrap (v8.1 + 1)) + 1)) + 1)) + 1)) + 1)) + 1)) + 1)) + 1)))) fun v9 => (bif (decide ((0 : Int) ≤ b)) then (bif (decide (b < (c.length : Int))) then (bif (Nat.beq (Int.toNat b) (Int.toNat b) && true) then (bif (decide ((0 : Int) ≤ b)) then (bif (decide (b < (c.length : Int))) then (bif (Nat.beq (Int.toNat b) (Int.toNat b) && true) then (bif (Nat.beq (Int.toNat b) (Int.toNat b) && true) then (call (laws_markIntS.R ((RFork.at c (Int.toNat b)).fB.fHead.fHeirs.fList, (IntKind.i64.wrap (v9.1 + 1)))) fun v10 => (bif (decide ((0 : Int) ≤ b)) then (bif (decide (b < (c.length : Int))) then (bif (Nat.beq (Int.toNat b) (Int.toNat b) && true) then (bif (decide ((0 : Int) ≤ b)) then (bif (decide (b < (c.length : Int))) then (bif (Nat.beq (Int.toNat b) (Int.toNat b) && true) then (bif (decide ((0 : Int) ≤ b)) then (bif (decide (b < (c.length : Int))) then (bif (Nat.beq (Int.toNat b) (Int.toNat b) && true) then (bif (Nat.beq (Int.toNat b) (Int.toNat b) && true) then (call (laws_markIntS.R ((RFork.at c (Int.toNat b)).fB.fHead.fJudge.fList, (IntKind.i64.wrap ((IntKind.i64.wrap (v10.1 + 1)) + 1)))) fun v11 => (bif (decide ((0 : Int) ≤ b)) then (bif (decide (b < (c.length : Int))) then (bif (Nat.beq (Int.toNat b) (Int.toNat b) && true) then (bif (decide ((0 : Int) ≤ b)) then (bif (decide (b < (c.length : Int))) then (bif (Nat.beq (Int.toNat b) (Int.toNat b) && true) then (bif (decide ((0 : Int) ≤ b)) then (bif (decide (b < (c.length : Int))) then (bif (Nat.beq (Int.toNat b) (Int.toNat b) && true) then (bif (Nat.beq (Int.toNat b) (Int.toNat b) && true) then (call (laws_markSigS.R ((RFork.at c (Int.toNat b)).fB.fSigs, (IntKind.i64.wrap ((IntKind.i64.wrap (v11.1 + 1)) + 1)))) fun v12 => J (.p0 v12.1 (IntKind.i64.wrap (b + 1)) (List.set c (Int.toNat b) (RFork.enc (⟨(⟨(⟨a, (IntKind.i64.wrap (a + 1)), (IntKind.i64.wrap ((IntKind.i64.wrap (a + 1)) + 1)), (IntKind.i64.wrap ((IntKind.i64.wrap ((IntKind.i64.wrap (a + 1)) + 1)) + 1)), (IntKind.i64.wrap ((IntKind.i64.wrap ((IntKind.i64.wrap ((IntKind.i64.wrap (a + 1)) + 1)) + 1)) + 1)), (IntKind.i64.wrap ((IntKind.i64.wrap ((IntKind.i64.wrap ((IntKind.i64.wrap ((IntKind.i64.wrap (a + 1)) + 1)) + 1)) + 1)) + 1)), (IntKind.i64.wrap ((IntKind.i64.wrap ((IntKind.i64.wrap ((IntKind.i64.wrap ((IntKind.i64.wrap ((IntKind.i64.wrap (a + 1)) + 1)) + 1)) + 1)) + 1)) + 1)), (IntKind.i64.wrap ((IntKind.i64.wrap ((IntKind.i64.wrap ((IntKind.i64.wrap ((IntKind.i64.wrap ((IntKind.i64.wrap ((IntKind.i64.wrap (a + 1)) + 1)) + 1)) + 1)) + 1)) + 1)) + 1)), (⟨v1.2, v1.1⟩ : RKeys), (⟨v2.2, v2.1⟩ : RKeys), (IntKind.i64.wrap (v2.1 + 1)), (⟨v3.2, v3.1⟩ : RKeys), ((Int.tmod (IntKind.i64.wrap (v3.1 + 1)) 3) == 0)⟩ : RHead), v4.2⟩ : RSigned), (⟨(⟨v4.1, (IntKind.i64.wrap (v4.1 + 1)), (IntKind.i64.wrap ((IntKind.i64.wrap (v4.1 + 1)) + 1)), (IntKind.i64.wrap ((IntKind.i64.wrap ((IntKind.i64.wrap (v4.1 + 1)) + 1)) + 1)), (IntKind.i64.wrap ((IntKind.i64.wrap ((IntKind.i64.wrap ((IntKind.i64.wrap (v4.1 + 1)) + 1)) + 1)) + 1)), (IntKind.i64.wrap ((IntKind.i64.wrap ((IntKind.i64.wrap ((IntKind.i64.wrap ((IntKind.i64.wrap (v4.1 + 1)) + 1)) + 1)) + 1)) + 1)), (IntKind.i64.wrap ((IntKind.i64.wrap ((IntKind.i64.wrap ((IntKind.i64.wrap ((IntKind.i64.wrap ((IntKind.i64.wrap (v4.1 + 1)) + 1)) + 1)) + 1)) + 1)) + 1)), (IntKind.i64.wrap ((IntKind.i64.wrap ((IntKind.i64.wrap ((IntKind.i64.wrap ((IntKind.i64.wrap ((IntKind.i64.wrap ((IntKind.i64.wrap (v4.1 + 1)) + 1)) + 1)) + 1)) + 1)) + 1)) + 1)), (⟨v5.2, v5.1⟩ : RKeys), (⟨v6.2, v6.1⟩ : RKeys), (IntKind.i64.wrap (v6.1 + 1)), (⟨v7.2, v7.1⟩ : RKeys), ((Int.tmod (IntKind.i64.wrap (v7.1 + 1)) 3) == 0)⟩ : RHead), v8.2⟩ : RSigned), (⟨(⟨v8.1, (IntKind.i64.wrap (v8.1 + 1)), (IntKind.i64.wrap ((IntKind.i64.wrap (v8.1 + 1)) + 1)), (IntKind.i64.wrap ((IntKind.i64.wrap ((IntKind.i64.wrap (v8.1 + 1)) + 1)) + 1)), (IntKind.i64.wrap ((IntKind.i64.wrap ((IntKind.i64.wrap ((IntKind.i64.wrap (v8.1 + 1)) + 1)) + 1)) + 1)), (IntKind.i64.wrap ((IntKind.i64.wrap ((IntKind.i64.wrap ((IntKind.i64.wrap ((IntKind.i64.wrap (v8.1 + 1)) + 1)) + 1)) + 1)) + 1)), (IntKind.i64.wrap ((IntKind.i64.wrap ((IntKind.i64.wrap ((IntKind.i64.wrap ((IntKind.i64.wrap ((IntKind.i64.wrap (v8.1 + 1)) + 1)) + 1)) + 1)) + 1)) + 1)), (IntKind.i64.wrap ((IntKind.i64.wrap ((IntKind.i64.wrap ((IntKind.i64.wrap ((IntKind.i64.wrap ((IntKind.i64.wrap ((IntKind.i64.wrap (v8.1 + 1)) + 1)) + 1)) + 1)) + 1)) + 1)) + 1)), (⟨v9.2, v9.1⟩ : RKeys), (⟨v10.2, v10.1⟩ : RKeys), (IntKind.i64.wrap (v10.1 + 1)), (⟨v11.2, v11.1⟩ : RKeys), ((Int.tmod (IntKind.i64.wrap (v11.1 + 1)) 3) == 0)⟩ : RHead), v12.2⟩ : RSigned)⟩ : RFork))))) else none) else none) else none) else none) else none) else none) else none) else none) else none) else none)) else none) else none) else none) else none) else none) else none) else none) else none) else none) else none)) else none) else none) else none) else none) else none) else none) else none)) else none) else none) else none) else none) else none) else none) else none) else none) else none) else none) else none) else none) else none) else none) else none) else none) else none) else none) else none) else none) else none) else none) else none) else none) else none) else none) else none) else none)) else none) else none) else none) else none) else none) else none) else none) else none) else none) else none)) else none) else none) else none) else none) else none) else none) else none) else none) else none) else none)) else none) else none) else none) else none) else none) else none) else none)) else none) else none) else none) else none) else none) else none) else none) else none) else none) else none) else none) else none) else none) else none) else none) else none) else none) else none) else none) else none) else none) else none) else none) else none) else none) else none) else none) else none)) else none) else none) else none) else none) else none) else none) else none) else none) else none) else none)) else none) else none) else none) else none) else none) else none) else none) else none) else none) else none)) else none) else none) else none) else none) else none) else none) else none)) else none) else none) else none) else none) else none) else none) else none) else none) else none) else none) else none) else none) else none) else none) else none) else none) else none) else none) else none) else none) else none) else none) else none) else none) else none) else none) else none) else ret ((a, c) : Int × List (List L)))
noncomputable def start (J : Pt → Ans) (x0 : List (List L)) (x1 : Int) : Ans := J (.p0 x1 0 x0)
def live : Nat → Live := fun i => match i with | 2 => [(0, none), (1, none), (5, none)] | _ => []
def pats : List (Bool × List K) := [(false, [.sl 241]), (false, [.int .i64])]
def res : RP := .chg [241]
noncomputable abbrev E : Env := { T := assoc Tab, G := conG [], nt := 493, M := conM [(142, laws_markIntS.con), (143, laws_markSigS.con)], np := 1, mt := true }
set_option maxRecDepth 100000
theorem step_eq (I : Heads) (p : Pt) : enterC E live I (pid p) (bodyOf Try.f141) (stOf (live (pid p)) (pvs p) (phs p)) (doneK E Try.f141 res) = step (fun q => I (pid q) (pvs q) (phs q)) p := by
  cases p <;> kernel_rfl
theorem start_eq (I : Heads) (ls : List L) : runC E live I (bodyOf Try.f141) (initM pats ls) (doneK E Try.f141 res) = start (fun q => I (pid q) (pvs q) (phs q)) (ls.headD .hole).toSl ((dropT 1 ls).headD .hole).toInt := by kernel_rfl
theorem run_eq (n : Nat) (ls : List L) : runF E live Try.f141 res n (initM pats ls) = start (iter step n) (ls.headD .hole).toSl ((dropT 1 ls).headD .hole).toInt := runF_iter (id := pid) (vs := pvs) (hs := phs) (step := step) (start := fun J => start J (ls.headD .hole).toSl ((dropT 1 ls).headD .hole).toInt) step_eq (fun I => start_eq I ls) n
noncomputable def e1 (x : MFork) (k : Int) := laws_markIntS.md ((((x.fBefore).fHead).fKeys).fList) (IntKind.i64.wrap ((IntKind.i64.wrap ((IntKind.i64.wrap ((IntKind.i64.wrap ((IntKind.i64.wrap ((IntKind.i64.wrap ((IntKind.i64.wrap ((IntKind.i64.wrap (k + 1)) + 1)) + 1)) + 1)) + 1)) + 1)) + 1)) + 1))
noncomputable def e2 (x : MFork) (k : Int) := laws_markIntS.md ((((x.fBefore).fHead).fHeirs).fList) (IntKind.i64.wrap ((e1 x k).1 + 1))
noncomputable def e3 (x : MFork) (k : Int) := laws_markIntS.md ((((x.fBefore).fHead).fJudge).fList) (IntKind.i64.wrap ((IntKind.i64.wrap ((e2 x k).1 + 1)) + 1))
noncomputable def e4 (x : MFork) (k : Int) := laws_markSigS.md ((x.fBefore).fSigs) (IntKind.i64.wrap ((IntKind.i64.wrap ((e3 x k).1 + 1)) + 1))
noncomputable def e5 (x : MFork) (k : Int) := laws_markIntS.md ((((x.fA).fHead).fKeys).fList) (IntKind.i64.wrap ((IntKind.i64.wrap ((IntKind.i64.wrap ((IntKind.i64.wrap ((IntKind.i64.wrap ((IntKind.i64.wrap ((IntKind.i64.wrap ((IntKind.i64.wrap ((e4 x k).1 + 1)) + 1)) + 1)) + 1)) + 1)) + 1)) + 1)) + 1))
noncomputable def e6 (x : MFork) (k : Int) := laws_markIntS.md ((((x.fA).fHead).fHeirs).fList) (IntKind.i64.wrap ((e5 x k).1 + 1))
noncomputable def e7 (x : MFork) (k : Int) := laws_markIntS.md ((((x.fA).fHead).fJudge).fList) (IntKind.i64.wrap ((IntKind.i64.wrap ((e6 x k).1 + 1)) + 1))
noncomputable def e8 (x : MFork) (k : Int) := laws_markSigS.md ((x.fA).fSigs) (IntKind.i64.wrap ((IntKind.i64.wrap ((e7 x k).1 + 1)) + 1))
noncomputable def e9 (x : MFork) (k : Int) := laws_markIntS.md ((((x.fB).fHead).fKeys).fList) (IntKind.i64.wrap ((IntKind.i64.wrap ((IntKind.i64.wrap ((IntKind.i64.wrap ((IntKind.i64.wrap ((IntKind.i64.wrap ((IntKind.i64.wrap ((IntKind.i64.wrap ((e8 x k).1 + 1)) + 1)) + 1)) + 1)) + 1)) + 1)) + 1)) + 1))
noncomputable def e10 (x : MFork) (k : Int) := laws_markIntS.md ((((x.fB).fHead).fHeirs).fList) (IntKind.i64.wrap ((e9 x k).1 + 1))
noncomputable def e11 (x : MFork) (k : Int) := laws_markIntS.md ((((x.fB).fHead).fJudge).fList) (IntKind.i64.wrap ((IntKind.i64.wrap ((e10 x k).1 + 1)) + 1))
noncomputable def e12 (x : MFork) (k : Int) := laws_markSigS.md ((x.fB).fSigs) (IntKind.i64.wrap ((IntKind.i64.wrap ((e11 x k).1 + 1)) + 1))
noncomputable def el (x : MFork) (k : Int) : Int × MFork := ((e12 x k).1, (⟨(⟨(⟨k, (IntKind.i64.wrap (k + 1)), (IntKind.i64.wrap ((IntKind.i64.wrap (k + 1)) + 1)), (IntKind.i64.wrap ((IntKind.i64.wrap ((IntKind.i64.wrap (k + 1)) + 1)) + 1)), (IntKind.i64.wrap ((IntKind.i64.wrap ((IntKind.i64.wrap ((IntKind.i64.wrap (k + 1)) + 1)) + 1)) + 1)), (IntKind.i64.wrap ((IntKind.i64.wrap ((IntKind.i64.wrap ((IntKind.i64.wrap ((IntKind.i64.wrap (k + 1)) + 1)) + 1)) + 1)) + 1)), (IntKind.i64.wrap ((IntKind.i64.wrap ((IntKind.i64.wrap ((IntKind.i64.wrap ((IntKind.i64.wrap ((IntKind.i64.wrap (k + 1)) + 1)) + 1)) + 1)) + 1)) + 1)), (IntKind.i64.wrap ((IntKind.i64.wrap ((IntKind.i64.wrap ((IntKind.i64.wrap ((IntKind.i64.wrap ((IntKind.i64.wrap ((IntKind.i64.wrap (k + 1)) + 1)) + 1)) + 1)) + 1)) + 1)) + 1)), (⟨(e1 x k).2, (e1 x k).1⟩ : MKeys), (⟨(e2 x k).2, (e2 x k).1⟩ : MKeys), (IntKind.i64.wrap ((e2 x k).1 + 1)), (⟨(e3 x k).2, (e3 x k).1⟩ : MKeys), ((Int.tmod (IntKind.i64.wrap ((e3 x k).1 + 1)) 3) == 0)⟩ : MHead), (e4 x k).2⟩ : MSigned), (⟨(⟨(e4 x k).1, (IntKind.i64.wrap ((e4 x k).1 + 1)), (IntKind.i64.wrap ((IntKind.i64.wrap ((e4 x k).1 + 1)) + 1)), (IntKind.i64.wrap ((IntKind.i64.wrap ((IntKind.i64.wrap ((e4 x k).1 + 1)) + 1)) + 1)), (IntKind.i64.wrap ((IntKind.i64.wrap ((IntKind.i64.wrap ((IntKind.i64.wrap ((e4 x k).1 + 1)) + 1)) + 1)) + 1)), (IntKind.i64.wrap ((IntKind.i64.wrap ((IntKind.i64.wrap ((IntKind.i64.wrap ((IntKind.i64.wrap ((e4 x k).1 + 1)) + 1)) + 1)) + 1)) + 1)), (IntKind.i64.wrap ((IntKind.i64.wrap ((IntKind.i64.wrap ((IntKind.i64.wrap ((IntKind.i64.wrap ((IntKind.i64.wrap ((e4 x k).1 + 1)) + 1)) + 1)) + 1)) + 1)) + 1)), (IntKind.i64.wrap ((IntKind.i64.wrap ((IntKind.i64.wrap ((IntKind.i64.wrap ((IntKind.i64.wrap ((IntKind.i64.wrap ((IntKind.i64.wrap ((e4 x k).1 + 1)) + 1)) + 1)) + 1)) + 1)) + 1)) + 1)), (⟨(e5 x k).2, (e5 x k).1⟩ : MKeys), (⟨(e6 x k).2, (e6 x k).1⟩ : MKeys), (IntKind.i64.wrap ((e6 x k).1 + 1)), (⟨(e7 x k).2, (e7 x k).1⟩ : MKeys), ((Int.tmod (IntKind.i64.wrap ((e7 x k).1 + 1)) 3) == 0)⟩ : MHead), (e8 x k).2⟩ : MSigned), (⟨(⟨(e8 x k).1, (IntKind.i64.wrap ((e8 x k).1 + 1)), (IntKind.i64.wrap ((IntKind.i64.wrap ((e8 x k).1 + 1)) + 1)), (IntKind.i64.wrap ((IntKind.i64.wrap ((IntKind.i64.wrap ((e8 x k).1 + 1)) + 1)) + 1)), (IntKind.i64.wrap ((IntKind.i64.wrap ((IntKind.i64.wrap ((IntKind.i64.wrap ((e8 x k).1 + 1)) + 1)) + 1)) + 1)), (IntKind.i64.wrap ((IntKind.i64.wrap ((IntKind.i64.wrap ((IntKind.i64.wrap ((IntKind.i64.wrap ((e8 x k).1 + 1)) + 1)) + 1)) + 1)) + 1)), (IntKind.i64.wrap ((IntKind.i64.wrap ((IntKind.i64.wrap ((IntKind.i64.wrap ((IntKind.i64.wrap ((IntKind.i64.wrap ((e8 x k).1 + 1)) + 1)) + 1)) + 1)) + 1)) + 1)), (IntKind.i64.wrap ((IntKind.i64.wrap ((IntKind.i64.wrap ((IntKind.i64.wrap ((IntKind.i64.wrap ((IntKind.i64.wrap ((IntKind.i64.wrap ((e8 x k).1 + 1)) + 1)) + 1)) + 1)) + 1)) + 1)) + 1)), (⟨(e9 x k).2, (e9 x k).1⟩ : MKeys), (⟨(e10 x k).2, (e10 x k).1⟩ : MKeys), (IntKind.i64.wrap ((e10 x k).1 + 1)), (⟨(e11 x k).2, (e11 x k).1⟩ : MKeys), ((Int.tmod (IntKind.i64.wrap ((e11 x k).1 + 1)) 3) == 0)⟩ : MHead), (e12 x k).2⟩ : MSigned)⟩ : MFork))
theorem el_I (x : MFork) (k : Int) (hk : I64 k) : I64 (el x k).1 := (laws_markSigS.i64 (wrap_I64 _))
noncomputable def cnt (x : MFork) : Nat := 39 + laws_markIntS.sum ((((x.fBefore).fHead).fKeys).fList) + laws_markIntS.sum ((((x.fBefore).fHead).fHeirs).fList) + laws_markIntS.sum ((((x.fBefore).fHead).fJudge).fList) + laws_markSigS.sum ((x.fBefore).fSigs) + laws_markIntS.sum ((((x.fA).fHead).fKeys).fList) + laws_markIntS.sum ((((x.fA).fHead).fHeirs).fList) + laws_markIntS.sum ((((x.fA).fHead).fJudge).fList) + laws_markSigS.sum ((x.fA).fSigs) + laws_markIntS.sum ((((x.fB).fHead).fKeys).fList) + laws_markIntS.sum ((((x.fB).fHead).fHeirs).fList) + laws_markIntS.sum ((((x.fB).fHead).fJudge).fList) + laws_markSigS.sum ((x.fB).fSigs)
noncomputable def sum (a : List MFork) : Nat := (a.map cnt).sum
noncomputable def md (a0 : List MFork) (a1 : Int) : Int × List MFork := accM el a0 a1
def gd (a0 : List MFork) (a1 : Int) : Prop := I64 a1
def acc (ls : List L) : List (List L) × Int := ((ls.headD .hole).toSl, ((dropT 1 ls).headD .hole).toInt)
noncomputable def R : (List (List L) × Int) → Option (Int × List (List L)) := RR (p2 gd) (u2 md)
theorem R_eq {a0} {a1} (h : gd a0 a1) : R ((a0.map MFork.row), a1) = some ((md a0 a1).1, ((md a0 a1).2.map MFork.row)) := RR_eq (a := (a0, a1)) h
noncomputable def con : MCon := MN pats acc R
theorem okF (a0 : List MFork) (a1 : Int) (hg : gd a0 a1) (h0 : a0.length ≤ maxLen) : ∃ n, start (iter step n) (a0.map MFork.row) a1 = ret (((md a0 a1).1, ((md a0 a1).2.map MFork.row)) : Int × List (List L)) := by
  unfold gd at hg
  show ∃ n, iter step n (Pt.p0 a1 0 (a0.map MFork.row)) = _
  unfold md
  refine mark_loop (el := el) (xs := a0) MFork.zero I64 el_I (pt := fun i k c => Pt.p0 k (i : Int) (c.map MFork.row)) (out := fun b => ret (b.1, b.2.map MFork.row)) (fun J i k c hi hc hk => ?_) (fun J k c hc => ?_) hg
  · have hm : c.length ≤ maxLen := hc ▸ h0
    simp only [step, S0, MKeys.rs, MHead.rs, MSigned.rs, MFork.rs]
    refine yes_ret (lt_dec hi) ?_
    refine yes_ret zle_dec ?_
    refine yes_ret (lt_dec hi) ?_
    refine yes_ret zle_dec ?_
    refine yes_ret (lt_dec hi) ?_
    refine yes_ret (beq_t _) ?_
    refine yes_ret zle_dec ?_
    refine yes_ret (lt_dec hi) ?_
    refine yes_ret (beq_t _) ?_
    refine yes_ret zle_dec ?_
    refine yes_ret (lt_dec hi) ?_
    refine yes_ret (beq_t _) ?_
    refine yes_ret zle_dec ?_
    refine yes_ret (lt_dec hi) ?_
    refine yes_ret (beq_t _) ?_
    refine yes_ret zle_dec ?_
    refine yes_ret (lt_dec hi) ?_
    refine yes_ret (beq_t _) ?_
    refine yes_ret zle_dec ?_
    refine yes_ret (lt_dec hi) ?_
    refine yes_ret (beq_t _) ?_
    refine yes_ret zle_dec ?_
    refine yes_ret (lt_dec hi) ?_
    refine yes_ret (beq_t _) ?_
    refine yes_ret zle_dec ?_
    refine yes_ret (lt_dec hi) ?_
    refine yes_ret (beq_t _) ?_
    refine yes_ret (beq_t _) ?_
    refine call_to ((e1 (c.getD i MFork.zero) k).1, ((e1 (c.getD i MFork.zero) k).2.map iRow)) (laws_markIntS.R_eq (a0 := ((((c.getD i MFork.zero).fBefore).fHead).fKeys).fList) (a1 := IntKind.i64.wrap ((IntKind.i64.wrap ((IntKind.i64.wrap ((IntKind.i64.wrap ((IntKind.i64.wrap ((IntKind.i64.wrap ((IntKind.i64.wrap ((IntKind.i64.wrap (k + 1)) + 1)) + 1)) + 1)) + 1)) + 1)) + 1)) + 1)) (wrap_I64 _)) ?_
    refine yes_ret zle_dec ?_
    refine yes_ret (lt_dec hi) ?_
    refine yes_ret (beq_t _) ?_
    refine yes_ret zle_dec ?_
    refine yes_ret (lt_dec hi) ?_
    refine yes_ret (beq_t _) ?_
    refine yes_ret (beq_t _) ?_
    refine call_to ((e2 (c.getD i MFork.zero) k).1, ((e2 (c.getD i MFork.zero) k).2.map iRow)) (laws_markIntS.R_eq (a0 := ((((c.getD i MFork.zero).fBefore).fHead).fHeirs).fList) (a1 := IntKind.i64.wrap ((e1 (c.getD i MFork.zero) k).1 + 1)) (wrap_I64 _)) ?_
    refine yes_ret zle_dec ?_
    refine yes_ret (lt_dec hi) ?_
    refine yes_ret (beq_t _) ?_
    refine yes_ret zle_dec ?_
    refine yes_ret (lt_dec hi) ?_
    refine yes_ret (beq_t _) ?_
    refine yes_ret zle_dec ?_
    refine yes_ret (lt_dec hi) ?_
    refine yes_ret (beq_t _) ?_
    refine yes_ret (beq_t _) ?_
    refine call_to ((e3 (c.getD i MFork.zero) k).1, ((e3 (c.getD i MFork.zero) k).2.map iRow)) (laws_markIntS.R_eq (a0 := ((((c.getD i MFork.zero).fBefore).fHead).fJudge).fList) (a1 := IntKind.i64.wrap ((IntKind.i64.wrap ((e2 (c.getD i MFork.zero) k).1 + 1)) + 1)) (wrap_I64 _)) ?_
    refine yes_ret zle_dec ?_
    refine yes_ret (lt_dec hi) ?_
    refine yes_ret (beq_t _) ?_
    refine yes_ret zle_dec ?_
    refine yes_ret (lt_dec hi) ?_
    refine yes_ret (beq_t _) ?_
    refine yes_ret zle_dec ?_
    refine yes_ret (lt_dec hi) ?_
    refine yes_ret (beq_t _) ?_
    refine yes_ret (beq_t _) ?_
    refine call_to ((e4 (c.getD i MFork.zero) k).1, ((e4 (c.getD i MFork.zero) k).2.map MSig.row)) (laws_markSigS.R_eq (a0 := ((c.getD i MFork.zero).fBefore).fSigs) (a1 := IntKind.i64.wrap ((IntKind.i64.wrap ((e3 (c.getD i MFork.zero) k).1 + 1)) + 1)) (wrap_I64 _)) ?_
    refine yes_ret zle_dec ?_
    refine yes_ret (lt_dec hi) ?_
    refine yes_ret (beq_t _) ?_
    refine yes_ret zle_dec ?_
    refine yes_ret (lt_dec hi) ?_
    refine yes_ret (beq_t _) ?_
    refine yes_ret zle_dec ?_
    refine yes_ret (lt_dec hi) ?_
    refine yes_ret (beq_t _) ?_
    refine yes_ret zle_dec ?_
    refine yes_ret (lt_dec hi) ?_
    refine yes_ret (beq_t _) ?_
    refine yes_ret zle_dec ?_
    refine yes_ret (lt_dec hi) ?_
    refine yes_ret (beq_t _) ?_
    refine yes_ret zle_dec ?_
    refine yes_ret (lt_dec hi) ?_
    refine yes_ret (beq_t _) ?_
    refine yes_ret zle_dec ?_
    refine yes_ret (lt_dec hi) ?_
    refine yes_ret (beq_t _) ?_
    refine yes_ret zle_dec ?_
    refine yes_ret (lt_dec hi) ?_
    refine yes_ret (beq_t _) ?_
    refine yes_ret zle_dec ?_
    refine yes_ret (lt_dec hi) ?_
    refine yes_ret (beq_t _) ?_
    refine yes_ret (beq_t _) ?_
    refine call_to ((e5 (c.getD i MFork.zero) k).1, ((e5 (c.getD i MFork.zero) k).2.map iRow)) (laws_markIntS.R_eq (a0 := ((((c.getD i MFork.zero).fA).fHead).fKeys).fList) (a1 := IntKind.i64.wrap ((IntKind.i64.wrap ((IntKind.i64.wrap ((IntKind.i64.wrap ((IntKind.i64.wrap ((IntKind.i64.wrap ((IntKind.i64.wrap ((IntKind.i64.wrap ((e4 (c.getD i MFork.zero) k).1 + 1)) + 1)) + 1)) + 1)) + 1)) + 1)) + 1)) + 1)) (wrap_I64 _)) ?_
    refine yes_ret zle_dec ?_
    refine yes_ret (lt_dec hi) ?_
    refine yes_ret (beq_t _) ?_
    refine yes_ret zle_dec ?_
    refine yes_ret (lt_dec hi) ?_
    refine yes_ret (beq_t _) ?_
    refine yes_ret (beq_t _) ?_
    refine call_to ((e6 (c.getD i MFork.zero) k).1, ((e6 (c.getD i MFork.zero) k).2.map iRow)) (laws_markIntS.R_eq (a0 := ((((c.getD i MFork.zero).fA).fHead).fHeirs).fList) (a1 := IntKind.i64.wrap ((e5 (c.getD i MFork.zero) k).1 + 1)) (wrap_I64 _)) ?_
    refine yes_ret zle_dec ?_
    refine yes_ret (lt_dec hi) ?_
    refine yes_ret (beq_t _) ?_
    refine yes_ret zle_dec ?_
    refine yes_ret (lt_dec hi) ?_
    refine yes_ret (beq_t _) ?_
    refine yes_ret zle_dec ?_
    refine yes_ret (lt_dec hi) ?_
    refine yes_ret (beq_t _) ?_
    refine yes_ret (beq_t _) ?_
    refine call_to ((e7 (c.getD i MFork.zero) k).1, ((e7 (c.getD i MFork.zero) k).2.map iRow)) (laws_markIntS.R_eq (a0 := ((((c.getD i MFork.zero).fA).fHead).fJudge).fList) (a1 := IntKind.i64.wrap ((IntKind.i64.wrap ((e6 (c.getD i MFork.zero) k).1 + 1)) + 1)) (wrap_I64 _)) ?_
    refine yes_ret zle_dec ?_
    refine yes_ret (lt_dec hi) ?_
    refine yes_ret (beq_t _) ?_
    refine yes_ret zle_dec ?_
    refine yes_ret (lt_dec hi) ?_
    refine yes_ret (beq_t _) ?_
    refine yes_ret zle_dec ?_
    refine yes_ret (lt_dec hi) ?_
    refine yes_ret (beq_t _) ?_
    refine yes_ret (beq_t _) ?_
    refine call_to ((e8 (c.getD i MFork.zero) k).1, ((e8 (c.getD i MFork.zero) k).2.map MSig.row)) (laws_markSigS.R_eq (a0 := ((c.getD i MFork.zero).fA).fSigs) (a1 := IntKind.i64.wrap ((IntKind.i64.wrap ((e7 (c.getD i MFork.zero) k).1 + 1)) + 1)) (wrap_I64 _)) ?_
    refine yes_ret zle_dec ?_
    refine yes_ret (lt_dec hi) ?_
    refine yes_ret (beq_t _) ?_
    refine yes_ret zle_dec ?_
    refine yes_ret (lt_dec hi) ?_
    refine yes_ret (beq_t _) ?_
    refine yes_ret zle_dec ?_
    refine yes_ret (lt_dec hi) ?_
    refine yes_ret (beq_t _) ?_
    refine yes_ret zle_dec ?_
    refine yes_ret (lt_dec hi) ?_
    refine yes_ret (beq_t _) ?_
    refine yes_ret zle_dec ?_
    refine yes_ret (lt_dec hi) ?_
    refine yes_ret (beq_t _) ?_
    refine yes_ret zle_dec ?_
    refine yes_ret (lt_dec hi) ?_
    refine yes_ret (beq_t _) ?_
    refine yes_ret zle_dec ?_
    refine yes_ret (lt_dec hi) ?_
    refine yes_ret (beq_t _) ?_
    refine yes_ret zle_dec ?_
    refine yes_ret (lt_dec hi) ?_
    refine yes_ret (beq_t _) ?_
    refine yes_ret zle_dec ?_
    refine yes_ret (lt_dec hi) ?_
    refine yes_ret (beq_t _) ?_
    refine yes_ret (beq_t _) ?_
    refine call_to ((e9 (c.getD i MFork.zero) k).1, ((e9 (c.getD i MFork.zero) k).2.map iRow)) (laws_markIntS.R_eq (a0 := ((((c.getD i MFork.zero).fB).fHead).fKeys).fList) (a1 := IntKind.i64.wrap ((IntKind.i64.wrap ((IntKind.i64.wrap ((IntKind.i64.wrap ((IntKind.i64.wrap ((IntKind.i64.wrap ((IntKind.i64.wrap ((IntKind.i64.wrap ((e8 (c.getD i MFork.zero) k).1 + 1)) + 1)) + 1)) + 1)) + 1)) + 1)) + 1)) + 1)) (wrap_I64 _)) ?_
    refine yes_ret zle_dec ?_
    refine yes_ret (lt_dec hi) ?_
    refine yes_ret (beq_t _) ?_
    refine yes_ret zle_dec ?_
    refine yes_ret (lt_dec hi) ?_
    refine yes_ret (beq_t _) ?_
    refine yes_ret (beq_t _) ?_
    refine call_to ((e10 (c.getD i MFork.zero) k).1, ((e10 (c.getD i MFork.zero) k).2.map iRow)) (laws_markIntS.R_eq (a0 := ((((c.getD i MFork.zero).fB).fHead).fHeirs).fList) (a1 := IntKind.i64.wrap ((e9 (c.getD i MFork.zero) k).1 + 1)) (wrap_I64 _)) ?_
    refine yes_ret zle_dec ?_
    refine yes_ret (lt_dec hi) ?_
    refine yes_ret (beq_t _) ?_
    refine yes_ret zle_dec ?_
    refine yes_ret (lt_dec hi) ?_
    refine yes_ret (beq_t _) ?_
    refine yes_ret zle_dec ?_
    refine yes_ret (lt_dec hi) ?_
    refine yes_ret (beq_t _) ?_
    refine yes_ret (beq_t _) ?_
    refine call_to ((e11 (c.getD i MFork.zero) k).1, ((e11 (c.getD i MFork.zero) k).2.map iRow)) (laws_markIntS.R_eq (a0 := ((((c.getD i MFork.zero).fB).fHead).fJudge).fList) (a1 := IntKind.i64.wrap ((IntKind.i64.wrap ((e10 (c.getD i MFork.zero) k).1 + 1)) + 1)) (wrap_I64 _)) ?_
    refine yes_ret zle_dec ?_
    refine yes_ret (lt_dec hi) ?_
    refine yes_ret (beq_t _) ?_
    refine yes_ret zle_dec ?_
    refine yes_ret (lt_dec hi) ?_
    refine yes_ret (beq_t _) ?_
    refine yes_ret zle_dec ?_
    refine yes_ret (lt_dec hi) ?_
    refine yes_ret (beq_t _) ?_
    refine yes_ret (beq_t _) ?_
    refine call_to ((e12 (c.getD i MFork.zero) k).1, ((e12 (c.getD i MFork.zero) k).2.map MSig.row)) (laws_markSigS.R_eq (a0 := ((c.getD i MFork.zero).fB).fSigs) (a1 := IntKind.i64.wrap ((IntKind.i64.wrap ((e11 (c.getD i MFork.zero) k).1 + 1)) + 1)) (wrap_I64 _)) ?_
    rw [wrap_succ hi hm]
    exact congrArg (fun q => J (Pt.p0 (el (c.getD i MFork.zero) k).1 ((i + 1 : Nat) : Int) q)) (List.map_set (f := MFork.row) (l := c) (i := i) (a := (el (c.getD i MFork.zero) k).2)).symm
  · simp only [step, S0, MKeys.rs, MHead.rs, MSigned.rs, MFork.rs]
    refine no_ret (by apply decide_eq_false; omega) ?_
    rfl
theorem valid_ : MValid Try.prog Ev 141 con := MV (run := fun n x => start (iter step n) x.1 x.2) mix tab_ok .nil (.cons laws_markIntS.valid_ (.cons laws_markSigS.valid_ .nil)) Try.func141 (by kernel_rfl) run_eq (fun ls a hl e hg => okF a.1 a.2 hg (by have h : (ls.headD .hole).toSl.length ≤ maxLen := (hl _ _ (.head _)).len; have e : a.1.map MFork.row = (ls.headD .hole).toSl := (congrArg (fun x => x.1) e.symm); rw [← e] at h; simpa using h))
theorem i64 {a0 : List MFork} {a1 : Int} (h : I64 a1) : I64 (md a0 a1).1 := accM_I el_I h
theorem elk (x : MFork) (k : Int) (h0 : 0 ≤ k) (hb : k + (cnt x : Int) ≤ 4611686018427387904) : (el x k).1 = k + cnt x := by
  simp only [cnt, Int.natCast_add] at hb ⊢
  simp (disch := omega) only [el, e1, e2, e3, e4, e5, e6, e7, e8, e9, e10, e11, e12, wi, laws_markIntS.kk, laws_markSigS.kk]
  all_goals first | done | omega
theorem kk (a0 : List MFork) (a1 : Int) (h0 : 0 ≤ a1) (hb : a1 + (sum a0 : Int) ≤ 4611686018427387904) : (md a0 a1).1 = a1 + sum a0 := accM_sum elk a0 a1 h0 hb
theorem sz (a : List MFork) : sum a ≤ 60 * (szL (fun y : MFork => MFork.size y) a) := sum_le (fun x => by
    have := laws_markIntS.sz ((((x.fBefore).fHead).fKeys).fList)
    have := laws_markIntS.sz ((((x.fBefore).fHead).fHeirs).fList)
    have := laws_markIntS.sz ((((x.fBefore).fHead).fJudge).fList)
    have := laws_markSigS.sz ((x.fBefore).fSigs)
    have := laws_markIntS.sz ((((x.fA).fHead).fKeys).fList)
    have := laws_markIntS.sz ((((x.fA).fHead).fHeirs).fList)
    have := laws_markIntS.sz ((((x.fA).fHead).fJudge).fList)
    have := laws_markSigS.sz ((x.fA).fSigs)
    have := laws_markIntS.sz ((((x.fB).fHead).fKeys).fList)
    have := laws_markIntS.sz ((((x.fB).fHead).fHeirs).fList)
    have := laws_markIntS.sz ((((x.fB).fHead).fJudge).fList)
    have := laws_markSigS.sz ((x.fB).fSigs)
    simp only [cnt, MFork.size, MSigned.size, MHead.size, MKeys.size]
    omega) a
end laws_markForkS
/-! laws.markKnown -/
namespace laws_markKnown
set_option maxRecDepth 100000
set_option maxHeartbeats 8000000
noncomputable def F (x0 : RKnown) (x1 : Int) : Ans := (call (laws_markSignedSS.R (x0.fChains, x1)) fun v1 => (call (laws_markForkS.R (x0.fForks, v1.1)) fun v2 => ret ((v2.1, v1.2, v2.2) : Int × List (List L) × List (List L))))
def pats : List (Bool × List K) := [(true, [.sl 79, .sl 241]), (false, [.int .i64])]
def res : RP := .chg [79, 241]
noncomputable abbrev E : Env := { T := assoc Tab, G := conG [], nt := 14, M := conM [(140, laws_markSignedSS.con), (141, laws_markForkS.con)], np := 2, mt := true }
set_option maxRecDepth 100000
theorem run_eq (n : Nat) (ls : List L) : runF E (fun _ => []) Try.f58 res n (initM pats ls) = F (RKnown.dec ls) ((dropT 2 ls).headD .hole).toInt := by kernel_rfl
noncomputable def e1 (x : MKnown) (k : Int) := laws_markSignedSS.md x.fChains k
noncomputable def e2 (x : MKnown) (k : Int) := laws_markForkS.md x.fForks ((e1 x k).1)
noncomputable def sum (x : MKnown) : Nat := 0 + laws_markSignedSS.sum x.fChains + laws_markForkS.sum x.fForks
noncomputable def md (a0 : MKnown) (a1 : Int) : Int × List (List MSigned) × List MFork := ((e2 a0 a1).1, (e1 a0 a1).2, (e2 a0 a1).2)
def gd (a0 : MKnown) (a1 : Int) : Prop := I64 a1
def acc (ls : List L) : RKnown × Int := ((RKnown.dec ls), ((dropT 2 ls).headD .hole).toInt)
noncomputable def R : (RKnown × Int) → Option (Int × List (List L) × List (List L)) := RR (p2 gd) (u2 md)
theorem R_eq {a0} {a1} (h : gd a0 a1) : R ((MKnown.r a0), a1) = some ((md a0 a1).1, ((md a0 a1).2.1.map (lRow MSigned.row)), ((md a0 a1).2.2.map MFork.row)) := RR_eq (a := (a0, a1)) h
noncomputable def con : MCon := MN pats acc R
theorem okF (a0 : MKnown) (a1 : Int) (hg : gd a0 a1) : F (MKnown.r a0) a1 = ret (((md a0 a1).1, ((md a0 a1).2.1.map (lRow MSigned.row)), ((md a0 a1).2.2.map MFork.row)) : Int × List (List L) × List (List L)) := by
  unfold gd at hg
  simp only [F, S0, MKnown.rs]
  unfold md
  refine call_to ((e1 a0 a1).1, ((e1 a0 a1).2.map (lRow MSigned.row))) (laws_markSignedSS.R_eq (a0 := a0.fChains) (a1 := a1) hg) ?_
  refine call_to ((e2 a0 a1).1, ((e2 a0 a1).2.map MFork.row)) (laws_markForkS.R_eq (a0 := a0.fForks) (a1 := (e1 a0 a1).1) (laws_markSignedSS.i64 hg)) ?_
  first | rfl | (simp only [S0, MKnown.rs]; rfl)
theorem valid_ : MValid Try.prog Ev 58 con := MV (run := fun _ x => F x.1 x.2) mix tab_ok .nil (.cons laws_markSignedSS.valid_ (.cons laws_markForkS.valid_ .nil)) Try.func58 (by kernel_rfl) run_eq (fun _ a _ _ hg => ⟨0, okF a.1 a.2 hg⟩)
theorem i64 {a0 : MKnown} {a1 : Int} (hk : I64 a1) : I64 (md a0 a1).1 := (laws_markForkS.i64 (laws_markSignedSS.i64 hk))
theorem kk (x : MKnown) (k : Int) (h0 : 0 ≤ k) (hb : k + (sum x : Int) ≤ 4611686018427387904) : (md x k).1 = k + sum x := by
  simp only [sum, Int.natCast_add] at hb ⊢
  simp (disch := omega) only [md, e1, e2, wi, laws_markSignedSS.kk, laws_markForkS.kk]
  all_goals first | done | omega
theorem sz (x : MKnown) : sum x ≤ 60 * MKnown.size x := by
    have := laws_markSignedSS.sz x.fChains
    have := laws_markForkS.sz x.fForks
    simp only [sum, MKnown.size]
    omega
noncomputable def upd (x : MKnown) (k : Int) : MKnown := (⟨(md x k).2.1, (md x k).2.2⟩ : MKnown)
end laws_markKnown
/-! laws.heldIntS -/
namespace laws_heldIntS
set_option maxRecDepth 100000
set_option maxHeartbeats 8000000
inductive Pt where
  | p0 (a : List (List L)) (b : Int) (c : Int)
def pid : Pt → Nat
  | .p0 .. => 2
def pvs : Pt → List V
  | .p0 a b c => [.sl none 3 a, .int .i64 b, .int .i64 c]
def phs : Pt → List Root
  | .p0 a b c => []
noncomputable def step (J : Pt → Ans) : Pt → Ans
  | .p0 a b c => (bif (decide (c < (a.length : Int))) then (bif (decide ((0 : Int) ≤ c)) then (bif (decide (c < (a.length : Int))) then (bif ((iAt a (Int.toNat c)) != b) then ret ((-1) : Int) else J (.p0 a (IntKind.i64.wrap (b + 1)) (IntKind.i64.wrap (c + 1)))) else none) else none) else ret (b : Int))
noncomputable def start (J : Pt → Ans) (x0 : List (List L)) (x1 : Int) : Ans := J (.p0 x0 x1 0)
def live : Nat → Live := fun i => match i with | 2 => [(0, none), (1, none), (5, none)] | _ => []
def pats : List Pat := [.rd (.sl 3), .rd (.int .i64)]
def res : RP := .one (.rd (.int .i64))
noncomputable abbrev E : Env := { T := assoc Tab, G := conG [], nt := 21 }
set_option maxRecDepth 100000
theorem step_eq (I : Heads) (p : Pt) : enterC E live I (pid p) (bodyOf Try.f144) (stOf (live (pid p)) (pvs p) (phs p)) (doneK E Try.f144 res) = step (fun q => I (pid q) (pvs q) (phs q)) p := by
  cases p <;> kernel_rfl
theorem start_eq (I : Heads) (ls : List L) : runC E live I (bodyOf Try.f144) (initS pats ls) (doneK E Try.f144 res) = start (fun q => I (pid q) (pvs q) (phs q)) (ls.headD .hole).toSl ((dropT 1 ls).headD .hole).toInt := by kernel_rfl
theorem run_eq (n : Nat) (ls : List L) : runF E live Try.f144 res n (initS pats ls) = start (iter step n) (ls.headD .hole).toSl ((dropT 1 ls).headD .hole).toInt := runF_iter (id := pid) (vs := pvs) (hs := phs) (step := step) (start := fun J => start J (ls.headD .hole).toSl ((dropT 1 ls).headD .hole).toInt) step_eq (fun I => start_eq I ls) n
noncomputable def f (x : Int) (k : Int) : Option Int := (bif (x != k) then none else (some (IntKind.i64.wrap (k + 1))))
theorem f_I (x : Int) (k k2 : Int) (hk : I64 k) (h : f x k = some k2) : I64 k2 := by
  unfold f at h
  have h := bif_some h
  injection h with h
  subst h
  exact (wrap_I64 _)
noncomputable def md (a0 : List Int) (a1 : Int) : Int := heldM f a0 a1
def gd (a0 : List Int) (a1 : Int) : Prop := I64 a1
def acc (ls : List L) : List (List L) × Int := ((ls.headD .hole).toSl, ((dropT 1 ls).headD .hole).toInt)
noncomputable def R : (List (List L) × Int) → Option Int := RR (p2 gd) (u2 md)
theorem R_eq {a0} {a1} (h : gd a0 a1) : R ((a0.map iRow), a1) = some (md a0 a1) := RR_eq (a := (a0, a1)) h
noncomputable def con : Con := CN pats res acc R
theorem okF (a0 : List Int) (a1 : Int) (hg : gd a0 a1) (h0 : a0.length ≤ maxLen) : ∃ n, start (iter step n) (a0.map iRow) a1 = ret ((md a0 a1) : Int) := by
  unfold gd at hg
  show ∃ n, iter step n (Pt.p0 (a0.map iRow) a1 0) = _
  unfold md
  refine held_loop (f := f) (xs := a0) 0 I64 f_I (pt := fun i k => Pt.p0 (a0.map iRow) k (i : Int)) (fun J i k hi hk => ?_) (fun J k => ?_) hg
  · simp only [step, S0]
    refine yes_ret (lt_dec hi) ?_
    refine yes_ret zle_dec ?_
    refine yes_ret (lt_dec hi) ?_
    refine held_bif rfl ?_
    rw [wrap_succ hi h0]
    rfl
  · simp only [step, S0]
    refine no_ret (by apply decide_eq_false; omega) ?_
    rfl
theorem valid_ : Valid Try.prog Ev 144 con := VV (run := fun n x => start (iter step n) x.1 x.2) mix tab_ok .nil Try.func144 (by kernel_rfl) run_eq (fun ls a hl e hg => okF a.1 a.2 hg (by have h : (ls.headD .hole).toSl.length ≤ maxLen := hl.1.len; have e : a.1.map iRow = (ls.headD .hole).toSl := (congrArg (fun x => x.1) e.symm); rw [← e] at h; simpa using h))
theorem i64 {a0 : List Int} {a1 : Int} (h : I64 a1) : I64 (md a0 a1) := heldM_I f_I I64_neg h
theorem elh (x : Int) (k : Int) (h0 : 0 ≤ k) (hb : k + (laws_markIntS.cnt x : Int) ≤ 4611686018427387904) : f (laws_markIntS.el x k).2 k = some (k + laws_markIntS.cnt x) := by
  simp only [laws_markIntS.cnt, Int.natCast_add] at hb ⊢
  simp (disch := omega) only [laws_markIntS.el, f, wi, bne_self_eq_false, beq_self_eq_true, ba_refl, Bool.not_true, cond_false, dec_neg]
  all_goals first | done | omega | (congr 1 <;> omega)
theorem mk (a0 : List Int) (a1 : Int) (h0 : 0 ≤ a1) (hb : a1 + (laws_markIntS.sum a0 : Int) ≤ 4611686018427387904) : md (laws_markIntS.md a0 a1).2 a1 = a1 + laws_markIntS.sum a0 := held_mark laws_markIntS.elk elh a0 a1 h0 hb
end laws_heldIntS
/-! laws.heldSigS -/
namespace laws_heldSigS
set_option maxRecDepth 100000
set_option maxHeartbeats 8000000
inductive Pt where
  | p0 (a : List (List L)) (b : Int) (c : Int)
def pid : Pt → Nat
  | .p0 .. => 2
def pvs : Pt → List V
  | .p0 a b c => [.sl none 248 a, .int .i64 b, .int .i64 c]
def phs : Pt → List Root
  | .p0 a b c => []
noncomputable def step (J : Pt → Ans) : Pt → Ans
  | .p0 a b c => (bif (decide (c < (a.length : Int))) then (bif (decide ((0 : Int) ≤ c)) then (bif (decide (c < (a.length : Int))) then (bif ((MSig.at a (Int.toNat c)).fKey != b) then ret ((-1) : Int) else (bif (decide ((0 : Int) ≤ c)) then (bif (decide (c < (a.length : Int))) then (bif ((MSig.at a (Int.toNat c)).fTag != (IntKind.i64.wrap (b + 1))) then ret ((-1) : Int) else J (.p0 a (IntKind.i64.wrap ((IntKind.i64.wrap (b + 1)) + 1)) (IntKind.i64.wrap (c + 1)))) else none) else none)) else none) else none) else ret (b : Int))
noncomputable def start (J : Pt → Ans) (x0 : List (List L)) (x1 : Int) : Ans := J (.p0 x0 x1 0)
def live : Nat → Live := fun i => match i with | 2 => [(0, none), (1, none), (5, none)] | _ => []
def pats : List Pat := [.rd (.sl 248), .rd (.int .i64)]
def res : RP := .one (.rd (.int .i64))
noncomputable abbrev E : Env := { T := assoc Tab, G := conG [], nt := 31 }
set_option maxRecDepth 100000
theorem step_eq (I : Heads) (p : Pt) : enterC E live I (pid p) (bodyOf Try.f145) (stOf (live (pid p)) (pvs p) (phs p)) (doneK E Try.f145 res) = step (fun q => I (pid q) (pvs q) (phs q)) p := by
  cases p <;> kernel_rfl
theorem start_eq (I : Heads) (ls : List L) : runC E live I (bodyOf Try.f145) (initS pats ls) (doneK E Try.f145 res) = start (fun q => I (pid q) (pvs q) (phs q)) (ls.headD .hole).toSl ((dropT 1 ls).headD .hole).toInt := by kernel_rfl
theorem run_eq (n : Nat) (ls : List L) : runF E live Try.f145 res n (initS pats ls) = start (iter step n) (ls.headD .hole).toSl ((dropT 1 ls).headD .hole).toInt := runF_iter (id := pid) (vs := pvs) (hs := phs) (step := step) (start := fun J => start J (ls.headD .hole).toSl ((dropT 1 ls).headD .hole).toInt) step_eq (fun I => start_eq I ls) n
noncomputable def f (x : MSig) (k : Int) : Option Int := (bif (x.fKey != k) then none else (bif (x.fTag != (IntKind.i64.wrap (k + 1))) then none else (some (IntKind.i64.wrap ((IntKind.i64.wrap (k + 1)) + 1)))))
theorem f_I (x : MSig) (k k2 : Int) (hk : I64 k) (h : f x k = some k2) : I64 k2 := by
  unfold f at h
  have h := bif_some h
  have h := bif_some h
  injection h with h
  subst h
  exact (wrap_I64 _)
noncomputable def md (a0 : List MSig) (a1 : Int) : Int := heldM f a0 a1
def gd (a0 : List MSig) (a1 : Int) : Prop := I64 a1
def acc (ls : List L) : List (List L) × Int := ((ls.headD .hole).toSl, ((dropT 1 ls).headD .hole).toInt)
noncomputable def R : (List (List L) × Int) → Option Int := RR (p2 gd) (u2 md)
theorem R_eq {a0} {a1} (h : gd a0 a1) : R ((a0.map MSig.row), a1) = some (md a0 a1) := RR_eq (a := (a0, a1)) h
noncomputable def con : Con := CN pats res acc R
theorem okF (a0 : List MSig) (a1 : Int) (hg : gd a0 a1) (h0 : a0.length ≤ maxLen) : ∃ n, start (iter step n) (a0.map MSig.row) a1 = ret ((md a0 a1) : Int) := by
  unfold gd at hg
  show ∃ n, iter step n (Pt.p0 (a0.map MSig.row) a1 0) = _
  unfold md
  refine held_loop (f := f) (xs := a0) MSig.zero I64 f_I (pt := fun i k => Pt.p0 (a0.map MSig.row) k (i : Int)) (fun J i k hi hk => ?_) (fun J k => ?_) hg
  · simp only [step, S0, MSig.rs]
    refine yes_ret (lt_dec hi) ?_
    refine yes_ret zle_dec ?_
    refine yes_ret (lt_dec hi) ?_
    refine held_bif rfl ?_
    refine yes_ret zle_dec ?_
    refine yes_ret (lt_dec hi) ?_
    refine held_bif rfl ?_
    rw [wrap_succ hi h0]
    rfl
  · simp only [step, S0, MSig.rs]
    refine no_ret (by apply decide_eq_false; omega) ?_
    rfl
theorem valid_ : Valid Try.prog Ev 145 con := VV (run := fun n x => start (iter step n) x.1 x.2) mix tab_ok .nil Try.func145 (by kernel_rfl) run_eq (fun ls a hl e hg => okF a.1 a.2 hg (by have h : (ls.headD .hole).toSl.length ≤ maxLen := hl.1.len; have e : a.1.map MSig.row = (ls.headD .hole).toSl := (congrArg (fun x => x.1) e.symm); rw [← e] at h; simpa using h))
theorem i64 {a0 : List MSig} {a1 : Int} (h : I64 a1) : I64 (md a0 a1) := heldM_I f_I I64_neg h
theorem elh (x : MSig) (k : Int) (h0 : 0 ≤ k) (hb : k + (laws_markSigS.cnt x : Int) ≤ 4611686018427387904) : f (laws_markSigS.el x k).2 k = some (k + laws_markSigS.cnt x) := by
  simp only [laws_markSigS.cnt, Int.natCast_add] at hb ⊢
  simp (disch := omega) only [laws_markSigS.el, f, wi, bne_self_eq_false, beq_self_eq_true, ba_refl, Bool.not_true, cond_false, dec_neg]
  all_goals first | done | omega | (congr 1 <;> omega)
theorem mk (a0 : List MSig) (a1 : Int) (h0 : 0 ≤ a1) (hb : a1 + (laws_markSigS.sum a0 : Int) ≤ 4611686018427387904) : md (laws_markSigS.md a0 a1).2 a1 = a1 + laws_markSigS.sum a0 := held_mark laws_markSigS.elk elh a0 a1 h0 hb
end laws_heldSigS
/-! laws.heldSignedS -/
namespace laws_heldSignedS
set_option maxRecDepth 100000
set_option maxHeartbeats 8000000
inductive Pt where
  | p0 (a : List (List L)) (b : Int) (c : Int)
def pid : Pt → Nat
  | .p0 .. => 2
def pvs : Pt → List V
  | .p0 a b c => [.sl none 184 a, .int .i64 b, .int .i64 c]
def phs : Pt → List Root
  | .p0 a b c => []
noncomputable def step (J : Pt → Ans) : Pt → Ans
  | .p0 a b c => (bif (decide (c < (a.length : Int))) then (bif (decide ((0 : Int) ≤ c)) then (bif (decide (c < (a.length : Int))) then (bif ((RSigned.at a (Int.toNat c)).fHead.fZone != b) then ret ((-1) : Int) else (bif (decide ((0 : Int) ≤ c)) then (bif (decide (c < (a.length : Int))) then (bif ((RSigned.at a (Int.toNat c)).fHead.fEpoch != (IntKind.i64.wrap (b + 1))) then ret ((-1) : Int) else (bif (decide ((0 : Int) ≤ c)) then (bif (decide (c < (a.length : Int))) then (bif ((RSigned.at a (Int.toNat c)).fHead.fKind != (IntKind.i64.wrap ((IntKind.i64.wrap (b + 1)) + 1))) then ret ((-1) : Int) else (bif (decide ((0 : Int) ≤ c)) then (bif (decide (c < (a.length : Int))) then (bif ((RSigned.at a (Int.toNat c)).fHead.fTime != (IntKind.i64.wrap ((IntKind.i64.wrap ((IntKind.i64.wrap (b + 1)) + 1)) + 1))) then ret ((-1) : Int) else (bif (decide ((0 : Int) ≤ c)) then (bif (decide (c < (a.length : Int))) then (bif ((RSigned.at a (Int.toNat c)).fHead.fUntil != (IntKind.i64.wrap ((IntKind.i64.wrap ((IntKind.i64.wrap ((IntKind.i64.wrap (b + 1)) + 1)) + 1)) + 1))) then ret ((-1) : Int) else (bif (decide ((0 : Int) ≤ c)) then (bif (decide (c < (a.length : Int))) then (bif ((RSigned.at a (Int.toNat c)).fHead.fCount != (IntKind.i64.wrap ((IntKind.i64.wrap ((IntKind.i64.wrap ((IntKind.i64.wrap ((IntKind.i64.wrap (b + 1)) + 1)) + 1)) + 1)) + 1))) then ret ((-1) : Int) else (bif (decide ((0 : Int) ≤ c)) then (bif (decide (c < (a.length : Int))) then (bif ((RSigned.at a (Int.toNat c)).fHead.fRoot != (IntKind.i64.wrap ((IntKind.i64.wrap ((IntKind.i64.wrap ((IntKind.i64.wrap ((IntKind.i64.wrap ((IntKind.i64.wrap (b + 1)) + 1)) + 1)) + 1)) + 1)) + 1))) then ret ((-1) : Int) else (bif (decide ((0 : Int) ≤ c)) then (bif (decide (c < (a.length : Int))) then (bif ((RSigned.at a (Int.toNat c)).fHead.fPrev != (IntKind.i64.wrap ((IntKind.i64.wrap ((IntKind.i64.wrap ((IntKind.i64.wrap ((IntKind.i64.wrap ((IntKind.i64.wrap ((IntKind.i64.wrap (b + 1)) + 1)) + 1)) + 1)) + 1)) + 1)) + 1))) then ret ((-1) : Int) else (bif (decide ((0 : Int) ≤ c)) then (bif (decide (c < (a.length : Int))) then (call (laws_heldIntS.R ((RSigned.at a (Int.toNat c)).fHead.fKeys.fList, (IntKind.i64.wrap ((IntKind.i64.wrap ((IntKind.i64.wrap ((IntKind.i64.wrap ((IntKind.i64.wrap ((IntKind.i64.wrap ((IntKind.i64.wrap ((IntKind.i64.wrap (b + 1)) + 1)) + 1)) + 1)) + 1)) + 1)) + 1)) + 1)))) fun v1 => (bif (decide (v1 < 0)) then ret ((-1) : Int) else (bif (decide ((0 : Int) ≤ c)) then (bif (decide (c < (a.length : Int))) then (bif ((RSigned.at a (Int.toNat c)).fHead.fKeys.fNeed != v1) then ret ((-1) : Int) else (bif (decide ((0 : Int) ≤ c)) then (bif (decide (c < (a.length : Int))) then (call (laws_heldIntS.R ((RSigned.at a (Int.toNat c)).fHead.fHeirs.fList, (IntKind.i64.wrap (v1 + 1)))) fun v2 => (bif (decide (v2 < 0)) then ret ((-1) : Int) else (bif (decide ((0 : Int) ≤ c)) then (bif (decide (c < (a.length : Int))) then (bif ((RSigned.at a (Int.toNat c)).fHead.fHeirs.fNeed != v2) then ret ((-1) : Int) else (bif (decide ((0 : Int) ≤ c)) then (bif (decide (c < (a.length : Int))) then (bif ((RSigned.at a (Int.toNat c)).fHead.fWait != (IntKind.i64.wrap (v2 + 1))) then ret ((-1) : Int) else (bif (decide ((0 : Int) ≤ c)) then (bif (decide (c < (a.length : Int))) then (call (laws_heldIntS.R ((RSigned.at a (Int.toNat c)).fHead.fJudge.fList, (IntKind.i64.wrap ((IntKind.i64.wrap (v2 + 1)) + 1)))) fun v3 => (bif (decide (v3 < 0)) then ret ((-1) : Int) else (bif (decide ((0 : Int) ≤ c)) then (bif (decide (c < (a.length : Int))) then (bif ((RSigned.at a (Int.toNat c)).fHead.fJudge.fNeed != v3) then ret ((-1) : Int) else (bif (decide ((0 : Int) ≤ c)) then (bif (decide (c < (a.length : Int))) then (bif (!((RSigned.at a (Int.toNat c)).fHead.fFrozen == ((Int.tmod (IntKind.i64.wrap (v3 + 1)) 3) == 0))) then ret ((-1) : Int) else (bif (decide ((0 : Int) ≤ c)) then (bif (decide (c < (a.length : Int))) then (call (laws_heldSigS.R ((RSigned.at a (Int.toNat c)).fSigs, (IntKind.i64.wrap ((IntKind.i64.wrap (v3 + 1)) + 1)))) fun v4 => (bif (decide (v4 < 0)) then ret ((-1) : Int) else J (.p0 a v4 (IntKind.i64.wrap (c + 1))))) else none) else none)) else none) else none)) else none) else none))) else none) else none)) else none) else none)) else none) else none))) else none) else none)) else none) else none))) else none) else none)) else none) else none)) else none) else none)) else none) else none)) else none) else none)) else none) else none)) else none) else none)) else none) else none)) else none) else none) else ret (b : Int))
noncomputable def start (J : Pt → Ans) (x0 : List (List L)) (x1 : Int) : Ans := J (.p0 x0 x1 0)
def live : Nat → Live := fun i => match i with | 2 => [(0, none), (1, none), (5, none)] | _ => []
def pats : List Pat := [.rd (.sl 184), .rd (.int .i64)]
def res : RP := .one (.rd (.int .i64))
noncomputable abbrev E : Env := { T := assoc Tab, G := conG [(144, laws_heldIntS.con), (145, laws_heldSigS.con)], nt := 190 }
set_option maxRecDepth 100000
theorem step_eq (I : Heads) (p : Pt) : enterC E live I (pid p) (bodyOf Try.f60) (stOf (live (pid p)) (pvs p) (phs p)) (doneK E Try.f60 res) = step (fun q => I (pid q) (pvs q) (phs q)) p := by
  cases p <;> kernel_rfl
theorem start_eq (I : Heads) (ls : List L) : runC E live I (bodyOf Try.f60) (initS pats ls) (doneK E Try.f60 res) = start (fun q => I (pid q) (pvs q) (phs q)) (ls.headD .hole).toSl ((dropT 1 ls).headD .hole).toInt := by kernel_rfl
theorem run_eq (n : Nat) (ls : List L) : runF E live Try.f60 res n (initS pats ls) = start (iter step n) (ls.headD .hole).toSl ((dropT 1 ls).headD .hole).toInt := runF_iter (id := pid) (vs := pvs) (hs := phs) (step := step) (start := fun J => start J (ls.headD .hole).toSl ((dropT 1 ls).headD .hole).toInt) step_eq (fun I => start_eq I ls) n
noncomputable def e1 (x : MSigned) (k : Int) := laws_heldIntS.md (((x.fHead).fKeys).fList) (IntKind.i64.wrap ((IntKind.i64.wrap ((IntKind.i64.wrap ((IntKind.i64.wrap ((IntKind.i64.wrap ((IntKind.i64.wrap ((IntKind.i64.wrap ((IntKind.i64.wrap (k + 1)) + 1)) + 1)) + 1)) + 1)) + 1)) + 1)) + 1))
noncomputable def e2 (x : MSigned) (k : Int) := laws_heldIntS.md (((x.fHead).fHeirs).fList) (IntKind.i64.wrap ((e1 x k) + 1))
noncomputable def e3 (x : MSigned) (k : Int) := laws_heldIntS.md (((x.fHead).fJudge).fList) (IntKind.i64.wrap ((IntKind.i64.wrap ((e2 x k) + 1)) + 1))
noncomputable def e4 (x : MSigned) (k : Int) := laws_heldSigS.md x.fSigs (IntKind.i64.wrap ((IntKind.i64.wrap ((e3 x k) + 1)) + 1))
noncomputable def f (x : MSigned) (k : Int) : Option Int := (bif ((x.fHead).fZone != k) then none else (bif ((x.fHead).fEpoch != (IntKind.i64.wrap (k + 1))) then none else (bif ((x.fHead).fKind != (IntKind.i64.wrap ((IntKind.i64.wrap (k + 1)) + 1))) then none else (bif ((x.fHead).fTime != (IntKind.i64.wrap ((IntKind.i64.wrap ((IntKind.i64.wrap (k + 1)) + 1)) + 1))) then none else (bif ((x.fHead).fUntil != (IntKind.i64.wrap ((IntKind.i64.wrap ((IntKind.i64.wrap ((IntKind.i64.wrap (k + 1)) + 1)) + 1)) + 1))) then none else (bif ((x.fHead).fCount != (IntKind.i64.wrap ((IntKind.i64.wrap ((IntKind.i64.wrap ((IntKind.i64.wrap ((IntKind.i64.wrap (k + 1)) + 1)) + 1)) + 1)) + 1))) then none else (bif ((x.fHead).fRoot != (IntKind.i64.wrap ((IntKind.i64.wrap ((IntKind.i64.wrap ((IntKind.i64.wrap ((IntKind.i64.wrap ((IntKind.i64.wrap (k + 1)) + 1)) + 1)) + 1)) + 1)) + 1))) then none else (bif ((x.fHead).fPrev != (IntKind.i64.wrap ((IntKind.i64.wrap ((IntKind.i64.wrap ((IntKind.i64.wrap ((IntKind.i64.wrap ((IntKind.i64.wrap ((IntKind.i64.wrap (k + 1)) + 1)) + 1)) + 1)) + 1)) + 1)) + 1))) then none else (bif (decide ((e1 x k) < 0)) then none else (bif (((x.fHead).fKeys).fNeed != (e1 x k)) then none else (bif (decide ((e2 x k) < 0)) then none else (bif (((x.fHead).fHeirs).fNeed != (e2 x k)) then none else (bif ((x.fHead).fWait != (IntKind.i64.wrap ((e2 x k) + 1))) then none else (bif (decide ((e3 x k) < 0)) then none else (bif (((x.fHead).fJudge).fNeed != (e3 x k)) then none else (bif (!((x.fHead).fFrozen == ((Int.tmod (IntKind.i64.wrap ((e3 x k) + 1)) 3) == 0))) then none else (bif (decide ((e4 x k) < 0)) then none else (some (e4 x k)))))))))))))))))))
theorem f_I (x : MSigned) (k k2 : Int) (hk : I64 k) (h : f x k = some k2) : I64 k2 := by
  unfold f at h
  have h := bif_some h
  have h := bif_some h
  have h := bif_some h
  have h := bif_some h
  have h := bif_some h
  have h := bif_some h
  have h := bif_some h
  have h := bif_some h
  have h := bif_some h
  have h := bif_some h
  have h := bif_some h
  have h := bif_some h
  have h := bif_some h
  have h := bif_some h
  have h := bif_some h
  have h := bif_some h
  have h := bif_some h
  injection h with h
  subst h
  exact (laws_heldSigS.i64 (wrap_I64 _))
noncomputable def md (a0 : List MSigned) (a1 : Int) : Int := heldM f a0 a1
def gd (a0 : List MSigned) (a1 : Int) : Prop := I64 a1
def acc (ls : List L) : List (List L) × Int := ((ls.headD .hole).toSl, ((dropT 1 ls).headD .hole).toInt)
noncomputable def R : (List (List L) × Int) → Option Int := RR (p2 gd) (u2 md)
theorem R_eq {a0} {a1} (h : gd a0 a1) : R ((a0.map MSigned.row), a1) = some (md a0 a1) := RR_eq (a := (a0, a1)) h
noncomputable def con : Con := CN pats res acc R
theorem okF (a0 : List MSigned) (a1 : Int) (hg : gd a0 a1) (h0 : a0.length ≤ maxLen) : ∃ n, start (iter step n) (a0.map MSigned.row) a1 = ret ((md a0 a1) : Int) := by
  unfold gd at hg
  show ∃ n, iter step n (Pt.p0 (a0.map MSigned.row) a1 0) = _
  unfold md
  refine held_loop (f := f) (xs := a0) MSigned.zero I64 f_I (pt := fun i k => Pt.p0 (a0.map MSigned.row) k (i : Int)) (fun J i k hi hk => ?_) (fun J k => ?_) hg
  · simp only [step, S0, MKeys.rs, MHead.rs, MSigned.rs]
    refine yes_ret (lt_dec hi) ?_
    refine yes_ret zle_dec ?_
    refine yes_ret (lt_dec hi) ?_
    refine held_bif rfl ?_
    refine yes_ret zle_dec ?_
    refine yes_ret (lt_dec hi) ?_
    refine held_bif rfl ?_
    refine yes_ret zle_dec ?_
    refine yes_ret (lt_dec hi) ?_
    refine held_bif rfl ?_
    refine yes_ret zle_dec ?_
    refine yes_ret (lt_dec hi) ?_
    refine held_bif rfl ?_
    refine yes_ret zle_dec ?_
    refine yes_ret (lt_dec hi) ?_
    refine held_bif rfl ?_
    refine yes_ret zle_dec ?_
    refine yes_ret (lt_dec hi) ?_
    refine held_bif rfl ?_
    refine yes_ret zle_dec ?_
    refine yes_ret (lt_dec hi) ?_
    refine held_bif rfl ?_
    refine yes_ret zle_dec ?_
    refine yes_ret (lt_dec hi) ?_
    refine held_bif rfl ?_
    refine yes_ret zle_dec ?_
    refine yes_ret (lt_dec hi) ?_
    refine call_to (e1 (a0.getD i MSigned.zero) k) (laws_heldIntS.R_eq (a0 := (((a0.getD i MSigned.zero).fHead).fKeys).fList) (a1 := IntKind.i64.wrap ((IntKind.i64.wrap ((IntKind.i64.wrap ((IntKind.i64.wrap ((IntKind.i64.wrap ((IntKind.i64.wrap ((IntKind.i64.wrap ((IntKind.i64.wrap (k + 1)) + 1)) + 1)) + 1)) + 1)) + 1)) + 1)) + 1)) (wrap_I64 _)) ?_
    refine held_bif rfl ?_
    refine yes_ret zle_dec ?_
    refine yes_ret (lt_dec hi) ?_
    refine held_bif rfl ?_
    refine yes_ret zle_dec ?_
    refine yes_ret (lt_dec hi) ?_
    refine call_to (e2 (a0.getD i MSigned.zero) k) (laws_heldIntS.R_eq (a0 := (((a0.getD i MSigned.zero).fHead).fHeirs).fList) (a1 := IntKind.i64.wrap ((e1 (a0.getD i MSigned.zero) k) + 1)) (wrap_I64 _)) ?_
    refine held_bif rfl ?_
    refine yes_ret zle_dec ?_
    refine yes_ret (lt_dec hi) ?_
    refine held_bif rfl ?_
    refine yes_ret zle_dec ?_
    refine yes_ret (lt_dec hi) ?_
    refine held_bif rfl ?_
    refine yes_ret zle_dec ?_
    refine yes_ret (lt_dec hi) ?_
    refine call_to (e3 (a0.getD i MSigned.zero) k) (laws_heldIntS.R_eq (a0 := (((a0.getD i MSigned.zero).fHead).fJudge).fList) (a1 := IntKind.i64.wrap ((IntKind.i64.wrap ((e2 (a0.getD i MSigned.zero) k) + 1)) + 1)) (wrap_I64 _)) ?_
    refine held_bif rfl ?_
    refine yes_ret zle_dec ?_
    refine yes_ret (lt_dec hi) ?_
    refine held_bif rfl ?_
    refine yes_ret zle_dec ?_
    refine yes_ret (lt_dec hi) ?_
    refine held_bif rfl ?_
    refine yes_ret zle_dec ?_
    refine yes_ret (lt_dec hi) ?_
    refine call_to (e4 (a0.getD i MSigned.zero) k) (laws_heldSigS.R_eq (a0 := (a0.getD i MSigned.zero).fSigs) (a1 := IntKind.i64.wrap ((IntKind.i64.wrap ((e3 (a0.getD i MSigned.zero) k) + 1)) + 1)) (wrap_I64 _)) ?_
    refine held_bif rfl ?_
    rw [wrap_succ hi h0]
    rfl
  · simp only [step, S0, MKeys.rs, MHead.rs, MSigned.rs]
    refine no_ret (by apply decide_eq_false; omega) ?_
    rfl
theorem valid_ : Valid Try.prog Ev 60 con := VV (run := fun n x => start (iter step n) x.1 x.2) mix tab_ok (.cons laws_heldIntS.valid_ (.cons laws_heldSigS.valid_ .nil)) Try.func60 (by kernel_rfl) run_eq (fun ls a hl e hg => okF a.1 a.2 hg (by have h : (ls.headD .hole).toSl.length ≤ maxLen := hl.1.len; have e : a.1.map MSigned.row = (ls.headD .hole).toSl := (congrArg (fun x => x.1) e.symm); rw [← e] at h; simpa using h))
theorem i64 {a0 : List MSigned} {a1 : Int} (h : I64 a1) : I64 (md a0 a1) := heldM_I f_I I64_neg h
theorem elh (x : MSigned) (k : Int) (h0 : 0 ≤ k) (hb : k + (laws_markSignedS.cnt x : Int) ≤ 4611686018427387904) : f (laws_markSignedS.el x k).2 k = some (k + laws_markSignedS.cnt x) := by
  simp only [laws_markSignedS.cnt, Int.natCast_add] at hb ⊢
  simp (disch := omega) only [laws_markSignedS.el, f, laws_markSignedS.e1, laws_markSignedS.e2, laws_markSignedS.e3, laws_markSignedS.e4, e1, e2, e3, e4, wi, laws_markIntS.kk, laws_heldIntS.mk, laws_markSigS.kk, laws_heldSigS.mk, bne_self_eq_false, beq_self_eq_true, ba_refl, Bool.not_true, cond_false, dec_neg]
  all_goals first | done | omega | (congr 1 <;> omega)
theorem mk (a0 : List MSigned) (a1 : Int) (h0 : 0 ≤ a1) (hb : a1 + (laws_markSignedS.sum a0 : Int) ≤ 4611686018427387904) : md (laws_markSignedS.md a0 a1).2 a1 = a1 + laws_markSignedS.sum a0 := held_mark laws_markSignedS.elk elh a0 a1 h0 hb
end laws_heldSignedS
/-! laws.FnExactChainOf -/
namespace laws_FnExactChainOf
noncomputable def F (x0 : RKnown) (x1 : Int) : Ans := (call (laws_szKnown.R (x0, 1048576)) fun v1 => (bif (decide (v1 < 0)) then ret (true : Bool) else (call (laws_toKnown.R x0) fun v2 => (call (spec_ChainOf.R (v2, x1)) fun v3 => (call (laws_toKnown.R x0) fun v4 => (call (impl_ChainOf.R (v4, x1)) fun v5 => (call (laws_eqSignedS.R (v5.1, v3.1)) fun v6 => (bif (!v6) then ret (false : Bool) else (bif (!(v5.2 == v3.2)) then ret (false : Bool) else (call (laws_toKnown.R x0) fun v7 => (call (laws_eqKnown.R (v4, v7)) fun v8 => (bif (!v8) then ret (false : Bool) else (call (laws_markKnown.R (v4, 1)) fun v9 => (bif (decide (v9.1 < 0)) then ret (false : Bool) else (call (laws_eqSignedS.R (v5.1, v3.1)) fun v10 => (bif (!v10) then ret (false : Bool) else (bif (!(v5.2 == v3.2)) then ret (false : Bool) else (call (laws_markSignedS.R (v5.1, 1)) fun v11 => (call (laws_heldSignedS.R (v11.2, 1)) fun v12 => (bif (decide (v12 < 0)) then ret (false : Bool) else (bif (v12 != v11.1) then ret (false : Bool) else (call (laws_toKnown.R x0) fun v13 => (call (impl_ChainOf.R (v13, x1)) fun v14 => (call (laws_eqSignedS.R (v14.1, v3.1)) fun v15 => (bif (!v15) then ret (false : Bool) else (bif (!(v14.2 == v3.2)) then ret (false : Bool) else (call (laws_heldSignedS.R (v11.2, 1)) fun v16 => (bif (decide (v16 < 0)) then ret (false : Bool) else (bif (v16 != v11.1) then ret (false : Bool) else ret (true : Bool))))))))))))))))))))))))))))))
def pats : List Pat := [.agg [.sl 92, .sl 238], .rd (.int .i64)]
def res : RP := .one (.rd (.bool))
noncomputable abbrev E : Env := { T := assoc Tab, G := conG [(52, laws_szKnown.con), (54, laws_toKnown.con), (53, spec_ChainOf.con), (55, impl_ChainOf.con), (56, laws_eqSignedS.con), (57, laws_eqKnown.con), (60, laws_heldSignedS.con)], nt := 101, M := conM [(58, laws_markKnown.con), (59, laws_markSignedS.con)] }
set_option maxRecDepth 100000
theorem run_eq (n : Nat) (ls : List L) : runF E (fun _ => []) Try.f9 res n (initS pats ls) = F (RKnown.dec ls) ((dropT 2 ls).headD .hole).toInt := by kernel_rfl
noncomputable def md (a0 : MKnown) (a1 : Int) : Bool := true
def gd (a0 : MKnown) (a1 : Int) : Prop := (MKnown.Sm maxLen a0)
def acc (ls : List L) : RKnown × Int := ((RKnown.dec ls), ((dropT 2 ls).headD .hole).toInt)
noncomputable def R : (RKnown × Int) → Option Bool := RR (p2 gd) (u2 md)
theorem R_eq {a0} {a1} (h : gd a0 a1) : R ((MKnown.r a0), a1) = some (md a0 a1) := RR_eq (a := (a0, a1)) h
noncomputable def con : Con := CN pats res acc R
theorem okF (a0 : MKnown) (a1 : Int) (hg : gd a0 a1) : F (MKnown.r a0) a1 = ret ((md a0 a1) : Bool) := by
  unfold md
  show (call (laws_szKnown.R ((MKnown.r a0), 1048576)) fun v1 => (bif (decide (v1 < 0)) then ret (true : Bool) else (call (laws_toKnown.R (MKnown.r a0)) fun v2 => (call (spec_ChainOf.R (v2, a1)) fun v3 => (call (laws_toKnown.R (MKnown.r a0)) fun v4 => (call (impl_ChainOf.R (v4, a1)) fun v5 => (call (laws_eqSignedS.R (v5.1, v3.1)) fun v6 => (bif (!v6) then ret (false : Bool) else (bif (!(v5.2 == v3.2)) then ret (false : Bool) else (call (laws_toKnown.R (MKnown.r a0)) fun v7 => (call (laws_eqKnown.R (v4, v7)) fun v8 => (bif (!v8) then ret (false : Bool) else (call (laws_markKnown.R (v4, 1)) fun v9 => (bif (decide (v9.1 < 0)) then ret (false : Bool) else (call (laws_eqSignedS.R (v5.1, v3.1)) fun v10 => (bif (!v10) then ret (false : Bool) else (bif (!(v5.2 == v3.2)) then ret (false : Bool) else (call (laws_markSignedS.R (v5.1, 1)) fun v11 => (call (laws_heldSignedS.R (v11.2, 1)) fun v12 => (bif (decide (v12 < 0)) then ret (false : Bool) else (bif (v12 != v11.1) then ret (false : Bool) else (call (laws_toKnown.R (MKnown.r a0)) fun v13 => (call (impl_ChainOf.R (v13, a1)) fun v14 => (call (laws_eqSignedS.R (v14.1, v3.1)) fun v15 => (bif (!v15) then ret (false : Bool) else (bif (!(v14.2 == v3.2)) then ret (false : Bool) else (call (laws_heldSignedS.R (v11.2, 1)) fun v16 => (bif (decide (v16 < 0)) then ret (false : Bool) else (bif (v16 != v11.1) then ret (false : Bool) else ret (true : Bool)))))))))))))))))))))))))))))) = _
  rw [call_eq (laws_szKnown.R_eq (a1 := (1048576 : Int)) ⟨hg, by omega, by omega⟩)]
  unfold laws_szKnown.md
  by_cases c0 : (1048576 : Int) < (((MKnown.size a0) : Nat) : Int)
  · rw [szM_neg c0]; rfl
  rw [szM_pos c0, dec_neg (by omega)]
  simp only [cond_false]
  have s0 : MKnown.Sm (2 ^ 20) a0 := (MKnown.Sm_of (by omega))
  refine call_to (MKnown.r a0) (laws_toKnown.R_eq (a0 := a0) (MKnown.Sm_mono (by decide) s0)) ?_
  refine call_to (((spec_ChainOf.md a0 a1).1.map MSigned.row), (spec_ChainOf.md a0 a1).2) (spec_ChainOf.R_eq (a0 := a0) (a1 := a1) (by
    have := And.intro trivial trivial
    unfold spec_ChainOf.gd
    first | exact (MKnown.Sm_mono (by decide) s0) | refine ⟨(MKnown.Sm_mono (by decide) s0)⟩)) ?_
  refine call_to (MKnown.r a0) (laws_toKnown.R_eq (a0 := a0) (MKnown.Sm_mono (by decide) s0)) ?_
  have r_ := impl_ChainOf.R_eq (a0 := a0) (a1 := a1) (by
    have := And.intro trivial trivial
    unfold impl_ChainOf.gd
    first | exact (MKnown.Sm_mono (by decide) s0) | refine ⟨(MKnown.Sm_mono (by decide) s0)⟩)
  rw [impl_ChainOf.br] at r_
  refine call_to (((spec_ChainOf.md a0 a1).1.map MSigned.row), (spec_ChainOf.md a0 a1).2) r_ ?_
  clear r_
  refine call_to _ (laws_eqSignedS.R_eq (a0 := (spec_ChainOf.md a0 a1).1) (a1 := (spec_ChainOf.md a0 a1).1) trivial) ?_
  refine no_ret (by first | (simp only [bne_self_eq_false, beq_self_eq_true, ba_refl, eqB_refl, Bool.not_true, laws_eqSignedS.md]; done) | (refine bne_eq_false_iff_eq.2 ?_; omega)) ?_
  refine no_ret (by first | (simp only [bne_self_eq_false, beq_self_eq_true, ba_refl, eqB_refl, Bool.not_true, laws_eqSignedS.md]; done) | (refine bne_eq_false_iff_eq.2 ?_; omega)) ?_
  refine call_to (MKnown.r a0) (laws_toKnown.R_eq (a0 := a0) (MKnown.Sm_mono (by decide) s0)) ?_
  refine call_to _ (laws_eqKnown.R_eq (a0 := a0) (a1 := a0) trivial) ?_
  refine no_ret (by first | (simp only [bne_self_eq_false, beq_self_eq_true, ba_refl, eqB_refl, Bool.not_true, laws_eqSignedS.md, laws_eqKnown.md]; done) | (refine bne_eq_false_iff_eq.2 ?_; omega)) ?_
  have u1 := laws_markKnown.sz a0
  refine call_to ((laws_markKnown.md a0 1).1, ((laws_markKnown.md a0 1).2.1.map (lRow MSigned.row)), ((laws_markKnown.md a0 1).2.2.map MFork.row)) (laws_markKnown.R_eq (a0 := a0) (a1 := 1) I64_one) ?_
  have k2 := laws_markKnown.kk a0 1 (by omega) (by omega)
  refine no_ret (dec_neg (by omega)) ?_
  refine call_to _ (laws_eqSignedS.R_eq (a0 := (spec_ChainOf.md a0 a1).1) (a1 := (spec_ChainOf.md a0 a1).1) trivial) ?_
  refine no_ret (by first | (simp only [bne_self_eq_false, beq_self_eq_true, ba_refl, eqB_refl, Bool.not_true, laws_eqSignedS.md, laws_eqKnown.md]; done) | (refine bne_eq_false_iff_eq.2 ?_; omega)) ?_
  refine no_ret (by first | (simp only [bne_self_eq_false, beq_self_eq_true, ba_refl, eqB_refl, Bool.not_true, laws_eqSignedS.md, laws_eqKnown.md]; done) | (refine bne_eq_false_iff_eq.2 ?_; omega)) ?_
  have u3 : laws_markSignedS.sum ((spec_ChainOf.md a0 a1).1) ≤ 1000000000000000000 := (by
    have hf := spec_l22Find.fa a0 a1
    unfold spec_ChainOf.md
    cases hd : decide (spec_l22Find.md a0 a1 < 0)
    · simp only [decide_eq_false_iff_not] at hd
      have h1 := laws_markSignedS.sz (a0.fChains.getD (Int.toNat (spec_l22Find.md a0 a1)) [])
      have h2 := szL_getD (f := fun y : List MSigned => szL (fun y : MSigned => MSigned.size y) y) (xs := a0.fChains) (i := Int.toNat (spec_l22Find.md a0 a1)) (z := []) (by omega)
      simp only [cond_false]
      have c1 := c0
      unfold MKnown.size at c1
      try simp only at h2
      omega
    · simp [laws_markSignedS.sum])
  refine call_to ((laws_markSignedS.md ((spec_ChainOf.md a0 a1).1) 1).1, ((laws_markSignedS.md ((spec_ChainOf.md a0 a1).1) 1).2.map MSigned.row)) (laws_markSignedS.R_eq (a0 := (spec_ChainOf.md a0 a1).1) (a1 := 1) I64_one) ?_
  have k4 := laws_markSignedS.kk ((spec_ChainOf.md a0 a1).1) 1 (by omega) (by omega)
  refine call_to (laws_heldSignedS.md ((laws_markSignedS.md ((spec_ChainOf.md a0 a1).1) 1).2) 1) (laws_heldSignedS.R_eq (a0 := (laws_markSignedS.md ((spec_ChainOf.md a0 a1).1) 1).2) (a1 := 1) I64_one) ?_
  have h5 : (laws_heldSignedS.md ((laws_markSignedS.md ((spec_ChainOf.md a0 a1).1) 1).2) 1) = 1 + (laws_markSignedS.sum ((spec_ChainOf.md a0 a1).1) : Int) := laws_heldSignedS.mk ((spec_ChainOf.md a0 a1).1) 1 (by omega) (by omega)
  refine no_ret (dec_neg (by omega)) ?_
  refine no_ret (by first | (simp only [bne_self_eq_false, beq_self_eq_true, ba_refl, eqB_refl, Bool.not_true, laws_eqSignedS.md, laws_eqKnown.md]; done) | (refine bne_eq_false_iff_eq.2 ?_; omega)) ?_
  refine call_to (MKnown.r a0) (laws_toKnown.R_eq (a0 := a0) (MKnown.Sm_mono (by decide) s0)) ?_
  have r_ := impl_ChainOf.R_eq (a0 := a0) (a1 := a1) (by
    have := And.intro trivial trivial
    unfold impl_ChainOf.gd
    first | exact (MKnown.Sm_mono (by decide) s0) | refine ⟨(MKnown.Sm_mono (by decide) s0)⟩)
  rw [impl_ChainOf.br] at r_
  refine call_to (((spec_ChainOf.md a0 a1).1.map MSigned.row), (spec_ChainOf.md a0 a1).2) r_ ?_
  clear r_
  refine call_to _ (laws_eqSignedS.R_eq (a0 := (spec_ChainOf.md a0 a1).1) (a1 := (spec_ChainOf.md a0 a1).1) trivial) ?_
  refine no_ret (by first | (simp only [bne_self_eq_false, beq_self_eq_true, ba_refl, eqB_refl, Bool.not_true, laws_eqSignedS.md, laws_eqKnown.md]; done) | (refine bne_eq_false_iff_eq.2 ?_; omega)) ?_
  refine no_ret (by first | (simp only [bne_self_eq_false, beq_self_eq_true, ba_refl, eqB_refl, Bool.not_true, laws_eqSignedS.md, laws_eqKnown.md]; done) | (refine bne_eq_false_iff_eq.2 ?_; omega)) ?_
  refine call_to (laws_heldSignedS.md ((laws_markSignedS.md ((spec_ChainOf.md a0 a1).1) 1).2) 1) (laws_heldSignedS.R_eq (a0 := (laws_markSignedS.md ((spec_ChainOf.md a0 a1).1) 1).2) (a1 := 1) I64_one) ?_
  have h6 : (laws_heldSignedS.md ((laws_markSignedS.md ((spec_ChainOf.md a0 a1).1) 1).2) 1) = 1 + (laws_markSignedS.sum ((spec_ChainOf.md a0 a1).1) : Int) := laws_heldSignedS.mk ((spec_ChainOf.md a0 a1).1) 1 (by omega) (by omega)
  refine no_ret (dec_neg (by omega)) ?_
  refine no_ret (by first | (simp only [bne_self_eq_false, beq_self_eq_true, ba_refl, eqB_refl, Bool.not_true, laws_eqSignedS.md, laws_eqKnown.md]; done) | (refine bne_eq_false_iff_eq.2 ?_; omega)) ?_
  rfl
theorem valid_ : Valid Try.prog Ev 9 con := VS (run := fun _ x => F x.1 x.2) mix tab_ok (.cons laws_szKnown.valid_ (.cons laws_toKnown.valid_ (.cons spec_ChainOf.valid_ (.cons impl_ChainOf.valid_ (.cons laws_eqSignedS.valid_ (.cons laws_eqKnown.valid_ (.cons laws_heldSignedS.valid_ .nil))))))) (.cons laws_markKnown.valid_ (.cons laws_markSignedS.valid_ .nil)) Try.func9 (by kernel_rfl) run_eq (fun _ a _ _ hg => ⟨0, okF a.1 a.2 hg⟩)
theorem MKeys_wf192 (r : List L) (h : WfAll Ev.cells [.sl 3, .int .i64] r) : ∃ x : MKeys, MKeys.row x = r ∧ MKeys.Sm maxLen x := by
  obtain ⟨l0, t0, rfl, g0, h1⟩ := h.uncons
  obtain ⟨x0, rfl, s0⟩ := wf_list (show Ev.cells 3 = [.int .i64] from by kernel_rfl) wf_irow g0
  obtain ⟨l1, t1, rfl, g1, h2⟩ := h1.uncons
  obtain ⟨x1, rfl⟩ := wf_int g1
  obtain rfl := h2.isnil
  exact ⟨⟨x0, x1⟩, rfl, s0⟩
theorem MHead_wf194 (r : List L) (h : WfAll Ev.cells [.int .i64, .int .i64, .int .i64, .int .i64, .int .i64, .int .i64, .int .i64, .int .i64, .sl 3, .int .i64, .sl 3, .int .i64, .int .i64, .sl 3, .int .i64, .bool] r) : ∃ x : MHead, MHead.row x = r ∧ MHead.Sm maxLen x := by
  obtain ⟨l0, t0, rfl, g0, h1⟩ := h.uncons
  obtain ⟨x0, rfl⟩ := wf_int g0
  obtain ⟨l1, t1, rfl, g1, h2⟩ := h1.uncons
  obtain ⟨x1, rfl⟩ := wf_int g1
  obtain ⟨l2, t2, rfl, g2, h3⟩ := h2.uncons
  obtain ⟨x2, rfl⟩ := wf_int g2
  obtain ⟨l3, t3, rfl, g3, h4⟩ := h3.uncons
  obtain ⟨x3, rfl⟩ := wf_int g3
  obtain ⟨l4, t4, rfl, g4, h5⟩ := h4.uncons
  obtain ⟨x4, rfl⟩ := wf_int g4
  obtain ⟨l5, t5, rfl, g5, h6⟩ := h5.uncons
  obtain ⟨x5, rfl⟩ := wf_int g5
  obtain ⟨l6, t6, rfl, g6, h7⟩ := h6.uncons
  obtain ⟨x6, rfl⟩ := wf_int g6
  obtain ⟨l7, t7, rfl, g7, h8⟩ := h7.uncons
  obtain ⟨x7, rfl⟩ := wf_int g7
  obtain ⟨r8, t8, rfl, g8, h9⟩ := WfAll.unapp (a := [.sl 3, .int .i64]) (b := [.sl 3, .int .i64, .int .i64, .sl 3, .int .i64, .bool]) h8
  obtain ⟨x8, rfl, s8⟩ := MKeys_wf192 _ g8
  obtain ⟨r9, t9, rfl, g9, h10⟩ := WfAll.unapp (a := [.sl 3, .int .i64]) (b := [.int .i64, .sl 3, .int .i64, .bool]) h9
  obtain ⟨x9, rfl, s9⟩ := MKeys_wf192 _ g9
  obtain ⟨l10, t10, rfl, g10, h11⟩ := h10.uncons
  obtain ⟨x10, rfl⟩ := wf_int g10
  obtain ⟨r11, t11, rfl, g11, h12⟩ := WfAll.unapp (a := [.sl 3, .int .i64]) (b := [.bool]) h11
  obtain ⟨x11, rfl, s11⟩ := MKeys_wf192 _ g11
  obtain ⟨l12, t12, rfl, g12, h13⟩ := h12.uncons
  obtain ⟨x12, rfl⟩ := wf_bool g12
  obtain rfl := h13.isnil
  exact ⟨⟨x0, x1, x2, x3, x4, x5, x6, x7, x8, x9, x10, x11, x12⟩, rfl, ⟨s8, s9, s11⟩⟩
theorem MSig_wf279 (r : List L) (h : WfAll Ev.cells [.int .i64, .int .i64] r) : ∃ x : MSig, MSig.row x = r ∧ MSig.Sm maxLen x := by
  obtain ⟨l0, t0, rfl, g0, h1⟩ := h.uncons
  obtain ⟨x0, rfl⟩ := wf_int g0
  obtain ⟨l1, t1, rfl, g1, h2⟩ := h1.uncons
  obtain ⟨x1, rfl⟩ := wf_int g1
  obtain rfl := h2.isnil
  exact ⟨⟨x0, x1⟩, rfl, trivial⟩
theorem MSigned_wf197 (r : List L) (h : WfAll Ev.cells [.int .i64, .int .i64, .int .i64, .int .i64, .int .i64, .int .i64, .int .i64, .int .i64, .sl 3, .int .i64, .sl 3, .int .i64, .int .i64, .sl 3, .int .i64, .bool, .sl 279] r) : ∃ x : MSigned, MSigned.row x = r ∧ MSigned.Sm maxLen x := by
  obtain ⟨r0, t0, rfl, g0, h1⟩ := WfAll.unapp (a := [.int .i64, .int .i64, .int .i64, .int .i64, .int .i64, .int .i64, .int .i64, .int .i64, .sl 3, .int .i64, .sl 3, .int .i64, .int .i64, .sl 3, .int .i64, .bool]) (b := [.sl 279]) h
  obtain ⟨x0, rfl, s0⟩ := MHead_wf194 _ g0
  obtain ⟨l1, t1, rfl, g1, h2⟩ := h1.uncons
  obtain ⟨x1, rfl, s1⟩ := wf_list (show Ev.cells 279 = [.int .i64, .int .i64] from by kernel_rfl) MSig_wf279 g1
  obtain rfl := h2.isnil
  exact ⟨⟨x0, x1⟩, rfl, ⟨s0, s1⟩⟩
theorem MFork_wf238 (r : List L) (h : WfAll Ev.cells [.int .i64, .int .i64, .int .i64, .int .i64, .int .i64, .int .i64, .int .i64, .int .i64, .sl 3, .int .i64, .sl 3, .int .i64, .int .i64, .sl 3, .int .i64, .bool, .sl 279, .int .i64, .int .i64, .int .i64, .int .i64, .int .i64, .int .i64, .int .i64, .int .i64, .sl 3, .int .i64, .sl 3, .int .i64, .int .i64, .sl 3, .int .i64, .bool, .sl 279, .int .i64, .int .i64, .int .i64, .int .i64, .int .i64, .int .i64, .int .i64, .int .i64, .sl 3, .int .i64, .sl 3, .int .i64, .int .i64, .sl 3, .int .i64, .bool, .sl 279] r) : ∃ x : MFork, MFork.row x = r ∧ MFork.Sm maxLen x := by
  obtain ⟨r0, t0, rfl, g0, h1⟩ := WfAll.unapp (a := [.int .i64, .int .i64, .int .i64, .int .i64, .int .i64, .int .i64, .int .i64, .int .i64, .sl 3, .int .i64, .sl 3, .int .i64, .int .i64, .sl 3, .int .i64, .bool, .sl 279]) (b := [.int .i64, .int .i64, .int .i64, .int .i64, .int .i64, .int .i64, .int .i64, .int .i64, .sl 3, .int .i64, .sl 3, .int .i64, .int .i64, .sl 3, .int .i64, .bool, .sl 279, .int .i64, .int .i64, .int .i64, .int .i64, .int .i64, .int .i64, .int .i64, .int .i64, .sl 3, .int .i64, .sl 3, .int .i64, .int .i64, .sl 3, .int .i64, .bool, .sl 279]) h
  obtain ⟨x0, rfl, s0⟩ := MSigned_wf197 _ g0
  obtain ⟨r1, t1, rfl, g1, h2⟩ := WfAll.unapp (a := [.int .i64, .int .i64, .int .i64, .int .i64, .int .i64, .int .i64, .int .i64, .int .i64, .sl 3, .int .i64, .sl 3, .int .i64, .int .i64, .sl 3, .int .i64, .bool, .sl 279]) (b := [.int .i64, .int .i64, .int .i64, .int .i64, .int .i64, .int .i64, .int .i64, .int .i64, .sl 3, .int .i64, .sl 3, .int .i64, .int .i64, .sl 3, .int .i64, .bool, .sl 279]) h1
  obtain ⟨x1, rfl, s1⟩ := MSigned_wf197 _ g1
  obtain ⟨r2, t2, rfl, g2, h3⟩ := WfAll.unapp (a := [.int .i64, .int .i64, .int .i64, .int .i64, .int .i64, .int .i64, .int .i64, .int .i64, .sl 3, .int .i64, .sl 3, .int .i64, .int .i64, .sl 3, .int .i64, .bool, .sl 279]) (b := []) h2
  obtain ⟨x2, rfl, s2⟩ := MSigned_wf197 _ g2
  obtain rfl := h3.isnil
  exact ⟨⟨x0, x1, x2⟩, rfl, ⟨s0, s1, s2⟩⟩
theorem MKnown_wf77 (r : List L) (h : WfAll Ev.cells [.sl 92, .sl 238] r) : ∃ x : MKnown, MKnown.row x = r ∧ MKnown.Sm maxLen x := by
  obtain ⟨l0, t0, rfl, g0, h1⟩ := h.uncons
  obtain ⟨x0, rfl, s0⟩ := wf_list (show Ev.cells 92 = [.sl 197] from by kernel_rfl) (wf_lrow (show Ev.cells 197 = [.int .i64, .int .i64, .int .i64, .int .i64, .int .i64, .int .i64, .int .i64, .int .i64, .sl 3, .int .i64, .sl 3, .int .i64, .int .i64, .sl 3, .int .i64, .bool, .sl 279] from by kernel_rfl) MSigned_wf197) g0
  obtain ⟨l1, t1, rfl, g1, h2⟩ := h1.uncons
  obtain ⟨x1, rfl, s1⟩ := wf_list (show Ev.cells 238 = [.int .i64, .int .i64, .int .i64, .int .i64, .int .i64, .int .i64, .int .i64, .int .i64, .sl 3, .int .i64, .sl 3, .int .i64, .int .i64, .sl 3, .int .i64, .bool, .sl 279, .int .i64, .int .i64, .int .i64, .int .i64, .int .i64, .int .i64, .int .i64, .int .i64, .sl 3, .int .i64, .sl 3, .int .i64, .int .i64, .sl 3, .int .i64, .bool, .sl 279, .int .i64, .int .i64, .int .i64, .int .i64, .int .i64, .int .i64, .int .i64, .int .i64, .sl 3, .int .i64, .sl 3, .int .i64, .int .i64, .sl 3, .int .i64, .bool, .sl 279] from by kernel_rfl) MFork_wf238 g1
  obtain rfl := h2.isnil
  exact ⟨⟨x0, x1⟩, rfl, ⟨s0, s1⟩⟩
theorem holds (ls : List L) (h : WfAll Ev.cells ([77, 3].flatMap Ev.cells) ls) : con.sem ls = some [.bool true] := by
  have hk : [77, 3].flatMap Ev.cells = [.sl 92, .sl 238, .int .i64] := by kernel_rfl
  rw [hk] at h
  obtain ⟨r0, t0, rfl, g0, h1⟩ := WfAll.unapp (a := [.sl 92, .sl 238]) (b := [.int .i64]) h
  obtain ⟨x0, rfl, s0⟩ := MKnown_wf77 _ g0
  obtain ⟨l1, t1, rfl, g1, h2⟩ := h1.uncons
  obtain ⟨x1, rfl⟩ := wf_int g1
  obtain rfl := h2.isnil
  show (R ((MKnown.r x0), x1)).map RT.enc = _
  rw [R_eq s0]
  rfl
end laws_FnExactChainOf
end Go.DM
