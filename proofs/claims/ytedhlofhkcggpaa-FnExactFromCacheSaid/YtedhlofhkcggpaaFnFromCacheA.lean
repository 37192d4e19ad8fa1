/- What the functions compute that the law reaches, and that the law returns true. Conditions: none. -/
import Derived.Test.YtedhlofhkcggpaaTy
import Derived.Test.YtedhlofhkcggpaaProg
import Derived.Lib.AppendZerosOnto
import Derived.Lib.Bytealg
import Derived.Laws.Externs
import Derived.Lib.Walk
import Derived.Lib.Hide
import Derived.Lib.Strings
set_option linter.all false
namespace Go.DM
open Go.Proofs
def Tab : List (Nat × TI) := [
  (2, ⟨[.int .i64], false, [], 8, false⟩),
  (3, ⟨[.int .i64], false, [], 8, false⟩),
  (4, ⟨[.bool], false, [], 1, false⟩),
  (5, ⟨[.int .u8], false, [], 1, false⟩),
  (6, ⟨[.int .u8], false, [], 1, false⟩),
  (7, ⟨[.int .i64, .int .i64, .bool, .int .u8], true, [(0, 2), (1, 3), (2, 4), (3, 6)], 24, false⟩),
  (8, ⟨[.int .i64, .int .i64, .bool, .int .u8], true, [(0, 2), (1, 3), (2, 4), (3, 6)], 24, false⟩),
  (9, ⟨[.str], false, [], 16, false⟩),
  (10, ⟨[.str], false, [], 16, false⟩),
  (11, ⟨[.str], false, [], 16, false⟩),
  (12, ⟨[.int .u64], false, [], 8, false⟩),
  (13, ⟨[.str, .int .u64], true, [(0, 9), (1, 12)], 24, false⟩),
  (14, ⟨[.str, .int .u64], true, [(0, 9), (1, 12)], 24, false⟩),
  (21, ⟨[.int .i32], false, [], 4, false⟩),
  (22, ⟨[.sl 140], false, [], 24, false⟩),
  (25, ⟨[.sl 142], false, [], 24, false⟩),
  (29, ⟨[.sl 149], false, [], 24, false⟩),
  (32, ⟨[.sl 150], false, [], 24, false⟩),
  (36, ⟨[.sl 9], false, [], 24, false⟩),
  (37, ⟨[.str, .int .i64, .int .i64, .sl 9], true, [(0, 9), (1, 3), (2, 3), (3, 36)], 56, false⟩),
  (38, ⟨[.str, .int .i64, .int .i64, .sl 9], true, [(0, 9), (1, 3), (2, 3), (3, 36)], 56, false⟩),
  (39, ⟨[.sl 38], false, [], 24, false⟩),
  (40, ⟨[.int .i64, .str, .int .i64, .int .i64, .sl 9, .sl 38], true, [(0, 3), (1, 38), (5, 39)], 88, false⟩),
  (41, ⟨[.int .i64, .str, .int .i64, .int .i64, .sl 9, .sl 38], true, [(0, 3), (1, 38), (5, 39)], 88, false⟩),
  (44, ⟨[.str, .int .i64, .int .i64, .sl 9], true, [(0, 9), (1, 3), (2, 3), (3, 36)], 56, false⟩),
  (45, ⟨[.sl 44], false, [], 24, false⟩),
  (46, ⟨[.int .i64, .str, .int .i64, .int .i64, .sl 9, .sl 44], true, [(0, 3), (1, 44), (5, 45)], 88, false⟩),
  (47, ⟨[.int .i64, .str, .int .i64, .int .i64, .sl 9, .sl 44], true, [(0, 3), (1, 44), (5, 45)], 88, false⟩),
  (55, ⟨[.sl 162], false, [], 24, false⟩),
  (60, ⟨[.sl 166], false, [], 24, false⟩),
  (74, ⟨[.sl 92], false, [], 24, false⟩),
  (75, ⟨[.sl 238], false, [], 24, false⟩),
  (76, ⟨[.sl 92, .sl 238], true, [(0, 74), (1, 75)], 48, false⟩),
  (77, ⟨[.sl 92, .sl 238], true, [(0, 74), (1, 75)], 48, false⟩),
  (79, ⟨[.sl 184], false, [], 24, false⟩),
  (82, ⟨[.sl 79], false, [], 24, false⟩),
  (83, ⟨[.sl 241], false, [], 24, false⟩),
  (84, ⟨[.sl 79, .sl 241], true, [(0, 82), (1, 83)], 48, false⟩),
  (85, ⟨[.sl 79, .sl 241], true, [(0, 82), (1, 83)], 48, false⟩),
  (92, ⟨[.sl 197], false, [], 24, false⟩),
  (94, ⟨[.sl 202], false, [], 24, false⟩),
  (100, ⟨[.sl 207], false, [], 24, false⟩),
  (102, ⟨[.sl 121], false, [], 24, false⟩),
  (104, ⟨[.sl 210], false, [], 24, false⟩),
  (117, ⟨[.sl 263], false, [], 24, false⟩),
  (118, ⟨[.sl 263], true, [(0, 117)], 24, false⟩),
  (119, ⟨[.sl 263], true, [(0, 117)], 24, false⟩),
  (121, ⟨[.sl 3], false, [], 24, false⟩),
  (122, ⟨[.int .i64, .sl 3], true, [(0, 3), (1, 121)], 32, false⟩),
  (123, ⟨[.int .i64, .sl 3], true, [(0, 3), (1, 121)], 32, false⟩),
  (124, ⟨[.int .i64, .str, .int .i64, .int .i64, .sl 9, .str, .int .i64, .int .i64, .sl 9, .int .i64, .sl 3, .int .i64, .sl 3], true, [(0, 3), (1, 44), (5, 44), (9, 123), (11, 123)], 184, false⟩),
  (125, ⟨[.int .i64, .str, .int .i64, .int .i64, .sl 9, .str, .int .i64, .int .i64, .sl 9, .int .i64, .sl 3, .int .i64, .sl 3], true, [(0, 3), (1, 44), (5, 44), (9, 123), (11, 123)], 184, false⟩),
  (126, ⟨[.sl 184, .bool, .str, .int .i64, .int .i64, .sl 9, .int .i64, .sl 3, .int .i64, .str, .int .i64, .int .i64, .sl 9, .str, .int .i64, .int .i64, .sl 9, .int .i64, .sl 3, .int .i64, .sl 3], true, [(0, 79), (1, 4), (2, 44), (6, 123), (8, 125)], 304, false⟩),
  (127, ⟨[.sl 184, .bool, .str, .int .i64, .int .i64, .sl 9, .int .i64, .sl 3, .int .i64, .str, .int .i64, .int .i64, .sl 9, .str, .int .i64, .int .i64, .sl 9, .int .i64, .sl 3, .int .i64, .sl 3], true, [(0, 79), (1, 4), (2, 44), (6, 123), (8, 125)], 304, false⟩),
  (129, ⟨[.sl 220], false, [], 24, false⟩),
  (130, ⟨[.sl 220], true, [(0, 129)], 24, false⟩),
  (131, ⟨[.sl 220], true, [(0, 129)], 24, false⟩),
  (139, ⟨[.str, .int .i64], true, [(0, 9), (1, 3)], 24, false⟩),
  (140, ⟨[.str, .int .i64], true, [(0, 9), (1, 3)], 24, true⟩),
  (142, ⟨[.str, .int .i64], true, [(0, 9), (1, 3)], 24, true⟩),
  (149, ⟨[.str, .int .i64], true, [(0, 9), (1, 3)], 24, true⟩),
  (150, ⟨[.str, .int .i64], true, [(0, 9), (1, 3)], 24, true⟩),
  (161, ⟨[.sl 9, .str, .int .i64, .int .i64, .sl 9], true, [(0, 36), (1, 38)], 80, false⟩),
  (162, ⟨[.sl 9, .str, .int .i64, .int .i64, .sl 9], true, [(0, 36), (1, 38)], 80, false⟩),
  (165, ⟨[.sl 9, .str, .int .i64, .int .i64, .sl 9], true, [(0, 36), (1, 44)], 80, false⟩),
  (166, ⟨[.sl 9, .str, .int .i64, .int .i64, .sl 9], true, [(0, 36), (1, 44)], 80, false⟩),
  (178, ⟨[.sl 3, .int .i64], true, [(0, 121), (1, 3)], 32, false⟩),
  (179, ⟨[.sl 3, .int .i64], true, [(0, 121), (1, 3)], 32, false⟩),
  (180, ⟨[.int .i64, .int .i64, .int .i64, .int .i64, .int .i64, .int .i64, .int .i64, .int .i64, .sl 3, .int .i64, .sl 3, .int .i64, .int .i64, .sl 3, .int .i64, .bool], true, [(0, 3), (1, 3), (2, 3), (3, 3), (4, 3), (5, 3), (6, 3), (7, 3), (8, 179), (10, 179), (12, 3), (13, 179), (15, 4)], 176, false⟩),
  (181, ⟨[.int .i64, .int .i64, .int .i64, .int .i64, .int .i64, .int .i64, .int .i64, .int .i64, .sl 3, .int .i64, .sl 3, .int .i64, .int .i64, .sl 3, .int .i64, .bool], true, [(0, 3), (1, 3), (2, 3), (3, 3), (4, 3), (5, 3), (6, 3), (7, 3), (8, 179), (10, 179), (12, 3), (13, 179), (15, 4)], 176, false⟩),
  (182, ⟨[.sl 248], false, [], 24, false⟩),
  (183, ⟨[.int .i64, .int .i64, .int .i64, .int .i64, .int .i64, .int .i64, .int .i64, .int .i64, .sl 3, .int .i64, .sl 3, .int .i64, .int .i64, .sl 3, .int .i64, .bool, .sl 248], true, [(0, 181), (16, 182)], 200, false⟩),
  (184, ⟨[.int .i64, .int .i64, .int .i64, .int .i64, .int .i64, .int .i64, .int .i64, .int .i64, .sl 3, .int .i64, .sl 3, .int .i64, .int .i64, .sl 3, .int .i64, .bool, .sl 248], true, [(0, 181), (16, 182)], 200, false⟩),
  (192, ⟨[.sl 3, .int .i64], true, [(0, 121), (1, 3)], 32, false⟩),
  (193, ⟨[.int .i64, .int .i64, .int .i64, .int .i64, .int .i64, .int .i64, .int .i64, .int .i64, .sl 3, .int .i64, .sl 3, .int .i64, .int .i64, .sl 3, .int .i64, .bool], true, [(0, 3), (1, 3), (2, 3), (3, 3), (4, 3), (5, 3), (6, 3), (7, 3), (8, 192), (10, 192), (12, 3), (13, 192), (15, 4)], 176, false⟩),
  (194, ⟨[.int .i64, .int .i64, .int .i64, .int .i64, .int .i64, .int .i64, .int .i64, .int .i64, .sl 3, .int .i64, .sl 3, .int .i64, .int .i64, .sl 3, .int .i64, .bool], true, [(0, 3), (1, 3), (2, 3), (3, 3), (4, 3), (5, 3), (6, 3), (7, 3), (8, 192), (10, 192), (12, 3), (13, 192), (15, 4)], 176, false⟩),
  (195, ⟨[.sl 279], false, [], 24, false⟩),
  (196, ⟨[.int .i64, .int .i64, .int .i64, .int .i64, .int .i64, .int .i64, .int .i64, .int .i64, .sl 3, .int .i64, .sl 3, .int .i64, .int .i64, .sl 3, .int .i64, .bool, .sl 279], true, [(0, 194), (16, 195)], 200, false⟩),
  (197, ⟨[.int .i64, .int .i64, .int .i64, .int .i64, .int .i64, .int .i64, .int .i64, .int .i64, .sl 3, .int .i64, .sl 3, .int .i64, .int .i64, .sl 3, .int .i64, .bool, .sl 279], true, [(0, 194), (16, 195)], 200, false⟩),
  (201, ⟨[.int .i64, .sl 3, .int .i64, .int .i64], true, [(0, 3), (1, 179), (3, 3)], 48, false⟩),
  (202, ⟨[.int .i64, .sl 3, .int .i64, .int .i64], true, [(0, 3), (1, 179), (3, 3)], 48, false⟩),
  (206, ⟨[.sl 92, .sl 238, .int .i64, .str, .int .i64, .int .i64, .sl 9, .sl 3, .int .i64], true, [(0, 77), (2, 3), (3, 38), (7, 121), (8, 3)], 144, false⟩),
  (207, ⟨[.sl 92, .sl 238, .int .i64, .str, .int .i64, .int .i64, .sl 9, .sl 3, .int .i64], true, [(0, 77), (2, 3), (3, 38), (7, 121), (8, 3)], 144, false⟩),
  (209, ⟨[.sl 79, .sl 241, .int .i64, .str, .int .i64, .int .i64, .sl 9, .sl 3, .int .i64], true, [(0, 85), (2, 3), (3, 44), (7, 121), (8, 3)], 144, false⟩),
  (210, ⟨[.sl 79, .sl 241, .int .i64, .str, .int .i64, .int .i64, .sl 9, .sl 3, .int .i64], true, [(0, 85), (2, 3), (3, 44), (7, 121), (8, 3)], 144, false⟩),
  (219, ⟨[.int .i64, .str, .sl 184, .bool, .str, .int .i64, .int .i64, .sl 9, .int .i64, .sl 3, .int .i64, .str, .int .i64, .int .i64, .sl 9, .str, .int .i64, .int .i64, .sl 9, .int .i64, .sl 3, .int .i64, .sl 3], true, [(0, 3), (1, 9), (2, 127)], 328, false⟩),
  (220, ⟨[.int .i64, .str, .sl 184, .bool, .str, .int .i64, .int .i64, .sl 9, .int .i64, .sl 3, .int .i64, .str, .int .i64, .int .i64, .sl 9, .str, .int .i64, .int .i64, .sl 9, .int .i64, .sl 3, .int .i64, .sl 3], true, [(0, 3), (1, 9), (2, 127)], 328, false⟩),
  (231, ⟨[.sl 5], false, [], 24, false⟩),
  (237, ⟨[.int .i64, .int .i64, .int .i64, .int .i64, .int .i64, .int .i64, .int .i64, .int .i64, .sl 3, .int .i64, .sl 3, .int .i64, .int .i64, .sl 3, .int .i64, .bool, .sl 279, .int .i64, .int .i64, .int .i64, .int .i64, .int .i64, .int .i64, .int .i64, .int .i64, .sl 3, .int .i64, .sl 3, .int .i64, .int .i64, .sl 3, .int .i64, .bool, .sl 279, .int .i64, .int .i64, .int .i64, .int .i64, .int .i64, .int .i64, .int .i64, .int .i64, .sl 3, .int .i64, .sl 3, .int .i64, .int .i64, .sl 3, .int .i64, .bool, .sl 279], true, [(0, 197), (17, 197), (34, 197)], 600, false⟩),
  (238, ⟨[.int .i64, .int .i64, .int .i64, .int .i64, .int .i64, .int .i64, .int .i64, .int .i64, .sl 3, .int .i64, .sl 3, .int .i64, .int .i64, .sl 3, .int .i64, .bool, .sl 279, .int .i64, .int .i64, .int .i64, .int .i64, .int .i64, .int .i64, .int .i64, .int .i64, .sl 3, .int .i64, .sl 3, .int .i64, .int .i64, .sl 3, .int .i64, .bool, .sl 279, .int .i64, .int .i64, .int .i64, .int .i64, .int .i64, .int .i64, .int .i64, .int .i64, .sl 3, .int .i64, .sl 3, .int .i64, .int .i64, .sl 3, .int .i64, .bool, .sl 279], true, [(0, 197), (17, 197), (34, 197)], 600, false⟩),
  (240, ⟨[.int .i64, .int .i64, .int .i64, .int .i64, .int .i64, .int .i64, .int .i64, .int .i64, .sl 3, .int .i64, .sl 3, .int .i64, .int .i64, .sl 3, .int .i64, .bool, .sl 248, .int .i64, .int .i64, .int .i64, .int .i64, .int .i64, .int .i64, .int .i64, .int .i64, .sl 3, .int .i64, .sl 3, .int .i64, .int .i64, .sl 3, .int .i64, .bool, .sl 248, .int .i64, .int .i64, .int .i64, .int .i64, .int .i64, .int .i64, .int .i64, .int .i64, .sl 3, .int .i64, .sl 3, .int .i64, .int .i64, .sl 3, .int .i64, .bool, .sl 248], true, [(0, 184), (17, 184), (34, 184)], 600, false⟩),
  (241, ⟨[.int .i64, .int .i64, .int .i64, .int .i64, .int .i64, .int .i64, .int .i64, .int .i64, .sl 3, .int .i64, .sl 3, .int .i64, .int .i64, .sl 3, .int .i64, .bool, .sl 248, .int .i64, .int .i64, .int .i64, .int .i64, .int .i64, .int .i64, .int .i64, .int .i64, .sl 3, .int .i64, .sl 3, .int .i64, .int .i64, .sl 3, .int .i64, .bool, .sl 248, .int .i64, .int .i64, .int .i64, .int .i64, .int .i64, .int .i64, .int .i64, .int .i64, .sl 3, .int .i64, .sl 3, .int .i64, .int .i64, .sl 3, .int .i64, .bool, .sl 248], true, [(0, 184), (17, 184), (34, 184)], 600, false⟩),
  (247, ⟨[.int .i64, .int .i64], true, [(0, 3), (1, 3)], 16, false⟩),
  (248, ⟨[.int .i64, .int .i64], true, [(0, 3), (1, 3)], 16, true⟩),
  (257, ⟨[.int .i64, .sl 3], true, [(0, 3), (1, 121)], 32, false⟩),
  (258, ⟨[.int .i64, .str, .int .i64, .int .i64, .sl 9, .str, .int .i64, .int .i64, .sl 9, .int .i64, .sl 3, .int .i64, .sl 3], true, [(0, 3), (1, 38), (5, 38), (9, 257), (11, 257)], 184, false⟩),
  (259, ⟨[.int .i64, .str, .int .i64, .int .i64, .sl 9, .str, .int .i64, .int .i64, .sl 9, .int .i64, .sl 3, .int .i64, .sl 3], true, [(0, 3), (1, 38), (5, 38), (9, 257), (11, 257)], 184, false⟩),
  (260, ⟨[.sl 197, .bool, .str, .int .i64, .int .i64, .sl 9, .int .i64, .sl 3, .int .i64, .str, .int .i64, .int .i64, .sl 9, .str, .int .i64, .int .i64, .sl 9, .int .i64, .sl 3, .int .i64, .sl 3], true, [(0, 92), (1, 4), (2, 38), (6, 257), (8, 259)], 304, false⟩),
  (261, ⟨[.sl 197, .bool, .str, .int .i64, .int .i64, .sl 9, .int .i64, .sl 3, .int .i64, .str, .int .i64, .int .i64, .sl 9, .str, .int .i64, .int .i64, .sl 9, .int .i64, .sl 3, .int .i64, .sl 3], true, [(0, 92), (1, 4), (2, 38), (6, 257), (8, 259)], 304, false⟩),
  (262, ⟨[.int .i64, .str, .sl 197, .bool, .str, .int .i64, .int .i64, .sl 9, .int .i64, .sl 3, .int .i64, .str, .int .i64, .int .i64, .sl 9, .str, .int .i64, .int .i64, .sl 9, .int .i64, .sl 3, .int .i64, .sl 3], true, [(0, 3), (1, 9), (2, 261)], 328, false⟩),
  (263, ⟨[.int .i64, .str, .sl 197, .bool, .str, .int .i64, .int .i64, .sl 9, .int .i64, .sl 3, .int .i64, .str, .int .i64, .int .i64, .sl 9, .str, .int .i64, .int .i64, .sl 9, .int .i64, .sl 3, .int .i64, .sl 3], true, [(0, 3), (1, 9), (2, 261)], 328, false⟩),
  (279, ⟨[.int .i64, .int .i64], true, [(0, 3), (1, 3)], 16, true⟩),
  (316, ⟨[.int .u32], false, [], 4, false⟩),
  (317, ⟨[.int .u8], false, [], 1, false⟩),
  (318, ⟨[.int .u8], false, [], 1, false⟩),
  (321, ⟨[.int .i32], false, [], 4, false⟩),
  (322, ⟨[.int .i32], false, [], 4, false⟩)]
noncomputable abbrev Ev : Env := Env0 Tab
theorem tab_ok : tableB Try.prog Tab = true := by kernel_rfl
theorem mix : Try.prog.follows .mixedOrders = true := by kernel_rfl
/-! laws.szIntS -/
namespace laws_szIntS
noncomputable def F (x0 : List (List L)) (x1 : Int) : Ans := (bif (decide ((IntKind.i64.wrap (x1 - (x0.length : Int))) < 0)) then ret ((-1) : Int) else ret ((IntKind.i64.wrap (x1 - (x0.length : Int))) : Int))
def pats : List Pat := [.rd (.sl 3), .rd (.int .i64)]
def res : RP := .one (.rd (.int .i64))
noncomputable abbrev E : Env := { T := assoc Tab, G := conG [], nt := 12 }
set_option maxRecDepth 100000
theorem run_eq (n : Nat) (ls : List L) : runF E (fun _ => []) Try.f212 res n (initS pats ls) = F (ls.headD .hole).toSl ((dropT 1 ls).headD .hole).toInt := by kernel_rfl
noncomputable def md (a0 : List Int) (a1 : Int) : Int := szM (szL (fun y : Int => 0) a0) a1
def gd (a0 : List Int) (a1 : Int) : Prop := (SmL maxLen (fun y : Int => True) a0) ∧ 0 ≤ a1 ∧ a1 ≤ 1048576
def acc (ls : List L) : List (List L) × Int := ((ls.headD .hole).toSl, ((dropT 1 ls).headD .hole).toInt)
noncomputable def R : (List (List L) × Int) → Option Int := RR (p2 gd) (u2 md)
theorem R_eq {a0} {a1} (h : gd a0 a1) : R ((a0.map iRow), a1) = some (md a0 a1) := RR_eq (a := (a0, a1)) h
noncomputable def con : Con := CN pats res acc R
theorem okF (a0 : List Int) (a1 : Int) (hg : gd a0 a1) : F (a0.map iRow) a1 = ret ((md a0 a1) : Int) := by
  obtain ⟨hs, g0, g1⟩ := hg
  unfold F md
  rw [List.length_map, sz_wrap g0 g1 hs.1]
  have e : szL (fun y : Int => 0) a0 = a0.length := by
    unfold szL
    have : (a0.map (fun y : Int => 0)).sum = 0 := sum_zero (fun _ => rfl) a0
    omega
  rw [e]
  by_cases hc : a1 < ((a0.length : Nat) : Int)
  · rw [szM_neg hc, decide_eq_true (by omega)]; rfl
  · rw [szM_pos hc, decide_eq_false (by omega)]; rfl
theorem valid_ : Valid Try.prog Ev 212 con := VV (run := fun _ x => F x.1 x.2) mix tab_ok .nil Try.func212 (by kernel_rfl) run_eq (fun _ a _ _ hg => ⟨0, okF a.1 a.2 hg⟩)
end laws_szIntS
/-! laws.szKeys -/
namespace laws_szKeys
noncomputable def F (x0 : RKeys) (x1 : Int) : Ans := (call (laws_szIntS.R (x0.fList, x1)) fun v1 => (bif (decide (v1 < 0)) then ret ((-1) : Int) else ret (v1 : Int)))
def pats : List Pat := [.agg [.sl 3, .int .i64], .rd (.int .i64)]
def res : RP := .one (.rd (.int .i64))
noncomputable abbrev E : Env := { T := assoc Tab, G := conG [(212, laws_szIntS.con)], nt := 12 }
set_option maxRecDepth 100000
theorem run_eq (n : Nat) (ls : List L) : runF E (fun _ => []) Try.f233 res n (initS pats ls) = F (RKeys.dec ls) ((dropT 2 ls).headD .hole).toInt := by kernel_rfl
noncomputable def md (a0 : MKeys) (a1 : Int) : Int := szM (MKeys.size a0) a1
def gd (a0 : MKeys) (a1 : Int) : Prop := (MKeys.Sm maxLen a0) ∧ 0 ≤ a1 ∧ a1 ≤ 1048576
def acc (ls : List L) : RKeys × Int := ((RKeys.dec ls), ((dropT 2 ls).headD .hole).toInt)
noncomputable def R : (RKeys × Int) → Option Int := RR (p2 gd) (u2 md)
theorem R_eq {a0} {a1} (h : gd a0 a1) : R ((MKeys.r a0), a1) = some (md a0 a1) := RR_eq (a := (a0, a1)) h
noncomputable def con : Con := CN pats res acc R
theorem okF (a0 : MKeys) (a1 : Int) (hg : gd a0 a1) : F (MKeys.r a0) a1 = ret ((md a0 a1) : Int) := by
  obtain ⟨hs, g0, g1⟩ := hg
  unfold md
  show (call (laws_szIntS.R ((a0.fList.map iRow), a1)) fun v1 => (bif (decide (v1 < 0)) then ret ((-1) : Int) else ret (v1 : Int))) = _
  rw [call_eq (laws_szIntS.R_eq (a1 := a1) ⟨hs, by omega, by omega⟩)]
  unfold laws_szIntS.md
  by_cases c0 : a1 < ((szL (fun y : Int => 0) a0.fList : Nat) : Int)
  · rw [szM_neg c0]; rw [show szM (MKeys.size a0) a1 = -1 from szM_neg (by unfold MKeys.size; omega)]; try rfl
  rw [szM_pos c0, dec_neg (by omega), cond_false]
  rw [show szM (MKeys.size a0) a1 = a1 - ((szL (fun y : Int => 0) a0.fList : Nat) : Int) from by rw [szM_pos (by unfold MKeys.size; omega)]; unfold MKeys.size; omega]
theorem valid_ : Valid Try.prog Ev 233 con := VV (run := fun _ x => F x.1 x.2) mix tab_ok (.cons laws_szIntS.valid_ .nil) Try.func233 (by kernel_rfl) run_eq (fun _ a _ _ hg => ⟨0, okF a.1 a.2 hg⟩)
end laws_szKeys
/-! laws.szHead -/
namespace laws_szHead
noncomputable def F (x0 : RHead) (x1 : Int) : Ans := (call (laws_szKeys.R (x0.fKeys, x1)) fun v1 => (bif (decide (v1 < 0)) then ret ((-1) : Int) else (call (laws_szKeys.R (x0.fHeirs, v1)) fun v2 => (bif (decide (v2 < 0)) then ret ((-1) : Int) else (call (laws_szKeys.R (x0.fJudge, v2)) fun v3 => (bif (decide (v3 < 0)) then ret ((-1) : Int) else ret (v3 : Int)))))))
def pats : List Pat := [.agg [.int .i64, .int .i64, .int .i64, .int .i64, .int .i64, .int .i64, .int .i64, .int .i64, .sl 3, .int .i64, .sl 3, .int .i64, .int .i64, .sl 3, .int .i64, .bool], .rd (.int .i64)]
def res : RP := .one (.rd (.int .i64))
noncomputable abbrev E : Env := { T := assoc Tab, G := conG [(233, laws_szKeys.con)], nt := 24 }
set_option maxRecDepth 100000
theorem run_eq (n : Nat) (ls : List L) : runF E (fun _ => []) Try.f202 res n (initS pats ls) = F (RHead.dec ls) ((dropT 16 ls).headD .hole).toInt := by kernel_rfl
noncomputable def md (a0 : MHead) (a1 : Int) : Int := szM (MHead.size a0) a1
def gd (a0 : MHead) (a1 : Int) : Prop := (MHead.Sm maxLen a0) ∧ 0 ≤ a1 ∧ a1 ≤ 1048576
def acc (ls : List L) : RHead × Int := ((RHead.dec ls), ((dropT 16 ls).headD .hole).toInt)
noncomputable def R : (RHead × Int) → Option Int := RR (p2 gd) (u2 md)
theorem R_eq {a0} {a1} (h : gd a0 a1) : R ((MHead.r a0), a1) = some (md a0 a1) := RR_eq (a := (a0, a1)) h
noncomputable def con : Con := CN pats res acc R
theorem okF (a0 : MHead) (a1 : Int) (hg : gd a0 a1) : F (MHead.r a0) a1 = ret ((md a0 a1) : Int) := by
  obtain ⟨hs, g0, g1⟩ := hg
  unfold md
  show (call (laws_szKeys.R ((MKeys.r a0.fKeys), a1)) fun v1 => (bif (decide (v1 < 0)) then ret ((-1) : Int) else (call (laws_szKeys.R ((MKeys.r a0.fHeirs), v1)) fun v2 => (bif (decide (v2 < 0)) then ret ((-1) : Int) else (call (laws_szKeys.R ((MKeys.r a0.fJudge), v2)) fun v3 => (bif (decide (v3 < 0)) then ret ((-1) : Int) else ret (v3 : Int))))))) = _
  rw [call_eq (laws_szKeys.R_eq (a1 := a1) ⟨hs.1, by omega, by omega⟩)]
  unfold laws_szKeys.md
  by_cases c0 : a1 < ((MKeys.size a0.fKeys : Nat) : Int)
  · rw [szM_neg c0]; rw [show szM (MHead.size a0) a1 = -1 from szM_neg (by unfold MHead.size; omega)]; try rfl
  rw [szM_pos c0, dec_neg (by omega), cond_false]
  rw [call_eq (laws_szKeys.R_eq (a1 := (a1 - ((MKeys.size a0.fKeys : Nat) : Int))) ⟨hs.2.1, by omega, by omega⟩)]
  unfold laws_szKeys.md
  by_cases c1 : (a1 - ((MKeys.size a0.fKeys : Nat) : Int)) < ((MKeys.size a0.fHeirs : Nat) : Int)
  · rw [szM_neg c1]; rw [show szM (MHead.size a0) a1 = -1 from szM_neg (by unfold MHead.size; omega)]; try rfl
  rw [szM_pos c1, dec_neg (by omega), cond_false]
  rw [call_eq (laws_szKeys.R_eq (a1 := (a1 - ((MKeys.size a0.fKeys : Nat) : Int) - ((MKeys.size a0.fHeirs : Nat) : Int))) ⟨hs.2.2, by omega, by omega⟩)]
  unfold laws_szKeys.md
  by_cases c2 : (a1 - ((MKeys.size a0.fKeys : Nat) : Int) - ((MKeys.size a0.fHeirs : Nat) : Int)) < ((MKeys.size a0.fJudge : Nat) : Int)
  · rw [szM_neg c2]; rw [show szM (MHead.size a0) a1 = -1 from szM_neg (by unfold MHead.size; omega)]; try rfl
  rw [szM_pos c2, dec_neg (by omega), cond_false]
  rw [show szM (MHead.size a0) a1 = a1 - ((MKeys.size a0.fKeys : Nat) : Int) - ((MKeys.size a0.fHeirs : Nat) : Int) - ((MKeys.size a0.fJudge : Nat) : Int) from by rw [szM_pos (by unfold MHead.size; omega)]; unfold MHead.size; omega]
theorem valid_ : Valid Try.prog Ev 202 con := VV (run := fun _ x => F x.1 x.2) mix tab_ok (.cons laws_szKeys.valid_ .nil) Try.func202 (by kernel_rfl) run_eq (fun _ a _ _ hg => ⟨0, okF a.1 a.2 hg⟩)
end laws_szHead
/-! laws.szSigS -/
namespace laws_szSigS
noncomputable def F (x0 : List (List L)) (x1 : Int) : Ans := (bif (decide ((IntKind.i64.wrap (x1 - (x0.length : Int))) < 0)) then ret ((-1) : Int) else ret ((IntKind.i64.wrap (x1 - (x0.length : Int))) : Int))
def pats : List Pat := [.rd (.sl 279), .rd (.int .i64)]
def res : RP := .one (.rd (.int .i64))
noncomputable abbrev E : Env := { T := assoc Tab, G := conG [], nt := 12 }
set_option maxRecDepth 100000
theorem run_eq (n : Nat) (ls : List L) : runF E (fun _ => []) Try.f203 res n (initS pats ls) = F (ls.headD .hole).toSl ((dropT 1 ls).headD .hole).toInt := by kernel_rfl
noncomputable def md (a0 : List MSig) (a1 : Int) : Int := szM (szL (fun y : MSig => MSig.size y) a0) a1
def gd (a0 : List MSig) (a1 : Int) : Prop := (SmL maxLen (fun y : MSig => MSig.Sm maxLen y) a0) ∧ 0 ≤ a1 ∧ a1 ≤ 1048576
def acc (ls : List L) : List (List L) × Int := ((ls.headD .hole).toSl, ((dropT 1 ls).headD .hole).toInt)
noncomputable def R : (List (List L) × Int) → Option Int := RR (p2 gd) (u2 md)
theorem R_eq {a0} {a1} (h : gd a0 a1) : R ((a0.map MSig.row), a1) = some (md a0 a1) := RR_eq (a := (a0, a1)) h
noncomputable def con : Con := CN pats res acc R
theorem okF (a0 : List MSig) (a1 : Int) (hg : gd a0 a1) : F (a0.map MSig.row) a1 = ret ((md a0 a1) : Int) := by
  obtain ⟨hs, g0, g1⟩ := hg
  unfold F md
  rw [List.length_map, sz_wrap g0 g1 hs.1]
  have e : szL (fun y : MSig => MSig.size y) a0 = a0.length := by
    unfold szL
    have : (a0.map (fun y : MSig => MSig.size y)).sum = 0 := sum_zero (fun _ => rfl) a0
    omega
  rw [e]
  by_cases hc : a1 < ((a0.length : Nat) : Int)
  · rw [szM_neg hc, decide_eq_true (by omega)]; rfl
  · rw [szM_pos hc, decide_eq_false (by omega)]; rfl
theorem valid_ : Valid Try.prog Ev 203 con := VV (run := fun _ x => F x.1 x.2) mix tab_ok .nil Try.func203 (by kernel_rfl) run_eq (fun _ a _ _ hg => ⟨0, okF a.1 a.2 hg⟩)
end laws_szSigS
/-! laws.szSigned -/
namespace laws_szSigned
noncomputable def F (x0 : RSigned) (x1 : Int) : Ans := (call (laws_szHead.R (x0.fHead, x1)) fun v1 => (bif (decide (v1 < 0)) then ret ((-1) : Int) else (call (laws_szSigS.R (x0.fSigs, v1)) fun v2 => (bif (decide (v2 < 0)) then ret ((-1) : Int) else ret (v2 : Int)))))
def pats : List Pat := [.agg [.int .i64, .int .i64, .int .i64, .int .i64, .int .i64, .int .i64, .int .i64, .int .i64, .sl 3, .int .i64, .sl 3, .int .i64, .int .i64, .sl 3, .int .i64, .bool, .sl 279], .rd (.int .i64)]
def res : RP := .one (.rd (.int .i64))
noncomputable abbrev E : Env := { T := assoc Tab, G := conG [(202, laws_szHead.con), (203, laws_szSigS.con)], nt := 18 }
set_option maxRecDepth 100000
theorem run_eq (n : Nat) (ls : List L) : runF E (fun _ => []) Try.f146 res n (initS pats ls) = F (RSigned.dec ls) ((dropT 17 ls).headD .hole).toInt := by kernel_rfl
noncomputable def md (a0 : MSigned) (a1 : Int) : Int := szM (MSigned.size a0) a1
def gd (a0 : MSigned) (a1 : Int) : Prop := (MSigned.Sm maxLen a0) ∧ 0 ≤ a1 ∧ a1 ≤ 1048576
def acc (ls : List L) : RSigned × Int := ((RSigned.dec ls), ((dropT 17 ls).headD .hole).toInt)
noncomputable def R : (RSigned × Int) → Option Int := RR (p2 gd) (u2 md)
theorem R_eq {a0} {a1} (h : gd a0 a1) : R ((MSigned.r a0), a1) = some (md a0 a1) := RR_eq (a := (a0, a1)) h
noncomputable def con : Con := CN pats res acc R
theorem okF (a0 : MSigned) (a1 : Int) (hg : gd a0 a1) : F (MSigned.r a0) a1 = ret ((md a0 a1) : Int) := by
  obtain ⟨hs, g0, g1⟩ := hg
  unfold md
  show (call (laws_szHead.R ((MHead.r a0.fHead), a1)) fun v1 => (bif (decide (v1 < 0)) then ret ((-1) : Int) else (call (laws_szSigS.R ((a0.fSigs.map MSig.row), v1)) fun v2 => (bif (decide (v2 < 0)) then ret ((-1) : Int) else ret (v2 : Int))))) = _
  rw [call_eq (laws_szHead.R_eq (a1 := a1) ⟨hs.1, by omega, by omega⟩)]
  unfold laws_szHead.md
  by_cases c0 : a1 < ((MHead.size a0.fHead : Nat) : Int)
  · rw [szM_neg c0]; rw [show szM (MSigned.size a0) a1 = -1 from szM_neg (by unfold MSigned.size; omega)]; try rfl
  rw [szM_pos c0, dec_neg (by omega), cond_false]
  rw [call_eq (laws_szSigS.R_eq (a1 := (a1 - ((MHead.size a0.fHead : Nat) : Int))) ⟨hs.2, by omega, by omega⟩)]
  unfold laws_szSigS.md
  by_cases c1 : (a1 - ((MHead.size a0.fHead : Nat) : Int)) < ((szL (fun y : MSig => MSig.size y) a0.fSigs : Nat) : Int)
  · rw [szM_neg c1]; rw [show szM (MSigned.size a0) a1 = -1 from szM_neg (by unfold MSigned.size; omega)]; try rfl
  rw [szM_pos c1, dec_neg (by omega), cond_false]
  rw [show szM (MSigned.size a0) a1 = a1 - ((MHead.size a0.fHead : Nat) : Int) - ((szL (fun y : MSig => MSig.size y) a0.fSigs : Nat) : Int) from by rw [szM_pos (by unfold MSigned.size; omega)]; unfold MSigned.size; omega]
theorem valid_ : Valid Try.prog Ev 146 con := VV (run := fun _ x => F x.1 x.2) mix tab_ok (.cons laws_szHead.valid_ (.cons laws_szSigS.valid_ .nil)) Try.func146 (by kernel_rfl) run_eq (fun _ a _ _ hg => ⟨0, okF a.1 a.2 hg⟩)
end laws_szSigned
/-! laws.szSignedS -/
namespace laws_szSignedS
inductive Pt where
  | p0 (a : List (List L)) (b : Int) (c : Int)
def pid : Pt → Nat
  | .p0 .. => 5
def pvs : Pt → List V
  | .p0 a b c => [.sl none 197 a, .int .i64 b, .int .i64 c]
def phs : Pt → List Root
  | .p0 a b c => []
noncomputable def step (J : Pt → Ans) : Pt → Ans
  | .p0 a b c => (bif (decide (c < (a.length : Int))) then (bif (decide ((0 : Int) ≤ c)) then (bif (decide (c < (a.length : Int))) then (call (laws_szSigned.R ((RSigned.at a (Int.toNat c)), b)) fun v1 => (bif (decide (v1 < 0)) then ret ((-1) : Int) else J (.p0 a v1 (IntKind.i64.wrap (c + 1))))) else none) else none) else ret (b : Int))
noncomputable def start (J : Pt → Ans) (x0 : List (List L)) (x1 : Int) : Ans := (bif (decide ((IntKind.i64.wrap (x1 - (x0.length : Int))) < 0)) then ret ((-1) : Int) else J (.p0 x0 (IntKind.i64.wrap (x1 - (x0.length : Int))) 0))
def live : Nat → Live := fun i => match i with | 5 => [(0, none), (1, none), (5, none)] | _ => []
def pats : List Pat := [.rd (.sl 197), .rd (.int .i64)]
def res : RP := .one (.rd (.int .i64))
noncomputable abbrev E : Env := { T := assoc Tab, G := conG [(146, laws_szSigned.con)], nt := 27 }
set_option maxRecDepth 100000
theorem step_eq (I : Heads) (p : Pt) : enterC E live I (pid p) (bodyOf Try.f61) (stOf (live (pid p)) (pvs p) (phs p)) (doneK E Try.f61 res) = step (fun q => I (pid q) (pvs q) (phs q)) p := by
  cases p <;> kernel_rfl
theorem start_eq (I : Heads) (ls : List L) : runC E live I (bodyOf Try.f61) (initS pats ls) (doneK E Try.f61 res) = start (fun q => I (pid q) (pvs q) (phs q)) (ls.headD .hole).toSl ((dropT 1 ls).headD .hole).toInt := by kernel_rfl
theorem run_eq (n : Nat) (ls : List L) : runF E live Try.f61 res n (initS pats ls) = start (iter step n) (ls.headD .hole).toSl ((dropT 1 ls).headD .hole).toInt := runF_iter (id := pid) (vs := pvs) (hs := phs) (step := step) (start := fun J => start J (ls.headD .hole).toSl ((dropT 1 ls).headD .hole).toInt) step_eq (fun I => start_eq I ls) n
noncomputable def md (a0 : List MSigned) (a1 : Int) : Int := szM (szL (fun y : MSigned => MSigned.size y) a0) a1
def gd (a0 : List MSigned) (a1 : Int) : Prop := (SmL maxLen (fun y : MSigned => MSigned.Sm maxLen y) a0) ∧ 0 ≤ a1 ∧ a1 ≤ 1048576
def acc (ls : List L) : List (List L) × Int := ((ls.headD .hole).toSl, ((dropT 1 ls).headD .hole).toInt)
noncomputable def R : (List (List L) × Int) → Option Int := RR (p2 gd) (u2 md)
theorem R_eq {a0} {a1} (h : gd a0 a1) : R ((a0.map MSigned.row), a1) = some (md a0 a1) := RR_eq (a := (a0, a1)) h
noncomputable def con : Con := CN pats res acc R
theorem okF (a0 : List MSigned) (a1 : Int) (hg : gd a0 a1) : ∃ n, start (iter step n) (a0.map MSigned.row) a1 = ret ((md a0 a1) : Int) := by
  obtain ⟨hs, g0, g1⟩ := hg
  unfold start md
  simp only [List.length_map]
  refine sz_list (pt := fun left i => Pt.p0 (a0.map MSigned.row) left (i : Int)) (f := fun y : MSigned => MSigned.size y) hs.1 (fun J i h left p0 p1 => ?_) (fun J left => ?_) g0 g1
  · simp only [step, List.length_map, lt_dec h, zle_dec, cond_true, toNat_nat, MSigned.at_row h]
    rw [call_eq (laws_szSigned.R_eq ⟨hs.get h, p0, p1⟩), wrap_succ h hs.1]
    unfold laws_szSigned.md
    by_cases hc : left < ((MSigned.size (a0[i]) : Nat) : Int)
    · rw [szM_neg hc, if_pos hc]; rfl
    · rw [szM_pos hc, if_neg hc, dec_neg (by omega)]; rfl
  · simp only [step, List.length_map, nlt_dec, cond_false]
theorem valid_ : Valid Try.prog Ev 61 con := VV (run := fun n x => start (iter step n) x.1 x.2) mix tab_ok (.cons laws_szSigned.valid_ .nil) Try.func61 (by kernel_rfl) run_eq (fun _ a _ _ hg => okF a.1 a.2 hg)
end laws_szSignedS
/-! laws.szStringS -/
namespace laws_szStringS
inductive Pt where
  | p0 (a : List (List L)) (b : Int) (c : Int)
def pid : Pt → Nat
  | .p0 .. => 5
def pvs : Pt → List V
  | .p0 a b c => [.sl none 9 a, .int .i64 b, .int .i64 c]
def phs : Pt → List Root
  | .p0 a b c => []
noncomputable def step (J : Pt → Ans) : Pt → Ans
  | .p0 a b c => (bif (decide (c < (a.length : Int))) then (bif (decide ((0 : Int) ≤ c)) then (bif (decide (c < (a.length : Int))) then (bif (decide ((IntKind.i64.wrap (b - ((sAt a (Int.toNat c)).size : Int))) < 0)) then ret ((-1) : Int) else J (.p0 a (IntKind.i64.wrap (b - ((sAt a (Int.toNat c)).size : Int))) (IntKind.i64.wrap (c + 1)))) else none) else none) else ret (b : Int))
noncomputable def start (J : Pt → Ans) (x0 : List (List L)) (x1 : Int) : Ans := (bif (decide ((IntKind.i64.wrap (x1 - (x0.length : Int))) < 0)) then ret ((-1) : Int) else J (.p0 x0 (IntKind.i64.wrap (x1 - (x0.length : Int))) 0))
def live : Nat → Live := fun i => match i with | 5 => [(0, none), (1, none), (5, none)] | _ => []
def pats : List Pat := [.rd (.sl 9), .rd (.int .i64)]
def res : RP := .one (.rd (.int .i64))
noncomputable abbrev E : Env := { T := assoc Tab, G := conG [], nt := 28 }
set_option maxRecDepth 100000
theorem step_eq (I : Heads) (p : Pt) : enterC E live I (pid p) (bodyOf Try.f35) (stOf (live (pid p)) (pvs p) (phs p)) (doneK E Try.f35 res) = step (fun q => I (pid q) (pvs q) (phs q)) p := by
  cases p <;> kernel_rfl
theorem start_eq (I : Heads) (ls : List L) : runC E live I (bodyOf Try.f35) (initS pats ls) (doneK E Try.f35 res) = start (fun q => I (pid q) (pvs q) (phs q)) (ls.headD .hole).toSl ((dropT 1 ls).headD .hole).toInt := by kernel_rfl
theorem run_eq (n : Nat) (ls : List L) : runF E live Try.f35 res n (initS pats ls) = start (iter step n) (ls.headD .hole).toSl ((dropT 1 ls).headD .hole).toInt := runF_iter (id := pid) (vs := pvs) (hs := phs) (step := step) (start := fun J => start J (ls.headD .hole).toSl ((dropT 1 ls).headD .hole).toInt) step_eq (fun I => start_eq I ls) n
noncomputable def md (a0 : List ByteArray) (a1 : Int) : Int := szM (szL (fun y : ByteArray => y.size) a0) a1
def gd (a0 : List ByteArray) (a1 : Int) : Prop := (SmL maxLen (fun y : ByteArray => y.size ≤ maxLen) a0) ∧ 0 ≤ a1 ∧ a1 ≤ 1048576
def acc (ls : List L) : List (List L) × Int := ((ls.headD .hole).toSl, ((dropT 1 ls).headD .hole).toInt)
noncomputable def R : (List (List L) × Int) → Option Int := RR (p2 gd) (u2 md)
theorem R_eq {a0} {a1} (h : gd a0 a1) : R ((a0.map sRow), a1) = some (md a0 a1) := RR_eq (a := (a0, a1)) h
noncomputable def con : Con := CN pats res acc R
theorem okF (a0 : List ByteArray) (a1 : Int) (hg : gd a0 a1) : ∃ n, start (iter step n) (a0.map sRow) a1 = ret ((md a0 a1) : Int) := by
  obtain ⟨hs, g0, g1⟩ := hg
  unfold start md
  simp only [List.length_map]
  refine sz_list (pt := fun left i => Pt.p0 (a0.map sRow) left (i : Int)) (f := fun y : ByteArray => y.size) hs.1 (fun J i h left p0 p1 => ?_) (fun J left => ?_) g0 g1
  · simp only [step, List.length_map, lt_dec h, zle_dec, cond_true, toNat_nat, sAt_row h]
    rw [sz_wrap p0 p1 (hs.get h), wrap_succ h hs.1]
    by_cases hc : left - ((a0[i].size : Nat) : Int) < 0
    · rw [decide_eq_true hc, if_pos (by omega)]; rfl
    · rw [decide_eq_false hc, if_neg (by omega)]; rfl
  · simp only [step, List.length_map, nlt_dec, cond_false]
theorem valid_ : Valid Try.prog Ev 35 con := VV (run := fun n x => start (iter step n) x.1 x.2) mix tab_ok .nil Try.func35 (by kernel_rfl) run_eq (fun _ a _ _ hg => okF a.1 a.2 hg)
end laws_szStringS
/-! laws.szEntry -/
namespace laws_szEntry
noncomputable def F (x0 : REntry) (x1 : Int) : Ans := (bif (decide ((IntKind.i64.wrap (x1 - (x0.fLabel.size : Int))) < 0)) then ret ((-1) : Int) else (call (laws_szStringS.R (x0.fPath, (IntKind.i64.wrap (x1 - (x0.fLabel.size : Int))))) fun v1 => (bif (decide (v1 < 0)) then ret ((-1) : Int) else ret (v1 : Int))))
def pats : List Pat := [.agg [.str, .int .i64, .int .i64, .sl 9], .rd (.int .i64)]
def res : RP := .one (.rd (.int .i64))
noncomputable abbrev E : Env := { T := assoc Tab, G := conG [(35, laws_szStringS.con)], nt := 19 }
set_option maxRecDepth 100000
theorem run_eq (n : Nat) (ls : List L) : runF E (fun _ => []) Try.f47 res n (initS pats ls) = F (REntry.dec ls) ((dropT 4 ls).headD .hole).toInt := by kernel_rfl
noncomputable def md (a0 : MEntry) (a1 : Int) : Int := szM (MEntry.size a0) a1
def gd (a0 : MEntry) (a1 : Int) : Prop := (MEntry.Sm maxLen a0) ∧ 0 ≤ a1 ∧ a1 ≤ 1048576
def acc (ls : List L) : REntry × Int := ((REntry.dec ls), ((dropT 4 ls).headD .hole).toInt)
noncomputable def R : (REntry × Int) → Option Int := RR (p2 gd) (u2 md)
theorem R_eq {a0} {a1} (h : gd a0 a1) : R ((MEntry.r a0), a1) = some (md a0 a1) := RR_eq (a := (a0, a1)) h
noncomputable def con : Con := CN pats res acc R
theorem okF (a0 : MEntry) (a1 : Int) (hg : gd a0 a1) : F (MEntry.r a0) a1 = ret ((md a0 a1) : Int) := by
  obtain ⟨hs, g0, g1⟩ := hg
  unfold md
  show (bif (decide ((IntKind.i64.wrap (a1 - (a0.fLabel.size : Int))) < 0)) then ret ((-1) : Int) else (call (laws_szStringS.R ((a0.fPath.map sRow), (IntKind.i64.wrap (a1 - (a0.fLabel.size : Int))))) fun v1 => (bif (decide (v1 < 0)) then ret ((-1) : Int) else ret (v1 : Int)))) = _
  rw [sz_wrap (left := a1) (s := a0.fLabel.size) (by omega) (by omega) hs.1]
  by_cases c0 : a1 - ((a0.fLabel.size : Nat) : Int) < 0
  · rw [decide_eq_true c0, cond_true]; rw [show szM (MEntry.size a0) a1 = -1 from szM_neg (by unfold MEntry.size; omega)]; try rfl
  rw [decide_eq_false c0, cond_false]
  rw [call_eq (laws_szStringS.R_eq (a1 := (a1 - ((a0.fLabel.size : Nat) : Int))) ⟨hs.2, by omega, by omega⟩)]
  unfold laws_szStringS.md
  by_cases c1 : (a1 - ((a0.fLabel.size : Nat) : Int)) < ((szL (fun y : ByteArray => y.size) a0.fPath : Nat) : Int)
  · rw [szM_neg c1]; rw [show szM (MEntry.size a0) a1 = -1 from szM_neg (by unfold MEntry.size; omega)]; try rfl
  rw [szM_pos c1, dec_neg (by omega), cond_false]
  rw [show szM (MEntry.size a0) a1 = a1 - ((a0.fLabel.size : Nat) : Int) - ((szL (fun y : ByteArray => y.size) a0.fPath : Nat) : Int) from by rw [szM_pos (by unfold MEntry.size; omega)]; unfold MEntry.size; omega]
theorem valid_ : Valid Try.prog Ev 47 con := VV (run := fun _ x => F x.1 x.2) mix tab_ok (.cons laws_szStringS.valid_ .nil) Try.func47 (by kernel_rfl) run_eq (fun _ a _ _ hg => ⟨0, okF a.1 a.2 hg⟩)
end laws_szEntry
/-! laws.szProof -/
namespace laws_szProof
noncomputable def F (x0 : RProof) (x1 : Int) : Ans := (call (laws_szIntS.R (x0.fPath, x1)) fun v1 => (bif (decide (v1 < 0)) then ret ((-1) : Int) else ret (v1 : Int)))
def pats : List Pat := [.agg [.int .i64, .sl 3], .rd (.int .i64)]
def res : RP := .one (.rd (.int .i64))
noncomputable abbrev E : Env := { T := assoc Tab, G := conG [(212, laws_szIntS.con)], nt := 12 }
set_option maxRecDepth 100000
theorem run_eq (n : Nat) (ls : List L) : runF E (fun _ => []) Try.f253 res n (initS pats ls) = F (RProof.dec ls) ((dropT 2 ls).headD .hole).toInt := by kernel_rfl
noncomputable def md (a0 : MProof) (a1 : Int) : Int := szM (MProof.size a0) a1
def gd (a0 : MProof) (a1 : Int) : Prop := (MProof.Sm maxLen a0) ∧ 0 ≤ a1 ∧ a1 ≤ 1048576
def acc (ls : List L) : RProof × Int := ((RProof.dec ls), ((dropT 2 ls).headD .hole).toInt)
noncomputable def R : (RProof × Int) → Option Int := RR (p2 gd) (u2 md)
theorem R_eq {a0} {a1} (h : gd a0 a1) : R ((MProof.r a0), a1) = some (md a0 a1) := RR_eq (a := (a0, a1)) h
noncomputable def con : Con := CN pats res acc R
theorem okF (a0 : MProof) (a1 : Int) (hg : gd a0 a1) : F (MProof.r a0) a1 = ret ((md a0 a1) : Int) := by
  obtain ⟨hs, g0, g1⟩ := hg
  unfold md
  show (call (laws_szIntS.R ((a0.fPath.map iRow), a1)) fun v1 => (bif (decide (v1 < 0)) then ret ((-1) : Int) else ret (v1 : Int))) = _
  rw [call_eq (laws_szIntS.R_eq (a1 := a1) ⟨hs, by omega, by omega⟩)]
  unfold laws_szIntS.md
  by_cases c0 : a1 < ((szL (fun y : Int => 0) a0.fPath : Nat) : Int)
  · rw [szM_neg c0]; rw [show szM (MProof.size a0) a1 = -1 from szM_neg (by unfold MProof.size; omega)]; try rfl
  rw [szM_pos c0, dec_neg (by omega), cond_false]
  rw [show szM (MProof.size a0) a1 = a1 - ((szL (fun y : Int => 0) a0.fPath : Nat) : Int) from by rw [szM_pos (by unfold MProof.size; omega)]; unfold MProof.size; omega]
theorem valid_ : Valid Try.prog Ev 253 con := VV (run := fun _ x => F x.1 x.2) mix tab_ok (.cons laws_szIntS.valid_ .nil) Try.func253 (by kernel_rfl) run_eq (fun _ a _ _ hg => ⟨0, okF a.1 a.2 hg⟩)
end laws_szProof
/-! laws.szGap -/
namespace laws_szGap
noncomputable def F (x0 : RGap) (x1 : Int) : Ans := (call (laws_szEntry.R (x0.fBefore, x1)) fun v1 => (bif (decide (v1 < 0)) then ret ((-1) : Int) else (call (laws_szEntry.R (x0.fAfter, v1)) fun v2 => (bif (decide (v2 < 0)) then ret ((-1) : Int) else (call (laws_szProof.R (x0.fLeft, v2)) fun v3 => (bif (decide (v3 < 0)) then ret ((-1) : Int) else (call (laws_szProof.R (x0.fRight, v3)) fun v4 => (bif (decide (v4 < 0)) then ret ((-1) : Int) else ret (v4 : Int)))))))))
def pats : List Pat := [.agg [.int .i64, .str, .int .i64, .int .i64, .sl 9, .str, .int .i64, .int .i64, .sl 9, .int .i64, .sl 3, .int .i64, .sl 3], .rd (.int .i64)]
def res : RP := .one (.rd (.int .i64))
noncomputable abbrev E : Env := { T := assoc Tab, G := conG [(47, laws_szEntry.con), (253, laws_szProof.con)], nt := 30 }
set_option maxRecDepth 100000
theorem run_eq (n : Nat) (ls : List L) : runF E (fun _ => []) Try.f254 res n (initS pats ls) = F (RGap.dec ls) ((dropT 13 ls).headD .hole).toInt := by kernel_rfl
noncomputable def md (a0 : MGap) (a1 : Int) : Int := szM (MGap.size a0) a1
def gd (a0 : MGap) (a1 : Int) : Prop := (MGap.Sm maxLen a0) ∧ 0 ≤ a1 ∧ a1 ≤ 1048576
def acc (ls : List L) : RGap × Int := ((RGap.dec ls), ((dropT 13 ls).headD .hole).toInt)
noncomputable def R : (RGap × Int) → Option Int := RR (p2 gd) (u2 md)
theorem R_eq {a0} {a1} (h : gd a0 a1) : R ((MGap.r a0), a1) = some (md a0 a1) := RR_eq (a := (a0, a1)) h
noncomputable def con : Con := CN pats res acc R
theorem okF (a0 : MGap) (a1 : Int) (hg : gd a0 a1) : F (MGap.r a0) a1 = ret ((md a0 a1) : Int) := by
  obtain ⟨hs, g0, g1⟩ := hg
  unfold md
  show (call (laws_szEntry.R ((MEntry.r a0.fBefore), a1)) fun v1 => (bif (decide (v1 < 0)) then ret ((-1) : Int) else (call (laws_szEntry.R ((MEntry.r a0.fAfter), v1)) fun v2 => (bif (decide (v2 < 0)) then ret ((-1) : Int) else (call (laws_szProof.R ((MProof.r a0.fLeft), v2)) fun v3 => (bif (decide (v3 < 0)) then ret ((-1) : Int) else (call (laws_szProof.R ((MProof.r a0.fRight), v3)) fun v4 => (bif (decide (v4 < 0)) then ret ((-1) : Int) else ret (v4 : Int))))))))) = _
  rw [call_eq (laws_szEntry.R_eq (a1 := a1) ⟨hs.1, by omega, by omega⟩)]
  unfold laws_szEntry.md
  by_cases c0 : a1 < ((MEntry.size a0.fBefore : Nat) : Int)
  · rw [szM_neg c0]; rw [show szM (MGap.size a0) a1 = -1 from szM_neg (by unfold MGap.size; omega)]; try rfl
  rw [szM_pos c0, dec_neg (by omega), cond_false]
  rw [call_eq (laws_szEntry.R_eq (a1 := (a1 - ((MEntry.size a0.fBefore : Nat) : Int))) ⟨hs.2.1, by omega, by omega⟩)]
  unfold laws_szEntry.md
  by_cases c1 : (a1 - ((MEntry.size a0.fBefore : Nat) : Int)) < ((MEntry.size a0.fAfter : Nat) : Int)
  · rw [szM_neg c1]; rw [show szM (MGap.size a0) a1 = -1 from szM_neg (by unfold MGap.size; omega)]; try rfl
  rw [szM_pos c1, dec_neg (by omega), cond_false]
  rw [call_eq (laws_szProof.R_eq (a1 := (a1 - ((MEntry.size a0.fBefore : Nat) : Int) - ((MEntry.size a0.fAfter : Nat) : Int))) ⟨hs.2.2.1, by omega, by omega⟩)]
  unfold laws_szProof.md
  by_cases c2 : (a1 - ((MEntry.size a0.fBefore : Nat) : Int) - ((MEntry.size a0.fAfter : Nat) : Int)) < ((MProof.size a0.fLeft : Nat) : Int)
  · rw [szM_neg c2]; rw [show szM (MGap.size a0) a1 = -1 from szM_neg (by unfold MGap.size; omega)]; try rfl
  rw [szM_pos c2, dec_neg (by omega), cond_false]
  rw [call_eq (laws_szProof.R_eq (a1 := (a1 - ((MEntry.size a0.fBefore : Nat) : Int) - ((MEntry.size a0.fAfter : Nat) : Int) - ((MProof.size a0.fLeft : Nat) : Int))) ⟨hs.2.2.2, by omega, by omega⟩)]
  unfold laws_szProof.md
  by_cases c3 : (a1 - ((MEntry.size a0.fBefore : Nat) : Int) - ((MEntry.size a0.fAfter : Nat) : Int) - ((MProof.size a0.fLeft : Nat) : Int)) < ((MProof.size a0.fRight : Nat) : Int)
  · rw [szM_neg c3]; rw [show szM (MGap.size a0) a1 = -1 from szM_neg (by unfold MGap.size; omega)]; try rfl
  rw [szM_pos c3, dec_neg (by omega), cond_false]
  rw [show szM (MGap.size a0) a1 = a1 - ((MEntry.size a0.fBefore : Nat) : Int) - ((MEntry.size a0.fAfter : Nat) : Int) - ((MProof.size a0.fLeft : Nat) : Int) - ((MProof.size a0.fRight : Nat) : Int) from by rw [szM_pos (by unfold MGap.size; omega)]; unfold MGap.size; omega]
theorem valid_ : Valid Try.prog Ev 254 con := VV (run := fun _ x => F x.1 x.2) mix tab_ok (.cons laws_szEntry.valid_ (.cons laws_szProof.valid_ .nil)) Try.func254 (by kernel_rfl) run_eq (fun _ a _ _ hg => ⟨0, okF a.1 a.2 hg⟩)
end laws_szGap
/-! laws.szAnswer -/
namespace laws_szAnswer
noncomputable def F (x0 : RAnswer) (x1 : Int) : Ans := (call (laws_szSignedS.R (x0.fChain, x1)) fun v1 => (bif (decide (v1 < 0)) then ret ((-1) : Int) else (call (laws_szEntry.R (x0.fEntry, v1)) fun v2 => (bif (decide (v2 < 0)) then ret ((-1) : Int) else (call (laws_szProof.R (x0.fProof, v2)) fun v3 => (bif (decide (v3 < 0)) then ret ((-1) : Int) else (call (laws_szGap.R (x0.fGap, v3)) fun v4 => (bif (decide (v4 < 0)) then ret ((-1) : Int) else ret (v4 : Int)))))))))
def pats : List Pat := [.agg [.sl 197, .bool, .str, .int .i64, .int .i64, .sl 9, .int .i64, .sl 3, .int .i64, .str, .int .i64, .int .i64, .sl 9, .str, .int .i64, .int .i64, .sl 9, .int .i64, .sl 3, .int .i64, .sl 3], .rd (.int .i64)]
def res : RP := .one (.rd (.int .i64))
noncomputable abbrev E : Env := { T := assoc Tab, G := conG [(61, laws_szSignedS.con), (47, laws_szEntry.con), (253, laws_szProof.con), (254, laws_szGap.con)], nt := 30 }
set_option maxRecDepth 100000
theorem run_eq (n : Nat) (ls : List L) : runF E (fun _ => []) Try.f240 res n (initS pats ls) = F (RAnswer.dec ls) ((dropT 21 ls).headD .hole).toInt := by kernel_rfl
noncomputable def md (a0 : MAnswer) (a1 : Int) : Int := szM (MAnswer.size a0) a1
def gd (a0 : MAnswer) (a1 : Int) : Prop := (MAnswer.Sm maxLen a0) ∧ 0 ≤ a1 ∧ a1 ≤ 1048576
def acc (ls : List L) : RAnswer × Int := ((RAnswer.dec ls), ((dropT 21 ls).headD .hole).toInt)
noncomputable def R : (RAnswer × Int) → Option Int := RR (p2 gd) (u2 md)
theorem R_eq {a0} {a1} (h : gd a0 a1) : R ((MAnswer.r a0), a1) = some (md a0 a1) := RR_eq (a := (a0, a1)) h
noncomputable def con : Con := CN pats res acc R
theorem okF (a0 : MAnswer) (a1 : Int) (hg : gd a0 a1) : F (MAnswer.r a0) a1 = ret ((md a0 a1) : Int) := by
  obtain ⟨hs, g0, g1⟩ := hg
  unfold md
  show (call (laws_szSignedS.R ((a0.fChain.map MSigned.row), a1)) fun v1 => (bif (decide (v1 < 0)) then ret ((-1) : Int) else (call (laws_szEntry.R ((MEntry.r a0.fEntry), v1)) fun v2 => (bif (decide (v2 < 0)) then ret ((-1) : Int) else (call (laws_szProof.R ((MProof.r a0.fProof), v2)) fun v3 => (bif (decide (v3 < 0)) then ret ((-1) : Int) else (call (laws_szGap.R ((MGap.r a0.fGap), v3)) fun v4 => (bif (decide (v4 < 0)) then ret ((-1) : Int) else ret (v4 : Int))))))))) = _
  rw [call_eq (laws_szSignedS.R_eq (a1 := a1) ⟨hs.1, by omega, by omega⟩)]
  unfold laws_szSignedS.md
  by_cases c0 : a1 < ((szL (fun y : MSigned => MSigned.size y) a0.fChain : Nat) : Int)
  · rw [szM_neg c0]; rw [show szM (MAnswer.size a0) a1 = -1 from szM_neg (by unfold MAnswer.size; omega)]; try rfl
  rw [szM_pos c0, dec_neg (by omega), cond_false]
  rw [call_eq (laws_szEntry.R_eq (a1 := (a1 - ((szL (fun y : MSigned => MSigned.size y) a0.fChain : Nat) : Int))) ⟨hs.2.1, by omega, by omega⟩)]
  unfold laws_szEntry.md
  by_cases c1 : (a1 - ((szL (fun y : MSigned => MSigned.size y) a0.fChain : Nat) : Int)) < ((MEntry.size a0.fEntry : Nat) : Int)
  · rw [szM_neg c1]; rw [show szM (MAnswer.size a0) a1 = -1 from szM_neg (by unfold MAnswer.size; omega)]; try rfl
  rw [szM_pos c1, dec_neg (by omega), cond_false]
  rw [call_eq (laws_szProof.R_eq (a1 := (a1 - ((szL (fun y : MSigned => MSigned.size y) a0.fChain : Nat) : Int) - ((MEntry.size a0.fEntry : Nat) : Int))) ⟨hs.2.2.1, by omega, by omega⟩)]
  unfold laws_szProof.md
  by_cases c2 : (a1 - ((szL (fun y : MSigned => MSigned.size y) a0.fChain : Nat) : Int) - ((MEntry.size a0.fEntry : Nat) : Int)) < ((MProof.size a0.fProof : Nat) : Int)
  · rw [szM_neg c2]; rw [show szM (MAnswer.size a0) a1 = -1 from szM_neg (by unfold MAnswer.size; omega)]; try rfl
  rw [szM_pos c2, dec_neg (by omega), cond_false]
  rw [call_eq (laws_szGap.R_eq (a1 := (a1 - ((szL (fun y : MSigned => MSigned.size y) a0.fChain : Nat) : Int) - ((MEntry.size a0.fEntry : Nat) : Int) - ((MProof.size a0.fProof : Nat) : Int))) ⟨hs.2.2.2, by omega, by omega⟩)]
  unfold laws_szGap.md
  by_cases c3 : (a1 - ((szL (fun y : MSigned => MSigned.size y) a0.fChain : Nat) : Int) - ((MEntry.size a0.fEntry : Nat) : Int) - ((MProof.size a0.fProof : Nat) : Int)) < ((MGap.size a0.fGap : Nat) : Int)
  · rw [szM_neg c3]; rw [show szM (MAnswer.size a0) a1 = -1 from szM_neg (by unfold MAnswer.size; omega)]; try rfl
  rw [szM_pos c3, dec_neg (by omega), cond_false]
  rw [show szM (MAnswer.size a0) a1 = a1 - ((szL (fun y : MSigned => MSigned.size y) a0.fChain : Nat) : Int) - ((MEntry.size a0.fEntry : Nat) : Int) - ((MProof.size a0.fProof : Nat) : Int) - ((MGap.size a0.fGap : Nat) : Int) from by rw [szM_pos (by unfold MAnswer.size; omega)]; unfold MAnswer.size; omega]
theorem valid_ : Valid Try.prog Ev 240 con := VV (run := fun _ x => F x.1 x.2) mix tab_ok (.cons laws_szSignedS.valid_ (.cons laws_szEntry.valid_ (.cons laws_szProof.valid_ (.cons laws_szGap.valid_ .nil)))) Try.func240 (by kernel_rfl) run_eq (fun _ a _ _ hg => ⟨0, okF a.1 a.2 hg⟩)
end laws_szAnswer
/-! laws.szStored -/
namespace laws_szStored
noncomputable def F (x0 : RStored) (x1 : Int) : Ans := (bif (decide ((IntKind.i64.wrap (x1 - (x0.fLabel.size : Int))) < 0)) then ret ((-1) : Int) else (call (laws_szAnswer.R (x0.fAnswer, (IntKind.i64.wrap (x1 - (x0.fLabel.size : Int))))) fun v1 => (bif (decide (v1 < 0)) then ret ((-1) : Int) else ret (v1 : Int))))
def pats : List Pat := [.agg [.int .i64, .str, .sl 197, .bool, .str, .int .i64, .int .i64, .sl 9, .int .i64, .sl 3, .int .i64, .str, .int .i64, .int .i64, .sl 9, .str, .int .i64, .int .i64, .sl 9, .int .i64, .sl 3, .int .i64, .sl 3], .rd (.int .i64)]
def res : RP := .one (.rd (.int .i64))
noncomputable abbrev E : Env := { T := assoc Tab, G := conG [(240, laws_szAnswer.con)], nt := 19 }
set_option maxRecDepth 100000
theorem run_eq (n : Nat) (ls : List L) : runF E (fun _ => []) Try.f217 res n (initS pats ls) = F (RStored.dec ls) ((dropT 23 ls).headD .hole).toInt := by kernel_rfl
noncomputable def md (a0 : MStored) (a1 : Int) : Int := szM (MStored.size a0) a1
def gd (a0 : MStored) (a1 : Int) : Prop := (MStored.Sm maxLen a0) ∧ 0 ≤ a1 ∧ a1 ≤ 1048576
def acc (ls : List L) : RStored × Int := ((RStored.dec ls), ((dropT 23 ls).headD .hole).toInt)
noncomputable def R : (RStored × Int) → Option Int := RR (p2 gd) (u2 md)
theorem R_eq {a0} {a1} (h : gd a0 a1) : R ((MStored.r a0), a1) = some (md a0 a1) := RR_eq (a := (a0, a1)) h
noncomputable def con : Con := CN pats res acc R
theorem okF (a0 : MStored) (a1 : Int) (hg : gd a0 a1) : F (MStored.r a0) a1 = ret ((md a0 a1) : Int) := by
  obtain ⟨hs, g0, g1⟩ := hg
  unfold md
  show (bif (decide ((IntKind.i64.wrap (a1 - (a0.fLabel.size : Int))) < 0)) then ret ((-1) : Int) else (call (laws_szAnswer.R ((MAnswer.r a0.fAnswer), (IntKind.i64.wrap (a1 - (a0.fLabel.size : Int))))) fun v1 => (bif (decide (v1 < 0)) then ret ((-1) : Int) else ret (v1 : Int)))) = _
  rw [sz_wrap (left := a1) (s := a0.fLabel.size) (by omega) (by omega) hs.1]
  by_cases c0 : a1 - ((a0.fLabel.size : Nat) : Int) < 0
  · rw [decide_eq_true c0, cond_true]; rw [show szM (MStored.size a0) a1 = -1 from szM_neg (by unfold MStored.size; omega)]; try rfl
  rw [decide_eq_false c0, cond_false]
  rw [call_eq (laws_szAnswer.R_eq (a1 := (a1 - ((a0.fLabel.size : Nat) : Int))) ⟨hs.2, by omega, by omega⟩)]
  unfold laws_szAnswer.md
  by_cases c1 : (a1 - ((a0.fLabel.size : Nat) : Int)) < ((MAnswer.size a0.fAnswer : Nat) : Int)
  · rw [szM_neg c1]; rw [show szM (MStored.size a0) a1 = -1 from szM_neg (by unfold MStored.size; omega)]; try rfl
  rw [szM_pos c1, dec_neg (by omega), cond_false]
  rw [show szM (MStored.size a0) a1 = a1 - ((a0.fLabel.size : Nat) : Int) - ((MAnswer.size a0.fAnswer : Nat) : Int) from by rw [szM_pos (by unfold MStored.size; omega)]; unfold MStored.size; omega]
theorem valid_ : Valid Try.prog Ev 217 con := VV (run := fun _ x => F x.1 x.2) mix tab_ok (.cons laws_szAnswer.valid_ .nil) Try.func217 (by kernel_rfl) run_eq (fun _ a _ _ hg => ⟨0, okF a.1 a.2 hg⟩)
end laws_szStored
/-! laws.szStoredS -/
namespace laws_szStoredS
inductive Pt where
  | p0 (a : List (List L)) (b : Int) (c : Int)
def pid : Pt → Nat
  | .p0 .. => 5
def pvs : Pt → List V
  | .p0 a b c => [.sl none 263 a, .int .i64 b, .int .i64 c]
def phs : Pt → List Root
  | .p0 a b c => []
noncomputable def step (J : Pt → Ans) : Pt → Ans
  | .p0 a b c => (bif (decide (c < (a.length : Int))) then (bif (decide ((0 : Int) ≤ c)) then (bif (decide (c < (a.length : Int))) then (call (laws_szStored.R ((RStored.at a (Int.toNat c)), b)) fun v1 => (bif (decide (v1 < 0)) then ret ((-1) : Int) else J (.p0 a v1 (IntKind.i64.wrap (c + 1))))) else none) else none) else ret (b : Int))
noncomputable def start (J : Pt → Ans) (x0 : List (List L)) (x1 : Int) : Ans := (bif (decide ((IntKind.i64.wrap (x1 - (x0.length : Int))) < 0)) then ret ((-1) : Int) else J (.p0 x0 (IntKind.i64.wrap (x1 - (x0.length : Int))) 0))
def live : Nat → Live := fun i => match i with | 5 => [(0, none), (1, none), (5, none)] | _ => []
def pats : List Pat := [.rd (.sl 263), .rd (.int .i64)]
def res : RP := .one (.rd (.int .i64))
noncomputable abbrev E : Env := { T := assoc Tab, G := conG [(217, laws_szStored.con)], nt := 27 }
set_option maxRecDepth 100000
theorem step_eq (I : Heads) (p : Pt) : enterC E live I (pid p) (bodyOf Try.f167) (stOf (live (pid p)) (pvs p) (phs p)) (doneK E Try.f167 res) = step (fun q => I (pid q) (pvs q) (phs q)) p := by
  cases p <;> kernel_rfl
theorem start_eq (I : Heads) (ls : List L) : runC E live I (bodyOf Try.f167) (initS pats ls) (doneK E Try.f167 res) = start (fun q => I (pid q) (pvs q) (phs q)) (ls.headD .hole).toSl ((dropT 1 ls).headD .hole).toInt := by kernel_rfl
theorem run_eq (n : Nat) (ls : List L) : runF E live Try.f167 res n (initS pats ls) = start (iter step n) (ls.headD .hole).toSl ((dropT 1 ls).headD .hole).toInt := runF_iter (id := pid) (vs := pvs) (hs := phs) (step := step) (start := fun J => start J (ls.headD .hole).toSl ((dropT 1 ls).headD .hole).toInt) step_eq (fun I => start_eq I ls) n
noncomputable def md (a0 : List MStored) (a1 : Int) : Int := szM (szL (fun y : MStored => MStored.size y) a0) a1
def gd (a0 : List MStored) (a1 : Int) : Prop := (SmL maxLen (fun y : MStored => MStored.Sm maxLen y) a0) ∧ 0 ≤ a1 ∧ a1 ≤ 1048576
def acc (ls : List L) : List (List L) × Int := ((ls.headD .hole).toSl, ((dropT 1 ls).headD .hole).toInt)
noncomputable def R : (List (List L) × Int) → Option Int := RR (p2 gd) (u2 md)
theorem R_eq {a0} {a1} (h : gd a0 a1) : R ((a0.map MStored.row), a1) = some (md a0 a1) := RR_eq (a := (a0, a1)) h
noncomputable def con : Con := CN pats res acc R
theorem okF (a0 : List MStored) (a1 : Int) (hg : gd a0 a1) : ∃ n, start (iter step n) (a0.map MStored.row) a1 = ret ((md a0 a1) : Int) := by
  obtain ⟨hs, g0, g1⟩ := hg
  unfold start md
  simp only [List.length_map]
  refine sz_list (pt := fun left i => Pt.p0 (a0.map MStored.row) left (i : Int)) (f := fun y : MStored => MStored.size y) hs.1 (fun J i h left p0 p1 => ?_) (fun J left => ?_) g0 g1
  · simp only [step, List.length_map, lt_dec h, zle_dec, cond_true, toNat_nat, MStored.at_row h]
    rw [call_eq (laws_szStored.R_eq ⟨hs.get h, p0, p1⟩), wrap_succ h hs.1]
    unfold laws_szStored.md
    by_cases hc : left < ((MStored.size (a0[i]) : Nat) : Int)
    · rw [szM_neg hc, if_pos hc]; rfl
    · rw [szM_pos hc, if_neg hc, dec_neg (by omega)]; rfl
  · simp only [step, List.length_map, nlt_dec, cond_false]
theorem valid_ : Valid Try.prog Ev 167 con := VV (run := fun n x => start (iter step n) x.1 x.2) mix tab_ok (.cons laws_szStored.valid_ .nil) Try.func167 (by kernel_rfl) run_eq (fun _ a _ _ hg => okF a.1 a.2 hg)
end laws_szStoredS
/-! laws.szCache -/
namespace laws_szCache
noncomputable def F (x0 : RCache) (x1 : Int) : Ans := (call (laws_szStoredS.R (x0.fList, x1)) fun v1 => (bif (decide (v1 < 0)) then ret ((-1) : Int) else ret (v1 : Int)))
def pats : List Pat := [.agg [.sl 263], .rd (.int .i64)]
def res : RP := .one (.rd (.int .i64))
noncomputable abbrev E : Env := { T := assoc Tab, G := conG [(167, laws_szStoredS.con)], nt := 12 }
set_option maxRecDepth 100000
theorem run_eq (n : Nat) (ls : List L) : runF E (fun _ => []) Try.f86 res n (initS pats ls) = F (RCache.dec ls) ((dropT 1 ls).headD .hole).toInt := by kernel_rfl
noncomputable def md (a0 : MCache) (a1 : Int) : Int := szM (MCache.size a0) a1
def gd (a0 : MCache) (a1 : Int) : Prop := (MCache.Sm maxLen a0) ∧ 0 ≤ a1 ∧ a1 ≤ 1048576
def acc (ls : List L) : RCache × Int := ((RCache.dec ls), ((dropT 1 ls).headD .hole).toInt)
noncomputable def R : (RCache × Int) → Option Int := RR (p2 gd) (u2 md)
theorem R_eq {a0} {a1} (h : gd a0 a1) : R ((MCache.r a0), a1) = some (md a0 a1) := RR_eq (a := (a0, a1)) h
noncomputable def con : Con := CN pats res acc R
theorem okF (a0 : MCache) (a1 : Int) (hg : gd a0 a1) : F (MCache.r a0) a1 = ret ((md a0 a1) : Int) := by
  obtain ⟨hs, g0, g1⟩ := hg
  unfold md
  show (call (laws_szStoredS.R ((a0.fList.map MStored.row), a1)) fun v1 => (bif (decide (v1 < 0)) then ret ((-1) : Int) else ret (v1 : Int))) = _
  rw [call_eq (laws_szStoredS.R_eq (a1 := a1) ⟨hs, by omega, by omega⟩)]
  unfold laws_szStoredS.md
  by_cases c0 : a1 < ((szL (fun y : MStored => MStored.size y) a0.fList : Nat) : Int)
  · rw [szM_neg c0]; rw [show szM (MCache.size a0) a1 = -1 from szM_neg (by unfold MCache.size; omega)]; try rfl
  rw [szM_pos c0, dec_neg (by omega), cond_false]
  rw [show szM (MCache.size a0) a1 = a1 - ((szL (fun y : MStored => MStored.size y) a0.fList : Nat) : Int) from by rw [szM_pos (by unfold MCache.size; omega)]; unfold MCache.size; omega]
theorem valid_ : Valid Try.prog Ev 86 con := VV (run := fun _ x => F x.1 x.2) mix tab_ok (.cons laws_szStoredS.valid_ .nil) Try.func86 (by kernel_rfl) run_eq (fun _ a _ _ hg => ⟨0, okF a.1 a.2 hg⟩)
end laws_szCache
/-! laws.toIntS -/
namespace laws_toIntS
inductive Pt where
  | p0 (a : List (List L)) (b : Int) (c : List (List L))
def pid : Pt → Nat
  | .p0 .. => 3
def pvs : Pt → List V
  | .p0 a b c => [.sl none 3 a, .own 0, .int .i64 b]
def phs : Pt → List Root
  | .p0 a b c => [.row 3 c]
noncomputable def step (J : Pt → Ans) : Pt → Ans
  | .p0 a b c => (bif (decide (b < (a.length : Int))) then (bif (decide ((0 : Int) ≤ b)) then (bif (decide (b < (a.length : Int))) then (bif (decide ((0 : Int) ≤ b)) then (bif (decide (b < (c.length : Int))) then J (.p0 a (IntKind.i64.wrap (b + 1)) (List.set c (Int.toNat b) [L.int (iAt a (Int.toNat b))])) else none) else none) else none) else none) else ret (c : List (List L)))
noncomputable def start (J : Pt → Ans) (x0 : List (List L)) : Ans := (bif (decide ((0 : Int) ≤ (x0.length : Int))) then (bif (decide ((x0.length : Int) ≤ (x0.length : Int))) then (bif (decide ((x0.length : Int) * 8 ≤ 140737488355328)) then J (.p0 x0 0 (List.replicate (Int.toNat (x0.length : Int)) [L.int 0])) else none) else none) else none)
def live : Nat → Live := fun i => match i with | 3 => [(0, none), (3, none), (4, none)] | _ => []
def pats : List Pat := [.rd (.sl 3)]
def res : RP := .one (.fr 3)
noncomputable abbrev E : Env := { T := assoc Tab, G := conG [], nt := 22 }
set_option maxRecDepth 100000
theorem step_eq (I : Heads) (p : Pt) : enterC E live I (pid p) (bodyOf Try.f214) (stOf (live (pid p)) (pvs p) (phs p)) (doneK E Try.f214 res) = step (fun q => I (pid q) (pvs q) (phs q)) p := by
  cases p <;> kernel_rfl
theorem start_eq (I : Heads) (ls : List L) : runC E live I (bodyOf Try.f214) (initS pats ls) (doneK E Try.f214 res) = start (fun q => I (pid q) (pvs q) (phs q)) (ls.headD .hole).toSl := by kernel_rfl
theorem run_eq (n : Nat) (ls : List L) : runF E live Try.f214 res n (initS pats ls) = start (iter step n) (ls.headD .hole).toSl := runF_iter (id := pid) (vs := pvs) (hs := phs) (step := step) (start := fun J => start J (ls.headD .hole).toSl) step_eq (fun I => start_eq I ls) n
noncomputable def md (a0 : List Int) : List Int := a0
def gd (a0 : List Int) : Prop := SmL (2 ^ 36) (fun y : Int => True) a0
def acc (ls : List L) : List (List L) := (ls.headD .hole).toSl
noncomputable def R : (List (List L)) → Option (List (List L)) := RR gd md
theorem R_eq {a0} (h : gd a0) : R (a0.map iRow) = some ((md a0).map iRow) := RR_eq (a := a0) h
noncomputable def con : Con := CN pats res acc R
theorem okF (a0 : List Int) (hg : gd a0) : ∃ n, start (iter step n) (a0.map iRow) = ret (((md a0).map iRow) : List (List L)) := by
  unfold start md
  simp only [List.length_map]
  refine to_list (b := 8) (pt := fun i c => Pt.p0 (a0.map iRow) (i : Int) c) (by have := hg.1; simp at this; omega) (fun J i h c hc => ?_) (fun J c => ?_)
  · simp only [step, List.length_map, lt_dec h, zle_dec, cond_true, toNat_nat, iAt_row h, hc]
    rw [wrap_succ (n := a0.length) h (by have := hg.1; simp only [maxLen]; simp at this; omega)]
    rfl
  · simp only [step, List.length_map, nlt_dec, cond_false]
theorem valid_ : Valid Try.prog Ev 214 con := VV (run := fun n x => start (iter step n) x) mix tab_ok .nil Try.func214 (by kernel_rfl) run_eq (fun _ a _ _ hg => okF a hg)
end laws_toIntS
/-! laws.toKeys -/
namespace laws_toKeys
noncomputable def F (x0 : RKeys) : Ans := (call (laws_toIntS.R x0.fList) fun v1 => ret ((⟨v1, x0.fNeed⟩ : RKeys) : RKeys))
def pats : List Pat := [.agg [.sl 3, .int .i64]]
def res : RP := .agg [.fr 3, .rd (.int .i64)]
noncomputable abbrev E : Env := { T := assoc Tab, G := conG [(214, laws_toIntS.con)], nt := 12 }
set_option maxRecDepth 100000
theorem run_eq (n : Nat) (ls : List L) : runF E (fun _ => []) Try.f236 res n (initS pats ls) = F (RKeys.dec ls) := by kernel_rfl
noncomputable def md (a0 : MKeys) : MKeys := a0
def gd (a0 : MKeys) : Prop := MKeys.Sm (2 ^ 36) a0
def acc (ls : List L) : RKeys := (RKeys.dec ls)
noncomputable def R : RKeys → Option RKeys := RR gd md
theorem R_eq {a0} (h : gd a0) : R (MKeys.r a0) = some (MKeys.r (md a0)) := RR_eq (a := a0) h
noncomputable def con : Con := CN pats res acc R
theorem okF (a0 : MKeys) (hg : gd a0) : F (MKeys.r a0) = ret ((MKeys.r (md a0)) : RKeys) := by
  unfold md
  show (call (laws_toIntS.R (a0.fList.map iRow)) fun v1 => ret ((⟨v1, a0.fNeed⟩ : RKeys) : RKeys)) = _
  rw [call_eq (laws_toIntS.R_eq hg)]
  rfl
theorem valid_ : Valid Try.prog Ev 236 con := VV (run := fun _ x => F x) mix tab_ok (.cons laws_toIntS.valid_ .nil) Try.func236 (by kernel_rfl) run_eq (fun _ a _ _ hg => ⟨0, okF a hg⟩)
end laws_toKeys
/-! laws.toHead -/
namespace laws_toHead
noncomputable def F (x0 : RHead) : Ans := (call (laws_toKeys.R x0.fKeys) fun v1 => (call (laws_toKeys.R x0.fHeirs) fun v2 => (call (laws_toKeys.R x0.fJudge) fun v3 => ret ((⟨x0.fZone, x0.fEpoch, x0.fKind, x0.fTime, x0.fUntil, x0.fCount, x0.fRoot, x0.fPrev, v1, v2, x0.fWait, v3, x0.fFrozen⟩ : RHead) : RHead))))
def pats : List Pat := [.agg [.int .i64, .int .i64, .int .i64, .int .i64, .int .i64, .int .i64, .int .i64, .int .i64, .sl 3, .int .i64, .sl 3, .int .i64, .int .i64, .sl 3, .int .i64, .bool]]
def res : RP := .agg [.rd (.int .i64), .rd (.int .i64), .rd (.int .i64), .rd (.int .i64), .rd (.int .i64), .rd (.int .i64), .rd (.int .i64), .rd (.int .i64), .fr 3, .rd (.int .i64), .fr 3, .rd (.int .i64), .rd (.int .i64), .fr 3, .rd (.int .i64), .rd (.bool)]
noncomputable abbrev E : Env := { T := assoc Tab, G := conG [(236, laws_toKeys.con)], nt := 47 }
set_option maxRecDepth 100000
theorem run_eq (n : Nat) (ls : List L) : runF E (fun _ => []) Try.f206 res n (initS pats ls) = F (RHead.dec ls) := by kernel_rfl
noncomputable def md (a0 : MHead) : MHead := a0
def gd (a0 : MHead) : Prop := MHead.Sm (2 ^ 36) a0
def acc (ls : List L) : RHead := (RHead.dec ls)
noncomputable def R : RHead → Option RHead := RR gd md
theorem R_eq {a0} (h : gd a0) : R (MHead.r a0) = some (MHead.r (md a0)) := RR_eq (a := a0) h
noncomputable def con : Con := CN pats res acc R
theorem okF (a0 : MHead) (hg : gd a0) : F (MHead.r a0) = ret ((MHead.r (md a0)) : RHead) := by
  unfold md
  show (call (laws_toKeys.R (MKeys.r a0.fKeys)) fun v1 => (call (laws_toKeys.R (MKeys.r a0.fHeirs)) fun v2 => (call (laws_toKeys.R (MKeys.r a0.fJudge)) fun v3 => ret ((⟨a0.fZone, a0.fEpoch, a0.fKind, a0.fTime, a0.fUntil, a0.fCount, a0.fRoot, a0.fPrev, v1, v2, a0.fWait, v3, a0.fFrozen⟩ : RHead) : RHead)))) = _
  rw [call_eq (laws_toKeys.R_eq hg.1)]
  rw [call_eq (laws_toKeys.R_eq hg.2.1)]
  rw [call_eq (laws_toKeys.R_eq hg.2.2)]
  rfl
theorem valid_ : Valid Try.prog Ev 206 con := VV (run := fun _ x => F x) mix tab_ok (.cons laws_toKeys.valid_ .nil) Try.func206 (by kernel_rfl) run_eq (fun _ a _ _ hg => ⟨0, okF a hg⟩)
end laws_toHead
/-! laws.toSig -/
namespace laws_toSig
noncomputable def F (x0 : MSig) : Ans := ret (x0 : MSig)
def pats : List Pat := [.agg [.int .i64, .int .i64]]
def res : RP := .agg [.rd (.int .i64), .rd (.int .i64)]
noncomputable abbrev E : Env := { T := assoc Tab, G := conG [], nt := 11 }
set_option maxRecDepth 100000
theorem run_eq (n : Nat) (ls : List L) : runF E (fun _ => []) Try.f237 res n (initS pats ls) = F (MSig.dec ls) := by kernel_rfl
noncomputable def md (a0 : MSig) : MSig := a0
def gd (a0 : MSig) : Prop := MSig.Sm (2 ^ 36) a0
def acc (ls : List L) : MSig := (MSig.dec ls)
noncomputable def R : MSig → Option MSig := RR gd md
theorem R_eq {a0} (h : gd a0) : R a0 = some (md a0) := RR_eq (a := a0) h
noncomputable def con : Con := CN pats res acc R
theorem okF (a0 : MSig) (hg : gd a0) : F a0 = ret ((md a0) : MSig) := by
  rfl
theorem valid_ : Valid Try.prog Ev 237 con := VV (run := fun _ x => F x) mix tab_ok .nil Try.func237 (by kernel_rfl) run_eq (fun _ a _ _ hg => ⟨0, okF a hg⟩)
end laws_toSig
/-! laws.toSigS -/
namespace laws_toSigS
inductive Pt where
  | p0 (a : List (List L)) (b : Int) (c : List (List L))
def pid : Pt → Nat
  | .p0 .. => 3
def pvs : Pt → List V
  | .p0 a b c => [.sl none 279 a, .own 0, .int .i64 b]
def phs : Pt → List Root
  | .p0 a b c => [.row 248 c]
noncomputable def step (J : Pt → Ans) : Pt → Ans
  | .p0 a b c => (bif (decide (b < (a.length : Int))) then (bif (decide ((0 : Int) ≤ b)) then (bif (decide (b < (a.length : Int))) then (call (laws_toSig.R (MSig.at a (Int.toNat b))) fun v1 => (bif (decide ((0 : Int) ≤ b)) then (bif (decide (b < (c.length : Int))) then J (.p0 a (IntKind.i64.wrap (b + 1)) (List.set c (Int.toNat b) (MSig.enc v1))) else none) else none)) else none) else none) else ret (c : List (List L)))
noncomputable def start (J : Pt → Ans) (x0 : List (List L)) : Ans := (bif (decide ((0 : Int) ≤ (x0.length : Int))) then (bif (decide ((x0.length : Int) ≤ (x0.length : Int))) then (bif (decide ((x0.length : Int) * 16 ≤ 140737488355328)) then J (.p0 x0 0 (List.replicate (Int.toNat (x0.length : Int)) [L.int 0, L.int 0])) else none) else none) else none)
def live : Nat → Live := fun i => match i with | 3 => [(0, none), (3, none), (4, none)] | _ => []
def pats : List Pat := [.rd (.sl 279)]
def res : RP := .one (.fr 248)
noncomputable abbrev E : Env := { T := assoc Tab, G := conG [(237, laws_toSig.con)], nt := 23 }
set_option maxRecDepth 100000
theorem step_eq (I : Heads) (p : Pt) : enterC E live I (pid p) (bodyOf Try.f207) (stOf (live (pid p)) (pvs p) (phs p)) (doneK E Try.f207 res) = step (fun q => I (pid q) (pvs q) (phs q)) p := by
  cases p <;> kernel_rfl
theorem start_eq (I : Heads) (ls : List L) : runC E live I (bodyOf Try.f207) (initS pats ls) (doneK E Try.f207 res) = start (fun q => I (pid q) (pvs q) (phs q)) (ls.headD .hole).toSl := by kernel_rfl
theorem run_eq (n : Nat) (ls : List L) : runF E live Try.f207 res n (initS pats ls) = start (iter step n) (ls.headD .hole).toSl := runF_iter (id := pid) (vs := pvs) (hs := phs) (step := step) (start := fun J => start J (ls.headD .hole).toSl) step_eq (fun I => start_eq I ls) n
noncomputable def md (a0 : List MSig) : List MSig := a0
def gd (a0 : List MSig) : Prop := SmL (2 ^ 36) (fun y : MSig => MSig.Sm (2 ^ 36) y) a0
def acc (ls : List L) : List (List L) := (ls.headD .hole).toSl
noncomputable def R : (List (List L)) → Option (List (List L)) := RR gd md
theorem R_eq {a0} (h : gd a0) : R (a0.map MSig.row) = some ((md a0).map MSig.row) := RR_eq (a := a0) h
noncomputable def con : Con := CN pats res acc R
theorem okF (a0 : List MSig) (hg : gd a0) : ∃ n, start (iter step n) (a0.map MSig.row) = ret (((md a0).map MSig.row) : List (List L)) := by
  unfold start md
  simp only [List.length_map]
  refine to_list (b := 16) (pt := fun i c => Pt.p0 (a0.map MSig.row) (i : Int) c) (by have := hg.1; simp at this; omega) (fun J i h c hc => ?_) (fun J c => ?_)
  · simp only [step, List.length_map, lt_dec h, zle_dec, cond_true, toNat_nat, MSig.at_row h, hc]
    rw [call_eq (laws_toSig.R_eq (hg.get h))]
    try simp only [hc, lt_dec h, cond_true]
    rw [wrap_succ (n := a0.length) h (by have := hg.1; simp only [maxLen]; simp at this; omega)]
    rfl
  · simp only [step, List.length_map, nlt_dec, cond_false]
theorem valid_ : Valid Try.prog Ev 207 con := VV (run := fun n x => start (iter step n) x) mix tab_ok (.cons laws_toSig.valid_ .nil) Try.func207 (by kernel_rfl) run_eq (fun _ a _ _ hg => okF a hg)
end laws_toSigS
/-! laws.toSigned -/
namespace laws_toSigned
noncomputable def F (x0 : RSigned) : Ans := (call (laws_toHead.R x0.fHead) fun v1 => (call (laws_toSigS.R x0.fSigs) fun v2 => ret ((⟨v1, v2⟩ : RSigned) : RSigned)))
def pats : List Pat := [.agg [.int .i64, .int .i64, .int .i64, .int .i64, .int .i64, .int .i64, .int .i64, .int .i64, .sl 3, .int .i64, .sl 3, .int .i64, .int .i64, .sl 3, .int .i64, .bool, .sl 279]]
def res : RP := .agg [.rd (.int .i64), .rd (.int .i64), .rd (.int .i64), .rd (.int .i64), .rd (.int .i64), .rd (.int .i64), .rd (.int .i64), .rd (.int .i64), .fr 3, .rd (.int .i64), .fr 3, .rd (.int .i64), .rd (.int .i64), .fr 3, .rd (.int .i64), .rd (.bool), .fr 248]
noncomputable abbrev E : Env := { T := assoc Tab, G := conG [(206, laws_toHead.con), (207, laws_toSigS.con)], nt := 13 }
set_option maxRecDepth 100000
theorem run_eq (n : Nat) (ls : List L) : runF E (fun _ => []) Try.f150 res n (initS pats ls) = F (RSigned.dec ls) := by kernel_rfl
noncomputable def md (a0 : MSigned) : MSigned := a0
def gd (a0 : MSigned) : Prop := MSigned.Sm (2 ^ 36) a0
def acc (ls : List L) : RSigned := (RSigned.dec ls)
noncomputable def R : RSigned → Option RSigned := RR gd md
theorem R_eq {a0} (h : gd a0) : R (MSigned.r a0) = some (MSigned.r (md a0)) := RR_eq (a := a0) h
noncomputable def con : Con := CN pats res acc R
theorem okF (a0 : MSigned) (hg : gd a0) : F (MSigned.r a0) = ret ((MSigned.r (md a0)) : RSigned) := by
  unfold md
  show (call (laws_toHead.R (MHead.r a0.fHead)) fun v1 => (call (laws_toSigS.R (a0.fSigs.map MSig.row)) fun v2 => ret ((⟨v1, v2⟩ : RSigned) : RSigned))) = _
  rw [call_eq (laws_toHead.R_eq hg.1)]
  rw [call_eq (laws_toSigS.R_eq hg.2)]
  rfl
theorem valid_ : Valid Try.prog Ev 150 con := VV (run := fun _ x => F x) mix tab_ok (.cons laws_toHead.valid_ (.cons laws_toSigS.valid_ .nil)) Try.func150 (by kernel_rfl) run_eq (fun _ a _ _ hg => ⟨0, okF a hg⟩)
end laws_toSigned
/-! laws.toSignedS -/
namespace laws_toSignedS
inductive Pt where
  | p0 (a : List (List L)) (b : Int) (c : List (List L))
def pid : Pt → Nat
  | .p0 .. => 3
def pvs : Pt → List V
  | .p0 a b c => [.sl none 197 a, .own 0, .int .i64 b]
def phs : Pt → List Root
  | .p0 a b c => [.row 184 c]
noncomputable def step (J : Pt → Ans) : Pt → Ans
  | .p0 a b c => (bif (decide (b < (a.length : Int))) then (bif (decide ((0 : Int) ≤ b)) then (bif (decide (b < (a.length : Int))) then (call (laws_toSigned.R (RSigned.at a (Int.toNat b))) fun v1 => (bif (decide ((0 : Int) ≤ b)) then (bif (decide (b < (c.length : Int))) then J (.p0 a (IntKind.i64.wrap (b + 1)) (List.set c (Int.toNat b) (RSigned.enc v1))) else none) else none)) else none) else none) else ret (c : List (List L)))
noncomputable def start (J : Pt → Ans) (x0 : List (List L)) : Ans := (bif (decide ((0 : Int) ≤ (x0.length : Int))) then (bif (decide ((x0.length : Int) ≤ (x0.length : Int))) then (bif (decide ((x0.length : Int) * 200 ≤ 140737488355328)) then J (.p0 x0 0 (List.replicate (Int.toNat (x0.length : Int)) [L.int 0, L.int 0, L.int 0, L.int 0, L.int 0, L.int 0, L.int 0, L.int 0, L.sl [], L.int 0, L.sl [], L.int 0, L.int 0, L.sl [], L.int 0, L.bool false, L.sl []])) else none) else none) else none)
def live : Nat → Live := fun i => match i with | 3 => [(0, none), (3, none), (4, none)] | _ => []
def pats : List Pat := [.rd (.sl 197)]
def res : RP := .one (.fr 184)
noncomputable abbrev E : Env := { T := assoc Tab, G := conG [(150, laws_toSigned.con)], nt := 23 }
set_option maxRecDepth 100000
theorem step_eq (I : Heads) (p : Pt) : enterC E live I (pid p) (bodyOf Try.f63) (stOf (live (pid p)) (pvs p) (phs p)) (doneK E Try.f63 res) = step (fun q => I (pid q) (pvs q) (phs q)) p := by
  cases p <;> kernel_rfl
theorem start_eq (I : Heads) (ls : List L) : runC E live I (bodyOf Try.f63) (initS pats ls) (doneK E Try.f63 res) = start (fun q => I (pid q) (pvs q) (phs q)) (ls.headD .hole).toSl := by kernel_rfl
theorem run_eq (n : Nat) (ls : List L) : runF E live Try.f63 res n (initS pats ls) = start (iter step n) (ls.headD .hole).toSl := runF_iter (id := pid) (vs := pvs) (hs := phs) (step := step) (start := fun J => start J (ls.headD .hole).toSl) step_eq (fun I => start_eq I ls) n
noncomputable def md (a0 : List MSigned) : List MSigned := a0
def gd (a0 : List MSigned) : Prop := SmL (2 ^ 36) (fun y : MSigned => MSigned.Sm (2 ^ 36) y) a0
def acc (ls : List L) : List (List L) := (ls.headD .hole).toSl
noncomputable def R : (List (List L)) → Option (List (List L)) := RR gd md
theorem R_eq {a0} (h : gd a0) : R (a0.map MSigned.row) = some ((md a0).map MSigned.row) := RR_eq (a := a0) h
noncomputable def con : Con := CN pats res acc R
theorem okF (a0 : List MSigned) (hg : gd a0) : ∃ n, start (iter step n) (a0.map MSigned.row) = ret (((md a0).map MSigned.row) : List (List L)) := by
  unfold start md
  simp only [List.length_map]
  refine to_list (b := 200) (pt := fun i c => Pt.p0 (a0.map MSigned.row) (i : Int) c) (by have := hg.1; simp at this; omega) (fun J i h c hc => ?_) (fun J c => ?_)
  · simp only [step, List.length_map, lt_dec h, zle_dec, cond_true, toNat_nat, MSigned.at_row h, hc]
    rw [call_eq (laws_toSigned.R_eq (hg.get h))]
    try simp only [hc, lt_dec h, cond_true]
    rw [wrap_succ (n := a0.length) h (by have := hg.1; simp only [maxLen]; simp at this; omega)]
    rfl
  · simp only [step, List.length_map, nlt_dec, cond_false]
theorem valid_ : Valid Try.prog Ev 63 con := VV (run := fun n x => start (iter step n) x) mix tab_ok (.cons laws_toSigned.valid_ .nil) Try.func63 (by kernel_rfl) run_eq (fun _ a _ _ hg => okF a hg)
end laws_toSignedS
/-! laws.toStringS -/
namespace laws_toStringS
inductive Pt where
  | p0 (a : List (List L)) (b : Int) (c : List (List L))
def pid : Pt → Nat
  | .p0 .. => 3
def pvs : Pt → List V
  | .p0 a b c => [.sl none 9 a, .own 0, .int .i64 b]
def phs : Pt → List Root
  | .p0 a b c => [.row 9 c]
noncomputable def step (J : Pt → Ans) : Pt → Ans
  | .p0 a b c => (bif (decide (b < (a.length : Int))) then (bif (decide ((0 : Int) ≤ b)) then (bif (decide (b < (a.length : Int))) then (bif (decide ((0 : Int) ≤ b)) then (bif (decide (b < (c.length : Int))) then J (.p0 a (IntKind.i64.wrap (b + 1)) (List.set c (Int.toNat b) [L.str (sAt a (Int.toNat b))])) else none) else none) else none) else none) else ret (c : List (List L)))
noncomputable def start (J : Pt → Ans) (x0 : List (List L)) : Ans := (bif (decide ((0 : Int) ≤ (x0.length : Int))) then (bif (decide ((x0.length : Int) ≤ (x0.length : Int))) then (bif (decide ((x0.length : Int) * 16 ≤ 140737488355328)) then J (.p0 x0 0 (List.replicate (Int.toNat (x0.length : Int)) [L.str ⟨#[]⟩])) else none) else none) else none)
def live : Nat → Live := fun i => match i with | 3 => [(0, none), (3, none), (4, none)] | _ => []
def pats : List Pat := [.rd (.sl 9)]
def res : RP := .one (.fr 9)
noncomputable abbrev E : Env := { T := assoc Tab, G := conG [], nt := 22 }
set_option maxRecDepth 100000
theorem step_eq (I : Heads) (p : Pt) : enterC E live I (pid p) (bodyOf Try.f38) (stOf (live (pid p)) (pvs p) (phs p)) (doneK E Try.f38 res) = step (fun q => I (pid q) (pvs q) (phs q)) p := by
  cases p <;> kernel_rfl
theorem start_eq (I : Heads) (ls : List L) : runC E live I (bodyOf Try.f38) (initS pats ls) (doneK E Try.f38 res) = start (fun q => I (pid q) (pvs q) (phs q)) (ls.headD .hole).toSl := by kernel_rfl
theorem run_eq (n : Nat) (ls : List L) : runF E live Try.f38 res n (initS pats ls) = start (iter step n) (ls.headD .hole).toSl := runF_iter (id := pid) (vs := pvs) (hs := phs) (step := step) (start := fun J => start J (ls.headD .hole).toSl) step_eq (fun I => start_eq I ls) n
noncomputable def md (a0 : List ByteArray) : List ByteArray := a0
def gd (a0 : List ByteArray) : Prop := SmL (2 ^ 36) (fun y : ByteArray => y.size ≤ (2 ^ 36)) a0
def acc (ls : List L) : List (List L) := (ls.headD .hole).toSl
noncomputable def R : (List (List L)) → Option (List (List L)) := RR gd md
theorem R_eq {a0} (h : gd a0) : R (a0.map sRow) = some ((md a0).map sRow) := RR_eq (a := a0) h
noncomputable def con : Con := CN pats res acc R
theorem okF (a0 : List ByteArray) (hg : gd a0) : ∃ n, start (iter step n) (a0.map sRow) = ret (((md a0).map sRow) : List (List L)) := by
  unfold start md
  simp only [List.length_map]
  refine to_list (b := 16) (pt := fun i c => Pt.p0 (a0.map sRow) (i : Int) c) (by have := hg.1; simp at this; omega) (fun J i h c hc => ?_) (fun J c => ?_)
  · simp only [step, List.length_map, lt_dec h, zle_dec, cond_true, toNat_nat, sAt_row h, hc]
    rw [wrap_succ (n := a0.length) h (by have := hg.1; simp only [maxLen]; simp at this; omega)]
    rfl
  · simp only [step, List.length_map, nlt_dec, cond_false]
theorem valid_ : Valid Try.prog Ev 38 con := VV (run := fun n x => start (iter step n) x) mix tab_ok .nil Try.func38 (by kernel_rfl) run_eq (fun _ a _ _ hg => okF a hg)
end laws_toStringS
/-! laws.toEntry -/
namespace laws_toEntry
noncomputable def F (x0 : REntry) : Ans := (call (laws_toStringS.R x0.fPath) fun v1 => ret ((⟨x0.fLabel, x0.fKind, x0.fValue, v1⟩ : REntry) : REntry))
def pats : List Pat := [.agg [.str, .int .i64, .int .i64, .sl 9]]
def res : RP := .agg [.rd (.str), .rd (.int .i64), .rd (.int .i64), .fr 9]
noncomputable abbrev E : Env := { T := assoc Tab, G := conG [(38, laws_toStringS.con)], nt := 18 }
set_option maxRecDepth 100000
theorem run_eq (n : Nat) (ls : List L) : runF E (fun _ => []) Try.f49 res n (initS pats ls) = F (REntry.dec ls) := by kernel_rfl
noncomputable def md (a0 : MEntry) : MEntry := a0
def gd (a0 : MEntry) : Prop := MEntry.Sm (2 ^ 36) a0
def acc (ls : List L) : REntry := (REntry.dec ls)
noncomputable def R : REntry → Option REntry := RR gd md
theorem R_eq {a0} (h : gd a0) : R (MEntry.r a0) = some (MEntry.r (md a0)) := RR_eq (a := a0) h
noncomputable def con : Con := CN pats res acc R
theorem okF (a0 : MEntry) (hg : gd a0) : F (MEntry.r a0) = ret ((MEntry.r (md a0)) : REntry) := by
  unfold md
  show (call (laws_toStringS.R (a0.fPath.map sRow)) fun v1 => ret ((⟨a0.fLabel, a0.fKind, a0.fValue, v1⟩ : REntry) : REntry)) = _
  rw [call_eq (laws_toStringS.R_eq hg.2)]
  rfl
theorem valid_ : Valid Try.prog Ev 49 con := VV (run := fun _ x => F x) mix tab_ok (.cons laws_toStringS.valid_ .nil) Try.func49 (by kernel_rfl) run_eq (fun _ a _ _ hg => ⟨0, okF a hg⟩)
end laws_toEntry
/-! laws.toProof -/
namespace laws_toProof
noncomputable def F (x0 : RProof) : Ans := (call (laws_toIntS.R x0.fPath) fun v1 => ret ((⟨x0.fAt, v1⟩ : RProof) : RProof))
def pats : List Pat := [.agg [.int .i64, .sl 3]]
def res : RP := .agg [.rd (.int .i64), .fr 3]
noncomputable abbrev E : Env := { T := assoc Tab, G := conG [(214, laws_toIntS.con)], nt := 12 }
set_option maxRecDepth 100000
theorem run_eq (n : Nat) (ls : List L) : runF E (fun _ => []) Try.f255 res n (initS pats ls) = F (RProof.dec ls) := by kernel_rfl
noncomputable def md (a0 : MProof) : MProof := a0
def gd (a0 : MProof) : Prop := MProof.Sm (2 ^ 36) a0
def acc (ls : List L) : RProof := (RProof.dec ls)
noncomputable def R : RProof → Option RProof := RR gd md
theorem R_eq {a0} (h : gd a0) : R (MProof.r a0) = some (MProof.r (md a0)) := RR_eq (a := a0) h
noncomputable def con : Con := CN pats res acc R
theorem okF (a0 : MProof) (hg : gd a0) : F (MProof.r a0) = ret ((MProof.r (md a0)) : RProof) := by
  unfold md
  show (call (laws_toIntS.R (a0.fPath.map iRow)) fun v1 => ret ((⟨a0.fAt, v1⟩ : RProof) : RProof)) = _
  rw [call_eq (laws_toIntS.R_eq hg)]
  rfl
theorem valid_ : Valid Try.prog Ev 255 con := VV (run := fun _ x => F x) mix tab_ok (.cons laws_toIntS.valid_ .nil) Try.func255 (by kernel_rfl) run_eq (fun _ a _ _ hg => ⟨0, okF a hg⟩)
end laws_toProof
/-! laws.toGap -/
namespace laws_toGap
noncomputable def F (x0 : RGap) : Ans := (call (laws_toEntry.R x0.fBefore) fun v1 => (call (laws_toEntry.R x0.fAfter) fun v2 => (call (laws_toProof.R x0.fLeft) fun v3 => (call (laws_toProof.R x0.fRight) fun v4 => ret ((⟨x0.fAt, v1, v2, v3, v4⟩ : RGap) : RGap)))))
def pats : List Pat := [.agg [.int .i64, .str, .int .i64, .int .i64, .sl 9, .str, .int .i64, .int .i64, .sl 9, .int .i64, .sl 3, .int .i64, .sl 3]]
def res : RP := .agg [.rd (.int .i64), .rd (.str), .rd (.int .i64), .rd (.int .i64), .fr 9, .rd (.str), .rd (.int .i64), .rd (.int .i64), .fr 9, .rd (.int .i64), .fr 3, .rd (.int .i64), .fr 3]
noncomputable abbrev E : Env := { T := assoc Tab, G := conG [(49, laws_toEntry.con), (255, laws_toProof.con)], nt := 24 }
set_option maxRecDepth 100000
theorem run_eq (n : Nat) (ls : List L) : runF E (fun _ => []) Try.f256 res n (initS pats ls) = F (RGap.dec ls) := by kernel_rfl
noncomputable def md (a0 : MGap) : MGap := a0
def gd (a0 : MGap) : Prop := MGap.Sm (2 ^ 36) a0
def acc (ls : List L) : RGap := (RGap.dec ls)
noncomputable def R : RGap → Option RGap := RR gd md
theorem R_eq {a0} (h : gd a0) : R (MGap.r a0) = some (MGap.r (md a0)) := RR_eq (a := a0) h
noncomputable def con : Con := CN pats res acc R
theorem okF (a0 : MGap) (hg : gd a0) : F (MGap.r a0) = ret ((MGap.r (md a0)) : RGap) := by
  unfold md
  show (call (laws_toEntry.R (MEntry.r a0.fBefore)) fun v1 => (call (laws_toEntry.R (MEntry.r a0.fAfter)) fun v2 => (call (laws_toProof.R (MProof.r a0.fLeft)) fun v3 => (call (laws_toProof.R (MProof.r a0.fRight)) fun v4 => ret ((⟨a0.fAt, v1, v2, v3, v4⟩ : RGap) : RGap))))) = _
  rw [call_eq (laws_toEntry.R_eq hg.1)]
  rw [call_eq (laws_toEntry.R_eq hg.2.1)]
  rw [call_eq (laws_toProof.R_eq hg.2.2.1)]
  rw [call_eq (laws_toProof.R_eq hg.2.2.2)]
  rfl
theorem valid_ : Valid Try.prog Ev 256 con := VV (run := fun _ x => F x) mix tab_ok (.cons laws_toEntry.valid_ (.cons laws_toProof.valid_ .nil)) Try.func256 (by kernel_rfl) run_eq (fun _ a _ _ hg => ⟨0, okF a hg⟩)
end laws_toGap
/-! laws.toAnswer -/
namespace laws_toAnswer
noncomputable def F (x0 : RAnswer) : Ans := (call (laws_toSignedS.R x0.fChain) fun v1 => (call (laws_toEntry.R x0.fEntry) fun v2 => (call (laws_toProof.R x0.fProof) fun v3 => (call (laws_toGap.R x0.fGap) fun v4 => ret ((⟨v1, x0.fFound, v2, v3, v4⟩ : RAnswer) : RAnswer)))))
def pats : List Pat := [.agg [.sl 197, .bool, .str, .int .i64, .int .i64, .sl 9, .int .i64, .sl 3, .int .i64, .str, .int .i64, .int .i64, .sl 9, .str, .int .i64, .int .i64, .sl 9, .int .i64, .sl 3, .int .i64, .sl 3]]
def res : RP := .agg [.fr 184, .rd (.bool), .rd (.str), .rd (.int .i64), .rd (.int .i64), .fr 9, .rd (.int .i64), .fr 3, .rd (.int .i64), .rd (.str), .rd (.int .i64), .rd (.int .i64), .fr 9, .rd (.str), .rd (.int .i64), .rd (.int .i64), .fr 9, .rd (.int .i64), .fr 3, .rd (.int .i64), .fr 3]
noncomputable abbrev E : Env := { T := assoc Tab, G := conG [(63, laws_toSignedS.con), (49, laws_toEntry.con), (255, laws_toProof.con), (256, laws_toGap.con)], nt := 24 }
set_option maxRecDepth 100000
theorem run_eq (n : Nat) (ls : List L) : runF E (fun _ => []) Try.f241 res n (initS pats ls) = F (RAnswer.dec ls) := by kernel_rfl
noncomputable def md (a0 : MAnswer) : MAnswer := a0
def gd (a0 : MAnswer) : Prop := MAnswer.Sm (2 ^ 36) a0
def acc (ls : List L) : RAnswer := (RAnswer.dec ls)
noncomputable def R : RAnswer → Option RAnswer := RR gd md
theorem R_eq {a0} (h : gd a0) : R (MAnswer.r a0) = some (MAnswer.r (md a0)) := RR_eq (a := a0) h
noncomputable def con : Con := CN pats res acc R
theorem okF (a0 : MAnswer) (hg : gd a0) : F (MAnswer.r a0) = ret ((MAnswer.r (md a0)) : RAnswer) := by
  unfold md
  show (call (laws_toSignedS.R (a0.fChain.map MSigned.row)) fun v1 => (call (laws_toEntry.R (MEntry.r a0.fEntry)) fun v2 => (call (laws_toProof.R (MProof.r a0.fProof)) fun v3 => (call (laws_toGap.R (MGap.r a0.fGap)) fun v4 => ret ((⟨v1, a0.fFound, v2, v3, v4⟩ : RAnswer) : RAnswer))))) = _
  rw [call_eq (laws_toSignedS.R_eq hg.1)]
  rw [call_eq (laws_toEntry.R_eq hg.2.1)]
  rw [call_eq (laws_toProof.R_eq hg.2.2.1)]
  rw [call_eq (laws_toGap.R_eq hg.2.2.2)]
  rfl
theorem valid_ : Valid Try.prog Ev 241 con := VV (run := fun _ x => F x) mix tab_ok (.cons laws_toSignedS.valid_ (.cons laws_toEntry.valid_ (.cons laws_toProof.valid_ (.cons laws_toGap.valid_ .nil)))) Try.func241 (by kernel_rfl) run_eq (fun _ a _ _ hg => ⟨0, okF a hg⟩)
end laws_toAnswer
/-! laws.toStored -/
namespace laws_toStored
noncomputable def F (x0 : RStored) : Ans := (call (laws_toAnswer.R x0.fAnswer) fun v1 => ret ((⟨x0.fZone, x0.fLabel, v1⟩ : RStored) : RStored))
def pats : List Pat := [.agg [.int .i64, .str, .sl 197, .bool, .str, .int .i64, .int .i64, .sl 9, .int .i64, .sl 3, .int .i64, .str, .int .i64, .int .i64, .sl 9, .str, .int .i64, .int .i64, .sl 9, .int .i64, .sl 3, .int .i64, .sl 3]]
def res : RP := .agg [.rd (.int .i64), .rd (.str), .fr 184, .rd (.bool), .rd (.str), .rd (.int .i64), .rd (.int .i64), .fr 9, .rd (.int .i64), .fr 3, .rd (.int .i64), .rd (.str), .rd (.int .i64), .rd (.int .i64), .fr 9, .rd (.str), .rd (.int .i64), .rd (.int .i64), .fr 9, .rd (.int .i64), .fr 3, .rd (.int .i64), .fr 3]
noncomputable abbrev E : Env := { T := assoc Tab, G := conG [(241, laws_toAnswer.con)], nt := 15 }
set_option maxRecDepth 100000
theorem run_eq (n : Nat) (ls : List L) : runF E (fun _ => []) Try.f220 res n (initS pats ls) = F (RStored.dec ls) := by kernel_rfl
noncomputable def md (a0 : MStored) : MStored := a0
def gd (a0 : MStored) : Prop := MStored.Sm (2 ^ 36) a0
def acc (ls : List L) : RStored := (RStored.dec ls)
noncomputable def R : RStored → Option RStored := RR gd md
theorem R_eq {a0} (h : gd a0) : R (MStored.r a0) = some (MStored.r (md a0)) := RR_eq (a := a0) h
noncomputable def con : Con := CN pats res acc R
theorem okF (a0 : MStored) (hg : gd a0) : F (MStored.r a0) = ret ((MStored.r (md a0)) : RStored) := by
  unfold md
  show (call (laws_toAnswer.R (MAnswer.r a0.fAnswer)) fun v1 => ret ((⟨a0.fZone, a0.fLabel, v1⟩ : RStored) : RStored)) = _
  rw [call_eq (laws_toAnswer.R_eq hg.2)]
  rfl
theorem valid_ : Valid Try.prog Ev 220 con := VV (run := fun _ x => F x) mix tab_ok (.cons laws_toAnswer.valid_ .nil) Try.func220 (by kernel_rfl) run_eq (fun _ a _ _ hg => ⟨0, okF a hg⟩)
end laws_toStored
/-! laws.toStoredS -/
namespace laws_toStoredS
inductive Pt where
  | p0 (a : List (List L)) (b : Int) (c : List (List L))
def pid : Pt → Nat
  | .p0 .. => 3
def pvs : Pt → List V
  | .p0 a b c => [.sl none 263 a, .own 0, .int .i64 b]
def phs : Pt → List Root
  | .p0 a b c => [.row 220 c]
noncomputable def step (J : Pt → Ans) : Pt → Ans
  | .p0 a b c => (bif (decide (b < (a.length : Int))) then (bif (decide ((0 : Int) ≤ b)) then (bif (decide (b < (a.length : Int))) then (call (laws_toStored.R (RStored.at a (Int.toNat b))) fun v1 => (bif (decide ((0 : Int) ≤ b)) then (bif (decide (b < (c.length : Int))) then J (.p0 a (IntKind.i64.wrap (b + 1)) (List.set c (Int.toNat b) (RStored.enc v1))) else none) else none)) else none) else none) else ret (c : List (List L)))
noncomputable def start (J : Pt → Ans) (x0 : List (List L)) : Ans := (bif (decide ((0 : Int) ≤ (x0.length : Int))) then (bif (decide ((x0.length : Int) ≤ (x0.length : Int))) then (bif (decide ((x0.length : Int) * 328 ≤ 140737488355328)) then J (.p0 x0 0 (List.replicate (Int.toNat (x0.length : Int)) [L.int 0, L.str ⟨#[]⟩, L.sl [], L.bool false, L.str ⟨#[]⟩, L.int 0, L.int 0, L.sl [], L.int 0, L.sl [], L.int 0, L.str ⟨#[]⟩, L.int 0, L.int 0, L.sl [], L.str ⟨#[]⟩, L.int 0, L.int 0, L.sl [], L.int 0, L.sl [], L.int 0, L.sl []])) else none) else none) else none)
def live : Nat → Live := fun i => match i with | 3 => [(0, none), (3, none), (4, none)] | _ => []
def pats : List Pat := [.rd (.sl 263)]
def res : RP := .one (.fr 220)
noncomputable abbrev E : Env := { T := assoc Tab, G := conG [(220, laws_toStored.con)], nt := 23 }
set_option maxRecDepth 100000
theorem step_eq (I : Heads) (p : Pt) : enterC E live I (pid p) (bodyOf Try.f170) (stOf (live (pid p)) (pvs p) (phs p)) (doneK E Try.f170 res) = step (fun q => I (pid q) (pvs q) (phs q)) p := by
  cases p <;> kernel_rfl
theorem start_eq (I : Heads) (ls : List L) : runC E live I (bodyOf Try.f170) (initS pats ls) (doneK E Try.f170 res) = start (fun q => I (pid q) (pvs q) (phs q)) (ls.headD .hole).toSl := by kernel_rfl
theorem run_eq (n : Nat) (ls : List L) : runF E live Try.f170 res n (initS pats ls) = start (iter step n) (ls.headD .hole).toSl := runF_iter (id := pid) (vs := pvs) (hs := phs) (step := step) (start := fun J => start J (ls.headD .hole).toSl) step_eq (fun I => start_eq I ls) n
noncomputable def md (a0 : List MStored) : List MStored := a0
def gd (a0 : List MStored) : Prop := SmL (2 ^ 36) (fun y : MStored => MStored.Sm (2 ^ 36) y) a0
def acc (ls : List L) : List (List L) := (ls.headD .hole).toSl
noncomputable def R : (List (List L)) → Option (List (List L)) := RR gd md
theorem R_eq {a0} (h : gd a0) : R (a0.map MStored.row) = some ((md a0).map MStored.row) := RR_eq (a := a0) h
noncomputable def con : Con := CN pats res acc R
theorem okF (a0 : List MStored) (hg : gd a0) : ∃ n, start (iter step n) (a0.map MStored.row) = ret (((md a0).map MStored.row) : List (List L)) := by
  unfold start md
  simp only [List.length_map]
  refine to_list (b := 328) (pt := fun i c => Pt.p0 (a0.map MStored.row) (i : Int) c) (by have := hg.1; simp at this; omega) (fun J i h c hc => ?_) (fun J c => ?_)
  · simp only [step, List.length_map, lt_dec h, zle_dec, cond_true, toNat_nat, MStored.at_row h, hc]
    rw [call_eq (laws_toStored.R_eq (hg.get h))]
    try simp only [hc, lt_dec h, cond_true]
    rw [wrap_succ (n := a0.length) h (by have := hg.1; simp only [maxLen]; simp at this; omega)]
    rfl
  · simp only [step, List.length_map, nlt_dec, cond_false]
theorem valid_ : Valid Try.prog Ev 170 con := VV (run := fun n x => start (iter step n) x) mix tab_ok (.cons laws_toStored.valid_ .nil) Try.func170 (by kernel_rfl) run_eq (fun _ a _ _ hg => okF a hg)
end laws_toStoredS
/-! laws.toCache -/
namespace laws_toCache
noncomputable def F (x0 : RCache) : Ans := (call (laws_toStoredS.R x0.fList) fun v1 => ret ((⟨v1⟩ : RCache) : RCache))
def pats : List Pat := [.agg [.sl 263]]
def res : RP := .agg [.fr 220]
noncomputable abbrev E : Env := { T := assoc Tab, G := conG [(170, laws_toStoredS.con)], nt := 9 }
set_option maxRecDepth 100000
theorem run_eq (n : Nat) (ls : List L) : runF E (fun _ => []) Try.f88 res n (initS pats ls) = F (RCache.dec ls) := by kernel_rfl
noncomputable def md (a0 : MCache) : MCache := a0
def gd (a0 : MCache) : Prop := MCache.Sm (2 ^ 36) a0
def acc (ls : List L) : RCache := (RCache.dec ls)
noncomputable def R : RCache → Option RCache := RR gd md
theorem R_eq {a0} (h : gd a0) : R (MCache.r a0) = some (MCache.r (md a0)) := RR_eq (a := a0) h
noncomputable def con : Con := CN pats res acc R
theorem okF (a0 : MCache) (hg : gd a0) : F (MCache.r a0) = ret ((MCache.r (md a0)) : RCache) := by
  unfold md
  show (call (laws_toStoredS.R (a0.fList.map MStored.row)) fun v1 => ret ((⟨v1⟩ : RCache) : RCache)) = _
  rw [call_eq (laws_toStoredS.R_eq hg)]
  rfl
theorem valid_ : Valid Try.prog Ev 88 con := VV (run := fun _ x => F x) mix tab_ok (.cons laws_toStoredS.valid_ .nil) Try.func88 (by kernel_rfl) run_eq (fun _ a _ _ hg => ⟨0, okF a hg⟩)
end laws_toCache
/-! spec.l26Find -/
namespace spec_l26Find
inductive Pt where
  | p0 (a : Int) (b : ByteArray) (c : Int) (d : RCache)
def pid : Pt → Nat
  | .p0 .. => 2
def pvs : Pt → List V
  | .p0 a b c d => [.int .i64 a, .str b, .bptr 0 0, .int .i64 c]
def phs : Pt → List Root
  | .p0 a b c d => [.box [.sl none 220 d.fList]]
noncomputable def step (J : Pt → Ans) : Pt → Ans
  | .p0 a b c d => (bif (decide (c < (d.fList.length : Int))) then (bif (decide ((0 : Int) ≤ c)) then (bif (decide (c < (d.fList.length : Int))) then (bif ((RStored.at d.fList (Int.toNat c)).fZone == a) then (bif (decide ((0 : Int) ≤ c)) then (bif (decide (c < (d.fList.length : Int))) then (bif ((RStored.at d.fList (Int.toNat c)).fLabel == b) then ret (c : Int) else J (.p0 a b (IntKind.i64.wrap (c + 1)) d)) else none) else none) else J (.p0 a b (IntKind.i64.wrap (c + 1)) d)) else none) else none) else ret ((-1) : Int))
noncomputable def start (J : Pt → Ans) (x0 : RCache) (x1 : Int) (x2 : ByteArray) : Ans := J (.p0 x1 x2 0 x0)
def live : Nat → Live := fun i => match i with | 2 => [(1, none), (2, none), (3, none), (7, none)] | _ => []
def pats : List Pat := [.agg [.sl 220], .rd (.int .i64), .rd (.str)]
def res : RP := .one (.rd (.int .i64))
noncomputable abbrev E : Env := { T := assoc Tab, G := conG [], nt := 34 }
set_option maxRecDepth 100000
theorem step_eq (I : Heads) (p : Pt) : enterC E live I (pid p) (bodyOf Try.f168) (stOf (live (pid p)) (pvs p) (phs p)) (doneK E Try.f168 res) = step (fun q => I (pid q) (pvs q) (phs q)) p := by
  cases p <;> kernel_rfl
theorem start_eq (I : Heads) (ls : List L) : runC E live I (bodyOf Try.f168) (initS pats ls) (doneK E Try.f168 res) = start (fun q => I (pid q) (pvs q) (phs q)) (RCache.dec ls) ((dropT 1 ls).headD .hole).toInt ((dropT 2 ls).headD .hole).toStr := by kernel_rfl
theorem run_eq (n : Nat) (ls : List L) : runF E live Try.f168 res n (initS pats ls) = start (iter step n) (RCache.dec ls) ((dropT 1 ls).headD .hole).toInt ((dropT 2 ls).headD .hole).toStr := runF_iter (id := pid) (vs := pvs) (hs := phs) (step := step) (start := fun J => start J (RCache.dec ls) ((dropT 1 ls).headD .hole).toInt ((dropT 2 ls).headD .hole).toStr) step_eq (fun I => start_eq I ls) n
noncomputable def md (a0 : MCache) (a1 : Int) (a2 : ByteArray) : Int := (eachI (S := Unit) (β := Int) (fun (i1 : Nat) (y1 : MStored) (s3 : Unit) => (bif (y1.fZone == a1) then (bif (y1.fLabel == a2) then (.inr ((i1 : Int) : Int)) else (.inl ())) else (.inl ()))) (fun (s3 : Unit) => ((-1) : Int)) 0 a0.fList ())
def gd (a0 : MCache) (a1 : Int) (a2 : ByteArray) : Prop := (MCache.Sm (2 ^ 21) a0)
def acc (ls : List L) : RCache × Int × ByteArray := ((RCache.dec ls), ((dropT 1 ls).headD .hole).toInt, ((dropT 2 ls).headD .hole).toStr)
noncomputable def R : (RCache × Int × ByteArray) → Option Int := RR (p3 gd) (u3 md)
theorem R_eq {a0} {a1} {a2} (h : gd a0 a1 a2) : R ((MCache.r a0), a1, a2) = some (md a0 a1 a2) := RR_eq (a := (a0, a1, a2)) h
noncomputable def con : Con := CN pats res acc R
theorem okF (a0 : MCache) (a1 : Int) (a2 : ByteArray) (hg : gd a0 a1 a2) : ∃ n, start (iter step n) (MCache.r a0) a1 a2 = ret ((md a0 a1 a2) : Int) := by
  unfold gd at hg
  have H0 := hg
  unfold start md
  try simp only [S0, MKeys.rs, MHead.rs, MEntry.rs, MStored.rs, MCache.rs]
  have Bh2 : a0.fList.length ≤ maxLen := (by
      have := (H0).1
      try simp only [maxLen] at *
      omega)
  refine ex_eq (out := ret) (loopM_eachI (z := MStored.zero)) ?_
  refine ex_pt (p := Pt.p0 a1 a2 0 (MCache.r a0)) (by first | rfl | (simp only [S0, MKeys.rs, MHead.rs, MEntry.rs, MStored.rs, MCache.rs, MP]; done) | (simp only [MP]; rfl)) ?_
  refine loopM_ok (pt := fun (i1 : Nat) (s3 : Unit) => Pt.p0 a1 a2 (i1 : Int) (MCache.r a0)) (s := (() : Unit)) (out := ret) (fun _ _ => True) (fun J i1 s3 h2 hih2 => ?_) (fun s3 hih2 => ?_) trivial
  · simp only [step, S0, MKeys.rs, MHead.rs, MEntry.rs, MStored.rs, MCache.rs]
    have bb_ := Bh2
    simp only [maxLen] at bb_
    have := (H0).1
    refine Rnd.yes (by apply decide_eq_true; omega) ?_
    refine Rnd.yes zle_dec ?_
    refine Rnd.yes (lt_dec h2) ?_
    refine Rnd.bif (fun c4 => ?_) (fun c4 => ?_)
    · refine Rnd.yes zle_dec ?_
      refine Rnd.yes (lt_dec h2) ?_
      refine Rnd.bif (fun c5 => ?_) (fun c5 => ?_)
      · refine Rnd.inr ?_
        all_goals first | rfl | (simp only [S0, MKeys.rs, MHead.rs, MEntry.rs, MStored.rs, MCache.rs, MP]; first | done | rfl)
      · refine Rnd.inl trivial ?_
        rw [wrap_succ h2 Bh2]
        all_goals first | rfl | (simp only [S0, MKeys.rs, MHead.rs, MEntry.rs, MStored.rs, MCache.rs, MP]; first | done | rfl)
    · refine Rnd.inl trivial ?_
      rw [wrap_succ h2 Bh2]
      all_goals first | rfl | (simp only [S0, MKeys.rs, MHead.rs, MEntry.rs, MStored.rs, MCache.rs, MP]; first | done | rfl)
  · simp only [step, S0, MKeys.rs, MHead.rs, MEntry.rs, MStored.rs, MCache.rs]
    have := (H0).1
    refine ex_no (by apply decide_eq_false; omega) ?_
    refine ⟨0, ?_⟩
    all_goals first | rfl | (simp only [S0, MKeys.rs, MHead.rs, MEntry.rs, MStored.rs, MCache.rs, MP]; first | done | rfl)
theorem valid_ : Valid Try.prog Ev 168 con := VV (run := fun n x => start (iter step n) x.1 x.2.1 x.2.2) mix tab_ok .nil Try.func168 (by kernel_rfl) run_eq (fun _ a _ _ hg => okF a.1 a.2.1 a.2.2 hg)
theorem fa (a0 : MCache) (a1 : Int) (a2 : ByteArray) : -1 ≤ md a0 a1 a2 ∧ md a0 a1 a2 < (a0.fList.length : Int) := by
  unfold md
  refine eachI_fa0 ?_ _ _
  all_goals
    intro i x s b h
    revert h
    simp only [Bool.cond_eq_ite]
    repeat' split
    all_goals (intro h; first | (cases h; rfl) | cases h)
end spec_l26Find
/-! spec.l6Copy -/
namespace spec_l6Copy
noncomputable def F (x0 : RKeys) : Ans := (bif (lim ((x0.fList.length : Int) * 8)) then ret (x0 : RKeys) else none)
def pats : List Pat := [.agg [.sl 3, .int .i64]]
def res : RP := .agg [.fr 3, .rd (.int .i64)]
noncomputable abbrev E : Env := { T := assoc Tab, G := conG [], nt := 10 }
set_option maxRecDepth 100000
theorem run_eq (n : Nat) (ls : List L) : runF E (fun _ => []) Try.f149 res n (initS pats ls) = F (RKeys.dec ls) := by kernel_rfl
noncomputable def md (a0 : MKeys) : MKeys := a0
def gd (a0 : MKeys) : Prop := (MKeys.Sm (2 ^ 21) a0)
def acc (ls : List L) : RKeys := (RKeys.dec ls)
noncomputable def R : RKeys → Option RKeys := RR gd md
theorem R_eq {a0} (h : gd a0) : R (MKeys.r a0) = some (MKeys.r (md a0)) := RR_eq (a := a0) h
noncomputable def con : Con := CN pats res acc R
theorem okF (a0 : MKeys) (hg : gd a0) : F (MKeys.r a0) = ret ((MKeys.r (md a0)) : RKeys) := by
  unfold gd at hg
  have H0 := hg
  unfold F md
  try simp only [S0, MKeys.rs]
  refine yes_ret (by
      have := (H0).1
      refine lim_t ?_
      try simp (disch := omega) only [LN, wi]
      first | omega | (simp; done) | (simp; omega)) ?_
  all_goals first | rfl | (simp only [S0, MKeys.rs]; done) | (simp only [MP]; rfl) | (simp only [S0, MKeys.rs, MP]; first | done | rfl)
theorem valid_ : Valid Try.prog Ev 149 con := VV (run := fun _ x => F x) mix tab_ok .nil Try.func149 (by kernel_rfl) run_eq (fun _ a _ _ hg => ⟨0, okF a hg⟩)
end spec_l6Copy
/-! spec.l13Copy -/
namespace spec_l13Copy
noncomputable def F (x0 : RHead) : Ans := (call (spec_l6Copy.R x0.fKeys) fun v1 => (call (spec_l6Copy.R x0.fHeirs) fun v2 => (call (spec_l6Copy.R x0.fJudge) fun v3 => ret ((⟨x0.fZone, x0.fEpoch, x0.fKind, x0.fTime, x0.fUntil, x0.fCount, x0.fRoot, x0.fPrev, v1, v2, x0.fWait, v3, x0.fFrozen⟩ : RHead) : RHead))))
def pats : List Pat := [.agg [.int .i64, .int .i64, .int .i64, .int .i64, .int .i64, .int .i64, .int .i64, .int .i64, .sl 3, .int .i64, .sl 3, .int .i64, .int .i64, .sl 3, .int .i64, .bool]]
def res : RP := .agg [.rd (.int .i64), .rd (.int .i64), .rd (.int .i64), .rd (.int .i64), .rd (.int .i64), .rd (.int .i64), .rd (.int .i64), .rd (.int .i64), .fr 3, .rd (.int .i64), .fr 3, .rd (.int .i64), .rd (.int .i64), .fr 3, .rd (.int .i64), .rd (.bool)]
noncomputable abbrev E : Env := { T := assoc Tab, G := conG [(149, spec_l6Copy.con)], nt := 18 }
set_option maxRecDepth 100000
theorem run_eq (n : Nat) (ls : List L) : runF E (fun _ => []) Try.f229 res n (initS pats ls) = F (RHead.dec ls) := by kernel_rfl
noncomputable def md (a0 : MHead) : MHead := a0
def gd (a0 : MHead) : Prop := (MHead.Sm (2 ^ 21) a0)
def acc (ls : List L) : RHead := (RHead.dec ls)
noncomputable def R : RHead → Option RHead := RR gd md
theorem R_eq {a0} (h : gd a0) : R (MHead.r a0) = some (MHead.r (md a0)) := RR_eq (a := a0) h
noncomputable def con : Con := CN pats res acc R
theorem okF (a0 : MHead) (hg : gd a0) : F (MHead.r a0) = ret ((MHead.r (md a0)) : RHead) := by
  unfold gd at hg
  have H0 := hg
  unfold F md
  try simp only [S0, MHead.rs]
  refine call_to (MKeys.r a0.fKeys) ?_ ?_
  · have R_ := spec_l6Copy.R_eq (a0 := a0.fKeys) H0.1
    simp only [spec_l6Copy.md] at R_
    first | exact R_ | (simp only [MP, S0, MHead.rs] at R_ ⊢; first | exact R_ | (rw [← R_]; rfl))
  try simp only [S0, MHead.rs]
  refine call_to (MKeys.r a0.fHeirs) ?_ ?_
  · have R_ := spec_l6Copy.R_eq (a0 := a0.fHeirs) H0.2.1
    simp only [spec_l6Copy.md] at R_
    first | exact R_ | (simp only [MP, S0, MHead.rs] at R_ ⊢; first | exact R_ | (rw [← R_]; rfl))
  try simp only [S0, MHead.rs]
  refine call_to (MKeys.r a0.fJudge) ?_ ?_
  · have R_ := spec_l6Copy.R_eq (a0 := a0.fJudge) H0.2.2
    simp only [spec_l6Copy.md] at R_
    first | exact R_ | (simp only [MP, S0, MHead.rs] at R_ ⊢; first | exact R_ | (rw [← R_]; rfl))
  try simp only [S0, MHead.rs]
  all_goals first | rfl | (simp only [S0, MHead.rs]; done) | (simp only [MP]; rfl) | (simp only [S0, MHead.rs, MP]; first | done | rfl)
theorem valid_ : Valid Try.prog Ev 229 con := VV (run := fun _ x => F x) mix tab_ok (.cons spec_l6Copy.valid_ .nil) Try.func229 (by kernel_rfl) run_eq (fun _ a _ _ hg => ⟨0, okF a hg⟩)
end spec_l13Copy
/-! spec.l14Copy -/
namespace spec_l14Copy
noncomputable def F (x0 : RSigned) : Ans := (call (spec_l13Copy.R x0.fHead) fun v1 => (bif (lim ((x0.fSigs.length : Int) * 16)) then ret ((⟨v1, x0.fSigs⟩ : RSigned) : RSigned) else none))
def pats : List Pat := [.agg [.int .i64, .int .i64, .int .i64, .int .i64, .int .i64, .int .i64, .int .i64, .int .i64, .sl 3, .int .i64, .sl 3, .int .i64, .int .i64, .sl 3, .int .i64, .bool, .sl 248]]
def res : RP := .agg [.rd (.int .i64), .rd (.int .i64), .rd (.int .i64), .rd (.int .i64), .rd (.int .i64), .rd (.int .i64), .rd (.int .i64), .rd (.int .i64), .fr 3, .rd (.int .i64), .fr 3, .rd (.int .i64), .rd (.int .i64), .fr 3, .rd (.int .i64), .rd (.bool), .fr 248]
noncomputable abbrev E : Env := { T := assoc Tab, G := conG [(229, spec_l13Copy.con)], nt := 11 }
set_option maxRecDepth 100000
theorem run_eq (n : Nat) (ls : List L) : runF E (fun _ => []) Try.f194 res n (initS pats ls) = F (RSigned.dec ls) := by kernel_rfl
noncomputable def md (a0 : MSigned) : MSigned := a0
def gd (a0 : MSigned) : Prop := (MSigned.Sm (2 ^ 21) a0)
def acc (ls : List L) : RSigned := (RSigned.dec ls)
noncomputable def R : RSigned → Option RSigned := RR gd md
theorem R_eq {a0} (h : gd a0) : R (MSigned.r a0) = some (MSigned.r (md a0)) := RR_eq (a := a0) h
noncomputable def con : Con := CN pats res acc R
theorem okF (a0 : MSigned) (hg : gd a0) : F (MSigned.r a0) = ret ((MSigned.r (md a0)) : RSigned) := by
  unfold gd at hg
  have H0 := hg
  unfold F md
  try simp only [S0, MSigned.rs]
  refine call_to (MHead.r a0.fHead) ?_ ?_
  · have R_ := spec_l13Copy.R_eq (a0 := a0.fHead) H0.1
    simp only [spec_l13Copy.md] at R_
    first | exact R_ | (simp only [MP, S0, MSigned.rs] at R_ ⊢; first | exact R_ | (rw [← R_]; rfl))
  try simp only [S0, MSigned.rs]
  refine yes_ret (by
      have := (H0.2).1
      refine lim_t ?_
      try simp (disch := omega) only [LN, wi]
      first | omega | (simp; done) | (simp; omega)) ?_
  all_goals first | rfl | (simp only [S0, MSigned.rs]; done) | (simp only [MP]; rfl) | (simp only [S0, MSigned.rs, MP]; first | done | rfl)
theorem valid_ : Valid Try.prog Ev 194 con := VV (run := fun _ x => F x) mix tab_ok (.cons spec_l13Copy.valid_ .nil) Try.func194 (by kernel_rfl) run_eq (fun _ a _ _ hg => ⟨0, okF a hg⟩)
end spec_l14Copy
/-! spec.l16Copy -/
namespace spec_l16Copy
inductive Pt where
  | p0 (a : List (List L)) (b : Int) (c : List (List L))
def pid : Pt → Nat
  | .p0 .. => 3
def pvs : Pt → List V
  | .p0 a b c => [.sl none 184 a, .own 0, .int .i64 b]
def phs : Pt → List Root
  | .p0 a b c => [.row 184 c]
noncomputable def step (J : Pt → Ans) : Pt → Ans
  | .p0 a b c => (bif (decide (b < (a.length : Int))) then (bif (decide ((0 : Int) ≤ b)) then (bif (decide (b < (a.length : Int))) then (call (spec_l14Copy.R (RSigned.at a (Int.toNat b))) fun v1 => (bif (lim (((c.length : Int) + 1) * 200)) then J (.p0 a (IntKind.i64.wrap (b + 1)) (c ++ [(RSigned.enc v1)])) else none)) else none) else none) else ret (c : List (List L)))
noncomputable def start (J : Pt → Ans) (x0 : List (List L)) : Ans := J (.p0 x0 0 [])
def live : Nat → Live := fun i => match i with | 3 => [(0, none), (3, some 184), (4, none)] | _ => []
def pats : List Pat := [.rd (.sl 184)]
def res : RP := .one (.fr 184)
noncomputable abbrev E : Env := { T := assoc Tab, G := conG [(194, spec_l14Copy.con)], nt := 21 }
set_option maxRecDepth 100000
theorem step_eq (I : Heads) (p : Pt) : enterC E live I (pid p) (bodyOf Try.f132) (stOf (live (pid p)) (pvs p) (phs p)) (doneK E Try.f132 res) = step (fun q => I (pid q) (pvs q) (phs q)) p := by
  cases p <;> kernel_rfl
theorem start_eq (I : Heads) (ls : List L) : runC E live I (bodyOf Try.f132) (initS pats ls) (doneK E Try.f132 res) = start (fun q => I (pid q) (pvs q) (phs q)) (ls.headD .hole).toSl := by kernel_rfl
theorem run_eq (n : Nat) (ls : List L) : runF E live Try.f132 res n (initS pats ls) = start (iter step n) (ls.headD .hole).toSl := runF_iter (id := pid) (vs := pvs) (hs := phs) (step := step) (start := fun J => start J (ls.headD .hole).toSl) step_eq (fun I => start_eq I ls) n
noncomputable def md (a0 : List MSigned) : List MSigned := a0
def gd (a0 : List MSigned) : Prop := (SmL (2 ^ 21) (fun y : MSigned => MSigned.Sm (2 ^ 21) y) a0)
def acc (ls : List L) : List (List L) := (ls.headD .hole).toSl
noncomputable def R : (List (List L)) → Option (List (List L)) := RR gd md
theorem R_eq {a0} (h : gd a0) : R (a0.map MSigned.row) = some ((md a0).map MSigned.row) := RR_eq (a := a0) h
noncomputable def con : Con := CN pats res acc R
theorem okF (a0 : List MSigned) (hg : gd a0) : ∃ n, start (iter step n) (a0.map MSigned.row) = ret (((md a0).map MSigned.row) : List (List L)) := by
  unfold gd at hg
  have H0 := hg
  unfold start md
  try simp only [S0, MSigned.rs]
  have Bh2 : a0.length ≤ maxLen := (by
      have := (H0).1
      try simp only [maxLen] at *
      omega)
  refine ex_eq (out := (fun b : List MSigned => ret ((b.map MSigned.row) : List (List L)))) (loopM_copy (xs := a0) (z := MSigned.zero) (t := fun s3 : List MSigned => s3)) ?_
  refine ex_pt (p := Pt.p0 (a0.map MSigned.row) 0 ([].map MSigned.row)) (by first | rfl | (simp only [S0, MSigned.rs, MP]; done) | (simp only [MP]; rfl)) ?_
  refine loopM_ok (pt := fun (i1 : Nat) (s3 : List MSigned) => Pt.p0 (a0.map MSigned.row) (i1 : Int) (s3.map MSigned.row)) (s := ([] : List MSigned)) (out := (fun b : List MSigned => ret ((b.map MSigned.row) : List (List L)))) (fun (i1 : Nat) (s3 : List MSigned) => s3.length ≤ ([] : List Int).length + 1 * i1) (fun J i1 s3 h2 hih2 => ?_) (fun s3 hih2 => ?_) (by simp)
  · simp only [step, S0, MSigned.rs]
    have gr_ := hih2
    try simp only [LN] at gr_
    have bb_ := Bh2
    simp only [maxLen] at bb_
    have := (H0).1
    refine Rnd.yes (by apply decide_eq_true; omega) ?_
    refine Rnd.yes zle_dec ?_
    refine Rnd.yes (lt_dec h2) ?_
    refine Rnd.call_to (MSigned.r (a0.getD i1 MSigned.zero)) ?_ ?_
    · have R_ := spec_l14Copy.R_eq (a0 := (a0.getD i1 MSigned.zero)) (SmL.getD (z := MSigned.zero) H0 h2)
      simp only [spec_l14Copy.md] at R_
      first | exact R_ | (simp only [MP, S0, MSigned.rs] at R_ ⊢; first | exact R_ | (rw [← R_]; rfl))
    try simp only [S0, MSigned.rs]
    refine Rnd.yes (by
        refine lim_t ?_
        try simp (disch := omega) only [LN, wi]
        first | omega | (simp; done) | (simp; omega)) ?_
    refine Rnd.inl (by
        have g_ := hih2
        try simp only [LN] at g_ ⊢
        first | omega | (simp; done) | (simp; omega)) ?_
    rw [wrap_succ h2 Bh2]
    all_goals first | rfl | (simp only [S0, MSigned.rs]; done) | (simp only [MP]; rfl) | (simp only [S0, MSigned.rs, MP]; first | done | rfl)
  · simp only [step, S0, MSigned.rs]
    have gr_ := hih2
    try simp only [LN] at gr_
    have := (H0).1
    refine ex_no (by apply decide_eq_false; omega) ?_
    refine ⟨0, ?_⟩
    all_goals first | rfl | (simp only [S0, MSigned.rs]; done) | (simp only [MP]; rfl) | (simp only [S0, MSigned.rs, MP]; first | done | rfl)
theorem valid_ : Valid Try.prog Ev 132 con := VV (run := fun n x => start (iter step n) x) mix tab_ok (.cons spec_l14Copy.valid_ .nil) Try.func132 (by kernel_rfl) run_eq (fun _ a _ _ hg => okF a hg)
end spec_l16Copy
/-! spec.l5Copy -/
namespace spec_l5Copy
noncomputable def F (x0 : List (List L)) : Ans := (bif (lim ((x0.length : Int) * 16)) then ret (x0 : List (List L)) else none)
def pats : List Pat := [.rd (.sl 9)]
def res : RP := .one (.fr 9)
noncomputable abbrev E : Env := { T := assoc Tab, G := conG [], nt := 6 }
set_option maxRecDepth 100000
theorem run_eq (n : Nat) (ls : List L) : runF E (fun _ => []) Try.f124 res n (initS pats ls) = F (ls.headD .hole).toSl := by kernel_rfl
noncomputable def md (a0 : List ByteArray) : List ByteArray := a0
def gd (a0 : List ByteArray) : Prop := (SmL (2 ^ 21) (fun y : ByteArray => y.size ≤ (2 ^ 21)) a0)
def acc (ls : List L) : List (List L) := (ls.headD .hole).toSl
noncomputable def R : (List (List L)) → Option (List (List L)) := RR gd md
theorem R_eq {a0} (h : gd a0) : R (a0.map sRow) = some ((md a0).map sRow) := RR_eq (a := a0) h
noncomputable def con : Con := CN pats res acc R
theorem okF (a0 : List ByteArray) (hg : gd a0) : F (a0.map sRow) = ret (((md a0).map sRow) : List (List L)) := by
  unfold gd at hg
  have H0 := hg
  unfold F md
  try simp only [S0]
  refine yes_ret (by
      have := (H0).1
      refine lim_t ?_
      try simp (disch := omega) only [LN, wi]
      first | omega | (simp; done) | (simp; omega)) ?_
  all_goals first | rfl | (simp only [S0]; done) | (simp only [MP]; rfl) | (simp only [S0, MP]; first | done | rfl)
theorem valid_ : Valid Try.prog Ev 124 con := VV (run := fun _ x => F x) mix tab_ok .nil Try.func124 (by kernel_rfl) run_eq (fun _ a _ _ hg => ⟨0, okF a hg⟩)
end spec_l5Copy
/-! spec.l8Copy -/
namespace spec_l8Copy
noncomputable def F (x0 : REntry) : Ans := (call (spec_l5Copy.R x0.fPath) fun v1 => ret ((⟨x0.fLabel, x0.fKind, x0.fValue, v1⟩ : REntry) : REntry))
def pats : List Pat := [.agg [.str, .int .i64, .int .i64, .sl 9]]
def res : RP := .agg [.rd (.str), .rd (.int .i64), .rd (.int .i64), .fr 9]
noncomputable abbrev E : Env := { T := assoc Tab, G := conG [(124, spec_l5Copy.con)], nt := 13 }
set_option maxRecDepth 100000
theorem run_eq (n : Nat) (ls : List L) : runF E (fun _ => []) Try.f117 res n (initS pats ls) = F (REntry.dec ls) := by kernel_rfl
noncomputable def md (a0 : MEntry) : MEntry := a0
def gd (a0 : MEntry) : Prop := (MEntry.Sm (2 ^ 21) a0)
def acc (ls : List L) : REntry := (REntry.dec ls)
noncomputable def R : REntry → Option REntry := RR gd md
theorem R_eq {a0} (h : gd a0) : R (MEntry.r a0) = some (MEntry.r (md a0)) := RR_eq (a := a0) h
noncomputable def con : Con := CN pats res acc R
theorem okF (a0 : MEntry) (hg : gd a0) : F (MEntry.r a0) = ret ((MEntry.r (md a0)) : REntry) := by
  unfold gd at hg
  have H0 := hg
  unfold F md
  try simp only [S0, MEntry.rs]
  refine call_to (a0.fPath.map sRow) ?_ ?_
  · have R_ := spec_l5Copy.R_eq (a0 := a0.fPath) H0.2
    simp only [spec_l5Copy.md] at R_
    first | exact R_ | (simp only [MP, S0, MEntry.rs] at R_ ⊢; first | exact R_ | (rw [← R_]; rfl))
  try simp only [S0, MEntry.rs]
  all_goals first | rfl | (simp only [S0, MEntry.rs]; done) | (simp only [MP]; rfl) | (simp only [S0, MEntry.rs, MP]; first | done | rfl)
theorem valid_ : Valid Try.prog Ev 117 con := VV (run := fun _ x => F x) mix tab_ok (.cons spec_l5Copy.valid_ .nil) Try.func117 (by kernel_rfl) run_eq (fun _ a _ _ hg => ⟨0, okF a hg⟩)
end spec_l8Copy
/-! spec.l11Copy -/
namespace spec_l11Copy
noncomputable def F (x0 : RProof) : Ans := (bif (lim ((x0.fPath.length : Int) * 8)) then ret (x0 : RProof) else none)
def pats : List Pat := [.agg [.int .i64, .sl 3]]
def res : RP := .agg [.rd (.int .i64), .fr 3]
noncomputable abbrev E : Env := { T := assoc Tab, G := conG [], nt := 10 }
set_option maxRecDepth 100000
theorem run_eq (n : Nat) (ls : List L) : runF E (fun _ => []) Try.f218 res n (initS pats ls) = F (RProof.dec ls) := by kernel_rfl
noncomputable def md (a0 : MProof) : MProof := a0
def gd (a0 : MProof) : Prop := (MProof.Sm (2 ^ 21) a0)
def acc (ls : List L) : RProof := (RProof.dec ls)
noncomputable def R : RProof → Option RProof := RR gd md
theorem R_eq {a0} (h : gd a0) : R (MProof.r a0) = some (MProof.r (md a0)) := RR_eq (a := a0) h
noncomputable def con : Con := CN pats res acc R
theorem okF (a0 : MProof) (hg : gd a0) : F (MProof.r a0) = ret ((MProof.r (md a0)) : RProof) := by
  unfold gd at hg
  have H0 := hg
  unfold F md
  try simp only [S0, MProof.rs]
  refine yes_ret (by
      have := (H0).1
      refine lim_t ?_
      try simp (disch := omega) only [LN, wi]
      first | omega | (simp; done) | (simp; omega)) ?_
  all_goals first | rfl | (simp only [S0, MProof.rs]; done) | (simp only [MP]; rfl) | (simp only [S0, MProof.rs, MP]; first | done | rfl)
theorem valid_ : Valid Try.prog Ev 218 con := VV (run := fun _ x => F x) mix tab_ok .nil Try.func218 (by kernel_rfl) run_eq (fun _ a _ _ hg => ⟨0, okF a hg⟩)
end spec_l11Copy
/-! spec.l12Copy -/
namespace spec_l12Copy
noncomputable def F (x0 : RGap) : Ans := (call (spec_l8Copy.R x0.fBefore) fun v1 => (call (spec_l8Copy.R x0.fAfter) fun v2 => (call (spec_l11Copy.R x0.fLeft) fun v3 => (call (spec_l11Copy.R x0.fRight) fun v4 => ret ((⟨x0.fAt, v1, v2, v3, v4⟩ : RGap) : RGap)))))
def pats : List Pat := [.agg [.int .i64, .str, .int .i64, .int .i64, .sl 9, .str, .int .i64, .int .i64, .sl 9, .int .i64, .sl 3, .int .i64, .sl 3]]
def res : RP := .agg [.rd (.int .i64), .rd (.str), .rd (.int .i64), .rd (.int .i64), .fr 9, .rd (.str), .rd (.int .i64), .rd (.int .i64), .fr 9, .rd (.int .i64), .fr 3, .rd (.int .i64), .fr 3]
noncomputable abbrev E : Env := { T := assoc Tab, G := conG [(117, spec_l8Copy.con), (218, spec_l11Copy.con)], nt := 18 }
set_option maxRecDepth 100000
theorem run_eq (n : Nat) (ls : List L) : runF E (fun _ => []) Try.f219 res n (initS pats ls) = F (RGap.dec ls) := by kernel_rfl
noncomputable def md (a0 : MGap) : MGap := a0
def gd (a0 : MGap) : Prop := (MGap.Sm (2 ^ 21) a0)
def acc (ls : List L) : RGap := (RGap.dec ls)
noncomputable def R : RGap → Option RGap := RR gd md
theorem R_eq {a0} (h : gd a0) : R (MGap.r a0) = some (MGap.r (md a0)) := RR_eq (a := a0) h
noncomputable def con : Con := CN pats res acc R
theorem okF (a0 : MGap) (hg : gd a0) : F (MGap.r a0) = ret ((MGap.r (md a0)) : RGap) := by
  unfold gd at hg
  have H0 := hg
  unfold F md
  try simp only [S0, MProof.rs, MGap.rs]
  refine call_to (MEntry.r a0.fBefore) ?_ ?_
  · have R_ := spec_l8Copy.R_eq (a0 := a0.fBefore) H0.1
    simp only [spec_l8Copy.md] at R_
    first | exact R_ | (simp only [MP, S0, MProof.rs, MGap.rs] at R_ ⊢; first | exact R_ | (rw [← R_]; rfl))
  try simp only [S0, MProof.rs, MGap.rs]
  refine call_to (MEntry.r a0.fAfter) ?_ ?_
  · have R_ := spec_l8Copy.R_eq (a0 := a0.fAfter) H0.2.1
    simp only [spec_l8Copy.md] at R_
    first | exact R_ | (simp only [MP, S0, MProof.rs, MGap.rs] at R_ ⊢; first | exact R_ | (rw [← R_]; rfl))
  try simp only [S0, MProof.rs, MGap.rs]
  refine call_to (MProof.r a0.fLeft) ?_ ?_
  · have R_ := spec_l11Copy.R_eq (a0 := a0.fLeft) H0.2.2.1
    simp only [spec_l11Copy.md] at R_
    first | exact R_ | (simp only [MP, S0, MProof.rs, MGap.rs] at R_ ⊢; first | exact R_ | (rw [← R_]; rfl))
  try simp only [S0, MProof.rs, MGap.rs]
  refine call_to (MProof.r a0.fRight) ?_ ?_
  · have R_ := spec_l11Copy.R_eq (a0 := a0.fRight) H0.2.2.2
    simp only [spec_l11Copy.md] at R_
    first | exact R_ | (simp only [MP, S0, MProof.rs, MGap.rs] at R_ ⊢; first | exact R_ | (rw [← R_]; rfl))
  try simp only [S0, MProof.rs, MGap.rs]
  all_goals first | rfl | (simp only [S0, MProof.rs, MGap.rs]; done) | (simp only [MP]; rfl) | (simp only [S0, MProof.rs, MGap.rs, MP]; first | done | rfl)
theorem valid_ : Valid Try.prog Ev 219 con := VV (run := fun _ x => F x) mix tab_ok (.cons spec_l8Copy.valid_ (.cons spec_l11Copy.valid_ .nil)) Try.func219 (by kernel_rfl) run_eq (fun _ a _ _ hg => ⟨0, okF a hg⟩)
end spec_l12Copy
/-! spec.l21Copy -/
namespace spec_l21Copy
noncomputable def F (x0 : RAnswer) : Ans := (call (spec_l16Copy.R x0.fChain) fun v1 => (call (spec_l8Copy.R x0.fEntry) fun v2 => (call (spec_l11Copy.R x0.fProof) fun v3 => (call (spec_l12Copy.R x0.fGap) fun v4 => ret ((⟨v1, x0.fFound, v2, v3, v4⟩ : RAnswer) : RAnswer)))))
def pats : List Pat := [.agg [.sl 184, .bool, .str, .int .i64, .int .i64, .sl 9, .int .i64, .sl 3, .int .i64, .str, .int .i64, .int .i64, .sl 9, .str, .int .i64, .int .i64, .sl 9, .int .i64, .sl 3, .int .i64, .sl 3]]
def res : RP := .agg [.fr 184, .rd (.bool), .rd (.str), .rd (.int .i64), .rd (.int .i64), .fr 9, .rd (.int .i64), .fr 3, .rd (.int .i64), .rd (.str), .rd (.int .i64), .rd (.int .i64), .fr 9, .rd (.str), .rd (.int .i64), .rd (.int .i64), .fr 9, .rd (.int .i64), .fr 3, .rd (.int .i64), .fr 3]
noncomputable abbrev E : Env := { T := assoc Tab, G := conG [(132, spec_l16Copy.con), (117, spec_l8Copy.con), (218, spec_l11Copy.con), (219, spec_l12Copy.con)], nt := 18 }
set_option maxRecDepth 100000
theorem run_eq (n : Nat) (ls : List L) : runF E (fun _ => []) Try.f169 res n (initS pats ls) = F (RAnswer.dec ls) := by kernel_rfl
noncomputable def md (a0 : MAnswer) : MAnswer := a0
def gd (a0 : MAnswer) : Prop := (MAnswer.Sm (2 ^ 21) a0)
def acc (ls : List L) : RAnswer := (RAnswer.dec ls)
noncomputable def R : RAnswer → Option RAnswer := RR gd md
theorem R_eq {a0} (h : gd a0) : R (MAnswer.r a0) = some (MAnswer.r (md a0)) := RR_eq (a := a0) h
noncomputable def con : Con := CN pats res acc R
theorem okF (a0 : MAnswer) (hg : gd a0) : F (MAnswer.r a0) = ret ((MAnswer.r (md a0)) : RAnswer) := by
  unfold gd at hg
  have H0 := hg
  unfold F md
  try simp only [S0, MAnswer.rs]
  refine call_to (a0.fChain.map MSigned.row) ?_ ?_
  · have R_ := spec_l16Copy.R_eq (a0 := a0.fChain) H0.1
    simp only [spec_l16Copy.md] at R_
    first | exact R_ | (simp only [MP, S0, MAnswer.rs] at R_ ⊢; first | exact R_ | (rw [← R_]; rfl))
  try simp only [S0, MAnswer.rs]
  refine call_to (MEntry.r a0.fEntry) ?_ ?_
  · have R_ := spec_l8Copy.R_eq (a0 := a0.fEntry) H0.2.1
    simp only [spec_l8Copy.md] at R_
    first | exact R_ | (simp only [MP, S0, MAnswer.rs] at R_ ⊢; first | exact R_ | (rw [← R_]; rfl))
  try simp only [S0, MAnswer.rs]
  refine call_to (MProof.r a0.fProof) ?_ ?_
  · have R_ := spec_l11Copy.R_eq (a0 := a0.fProof) H0.2.2.1
    simp only [spec_l11Copy.md] at R_
    first | exact R_ | (simp only [MP, S0, MAnswer.rs] at R_ ⊢; first | exact R_ | (rw [← R_]; rfl))
  try simp only [S0, MAnswer.rs]
  refine call_to (MGap.r a0.fGap) ?_ ?_
  · have R_ := spec_l12Copy.R_eq (a0 := a0.fGap) H0.2.2.2
    simp only [spec_l12Copy.md] at R_
    first | exact R_ | (simp only [MP, S0, MAnswer.rs] at R_ ⊢; first | exact R_ | (rw [← R_]; rfl))
  try simp only [S0, MAnswer.rs]
  all_goals first | rfl | (simp only [S0, MAnswer.rs]; done) | (simp only [MP]; rfl) | (simp only [S0, MAnswer.rs, MP]; first | done | rfl)
theorem valid_ : Valid Try.prog Ev 169 con := VV (run := fun _ x => F x) mix tab_ok (.cons spec_l16Copy.valid_ (.cons spec_l8Copy.valid_ (.cons spec_l11Copy.valid_ (.cons spec_l12Copy.valid_ .nil)))) Try.func169 (by kernel_rfl) run_eq (fun _ a _ _ hg => ⟨0, okF a hg⟩)
end spec_l21Copy
/-! spec.FromCache -/
namespace spec_FromCache
noncomputable def F (x0 : RCache) (x1 : Int) (x2 : ByteArray) : Ans := (call (spec_l26Find.R (x0, x1, x2)) fun v1 => (bif (decide (v1 < 0)) then ret ((⟨[], false, (⟨(⟨#[]⟩ : ByteArray), 0, 0, []⟩ : REntry), (⟨0, []⟩ : RProof), (⟨0, (⟨(⟨#[]⟩ : ByteArray), 0, 0, []⟩ : REntry), (⟨(⟨#[]⟩ : ByteArray), 0, 0, []⟩ : REntry), (⟨0, []⟩ : RProof), (⟨0, []⟩ : RProof)⟩ : RGap)⟩ : RAnswer) : RAnswer) else (bif (decide ((0 : Int) ≤ v1)) then (bif (decide (v1 < (x0.fList.length : Int))) then (call (spec_l21Copy.R ((RStored.at x0.fList (Int.toNat v1)).fAnswer)) fun v2 => ret (v2 : RAnswer)) else none) else none)))
def pats : List Pat := [.agg [.sl 220], .rd (.int .i64), .rd (.str)]
def res : RP := .agg [.fr 184, .rd (.bool), .rd (.str), .rd (.int .i64), .rd (.int .i64), .fr 9, .rd (.int .i64), .fr 3, .rd (.int .i64), .rd (.str), .rd (.int .i64), .rd (.int .i64), .fr 9, .rd (.str), .rd (.int .i64), .rd (.int .i64), .fr 9, .rd (.int .i64), .fr 3, .rd (.int .i64), .fr 3]
noncomputable abbrev E : Env := { T := assoc Tab, G := conG [(168, spec_l26Find.con), (169, spec_l21Copy.con)], nt := 22 }
set_option maxRecDepth 100000
theorem run_eq (n : Nat) (ls : List L) : runF E (fun _ => []) Try.f87 res n (initS pats ls) = F (RCache.dec ls) ((dropT 1 ls).headD .hole).toInt ((dropT 2 ls).headD .hole).toStr := by kernel_rfl
noncomputable def md (a0 : MCache) (a1 : Int) (a2 : ByteArray) : MAnswer := (bif (decide ((spec_l26Find.md a0 a1 a2) < 0)) then (⟨[], false, (⟨((⟨#[]⟩ : ByteArray) : ByteArray), 0, 0, []⟩ : MEntry), (⟨0, []⟩ : MProof), (⟨0, (⟨((⟨#[]⟩ : ByteArray) : ByteArray), 0, 0, []⟩ : MEntry), (⟨((⟨#[]⟩ : ByteArray) : ByteArray), 0, 0, []⟩ : MEntry), (⟨0, []⟩ : MProof), (⟨0, []⟩ : MProof)⟩ : MGap)⟩ : MAnswer) else ((a0.fList.getD (Int.toNat (spec_l26Find.md a0 a1 a2)) MStored.zero).fAnswer))
def gd (a0 : MCache) (a1 : Int) (a2 : ByteArray) : Prop := (MCache.Sm (2 ^ 21) a0)
def acc (ls : List L) : RCache × Int × ByteArray := ((RCache.dec ls), ((dropT 1 ls).headD .hole).toInt, ((dropT 2 ls).headD .hole).toStr)
noncomputable def R : (RCache × Int × ByteArray) → Option RAnswer := RR (p3 gd) (u3 md)
theorem R_eq {a0} {a1} {a2} (h : gd a0 a1 a2) : R ((MCache.r a0), a1, a2) = some (MAnswer.r (md a0 a1 a2)) := RR_eq (a := (a0, a1, a2)) h
noncomputable def con : Con := CN pats res acc R
theorem okF (a0 : MCache) (a1 : Int) (a2 : ByteArray) (hg : gd a0 a1 a2) : F (MCache.r a0) a1 a2 = ret ((MAnswer.r (md a0 a1 a2)) : RAnswer) := by
  unfold gd at hg
  have H0 := hg
  unfold F md
  try simp only [S0, MKeys.rs, MStored.rs, MCache.rs]
  refine call_to (spec_l26Find.md a0 a1 a2) (spec_l26Find.R_eq (a0 := a0) (a1 := a1) (a2 := a2) H0) ?_
  have fv1_ := spec_l26Find.fa a0 a1 a2
  refine bif_out (fun b : MAnswer => ret ((MAnswer.r b) : RAnswer)) (fun c1 => ?_) (fun c1 => ?_)
  · all_goals first | rfl | (simp only [S0, MKeys.rs, MStored.rs, MCache.rs]; done) | (simp only [MP]; rfl) | (simp only [S0, MKeys.rs, MStored.rs, MCache.rs, MP]; first | done | rfl)
  · have dc1 := c1
    try simp only [DC] at dc1
    refine yes_ret (by
        refine decide_eq_true ?_
        try simp (disch := omega) only [LN, wi]
        first | omega | (simp; done) | (simp; omega)) ?_
    refine yes_ret (by
        have := (H0).1
        refine decide_eq_true ?_
        try simp (disch := omega) only [LN, wi]
        first | omega | (simp; done) | (simp; omega)) ?_
    refine call_to (MAnswer.r ((a0.fList.getD (Int.toNat (spec_l26Find.md a0 a1 a2)) MStored.zero).fAnswer)) ?_ ?_
    · have R_ := spec_l21Copy.R_eq (a0 := (a0.fList.getD (Int.toNat (spec_l26Find.md a0 a1 a2)) MStored.zero).fAnswer) (SmL.getD (z := MStored.zero) H0 (by first | assumption | omega | (simp (disch := omega) only [wi]; omega) | (simp; omega))).2
      simp only [spec_l21Copy.md] at R_
      first | exact R_ | (simp only [MP, S0, MKeys.rs, MStored.rs, MCache.rs] at R_ ⊢; first | exact R_ | (rw [← R_]; rfl))
    try simp only [S0, MKeys.rs, MStored.rs, MCache.rs]
    all_goals first | rfl | (simp only [S0, MKeys.rs, MStored.rs, MCache.rs]; done) | (simp only [MP]; rfl) | (simp only [S0, MKeys.rs, MStored.rs, MCache.rs, MP]; first | done | rfl)
theorem valid_ : Valid Try.prog Ev 87 con := VV (run := fun _ x => F x.1 x.2.1 x.2.2) mix tab_ok (.cons spec_l26Find.valid_ (.cons spec_l21Copy.valid_ .nil)) Try.func87 (by kernel_rfl) run_eq (fun _ a _ _ hg => ⟨0, okF a.1 a.2.1 a.2.2 hg⟩)
theorem sm0 {a0 : MCache} {a1 : Int} {a2 : ByteArray} (hg : gd a0 a1 a2) : MAnswer.Sm (2 ^ 21) (md a0 a1 a2) := by
  unfold gd at hg; unfold md
  have hf := spec_l26Find.fa a0 a1 a2
  cases h : decide (spec_l26Find.md a0 a1 a2 < 0)
  · simp only [decide_eq_false_iff_not] at h
    exact (SmL.getD hg (by omega)).2
  · exact ⟨SmL.nil, ⟨(Nat.zero_le _), SmL.nil⟩, SmL.nil, ⟨⟨(Nat.zero_le _), SmL.nil⟩, ⟨(Nat.zero_le _), SmL.nil⟩, SmL.nil, SmL.nil⟩⟩
end spec_FromCache
/-! (impl.Cache).find$1 -/
namespace impl_Cache_find_1
noncomputable def F (x0 : RStored) (x1 : List L) (x2 : List L) : Ans := (bif (x0.fZone == (iDec x1)) then ret ((x0.fLabel == (sDec x2)) : Bool) else ret (false : Bool))
def pats : List Pat := [.agg [.int .i64, .str, .sl 184, .bool, .str, .int .i64, .int .i64, .sl 9, .int .i64, .sl 3, .int .i64, .str, .int .i64, .int .i64, .sl 9, .str, .int .i64, .int .i64, .sl 9, .int .i64, .sl 3, .int .i64, .sl 3], .ptr [.int .i64], .ptr [.str]]
def res : RP := .one (.rd (.bool))
noncomputable abbrev E : Env := { T := assoc Tab, G := conG [], nt := 15 }
set_option maxRecDepth 100000
theorem run_eq (n : Nat) (ls : List L) : runF E (fun _ => []) Try.f222 res n (initS pats ls) = F (RStored.dec ls) (padL 1 (dropT 23 ls)) (padL 1 (dropT 24 ls)) := by kernel_rfl
noncomputable def md (a0 : MStored) (a1 : Int) (a2 : ByteArray) : Bool := (bif (a0.fZone == a1) then ((a0.fLabel == a2) : Bool) else (false : Bool))
def gd (a0 : MStored) (a1 : Int) (a2 : ByteArray) : Prop := True
def acc (ls : List L) : RStored × Int × ByteArray := ((RStored.dec ls), (iDec (padL 1 (dropT 23 ls))), (sDec (padL 1 (dropT 24 ls))))
noncomputable def R : (RStored × Int × ByteArray) → Option Bool := RR (p3 gd) (u3 md)
theorem R_eq {a0} {a1} {a2} (h : gd a0 a1 a2) : R ((MStored.r a0), a1, a2) = some (md a0 a1 a2) := RR_eq (a := (a0, a1, a2)) h
noncomputable def con : Con := CN pats res acc R
theorem okF (a0 : MStored) (a1 : Int) (a2 : ByteArray) (p1 : List L) (p2 : List L) (e1 : a1 = (iDec p1)) (e2 : a2 = (sDec p2)) (hg : gd a0 a1 a2) : F (MStored.r a0) p1 p2 = ret ((md a0 a1 a2) : Bool) := by
  unfold F md
  try simp only [S0, MHead.rs, MEntry.rs, MStored.rs, ← e1, ← e2]
  refine bif_out ret (fun c1 => ?_) (fun _ => rfl)
  all_goals first | rfl | (simp only [S0, MHead.rs, MEntry.rs, MStored.rs, ← e1, ← e2, MP]; first | done | rfl)
theorem okV (ls : List L) (a : MStored × Int × ByteArray) (e : acc ls = Im.im a) (hg : (p3 gd) a) : ∃ n : Nat, F (RStored.dec ls) (padL 1 (dropT 23 ls)) (padL 1 (dropT 24 ls)) = ret (Im.im ((u3 md) a)) := by
  have e0 : (MStored.r a.1) = (RStored.dec ls) := (congrArg (fun x => x.1) e.symm)
  have hn := okF a.1 a.2.1 a.2.2 (padL 1 (dropT 23 ls)) (padL 1 (dropT 24 ls)) (congrArg (fun x => x.2.1) e.symm) (congrArg (fun x => x.2.2) e.symm) hg
  refine ⟨0, ?_⟩
  rw [← e0]
  exact hn
theorem valid_ : Valid Try.prog Ev 222 con := VP (accr := fun ls => ((RStored.dec ls), (padL 1 (dropT 23 ls)), (padL 1 (dropT 24 ls)))) (run := fun _ x => F x.1 x.2.1 x.2.2) mix tab_ok .nil Try.func222 (by kernel_rfl) run_eq (fun ls a _ e hg => okV ls a e hg)
end impl_Cache_find_1
/-! slices.IndexFunc[[]impl.Stored,impl.Stored] -/
namespace slices_IndexFunc_Simpl_Stored_impl_Stored__impl_Cache_find_1
inductive Pt where
  | p0 (a : List (List L)) (b : List L) (c : List L) (d : Int) (e : Int)
def pid : Pt → Nat
  | .p0 .. => 2
def pvs : Pt → List V
  | .p0 a b c d e => [.sl none 220 a, .fn 222 [.cptr none [.int .i64] b 0, .cptr none [.str] c 0], .int .i64 d, .int .i64 e]
def phs : Pt → List Root
  | .p0 a b c d e => []
noncomputable def step (J : Pt → Ans) : Pt → Ans
  | .p0 a b c d e => (bif (decide (e < d)) then (bif (decide ((0 : Int) ≤ e)) then (bif (decide (e < (a.length : Int))) then (call (impl_Cache_find_1.R ((RStored.at a (Int.toNat e)), (iDec b), (sDec c))) fun v1 => (bif v1 then ret (e : Int) else J (.p0 a b c d (IntKind.i64.wrap (e + 1))))) else none) else none) else ret ((-1) : Int))
noncomputable def start (J : Pt → Ans) (x0 : List (List L)) (x1 : List L) (x2 : List L) : Ans := J (.p0 x0 x1 x2 (x0.length : Int) 0)
def live : Nat → Live := fun i => match i with | 2 => [(0, none), (1, none), (7, none), (8, none)] | _ => []
def pats : List Pat := [.rd (.sl 220), .fn 222 [[.int .i64], [.str]]]
def res : RP := .one (.rd (.int .i64))
noncomputable abbrev E : Env := { T := assoc Tab, G := conG [(222, impl_Cache_find_1.con)], nt := 19 }
set_option maxRecDepth 100000
theorem step_eq (I : Heads) (p : Pt) : enterC E live I (pid p) (bodyOf Try.f221) (stOf (live (pid p)) (pvs p) (phs p)) (doneK E Try.f221 res) = step (fun q => I (pid q) (pvs q) (phs q)) p := by
  cases p <;> kernel_rfl
theorem start_eq (I : Heads) (ls : List L) : runC E live I (bodyOf Try.f221) (initS pats ls) (doneK E Try.f221 res) = start (fun q => I (pid q) (pvs q) (phs q)) (ls.headD .hole).toSl (padL 1 (dropT 1 ls)) (padL 1 (dropT 2 ls)) := by kernel_rfl
theorem run_eq (n : Nat) (ls : List L) : runF E live Try.f221 res n (initS pats ls) = start (iter step n) (ls.headD .hole).toSl (padL 1 (dropT 1 ls)) (padL 1 (dropT 2 ls)) := runF_iter (id := pid) (vs := pvs) (hs := phs) (step := step) (start := fun J => start J (ls.headD .hole).toSl (padL 1 (dropT 1 ls)) (padL 1 (dropT 2 ls))) step_eq (fun I => start_eq I ls) n
noncomputable def md (a0 : List MStored) (a1 : Int) (a2 : ByteArray) : Int := (eachI (S := Unit) (β := Int) (fun (i1 : Nat) (y1 : MStored) (s3 : Unit) => (bif (impl_Cache_find_1.md y1 a1 a2) then (.inr ((i1 : Int) : Int)) else (.inl ()))) (fun (s3 : Unit) => ((-1) : Int)) 0 a0 ())
def gd (a0 : List MStored) (a1 : Int) (a2 : ByteArray) : Prop := (SmL (2 ^ 21) (fun y : MStored => MStored.Sm (2 ^ 21) y) a0)
def acc (ls : List L) : List (List L) × Int × ByteArray := ((ls.headD .hole).toSl, (iDec (padL 1 (dropT 1 ls))), (sDec (padL 1 (dropT 2 ls))))
noncomputable def R : (List (List L) × Int × ByteArray) → Option Int := RR (p3 gd) (u3 md)
theorem R_eq {a0} {a1} {a2} (h : gd a0 a1 a2) : R ((a0.map MStored.row), a1, a2) = some (md a0 a1 a2) := RR_eq (a := (a0, a1, a2)) h
noncomputable def con : Con := CN pats res acc R
theorem okF (a0 : List MStored) (a1 : Int) (a2 : ByteArray) (p1 : List L) (p2 : List L) (e1 : a1 = (iDec p1)) (e2 : a2 = (sDec p2)) (hg : gd a0 a1 a2) : ∃ n, start (iter step n) (a0.map MStored.row) p1 p2 = ret ((md a0 a1 a2) : Int) := by
  unfold gd at hg
  have H0 := hg
  unfold start md
  try simp only [S0, MStored.rs, ← e1, ← e2]
  have Bh2 : a0.length ≤ maxLen := (by
      have := (H0).1
      try simp only [maxLen] at *
      omega)
  refine ex_eq (out := ret) (loopM_eachI (z := MStored.zero)) ?_
  refine ex_pt (p := Pt.p0 (a0.map MStored.row) p1 p2 (a0.length : Int) 0) (by first | rfl | (simp only [S0, MStored.rs, ← e1, ← e2, MP]; done) | (simp only [MP]; rfl)) ?_
  refine loopM_ok (pt := fun (i1 : Nat) (s3 : Unit) => Pt.p0 (a0.map MStored.row) p1 p2 (a0.length : Int) (i1 : Int)) (s := (() : Unit)) (out := ret) (fun _ _ => True) (fun J i1 s3 h2 hih2 => ?_) (fun s3 hih2 => ?_) trivial
  · simp only [step, S0, MStored.rs, ← e1, ← e2]
    have bb_ := Bh2
    simp only [maxLen] at bb_
    have := (H0).1
    refine Rnd.yes (by apply decide_eq_true; omega) ?_
    refine Rnd.yes zle_dec ?_
    refine Rnd.yes (lt_dec h2) ?_
    refine Rnd.call_to (impl_Cache_find_1.md (a0.getD i1 MStored.zero) a1 a2) (impl_Cache_find_1.R_eq (a0 := (a0.getD i1 MStored.zero)) (a1 := a1) (a2 := a2) trivial) ?_
    refine Rnd.bif (fun c4 => ?_) (fun c4 => ?_)
    · refine Rnd.inr ?_
      all_goals first | rfl | (simp only [S0, MStored.rs, ← e1, ← e2, MP]; first | done | rfl)
    · refine Rnd.inl trivial ?_
      rw [wrap_succ h2 Bh2]
      all_goals first | rfl | (simp only [S0, MStored.rs, ← e1, ← e2, MP]; first | done | rfl)
  · simp only [step, S0, MStored.rs, ← e1, ← e2]
    have := (H0).1
    refine ex_no (by apply decide_eq_false; omega) ?_
    refine ⟨0, ?_⟩
    all_goals first | rfl | (simp only [S0, MStored.rs, ← e1, ← e2, MP]; first | done | rfl)
theorem okV (ls : List L) (a : List MStored × Int × ByteArray) (e : acc ls = Im.im a) (hg : (p3 gd) a) : ∃ n : Nat, start (iter step n) ((ls.headD .hole).toSl) (padL 1 (dropT 1 ls)) (padL 1 (dropT 2 ls)) = ret (Im.im ((u3 md) a)) := by
  have e0 : (a.1.map MStored.row) = (ls.headD .hole).toSl := (congrArg (fun x => x.1) e.symm)
  obtain ⟨n, hn⟩ := okF a.1 a.2.1 a.2.2 (padL 1 (dropT 1 ls)) (padL 1 (dropT 2 ls)) (congrArg (fun x => x.2.1) e.symm) (congrArg (fun x => x.2.2) e.symm) hg
  refine ⟨n, ?_⟩
  rw [← e0]
  exact hn
theorem valid_ : Valid Try.prog Ev 221 con := VP (accr := fun ls => ((ls.headD .hole).toSl, (padL 1 (dropT 1 ls)), (padL 1 (dropT 2 ls)))) (run := fun n x => start (iter step n) x.1 x.2.1 x.2.2) mix tab_ok (.cons impl_Cache_find_1.valid_ .nil) Try.func221 (by kernel_rfl) run_eq (fun ls a _ e hg => okV ls a e hg)
theorem fa (a0 : List MStored) (a1 : Int) (a2 : ByteArray) : -1 ≤ md a0 a1 a2 ∧ md a0 a1 a2 < (a0.length : Int) := by
  unfold md
  refine eachI_fa0 ?_ _ _
  all_goals
    intro i x s b h
    revert h
    simp only [Bool.cond_eq_ite]
    repeat' split
    all_goals (intro h; first | (cases h; rfl) | cases h)
theorem idx_eq (a0 : List MStored) (a1 : Int) (a2 : ByteArray) : md a0 a1 a2 = findI (fun y => impl_Cache_find_1.md y a1 a2) 0 a0 := by
  unfold md
  exact eachI_find
end slices_IndexFunc_Simpl_Stored_impl_Stored__impl_Cache_find_1
/-! (impl.Cache).find -/
namespace impl_Cache_find
noncomputable def F (x0 : RCache) (x1 : Int) (x2 : ByteArray) : Ans := (call (slices_IndexFunc_Simpl_Stored_impl_Stored__impl_Cache_find_1.R (x0.fList, x1, x2)) fun v1 => ret (v1 : Int))
def pats : List Pat := [.agg [.sl 220], .rd (.int .i64), .rd (.str)]
def res : RP := .one (.rd (.int .i64))
noncomputable abbrev E : Env := { T := assoc Tab, G := conG [(221, slices_IndexFunc_Simpl_Stored_impl_Stored__impl_Cache_find_1.con)], nt := 11 }
set_option maxRecDepth 100000
theorem run_eq (n : Nat) (ls : List L) : runF E (fun _ => []) Try.f171 res n (initS pats ls) = F (RCache.dec ls) ((dropT 1 ls).headD .hole).toInt ((dropT 2 ls).headD .hole).toStr := by kernel_rfl
noncomputable def md (a0 : MCache) (a1 : Int) (a2 : ByteArray) : Int := ((slices_IndexFunc_Simpl_Stored_impl_Stored__impl_Cache_find_1.md a0.fList a1 a2) : Int)
def gd (a0 : MCache) (a1 : Int) (a2 : ByteArray) : Prop := (MCache.Sm (2 ^ 21) a0)
def acc (ls : List L) : RCache × Int × ByteArray := ((RCache.dec ls), ((dropT 1 ls).headD .hole).toInt, ((dropT 2 ls).headD .hole).toStr)
noncomputable def R : (RCache × Int × ByteArray) → Option Int := RR (p3 gd) (u3 md)
theorem R_eq {a0} {a1} {a2} (h : gd a0 a1 a2) : R ((MCache.r a0), a1, a2) = some (md a0 a1 a2) := RR_eq (a := (a0, a1, a2)) h
noncomputable def con : Con := CN pats res acc R
theorem okF (a0 : MCache) (a1 : Int) (a2 : ByteArray) (hg : gd a0 a1 a2) : F (MCache.r a0) a1 a2 = ret ((md a0 a1 a2) : Int) := by
  unfold gd at hg
  have H0 := hg
  unfold F md
  try simp only [S0, MKeys.rs, MCache.rs]
  refine call_to (slices_IndexFunc_Simpl_Stored_impl_Stored__impl_Cache_find_1.md a0.fList a1 a2) (slices_IndexFunc_Simpl_Stored_impl_Stored__impl_Cache_find_1.R_eq (a0 := a0.fList) (a1 := a1) (a2 := a2) H0) ?_
  have fv1_ := slices_IndexFunc_Simpl_Stored_impl_Stored__impl_Cache_find_1.fa a0.fList a1 a2
  all_goals first | rfl | (simp only [S0, MKeys.rs, MCache.rs, MP]; first | done | rfl)
theorem valid_ : Valid Try.prog Ev 171 con := VV (run := fun _ x => F x.1 x.2.1 x.2.2) mix tab_ok (.cons slices_IndexFunc_Simpl_Stored_impl_Stored__impl_Cache_find_1.valid_ .nil) Try.func171 (by kernel_rfl) run_eq (fun _ a _ _ hg => ⟨0, okF a.1 a.2.1 a.2.2 hg⟩)
theorem fa (a0 : MCache) (a1 : Int) (a2 : ByteArray) : -1 ≤ md a0 a1 a2 ∧ md a0 a1 a2 < (a0.fList.length : Int) := by unfold md; exact slices_IndexFunc_Simpl_Stored_impl_Stored__impl_Cache_find_1.fa _ _ _
theorem br (a0 : MCache) (a1 : Int) (a2 : ByteArray) : md a0 a1 a2 = spec_l26Find.md a0 a1 a2 := by
  unfold md spec_l26Find.md
  rw [slices_IndexFunc_Simpl_Stored_impl_Stored__impl_Cache_find_1.idx_eq]
  symm
  refine eachI_find' (fun i x s => ?_) _ _ _
  unfold impl_Cache_find_1.md
  cases x.fZone == a1 <;> cases x.fLabel == a2 <;> rfl
end impl_Cache_find
/-! slices.Clone[[]int,int] -/
namespace slices_Clone_Sint_int
noncomputable def F (x0 : List (List L)) : Ans := (bif x0.isEmpty then (either (ret ([] : List (List L))) ((bif (lim ((x0.length : Int) * 8)) then ret (x0 : List (List L)) else none))) else (bif (lim ((x0.length : Int) * 8)) then ret (x0 : List (List L)) else none))
def pats : List Pat := [.rd (.sl 3)]
def res : RP := .one (.fr 3)
noncomputable abbrev E : Env := { T := assoc Tab, G := conG [], nt := 8 }
set_option maxRecDepth 100000
theorem run_eq (n : Nat) (ls : List L) : runF E (fun _ => []) Try.f210 res n (initS pats ls) = F (ls.headD .hole).toSl := by kernel_rfl
noncomputable def md (a0 : List Int) : List Int := a0
def gd (a0 : List Int) : Prop := SmL (2 ^ 38) (fun y : Int => True) a0
def acc (ls : List L) : List (List L) := (ls.headD .hole).toSl
noncomputable def R : (List (List L)) → Option (List (List L)) := RR gd md
theorem R_eq {a0} (h : gd a0) : R (a0.map iRow) = some ((md a0).map iRow) := RR_eq (a := a0) h
noncomputable def con : Con := CN pats res acc R
theorem okF (a0 : List Int) (hg : gd a0) : F (a0.map iRow) = ret (((md a0).map iRow) : List (List L)) := by
  have H0 := hg.1
  unfold F md
  have hl : lim (((a0.map iRow).length : Int) * 8) = true := lim_t (by simp only [List.length_map]; omega)
  simp only [hl, cond_true]
  cases a0 with
  | nil => exact either_same
  | cons x xs => rfl
theorem valid_ : Valid Try.prog Ev 210 con := VV (run := fun _ x => F x) mix tab_ok .nil Try.func210 (by kernel_rfl) run_eq (fun _ a _ _ hg => ⟨0, okF a hg⟩)
end slices_Clone_Sint_int
/-! impl.copyKeys -/
namespace impl_copyKeys
noncomputable def F (x0 : RKeys) : Ans := (call (slices_Clone_Sint_int.R x0.fList) fun v1 => ret ((⟨v1, x0.fNeed⟩ : RKeys) : RKeys))
def pats : List Pat := [.agg [.sl 3, .int .i64]]
def res : RP := .agg [.fr 3, .rd (.int .i64)]
noncomputable abbrev E : Env := { T := assoc Tab, G := conG [(210, slices_Clone_Sint_int.con)], nt := 9 }
set_option maxRecDepth 100000
theorem run_eq (n : Nat) (ls : List L) : runF E (fun _ => []) Try.f153 res n (initS pats ls) = F (RKeys.dec ls) := by kernel_rfl
noncomputable def md (a0 : MKeys) : MKeys := a0
def gd (a0 : MKeys) : Prop := (MKeys.Sm (2 ^ 21) a0)
def acc (ls : List L) : RKeys := (RKeys.dec ls)
noncomputable def R : RKeys → Option RKeys := RR gd md
theorem R_eq {a0} (h : gd a0) : R (MKeys.r a0) = some (MKeys.r (md a0)) := RR_eq (a := a0) h
noncomputable def con : Con := CN pats res acc R
theorem okF (a0 : MKeys) (hg : gd a0) : F (MKeys.r a0) = ret ((MKeys.r (md a0)) : RKeys) := by
  unfold gd at hg
  have H0 := hg
  unfold F md
  try simp only [S0, MKeys.rs]
  refine call_to (a0.fList.map iRow) ?_ ?_
  · have R_ := slices_Clone_Sint_int.R_eq (a0 := a0.fList) (H0.mono (by decide) (fun x hx => trivial))
    simp only [slices_Clone_Sint_int.md] at R_
    first | exact R_ | (simp only [MP, S0, MKeys.rs] at R_ ⊢; first | exact R_ | (rw [← R_]; rfl))
  try simp only [S0, MKeys.rs]
  all_goals first | rfl | (simp only [S0, MKeys.rs]; done) | (simp only [MP]; rfl) | (simp only [S0, MKeys.rs, MP]; first | done | rfl)
theorem valid_ : Valid Try.prog Ev 153 con := VV (run := fun _ x => F x) mix tab_ok (.cons slices_Clone_Sint_int.valid_ .nil) Try.func153 (by kernel_rfl) run_eq (fun _ a _ _ hg => ⟨0, okF a hg⟩)
end impl_copyKeys
/-! impl.copyHead -/
namespace impl_copyHead
noncomputable def F (x0 : RHead) : Ans := (call (impl_copyKeys.R x0.fKeys) fun v1 => (call (impl_copyKeys.R x0.fHeirs) fun v2 => (call (impl_copyKeys.R x0.fJudge) fun v3 => ret ((⟨x0.fZone, x0.fEpoch, x0.fKind, x0.fTime, x0.fUntil, x0.fCount, x0.fRoot, x0.fPrev, v1, v2, x0.fWait, v3, x0.fFrozen⟩ : RHead) : RHead))))
def pats : List Pat := [.agg [.int .i64, .int .i64, .int .i64, .int .i64, .int .i64, .int .i64, .int .i64, .int .i64, .sl 3, .int .i64, .sl 3, .int .i64, .int .i64, .sl 3, .int .i64, .bool]]
def res : RP := .agg [.rd (.int .i64), .rd (.int .i64), .rd (.int .i64), .rd (.int .i64), .rd (.int .i64), .rd (.int .i64), .rd (.int .i64), .rd (.int .i64), .fr 3, .rd (.int .i64), .fr 3, .rd (.int .i64), .rd (.int .i64), .fr 3, .rd (.int .i64), .rd (.bool)]
noncomputable abbrev E : Env := { T := assoc Tab, G := conG [(153, impl_copyKeys.con)], nt := 16 }
set_option maxRecDepth 100000
theorem run_eq (n : Nat) (ls : List L) : runF E (fun _ => []) Try.f230 res n (initS pats ls) = F (RHead.dec ls) := by kernel_rfl
noncomputable def md (a0 : MHead) : MHead := a0
def gd (a0 : MHead) : Prop := (MHead.Sm (2 ^ 21) a0)
def acc (ls : List L) : RHead := (RHead.dec ls)
noncomputable def R : RHead → Option RHead := RR gd md
theorem R_eq {a0} (h : gd a0) : R (MHead.r a0) = some (MHead.r (md a0)) := RR_eq (a := a0) h
noncomputable def con : Con := CN pats res acc R
theorem okF (a0 : MHead) (hg : gd a0) : F (MHead.r a0) = ret ((MHead.r (md a0)) : RHead) := by
  unfold gd at hg
  have H0 := hg
  unfold F md
  try simp only [S0, MHead.rs]
  refine call_to (MKeys.r a0.fKeys) ?_ ?_
  · have R_ := impl_copyKeys.R_eq (a0 := a0.fKeys) H0.1
    simp only [impl_copyKeys.md] at R_
    first | exact R_ | (simp only [MP, S0, MHead.rs] at R_ ⊢; first | exact R_ | (rw [← R_]; rfl))
  try simp only [S0, MHead.rs]
  refine call_to (MKeys.r a0.fHeirs) ?_ ?_
  · have R_ := impl_copyKeys.R_eq (a0 := a0.fHeirs) H0.2.1
    simp only [impl_copyKeys.md] at R_
    first | exact R_ | (simp only [MP, S0, MHead.rs] at R_ ⊢; first | exact R_ | (rw [← R_]; rfl))
  try simp only [S0, MHead.rs]
  refine call_to (MKeys.r a0.fJudge) ?_ ?_
  · have R_ := impl_copyKeys.R_eq (a0 := a0.fJudge) H0.2.2
    simp only [impl_copyKeys.md] at R_
    first | exact R_ | (simp only [MP, S0, MHead.rs] at R_ ⊢; first | exact R_ | (rw [← R_]; rfl))
  try simp only [S0, MHead.rs]
  all_goals first | rfl | (simp only [S0, MHead.rs]; done) | (simp only [MP]; rfl) | (simp only [S0, MHead.rs, MP]; first | done | rfl)
theorem valid_ : Valid Try.prog Ev 230 con := VV (run := fun _ x => F x) mix tab_ok (.cons impl_copyKeys.valid_ .nil) Try.func230 (by kernel_rfl) run_eq (fun _ a _ _ hg => ⟨0, okF a hg⟩)
end impl_copyHead
/-! slices.Clone[[]impl.Sig,impl.Sig] -/
namespace slices_Clone_Simpl_Sig_impl_Sig
noncomputable def F (x0 : List (List L)) : Ans := (bif x0.isEmpty then (either (ret ([] : List (List L))) ((bif (lim ((x0.length : Int) * 16)) then ret (x0 : List (List L)) else none))) else (bif (lim ((x0.length : Int) * 16)) then ret (x0 : List (List L)) else none))
def pats : List Pat := [.rd (.sl 248)]
def res : RP := .one (.fr 248)
noncomputable abbrev E : Env := { T := assoc Tab, G := conG [], nt := 8 }
set_option maxRecDepth 100000
theorem run_eq (n : Nat) (ls : List L) : runF E (fun _ => []) Try.f231 res n (initS pats ls) = F (ls.headD .hole).toSl := by kernel_rfl
noncomputable def md (a0 : List MSig) : List MSig := a0
def gd (a0 : List MSig) : Prop := SmL (2 ^ 21) (fun y : MSig => MSig.Sm (2 ^ 21) y) a0
def acc (ls : List L) : List (List L) := (ls.headD .hole).toSl
noncomputable def R : (List (List L)) → Option (List (List L)) := RR gd md
theorem R_eq {a0} (h : gd a0) : R (a0.map MSig.row) = some ((md a0).map MSig.row) := RR_eq (a := a0) h
noncomputable def con : Con := CN pats res acc R
theorem okF (a0 : List MSig) (hg : gd a0) : F (a0.map MSig.row) = ret (((md a0).map MSig.row) : List (List L)) := by
  have H0 := hg.1
  unfold F md
  have hl : lim (((a0.map MSig.row).length : Int) * 16) = true := lim_t (by simp only [List.length_map]; omega)
  simp only [hl, cond_true]
  cases a0 with
  | nil => exact either_same
  | cons x xs => rfl
theorem valid_ : Valid Try.prog Ev 231 con := VV (run := fun _ x => F x) mix tab_ok .nil Try.func231 (by kernel_rfl) run_eq (fun _ a _ _ hg => ⟨0, okF a hg⟩)
end slices_Clone_Simpl_Sig_impl_Sig
/-! impl.copySigned -/
namespace impl_copySigned
noncomputable def F (x0 : RSigned) : Ans := (call (impl_copyHead.R x0.fHead) fun v1 => (call (slices_Clone_Simpl_Sig_impl_Sig.R x0.fSigs) fun v2 => ret ((⟨v1, v2⟩ : RSigned) : RSigned)))
def pats : List Pat := [.agg [.int .i64, .int .i64, .int .i64, .int .i64, .int .i64, .int .i64, .int .i64, .int .i64, .sl 3, .int .i64, .sl 3, .int .i64, .int .i64, .sl 3, .int .i64, .bool, .sl 248]]
def res : RP := .agg [.rd (.int .i64), .rd (.int .i64), .rd (.int .i64), .rd (.int .i64), .rd (.int .i64), .rd (.int .i64), .rd (.int .i64), .rd (.int .i64), .fr 3, .rd (.int .i64), .fr 3, .rd (.int .i64), .rd (.int .i64), .fr 3, .rd (.int .i64), .rd (.bool), .fr 248]
noncomputable abbrev E : Env := { T := assoc Tab, G := conG [(230, impl_copyHead.con), (231, slices_Clone_Simpl_Sig_impl_Sig.con)], nt := 10 }
set_option maxRecDepth 100000
theorem run_eq (n : Nat) (ls : List L) : runF E (fun _ => []) Try.f198 res n (initS pats ls) = F (RSigned.dec ls) := by kernel_rfl
noncomputable def md (a0 : MSigned) : MSigned := a0
def gd (a0 : MSigned) : Prop := (MSigned.Sm (2 ^ 21) a0)
def acc (ls : List L) : RSigned := (RSigned.dec ls)
noncomputable def R : RSigned → Option RSigned := RR gd md
theorem R_eq {a0} (h : gd a0) : R (MSigned.r a0) = some (MSigned.r (md a0)) := RR_eq (a := a0) h
noncomputable def con : Con := CN pats res acc R
theorem okF (a0 : MSigned) (hg : gd a0) : F (MSigned.r a0) = ret ((MSigned.r (md a0)) : RSigned) := by
  unfold gd at hg
  have H0 := hg
  unfold F md
  try simp only [S0, MSigned.rs]
  refine call_to (MHead.r a0.fHead) ?_ ?_
  · have R_ := impl_copyHead.R_eq (a0 := a0.fHead) H0.1
    simp only [impl_copyHead.md] at R_
    first | exact R_ | (simp only [MP, S0, MSigned.rs] at R_ ⊢; first | exact R_ | (rw [← R_]; rfl))
  try simp only [S0, MSigned.rs]
  refine call_to (a0.fSigs.map MSig.row) ?_ ?_
  · have R_ := slices_Clone_Simpl_Sig_impl_Sig.R_eq (a0 := a0.fSigs) H0.2
    simp only [slices_Clone_Simpl_Sig_impl_Sig.md] at R_
    first | exact R_ | (simp only [MP, S0, MSigned.rs] at R_ ⊢; first | exact R_ | (rw [← R_]; rfl))
  try simp only [S0, MSigned.rs]
  all_goals first | rfl | (simp only [S0, MSigned.rs]; done) | (simp only [MP]; rfl) | (simp only [S0, MSigned.rs, MP]; first | done | rfl)
theorem valid_ : Valid Try.prog Ev 198 con := VV (run := fun _ x => F x) mix tab_ok (.cons impl_copyHead.valid_ (.cons slices_Clone_Simpl_Sig_impl_Sig.valid_ .nil)) Try.func198 (by kernel_rfl) run_eq (fun _ a _ _ hg => ⟨0, okF a hg⟩)
end impl_copySigned
/-! impl.copyChain -/
namespace impl_copyChain
inductive Pt where
  | p0 (a : List (List L)) (b : Int) (c : Int) (d : List (List L))
def pid : Pt → Nat
  | .p0 .. => 3
def pvs : Pt → List V
  | .p0 a b c d => [.own 0, .sl none 184 a, .int .i64 b, .int .i64 c]
def phs : Pt → List Root
  | .p0 a b c d => [.row 184 d]
noncomputable def step (J : Pt → Ans) : Pt → Ans
  | .p0 a b c d => (bif (decide (c < b)) then (bif (decide ((0 : Int) ≤ c)) then (bif (decide (c < (a.length : Int))) then (call (impl_copySigned.R (RSigned.at a (Int.toNat c))) fun v1 => (bif (lim (((d.length : Int) + 1) * 200)) then J (.p0 a b (IntKind.i64.wrap (c + 1)) (d ++ [(RSigned.enc v1)])) else none)) else none) else none) else ret (d : List (List L)))
noncomputable def start (J : Pt → Ans) (x0 : List (List L)) : Ans := J (.p0 x0 (x0.length : Int) 0 [])
def live : Nat → Live := fun i => match i with | 3 => [(3, some 184), (7, none), (8, none), (9, none)] | _ => []
def pats : List Pat := [.rd (.sl 184)]
def res : RP := .one (.fr 184)
noncomputable abbrev E : Env := { T := assoc Tab, G := conG [(198, impl_copySigned.con)], nt := 20 }
set_option maxRecDepth 100000
theorem step_eq (I : Heads) (p : Pt) : enterC E live I (pid p) (bodyOf Try.f136) (stOf (live (pid p)) (pvs p) (phs p)) (doneK E Try.f136 res) = step (fun q => I (pid q) (pvs q) (phs q)) p := by
  cases p <;> kernel_rfl
theorem start_eq (I : Heads) (ls : List L) : runC E live I (bodyOf Try.f136) (initS pats ls) (doneK E Try.f136 res) = start (fun q => I (pid q) (pvs q) (phs q)) (ls.headD .hole).toSl := by kernel_rfl
theorem run_eq (n : Nat) (ls : List L) : runF E live Try.f136 res n (initS pats ls) = start (iter step n) (ls.headD .hole).toSl := runF_iter (id := pid) (vs := pvs) (hs := phs) (step := step) (start := fun J => start J (ls.headD .hole).toSl) step_eq (fun I => start_eq I ls) n
noncomputable def md (a0 : List MSigned) : List MSigned := a0
def gd (a0 : List MSigned) : Prop := (SmL (2 ^ 21) (fun y : MSigned => MSigned.Sm (2 ^ 21) y) a0)
def acc (ls : List L) : List (List L) := (ls.headD .hole).toSl
noncomputable def R : (List (List L)) → Option (List (List L)) := RR gd md
theorem R_eq {a0} (h : gd a0) : R (a0.map MSigned.row) = some ((md a0).map MSigned.row) := RR_eq (a := a0) h
noncomputable def con : Con := CN pats res acc R
theorem okF (a0 : List MSigned) (hg : gd a0) : ∃ n, start (iter step n) (a0.map MSigned.row) = ret (((md a0).map MSigned.row) : List (List L)) := by
  unfold gd at hg
  have H0 := hg
  unfold start md
  try simp only [S0, MSigned.rs]
  have Bh2 : a0.length ≤ maxLen := (by
      have := (H0).1
      try simp only [maxLen] at *
      omega)
  refine ex_eq (out := (fun b : List MSigned => ret ((b.map MSigned.row) : List (List L)))) (loopM_copy (xs := a0) (z := MSigned.zero) (t := fun s3 : List MSigned => s3)) ?_
  refine ex_pt (p := Pt.p0 (a0.map MSigned.row) (a0.length : Int) 0 ([].map MSigned.row)) (by first | rfl | (simp only [S0, MSigned.rs, MP]; done) | (simp only [MP]; rfl)) ?_
  refine loopM_ok (pt := fun (i1 : Nat) (s3 : List MSigned) => Pt.p0 (a0.map MSigned.row) (a0.length : Int) (i1 : Int) (s3.map MSigned.row)) (s := ([] : List MSigned)) (out := (fun b : List MSigned => ret ((b.map MSigned.row) : List (List L)))) (fun (i1 : Nat) (s3 : List MSigned) => s3.length ≤ ([] : List Int).length + 1 * i1) (fun J i1 s3 h2 hih2 => ?_) (fun s3 hih2 => ?_) (by simp)
  · simp only [step, S0, MSigned.rs]
    have gr_ := hih2
    try simp only [LN] at gr_
    have bb_ := Bh2
    simp only [maxLen] at bb_
    have := (H0).1
    refine Rnd.yes (by apply decide_eq_true; omega) ?_
    refine Rnd.yes zle_dec ?_
    refine Rnd.yes (lt_dec h2) ?_
    refine Rnd.call_to (MSigned.r (a0.getD i1 MSigned.zero)) ?_ ?_
    · have R_ := impl_copySigned.R_eq (a0 := (a0.getD i1 MSigned.zero)) (SmL.getD (z := MSigned.zero) H0 h2)
      simp only [impl_copySigned.md] at R_
      first | exact R_ | (simp only [MP, S0, MSigned.rs] at R_ ⊢; first | exact R_ | (rw [← R_]; rfl))
    try simp only [S0, MSigned.rs]
    refine Rnd.yes (by
        refine lim_t ?_
        try simp (disch := omega) only [LN, wi]
        first | omega | (simp; done) | (simp; omega)) ?_
    refine Rnd.inl (by
        have g_ := hih2
        try simp only [LN] at g_ ⊢
        first | omega | (simp; done) | (simp; omega)) ?_
    rw [wrap_succ h2 Bh2]
    all_goals first | rfl | (simp only [S0, MSigned.rs]; done) | (simp only [MP]; rfl) | (simp only [S0, MSigned.rs, MP]; first | done | rfl)
  · simp only [step, S0, MSigned.rs]
    have gr_ := hih2
    try simp only [LN] at gr_
    have := (H0).1
    refine ex_no (by apply decide_eq_false; omega) ?_
    refine ⟨0, ?_⟩
    all_goals first | rfl | (simp only [S0, MSigned.rs]; done) | (simp only [MP]; rfl) | (simp only [S0, MSigned.rs, MP]; first | done | rfl)
theorem valid_ : Valid Try.prog Ev 136 con := VV (run := fun n x => start (iter step n) x) mix tab_ok (.cons impl_copySigned.valid_ .nil) Try.func136 (by kernel_rfl) run_eq (fun _ a _ _ hg => okF a hg)
end impl_copyChain
/-! slices.Clone[[]string,string] -/
namespace slices_Clone_Sstring_string
noncomputable def F (x0 : List (List L)) : Ans := (bif x0.isEmpty then (either (ret ([] : List (List L))) ((bif (lim ((x0.length : Int) * 16)) then ret (x0 : List (List L)) else none))) else (bif (lim ((x0.length : Int) * 16)) then ret (x0 : List (List L)) else none))
def pats : List Pat := [.rd (.sl 9)]
def res : RP := .one (.fr 9)
noncomputable abbrev E : Env := { T := assoc Tab, G := conG [], nt := 8 }
set_option maxRecDepth 100000
theorem run_eq (n : Nat) (ls : List L) : runF E (fun _ => []) Try.f127 res n (initS pats ls) = F (ls.headD .hole).toSl := by kernel_rfl
noncomputable def md (a0 : List ByteArray) : List ByteArray := a0
def gd (a0 : List ByteArray) : Prop := SmL (2 ^ 21) (fun y : ByteArray => y.size ≤ (2 ^ 21)) a0
def acc (ls : List L) : List (List L) := (ls.headD .hole).toSl
noncomputable def R : (List (List L)) → Option (List (List L)) := RR gd md
theorem R_eq {a0} (h : gd a0) : R (a0.map sRow) = some ((md a0).map sRow) := RR_eq (a := a0) h
noncomputable def con : Con := CN pats res acc R
theorem okF (a0 : List ByteArray) (hg : gd a0) : F (a0.map sRow) = ret (((md a0).map sRow) : List (List L)) := by
  have H0 := hg.1
  unfold F md
  have hl : lim (((a0.map sRow).length : Int) * 16) = true := lim_t (by simp only [List.length_map]; omega)
  simp only [hl, cond_true]
  cases a0 with
  | nil => exact either_same
  | cons x xs => rfl
theorem valid_ : Valid Try.prog Ev 127 con := VV (run := fun _ x => F x) mix tab_ok .nil Try.func127 (by kernel_rfl) run_eq (fun _ a _ _ hg => ⟨0, okF a hg⟩)
end slices_Clone_Sstring_string
/-! impl.copyEntry -/
namespace impl_copyEntry
noncomputable def F (x0 : REntry) : Ans := (call (slices_Clone_Sstring_string.R x0.fPath) fun v1 => ret ((⟨x0.fLabel, x0.fKind, x0.fValue, v1⟩ : REntry) : REntry))
def pats : List Pat := [.agg [.str, .int .i64, .int .i64, .sl 9]]
def res : RP := .agg [.rd (.str), .rd (.int .i64), .rd (.int .i64), .fr 9]
noncomputable abbrev E : Env := { T := assoc Tab, G := conG [(127, slices_Clone_Sstring_string.con)], nt := 8 }
set_option maxRecDepth 100000
theorem run_eq (n : Nat) (ls : List L) : runF E (fun _ => []) Try.f120 res n (initS pats ls) = F (REntry.dec ls) := by kernel_rfl
noncomputable def md (a0 : MEntry) : MEntry := a0
def gd (a0 : MEntry) : Prop := (MEntry.Sm (2 ^ 21) a0)
def acc (ls : List L) : REntry := (REntry.dec ls)
noncomputable def R : REntry → Option REntry := RR gd md
theorem R_eq {a0} (h : gd a0) : R (MEntry.r a0) = some (MEntry.r (md a0)) := RR_eq (a := a0) h
noncomputable def con : Con := CN pats res acc R
theorem okF (a0 : MEntry) (hg : gd a0) : F (MEntry.r a0) = ret ((MEntry.r (md a0)) : REntry) := by
  unfold gd at hg
  have H0 := hg
  unfold F md
  try simp only [S0, MEntry.rs]
  refine call_to (a0.fPath.map sRow) ?_ ?_
  · have R_ := slices_Clone_Sstring_string.R_eq (a0 := a0.fPath) H0.2
    simp only [slices_Clone_Sstring_string.md] at R_
    first | exact R_ | (simp only [MP, S0, MEntry.rs] at R_ ⊢; first | exact R_ | (rw [← R_]; rfl))
  try simp only [S0, MEntry.rs]
  all_goals first | rfl | (simp only [S0, MEntry.rs]; done) | (simp only [MP]; rfl) | (simp only [S0, MEntry.rs, MP]; first | done | rfl)
theorem valid_ : Valid Try.prog Ev 120 con := VV (run := fun _ x => F x) mix tab_ok (.cons slices_Clone_Sstring_string.valid_ .nil) Try.func120 (by kernel_rfl) run_eq (fun _ a _ _ hg => ⟨0, okF a hg⟩)
end impl_copyEntry
/-! impl.copyProof -/
namespace impl_copyProof
noncomputable def F (x0 : RProof) : Ans := (call (slices_Clone_Sint_int.R x0.fPath) fun v1 => ret ((⟨x0.fAt, v1⟩ : RProof) : RProof))
def pats : List Pat := [.agg [.int .i64, .sl 3]]
def res : RP := .agg [.rd (.int .i64), .fr 3]
noncomputable abbrev E : Env := { T := assoc Tab, G := conG [(210, slices_Clone_Sint_int.con)], nt := 9 }
set_option maxRecDepth 100000
theorem run_eq (n : Nat) (ls : List L) : runF E (fun _ => []) Try.f223 res n (initS pats ls) = F (RProof.dec ls) := by kernel_rfl
noncomputable def md (a0 : MProof) : MProof := a0
def gd (a0 : MProof) : Prop := (MProof.Sm (2 ^ 21) a0)
def acc (ls : List L) : RProof := (RProof.dec ls)
noncomputable def R : RProof → Option RProof := RR gd md
theorem R_eq {a0} (h : gd a0) : R (MProof.r a0) = some (MProof.r (md a0)) := RR_eq (a := a0) h
noncomputable def con : Con := CN pats res acc R
theorem okF (a0 : MProof) (hg : gd a0) : F (MProof.r a0) = ret ((MProof.r (md a0)) : RProof) := by
  unfold gd at hg
  have H0 := hg
  unfold F md
  try simp only [S0, MProof.rs]
  refine call_to (a0.fPath.map iRow) ?_ ?_
  · have R_ := slices_Clone_Sint_int.R_eq (a0 := a0.fPath) (H0.mono (by decide) (fun x hx => trivial))
    simp only [slices_Clone_Sint_int.md] at R_
    first | exact R_ | (simp only [MP, S0, MProof.rs] at R_ ⊢; first | exact R_ | (rw [← R_]; rfl))
  try simp only [S0, MProof.rs]
  all_goals first | rfl | (simp only [S0, MProof.rs]; done) | (simp only [MP]; rfl) | (simp only [S0, MProof.rs, MP]; first | done | rfl)
theorem valid_ : Valid Try.prog Ev 223 con := VV (run := fun _ x => F x) mix tab_ok (.cons slices_Clone_Sint_int.valid_ .nil) Try.func223 (by kernel_rfl) run_eq (fun _ a _ _ hg => ⟨0, okF a hg⟩)
end impl_copyProof
/-! impl.copyGap -/
namespace impl_copyGap
noncomputable def F (x0 : RGap) : Ans := (call (impl_copyEntry.R x0.fBefore) fun v1 => (call (impl_copyEntry.R x0.fAfter) fun v2 => (call (impl_copyProof.R x0.fLeft) fun v3 => (call (impl_copyProof.R x0.fRight) fun v4 => ret ((⟨x0.fAt, v1, v2, v3, v4⟩ : RGap) : RGap)))))
def pats : List Pat := [.agg [.int .i64, .str, .int .i64, .int .i64, .sl 9, .str, .int .i64, .int .i64, .sl 9, .int .i64, .sl 3, .int .i64, .sl 3]]
def res : RP := .agg [.rd (.int .i64), .rd (.str), .rd (.int .i64), .rd (.int .i64), .fr 9, .rd (.str), .rd (.int .i64), .rd (.int .i64), .fr 9, .rd (.int .i64), .fr 3, .rd (.int .i64), .fr 3]
noncomputable abbrev E : Env := { T := assoc Tab, G := conG [(120, impl_copyEntry.con), (223, impl_copyProof.con)], nt := 18 }
set_option maxRecDepth 100000
theorem run_eq (n : Nat) (ls : List L) : runF E (fun _ => []) Try.f224 res n (initS pats ls) = F (RGap.dec ls) := by kernel_rfl
noncomputable def md (a0 : MGap) : MGap := a0
def gd (a0 : MGap) : Prop := (MGap.Sm (2 ^ 21) a0)
def acc (ls : List L) : RGap := (RGap.dec ls)
noncomputable def R : RGap → Option RGap := RR gd md
theorem R_eq {a0} (h : gd a0) : R (MGap.r a0) = some (MGap.r (md a0)) := RR_eq (a := a0) h
noncomputable def con : Con := CN pats res acc R
theorem okF (a0 : MGap) (hg : gd a0) : F (MGap.r a0) = ret ((MGap.r (md a0)) : RGap) := by
  unfold gd at hg
  have H0 := hg
  unfold F md
  try simp only [S0, MProof.rs, MGap.rs]
  refine call_to (MEntry.r a0.fBefore) ?_ ?_
  · have R_ := impl_copyEntry.R_eq (a0 := a0.fBefore) H0.1
    simp only [impl_copyEntry.md] at R_
    first | exact R_ | (simp only [MP, S0, MProof.rs, MGap.rs] at R_ ⊢; first | exact R_ | (rw [← R_]; rfl))
  try simp only [S0, MProof.rs, MGap.rs]
  refine call_to (MEntry.r a0.fAfter) ?_ ?_
  · have R_ := impl_copyEntry.R_eq (a0 := a0.fAfter) H0.2.1
    simp only [impl_copyEntry.md] at R_
    first | exact R_ | (simp only [MP, S0, MProof.rs, MGap.rs] at R_ ⊢; first | exact R_ | (rw [← R_]; rfl))
  try simp only [S0, MProof.rs, MGap.rs]
  refine call_to (MProof.r a0.fLeft) ?_ ?_
  · have R_ := impl_copyProof.R_eq (a0 := a0.fLeft) H0.2.2.1
    simp only [impl_copyProof.md] at R_
    first | exact R_ | (simp only [MP, S0, MProof.rs, MGap.rs] at R_ ⊢; first | exact R_ | (rw [← R_]; rfl))
  try simp only [S0, MProof.rs, MGap.rs]
  refine call_to (MProof.r a0.fRight) ?_ ?_
  · have R_ := impl_copyProof.R_eq (a0 := a0.fRight) H0.2.2.2
    simp only [impl_copyProof.md] at R_
    first | exact R_ | (simp only [MP, S0, MProof.rs, MGap.rs] at R_ ⊢; first | exact R_ | (rw [← R_]; rfl))
  try simp only [S0, MProof.rs, MGap.rs]
  all_goals first | rfl | (simp only [S0, MProof.rs, MGap.rs]; done) | (simp only [MP]; rfl) | (simp only [S0, MProof.rs, MGap.rs, MP]; first | done | rfl)
theorem valid_ : Valid Try.prog Ev 224 con := VV (run := fun _ x => F x) mix tab_ok (.cons impl_copyEntry.valid_ (.cons impl_copyProof.valid_ .nil)) Try.func224 (by kernel_rfl) run_eq (fun _ a _ _ hg => ⟨0, okF a hg⟩)
end impl_copyGap
/-! impl.copyAnswer -/
namespace impl_copyAnswer
noncomputable def F (x0 : RAnswer) : Ans := (call (impl_copyChain.R x0.fChain) fun v1 => (call (impl_copyEntry.R x0.fEntry) fun v2 => (call (impl_copyProof.R x0.fProof) fun v3 => (call (impl_copyGap.R x0.fGap) fun v4 => ret ((⟨v1, x0.fFound, v2, v3, v4⟩ : RAnswer) : RAnswer)))))
def pats : List Pat := [.agg [.sl 184, .bool, .str, .int .i64, .int .i64, .sl 9, .int .i64, .sl 3, .int .i64, .str, .int .i64, .int .i64, .sl 9, .str, .int .i64, .int .i64, .sl 9, .int .i64, .sl 3, .int .i64, .sl 3]]
def res : RP := .agg [.fr 184, .rd (.bool), .rd (.str), .rd (.int .i64), .rd (.int .i64), .fr 9, .rd (.int .i64), .fr 3, .rd (.int .i64), .rd (.str), .rd (.int .i64), .rd (.int .i64), .fr 9, .rd (.str), .rd (.int .i64), .rd (.int .i64), .fr 9, .rd (.int .i64), .fr 3, .rd (.int .i64), .fr 3]
noncomputable abbrev E : Env := { T := assoc Tab, G := conG [(136, impl_copyChain.con), (120, impl_copyEntry.con), (223, impl_copyProof.con), (224, impl_copyGap.con)], nt := 18 }
set_option maxRecDepth 100000
theorem run_eq (n : Nat) (ls : List L) : runF E (fun _ => []) Try.f172 res n (initS pats ls) = F (RAnswer.dec ls) := by kernel_rfl
noncomputable def md (a0 : MAnswer) : MAnswer := a0
def gd (a0 : MAnswer) : Prop := (MAnswer.Sm (2 ^ 21) a0)
def acc (ls : List L) : RAnswer := (RAnswer.dec ls)
noncomputable def R : RAnswer → Option RAnswer := RR gd md
theorem R_eq {a0} (h : gd a0) : R (MAnswer.r a0) = some (MAnswer.r (md a0)) := RR_eq (a := a0) h
noncomputable def con : Con := CN pats res acc R
theorem okF (a0 : MAnswer) (hg : gd a0) : F (MAnswer.r a0) = ret ((MAnswer.r (md a0)) : RAnswer) := by
  unfold gd at hg
  have H0 := hg
  unfold F md
  try simp only [S0, MAnswer.rs]
  refine call_to (a0.fChain.map MSigned.row) ?_ ?_
  · have R_ := impl_copyChain.R_eq (a0 := a0.fChain) H0.1
    simp only [impl_copyChain.md] at R_
    first | exact R_ | (simp only [MP, S0, MAnswer.rs] at R_ ⊢; first | exact R_ | (rw [← R_]; rfl))
  try simp only [S0, MAnswer.rs]
  refine call_to (MEntry.r a0.fEntry) ?_ ?_
  · have R_ := impl_copyEntry.R_eq (a0 := a0.fEntry) H0.2.1
    simp only [impl_copyEntry.md] at R_
    first | exact R_ | (simp only [MP, S0, MAnswer.rs] at R_ ⊢; first | exact R_ | (rw [← R_]; rfl))
  try simp only [S0, MAnswer.rs]
  refine call_to (MProof.r a0.fProof) ?_ ?_
  · have R_ := impl_copyProof.R_eq (a0 := a0.fProof) H0.2.2.1
    simp only [impl_copyProof.md] at R_
    first | exact R_ | (simp only [MP, S0, MAnswer.rs] at R_ ⊢; first | exact R_ | (rw [← R_]; rfl))
  try simp only [S0, MAnswer.rs]
  refine call_to (MGap.r a0.fGap) ?_ ?_
  · have R_ := impl_copyGap.R_eq (a0 := a0.fGap) H0.2.2.2
    simp only [impl_copyGap.md] at R_
    first | exact R_ | (simp only [MP, S0, MAnswer.rs] at R_ ⊢; first | exact R_ | (rw [← R_]; rfl))
  try simp only [S0, MAnswer.rs]
  all_goals first | rfl | (simp only [S0, MAnswer.rs]; done) | (simp only [MP]; rfl) | (simp only [S0, MAnswer.rs, MP]; first | done | rfl)
theorem valid_ : Valid Try.prog Ev 172 con := VV (run := fun _ x => F x) mix tab_ok (.cons impl_copyChain.valid_ (.cons impl_copyEntry.valid_ (.cons impl_copyProof.valid_ (.cons impl_copyGap.valid_ .nil)))) Try.func172 (by kernel_rfl) run_eq (fun _ a _ _ hg => ⟨0, okF a hg⟩)
end impl_copyAnswer
/-! impl.FromCache -/
namespace impl_FromCache
noncomputable def F (x0 : RCache) (x1 : Int) (x2 : ByteArray) : Ans := (call (impl_Cache_find.R (x0, x1, x2)) fun v1 => (bif (decide (v1 < 0)) then ret ((⟨[], false, (⟨(⟨#[]⟩ : ByteArray), 0, 0, []⟩ : REntry), (⟨0, []⟩ : RProof), (⟨0, (⟨(⟨#[]⟩ : ByteArray), 0, 0, []⟩ : REntry), (⟨(⟨#[]⟩ : ByteArray), 0, 0, []⟩ : REntry), (⟨0, []⟩ : RProof), (⟨0, []⟩ : RProof)⟩ : RGap)⟩ : RAnswer) : RAnswer) else (bif (decide ((0 : Int) ≤ v1)) then (bif (decide (v1 < (x0.fList.length : Int))) then (call (impl_copyAnswer.R ((RStored.at x0.fList (Int.toNat v1)).fAnswer)) fun v2 => ret (v2 : RAnswer)) else none) else none)))
def pats : List Pat := [.agg [.sl 220], .rd (.int .i64), .rd (.str)]
def res : RP := .agg [.fr 184, .rd (.bool), .rd (.str), .rd (.int .i64), .rd (.int .i64), .fr 9, .rd (.int .i64), .fr 3, .rd (.int .i64), .rd (.str), .rd (.int .i64), .rd (.int .i64), .fr 9, .rd (.str), .rd (.int .i64), .rd (.int .i64), .fr 9, .rd (.int .i64), .fr 3, .rd (.int .i64), .fr 3]
noncomputable abbrev E : Env := { T := assoc Tab, G := conG [(171, impl_Cache_find.con), (172, impl_copyAnswer.con)], nt := 22 }
set_option maxRecDepth 100000
theorem run_eq (n : Nat) (ls : List L) : runF E (fun _ => []) Try.f89 res n (initS pats ls) = F (RCache.dec ls) ((dropT 1 ls).headD .hole).toInt ((dropT 2 ls).headD .hole).toStr := by kernel_rfl
noncomputable def md (a0 : MCache) (a1 : Int) (a2 : ByteArray) : MAnswer := (bif (decide ((impl_Cache_find.md a0 a1 a2) < 0)) then (⟨[], false, (⟨((⟨#[]⟩ : ByteArray) : ByteArray), 0, 0, []⟩ : MEntry), (⟨0, []⟩ : MProof), (⟨0, (⟨((⟨#[]⟩ : ByteArray) : ByteArray), 0, 0, []⟩ : MEntry), (⟨((⟨#[]⟩ : ByteArray) : ByteArray), 0, 0, []⟩ : MEntry), (⟨0, []⟩ : MProof), (⟨0, []⟩ : MProof)⟩ : MGap)⟩ : MAnswer) else ((a0.fList.getD (Int.toNat (impl_Cache_find.md a0 a1 a2)) MStored.zero).fAnswer))
def gd (a0 : MCache) (a1 : Int) (a2 : ByteArray) : Prop := (MCache.Sm (2 ^ 21) a0)
def acc (ls : List L) : RCache × Int × ByteArray := ((RCache.dec ls), ((dropT 1 ls).headD .hole).toInt, ((dropT 2 ls).headD .hole).toStr)
noncomputable def R : (RCache × Int × ByteArray) → Option RAnswer := RR (p3 gd) (u3 md)
theorem R_eq {a0} {a1} {a2} (h : gd a0 a1 a2) : R ((MCache.r a0), a1, a2) = some (MAnswer.r (md a0 a1 a2)) := RR_eq (a := (a0, a1, a2)) h
noncomputable def con : Con := CN pats res acc R
theorem okF (a0 : MCache) (a1 : Int) (a2 : ByteArray) (hg : gd a0 a1 a2) : F (MCache.r a0) a1 a2 = ret ((MAnswer.r (md a0 a1 a2)) : RAnswer) := by
  unfold gd at hg
  have H0 := hg
  unfold F md
  try simp only [S0, MKeys.rs, MStored.rs, MCache.rs]
  refine call_to (impl_Cache_find.md a0 a1 a2) (impl_Cache_find.R_eq (a0 := a0) (a1 := a1) (a2 := a2) H0) ?_
  have fv1_ := impl_Cache_find.fa a0 a1 a2
  refine bif_out (fun b : MAnswer => ret ((MAnswer.r b) : RAnswer)) (fun c1 => ?_) (fun c1 => ?_)
  · all_goals first | rfl | (simp only [S0, MKeys.rs, MStored.rs, MCache.rs]; done) | (simp only [MP]; rfl) | (simp only [S0, MKeys.rs, MStored.rs, MCache.rs, MP]; first | done | rfl)
  · have dc1 := c1
    try simp only [DC] at dc1
    refine yes_ret (by
        refine decide_eq_true ?_
        try simp (disch := omega) only [LN, wi]
        first | omega | (simp; done) | (simp; omega)) ?_
    refine yes_ret (by
        have := (H0).1
        refine decide_eq_true ?_
        try simp (disch := omega) only [LN, wi]
        first | omega | (simp; done) | (simp; omega)) ?_
    refine call_to (MAnswer.r ((a0.fList.getD (Int.toNat (impl_Cache_find.md a0 a1 a2)) MStored.zero).fAnswer)) ?_ ?_
    · have R_ := impl_copyAnswer.R_eq (a0 := (a0.fList.getD (Int.toNat (impl_Cache_find.md a0 a1 a2)) MStored.zero).fAnswer) (SmL.getD (z := MStored.zero) H0 (by first | assumption | omega | (simp (disch := omega) only [wi]; omega) | (simp; omega))).2
      simp only [impl_copyAnswer.md] at R_
      first | exact R_ | (simp only [MP, S0, MKeys.rs, MStored.rs, MCache.rs] at R_ ⊢; first | exact R_ | (rw [← R_]; rfl))
    try simp only [S0, MKeys.rs, MStored.rs, MCache.rs]
    all_goals first | rfl | (simp only [S0, MKeys.rs, MStored.rs, MCache.rs]; done) | (simp only [MP]; rfl) | (simp only [S0, MKeys.rs, MStored.rs, MCache.rs, MP]; first | done | rfl)
theorem valid_ : Valid Try.prog Ev 89 con := VV (run := fun _ x => F x.1 x.2.1 x.2.2) mix tab_ok (.cons impl_Cache_find.valid_ (.cons impl_copyAnswer.valid_ .nil)) Try.func89 (by kernel_rfl) run_eq (fun _ a _ _ hg => ⟨0, okF a.1 a.2.1 a.2.2 hg⟩)
theorem sm0 {a0 : MCache} {a1 : Int} {a2 : ByteArray} (hg : gd a0 a1 a2) : MAnswer.Sm (2 ^ 21) (md a0 a1 a2) := by
  unfold gd at hg; unfold md
  have hf := impl_Cache_find.fa a0 a1 a2
  cases h : decide (impl_Cache_find.md a0 a1 a2 < 0)
  · simp only [decide_eq_false_iff_not] at h
    exact (SmL.getD hg (by omega)).2
  · exact ⟨SmL.nil, ⟨(Nat.zero_le _), SmL.nil⟩, SmL.nil, ⟨⟨(Nat.zero_le _), SmL.nil⟩, ⟨(Nat.zero_le _), SmL.nil⟩, SmL.nil, SmL.nil⟩⟩
theorem br (a0 : MCache) (a1 : Int) (a2 : ByteArray) : md a0 a1 a2 = spec_FromCache.md a0 a1 a2 := by
  unfold md spec_FromCache.md
  first
  | (simp only [impl_Cache_find.br]; done)
  | (simp only [impl_Cache_find.br]; rfl)
  | rfl
end impl_FromCache
/-! laws.eqIntS -/
namespace laws_eqIntS
inductive Pt where
  | p0 (a : List (List L)) (b : List (List L)) (c : Int)
def pid : Pt → Nat
  | .p0 .. => 4
def pvs : Pt → List V
  | .p0 a b c => [.sl none 3 a, .sl none 3 b, .int .i64 c]
def phs : Pt → List Root
  | .p0 a b c => []
noncomputable def step (J : Pt → Ans) : Pt → Ans
  | .p0 a b c => (bif (decide (c < (a.length : Int))) then (bif (decide ((0 : Int) ≤ c)) then (bif (decide (c < (a.length : Int))) then (bif (decide ((0 : Int) ≤ c)) then (bif (decide (c < (b.length : Int))) then (bif ((iAt a (Int.toNat c)) != (iAt b (Int.toNat c))) then ret (false : Bool) else J (.p0 a b (IntKind.i64.wrap (c + 1)))) else none) else none) else none) else none) else ret (true : Bool))
noncomputable def start (J : Pt → Ans) (x0 : List (List L)) (x1 : List (List L)) : Ans := (bif ((x0.length : Int) != (x1.length : Int)) then ret (false : Bool) else J (.p0 x0 x1 0))
def live : Nat → Live := fun i => match i with | 4 => [(0, none), (1, none), (5, none)] | _ => []
def pats : List Pat := [.rd (.sl 3), .rd (.sl 3)]
def res : RP := .one (.rd (.bool))
noncomputable abbrev E : Env := { T := assoc Tab, G := conG [], nt := 26 }
set_option maxRecDepth 100000
theorem step_eq (I : Heads) (p : Pt) : enterC E live I (pid p) (bodyOf Try.f161) (stOf (live (pid p)) (pvs p) (phs p)) (doneK E Try.f161 res) = step (fun q => I (pid q) (pvs q) (phs q)) p := by
  cases p <;> kernel_rfl
theorem start_eq (I : Heads) (ls : List L) : runC E live I (bodyOf Try.f161) (initS pats ls) (doneK E Try.f161 res) = start (fun q => I (pid q) (pvs q) (phs q)) (ls.headD .hole).toSl ((dropT 1 ls).headD .hole).toSl := by kernel_rfl
theorem run_eq (n : Nat) (ls : List L) : runF E live Try.f161 res n (initS pats ls) = start (iter step n) (ls.headD .hole).toSl ((dropT 1 ls).headD .hole).toSl := runF_iter (id := pid) (vs := pvs) (hs := phs) (step := step) (start := fun J => start J (ls.headD .hole).toSl ((dropT 1 ls).headD .hole).toSl) step_eq (fun I => start_eq I ls) n
noncomputable def md (a0 : List Int) (a1 : List Int) : Bool := eqB a0 a1
def gd (a0 : List Int) (a1 : List Int) : Prop := True
def acc (ls : List L) : List (List L) × List (List L) := ((ls.headD .hole).toSl, ((dropT 1 ls).headD .hole).toSl)
noncomputable def R : (List (List L) × List (List L)) → Option Bool := RR (p2 gd) (u2 md)
theorem R_eq {a0} {a1} (h : gd a0 a1) : R ((a0.map iRow), (a1.map iRow)) = some (md a0 a1) := RR_eq (a := (a0, a1)) h
noncomputable def con : Con := CN pats res acc R
theorem okF (a0 : List Int) (a1 : List Int) (hg : gd a0 a1) (h0 : a0.length ≤ maxLen) (h1 : a1.length ≤ maxLen) : ∃ n, start (iter step n) (a0.map iRow) (a1.map iRow) = ret ((md a0 a1) : Bool) := by
  unfold start md
  simp only [List.length_map]
  refine eq_list (pt := fun i => Pt.p0 (a0.map iRow) (a1.map iRow) (i : Int)) (fun hl J i h h2 => ?_) (fun J => ?_)
  · simp only [step, List.length_map, lt_dec h, lt_dec h2, zle_dec, cond_true, toNat_nat, iAt_row h, iAt_row h2]
    rw [wrap_succ h h0]
    simp only [bne, int_beq, bool_beq, ba_beq]
    cases eqB a0[i] a1[i] <;> rfl
  · simp only [step, List.length_map, nlt_dec, cond_false]
theorem valid_ : Valid Try.prog Ev 161 con := VV (run := fun n x => start (iter step n) x.1 x.2) mix tab_ok .nil Try.func161 (by kernel_rfl) run_eq (fun ls a hl e hg => okF a.1 a.2 hg (by have h : (ls.headD .hole).toSl.length ≤ maxLen := hl.1.len; have e : a.1.map iRow = (ls.headD .hole).toSl := (congrArg (fun x => x.1) e.symm); rw [← e] at h; simpa using h) (by have h : ((dropT 1 ls).headD .hole).toSl.length ≤ maxLen := hl.2.1.len; have e : a.2.map iRow = ((dropT 1 ls).headD .hole).toSl := (congrArg (fun x => x.2) e.symm); rw [← e] at h; simpa using h))
end laws_eqIntS
/-! laws.eqKeys -/
namespace laws_eqKeys
noncomputable def F (x0 : RKeys) (x1 : RKeys) : Ans := (call (laws_eqIntS.R (x0.fList, x1.fList)) fun v1 => (bif (!v1) then ret (false : Bool) else (bif (x0.fNeed != x1.fNeed) then ret (false : Bool) else ret (true : Bool))))
def pats : List Pat := [.agg [.sl 3, .int .i64], .agg [.sl 3, .int .i64]]
def res : RP := .one (.rd (.bool))
noncomputable abbrev E : Env := { T := assoc Tab, G := conG [(161, laws_eqIntS.con)], nt := 16 }
set_option maxRecDepth 100000
theorem run_eq (n : Nat) (ls : List L) : runF E (fun _ => []) Try.f211 res n (initS pats ls) = F (RKeys.dec ls) (RKeys.dec (dropT 2 ls)) := by kernel_rfl
noncomputable def md (a0 : MKeys) (a1 : MKeys) : Bool := eqB a0 a1
def gd (a0 : MKeys) (a1 : MKeys) : Prop := True
def acc (ls : List L) : RKeys × RKeys := ((RKeys.dec ls), (RKeys.dec (dropT 2 ls)))
noncomputable def R : (RKeys × RKeys) → Option Bool := RR (p2 gd) (u2 md)
theorem R_eq {a0} {a1} (h : gd a0 a1) : R ((MKeys.r a0), (MKeys.r a1)) = some (md a0 a1) := RR_eq (a := (a0, a1)) h
noncomputable def con : Con := CN pats res acc R
theorem okF (a0 : MKeys) (a1 : MKeys) (hg : gd a0 a1) : F (MKeys.r a0) (MKeys.r a1) = ret ((md a0 a1) : Bool) := by
  unfold md
  show (call (laws_eqIntS.R ((a0.fList.map iRow), (a1.fList.map iRow))) fun v1 => (bif (!v1) then ret (false : Bool) else (bif (a0.fNeed != a1.fNeed) then ret (false : Bool) else ret (true : Bool)))) = _
  simp only [call_eq (laws_eqIntS.R_eq (a0 := a0.fList) (a1 := a1.fList) trivial), laws_eqIntS.md]
  try simp only [bne, int_beq, bool_beq, ba_beq]
  have e : eqB a0 a1 = (eqB a0.fList a1.fList && (eqB a0.fNeed a1.fNeed && true)) := by
    cases a0; cases a1
    rw [Bool.eq_iff_iff]
    simp only [eqB_iff, Bool.and_eq_true, MKeys.mk.injEq, and_true]
  rw [e]
  refine and_step fun _ => ?_
  refine and_step fun _ => ?_
  rfl
theorem valid_ : Valid Try.prog Ev 211 con := VV (run := fun _ x => F x.1 x.2) mix tab_ok (.cons laws_eqIntS.valid_ .nil) Try.func211 (by kernel_rfl) run_eq (fun _ a _ _ hg => ⟨0, okF a.1 a.2 hg⟩)
end laws_eqKeys
/-! laws.eqHead -/
namespace laws_eqHead
noncomputable def F (x0 : RHead) (x1 : RHead) : Ans := (bif (x0.fZone != x1.fZone) then ret (false : Bool) else (bif (x0.fEpoch != x1.fEpoch) then ret (false : Bool) else (bif (x0.fKind != x1.fKind) then ret (false : Bool) else (bif (x0.fTime != x1.fTime) then ret (false : Bool) else (bif (x0.fUntil != x1.fUntil) then ret (false : Bool) else (bif (x0.fCount != x1.fCount) then ret (false : Bool) else (bif (x0.fRoot != x1.fRoot) then ret (false : Bool) else (bif (x0.fPrev != x1.fPrev) then ret (false : Bool) else (call (laws_eqKeys.R (x0.fKeys, x1.fKeys)) fun v1 => (bif (!v1) then ret (false : Bool) else (call (laws_eqKeys.R (x0.fHeirs, x1.fHeirs)) fun v2 => (bif (!v2) then ret (false : Bool) else (bif (x0.fWait != x1.fWait) then ret (false : Bool) else (call (laws_eqKeys.R (x0.fJudge, x1.fJudge)) fun v3 => (bif (!v3) then ret (false : Bool) else (bif (!(x0.fFrozen == x1.fFrozen)) then ret (false : Bool) else ret (true : Bool)))))))))))))))))
def pats : List Pat := [.agg [.int .i64, .int .i64, .int .i64, .int .i64, .int .i64, .int .i64, .int .i64, .int .i64, .sl 3, .int .i64, .sl 3, .int .i64, .int .i64, .sl 3, .int .i64, .bool], .agg [.int .i64, .int .i64, .int .i64, .int .i64, .int .i64, .int .i64, .int .i64, .int .i64, .sl 3, .int .i64, .sl 3, .int .i64, .int .i64, .sl 3, .int .i64, .bool]]
def res : RP := .one (.rd (.bool))
noncomputable abbrev E : Env := { T := assoc Tab, G := conG [(211, laws_eqKeys.con)], nt := 73 }
set_option maxRecDepth 100000
theorem run_eq (n : Nat) (ls : List L) : runF E (fun _ => []) Try.f199 res n (initS pats ls) = F (RHead.dec ls) (RHead.dec (dropT 16 ls)) := by kernel_rfl
noncomputable def md (a0 : MHead) (a1 : MHead) : Bool := eqB a0 a1
def gd (a0 : MHead) (a1 : MHead) : Prop := True
def acc (ls : List L) : RHead × RHead := ((RHead.dec ls), (RHead.dec (dropT 16 ls)))
noncomputable def R : (RHead × RHead) → Option Bool := RR (p2 gd) (u2 md)
theorem R_eq {a0} {a1} (h : gd a0 a1) : R ((MHead.r a0), (MHead.r a1)) = some (md a0 a1) := RR_eq (a := (a0, a1)) h
noncomputable def con : Con := CN pats res acc R
theorem okF (a0 : MHead) (a1 : MHead) (hg : gd a0 a1) : F (MHead.r a0) (MHead.r a1) = ret ((md a0 a1) : Bool) := by
  unfold md
  show (bif (a0.fZone != a1.fZone) then ret (false : Bool) else (bif (a0.fEpoch != a1.fEpoch) then ret (false : Bool) else (bif (a0.fKind != a1.fKind) then ret (false : Bool) else (bif (a0.fTime != a1.fTime) then ret (false : Bool) else (bif (a0.fUntil != a1.fUntil) then ret (false : Bool) else (bif (a0.fCount != a1.fCount) then ret (false : Bool) else (bif (a0.fRoot != a1.fRoot) then ret (false : Bool) else (bif (a0.fPrev != a1.fPrev) then ret (false : Bool) else (call (laws_eqKeys.R ((MKeys.r a0.fKeys), (MKeys.r a1.fKeys))) fun v1 => (bif (!v1) then ret (false : Bool) else (call (laws_eqKeys.R ((MKeys.r a0.fHeirs), (MKeys.r a1.fHeirs))) fun v2 => (bif (!v2) then ret (false : Bool) else (bif (a0.fWait != a1.fWait) then ret (false : Bool) else (call (laws_eqKeys.R ((MKeys.r a0.fJudge), (MKeys.r a1.fJudge))) fun v3 => (bif (!v3) then ret (false : Bool) else (bif (!(a0.fFrozen == a1.fFrozen)) then ret (false : Bool) else ret (true : Bool))))))))))))))))) = _
  simp only [call_eq (laws_eqKeys.R_eq (a0 := a0.fKeys) (a1 := a1.fKeys) trivial), laws_eqKeys.md]
  simp only [call_eq (laws_eqKeys.R_eq (a0 := a0.fHeirs) (a1 := a1.fHeirs) trivial), laws_eqKeys.md]
  simp only [call_eq (laws_eqKeys.R_eq (a0 := a0.fJudge) (a1 := a1.fJudge) trivial), laws_eqKeys.md]
  try simp only [bne, int_beq, bool_beq, ba_beq]
  have e : eqB a0 a1 = (eqB a0.fZone a1.fZone && (eqB a0.fEpoch a1.fEpoch && (eqB a0.fKind a1.fKind && (eqB a0.fTime a1.fTime && (eqB a0.fUntil a1.fUntil && (eqB a0.fCount a1.fCount && (eqB a0.fRoot a1.fRoot && (eqB a0.fPrev a1.fPrev && (eqB a0.fKeys a1.fKeys && (eqB a0.fHeirs a1.fHeirs && (eqB a0.fWait a1.fWait && (eqB a0.fJudge a1.fJudge && (eqB a0.fFrozen a1.fFrozen && true))))))))))))) := by
    cases a0; cases a1
    rw [Bool.eq_iff_iff]
    simp only [eqB_iff, Bool.and_eq_true, MHead.mk.injEq, and_true]
  rw [e]
  refine and_step fun _ => ?_
  refine and_step fun _ => ?_
  refine and_step fun _ => ?_
  refine and_step fun _ => ?_
  refine and_step fun _ => ?_
  refine and_step fun _ => ?_
  refine and_step fun _ => ?_
  refine and_step fun _ => ?_
  refine and_step fun _ => ?_
  refine and_step fun _ => ?_
  refine and_step fun _ => ?_
  refine and_step fun _ => ?_
  refine and_step fun _ => ?_
  rfl
theorem valid_ : Valid Try.prog Ev 199 con := VV (run := fun _ x => F x.1 x.2) mix tab_ok (.cons laws_eqKeys.valid_ .nil) Try.func199 (by kernel_rfl) run_eq (fun _ a _ _ hg => ⟨0, okF a.1 a.2 hg⟩)
end laws_eqHead
/-! laws.eqSig -/
namespace laws_eqSig
noncomputable def F (x0 : MSig) (x1 : MSig) : Ans := (bif (x0.fKey != x1.fKey) then ret (false : Bool) else (bif (x0.fTag != x1.fTag) then ret (false : Bool) else ret (true : Bool)))
def pats : List Pat := [.agg [.int .i64, .int .i64], .agg [.int .i64, .int .i64]]
def res : RP := .one (.rd (.bool))
noncomputable abbrev E : Env := { T := assoc Tab, G := conG [], nt := 15 }
set_option maxRecDepth 100000
theorem run_eq (n : Nat) (ls : List L) : runF E (fun _ => []) Try.f232 res n (initS pats ls) = F (MSig.dec ls) (MSig.dec (dropT 2 ls)) := by kernel_rfl
noncomputable def md (a0 : MSig) (a1 : MSig) : Bool := eqB a0 a1
def gd (a0 : MSig) (a1 : MSig) : Prop := True
def acc (ls : List L) : MSig × MSig := ((MSig.dec ls), (MSig.dec (dropT 2 ls)))
noncomputable def R : (MSig × MSig) → Option Bool := RR (p2 gd) (u2 md)
theorem R_eq {a0} {a1} (h : gd a0 a1) : R (a0, a1) = some (md a0 a1) := RR_eq (a := (a0, a1)) h
noncomputable def con : Con := CN pats res acc R
theorem okF (a0 : MSig) (a1 : MSig) (hg : gd a0 a1) : F a0 a1 = ret ((md a0 a1) : Bool) := by
  unfold md
  show (bif (a0.fKey != a1.fKey) then ret (false : Bool) else (bif (a0.fTag != a1.fTag) then ret (false : Bool) else ret (true : Bool))) = _
  try simp only [bne, int_beq, bool_beq, ba_beq]
  have e : eqB a0 a1 = (eqB a0.fKey a1.fKey && (eqB a0.fTag a1.fTag && true)) := by
    cases a0; cases a1
    rw [Bool.eq_iff_iff]
    simp only [eqB_iff, Bool.and_eq_true, MSig.mk.injEq, and_true]
  rw [e]
  refine and_step fun _ => ?_
  refine and_step fun _ => ?_
  rfl
theorem valid_ : Valid Try.prog Ev 232 con := VV (run := fun _ x => F x.1 x.2) mix tab_ok .nil Try.func232 (by kernel_rfl) run_eq (fun _ a _ _ hg => ⟨0, okF a.1 a.2 hg⟩)
end laws_eqSig
/-! laws.eqSigS -/
namespace laws_eqSigS
inductive Pt where
  | p0 (a : List (List L)) (b : List (List L)) (c : Int)
def pid : Pt → Nat
  | .p0 .. => 4
def pvs : Pt → List V
  | .p0 a b c => [.sl none 248 a, .sl none 248 b, .int .i64 c]
def phs : Pt → List Root
  | .p0 a b c => []
noncomputable def step (J : Pt → Ans) : Pt → Ans
  | .p0 a b c => (bif (decide (c < (a.length : Int))) then (bif (decide ((0 : Int) ≤ c)) then (bif (decide (c < (a.length : Int))) then (bif (decide ((0 : Int) ≤ c)) then (bif (decide (c < (b.length : Int))) then (call (laws_eqSig.R ((MSig.at a (Int.toNat c)), (MSig.at b (Int.toNat c)))) fun v1 => (bif (!v1) then ret (false : Bool) else J (.p0 a b (IntKind.i64.wrap (c + 1))))) else none) else none) else none) else none) else ret (true : Bool))
noncomputable def start (J : Pt → Ans) (x0 : List (List L)) (x1 : List (List L)) : Ans := (bif ((x0.length : Int) != (x1.length : Int)) then ret (false : Bool) else J (.p0 x0 x1 0))
def live : Nat → Live := fun i => match i with | 4 => [(0, none), (1, none), (5, none)] | _ => []
def pats : List Pat := [.rd (.sl 248), .rd (.sl 248)]
def res : RP := .one (.rd (.bool))
noncomputable abbrev E : Env := { T := assoc Tab, G := conG [(232, laws_eqSig.con)], nt := 27 }
set_option maxRecDepth 100000
theorem step_eq (I : Heads) (p : Pt) : enterC E live I (pid p) (bodyOf Try.f200) (stOf (live (pid p)) (pvs p) (phs p)) (doneK E Try.f200 res) = step (fun q => I (pid q) (pvs q) (phs q)) p := by
  cases p <;> kernel_rfl
theorem start_eq (I : Heads) (ls : List L) : runC E live I (bodyOf Try.f200) (initS pats ls) (doneK E Try.f200 res) = start (fun q => I (pid q) (pvs q) (phs q)) (ls.headD .hole).toSl ((dropT 1 ls).headD .hole).toSl := by kernel_rfl
theorem run_eq (n : Nat) (ls : List L) : runF E live Try.f200 res n (initS pats ls) = start (iter step n) (ls.headD .hole).toSl ((dropT 1 ls).headD .hole).toSl := runF_iter (id := pid) (vs := pvs) (hs := phs) (step := step) (start := fun J => start J (ls.headD .hole).toSl ((dropT 1 ls).headD .hole).toSl) step_eq (fun I => start_eq I ls) n
noncomputable def md (a0 : List MSig) (a1 : List MSig) : Bool := eqB a0 a1
def gd (a0 : List MSig) (a1 : List MSig) : Prop := True
def acc (ls : List L) : List (List L) × List (List L) := ((ls.headD .hole).toSl, ((dropT 1 ls).headD .hole).toSl)
noncomputable def R : (List (List L) × List (List L)) → Option Bool := RR (p2 gd) (u2 md)
theorem R_eq {a0} {a1} (h : gd a0 a1) : R ((a0.map MSig.row), (a1.map MSig.row)) = some (md a0 a1) := RR_eq (a := (a0, a1)) h
noncomputable def con : Con := CN pats res acc R
theorem okF (a0 : List MSig) (a1 : List MSig) (hg : gd a0 a1) (h0 : a0.length ≤ maxLen) (h1 : a1.length ≤ maxLen) : ∃ n, start (iter step n) (a0.map MSig.row) (a1.map MSig.row) = ret ((md a0 a1) : Bool) := by
  unfold start md
  simp only [List.length_map]
  refine eq_list (pt := fun i => Pt.p0 (a0.map MSig.row) (a1.map MSig.row) (i : Int)) (fun hl J i h h2 => ?_) (fun J => ?_)
  · simp only [step, List.length_map, lt_dec h, lt_dec h2, zle_dec, cond_true, toNat_nat, MSig.at_row h, MSig.at_row h2]
    rw [wrap_succ h h0]
    rw [call_eq (laws_eqSig.R_eq (a0 := a0[i]) (a1 := a1[i]) trivial), laws_eqSig.md]
    cases eqB a0[i] a1[i] <;> rfl
  · simp only [step, List.length_map, nlt_dec, cond_false]
theorem valid_ : Valid Try.prog Ev 200 con := VV (run := fun n x => start (iter step n) x.1 x.2) mix tab_ok (.cons laws_eqSig.valid_ .nil) Try.func200 (by kernel_rfl) run_eq (fun ls a hl e hg => okF a.1 a.2 hg (by have h : (ls.headD .hole).toSl.length ≤ maxLen := hl.1.len; have e : a.1.map MSig.row = (ls.headD .hole).toSl := (congrArg (fun x => x.1) e.symm); rw [← e] at h; simpa using h) (by have h : ((dropT 1 ls).headD .hole).toSl.length ≤ maxLen := hl.2.1.len; have e : a.2.map MSig.row = ((dropT 1 ls).headD .hole).toSl := (congrArg (fun x => x.2) e.symm); rw [← e] at h; simpa using h))
end laws_eqSigS
/-! laws.eqSigned -/
namespace laws_eqSigned
noncomputable def F (x0 : RSigned) (x1 : RSigned) : Ans := (call (laws_eqHead.R (x0.fHead, x1.fHead)) fun v1 => (bif (!v1) then ret (false : Bool) else (call (laws_eqSigS.R (x0.fSigs, x1.fSigs)) fun v2 => (bif (!v2) then ret (false : Bool) else ret (true : Bool)))))
def pats : List Pat := [.agg [.int .i64, .int .i64, .int .i64, .int .i64, .int .i64, .int .i64, .int .i64, .int .i64, .sl 3, .int .i64, .sl 3, .int .i64, .int .i64, .sl 3, .int .i64, .bool, .sl 248], .agg [.int .i64, .int .i64, .int .i64, .int .i64, .int .i64, .int .i64, .int .i64, .int .i64, .sl 3, .int .i64, .sl 3, .int .i64, .int .i64, .sl 3, .int .i64, .bool, .sl 248]]
def res : RP := .one (.rd (.bool))
noncomputable abbrev E : Env := { T := assoc Tab, G := conG [(199, laws_eqHead.con), (200, laws_eqSigS.con)], nt := 17 }
set_option maxRecDepth 100000
theorem run_eq (n : Nat) (ls : List L) : runF E (fun _ => []) Try.f137 res n (initS pats ls) = F (RSigned.dec ls) (RSigned.dec (dropT 17 ls)) := by kernel_rfl
noncomputable def md (a0 : MSigned) (a1 : MSigned) : Bool := eqB a0 a1
def gd (a0 : MSigned) (a1 : MSigned) : Prop := True
def acc (ls : List L) : RSigned × RSigned := ((RSigned.dec ls), (RSigned.dec (dropT 17 ls)))
noncomputable def R : (RSigned × RSigned) → Option Bool := RR (p2 gd) (u2 md)
theorem R_eq {a0} {a1} (h : gd a0 a1) : R ((MSigned.r a0), (MSigned.r a1)) = some (md a0 a1) := RR_eq (a := (a0, a1)) h
noncomputable def con : Con := CN pats res acc R
theorem okF (a0 : MSigned) (a1 : MSigned) (hg : gd a0 a1) : F (MSigned.r a0) (MSigned.r a1) = ret ((md a0 a1) : Bool) := by
  unfold md
  show (call (laws_eqHead.R ((MHead.r a0.fHead), (MHead.r a1.fHead))) fun v1 => (bif (!v1) then ret (false : Bool) else (call (laws_eqSigS.R ((a0.fSigs.map MSig.row), (a1.fSigs.map MSig.row))) fun v2 => (bif (!v2) then ret (false : Bool) else ret (true : Bool))))) = _
  simp only [call_eq (laws_eqHead.R_eq (a0 := a0.fHead) (a1 := a1.fHead) trivial), laws_eqHead.md]
  simp only [call_eq (laws_eqSigS.R_eq (a0 := a0.fSigs) (a1 := a1.fSigs) trivial), laws_eqSigS.md]
  try simp only [bne, int_beq, bool_beq, ba_beq]
  have e : eqB a0 a1 = (eqB a0.fHead a1.fHead && (eqB a0.fSigs a1.fSigs && true)) := by
    cases a0; cases a1
    rw [Bool.eq_iff_iff]
    simp only [eqB_iff, Bool.and_eq_true, MSigned.mk.injEq, and_true]
  rw [e]
  refine and_step fun _ => ?_
  refine and_step fun _ => ?_
  rfl
theorem valid_ : Valid Try.prog Ev 137 con := VV (run := fun _ x => F x.1 x.2) mix tab_ok (.cons laws_eqHead.valid_ (.cons laws_eqSigS.valid_ .nil)) Try.func137 (by kernel_rfl) run_eq (fun _ a _ _ hg => ⟨0, okF a.1 a.2 hg⟩)
end laws_eqSigned
/-! laws.eqSignedS -/
namespace laws_eqSignedS
inductive Pt where
  | p0 (a : List (List L)) (b : List (List L)) (c : Int)
def pid : Pt → Nat
  | .p0 .. => 4
def pvs : Pt → List V
  | .p0 a b c => [.sl none 184 a, .sl none 184 b, .int .i64 c]
def phs : Pt → List Root
  | .p0 a b c => []
noncomputable def step (J : Pt → Ans) : Pt → Ans
  | .p0 a b c => (bif (decide (c < (a.length : Int))) then (bif (decide ((0 : Int) ≤ c)) then (bif (decide (c < (a.length : Int))) then (bif (decide ((0 : Int) ≤ c)) then (bif (decide (c < (b.length : Int))) then (call (laws_eqSigned.R ((RSigned.at a (Int.toNat c)), (RSigned.at b (Int.toNat c)))) fun v1 => (bif (!v1) then ret (false : Bool) else J (.p0 a b (IntKind.i64.wrap (c + 1))))) else none) else none) else none) else none) else ret (true : Bool))
noncomputable def start (J : Pt → Ans) (x0 : List (List L)) (x1 : List (List L)) : Ans := (bif ((x0.length : Int) != (x1.length : Int)) then ret (false : Bool) else J (.p0 x0 x1 0))
def live : Nat → Live := fun i => match i with | 4 => [(0, none), (1, none), (5, none)] | _ => []
def pats : List Pat := [.rd (.sl 184), .rd (.sl 184)]
def res : RP := .one (.rd (.bool))
noncomputable abbrev E : Env := { T := assoc Tab, G := conG [(137, laws_eqSigned.con)], nt := 27 }
set_option maxRecDepth 100000
theorem step_eq (I : Heads) (p : Pt) : enterC E live I (pid p) (bodyOf Try.f56) (stOf (live (pid p)) (pvs p) (phs p)) (doneK E Try.f56 res) = step (fun q => I (pid q) (pvs q) (phs q)) p := by
  cases p <;> kernel_rfl
theorem start_eq (I : Heads) (ls : List L) : runC E live I (bodyOf Try.f56) (initS pats ls) (doneK E Try.f56 res) = start (fun q => I (pid q) (pvs q) (phs q)) (ls.headD .hole).toSl ((dropT 1 ls).headD .hole).toSl := by kernel_rfl
theorem run_eq (n : Nat) (ls : List L) : runF E live Try.f56 res n (initS pats ls) = start (iter step n) (ls.headD .hole).toSl ((dropT 1 ls).headD .hole).toSl := runF_iter (id := pid) (vs := pvs) (hs := phs) (step := step) (start := fun J => start J (ls.headD .hole).toSl ((dropT 1 ls).headD .hole).toSl) step_eq (fun I => start_eq I ls) n
noncomputable def md (a0 : List MSigned) (a1 : List MSigned) : Bool := eqB a0 a1
def gd (a0 : List MSigned) (a1 : List MSigned) : Prop := True
def acc (ls : List L) : List (List L) × List (List L) := ((ls.headD .hole).toSl, ((dropT 1 ls).headD .hole).toSl)
noncomputable def R : (List (List L) × List (List L)) → Option Bool := RR (p2 gd) (u2 md)
theorem R_eq {a0} {a1} (h : gd a0 a1) : R ((a0.map MSigned.row), (a1.map MSigned.row)) = some (md a0 a1) := RR_eq (a := (a0, a1)) h
noncomputable def con : Con := CN pats res acc R
theorem okF (a0 : List MSigned) (a1 : List MSigned) (hg : gd a0 a1) (h0 : a0.length ≤ maxLen) (h1 : a1.length ≤ maxLen) : ∃ n, start (iter step n) (a0.map MSigned.row) (a1.map MSigned.row) = ret ((md a0 a1) : Bool) := by
  unfold start md
  simp only [List.length_map]
  refine eq_list (pt := fun i => Pt.p0 (a0.map MSigned.row) (a1.map MSigned.row) (i : Int)) (fun hl J i h h2 => ?_) (fun J => ?_)
  · simp only [step, List.length_map, lt_dec h, lt_dec h2, zle_dec, cond_true, toNat_nat, MSigned.at_row h, MSigned.at_row h2]
    rw [wrap_succ h h0]
    rw [call_eq (laws_eqSigned.R_eq (a0 := a0[i]) (a1 := a1[i]) trivial), laws_eqSigned.md]
    cases eqB a0[i] a1[i] <;> rfl
  · simp only [step, List.length_map, nlt_dec, cond_false]
theorem valid_ : Valid Try.prog Ev 56 con := VV (run := fun n x => start (iter step n) x.1 x.2) mix tab_ok (.cons laws_eqSigned.valid_ .nil) Try.func56 (by kernel_rfl) run_eq (fun ls a hl e hg => okF a.1 a.2 hg (by have h : (ls.headD .hole).toSl.length ≤ maxLen := hl.1.len; have e : a.1.map MSigned.row = (ls.headD .hole).toSl := (congrArg (fun x => x.1) e.symm); rw [← e] at h; simpa using h) (by have h : ((dropT 1 ls).headD .hole).toSl.length ≤ maxLen := hl.2.1.len; have e : a.2.map MSigned.row = ((dropT 1 ls).headD .hole).toSl := (congrArg (fun x => x.2) e.symm); rw [← e] at h; simpa using h))
end laws_eqSignedS
/-! laws.eqStringS -/
namespace laws_eqStringS
inductive Pt where
  | p0 (a : List (List L)) (b : List (List L)) (c : Int)
def pid : Pt → Nat
  | .p0 .. => 4
def pvs : Pt → List V
  | .p0 a b c => [.sl none 9 a, .sl none 9 b, .int .i64 c]
def phs : Pt → List Root
  | .p0 a b c => []
noncomputable def step (J : Pt → Ans) : Pt → Ans
  | .p0 a b c => (bif (decide (c < (a.length : Int))) then (bif (decide ((0 : Int) ≤ c)) then (bif (decide (c < (a.length : Int))) then (bif (decide ((0 : Int) ≤ c)) then (bif (decide (c < (b.length : Int))) then (bif (!((sAt a (Int.toNat c)) == (sAt b (Int.toNat c)))) then ret (false : Bool) else J (.p0 a b (IntKind.i64.wrap (c + 1)))) else none) else none) else none) else none) else ret (true : Bool))
noncomputable def start (J : Pt → Ans) (x0 : List (List L)) (x1 : List (List L)) : Ans := (bif ((x0.length : Int) != (x1.length : Int)) then ret (false : Bool) else J (.p0 x0 x1 0))
def live : Nat → Live := fun i => match i with | 4 => [(0, none), (1, none), (5, none)] | _ => []
def pats : List Pat := [.rd (.sl 9), .rd (.sl 9)]
def res : RP := .one (.rd (.bool))
noncomputable abbrev E : Env := { T := assoc Tab, G := conG [], nt := 26 }
set_option maxRecDepth 100000
theorem step_eq (I : Heads) (p : Pt) : enterC E live I (pid p) (bodyOf Try.f42) (stOf (live (pid p)) (pvs p) (phs p)) (doneK E Try.f42 res) = step (fun q => I (pid q) (pvs q) (phs q)) p := by
  cases p <;> kernel_rfl
theorem start_eq (I : Heads) (ls : List L) : runC E live I (bodyOf Try.f42) (initS pats ls) (doneK E Try.f42 res) = start (fun q => I (pid q) (pvs q) (phs q)) (ls.headD .hole).toSl ((dropT 1 ls).headD .hole).toSl := by kernel_rfl
theorem run_eq (n : Nat) (ls : List L) : runF E live Try.f42 res n (initS pats ls) = start (iter step n) (ls.headD .hole).toSl ((dropT 1 ls).headD .hole).toSl := runF_iter (id := pid) (vs := pvs) (hs := phs) (step := step) (start := fun J => start J (ls.headD .hole).toSl ((dropT 1 ls).headD .hole).toSl) step_eq (fun I => start_eq I ls) n
noncomputable def md (a0 : List ByteArray) (a1 : List ByteArray) : Bool := eqB a0 a1
def gd (a0 : List ByteArray) (a1 : List ByteArray) : Prop := True
def acc (ls : List L) : List (List L) × List (List L) := ((ls.headD .hole).toSl, ((dropT 1 ls).headD .hole).toSl)
noncomputable def R : (List (List L) × List (List L)) → Option Bool := RR (p2 gd) (u2 md)
theorem R_eq {a0} {a1} (h : gd a0 a1) : R ((a0.map sRow), (a1.map sRow)) = some (md a0 a1) := RR_eq (a := (a0, a1)) h
noncomputable def con : Con := CN pats res acc R
theorem okF (a0 : List ByteArray) (a1 : List ByteArray) (hg : gd a0 a1) (h0 : a0.length ≤ maxLen) (h1 : a1.length ≤ maxLen) : ∃ n, start (iter step n) (a0.map sRow) (a1.map sRow) = ret ((md a0 a1) : Bool) := by
  unfold start md
  simp only [List.length_map]
  refine eq_list (pt := fun i => Pt.p0 (a0.map sRow) (a1.map sRow) (i : Int)) (fun hl J i h h2 => ?_) (fun J => ?_)
  · simp only [step, List.length_map, lt_dec h, lt_dec h2, zle_dec, cond_true, toNat_nat, sAt_row h, sAt_row h2]
    rw [wrap_succ h h0]
    simp only [bne, int_beq, bool_beq, ba_beq]
    cases eqB a0[i] a1[i] <;> rfl
  · simp only [step, List.length_map, nlt_dec, cond_false]
theorem valid_ : Valid Try.prog Ev 42 con := VV (run := fun n x => start (iter step n) x.1 x.2) mix tab_ok .nil Try.func42 (by kernel_rfl) run_eq (fun ls a hl e hg => okF a.1 a.2 hg (by have h : (ls.headD .hole).toSl.length ≤ maxLen := hl.1.len; have e : a.1.map sRow = (ls.headD .hole).toSl := (congrArg (fun x => x.1) e.symm); rw [← e] at h; simpa using h) (by have h : ((dropT 1 ls).headD .hole).toSl.length ≤ maxLen := hl.2.1.len; have e : a.2.map sRow = ((dropT 1 ls).headD .hole).toSl := (congrArg (fun x => x.2) e.symm); rw [← e] at h; simpa using h))
end laws_eqStringS
/-! laws.eqEntry -/
namespace laws_eqEntry
noncomputable def F (x0 : REntry) (x1 : REntry) : Ans := (bif (!(x0.fLabel == x1.fLabel)) then ret (false : Bool) else (bif (x0.fKind != x1.fKind) then ret (false : Bool) else (bif (x0.fValue != x1.fValue) then ret (false : Bool) else (call (laws_eqStringS.R (x0.fPath, x1.fPath)) fun v1 => (bif (!v1) then ret (false : Bool) else ret (true : Bool))))))
def pats : List Pat := [.agg [.str, .int .i64, .int .i64, .sl 9], .agg [.str, .int .i64, .int .i64, .sl 9]]
def res : RP := .one (.rd (.bool))
noncomputable abbrev E : Env := { T := assoc Tab, G := conG [(42, laws_eqStringS.con)], nt := 26 }
set_option maxRecDepth 100000
theorem run_eq (n : Nat) (ls : List L) : runF E (fun _ => []) Try.f40 res n (initS pats ls) = F (REntry.dec ls) (REntry.dec (dropT 4 ls)) := by kernel_rfl
noncomputable def md (a0 : MEntry) (a1 : MEntry) : Bool := eqB a0 a1
def gd (a0 : MEntry) (a1 : MEntry) : Prop := True
def acc (ls : List L) : REntry × REntry := ((REntry.dec ls), (REntry.dec (dropT 4 ls)))
noncomputable def R : (REntry × REntry) → Option Bool := RR (p2 gd) (u2 md)
theorem R_eq {a0} {a1} (h : gd a0 a1) : R ((MEntry.r a0), (MEntry.r a1)) = some (md a0 a1) := RR_eq (a := (a0, a1)) h
noncomputable def con : Con := CN pats res acc R
theorem okF (a0 : MEntry) (a1 : MEntry) (hg : gd a0 a1) : F (MEntry.r a0) (MEntry.r a1) = ret ((md a0 a1) : Bool) := by
  unfold md
  show (bif (!(a0.fLabel == a1.fLabel)) then ret (false : Bool) else (bif (a0.fKind != a1.fKind) then ret (false : Bool) else (bif (a0.fValue != a1.fValue) then ret (false : Bool) else (call (laws_eqStringS.R ((a0.fPath.map sRow), (a1.fPath.map sRow))) fun v1 => (bif (!v1) then ret (false : Bool) else ret (true : Bool)))))) = _
  simp only [call_eq (laws_eqStringS.R_eq (a0 := a0.fPath) (a1 := a1.fPath) trivial), laws_eqStringS.md]
  try simp only [bne, int_beq, bool_beq, ba_beq]
  have e : eqB a0 a1 = (eqB a0.fLabel a1.fLabel && (eqB a0.fKind a1.fKind && (eqB a0.fValue a1.fValue && (eqB a0.fPath a1.fPath && true)))) := by
    cases a0; cases a1
    rw [Bool.eq_iff_iff]
    simp only [eqB_iff, Bool.and_eq_true, MEntry.mk.injEq, and_true]
  rw [e]
  refine and_step fun _ => ?_
  refine and_step fun _ => ?_
  refine and_step fun _ => ?_
  refine and_step fun _ => ?_
  rfl
theorem valid_ : Valid Try.prog Ev 40 con := VV (run := fun _ x => F x.1 x.2) mix tab_ok (.cons laws_eqStringS.valid_ .nil) Try.func40 (by kernel_rfl) run_eq (fun _ a _ _ hg => ⟨0, okF a.1 a.2 hg⟩)
end laws_eqEntry
/-! laws.eqProof -/
namespace laws_eqProof
noncomputable def F (x0 : RProof) (x1 : RProof) : Ans := (bif (x0.fAt != x1.fAt) then ret (false : Bool) else (call (laws_eqIntS.R (x0.fPath, x1.fPath)) fun v1 => (bif (!v1) then ret (false : Bool) else ret (true : Bool))))
def pats : List Pat := [.agg [.int .i64, .sl 3], .agg [.int .i64, .sl 3]]
def res : RP := .one (.rd (.bool))
noncomputable abbrev E : Env := { T := assoc Tab, G := conG [(161, laws_eqIntS.con)], nt := 16 }
set_option maxRecDepth 100000
theorem run_eq (n : Nat) (ls : List L) : runF E (fun _ => []) Try.f173 res n (initS pats ls) = F (RProof.dec ls) (RProof.dec (dropT 2 ls)) := by kernel_rfl
noncomputable def md (a0 : MProof) (a1 : MProof) : Bool := eqB a0 a1
def gd (a0 : MProof) (a1 : MProof) : Prop := True
def acc (ls : List L) : RProof × RProof := ((RProof.dec ls), (RProof.dec (dropT 2 ls)))
noncomputable def R : (RProof × RProof) → Option Bool := RR (p2 gd) (u2 md)
theorem R_eq {a0} {a1} (h : gd a0 a1) : R ((MProof.r a0), (MProof.r a1)) = some (md a0 a1) := RR_eq (a := (a0, a1)) h
noncomputable def con : Con := CN pats res acc R
theorem okF (a0 : MProof) (a1 : MProof) (hg : gd a0 a1) : F (MProof.r a0) (MProof.r a1) = ret ((md a0 a1) : Bool) := by
  unfold md
  show (bif (a0.fAt != a1.fAt) then ret (false : Bool) else (call (laws_eqIntS.R ((a0.fPath.map iRow), (a1.fPath.map iRow))) fun v1 => (bif (!v1) then ret (false : Bool) else ret (true : Bool)))) = _
  simp only [call_eq (laws_eqIntS.R_eq (a0 := a0.fPath) (a1 := a1.fPath) trivial), laws_eqIntS.md]
  try simp only [bne, int_beq, bool_beq, ba_beq]
  have e : eqB a0 a1 = (eqB a0.fAt a1.fAt && (eqB a0.fPath a1.fPath && true)) := by
    cases a0; cases a1
    rw [Bool.eq_iff_iff]
    simp only [eqB_iff, Bool.and_eq_true, MProof.mk.injEq, and_true]
  rw [e]
  refine and_step fun _ => ?_
  refine and_step fun _ => ?_
  rfl
theorem valid_ : Valid Try.prog Ev 173 con := VV (run := fun _ x => F x.1 x.2) mix tab_ok (.cons laws_eqIntS.valid_ .nil) Try.func173 (by kernel_rfl) run_eq (fun _ a _ _ hg => ⟨0, okF a.1 a.2 hg⟩)
end laws_eqProof
/-! laws.eqGap -/
namespace laws_eqGap
noncomputable def F (x0 : RGap) (x1 : RGap) : Ans := (bif (x0.fAt != x1.fAt) then ret (false : Bool) else (call (laws_eqEntry.R (x0.fBefore, x1.fBefore)) fun v1 => (bif (!v1) then ret (false : Bool) else (call (laws_eqEntry.R (x0.fAfter, x1.fAfter)) fun v2 => (bif (!v2) then ret (false : Bool) else (call (laws_eqProof.R (x0.fLeft, x1.fLeft)) fun v3 => (bif (!v3) then ret (false : Bool) else (call (laws_eqProof.R (x0.fRight, x1.fRight)) fun v4 => (bif (!v4) then ret (false : Bool) else ret (true : Bool))))))))))
def pats : List Pat := [.agg [.int .i64, .str, .int .i64, .int .i64, .sl 9, .str, .int .i64, .int .i64, .sl 9, .int .i64, .sl 3, .int .i64, .sl 3], .agg [.int .i64, .str, .int .i64, .int .i64, .sl 9, .str, .int .i64, .int .i64, .sl 9, .int .i64, .sl 3, .int .i64, .sl 3]]
def res : RP := .one (.rd (.bool))
noncomputable abbrev E : Env := { T := assoc Tab, G := conG [(40, laws_eqEntry.con), (173, laws_eqProof.con)], nt := 34 }
set_option maxRecDepth 100000
theorem run_eq (n : Nat) (ls : List L) : runF E (fun _ => []) Try.f174 res n (initS pats ls) = F (RGap.dec ls) (RGap.dec (dropT 13 ls)) := by kernel_rfl
noncomputable def md (a0 : MGap) (a1 : MGap) : Bool := eqB a0 a1
def gd (a0 : MGap) (a1 : MGap) : Prop := True
def acc (ls : List L) : RGap × RGap := ((RGap.dec ls), (RGap.dec (dropT 13 ls)))
noncomputable def R : (RGap × RGap) → Option Bool := RR (p2 gd) (u2 md)
theorem R_eq {a0} {a1} (h : gd a0 a1) : R ((MGap.r a0), (MGap.r a1)) = some (md a0 a1) := RR_eq (a := (a0, a1)) h
noncomputable def con : Con := CN pats res acc R
theorem okF (a0 : MGap) (a1 : MGap) (hg : gd a0 a1) : F (MGap.r a0) (MGap.r a1) = ret ((md a0 a1) : Bool) := by
  unfold md
  show (bif (a0.fAt != a1.fAt) then ret (false : Bool) else (call (laws_eqEntry.R ((MEntry.r a0.fBefore), (MEntry.r a1.fBefore))) fun v1 => (bif (!v1) then ret (false : Bool) else (call (laws_eqEntry.R ((MEntry.r a0.fAfter), (MEntry.r a1.fAfter))) fun v2 => (bif (!v2) then ret (false : Bool) else (call (laws_eqProof.R ((MProof.r a0.fLeft), (MProof.r a1.fLeft))) fun v3 => (bif (!v3) then ret (false : Bool) else (call (laws_eqProof.R ((MProof.r a0.fRight), (MProof.r a1.fRight))) fun v4 => (bif (!v4) then ret (false : Bool) else ret (true : Bool)))))))))) = _
  simp only [call_eq (laws_eqEntry.R_eq (a0 := a0.fBefore) (a1 := a1.fBefore) trivial), laws_eqEntry.md]
  simp only [call_eq (laws_eqEntry.R_eq (a0 := a0.fAfter) (a1 := a1.fAfter) trivial), laws_eqEntry.md]
  simp only [call_eq (laws_eqProof.R_eq (a0 := a0.fLeft) (a1 := a1.fLeft) trivial), laws_eqProof.md]
  simp only [call_eq (laws_eqProof.R_eq (a0 := a0.fRight) (a1 := a1.fRight) trivial), laws_eqProof.md]
  try simp only [bne, int_beq, bool_beq, ba_beq]
  have e : eqB a0 a1 = (eqB a0.fAt a1.fAt && (eqB a0.fBefore a1.fBefore && (eqB a0.fAfter a1.fAfter && (eqB a0.fLeft a1.fLeft && (eqB a0.fRight a1.fRight && true))))) := by
    cases a0; cases a1
    rw [Bool.eq_iff_iff]
    simp only [eqB_iff, Bool.and_eq_true, MGap.mk.injEq, and_true]
  rw [e]
  refine and_step fun _ => ?_
  refine and_step fun _ => ?_
  refine and_step fun _ => ?_
  refine and_step fun _ => ?_
  refine and_step fun _ => ?_
  rfl
theorem valid_ : Valid Try.prog Ev 174 con := VV (run := fun _ x => F x.1 x.2) mix tab_ok (.cons laws_eqEntry.valid_ (.cons laws_eqProof.valid_ .nil)) Try.func174 (by kernel_rfl) run_eq (fun _ a _ _ hg => ⟨0, okF a.1 a.2 hg⟩)
end laws_eqGap
/-! laws.eqAnswer -/
namespace laws_eqAnswer
noncomputable def F (x0 : RAnswer) (x1 : RAnswer) : Ans := (call (laws_eqSignedS.R (x0.fChain, x1.fChain)) fun v1 => (bif (!v1) then ret (false : Bool) else (bif (!(x0.fFound == x1.fFound)) then ret (false : Bool) else (call (laws_eqEntry.R (x0.fEntry, x1.fEntry)) fun v2 => (bif (!v2) then ret (false : Bool) else (call (laws_eqProof.R (x0.fProof, x1.fProof)) fun v3 => (bif (!v3) then ret (false : Bool) else (call (laws_eqGap.R (x0.fGap, x1.fGap)) fun v4 => (bif (!v4) then ret (false : Bool) else ret (true : Bool))))))))))
def pats : List Pat := [.agg [.sl 184, .bool, .str, .int .i64, .int .i64, .sl 9, .int .i64, .sl 3, .int .i64, .str, .int .i64, .int .i64, .sl 9, .str, .int .i64, .int .i64, .sl 9, .int .i64, .sl 3, .int .i64, .sl 3], .agg [.sl 184, .bool, .str, .int .i64, .int .i64, .sl 9, .int .i64, .sl 3, .int .i64, .str, .int .i64, .int .i64, .sl 9, .str, .int .i64, .int .i64, .sl 9, .int .i64, .sl 3, .int .i64, .sl 3]]
def res : RP := .one (.rd (.bool))
noncomputable abbrev E : Env := { T := assoc Tab, G := conG [(56, laws_eqSignedS.con), (40, laws_eqEntry.con), (173, laws_eqProof.con), (174, laws_eqGap.con)], nt := 34 }
set_option maxRecDepth 100000
theorem run_eq (n : Nat) (ls : List L) : runF E (fun _ => []) Try.f90 res n (initS pats ls) = F (RAnswer.dec ls) (RAnswer.dec (dropT 21 ls)) := by kernel_rfl
noncomputable def md (a0 : MAnswer) (a1 : MAnswer) : Bool := eqB a0 a1
def gd (a0 : MAnswer) (a1 : MAnswer) : Prop := True
def acc (ls : List L) : RAnswer × RAnswer := ((RAnswer.dec ls), (RAnswer.dec (dropT 21 ls)))
noncomputable def R : (RAnswer × RAnswer) → Option Bool := RR (p2 gd) (u2 md)
theorem R_eq {a0} {a1} (h : gd a0 a1) : R ((MAnswer.r a0), (MAnswer.r a1)) = some (md a0 a1) := RR_eq (a := (a0, a1)) h
noncomputable def con : Con := CN pats res acc R
theorem okF (a0 : MAnswer) (a1 : MAnswer) (hg : gd a0 a1) : F (MAnswer.r a0) (MAnswer.r a1) = ret ((md a0 a1) : Bool) := by
  unfold md
  show (call (laws_eqSignedS.R ((a0.fChain.map MSigned.row), (a1.fChain.map MSigned.row))) fun v1 => (bif (!v1) then ret (false : Bool) else (bif (!(a0.fFound == a1.fFound)) then ret (false : Bool) else (call (laws_eqEntry.R ((MEntry.r a0.fEntry), (MEntry.r a1.fEntry))) fun v2 => (bif (!v2) then ret (false : Bool) else (call (laws_eqProof.R ((MProof.r a0.fProof), (MProof.r a1.fProof))) fun v3 => (bif (!v3) then ret (false : Bool) else (call (laws_eqGap.R ((MGap.r a0.fGap), (MGap.r a1.fGap))) fun v4 => (bif (!v4) then ret (false : Bool) else ret (true : Bool)))))))))) = _
  simp only [call_eq (laws_eqSignedS.R_eq (a0 := a0.fChain) (a1 := a1.fChain) trivial), laws_eqSignedS.md]
  simp only [call_eq (laws_eqEntry.R_eq (a0 := a0.fEntry) (a1 := a1.fEntry) trivial), laws_eqEntry.md]
  simp only [call_eq (laws_eqProof.R_eq (a0 := a0.fProof) (a1 := a1.fProof) trivial), laws_eqProof.md]
  simp only [call_eq (laws_eqGap.R_eq (a0 := a0.fGap) (a1 := a1.fGap) trivial), laws_eqGap.md]
  try simp only [bne, int_beq, bool_beq, ba_beq]
  have e : eqB a0 a1 = (eqB a0.fChain a1.fChain && (eqB a0.fFound a1.fFound && (eqB a0.fEntry a1.fEntry && (eqB a0.fProof a1.fProof && (eqB a0.fGap a1.fGap && true))))) := by
    cases a0; cases a1
    rw [Bool.eq_iff_iff]
    simp only [eqB_iff, Bool.and_eq_true, MAnswer.mk.injEq, and_true]
  rw [e]
  refine and_step fun _ => ?_
  refine and_step fun _ => ?_
  refine and_step fun _ => ?_
  refine and_step fun _ => ?_
  refine and_step fun _ => ?_
  rfl
theorem valid_ : Valid Try.prog Ev 90 con := VV (run := fun _ x => F x.1 x.2) mix tab_ok (.cons laws_eqSignedS.valid_ (.cons laws_eqEntry.valid_ (.cons laws_eqProof.valid_ (.cons laws_eqGap.valid_ .nil)))) Try.func90 (by kernel_rfl) run_eq (fun _ a _ _ hg => ⟨0, okF a.1 a.2 hg⟩)
end laws_eqAnswer
/-! laws.eqStored -/
namespace laws_eqStored
noncomputable def F (x0 : RStored) (x1 : RStored) : Ans := (bif (x0.fZone != x1.fZone) then ret (false : Bool) else (bif (!(x0.fLabel == x1.fLabel)) then ret (false : Bool) else (call (laws_eqAnswer.R (x0.fAnswer, x1.fAnswer)) fun v1 => (bif (!v1) then ret (false : Bool) else ret (true : Bool)))))
def pats : List Pat := [.agg [.int .i64, .str, .sl 184, .bool, .str, .int .i64, .int .i64, .sl 9, .int .i64, .sl 3, .int .i64, .str, .int .i64, .int .i64, .sl 9, .str, .int .i64, .int .i64, .sl 9, .int .i64, .sl 3, .int .i64, .sl 3], .agg [.int .i64, .str, .sl 184, .bool, .str, .int .i64, .int .i64, .sl 9, .int .i64, .sl 3, .int .i64, .str, .int .i64, .int .i64, .sl 9, .str, .int .i64, .int .i64, .sl 9, .int .i64, .sl 3, .int .i64, .sl 3]]
def res : RP := .one (.rd (.bool))
noncomputable abbrev E : Env := { T := assoc Tab, G := conG [(90, laws_eqAnswer.con)], nt := 21 }
set_option maxRecDepth 100000
theorem run_eq (n : Nat) (ls : List L) : runF E (fun _ => []) Try.f225 res n (initS pats ls) = F (RStored.dec ls) (RStored.dec (dropT 23 ls)) := by kernel_rfl
noncomputable def md (a0 : MStored) (a1 : MStored) : Bool := eqB a0 a1
def gd (a0 : MStored) (a1 : MStored) : Prop := True
def acc (ls : List L) : RStored × RStored := ((RStored.dec ls), (RStored.dec (dropT 23 ls)))
noncomputable def R : (RStored × RStored) → Option Bool := RR (p2 gd) (u2 md)
theorem R_eq {a0} {a1} (h : gd a0 a1) : R ((MStored.r a0), (MStored.r a1)) = some (md a0 a1) := RR_eq (a := (a0, a1)) h
noncomputable def con : Con := CN pats res acc R
theorem okF (a0 : MStored) (a1 : MStored) (hg : gd a0 a1) : F (MStored.r a0) (MStored.r a1) = ret ((md a0 a1) : Bool) := by
  unfold md
  show (bif (a0.fZone != a1.fZone) then ret (false : Bool) else (bif (!(a0.fLabel == a1.fLabel)) then ret (false : Bool) else (call (laws_eqAnswer.R ((MAnswer.r a0.fAnswer), (MAnswer.r a1.fAnswer))) fun v1 => (bif (!v1) then ret (false : Bool) else ret (true : Bool))))) = _
  simp only [call_eq (laws_eqAnswer.R_eq (a0 := a0.fAnswer) (a1 := a1.fAnswer) trivial), laws_eqAnswer.md]
  try simp only [bne, int_beq, bool_beq, ba_beq]
  have e : eqB a0 a1 = (eqB a0.fZone a1.fZone && (eqB a0.fLabel a1.fLabel && (eqB a0.fAnswer a1.fAnswer && true))) := by
    cases a0; cases a1
    rw [Bool.eq_iff_iff]
    simp only [eqB_iff, Bool.and_eq_true, MStored.mk.injEq, and_true]
  rw [e]
  refine and_step fun _ => ?_
  refine and_step fun _ => ?_
  refine and_step fun _ => ?_
  rfl
theorem valid_ : Valid Try.prog Ev 225 con := VV (run := fun _ x => F x.1 x.2) mix tab_ok (.cons laws_eqAnswer.valid_ .nil) Try.func225 (by kernel_rfl) run_eq (fun _ a _ _ hg => ⟨0, okF a.1 a.2 hg⟩)
end laws_eqStored
/-! laws.eqStoredS -/
namespace laws_eqStoredS
inductive Pt where
  | p0 (a : List (List L)) (b : List (List L)) (c : Int)
def pid : Pt → Nat
  | .p0 .. => 4
def pvs : Pt → List V
  | .p0 a b c => [.sl none 220 a, .sl none 220 b, .int .i64 c]
def phs : Pt → List Root
  | .p0 a b c => []
noncomputable def step (J : Pt → Ans) : Pt → Ans
  | .p0 a b c => (bif (decide (c < (a.length : Int))) then (bif (decide ((0 : Int) ≤ c)) then (bif (decide (c < (a.length : Int))) then (bif (decide ((0 : Int) ≤ c)) then (bif (decide (c < (b.length : Int))) then (call (laws_eqStored.R ((RStored.at a (Int.toNat c)), (RStored.at b (Int.toNat c)))) fun v1 => (bif (!v1) then ret (false : Bool) else J (.p0 a b (IntKind.i64.wrap (c + 1))))) else none) else none) else none) else none) else ret (true : Bool))
noncomputable def start (J : Pt → Ans) (x0 : List (List L)) (x1 : List (List L)) : Ans := (bif ((x0.length : Int) != (x1.length : Int)) then ret (false : Bool) else J (.p0 x0 x1 0))
def live : Nat → Live := fun i => match i with | 4 => [(0, none), (1, none), (5, none)] | _ => []
def pats : List Pat := [.rd (.sl 220), .rd (.sl 220)]
def res : RP := .one (.rd (.bool))
noncomputable abbrev E : Env := { T := assoc Tab, G := conG [(225, laws_eqStored.con)], nt := 27 }
set_option maxRecDepth 100000
theorem step_eq (I : Heads) (p : Pt) : enterC E live I (pid p) (bodyOf Try.f175) (stOf (live (pid p)) (pvs p) (phs p)) (doneK E Try.f175 res) = step (fun q => I (pid q) (pvs q) (phs q)) p := by
  cases p <;> kernel_rfl
theorem start_eq (I : Heads) (ls : List L) : runC E live I (bodyOf Try.f175) (initS pats ls) (doneK E Try.f175 res) = start (fun q => I (pid q) (pvs q) (phs q)) (ls.headD .hole).toSl ((dropT 1 ls).headD .hole).toSl := by kernel_rfl
theorem run_eq (n : Nat) (ls : List L) : runF E live Try.f175 res n (initS pats ls) = start (iter step n) (ls.headD .hole).toSl ((dropT 1 ls).headD .hole).toSl := runF_iter (id := pid) (vs := pvs) (hs := phs) (step := step) (start := fun J => start J (ls.headD .hole).toSl ((dropT 1 ls).headD .hole).toSl) step_eq (fun I => start_eq I ls) n
noncomputable def md (a0 : List MStored) (a1 : List MStored) : Bool := eqB a0 a1
def gd (a0 : List MStored) (a1 : List MStored) : Prop := True
def acc (ls : List L) : List (List L) × List (List L) := ((ls.headD .hole).toSl, ((dropT 1 ls).headD .hole).toSl)
noncomputable def R : (List (List L) × List (List L)) → Option Bool := RR (p2 gd) (u2 md)
theorem R_eq {a0} {a1} (h : gd a0 a1) : R ((a0.map MStored.row), (a1.map MStored.row)) = some (md a0 a1) := RR_eq (a := (a0, a1)) h
noncomputable def con : Con := CN pats res acc R
theorem okF (a0 : List MStored) (a1 : List MStored) (hg : gd a0 a1) (h0 : a0.length ≤ maxLen) (h1 : a1.length ≤ maxLen) : ∃ n, start (iter step n) (a0.map MStored.row) (a1.map MStored.row) = ret ((md a0 a1) : Bool) := by
  unfold start md
  simp only [List.length_map]
  refine eq_list (pt := fun i => Pt.p0 (a0.map MStored.row) (a1.map MStored.row) (i : Int)) (fun hl J i h h2 => ?_) (fun J => ?_)
  · simp only [step, List.length_map, lt_dec h, lt_dec h2, zle_dec, cond_true, toNat_nat, MStored.at_row h, MStored.at_row h2]
    rw [wrap_succ h h0]
    rw [call_eq (laws_eqStored.R_eq (a0 := a0[i]) (a1 := a1[i]) trivial), laws_eqStored.md]
    cases eqB a0[i] a1[i] <;> rfl
  · simp only [step, List.length_map, nlt_dec, cond_false]
theorem valid_ : Valid Try.prog Ev 175 con := VV (run := fun n x => start (iter step n) x.1 x.2) mix tab_ok (.cons laws_eqStored.valid_ .nil) Try.func175 (by kernel_rfl) run_eq (fun ls a hl e hg => okF a.1 a.2 hg (by have h : (ls.headD .hole).toSl.length ≤ maxLen := hl.1.len; have e : a.1.map MStored.row = (ls.headD .hole).toSl := (congrArg (fun x => x.1) e.symm); rw [← e] at h; simpa using h) (by have h : ((dropT 1 ls).headD .hole).toSl.length ≤ maxLen := hl.2.1.len; have e : a.2.map MStored.row = ((dropT 1 ls).headD .hole).toSl := (congrArg (fun x => x.2) e.symm); rw [← e] at h; simpa using h))
end laws_eqStoredS
/-! laws.eqCache -/
namespace laws_eqCache
noncomputable def F (x0 : RCache) (x1 : RCache) : Ans := (call (laws_eqStoredS.R (x0.fList, x1.fList)) fun v1 => (bif (!v1) then ret (false : Bool) else ret (true : Bool)))
def pats : List Pat := [.agg [.sl 220], .agg [.sl 220]]
def res : RP := .one (.rd (.bool))
noncomputable abbrev E : Env := { T := assoc Tab, G := conG [(175, laws_eqStoredS.con)], nt := 11 }
set_option maxRecDepth 100000
theorem run_eq (n : Nat) (ls : List L) : runF E (fun _ => []) Try.f91 res n (initS pats ls) = F (RCache.dec ls) (RCache.dec (dropT 1 ls)) := by kernel_rfl
noncomputable def md (a0 : MCache) (a1 : MCache) : Bool := eqB a0 a1
def gd (a0 : MCache) (a1 : MCache) : Prop := True
def acc (ls : List L) : RCache × RCache := ((RCache.dec ls), (RCache.dec (dropT 1 ls)))
noncomputable def R : (RCache × RCache) → Option Bool := RR (p2 gd) (u2 md)
theorem R_eq {a0} {a1} (h : gd a0 a1) : R ((MCache.r a0), (MCache.r a1)) = some (md a0 a1) := RR_eq (a := (a0, a1)) h
noncomputable def con : Con := CN pats res acc R
theorem okF (a0 : MCache) (a1 : MCache) (hg : gd a0 a1) : F (MCache.r a0) (MCache.r a1) = ret ((md a0 a1) : Bool) := by
  unfold md
  show (call (laws_eqStoredS.R ((a0.fList.map MStored.row), (a1.fList.map MStored.row))) fun v1 => (bif (!v1) then ret (false : Bool) else ret (true : Bool))) = _
  simp only [call_eq (laws_eqStoredS.R_eq (a0 := a0.fList) (a1 := a1.fList) trivial), laws_eqStoredS.md]
  try simp only [bne, int_beq, bool_beq, ba_beq]
  have e : eqB a0 a1 = (eqB a0.fList a1.fList && true) := by
    cases a0; cases a1
    rw [Bool.eq_iff_iff]
    simp only [eqB_iff, Bool.and_eq_true, MCache.mk.injEq, and_true]
  rw [e]
  refine and_step fun _ => ?_
  rfl
theorem valid_ : Valid Try.prog Ev 91 con := VV (run := fun _ x => F x.1 x.2) mix tab_ok (.cons laws_eqStoredS.valid_ .nil) Try.func91 (by kernel_rfl) run_eq (fun _ a _ _ hg => ⟨0, okF a.1 a.2 hg⟩)
end laws_eqCache
/-! laws.markText -/
namespace laws_markText
inductive Pt where
  | p0 (a : Int) (b : ByteArray)
def pid : Pt → Nat
  | .p0 .. => 4
def pvs : Pt → List V
  | .p0 a b => [.int .i64 a, .str b]
def phs : Pt → List Root
  | .p0 a b => []
noncomputable def step (J : Pt → Ans) : Pt → Ans
  | .p0 a b => (bif (decide (a > 0)) then (bif (decide ((((strL [[L.int (IntKind.u8.wrap (IntKind.i64.wrap (48 + (Int.tmod a 10))))]]).size + b.size : Nat) : Int) > 9223372036854775807)) then none else J (.p0 (IntKind.i64.wrap (Int.tdiv a 10)) ((strL [[L.int (IntKind.u8.wrap (IntKind.i64.wrap (48 + (Int.tmod a 10))))]]) ++ b))) else (bif (decide ((((⟨#[109]⟩ : ByteArray).size + b.size : Nat) : Int) > 9223372036854775807)) then none else ret (((⟨#[109]⟩ : ByteArray) ++ b) : ByteArray)))
noncomputable def start (J : Pt → Ans) (x0 : Int) : Ans := (bif (decide (x0 ≤ 0)) then ret ((⟨#[109, 48]⟩ : ByteArray) : ByteArray) else J (.p0 x0 ⟨#[]⟩))
def live : Nat → Live := fun i => match i with | 4 => [(0, none), (3, none)] | _ => []
def pats : List Pat := [.rd (.int .i64)]
def res : RP := .one (.rd (.str))
noncomputable abbrev E : Env := { T := assoc Tab, G := conG [], nt := 20 }
set_option maxRecDepth 100000
theorem step_eq (I : Heads) (p : Pt) : enterC E live I (pid p) (bodyOf Try.f114) (stOf (live (pid p)) (pvs p) (phs p)) (doneK E Try.f114 res) = step (fun q => I (pid q) (pvs q) (phs q)) p := by
  cases p <;> kernel_rfl
theorem start_eq (I : Heads) (ls : List L) : runC E live I (bodyOf Try.f114) (initS pats ls) (doneK E Try.f114 res) = start (fun q => I (pid q) (pvs q) (phs q)) (ls.headD .hole).toInt := by kernel_rfl
theorem run_eq (n : Nat) (ls : List L) : runF E live Try.f114 res n (initS pats ls) = start (iter step n) (ls.headD .hole).toInt := runF_iter (id := pid) (vs := pvs) (hs := phs) (step := step) (start := fun J => start J (ls.headD .hole).toInt) step_eq (fun I => start_eq I ls) n
noncomputable def dg (a : Int) : ByteArray := strL [[L.int (IntKind.u8.wrap (IntKind.i64.wrap (48 + (Int.tmod a 10))))]]
noncomputable def txt : Nat → Int → ByteArray → ByteArray
  | 0, _, b => b
  | n + 1, a, b => bif decide (a > 0) then txt n (IntKind.i64.wrap (Int.tdiv a 10)) (dg a ++ b) else b
theorem dg_size (a : Int) : (strL [[L.int (IntKind.u8.wrap (IntKind.i64.wrap (48 + (Int.tmod a 10))))]]).size = 1 := rfl
theorem run : ∀ (n : Nat) (a : Int) (b : ByteArray), n ≤ 64 → a < 2 ^ n → I64 a → b.size + n ≤ 1000 → ∃ m, iter step m (.p0 a b) = ret ((⟨#[109]⟩ : ByteArray) ++ txt n a b)
  | 0, a, b, _, h1, _, h3 => by
    refine ⟨1, ?_⟩
    show step _ (.p0 a b) = _
    have e1 : decide (a > 0) = false := decide_eq_false (by simp at h1; omega)
    have e2 : decide ((((⟨#[109]⟩ : ByteArray).size + b.size : Nat) : Int) > 9223372036854775807) = false := decide_eq_false (by have : (⟨#[109]⟩ : ByteArray).size = 1 := rfl; omega)
    simp only [step, e1, e2, cond_false]
    rfl
  | n + 1, a, b, hn, h1, h2, h3 => by
    by_cases hp : a > 0
    · have e1 : decide (a > 0) = true := decide_eq_true hp
      have hq : Int.tdiv a 10 = a / 10 := Int.tdiv_eq_ediv_of_nonneg (by omega)
      unfold I64 at h2
      have hw : IntKind.i64.wrap (Int.tdiv a 10) = a / 10 := by rw [hq]; exact wi _ (by omega)
      have hlt : a / 10 < 2 ^ n := by
        have : (2 : Int) ^ (n + 1) = 2 ^ n * 2 := Int.pow_succ 2 n
        omega
      have hs : (dg a ++ b).size = 1 + b.size := by rw [ByteArray.size_append]; rfl
      obtain ⟨m, hm⟩ := run n (a / 10) (dg a ++ b) (by omega) hlt ⟨by omega, by omega⟩ (by rw [hs]; omega)
      refine ⟨m + 1, ?_⟩
      show step _ (.p0 a b) = _
      have e2 : decide ((((strL [[L.int (IntKind.u8.wrap (IntKind.i64.wrap (48 + (Int.tmod a 10))))]]).size + b.size : Nat) : Int) > 9223372036854775807) = false := decide_eq_false (by rw [dg_size]; omega)
      simp only [step, txt, e1, e2, cond_true, cond_false, hw]
      exact hm
    · refine ⟨1, ?_⟩
      show step _ (.p0 a b) = _
      have e1 : decide (a > 0) = false := decide_eq_false hp
      have e2 : decide ((((⟨#[109]⟩ : ByteArray).size + b.size : Nat) : Int) > 9223372036854775807) = false := decide_eq_false (by have : (⟨#[109]⟩ : ByteArray).size = 1 := rfl; omega)
      simp only [step, txt, e1, e2, cond_false]
noncomputable def md (a0 : Int) : ByteArray := (bif decide (a0 ≤ 0) then (⟨#[109, 48]⟩ : ByteArray) else (⟨#[109]⟩ : ByteArray) ++ txt 64 a0 ⟨#[]⟩)
def gd (a0 : Int) : Prop := I64 a0
def acc (ls : List L) : Int := (ls.headD .hole).toInt
noncomputable def R : Int → Option ByteArray := RR gd md
theorem R_eq {a0} (h : gd a0) : R a0 = some (md a0) := RR_eq (a := a0) h
noncomputable def con : Con := CN pats res acc R
theorem okF (a0 : Int) (hg : gd a0) : ∃ n, start (iter step n) a0 = ret ((md a0) : ByteArray) := by
  unfold gd at hg
  unfold start md
  cases h : decide (a0 ≤ 0)
  · have h2 := hg.2
    have h3 : (2 : Int) ^ 64 = 18446744073709551616 := by decide
    obtain ⟨m, hm⟩ := run 64 a0 ⟨#[]⟩ (Nat.le_refl _) (by rw [h3]; omega) hg (by show 0 + 64 ≤ 1000; omega)
    exact ⟨m, hm⟩
  · exact ⟨0, rfl⟩
theorem valid_ : Valid Try.prog Ev 114 con := VV (run := fun n x => start (iter step n) x) mix tab_ok .nil Try.func114 (by kernel_rfl) run_eq (fun _ a _ _ hg => okF a hg)
end laws_markText
/-! laws.markIntS -/
namespace laws_markIntS
set_option maxRecDepth 100000
set_option maxHeartbeats 8000000
inductive Pt where
  | p0 (a : Int) (b : Int) (c : List (List L))
def pid : Pt → Nat
  | .p0 .. => 2
def pvs : Pt → List V
  | .p0 a b c => [.own 0, .int .i64 a, .int .i64 b]
def phs : Pt → List Root
  | .p0 a b c => [.row 3 c]
noncomputable def step (J : Pt → Ans) : Pt → Ans
  | .p0 a b c => (bif (decide (b < (c.length : Int))) then (bif (decide ((0 : Int) ≤ b)) then (bif (decide (b < (c.length : Int))) then J (.p0 (IntKind.i64.wrap (a + 1)) (IntKind.i64.wrap (b + 1)) (List.set c (Int.toNat b) [L.int a])) else none) else none) else ret ((a, c) : Int × List (List L)))
noncomputable def start (J : Pt → Ans) (x0 : List (List L)) (x1 : Int) : Ans := J (.p0 x1 0 x0)
def live : Nat → Live := fun i => match i with | 2 => [(0, none), (1, none), (5, none)] | _ => []
def pats : List (Bool × List K) := [(false, [.sl 3]), (false, [.int .i64])]
def res : RP := .chg [3]
noncomputable abbrev E : Env := { T := assoc Tab, G := conG [], nt := 19, M := conM [], np := 1, mt := true }
set_option maxRecDepth 100000
theorem step_eq (I : Heads) (p : Pt) : enterC E live I (pid p) (bodyOf Try.f142) (stOf (live (pid p)) (pvs p) (phs p)) (doneK E Try.f142 res) = step (fun q => I (pid q) (pvs q) (phs q)) p := by
  cases p <;> kernel_rfl
theorem start_eq (I : Heads) (ls : List L) : runC E live I (bodyOf Try.f142) (initM pats ls) (doneK E Try.f142 res) = start (fun q => I (pid q) (pvs q) (phs q)) (ls.headD .hole).toSl ((dropT 1 ls).headD .hole).toInt := by kernel_rfl
theorem run_eq (n : Nat) (ls : List L) : runF E live Try.f142 res n (initM pats ls) = start (iter step n) (ls.headD .hole).toSl ((dropT 1 ls).headD .hole).toInt := runF_iter (id := pid) (vs := pvs) (hs := phs) (step := step) (start := fun J => start J (ls.headD .hole).toSl ((dropT 1 ls).headD .hole).toInt) step_eq (fun I => start_eq I ls) n
noncomputable def el (x : Int) (k : Int) : Int × Int := ((IntKind.i64.wrap (k + 1)), (k))
theorem el_I (x : Int) (k : Int) (hk : I64 k) : I64 (el x k).1 := (wrap_I64 _)
noncomputable def cnt (x : Int) : Nat := 1
noncomputable def sum (a : List Int) : Nat := (a.map cnt).sum
noncomputable def md (a0 : List Int) (a1 : Int) : Int × List Int := accM el a0 a1
def gd (a0 : List Int) (a1 : Int) : Prop := I64 a1
def acc (ls : List L) : List (List L) × Int := ((ls.headD .hole).toSl, ((dropT 1 ls).headD .hole).toInt)
noncomputable def R : (List (List L) × Int) → Option (Int × List (List L)) := RR (p2 gd) (u2 md)
theorem R_eq {a0} {a1} (h : gd a0 a1) : R ((a0.map iRow), a1) = some ((md a0 a1).1, ((md a0 a1).2.map iRow)) := RR_eq (a := (a0, a1)) h
noncomputable def con : MCon := MN pats acc R
theorem okF (a0 : List Int) (a1 : Int) (hg : gd a0 a1) (h0 : a0.length ≤ maxLen) : ∃ n, start (iter step n) (a0.map iRow) a1 = ret (((md a0 a1).1, ((md a0 a1).2.map iRow)) : Int × List (List L)) := by
  unfold gd at hg
  show ∃ n, iter step n (Pt.p0 a1 0 (a0.map iRow)) = _
  unfold md
  refine mark_loop (el := el) (xs := a0) 0 I64 el_I (pt := fun i k c => Pt.p0 k (i : Int) (c.map iRow)) (out := fun b => ret (b.1, b.2.map iRow)) (fun J i k c hi hc hk => ?_) (fun J k c hc => ?_) hg
  · have hm : c.length ≤ maxLen := hc ▸ h0
    simp only [step, S0]
    refine yes_ret (lt_dec hi) ?_
    refine yes_ret zle_dec ?_
    refine yes_ret (lt_dec hi) ?_
    rw [wrap_succ hi hm]
    exact congrArg (fun q => J (Pt.p0 (el (c.getD i 0) k).1 ((i + 1 : Nat) : Int) q)) (List.map_set (f := iRow) (l := c) (i := i) (a := (el (c.getD i 0) k).2)).symm
  · simp only [step, S0]
    refine no_ret (by apply decide_eq_false; omega) ?_
    rfl
theorem valid_ : MValid Try.prog Ev 142 con := MV (run := fun n x => start (iter step n) x.1 x.2) mix tab_ok .nil .nil Try.func142 (by kernel_rfl) run_eq (fun ls a hl e hg => okF a.1 a.2 hg (by have h : (ls.headD .hole).toSl.length ≤ maxLen := (hl _ _ (.head _)).len; have e : a.1.map iRow = (ls.headD .hole).toSl := (congrArg (fun x => x.1) e.symm); rw [← e] at h; simpa using h))
theorem i64 {a0 : List Int} {a1 : Int} (h : I64 a1) : I64 (md a0 a1).1 := accM_I el_I h
theorem elk (x : Int) (k : Int) (h0 : 0 ≤ k) (hb : k + (cnt x : Int) ≤ 4611686018427387904) : (el x k).1 = k + cnt x := by
  simp only [cnt, Int.natCast_add] at hb ⊢
  simp (disch := omega) only [el, wi]
  all_goals first | done | omega
theorem kk (a0 : List Int) (a1 : Int) (h0 : 0 ≤ a1) (hb : a1 + (sum a0 : Int) ≤ 4611686018427387904) : (md a0 a1).1 = a1 + sum a0 := accM_sum elk a0 a1 h0 hb
theorem sz (a : List Int) : sum a ≤ 60 * (szL (fun y : Int => 0) a) := sum_le (fun x => by
    try simp only [cnt] at *
    omega) a
end laws_markIntS
/-! laws.markSigS -/
namespace laws_markSigS
set_option maxRecDepth 100000
set_option maxHeartbeats 8000000
inductive Pt where
  | p0 (a : Int) (b : Int) (c : List (List L))
def pid : Pt → Nat
  | .p0 .. => 2
def pvs : Pt → List V
  | .p0 a b c => [.own 0, .int .i64 a, .int .i64 b]
def phs : Pt → List Root
  | .p0 a b c => [.row 248 c]
noncomputable def step (J : Pt → Ans) : Pt → Ans
  | .p0 a b c => (bif (decide (b < (c.length : Int))) then (bif (decide ((0 : Int) ≤ b)) then (bif (decide (b < (c.length : Int))) then (bif (decide ((0 : Int) ≤ b)) then (bif (decide (b < (c.length : Int))) then (bif (Nat.beq (Int.toNat b) (Int.toNat b) && true) then J (.p0 (IntKind.i64.wrap ((IntKind.i64.wrap (a + 1)) + 1)) (IntKind.i64.wrap (b + 1)) (List.set c (Int.toNat b) (MSig.enc (⟨a, (IntKind.i64.wrap (a + 1))⟩ : MSig)))) else none) else none) else none) else none) else none) else ret ((a, c) : Int × List (List L)))
noncomputable def start (J : Pt → Ans) (x0 : List (List L)) (x1 : Int) : Ans := J (.p0 x1 0 x0)
def live : Nat → Live := fun i => match i with | 2 => [(0, none), (1, none), (5, none)] | _ => []
def pats : List (Bool × List K) := [(false, [.sl 248]), (false, [.int .i64])]
def res : RP := .chg [248]
noncomputable abbrev E : Env := { T := assoc Tab, G := conG [], nt := 27, M := conM [], np := 1, mt := true }
set_option maxRecDepth 100000
theorem step_eq (I : Heads) (p : Pt) : enterC E live I (pid p) (bodyOf Try.f143) (stOf (live (pid p)) (pvs p) (phs p)) (doneK E Try.f143 res) = step (fun q => I (pid q) (pvs q) (phs q)) p := by
  cases p <;> kernel_rfl
theorem start_eq (I : Heads) (ls : List L) : runC E live I (bodyOf Try.f143) (initM pats ls) (doneK E Try.f143 res) = start (fun q => I (pid q) (pvs q) (phs q)) (ls.headD .hole).toSl ((dropT 1 ls).headD .hole).toInt := by kernel_rfl
theorem run_eq (n : Nat) (ls : List L) : runF E live Try.f143 res n (initM pats ls) = start (iter step n) (ls.headD .hole).toSl ((dropT 1 ls).headD .hole).toInt := runF_iter (id := pid) (vs := pvs) (hs := phs) (step := step) (start := fun J => start J (ls.headD .hole).toSl ((dropT 1 ls).headD .hole).toInt) step_eq (fun I => start_eq I ls) n
noncomputable def el (x : MSig) (k : Int) : Int × MSig := ((IntKind.i64.wrap ((IntKind.i64.wrap (k + 1)) + 1)), (⟨k, (IntKind.i64.wrap (k + 1))⟩ : MSig))
theorem el_I (x : MSig) (k : Int) (hk : I64 k) : I64 (el x k).1 := (wrap_I64 _)
noncomputable def cnt (x : MSig) : Nat := 2
noncomputable def sum (a : List MSig) : Nat := (a.map cnt).sum
noncomputable def md (a0 : List MSig) (a1 : Int) : Int × List MSig := accM el a0 a1
def gd (a0 : List MSig) (a1 : Int) : Prop := I64 a1
def acc (ls : List L) : List (List L) × Int := ((ls.headD .hole).toSl, ((dropT 1 ls).headD .hole).toInt)
noncomputable def R : (List (List L) × Int) → Option (Int × List (List L)) := RR (p2 gd) (u2 md)
theorem R_eq {a0} {a1} (h : gd a0 a1) : R ((a0.map MSig.row), a1) = some ((md a0 a1).1, ((md a0 a1).2.map MSig.row)) := RR_eq (a := (a0, a1)) h
noncomputable def con : MCon := MN pats acc R
theorem okF (a0 : List MSig) (a1 : Int) (hg : gd a0 a1) (h0 : a0.length ≤ maxLen) : ∃ n, start (iter step n) (a0.map MSig.row) a1 = ret (((md a0 a1).1, ((md a0 a1).2.map MSig.row)) : Int × List (List L)) := by
  unfold gd at hg
  show ∃ n, iter step n (Pt.p0 a1 0 (a0.map MSig.row)) = _
  unfold md
  refine mark_loop (el := el) (xs := a0) MSig.zero I64 el_I (pt := fun i k c => Pt.p0 k (i : Int) (c.map MSig.row)) (out := fun b => ret (b.1, b.2.map MSig.row)) (fun J i k c hi hc hk => ?_) (fun J k c hc => ?_) hg
  · have hm : c.length ≤ maxLen := hc ▸ h0
    simp only [step, S0]
    refine yes_ret (lt_dec hi) ?_
    refine yes_ret zle_dec ?_
    refine yes_ret (lt_dec hi) ?_
    refine yes_ret zle_dec ?_
    refine yes_ret (lt_dec hi) ?_
    refine yes_ret (beq_t _) ?_
    rw [wrap_succ hi hm]
    exact congrArg (fun q => J (Pt.p0 (el (c.getD i MSig.zero) k).1 ((i + 1 : Nat) : Int) q)) (List.map_set (f := MSig.row) (l := c) (i := i) (a := (el (c.getD i MSig.zero) k).2)).symm
  · simp only [step, S0]
    refine no_ret (by apply decide_eq_false; omega) ?_
    rfl
theorem valid_ : MValid Try.prog Ev 143 con := MV (run := fun n x => start (iter step n) x.1 x.2) mix tab_ok .nil .nil Try.func143 (by kernel_rfl) run_eq (fun ls a hl e hg => okF a.1 a.2 hg (by have h : (ls.headD .hole).toSl.length ≤ maxLen := (hl _ _ (.head _)).len; have e : a.1.map MSig.row = (ls.headD .hole).toSl := (congrArg (fun x => x.1) e.symm); rw [← e] at h; simpa using h))
theorem i64 {a0 : List MSig} {a1 : Int} (h : I64 a1) : I64 (md a0 a1).1 := accM_I el_I h
theorem elk (x : MSig) (k : Int) (h0 : 0 ≤ k) (hb : k + (cnt x : Int) ≤ 4611686018427387904) : (el x k).1 = k + cnt x := by
  simp only [cnt, Int.natCast_add] at hb ⊢
  simp (disch := omega) only [el, wi]
  all_goals first | done | omega
theorem kk (a0 : List MSig) (a1 : Int) (h0 : 0 ≤ a1) (hb : a1 + (sum a0 : Int) ≤ 4611686018427387904) : (md a0 a1).1 = a1 + sum a0 := accM_sum elk a0 a1 h0 hb
theorem sz (a : List MSig) : sum a ≤ 60 * (szL (fun y : MSig => MSig.size y) a) := sum_le (fun x => by
    try simp only [cnt, MSig.size] at *
    omega) a
end laws_markSigS
/-! laws.markSignedS -/
namespace laws_markSignedS
set_option maxRecDepth 100000
set_option maxHeartbeats 8000000
inductive Pt where
  | p0 (a : Int) (b : Int) (c : List (List L))
def pid : Pt → Nat
  | .p0 .. => 2
def pvs : Pt → List V
  | .p0 a b c => [.own 0, .int .i64 a, .int .i64 b]
def phs : Pt → List Root
  | .p0 a b c => [.row 184 c]
noncomputable def step (J : Pt → Ans) : Pt → Ans
  | .p0 a b c => (bif (decide (b < (c.length : Int))) then (bif (decide ((0 : Int) ≤ b)) then (bif (decide (b < (c.length : Int))) then (bif (decide ((0 : Int) ≤ b)) then (bif (decide (b < (c.length : Int))) then (bif (Nat.beq (Int.toNat b) (Int.toNat b) && true) then (bif (decide ((0 : Int) ≤ b)) then (bif (decide (b < (c.length : Int))) then (bif (Nat.beq (Int.toNat b) (Int.toNat b) && true) then (bif (decide ((0 : Int) ≤ b)) then (bif (decide (b < (c.length : Int))) then (bif (Nat.beq (Int.toNat b) (Int.toNat b) && true) then (bif (decide ((0 : Int) ≤ b)) then (bif (decide (b < (c.length : Int))) then (bif (Nat.beq (Int.toNat b) (Int.toNat b) && true) then (bif (decide ((0 : Int) ≤ b)) then (bif (decide (b < (c.length : Int))) then (bif (Nat.beq (Int.toNat b) (Int.toNat b) && true) then (bif (decide ((0 : Int) ≤ b)) then (bif (decide (b < (c.length : Int))) then (bif (Nat.beq (Int.toNat b) (Int.toNat b) && true) then (bif (decide ((0 : Int) ≤ b)) then (bif (decide (b < (c.length : Int))) then (bif (Nat.beq (Int.toNat b) (Int.toNat b) && true) then (bif (decide ((0 : Int) ≤ b)) then (bif (decide (b < (c.length : Int))) then (bif (Nat.beq (Int.toNat b) (Int.toNat b) && true) then (bif (Nat.beq (Int.toNat b) (Int.toNat b) && true) then (call (laws_markIntS.R ((RSigned.at c (Int.toNat b)).fHead.fKeys.fList, (IntKind.i64.wrap ((IntKind.i64.wrap ((IntKind.i64.wrap ((IntKind.i64.wrap ((IntKind.i64.wrap ((IntKind.i64.wrap ((IntKind.i64.wrap ((IntKind.i64.wrap (a + 1)) + 1)) + 1)) + 1)) + 1)) + 1)) + 1)) + 1)))) fun v1 => (bif (decide ((0 : Int) ≤ b)) then (bif (decide (b < (c.length : Int))) then (bif (Nat.beq (Int.toNat b) (Int.toNat b) && true) then (bif (decide ((0 : Int) ≤ b)) then (bif (decide (b < (c.length : Int))) then (bif (Nat.beq (Int.toNat b) (Int.toNat b) && true) then (bif (Nat.beq (Int.toNat b) (Int.toNat b) && true) then (call (laws_markIntS.R ((RSigned.at c (Int.toNat b)).fHead.fHeirs.fList, (IntKind.i64.wrap (v1.1 + 1)))) fun v2 => (bif (decide ((0 : Int) ≤ b)) then (bif (decide (b < (c.length : Int))) then (bif (Nat.beq (Int.toNat b) (Int.toNat b) && true) then (bif (decide ((0 : Int) ≤ b)) then (bif (decide (b < (c.length : Int))) then (bif (Nat.beq (Int.toNat b) (Int.toNat b) && true) then (bif (decide ((0 : Int) ≤ b)) then (bif (decide (b < (c.length : Int))) then (bif (Nat.beq (Int.toNat b) (Int.toNat b) && true) then (bif (Nat.beq (Int.toNat b) (Int.toNat b) && true) then (call (laws_markIntS.R ((RSigned.at c (Int.toNat b)).fHead.fJudge.fList, (IntKind.i64.wrap ((IntKind.i64.wrap (v2.1 + 1)) + 1)))) fun v3 => (bif (decide ((0 : Int) ≤ b)) then (bif (decide (b < (c.length : Int))) then (bif (Nat.beq (Int.toNat b) (Int.toNat b) && true) then (bif (decide ((0 : Int) ≤ b)) then (bif (decide (b < (c.length : Int))) then (bif (Nat.beq (Int.toNat b) (Int.toNat b) && true) then (bif (decide ((0 : Int) ≤ b)) then (bif (decide (b < (c.length : Int))) then (bif (Nat.beq (Int.toNat b) (Int.toNat b) && true) then (bif (Nat.beq (Int.toNat b) (Int.toNat b) && true) then (call (laws_markSigS.R ((RSigned.at c (Int.toNat b)).fSigs, (IntKind.i64.wrap ((IntKind.i64.wrap (v3.1 + 1)) + 1)))) fun v4 => J (.p0 v4.1 (IntKind.i64.wrap (b + 1)) (List.set c (Int.toNat b) (RSigned.enc (⟨(⟨a, (IntKind.i64.wrap (a + 1)), (IntKind.i64.wrap ((IntKind.i64.wrap (a + 1)) + 1)), (IntKind.i64.wrap ((IntKind.i64.wrap ((IntKind.i64.wrap (a + 1)) + 1)) + 1)), (IntKind.i64.wrap ((IntKind.i64.wrap ((IntKind.i64.wrap ((IntKind.i64.wrap (a + 1)) + 1)) + 1)) + 1)), (IntKind.i64.wrap ((IntKind.i64.wrap ((IntKind.i64.wrap ((IntKind.i64.wrap ((IntKind.i64.wrap (a + 1)) + 1)) + 1)) + 1)) + 1)), (IntKind.i64.wrap ((IntKind.i64.wrap ((IntKind.i64.wrap ((IntKind.i64.wrap ((IntKind.i64.wrap ((IntKind.i64.wrap (a + 1)) + 1)) + 1)) + 1)) + 1)) + 1)), (IntKind.i64.wrap ((IntKind.i64.wrap ((IntKind.i64.wrap ((IntKind.i64.wrap ((IntKind.i64.wrap ((IntKind.i64.wrap ((IntKind.i64.wrap (a + 1)) + 1)) + 1)) + 1)) + 1)) + 1)) + 1)), (⟨v1.2, v1.1⟩ : RKeys), (⟨v2.2, v2.1⟩ : RKeys), (IntKind.i64.wrap (v2.1 + 1)), (⟨v3.2, v3.1⟩ : RKeys), ((Int.tmod (IntKind.i64.wrap (v3.1 + 1)) 3) == 0)⟩ : RHead), v4.2⟩ : RSigned))))) else none) else none) else none) else none) else none) else none) else none) else none) else none) else none)) else none) else none) else none) else none) else none) else none) else none) else none) else none) else none)) else none) else none) else none) else none) else none) else none) else none)) else none) else none) else none) else none) else none) else none) else none) else none) else none) else none) else none) else none) else none) else none) else none) else none) else none) else none) else none) else none) else none) else none) else none) else none) else none) else none) else none) else ret ((a, c) : Int × List (List L)))
noncomputable def start (J : Pt → Ans) (x0 : List (List L)) (x1 : Int) : Ans := J (.p0 x1 0 x0)
def live : Nat → Live := fun i => match i with | 2 => [(0, none), (1, none), (5, none)] | _ => []
def pats : List (Bool × List K) := [(false, [.sl 184]), (false, [.int .i64])]
def res : RP := .chg [184]
noncomputable abbrev E : Env := { T := assoc Tab, G := conG [], nt := 156, M := conM [(142, laws_markIntS.con), (143, laws_markSigS.con)], np := 1, mt := true }
set_option maxRecDepth 100000
theorem step_eq (I : Heads) (p : Pt) : enterC E live I (pid p) (bodyOf Try.f59) (stOf (live (pid p)) (pvs p) (phs p)) (doneK E Try.f59 res) = step (fun q => I (pid q) (pvs q) (phs q)) p := by
  cases p <;> kernel_rfl
theorem start_eq (I : Heads) (ls : List L) : runC E live I (bodyOf Try.f59) (initM pats ls) (doneK E Try.f59 res) = start (fun q => I (pid q) (pvs q) (phs q)) (ls.headD .hole).toSl ((dropT 1 ls).headD .hole).toInt := by kernel_rfl
theorem run_eq (n : Nat) (ls : List L) : runF E live Try.f59 res n (initM pats ls) = start (iter step n) (ls.headD .hole).toSl ((dropT 1 ls).headD .hole).toInt := runF_iter (id := pid) (vs := pvs) (hs := phs) (step := step) (start := fun J => start J (ls.headD .hole).toSl ((dropT 1 ls).headD .hole).toInt) step_eq (fun I => start_eq I ls) n
noncomputable def e1 (x : MSigned) (k : Int) := laws_markIntS.md (((x.fHead).fKeys).fList) (IntKind.i64.wrap ((IntKind.i64.wrap ((IntKind.i64.wrap ((IntKind.i64.wrap ((IntKind.i64.wrap ((IntKind.i64.wrap ((IntKind.i64.wrap ((IntKind.i64.wrap (k + 1)) + 1)) + 1)) + 1)) + 1)) + 1)) + 1)) + 1))
noncomputable def e2 (x : MSigned) (k : Int) := laws_markIntS.md (((x.fHead).fHeirs).fList) (IntKind.i64.wrap ((e1 x k).1 + 1))
noncomputable def e3 (x : MSigned) (k : Int) := laws_markIntS.md (((x.fHead).fJudge).fList) (IntKind.i64.wrap ((IntKind.i64.wrap ((e2 x k).1 + 1)) + 1))
noncomputable def e4 (x : MSigned) (k : Int) := laws_markSigS.md x.fSigs (IntKind.i64.wrap ((IntKind.i64.wrap ((e3 x k).1 + 1)) + 1))
noncomputable def el (x : MSigned) (k : Int) : Int × MSigned := ((e4 x k).1, (⟨(⟨k, (IntKind.i64.wrap (k + 1)), (IntKind.i64.wrap ((IntKind.i64.wrap (k + 1)) + 1)), (IntKind.i64.wrap ((IntKind.i64.wrap ((IntKind.i64.wrap (k + 1)) + 1)) + 1)), (IntKind.i64.wrap ((IntKind.i64.wrap ((IntKind.i64.wrap ((IntKind.i64.wrap (k + 1)) + 1)) + 1)) + 1)), (IntKind.i64.wrap ((IntKind.i64.wrap ((IntKind.i64.wrap ((IntKind.i64.wrap ((IntKind.i64.wrap (k + 1)) + 1)) + 1)) + 1)) + 1)), (IntKind.i64.wrap ((IntKind.i64.wrap ((IntKind.i64.wrap ((IntKind.i64.wrap ((IntKind.i64.wrap ((IntKind.i64.wrap (k + 1)) + 1)) + 1)) + 1)) + 1)) + 1)), (IntKind.i64.wrap ((IntKind.i64.wrap ((IntKind.i64.wrap ((IntKind.i64.wrap ((IntKind.i64.wrap ((IntKind.i64.wrap ((IntKind.i64.wrap (k + 1)) + 1)) + 1)) + 1)) + 1)) + 1)) + 1)), (⟨(e1 x k).2, (e1 x k).1⟩ : MKeys), (⟨(e2 x k).2, (e2 x k).1⟩ : MKeys), (IntKind.i64.wrap ((e2 x k).1 + 1)), (⟨(e3 x k).2, (e3 x k).1⟩ : MKeys), ((Int.tmod (IntKind.i64.wrap ((e3 x k).1 + 1)) 3) == 0)⟩ : MHead), (e4 x k).2⟩ : MSigned))
theorem el_I (x : MSigned) (k : Int) (hk : I64 k) : I64 (el x k).1 := (laws_markSigS.i64 (wrap_I64 _))
noncomputable def cnt (x : MSigned) : Nat := 13 + laws_markIntS.sum (((x.fHead).fKeys).fList) + laws_markIntS.sum (((x.fHead).fHeirs).fList) + laws_markIntS.sum (((x.fHead).fJudge).fList) + laws_markSigS.sum x.fSigs
noncomputable def sum (a : List MSigned) : Nat := (a.map cnt).sum
noncomputable def md (a0 : List MSigned) (a1 : Int) : Int × List MSigned := accM el a0 a1
def gd (a0 : List MSigned) (a1 : Int) : Prop := I64 a1
def acc (ls : List L) : List (List L) × Int := ((ls.headD .hole).toSl, ((dropT 1 ls).headD .hole).toInt)
noncomputable def R : (List (List L) × Int) → Option (Int × List (List L)) := RR (p2 gd) (u2 md)
theorem R_eq {a0} {a1} (h : gd a0 a1) : R ((a0.map MSigned.row), a1) = some ((md a0 a1).1, ((md a0 a1).2.map MSigned.row)) := RR_eq (a := (a0, a1)) h
noncomputable def con : MCon := MN pats acc R
theorem okF (a0 : List MSigned) (a1 : Int) (hg : gd a0 a1) (h0 : a0.length ≤ maxLen) : ∃ n, start (iter step n) (a0.map MSigned.row) a1 = ret (((md a0 a1).1, ((md a0 a1).2.map MSigned.row)) : Int × List (List L)) := by
  unfold gd at hg
  show ∃ n, iter step n (Pt.p0 a1 0 (a0.map MSigned.row)) = _
  unfold md
  refine mark_loop (el := el) (xs := a0) MSigned.zero I64 el_I (pt := fun i k c => Pt.p0 k (i : Int) (c.map MSigned.row)) (out := fun b => ret (b.1, b.2.map MSigned.row)) (fun J i k c hi hc hk => ?_) (fun J k c hc => ?_) hg
  · have hm : c.length ≤ maxLen := hc ▸ h0
    simp only [step, S0, MKeys.rs, MHead.rs, MSigned.rs]
    refine yes_ret (lt_dec hi) ?_
    refine yes_ret zle_dec ?_
    refine yes_ret (lt_dec hi) ?_
    refine yes_ret zle_dec ?_
    refine yes_ret (lt_dec hi) ?_
    refine yes_ret (beq_t _) ?_
    refine yes_ret zle_dec ?_
    refine yes_ret (lt_dec hi) ?_
    refine yes_ret (beq_t _) ?_
    refine yes_ret zle_dec ?_
    refine yes_ret (lt_dec hi) ?_
    refine yes_ret (beq_t _) ?_
    refine yes_ret zle_dec ?_
    refine yes_ret (lt_dec hi) ?_
    refine yes_ret (beq_t _) ?_
    refine yes_ret zle_dec ?_
    refine yes_ret (lt_dec hi) ?_
    refine yes_ret (beq_t _) ?_
    refine yes_ret zle_dec ?_
    refine yes_ret (lt_dec hi) ?_
    refine yes_ret (beq_t _) ?_
    refine yes_ret zle_dec ?_
    refine yes_ret (lt_dec hi) ?_
    refine yes_ret (beq_t _) ?_
    refine yes_ret zle_dec ?_
    refine yes_ret (lt_dec hi) ?_
    refine yes_ret (beq_t _) ?_
    refine yes_ret (beq_t _) ?_
    refine call_to ((e1 (c.getD i MSigned.zero) k).1, ((e1 (c.getD i MSigned.zero) k).2.map iRow)) (laws_markIntS.R_eq (a0 := (((c.getD i MSigned.zero).fHead).fKeys).fList) (a1 := IntKind.i64.wrap ((IntKind.i64.wrap ((IntKind.i64.wrap ((IntKind.i64.wrap ((IntKind.i64.wrap ((IntKind.i64.wrap ((IntKind.i64.wrap ((IntKind.i64.wrap (k + 1)) + 1)) + 1)) + 1)) + 1)) + 1)) + 1)) + 1)) (wrap_I64 _)) ?_
    refine yes_ret zle_dec ?_
    refine yes_ret (lt_dec hi) ?_
    refine yes_ret (beq_t _) ?_
    refine yes_ret zle_dec ?_
    refine yes_ret (lt_dec hi) ?_
    refine yes_ret (beq_t _) ?_
    refine yes_ret (beq_t _) ?_
    refine call_to ((e2 (c.getD i MSigned.zero) k).1, ((e2 (c.getD i MSigned.zero) k).2.map iRow)) (laws_markIntS.R_eq (a0 := (((c.getD i MSigned.zero).fHead).fHeirs).fList) (a1 := IntKind.i64.wrap ((e1 (c.getD i MSigned.zero) k).1 + 1)) (wrap_I64 _)) ?_
    refine yes_ret zle_dec ?_
    refine yes_ret (lt_dec hi) ?_
    refine yes_ret (beq_t _) ?_
    refine yes_ret zle_dec ?_
    refine yes_ret (lt_dec hi) ?_
    refine yes_ret (beq_t _) ?_
    refine yes_ret zle_dec ?_
    refine yes_ret (lt_dec hi) ?_
    refine yes_ret (beq_t _) ?_
    refine yes_ret (beq_t _) ?_
    refine call_to ((e3 (c.getD i MSigned.zero) k).1, ((e3 (c.getD i MSigned.zero) k).2.map iRow)) (laws_markIntS.R_eq (a0 := (((c.getD i MSigned.zero).fHead).fJudge).fList) (a1 := IntKind.i64.wrap ((IntKind.i64.wrap ((e2 (c.getD i MSigned.zero) k).1 + 1)) + 1)) (wrap_I64 _)) ?_
    refine yes_ret zle_dec ?_
    refine yes_ret (lt_dec hi) ?_
    refine yes_ret (beq_t _) ?_
    refine yes_ret zle_dec ?_
    refine yes_ret (lt_dec hi) ?_
    refine yes_ret (beq_t _) ?_
    refine yes_ret zle_dec ?_
    refine yes_ret (lt_dec hi) ?_
    refine yes_ret (beq_t _) ?_
    refine yes_ret (beq_t _) ?_
    refine call_to ((e4 (c.getD i MSigned.zero) k).1, ((e4 (c.getD i MSigned.zero) k).2.map MSig.row)) (laws_markSigS.R_eq (a0 := (c.getD i MSigned.zero).fSigs) (a1 := IntKind.i64.wrap ((IntKind.i64.wrap ((e3 (c.getD i MSigned.zero) k).1 + 1)) + 1)) (wrap_I64 _)) ?_
    rw [wrap_succ hi hm]
    exact congrArg (fun q => J (Pt.p0 (el (c.getD i MSigned.zero) k).1 ((i + 1 : Nat) : Int) q)) (List.map_set (f := MSigned.row) (l := c) (i := i) (a := (el (c.getD i MSigned.zero) k).2)).symm
  · simp only [step, S0, MKeys.rs, MHead.rs, MSigned.rs]
    refine no_ret (by apply decide_eq_false; omega) ?_
    rfl
theorem valid_ : MValid Try.prog Ev 59 con := MV (run := fun n x => start (iter step n) x.1 x.2) mix tab_ok .nil (.cons laws_markIntS.valid_ (.cons laws_markSigS.valid_ .nil)) Try.func59 (by kernel_rfl) run_eq (fun ls a hl e hg => okF a.1 a.2 hg (by have h : (ls.headD .hole).toSl.length ≤ maxLen := (hl _ _ (.head _)).len; have e : a.1.map MSigned.row = (ls.headD .hole).toSl := (congrArg (fun x => x.1) e.symm); rw [← e] at h; simpa using h))
theorem i64 {a0 : List MSigned} {a1 : Int} (h : I64 a1) : I64 (md a0 a1).1 := accM_I el_I h
theorem elk (x : MSigned) (k : Int) (h0 : 0 ≤ k) (hb : k + (cnt x : Int) ≤ 4611686018427387904) : (el x k).1 = k + cnt x := by
  simp only [cnt, Int.natCast_add] at hb ⊢
  simp (disch := omega) only [el, e1, e2, e3, e4, wi, laws_markIntS.kk, laws_markSigS.kk]
  all_goals first | done | omega
theorem kk (a0 : List MSigned) (a1 : Int) (h0 : 0 ≤ a1) (hb : a1 + (sum a0 : Int) ≤ 4611686018427387904) : (md a0 a1).1 = a1 + sum a0 := accM_sum elk a0 a1 h0 hb
theorem sz (a : List MSigned) : sum a ≤ 60 * (szL (fun y : MSigned => MSigned.size y) a) := sum_le (fun x => by
    have := laws_markIntS.sz (((x.fHead).fKeys).fList)
    have := laws_markIntS.sz (((x.fHead).fHeirs).fList)
    have := laws_markIntS.sz (((x.fHead).fJudge).fList)
    have := laws_markSigS.sz x.fSigs
    try simp only [cnt, MSigned.size, MHead.size, MKeys.size] at *
    omega) a
end laws_markSignedS
/-! laws.markStringS -/
namespace laws_markStringS
set_option maxRecDepth 100000
set_option maxHeartbeats 8000000
inductive Pt where
  | p0 (a : Int) (b : Int) (c : List (List L))
def pid : Pt → Nat
  | .p0 .. => 2
def pvs : Pt → List V
  | .p0 a b c => [.own 0, .int .i64 a, .int .i64 b]
def phs : Pt → List Root
  | .p0 a b c => [.row 9 c]
noncomputable def step (J : Pt → Ans) : Pt → Ans
  | .p0 a b c => (bif (decide (b < (c.length : Int))) then (call (laws_markText.R a) fun v1 => (bif (decide ((0 : Int) ≤ b)) then (bif (decide (b < (c.length : Int))) then J (.p0 (IntKind.i64.wrap (a + 1)) (IntKind.i64.wrap (b + 1)) (List.set c (Int.toNat b) [L.str v1])) else none) else none)) else ret ((a, c) : Int × List (List L)))
noncomputable def start (J : Pt → Ans) (x0 : List (List L)) (x1 : Int) : Ans := J (.p0 x1 0 x0)
def live : Nat → Live := fun i => match i with | 2 => [(0, none), (1, none), (5, none)] | _ => []
def pats : List (Bool × List K) := [(false, [.sl 9]), (false, [.int .i64])]
def res : RP := .chg [9]
noncomputable abbrev E : Env := { T := assoc Tab, G := conG [(114, laws_markText.con)], nt := 20, M := conM [], np := 1, mt := true }
set_option maxRecDepth 100000
theorem step_eq (I : Heads) (p : Pt) : enterC E live I (pid p) (bodyOf Try.f44) (stOf (live (pid p)) (pvs p) (phs p)) (doneK E Try.f44 res) = step (fun q => I (pid q) (pvs q) (phs q)) p := by
  cases p <;> kernel_rfl
theorem start_eq (I : Heads) (ls : List L) : runC E live I (bodyOf Try.f44) (initM pats ls) (doneK E Try.f44 res) = start (fun q => I (pid q) (pvs q) (phs q)) (ls.headD .hole).toSl ((dropT 1 ls).headD .hole).toInt := by kernel_rfl
theorem run_eq (n : Nat) (ls : List L) : runF E live Try.f44 res n (initM pats ls) = start (iter step n) (ls.headD .hole).toSl ((dropT 1 ls).headD .hole).toInt := runF_iter (id := pid) (vs := pvs) (hs := phs) (step := step) (start := fun J => start J (ls.headD .hole).toSl ((dropT 1 ls).headD .hole).toInt) step_eq (fun I => start_eq I ls) n
noncomputable def el (x : ByteArray) (k : Int) : Int × ByteArray := ((IntKind.i64.wrap (k + 1)), (laws_markText.md k))
theorem el_I (x : ByteArray) (k : Int) (hk : I64 k) : I64 (el x k).1 := (wrap_I64 _)
noncomputable def cnt (x : ByteArray) : Nat := 1
noncomputable def sum (a : List ByteArray) : Nat := (a.map cnt).sum
noncomputable def md (a0 : List ByteArray) (a1 : Int) : Int × List ByteArray := accM el a0 a1
def gd (a0 : List ByteArray) (a1 : Int) : Prop := I64 a1
def acc (ls : List L) : List (List L) × Int := ((ls.headD .hole).toSl, ((dropT 1 ls).headD .hole).toInt)
noncomputable def R : (List (List L) × Int) → Option (Int × List (List L)) := RR (p2 gd) (u2 md)
theorem R_eq {a0} {a1} (h : gd a0 a1) : R ((a0.map sRow), a1) = some ((md a0 a1).1, ((md a0 a1).2.map sRow)) := RR_eq (a := (a0, a1)) h
noncomputable def con : MCon := MN pats acc R
theorem okF (a0 : List ByteArray) (a1 : Int) (hg : gd a0 a1) (h0 : a0.length ≤ maxLen) : ∃ n, start (iter step n) (a0.map sRow) a1 = ret (((md a0 a1).1, ((md a0 a1).2.map sRow)) : Int × List (List L)) := by
  unfold gd at hg
  show ∃ n, iter step n (Pt.p0 a1 0 (a0.map sRow)) = _
  unfold md
  refine mark_loop (el := el) (xs := a0) ⟨#[]⟩ I64 el_I (pt := fun i k c => Pt.p0 k (i : Int) (c.map sRow)) (out := fun b => ret (b.1, b.2.map sRow)) (fun J i k c hi hc hk => ?_) (fun J k c hc => ?_) hg
  · have hm : c.length ≤ maxLen := hc ▸ h0
    simp only [step, S0]
    refine yes_ret (lt_dec hi) ?_
    refine call_to (laws_markText.md k) (laws_markText.R_eq (a0 := k) hk) ?_
    refine yes_ret zle_dec ?_
    refine yes_ret (lt_dec hi) ?_
    rw [wrap_succ hi hm]
    exact congrArg (fun q => J (Pt.p0 (el (c.getD i ⟨#[]⟩) k).1 ((i + 1 : Nat) : Int) q)) (List.map_set (f := sRow) (l := c) (i := i) (a := (el (c.getD i ⟨#[]⟩) k).2)).symm
  · simp only [step, S0]
    refine no_ret (by apply decide_eq_false; omega) ?_
    rfl
theorem valid_ : MValid Try.prog Ev 44 con := MV (run := fun n x => start (iter step n) x.1 x.2) mix tab_ok (.cons laws_markText.valid_ .nil) .nil Try.func44 (by kernel_rfl) run_eq (fun ls a hl e hg => okF a.1 a.2 hg (by have h : (ls.headD .hole).toSl.length ≤ maxLen := (hl _ _ (.head _)).len; have e : a.1.map sRow = (ls.headD .hole).toSl := (congrArg (fun x => x.1) e.symm); rw [← e] at h; simpa using h))
theorem i64 {a0 : List ByteArray} {a1 : Int} (h : I64 a1) : I64 (md a0 a1).1 := accM_I el_I h
theorem elk (x : ByteArray) (k : Int) (h0 : 0 ≤ k) (hb : k + (cnt x : Int) ≤ 4611686018427387904) : (el x k).1 = k + cnt x := by
  simp only [cnt, Int.natCast_add] at hb ⊢
  simp (disch := omega) only [el, wi]
  all_goals first | done | omega
theorem kk (a0 : List ByteArray) (a1 : Int) (h0 : 0 ≤ a1) (hb : a1 + (sum a0 : Int) ≤ 4611686018427387904) : (md a0 a1).1 = a1 + sum a0 := accM_sum elk a0 a1 h0 hb
theorem sz (a : List ByteArray) : sum a ≤ 60 * (szL (fun y : ByteArray => y.size) a) := sum_le (fun x => by
    try simp only [cnt] at *
    omega) a
end laws_markStringS
/-! laws.markStoredS -/
namespace laws_markStoredS
set_option maxRecDepth 100000
set_option maxHeartbeats 8000000
inductive Pt where
  | p0 (a : Int) (b : Int) (c : List (List L))
def pid : Pt → Nat
  | .p0 .. => 2
def pvs : Pt → List V
  | .p0 a b c => [.own 0, .int .i64 a, .int .i64 b]
def phs : Pt → List Root
  | .p0 a b c => [.row 220 c]
noncomputable def step (J : Pt → Ans) : Pt → Ans
  | .p0 a b c => (bif (decide (b < (c.length : Int))) then (bif (decide ((0 : Int) ≤ b)) then (bif (decide (b < (c.length : Int))) then (call (laws_markText.R (IntKind.i64.wrap (a + 1))) fun v1 => (bif (decide ((0 : Int) ≤ b)) then (bif (decide (b < (c.length : Int))) then (bif (Nat.beq (Int.toNat b) (Int.toNat b) && true) then (bif (decide ((0 : Int) ≤ b)) then (bif (decide (b < (c.length : Int))) then (bif (Nat.beq (Int.toNat b) (Int.toNat b) && true) then (bif (Nat.beq (Int.toNat b) (Int.toNat b) && true) then (call (laws_markSignedS.R ((RStored.at c (Int.toNat b)).fAnswer.fChain, (IntKind.i64.wrap ((IntKind.i64.wrap (a + 1)) + 1)))) fun v2 => (bif (decide ((0 : Int) ≤ b)) then (bif (decide (b < (c.length : Int))) then (bif (Nat.beq (Int.toNat b) (Int.toNat b) && true) then (call (laws_markText.R (IntKind.i64.wrap (v2.1 + 1))) fun v3 => (bif (decide ((0 : Int) ≤ b)) then (bif (decide (b < (c.length : Int))) then (bif (Nat.beq (Int.toNat b) (Int.toNat b) && true) then (bif (decide ((0 : Int) ≤ b)) then (bif (decide (b < (c.length : Int))) then (bif (Nat.beq (Int.toNat b) (Int.toNat b) && true) then (bif (decide ((0 : Int) ≤ b)) then (bif (decide (b < (c.length : Int))) then (bif (Nat.beq (Int.toNat b) (Int.toNat b) && true) then (bif (decide ((0 : Int) ≤ b)) then (bif (decide (b < (c.length : Int))) then (bif (Nat.beq (Int.toNat b) (Int.toNat b) && true) then (bif (Nat.beq (Int.toNat b) (Int.toNat b) && true) then (call (laws_markStringS.R ((RStored.at c (Int.toNat b)).fAnswer.fEntry.fPath, (IntKind.i64.wrap ((IntKind.i64.wrap ((IntKind.i64.wrap ((IntKind.i64.wrap (v2.1 + 1)) + 1)) + 1)) + 1)))) fun v4 => (bif (decide ((0 : Int) ≤ b)) then (bif (decide (b < (c.length : Int))) then (bif (Nat.beq (Int.toNat b) (Int.toNat b) && true) then (bif (decide ((0 : Int) ≤ b)) then (bif (decide (b < (c.length : Int))) then (bif (Nat.beq (Int.toNat b) (Int.toNat b) && true) then (bif (Nat.beq (Int.toNat b) (Int.toNat b) && true) then (call (laws_markIntS.R ((RStored.at c (Int.toNat b)).fAnswer.fProof.fPath, (IntKind.i64.wrap (v4.1 + 1)))) fun v5 => (bif (decide ((0 : Int) ≤ b)) then (bif (decide (b < (c.length : Int))) then (bif (Nat.beq (Int.toNat b) (Int.toNat b) && true) then (call (laws_markText.R (IntKind.i64.wrap (v5.1 + 1))) fun v6 => (bif (decide ((0 : Int) ≤ b)) then (bif (decide (b < (c.length : Int))) then (bif (Nat.beq (Int.toNat b) (Int.toNat b) && true) then (bif (decide ((0 : Int) ≤ b)) then (bif (decide (b < (c.length : Int))) then (bif (Nat.beq (Int.toNat b) (Int.toNat b) && true) then (bif (decide ((0 : Int) ≤ b)) then (bif (decide (b < (c.length : Int))) then (bif (Nat.beq (Int.toNat b) (Int.toNat b) && true) then (bif (decide ((0 : Int) ≤ b)) then (bif (decide (b < (c.length : Int))) then (bif (Nat.beq (Int.toNat b) (Int.toNat b) && true) then (bif (Nat.beq (Int.toNat b) (Int.toNat b) && true) then (call (laws_markStringS.R ((RStored.at c (Int.toNat b)).fAnswer.fGap.fBefore.fPath, (IntKind.i64.wrap ((IntKind.i64.wrap ((IntKind.i64.wrap ((IntKind.i64.wrap (v5.1 + 1)) + 1)) + 1)) + 1)))) fun v7 => (call (laws_markText.R v7.1) fun v8 => (bif (decide ((0 : Int) ≤ b)) then (bif (decide (b < (c.length : Int))) then (bif (Nat.beq (Int.toNat b) (Int.toNat b) && true) then (bif (decide ((0 : Int) ≤ b)) then (bif (decide (b < (c.length : Int))) then (bif (Nat.beq (Int.toNat b) (Int.toNat b) && true) then (bif (decide ((0 : Int) ≤ b)) then (bif (decide (b < (c.length : Int))) then (bif (Nat.beq (Int.toNat b) (Int.toNat b) && true) then (bif (decide ((0 : Int) ≤ b)) then (bif (decide (b < (c.length : Int))) then (bif (Nat.beq (Int.toNat b) (Int.toNat b) && true) then (bif (Nat.beq (Int.toNat b) (Int.toNat b) && true) then (call (laws_markStringS.R ((RStored.at c (Int.toNat b)).fAnswer.fGap.fAfter.fPath, (IntKind.i64.wrap ((IntKind.i64.wrap ((IntKind.i64.wrap (v7.1 + 1)) + 1)) + 1)))) fun v9 => (bif (decide ((0 : Int) ≤ b)) then (bif (decide (b < (c.length : Int))) then (bif (Nat.beq (Int.toNat b) (Int.toNat b) && true) then (bif (decide ((0 : Int) ≤ b)) then (bif (decide (b < (c.length : Int))) then (bif (Nat.beq (Int.toNat b) (Int.toNat b) && true) then (bif (Nat.beq (Int.toNat b) (Int.toNat b) && true) then (call (laws_markIntS.R ((RStored.at c (Int.toNat b)).fAnswer.fGap.fLeft.fPath, (IntKind.i64.wrap (v9.1 + 1)))) fun v10 => (bif (decide ((0 : Int) ≤ b)) then (bif (decide (b < (c.length : Int))) then (bif (Nat.beq (Int.toNat b) (Int.toNat b) && true) then (bif (decide ((0 : Int) ≤ b)) then (bif (decide (b < (c.length : Int))) then (bif (Nat.beq (Int.toNat b) (Int.toNat b) && true) then (bif (Nat.beq (Int.toNat b) (Int.toNat b) && true) then (call (laws_markIntS.R ((RStored.at c (Int.toNat b)).fAnswer.fGap.fRight.fPath, (IntKind.i64.wrap (v10.1 + 1)))) fun v11 => J (.p0 v11.1 (IntKind.i64.wrap (b + 1)) (List.set c (Int.toNat b) (RStored.enc (⟨a, v1, (⟨v2.2, ((Int.tmod v2.1 3) == 0), (⟨v3, (IntKind.i64.wrap ((IntKind.i64.wrap (v2.1 + 1)) + 1)), (IntKind.i64.wrap ((IntKind.i64.wrap ((IntKind.i64.wrap (v2.1 + 1)) + 1)) + 1)), v4.2⟩ : REntry), (⟨v4.1, v5.2⟩ : RProof), (⟨v5.1, (⟨v6, (IntKind.i64.wrap ((IntKind.i64.wrap (v5.1 + 1)) + 1)), (IntKind.i64.wrap ((IntKind.i64.wrap ((IntKind.i64.wrap (v5.1 + 1)) + 1)) + 1)), v7.2⟩ : REntry), (⟨v8, (IntKind.i64.wrap (v7.1 + 1)), (IntKind.i64.wrap ((IntKind.i64.wrap (v7.1 + 1)) + 1)), v9.2⟩ : REntry), (⟨v9.1, v10.2⟩ : RProof), (⟨v10.1, v11.2⟩ : RProof)⟩ : RGap)⟩ : RAnswer)⟩ : RStored))))) else none) else none) else none) else none) else none) else none) else none)) else none) else none) else none) else none) else none) else none) else none)) else none) else none) else none) else none) else none) else none) else none) else none) else none) else none) else none) else none) else none))) else none) else none) else none) else none) else none) else none) else none) else none) else none) else none) else none) else none) else none)) else none) else none) else none)) else none) else none) else none) else none) else none) else none) else none)) else none) else none) else none) else none) else none) else none) else none) else none) else none) else none) else none) else none) else none)) else none) else none) else none)) else none) else none) else none) else none) else none) else none) else none)) else none) else none) else ret ((a, c) : Int × List (List L)))
noncomputable def start (J : Pt → Ans) (x0 : List (List L)) (x1 : Int) : Ans := J (.p0 x1 0 x0)
def live : Nat → Live := fun i => match i with | 2 => [(0, none), (1, none), (5, none)] | _ => []
def pats : List (Bool × List K) := [(false, [.sl 220]), (false, [.int .i64])]
def res : RP := .chg [220]
noncomputable abbrev E : Env := { T := assoc Tab, G := conG [(114, laws_markText.con)], nt := 232, M := conM [(59, laws_markSignedS.con), (44, laws_markStringS.con), (142, laws_markIntS.con)], np := 1, mt := true }
set_option maxRecDepth 100000
theorem step_eq (I : Heads) (p : Pt) : enterC E live I (pid p) (bodyOf Try.f176) (stOf (live (pid p)) (pvs p) (phs p)) (doneK E Try.f176 res) = step (fun q => I (pid q) (pvs q) (phs q)) p := by
  cases p <;> kernel_rfl
theorem start_eq (I : Heads) (ls : List L) : runC E live I (bodyOf Try.f176) (initM pats ls) (doneK E Try.f176 res) = start (fun q => I (pid q) (pvs q) (phs q)) (ls.headD .hole).toSl ((dropT 1 ls).headD .hole).toInt := by kernel_rfl
theorem run_eq (n : Nat) (ls : List L) : runF E live Try.f176 res n (initM pats ls) = start (iter step n) (ls.headD .hole).toSl ((dropT 1 ls).headD .hole).toInt := runF_iter (id := pid) (vs := pvs) (hs := phs) (step := step) (start := fun J => start J (ls.headD .hole).toSl ((dropT 1 ls).headD .hole).toInt) step_eq (fun I => start_eq I ls) n
noncomputable def e1 (x : MStored) (k : Int) := laws_markSignedS.md ((x.fAnswer).fChain) (IntKind.i64.wrap ((IntKind.i64.wrap (k + 1)) + 1))
noncomputable def e2 (x : MStored) (k : Int) := laws_markStringS.md (((x.fAnswer).fEntry).fPath) (IntKind.i64.wrap ((IntKind.i64.wrap ((IntKind.i64.wrap ((IntKind.i64.wrap ((e1 x k).1 + 1)) + 1)) + 1)) + 1))
noncomputable def e3 (x : MStored) (k : Int) := laws_markIntS.md (((x.fAnswer).fProof).fPath) (IntKind.i64.wrap ((e2 x k).1 + 1))
noncomputable def e4 (x : MStored) (k : Int) := laws_markStringS.md ((((x.fAnswer).fGap).fBefore).fPath) (IntKind.i64.wrap ((IntKind.i64.wrap ((IntKind.i64.wrap ((IntKind.i64.wrap ((e3 x k).1 + 1)) + 1)) + 1)) + 1))
noncomputable def e5 (x : MStored) (k : Int) := laws_markStringS.md ((((x.fAnswer).fGap).fAfter).fPath) (IntKind.i64.wrap ((IntKind.i64.wrap ((IntKind.i64.wrap ((e4 x k).1 + 1)) + 1)) + 1))
noncomputable def e6 (x : MStored) (k : Int) := laws_markIntS.md ((((x.fAnswer).fGap).fLeft).fPath) (IntKind.i64.wrap ((e5 x k).1 + 1))
noncomputable def e7 (x : MStored) (k : Int) := laws_markIntS.md ((((x.fAnswer).fGap).fRight).fPath) (IntKind.i64.wrap ((e6 x k).1 + 1))
noncomputable def el (x : MStored) (k : Int) : Int × MStored := ((e7 x k).1, (⟨k, (laws_markText.md (IntKind.i64.wrap (k + 1))), (⟨(e1 x k).2, ((Int.tmod (e1 x k).1 3) == 0), (⟨(laws_markText.md (IntKind.i64.wrap ((e1 x k).1 + 1))), (IntKind.i64.wrap ((IntKind.i64.wrap ((e1 x k).1 + 1)) + 1)), (IntKind.i64.wrap ((IntKind.i64.wrap ((IntKind.i64.wrap ((e1 x k).1 + 1)) + 1)) + 1)), (e2 x k).2⟩ : MEntry), (⟨(e2 x k).1, (e3 x k).2⟩ : MProof), (⟨(e3 x k).1, (⟨(laws_markText.md (IntKind.i64.wrap ((e3 x k).1 + 1))), (IntKind.i64.wrap ((IntKind.i64.wrap ((e3 x k).1 + 1)) + 1)), (IntKind.i64.wrap ((IntKind.i64.wrap ((IntKind.i64.wrap ((e3 x k).1 + 1)) + 1)) + 1)), (e4 x k).2⟩ : MEntry), (⟨(laws_markText.md ((e4 x k).1)), (IntKind.i64.wrap ((e4 x k).1 + 1)), (IntKind.i64.wrap ((IntKind.i64.wrap ((e4 x k).1 + 1)) + 1)), (e5 x k).2⟩ : MEntry), (⟨(e5 x k).1, (e6 x k).2⟩ : MProof), (⟨(e6 x k).1, (e7 x k).2⟩ : MProof)⟩ : MGap)⟩ : MAnswer)⟩ : MStored))
theorem el_I (x : MStored) (k : Int) (hk : I64 k) : I64 (el x k).1 := (laws_markIntS.i64 (wrap_I64 _))
noncomputable def cnt (x : MStored) : Nat := 16 + laws_markSignedS.sum ((x.fAnswer).fChain) + laws_markStringS.sum (((x.fAnswer).fEntry).fPath) + laws_markIntS.sum (((x.fAnswer).fProof).fPath) + laws_markStringS.sum ((((x.fAnswer).fGap).fBefore).fPath) + laws_markStringS.sum ((((x.fAnswer).fGap).fAfter).fPath) + laws_markIntS.sum ((((x.fAnswer).fGap).fLeft).fPath) + laws_markIntS.sum ((((x.fAnswer).fGap).fRight).fPath)
noncomputable def sum (a : List MStored) : Nat := (a.map cnt).sum
noncomputable def md (a0 : List MStored) (a1 : Int) : Int × List MStored := accM el a0 a1
def gd (a0 : List MStored) (a1 : Int) : Prop := I64 a1
def acc (ls : List L) : List (List L) × Int := ((ls.headD .hole).toSl, ((dropT 1 ls).headD .hole).toInt)
noncomputable def R : (List (List L) × Int) → Option (Int × List (List L)) := RR (p2 gd) (u2 md)
theorem R_eq {a0} {a1} (h : gd a0 a1) : R ((a0.map MStored.row), a1) = some ((md a0 a1).1, ((md a0 a1).2.map MStored.row)) := RR_eq (a := (a0, a1)) h
noncomputable def con : MCon := MN pats acc R
theorem okF (a0 : List MStored) (a1 : Int) (hg : gd a0 a1) (h0 : a0.length ≤ maxLen) : ∃ n, start (iter step n) (a0.map MStored.row) a1 = ret (((md a0 a1).1, ((md a0 a1).2.map MStored.row)) : Int × List (List L)) := by
  unfold gd at hg
  show ∃ n, iter step n (Pt.p0 a1 0 (a0.map MStored.row)) = _
  unfold md
  refine mark_loop (el := el) (xs := a0) MStored.zero I64 el_I (pt := fun i k c => Pt.p0 k (i : Int) (c.map MStored.row)) (out := fun b => ret (b.1, b.2.map MStored.row)) (fun J i k c hi hc hk => ?_) (fun J k c hc => ?_) hg
  · have hm : c.length ≤ maxLen := hc ▸ h0
    simp only [step, S0, MEntry.rs, MProof.rs, MGap.rs, MAnswer.rs, MStored.rs]
    refine yes_ret (lt_dec hi) ?_
    refine yes_ret zle_dec ?_
    refine yes_ret (lt_dec hi) ?_
    refine call_to (laws_markText.md (IntKind.i64.wrap (k + 1))) (laws_markText.R_eq (a0 := IntKind.i64.wrap (k + 1)) (wrap_I64 _)) ?_
    refine yes_ret zle_dec ?_
    refine yes_ret (lt_dec hi) ?_
    refine yes_ret (beq_t _) ?_
    refine yes_ret zle_dec ?_
    refine yes_ret (lt_dec hi) ?_
    refine yes_ret (beq_t _) ?_
    refine yes_ret (beq_t _) ?_
    refine call_to ((e1 (c.getD i MStored.zero) k).1, ((e1 (c.getD i MStored.zero) k).2.map MSigned.row)) (laws_markSignedS.R_eq (a0 := ((c.getD i MStored.zero).fAnswer).fChain) (a1 := IntKind.i64.wrap ((IntKind.i64.wrap (k + 1)) + 1)) (wrap_I64 _)) ?_
    refine yes_ret zle_dec ?_
    refine yes_ret (lt_dec hi) ?_
    refine yes_ret (beq_t _) ?_
    refine call_to (laws_markText.md (IntKind.i64.wrap ((e1 (c.getD i MStored.zero) k).1 + 1))) (laws_markText.R_eq (a0 := IntKind.i64.wrap ((e1 (c.getD i MStored.zero) k).1 + 1)) (wrap_I64 _)) ?_
    refine yes_ret zle_dec ?_
    refine yes_ret (lt_dec hi) ?_
    refine yes_ret (beq_t _) ?_
    refine yes_ret zle_dec ?_
    refine yes_ret (lt_dec hi) ?_
    refine yes_ret (beq_t _) ?_
    refine yes_ret zle_dec ?_
    refine yes_ret (lt_dec hi) ?_
    refine yes_ret (beq_t _) ?_
    refine yes_ret zle_dec ?_
    refine yes_ret (lt_dec hi) ?_
    refine yes_ret (beq_t _) ?_
    refine yes_ret (beq_t _) ?_
    refine call_to ((e2 (c.getD i MStored.zero) k).1, ((e2 (c.getD i MStored.zero) k).2.map sRow)) (laws_markStringS.R_eq (a0 := (((c.getD i MStored.zero).fAnswer).fEntry).fPath) (a1 := IntKind.i64.wrap ((IntKind.i64.wrap ((IntKind.i64.wrap ((IntKind.i64.wrap ((e1 (c.getD i MStored.zero) k).1 + 1)) + 1)) + 1)) + 1)) (wrap_I64 _)) ?_
    refine yes_ret zle_dec ?_
    refine yes_ret (lt_dec hi) ?_
    refine yes_ret (beq_t _) ?_
    refine yes_ret zle_dec ?_
    refine yes_ret (lt_dec hi) ?_
    refine yes_ret (beq_t _) ?_
    refine yes_ret (beq_t _) ?_
    refine call_to ((e3 (c.getD i MStored.zero) k).1, ((e3 (c.getD i MStored.zero) k).2.map iRow)) (laws_markIntS.R_eq (a0 := (((c.getD i MStored.zero).fAnswer).fProof).fPath) (a1 := IntKind.i64.wrap ((e2 (c.getD i MStored.zero) k).1 + 1)) (wrap_I64 _)) ?_
    refine yes_ret zle_dec ?_
    refine yes_ret (lt_dec hi) ?_
    refine yes_ret (beq_t _) ?_
    refine call_to (laws_markText.md (IntKind.i64.wrap ((e3 (c.getD i MStored.zero) k).1 + 1))) (laws_markText.R_eq (a0 := IntKind.i64.wrap ((e3 (c.getD i MStored.zero) k).1 + 1)) (wrap_I64 _)) ?_
    refine yes_ret zle_dec ?_
    refine yes_ret (lt_dec hi) ?_
    refine yes_ret (beq_t _) ?_
    refine yes_ret zle_dec ?_
    refine yes_ret (lt_dec hi) ?_
    refine yes_ret (beq_t _) ?_
    refine yes_ret zle_dec ?_
    refine yes_ret (lt_dec hi) ?_
    refine yes_ret (beq_t _) ?_
    refine yes_ret zle_dec ?_
    refine yes_ret (lt_dec hi) ?_
    refine yes_ret (beq_t _) ?_
    refine yes_ret (beq_t _) ?_
    refine call_to ((e4 (c.getD i MStored.zero) k).1, ((e4 (c.getD i MStored.zero) k).2.map sRow)) (laws_markStringS.R_eq (a0 := ((((c.getD i MStored.zero).fAnswer).fGap).fBefore).fPath) (a1 := IntKind.i64.wrap ((IntKind.i64.wrap ((IntKind.i64.wrap ((IntKind.i64.wrap ((e3 (c.getD i MStored.zero) k).1 + 1)) + 1)) + 1)) + 1)) (wrap_I64 _)) ?_
    refine call_to (laws_markText.md ((e4 (c.getD i MStored.zero) k).1)) (laws_markText.R_eq (a0 := (e4 (c.getD i MStored.zero) k).1) (laws_markStringS.i64 (wrap_I64 _))) ?_
    refine yes_ret zle_dec ?_
    refine yes_ret (lt_dec hi) ?_
    refine yes_ret (beq_t _) ?_
    refine yes_ret zle_dec ?_
    refine yes_ret (lt_dec hi) ?_
    refine yes_ret (beq_t _) ?_
    refine yes_ret zle_dec ?_
    refine yes_ret (lt_dec hi) ?_
    refine yes_ret (beq_t _) ?_
    refine yes_ret zle_dec ?_
    refine yes_ret (lt_dec hi) ?_
    refine yes_ret (beq_t _) ?_
    refine yes_ret (beq_t _) ?_
    refine call_to ((e5 (c.getD i MStored.zero) k).1, ((e5 (c.getD i MStored.zero) k).2.map sRow)) (laws_markStringS.R_eq (a0 := ((((c.getD i MStored.zero).fAnswer).fGap).fAfter).fPath) (a1 := IntKind.i64.wrap ((IntKind.i64.wrap ((IntKind.i64.wrap ((e4 (c.getD i MStored.zero) k).1 + 1)) + 1)) + 1)) (wrap_I64 _)) ?_
    refine yes_ret zle_dec ?_
    refine yes_ret (lt_dec hi) ?_
    refine yes_ret (beq_t _) ?_
    refine yes_ret zle_dec ?_
    refine yes_ret (lt_dec hi) ?_
    refine yes_ret (beq_t _) ?_
    refine yes_ret (beq_t _) ?_
    refine call_to ((e6 (c.getD i MStored.zero) k).1, ((e6 (c.getD i MStored.zero) k).2.map iRow)) (laws_markIntS.R_eq (a0 := ((((c.getD i MStored.zero).fAnswer).fGap).fLeft).fPath) (a1 := IntKind.i64.wrap ((e5 (c.getD i MStored.zero) k).1 + 1)) (wrap_I64 _)) ?_
    refine yes_ret zle_dec ?_
    refine yes_ret (lt_dec hi) ?_
    refine yes_ret (beq_t _) ?_
    refine yes_ret zle_dec ?_
    refine yes_ret (lt_dec hi) ?_
    refine yes_ret (beq_t _) ?_
    refine yes_ret (beq_t _) ?_
    refine call_to ((e7 (c.getD i MStored.zero) k).1, ((e7 (c.getD i MStored.zero) k).2.map iRow)) (laws_markIntS.R_eq (a0 := ((((c.getD i MStored.zero).fAnswer).fGap).fRight).fPath) (a1 := IntKind.i64.wrap ((e6 (c.getD i MStored.zero) k).1 + 1)) (wrap_I64 _)) ?_
    rw [wrap_succ hi hm]
    exact congrArg (fun q => J (Pt.p0 (el (c.getD i MStored.zero) k).1 ((i + 1 : Nat) : Int) q)) (List.map_set (f := MStored.row) (l := c) (i := i) (a := (el (c.getD i MStored.zero) k).2)).symm
  · simp only [step, S0, MEntry.rs, MProof.rs, MGap.rs, MAnswer.rs, MStored.rs]
    refine no_ret (by apply decide_eq_false; omega) ?_
    rfl
theorem valid_ : MValid Try.prog Ev 176 con := MV (run := fun n x => start (iter step n) x.1 x.2) mix tab_ok (.cons laws_markText.valid_ .nil) (.cons laws_markSignedS.valid_ (.cons laws_markStringS.valid_ (.cons laws_markIntS.valid_ .nil))) Try.func176 (by kernel_rfl) run_eq (fun ls a hl e hg => okF a.1 a.2 hg (by have h : (ls.headD .hole).toSl.length ≤ maxLen := (hl _ _ (.head _)).len; have e : a.1.map MStored.row = (ls.headD .hole).toSl := (congrArg (fun x => x.1) e.symm); rw [← e] at h; simpa using h))
theorem i64 {a0 : List MStored} {a1 : Int} (h : I64 a1) : I64 (md a0 a1).1 := accM_I el_I h
theorem elk (x : MStored) (k : Int) (h0 : 0 ≤ k) (hb : k + (cnt x : Int) ≤ 4611686018427387904) : (el x k).1 = k + cnt x := by
  simp only [cnt, Int.natCast_add] at hb ⊢
  simp (disch := omega) only [el, e1, e2, e3, e4, e5, e6, e7, wi, laws_markSignedS.kk, laws_markStringS.kk, laws_markIntS.kk]
  all_goals first | done | omega
theorem kk (a0 : List MStored) (a1 : Int) (h0 : 0 ≤ a1) (hb : a1 + (sum a0 : Int) ≤ 4611686018427387904) : (md a0 a1).1 = a1 + sum a0 := accM_sum elk a0 a1 h0 hb
theorem sz (a : List MStored) : sum a ≤ 60 * (szL (fun y : MStored => MStored.size y) a) := sum_le (fun x => by
    have := laws_markSignedS.sz ((x.fAnswer).fChain)
    have := laws_markStringS.sz (((x.fAnswer).fEntry).fPath)
    have := laws_markIntS.sz (((x.fAnswer).fProof).fPath)
    have := laws_markStringS.sz ((((x.fAnswer).fGap).fBefore).fPath)
    have := laws_markStringS.sz ((((x.fAnswer).fGap).fAfter).fPath)
    have := laws_markIntS.sz ((((x.fAnswer).fGap).fLeft).fPath)
    have := laws_markIntS.sz ((((x.fAnswer).fGap).fRight).fPath)
    try simp only [cnt, MStored.size, MAnswer.size, MEntry.size, MProof.size, MGap.size] at *
    omega) a
end laws_markStoredS
/-! laws.markCache -/
namespace laws_markCache
set_option maxRecDepth 100000
set_option maxHeartbeats 8000000
noncomputable def F (x0 : RCache) (x1 : Int) : Ans := (call (laws_markStoredS.R (x0.fList, x1)) fun v1 => ret ((v1.1, v1.2) : Int × List (List L)))
def pats : List (Bool × List K) := [(true, [.sl 220]), (false, [.int .i64])]
def res : RP := .chg [220]
noncomputable abbrev E : Env := { T := assoc Tab, G := conG [], nt := 10, M := conM [(176, laws_markStoredS.con)], np := 1, mt := true }
set_option maxRecDepth 100000
theorem run_eq (n : Nat) (ls : List L) : runF E (fun _ => []) Try.f92 res n (initM pats ls) = F (RCache.dec ls) ((dropT 1 ls).headD .hole).toInt := by kernel_rfl
noncomputable def e1 (x : MCache) (k : Int) := laws_markStoredS.md x.fList k
noncomputable def sum (x : MCache) : Nat := 0 + laws_markStoredS.sum x.fList
noncomputable def md (a0 : MCache) (a1 : Int) : Int × List MStored := ((e1 a0 a1).1, (e1 a0 a1).2)
def gd (a0 : MCache) (a1 : Int) : Prop := I64 a1
def acc (ls : List L) : RCache × Int := ((RCache.dec ls), ((dropT 1 ls).headD .hole).toInt)
noncomputable def R : (RCache × Int) → Option (Int × List (List L)) := RR (p2 gd) (u2 md)
theorem R_eq {a0} {a1} (h : gd a0 a1) : R ((MCache.r a0), a1) = some ((md a0 a1).1, ((md a0 a1).2.map MStored.row)) := RR_eq (a := (a0, a1)) h
noncomputable def con : MCon := MN pats acc R
theorem okF (a0 : MCache) (a1 : Int) (hg : gd a0 a1) : F (MCache.r a0) a1 = ret (((md a0 a1).1, ((md a0 a1).2.map MStored.row)) : Int × List (List L)) := by
  unfold gd at hg
  simp only [F, S0, MKeys.rs, MCache.rs]
  unfold md
  refine call_to ((e1 a0 a1).1, ((e1 a0 a1).2.map MStored.row)) (laws_markStoredS.R_eq (a0 := a0.fList) (a1 := a1) hg) ?_
  first | rfl | (simp only [S0, MKeys.rs, MCache.rs]; rfl)
theorem valid_ : MValid Try.prog Ev 92 con := MV (run := fun _ x => F x.1 x.2) mix tab_ok .nil (.cons laws_markStoredS.valid_ .nil) Try.func92 (by kernel_rfl) run_eq (fun _ a _ _ hg => ⟨0, okF a.1 a.2 hg⟩)
theorem i64 {a0 : MCache} {a1 : Int} (hk : I64 a1) : I64 (md a0 a1).1 := (laws_markStoredS.i64 hk)
theorem kk (x : MCache) (k : Int) (h0 : 0 ≤ k) (hb : k + (sum x : Int) ≤ 4611686018427387904) : (md x k).1 = k + sum x := by
  simp only [sum, Int.natCast_add] at hb ⊢
  simp (disch := omega) only [md, e1, wi, laws_markStoredS.kk]
  all_goals first | done | omega
theorem sz (x : MCache) : sum x ≤ 60 * MCache.size x := by
    have := laws_markStoredS.sz x.fList
    try simp only [sum, MCache.size] at *
    omega
noncomputable def upd (x : MCache) (k : Int) : MCache := (⟨(md x k).2⟩ : MCache)
end laws_markCache
/-! laws.markEntry -/
namespace laws_markEntry
set_option maxRecDepth 100000
set_option maxHeartbeats 8000000
noncomputable def F (x0 : REntry) (x1 : Int) : Ans := (call (laws_markStringS.R (x0.fPath, x1)) fun v1 => ret ((v1.1, v1.2) : Int × List (List L)))
def pats : List (Bool × List K) := [(true, [.str, .int .i64, .int .i64, .sl 9]), (false, [.int .i64])]
def res : RP := .chg [9]
noncomputable abbrev E : Env := { T := assoc Tab, G := conG [], nt := 10, M := conM [(44, laws_markStringS.con)], np := 1, mt := true }
set_option maxRecDepth 100000
theorem run_eq (n : Nat) (ls : List L) : runF E (fun _ => []) Try.f45 res n (initM pats ls) = F (REntry.dec ls) ((dropT 4 ls).headD .hole).toInt := by kernel_rfl
noncomputable def e1 (x : MEntry) (k : Int) := laws_markStringS.md x.fPath k
noncomputable def sum (x : MEntry) : Nat := 0 + laws_markStringS.sum x.fPath
noncomputable def md (a0 : MEntry) (a1 : Int) : Int × List ByteArray := ((e1 a0 a1).1, (e1 a0 a1).2)
def gd (a0 : MEntry) (a1 : Int) : Prop := I64 a1
def acc (ls : List L) : REntry × Int := ((REntry.dec ls), ((dropT 4 ls).headD .hole).toInt)
noncomputable def R : (REntry × Int) → Option (Int × List (List L)) := RR (p2 gd) (u2 md)
theorem R_eq {a0} {a1} (h : gd a0 a1) : R ((MEntry.r a0), a1) = some ((md a0 a1).1, ((md a0 a1).2.map sRow)) := RR_eq (a := (a0, a1)) h
noncomputable def con : MCon := MN pats acc R
theorem okF (a0 : MEntry) (a1 : Int) (hg : gd a0 a1) : F (MEntry.r a0) a1 = ret (((md a0 a1).1, ((md a0 a1).2.map sRow)) : Int × List (List L)) := by
  unfold gd at hg
  simp only [F, S0, MEntry.rs]
  unfold md
  refine call_to ((e1 a0 a1).1, ((e1 a0 a1).2.map sRow)) (laws_markStringS.R_eq (a0 := a0.fPath) (a1 := a1) hg) ?_
  first | rfl | (simp only [S0, MEntry.rs]; rfl)
theorem valid_ : MValid Try.prog Ev 45 con := MV (run := fun _ x => F x.1 x.2) mix tab_ok .nil (.cons laws_markStringS.valid_ .nil) Try.func45 (by kernel_rfl) run_eq (fun _ a _ _ hg => ⟨0, okF a.1 a.2 hg⟩)
theorem i64 {a0 : MEntry} {a1 : Int} (hk : I64 a1) : I64 (md a0 a1).1 := (laws_markStringS.i64 hk)
theorem kk (x : MEntry) (k : Int) (h0 : 0 ≤ k) (hb : k + (sum x : Int) ≤ 4611686018427387904) : (md x k).1 = k + sum x := by
  simp only [sum, Int.natCast_add] at hb ⊢
  simp (disch := omega) only [md, e1, wi, laws_markStringS.kk]
  all_goals first | done | omega
theorem sz (x : MEntry) : sum x ≤ 60 * MEntry.size x := by
    have := laws_markStringS.sz x.fPath
    try simp only [sum, MEntry.size] at *
    omega
noncomputable def upd (x : MEntry) (k : Int) : MEntry := (⟨x.fLabel, x.fKind, x.fValue, (md x k).2⟩ : MEntry)
end laws_markEntry
/-! laws.markProof -/
namespace laws_markProof
set_option maxRecDepth 100000
set_option maxHeartbeats 8000000
noncomputable def F (x0 : RProof) (x1 : Int) : Ans := (call (laws_markIntS.R (x0.fPath, x1)) fun v1 => ret ((v1.1, v1.2) : Int × List (List L)))
def pats : List (Bool × List K) := [(true, [.int .i64, .sl 3]), (false, [.int .i64])]
def res : RP := .chg [3]
noncomputable abbrev E : Env := { T := assoc Tab, G := conG [], nt := 10, M := conM [(142, laws_markIntS.con)], np := 1, mt := true }
set_option maxRecDepth 100000
theorem run_eq (n : Nat) (ls : List L) : runF E (fun _ => []) Try.f177 res n (initM pats ls) = F (RProof.dec ls) ((dropT 2 ls).headD .hole).toInt := by kernel_rfl
noncomputable def e1 (x : MProof) (k : Int) := laws_markIntS.md x.fPath k
noncomputable def sum (x : MProof) : Nat := 0 + laws_markIntS.sum x.fPath
noncomputable def md (a0 : MProof) (a1 : Int) : Int × List Int := ((e1 a0 a1).1, (e1 a0 a1).2)
def gd (a0 : MProof) (a1 : Int) : Prop := I64 a1
def acc (ls : List L) : RProof × Int := ((RProof.dec ls), ((dropT 2 ls).headD .hole).toInt)
noncomputable def R : (RProof × Int) → Option (Int × List (List L)) := RR (p2 gd) (u2 md)
theorem R_eq {a0} {a1} (h : gd a0 a1) : R ((MProof.r a0), a1) = some ((md a0 a1).1, ((md a0 a1).2.map iRow)) := RR_eq (a := (a0, a1)) h
noncomputable def con : MCon := MN pats acc R
theorem okF (a0 : MProof) (a1 : Int) (hg : gd a0 a1) : F (MProof.r a0) a1 = ret (((md a0 a1).1, ((md a0 a1).2.map iRow)) : Int × List (List L)) := by
  unfold gd at hg
  simp only [F, S0, MProof.rs]
  unfold md
  refine call_to ((e1 a0 a1).1, ((e1 a0 a1).2.map iRow)) (laws_markIntS.R_eq (a0 := a0.fPath) (a1 := a1) hg) ?_
  first | rfl | (simp only [S0, MProof.rs]; rfl)
theorem valid_ : MValid Try.prog Ev 177 con := MV (run := fun _ x => F x.1 x.2) mix tab_ok .nil (.cons laws_markIntS.valid_ .nil) Try.func177 (by kernel_rfl) run_eq (fun _ a _ _ hg => ⟨0, okF a.1 a.2 hg⟩)
theorem i64 {a0 : MProof} {a1 : Int} (hk : I64 a1) : I64 (md a0 a1).1 := (laws_markIntS.i64 hk)
theorem kk (x : MProof) (k : Int) (h0 : 0 ≤ k) (hb : k + (sum x : Int) ≤ 4611686018427387904) : (md x k).1 = k + sum x := by
  simp only [sum, Int.natCast_add] at hb ⊢
  simp (disch := omega) only [md, e1, wi, laws_markIntS.kk]
  all_goals first | done | omega
theorem sz (x : MProof) : sum x ≤ 60 * MProof.size x := by
    have := laws_markIntS.sz x.fPath
    try simp only [sum, MProof.size] at *
    omega
noncomputable def upd (x : MProof) (k : Int) : MProof := (⟨x.fAt, (md x k).2⟩ : MProof)
end laws_markProof
end Go.DM
