/- What the functions compute that the law reaches, and that the law returns true. Conditions: none. -/
import Derived.Test.YtedhlofhkcggpaaTy
import Derived.Test.YtedhlofhkcggpaaProg
import Derived.Lib.AppendZerosOnto
import Derived.Lib.Bytealg
import Derived.Laws.Externs
import Derived.Lib.Walk
import Derived.Lib.Hide
import Derived.Lib.Strings
set_option linter.all false
namespace Go.DM
open Go.Proofs
def Tab : List (Nat × TI) := [
  (2, ⟨[.int .i64], false, [], 8, false⟩),
  (3, ⟨[.int .i64], false, [], 8, false⟩),
  (4, ⟨[.bool], false, [], 1, false⟩),
  (5, ⟨[.int .u8], false, [], 1, false⟩),
  (6, ⟨[.int .u8], false, [], 1, false⟩),
  (7, ⟨[.int .i64, .int .i64, .bool, .int .u8], true, [(0, 2), (1, 3), (2, 4), (3, 6)], 24, false⟩),
  (8, ⟨[.int .i64, .int .i64, .bool, .int .u8], true, [(0, 2), (1, 3), (2, 4), (3, 6)], 24, false⟩),
  (9, ⟨[.str], false, [], 16, false⟩),
  (10, ⟨[.str], false, [], 16, false⟩),
  (11, ⟨[.str], false, [], 16, false⟩),
  (12, ⟨[.int .u64], false, [], 8, false⟩),
  (13, ⟨[.str, .int .u64], true, [(0, 9), (1, 12)], 24, false⟩),
  (14, ⟨[.str, .int .u64], true, [(0, 9), (1, 12)], 24, false⟩),
  (21, ⟨[.int .i32], false, [], 4, false⟩),
  (22, ⟨[.sl 140], false, [], 24, false⟩),
  (25, ⟨[.sl 142], false, [], 24, false⟩),
  (29, ⟨[.sl 149], false, [], 24, false⟩),
  (32, ⟨[.sl 150], false, [], 24, false⟩),
  (36, ⟨[.sl 9], false, [], 24, false⟩),
  (37, ⟨[.str, .int .i64, .int .i64, .sl 9], true, [(0, 9), (1, 3), (2, 3), (3, 36)], 56, false⟩),
  (38, ⟨[.str, .int .i64, .int .i64, .sl 9], true, [(0, 9), (1, 3), (2, 3), (3, 36)], 56, false⟩),
  (39, ⟨[.sl 38], false, [], 24, false⟩),
  (40, ⟨[.int .i64, .str, .int .i64, .int .i64, .sl 9, .sl 38], true, [(0, 3), (1, 38), (5, 39)], 88, false⟩),
  (41, ⟨[.int .i64, .str, .int .i64, .int .i64, .sl 9, .sl 38], true, [(0, 3), (1, 38), (5, 39)], 88, false⟩),
  (44, ⟨[.str, .int .i64, .int .i64, .sl 9], true, [(0, 9), (1, 3), (2, 3), (3, 36)], 56, false⟩),
  (45, ⟨[.sl 44], false, [], 24, false⟩),
  (46, ⟨[.int .i64, .str, .int .i64, .int .i64, .sl 9, .sl 44], true, [(0, 3), (1, 44), (5, 45)], 88, false⟩),
  (47, ⟨[.int .i64, .str, .int .i64, .int .i64, .sl 9, .sl 44], true, [(0, 3), (1, 44), (5, 45)], 88, false⟩),
  (55, ⟨[.sl 162], false, [], 24, false⟩),
  (60, ⟨[.sl 166], false, [], 24, false⟩),
  (74, ⟨[.sl 92], false, [], 24, false⟩),
  (75, ⟨[.sl 238], false, [], 24, false⟩),
  (76, ⟨[.sl 92, .sl 238], true, [(0, 74), (1, 75)], 48, false⟩),
  (77, ⟨[.sl 92, .sl 238], true, [(0, 74), (1, 75)], 48, false⟩),
  (79, ⟨[.sl 184], false, [], 24, false⟩),
  (82, ⟨[.sl 79], false, [], 24, false⟩),
  (83, ⟨[.sl 241], false, [], 24, false⟩),
  (84, ⟨[.sl 79, .sl 241], true, [(0, 82), (1, 83)], 48, false⟩),
  (85, ⟨[.sl 79, .sl 241], true, [(0, 82), (1, 83)], 48, false⟩),
  (92, ⟨[.sl 197], false, [], 24, false⟩),
  (94, ⟨[.sl 202], false, [], 24, false⟩),
  (100, ⟨[.sl 207], false, [], 24, false⟩),
  (102, ⟨[.sl 121], false, [], 24, false⟩),
  (104, ⟨[.sl 210], false, [], 24, false⟩),
  (117, ⟨[.sl 263], false, [], 24, false⟩),
  (118, ⟨[.sl 263], true, [(0, 117)], 24, false⟩),
  (119, ⟨[.sl 263], true, [(0, 117)], 24, false⟩),
  (121, ⟨[.sl 3], false, [], 24, false⟩),
  (122, ⟨[.int .i64, .sl 3], true, [(0, 3), (1, 121)], 32, false⟩),
  (123, ⟨[.int .i64, .sl 3], true, [(0, 3), (1, 121)], 32, false⟩),
  (124, ⟨[.int .i64, .str, .int .i64, .int .i64, .sl 9, .str, .int .i64, .int .i64, .sl 9, .int .i64, .sl 3, .int .i64, .sl 3], true, [(0, 3), (1, 44), (5, 44), (9, 123), (11, 123)], 184, false⟩),
  (125, ⟨[.int .i64, .str, .int .i64, .int .i64, .sl 9, .str, .int .i64, .int .i64, .sl 9, .int .i64, .sl 3, .int .i64, .sl 3], true, [(0, 3), (1, 44), (5, 44), (9, 123), (11, 123)], 184, false⟩),
  (126, ⟨[.sl 184, .bool, .str, .int .i64, .int .i64, .sl 9, .int .i64, .sl 3, .int .i64, .str, .int .i64, .int .i64, .sl 9, .str, .int .i64, .int .i64, .sl 9, .int .i64, .sl 3, .int .i64, .sl 3], true, [(0, 79), (1, 4), (2, 44), (6, 123), (8, 125)], 304, false⟩),
  (127, ⟨[.sl 184, .bool, .str, .int .i64, .int .i64, .sl 9, .int .i64, .sl 3, .int .i64, .str, .int .i64, .int .i64, .sl 9, .str, .int .i64, .int .i64, .sl 9, .int .i64, .sl 3, .int .i64, .sl 3], true, [(0, 79), (1, 4), (2, 44), (6, 123), (8, 125)], 304, false⟩),
  (129, ⟨[.sl 220], false, [], 24, false⟩),
  (130, ⟨[.sl 220], true, [(0, 129)], 24, false⟩),
  (131, ⟨[.sl 220], true, [(0, 129)], 24, false⟩),
  (139, ⟨[.str, .int .i64], true, [(0, 9), (1, 3)], 24, false⟩),
  (140, ⟨[.str, .int .i64], true, [(0, 9), (1, 3)], 24, true⟩),
  (142, ⟨[.str, .int .i64], true, [(0, 9), (1, 3)], 24, true⟩),
  (149, ⟨[.str, .int .i64], true, [(0, 9), (1, 3)], 24, true⟩),
  (150, ⟨[.str, .int .i64], true, [(0, 9), (1, 3)], 24, true⟩),
  (161, ⟨[.sl 9, .str, .int .i64, .int .i64, .sl 9], true, [(0, 36), (1, 38)], 80, false⟩),
  (162, ⟨[.sl 9, .str, .int .i64, .int .i64, .sl 9], true, [(0, 36), (1, 38)], 80, false⟩),
  (165, ⟨[.sl 9, .str, .int .i64, .int .i64, .sl 9], true, [(0, 36), (1, 44)], 80, false⟩),
  (166, ⟨[.sl 9, .str, .int .i64, .int .i64, .sl 9], true, [(0, 36), (1, 44)], 80, false⟩),
  (178, ⟨[.sl 3, .int .i64], true, [(0, 121), (1, 3)], 32, false⟩),
  (179, ⟨[.sl 3, .int .i64], true, [(0, 121), (1, 3)], 32, false⟩),
  (180, ⟨[.int .i64, .int .i64, .int .i64, .int .i64, .int .i64, .int .i64, .int .i64, .int .i64, .sl 3, .int .i64, .sl 3, .int .i64, .int .i64, .sl 3, .int .i64, .bool], true, [(0, 3), (1, 3), (2, 3), (3, 3), (4, 3), (5, 3), (6, 3), (7, 3), (8, 179), (10, 179), (12, 3), (13, 179), (15, 4)], 176, false⟩),
  (181, ⟨[.int .i64, .int .i64, .int .i64, .int .i64, .int .i64, .int .i64, .int .i64, .int .i64, .sl 3, .int .i64, .sl 3, .int .i64, .int .i64, .sl 3, .int .i64, .bool], true, [(0, 3), (1, 3), (2, 3), (3, 3), (4, 3), (5, 3), (6, 3), (7, 3), (8, 179), (10, 179), (12, 3), (13, 179), (15, 4)], 176, false⟩),
  (182, ⟨[.sl 248], false, [], 24, false⟩),
  (183, ⟨[.int .i64, .int .i64, .int .i64, .int .i64, .int .i64, .int .i64, .int .i64, .int .i64, .sl 3, .int .i64, .sl 3, .int .i64, .int .i64, .sl 3, .int .i64, .bool, .sl 248], true, [(0, 181), (16, 182)], 200, false⟩),
  (184, ⟨[.int .i64, .int .i64, .int .i64, .int .i64, .int .i64, .int .i64, .int .i64, .int .i64, .sl 3, .int .i64, .sl 3, .int .i64, .int .i64, .sl 3, .int .i64, .bool, .sl 248], true, [(0, 181), (16, 182)], 200, false⟩),
  (192, ⟨[.sl 3, .int .i64], true, [(0, 121), (1, 3)], 32, false⟩),
  (193, ⟨[.int .i64, .int .i64, .int .i64, .int .i64, .int .i64, .int .i64, .int .i64, .int .i64, .sl 3, .int .i64, .sl 3, .int .i64, .int .i64, .sl 3, .int .i64, .bool], true, [(0, 3), (1, 3), (2, 3), (3, 3), (4, 3), (5, 3), (6, 3), (7, 3), (8, 192), (10, 192), (12, 3), (13, 192), (15, 4)], 176, false⟩),
  (194, ⟨[.int .i64, .int .i64, .int .i64, .int .i64, .int .i64, .int .i64, .int .i64, .int .i64, .sl 3, .int .i64, .sl 3, .int .i64, .int .i64, .sl 3, .int .i64, .bool], true, [(0, 3), (1, 3), (2, 3), (3, 3), (4, 3), (5, 3), (6, 3), (7, 3), (8, 192), (10, 192), (12, 3), (13, 192), (15, 4)], 176, false⟩),
  (195, ⟨[.sl 279], false, [], 24, false⟩),
  (196, ⟨[.int .i64, .int .i64, .int .i64, .int .i64, .int .i64, .int .i64, .int .i64, .int .i64, .sl 3, .int .i64, .sl 3, .int .i64, .int .i64, .sl 3, .int .i64, .bool, .sl 279], true, [(0, 194), (16, 195)], 200, false⟩),
  (197, ⟨[.int .i64, .int .i64, .int .i64, .int .i64, .int .i64, .int .i64, .int .i64, .int .i64, .sl 3, .int .i64, .sl 3, .int .i64, .int .i64, .sl 3, .int .i64, .bool, .sl 279], true, [(0, 194), (16, 195)], 200, false⟩),
  (201, ⟨[.int .i64, .sl 3, .int .i64, .int .i64], true, [(0, 3), (1, 179), (3, 3)], 48, false⟩),
  (202, ⟨[.int .i64, .sl 3, .int .i64, .int .i64], true, [(0, 3), (1, 179), (3, 3)], 48, false⟩),
  (206, ⟨[.sl 92, .sl 238, .int .i64, .str, .int .i64, .int .i64, .sl 9, .sl 3, .int .i64], true, [(0, 77), (2, 3), (3, 38), (7, 121), (8, 3)], 144, false⟩),
  (207, ⟨[.sl 92, .sl 238, .int .i64, .str, .int .i64, .int .i64, .sl 9, .sl 3, .int .i64], true, [(0, 77), (2, 3), (3, 38), (7, 121), (8, 3)], 144, false⟩),
  (209, ⟨[.sl 79, .sl 241, .int .i64, .str, .int .i64, .int .i64, .sl 9, .sl 3, .int .i64], true, [(0, 85), (2, 3), (3, 44), (7, 121), (8, 3)], 144, false⟩),
  (210, ⟨[.sl 79, .sl 241, .int .i64, .str, .int .i64, .int .i64, .sl 9, .sl 3, .int .i64], true, [(0, 85), (2, 3), (3, 44), (7, 121), (8, 3)], 144, false⟩),
  (219, ⟨[.int .i64, .str, .sl 184, .bool, .str, .int .i64, .int .i64, .sl 9, .int .i64, .sl 3, .int .i64, .str, .int .i64, .int .i64, .sl 9, .str, .int .i64, .int .i64, .sl 9, .int .i64, .sl 3, .int .i64, .sl 3], true, [(0, 3), (1, 9), (2, 127)], 328, false⟩),
  (220, ⟨[.int .i64, .str, .sl 184, .bool, .str, .int .i64, .int .i64, .sl 9, .int .i64, .sl 3, .int .i64, .str, .int .i64, .int .i64, .sl 9, .str, .int .i64, .int .i64, .sl 9, .int .i64, .sl 3, .int .i64, .sl 3], true, [(0, 3), (1, 9), (2, 127)], 328, false⟩),
  (231, ⟨[.sl 5], false, [], 24, false⟩),
  (237, ⟨[.int .i64, .int .i64, .int .i64, .int .i64, .int .i64, .int .i64, .int .i64, .int .i64, .sl 3, .int .i64, .sl 3, .int .i64, .int .i64, .sl 3, .int .i64, .bool, .sl 279, .int .i64, .int .i64, .int .i64, .int .i64, .int .i64, .int .i64, .int .i64, .int .i64, .sl 3, .int .i64, .sl 3, .int .i64, .int .i64, .sl 3, .int .i64, .bool, .sl 279, .int .i64, .int .i64, .int .i64, .int .i64, .int .i64, .int .i64, .int .i64, .int .i64, .sl 3, .int .i64, .sl 3, .int .i64, .int .i64, .sl 3, .int .i64, .bool, .sl 279], true, [(0, 197), (17, 197), (34, 197)], 600, false⟩),
  (238, ⟨[.int .i64, .int .i64, .int .i64, .int .i64, .int .i64, .int .i64, .int .i64, .int .i64, .sl 3, .int .i64, .sl 3, .int .i64, .int .i64, .sl 3, .int .i64, .bool, .sl 279, .int .i64, .int .i64, .int .i64, .int .i64, .int .i64, .int .i64, .int .i64, .int .i64, .sl 3, .int .i64, .sl 3, .int .i64, .int .i64, .sl 3, .int .i64, .bool, .sl 279, .int .i64, .int .i64, .int .i64, .int .i64, .int .i64, .int .i64, .int .i64, .int .i64, .sl 3, .int .i64, .sl 3, .int .i64, .int .i64, .sl 3, .int .i64, .bool, .sl 279], true, [(0, 197), (17, 197), (34, 197)], 600, false⟩),
  (240, ⟨[.int .i64, .int .i64, .int .i64, .int .i64, .int .i64, .int .i64, .int .i64, .int .i64, .sl 3, .int .i64, .sl 3, .int .i64, .int .i64, .sl 3, .int .i64, .bool, .sl 248, .int .i64, .int .i64, .int .i64, .int .i64, .int .i64, .int .i64, .int .i64, .int .i64, .sl 3, .int .i64, .sl 3, .int .i64, .int .i64, .sl 3, .int .i64, .bool, .sl 248, .int .i64, .int .i64, .int .i64, .int .i64, .int .i64, .int .i64, .int .i64, .int .i64, .sl 3, .int .i64, .sl 3, .int .i64, .int .i64, .sl 3, .int .i64, .bool, .sl 248], true, [(0, 184), (17, 184), (34, 184)], 600, false⟩),
  (241, ⟨[.int .i64, .int .i64, .int .i64, .int .i64, .int .i64, .int .i64, .int .i64, .int .i64, .sl 3, .int .i64, .sl 3, .int .i64, .int .i64, .sl 3, .int .i64, .bool, .sl 248, .int .i64, .int .i64, .int .i64, .int .i64, .int .i64, .int .i64, .int .i64, .int .i64, .sl 3, .int .i64, .sl 3, .int .i64, .int .i64, .sl 3, .int .i64, .bool, .sl 248, .int .i64, .int .i64, .int .i64, .int .i64, .int .i64, .int .i64, .int .i64, .int .i64, .sl 3, .int .i64, .sl 3, .int .i64, .int .i64, .sl 3, .int .i64, .bool, .sl 248], true, [(0, 184), (17, 184), (34, 184)], 600, false⟩),
  (247, ⟨[.int .i64, .int .i64], true, [(0, 3), (1, 3)], 16, false⟩),
  (248, ⟨[.int .i64, .int .i64], true, [(0, 3), (1, 3)], 16, true⟩),
  (257, ⟨[.int .i64, .sl 3], true, [(0, 3), (1, 121)], 32, false⟩),
  (258, ⟨[.int .i64, .str, .int .i64, .int .i64, .sl 9, .str, .int .i64, .int .i64, .sl 9, .int .i64, .sl 3, .int .i64, .sl 3], true, [(0, 3), (1, 38), (5, 38), (9, 257), (11, 257)], 184, false⟩),
  (259, ⟨[.int .i64, .str, .int .i64, .int .i64, .sl 9, .str, .int .i64, .int .i64, .sl 9, .int .i64, .sl 3, .int .i64, .sl 3], true, [(0, 3), (1, 38), (5, 38), (9, 257), (11, 257)], 184, false⟩),
  (260, ⟨[.sl 197, .bool, .str, .int .i64, .int .i64, .sl 9, .int .i64, .sl 3, .int .i64, .str, .int .i64, .int .i64, .sl 9, .str, .int .i64, .int .i64, .sl 9, .int .i64, .sl 3, .int .i64, .sl 3], true, [(0, 92), (1, 4), (2, 38), (6, 257), (8, 259)], 304, false⟩),
  (261, ⟨[.sl 197, .bool, .str, .int .i64, .int .i64, .sl 9, .int .i64, .sl 3, .int .i64, .str, .int .i64, .int .i64, .sl 9, .str, .int .i64, .int .i64, .sl 9, .int .i64, .sl 3, .int .i64, .sl 3], true, [(0, 92), (1, 4), (2, 38), (6, 257), (8, 259)], 304, false⟩),
  (262, ⟨[.int .i64, .str, .sl 197, .bool, .str, .int .i64, .int .i64, .sl 9, .int .i64, .sl 3, .int .i64, .str, .int .i64, .int .i64, .sl 9, .str, .int .i64, .int .i64, .sl 9, .int .i64, .sl 3, .int .i64, .sl 3], true, [(0, 3), (1, 9), (2, 261)], 328, false⟩),
  (263, ⟨[.int .i64, .str, .sl 197, .bool, .str, .int .i64, .int .i64, .sl 9, .int .i64, .sl 3, .int .i64, .str, .int .i64, .int .i64, .sl 9, .str, .int .i64, .int .i64, .sl 9, .int .i64, .sl 3, .int .i64, .sl 3], true, [(0, 3), (1, 9), (2, 261)], 328, false⟩),
  (279, ⟨[.int .i64, .int .i64], true, [(0, 3), (1, 3)], 16, true⟩),
  (316, ⟨[.int .u32], false, [], 4, false⟩),
  (317, ⟨[.int .u8], false, [], 1, false⟩),
  (318, ⟨[.int .u8], false, [], 1, false⟩),
  (321, ⟨[.int .i32], false, [], 4, false⟩),
  (322, ⟨[.int .i32], false, [], 4, false⟩)]
noncomputable abbrev Ev : Env := Env0 Tab
theorem tab_ok : tableB Try.prog Tab = true := by kernel_rfl
theorem mix : Try.prog.follows .mixedOrders = true := by kernel_rfl
/-! laws.szIntS -/
namespace laws_szIntS
noncomputable def F (x0 : List (List L)) (x1 : Int) : Ans := (bif (decide ((IntKind.i64.wrap (x1 - (x0.length : Int))) < 0)) then ret ((-1) : Int) else ret ((IntKind.i64.wrap (x1 - (x0.length : Int))) : Int))
def pats : List Pat := [.rd (.sl 3), .rd (.int .i64)]
def res : RP := .one (.rd (.int .i64))
noncomputable abbrev E : Env := { T := assoc Tab, G := conG [], nt := 12 }
set_option maxRecDepth 100000
theorem run_eq (n : Nat) (ls : List L) : runF E (fun _ => []) Try.f212 res n (initS pats ls) = F (ls.headD .hole).toSl ((dropT 1 ls).headD .hole).toInt := by kernel_rfl
noncomputable def md (a0 : List Int) (a1 : Int) : Int := szM (szL (fun y : Int => 0) a0) a1
def gd (a0 : List Int) (a1 : Int) : Prop := (SmL maxLen (fun y : Int => True) a0) ∧ 0 ≤ a1 ∧ a1 ≤ 1048576
def acc (ls : List L) : List (List L) × Int := ((ls.headD .hole).toSl, ((dropT 1 ls).headD .hole).toInt)
noncomputable def R : (List (List L) × Int) → Option Int := RR (p2 gd) (u2 md)
theorem R_eq {a0} {a1} (h : gd a0 a1) : R ((a0.map iRow), a1) = some (md a0 a1) := RR_eq (a := (a0, a1)) h
noncomputable def con : Con := CN pats res acc R
theorem okF (a0 : List Int) (a1 : Int) (hg : gd a0 a1) : F (a0.map iRow) a1 = ret ((md a0 a1) : Int) := by
  obtain ⟨hs, g0, g1⟩ := hg
  unfold F md
  rw [List.length_map, sz_wrap g0 g1 hs.1]
  have e : szL (fun y : Int => 0) a0 = a0.length := by
    unfold szL
    have : (a0.map (fun y : Int => 0)).sum = 0 := sum_zero (fun _ => rfl) a0
    omega
  rw [e]
  by_cases hc : a1 < ((a0.length : Nat) : Int)
  · rw [szM_neg hc, decide_eq_true (by omega)]; rfl
  · rw [szM_pos hc, decide_eq_false (by omega)]; rfl
theorem valid_ : Valid Try.prog Ev 212 con := VV (run := fun _ x => F x.1 x.2) mix tab_ok .nil Try.func212 (by kernel_rfl) run_eq (fun _ a _ _ hg => ⟨0, okF a.1 a.2 hg⟩)
end laws_szIntS
/-! laws.szKeys -/
namespace laws_szKeys
noncomputable def F (x0 : RKeys) (x1 : Int) : Ans := (call (laws_szIntS.R (x0.fList, x1)) fun v1 => (bif (decide (v1 < 0)) then ret ((-1) : Int) else ret (v1 : Int)))
def pats : List Pat := [.agg [.sl 3, .int .i64], .rd (.int .i64)]
def res : RP := .one (.rd (.int .i64))
noncomputable abbrev E : Env := { T := assoc Tab, G := conG [(212, laws_szIntS.con)], nt := 12 }
set_option maxRecDepth 100000
theorem run_eq (n : Nat) (ls : List L) : runF E (fun _ => []) Try.f233 res n (initS pats ls) = F (RKeys.dec ls) ((dropT 2 ls).headD .hole).toInt := by kernel_rfl
noncomputable def md (a0 : MKeys) (a1 : Int) : Int := szM (MKeys.size a0) a1
def gd (a0 : MKeys) (a1 : Int) : Prop := (MKeys.Sm maxLen a0) ∧ 0 ≤ a1 ∧ a1 ≤ 1048576
def acc (ls : List L) : RKeys × Int := ((RKeys.dec ls), ((dropT 2 ls).headD .hole).toInt)
noncomputable def R : (RKeys × Int) → Option Int := RR (p2 gd) (u2 md)
theorem R_eq {a0} {a1} (h : gd a0 a1) : R ((MKeys.r a0), a1) = some (md a0 a1) := RR_eq (a := (a0, a1)) h
noncomputable def con : Con := CN pats res acc R
theorem okF (a0 : MKeys) (a1 : Int) (hg : gd a0 a1) : F (MKeys.r a0) a1 = ret ((md a0 a1) : Int) := by
  obtain ⟨hs, g0, g1⟩ := hg
  unfold md
  show (call (laws_szIntS.R ((a0.fList.map iRow), a1)) fun v1 => (bif (decide (v1 < 0)) then ret ((-1) : Int) else ret (v1 : Int))) = _
  rw [call_eq (laws_szIntS.R_eq (a1 := a1) ⟨hs, by omega, by omega⟩)]
  unfold laws_szIntS.md
  by_cases c0 : a1 < ((szL (fun y : Int => 0) a0.fList : Nat) : Int)
  · rw [szM_neg c0]; rw [show szM (MKeys.size a0) a1 = -1 from szM_neg (by unfold MKeys.size; omega)]; try rfl
  rw [szM_pos c0, dec_neg (by omega), cond_false]
  rw [show szM (MKeys.size a0) a1 = a1 - ((szL (fun y : Int => 0) a0.fList : Nat) : Int) from by rw [szM_pos (by unfold MKeys.size; omega)]; unfold MKeys.size; omega]
theorem valid_ : Valid Try.prog Ev 233 con := VV (run := fun _ x => F x.1 x.2) mix tab_ok (.cons laws_szIntS.valid_ .nil) Try.func233 (by kernel_rfl) run_eq (fun _ a _ _ hg => ⟨0, okF a.1 a.2 hg⟩)
end laws_szKeys
/-! laws.szHead -/
namespace laws_szHead
noncomputable def F (x0 : RHead) (x1 : Int) : Ans := (call (laws_szKeys.R (x0.fKeys, x1)) fun v1 => (bif (decide (v1 < 0)) then ret ((-1) : Int) else (call (laws_szKeys.R (x0.fHeirs, v1)) fun v2 => (bif (decide (v2 < 0)) then ret ((-1) : Int) else (call (laws_szKeys.R (x0.fJudge, v2)) fun v3 => (bif (decide (v3 < 0)) then ret ((-1) : Int) else ret (v3 : Int)))))))
def pats : List Pat := [.agg [.int .i64, .int .i64, .int .i64, .int .i64, .int .i64, .int .i64, .int .i64, .int .i64, .sl 3, .int .i64, .sl 3, .int .i64, .int .i64, .sl 3, .int .i64, .bool], .rd (.int .i64)]
def res : RP := .one (.rd (.int .i64))
noncomputable abbrev E : Env := { T := assoc Tab, G := conG [(233, laws_szKeys.con)], nt := 24 }
set_option maxRecDepth 100000
theorem run_eq (n : Nat) (ls : List L) : runF E (fun _ => []) Try.f202 res n (initS pats ls) = F (RHead.dec ls) ((dropT 16 ls).headD .hole).toInt := by kernel_rfl
noncomputable def md (a0 : MHead) (a1 : Int) : Int := szM (MHead.size a0) a1
def gd (a0 : MHead) (a1 : Int) : Prop := (MHead.Sm maxLen a0) ∧ 0 ≤ a1 ∧ a1 ≤ 1048576
def acc (ls : List L) : RHead × Int := ((RHead.dec ls), ((dropT 16 ls).headD .hole).toInt)
noncomputable def R : (RHead × Int) → Option Int := RR (p2 gd) (u2 md)
theorem R_eq {a0} {a1} (h : gd a0 a1) : R ((MHead.r a0), a1) = some (md a0 a1) := RR_eq (a := (a0, a1)) h
noncomputable def con : Con := CN pats res acc R
theorem okF (a0 : MHead) (a1 : Int) (hg : gd a0 a1) : F (MHead.r a0) a1 = ret ((md a0 a1) : Int) := by
  obtain ⟨hs, g0, g1⟩ := hg
  unfold md
  show (call (laws_szKeys.R ((MKeys.r a0.fKeys), a1)) fun v1 => (bif (decide (v1 < 0)) then ret ((-1) : Int) else (call (laws_szKeys.R ((MKeys.r a0.fHeirs), v1)) fun v2 => (bif (decide (v2 < 0)) then ret ((-1) : Int) else (call (laws_szKeys.R ((MKeys.r a0.fJudge), v2)) fun v3 => (bif (decide (v3 < 0)) then ret ((-1) : Int) else ret (v3 : Int))))))) = _
  rw [call_eq (laws_szKeys.R_eq (a1 := a1) ⟨hs.1, by omega, by omega⟩)]
  unfold laws_szKeys.md
  by_cases c0 : a1 < ((MKeys.size a0.fKeys : Nat) : Int)
  · rw [szM_neg c0]; rw [show szM (MHead.size a0) a1 = -1 from szM_neg (by unfold MHead.size; omega)]; try rfl
  rw [szM_pos c0, dec_neg (by omega), cond_false]
  rw [call_eq (laws_szKeys.R_eq (a1 := (a1 - ((MKeys.size a0.fKeys : Nat) : Int))) ⟨hs.2.1, by omega, by omega⟩)]
  unfold laws_szKeys.md
  by_cases c1 : (a1 - ((MKeys.size a0.fKeys : Nat) : Int)) < ((MKeys.size a0.fHeirs : Nat) : Int)
  · rw [szM_neg c1]; rw [show szM (MHead.size a0) a1 = -1 from szM_neg (by unfold MHead.size; omega)]; try rfl
  rw [szM_pos c1, dec_neg (by omega), cond_false]
  rw [call_eq (laws_szKeys.R_eq (a1 := (a1 - ((MKeys.size a0.fKeys : Nat) : Int) - ((MKeys.size a0.fHeirs : Nat) : Int))) ⟨hs.2.2, by omega, by omega⟩)]
  unfold laws_szKeys.md
  by_cases c2 : (a1 - ((MKeys.size a0.fKeys : Nat) : Int) - ((MKeys.size a0.fHeirs : Nat) : Int)) < ((MKeys.size a0.fJudge : Nat) : Int)
  · rw [szM_neg c2]; rw [show szM (MHead.size a0) a1 = -1 from szM_neg (by unfold MHead.size; omega)]; try rfl
  rw [szM_pos c2, dec_neg (by omega), cond_false]
  rw [show szM (MHead.size a0) a1 = a1 - ((MKeys.size a0.fKeys : Nat) : Int) - ((MKeys.size a0.fHeirs : Nat) : Int) - ((MKeys.size a0.fJudge : Nat) : Int) from by rw [szM_pos (by unfold MHead.size; omega)]; unfold MHead.size; omega]
theorem valid_ : Valid Try.prog Ev 202 con := VV (run := fun _ x => F x.1 x.2) mix tab_ok (.cons laws_szKeys.valid_ .nil) Try.func202 (by kernel_rfl) run_eq (fun _ a _ _ hg => ⟨0, okF a.1 a.2 hg⟩)
end laws_szHead
/-! laws.szSigS -/
namespace laws_szSigS
noncomputable def F (x0 : List (List L)) (x1 : Int) : Ans := (bif (decide ((IntKind.i64.wrap (x1 - (x0.length : Int))) < 0)) then ret ((-1) : Int) else ret ((IntKind.i64.wrap (x1 - (x0.length : Int))) : Int))
def pats : List Pat := [.rd (.sl 279), .rd (.int .i64)]
def res : RP := .one (.rd (.int .i64))
noncomputable abbrev E : Env := { T := assoc Tab, G := conG [], nt := 12 }
set_option maxRecDepth 100000
theorem run_eq (n : Nat) (ls : List L) : runF E (fun _ => []) Try.f203 res n (initS pats ls) = F (ls.headD .hole).toSl ((dropT 1 ls).headD .hole).toInt := by kernel_rfl
noncomputable def md (a0 : List MSig) (a1 : Int) : Int := szM (szL (fun y : MSig => MSig.size y) a0) a1
def gd (a0 : List MSig) (a1 : Int) : Prop := (SmL maxLen (fun y : MSig => MSig.Sm maxLen y) a0) ∧ 0 ≤ a1 ∧ a1 ≤ 1048576
def acc (ls : List L) : List (List L) × Int := ((ls.headD .hole).toSl, ((dropT 1 ls).headD .hole).toInt)
noncomputable def R : (List (List L) × Int) → Option Int := RR (p2 gd) (u2 md)
theorem R_eq {a0} {a1} (h : gd a0 a1) : R ((a0.map MSig.row), a1) = some (md a0 a1) := RR_eq (a := (a0, a1)) h
noncomputable def con : Con := CN pats res acc R
theorem okF (a0 : List MSig) (a1 : Int) (hg : gd a0 a1) : F (a0.map MSig.row) a1 = ret ((md a0 a1) : Int) := by
  obtain ⟨hs, g0, g1⟩ := hg
  unfold F md
  rw [List.length_map, sz_wrap g0 g1 hs.1]
  have e : szL (fun y : MSig => MSig.size y) a0 = a0.length := by
    unfold szL
    have : (a0.map (fun y : MSig => MSig.size y)).sum = 0 := sum_zero (fun _ => rfl) a0
    omega
  rw [e]
  by_cases hc : a1 < ((a0.length : Nat) : Int)
  · rw [szM_neg hc, decide_eq_true (by omega)]; rfl
  · rw [szM_pos hc, decide_eq_false (by omega)]; rfl
theorem valid_ : Valid Try.prog Ev 203 con := VV (run := fun _ x => F x.1 x.2) mix tab_ok .nil Try.func203 (by kernel_rfl) run_eq (fun _ a _ _ hg => ⟨0, okF a.1 a.2 hg⟩)
end laws_szSigS
/-! laws.szSigned -/
namespace laws_szSigned
noncomputable def F (x0 : RSigned) (x1 : Int) : Ans := (call (laws_szHead.R (x0.fHead, x1)) fun v1 => (bif (decide (v1 < 0)) then ret ((-1) : Int) else (call (laws_szSigS.R (x0.fSigs, v1)) fun v2 => (bif (decide (v2 < 0)) then ret ((-1) : Int) else ret (v2 : Int)))))
def pats : List Pat := [.agg [.int .i64, .int .i64, .int .i64, .int .i64, .int .i64, .int .i64, .int .i64, .int .i64, .sl 3, .int .i64, .sl 3, .int .i64, .int .i64, .sl 3, .int .i64, .bool, .sl 279], .rd (.int .i64)]
def res : RP := .one (.rd (.int .i64))
noncomputable abbrev E : Env := { T := assoc Tab, G := conG [(202, laws_szHead.con), (203, laws_szSigS.con)], nt := 18 }
set_option maxRecDepth 100000
theorem run_eq (n : Nat) (ls : List L) : runF E (fun _ => []) Try.f146 res n (initS pats ls) = F (RSigned.dec ls) ((dropT 17 ls).headD .hole).toInt := by kernel_rfl
noncomputable def md (a0 : MSigned) (a1 : Int) : Int := szM (MSigned.size a0) a1
def gd (a0 : MSigned) (a1 : Int) : Prop := (MSigned.Sm maxLen a0) ∧ 0 ≤ a1 ∧ a1 ≤ 1048576
def acc (ls : List L) : RSigned × Int := ((RSigned.dec ls), ((dropT 17 ls).headD .hole).toInt)
noncomputable def R : (RSigned × Int) → Option Int := RR (p2 gd) (u2 md)
theorem R_eq {a0} {a1} (h : gd a0 a1) : R ((MSigned.r a0), a1) = some (md a0 a1) := RR_eq (a := (a0, a1)) h
noncomputable def con : Con := CN pats res acc R
theorem okF (a0 : MSigned) (a1 : Int) (hg : gd a0 a1) : F (MSigned.r a0) a1 = ret ((md a0 a1) : Int) := by
  obtain ⟨hs, g0, g1⟩ := hg
  unfold md
  show (call (laws_szHead.R ((MHead.r a0.fHead), a1)) fun v1 => (bif (decide (v1 < 0)) then ret ((-1) : Int) else (call (laws_szSigS.R ((a0.fSigs.map MSig.row), v1)) fun v2 => (bif (decide (v2 < 0)) then ret ((-1) : Int) else ret (v2 : Int))))) = _
  rw [call_eq (laws_szHead.R_eq (a1 := a1) ⟨hs.1, by omega, by omega⟩)]
  unfold laws_szHead.md
  by_cases c0 : a1 < ((MHead.size a0.fHead : Nat) : Int)
  · rw [szM_neg c0]; rw [show szM (MSigned.size a0) a1 = -1 from szM_neg (by unfold MSigned.size; omega)]; try rfl
  rw [szM_pos c0, dec_neg (by omega), cond_false]
  rw [call_eq (laws_szSigS.R_eq (a1 := (a1 - ((MHead.size a0.fHead : Nat) : Int))) ⟨hs.2, by omega, by omega⟩)]
  unfold laws_szSigS.md
  by_cases c1 : (a1 - ((MHead.size a0.fHead : Nat) : Int)) < ((szL (fun y : MSig => MSig.size y) a0.fSigs : Nat) : Int)
  · rw [szM_neg c1]; rw [show szM (MSigned.size a0) a1 = -1 from szM_neg (by unfold MSigned.size; omega)]; try rfl
  rw [szM_pos c1, dec_neg (by omega), cond_false]
  rw [show szM (MSigned.size a0) a1 = a1 - ((MHead.size a0.fHead : Nat) : Int) - ((szL (fun y : MSig => MSig.size y) a0.fSigs : Nat) : Int) from by rw [szM_pos (by unfold MSigned.size; omega)]; unfold MSigned.size; omega]
theorem valid_ : Valid Try.prog Ev 146 con := VV (run := fun _ x => F x.1 x.2) mix tab_ok (.cons laws_szHead.valid_ (.cons laws_szSigS.valid_ .nil)) Try.func146 (by kernel_rfl) run_eq (fun _ a _ _ hg => ⟨0, okF a.1 a.2 hg⟩)
end laws_szSigned
/-! laws.szSignedS -/
namespace laws_szSignedS
inductive Pt where
  | p0 (a : List (List L)) (b : Int) (c : Int)
def pid : Pt → Nat
  | .p0 .. => 5
def pvs : Pt → List V
  | .p0 a b c => [.sl none 197 a, .int .i64 b, .int .i64 c]
def phs : Pt → List Root
  | .p0 a b c => []
noncomputable def step (J : Pt → Ans) : Pt → Ans
  | .p0 a b c => (bif (decide (c < (a.length : Int))) then (bif (decide ((0 : Int) ≤ c)) then (bif (decide (c < (a.length : Int))) then (call (laws_szSigned.R ((RSigned.at a (Int.toNat c)), b)) fun v1 => (bif (decide (v1 < 0)) then ret ((-1) : Int) else J (.p0 a v1 (IntKind.i64.wrap (c + 1))))) else none) else none) else ret (b : Int))
noncomputable def start (J : Pt → Ans) (x0 : List (List L)) (x1 : Int) : Ans := (bif (decide ((IntKind.i64.wrap (x1 - (x0.length : Int))) < 0)) then ret ((-1) : Int) else J (.p0 x0 (IntKind.i64.wrap (x1 - (x0.length : Int))) 0))
def live : Nat → Live := fun i => match i with | 5 => [(0, none), (1, none), (5, none)] | _ => []
def pats : List Pat := [.rd (.sl 197), .rd (.int .i64)]
def res : RP := .one (.rd (.int .i64))
noncomputable abbrev E : Env := { T := assoc Tab, G := conG [(146, laws_szSigned.con)], nt := 27 }
set_option maxRecDepth 100000
theorem step_eq (I : Heads) (p : Pt) : enterC E live I (pid p) (bodyOf Try.f61) (stOf (live (pid p)) (pvs p) (phs p)) (doneK E Try.f61 res) = step (fun q => I (pid q) (pvs q) (phs q)) p := by
  cases p <;> kernel_rfl
theorem start_eq (I : Heads) (ls : List L) : runC E live I (bodyOf Try.f61) (initS pats ls) (doneK E Try.f61 res) = start (fun q => I (pid q) (pvs q) (phs q)) (ls.headD .hole).toSl ((dropT 1 ls).headD .hole).toInt := by kernel_rfl
theorem run_eq (n : Nat) (ls : List L) : runF E live Try.f61 res n (initS pats ls) = start (iter step n) (ls.headD .hole).toSl ((dropT 1 ls).headD .hole).toInt := runF_iter (id := pid) (vs := pvs) (hs := phs) (step := step) (start := fun J => start J (ls.headD .hole).toSl ((dropT 1 ls).headD .hole).toInt) step_eq (fun I => start_eq I ls) n
noncomputable def md (a0 : List MSigned) (a1 : Int) : Int := szM (szL (fun y : MSigned => MSigned.size y) a0) a1
def gd (a0 : List MSigned) (a1 : Int) : Prop := (SmL maxLen (fun y : MSigned => MSigned.Sm maxLen y) a0) ∧ 0 ≤ a1 ∧ a1 ≤ 1048576
def acc (ls : List L) : List (List L) × Int := ((ls.headD .hole).toSl, ((dropT 1 ls).headD .hole).toInt)
noncomputable def R : (List (List L) × Int) → Option Int := RR (p2 gd) (u2 md)
theorem R_eq {a0} {a1} (h : gd a0 a1) : R ((a0.map MSigned.row), a1) = some (md a0 a1) := RR_eq (a := (a0, a1)) h
noncomputable def con : Con := CN pats res acc R
theorem okF (a0 : List MSigned) (a1 : Int) (hg : gd a0 a1) : ∃ n, start (iter step n) (a0.map MSigned.row) a1 = ret ((md a0 a1) : Int) := by
  obtain ⟨hs, g0, g1⟩ := hg
  unfold start md
  simp only [List.length_map]
  refine sz_list (pt := fun left i => Pt.p0 (a0.map MSigned.row) left (i : Int)) (f := fun y : MSigned => MSigned.size y) hs.1 (fun J i h left p0 p1 => ?_) (fun J left => ?_) g0 g1
  · simp only [step, List.length_map, lt_dec h, zle_dec, cond_true, toNat_nat, MSigned.at_row h]
    rw [call_eq (laws_szSigned.R_eq ⟨hs.get h, p0, p1⟩), wrap_succ h hs.1]
    unfold laws_szSigned.md
    by_cases hc : left < ((MSigned.size (a0[i]) : Nat) : Int)
    · rw [szM_neg hc, if_pos hc]; rfl
    · rw [szM_pos hc, if_neg hc, dec_neg (by omega)]; rfl
  · simp only [step, List.length_map, nlt_dec, cond_false]
theorem valid_ : Valid Try.prog Ev 61 con := VV (run := fun n x => start (iter step n) x.1 x.2) mix tab_ok (.cons laws_szSigned.valid_ .nil) Try.func61 (by kernel_rfl) run_eq (fun _ a _ _ hg => okF a.1 a.2 hg)
end laws_szSignedS
/-! laws.toIntS -/
namespace laws_toIntS
inductive Pt where
  | p0 (a : List (List L)) (b : Int) (c : List (List L))
def pid : Pt → Nat
  | .p0 .. => 3
def pvs : Pt → List V
  | .p0 a b c => [.sl none 3 a, .own 0, .int .i64 b]
def phs : Pt → List Root
  | .p0 a b c => [.row 3 c]
noncomputable def step (J : Pt → Ans) : Pt → Ans
  | .p0 a b c => (bif (decide (b < (a.length : Int))) then (bif (decide ((0 : Int) ≤ b)) then (bif (decide (b < (a.length : Int))) then (bif (decide ((0 : Int) ≤ b)) then (bif (decide (b < (c.length : Int))) then J (.p0 a (IntKind.i64.wrap (b + 1)) (List.set c (Int.toNat b) [L.int (iAt a (Int.toNat b))])) else none) else none) else none) else none) else ret (c : List (List L)))
noncomputable def start (J : Pt → Ans) (x0 : List (List L)) : Ans := (bif (decide ((0 : Int) ≤ (x0.length : Int))) then (bif (decide ((x0.length : Int) ≤ (x0.length : Int))) then (bif (decide ((x0.length : Int) * 8 ≤ 140737488355328)) then J (.p0 x0 0 (List.replicate (Int.toNat (x0.length : Int)) [L.int 0])) else none) else none) else none)
def live : Nat → Live := fun i => match i with | 3 => [(0, none), (3, none), (4, none)] | _ => []
def pats : List Pat := [.rd (.sl 3)]
def res : RP := .one (.fr 3)
noncomputable abbrev E : Env := { T := assoc Tab, G := conG [], nt := 22 }
set_option maxRecDepth 100000
theorem step_eq (I : Heads) (p : Pt) : enterC E live I (pid p) (bodyOf Try.f214) (stOf (live (pid p)) (pvs p) (phs p)) (doneK E Try.f214 res) = step (fun q => I (pid q) (pvs q) (phs q)) p := by
  cases p <;> kernel_rfl
theorem start_eq (I : Heads) (ls : List L) : runC E live I (bodyOf Try.f214) (initS pats ls) (doneK E Try.f214 res) = start (fun q => I (pid q) (pvs q) (phs q)) (ls.headD .hole).toSl := by kernel_rfl
theorem run_eq (n : Nat) (ls : List L) : runF E live Try.f214 res n (initS pats ls) = start (iter step n) (ls.headD .hole).toSl := runF_iter (id := pid) (vs := pvs) (hs := phs) (step := step) (start := fun J => start J (ls.headD .hole).toSl) step_eq (fun I => start_eq I ls) n
noncomputable def md (a0 : List Int) : List Int := a0
def gd (a0 : List Int) : Prop := SmL (2 ^ 36) (fun y : Int => True) a0
def acc (ls : List L) : List (List L) := (ls.headD .hole).toSl
noncomputable def R : (List (List L)) → Option (List (List L)) := RR gd md
theorem R_eq {a0} (h : gd a0) : R (a0.map iRow) = some ((md a0).map iRow) := RR_eq (a := a0) h
noncomputable def con : Con := CN pats res acc R
theorem okF (a0 : List Int) (hg : gd a0) : ∃ n, start (iter step n) (a0.map iRow) = ret (((md a0).map iRow) : List (List L)) := by
  unfold start md
  simp only [List.length_map]
  refine to_list (b := 8) (pt := fun i c => Pt.p0 (a0.map iRow) (i : Int) c) (by have := hg.1; simp at this; omega) (fun J i h c hc => ?_) (fun J c => ?_)
  · simp only [step, List.length_map, lt_dec h, zle_dec, cond_true, toNat_nat, iAt_row h, hc]
    rw [wrap_succ (n := a0.length) h (by have := hg.1; simp only [maxLen]; simp at this; omega)]
    rfl
  · simp only [step, List.length_map, nlt_dec, cond_false]
theorem valid_ : Valid Try.prog Ev 214 con := VV (run := fun n x => start (iter step n) x) mix tab_ok .nil Try.func214 (by kernel_rfl) run_eq (fun _ a _ _ hg => okF a hg)
end laws_toIntS
/-! laws.toKeys -/
namespace laws_toKeys
noncomputable def F (x0 : RKeys) : Ans := (call (laws_toIntS.R x0.fList) fun v1 => ret ((⟨v1, x0.fNeed⟩ : RKeys) : RKeys))
def pats : List Pat := [.agg [.sl 3, .int .i64]]
def res : RP := .agg [.fr 3, .rd (.int .i64)]
noncomputable abbrev E : Env := { T := assoc Tab, G := conG [(214, laws_toIntS.con)], nt := 12 }
set_option maxRecDepth 100000
theorem run_eq (n : Nat) (ls : List L) : runF E (fun _ => []) Try.f236 res n (initS pats ls) = F (RKeys.dec ls) := by kernel_rfl
noncomputable def md (a0 : MKeys) : MKeys := a0
def gd (a0 : MKeys) : Prop := MKeys.Sm (2 ^ 36) a0
def acc (ls : List L) : RKeys := (RKeys.dec ls)
noncomputable def R : RKeys → Option RKeys := RR gd md
theorem R_eq {a0} (h : gd a0) : R (MKeys.r a0) = some (MKeys.r (md a0)) := RR_eq (a := a0) h
noncomputable def con : Con := CN pats res acc R
theorem okF (a0 : MKeys) (hg : gd a0) : F (MKeys.r a0) = ret ((MKeys.r (md a0)) : RKeys) := by
  unfold md
  show (call (laws_toIntS.R (a0.fList.map iRow)) fun v1 => ret ((⟨v1, a0.fNeed⟩ : RKeys) : RKeys)) = _
  rw [call_eq (laws_toIntS.R_eq hg)]
  rfl
theorem valid_ : Valid Try.prog Ev 236 con := VV (run := fun _ x => F x) mix tab_ok (.cons laws_toIntS.valid_ .nil) Try.func236 (by kernel_rfl) run_eq (fun _ a _ _ hg => ⟨0, okF a hg⟩)
end laws_toKeys
/-! laws.toHead -/
namespace laws_toHead
noncomputable def F (x0 : RHead) : Ans := (call (laws_toKeys.R x0.fKeys) fun v1 => (call (laws_toKeys.R x0.fHeirs) fun v2 => (call (laws_toKeys.R x0.fJudge) fun v3 => ret ((⟨x0.fZone, x0.fEpoch, x0.fKind, x0.fTime, x0.fUntil, x0.fCount, x0.fRoot, x0.fPrev, v1, v2, x0.fWait, v3, x0.fFrozen⟩ : RHead) : RHead))))
def pats : List Pat := [.agg [.int .i64, .int .i64, .int .i64, .int .i64, .int .i64, .int .i64, .int .i64, .int .i64, .sl 3, .int .i64, .sl 3, .int .i64, .int .i64, .sl 3, .int .i64, .bool]]
def res : RP := .agg [.rd (.int .i64), .rd (.int .i64), .rd (.int .i64), .rd (.int .i64), .rd (.int .i64), .rd (.int .i64), .rd (.int .i64), .rd (.int .i64), .fr 3, .rd (.int .i64), .fr 3, .rd (.int .i64), .rd (.int .i64), .fr 3, .rd (.int .i64), .rd (.bool)]
noncomputable abbrev E : Env := { T := assoc Tab, G := conG [(236, laws_toKeys.con)], nt := 47 }
set_option maxRecDepth 100000
theorem run_eq (n : Nat) (ls : List L) : runF E (fun _ => []) Try.f206 res n (initS pats ls) = F (RHead.dec ls) := by kernel_rfl
noncomputable def md (a0 : MHead) : MHead := a0
def gd (a0 : MHead) : Prop := MHead.Sm (2 ^ 36) a0
def acc (ls : List L) : RHead := (RHead.dec ls)
noncomputable def R : RHead → Option RHead := RR gd md
theorem R_eq {a0} (h : gd a0) : R (MHead.r a0) = some (MHead.r (md a0)) := RR_eq (a := a0) h
noncomputable def con : Con := CN pats res acc R
theorem okF (a0 : MHead) (hg : gd a0) : F (MHead.r a0) = ret ((MHead.r (md a0)) : RHead) := by
  unfold md
  show (call (laws_toKeys.R (MKeys.r a0.fKeys)) fun v1 => (call (laws_toKeys.R (MKeys.r a0.fHeirs)) fun v2 => (call (laws_toKeys.R (MKeys.r a0.fJudge)) fun v3 => ret ((⟨a0.fZone, a0.fEpoch, a0.fKind, a0.fTime, a0.fUntil, a0.fCount, a0.fRoot, a0.fPrev, v1, v2, a0.fWait, v3, a0.fFrozen⟩ : RHead) : RHead)))) = _
  rw [call_eq (laws_toKeys.R_eq hg.1)]
  rw [call_eq (laws_toKeys.R_eq hg.2.1)]
  rw [call_eq (laws_toKeys.R_eq hg.2.2)]
  rfl
theorem valid_ : Valid Try.prog Ev 206 con := VV (run := fun _ x => F x) mix tab_ok (.cons laws_toKeys.valid_ .nil) Try.func206 (by kernel_rfl) run_eq (fun _ a _ _ hg => ⟨0, okF a hg⟩)
end laws_toHead
/-! laws.toSig -/
namespace laws_toSig
noncomputable def F (x0 : MSig) : Ans := ret (x0 : MSig)
def pats : List Pat := [.agg [.int .i64, .int .i64]]
def res : RP := .agg [.rd (.int .i64), .rd (.int .i64)]
noncomputable abbrev E : Env := { T := assoc Tab, G := conG [], nt := 11 }
set_option maxRecDepth 100000
theorem run_eq (n : Nat) (ls : List L) : runF E (fun _ => []) Try.f237 res n (initS pats ls) = F (MSig.dec ls) := by kernel_rfl
noncomputable def md (a0 : MSig) : MSig := a0
def gd (a0 : MSig) : Prop := MSig.Sm (2 ^ 36) a0
def acc (ls : List L) : MSig := (MSig.dec ls)
noncomputable def R : MSig → Option MSig := RR gd md
theorem R_eq {a0} (h : gd a0) : R a0 = some (md a0) := RR_eq (a := a0) h
noncomputable def con : Con := CN pats res acc R
theorem okF (a0 : MSig) (hg : gd a0) : F a0 = ret ((md a0) : MSig) := by
  rfl
theorem valid_ : Valid Try.prog Ev 237 con := VV (run := fun _ x => F x) mix tab_ok .nil Try.func237 (by kernel_rfl) run_eq (fun _ a _ _ hg => ⟨0, okF a hg⟩)
end laws_toSig
/-! laws.toSigS -/
namespace laws_toSigS
inductive Pt where
  | p0 (a : List (List L)) (b : Int) (c : List (List L))
def pid : Pt → Nat
  | .p0 .. => 3
def pvs : Pt → List V
  | .p0 a b c => [.sl none 279 a, .own 0, .int .i64 b]
def phs : Pt → List Root
  | .p0 a b c => [.row 248 c]
noncomputable def step (J : Pt → Ans) : Pt → Ans
  | .p0 a b c => (bif (decide (b < (a.length : Int))) then (bif (decide ((0 : Int) ≤ b)) then (bif (decide (b < (a.length : Int))) then (call (laws_toSig.R (MSig.at a (Int.toNat b))) fun v1 => (bif (decide ((0 : Int) ≤ b)) then (bif (decide (b < (c.length : Int))) then J (.p0 a (IntKind.i64.wrap (b + 1)) (List.set c (Int.toNat b) (MSig.enc v1))) else none) else none)) else none) else none) else ret (c : List (List L)))
noncomputable def start (J : Pt → Ans) (x0 : List (List L)) : Ans := (bif (decide ((0 : Int) ≤ (x0.length : Int))) then (bif (decide ((x0.length : Int) ≤ (x0.length : Int))) then (bif (decide ((x0.length : Int) * 16 ≤ 140737488355328)) then J (.p0 x0 0 (List.replicate (Int.toNat (x0.length : Int)) [L.int 0, L.int 0])) else none) else none) else none)
def live : Nat → Live := fun i => match i with | 3 => [(0, none), (3, none), (4, none)] | _ => []
def pats : List Pat := [.rd (.sl 279)]
def res : RP := .one (.fr 248)
noncomputable abbrev E : Env := { T := assoc Tab, G := conG [(237, laws_toSig.con)], nt := 23 }
set_option maxRecDepth 100000
theorem step_eq (I : Heads) (p : Pt) : enterC E live I (pid p) (bodyOf Try.f207) (stOf (live (pid p)) (pvs p) (phs p)) (doneK E Try.f207 res) = step (fun q => I (pid q) (pvs q) (phs q)) p := by
  cases p <;> kernel_rfl
theorem start_eq (I : Heads) (ls : List L) : runC E live I (bodyOf Try.f207) (initS pats ls) (doneK E Try.f207 res) = start (fun q => I (pid q) (pvs q) (phs q)) (ls.headD .hole).toSl := by kernel_rfl
theorem run_eq (n : Nat) (ls : List L) : runF E live Try.f207 res n (initS pats ls) = start (iter step n) (ls.headD .hole).toSl := runF_iter (id := pid) (vs := pvs) (hs := phs) (step := step) (start := fun J => start J (ls.headD .hole).toSl) step_eq (fun I => start_eq I ls) n
noncomputable def md (a0 : List MSig) : List MSig := a0
def gd (a0 : List MSig) : Prop := SmL (2 ^ 36) (fun y : MSig => MSig.Sm (2 ^ 36) y) a0
def acc (ls : List L) : List (List L) := (ls.headD .hole).toSl
noncomputable def R : (List (List L)) → Option (List (List L)) := RR gd md
theorem R_eq {a0} (h : gd a0) : R (a0.map MSig.row) = some ((md a0).map MSig.row) := RR_eq (a := a0) h
noncomputable def con : Con := CN pats res acc R
theorem okF (a0 : List MSig) (hg : gd a0) : ∃ n, start (iter step n) (a0.map MSig.row) = ret (((md a0).map MSig.row) : List (List L)) := by
  unfold start md
  simp only [List.length_map]
  refine to_list (b := 16) (pt := fun i c => Pt.p0 (a0.map MSig.row) (i : Int) c) (by have := hg.1; simp at this; omega) (fun J i h c hc => ?_) (fun J c => ?_)
  · simp only [step, List.length_map, lt_dec h, zle_dec, cond_true, toNat_nat, MSig.at_row h, hc]
    rw [call_eq (laws_toSig.R_eq (hg.get h))]
    try simp only [hc, lt_dec h, cond_true]
    rw [wrap_succ (n := a0.length) h (by have := hg.1; simp only [maxLen]; simp at this; omega)]
    rfl
  · simp only [step, List.length_map, nlt_dec, cond_false]
theorem valid_ : Valid Try.prog Ev 207 con := VV (run := fun n x => start (iter step n) x) mix tab_ok (.cons laws_toSig.valid_ .nil) Try.func207 (by kernel_rfl) run_eq (fun _ a _ _ hg => okF a hg)
end laws_toSigS
/-! laws.toSigned -/
namespace laws_toSigned
noncomputable def F (x0 : RSigned) : Ans := (call (laws_toHead.R x0.fHead) fun v1 => (call (laws_toSigS.R x0.fSigs) fun v2 => ret ((⟨v1, v2⟩ : RSigned) : RSigned)))
def pats : List Pat := [.agg [.int .i64, .int .i64, .int .i64, .int .i64, .int .i64, .int .i64, .int .i64, .int .i64, .sl 3, .int .i64, .sl 3, .int .i64, .int .i64, .sl 3, .int .i64, .bool, .sl 279]]
def res : RP := .agg [.rd (.int .i64), .rd (.int .i64), .rd (.int .i64), .rd (.int .i64), .rd (.int .i64), .rd (.int .i64), .rd (.int .i64), .rd (.int .i64), .fr 3, .rd (.int .i64), .fr 3, .rd (.int .i64), .rd (.int .i64), .fr 3, .rd (.int .i64), .rd (.bool), .fr 248]
noncomputable abbrev E : Env := { T := assoc Tab, G := conG [(206, laws_toHead.con), (207, laws_toSigS.con)], nt := 13 }
set_option maxRecDepth 100000
theorem run_eq (n : Nat) (ls : List L) : runF E (fun _ => []) Try.f150 res n (initS pats ls) = F (RSigned.dec ls) := by kernel_rfl
noncomputable def md (a0 : MSigned) : MSigned := a0
def gd (a0 : MSigned) : Prop := MSigned.Sm (2 ^ 36) a0
def acc (ls : List L) : RSigned := (RSigned.dec ls)
noncomputable def R : RSigned → Option RSigned := RR gd md
theorem R_eq {a0} (h : gd a0) : R (MSigned.r a0) = some (MSigned.r (md a0)) := RR_eq (a := a0) h
noncomputable def con : Con := CN pats res acc R
theorem okF (a0 : MSigned) (hg : gd a0) : F (MSigned.r a0) = ret ((MSigned.r (md a0)) : RSigned) := by
  unfold md
  show (call (laws_toHead.R (MHead.r a0.fHead)) fun v1 => (call (laws_toSigS.R (a0.fSigs.map MSig.row)) fun v2 => ret ((⟨v1, v2⟩ : RSigned) : RSigned))) = _
  rw [call_eq (laws_toHead.R_eq hg.1)]
  rw [call_eq (laws_toSigS.R_eq hg.2)]
  rfl
theorem valid_ : Valid Try.prog Ev 150 con := VV (run := fun _ x => F x) mix tab_ok (.cons laws_toHead.valid_ (.cons laws_toSigS.valid_ .nil)) Try.func150 (by kernel_rfl) run_eq (fun _ a _ _ hg => ⟨0, okF a hg⟩)
end laws_toSigned
/-! laws.toSignedS -/
namespace laws_toSignedS
inductive Pt where
  | p0 (a : List (List L)) (b : Int) (c : List (List L))
def pid : Pt → Nat
  | .p0 .. => 3
def pvs : Pt → List V
  | .p0 a b c => [.sl none 197 a, .own 0, .int .i64 b]
def phs : Pt → List Root
  | .p0 a b c => [.row 184 c]
noncomputable def step (J : Pt → Ans) : Pt → Ans
  | .p0 a b c => (bif (decide (b < (a.length : Int))) then (bif (decide ((0 : Int) ≤ b)) then (bif (decide (b < (a.length : Int))) then (call (laws_toSigned.R (RSigned.at a (Int.toNat b))) fun v1 => (bif (decide ((0 : Int) ≤ b)) then (bif (decide (b < (c.length : Int))) then J (.p0 a (IntKind.i64.wrap (b + 1)) (List.set c (Int.toNat b) (RSigned.enc v1))) else none) else none)) else none) else none) else ret (c : List (List L)))
noncomputable def start (J : Pt → Ans) (x0 : List (List L)) : Ans := (bif (decide ((0 : Int) ≤ (x0.length : Int))) then (bif (decide ((x0.length : Int) ≤ (x0.length : Int))) then (bif (decide ((x0.length : Int) * 200 ≤ 140737488355328)) then J (.p0 x0 0 (List.replicate (Int.toNat (x0.length : Int)) [L.int 0, L.int 0, L.int 0, L.int 0, L.int 0, L.int 0, L.int 0, L.int 0, L.sl [], L.int 0, L.sl [], L.int 0, L.int 0, L.sl [], L.int 0, L.bool false, L.sl []])) else none) else none) else none)
def live : Nat → Live := fun i => match i with | 3 => [(0, none), (3, none), (4, none)] | _ => []
def pats : List Pat := [.rd (.sl 197)]
def res : RP := .one (.fr 184)
noncomputable abbrev E : Env := { T := assoc Tab, G := conG [(150, laws_toSigned.con)], nt := 23 }
set_option maxRecDepth 100000
theorem step_eq (I : Heads) (p : Pt) : enterC E live I (pid p) (bodyOf Try.f63) (stOf (live (pid p)) (pvs p) (phs p)) (doneK E Try.f63 res) = step (fun q => I (pid q) (pvs q) (phs q)) p := by
  cases p <;> kernel_rfl
theorem start_eq (I : Heads) (ls : List L) : runC E live I (bodyOf Try.f63) (initS pats ls) (doneK E Try.f63 res) = start (fun q => I (pid q) (pvs q) (phs q)) (ls.headD .hole).toSl := by kernel_rfl
theorem run_eq (n : Nat) (ls : List L) : runF E live Try.f63 res n (initS pats ls) = start (iter step n) (ls.headD .hole).toSl := runF_iter (id := pid) (vs := pvs) (hs := phs) (step := step) (start := fun J => start J (ls.headD .hole).toSl) step_eq (fun I => start_eq I ls) n
noncomputable def md (a0 : List MSigned) : List MSigned := a0
def gd (a0 : List MSigned) : Prop := SmL (2 ^ 36) (fun y : MSigned => MSigned.Sm (2 ^ 36) y) a0
def acc (ls : List L) : List (List L) := (ls.headD .hole).toSl
noncomputable def R : (List (List L)) → Option (List (List L)) := RR gd md
theorem R_eq {a0} (h : gd a0) : R (a0.map MSigned.row) = some ((md a0).map MSigned.row) := RR_eq (a := a0) h
noncomputable def con : Con := CN pats res acc R
theorem okF (a0 : List MSigned) (hg : gd a0) : ∃ n, start (iter step n) (a0.map MSigned.row) = ret (((md a0).map MSigned.row) : List (List L)) := by
  unfold start md
  simp only [List.length_map]
  refine to_list (b := 200) (pt := fun i c => Pt.p0 (a0.map MSigned.row) (i : Int) c) (by have := hg.1; simp at this; omega) (fun J i h c hc => ?_) (fun J c => ?_)
  · simp only [step, List.length_map, lt_dec h, zle_dec, cond_true, toNat_nat, MSigned.at_row h, hc]
    rw [call_eq (laws_toSigned.R_eq (hg.get h))]
    try simp only [hc, lt_dec h, cond_true]
    rw [wrap_succ (n := a0.length) h (by have := hg.1; simp only [maxLen]; simp at this; omega)]
    rfl
  · simp only [step, List.length_map, nlt_dec, cond_false]
theorem valid_ : Valid Try.prog Ev 63 con := VV (run := fun n x => start (iter step n) x) mix tab_ok (.cons laws_toSigned.valid_ .nil) Try.func63 (by kernel_rfl) run_eq (fun _ a _ _ hg => okF a hg)
end laws_toSignedS
/-! spec.l1In -/
namespace spec_l1In
noncomputable def F (x0 : Int) (x1 : Int) (x2 : Int) : Ans := (bif (decide (x0 ≥ x1)) then ret ((decide (x0 ≤ x2)) : Bool) else ret (false : Bool))
def pats : List Pat := [.rd (.int .i64), .rd (.int .i64), .rd (.int .i64)]
def res : RP := .one (.rd (.bool))
noncomputable abbrev E : Env := { T := assoc Tab, G := conG [], nt := 15 }
set_option maxRecDepth 100000
theorem run_eq (n : Nat) (ls : List L) : runF E (fun _ => []) Try.f97 res n (initS pats ls) = F (ls.headD .hole).toInt ((dropT 1 ls).headD .hole).toInt ((dropT 2 ls).headD .hole).toInt := by kernel_rfl
noncomputable def md (a0 : Int) (a1 : Int) (a2 : Int) : Bool := (bif (decide (a0 ≥ a1)) then ((decide (a0 ≤ a2)) : Bool) else (false : Bool))
def gd (a0 : Int) (a1 : Int) (a2 : Int) : Prop := True
def acc (ls : List L) : Int × Int × Int := ((ls.headD .hole).toInt, ((dropT 1 ls).headD .hole).toInt, ((dropT 2 ls).headD .hole).toInt)
noncomputable def R : (Int × Int × Int) → Option Bool := RR (p3 gd) (u3 md)
theorem R_eq {a0} {a1} {a2} (h : gd a0 a1 a2) : R (a0, a1, a2) = some (md a0 a1 a2) := RR_eq (a := (a0, a1, a2)) h
noncomputable def con : Con := CN pats res acc R
theorem okF (a0 : Int) (a1 : Int) (a2 : Int) (hg : gd a0 a1 a2) : F a0 a1 a2 = ret ((md a0 a1 a2) : Bool) := by
  unfold F md
  try simp only [S0]
  refine bif_out ret (fun c1 => ?_) (fun _ => rfl)
  all_goals first | rfl | (simp only [S0, MP]; first | done | rfl)
theorem valid_ : Valid Try.prog Ev 97 con := VV (run := fun _ x => F x.1 x.2.1 x.2.2) mix tab_ok .nil Try.func97 (by kernel_rfl) run_eq (fun _ a _ _ hg => ⟨0, okF a.1 a.2.1 a.2.2 hg⟩)
end spec_l1In
/-! spec.IsKeys -/
namespace spec_IsKeys
inductive Pt where
  | p0 (a : Int) (b : RKeys)
def pid : Pt → Nat
  | .p0 .. => 2
def pvs : Pt → List V
  | .p0 a b => [.bptr 0 0, .int .i64 a]
def phs : Pt → List Root
  | .p0 a b => [.box [.sl none 3 b.fList, .int .i64 b.fNeed]]
noncomputable def step (J : Pt → Ans) : Pt → Ans
  | .p0 a b => (bif (decide (a < (b.fList.length : Int))) then (bif (decide ((0 : Int) ≤ a)) then (bif (decide (a < (b.fList.length : Int))) then (call (spec_l1In.R ((iAt b.fList (Int.toNat a)), 1, 99)) fun v1 => (bif (!v1) then ret (false : Bool) else (bif (decide (a > 0)) then (bif (decide ((0 : Int) ≤ (IntKind.i64.wrap (a - 1)))) then (bif (decide ((IntKind.i64.wrap (a - 1)) < (b.fList.length : Int))) then (bif (decide ((0 : Int) ≤ a)) then (bif (decide (a < (b.fList.length : Int))) then (bif (decide ((iAt b.fList (Int.toNat (IntKind.i64.wrap (a - 1)))) ≥ (iAt b.fList (Int.toNat a)))) then ret (false : Bool) else J (.p0 (IntKind.i64.wrap (a + 1)) b)) else none) else none) else none) else none) else J (.p0 (IntKind.i64.wrap (a + 1)) b)))) else none) else none) else (call (spec_l1In.R ((b.fList.length : Int), 1, 4)) fun v2 => (bif v2 then (call (spec_l1In.R (b.fNeed, 1, (b.fList.length : Int))) fun v3 => ret (v3 : Bool)) else ret (false : Bool))))
noncomputable def start (J : Pt → Ans) (x0 : RKeys) : Ans := J (.p0 0 x0)
def live : Nat → Live := fun i => match i with | 2 => [(1, none), (3, none)] | _ => []
def pats : List Pat := [.agg [.sl 3, .int .i64]]
def res : RP := .one (.rd (.bool))
noncomputable abbrev E : Env := { T := assoc Tab, G := conG [(97, spec_l1In.con)], nt := 48 }
set_option maxRecDepth 100000
theorem step_eq (I : Heads) (p : Pt) : enterC E live I (pid p) (bodyOf Try.f257) (stOf (live (pid p)) (pvs p) (phs p)) (doneK E Try.f257 res) = step (fun q => I (pid q) (pvs q) (phs q)) p := by
  cases p <;> kernel_rfl
theorem start_eq (I : Heads) (ls : List L) : runC E live I (bodyOf Try.f257) (initS pats ls) (doneK E Try.f257 res) = start (fun q => I (pid q) (pvs q) (phs q)) (RKeys.dec ls) := by kernel_rfl
theorem run_eq (n : Nat) (ls : List L) : runF E live Try.f257 res n (initS pats ls) = start (iter step n) (RKeys.dec ls) := runF_iter (id := pid) (vs := pvs) (hs := phs) (step := step) (start := fun J => start J (RKeys.dec ls)) step_eq (fun I => start_eq I ls) n
noncomputable def md (a0 : MKeys) : Bool := (eachI (S := Unit) (β := Bool) (fun (i1 : Nat) (y1 : Int) (s3 : Unit) => (bif (!(spec_l1In.md y1 1 99)) then (.inr (false : Bool)) else (bif (decide ((i1 : Int) > 0)) then (bif (decide ((a0.fList.getD (Int.toNat (IntKind.i64.wrap ((i1 : Int) - 1))) 0) ≥ y1)) then (.inr (false : Bool)) else (.inl ())) else (.inl ())))) (fun (s3 : Unit) => (bif (spec_l1In.md (a0.fList.length : Int) 1 4) then ((spec_l1In.md a0.fNeed 1 (a0.fList.length : Int)) : Bool) else (false : Bool))) 0 a0.fList ())
def gd (a0 : MKeys) : Prop := (MKeys.Sm (2 ^ 21) a0)
def acc (ls : List L) : RKeys := (RKeys.dec ls)
noncomputable def R : RKeys → Option Bool := RR gd md
theorem R_eq {a0} (h : gd a0) : R (MKeys.r a0) = some (md a0) := RR_eq (a := a0) h
noncomputable def con : Con := CN pats res acc R
theorem okF (a0 : MKeys) (hg : gd a0) : ∃ n, start (iter step n) (MKeys.r a0) = ret ((md a0) : Bool) := by
  unfold gd at hg
  have H0 := hg
  unfold start md
  try simp only [S0, MKeys.rs]
  have Bh2 : a0.fList.length ≤ maxLen := (by
      have := (H0).1
      try simp only [maxLen] at *
      omega)
  refine ex_eq (out := ret) (loopM_eachI (z := 0)) ?_
  refine ex_pt (p := Pt.p0 0 (MKeys.r a0)) (by first | rfl | (simp only [S0, MKeys.rs, MP]; done) | (simp only [MP]; rfl)) ?_
  refine loopM_ok (pt := fun (i1 : Nat) (s3 : Unit) => Pt.p0 (i1 : Int) (MKeys.r a0)) (s := (() : Unit)) (out := ret) (fun _ _ => True) (fun J i1 s3 h2 hih2 => ?_) (fun s3 hih2 => ?_) trivial
  · simp only [step, S0, MKeys.rs]
    have bb_ := Bh2
    simp only [maxLen] at bb_
    have := (H0).1
    refine Rnd.yes (by apply decide_eq_true; omega) ?_
    refine Rnd.yes zle_dec ?_
    refine Rnd.yes (lt_dec h2) ?_
    refine Rnd.call_to (spec_l1In.md (a0.fList.getD i1 0) 1 99) (spec_l1In.R_eq (a0 := (a0.fList.getD i1 0)) (a1 := 1) (a2 := 99) trivial) ?_
    refine Rnd.bif (fun _ => Rnd.inr rfl) (fun c4 => ?_)
    have dc4 := c4
    try simp only [DC] at dc4
    have Dc4 := c4
    try simp [spec_l1In.md] at Dc4
    refine Rnd.bif (fun c5 => ?_) (fun c5 => ?_)
    · have dc5 := c5
      try simp only [DC] at dc5
      refine Rnd.yes (by
          refine decide_eq_true ?_
          try simp (disch := omega) only [LN, wi]
          first | omega | (simp; done) | (simp; omega)) ?_
      refine Rnd.yes (by
          have := (H0).1
          refine decide_eq_true ?_
          try simp (disch := omega) only [LN, wi]
          first | omega | (simp; done) | (simp; omega)) ?_
      refine Rnd.yes zle_dec ?_
      refine Rnd.yes (lt_dec h2) ?_
      refine Rnd.bif (fun _ => Rnd.inr rfl) (fun c6 => ?_)
      refine Rnd.inl trivial ?_
      rw [wrap_succ h2 Bh2]
      all_goals first | rfl | (simp only [S0, MKeys.rs, MP]; first | done | rfl)
    · refine Rnd.inl trivial ?_
      rw [wrap_succ h2 Bh2]
      all_goals first | rfl | (simp only [S0, MKeys.rs, MP]; first | done | rfl)
  · simp only [step, S0, MKeys.rs]
    have := (H0).1
    refine ex_no (by apply decide_eq_false; omega) ?_
    refine ex_call_to (spec_l1In.md (a0.fList.length : Int) 1 4) (spec_l1In.R_eq (a0 := (a0.fList.length : Int)) (a1 := 1) (a2 := 4) trivial) ?_
    refine ex_bif ret (fun c7 => ?_) (fun _ => ⟨0, rfl⟩)
    refine ex_call_to (spec_l1In.md a0.fNeed 1 (a0.fList.length : Int)) (spec_l1In.R_eq (a0 := a0.fNeed) (a1 := 1) (a2 := (a0.fList.length : Int)) trivial) ?_
    refine ⟨0, ?_⟩
    all_goals first | rfl | (simp only [S0, MKeys.rs, MP]; first | done | rfl)
theorem valid_ : Valid Try.prog Ev 257 con := VV (run := fun n x => start (iter step n) x) mix tab_ok (.cons spec_l1In.valid_ .nil) Try.func257 (by kernel_rfl) run_eq (fun _ a _ _ hg => okF a hg)
theorem tr {a0 : MKeys} (h : md a0 = true) : 1 ≤ a0.fList.length ∧ a0.fList.length ≤ 4 := by
  refine Classical.byContradiction fun hc => ?_
  have e1 : spec_l1In.md (a0.fList.length : Int) 1 4 = false := by simp [spec_l1In.md]; omega
  unfold md at h
  rw [e1] at h
  have e2 : ∀ s : Unit, (bif false then spec_l1In.md a0.fNeed 1 (a0.fList.length : Int) else false) = false := fun _ => rfl
  have h3 := eachI_const (c := false) (f := fun (i1 : Nat) (y1 : Int) (s3 : Unit) => (bif (!(spec_l1In.md y1 1 99)) then (.inr (false : Bool)) else (bif (decide ((i1 : Int) > 0)) then (bif (decide ((a0.fList.getD (Int.toNat (IntKind.i64.wrap ((i1 : Int) - 1))) 0) ≥ y1)) then (.inr (false : Bool)) else (.inl ())) else (.inl ())))) (by
    intro i x s b h
    revert h
    simp only [Bool.cond_eq_ite]
    repeat' split
    all_goals (intro h; first | (cases h; rfl) | cases h)) a0.fList 0 ()
  simp only [cond_false] at h
  rw [h3] at h
  cases h
end spec_IsKeys
/-! spec.NoKeys -/
namespace spec_NoKeys
noncomputable def F (x0 : RKeys) : Ans := (bif (x0.fNeed == 0) then ret (((x0.fList.length : Int) == 0) : Bool) else ret (false : Bool))
def pats : List Pat := [.agg [.sl 3, .int .i64]]
def res : RP := .one (.rd (.bool))
noncomputable abbrev E : Env := { T := assoc Tab, G := conG [], nt := 12 }
set_option maxRecDepth 100000
theorem run_eq (n : Nat) (ls : List L) : runF E (fun _ => []) Try.f258 res n (initS pats ls) = F (RKeys.dec ls) := by kernel_rfl
noncomputable def md (a0 : MKeys) : Bool := (bif (a0.fNeed == 0) then (((a0.fList.length : Int) == 0) : Bool) else (false : Bool))
def gd (a0 : MKeys) : Prop := True
def acc (ls : List L) : RKeys := (RKeys.dec ls)
noncomputable def R : RKeys → Option Bool := RR gd md
theorem R_eq {a0} (h : gd a0) : R (MKeys.r a0) = some (md a0) := RR_eq (a := a0) h
noncomputable def con : Con := CN pats res acc R
theorem okF (a0 : MKeys) (hg : gd a0) : F (MKeys.r a0) = ret ((md a0) : Bool) := by
  unfold F md
  try simp only [S0, MKeys.rs]
  refine bif_out ret (fun c1 => ?_) (fun _ => rfl)
  all_goals first | rfl | (simp only [S0, MKeys.rs, MP]; first | done | rfl)
theorem valid_ : Valid Try.prog Ev 258 con := VV (run := fun _ x => F x) mix tab_ok .nil Try.func258 (by kernel_rfl) run_eq (fun _ a _ _ hg => ⟨0, okF a hg⟩)
end spec_NoKeys
/-! spec.IsHead -/
namespace spec_IsHead
noncomputable def F (x0 : RHead) : Ans := (call (spec_l1In.R (x0.fZone, 0, 2147483646)) fun v1 => (bif (!v1) then ret (false : Bool) else (call (spec_l1In.R (x0.fRoot, 0, 2147483646)) fun v2 => (bif (!v2) then ret (false : Bool) else (call (spec_l1In.R (x0.fPrev, 0, 2147483646)) fun v3 => (bif (!v3) then ret (false : Bool) else (call (spec_l1In.R (x0.fEpoch, 0, 200)) fun v4 => (bif (!v4) then ret (false : Bool) else (call (spec_l1In.R (x0.fKind, 1, 3)) fun v5 => (bif (!v5) then ret (false : Bool) else (call (spec_l1In.R (x0.fTime, 0, 100000)) fun v6 => (bif (!v6) then ret (false : Bool) else (call (spec_l1In.R (x0.fUntil, x0.fTime, 100000)) fun v7 => (bif (!v7) then ret (false : Bool) else (bif (decide ((IntKind.i64.wrap (x0.fUntil - x0.fTime)) > 200)) then ret (false : Bool) else (call (spec_l1In.R (x0.fCount, 0, 12)) fun v8 => (bif (!v8) then ret (false : Bool) else (call (spec_IsKeys.R x0.fKeys) fun v9 => (bif (!v9) then ret (false : Bool) else (call (spec_NoKeys.R x0.fHeirs) fun v10 => (bif v10 then (bif (x0.fWait != 0) then ret (false : Bool) else (call (spec_IsKeys.R x0.fJudge) fun v11 => (bif v11 then ret (true : Bool) else (call (spec_NoKeys.R x0.fJudge) fun v12 => (bif v12 then ret ((!x0.fFrozen) : Bool) else ret (false : Bool)))))) else (call (spec_IsKeys.R x0.fHeirs) fun v13 => (bif (!v13) then ret (false : Bool) else (call (spec_l1In.R (x0.fWait, 1, 500)) fun v14 => (bif (!v14) then ret (false : Bool) else (call (spec_IsKeys.R x0.fJudge) fun v15 => (bif v15 then ret (true : Bool) else (call (spec_NoKeys.R x0.fJudge) fun v16 => (bif v16 then ret ((!x0.fFrozen) : Bool) else ret (false : Bool))))))))))))))))))))))))))))))
def pats : List Pat := [.agg [.int .i64, .int .i64, .int .i64, .int .i64, .int .i64, .int .i64, .int .i64, .int .i64, .sl 3, .int .i64, .sl 3, .int .i64, .int .i64, .sl 3, .int .i64, .bool]]
def res : RP := .one (.rd (.bool))
noncomputable abbrev E : Env := { T := assoc Tab, G := conG [(97, spec_l1In.con), (257, spec_IsKeys.con), (258, spec_NoKeys.con)], nt := 92 }
set_option maxRecDepth 100000
theorem run_eq (n : Nat) (ls : List L) : runF E (fun _ => []) Try.f244 res n (initS pats ls) = F (RHead.dec ls) := by kernel_rfl
noncomputable def md (a0 : MHead) : Bool := (bif (!(spec_l1In.md a0.fZone 0 2147483646)) then (false : Bool) else (bif (!(spec_l1In.md a0.fRoot 0 2147483646)) then (false : Bool) else (bif (!(spec_l1In.md a0.fPrev 0 2147483646)) then (false : Bool) else (bif (!(spec_l1In.md a0.fEpoch 0 200)) then (false : Bool) else (bif (!(spec_l1In.md a0.fKind 1 3)) then (false : Bool) else (bif (!(spec_l1In.md a0.fTime 0 100000)) then (false : Bool) else (bif (!(spec_l1In.md a0.fUntil a0.fTime 100000)) then (false : Bool) else (bif (decide ((IntKind.i64.wrap (a0.fUntil - a0.fTime)) > 200)) then (false : Bool) else (bif (!(spec_l1In.md a0.fCount 0 12)) then (false : Bool) else (bif (!(spec_IsKeys.md a0.fKeys)) then (false : Bool) else (bif (spec_NoKeys.md a0.fHeirs) then (bif (a0.fWait != 0) then (false : Bool) else (bif (spec_IsKeys.md a0.fJudge) then (true : Bool) else (bif (spec_NoKeys.md a0.fJudge) then ((!a0.fFrozen) : Bool) else (false : Bool)))) else (bif (!(spec_IsKeys.md a0.fHeirs)) then (false : Bool) else (bif (!(spec_l1In.md a0.fWait 1 500)) then (false : Bool) else (bif (spec_IsKeys.md a0.fJudge) then (true : Bool) else (bif (spec_NoKeys.md a0.fJudge) then ((!a0.fFrozen) : Bool) else (false : Bool))))))))))))))))
def gd (a0 : MHead) : Prop := (MHead.Sm (2 ^ 21) a0)
def acc (ls : List L) : RHead := (RHead.dec ls)
noncomputable def R : RHead → Option Bool := RR gd md
theorem R_eq {a0} (h : gd a0) : R (MHead.r a0) = some (md a0) := RR_eq (a := a0) h
noncomputable def con : Con := CN pats res acc R
theorem okF (a0 : MHead) (hg : gd a0) : F (MHead.r a0) = ret ((md a0) : Bool) := by
  unfold gd at hg
  have H0 := hg
  unfold F md
  try simp only [S0, MHead.rs]
  refine call_to (spec_l1In.md a0.fZone 0 2147483646) (spec_l1In.R_eq (a0 := a0.fZone) (a1 := 0) (a2 := 2147483646) trivial) ?_
  refine bif_out ret (fun _ => rfl) (fun c1 => ?_)
  refine call_to (spec_l1In.md a0.fRoot 0 2147483646) (spec_l1In.R_eq (a0 := a0.fRoot) (a1 := 0) (a2 := 2147483646) trivial) ?_
  refine bif_out ret (fun _ => rfl) (fun c2 => ?_)
  refine call_to (spec_l1In.md a0.fPrev 0 2147483646) (spec_l1In.R_eq (a0 := a0.fPrev) (a1 := 0) (a2 := 2147483646) trivial) ?_
  refine bif_out ret (fun _ => rfl) (fun c3 => ?_)
  refine call_to (spec_l1In.md a0.fEpoch 0 200) (spec_l1In.R_eq (a0 := a0.fEpoch) (a1 := 0) (a2 := 200) trivial) ?_
  refine bif_out ret (fun _ => rfl) (fun c4 => ?_)
  refine call_to (spec_l1In.md a0.fKind 1 3) (spec_l1In.R_eq (a0 := a0.fKind) (a1 := 1) (a2 := 3) trivial) ?_
  refine bif_out ret (fun _ => rfl) (fun c5 => ?_)
  refine call_to (spec_l1In.md a0.fTime 0 100000) (spec_l1In.R_eq (a0 := a0.fTime) (a1 := 0) (a2 := 100000) trivial) ?_
  refine bif_out ret (fun _ => rfl) (fun c6 => ?_)
  refine call_to (spec_l1In.md a0.fUntil a0.fTime 100000) (spec_l1In.R_eq (a0 := a0.fUntil) (a1 := a0.fTime) (a2 := 100000) trivial) ?_
  refine bif_out ret (fun _ => rfl) (fun c7 => ?_)
  refine bif_out ret (fun _ => rfl) (fun c8 => ?_)
  refine call_to (spec_l1In.md a0.fCount 0 12) (spec_l1In.R_eq (a0 := a0.fCount) (a1 := 0) (a2 := 12) trivial) ?_
  refine bif_out ret (fun _ => rfl) (fun c9 => ?_)
  refine call_to (spec_IsKeys.md a0.fKeys) (spec_IsKeys.R_eq (a0 := a0.fKeys) H0.1) ?_
  refine bif_out ret (fun _ => rfl) (fun c10 => ?_)
  refine call_to (spec_NoKeys.md a0.fHeirs) (spec_NoKeys.R_eq (a0 := a0.fHeirs) trivial) ?_
  refine bif_out ret (fun c11 => ?_) (fun c11 => ?_)
  · refine bif_out ret (fun _ => rfl) (fun c12 => ?_)
    refine call_to (spec_IsKeys.md a0.fJudge) (spec_IsKeys.R_eq (a0 := a0.fJudge) H0.2.2) ?_
    refine bif_out ret (fun _ => rfl) (fun c13 => ?_)
    refine call_to (spec_NoKeys.md a0.fJudge) (spec_NoKeys.R_eq (a0 := a0.fJudge) trivial) ?_
    refine bif_out ret (fun c14 => ?_) (fun _ => rfl)
    all_goals first | rfl | (simp only [S0, MHead.rs, MP]; first | done | rfl)
  · refine call_to (spec_IsKeys.md a0.fHeirs) (spec_IsKeys.R_eq (a0 := a0.fHeirs) H0.2.1) ?_
    refine bif_out ret (fun _ => rfl) (fun c15 => ?_)
    refine call_to (spec_l1In.md a0.fWait 1 500) (spec_l1In.R_eq (a0 := a0.fWait) (a1 := 1) (a2 := 500) trivial) ?_
    refine bif_out ret (fun _ => rfl) (fun c16 => ?_)
    refine call_to (spec_IsKeys.md a0.fJudge) (spec_IsKeys.R_eq (a0 := a0.fJudge) H0.2.2) ?_
    refine bif_out ret (fun _ => rfl) (fun c17 => ?_)
    refine call_to (spec_NoKeys.md a0.fJudge) (spec_NoKeys.R_eq (a0 := a0.fJudge) trivial) ?_
    refine bif_out ret (fun c18 => ?_) (fun _ => rfl)
    all_goals first | rfl | (simp only [S0, MHead.rs, MP]; first | done | rfl)
theorem valid_ : Valid Try.prog Ev 244 con := VV (run := fun _ x => F x) mix tab_ok (.cons spec_l1In.valid_ (.cons spec_IsKeys.valid_ (.cons spec_NoKeys.valid_ .nil))) Try.func244 (by kernel_rfl) run_eq (fun _ a _ _ hg => ⟨0, okF a hg⟩)
theorem tr {a0 : MHead} (h : md a0 = true) : (1 ≤ a0.fKind ∧ a0.fKind ≤ 3) ∧ 0 ≤ a0.fTime ∧ a0.fTime ≤ a0.fUntil ∧ a0.fUntil ≤ 100000 ∧ 0 ≤ a0.fCount ∧ a0.fCount ≤ 12 := by
  have key : ∀ x y z : Int, spec_l1In.md x y z = true → y ≤ x ∧ x ≤ z := fun x y z h => by simpa [spec_l1In.md] using h
  unfold md at h
  simp only [n_and, Bool.not_not, Bool.and_eq_true] at h
  obtain ⟨_, _, _, _, h5, h6, h7, _, h8, _⟩ := h
  have := key _ _ _ h5
  have := key _ _ _ h6
  have := key _ _ _ h7
  have := key _ _ _ h8
  omega
end spec_IsHead
/-! spec.KeysInts -/
namespace spec_KeysInts
noncomputable def F (x0 : RKeys) : Ans := (bif (lim (((2 : Int) + (x0.fList.length : Int)) * 8)) then ret (([[L.int x0.fNeed], [L.int (x0.fList.length : Int)]] ++ x0.fList) : List (List L)) else none)
def pats : List Pat := [.agg [.sl 3, .int .i64]]
def res : RP := .one (.fr 3)
noncomputable abbrev E : Env := { T := assoc Tab, G := conG [], nt := 12 }
set_option maxRecDepth 100000
theorem run_eq (n : Nat) (ls : List L) : runF E (fun _ => []) Try.f260 res n (initS pats ls) = F (RKeys.dec ls) := by kernel_rfl
noncomputable def md (a0 : MKeys) : List Int := ([a0.fNeed, (a0.fList.length : Int)] ++ a0.fList)
def gd (a0 : MKeys) : Prop := (MKeys.Sm (2 ^ 21) a0)
def acc (ls : List L) : RKeys := (RKeys.dec ls)
noncomputable def R : RKeys → Option (List (List L)) := RR gd md
theorem R_eq {a0} (h : gd a0) : R (MKeys.r a0) = some ((md a0).map iRow) := RR_eq (a := a0) h
noncomputable def con : Con := CN pats res acc R
theorem okF (a0 : MKeys) (hg : gd a0) : F (MKeys.r a0) = ret (((md a0).map iRow) : List (List L)) := by
  unfold gd at hg
  have H0 := hg
  unfold F md
  try simp only [S0, MKeys.rs]
  refine yes_ret (by
      have := (H0).1
      refine lim_t ?_
      try simp (disch := omega) only [LN, wi]
      first | omega | (simp; done) | (simp; omega)) ?_
  all_goals first | rfl | (simp only [S0, MKeys.rs]; done) | (simp only [MP]; rfl) | (simp only [S0, MKeys.rs, MP]; first | done | rfl)
theorem valid_ : Valid Try.prog Ev 260 con := VV (run := fun _ x => F x) mix tab_ok .nil Try.func260 (by kernel_rfl) run_eq (fun _ a _ _ hg => ⟨0, okF a hg⟩)
theorem len (a0 : MKeys) : (md a0).length = 2 + a0.fList.length := by simp [md]; omega
end spec_KeysInts
/-! spec.Mod -/
namespace spec_Mod
noncomputable def F (x0 : Int) (x1 : Int) : Ans := (call (spec_l1In.R (x1, 1, 1000000000000)) fun v1 => (bif (!v1) then ret (0 : Int) else (bif (decide (x1 = 0)) then none else (bif (decide (x1 = 0)) then none else ret ((Int.tmod (IntKind.i64.wrap ((Int.tmod x0 x1) + x1)) x1) : Int)))))
def pats : List Pat := [.rd (.int .i64), .rd (.int .i64)]
def res : RP := .one (.rd (.int .i64))
noncomputable abbrev E : Env := { T := assoc Tab, G := conG [(97, spec_l1In.con)], nt := 15 }
set_option maxRecDepth 100000
theorem run_eq (n : Nat) (ls : List L) : runF E (fun _ => []) Try.f279 res n (initS pats ls) = F (ls.headD .hole).toInt ((dropT 1 ls).headD .hole).toInt := by kernel_rfl
noncomputable def md (a0 : Int) (a1 : Int) : Int := (bif (!(spec_l1In.md a1 1 1000000000000)) then (0 : Int) else ((Int.tmod (IntKind.i64.wrap ((Int.tmod a0 a1) + a1)) a1) : Int))
def gd (a0 : Int) (a1 : Int) : Prop := True
def acc (ls : List L) : Int × Int := ((ls.headD .hole).toInt, ((dropT 1 ls).headD .hole).toInt)
noncomputable def R : (Int × Int) → Option Int := RR (p2 gd) (u2 md)
theorem R_eq {a0} {a1} (h : gd a0 a1) : R (a0, a1) = some (md a0 a1) := RR_eq (a := (a0, a1)) h
noncomputable def con : Con := CN pats res acc R
theorem okF (a0 : Int) (a1 : Int) (hg : gd a0 a1) : F a0 a1 = ret ((md a0 a1) : Int) := by
  unfold F md
  try simp only [S0]
  refine call_to (spec_l1In.md a1 1 1000000000000) (spec_l1In.R_eq (a0 := a1) (a1 := 1) (a2 := 1000000000000) trivial) ?_
  refine bif_out ret (fun _ => rfl) (fun c1 => ?_)
  have dc1 := c1
  try simp only [DC] at dc1
  have Dc1 := c1
  try simp [spec_l1In.md] at Dc1
  refine no_ret (by
      refine decide_eq_false ?_
      try simp (disch := omega) only [LN, wi]
      first | omega | (simp; done) | (simp; omega)) ?_
  refine no_ret (by
      refine decide_eq_false ?_
      try simp (disch := omega) only [LN, wi]
      first | omega | (simp; done) | (simp; omega)) ?_
  all_goals first | rfl | (simp only [S0, MP]; first | done | rfl)
theorem valid_ : Valid Try.prog Ev 279 con := VV (run := fun _ x => F x.1 x.2) mix tab_ok (.cons spec_l1In.valid_ .nil) Try.func279 (by kernel_rfl) run_eq (fun _ a _ _ hg => ⟨0, okF a.1 a.2 hg⟩)
end spec_Mod
/-! spec.Hash -/
namespace spec_Hash
inductive Pt where
  | p0 (a : List (List L)) (b : Int) (c : Int)
def pid : Pt → Nat
  | .p0 .. => 3
def pvs : Pt → List V
  | .p0 a b c => [.sl none 3 a, .int .i64 b, .int .i64 c]
def phs : Pt → List Root
  | .p0 a b c => []
noncomputable def step (J : Pt → Ans) : Pt → Ans
  | .p0 a b c => (bif (decide (c < (a.length : Int))) then (bif (decide ((0 : Int) ≤ c)) then (bif (decide (c < (a.length : Int))) then (call (spec_Mod.R ((iAt a (Int.toNat c)), 2147483647)) fun v1 => J (.p0 a (Int.tmod (IntKind.i64.wrap ((IntKind.i64.wrap ((IntKind.i64.wrap (b * 1000003)) + v1)) + 13)) 2147483647) (IntKind.i64.wrap (c + 1)))) else none) else none) else ret (b : Int))
noncomputable def start (J : Pt → Ans) (x0 : List (List L)) : Ans := J (.p0 x0 11 0)
def live : Nat → Live := fun i => match i with | 3 => [(0, none), (3, none), (4, none)] | _ => []
def pats : List Pat := [.rd (.sl 3)]
def res : RP := .one (.rd (.int .i64))
noncomputable abbrev E : Env := { T := assoc Tab, G := conG [(279, spec_Mod.con)], nt := 22 }
set_option maxRecDepth 100000
theorem step_eq (I : Heads) (p : Pt) : enterC E live I (pid p) (bodyOf Try.f259) (stOf (live (pid p)) (pvs p) (phs p)) (doneK E Try.f259 res) = step (fun q => I (pid q) (pvs q) (phs q)) p := by
  cases p <;> kernel_rfl
theorem start_eq (I : Heads) (ls : List L) : runC E live I (bodyOf Try.f259) (initS pats ls) (doneK E Try.f259 res) = start (fun q => I (pid q) (pvs q) (phs q)) (ls.headD .hole).toSl := by kernel_rfl
theorem run_eq (n : Nat) (ls : List L) : runF E live Try.f259 res n (initS pats ls) = start (iter step n) (ls.headD .hole).toSl := runF_iter (id := pid) (vs := pvs) (hs := phs) (step := step) (start := fun J => start J (ls.headD .hole).toSl) step_eq (fun I => start_eq I ls) n
noncomputable def md (a0 : List Int) : Int := (eachM (S := Int) (β := Int) (fun (y1 : Int) (s3 : Int) => (.inl (Int.tmod (IntKind.i64.wrap ((IntKind.i64.wrap ((IntKind.i64.wrap (s3 * 1000003)) + (spec_Mod.md y1 2147483647))) + 13)) 2147483647))) (fun (s3 : Int) => (s3 : Int)) a0 11)
def gd (a0 : List Int) : Prop := (SmL (2 ^ 43) (fun y : Int => True) a0)
def acc (ls : List L) : List (List L) := (ls.headD .hole).toSl
noncomputable def R : (List (List L)) → Option Int := RR gd md
theorem R_eq {a0} (h : gd a0) : R (a0.map iRow) = some (md a0) := RR_eq (a := a0) h
noncomputable def con : Con := CN pats res acc R
theorem okF (a0 : List Int) (hg : gd a0) : ∃ n, start (iter step n) (a0.map iRow) = ret ((md a0) : Int) := by
  unfold gd at hg
  have H0 := hg
  unfold start md
  try simp only [S0]
  have Bh2 : a0.length ≤ maxLen := (by
      have := (H0).1
      try simp only [maxLen] at *
      omega)
  refine ex_eq (out := ret) (loopM_eachM (z := 0)) ?_
  refine ex_pt (p := Pt.p0 (a0.map iRow) 11 0) (by first | rfl | (simp only [S0, MP]; done) | (simp only [MP]; rfl)) ?_
  refine loopM_ok (pt := fun (i1 : Nat) (s3 : Int) => Pt.p0 (a0.map iRow) s3 (i1 : Int)) (s := (11 : Int)) (out := ret) (fun _ _ => True) (fun J i1 s3 h2 hih2 => ?_) (fun s3 hih2 => ?_) trivial
  · simp only [step, S0]
    have bb_ := Bh2
    simp only [maxLen] at bb_
    have := (H0).1
    refine Rnd.yes (by apply decide_eq_true; omega) ?_
    refine Rnd.yes zle_dec ?_
    refine Rnd.yes (lt_dec h2) ?_
    refine Rnd.call_to (spec_Mod.md (a0.getD i1 0) 2147483647) (spec_Mod.R_eq (a0 := (a0.getD i1 0)) (a1 := 2147483647) trivial) ?_
    refine Rnd.inl trivial ?_
    rw [wrap_succ h2 Bh2]
    all_goals first | rfl | (simp only [S0, MP]; first | done | rfl)
  · simp only [step, S0]
    have := (H0).1
    refine ex_no (by apply decide_eq_false; omega) ?_
    refine ⟨0, ?_⟩
    all_goals first | rfl | (simp only [S0, MP]; first | done | rfl)
theorem valid_ : Valid Try.prog Ev 259 con := VV (run := fun n x => start (iter step n) x) mix tab_ok (.cons spec_Mod.valid_ .nil) Try.func259 (by kernel_rfl) run_eq (fun _ a _ _ hg => okF a hg)
end spec_Hash
/-! spec.ZoneOf -/
namespace spec_ZoneOf
noncomputable def F (x0 : RKeys) (x1 : Int) : Ans := (call (spec_KeysInts.R x0) fun v1 => (bif (lim (((2 : Int) + (v1.length : Int)) * 8)) then (call (spec_Hash.R ([[L.int 239], [L.int x1]] ++ v1)) fun v2 => ret (v2 : Int)) else none))
def pats : List Pat := [.agg [.sl 3, .int .i64], .rd (.int .i64)]
def res : RP := .one (.rd (.int .i64))
noncomputable abbrev E : Env := { T := assoc Tab, G := conG [(260, spec_KeysInts.con), (259, spec_Hash.con)], nt := 11 }
set_option maxRecDepth 100000
theorem run_eq (n : Nat) (ls : List L) : runF E (fun _ => []) Try.f245 res n (initS pats ls) = F (RKeys.dec ls) ((dropT 2 ls).headD .hole).toInt := by kernel_rfl
noncomputable def md (a0 : MKeys) (a1 : Int) : Int := ((spec_Hash.md ([239, a1] ++ (spec_KeysInts.md a0))) : Int)
def gd (a0 : MKeys) (a1 : Int) : Prop := (MKeys.Sm (2 ^ 21) a0)
def acc (ls : List L) : RKeys × Int := ((RKeys.dec ls), ((dropT 2 ls).headD .hole).toInt)
noncomputable def R : (RKeys × Int) → Option Int := RR (p2 gd) (u2 md)
theorem R_eq {a0} {a1} (h : gd a0 a1) : R ((MKeys.r a0), a1) = some (md a0 a1) := RR_eq (a := (a0, a1)) h
noncomputable def con : Con := CN pats res acc R
theorem okF (a0 : MKeys) (a1 : Int) (hg : gd a0 a1) : F (MKeys.r a0) a1 = ret ((md a0 a1) : Int) := by
  unfold gd at hg
  have H0 := hg
  unfold F md
  try simp only [S0]
  refine call_to ((spec_KeysInts.md a0).map iRow) (spec_KeysInts.R_eq (a0 := a0) H0) ?_
  try simp only [S0]
  refine yes_ret (by
      have := spec_KeysInts.len a0
      have := (H0).1
      refine lim_t ?_
      try simp (disch := omega) only [LN, wi]
      first | omega | (simp; done) | (simp; omega)) ?_
  refine call_to (spec_Hash.md ([239, a1] ++ (spec_KeysInts.md a0))) ?_ ?_
  · have R_ := spec_Hash.R_eq (a0 := ([239, a1] ++ (spec_KeysInts.md a0))) ⟨(by
        have := spec_KeysInts.len a0
        have := (H0).1
        try simp (disch := omega) only [LN, wi]
        first | omega | (simp; done) | (simp; omega)), fun _ _ => trivial⟩
    first | exact R_ | (simp only [MP, S0] at R_ ⊢; first | exact R_ | (rw [← R_]; rfl))
  all_goals first | rfl | (simp only [S0, MP]; first | done | rfl)
theorem valid_ : Valid Try.prog Ev 245 con := VV (run := fun _ x => F x.1 x.2) mix tab_ok (.cons spec_KeysInts.valid_ (.cons spec_Hash.valid_ .nil)) Try.func245 (by kernel_rfl) run_eq (fun _ a _ _ hg => ⟨0, okF a.1 a.2 hg⟩)
end spec_ZoneOf
/-! spec.HeadInts -/
namespace spec_HeadInts
noncomputable def F (x0 : RHead) : Ans := (call (spec_KeysInts.R x0.fKeys) fun v1 => (bif (lim (((8 : Int) + (v1.length : Int)) * 8)) then (call (spec_KeysInts.R x0.fHeirs) fun v2 => (bif (lim (((([[L.int x0.fZone], [L.int x0.fEpoch], [L.int x0.fKind], [L.int x0.fTime], [L.int x0.fUntil], [L.int x0.fCount], [L.int x0.fRoot], [L.int x0.fPrev]] ++ v1).length : Int) + (v2.length : Int)) * 8)) then (bif (lim ((((([[L.int x0.fZone], [L.int x0.fEpoch], [L.int x0.fKind], [L.int x0.fTime], [L.int x0.fUntil], [L.int x0.fCount], [L.int x0.fRoot], [L.int x0.fPrev]] ++ v1) ++ v2).length : Int) + 1) * 8)) then (call (spec_KeysInts.R x0.fJudge) fun v3 => (bif (lim (((((([[L.int x0.fZone], [L.int x0.fEpoch], [L.int x0.fKind], [L.int x0.fTime], [L.int x0.fUntil], [L.int x0.fCount], [L.int x0.fRoot], [L.int x0.fPrev]] ++ v1) ++ v2) ++ [[L.int x0.fWait]]).length : Int) + (v3.length : Int)) * 8)) then (bif x0.fFrozen then (bif (lim ((((((([[L.int x0.fZone], [L.int x0.fEpoch], [L.int x0.fKind], [L.int x0.fTime], [L.int x0.fUntil], [L.int x0.fCount], [L.int x0.fRoot], [L.int x0.fPrev]] ++ v1) ++ v2) ++ [[L.int x0.fWait]]) ++ v3).length : Int) + 1) * 8)) then ret (((((([[L.int x0.fZone], [L.int x0.fEpoch], [L.int x0.fKind], [L.int x0.fTime], [L.int x0.fUntil], [L.int x0.fCount], [L.int x0.fRoot], [L.int x0.fPrev]] ++ v1) ++ v2) ++ [[L.int x0.fWait]]) ++ v3) ++ [[L.int 1]]) : List (List L)) else none) else (bif (lim ((((((([[L.int x0.fZone], [L.int x0.fEpoch], [L.int x0.fKind], [L.int x0.fTime], [L.int x0.fUntil], [L.int x0.fCount], [L.int x0.fRoot], [L.int x0.fPrev]] ++ v1) ++ v2) ++ [[L.int x0.fWait]]) ++ v3).length : Int) + 1) * 8)) then ret (((((([[L.int x0.fZone], [L.int x0.fEpoch], [L.int x0.fKind], [L.int x0.fTime], [L.int x0.fUntil], [L.int x0.fCount], [L.int x0.fRoot], [L.int x0.fPrev]] ++ v1) ++ v2) ++ [[L.int x0.fWait]]) ++ v3) ++ [[L.int 0]]) : List (List L)) else none)) else none)) else none) else none)) else none))
def pats : List Pat := [.agg [.int .i64, .int .i64, .int .i64, .int .i64, .int .i64, .int .i64, .int .i64, .int .i64, .sl 3, .int .i64, .sl 3, .int .i64, .int .i64, .sl 3, .int .i64, .bool]]
def res : RP := .one (.fr 3)
noncomputable abbrev E : Env := { T := assoc Tab, G := conG [(260, spec_KeysInts.con)], nt := 49 }
set_option maxRecDepth 100000
theorem run_eq (n : Nat) (ls : List L) : runF E (fun _ => []) Try.f247 res n (initS pats ls) = F (RHead.dec ls) := by kernel_rfl
noncomputable def md (a0 : MHead) : List Int := (bif a0.fFrozen then ((((([a0.fZone, a0.fEpoch, a0.fKind, a0.fTime, a0.fUntil, a0.fCount, a0.fRoot, a0.fPrev] ++ (spec_KeysInts.md a0.fKeys)) ++ (spec_KeysInts.md a0.fHeirs)) ++ [a0.fWait]) ++ (spec_KeysInts.md a0.fJudge)) ++ [1]) else ((((([a0.fZone, a0.fEpoch, a0.fKind, a0.fTime, a0.fUntil, a0.fCount, a0.fRoot, a0.fPrev] ++ (spec_KeysInts.md a0.fKeys)) ++ (spec_KeysInts.md a0.fHeirs)) ++ [a0.fWait]) ++ (spec_KeysInts.md a0.fJudge)) ++ [0]))
def gd (a0 : MHead) : Prop := (MHead.Sm (2 ^ 21) a0)
def acc (ls : List L) : RHead := (RHead.dec ls)
noncomputable def R : RHead → Option (List (List L)) := RR gd md
theorem R_eq {a0} (h : gd a0) : R (MHead.r a0) = some ((md a0).map iRow) := RR_eq (a := a0) h
noncomputable def con : Con := CN pats res acc R
theorem okF (a0 : MHead) (hg : gd a0) : F (MHead.r a0) = ret (((md a0).map iRow) : List (List L)) := by
  unfold gd at hg
  have H0 := hg
  unfold F md
  try simp only [S0, MHead.rs]
  refine call_to ((spec_KeysInts.md a0.fKeys).map iRow) (spec_KeysInts.R_eq (a0 := a0.fKeys) H0.1) ?_
  try simp only [S0, MHead.rs]
  refine yes_ret (by
      have := spec_KeysInts.len a0.fKeys
      have := (H0.1).1
      refine lim_t ?_
      try simp (disch := omega) only [LN, wi]
      first | omega | (simp; done) | (simp; omega)) ?_
  refine call_to ((spec_KeysInts.md a0.fHeirs).map iRow) (spec_KeysInts.R_eq (a0 := a0.fHeirs) H0.2.1) ?_
  try simp only [S0, MHead.rs]
  refine yes_ret (by
      have := spec_KeysInts.len a0.fKeys
      have := (H0.1).1
      have := spec_KeysInts.len a0.fHeirs
      have := (H0.2.1).1
      refine lim_t ?_
      try simp (disch := omega) only [LN, wi]
      first | omega | (simp; done) | (simp; omega)) ?_
  refine yes_ret (by
      have := spec_KeysInts.len a0.fKeys
      have := (H0.1).1
      have := spec_KeysInts.len a0.fHeirs
      have := (H0.2.1).1
      refine lim_t ?_
      try simp (disch := omega) only [LN, wi]
      first | omega | (simp; done) | (simp; omega)) ?_
  refine call_to ((spec_KeysInts.md a0.fJudge).map iRow) (spec_KeysInts.R_eq (a0 := a0.fJudge) H0.2.2) ?_
  try simp only [S0, MHead.rs]
  refine yes_ret (by
      have := spec_KeysInts.len a0.fKeys
      have := (H0.1).1
      have := spec_KeysInts.len a0.fHeirs
      have := (H0.2.1).1
      have := spec_KeysInts.len a0.fJudge
      have := (H0.2.2).1
      refine lim_t ?_
      try simp (disch := omega) only [LN, wi]
      first | omega | (simp; done) | (simp; omega)) ?_
  refine bif_out (fun b : List Int => ret ((b.map iRow) : List (List L))) (fun c1 => ?_) (fun c1 => ?_)
  · refine yes_ret (by
        have := spec_KeysInts.len a0.fKeys
        have := (H0.1).1
        have := spec_KeysInts.len a0.fHeirs
        have := (H0.2.1).1
        have := spec_KeysInts.len a0.fJudge
        have := (H0.2.2).1
        refine lim_t ?_
        try simp (disch := omega) only [LN, wi]
        first | omega | (simp; done) | (simp; omega)) ?_
    all_goals first | rfl | (simp only [S0, MHead.rs]; done) | (simp only [MP]; rfl) | (simp only [S0, MHead.rs, MP]; first | done | rfl)
  · refine yes_ret (by
        have := spec_KeysInts.len a0.fKeys
        have := (H0.1).1
        have := spec_KeysInts.len a0.fHeirs
        have := (H0.2.1).1
        have := spec_KeysInts.len a0.fJudge
        have := (H0.2.2).1
        refine lim_t ?_
        try simp (disch := omega) only [LN, wi]
        first | omega | (simp; done) | (simp; omega)) ?_
    all_goals first | rfl | (simp only [S0, MHead.rs]; done) | (simp only [MP]; rfl) | (simp only [S0, MHead.rs, MP]; first | done | rfl)
theorem valid_ : Valid Try.prog Ev 247 con := VV (run := fun _ x => F x) mix tab_ok (.cons spec_KeysInts.valid_ .nil) Try.func247 (by kernel_rfl) run_eq (fun _ a _ _ hg => ⟨0, okF a hg⟩)
theorem len (a0 : MHead) : (md a0).length = 16 + a0.fKeys.fList.length + a0.fHeirs.fList.length + a0.fJudge.fList.length := by unfold md; cases a0.fFrozen <;> simp [spec_KeysInts.md] <;> omega
theorem injK {k l : MKeys} {x y : List Int} (h : spec_KeysInts.md k ++ x = spec_KeysInts.md l ++ y) : k = l ∧ x = y := by
  obtain ⟨kl, kn⟩ := k
  obtain ⟨ll, ln⟩ := l
  simp only [spec_KeysInts.md, List.cons_append, List.nil_append, List.cons.injEq] at h
  obtain ⟨h1, h2, h3⟩ := h
  obtain ⟨h4, h5⟩ := List.append_inj h3 (by omega)
  exact ⟨by rw [h1, h4], h5⟩
theorem md_form (a : MHead) : md a = a.fZone :: a.fEpoch :: a.fKind :: a.fTime :: a.fUntil :: a.fCount :: a.fRoot :: a.fPrev :: (spec_KeysInts.md a.fKeys ++ (spec_KeysInts.md a.fHeirs ++ (a.fWait :: (spec_KeysInts.md a.fJudge ++ [bif a.fFrozen then 1 else 0])))) := by
  unfold md
  cases a.fFrozen <;> simp only [cond_true, cond_false, List.append_assoc, List.cons_append, List.nil_append]
theorem inj {a b : MHead} (h : md a = md b) : a = b := by
  rw [md_form, md_form] at h
  simp only [List.cons.injEq] at h
  obtain ⟨g1, g2, g3, g4, g5, g6, g7, g8, g9⟩ := h
  obtain ⟨k1, g9⟩ := injK g9
  obtain ⟨k2, g9⟩ := injK g9
  simp only [List.cons.injEq] at g9
  obtain ⟨k3, g9⟩ := g9
  obtain ⟨k4, g9⟩ := injK g9
  have k5 : a.fFrozen = b.fFrozen := by
    simp only [List.cons.injEq, and_true] at g9
    revert g9
    cases a.fFrozen <;> cases b.fFrozen <;> simp
  cases a; cases b
  simp only [MHead.mk.injEq]
  exact ⟨g1, g2, g3, g4, g5, g6, g7, g8, k1, k2, k3, k4, k5⟩
end spec_HeadInts
/-! spec.KeyedHash -/
namespace spec_KeyedHash
noncomputable def F (x0 : Int) (x1 : List (List L)) : Ans := (bif (lim (((1 : Int) + (x1.length : Int)) * 8)) then (bif (lim (((([[L.int x0]] ++ x1).length : Int) + 1) * 8)) then (call (spec_Hash.R (([[L.int x0]] ++ x1) ++ [[L.int x0]])) fun v1 => ret (v1 : Int)) else none) else none)
def pats : List Pat := [.rd (.int .i64), .rd (.sl 3)]
def res : RP := .one (.rd (.int .i64))
noncomputable abbrev E : Env := { T := assoc Tab, G := conG [(259, spec_Hash.con)], nt := 13 }
set_option maxRecDepth 100000
theorem run_eq (n : Nat) (ls : List L) : runF E (fun _ => []) Try.f295 res n (initS pats ls) = F (ls.headD .hole).toInt ((dropT 1 ls).headD .hole).toSl := by kernel_rfl
noncomputable def md (a0 : Int) (a1 : List Int) : Int := ((spec_Hash.md (([a0] ++ a1) ++ [a0])) : Int)
def gd (a0 : Int) (a1 : List Int) : Prop := (SmL (2 ^ 40) (fun y : Int => True) a1)
def acc (ls : List L) : Int × List (List L) := ((ls.headD .hole).toInt, ((dropT 1 ls).headD .hole).toSl)
noncomputable def R : (Int × List (List L)) → Option Int := RR (p2 gd) (u2 md)
theorem R_eq {a0} {a1} (h : gd a0 a1) : R (a0, (a1.map iRow)) = some (md a0 a1) := RR_eq (a := (a0, a1)) h
noncomputable def con : Con := CN pats res acc R
theorem okF (a0 : Int) (a1 : List Int) (hg : gd a0 a1) : F a0 (a1.map iRow) = ret ((md a0 a1) : Int) := by
  unfold gd at hg
  have H1 := hg
  unfold F md
  try simp only [S0]
  refine yes_ret (by
      have := (H1).1
      refine lim_t ?_
      try simp (disch := omega) only [LN, wi]
      first | omega | (simp; done) | (simp; omega)) ?_
  refine yes_ret (by
      have := (H1).1
      refine lim_t ?_
      try simp (disch := omega) only [LN, wi]
      first | omega | (simp; done) | (simp; omega)) ?_
  refine call_to (spec_Hash.md (([a0] ++ a1) ++ [a0])) ?_ ?_
  · have R_ := spec_Hash.R_eq (a0 := (([a0] ++ a1) ++ [a0])) ⟨(by
        have := (H1).1
        try simp (disch := omega) only [LN, wi]
        first | omega | (simp; done) | (simp; omega)), fun _ _ => trivial⟩
    first | exact R_ | (simp only [MP, S0] at R_ ⊢; first | exact R_ | (rw [← R_]; rfl))
  all_goals first | rfl | (simp only [S0, MP]; first | done | rfl)
theorem valid_ : Valid Try.prog Ev 295 con := VV (run := fun _ x => F x.1 x.2) mix tab_ok (.cons spec_Hash.valid_ .nil) Try.func295 (by kernel_rfl) run_eq (fun _ a _ _ hg => ⟨0, okF a.1 a.2 hg⟩)
end spec_KeyedHash
/-! spec.TagOf -/
namespace spec_TagOf
noncomputable def F (x0 : Int) (x1 : List (List L)) : Ans := (bif (lim (((1 : Int) + (x1.length : Int)) * 8)) then (call (spec_KeyedHash.R (x0, ([[L.int 223]] ++ x1))) fun v1 => ret (v1 : Int)) else none)
def pats : List Pat := [.rd (.int .i64), .rd (.sl 3)]
def res : RP := .one (.rd (.int .i64))
noncomputable abbrev E : Env := { T := assoc Tab, G := conG [(295, spec_KeyedHash.con)], nt := 10 }
set_option maxRecDepth 100000
theorem run_eq (n : Nat) (ls : List L) : runF E (fun _ => []) Try.f290 res n (initS pats ls) = F (ls.headD .hole).toInt ((dropT 1 ls).headD .hole).toSl := by kernel_rfl
noncomputable def md (a0 : Int) (a1 : List Int) : Int := ((spec_KeyedHash.md a0 ([223] ++ a1)) : Int)
def gd (a0 : Int) (a1 : List Int) : Prop := (SmL (2 ^ 39) (fun y : Int => True) a1)
def acc (ls : List L) : Int × List (List L) := ((ls.headD .hole).toInt, ((dropT 1 ls).headD .hole).toSl)
noncomputable def R : (Int × List (List L)) → Option Int := RR (p2 gd) (u2 md)
theorem R_eq {a0} {a1} (h : gd a0 a1) : R (a0, (a1.map iRow)) = some (md a0 a1) := RR_eq (a := (a0, a1)) h
noncomputable def con : Con := CN pats res acc R
theorem okF (a0 : Int) (a1 : List Int) (hg : gd a0 a1) : F a0 (a1.map iRow) = ret ((md a0 a1) : Int) := by
  unfold gd at hg
  have H1 := hg
  unfold F md
  try simp only [S0]
  refine yes_ret (by
      have := (H1).1
      refine lim_t ?_
      try simp (disch := omega) only [LN, wi]
      first | omega | (simp; done) | (simp; omega)) ?_
  refine call_to (spec_KeyedHash.md a0 ([223] ++ a1)) ?_ ?_
  · have R_ := spec_KeyedHash.R_eq (a0 := a0) (a1 := ([223] ++ a1)) ⟨(by
        have := (H1).1
        try simp (disch := omega) only [LN, wi]
        first | omega | (simp; done) | (simp; omega)), fun _ _ => trivial⟩
    first | exact R_ | (simp only [MP, S0] at R_ ⊢; first | exact R_ | (rw [← R_]; rfl))
  all_goals first | rfl | (simp only [S0, MP]; first | done | rfl)
theorem valid_ : Valid Try.prog Ev 290 con := VV (run := fun _ x => F x.1 x.2) mix tab_ok (.cons spec_KeyedHash.valid_ .nil) Try.func290 (by kernel_rfl) run_eq (fun _ a _ _ hg => ⟨0, okF a.1 a.2 hg⟩)
end spec_TagOf
/-! spec.IsSigBy -/
namespace spec_IsSigBy
noncomputable def F (x0 : MSig) (x1 : List (List L)) : Ans := (call (spec_l1In.R (x0.fKey, 1, 99)) fun v1 => (bif v1 then (call (spec_TagOf.R (x0.fKey, x1)) fun v2 => ret ((x0.fTag == v2) : Bool)) else ret (false : Bool)))
def pats : List Pat := [.agg [.int .i64, .int .i64], .rd (.sl 3)]
def res : RP := .one (.rd (.bool))
noncomputable abbrev E : Env := { T := assoc Tab, G := conG [(97, spec_l1In.con), (290, spec_TagOf.con)], nt := 17 }
set_option maxRecDepth 100000
theorem run_eq (n : Nat) (ls : List L) : runF E (fun _ => []) Try.f280 res n (initS pats ls) = F (MSig.dec ls) ((dropT 2 ls).headD .hole).toSl := by kernel_rfl
noncomputable def md (a0 : MSig) (a1 : List Int) : Bool := (bif (spec_l1In.md a0.fKey 1 99) then ((a0.fTag == (spec_TagOf.md a0.fKey a1)) : Bool) else (false : Bool))
def gd (a0 : MSig) (a1 : List Int) : Prop := (SmL (2 ^ 38) (fun y : Int => True) a1)
def acc (ls : List L) : MSig × List (List L) := ((MSig.dec ls), ((dropT 2 ls).headD .hole).toSl)
noncomputable def R : (MSig × List (List L)) → Option Bool := RR (p2 gd) (u2 md)
theorem R_eq {a0} {a1} (h : gd a0 a1) : R (a0, (a1.map iRow)) = some (md a0 a1) := RR_eq (a := (a0, a1)) h
noncomputable def con : Con := CN pats res acc R
theorem okF (a0 : MSig) (a1 : List Int) (hg : gd a0 a1) : F a0 (a1.map iRow) = ret ((md a0 a1) : Bool) := by
  unfold gd at hg
  have H1 := hg
  unfold F md
  try simp only [S0]
  refine call_to (spec_l1In.md a0.fKey 1 99) (spec_l1In.R_eq (a0 := a0.fKey) (a1 := 1) (a2 := 99) trivial) ?_
  refine bif_out ret (fun c1 => ?_) (fun _ => rfl)
  refine call_to (spec_TagOf.md a0.fKey a1) (spec_TagOf.R_eq (a0 := a0.fKey) (a1 := a1) (H1.mono (by decide) (fun x hx => trivial))) ?_
  all_goals first | rfl | (simp only [S0, MP]; first | done | rfl)
theorem valid_ : Valid Try.prog Ev 280 con := VV (run := fun _ x => F x.1 x.2) mix tab_ok (.cons spec_l1In.valid_ (.cons spec_TagOf.valid_ .nil)) Try.func280 (by kernel_rfl) run_eq (fun _ a _ _ hg => ⟨0, okF a.1 a.2 hg⟩)
end spec_IsSigBy
/-! spec.CountSigs -/
namespace spec_CountSigs
inductive Pt where
  | p0 (a : List (List L)) (b : List (List L)) (c : Int) (d : Int) (e : RKeys)
  | p1 (a : List (List L)) (b : List (List L)) (c : Int) (d : Int) (e : Int) (f : RKeys)
def pid : Pt → Nat
  | .p0 .. => 3
  | .p1 .. => 6
def pvs : Pt → List V
  | .p0 a b c d e => [.sl none 3 a, .sl none 248 b, .bptr 0 0, .int .i64 c, .int .i64 d]
  | .p1 a b c d e f => [.sl none 3 a, .sl none 248 b, .bptr 0 0, .int .i64 c, .int .i64 d, .int .i64 e]
def phs : Pt → List Root
  | .p0 a b c d e => [.box [.sl none 3 e.fList, .int .i64 e.fNeed]]
  | .p1 a b c d e f => [.box [.sl none 3 f.fList, .int .i64 f.fNeed]]
noncomputable def step (J : Pt → Ans) : Pt → Ans
  | .p0 a b c d e => (bif (decide (d < (e.fList.length : Int))) then J (.p1 a b c d 0 e) else ret (c : Int))
  | .p1 a b c d e f => (bif (decide (e < (b.length : Int))) then (bif (decide ((0 : Int) ≤ e)) then (bif (decide (e < (b.length : Int))) then (bif (decide ((0 : Int) ≤ d)) then (bif (decide (d < (f.fList.length : Int))) then (bif ((MSig.at b (Int.toNat e)).fKey == (iAt f.fList (Int.toNat d))) then (bif (decide ((0 : Int) ≤ e)) then (bif (decide (e < (b.length : Int))) then (call (spec_IsSigBy.R ((MSig.at b (Int.toNat e)), a)) fun v1 => (bif v1 then J (.p0 a b (IntKind.i64.wrap (c + 1)) (IntKind.i64.wrap (d + 1)) f) else J (.p1 a b c d (IntKind.i64.wrap (e + 1)) f))) else none) else none) else J (.p1 a b c d (IntKind.i64.wrap (e + 1)) f)) else none) else none) else none) else none) else J (.p0 a b c (IntKind.i64.wrap (d + 1)) f))
noncomputable def start (J : Pt → Ans) (x0 : RKeys) (x1 : List (List L)) (x2 : List (List L)) : Ans := J (.p0 x1 x2 0 0 x0)
def live : Nat → Live := fun i => match i with | 3 => [(1, none), (2, none), (3, none), (7, none), (8, none)] | 6 => [(1, none), (2, none), (3, none), (7, none), (8, none), (9, none)] | _ => []
def pats : List Pat := [.agg [.sl 3, .int .i64], .rd (.sl 3), .rd (.sl 248)]
def res : RP := .one (.rd (.int .i64))
noncomputable abbrev E : Env := { T := assoc Tab, G := conG [(280, spec_IsSigBy.con)], nt := 45 }
set_option maxRecDepth 100000
theorem step_eq (I : Heads) (p : Pt) : enterC E live I (pid p) (bodyOf Try.f261) (stOf (live (pid p)) (pvs p) (phs p)) (doneK E Try.f261 res) = step (fun q => I (pid q) (pvs q) (phs q)) p := by
  cases p <;> kernel_rfl
theorem start_eq (I : Heads) (ls : List L) : runC E live I (bodyOf Try.f261) (initS pats ls) (doneK E Try.f261 res) = start (fun q => I (pid q) (pvs q) (phs q)) (RKeys.dec ls) ((dropT 2 ls).headD .hole).toSl ((dropT 3 ls).headD .hole).toSl := by kernel_rfl
theorem run_eq (n : Nat) (ls : List L) : runF E live Try.f261 res n (initS pats ls) = start (iter step n) (RKeys.dec ls) ((dropT 2 ls).headD .hole).toSl ((dropT 3 ls).headD .hole).toSl := runF_iter (id := pid) (vs := pvs) (hs := phs) (step := step) (start := fun J => start J (RKeys.dec ls) ((dropT 2 ls).headD .hole).toSl ((dropT 3 ls).headD .hole).toSl) step_eq (fun I => start_eq I ls) n
noncomputable def md (a0 : MKeys) (a1 : List Int) (a2 : List MSig) : Int := (eachM (S := Int) (β := Int) (fun (y1 : Int) (s3 : Int) => (eachM (S := Unit) (β := (Int ⊕ Int)) (fun (y5 : MSig) (s7 : Unit) => (bif (y5.fKey == y1) then (bif (spec_IsSigBy.md y5 a1) then (.inr (.inl (IntKind.i64.wrap (s3 + 1)))) else (.inl ())) else (.inl ()))) (fun (s7 : Unit) => (.inl s3)) a2 ())) (fun (s3 : Int) => (s3 : Int)) a0.fList 0)
def gd (a0 : MKeys) (a1 : List Int) (a2 : List MSig) : Prop := (MKeys.Sm (2 ^ 21) a0) ∧ (SmL (2 ^ 38) (fun y : Int => True) a1) ∧ (SmL (2 ^ 21) (fun y : MSig => MSig.Sm (2 ^ 21) y) a2)
def acc (ls : List L) : RKeys × List (List L) × List (List L) := ((RKeys.dec ls), ((dropT 2 ls).headD .hole).toSl, ((dropT 3 ls).headD .hole).toSl)
noncomputable def R : (RKeys × List (List L) × List (List L)) → Option Int := RR (p3 gd) (u3 md)
theorem R_eq {a0} {a1} {a2} (h : gd a0 a1 a2) : R ((MKeys.r a0), (a1.map iRow), (a2.map MSig.row)) = some (md a0 a1 a2) := RR_eq (a := (a0, a1, a2)) h
noncomputable def con : Con := CN pats res acc R
theorem okF (a0 : MKeys) (a1 : List Int) (a2 : List MSig) (hg : gd a0 a1 a2) : ∃ n, start (iter step n) (MKeys.r a0) (a1.map iRow) (a2.map MSig.row) = ret ((md a0 a1 a2) : Int) := by
  unfold gd at hg
  obtain ⟨H0, H1, H2⟩ := hg
  unfold start md
  try simp only [S0, MKeys.rs, MSig.rs]
  have Bh2 : a0.fList.length ≤ maxLen := (by
      have := (H0).1
      try simp only [maxLen] at *
      omega)
  refine ex_eq (out := ret) (loopM_eachM (z := 0)) ?_
  refine ex_pt (p := Pt.p0 (a1.map iRow) (a2.map MSig.row) 0 0 (MKeys.r a0)) (by first | rfl | (simp only [S0, MKeys.rs, MSig.rs, MP]; done) | (simp only [MP]; rfl)) ?_
  refine loopM_ex (pt := fun (i1 : Nat) (s3 : Int) => Pt.p0 (a1.map iRow) (a2.map MSig.row) s3 (i1 : Int) (MKeys.r a0)) (s := (0 : Int)) (out := ret) (fun _ _ => True) (fun i1 s3 h2 hih2 K4 hK4 rK4 => ?_) (fun s3 hih2 => ?_) trivial
  · simp only [step, S0, MKeys.rs, MSig.rs]
    have bb_ := Bh2
    simp only [maxLen] at bb_
    have := (H0).1
    refine ex_yes (by apply decide_eq_true; omega) ?_
    have Bh6 : a2.length ≤ maxLen := (by
        have := (H2).1
        try simp only [maxLen] at *
        omega)
    refine ex_eq (out := K4) (loopM_eachM (z := MSig.zero)) ?_
    refine ex_pt (p := Pt.p1 (a1.map iRow) (a2.map MSig.row) s3 (i1 : Int) 0 (MKeys.r a0)) (by first | rfl | (simp only [S0, MKeys.rs, MSig.rs, MP]; done) | (simp only [MP]; rfl)) ?_
    refine loopM_ex (pt := fun (i5 : Nat) (s7 : Unit) => Pt.p1 (a1.map iRow) (a2.map MSig.row) s3 (i1 : Int) (i5 : Int) (MKeys.r a0)) (s := (() : Unit)) (out := K4) (fun _ _ => True) (fun i5 s7 h6 hih6 K8 hK8 rK8 => ?_) (fun s7 hih6 => ?_) trivial
    · simp only [step, S0, MKeys.rs, MSig.rs]
      have bb_ := Bh6
      simp only [maxLen] at bb_
      have := (H2).1
      refine ex_yes (by apply decide_eq_true; omega) ?_
      refine ex_yes zle_dec ?_
      refine ex_yes (lt_dec h6) ?_
      refine ex_yes (by
          refine decide_eq_true ?_
          try simp (disch := omega) only [LN, wi]
          first | omega | (simp; done) | (simp; omega)) ?_
      refine ex_yes (by
          have := (H0).1
          refine decide_eq_true ?_
          try simp (disch := omega) only [LN, wi]
          first | omega | (simp; done) | (simp; omega)) ?_
      refine ex_bif K8 (fun c9 => ?_) (fun c9 => ?_)
      · refine ex_yes zle_dec ?_
        refine ex_yes (lt_dec h6) ?_
        refine ex_call_to (spec_IsSigBy.md (a2.getD i5 MSig.zero) a1) (spec_IsSigBy.R_eq (a0 := (a2.getD i5 MSig.zero)) (a1 := a1) H1) ?_
        refine ex_bif K8 (fun c10 => ?_) (fun c10 => ?_)
        · rw [rK8]
          rw [wrap_succ h2 Bh2]
          first | exact hK4 _ trivial | (simp only [S0, MKeys.rs, MSig.rs]; exact hK4 _ trivial) | (simp only [MP]; exact hK4 _ trivial)
        · rw [wrap_succ h6 Bh6]
          first | exact hK8 _ trivial | (simp only [S0, MKeys.rs, MSig.rs]; exact hK8 _ trivial) | (simp only [MP]; exact hK8 _ trivial)
      · rw [wrap_succ h6 Bh6]
        first | exact hK8 _ trivial | (simp only [S0, MKeys.rs, MSig.rs]; exact hK8 _ trivial) | (simp only [MP]; exact hK8 _ trivial)
    · simp only [step, S0, MKeys.rs, MSig.rs]
      have := (H2).1
      refine ex_no (by apply decide_eq_false; omega) ?_
      rw [wrap_succ h2 Bh2]
      first | exact hK4 _ trivial | (simp only [S0, MKeys.rs, MSig.rs]; exact hK4 _ trivial) | (simp only [MP]; exact hK4 _ trivial)
  · simp only [step, S0, MKeys.rs, MSig.rs]
    have := (H0).1
    refine ex_no (by apply decide_eq_false; omega) ?_
    refine ⟨0, ?_⟩
    all_goals first | rfl | (simp only [S0, MKeys.rs, MSig.rs, MP]; first | done | rfl)
theorem valid_ : Valid Try.prog Ev 261 con := VV (run := fun n x => start (iter step n) x.1 x.2.1 x.2.2) mix tab_ok (.cons spec_IsSigBy.valid_ .nil) Try.func261 (by kernel_rfl) run_eq (fun _ a _ _ hg => okF a.1 a.2.1 a.2.2 hg)
end spec_CountSigs
/-! spec.IsSigned -/
namespace spec_IsSigned
noncomputable def F (x0 : RKeys) (x1 : List (List L)) (x2 : List (List L)) : Ans := (call (spec_IsKeys.R x0) fun v1 => (bif v1 then (call (spec_CountSigs.R (x0, x1, x2)) fun v2 => ret ((decide (v2 ≥ x0.fNeed)) : Bool)) else ret (false : Bool)))
def pats : List Pat := [.agg [.sl 3, .int .i64], .rd (.sl 3), .rd (.sl 248)]
def res : RP := .one (.rd (.bool))
noncomputable abbrev E : Env := { T := assoc Tab, G := conG [(257, spec_IsKeys.con), (261, spec_CountSigs.con)], nt := 18 }
set_option maxRecDepth 100000
theorem run_eq (n : Nat) (ls : List L) : runF E (fun _ => []) Try.f246 res n (initS pats ls) = F (RKeys.dec ls) ((dropT 2 ls).headD .hole).toSl ((dropT 3 ls).headD .hole).toSl := by kernel_rfl
noncomputable def md (a0 : MKeys) (a1 : List Int) (a2 : List MSig) : Bool := (bif (spec_IsKeys.md a0) then ((decide ((spec_CountSigs.md a0 a1 a2) ≥ a0.fNeed)) : Bool) else (false : Bool))
def gd (a0 : MKeys) (a1 : List Int) (a2 : List MSig) : Prop := (MKeys.Sm (2 ^ 21) a0) ∧ (SmL (2 ^ 38) (fun y : Int => True) a1) ∧ (SmL (2 ^ 21) (fun y : MSig => MSig.Sm (2 ^ 21) y) a2)
def acc (ls : List L) : RKeys × List (List L) × List (List L) := ((RKeys.dec ls), ((dropT 2 ls).headD .hole).toSl, ((dropT 3 ls).headD .hole).toSl)
noncomputable def R : (RKeys × List (List L) × List (List L)) → Option Bool := RR (p3 gd) (u3 md)
theorem R_eq {a0} {a1} {a2} (h : gd a0 a1 a2) : R ((MKeys.r a0), (a1.map iRow), (a2.map MSig.row)) = some (md a0 a1 a2) := RR_eq (a := (a0, a1, a2)) h
noncomputable def con : Con := CN pats res acc R
theorem okF (a0 : MKeys) (a1 : List Int) (a2 : List MSig) (hg : gd a0 a1 a2) : F (MKeys.r a0) (a1.map iRow) (a2.map MSig.row) = ret ((md a0 a1 a2) : Bool) := by
  unfold gd at hg
  obtain ⟨H0, H1, H2⟩ := hg
  unfold F md
  try simp only [S0, MKeys.rs]
  refine call_to (spec_IsKeys.md a0) (spec_IsKeys.R_eq (a0 := a0) H0) ?_
  refine bif_out ret (fun c1 => ?_) (fun _ => rfl)
  refine call_to (spec_CountSigs.md a0 a1 a2) (spec_CountSigs.R_eq (a0 := a0) (a1 := a1) (a2 := a2) ⟨H0, H1, H2⟩) ?_
  all_goals first | rfl | (simp only [S0, MKeys.rs, MP]; first | done | rfl)
theorem valid_ : Valid Try.prog Ev 246 con := VV (run := fun _ x => F x.1 x.2.1 x.2.2) mix tab_ok (.cons spec_IsKeys.valid_ (.cons spec_CountSigs.valid_ .nil)) Try.func246 (by kernel_rfl) run_eq (fun _ a _ _ hg => ⟨0, okF a.1 a.2.1 a.2.2 hg⟩)
end spec_IsSigned
/-! spec.IsFirst -/
namespace spec_IsFirst
noncomputable def F (x0 : RSigned) : Ans := (call (spec_IsHead.R x0.fHead) fun v1 => (bif v1 then (bif (x0.fHead.fEpoch == 0) then (bif (x0.fHead.fKind == 1) then (bif (!x0.fHead.fFrozen) then (call (spec_ZoneOf.R (x0.fHead.fKeys, x0.fHead.fPrev)) fun v2 => (bif (x0.fHead.fZone == v2) then (call (spec_HeadInts.R x0.fHead) fun v3 => (call (spec_IsSigned.R (x0.fHead.fKeys, v3, x0.fSigs)) fun v4 => ret (v4 : Bool))) else ret (false : Bool))) else ret (false : Bool)) else ret (false : Bool)) else ret (false : Bool)) else ret (false : Bool)))
def pats : List Pat := [.agg [.int .i64, .int .i64, .int .i64, .int .i64, .int .i64, .int .i64, .int .i64, .int .i64, .sl 3, .int .i64, .sl 3, .int .i64, .int .i64, .sl 3, .int .i64, .bool, .sl 248]]
def res : RP := .one (.rd (.bool))
noncomputable abbrev E : Env := { T := assoc Tab, G := conG [(244, spec_IsHead.con), (245, spec_ZoneOf.con), (247, spec_HeadInts.con), (246, spec_IsSigned.con)], nt := 42 }
set_option maxRecDepth 100000
theorem run_eq (n : Nat) (ls : List L) : runF E (fun _ => []) Try.f234 res n (initS pats ls) = F (RSigned.dec ls) := by kernel_rfl
noncomputable def md (a0 : MSigned) : Bool := (bif (spec_IsHead.md a0.fHead) then (bif (a0.fHead.fEpoch == 0) then (bif (a0.fHead.fKind == 1) then (bif (!a0.fHead.fFrozen) then (bif (a0.fHead.fZone == (spec_ZoneOf.md a0.fHead.fKeys a0.fHead.fPrev)) then ((spec_IsSigned.md a0.fHead.fKeys (spec_HeadInts.md a0.fHead) a0.fSigs) : Bool) else (false : Bool)) else (false : Bool)) else (false : Bool)) else (false : Bool)) else (false : Bool))
def gd (a0 : MSigned) : Prop := (MSigned.Sm (2 ^ 21) a0)
def acc (ls : List L) : RSigned := (RSigned.dec ls)
noncomputable def R : RSigned → Option Bool := RR gd md
theorem R_eq {a0} (h : gd a0) : R (MSigned.r a0) = some (md a0) := RR_eq (a := a0) h
noncomputable def con : Con := CN pats res acc R
theorem okF (a0 : MSigned) (hg : gd a0) : F (MSigned.r a0) = ret ((md a0) : Bool) := by
  unfold gd at hg
  have H0 := hg
  unfold F md
  try simp only [S0, MHead.rs, MSigned.rs]
  refine call_to (spec_IsHead.md a0.fHead) (spec_IsHead.R_eq (a0 := a0.fHead) H0.1) ?_
  refine bif_out ret (fun c1 => ?_) (fun _ => rfl)
  try have tc1 := spec_IsHead.tr (by simpa using c1)
  refine bif_out ret (fun c2 => ?_) (fun _ => rfl)
  have dc2 := c2
  try simp only [DC] at dc2
  refine bif_out ret (fun c3 => ?_) (fun _ => rfl)
  have dc3 := c3
  try simp only [DC] at dc3
  refine bif_out ret (fun c4 => ?_) (fun _ => rfl)
  have dc4 := c4
  try simp only [DC] at dc4
  refine call_to (spec_ZoneOf.md a0.fHead.fKeys a0.fHead.fPrev) (spec_ZoneOf.R_eq (a0 := a0.fHead.fKeys) (a1 := a0.fHead.fPrev) H0.1.1) ?_
  refine bif_out ret (fun c5 => ?_) (fun _ => rfl)
  have dc5 := c5
  try simp only [DC] at dc5
  refine call_to ((spec_HeadInts.md a0.fHead).map iRow) (spec_HeadInts.R_eq (a0 := a0.fHead) H0.1) ?_
  try simp only [S0, MHead.rs, MSigned.rs]
  refine call_to (spec_IsSigned.md a0.fHead.fKeys (spec_HeadInts.md a0.fHead) a0.fSigs) (spec_IsSigned.R_eq (a0 := a0.fHead.fKeys) (a1 := (spec_HeadInts.md a0.fHead)) (a2 := a0.fSigs) ⟨H0.1.1, ⟨(by
      have := spec_HeadInts.len a0.fHead
      have := (H0.1.1).1
      have := (H0.1.2.1).1
      have := (H0.1.2.2).1
      try simp (disch := omega) only [LN, wi]
      first | omega | (simp; done) | (simp; omega)), fun _ _ => trivial⟩, H0.2⟩) ?_
  all_goals first | rfl | (simp only [S0, MHead.rs, MSigned.rs, MP]; first | done | rfl)
theorem valid_ : Valid Try.prog Ev 234 con := VV (run := fun _ x => F x) mix tab_ok (.cons spec_IsHead.valid_ (.cons spec_ZoneOf.valid_ (.cons spec_HeadInts.valid_ (.cons spec_IsSigned.valid_ .nil)))) Try.func234 (by kernel_rfl) run_eq (fun _ a _ _ hg => ⟨0, okF a hg⟩)
end spec_IsFirst
/-! spec.HeadDigest -/
namespace spec_HeadDigest
noncomputable def F (x0 : RHead) : Ans := (call (spec_HeadInts.R x0) fun v1 => (bif (lim (((1 : Int) + (v1.length : Int)) * 8)) then (call (spec_Hash.R ([[L.int 233]] ++ v1)) fun v2 => ret (v2 : Int)) else none))
def pats : List Pat := [.agg [.int .i64, .int .i64, .int .i64, .int .i64, .int .i64, .int .i64, .int .i64, .int .i64, .sl 3, .int .i64, .sl 3, .int .i64, .int .i64, .sl 3, .int .i64, .bool]]
def res : RP := .one (.rd (.int .i64))
noncomputable abbrev E : Env := { T := assoc Tab, G := conG [(247, spec_HeadInts.con), (259, spec_Hash.con)], nt := 8 }
set_option maxRecDepth 100000
theorem run_eq (n : Nat) (ls : List L) : runF E (fun _ => []) Try.f262 res n (initS pats ls) = F (RHead.dec ls) := by kernel_rfl
noncomputable def md (a0 : MHead) : Int := ((spec_Hash.md ([233] ++ (spec_HeadInts.md a0))) : Int)
def gd (a0 : MHead) : Prop := (MHead.Sm (2 ^ 21) a0)
def acc (ls : List L) : RHead := (RHead.dec ls)
noncomputable def R : RHead → Option Int := RR gd md
theorem R_eq {a0} (h : gd a0) : R (MHead.r a0) = some (md a0) := RR_eq (a := a0) h
noncomputable def con : Con := CN pats res acc R
theorem okF (a0 : MHead) (hg : gd a0) : F (MHead.r a0) = ret ((md a0) : Int) := by
  unfold gd at hg
  have H0 := hg
  unfold F md
  try simp only [S0]
  refine call_to ((spec_HeadInts.md a0).map iRow) (spec_HeadInts.R_eq (a0 := a0) H0) ?_
  try simp only [S0]
  refine yes_ret (by
      have := spec_HeadInts.len a0
      have := (H0.1).1
      have := (H0.2.1).1
      have := (H0.2.2).1
      refine lim_t ?_
      try simp (disch := omega) only [LN, wi]
      first | omega | (simp; done) | (simp; omega)) ?_
  refine call_to (spec_Hash.md ([233] ++ (spec_HeadInts.md a0))) ?_ ?_
  · have R_ := spec_Hash.R_eq (a0 := ([233] ++ (spec_HeadInts.md a0))) ⟨(by
        have := spec_HeadInts.len a0
        have := (H0.1).1
        have := (H0.2.1).1
        have := (H0.2.2).1
        try simp (disch := omega) only [LN, wi]
        first | omega | (simp; done) | (simp; omega)), fun _ _ => trivial⟩
    first | exact R_ | (simp only [MP, S0] at R_ ⊢; first | exact R_ | (rw [← R_]; rfl))
  all_goals first | rfl | (simp only [S0, MP]; first | done | rfl)
theorem valid_ : Valid Try.prog Ev 262 con := VV (run := fun _ x => F x) mix tab_ok (.cons spec_HeadInts.valid_ (.cons spec_Hash.valid_ .nil)) Try.func262 (by kernel_rfl) run_eq (fun _ a _ _ hg => ⟨0, okF a hg⟩)
end spec_HeadDigest
/-! spec.l15Owner -/
namespace spec_l15Owner
noncomputable def F (x0 : RHead) (x1 : RHead) : Ans := (bif x0.fFrozen then ret (4 : Int) else (bif x1.fFrozen then ret (6 : Int) else ret (1 : Int)))
def pats : List Pat := [.agg [.int .i64, .int .i64, .int .i64, .int .i64, .int .i64, .int .i64, .int .i64, .int .i64, .sl 3, .int .i64, .sl 3, .int .i64, .int .i64, .sl 3, .int .i64, .bool], .agg [.int .i64, .int .i64, .int .i64, .int .i64, .int .i64, .int .i64, .int .i64, .int .i64, .sl 3, .int .i64, .sl 3, .int .i64, .int .i64, .sl 3, .int .i64, .bool]]
def res : RP := .one (.rd (.int .i64))
noncomputable abbrev E : Env := { T := assoc Tab, G := conG [], nt := 11 }
set_option maxRecDepth 100000
theorem run_eq (n : Nat) (ls : List L) : runF E (fun _ => []) Try.f263 res n (initS pats ls) = F (RHead.dec ls) (RHead.dec (dropT 16 ls)) := by kernel_rfl
noncomputable def md (a0 : MHead) (a1 : MHead) : Int := (bif a0.fFrozen then (4 : Int) else (bif a1.fFrozen then (6 : Int) else (1 : Int)))
def gd (a0 : MHead) (a1 : MHead) : Prop := True
def acc (ls : List L) : RHead × RHead := ((RHead.dec ls), (RHead.dec (dropT 16 ls)))
noncomputable def R : (RHead × RHead) → Option Int := RR (p2 gd) (u2 md)
theorem R_eq {a0} {a1} (h : gd a0 a1) : R ((MHead.r a0), (MHead.r a1)) = some (md a0 a1) := RR_eq (a := (a0, a1)) h
noncomputable def con : Con := CN pats res acc R
theorem okF (a0 : MHead) (a1 : MHead) (hg : gd a0 a1) : F (MHead.r a0) (MHead.r a1) = ret ((md a0 a1) : Int) := by
  unfold F md
  try simp only [S0, MHead.rs]
  refine bif_out ret (fun _ => rfl) (fun c1 => ?_)
  refine bif_out ret (fun _ => rfl) (fun _ => rfl)
theorem valid_ : Valid Try.prog Ev 263 con := VV (run := fun _ x => F x.1 x.2) mix tab_ok .nil Try.func263 (by kernel_rfl) run_eq (fun _ a _ _ hg => ⟨0, okF a.1 a.2 hg⟩)
end spec_l15Owner
/-! spec.EqualInts -/
namespace spec_EqualInts
inductive Pt where
  | p0 (a : List (List L)) (b : List (List L)) (c : Int)
def pid : Pt → Nat
  | .p0 .. => 4
def pvs : Pt → List V
  | .p0 a b c => [.sl none 3 a, .sl none 3 b, .int .i64 c]
def phs : Pt → List Root
  | .p0 a b c => []
noncomputable def step (J : Pt → Ans) : Pt → Ans
  | .p0 a b c => (bif (decide (c < (a.length : Int))) then (bif (decide ((0 : Int) ≤ c)) then (bif (decide (c < (a.length : Int))) then (bif (decide ((0 : Int) ≤ c)) then (bif (decide (c < (b.length : Int))) then (bif ((iAt a (Int.toNat c)) != (iAt b (Int.toNat c))) then ret (false : Bool) else J (.p0 a b (IntKind.i64.wrap (c + 1)))) else none) else none) else none) else none) else ret (true : Bool))
noncomputable def start (J : Pt → Ans) (x0 : List (List L)) (x1 : List (List L)) : Ans := (bif ((x0.length : Int) != (x1.length : Int)) then ret (false : Bool) else J (.p0 x0 x1 0))
def live : Nat → Live := fun i => match i with | 4 => [(0, none), (1, none), (5, none)] | _ => []
def pats : List Pat := [.rd (.sl 3), .rd (.sl 3)]
def res : RP := .one (.rd (.bool))
noncomputable abbrev E : Env := { T := assoc Tab, G := conG [], nt := 26 }
set_option maxRecDepth 100000
theorem step_eq (I : Heads) (p : Pt) : enterC E live I (pid p) (bodyOf Try.f205) (stOf (live (pid p)) (pvs p) (phs p)) (doneK E Try.f205 res) = step (fun q => I (pid q) (pvs q) (phs q)) p := by
  cases p <;> kernel_rfl
theorem start_eq (I : Heads) (ls : List L) : runC E live I (bodyOf Try.f205) (initS pats ls) (doneK E Try.f205 res) = start (fun q => I (pid q) (pvs q) (phs q)) (ls.headD .hole).toSl ((dropT 1 ls).headD .hole).toSl := by kernel_rfl
theorem run_eq (n : Nat) (ls : List L) : runF E live Try.f205 res n (initS pats ls) = start (iter step n) (ls.headD .hole).toSl ((dropT 1 ls).headD .hole).toSl := runF_iter (id := pid) (vs := pvs) (hs := phs) (step := step) (start := fun J => start J (ls.headD .hole).toSl ((dropT 1 ls).headD .hole).toSl) step_eq (fun I => start_eq I ls) n
noncomputable def md (a0 : List Int) (a1 : List Int) : Bool := (bif ((a0.length : Int) != (a1.length : Int)) then (false : Bool) else (loopM (S := Unit) (β := Bool) (fun (i2 : Nat) (s4 : Unit) => (bif ((a0.getD i2 0) != (a1.getD i2 0)) then (.inr (false : Bool)) else (.inl ()))) (fun (s4 : Unit) => (true : Bool)) a0.length 0 ()))
def gd (a0 : List Int) (a1 : List Int) : Prop := (SmL (2 ^ 38) (fun y : Int => True) a0) ∧ (SmL (2 ^ 38) (fun y : Int => True) a1)
def acc (ls : List L) : List (List L) × List (List L) := ((ls.headD .hole).toSl, ((dropT 1 ls).headD .hole).toSl)
noncomputable def R : (List (List L) × List (List L)) → Option Bool := RR (p2 gd) (u2 md)
theorem R_eq {a0} {a1} (h : gd a0 a1) : R ((a0.map iRow), (a1.map iRow)) = some (md a0 a1) := RR_eq (a := (a0, a1)) h
noncomputable def con : Con := CN pats res acc R
theorem okF (a0 : List Int) (a1 : List Int) (hg : gd a0 a1) : ∃ n, start (iter step n) (a0.map iRow) (a1.map iRow) = ret ((md a0 a1) : Bool) := by
  unfold gd at hg
  obtain ⟨H0, H1⟩ := hg
  unfold start md
  try simp only [S0]
  refine ex_bif ret (fun _ => ⟨0, rfl⟩) (fun c1 => ?_)
  have dc1 := c1
  try simp only [DC] at dc1
  have Bh3 : a0.length ≤ maxLen := (by
      have := (H0).1
      try simp only [maxLen] at *
      omega)
  refine ex_pt (p := Pt.p0 (a0.map iRow) (a1.map iRow) 0) (by first | rfl | (simp only [S0, MP]; done) | (simp only [MP]; rfl)) ?_
  refine loopM_ok (pt := fun (i2 : Nat) (s4 : Unit) => Pt.p0 (a0.map iRow) (a1.map iRow) (i2 : Int)) (s := (() : Unit)) (out := ret) (fun _ _ => True) (fun J i2 s4 h3 hih3 => ?_) (fun s4 hih3 => ?_) trivial
  · simp only [step, S0]
    have bb_ := Bh3
    simp only [maxLen] at bb_
    have := (H0).1
    refine Rnd.yes (by apply decide_eq_true; omega) ?_
    refine Rnd.yes zle_dec ?_
    refine Rnd.yes (lt_dec h3) ?_
    refine Rnd.yes zle_dec ?_
    refine Rnd.yes (by
        have := (H1).1
        refine decide_eq_true ?_
        try simp (disch := omega) only [LN, wi]
        first | omega | (simp; done) | (simp; omega)) ?_
    refine Rnd.bif (fun _ => Rnd.inr rfl) (fun c5 => ?_)
    refine Rnd.inl trivial ?_
    rw [wrap_succ h3 Bh3]
    all_goals first | rfl | (simp only [S0, MP]; first | done | rfl)
  · simp only [step, S0]
    have := (H0).1
    refine ex_no (by apply decide_eq_false; omega) ?_
    refine ⟨0, ?_⟩
    all_goals first | rfl | (simp only [S0, MP]; first | done | rfl)
theorem valid_ : Valid Try.prog Ev 205 con := VV (run := fun n x => start (iter step n) x.1 x.2) mix tab_ok .nil Try.func205 (by kernel_rfl) run_eq (fun _ a _ _ hg => okF a.1 a.2 hg)
theorem md_eq (a0 : List Int) (a1 : List Int) : md a0 a1 = eqB a0 a1 := by
  unfold md
  refine loop_eqB (0) (fun i s h h2 => ?_) (fun s => rfl)
  simp only [bne, int_beq, bool_beq, ba_beq]
  cases eqB _ _ <;> rfl
end spec_EqualInts
/-! spec.EqualKeys -/
namespace spec_EqualKeys
noncomputable def F (x0 : RKeys) (x1 : RKeys) : Ans := (bif (x0.fNeed == x1.fNeed) then (call (spec_EqualInts.R (x0.fList, x1.fList)) fun v1 => ret (v1 : Bool)) else ret (false : Bool))
def pats : List Pat := [.agg [.sl 3, .int .i64], .agg [.sl 3, .int .i64]]
def res : RP := .one (.rd (.bool))
noncomputable abbrev E : Env := { T := assoc Tab, G := conG [(205, spec_EqualInts.con)], nt := 17 }
set_option maxRecDepth 100000
theorem run_eq (n : Nat) (ls : List L) : runF E (fun _ => []) Try.f148 res n (initS pats ls) = F (RKeys.dec ls) (RKeys.dec (dropT 2 ls)) := by kernel_rfl
noncomputable def md (a0 : MKeys) (a1 : MKeys) : Bool := (bif (a0.fNeed == a1.fNeed) then ((spec_EqualInts.md a0.fList a1.fList) : Bool) else (false : Bool))
def gd (a0 : MKeys) (a1 : MKeys) : Prop := (MKeys.Sm (2 ^ 21) a0) ∧ (MKeys.Sm (2 ^ 21) a1)
def acc (ls : List L) : RKeys × RKeys := ((RKeys.dec ls), (RKeys.dec (dropT 2 ls)))
noncomputable def R : (RKeys × RKeys) → Option Bool := RR (p2 gd) (u2 md)
theorem R_eq {a0} {a1} (h : gd a0 a1) : R ((MKeys.r a0), (MKeys.r a1)) = some (md a0 a1) := RR_eq (a := (a0, a1)) h
noncomputable def con : Con := CN pats res acc R
theorem okF (a0 : MKeys) (a1 : MKeys) (hg : gd a0 a1) : F (MKeys.r a0) (MKeys.r a1) = ret ((md a0 a1) : Bool) := by
  unfold gd at hg
  obtain ⟨H0, H1⟩ := hg
  unfold F md
  try simp only [S0, MKeys.rs]
  refine bif_out ret (fun c1 => ?_) (fun _ => rfl)
  refine call_to (spec_EqualInts.md a0.fList a1.fList) (spec_EqualInts.R_eq (a0 := a0.fList) (a1 := a1.fList) ⟨(H0.mono (by decide) (fun x hx => trivial)), (H1.mono (by decide) (fun x hx => trivial))⟩) ?_
  all_goals first | rfl | (simp only [S0, MKeys.rs, MP]; first | done | rfl)
theorem valid_ : Valid Try.prog Ev 148 con := VV (run := fun _ x => F x.1 x.2) mix tab_ok (.cons spec_EqualInts.valid_ .nil) Try.func148 (by kernel_rfl) run_eq (fun _ a _ _ hg => ⟨0, okF a.1 a.2 hg⟩)
theorem md_eq (a0 : MKeys) (a1 : MKeys) : md a0 a1 = eqB a0 a1 := by
  unfold md
  cases a0; cases a1
  rw [Bool.eq_iff_iff]
  simp [eqB_iff, ba_beq, MKeys.mk.injEq, spec_EqualInts.md_eq]
  try (constructor <;> (intro h; simp_all))
end spec_EqualKeys
/-! spec.SameContents -/
namespace spec_SameContents
noncomputable def F (x0 : RHead) (x1 : RHead) : Ans := (bif (x0.fCount == x1.fCount) then ret ((x0.fRoot == x1.fRoot) : Bool) else ret (false : Bool))
def pats : List Pat := [.agg [.int .i64, .int .i64, .int .i64, .int .i64, .int .i64, .int .i64, .int .i64, .int .i64, .sl 3, .int .i64, .sl 3, .int .i64, .int .i64, .sl 3, .int .i64, .bool], .agg [.int .i64, .int .i64, .int .i64, .int .i64, .int .i64, .int .i64, .int .i64, .int .i64, .sl 3, .int .i64, .sl 3, .int .i64, .int .i64, .sl 3, .int .i64, .bool]]
def res : RP := .one (.rd (.bool))
noncomputable abbrev E : Env := { T := assoc Tab, G := conG [], nt := 17 }
set_option maxRecDepth 100000
theorem run_eq (n : Nat) (ls : List L) : runF E (fun _ => []) Try.f281 res n (initS pats ls) = F (RHead.dec ls) (RHead.dec (dropT 16 ls)) := by kernel_rfl
noncomputable def md (a0 : MHead) (a1 : MHead) : Bool := (bif (a0.fCount == a1.fCount) then ((a0.fRoot == a1.fRoot) : Bool) else (false : Bool))
def gd (a0 : MHead) (a1 : MHead) : Prop := True
def acc (ls : List L) : RHead × RHead := ((RHead.dec ls), (RHead.dec (dropT 16 ls)))
noncomputable def R : (RHead × RHead) → Option Bool := RR (p2 gd) (u2 md)
theorem R_eq {a0} {a1} (h : gd a0 a1) : R ((MHead.r a0), (MHead.r a1)) = some (md a0 a1) := RR_eq (a := (a0, a1)) h
noncomputable def con : Con := CN pats res acc R
theorem okF (a0 : MHead) (a1 : MHead) (hg : gd a0 a1) : F (MHead.r a0) (MHead.r a1) = ret ((md a0 a1) : Bool) := by
  unfold F md
  try simp only [S0, MHead.rs]
  refine bif_out ret (fun c1 => ?_) (fun _ => rfl)
  all_goals first | rfl | (simp only [S0, MHead.rs, MP]; first | done | rfl)
theorem valid_ : Valid Try.prog Ev 281 con := VV (run := fun _ x => F x.1 x.2) mix tab_ok .nil Try.func281 (by kernel_rfl) run_eq (fun _ a _ _ hg => ⟨0, okF a.1 a.2 hg⟩)
end spec_SameContents
/-! spec.l15Heir -/
namespace spec_l15Heir
noncomputable def F (x0 : RHead) (x1 : RHead) : Ans := (bif x0.fFrozen then ret (4 : Int) else (call (spec_NoKeys.R x0.fHeirs) fun v1 => (bif v1 then ret (5 : Int) else (bif (decide (x1.fTime < (IntKind.i64.wrap (x0.fUntil + x0.fWait)))) then ret (5 : Int) else (bif x1.fFrozen then ret (6 : Int) else (call (spec_EqualKeys.R (x1.fKeys, x0.fHeirs)) fun v2 => (bif (!v2) then ret (6 : Int) else (call (spec_SameContents.R (x1, x0)) fun v3 => (bif (!v3) then ret (6 : Int) else ret (1 : Int))))))))))
def pats : List Pat := [.agg [.int .i64, .int .i64, .int .i64, .int .i64, .int .i64, .int .i64, .int .i64, .int .i64, .sl 3, .int .i64, .sl 3, .int .i64, .int .i64, .sl 3, .int .i64, .bool], .agg [.int .i64, .int .i64, .int .i64, .int .i64, .int .i64, .int .i64, .int .i64, .int .i64, .sl 3, .int .i64, .sl 3, .int .i64, .int .i64, .sl 3, .int .i64, .bool]]
def res : RP := .one (.rd (.int .i64))
noncomputable abbrev E : Env := { T := assoc Tab, G := conG [(258, spec_NoKeys.con), (148, spec_EqualKeys.con), (281, spec_SameContents.con)], nt := 39 }
set_option maxRecDepth 100000
theorem run_eq (n : Nat) (ls : List L) : runF E (fun _ => []) Try.f264 res n (initS pats ls) = F (RHead.dec ls) (RHead.dec (dropT 16 ls)) := by kernel_rfl
noncomputable def md (a0 : MHead) (a1 : MHead) : Int := (bif a0.fFrozen then (4 : Int) else (bif (spec_NoKeys.md a0.fHeirs) then (5 : Int) else (bif (decide (a1.fTime < (IntKind.i64.wrap (a0.fUntil + a0.fWait)))) then (5 : Int) else (bif a1.fFrozen then (6 : Int) else (bif (!(spec_EqualKeys.md a1.fKeys a0.fHeirs)) then (6 : Int) else (bif (!(spec_SameContents.md a1 a0)) then (6 : Int) else (1 : Int)))))))
def gd (a0 : MHead) (a1 : MHead) : Prop := (MHead.Sm (2 ^ 21) a0) ∧ (MHead.Sm (2 ^ 21) a1)
def acc (ls : List L) : RHead × RHead := ((RHead.dec ls), (RHead.dec (dropT 16 ls)))
noncomputable def R : (RHead × RHead) → Option Int := RR (p2 gd) (u2 md)
theorem R_eq {a0} {a1} (h : gd a0 a1) : R ((MHead.r a0), (MHead.r a1)) = some (md a0 a1) := RR_eq (a := (a0, a1)) h
noncomputable def con : Con := CN pats res acc R
theorem okF (a0 : MHead) (a1 : MHead) (hg : gd a0 a1) : F (MHead.r a0) (MHead.r a1) = ret ((md a0 a1) : Int) := by
  unfold gd at hg
  obtain ⟨H0, H1⟩ := hg
  unfold F md
  try simp only [S0, MHead.rs]
  refine bif_out ret (fun _ => rfl) (fun c1 => ?_)
  refine call_to (spec_NoKeys.md a0.fHeirs) (spec_NoKeys.R_eq (a0 := a0.fHeirs) trivial) ?_
  refine bif_out ret (fun _ => rfl) (fun c2 => ?_)
  refine bif_out ret (fun _ => rfl) (fun c3 => ?_)
  refine bif_out ret (fun _ => rfl) (fun c4 => ?_)
  refine call_to (spec_EqualKeys.md a1.fKeys a0.fHeirs) (spec_EqualKeys.R_eq (a0 := a1.fKeys) (a1 := a0.fHeirs) ⟨H1.1, H0.2.1⟩) ?_
  refine bif_out ret (fun _ => rfl) (fun c5 => ?_)
  refine call_to (spec_SameContents.md a1 a0) (spec_SameContents.R_eq (a0 := a1) (a1 := a0) trivial) ?_
  refine bif_out ret (fun _ => rfl) (fun _ => rfl)
theorem valid_ : Valid Try.prog Ev 264 con := VV (run := fun _ x => F x.1 x.2) mix tab_ok (.cons spec_NoKeys.valid_ (.cons spec_EqualKeys.valid_ (.cons spec_SameContents.valid_ .nil))) Try.func264 (by kernel_rfl) run_eq (fun _ a _ _ hg => ⟨0, okF a.1 a.2 hg⟩)
end spec_l15Heir
/-! spec.l15Judge -/
namespace spec_l15Judge
noncomputable def F (x0 : RHead) (x1 : RHead) : Ans := (call (spec_NoKeys.R x0.fJudge) fun v1 => (bif v1 then ret (5 : Int) else (bif (x1.fFrozen == x0.fFrozen) then ret (6 : Int) else (call (spec_SameContents.R (x1, x0)) fun v2 => (bif (!v2) then ret (6 : Int) else (call (spec_EqualKeys.R (x1.fJudge, x0.fJudge)) fun v3 => (bif (!v3) then ret (6 : Int) else (call (spec_EqualKeys.R (x1.fHeirs, x0.fHeirs)) fun v4 => (bif (!v4) then ret (6 : Int) else (bif (x1.fWait != x0.fWait) then ret (6 : Int) else (bif x1.fFrozen then (call (spec_EqualKeys.R (x1.fKeys, x0.fKeys)) fun v5 => (bif (!v5) then ret (6 : Int) else ret (1 : Int))) else ret (1 : Int))))))))))))
def pats : List Pat := [.agg [.int .i64, .int .i64, .int .i64, .int .i64, .int .i64, .int .i64, .int .i64, .int .i64, .sl 3, .int .i64, .sl 3, .int .i64, .int .i64, .sl 3, .int .i64, .bool], .agg [.int .i64, .int .i64, .int .i64, .int .i64, .int .i64, .int .i64, .int .i64, .int .i64, .sl 3, .int .i64, .sl 3, .int .i64, .int .i64, .sl 3, .int .i64, .bool]]
def res : RP := .one (.rd (.int .i64))
noncomputable abbrev E : Env := { T := assoc Tab, G := conG [(258, spec_NoKeys.con), (281, spec_SameContents.con), (148, spec_EqualKeys.con)], nt := 55 }
set_option maxRecDepth 100000
theorem run_eq (n : Nat) (ls : List L) : runF E (fun _ => []) Try.f265 res n (initS pats ls) = F (RHead.dec ls) (RHead.dec (dropT 16 ls)) := by kernel_rfl
noncomputable def md (a0 : MHead) (a1 : MHead) : Int := (bif (spec_NoKeys.md a0.fJudge) then (5 : Int) else (bif (a1.fFrozen == a0.fFrozen) then (6 : Int) else (bif (!(spec_SameContents.md a1 a0)) then (6 : Int) else (bif (!(spec_EqualKeys.md a1.fJudge a0.fJudge)) then (6 : Int) else (bif (!(spec_EqualKeys.md a1.fHeirs a0.fHeirs)) then (6 : Int) else (bif (a1.fWait != a0.fWait) then (6 : Int) else (bif a1.fFrozen then (bif (!(spec_EqualKeys.md a1.fKeys a0.fKeys)) then (6 : Int) else (1 : Int)) else (1 : Int))))))))
def gd (a0 : MHead) (a1 : MHead) : Prop := (MHead.Sm (2 ^ 21) a0) ∧ (MHead.Sm (2 ^ 21) a1)
def acc (ls : List L) : RHead × RHead := ((RHead.dec ls), (RHead.dec (dropT 16 ls)))
noncomputable def R : (RHead × RHead) → Option Int := RR (p2 gd) (u2 md)
theorem R_eq {a0} {a1} (h : gd a0 a1) : R ((MHead.r a0), (MHead.r a1)) = some (md a0 a1) := RR_eq (a := (a0, a1)) h
noncomputable def con : Con := CN pats res acc R
theorem okF (a0 : MHead) (a1 : MHead) (hg : gd a0 a1) : F (MHead.r a0) (MHead.r a1) = ret ((md a0 a1) : Int) := by
  unfold gd at hg
  obtain ⟨H0, H1⟩ := hg
  unfold F md
  try simp only [S0, MHead.rs]
  refine call_to (spec_NoKeys.md a0.fJudge) (spec_NoKeys.R_eq (a0 := a0.fJudge) trivial) ?_
  refine bif_out ret (fun _ => rfl) (fun c1 => ?_)
  refine bif_out ret (fun _ => rfl) (fun c2 => ?_)
  refine call_to (spec_SameContents.md a1 a0) (spec_SameContents.R_eq (a0 := a1) (a1 := a0) trivial) ?_
  refine bif_out ret (fun _ => rfl) (fun c3 => ?_)
  refine call_to (spec_EqualKeys.md a1.fJudge a0.fJudge) (spec_EqualKeys.R_eq (a0 := a1.fJudge) (a1 := a0.fJudge) ⟨H1.2.2, H0.2.2⟩) ?_
  refine bif_out ret (fun _ => rfl) (fun c4 => ?_)
  refine call_to (spec_EqualKeys.md a1.fHeirs a0.fHeirs) (spec_EqualKeys.R_eq (a0 := a1.fHeirs) (a1 := a0.fHeirs) ⟨H1.2.1, H0.2.1⟩) ?_
  refine bif_out ret (fun _ => rfl) (fun c5 => ?_)
  refine bif_out ret (fun _ => rfl) (fun c6 => ?_)
  refine bif_out ret (fun c7 => ?_) (fun _ => rfl)
  refine call_to (spec_EqualKeys.md a1.fKeys a0.fKeys) (spec_EqualKeys.R_eq (a0 := a1.fKeys) (a1 := a0.fKeys) ⟨H1.1, H0.1⟩) ?_
  refine bif_out ret (fun _ => rfl) (fun _ => rfl)
theorem valid_ : Valid Try.prog Ev 265 con := VV (run := fun _ x => F x.1 x.2) mix tab_ok (.cons spec_NoKeys.valid_ (.cons spec_SameContents.valid_ (.cons spec_EqualKeys.valid_ .nil))) Try.func265 (by kernel_rfl) run_eq (fun _ a _ _ hg => ⟨0, okF a.1 a.2 hg⟩)
end spec_l15Judge
/-! spec.NextCode -/
namespace spec_NextCode
noncomputable def F (x0 : RHead) (x1 : RSigned) : Ans := (call (spec_IsHead.R x0) fun v1 => (bif (!v1) then ret (2 : Int) else (call (spec_IsHead.R x1.fHead) fun v2 => (bif (!v2) then ret (2 : Int) else (bif (x1.fHead.fZone != x0.fZone) then ret (3 : Int) else (bif (x1.fHead.fEpoch != (IntKind.i64.wrap (x0.fEpoch + 1))) then ret (3 : Int) else (call (spec_HeadDigest.R x0) fun v3 => (bif (x1.fHead.fPrev != v3) then ret (3 : Int) else (bif (decide (x1.fHead.fTime < x0.fTime)) then ret (3 : Int) else (call (spec_l15Owner.R (x0, x1.fHead)) fun v4 => (bif (x1.fHead.fKind == 2) then (call (spec_l15Heir.R (x0, x1.fHead)) fun v5 => (bif (v5 == 1) then (call (spec_HeadInts.R x1.fHead) fun v6 => (call (spec_IsSigned.R (x0.fHeirs, v6, x1.fSigs)) fun v7 => (bif (!v7) then ret (7 : Int) else ret (v5 : Int)))) else ret (v5 : Int))) else (bif (x1.fHead.fKind == 3) then (call (spec_l15Judge.R (x0, x1.fHead)) fun v8 => (bif (v8 == 1) then (call (spec_HeadInts.R x1.fHead) fun v9 => (call (spec_IsSigned.R (x0.fJudge, v9, x1.fSigs)) fun v10 => (bif (!v10) then ret (7 : Int) else ret (v8 : Int)))) else ret (v8 : Int))) else (bif (v4 == 1) then (call (spec_HeadInts.R x1.fHead) fun v11 => (call (spec_IsSigned.R (x0.fKeys, v11, x1.fSigs)) fun v12 => (bif (!v12) then ret (7 : Int) else ret (v4 : Int)))) else ret (v4 : Int))))))))))))))
def pats : List Pat := [.agg [.int .i64, .int .i64, .int .i64, .int .i64, .int .i64, .int .i64, .int .i64, .int .i64, .sl 3, .int .i64, .sl 3, .int .i64, .int .i64, .sl 3, .int .i64, .bool], .agg [.int .i64, .int .i64, .int .i64, .int .i64, .int .i64, .int .i64, .int .i64, .int .i64, .sl 3, .int .i64, .sl 3, .int .i64, .int .i64, .sl 3, .int .i64, .bool, .sl 248]]
def res : RP := .one (.rd (.int .i64))
noncomputable abbrev E : Env := { T := assoc Tab, G := conG [(244, spec_IsHead.con), (262, spec_HeadDigest.con), (263, spec_l15Owner.con), (264, spec_l15Heir.con), (247, spec_HeadInts.con), (246, spec_IsSigned.con), (265, spec_l15Judge.con)], nt := 78 }
set_option maxRecDepth 100000
theorem run_eq (n : Nat) (ls : List L) : runF E (fun _ => []) Try.f248 res n (initS pats ls) = F (RHead.dec ls) (RSigned.dec (dropT 16 ls)) := by kernel_rfl
noncomputable def md (a0 : MHead) (a1 : MSigned) : Int := (bif (!(spec_IsHead.md a0)) then (2 : Int) else (bif (!(spec_IsHead.md a1.fHead)) then (2 : Int) else (bif (a1.fHead.fZone != a0.fZone) then (3 : Int) else (bif (a1.fHead.fEpoch != (IntKind.i64.wrap (a0.fEpoch + 1))) then (3 : Int) else (bif (a1.fHead.fPrev != (spec_HeadDigest.md a0)) then (3 : Int) else (bif (decide (a1.fHead.fTime < a0.fTime)) then (3 : Int) else (bif (a1.fHead.fKind == 2) then (bif ((spec_l15Heir.md a0 a1.fHead) == 1) then (bif (!(spec_IsSigned.md a0.fHeirs (spec_HeadInts.md a1.fHead) a1.fSigs)) then (7 : Int) else ((spec_l15Heir.md a0 a1.fHead) : Int)) else ((spec_l15Heir.md a0 a1.fHead) : Int)) else (bif (a1.fHead.fKind == 3) then (bif ((spec_l15Judge.md a0 a1.fHead) == 1) then (bif (!(spec_IsSigned.md a0.fJudge (spec_HeadInts.md a1.fHead) a1.fSigs)) then (7 : Int) else ((spec_l15Judge.md a0 a1.fHead) : Int)) else ((spec_l15Judge.md a0 a1.fHead) : Int)) else (bif ((spec_l15Owner.md a0 a1.fHead) == 1) then (bif (!(spec_IsSigned.md a0.fKeys (spec_HeadInts.md a1.fHead) a1.fSigs)) then (7 : Int) else ((spec_l15Owner.md a0 a1.fHead) : Int)) else ((spec_l15Owner.md a0 a1.fHead) : Int))))))))))
def gd (a0 : MHead) (a1 : MSigned) : Prop := (MHead.Sm (2 ^ 21) a0) ∧ (MSigned.Sm (2 ^ 21) a1)
def acc (ls : List L) : RHead × RSigned := ((RHead.dec ls), (RSigned.dec (dropT 16 ls)))
noncomputable def R : (RHead × RSigned) → Option Int := RR (p2 gd) (u2 md)
theorem R_eq {a0} {a1} (h : gd a0 a1) : R ((MHead.r a0), (MSigned.r a1)) = some (md a0 a1) := RR_eq (a := (a0, a1)) h
noncomputable def con : Con := CN pats res acc R
theorem okF (a0 : MHead) (a1 : MSigned) (hg : gd a0 a1) : F (MHead.r a0) (MSigned.r a1) = ret ((md a0 a1) : Int) := by
  unfold gd at hg
  obtain ⟨H0, H1⟩ := hg
  unfold F md
  try simp only [S0, MHead.rs, MSigned.rs]
  refine call_to (spec_IsHead.md a0) (spec_IsHead.R_eq (a0 := a0) H0) ?_
  refine bif_out ret (fun _ => rfl) (fun c1 => ?_)
  have dc1 := c1
  try simp only [DC] at dc1
  try have tc1 := spec_IsHead.tr (by simpa using c1)
  refine call_to (spec_IsHead.md a1.fHead) (spec_IsHead.R_eq (a0 := a1.fHead) H1.1) ?_
  refine bif_out ret (fun _ => rfl) (fun c2 => ?_)
  have dc2 := c2
  try simp only [DC] at dc2
  try have tc2 := spec_IsHead.tr (by simpa using c2)
  refine bif_out ret (fun _ => rfl) (fun c3 => ?_)
  have dc3 := c3
  try simp only [DC] at dc3
  refine bif_out ret (fun _ => rfl) (fun c4 => ?_)
  have dc4 := c4
  try simp only [DC] at dc4
  refine call_to (spec_HeadDigest.md a0) (spec_HeadDigest.R_eq (a0 := a0) H0) ?_
  refine bif_out ret (fun _ => rfl) (fun c5 => ?_)
  have dc5 := c5
  try simp only [DC] at dc5
  refine bif_out ret (fun _ => rfl) (fun c6 => ?_)
  have dc6 := c6
  try simp only [DC] at dc6
  refine call_to (spec_l15Owner.md a0 a1.fHead) (spec_l15Owner.R_eq (a0 := a0) (a1 := a1.fHead) trivial) ?_
  refine bif_out ret (fun c7 => ?_) (fun c7 => ?_)
  · have dc7 := c7
    try simp only [DC] at dc7
    refine call_to (spec_l15Heir.md a0 a1.fHead) (spec_l15Heir.R_eq (a0 := a0) (a1 := a1.fHead) ⟨H0, H1.1⟩) ?_
    refine bif_out ret (fun c8 => ?_) (fun c8 => ?_)
    · have dc8 := c8
      try simp only [DC] at dc8
      refine call_to ((spec_HeadInts.md a1.fHead).map iRow) (spec_HeadInts.R_eq (a0 := a1.fHead) H1.1) ?_
      try simp only [S0, MHead.rs, MSigned.rs]
      refine call_to (spec_IsSigned.md a0.fHeirs (spec_HeadInts.md a1.fHead) a1.fSigs) (spec_IsSigned.R_eq (a0 := a0.fHeirs) (a1 := (spec_HeadInts.md a1.fHead)) (a2 := a1.fSigs) ⟨H0.2.1, ⟨(by
          have := spec_HeadInts.len a1.fHead
          have := (H1.1.1).1
          have := (H1.1.2.1).1
          have := (H1.1.2.2).1
          try simp (disch := omega) only [LN, wi]
          first | omega | (simp; done) | (simp; omega)), fun _ _ => trivial⟩, H1.2⟩) ?_
      refine bif_out ret (fun _ => rfl) (fun c9 => ?_)
      all_goals first | rfl | (simp only [S0, MHead.rs, MSigned.rs, MP]; first | done | rfl)
    · all_goals first | rfl | (simp only [S0, MHead.rs, MSigned.rs, MP]; first | done | rfl)
  · have dc7 := c7
    try simp only [DC] at dc7
    refine bif_out ret (fun c10 => ?_) (fun c10 => ?_)
    · have dc10 := c10
      try simp only [DC] at dc10
      refine call_to (spec_l15Judge.md a0 a1.fHead) (spec_l15Judge.R_eq (a0 := a0) (a1 := a1.fHead) ⟨H0, H1.1⟩) ?_
      refine bif_out ret (fun c11 => ?_) (fun c11 => ?_)
      · have dc11 := c11
        try simp only [DC] at dc11
        refine call_to ((spec_HeadInts.md a1.fHead).map iRow) (spec_HeadInts.R_eq (a0 := a1.fHead) H1.1) ?_
        try simp only [S0, MHead.rs, MSigned.rs]
        refine call_to (spec_IsSigned.md a0.fJudge (spec_HeadInts.md a1.fHead) a1.fSigs) (spec_IsSigned.R_eq (a0 := a0.fJudge) (a1 := (spec_HeadInts.md a1.fHead)) (a2 := a1.fSigs) ⟨H0.2.2, ⟨(by
            have := spec_HeadInts.len a1.fHead
            have := (H1.1.1).1
            have := (H1.1.2.1).1
            have := (H1.1.2.2).1
            try simp (disch := omega) only [LN, wi]
            first | omega | (simp; done) | (simp; omega)), fun _ _ => trivial⟩, H1.2⟩) ?_
        refine bif_out ret (fun _ => rfl) (fun c12 => ?_)
        all_goals first | rfl | (simp only [S0, MHead.rs, MSigned.rs, MP]; first | done | rfl)
      · all_goals first | rfl | (simp only [S0, MHead.rs, MSigned.rs, MP]; first | done | rfl)
    · have dc10 := c10
      try simp only [DC] at dc10
      refine bif_out ret (fun c13 => ?_) (fun c13 => ?_)
      · have dc13 := c13
        try simp only [DC] at dc13
        refine call_to ((spec_HeadInts.md a1.fHead).map iRow) (spec_HeadInts.R_eq (a0 := a1.fHead) H1.1) ?_
        try simp only [S0, MHead.rs, MSigned.rs]
        refine call_to (spec_IsSigned.md a0.fKeys (spec_HeadInts.md a1.fHead) a1.fSigs) (spec_IsSigned.R_eq (a0 := a0.fKeys) (a1 := (spec_HeadInts.md a1.fHead)) (a2 := a1.fSigs) ⟨H0.1, ⟨(by
            have := spec_HeadInts.len a1.fHead
            have := (H1.1.1).1
            have := (H1.1.2.1).1
            have := (H1.1.2.2).1
            try simp (disch := omega) only [LN, wi]
            first | omega | (simp; done) | (simp; omega)), fun _ _ => trivial⟩, H1.2⟩) ?_
        refine bif_out ret (fun _ => rfl) (fun c14 => ?_)
        all_goals first | rfl | (simp only [S0, MHead.rs, MSigned.rs, MP]; first | done | rfl)
      · all_goals first | rfl | (simp only [S0, MHead.rs, MSigned.rs, MP]; first | done | rfl)
theorem valid_ : Valid Try.prog Ev 248 con := VV (run := fun _ x => F x.1 x.2) mix tab_ok (.cons spec_IsHead.valid_ (.cons spec_HeadDigest.valid_ (.cons spec_l15Owner.valid_ (.cons spec_l15Heir.valid_ (.cons spec_HeadInts.valid_ (.cons spec_IsSigned.valid_ (.cons spec_l15Judge.valid_ .nil))))))) Try.func248 (by kernel_rfl) run_eq (fun _ a _ _ hg => ⟨0, okF a.1 a.2 hg⟩)
end spec_NextCode
/-! spec.MayFollow -/
namespace spec_MayFollow
noncomputable def F (x0 : RHead) (x1 : RSigned) : Ans := (call (spec_NextCode.R (x0, x1)) fun v1 => ret ((v1 == 1) : Bool))
def pats : List Pat := [.agg [.int .i64, .int .i64, .int .i64, .int .i64, .int .i64, .int .i64, .int .i64, .int .i64, .sl 3, .int .i64, .sl 3, .int .i64, .int .i64, .sl 3, .int .i64, .bool], .agg [.int .i64, .int .i64, .int .i64, .int .i64, .int .i64, .int .i64, .int .i64, .int .i64, .sl 3, .int .i64, .sl 3, .int .i64, .int .i64, .sl 3, .int .i64, .bool, .sl 248]]
def res : RP := .one (.rd (.bool))
noncomputable abbrev E : Env := { T := assoc Tab, G := conG [(248, spec_NextCode.con)], nt := 9 }
set_option maxRecDepth 100000
theorem run_eq (n : Nat) (ls : List L) : runF E (fun _ => []) Try.f235 res n (initS pats ls) = F (RHead.dec ls) (RSigned.dec (dropT 16 ls)) := by kernel_rfl
noncomputable def md (a0 : MHead) (a1 : MSigned) : Bool := (((spec_NextCode.md a0 a1) == 1) : Bool)
def gd (a0 : MHead) (a1 : MSigned) : Prop := (MHead.Sm (2 ^ 21) a0) ∧ (MSigned.Sm (2 ^ 21) a1)
def acc (ls : List L) : RHead × RSigned := ((RHead.dec ls), (RSigned.dec (dropT 16 ls)))
noncomputable def R : (RHead × RSigned) → Option Bool := RR (p2 gd) (u2 md)
theorem R_eq {a0} {a1} (h : gd a0 a1) : R ((MHead.r a0), (MSigned.r a1)) = some (md a0 a1) := RR_eq (a := (a0, a1)) h
noncomputable def con : Con := CN pats res acc R
theorem okF (a0 : MHead) (a1 : MSigned) (hg : gd a0 a1) : F (MHead.r a0) (MSigned.r a1) = ret ((md a0 a1) : Bool) := by
  unfold gd at hg
  obtain ⟨H0, H1⟩ := hg
  unfold F md
  try simp only [S0]
  refine call_to (spec_NextCode.md a0 a1) (spec_NextCode.R_eq (a0 := a0) (a1 := a1) ⟨H0, H1⟩) ?_
  all_goals first | rfl | (simp only [S0, MP]; first | done | rfl)
theorem valid_ : Valid Try.prog Ev 235 con := VV (run := fun _ x => F x.1 x.2) mix tab_ok (.cons spec_NextCode.valid_ .nil) Try.func235 (by kernel_rfl) run_eq (fun _ a _ _ hg => ⟨0, okF a.1 a.2 hg⟩)
end spec_MayFollow
/-! spec.FirstWrong -/
namespace spec_FirstWrong
inductive Pt where
  | p0 (a : List (List L)) (b : Int)
def pid : Pt → Nat
  | .p0 .. => 2
def pvs : Pt → List V
  | .p0 a b => [.sl none 184 a, .int .i64 b]
def phs : Pt → List Root
  | .p0 a b => []
noncomputable def step (J : Pt → Ans) : Pt → Ans
  | .p0 a b => (bif (decide (b < (a.length : Int))) then (bif (b == 0) then (bif (decide ((0 : Int) < (a.length : Int))) then (call (spec_IsFirst.R (RSigned.at a 0)) fun v1 => (bif (!v1) then ret (b : Int) else (bif (decide (b > 0)) then (bif (decide ((0 : Int) ≤ (IntKind.i64.wrap (b - 1)))) then (bif (decide ((IntKind.i64.wrap (b - 1)) < (a.length : Int))) then (bif (decide ((0 : Int) ≤ b)) then (bif (decide (b < (a.length : Int))) then (call (spec_MayFollow.R ((RSigned.at a (Int.toNat (IntKind.i64.wrap (b - 1)))).fHead, (RSigned.at a (Int.toNat b)))) fun v2 => (bif (!v2) then ret (b : Int) else J (.p0 a (IntKind.i64.wrap (b + 1))))) else none) else none) else none) else none) else J (.p0 a (IntKind.i64.wrap (b + 1)))))) else none) else (bif (decide (b > 0)) then (bif (decide ((0 : Int) ≤ (IntKind.i64.wrap (b - 1)))) then (bif (decide ((IntKind.i64.wrap (b - 1)) < (a.length : Int))) then (bif (decide ((0 : Int) ≤ b)) then (bif (decide (b < (a.length : Int))) then (call (spec_MayFollow.R ((RSigned.at a (Int.toNat (IntKind.i64.wrap (b - 1)))).fHead, (RSigned.at a (Int.toNat b)))) fun v3 => (bif (!v3) then ret (b : Int) else J (.p0 a (IntKind.i64.wrap (b + 1))))) else none) else none) else none) else none) else J (.p0 a (IntKind.i64.wrap (b + 1))))) else ret ((-1) : Int))
noncomputable def start (J : Pt → Ans) (x0 : List (List L)) : Ans := J (.p0 x0 0)
def live : Nat → Live := fun i => match i with | 2 => [(0, none), (3, none)] | _ => []
def pats : List Pat := [.rd (.sl 184)]
def res : RP := .one (.rd (.int .i64))
noncomputable abbrev E : Env := { T := assoc Tab, G := conG [(234, spec_IsFirst.con), (235, spec_MayFollow.con)], nt := 38 }
set_option maxRecDepth 100000
theorem step_eq (I : Heads) (p : Pt) : enterC E live I (pid p) (bodyOf Try.f204) (stOf (live (pid p)) (pvs p) (phs p)) (doneK E Try.f204 res) = step (fun q => I (pid q) (pvs q) (phs q)) p := by
  cases p <;> kernel_rfl
theorem start_eq (I : Heads) (ls : List L) : runC E live I (bodyOf Try.f204) (initS pats ls) (doneK E Try.f204 res) = start (fun q => I (pid q) (pvs q) (phs q)) (ls.headD .hole).toSl := by kernel_rfl
theorem run_eq (n : Nat) (ls : List L) : runF E live Try.f204 res n (initS pats ls) = start (iter step n) (ls.headD .hole).toSl := runF_iter (id := pid) (vs := pvs) (hs := phs) (step := step) (start := fun J => start J (ls.headD .hole).toSl) step_eq (fun I => start_eq I ls) n
noncomputable def md (a0 : List MSigned) : Int := (eachI (S := Unit) (β := Int) (fun (i1 : Nat) (y1 : MSigned) (s3 : Unit) => (bif ((i1 : Int) == 0) then (bif (!(spec_IsFirst.md (a0.getD 0 MSigned.zero))) then (.inr ((i1 : Int) : Int)) else (bif (decide ((i1 : Int) > 0)) then (bif (!(spec_MayFollow.md ((a0.getD (Int.toNat (IntKind.i64.wrap ((i1 : Int) - 1))) MSigned.zero).fHead) y1)) then (.inr ((i1 : Int) : Int)) else (.inl ())) else (.inl ()))) else (bif (decide ((i1 : Int) > 0)) then (bif (!(spec_MayFollow.md ((a0.getD (Int.toNat (IntKind.i64.wrap ((i1 : Int) - 1))) MSigned.zero).fHead) y1)) then (.inr ((i1 : Int) : Int)) else (.inl ())) else (.inl ())))) (fun (s3 : Unit) => ((-1) : Int)) 0 a0 ())
def gd (a0 : List MSigned) : Prop := (SmL (2 ^ 21) (fun y : MSigned => MSigned.Sm (2 ^ 21) y) a0)
def acc (ls : List L) : List (List L) := (ls.headD .hole).toSl
noncomputable def R : (List (List L)) → Option Int := RR gd md
theorem R_eq {a0} (h : gd a0) : R (a0.map MSigned.row) = some (md a0) := RR_eq (a := a0) h
noncomputable def con : Con := CN pats res acc R
theorem okF (a0 : List MSigned) (hg : gd a0) : ∃ n, start (iter step n) (a0.map MSigned.row) = ret ((md a0) : Int) := by
  unfold gd at hg
  have H0 := hg
  unfold start md
  try simp only [S0, MSigned.rs]
  have Bh2 : a0.length ≤ maxLen := (by
      have := (H0).1
      try simp only [maxLen] at *
      omega)
  refine ex_eq (out := ret) (loopM_eachI (z := MSigned.zero)) ?_
  refine ex_pt (p := Pt.p0 (a0.map MSigned.row) 0) (by first | rfl | (simp only [S0, MSigned.rs, MP]; done) | (simp only [MP]; rfl)) ?_
  refine loopM_ok (pt := fun (i1 : Nat) (s3 : Unit) => Pt.p0 (a0.map MSigned.row) (i1 : Int)) (s := (() : Unit)) (out := ret) (fun _ _ => True) (fun J i1 s3 h2 hih2 => ?_) (fun s3 hih2 => ?_) trivial
  · simp only [step, S0, MSigned.rs]
    have bb_ := Bh2
    simp only [maxLen] at bb_
    have := (H0).1
    refine Rnd.yes (by apply decide_eq_true; omega) ?_
    refine Rnd.bif (fun c4 => ?_) (fun c4 => ?_)
    · have dc4 := c4
      try simp only [DC] at dc4
      refine Rnd.yes (by
          have := (H0).1
          refine decide_eq_true ?_
          try simp (disch := omega) only [LN, wi]
          first | omega | (simp; done) | (simp; omega)) ?_
      refine Rnd.call_to (spec_IsFirst.md (a0.getD 0 MSigned.zero)) (spec_IsFirst.R_eq (a0 := (a0.getD 0 MSigned.zero)) (SmL.getD (z := MSigned.zero) H0 (by first | assumption | omega | (simp (disch := omega) only [wi]; omega) | (simp; omega)))) ?_
      refine Rnd.bif (fun c5 => ?_) (fun c5 => ?_)
      · refine Rnd.inr ?_
        all_goals first | rfl | (simp only [S0, MSigned.rs, MP]; first | done | rfl)
      · have dc5 := c5
        try simp only [DC] at dc5
        refine Rnd.bif (fun c6 => ?_) (fun c6 => ?_)
        · have dc6 := c6
          try simp only [DC] at dc6
          refine Rnd.yes (by
              refine decide_eq_true ?_
              try simp (disch := omega) only [LN, wi]
              first | omega | (simp; done) | (simp; omega)) ?_
          refine Rnd.yes (by
              have := (H0).1
              refine decide_eq_true ?_
              try simp (disch := omega) only [LN, wi]
              first | omega | (simp; done) | (simp; omega)) ?_
          refine Rnd.yes zle_dec ?_
          refine Rnd.yes (lt_dec h2) ?_
          refine Rnd.call_to (spec_MayFollow.md ((a0.getD (Int.toNat (IntKind.i64.wrap ((i1 : Int) - 1))) MSigned.zero).fHead) (a0.getD i1 MSigned.zero)) (spec_MayFollow.R_eq (a0 := (a0.getD (Int.toNat (IntKind.i64.wrap ((i1 : Int) - 1))) MSigned.zero).fHead) (a1 := (a0.getD i1 MSigned.zero)) ⟨(SmL.getD (z := MSigned.zero) H0 (by first | assumption | omega | (simp (disch := omega) only [wi]; omega) | (simp; omega))).1, (SmL.getD (z := MSigned.zero) H0 h2)⟩) ?_
          refine Rnd.bif (fun c7 => ?_) (fun c7 => ?_)
          · refine Rnd.inr ?_
            all_goals first | rfl | (simp only [S0, MSigned.rs, MP]; first | done | rfl)
          · refine Rnd.inl trivial ?_
            rw [wrap_succ h2 Bh2]
            all_goals first | rfl | (simp only [S0, MSigned.rs, MP]; first | done | rfl)
        · refine Rnd.inl trivial ?_
          rw [wrap_succ h2 Bh2]
          all_goals first | rfl | (simp only [S0, MSigned.rs, MP]; first | done | rfl)
    · have dc4 := c4
      try simp only [DC] at dc4
      refine Rnd.bif (fun c8 => ?_) (fun c8 => ?_)
      · have dc8 := c8
        try simp only [DC] at dc8
        refine Rnd.yes (by
            refine decide_eq_true ?_
            try simp (disch := omega) only [LN, wi]
            first | omega | (simp; done) | (simp; omega)) ?_
        refine Rnd.yes (by
            have := (H0).1
            refine decide_eq_true ?_
            try simp (disch := omega) only [LN, wi]
            first | omega | (simp; done) | (simp; omega)) ?_
        refine Rnd.yes zle_dec ?_
        refine Rnd.yes (lt_dec h2) ?_
        refine Rnd.call_to (spec_MayFollow.md ((a0.getD (Int.toNat (IntKind.i64.wrap ((i1 : Int) - 1))) MSigned.zero).fHead) (a0.getD i1 MSigned.zero)) (spec_MayFollow.R_eq (a0 := (a0.getD (Int.toNat (IntKind.i64.wrap ((i1 : Int) - 1))) MSigned.zero).fHead) (a1 := (a0.getD i1 MSigned.zero)) ⟨(SmL.getD (z := MSigned.zero) H0 (by first | assumption | omega | (simp (disch := omega) only [wi]; omega) | (simp; omega))).1, (SmL.getD (z := MSigned.zero) H0 h2)⟩) ?_
        refine Rnd.bif (fun c9 => ?_) (fun c9 => ?_)
        · refine Rnd.inr ?_
          all_goals first | rfl | (simp only [S0, MSigned.rs, MP]; first | done | rfl)
        · refine Rnd.inl trivial ?_
          rw [wrap_succ h2 Bh2]
          all_goals first | rfl | (simp only [S0, MSigned.rs, MP]; first | done | rfl)
      · refine Rnd.inl trivial ?_
        rw [wrap_succ h2 Bh2]
        all_goals first | rfl | (simp only [S0, MSigned.rs, MP]; first | done | rfl)
  · simp only [step, S0, MSigned.rs]
    have := (H0).1
    refine ex_no (by apply decide_eq_false; omega) ?_
    refine ⟨0, ?_⟩
    all_goals first | rfl | (simp only [S0, MSigned.rs, MP]; first | done | rfl)
theorem valid_ : Valid Try.prog Ev 204 con := VV (run := fun n x => start (iter step n) x) mix tab_ok (.cons spec_IsFirst.valid_ (.cons spec_MayFollow.valid_ .nil)) Try.func204 (by kernel_rfl) run_eq (fun _ a _ _ hg => okF a hg)
end spec_FirstWrong
/-! spec.IsChain -/
namespace spec_IsChain
noncomputable def F (x0 : List (List L)) : Ans := (call (spec_l1In.R ((x0.length : Int), 1, 12)) fun v1 => (bif v1 then (call (spec_FirstWrong.R x0) fun v2 => ret ((decide (v2 < 0)) : Bool)) else ret (false : Bool)))
def pats : List Pat := [.rd (.sl 184)]
def res : RP := .one (.rd (.bool))
noncomputable abbrev E : Env := { T := assoc Tab, G := conG [(97, spec_l1In.con), (204, spec_FirstWrong.con)], nt := 11 }
set_option maxRecDepth 100000
theorem run_eq (n : Nat) (ls : List L) : runF E (fun _ => []) Try.f147 res n (initS pats ls) = F (ls.headD .hole).toSl := by kernel_rfl
noncomputable def md (a0 : List MSigned) : Bool := (bif (spec_l1In.md (a0.length : Int) 1 12) then ((decide ((spec_FirstWrong.md a0) < 0)) : Bool) else (false : Bool))
def gd (a0 : List MSigned) : Prop := (SmL (2 ^ 21) (fun y : MSigned => MSigned.Sm (2 ^ 21) y) a0)
def acc (ls : List L) : List (List L) := (ls.headD .hole).toSl
noncomputable def R : (List (List L)) → Option Bool := RR gd md
theorem R_eq {a0} (h : gd a0) : R (a0.map MSigned.row) = some (md a0) := RR_eq (a := a0) h
noncomputable def con : Con := CN pats res acc R
theorem okF (a0 : List MSigned) (hg : gd a0) : F (a0.map MSigned.row) = ret ((md a0) : Bool) := by
  unfold gd at hg
  have H0 := hg
  unfold F md
  try simp only [S0]
  refine call_to (spec_l1In.md (a0.length : Int) 1 12) (spec_l1In.R_eq (a0 := (a0.length : Int)) (a1 := 1) (a2 := 12) trivial) ?_
  refine bif_out ret (fun c1 => ?_) (fun _ => rfl)
  refine call_to (spec_FirstWrong.md a0) (spec_FirstWrong.R_eq (a0 := a0) H0) ?_
  all_goals first | rfl | (simp only [S0, MP]; first | done | rfl)
theorem valid_ : Valid Try.prog Ev 147 con := VV (run := fun _ x => F x) mix tab_ok (.cons spec_l1In.valid_ (.cons spec_FirstWrong.valid_ .nil)) Try.func147 (by kernel_rfl) run_eq (fun _ a _ _ hg => ⟨0, okF a hg⟩)
theorem tr {a0 : List MSigned} (h : md a0 = true) : 1 ≤ a0.length ∧ a0.length ≤ 12 := by simp [md, spec_l1In.md] at h; omega
theorem heads {l : List MSigned} (h : md l = true) : ∀ i, i < l.length → spec_IsHead.md (l.getD i MSigned.zero).fHead = true := by
  intro i hi
  have hl := tr h
  have h1 : spec_FirstWrong.md l < 0 := by
    unfold md at h
    cases hc : spec_l1In.md (l.length : Int) 1 12 <;> rw [hc] at h
    · cases h
    · simpa using h
  unfold spec_FirstWrong.md at h1
  have h2 := eachI_neg (z := MSigned.zero) (by
    intro i x s b h
    revert h
    simp only [Bool.cond_eq_ite]
    repeat' split
    all_goals (intro h; first | (cases h; rfl) | cases h)) h1 i hi
  by_cases h0 : i = 0
  · subst h0
    cases hf : spec_IsFirst.md (l.getD 0 MSigned.zero)
    · rw [hf] at h2; cases h2
    · unfold spec_IsFirst.md at hf
      cases hh : spec_IsHead.md (l.getD 0 MSigned.zero).fHead
      · rw [hh] at hf; cases hf
      · rfl
  · have e : ((i : Int) == 0) = false := beq_eq_false_iff_ne.2 (by omega)
    have e2 : decide ((i : Int) > 0) = true := by simpa using by omega
    simp only [e, e2, cond_false, cond_true] at h2
    cases hf : spec_MayFollow.md ((l.getD (Int.toNat (IntKind.i64.wrap ((i : Int) - 1))) MSigned.zero).fHead) (l.getD i MSigned.zero)
    · rw [hf] at h2; cases h2
    · unfold spec_MayFollow.md spec_NextCode.md at hf
      cases hh : spec_IsHead.md (l.getD i MSigned.zero).fHead
      · rw [hh] at hf
        cases hp : spec_IsHead.md ((l.getD (Int.toNat (IntKind.i64.wrap ((i : Int) - 1))) MSigned.zero).fHead) <;> rw [hp] at hf <;> cases hf
      · rfl
end spec_IsChain
/-! spec.l6Copy -/
namespace spec_l6Copy
noncomputable def F (x0 : RKeys) : Ans := (bif (lim ((x0.fList.length : Int) * 8)) then ret (x0 : RKeys) else none)
def pats : List Pat := [.agg [.sl 3, .int .i64]]
def res : RP := .agg [.fr 3, .rd (.int .i64)]
noncomputable abbrev E : Env := { T := assoc Tab, G := conG [], nt := 10 }
set_option maxRecDepth 100000
theorem run_eq (n : Nat) (ls : List L) : runF E (fun _ => []) Try.f149 res n (initS pats ls) = F (RKeys.dec ls) := by kernel_rfl
noncomputable def md (a0 : MKeys) : MKeys := a0
def gd (a0 : MKeys) : Prop := (MKeys.Sm (2 ^ 21) a0)
def acc (ls : List L) : RKeys := (RKeys.dec ls)
noncomputable def R : RKeys → Option RKeys := RR gd md
theorem R_eq {a0} (h : gd a0) : R (MKeys.r a0) = some (MKeys.r (md a0)) := RR_eq (a := a0) h
noncomputable def con : Con := CN pats res acc R
theorem okF (a0 : MKeys) (hg : gd a0) : F (MKeys.r a0) = ret ((MKeys.r (md a0)) : RKeys) := by
  unfold gd at hg
  have H0 := hg
  unfold F md
  try simp only [S0, MKeys.rs]
  refine yes_ret (by
      have := (H0).1
      refine lim_t ?_
      try simp (disch := omega) only [LN, wi]
      first | omega | (simp; done) | (simp; omega)) ?_
  all_goals first | rfl | (simp only [S0, MKeys.rs]; done) | (simp only [MP]; rfl) | (simp only [S0, MKeys.rs, MP]; first | done | rfl)
theorem valid_ : Valid Try.prog Ev 149 con := VV (run := fun _ x => F x) mix tab_ok .nil Try.func149 (by kernel_rfl) run_eq (fun _ a _ _ hg => ⟨0, okF a hg⟩)
end spec_l6Copy
/-! spec.SpansOf -/
namespace spec_SpansOf
inductive Pt where
  | p0 (a : List (List L)) (b : Int) (c : List (List L))
def pid : Pt → Nat
  | .p0 .. => 5
def pvs : Pt → List V
  | .p0 a b c => [.sl none 184 a, .own 0, .int .i64 b]
def phs : Pt → List Root
  | .p0 a b c => [.row 202 c]
noncomputable def step (J : Pt → Ans) : Pt → Ans
  | .p0 a b c => (bif (decide (b < (a.length : Int))) then (bif (decide ((0 : Int) ≤ b)) then (bif (decide (b < (a.length : Int))) then (bif (b == 0) then (call (spec_l6Copy.R ((RSigned.at a (Int.toNat b)).fHead.fKeys)) fun v1 => (bif (lim (((c.length : Int) + 1) * 48)) then J (.p0 a (IntKind.i64.wrap (b + 1)) (c ++ [(RSpan.enc (⟨(RSigned.at a (Int.toNat b)).fHead.fTime, v1, (RSigned.at a (Int.toNat b)).fHead.fKind⟩ : RSpan))])) else none)) else (bif (decide ((0 : Int) ≤ (IntKind.i64.wrap (b - 1)))) then (bif (decide ((IntKind.i64.wrap (b - 1)) < (a.length : Int))) then (call (spec_EqualKeys.R ((RSigned.at a (Int.toNat b)).fHead.fKeys, (RSigned.at a (Int.toNat (IntKind.i64.wrap (b - 1)))).fHead.fKeys)) fun v2 => (bif (!v2) then (call (spec_l6Copy.R ((RSigned.at a (Int.toNat b)).fHead.fKeys)) fun v3 => (bif (lim (((c.length : Int) + 1) * 48)) then J (.p0 a (IntKind.i64.wrap (b + 1)) (c ++ [(RSpan.enc (⟨(RSigned.at a (Int.toNat b)).fHead.fTime, v3, (RSigned.at a (Int.toNat b)).fHead.fKind⟩ : RSpan))])) else none)) else J (.p0 a (IntKind.i64.wrap (b + 1)) c))) else none) else none)) else none) else none) else ret (c : List (List L)))
noncomputable def start (J : Pt → Ans) (x0 : List (List L)) : Ans := (call (spec_IsChain.R x0) fun v1 => (bif (!v1) then ret ([] : List (List L)) else J (.p0 x0 0 [])))
def live : Nat → Live := fun i => match i with | 5 => [(0, none), (3, some 202), (4, none)] | _ => []
def pats : List Pat := [.rd (.sl 184)]
def res : RP := .one (.fr 202)
noncomputable abbrev E : Env := { T := assoc Tab, G := conG [(147, spec_IsChain.con), (149, spec_l6Copy.con), (148, spec_EqualKeys.con)], nt := 49 }
set_option maxRecDepth 100000
theorem step_eq (I : Heads) (p : Pt) : enterC E live I (pid p) (bodyOf Try.f62) (stOf (live (pid p)) (pvs p) (phs p)) (doneK E Try.f62 res) = step (fun q => I (pid q) (pvs q) (phs q)) p := by
  cases p <;> kernel_rfl
theorem start_eq (I : Heads) (ls : List L) : runC E live I (bodyOf Try.f62) (initS pats ls) (doneK E Try.f62 res) = start (fun q => I (pid q) (pvs q) (phs q)) (ls.headD .hole).toSl := by kernel_rfl
theorem run_eq (n : Nat) (ls : List L) : runF E live Try.f62 res n (initS pats ls) = start (iter step n) (ls.headD .hole).toSl := runF_iter (id := pid) (vs := pvs) (hs := phs) (step := step) (start := fun J => start J (ls.headD .hole).toSl) step_eq (fun I => start_eq I ls) n
noncomputable def md (a0 : List MSigned) : List MSpan := (bif (!(spec_IsChain.md a0)) then [] else (eachI (S := List MSpan) (β := List MSpan) (fun (i2 : Nat) (y2 : MSigned) (s4 : List MSpan) => (bif ((i2 : Int) == 0) then (.inl (s4 ++ [(⟨(y2.fHead).fTime, ((y2.fHead).fKeys), (y2.fHead).fKind⟩ : MSpan)])) else (bif (!(spec_EqualKeys.md ((y2.fHead).fKeys) (((a0.getD (Int.toNat (IntKind.i64.wrap ((i2 : Int) - 1))) MSigned.zero).fHead).fKeys))) then (.inl (s4 ++ [(⟨(y2.fHead).fTime, ((y2.fHead).fKeys), (y2.fHead).fKind⟩ : MSpan)])) else (.inl s4)))) (fun (s4 : List MSpan) => s4) 0 a0 []))
def gd (a0 : List MSigned) : Prop := (SmL (2 ^ 21) (fun y : MSigned => MSigned.Sm (2 ^ 21) y) a0)
def acc (ls : List L) : List (List L) := (ls.headD .hole).toSl
noncomputable def R : (List (List L)) → Option (List (List L)) := RR gd md
theorem R_eq {a0} (h : gd a0) : R (a0.map MSigned.row) = some ((md a0).map MSpan.row) := RR_eq (a := a0) h
noncomputable def con : Con := CN pats res acc R
theorem okF (a0 : List MSigned) (hg : gd a0) : ∃ n, start (iter step n) (a0.map MSigned.row) = ret (((md a0).map MSpan.row) : List (List L)) := by
  unfold gd at hg
  have H0 := hg
  unfold start md
  try simp only [S0, MHead.rs, MSigned.rs, MSpan.rs]
  refine ex_call_to (spec_IsChain.md a0) (spec_IsChain.R_eq (a0 := a0) H0) ?_
  refine ex_bif (fun b : List MSpan => ret ((b.map MSpan.row) : List (List L))) (fun c1 => ?_) (fun c1 => ?_)
  · refine ⟨0, ?_⟩
    all_goals first | rfl | (simp only [S0, MHead.rs, MSigned.rs, MSpan.rs]; done) | (simp only [MP]; rfl) | (simp only [S0, MHead.rs, MSigned.rs, MSpan.rs, MP]; first | done | rfl)
  · have dc1 := c1
    try simp only [DC] at dc1
    try have tc1 := spec_IsChain.tr (by simpa using c1)
    have Bh3 : a0.length ≤ maxLen := (by
        have := (H0).1
        try simp only [maxLen] at *
        omega)
    refine ex_eq (out := (fun b : List MSpan => ret ((b.map MSpan.row) : List (List L)))) (loopM_eachI (z := MSigned.zero)) ?_
    refine ex_pt (p := Pt.p0 (a0.map MSigned.row) 0 ([].map MSpan.row)) (by first | rfl | (simp only [S0, MHead.rs, MSigned.rs, MSpan.rs, MP]; done) | (simp only [MP]; rfl)) ?_
    refine loopM_ok (pt := fun (i2 : Nat) (s4 : List MSpan) => Pt.p0 (a0.map MSigned.row) (i2 : Int) (s4.map MSpan.row)) (s := ([] : List MSpan)) (out := (fun b : List MSpan => ret ((b.map MSpan.row) : List (List L)))) (fun (i2 : Nat) (s4 : List MSpan) => s4.length ≤ ([] : List Int).length + 1 * i2) (fun J i2 s4 h3 hih3 => ?_) (fun s4 hih3 => ?_) (by simp)
    · simp only [step, S0, MHead.rs, MSigned.rs, MSpan.rs]
      have gr_ := hih3
      try simp only [LN] at gr_
      have bb_ := Bh3
      simp only [maxLen] at bb_
      have := (H0).1
      refine Rnd.yes (by apply decide_eq_true; omega) ?_
      refine Rnd.yes zle_dec ?_
      refine Rnd.yes (lt_dec h3) ?_
      refine Rnd.bif (fun c5 => ?_) (fun c5 => ?_)
      · have dc5 := c5
        try simp only [DC] at dc5
        refine Rnd.call_to (MKeys.r (((a0.getD i2 MSigned.zero).fHead).fKeys)) ?_ ?_
        · have R_ := spec_l6Copy.R_eq (a0 := ((a0.getD i2 MSigned.zero).fHead).fKeys) (SmL.getD (z := MSigned.zero) H0 h3).1.1
          simp only [spec_l6Copy.md] at R_
          first | exact R_ | (simp only [MP, S0, MHead.rs, MSigned.rs, MSpan.rs] at R_ ⊢; first | exact R_ | (rw [← R_]; rfl))
        try simp only [S0, MHead.rs, MSigned.rs, MSpan.rs]
        refine Rnd.yes (by
            refine lim_t ?_
            try simp (disch := omega) only [LN, wi]
            first | omega | (simp; done) | (simp; omega)) ?_
        refine Rnd.inl (by
            have g_ := hih3
            try simp only [LN] at g_ ⊢
            first | omega | (simp; done) | (simp; omega)) ?_
        rw [wrap_succ h3 Bh3]
        all_goals first | rfl | (simp only [S0, MHead.rs, MSigned.rs, MSpan.rs]; done) | (simp only [MP]; rfl) | (simp only [S0, MHead.rs, MSigned.rs, MSpan.rs, MP]; first | done | rfl)
      · have dc5 := c5
        try simp only [DC] at dc5
        refine Rnd.yes (by
            refine decide_eq_true ?_
            try simp (disch := omega) only [LN, wi]
            first | omega | (simp; done) | (simp; omega)) ?_
        refine Rnd.yes (by
            have := (H0).1
            refine decide_eq_true ?_
            try simp (disch := omega) only [LN, wi]
            first | omega | (simp; done) | (simp; omega)) ?_
        refine Rnd.call_to (spec_EqualKeys.md (((a0.getD i2 MSigned.zero).fHead).fKeys) (((a0.getD (Int.toNat (IntKind.i64.wrap ((i2 : Int) - 1))) MSigned.zero).fHead).fKeys)) (spec_EqualKeys.R_eq (a0 := ((a0.getD i2 MSigned.zero).fHead).fKeys) (a1 := ((a0.getD (Int.toNat (IntKind.i64.wrap ((i2 : Int) - 1))) MSigned.zero).fHead).fKeys) ⟨(SmL.getD (z := MSigned.zero) H0 h3).1.1, (SmL.getD (z := MSigned.zero) H0 (by first | assumption | omega | (simp (disch := omega) only [wi]; omega) | (simp; omega))).1.1⟩) ?_
        refine Rnd.bif (fun c6 => ?_) (fun c6 => ?_)
        · have dc6 := c6
          try simp only [DC] at dc6
          refine Rnd.call_to (MKeys.r (((a0.getD i2 MSigned.zero).fHead).fKeys)) ?_ ?_
          · have R_ := spec_l6Copy.R_eq (a0 := ((a0.getD i2 MSigned.zero).fHead).fKeys) (SmL.getD (z := MSigned.zero) H0 h3).1.1
            simp only [spec_l6Copy.md] at R_
            first | exact R_ | (simp only [MP, S0, MHead.rs, MSigned.rs, MSpan.rs] at R_ ⊢; first | exact R_ | (rw [← R_]; rfl))
          try simp only [S0, MHead.rs, MSigned.rs, MSpan.rs]
          refine Rnd.yes (by
              refine lim_t ?_
              try simp (disch := omega) only [LN, wi]
              first | omega | (simp; done) | (simp; omega)) ?_
          refine Rnd.inl (by
              have g_ := hih3
              try simp only [LN] at g_ ⊢
              first | omega | (simp; done) | (simp; omega)) ?_
          rw [wrap_succ h3 Bh3]
          all_goals first | rfl | (simp only [S0, MHead.rs, MSigned.rs, MSpan.rs]; done) | (simp only [MP]; rfl) | (simp only [S0, MHead.rs, MSigned.rs, MSpan.rs, MP]; first | done | rfl)
        · have dc6 := c6
          try simp only [DC] at dc6
          refine Rnd.inl (by
              have g_ := hih3
              try simp only [LN] at g_ ⊢
              first | omega | (simp; done) | (simp; omega)) ?_
          rw [wrap_succ h3 Bh3]
          all_goals first | rfl | (simp only [S0, MHead.rs, MSigned.rs, MSpan.rs]; done) | (simp only [MP]; rfl) | (simp only [S0, MHead.rs, MSigned.rs, MSpan.rs, MP]; first | done | rfl)
    · simp only [step, S0, MHead.rs, MSigned.rs, MSpan.rs]
      have gr_ := hih3
      try simp only [LN] at gr_
      have := (H0).1
      refine ex_no (by apply decide_eq_false; omega) ?_
      refine ⟨0, ?_⟩
      all_goals first | rfl | (simp only [S0, MHead.rs, MSigned.rs, MSpan.rs]; done) | (simp only [MP]; rfl) | (simp only [S0, MHead.rs, MSigned.rs, MSpan.rs, MP]; first | done | rfl)
theorem valid_ : Valid Try.prog Ev 62 con := VV (run := fun n x => start (iter step n) x) mix tab_ok (.cons spec_IsChain.valid_ (.cons spec_l6Copy.valid_ (.cons spec_EqualKeys.valid_ .nil))) Try.func62 (by kernel_rfl) run_eq (fun _ a _ _ hg => okF a hg)
end spec_SpansOf
/-! impl.InRange -/
namespace impl_InRange
noncomputable def F (x0 : Int) (x1 : Int) (x2 : Int) : Ans := (bif (decide (x1 ≤ x0)) then ret ((decide (x0 ≤ x2)) : Bool) else ret (false : Bool))
def pats : List Pat := [.rd (.int .i64), .rd (.int .i64), .rd (.int .i64)]
def res : RP := .one (.rd (.bool))
noncomputable abbrev E : Env := { T := assoc Tab, G := conG [], nt := 15 }
set_option maxRecDepth 100000
theorem run_eq (n : Nat) (ls : List L) : runF E (fun _ => []) Try.f181 res n (initS pats ls) = F (ls.headD .hole).toInt ((dropT 1 ls).headD .hole).toInt ((dropT 2 ls).headD .hole).toInt := by kernel_rfl
noncomputable def md (a0 : Int) (a1 : Int) (a2 : Int) : Bool := (bif (decide (a1 ≤ a0)) then ((decide (a0 ≤ a2)) : Bool) else (false : Bool))
def gd (a0 : Int) (a1 : Int) (a2 : Int) : Prop := True
def acc (ls : List L) : Int × Int × Int := ((ls.headD .hole).toInt, ((dropT 1 ls).headD .hole).toInt, ((dropT 2 ls).headD .hole).toInt)
noncomputable def R : (Int × Int × Int) → Option Bool := RR (p3 gd) (u3 md)
theorem R_eq {a0} {a1} {a2} (h : gd a0 a1 a2) : R (a0, a1, a2) = some (md a0 a1 a2) := RR_eq (a := (a0, a1, a2)) h
noncomputable def con : Con := CN pats res acc R
theorem okF (a0 : Int) (a1 : Int) (a2 : Int) (hg : gd a0 a1 a2) : F a0 a1 a2 = ret ((md a0 a1 a2) : Bool) := by
  unfold F md
  try simp only [S0]
  refine bif_out ret (fun c1 => ?_) (fun _ => rfl)
  all_goals first | rfl | (simp only [S0, MP]; first | done | rfl)
theorem valid_ : Valid Try.prog Ev 181 con := VV (run := fun _ x => F x.1 x.2.1 x.2.2) mix tab_ok .nil Try.func181 (by kernel_rfl) run_eq (fun _ a _ _ hg => ⟨0, okF a.1 a.2.1 a.2.2 hg⟩)
theorem br (a0 : Int) (a1 : Int) (a2 : Int) : md a0 a1 a2 = spec_l1In.md a0 a1 a2 := by
  unfold md spec_l1In.md
  first | rfl | (rw [Bool.eq_iff_iff]; simp)
end impl_InRange
/-! impl.isDigest -/
namespace impl_isDigest
noncomputable def F (x0 : Int) : Ans := (call (impl_InRange.R (x0, 0, 2147483646)) fun v1 => ret (v1 : Bool))
def pats : List Pat := [.rd (.int .i64)]
def res : RP := .one (.rd (.bool))
noncomputable abbrev E : Env := { T := assoc Tab, G := conG [(181, impl_InRange.con)], nt := 5 }
set_option maxRecDepth 100000
theorem run_eq (n : Nat) (ls : List L) : runF E (fun _ => []) Try.f100 res n (initS pats ls) = F (ls.headD .hole).toInt := by kernel_rfl
noncomputable def md (a0 : Int) : Bool := ((impl_InRange.md a0 0 2147483646) : Bool)
def gd (a0 : Int) : Prop := True
def acc (ls : List L) : Int := (ls.headD .hole).toInt
noncomputable def R : Int → Option Bool := RR gd md
theorem R_eq {a0} (h : gd a0) : R a0 = some (md a0) := RR_eq (a := a0) h
noncomputable def con : Con := CN pats res acc R
theorem okF (a0 : Int) (hg : gd a0) : F a0 = ret ((md a0) : Bool) := by
  unfold F md
  try simp only [S0]
  refine call_to (impl_InRange.md a0 0 2147483646) (impl_InRange.R_eq (a0 := a0) (a1 := 0) (a2 := 2147483646) trivial) ?_
  all_goals first | rfl | (simp only [S0, MP]; first | done | rfl)
theorem valid_ : Valid Try.prog Ev 100 con := VV (run := fun _ x => F x) mix tab_ok (.cons impl_InRange.valid_ .nil) Try.func100 (by kernel_rfl) run_eq (fun _ a _ _ hg => ⟨0, okF a hg⟩)
end impl_isDigest
/-! impl.isSpan -/
namespace impl_isSpan
noncomputable def F (x0 : RHead) : Ans := (bif (decide (x0.fTime ≥ 0)) then (bif (decide (x0.fTime ≤ x0.fUntil)) then (bif (decide (x0.fUntil ≤ 100000)) then ret ((decide ((IntKind.i64.wrap (x0.fUntil - x0.fTime)) ≤ 200)) : Bool) else ret (false : Bool)) else ret (false : Bool)) else ret (false : Bool))
def pats : List Pat := [.agg [.int .i64, .int .i64, .int .i64, .int .i64, .int .i64, .int .i64, .int .i64, .int .i64, .sl 3, .int .i64, .sl 3, .int .i64, .int .i64, .sl 3, .int .i64, .bool]]
def res : RP := .one (.rd (.bool))
noncomputable abbrev E : Env := { T := assoc Tab, G := conG [], nt := 26 }
set_option maxRecDepth 100000
theorem run_eq (n : Nat) (ls : List L) : runF E (fun _ => []) Try.f266 res n (initS pats ls) = F (RHead.dec ls) := by kernel_rfl
noncomputable def md (a0 : MHead) : Bool := (bif (decide (a0.fTime ≥ 0)) then (bif (decide (a0.fTime ≤ a0.fUntil)) then (bif (decide (a0.fUntil ≤ 100000)) then ((decide ((IntKind.i64.wrap (a0.fUntil - a0.fTime)) ≤ 200)) : Bool) else (false : Bool)) else (false : Bool)) else (false : Bool))
def gd (a0 : MHead) : Prop := True
def acc (ls : List L) : RHead := (RHead.dec ls)
noncomputable def R : RHead → Option Bool := RR gd md
theorem R_eq {a0} (h : gd a0) : R (MHead.r a0) = some (md a0) := RR_eq (a := a0) h
noncomputable def con : Con := CN pats res acc R
theorem okF (a0 : MHead) (hg : gd a0) : F (MHead.r a0) = ret ((md a0) : Bool) := by
  unfold F md
  try simp only [S0, MHead.rs]
  refine bif_out ret (fun c1 => ?_) (fun _ => rfl)
  refine bif_out ret (fun c2 => ?_) (fun _ => rfl)
  refine bif_out ret (fun c3 => ?_) (fun _ => rfl)
  all_goals first | rfl | (simp only [S0, MHead.rs, MP]; first | done | rfl)
theorem valid_ : Valid Try.prog Ev 266 con := VV (run := fun _ x => F x) mix tab_ok .nil Try.func266 (by kernel_rfl) run_eq (fun _ a _ _ hg => ⟨0, okF a hg⟩)
end impl_isSpan
/-! impl.ascending -/
namespace impl_ascending
inductive Pt where
  | p0 (a : List (List L)) (b : Int) (c : Int)
def pid : Pt → Nat
  | .p0 .. => 2
def pvs : Pt → List V
  | .p0 a b c => [.sl none 3 a, .int .i64 b, .int .i64 c]
def phs : Pt → List Root
  | .p0 a b c => []
noncomputable def step (J : Pt → Ans) : Pt → Ans
  | .p0 a b c => (bif (decide (c < b)) then (bif (decide (c > 0)) then (bif (decide ((0 : Int) ≤ c)) then (bif (decide (c < (a.length : Int))) then (bif (decide ((0 : Int) ≤ (IntKind.i64.wrap (c - 1)))) then (bif (decide ((IntKind.i64.wrap (c - 1)) < (a.length : Int))) then (bif (decide ((iAt a (Int.toNat c)) ≤ (iAt a (Int.toNat (IntKind.i64.wrap (c - 1)))))) then ret (false : Bool) else J (.p0 a b (IntKind.i64.wrap (c + 1)))) else none) else none) else none) else none) else J (.p0 a b (IntKind.i64.wrap (c + 1)))) else ret (true : Bool))
noncomputable def start (J : Pt → Ans) (x0 : List (List L)) : Ans := J (.p0 x0 (x0.length : Int) 0)
def live : Nat → Live := fun i => match i with | 2 => [(0, none), (5, none), (6, none)] | _ => []
def pats : List Pat := [.rd (.sl 3)]
def res : RP := .one (.rd (.bool))
noncomputable abbrev E : Env := { T := assoc Tab, G := conG [], nt := 24 }
set_option maxRecDepth 100000
theorem step_eq (I : Heads) (p : Pt) : enterC E live I (pid p) (bodyOf Try.f282) (stOf (live (pid p)) (pvs p) (phs p)) (doneK E Try.f282 res) = step (fun q => I (pid q) (pvs q) (phs q)) p := by
  cases p <;> kernel_rfl
theorem start_eq (I : Heads) (ls : List L) : runC E live I (bodyOf Try.f282) (initS pats ls) (doneK E Try.f282 res) = start (fun q => I (pid q) (pvs q) (phs q)) (ls.headD .hole).toSl := by kernel_rfl
theorem run_eq (n : Nat) (ls : List L) : runF E live Try.f282 res n (initS pats ls) = start (iter step n) (ls.headD .hole).toSl := runF_iter (id := pid) (vs := pvs) (hs := phs) (step := step) (start := fun J => start J (ls.headD .hole).toSl) step_eq (fun I => start_eq I ls) n
noncomputable def md (a0 : List Int) : Bool := (eachI (S := Unit) (β := Bool) (fun (i1 : Nat) (y1 : Int) (s3 : Unit) => (bif (decide ((i1 : Int) > 0)) then (bif (decide (y1 ≤ (a0.getD (Int.toNat (IntKind.i64.wrap ((i1 : Int) - 1))) 0))) then (.inr (false : Bool)) else (.inl ())) else (.inl ()))) (fun (s3 : Unit) => (true : Bool)) 0 a0 ())
def gd (a0 : List Int) : Prop := (SmL (2 ^ 38) (fun y : Int => True) a0)
def acc (ls : List L) : List (List L) := (ls.headD .hole).toSl
noncomputable def R : (List (List L)) → Option Bool := RR gd md
theorem R_eq {a0} (h : gd a0) : R (a0.map iRow) = some (md a0) := RR_eq (a := a0) h
noncomputable def con : Con := CN pats res acc R
theorem okF (a0 : List Int) (hg : gd a0) : ∃ n, start (iter step n) (a0.map iRow) = ret ((md a0) : Bool) := by
  unfold gd at hg
  have H0 := hg
  unfold start md
  try simp only [S0]
  have Bh2 : a0.length ≤ maxLen := (by
      have := (H0).1
      try simp only [maxLen] at *
      omega)
  refine ex_eq (out := ret) (loopM_eachI (z := 0)) ?_
  refine ex_pt (p := Pt.p0 (a0.map iRow) (a0.length : Int) 0) (by first | rfl | (simp only [S0, MP]; done) | (simp only [MP]; rfl)) ?_
  refine loopM_ok (pt := fun (i1 : Nat) (s3 : Unit) => Pt.p0 (a0.map iRow) (a0.length : Int) (i1 : Int)) (s := (() : Unit)) (out := ret) (fun _ _ => True) (fun J i1 s3 h2 hih2 => ?_) (fun s3 hih2 => ?_) trivial
  · simp only [step, S0]
    have bb_ := Bh2
    simp only [maxLen] at bb_
    have := (H0).1
    refine Rnd.yes (by apply decide_eq_true; omega) ?_
    refine Rnd.bif (fun c4 => ?_) (fun c4 => ?_)
    · have dc4 := c4
      try simp only [DC] at dc4
      refine Rnd.yes zle_dec ?_
      refine Rnd.yes (lt_dec h2) ?_
      refine Rnd.yes (by
          refine decide_eq_true ?_
          try simp (disch := omega) only [LN, wi]
          first | omega | (simp; done) | (simp; omega)) ?_
      refine Rnd.yes (by
          have := (H0).1
          refine decide_eq_true ?_
          try simp (disch := omega) only [LN, wi]
          first | omega | (simp; done) | (simp; omega)) ?_
      refine Rnd.bif (fun _ => Rnd.inr rfl) (fun c5 => ?_)
      refine Rnd.inl trivial ?_
      rw [wrap_succ h2 Bh2]
      all_goals first | rfl | (simp only [S0, MP]; first | done | rfl)
    · refine Rnd.inl trivial ?_
      rw [wrap_succ h2 Bh2]
      all_goals first | rfl | (simp only [S0, MP]; first | done | rfl)
  · simp only [step, S0]
    have := (H0).1
    refine ex_no (by apply decide_eq_false; omega) ?_
    refine ⟨0, ?_⟩
    all_goals first | rfl | (simp only [S0, MP]; first | done | rfl)
theorem valid_ : Valid Try.prog Ev 282 con := VV (run := fun n x => start (iter step n) x) mix tab_ok .nil Try.func282 (by kernel_rfl) run_eq (fun _ a _ _ hg => okF a hg)
end impl_ascending
/-! impl.isKey -/
namespace impl_isKey
noncomputable def F (x0 : Int) : Ans := (call (impl_InRange.R (x0, 1, 99)) fun v1 => ret (v1 : Bool))
def pats : List Pat := [.rd (.int .i64)]
def res : RP := .one (.rd (.bool))
noncomputable abbrev E : Env := { T := assoc Tab, G := conG [(181, impl_InRange.con)], nt := 5 }
set_option maxRecDepth 100000
theorem run_eq (n : Nat) (ls : List L) : runF E (fun _ => []) Try.f283 res n (initS pats ls) = F (ls.headD .hole).toInt := by kernel_rfl
noncomputable def md (a0 : Int) : Bool := ((impl_InRange.md a0 1 99) : Bool)
def gd (a0 : Int) : Prop := True
def acc (ls : List L) : Int := (ls.headD .hole).toInt
noncomputable def R : Int → Option Bool := RR gd md
theorem R_eq {a0} (h : gd a0) : R a0 = some (md a0) := RR_eq (a := a0) h
noncomputable def con : Con := CN pats res acc R
theorem okF (a0 : Int) (hg : gd a0) : F a0 = ret ((md a0) : Bool) := by
  unfold F md
  try simp only [S0]
  refine call_to (impl_InRange.md a0 1 99) (impl_InRange.R_eq (a0 := a0) (a1 := 1) (a2 := 99) trivial) ?_
  all_goals first | rfl | (simp only [S0, MP]; first | done | rfl)
theorem valid_ : Valid Try.prog Ev 283 con := VV (run := fun _ x => F x) mix tab_ok (.cons impl_InRange.valid_ .nil) Try.func283 (by kernel_rfl) run_eq (fun _ a _ _ hg => ⟨0, okF a hg⟩)
end impl_isKey
/-! impl.IsKeys -/
namespace impl_IsKeys
noncomputable def F (x0 : RKeys) : Ans := (call (impl_InRange.R ((x0.fList.length : Int), 1, 4)) fun v1 => (bif v1 then (call (impl_ascending.R x0.fList) fun v2 => (bif v2 then (bif (decide ((0 : Int) < (x0.fList.length : Int))) then (call (impl_isKey.R (iAt x0.fList 0)) fun v3 => (bif v3 then (bif (decide ((0 : Int) ≤ (IntKind.i64.wrap ((x0.fList.length : Int) - 1)))) then (bif (decide ((IntKind.i64.wrap ((x0.fList.length : Int) - 1)) < (x0.fList.length : Int))) then (call (impl_isKey.R (iAt x0.fList (Int.toNat (IntKind.i64.wrap ((x0.fList.length : Int) - 1))))) fun v4 => (bif v4 then (call (impl_InRange.R (x0.fNeed, 1, (x0.fList.length : Int))) fun v5 => ret (v5 : Bool)) else ret (false : Bool))) else none) else none) else ret (false : Bool))) else none) else ret (false : Bool))) else ret (false : Bool)))
def pats : List Pat := [.agg [.sl 3, .int .i64]]
def res : RP := .one (.rd (.bool))
noncomputable abbrev E : Env := { T := assoc Tab, G := conG [(181, impl_InRange.con), (282, impl_ascending.con), (283, impl_isKey.con)], nt := 38 }
set_option maxRecDepth 100000
theorem run_eq (n : Nat) (ls : List L) : runF E (fun _ => []) Try.f267 res n (initS pats ls) = F (RKeys.dec ls) := by kernel_rfl
noncomputable def md (a0 : MKeys) : Bool := (bif (impl_InRange.md (a0.fList.length : Int) 1 4) then (bif (impl_ascending.md a0.fList) then (bif (impl_isKey.md (a0.fList.getD 0 0)) then (bif (impl_isKey.md (a0.fList.getD (Int.toNat (IntKind.i64.wrap ((a0.fList.length : Int) - 1))) 0)) then ((impl_InRange.md a0.fNeed 1 (a0.fList.length : Int)) : Bool) else (false : Bool)) else (false : Bool)) else (false : Bool)) else (false : Bool))
def gd (a0 : MKeys) : Prop := (MKeys.Sm (2 ^ 21) a0)
def acc (ls : List L) : RKeys := (RKeys.dec ls)
noncomputable def R : RKeys → Option Bool := RR gd md
theorem R_eq {a0} (h : gd a0) : R (MKeys.r a0) = some (md a0) := RR_eq (a := a0) h
noncomputable def con : Con := CN pats res acc R
theorem okF (a0 : MKeys) (hg : gd a0) : F (MKeys.r a0) = ret ((md a0) : Bool) := by
  unfold gd at hg
  have H0 := hg
  unfold F md
  try simp only [S0, MKeys.rs]
  refine call_to (impl_InRange.md (a0.fList.length : Int) 1 4) (impl_InRange.R_eq (a0 := (a0.fList.length : Int)) (a1 := 1) (a2 := 4) trivial) ?_
  refine bif_out ret (fun c1 => ?_) (fun _ => rfl)
  have Dc1 := c1
  try simp [impl_InRange.md] at Dc1
  refine call_to (impl_ascending.md a0.fList) (impl_ascending.R_eq (a0 := a0.fList) (H0.mono (by decide) (fun x hx => trivial))) ?_
  refine bif_out ret (fun c2 => ?_) (fun _ => rfl)
  refine yes_ret (by
      have := (H0).1
      refine decide_eq_true ?_
      try simp (disch := omega) only [LN, wi]
      first | omega | (simp; done) | (simp; omega)) ?_
  refine call_to (impl_isKey.md (a0.fList.getD 0 0)) (impl_isKey.R_eq (a0 := (a0.fList.getD 0 0)) trivial) ?_
  refine bif_out ret (fun c3 => ?_) (fun _ => rfl)
  refine yes_ret (by
      have := (H0).1
      refine decide_eq_true ?_
      try simp (disch := omega) only [LN, wi]
      first | omega | (simp; done) | (simp; omega)) ?_
  refine yes_ret (by
      have := (H0).1
      refine decide_eq_true ?_
      try simp (disch := omega) only [LN, wi]
      first | omega | (simp; done) | (simp; omega)) ?_
  refine call_to (impl_isKey.md (a0.fList.getD (Int.toNat (IntKind.i64.wrap ((a0.fList.length : Int) - 1))) 0)) (impl_isKey.R_eq (a0 := (a0.fList.getD (Int.toNat (IntKind.i64.wrap ((a0.fList.length : Int) - 1))) 0)) trivial) ?_
  refine bif_out ret (fun c4 => ?_) (fun _ => rfl)
  refine call_to (impl_InRange.md a0.fNeed 1 (a0.fList.length : Int)) (impl_InRange.R_eq (a0 := a0.fNeed) (a1 := 1) (a2 := (a0.fList.length : Int)) trivial) ?_
  all_goals first | rfl | (simp only [S0, MKeys.rs, MP]; first | done | rfl)
theorem valid_ : Valid Try.prog Ev 267 con := VV (run := fun _ x => F x) mix tab_ok (.cons impl_InRange.valid_ (.cons impl_ascending.valid_ (.cons impl_isKey.valid_ .nil))) Try.func267 (by kernel_rfl) run_eq (fun _ a _ _ hg => ⟨0, okF a hg⟩)
-- uses spec_IsKeys
theorem asc {l : List Int} (h : ∀ i : Nat, i < l.length → 0 < i → l.getD (i - 1) 0 < l.getD i 0) : ∀ (k i : Nat), i + k < l.length → l.getD i 0 ≤ l.getD (i + k) 0
  | 0, i, _ => Int.le_refl _
  | k + 1, i, hi => by
    have h1 := asc h k i (by omega)
    have h2 := h (i + (k + 1)) hi (by omega)
    rw [show i + (k + 1) - 1 = i + k by omega] at h2
    omega
theorem br (a0 : MKeys) : md a0 = spec_IsKeys.md a0 := by
  unfold md spec_IsKeys.md impl_ascending.md
  simp only [impl_InRange.br, impl_isKey.md]
  by_cases hl : 1 ≤ a0.fList.length ∧ a0.fList.length ≤ 4
  · have e1 : spec_l1In.md (a0.fList.length : Int) 1 4 = true := by simp [spec_l1In.md]; omega
    rw [e1]
    have wp : ∀ i : Nat, 0 < i → i ≤ 4 → Int.toNat (IntKind.i64.wrap ((i : Int) - 1)) = i - 1 := fun i h1 h2 => by
      rw [Go.IntWalk.i64_in _ (by omega)]; omega
    rw [wp _ (by omega) (by omega)]
    generalize a0.fNeed = n
    generalize a0.fList = l at *
    have i1 : ∀ x a b : Int, spec_l1In.md x a b = true ↔ a ≤ x ∧ x ≤ b := fun x a b => by simp [spec_l1In.md]
    have i2 : ∀ x a b : Int, spec_l1In.md x a b = false ↔ ¬ (a ≤ x ∧ x ≤ b) := fun x a b => by rw [← i1]; simp
    have w2 : ∀ i : Nat, i < l.length → 0 < i → Int.toNat (IntKind.i64.wrap ((i : Int) - 1)) = i - 1 := fun i h1 h2 => wp i h2 (by omega)
    rw [Bool.eq_iff_iff, ← loopM_eachI (z := 0), ← loopM_eachI (z := 0)]
    have e3 : ∀ a b c d : Bool, (bif true then (bif a then (bif b then (bif c then d else false) else false) else false) else false) = true ↔ a = true ∧ b = true ∧ c = true ∧ d = true := by
      intro a b c d; cases a <;> cases b <;> cases c <;> simp
    have pos : ∀ i : Nat, 0 < i → decide ((i : Int) > 0) = true := fun i h => by simpa using h
    have npos : ∀ i : Nat, ¬ 0 < i → decide ((i : Int) > 0) = false := fun i h => by simpa using h
    rw [e3]
    rw [loopM_true (fun i => 0 < i → l.getD (i - 1) 0 < l.getD i 0) (fun i hi h => ?_) (fun i hi h => ?_), loopM_true (fun i => (1 ≤ l.getD i 0 ∧ l.getD i 0 ≤ 99) ∧ (0 < i → l.getD (i - 1) 0 < l.getD i 0)) (fun i hi h => ?_) (fun i hi h => ?_)]
    · simp only [i1, and_true, cond_true]
      constructor
      · rintro ⟨h1, ⟨h2, h3⟩, ⟨h4, h5⟩, h6⟩
        refine ⟨fun i hi => ⟨⟨?_, ?_⟩, h1 i hi⟩, h6⟩
        · have := asc h1 i 0 (by omega)
          rw [Nat.zero_add] at this; omega
        · have := asc h1 (l.length - 1 - i) i (by omega)
          rw [show i + (l.length - 1 - i) = l.length - 1 by omega] at this; omega
      · rintro ⟨h1, h6⟩
        exact ⟨fun i hi => (h1 i hi).2, (h1 0 (by omega)).1, (h1 (l.length - 1) (by omega)).1, h6⟩
    · have e2 := (i1 (l.getD i 0) 1 99).2 h.1
      rw [e2]
      by_cases h0 : 0 < i
      · have := h.2 h0
        rw [pos i h0, w2 i hi h0, decide_eq_false (by omega)]; rfl
      · rw [npos i h0]; rfl
    · by_cases h1 : 1 ≤ l.getD i 0 ∧ l.getD i 0 ≤ 99
      · have e2 := (i1 (l.getD i 0) 1 99).2 h1
        have h0 : 0 < i := Classical.byContradiction fun hc => h ⟨h1, fun h => (hc h).elim⟩
        have h2 : ¬ l.getD (i - 1) 0 < l.getD i 0 := fun hc => h ⟨h1, fun _ => hc⟩
        rw [e2, pos i h0, w2 i hi h0, decide_eq_true (by omega)]; rfl
      · rw [(i2 _ _ _).2 h1]; rfl
    · by_cases h0 : 0 < i
      · have := h h0
        rw [pos i h0, w2 i hi h0, decide_eq_false (by omega)]; rfl
      · rw [npos i h0]; rfl
    · have h0 : 0 < i := Classical.byContradiction fun hc => h fun h => (hc h).elim
      have h2 : ¬ l.getD (i - 1) 0 < l.getD i 0 := fun hc => h fun _ => hc
      rw [pos i h0, w2 i hi h0, decide_eq_true (by omega)]; rfl
  · have e1 : spec_l1In.md (a0.fList.length : Int) 1 4 = false := by simp [spec_l1In.md]; omega
    rw [e1]
    simp only [cond_false]
    symm
    exact eachI_const (by
      intro i x s b h
      revert h
      simp only [Bool.cond_eq_ite]
      repeat' split
      all_goals (intro h; first | (cases h; rfl) | cases h)) _ _ _
end impl_IsKeys
/-! impl.NoKeys -/
namespace impl_NoKeys
noncomputable def F (x0 : RKeys) : Ans := (bif (x0.fNeed == 0) then ret (((x0.fList.length : Int) == 0) : Bool) else ret (false : Bool))
def pats : List Pat := [.agg [.sl 3, .int .i64]]
def res : RP := .one (.rd (.bool))
noncomputable abbrev E : Env := { T := assoc Tab, G := conG [], nt := 12 }
set_option maxRecDepth 100000
theorem run_eq (n : Nat) (ls : List L) : runF E (fun _ => []) Try.f270 res n (initS pats ls) = F (RKeys.dec ls) := by kernel_rfl
noncomputable def md (a0 : MKeys) : Bool := (bif (a0.fNeed == 0) then (((a0.fList.length : Int) == 0) : Bool) else (false : Bool))
def gd (a0 : MKeys) : Prop := True
def acc (ls : List L) : RKeys := (RKeys.dec ls)
noncomputable def R : RKeys → Option Bool := RR gd md
theorem R_eq {a0} (h : gd a0) : R (MKeys.r a0) = some (md a0) := RR_eq (a := a0) h
noncomputable def con : Con := CN pats res acc R
theorem okF (a0 : MKeys) (hg : gd a0) : F (MKeys.r a0) = ret ((md a0) : Bool) := by
  unfold F md
  try simp only [S0, MKeys.rs]
  refine bif_out ret (fun c1 => ?_) (fun _ => rfl)
  all_goals first | rfl | (simp only [S0, MKeys.rs, MP]; first | done | rfl)
theorem valid_ : Valid Try.prog Ev 270 con := VV (run := fun _ x => F x) mix tab_ok .nil Try.func270 (by kernel_rfl) run_eq (fun _ a _ _ hg => ⟨0, okF a hg⟩)
theorem br (a0 : MKeys) : md a0 = spec_NoKeys.md a0 := by
  unfold md spec_NoKeys.md
  first
  | (simp only [id]; done)
  | (simp only [id]; rfl)
  | rfl
end impl_NoKeys
/-! impl.isMaybe -/
namespace impl_isMaybe
noncomputable def F (x0 : RKeys) : Ans := (call (impl_NoKeys.R x0) fun v1 => (bif v1 then ret (true : Bool) else (call (impl_IsKeys.R x0) fun v2 => ret (v2 : Bool))))
def pats : List Pat := [.agg [.sl 3, .int .i64]]
def res : RP := .one (.rd (.bool))
noncomputable abbrev E : Env := { T := assoc Tab, G := conG [(270, impl_NoKeys.con), (267, impl_IsKeys.con)], nt := 9 }
set_option maxRecDepth 100000
theorem run_eq (n : Nat) (ls : List L) : runF E (fun _ => []) Try.f268 res n (initS pats ls) = F (RKeys.dec ls) := by kernel_rfl
noncomputable def md (a0 : MKeys) : Bool := (bif (impl_NoKeys.md a0) then (true : Bool) else ((impl_IsKeys.md a0) : Bool))
def gd (a0 : MKeys) : Prop := (MKeys.Sm (2 ^ 21) a0)
def acc (ls : List L) : RKeys := (RKeys.dec ls)
noncomputable def R : RKeys → Option Bool := RR gd md
theorem R_eq {a0} (h : gd a0) : R (MKeys.r a0) = some (md a0) := RR_eq (a := a0) h
noncomputable def con : Con := CN pats res acc R
theorem okF (a0 : MKeys) (hg : gd a0) : F (MKeys.r a0) = ret ((md a0) : Bool) := by
  unfold gd at hg
  have H0 := hg
  unfold F md
  try simp only [S0]
  refine call_to (impl_NoKeys.md a0) (impl_NoKeys.R_eq (a0 := a0) trivial) ?_
  refine bif_out ret (fun _ => rfl) (fun c1 => ?_)
  refine call_to (impl_IsKeys.md a0) (impl_IsKeys.R_eq (a0 := a0) H0) ?_
  all_goals first | rfl | (simp only [S0, MP]; first | done | rfl)
theorem valid_ : Valid Try.prog Ev 268 con := VV (run := fun _ x => F x) mix tab_ok (.cons impl_NoKeys.valid_ (.cons impl_IsKeys.valid_ .nil)) Try.func268 (by kernel_rfl) run_eq (fun _ a _ _ hg => ⟨0, okF a hg⟩)
end impl_isMaybe
/-! impl.isWait -/
namespace impl_isWait
noncomputable def F (x0 : Int) (x1 : RKeys) : Ans := (call (impl_NoKeys.R x1) fun v1 => (bif v1 then ret ((x0 == 0) : Bool) else (call (impl_InRange.R (x0, 1, 500)) fun v2 => ret (v2 : Bool))))
def pats : List Pat := [.rd (.int .i64), .agg [.sl 3, .int .i64]]
def res : RP := .one (.rd (.bool))
noncomputable abbrev E : Env := { T := assoc Tab, G := conG [(270, impl_NoKeys.con), (181, impl_InRange.con)], nt := 11 }
set_option maxRecDepth 100000
theorem run_eq (n : Nat) (ls : List L) : runF E (fun _ => []) Try.f269 res n (initS pats ls) = F (ls.headD .hole).toInt (RKeys.dec (dropT 1 ls)) := by kernel_rfl
noncomputable def md (a0 : Int) (a1 : MKeys) : Bool := (bif (impl_NoKeys.md a1) then ((a0 == 0) : Bool) else ((impl_InRange.md a0 1 500) : Bool))
def gd (a0 : Int) (a1 : MKeys) : Prop := True
def acc (ls : List L) : Int × RKeys := ((ls.headD .hole).toInt, (RKeys.dec (dropT 1 ls)))
noncomputable def R : (Int × RKeys) → Option Bool := RR (p2 gd) (u2 md)
theorem R_eq {a0} {a1} (h : gd a0 a1) : R (a0, (MKeys.r a1)) = some (md a0 a1) := RR_eq (a := (a0, a1)) h
noncomputable def con : Con := CN pats res acc R
theorem okF (a0 : Int) (a1 : MKeys) (hg : gd a0 a1) : F a0 (MKeys.r a1) = ret ((md a0 a1) : Bool) := by
  unfold F md
  try simp only [S0]
  refine call_to (impl_NoKeys.md a1) (impl_NoKeys.R_eq (a0 := a1) trivial) ?_
  refine bif_out ret (fun c1 => ?_) (fun c1 => ?_)
  · all_goals first | rfl | (simp only [S0, MP]; first | done | rfl)
  · refine call_to (impl_InRange.md a0 1 500) (impl_InRange.R_eq (a0 := a0) (a1 := 1) (a2 := 500) trivial) ?_
    all_goals first | rfl | (simp only [S0, MP]; first | done | rfl)
theorem valid_ : Valid Try.prog Ev 269 con := VV (run := fun _ x => F x.1 x.2) mix tab_ok (.cons impl_NoKeys.valid_ (.cons impl_InRange.valid_ .nil)) Try.func269 (by kernel_rfl) run_eq (fun _ a _ _ hg => ⟨0, okF a.1 a.2 hg⟩)
end impl_isWait
/-! impl.IsHead -/
namespace impl_IsHead
noncomputable def F (x0 : RHead) : Ans := (call (impl_isDigest.R x0.fZone) fun v1 => (bif v1 then (call (impl_isDigest.R x0.fRoot) fun v2 => (bif v2 then (call (impl_isDigest.R x0.fPrev) fun v3 => (bif v3 then (call (impl_InRange.R (x0.fEpoch, 0, 200)) fun v4 => (bif v4 then (call (impl_InRange.R (x0.fKind, 1, 3)) fun v5 => (bif v5 then (call (impl_isSpan.R x0) fun v6 => (bif v6 then (call (impl_InRange.R (x0.fCount, 0, 12)) fun v7 => (bif v7 then (call (impl_IsKeys.R x0.fKeys) fun v8 => (bif v8 then (call (impl_isMaybe.R x0.fHeirs) fun v9 => (bif v9 then (call (impl_isMaybe.R x0.fJudge) fun v10 => (bif v10 then (call (impl_isWait.R (x0.fWait, x0.fHeirs)) fun v11 => (bif v11 then (bif x0.fFrozen then (call (impl_NoKeys.R x0.fJudge) fun v12 => ret ((!v12) : Bool)) else ret (true : Bool)) else ret (false : Bool))) else ret (false : Bool))) else ret (false : Bool))) else ret (false : Bool))) else ret (false : Bool))) else ret (false : Bool))) else ret (false : Bool))) else ret (false : Bool))) else ret (false : Bool))) else ret (false : Bool))) else ret (false : Bool)))
def pats : List Pat := [.agg [.int .i64, .int .i64, .int .i64, .int .i64, .int .i64, .int .i64, .int .i64, .int .i64, .sl 3, .int .i64, .sl 3, .int .i64, .int .i64, .sl 3, .int .i64, .bool]]
def res : RP := .one (.rd (.bool))
noncomputable abbrev E : Env := { T := assoc Tab, G := conG [(100, impl_isDigest.con), (181, impl_InRange.con), (266, impl_isSpan.con), (267, impl_IsKeys.con), (268, impl_isMaybe.con), (269, impl_isWait.con), (270, impl_NoKeys.con)], nt := 67 }
set_option maxRecDepth 100000
theorem run_eq (n : Nat) (ls : List L) : runF E (fun _ => []) Try.f249 res n (initS pats ls) = F (RHead.dec ls) := by kernel_rfl
noncomputable def md (a0 : MHead) : Bool := (bif (impl_isDigest.md a0.fZone) then (bif (impl_isDigest.md a0.fRoot) then (bif (impl_isDigest.md a0.fPrev) then (bif (impl_InRange.md a0.fEpoch 0 200) then (bif (impl_InRange.md a0.fKind 1 3) then (bif (impl_isSpan.md a0) then (bif (impl_InRange.md a0.fCount 0 12) then (bif (impl_IsKeys.md a0.fKeys) then (bif (impl_isMaybe.md a0.fHeirs) then (bif (impl_isMaybe.md a0.fJudge) then (bif (impl_isWait.md a0.fWait a0.fHeirs) then (bif a0.fFrozen then ((!(impl_NoKeys.md a0.fJudge)) : Bool) else (true : Bool)) else (false : Bool)) else (false : Bool)) else (false : Bool)) else (false : Bool)) else (false : Bool)) else (false : Bool)) else (false : Bool)) else (false : Bool)) else (false : Bool)) else (false : Bool)) else (false : Bool))
def gd (a0 : MHead) : Prop := (MHead.Sm (2 ^ 21) a0)
def acc (ls : List L) : RHead := (RHead.dec ls)
noncomputable def R : RHead → Option Bool := RR gd md
theorem R_eq {a0} (h : gd a0) : R (MHead.r a0) = some (md a0) := RR_eq (a := a0) h
noncomputable def con : Con := CN pats res acc R
theorem okF (a0 : MHead) (hg : gd a0) : F (MHead.r a0) = ret ((md a0) : Bool) := by
  unfold gd at hg
  have H0 := hg
  unfold F md
  try simp only [S0, MHead.rs]
  refine call_to (impl_isDigest.md a0.fZone) (impl_isDigest.R_eq (a0 := a0.fZone) trivial) ?_
  refine bif_out ret (fun c1 => ?_) (fun _ => rfl)
  refine call_to (impl_isDigest.md a0.fRoot) (impl_isDigest.R_eq (a0 := a0.fRoot) trivial) ?_
  refine bif_out ret (fun c2 => ?_) (fun _ => rfl)
  refine call_to (impl_isDigest.md a0.fPrev) (impl_isDigest.R_eq (a0 := a0.fPrev) trivial) ?_
  refine bif_out ret (fun c3 => ?_) (fun _ => rfl)
  refine call_to (impl_InRange.md a0.fEpoch 0 200) (impl_InRange.R_eq (a0 := a0.fEpoch) (a1 := 0) (a2 := 200) trivial) ?_
  refine bif_out ret (fun c4 => ?_) (fun _ => rfl)
  refine call_to (impl_InRange.md a0.fKind 1 3) (impl_InRange.R_eq (a0 := a0.fKind) (a1 := 1) (a2 := 3) trivial) ?_
  refine bif_out ret (fun c5 => ?_) (fun _ => rfl)
  refine call_to (impl_isSpan.md a0) (impl_isSpan.R_eq (a0 := a0) trivial) ?_
  refine bif_out ret (fun c6 => ?_) (fun _ => rfl)
  refine call_to (impl_InRange.md a0.fCount 0 12) (impl_InRange.R_eq (a0 := a0.fCount) (a1 := 0) (a2 := 12) trivial) ?_
  refine bif_out ret (fun c7 => ?_) (fun _ => rfl)
  refine call_to (impl_IsKeys.md a0.fKeys) (impl_IsKeys.R_eq (a0 := a0.fKeys) H0.1) ?_
  refine bif_out ret (fun c8 => ?_) (fun _ => rfl)
  refine call_to (impl_isMaybe.md a0.fHeirs) (impl_isMaybe.R_eq (a0 := a0.fHeirs) H0.2.1) ?_
  refine bif_out ret (fun c9 => ?_) (fun _ => rfl)
  refine call_to (impl_isMaybe.md a0.fJudge) (impl_isMaybe.R_eq (a0 := a0.fJudge) H0.2.2) ?_
  refine bif_out ret (fun c10 => ?_) (fun _ => rfl)
  refine call_to (impl_isWait.md a0.fWait a0.fHeirs) (impl_isWait.R_eq (a0 := a0.fWait) (a1 := a0.fHeirs) trivial) ?_
  refine bif_out ret (fun c11 => ?_) (fun _ => rfl)
  refine bif_out ret (fun c12 => ?_) (fun _ => rfl)
  refine call_to (impl_NoKeys.md a0.fJudge) (impl_NoKeys.R_eq (a0 := a0.fJudge) trivial) ?_
  all_goals first | rfl | (simp only [S0, MHead.rs, MP]; first | done | rfl)
theorem valid_ : Valid Try.prog Ev 249 con := VV (run := fun _ x => F x) mix tab_ok (.cons impl_isDigest.valid_ (.cons impl_InRange.valid_ (.cons impl_isSpan.valid_ (.cons impl_IsKeys.valid_ (.cons impl_isMaybe.valid_ (.cons impl_isWait.valid_ (.cons impl_NoKeys.valid_ .nil))))))) Try.func249 (by kernel_rfl) run_eq (fun _ a _ _ hg => ⟨0, okF a hg⟩)
theorem br (a0 : MHead) : md a0 = spec_IsHead.md a0 := by
  unfold md spec_IsHead.md
  simp only [impl_IsKeys.br, impl_InRange.br, impl_isDigest.md, impl_isMaybe.md, impl_isWait.md, impl_NoKeys.br]
  have hs : impl_isSpan.md a0 = (spec_l1In.md a0.fTime 0 100000 && (spec_l1In.md a0.fUntil a0.fTime 100000 && !decide ((IntKind.i64.wrap (a0.fUntil - a0.fTime)) > 200))) := by
    rw [Bool.eq_iff_iff]
    simp [impl_isSpan.md, spec_l1In.md]
    omega
  have hk : spec_IsKeys.md a0.fJudge = true → spec_NoKeys.md a0.fJudge = false := fun h => by
    have := spec_IsKeys.tr h
    have e : ((a0.fJudge.fList.length : Int) == 0) = false := beq_eq_false_iff_ne.2 (by omega)
    unfold spec_NoKeys.md
    rw [e]
    cases a0.fJudge.fNeed == 0 <;> rfl
  rw [hs]
  revert hk
  simp only [and_n, and_p, Bool.and_assoc]
  generalize spec_l1In.md a0.fZone 0 2147483646 = b1
  generalize spec_l1In.md a0.fRoot 0 2147483646 = b2
  generalize spec_l1In.md a0.fPrev 0 2147483646 = b3
  generalize spec_l1In.md a0.fEpoch 0 200 = b4
  generalize spec_l1In.md a0.fKind 1 3 = b5
  generalize spec_l1In.md a0.fTime 0 100000 = b6
  generalize spec_l1In.md a0.fUntil a0.fTime 100000 = b7
  generalize decide ((IntKind.i64.wrap (a0.fUntil - a0.fTime)) > 200) = b8
  generalize spec_l1In.md a0.fCount 0 12 = b9
  generalize spec_IsKeys.md a0.fKeys = b10
  generalize spec_IsKeys.md a0.fHeirs = kh
  generalize spec_NoKeys.md a0.fHeirs = nh
  generalize spec_IsKeys.md a0.fJudge = kj
  generalize spec_NoKeys.md a0.fJudge = nj
  generalize spec_l1In.md a0.fWait 1 500 = lw
  have hw : (a0.fWait != 0) = !(a0.fWait == 0) := rfl
  rw [hw]
  generalize (a0.fWait == 0) = w0
  generalize a0.fFrozen = fz
  intro hk
  cases b1; · rfl
  cases b2; · rfl
  cases b3; · rfl
  cases b4; · rfl
  cases b5; · rfl
  cases b6; · rfl
  cases b7; · rfl
  cases b8; rotate_left; · rfl
  cases b9; · rfl
  cases b10; · rfl
  revert hk
  revert kh nh kj nj lw w0 fz
  decide
end impl_IsHead
/-! impl.KeysInts -/
namespace impl_KeysInts
noncomputable def F (x0 : RKeys) : Ans := (bif (lim (((2 : Int) + (x0.fList.length : Int)) * 8)) then ret (([[L.int x0.fNeed], [L.int (x0.fList.length : Int)]] ++ x0.fList) : List (List L)) else none)
def pats : List Pat := [.agg [.sl 3, .int .i64]]
def res : RP := .one (.fr 3)
noncomputable abbrev E : Env := { T := assoc Tab, G := conG [], nt := 12 }
set_option maxRecDepth 100000
theorem run_eq (n : Nat) (ls : List L) : runF E (fun _ => []) Try.f272 res n (initS pats ls) = F (RKeys.dec ls) := by kernel_rfl
noncomputable def md (a0 : MKeys) : List Int := ([a0.fNeed, (a0.fList.length : Int)] ++ a0.fList)
def gd (a0 : MKeys) : Prop := (MKeys.Sm (2 ^ 21) a0)
def acc (ls : List L) : RKeys := (RKeys.dec ls)
noncomputable def R : RKeys → Option (List (List L)) := RR gd md
theorem R_eq {a0} (h : gd a0) : R (MKeys.r a0) = some ((md a0).map iRow) := RR_eq (a := a0) h
noncomputable def con : Con := CN pats res acc R
theorem okF (a0 : MKeys) (hg : gd a0) : F (MKeys.r a0) = ret (((md a0).map iRow) : List (List L)) := by
  unfold gd at hg
  have H0 := hg
  unfold F md
  try simp only [S0, MKeys.rs]
  refine yes_ret (by
      have := (H0).1
      refine lim_t ?_
      try simp (disch := omega) only [LN, wi]
      first | omega | (simp; done) | (simp; omega)) ?_
  all_goals first | rfl | (simp only [S0, MKeys.rs]; done) | (simp only [MP]; rfl) | (simp only [S0, MKeys.rs, MP]; first | done | rfl)
theorem valid_ : Valid Try.prog Ev 272 con := VV (run := fun _ x => F x) mix tab_ok .nil Try.func272 (by kernel_rfl) run_eq (fun _ a _ _ hg => ⟨0, okF a hg⟩)
theorem len (a0 : MKeys) : (md a0).length = 2 + a0.fList.length := by simp [md]; omega
theorem br (a0 : MKeys) : md a0 = spec_KeysInts.md a0 := by
  unfold md spec_KeysInts.md
  first
  | (simp only [id]; done)
  | (simp only [id]; rfl)
  | rfl
end impl_KeysInts
/-! impl.Mod -/
namespace impl_Mod
noncomputable def F (x0 : Int) (x1 : Int) : Ans := (call (impl_InRange.R (x1, 1, 1000000000000)) fun v1 => (bif (!v1) then ret (0 : Int) else (bif (decide (x1 = 0)) then none else (bif (decide (x1 = 0)) then none else ret ((Int.tmod (IntKind.i64.wrap ((Int.tmod x0 x1) + x1)) x1) : Int)))))
def pats : List Pat := [.rd (.int .i64), .rd (.int .i64)]
def res : RP := .one (.rd (.int .i64))
noncomputable abbrev E : Env := { T := assoc Tab, G := conG [(181, impl_InRange.con)], nt := 15 }
set_option maxRecDepth 100000
theorem run_eq (n : Nat) (ls : List L) : runF E (fun _ => []) Try.f284 res n (initS pats ls) = F (ls.headD .hole).toInt ((dropT 1 ls).headD .hole).toInt := by kernel_rfl
noncomputable def md (a0 : Int) (a1 : Int) : Int := (bif (!(impl_InRange.md a1 1 1000000000000)) then (0 : Int) else ((Int.tmod (IntKind.i64.wrap ((Int.tmod a0 a1) + a1)) a1) : Int))
def gd (a0 : Int) (a1 : Int) : Prop := True
def acc (ls : List L) : Int × Int := ((ls.headD .hole).toInt, ((dropT 1 ls).headD .hole).toInt)
noncomputable def R : (Int × Int) → Option Int := RR (p2 gd) (u2 md)
theorem R_eq {a0} {a1} (h : gd a0 a1) : R (a0, a1) = some (md a0 a1) := RR_eq (a := (a0, a1)) h
noncomputable def con : Con := CN pats res acc R
theorem okF (a0 : Int) (a1 : Int) (hg : gd a0 a1) : F a0 a1 = ret ((md a0 a1) : Int) := by
  unfold F md
  try simp only [S0]
  refine call_to (impl_InRange.md a1 1 1000000000000) (impl_InRange.R_eq (a0 := a1) (a1 := 1) (a2 := 1000000000000) trivial) ?_
  refine bif_out ret (fun _ => rfl) (fun c1 => ?_)
  have dc1 := c1
  try simp only [DC] at dc1
  have Dc1 := c1
  try simp [impl_InRange.md] at Dc1
  refine no_ret (by
      refine decide_eq_false ?_
      try simp (disch := omega) only [LN, wi]
      first | omega | (simp; done) | (simp; omega)) ?_
  refine no_ret (by
      refine decide_eq_false ?_
      try simp (disch := omega) only [LN, wi]
      first | omega | (simp; done) | (simp; omega)) ?_
  all_goals first | rfl | (simp only [S0, MP]; first | done | rfl)
theorem valid_ : Valid Try.prog Ev 284 con := VV (run := fun _ x => F x.1 x.2) mix tab_ok (.cons impl_InRange.valid_ .nil) Try.func284 (by kernel_rfl) run_eq (fun _ a _ _ hg => ⟨0, okF a.1 a.2 hg⟩)
theorem br (a0 : Int) (a1 : Int) : md a0 a1 = spec_Mod.md a0 a1 := by
  unfold md spec_Mod.md
  first
  | (simp only [impl_InRange.br]; done)
  | (simp only [impl_InRange.br]; rfl)
  | rfl
end impl_Mod
/-! impl.Hash -/
namespace impl_Hash
inductive Pt where
  | p0 (a : Int) (b : List (List L)) (c : Int) (d : Int)
def pid : Pt → Nat
  | .p0 .. => 3
def pvs : Pt → List V
  | .p0 a b c d => [.int .i64 a, .sl none 3 b, .int .i64 c, .int .i64 d]
def phs : Pt → List Root
  | .p0 a b c d => []
noncomputable def step (J : Pt → Ans) : Pt → Ans
  | .p0 a b c d => (bif (decide (d < c)) then (bif (decide ((0 : Int) ≤ d)) then (bif (decide (d < (b.length : Int))) then (call (impl_Mod.R ((iAt b (Int.toNat d)), 2147483647)) fun v1 => J (.p0 (Int.tmod (IntKind.i64.wrap ((IntKind.i64.wrap ((IntKind.i64.wrap (a * 1000003)) + v1)) + 13)) 2147483647) b c (IntKind.i64.wrap (d + 1)))) else none) else none) else ret (a : Int))
noncomputable def start (J : Pt → Ans) (x0 : List (List L)) : Ans := J (.p0 11 x0 (x0.length : Int) 0)
def live : Nat → Live := fun i => match i with | 3 => [(3, none), (6, none), (7, none), (8, none)] | _ => []
def pats : List Pat := [.rd (.sl 3)]
def res : RP := .one (.rd (.int .i64))
noncomputable abbrev E : Env := { T := assoc Tab, G := conG [(284, impl_Mod.con)], nt := 21 }
set_option maxRecDepth 100000
theorem step_eq (I : Heads) (p : Pt) : enterC E live I (pid p) (bodyOf Try.f271) (stOf (live (pid p)) (pvs p) (phs p)) (doneK E Try.f271 res) = step (fun q => I (pid q) (pvs q) (phs q)) p := by
  cases p <;> kernel_rfl
theorem start_eq (I : Heads) (ls : List L) : runC E live I (bodyOf Try.f271) (initS pats ls) (doneK E Try.f271 res) = start (fun q => I (pid q) (pvs q) (phs q)) (ls.headD .hole).toSl := by kernel_rfl
theorem run_eq (n : Nat) (ls : List L) : runF E live Try.f271 res n (initS pats ls) = start (iter step n) (ls.headD .hole).toSl := runF_iter (id := pid) (vs := pvs) (hs := phs) (step := step) (start := fun J => start J (ls.headD .hole).toSl) step_eq (fun I => start_eq I ls) n
noncomputable def md (a0 : List Int) : Int := (eachM (S := Int) (β := Int) (fun (y1 : Int) (s3 : Int) => (.inl (Int.tmod (IntKind.i64.wrap ((IntKind.i64.wrap ((IntKind.i64.wrap (s3 * 1000003)) + (impl_Mod.md y1 2147483647))) + 13)) 2147483647))) (fun (s3 : Int) => (s3 : Int)) a0 11)
def gd (a0 : List Int) : Prop := (SmL (2 ^ 43) (fun y : Int => True) a0)
def acc (ls : List L) : List (List L) := (ls.headD .hole).toSl
noncomputable def R : (List (List L)) → Option Int := RR gd md
theorem R_eq {a0} (h : gd a0) : R (a0.map iRow) = some (md a0) := RR_eq (a := a0) h
noncomputable def con : Con := CN pats res acc R
theorem okF (a0 : List Int) (hg : gd a0) : ∃ n, start (iter step n) (a0.map iRow) = ret ((md a0) : Int) := by
  unfold gd at hg
  have H0 := hg
  unfold start md
  try simp only [S0]
  have Bh2 : a0.length ≤ maxLen := (by
      have := (H0).1
      try simp only [maxLen] at *
      omega)
  refine ex_eq (out := ret) (loopM_eachM (z := 0)) ?_
  refine ex_pt (p := Pt.p0 11 (a0.map iRow) (a0.length : Int) 0) (by first | rfl | (simp only [S0, MP]; done) | (simp only [MP]; rfl)) ?_
  refine loopM_ok (pt := fun (i1 : Nat) (s3 : Int) => Pt.p0 s3 (a0.map iRow) (a0.length : Int) (i1 : Int)) (s := (11 : Int)) (out := ret) (fun _ _ => True) (fun J i1 s3 h2 hih2 => ?_) (fun s3 hih2 => ?_) trivial
  · simp only [step, S0]
    have bb_ := Bh2
    simp only [maxLen] at bb_
    have := (H0).1
    refine Rnd.yes (by apply decide_eq_true; omega) ?_
    refine Rnd.yes zle_dec ?_
    refine Rnd.yes (lt_dec h2) ?_
    refine Rnd.call_to (impl_Mod.md (a0.getD i1 0) 2147483647) (impl_Mod.R_eq (a0 := (a0.getD i1 0)) (a1 := 2147483647) trivial) ?_
    refine Rnd.inl trivial ?_
    rw [wrap_succ h2 Bh2]
    all_goals first | rfl | (simp only [S0, MP]; first | done | rfl)
  · simp only [step, S0]
    have := (H0).1
    refine ex_no (by apply decide_eq_false; omega) ?_
    refine ⟨0, ?_⟩
    all_goals first | rfl | (simp only [S0, MP]; first | done | rfl)
theorem valid_ : Valid Try.prog Ev 271 con := VV (run := fun n x => start (iter step n) x) mix tab_ok (.cons impl_Mod.valid_ .nil) Try.func271 (by kernel_rfl) run_eq (fun _ a _ _ hg => okF a hg)
theorem br (a0 : List Int) : md a0 = spec_Hash.md a0 := by
  unfold md spec_Hash.md
  first
  | (simp only [impl_Mod.br]; done)
  | (simp only [impl_Mod.br]; rfl)
  | rfl
end impl_Hash
/-! impl.ZoneOf -/
namespace impl_ZoneOf
noncomputable def F (x0 : RKeys) (x1 : Int) : Ans := (call (impl_KeysInts.R x0) fun v1 => (bif (lim (((2 : Int) + (v1.length : Int)) * 8)) then (call (impl_Hash.R ([[L.int 239], [L.int x1]] ++ v1)) fun v2 => ret (v2 : Int)) else none))
def pats : List Pat := [.agg [.sl 3, .int .i64], .rd (.int .i64)]
def res : RP := .one (.rd (.int .i64))
noncomputable abbrev E : Env := { T := assoc Tab, G := conG [(272, impl_KeysInts.con), (271, impl_Hash.con)], nt := 11 }
set_option maxRecDepth 100000
theorem run_eq (n : Nat) (ls : List L) : runF E (fun _ => []) Try.f250 res n (initS pats ls) = F (RKeys.dec ls) ((dropT 2 ls).headD .hole).toInt := by kernel_rfl
noncomputable def md (a0 : MKeys) (a1 : Int) : Int := ((impl_Hash.md ([239, a1] ++ (impl_KeysInts.md a0))) : Int)
def gd (a0 : MKeys) (a1 : Int) : Prop := (MKeys.Sm (2 ^ 21) a0)
def acc (ls : List L) : RKeys × Int := ((RKeys.dec ls), ((dropT 2 ls).headD .hole).toInt)
noncomputable def R : (RKeys × Int) → Option Int := RR (p2 gd) (u2 md)
theorem R_eq {a0} {a1} (h : gd a0 a1) : R ((MKeys.r a0), a1) = some (md a0 a1) := RR_eq (a := (a0, a1)) h
noncomputable def con : Con := CN pats res acc R
theorem okF (a0 : MKeys) (a1 : Int) (hg : gd a0 a1) : F (MKeys.r a0) a1 = ret ((md a0 a1) : Int) := by
  unfold gd at hg
  have H0 := hg
  unfold F md
  try simp only [S0]
  refine call_to ((impl_KeysInts.md a0).map iRow) (impl_KeysInts.R_eq (a0 := a0) H0) ?_
  try simp only [S0]
  refine yes_ret (by
      have := impl_KeysInts.len a0
      have := (H0).1
      refine lim_t ?_
      try simp (disch := omega) only [LN, wi]
      first | omega | (simp; done) | (simp; omega)) ?_
  refine call_to (impl_Hash.md ([239, a1] ++ (impl_KeysInts.md a0))) ?_ ?_
  · have R_ := impl_Hash.R_eq (a0 := ([239, a1] ++ (impl_KeysInts.md a0))) ⟨(by
        have := impl_KeysInts.len a0
        have := (H0).1
        try simp (disch := omega) only [LN, wi]
        first | omega | (simp; done) | (simp; omega)), fun _ _ => trivial⟩
    first | exact R_ | (simp only [MP, S0] at R_ ⊢; first | exact R_ | (rw [← R_]; rfl))
  all_goals first | rfl | (simp only [S0, MP]; first | done | rfl)
theorem valid_ : Valid Try.prog Ev 250 con := VV (run := fun _ x => F x.1 x.2) mix tab_ok (.cons impl_KeysInts.valid_ (.cons impl_Hash.valid_ .nil)) Try.func250 (by kernel_rfl) run_eq (fun _ a _ _ hg => ⟨0, okF a.1 a.2 hg⟩)
theorem br (a0 : MKeys) (a1 : Int) : md a0 a1 = spec_ZoneOf.md a0 a1 := by
  unfold md spec_ZoneOf.md
  first
  | (simp only [impl_KeysInts.br, impl_Hash.br]; done)
  | (simp only [impl_KeysInts.br, impl_Hash.br]; rfl)
  | rfl
end impl_ZoneOf
/-! impl.bit -/
namespace impl_bit
noncomputable def F (x0 : Bool) : Ans := (bif x0 then ret (1 : Int) else ret (0 : Int))
def pats : List Pat := [.rd (.bool)]
def res : RP := .one (.rd (.int .i64))
noncomputable abbrev E : Env := { T := assoc Tab, G := conG [], nt := 4 }
set_option maxRecDepth 100000
theorem run_eq (n : Nat) (ls : List L) : runF E (fun _ => []) Try.f287 res n (initS pats ls) = F (ls.headD .hole).toBool := by kernel_rfl
noncomputable def md (a0 : Bool) : Int := (bif a0 then (1 : Int) else (0 : Int))
def gd (a0 : Bool) : Prop := True
def acc (ls : List L) : Bool := (ls.headD .hole).toBool
noncomputable def R : Bool → Option Int := RR gd md
theorem R_eq {a0} (h : gd a0) : R a0 = some (md a0) := RR_eq (a := a0) h
noncomputable def con : Con := CN pats res acc R
theorem okF (a0 : Bool) (hg : gd a0) : F a0 = ret ((md a0) : Int) := by
  unfold F md
  try simp only [S0]
  refine bif_out ret (fun _ => rfl) (fun _ => rfl)
theorem valid_ : Valid Try.prog Ev 287 con := VV (run := fun _ x => F x) mix tab_ok .nil Try.func287 (by kernel_rfl) run_eq (fun _ a _ _ hg => ⟨0, okF a hg⟩)
end impl_bit
namespace slices_Grow_Sint_int
set_option maxHeartbeats 1000000 in
set_option maxRecDepth 100000 in
open Go.RowKit in
theorem calls0 (b : Option Addr) (w : World) : Calls Try.prog 294 #[.slice b 0 0, .int .i64 0] w fun e w' => e = .returned (.slice b 0 0) ∧ w' = w := by
  go_enter Try.func294, Try.ntmps294
  go_wp2
  go_ret
  exact ⟨rfl, rfl⟩
theorem size3 : Try.t3.size = 1 := by kernel_rfl
theorem bytes3 : Try.t3.bytes = 8 := by kernel_rfl
set_option maxHeartbeats 1000000 in
set_option maxRecDepth 100000 in
open Go.RowKit in
theorem calls1 (b : Option Addr) (n : Nat) (w : World) (h0 : 0 < n) (h1 : n * 8 ≤ 140737488355328) : Calls Try.prog 294 #[.slice b 0 0, .int .i64 n] w fun e w' => e = .returned (.slice (some ⟨w.heap.size, 0, none⟩) 0 (grownCap w n 0 3)) ∧ w' = (w.drew.alloc (.cells (Builtin.zeroCells #[.int .i64 0] n ++ Builtin.zeroCells #[.int .i64 0] (grownCap w n 0 3 - n)) 3)) := by
  have hp : (0 : Int) < n := by omega
  have hnn : ¬ ((n : Int) < 0) := by omega
  have hold : (Builtin.firstCells Try.t3.size 0 (.slice b 0 0)).run Try.prog w.drew = .ok ([] : List Value).toArray w.drew := by
    cases b with
    | none => exact run_firstCells_none _ _ _ _ _
    | some b => exact run_firstCells_some _ _ _ _ _ _ [] (by simp) (fun j v hj => by simp at hj)
  have H := fun ty => Lib.run_append_grow_zeros (P := Try.prog) w 121 3 ty 3 Try.t3 (.int .i64 0) .i64 .i64 (by kernel_rfl) (by kernel_rfl) (by kernel_rfl) (by kernel_rfl) b 0 0 [] hold n h0 (by rw [size3]; omega) (by omega) (by omega) (by rw [bytes3]; omega) (by
    rw [Nat.zero_add, nextslicecap_zero h0, bytes3]; omega)
  simp only [Nat.zero_add, Array.empty_append] at H
  have H2 := Lib.hid H
  clear H hold
  go_enter Try.func294, Try.ntmps294
  go_wp2_with (at_builtin; refine Lib.wpList_append_run _ rfl _ _ _ _ rfl _ _ rfl rfl _ _ (H2.out _) ?_)
  go_ret
  exact ⟨rfl, rfl⟩
noncomputable def md (_ : Int) : List Int := []
noncomputable def R (x0 : Int) : Option (List (List L)) := bif decide (0 ≤ x0) && decide (x0 * 8 ≤ 140737488355328) then some [] else none
theorem R_eq {a0 : Int} (h : 0 ≤ a0 ∧ a0 * 8 ≤ 140737488355328) : R a0 = some [] := by simp [R, h.1, h.2]
noncomputable def sem : List L → Option (List L)
  | [y0] => (R y0.toInt).map RT.enc
  | _ => none
noncomputable def con : Con := ⟨[.nil, .rd (.int .i64)], .one (.fr 3), sem⟩
theorem cells3 : Ev.cells 3 = [.int .i64] := by kernel_rfl
theorem valid_ : Valid Try.prog Ev 294 con := by
  refine valid_row ⟨Try.f294, Try.func294, by kernel_rfl, by kernel_rfl⟩ rfl fun ls r w vs Z hs hf => ?_
  simp only [con] at hs
  unfold sem at hs
  split at hs
  · rename_i y
    obtain ⟨v, hv, hq⟩ := map_some hs
    unfold R at hv
    cases hc : (decide (0 ≤ y.toInt) && decide (y.toInt * 8 ≤ 140737488355328)) <;> simp only [hc, cond_true, cond_false] at hv
    · cases hv
    injection hv with hv
    subst hv
    subst hq
    simp only [Bool.and_eq_true, decide_eq_true_eq] at hc
    cases hf with
    | cons h1 ht =>
      cases ht with
      | cons h2 ht =>
        cases ht
        obtain ⟨b, rfl⟩ := (show V0 Ev.cells w (A0 Z w) .nil _ from h1)
        have e2 : _ = Value.int .i64 y.toInt := h2
        subst e2
        obtain ⟨n, hn⟩ : ∃ n : Nat, y.toInt = n := ⟨y.toInt.toNat, by omega⟩
        rw [hn] at hc ⊢
        rcases Nat.eq_zero_or_pos n with h0 | h0
        · subst h0
          exact (calls0 b w).mono fun e w' ⟨h3, h4⟩ => ⟨_, fun _ => False, h3, by rw [h4]; exact Fr.refl _ _, fun b hb => hb.elim, .nil _ _ _ _ rfl⟩
        · refine (calls1 b n w h0 (by omega)).mono fun e w' ⟨h3, h4⟩ => ⟨_, fun b => b = w.heap.size, h3, ?_, fun b hb => ?_, ?_⟩
          · rw [h4]; exact ((Fr.refl w _).drew).alloc _
          · subst hb; rw [h4]; simp
          · have hge := grownCap_ge w n 0 3
            have hle : grownCap w n 0 3 ≤ maxLen := grownCap_le_maxLen w n 0 3 (by simp only [maxLen]; omega)
            rw [h4]
            refine .sl _ 3 0 _ w.heap.size 3 _ _ (fun _ _ => Go.undef) (fun _ _ _ => False) rfl (Nat.zero_le _) hle (heap_alloc_new w.drew _) ?_ rfl (fun _ _ _ h => h.elim) (fun _ _ _ _ _ h => h.elim) (fun i j k hi => by omega) (fun i j k hi => by omega)
            rw [cells3]
            simp only [Array.size_append, size_zeroCells, List.length_singleton]
            simp
            omega
  · cases hs
end slices_Grow_Sint_int
/-! slices.Concat[[]int,int] -/
namespace slices_Concat_Sint_int
inductive Pt where
  | p0 (a : List (List L)) (b : Int) (c : List (List L)) (d : Int) (e : Int)
  | p1 (a : List (List L)) (b : Int) (c : Int) (d : List (List L))
def pid : Pt → Nat
  | .p0 .. => 3
  | .p1 .. => 11
def pvs : Pt → List V
  | .p0 a b c d e => [.sl none 121 a, .int .i64 b, .sl none 121 c, .int .i64 d, .int .i64 e]
  | .p1 a b c d => [.own 0, .sl none 121 a, .int .i64 b, .int .i64 c]
def phs : Pt → List Root
  | .p0 a b c d e => []
  | .p1 a b c d => [.row 3 d]
noncomputable def step (J : Pt → Ans) : Pt → Ans
  | .p0 a b c d e => (bif (decide (e < d)) then (bif (decide ((0 : Int) ≤ e)) then (bif (decide (e < (c.length : Int))) then (bif (decide ((IntKind.i64.wrap (b + ((lAt c (Int.toNat e)).length : Int))) < 0)) then none else J (.p0 a (IntKind.i64.wrap (b + ((lAt c (Int.toNat e)).length : Int))) c d (IntKind.i64.wrap (e + 1)))) else none) else none) else (call (slices_Grow_Sint_int.R b) fun v1 => J (.p1 a (a.length : Int) 0 v1)))
  | .p1 a b c d => (bif (decide (c < b)) then (bif (decide ((0 : Int) ≤ c)) then (bif (decide (c < (a.length : Int))) then (bif (lim (((d.length : Int) + ((lAt a (Int.toNat c)).length : Int)) * 8)) then J (.p1 a b (IntKind.i64.wrap (c + 1)) (d ++ (lAt a (Int.toNat c)))) else none) else none) else none) else ret (d : List (List L)))
noncomputable def start (J : Pt → Ans) (x0 : List (List L)) : Ans := J (.p0 x0 0 x0 (x0.length : Int) 0)
def live : Nat → Live := fun i => match i with | 3 => [(0, none), (3, none), (9, none), (10, none), (11, none)] | 11 => [(6, none), (25, none), (26, none), (27, none)] | _ => []
def pats : List Pat := [.rd (.sl 121)]
def res : RP := .one (.fr 3)
noncomputable abbrev E : Env := { T := assoc Tab, G := conG [(294, slices_Grow_Sint_int.con)], nt := 36 }
set_option maxRecDepth 100000
theorem step_eq (I : Heads) (p : Pt) : enterC E live I (pid p) (bodyOf Try.f286) (stOf (live (pid p)) (pvs p) (phs p)) (doneK E Try.f286 res) = step (fun q => I (pid q) (pvs q) (phs q)) p := by
  cases p <;> kernel_rfl
theorem start_eq (I : Heads) (ls : List L) : runC E live I (bodyOf Try.f286) (initS pats ls) (doneK E Try.f286 res) = start (fun q => I (pid q) (pvs q) (phs q)) (ls.headD .hole).toSl := by kernel_rfl
theorem run_eq (n : Nat) (ls : List L) : runF E live Try.f286 res n (initS pats ls) = start (iter step n) (ls.headD .hole).toSl := runF_iter (id := pid) (vs := pvs) (hs := phs) (step := step) (start := fun J => start J (ls.headD .hole).toSl) step_eq (fun I => start_eq I ls) n
noncomputable def md (a0 : List (List Int)) : List Int := a0.flatten
def gd (a0 : List (List Int)) : Prop := a0.length ≤ 8 ∧ ∀ x ∈ a0, x.length ≤ 2 ^ 40
def acc (ls : List L) : List (List L) := (ls.headD .hole).toSl
noncomputable def R : (List (List L)) → Option (List (List L)) := RR gd md
theorem R_eq {a0} (h : gd a0) : R (a0.map (lRow iRow)) = some ((md a0).map iRow) := RR_eq (a := a0) h
noncomputable def con : Con := CN pats res acc R
theorem okF (a0 : List (List Int)) (hg : gd a0) : ∃ n, start (iter step n) (a0.map (lRow iRow)) = ret (((md a0).map iRow) : List (List L)) := by
  obtain ⟨hl, hx⟩ := hg
  have hs : ∀ i, i ≤ a0.length → ((a0.take i).map List.length).sum ≤ i * 2 ^ 40 := by
    intro i
    induction i with
    | zero => intro _; simp
    | succ i ih =>
      intro hi
      rw [List.take_succ_eq_append_getElem (by omega)]
      have h1 := hx a0[i] (List.getElem_mem _)
      have h2 := ih (by omega)
      simp only [List.map_append, List.map_cons, List.map_nil, List.sum_append, List.sum_cons, List.sum_nil]
      omega
  have hstep : ∀ i (h : i < a0.length), ((a0.take (i + 1)).map List.length).sum = ((a0.take i).map List.length).sum + a0[i].length := by
    intro i hi
    rw [List.take_succ_eq_append_getElem (by omega)]
    simp only [List.map_append, List.map_cons, List.map_nil, List.sum_append, List.sum_cons, List.sum_nil]
    omega
  have hf : ∀ i, (a0.take i).flatten.length = ((a0.take i).map List.length).sum := fun i => List.length_flatten
  have second : ∀ k i, i + k = a0.length → ∃ n, iter step n (Pt.p1 (a0.map (lRow iRow)) (a0.length : Int) (i : Int) ((a0.take i).flatten.map iRow)) = ret (a0.flatten.map iRow : List (List L)) := by
    intro k
    induction k with
    | zero =>
      intro i hi
      obtain rfl : i = a0.length := by omega
      refine ⟨1, ?_⟩
      show step (iter step 0) (Pt.p1 _ _ _ _) = _
      simp only [step]
      refine no_ret (by simp) ?_
      rw [List.take_length]
    | succ k ih =>
      intro i hi
      obtain ⟨n, hn⟩ := ih (i + 1) (by omega)
      refine ⟨n + 1, ?_⟩
      show step (iter step n) (Pt.p1 _ _ _ _) = _
      have hlt : i < a0.length := by omega
      have b1 := hs (i + 1) (by omega)
      have b2 := hstep i hlt
      simp only [step, List.length_map, toNat_nat, lAt_getD]
      refine yes_ret (by simp; omega) (yes_ret (by simp) (yes_ret (by simp; omega) (yes_ret (lim_t ?_) ?_)))
      · rw [getD_lt hlt, hf]; omega
      · rw [wrap_succ hlt (by simp only [maxLen]; omega), getD_lt hlt, ← List.map_append]
        have e : (a0.take i).flatten ++ a0[i] = (a0.take (i + 1)).flatten := by
          rw [List.take_succ_eq_append_getElem (by omega)]
          simp only [List.flatten_append, List.flatten_cons, List.flatten_nil, List.append_nil]
        rw [e]; exact hn
  have first : ∀ k i, i + k = a0.length → ∃ n, iter step n (Pt.p0 (a0.map (lRow iRow)) ((((a0.take i).map List.length).sum : Nat) : Int) (a0.map (lRow iRow)) (a0.length : Int) (i : Int)) = ret (a0.flatten.map iRow : List (List L)) := by
    intro k
    induction k with
    | zero =>
      intro i hi
      obtain rfl : i = a0.length := by omega
      obtain ⟨n, hn⟩ := second a0.length 0 (by omega)
      refine ⟨n + 1, ?_⟩
      show step (iter step n) (Pt.p0 _ _ _ _ _) = _
      have b1 := hs a0.length (by omega)
      simp only [step]
      refine no_ret (by simp) (call_to [] (slices_Grow_Sint_int.R_eq ⟨by omega, by omega⟩) ?_)
      simpa using hn
    | succ k ih =>
      intro i hi
      obtain ⟨n, hn⟩ := ih (i + 1) (by omega)
      refine ⟨n + 1, ?_⟩
      show step (iter step n) (Pt.p0 _ _ _ _ _) = _
      have hlt : i < a0.length := by omega
      have b1 := hs (i + 1) (by omega)
      have b2 := hstep i hlt
      simp only [step, List.length_map, toNat_nat, lAt_getD, getD_lt hlt]
      have e : IntKind.i64.wrap (((((a0.take i).map List.length).sum : Nat) : Int) + (a0[i].length : Int)) = ((((a0.take (i + 1)).map List.length).sum : Nat) : Int) := by
        rw [Go.IntWalk.i64_in _ (by omega)]; omega
      rw [e]
      refine yes_ret (by simp; omega) (yes_ret (by simp) (yes_ret (by simp; omega) (no_ret (by simp) ?_)))
      rw [wrap_succ hlt (by simp only [maxLen]; omega)]
      exact hn
  unfold md
  obtain ⟨n, hn⟩ := first a0.length 0 (by omega)
  refine ⟨n, ?_⟩
  unfold start
  simpa using hn
theorem valid_ : Valid Try.prog Ev 286 con := VV (run := fun n x => start (iter step n) x) mix tab_ok (.cons slices_Grow_Sint_int.valid_ .nil) Try.func286 (by kernel_rfl) run_eq (fun _ a _ _ hg => okF a hg)
theorem len (a0 : List (List Int)) : (md a0).length = (a0.map List.length).sum := by simp [md]
end slices_Concat_Sint_int
/-! impl.HeadInts -/
namespace impl_HeadInts
noncomputable def F (x0 : RHead) : Ans := (call (impl_KeysInts.R x0.fKeys) fun v1 => (call (impl_KeysInts.R x0.fHeirs) fun v2 => (call (impl_KeysInts.R x0.fJudge) fun v3 => (call (impl_bit.R x0.fFrozen) fun v4 => (call (slices_Concat_Sint_int.R [[L.sl [[L.int x0.fZone], [L.int x0.fEpoch], [L.int x0.fKind], [L.int x0.fTime], [L.int x0.fUntil], [L.int x0.fCount], [L.int x0.fRoot], [L.int x0.fPrev]]], [L.sl v1], [L.sl v2], [L.sl [[L.int x0.fWait]]], [L.sl v3], [L.sl [[L.int v4]]]]) fun v5 => ret (v5 : List (List L)))))))
def pats : List Pat := [.agg [.int .i64, .int .i64, .int .i64, .int .i64, .int .i64, .int .i64, .int .i64, .int .i64, .sl 3, .int .i64, .sl 3, .int .i64, .int .i64, .sl 3, .int .i64, .bool]]
def res : RP := .one (.fr 3)
noncomputable abbrev E : Env := { T := assoc Tab, G := conG [(272, impl_KeysInts.con), (287, impl_bit.con), (286, slices_Concat_Sint_int.con)], nt := 38 }
set_option maxRecDepth 100000
theorem run_eq (n : Nat) (ls : List L) : runF E (fun _ => []) Try.f274 res n (initS pats ls) = F (RHead.dec ls) := by kernel_rfl
noncomputable def md (a0 : MHead) : List Int := (slices_Concat_Sint_int.md [[a0.fZone, a0.fEpoch, a0.fKind, a0.fTime, a0.fUntil, a0.fCount, a0.fRoot, a0.fPrev], (impl_KeysInts.md a0.fKeys), (impl_KeysInts.md a0.fHeirs), [a0.fWait], (impl_KeysInts.md a0.fJudge), [(impl_bit.md a0.fFrozen)]])
def gd (a0 : MHead) : Prop := (MHead.Sm (2 ^ 21) a0)
def acc (ls : List L) : RHead := (RHead.dec ls)
noncomputable def R : RHead → Option (List (List L)) := RR gd md
theorem R_eq {a0} (h : gd a0) : R (MHead.r a0) = some ((md a0).map iRow) := RR_eq (a := a0) h
noncomputable def con : Con := CN pats res acc R
theorem okF (a0 : MHead) (hg : gd a0) : F (MHead.r a0) = ret (((md a0).map iRow) : List (List L)) := by
  unfold gd at hg
  have H0 := hg
  unfold F md
  try simp only [S0, MHead.rs]
  refine call_to ((impl_KeysInts.md a0.fKeys).map iRow) (impl_KeysInts.R_eq (a0 := a0.fKeys) H0.1) ?_
  try simp only [S0, MHead.rs]
  refine call_to ((impl_KeysInts.md a0.fHeirs).map iRow) (impl_KeysInts.R_eq (a0 := a0.fHeirs) H0.2.1) ?_
  try simp only [S0, MHead.rs]
  refine call_to ((impl_KeysInts.md a0.fJudge).map iRow) (impl_KeysInts.R_eq (a0 := a0.fJudge) H0.2.2) ?_
  try simp only [S0, MHead.rs]
  refine call_to (impl_bit.md a0.fFrozen) (impl_bit.R_eq (a0 := a0.fFrozen) trivial) ?_
  refine call_to ((slices_Concat_Sint_int.md [[a0.fZone, a0.fEpoch, a0.fKind, a0.fTime, a0.fUntil, a0.fCount, a0.fRoot, a0.fPrev], (impl_KeysInts.md a0.fKeys), (impl_KeysInts.md a0.fHeirs), [a0.fWait], (impl_KeysInts.md a0.fJudge), [(impl_bit.md a0.fFrozen)]]).map iRow) ?_ ?_
  · have R_ := slices_Concat_Sint_int.R_eq (a0 := [[a0.fZone, a0.fEpoch, a0.fKind, a0.fTime, a0.fUntil, a0.fCount, a0.fRoot, a0.fPrev], (impl_KeysInts.md a0.fKeys), (impl_KeysInts.md a0.fHeirs), [a0.fWait], (impl_KeysInts.md a0.fJudge), [(impl_bit.md a0.fFrozen)]]) ⟨(by simp), (by
        have := impl_KeysInts.len a0.fKeys
        have := (H0.1).1
        have := impl_KeysInts.len a0.fHeirs
        have := (H0.2.1).1
        have := impl_KeysInts.len a0.fJudge
        have := (H0.2.2).1
        intro x_ hx_
        simp only [List.mem_cons, List.not_mem_nil, or_false] at hx_
        rcases hx_ with hx_ | hx_ | hx_ | hx_ | hx_ | hx_
        all_goals (subst hx_; first | omega | (simp only [LN]; omega)))⟩
    first | exact R_ | (simp only [MP, S0, MHead.rs] at R_ ⊢; first | exact R_ | (rw [← R_]; rfl))
  try simp only [S0, MHead.rs]
  all_goals first | rfl | (simp only [S0, MHead.rs]; done) | (simp only [MP]; rfl) | (simp only [S0, MHead.rs, MP]; first | done | rfl)
theorem valid_ : Valid Try.prog Ev 274 con := VV (run := fun _ x => F x) mix tab_ok (.cons impl_KeysInts.valid_ (.cons impl_bit.valid_ (.cons slices_Concat_Sint_int.valid_ .nil))) Try.func274 (by kernel_rfl) run_eq (fun _ a _ _ hg => ⟨0, okF a hg⟩)
theorem len (a0 : MHead) : (md a0).length = 16 + a0.fKeys.fList.length + a0.fHeirs.fList.length + a0.fJudge.fList.length := by unfold md; simp [slices_Concat_Sint_int.md, impl_KeysInts.len]; omega
theorem br (a0 : MHead) : md a0 = spec_HeadInts.md a0 := by
  rw [spec_HeadInts.md_form]
  unfold md slices_Concat_Sint_int.md
  simp only [impl_KeysInts.br, impl_bit.md, List.flatten_cons, List.flatten_nil, List.cons_append, List.nil_append, List.append_nil]
end impl_HeadInts
/-! impl.KeyedHash -/
namespace impl_KeyedHash
noncomputable def F (x0 : Int) (x1 : List (List L)) : Ans := (call (slices_Concat_Sint_int.R [[L.sl [[L.int x0]]], [L.sl x1], [L.sl [[L.int x0]]]]) fun v1 => (call (impl_Hash.R v1) fun v2 => ret (v2 : Int)))
def pats : List Pat := [.rd (.int .i64), .rd (.sl 3)]
def res : RP := .one (.rd (.int .i64))
noncomputable abbrev E : Env := { T := assoc Tab, G := conG [(286, slices_Concat_Sint_int.con), (271, impl_Hash.con)], nt := 13 }
set_option maxRecDepth 100000
theorem run_eq (n : Nat) (ls : List L) : runF E (fun _ => []) Try.f298 res n (initS pats ls) = F (ls.headD .hole).toInt ((dropT 1 ls).headD .hole).toSl := by kernel_rfl
noncomputable def md (a0 : Int) (a1 : List Int) : Int := ((impl_Hash.md (slices_Concat_Sint_int.md [[a0], a1, [a0]])) : Int)
def gd (a0 : Int) (a1 : List Int) : Prop := (SmL (2 ^ 40) (fun y : Int => True) a1)
def acc (ls : List L) : Int × List (List L) := ((ls.headD .hole).toInt, ((dropT 1 ls).headD .hole).toSl)
noncomputable def R : (Int × List (List L)) → Option Int := RR (p2 gd) (u2 md)
theorem R_eq {a0} {a1} (h : gd a0 a1) : R (a0, (a1.map iRow)) = some (md a0 a1) := RR_eq (a := (a0, a1)) h
noncomputable def con : Con := CN pats res acc R
theorem okF (a0 : Int) (a1 : List Int) (hg : gd a0 a1) : F a0 (a1.map iRow) = ret ((md a0 a1) : Int) := by
  unfold gd at hg
  have H1 := hg
  unfold F md
  try simp only [S0]
  refine call_to ((slices_Concat_Sint_int.md [[a0], a1, [a0]]).map iRow) ?_ ?_
  · have R_ := slices_Concat_Sint_int.R_eq (a0 := [[a0], a1, [a0]]) ⟨(by simp), (by
        have := (H1).1
        intro x_ hx_
        simp only [List.mem_cons, List.not_mem_nil, or_false] at hx_
        rcases hx_ with hx_ | hx_ | hx_
        all_goals (subst hx_; first | omega | (simp only [LN]; omega)))⟩
    first | exact R_ | (simp only [MP, S0] at R_ ⊢; first | exact R_ | (rw [← R_]; rfl))
  try simp only [S0]
  refine call_to (impl_Hash.md (slices_Concat_Sint_int.md [[a0], a1, [a0]])) (impl_Hash.R_eq (a0 := (slices_Concat_Sint_int.md [[a0], a1, [a0]])) ⟨(by
      have := slices_Concat_Sint_int.len [[a0], a1, [a0]]
      try simp only [LN] at this
      have := (H1).1
      try simp (disch := omega) only [LN, wi]
      first | omega | (simp; done) | (simp; omega)), fun _ _ => trivial⟩) ?_
  all_goals first | rfl | (simp only [S0, MP]; first | done | rfl)
theorem valid_ : Valid Try.prog Ev 298 con := VV (run := fun _ x => F x.1 x.2) mix tab_ok (.cons slices_Concat_Sint_int.valid_ (.cons impl_Hash.valid_ .nil)) Try.func298 (by kernel_rfl) run_eq (fun _ a _ _ hg => ⟨0, okF a.1 a.2 hg⟩)
theorem br (a0 : Int) (a1 : List Int) : md a0 a1 = spec_KeyedHash.md a0 a1 := by
  unfold md spec_KeyedHash.md
  first
  | (simp only [impl_Hash.br]; done)
  | (simp only [impl_Hash.br]; rfl)
  | rfl
end impl_KeyedHash
/-! impl.TagOf -/
namespace impl_TagOf
noncomputable def F (x0 : Int) (x1 : List (List L)) : Ans := (bif (lim (((1 : Int) + (x1.length : Int)) * 8)) then (call (impl_KeyedHash.R (x0, ([[L.int 223]] ++ x1))) fun v1 => ret (v1 : Int)) else none)
def pats : List Pat := [.rd (.int .i64), .rd (.sl 3)]
def res : RP := .one (.rd (.int .i64))
noncomputable abbrev E : Env := { T := assoc Tab, G := conG [(298, impl_KeyedHash.con)], nt := 10 }
set_option maxRecDepth 100000
theorem run_eq (n : Nat) (ls : List L) : runF E (fun _ => []) Try.f297 res n (initS pats ls) = F (ls.headD .hole).toInt ((dropT 1 ls).headD .hole).toSl := by kernel_rfl
noncomputable def md (a0 : Int) (a1 : List Int) : Int := ((impl_KeyedHash.md a0 ([223] ++ a1)) : Int)
def gd (a0 : Int) (a1 : List Int) : Prop := (SmL (2 ^ 39) (fun y : Int => True) a1)
def acc (ls : List L) : Int × List (List L) := ((ls.headD .hole).toInt, ((dropT 1 ls).headD .hole).toSl)
noncomputable def R : (Int × List (List L)) → Option Int := RR (p2 gd) (u2 md)
theorem R_eq {a0} {a1} (h : gd a0 a1) : R (a0, (a1.map iRow)) = some (md a0 a1) := RR_eq (a := (a0, a1)) h
noncomputable def con : Con := CN pats res acc R
theorem okF (a0 : Int) (a1 : List Int) (hg : gd a0 a1) : F a0 (a1.map iRow) = ret ((md a0 a1) : Int) := by
  unfold gd at hg
  have H1 := hg
  unfold F md
  try simp only [S0]
  refine yes_ret (by
      have := (H1).1
      refine lim_t ?_
      try simp (disch := omega) only [LN, wi]
      first | omega | (simp; done) | (simp; omega)) ?_
  refine call_to (impl_KeyedHash.md a0 ([223] ++ a1)) ?_ ?_
  · have R_ := impl_KeyedHash.R_eq (a0 := a0) (a1 := ([223] ++ a1)) ⟨(by
        have := (H1).1
        try simp (disch := omega) only [LN, wi]
        first | omega | (simp; done) | (simp; omega)), fun _ _ => trivial⟩
    first | exact R_ | (simp only [MP, S0] at R_ ⊢; first | exact R_ | (rw [← R_]; rfl))
  all_goals first | rfl | (simp only [S0, MP]; first | done | rfl)
theorem valid_ : Valid Try.prog Ev 297 con := VV (run := fun _ x => F x.1 x.2) mix tab_ok (.cons impl_KeyedHash.valid_ .nil) Try.func297 (by kernel_rfl) run_eq (fun _ a _ _ hg => ⟨0, okF a.1 a.2 hg⟩)
theorem br (a0 : Int) (a1 : List Int) : md a0 a1 = spec_TagOf.md a0 a1 := by
  unfold md spec_TagOf.md
  first
  | (simp only [impl_KeyedHash.br]; done)
  | (simp only [impl_KeyedHash.br]; rfl)
  | rfl
end impl_TagOf
/-! impl.IsSigBy -/
namespace impl_IsSigBy
noncomputable def F (x0 : MSig) (x1 : List (List L)) : Ans := (call (impl_isKey.R x0.fKey) fun v1 => (bif v1 then (call (impl_TagOf.R (x0.fKey, x1)) fun v2 => ret ((x0.fTag == v2) : Bool)) else ret (false : Bool)))
def pats : List Pat := [.agg [.int .i64, .int .i64], .rd (.sl 3)]
def res : RP := .one (.rd (.bool))
noncomputable abbrev E : Env := { T := assoc Tab, G := conG [(283, impl_isKey.con), (297, impl_TagOf.con)], nt := 17 }
set_option maxRecDepth 100000
theorem run_eq (n : Nat) (ls : List L) : runF E (fun _ => []) Try.f293 res n (initS pats ls) = F (MSig.dec ls) ((dropT 2 ls).headD .hole).toSl := by kernel_rfl
noncomputable def md (a0 : MSig) (a1 : List Int) : Bool := (bif (impl_isKey.md a0.fKey) then ((a0.fTag == (impl_TagOf.md a0.fKey a1)) : Bool) else (false : Bool))
def gd (a0 : MSig) (a1 : List Int) : Prop := (SmL (2 ^ 38) (fun y : Int => True) a1)
def acc (ls : List L) : MSig × List (List L) := ((MSig.dec ls), ((dropT 2 ls).headD .hole).toSl)
noncomputable def R : (MSig × List (List L)) → Option Bool := RR (p2 gd) (u2 md)
theorem R_eq {a0} {a1} (h : gd a0 a1) : R (a0, (a1.map iRow)) = some (md a0 a1) := RR_eq (a := (a0, a1)) h
noncomputable def con : Con := CN pats res acc R
theorem okF (a0 : MSig) (a1 : List Int) (hg : gd a0 a1) : F a0 (a1.map iRow) = ret ((md a0 a1) : Bool) := by
  unfold gd at hg
  have H1 := hg
  unfold F md
  try simp only [S0]
  refine call_to (impl_isKey.md a0.fKey) (impl_isKey.R_eq (a0 := a0.fKey) trivial) ?_
  refine bif_out ret (fun c1 => ?_) (fun _ => rfl)
  refine call_to (impl_TagOf.md a0.fKey a1) (impl_TagOf.R_eq (a0 := a0.fKey) (a1 := a1) (H1.mono (by decide) (fun x hx => trivial))) ?_
  all_goals first | rfl | (simp only [S0, MP]; first | done | rfl)
theorem valid_ : Valid Try.prog Ev 293 con := VV (run := fun _ x => F x.1 x.2) mix tab_ok (.cons impl_isKey.valid_ (.cons impl_TagOf.valid_ .nil)) Try.func293 (by kernel_rfl) run_eq (fun _ a _ _ hg => ⟨0, okF a.1 a.2 hg⟩)
theorem br (a0 : MSig) (a1 : List Int) : md a0 a1 = spec_IsSigBy.md a0 a1 := by
  unfold md spec_IsSigBy.md
  first
  | (simp only [impl_TagOf.br]; done)
  | (simp only [impl_TagOf.br]; rfl)
  | rfl
end impl_IsSigBy
/-! impl.CountSigs$1 -/
namespace impl_CountSigs_1
noncomputable def F (x0 : MSig) (x1 : List L) (x2 : List L) : Ans := (bif (x0.fKey == (iDec x1)) then (call (impl_IsSigBy.R (x0, (lDec x2))) fun v1 => ret (v1 : Bool)) else ret (false : Bool))
def pats : List Pat := [.agg [.int .i64, .int .i64], .ptr [.int .i64], .ptr [.sl 3]]
def res : RP := .one (.rd (.bool))
noncomputable abbrev E : Env := { T := assoc Tab, G := conG [(293, impl_IsSigBy.con)], nt := 14 }
set_option maxRecDepth 100000
theorem run_eq (n : Nat) (ls : List L) : runF E (fun _ => []) Try.f292 res n (initS pats ls) = F (MSig.dec ls) (padL 1 (dropT 2 ls)) (padL 1 (dropT 3 ls)) := by kernel_rfl
noncomputable def md (a0 : MSig) (a1 : Int) (a2 : List Int) : Bool := (bif (a0.fKey == a1) then ((impl_IsSigBy.md a0 a2) : Bool) else (false : Bool))
def gd (a0 : MSig) (a1 : Int) (a2 : List Int) : Prop := (SmL (2 ^ 38) (fun y : Int => True) a2)
def acc (ls : List L) : MSig × Int × List (List L) := ((MSig.dec ls), (iDec (padL 1 (dropT 2 ls))), (lDec (padL 1 (dropT 3 ls))))
noncomputable def R : (MSig × Int × List (List L)) → Option Bool := RR (p3 gd) (u3 md)
theorem R_eq {a0} {a1} {a2} (h : gd a0 a1 a2) : R (a0, a1, (a2.map iRow)) = some (md a0 a1 a2) := RR_eq (a := (a0, a1, a2)) h
noncomputable def con : Con := CN pats res acc R
theorem okF (a0 : MSig) (a1 : Int) (a2 : List Int) (p1 : List L) (p2 : List L) (e1 : a1 = (iDec p1)) (e2 : (a2.map iRow) = (lDec p2)) (hg : gd a0 a1 a2) : F a0 p1 p2 = ret ((md a0 a1 a2) : Bool) := by
  unfold gd at hg
  have H2 := hg
  unfold F md
  try simp only [S0, ← e1, ← e2]
  refine bif_out ret (fun c1 => ?_) (fun _ => rfl)
  refine call_to (impl_IsSigBy.md a0 a2) (impl_IsSigBy.R_eq (a0 := a0) (a1 := a2) H2) ?_
  all_goals first | rfl | (simp only [S0, ← e1, ← e2, MP]; first | done | rfl)
theorem okV (ls : List L) (a : MSig × Int × List Int) (e : acc ls = Im.im a) (hg : (p3 gd) a) : ∃ n : Nat, F (MSig.dec ls) (padL 1 (dropT 2 ls)) (padL 1 (dropT 3 ls)) = ret (Im.im ((u3 md) a)) := by
  have e0 : a.1 = (MSig.dec ls) := (congrArg (fun x => x.1) e.symm)
  have hn := okF a.1 a.2.1 a.2.2 (padL 1 (dropT 2 ls)) (padL 1 (dropT 3 ls)) (congrArg (fun x => x.2.1) e.symm) (congrArg (fun x => x.2.2) e.symm) hg
  refine ⟨0, ?_⟩
  rw [← e0]
  exact hn
theorem valid_ : Valid Try.prog Ev 292 con := VP (accr := fun ls => ((MSig.dec ls), (padL 1 (dropT 2 ls)), (padL 1 (dropT 3 ls)))) (run := fun _ x => F x.1 x.2.1 x.2.2) mix tab_ok (.cons impl_IsSigBy.valid_ .nil) Try.func292 (by kernel_rfl) run_eq (fun ls a _ e hg => okV ls a e hg)
end impl_CountSigs_1
/-! slices.IndexFunc[[]impl.Sig,impl.Sig] -/
namespace slices_IndexFunc_Simpl_Sig_impl_Sig__impl_CountSigs_1
inductive Pt where
  | p0 (a : List (List L)) (b : List L) (c : List L) (d : Int) (e : Int)
def pid : Pt → Nat
  | .p0 .. => 2
def pvs : Pt → List V
  | .p0 a b c d e => [.sl none 248 a, .fn 292 [.cptr none [.int .i64] b 0, .cptr none [.sl 3] c 0], .int .i64 d, .int .i64 e]
def phs : Pt → List Root
  | .p0 a b c d e => []
noncomputable def step (J : Pt → Ans) : Pt → Ans
  | .p0 a b c d e => (bif (decide (e < d)) then (bif (decide ((0 : Int) ≤ e)) then (bif (decide (e < (a.length : Int))) then (call (impl_CountSigs_1.R ((MSig.at a (Int.toNat e)), (iDec b), (lDec c))) fun v1 => (bif v1 then ret (e : Int) else J (.p0 a b c d (IntKind.i64.wrap (e + 1))))) else none) else none) else ret ((-1) : Int))
noncomputable def start (J : Pt → Ans) (x0 : List (List L)) (x1 : List L) (x2 : List L) : Ans := J (.p0 x0 x1 x2 (x0.length : Int) 0)
def live : Nat → Live := fun i => match i with | 2 => [(0, none), (1, none), (7, none), (8, none)] | _ => []
def pats : List Pat := [.rd (.sl 248), .fn 292 [[.int .i64], [.sl 3]]]
def res : RP := .one (.rd (.int .i64))
noncomputable abbrev E : Env := { T := assoc Tab, G := conG [(292, impl_CountSigs_1.con)], nt := 19 }
set_option maxRecDepth 100000
theorem step_eq (I : Heads) (p : Pt) : enterC E live I (pid p) (bodyOf Try.f296) (stOf (live (pid p)) (pvs p) (phs p)) (doneK E Try.f296 res) = step (fun q => I (pid q) (pvs q) (phs q)) p := by
  cases p <;> kernel_rfl
theorem start_eq (I : Heads) (ls : List L) : runC E live I (bodyOf Try.f296) (initS pats ls) (doneK E Try.f296 res) = start (fun q => I (pid q) (pvs q) (phs q)) (ls.headD .hole).toSl (padL 1 (dropT 1 ls)) (padL 1 (dropT 2 ls)) := by kernel_rfl
theorem run_eq (n : Nat) (ls : List L) : runF E live Try.f296 res n (initS pats ls) = start (iter step n) (ls.headD .hole).toSl (padL 1 (dropT 1 ls)) (padL 1 (dropT 2 ls)) := runF_iter (id := pid) (vs := pvs) (hs := phs) (step := step) (start := fun J => start J (ls.headD .hole).toSl (padL 1 (dropT 1 ls)) (padL 1 (dropT 2 ls))) step_eq (fun I => start_eq I ls) n
noncomputable def md (a0 : List MSig) (a1 : Int) (a2 : List Int) : Int := (eachI (S := Unit) (β := Int) (fun (i1 : Nat) (y1 : MSig) (s3 : Unit) => (bif (impl_CountSigs_1.md y1 a1 a2) then (.inr ((i1 : Int) : Int)) else (.inl ()))) (fun (s3 : Unit) => ((-1) : Int)) 0 a0 ())
def gd (a0 : List MSig) (a1 : Int) (a2 : List Int) : Prop := (SmL (2 ^ 21) (fun y : MSig => MSig.Sm (2 ^ 21) y) a0) ∧ (SmL (2 ^ 38) (fun y : Int => True) a2)
def acc (ls : List L) : List (List L) × Int × List (List L) := ((ls.headD .hole).toSl, (iDec (padL 1 (dropT 1 ls))), (lDec (padL 1 (dropT 2 ls))))
noncomputable def R : (List (List L) × Int × List (List L)) → Option Int := RR (p3 gd) (u3 md)
theorem R_eq {a0} {a1} {a2} (h : gd a0 a1 a2) : R ((a0.map MSig.row), a1, (a2.map iRow)) = some (md a0 a1 a2) := RR_eq (a := (a0, a1, a2)) h
noncomputable def con : Con := CN pats res acc R
theorem okF (a0 : List MSig) (a1 : Int) (a2 : List Int) (p1 : List L) (p2 : List L) (e1 : a1 = (iDec p1)) (e2 : (a2.map iRow) = (lDec p2)) (hg : gd a0 a1 a2) : ∃ n, start (iter step n) (a0.map MSig.row) p1 p2 = ret ((md a0 a1 a2) : Int) := by
  unfold gd at hg
  obtain ⟨H0, H2⟩ := hg
  unfold start md
  try simp only [S0, MSig.rs, ← e1, ← e2]
  have Bh2 : a0.length ≤ maxLen := (by
      have := (H0).1
      try simp only [maxLen] at *
      omega)
  refine ex_eq (out := ret) (loopM_eachI (z := MSig.zero)) ?_
  refine ex_pt (p := Pt.p0 (a0.map MSig.row) p1 p2 (a0.length : Int) 0) (by first | rfl | (simp only [S0, MSig.rs, ← e1, ← e2, MP]; done) | (simp only [MP]; rfl)) ?_
  refine loopM_ok (pt := fun (i1 : Nat) (s3 : Unit) => Pt.p0 (a0.map MSig.row) p1 p2 (a0.length : Int) (i1 : Int)) (s := (() : Unit)) (out := ret) (fun _ _ => True) (fun J i1 s3 h2 hih2 => ?_) (fun s3 hih2 => ?_) trivial
  · simp only [step, S0, MSig.rs, ← e1, ← e2]
    have bb_ := Bh2
    simp only [maxLen] at bb_
    have := (H0).1
    refine Rnd.yes (by apply decide_eq_true; omega) ?_
    refine Rnd.yes zle_dec ?_
    refine Rnd.yes (lt_dec h2) ?_
    refine Rnd.call_to (impl_CountSigs_1.md (a0.getD i1 MSig.zero) a1 a2) (impl_CountSigs_1.R_eq (a0 := (a0.getD i1 MSig.zero)) (a1 := a1) (a2 := a2) H2) ?_
    refine Rnd.bif (fun c4 => ?_) (fun c4 => ?_)
    · refine Rnd.inr ?_
      all_goals first | rfl | (simp only [S0, MSig.rs, ← e1, ← e2, MP]; first | done | rfl)
    · refine Rnd.inl trivial ?_
      rw [wrap_succ h2 Bh2]
      all_goals first | rfl | (simp only [S0, MSig.rs, ← e1, ← e2, MP]; first | done | rfl)
  · simp only [step, S0, MSig.rs, ← e1, ← e2]
    have := (H0).1
    refine ex_no (by apply decide_eq_false; omega) ?_
    refine ⟨0, ?_⟩
    all_goals first | rfl | (simp only [S0, MSig.rs, ← e1, ← e2, MP]; first | done | rfl)
theorem okV (ls : List L) (a : List MSig × Int × List Int) (e : acc ls = Im.im a) (hg : (p3 gd) a) : ∃ n : Nat, start (iter step n) ((ls.headD .hole).toSl) (padL 1 (dropT 1 ls)) (padL 1 (dropT 2 ls)) = ret (Im.im ((u3 md) a)) := by
  have e0 : (a.1.map MSig.row) = (ls.headD .hole).toSl := (congrArg (fun x => x.1) e.symm)
  obtain ⟨n, hn⟩ := okF a.1 a.2.1 a.2.2 (padL 1 (dropT 1 ls)) (padL 1 (dropT 2 ls)) (congrArg (fun x => x.2.1) e.symm) (congrArg (fun x => x.2.2) e.symm) hg
  refine ⟨n, ?_⟩
  rw [← e0]
  exact hn
theorem valid_ : Valid Try.prog Ev 296 con := VP (accr := fun ls => ((ls.headD .hole).toSl, (padL 1 (dropT 1 ls)), (padL 1 (dropT 2 ls)))) (run := fun n x => start (iter step n) x.1 x.2.1 x.2.2) mix tab_ok (.cons impl_CountSigs_1.valid_ .nil) Try.func296 (by kernel_rfl) run_eq (fun ls a _ e hg => okV ls a e hg)
theorem fa (a0 : List MSig) (a1 : Int) (a2 : List Int) : -1 ≤ md a0 a1 a2 ∧ md a0 a1 a2 < (a0.length : Int) := by
  unfold md
  refine eachI_fa0 ?_ _ _
  all_goals
    intro i x s b h
    revert h
    simp only [Bool.cond_eq_ite]
    repeat' split
    all_goals (intro h; first | (cases h; rfl) | cases h)
theorem idx_eq (a0 : List MSig) (a1 : Int) (a2 : List Int) : md a0 a1 a2 = findI (fun y => impl_CountSigs_1.md y a1 a2) 0 a0 := by
  unfold md
  exact eachI_find
end slices_IndexFunc_Simpl_Sig_impl_Sig__impl_CountSigs_1
/-! slices.ContainsFunc[[]impl.Sig,impl.Sig] -/
namespace slices_ContainsFunc_Simpl_Sig_impl_Sig__impl_CountSigs_1
noncomputable def F (x0 : List (List L)) (x1 : List L) (x2 : List L) : Ans := (call (slices_IndexFunc_Simpl_Sig_impl_Sig__impl_CountSigs_1.R (x0, (iDec x1), (lDec x2))) fun v1 => ret ((decide (v1 ≥ 0)) : Bool))
def pats : List Pat := [.rd (.sl 248), .fn 292 [[.int .i64], [.sl 3]]]
def res : RP := .one (.rd (.bool))
noncomputable abbrev E : Env := { T := assoc Tab, G := conG [(296, slices_IndexFunc_Simpl_Sig_impl_Sig__impl_CountSigs_1.con)], nt := 9 }
set_option maxRecDepth 100000
theorem run_eq (n : Nat) (ls : List L) : runF E (fun _ => []) Try.f291 res n (initS pats ls) = F (ls.headD .hole).toSl (padL 1 (dropT 1 ls)) (padL 1 (dropT 2 ls)) := by kernel_rfl
noncomputable def md (a0 : List MSig) (a1 : Int) (a2 : List Int) : Bool := ((decide ((slices_IndexFunc_Simpl_Sig_impl_Sig__impl_CountSigs_1.md a0 a1 a2) ≥ 0)) : Bool)
def gd (a0 : List MSig) (a1 : Int) (a2 : List Int) : Prop := (SmL (2 ^ 21) (fun y : MSig => MSig.Sm (2 ^ 21) y) a0) ∧ (SmL (2 ^ 38) (fun y : Int => True) a2)
def acc (ls : List L) : List (List L) × Int × List (List L) := ((ls.headD .hole).toSl, (iDec (padL 1 (dropT 1 ls))), (lDec (padL 1 (dropT 2 ls))))
noncomputable def R : (List (List L) × Int × List (List L)) → Option Bool := RR (p3 gd) (u3 md)
theorem R_eq {a0} {a1} {a2} (h : gd a0 a1 a2) : R ((a0.map MSig.row), a1, (a2.map iRow)) = some (md a0 a1 a2) := RR_eq (a := (a0, a1, a2)) h
noncomputable def con : Con := CN pats res acc R
theorem okF (a0 : List MSig) (a1 : Int) (a2 : List Int) (p1 : List L) (p2 : List L) (e1 : a1 = (iDec p1)) (e2 : (a2.map iRow) = (lDec p2)) (hg : gd a0 a1 a2) : F (a0.map MSig.row) p1 p2 = ret ((md a0 a1 a2) : Bool) := by
  unfold gd at hg
  obtain ⟨H0, H2⟩ := hg
  unfold F md
  try simp only [S0, ← e1, ← e2]
  refine call_to (slices_IndexFunc_Simpl_Sig_impl_Sig__impl_CountSigs_1.md a0 a1 a2) (slices_IndexFunc_Simpl_Sig_impl_Sig__impl_CountSigs_1.R_eq (a0 := a0) (a1 := a1) (a2 := a2) ⟨H0, H2⟩) ?_
  have fv1_ := slices_IndexFunc_Simpl_Sig_impl_Sig__impl_CountSigs_1.fa a0 a1 a2
  all_goals first | rfl | (simp only [S0, ← e1, ← e2, MP]; first | done | rfl)
theorem okV (ls : List L) (a : List MSig × Int × List Int) (e : acc ls = Im.im a) (hg : (p3 gd) a) : ∃ n : Nat, F ((ls.headD .hole).toSl) (padL 1 (dropT 1 ls)) (padL 1 (dropT 2 ls)) = ret (Im.im ((u3 md) a)) := by
  have e0 : (a.1.map MSig.row) = (ls.headD .hole).toSl := (congrArg (fun x => x.1) e.symm)
  have hn := okF a.1 a.2.1 a.2.2 (padL 1 (dropT 1 ls)) (padL 1 (dropT 2 ls)) (congrArg (fun x => x.2.1) e.symm) (congrArg (fun x => x.2.2) e.symm) hg
  refine ⟨0, ?_⟩
  rw [← e0]
  exact hn
theorem valid_ : Valid Try.prog Ev 291 con := VP (accr := fun ls => ((ls.headD .hole).toSl, (padL 1 (dropT 1 ls)), (padL 1 (dropT 2 ls)))) (run := fun _ x => F x.1 x.2.1 x.2.2) mix tab_ok (.cons slices_IndexFunc_Simpl_Sig_impl_Sig__impl_CountSigs_1.valid_ .nil) Try.func291 (by kernel_rfl) run_eq (fun ls a _ e hg => okV ls a e hg)
theorem any_eq (a0 : List MSig) (a1 : Int) (a2 : List Int) : md a0 a1 a2 = a0.any (fun y => impl_CountSigs_1.md y a1 a2) := by
  unfold md
  rw [slices_IndexFunc_Simpl_Sig_impl_Sig__impl_CountSigs_1.idx_eq]
  exact findI_ge
end slices_ContainsFunc_Simpl_Sig_impl_Sig__impl_CountSigs_1
/-! impl.CountSigs -/
namespace impl_CountSigs
inductive Pt where
  | p0 (a : List (List L)) (b : Int) (c : List (List L)) (d : Int) (e : Int) (f : List (List L))
def pid : Pt → Nat
  | .p0 .. => 3
def pvs : Pt → List V
  | .p0 a b c d e f => [.sl none 248 a, .bptr 0 0, .int .i64 b, .sl none 3 c, .int .i64 d, .int .i64 e]
def phs : Pt → List Root
  | .p0 a b c d e f => [.box [.sl none 3 f]]
noncomputable def step (J : Pt → Ans) : Pt → Ans
  | .p0 a b c d e f => (bif (decide (e < d)) then (bif (decide ((0 : Int) ≤ e)) then (bif (decide (e < (c.length : Int))) then (call (slices_ContainsFunc_Simpl_Sig_impl_Sig__impl_CountSigs_1.R (a, (iAt c (Int.toNat e)), f)) fun v1 => (bif v1 then J (.p0 a (IntKind.i64.wrap (b + 1)) c d (IntKind.i64.wrap (e + 1)) f) else J (.p0 a b c d (IntKind.i64.wrap (e + 1)) f))) else none) else none) else ret (b : Int))
noncomputable def start (J : Pt → Ans) (x0 : RKeys) (x1 : List (List L)) (x2 : List (List L)) : Ans := J (.p0 x2 0 x0.fList (x0.fList.length : Int) 0 x1)
def live : Nat → Live := fun i => match i with | 3 => [(2, none), (4, none), (7, none), (11, none), (12, none), (13, none)] | _ => []
def pats : List Pat := [.agg [.sl 3, .int .i64], .rd (.sl 3), .rd (.sl 248)]
def res : RP := .one (.rd (.int .i64))
noncomputable abbrev E : Env := { T := assoc Tab, G := conG [(291, slices_ContainsFunc_Simpl_Sig_impl_Sig__impl_CountSigs_1.con)], nt := 24 }
set_option maxRecDepth 100000
theorem step_eq (I : Heads) (p : Pt) : enterC E live I (pid p) (bodyOf Try.f285) (stOf (live (pid p)) (pvs p) (phs p)) (doneK E Try.f285 res) = step (fun q => I (pid q) (pvs q) (phs q)) p := by
  cases p <;> kernel_rfl
theorem start_eq (I : Heads) (ls : List L) : runC E live I (bodyOf Try.f285) (initS pats ls) (doneK E Try.f285 res) = start (fun q => I (pid q) (pvs q) (phs q)) (RKeys.dec ls) ((dropT 2 ls).headD .hole).toSl ((dropT 3 ls).headD .hole).toSl := by kernel_rfl
theorem run_eq (n : Nat) (ls : List L) : runF E live Try.f285 res n (initS pats ls) = start (iter step n) (RKeys.dec ls) ((dropT 2 ls).headD .hole).toSl ((dropT 3 ls).headD .hole).toSl := runF_iter (id := pid) (vs := pvs) (hs := phs) (step := step) (start := fun J => start J (RKeys.dec ls) ((dropT 2 ls).headD .hole).toSl ((dropT 3 ls).headD .hole).toSl) step_eq (fun I => start_eq I ls) n
noncomputable def md (a0 : MKeys) (a1 : List Int) (a2 : List MSig) : Int := (eachM (S := Int) (β := Int) (fun (y1 : Int) (s3 : Int) => (bif (slices_ContainsFunc_Simpl_Sig_impl_Sig__impl_CountSigs_1.md a2 y1 a1) then (.inl (IntKind.i64.wrap (s3 + 1))) else (.inl s3))) (fun (s3 : Int) => (s3 : Int)) a0.fList 0)
def gd (a0 : MKeys) (a1 : List Int) (a2 : List MSig) : Prop := (MKeys.Sm (2 ^ 21) a0) ∧ (SmL (2 ^ 38) (fun y : Int => True) a1) ∧ (SmL (2 ^ 21) (fun y : MSig => MSig.Sm (2 ^ 21) y) a2)
def acc (ls : List L) : RKeys × List (List L) × List (List L) := ((RKeys.dec ls), ((dropT 2 ls).headD .hole).toSl, ((dropT 3 ls).headD .hole).toSl)
noncomputable def R : (RKeys × List (List L) × List (List L)) → Option Int := RR (p3 gd) (u3 md)
theorem R_eq {a0} {a1} {a2} (h : gd a0 a1 a2) : R ((MKeys.r a0), (a1.map iRow), (a2.map MSig.row)) = some (md a0 a1 a2) := RR_eq (a := (a0, a1, a2)) h
noncomputable def con : Con := CN pats res acc R
theorem okF (a0 : MKeys) (a1 : List Int) (a2 : List MSig) (hg : gd a0 a1 a2) : ∃ n, start (iter step n) (MKeys.r a0) (a1.map iRow) (a2.map MSig.row) = ret ((md a0 a1 a2) : Int) := by
  unfold gd at hg
  obtain ⟨H0, H1, H2⟩ := hg
  unfold start md
  try simp only [S0, MKeys.rs]
  have Bh2 : a0.fList.length ≤ maxLen := (by
      have := (H0).1
      try simp only [maxLen] at *
      omega)
  refine ex_eq (out := ret) (loopM_eachM (z := 0)) ?_
  refine ex_pt (p := Pt.p0 (a2.map MSig.row) 0 (a0.fList.map iRow) (a0.fList.length : Int) 0 (a1.map iRow)) (by first | rfl | (simp only [S0, MKeys.rs, MP]; done) | (simp only [MP]; rfl)) ?_
  refine loopM_ok (pt := fun (i1 : Nat) (s3 : Int) => Pt.p0 (a2.map MSig.row) s3 (a0.fList.map iRow) (a0.fList.length : Int) (i1 : Int) (a1.map iRow)) (s := (0 : Int)) (out := ret) (fun _ _ => True) (fun J i1 s3 h2 hih2 => ?_) (fun s3 hih2 => ?_) trivial
  · simp only [step, S0, MKeys.rs]
    have bb_ := Bh2
    simp only [maxLen] at bb_
    have := (H0).1
    refine Rnd.yes (by apply decide_eq_true; omega) ?_
    refine Rnd.yes zle_dec ?_
    refine Rnd.yes (lt_dec h2) ?_
    refine Rnd.call_to (slices_ContainsFunc_Simpl_Sig_impl_Sig__impl_CountSigs_1.md a2 (a0.fList.getD i1 0) a1) (slices_ContainsFunc_Simpl_Sig_impl_Sig__impl_CountSigs_1.R_eq (a0 := a2) (a1 := (a0.fList.getD i1 0)) (a2 := a1) ⟨H2, H1⟩) ?_
    refine Rnd.bif (fun c4 => ?_) (fun c4 => ?_)
    · refine Rnd.inl trivial ?_
      rw [wrap_succ h2 Bh2]
      all_goals first | rfl | (simp only [S0, MKeys.rs, MP]; first | done | rfl)
    · refine Rnd.inl trivial ?_
      rw [wrap_succ h2 Bh2]
      all_goals first | rfl | (simp only [S0, MKeys.rs, MP]; first | done | rfl)
  · simp only [step, S0, MKeys.rs]
    have := (H0).1
    refine ex_no (by apply decide_eq_false; omega) ?_
    refine ⟨0, ?_⟩
    all_goals first | rfl | (simp only [S0, MKeys.rs, MP]; first | done | rfl)
theorem valid_ : Valid Try.prog Ev 285 con := VV (run := fun n x => start (iter step n) x.1 x.2.1 x.2.2) mix tab_ok (.cons slices_ContainsFunc_Simpl_Sig_impl_Sig__impl_CountSigs_1.valid_ .nil) Try.func285 (by kernel_rfl) run_eq (fun _ a _ _ hg => okF a.1 a.2.1 a.2.2 hg)
theorem br (a0 : MKeys) (a1 : List Int) (a2 : List MSig) : md a0 a1 a2 = spec_CountSigs.md a0 a1 a2 := by
  unfold md spec_CountSigs.md
  refine eachM_congr (fun x _ s => ?_) (fun s => rfl)
  rw [slices_ContainsFunc_Simpl_Sig_impl_Sig__impl_CountSigs_1.any_eq]
  refine Eq.trans ?_ (eachM_any' (β := Int ⊕ Int) (p := fun y => impl_CountSigs_1.md y x a1) (b := Sum.inl (IntKind.i64.wrap (s + 1))) (c := Sum.inl s) (fun y s' => ?_) a2 ()).symm
  · cases a2.any (fun y => impl_CountSigs_1.md y x a1) <;> rfl
  · unfold impl_CountSigs_1.md
    simp only [impl_IsSigBy.br]
    cases y.fKey == x <;> cases spec_IsSigBy.md y a1 <;> rfl
end impl_CountSigs
/-! impl.IsSigned -/
namespace impl_IsSigned
noncomputable def F (x0 : RKeys) (x1 : List (List L)) (x2 : List (List L)) : Ans := (call (impl_IsKeys.R x0) fun v1 => (bif v1 then (call (impl_CountSigs.R (x0, x1, x2)) fun v2 => ret ((decide (v2 ≥ x0.fNeed)) : Bool)) else ret (false : Bool)))
def pats : List Pat := [.agg [.sl 3, .int .i64], .rd (.sl 3), .rd (.sl 248)]
def res : RP := .one (.rd (.bool))
noncomputable abbrev E : Env := { T := assoc Tab, G := conG [(267, impl_IsKeys.con), (285, impl_CountSigs.con)], nt := 18 }
set_option maxRecDepth 100000
theorem run_eq (n : Nat) (ls : List L) : runF E (fun _ => []) Try.f273 res n (initS pats ls) = F (RKeys.dec ls) ((dropT 2 ls).headD .hole).toSl ((dropT 3 ls).headD .hole).toSl := by kernel_rfl
noncomputable def md (a0 : MKeys) (a1 : List Int) (a2 : List MSig) : Bool := (bif (impl_IsKeys.md a0) then ((decide ((impl_CountSigs.md a0 a1 a2) ≥ a0.fNeed)) : Bool) else (false : Bool))
def gd (a0 : MKeys) (a1 : List Int) (a2 : List MSig) : Prop := (MKeys.Sm (2 ^ 21) a0) ∧ (SmL (2 ^ 38) (fun y : Int => True) a1) ∧ (SmL (2 ^ 21) (fun y : MSig => MSig.Sm (2 ^ 21) y) a2)
def acc (ls : List L) : RKeys × List (List L) × List (List L) := ((RKeys.dec ls), ((dropT 2 ls).headD .hole).toSl, ((dropT 3 ls).headD .hole).toSl)
noncomputable def R : (RKeys × List (List L) × List (List L)) → Option Bool := RR (p3 gd) (u3 md)
theorem R_eq {a0} {a1} {a2} (h : gd a0 a1 a2) : R ((MKeys.r a0), (a1.map iRow), (a2.map MSig.row)) = some (md a0 a1 a2) := RR_eq (a := (a0, a1, a2)) h
noncomputable def con : Con := CN pats res acc R
theorem okF (a0 : MKeys) (a1 : List Int) (a2 : List MSig) (hg : gd a0 a1 a2) : F (MKeys.r a0) (a1.map iRow) (a2.map MSig.row) = ret ((md a0 a1 a2) : Bool) := by
  unfold gd at hg
  obtain ⟨H0, H1, H2⟩ := hg
  unfold F md
  try simp only [S0, MKeys.rs]
  refine call_to (impl_IsKeys.md a0) (impl_IsKeys.R_eq (a0 := a0) H0) ?_
  refine bif_out ret (fun c1 => ?_) (fun _ => rfl)
  refine call_to (impl_CountSigs.md a0 a1 a2) (impl_CountSigs.R_eq (a0 := a0) (a1 := a1) (a2 := a2) ⟨H0, H1, H2⟩) ?_
  all_goals first | rfl | (simp only [S0, MKeys.rs, MP]; first | done | rfl)
theorem valid_ : Valid Try.prog Ev 273 con := VV (run := fun _ x => F x.1 x.2.1 x.2.2) mix tab_ok (.cons impl_IsKeys.valid_ (.cons impl_CountSigs.valid_ .nil)) Try.func273 (by kernel_rfl) run_eq (fun _ a _ _ hg => ⟨0, okF a.1 a.2.1 a.2.2 hg⟩)
theorem br (a0 : MKeys) (a1 : List Int) (a2 : List MSig) : md a0 a1 a2 = spec_IsSigned.md a0 a1 a2 := by
  unfold md spec_IsSigned.md
  first
  | (simp only [impl_IsKeys.br, impl_CountSigs.br]; done)
  | (simp only [impl_IsKeys.br, impl_CountSigs.br]; rfl)
  | rfl
end impl_IsSigned
/-! (impl.Signed).isSignedBy -/
namespace impl_Signed_isSignedBy
noncomputable def F (x0 : RSigned) (x1 : RKeys) : Ans := (call (impl_HeadInts.R x0.fHead) fun v1 => (call (impl_IsSigned.R (x1, v1, x0.fSigs)) fun v2 => ret (v2 : Bool)))
def pats : List Pat := [.agg [.int .i64, .int .i64, .int .i64, .int .i64, .int .i64, .int .i64, .int .i64, .int .i64, .sl 3, .int .i64, .sl 3, .int .i64, .int .i64, .sl 3, .int .i64, .bool, .sl 248], .agg [.sl 3, .int .i64]]
def res : RP := .one (.rd (.bool))
noncomputable abbrev E : Env := { T := assoc Tab, G := conG [(274, impl_HeadInts.con), (273, impl_IsSigned.con)], nt := 12 }
set_option maxRecDepth 100000
theorem run_eq (n : Nat) (ls : List L) : runF E (fun _ => []) Try.f251 res n (initS pats ls) = F (RSigned.dec ls) (RKeys.dec (dropT 17 ls)) := by kernel_rfl
noncomputable def md (a0 : MSigned) (a1 : MKeys) : Bool := ((impl_IsSigned.md a1 (impl_HeadInts.md a0.fHead) a0.fSigs) : Bool)
def gd (a0 : MSigned) (a1 : MKeys) : Prop := (MSigned.Sm (2 ^ 21) a0) ∧ (MKeys.Sm (2 ^ 21) a1)
def acc (ls : List L) : RSigned × RKeys := ((RSigned.dec ls), (RKeys.dec (dropT 17 ls)))
noncomputable def R : (RSigned × RKeys) → Option Bool := RR (p2 gd) (u2 md)
theorem R_eq {a0} {a1} (h : gd a0 a1) : R ((MSigned.r a0), (MKeys.r a1)) = some (md a0 a1) := RR_eq (a := (a0, a1)) h
noncomputable def con : Con := CN pats res acc R
theorem okF (a0 : MSigned) (a1 : MKeys) (hg : gd a0 a1) : F (MSigned.r a0) (MKeys.r a1) = ret ((md a0 a1) : Bool) := by
  unfold gd at hg
  obtain ⟨H0, H1⟩ := hg
  unfold F md
  try simp only [S0, MSigned.rs]
  refine call_to ((impl_HeadInts.md a0.fHead).map iRow) (impl_HeadInts.R_eq (a0 := a0.fHead) H0.1) ?_
  try simp only [S0, MSigned.rs]
  refine call_to (impl_IsSigned.md a1 (impl_HeadInts.md a0.fHead) a0.fSigs) (impl_IsSigned.R_eq (a0 := a1) (a1 := (impl_HeadInts.md a0.fHead)) (a2 := a0.fSigs) ⟨H1, ⟨(by
      have := impl_HeadInts.len a0.fHead
      have := (H0.1.1).1
      have := (H0.1.2.1).1
      have := (H0.1.2.2).1
      try simp (disch := omega) only [LN, wi]
      first | omega | (simp; done) | (simp; omega)), fun _ _ => trivial⟩, H0.2⟩) ?_
  all_goals first | rfl | (simp only [S0, MSigned.rs, MP]; first | done | rfl)
theorem valid_ : Valid Try.prog Ev 251 con := VV (run := fun _ x => F x.1 x.2) mix tab_ok (.cons impl_HeadInts.valid_ (.cons impl_IsSigned.valid_ .nil)) Try.func251 (by kernel_rfl) run_eq (fun _ a _ _ hg => ⟨0, okF a.1 a.2 hg⟩)
end impl_Signed_isSignedBy
/-! impl.IsFirst -/
namespace impl_IsFirst
noncomputable def F (x0 : RSigned) : Ans := (call (impl_IsHead.R x0.fHead) fun v1 => (bif v1 then (bif (x0.fHead.fEpoch == 0) then (bif (x0.fHead.fKind == 1) then (bif (!x0.fHead.fFrozen) then (call (impl_ZoneOf.R (x0.fHead.fKeys, x0.fHead.fPrev)) fun v2 => (bif (x0.fHead.fZone == v2) then (call (impl_Signed_isSignedBy.R (x0, x0.fHead.fKeys)) fun v3 => ret (v3 : Bool)) else ret (false : Bool))) else ret (false : Bool)) else ret (false : Bool)) else ret (false : Bool)) else ret (false : Bool)))
def pats : List Pat := [.agg [.int .i64, .int .i64, .int .i64, .int .i64, .int .i64, .int .i64, .int .i64, .int .i64, .sl 3, .int .i64, .sl 3, .int .i64, .int .i64, .sl 3, .int .i64, .bool, .sl 248]]
def res : RP := .one (.rd (.bool))
noncomputable abbrev E : Env := { T := assoc Tab, G := conG [(249, impl_IsHead.con), (250, impl_ZoneOf.con), (251, impl_Signed_isSignedBy.con)], nt := 39 }
set_option maxRecDepth 100000
theorem run_eq (n : Nat) (ls : List L) : runF E (fun _ => []) Try.f238 res n (initS pats ls) = F (RSigned.dec ls) := by kernel_rfl
noncomputable def md (a0 : MSigned) : Bool := (bif (impl_IsHead.md a0.fHead) then (bif (a0.fHead.fEpoch == 0) then (bif (a0.fHead.fKind == 1) then (bif (!a0.fHead.fFrozen) then (bif (a0.fHead.fZone == (impl_ZoneOf.md a0.fHead.fKeys a0.fHead.fPrev)) then ((impl_Signed_isSignedBy.md a0 a0.fHead.fKeys) : Bool) else (false : Bool)) else (false : Bool)) else (false : Bool)) else (false : Bool)) else (false : Bool))
def gd (a0 : MSigned) : Prop := (MSigned.Sm (2 ^ 21) a0)
def acc (ls : List L) : RSigned := (RSigned.dec ls)
noncomputable def R : RSigned → Option Bool := RR gd md
theorem R_eq {a0} (h : gd a0) : R (MSigned.r a0) = some (md a0) := RR_eq (a := a0) h
noncomputable def con : Con := CN pats res acc R
theorem okF (a0 : MSigned) (hg : gd a0) : F (MSigned.r a0) = ret ((md a0) : Bool) := by
  unfold gd at hg
  have H0 := hg
  unfold F md
  try simp only [S0, MHead.rs, MSigned.rs]
  refine call_to (impl_IsHead.md a0.fHead) (impl_IsHead.R_eq (a0 := a0.fHead) H0.1) ?_
  refine bif_out ret (fun c1 => ?_) (fun _ => rfl)
  refine bif_out ret (fun c2 => ?_) (fun _ => rfl)
  refine bif_out ret (fun c3 => ?_) (fun _ => rfl)
  refine bif_out ret (fun c4 => ?_) (fun _ => rfl)
  refine call_to (impl_ZoneOf.md a0.fHead.fKeys a0.fHead.fPrev) (impl_ZoneOf.R_eq (a0 := a0.fHead.fKeys) (a1 := a0.fHead.fPrev) H0.1.1) ?_
  refine bif_out ret (fun c5 => ?_) (fun _ => rfl)
  refine call_to (impl_Signed_isSignedBy.md a0 a0.fHead.fKeys) (impl_Signed_isSignedBy.R_eq (a0 := a0) (a1 := a0.fHead.fKeys) ⟨H0, H0.1.1⟩) ?_
  all_goals first | rfl | (simp only [S0, MHead.rs, MSigned.rs, MP]; first | done | rfl)
theorem valid_ : Valid Try.prog Ev 238 con := VV (run := fun _ x => F x) mix tab_ok (.cons impl_IsHead.valid_ (.cons impl_ZoneOf.valid_ (.cons impl_Signed_isSignedBy.valid_ .nil))) Try.func238 (by kernel_rfl) run_eq (fun _ a _ _ hg => ⟨0, okF a hg⟩)
theorem br (a0 : MSigned) : md a0 = spec_IsFirst.md a0 := by
  unfold md spec_IsFirst.md
  simp only [impl_Signed_isSignedBy.md, impl_IsSigned.br, impl_HeadInts.br, impl_IsHead.br, impl_ZoneOf.br]
end impl_IsFirst
/-! impl.HeadDigest -/
namespace impl_HeadDigest
noncomputable def F (x0 : RHead) : Ans := (call (impl_HeadInts.R x0) fun v1 => (bif (lim (((1 : Int) + (v1.length : Int)) * 8)) then (call (impl_Hash.R ([[L.int 233]] ++ v1)) fun v2 => ret (v2 : Int)) else none))
def pats : List Pat := [.agg [.int .i64, .int .i64, .int .i64, .int .i64, .int .i64, .int .i64, .int .i64, .int .i64, .sl 3, .int .i64, .sl 3, .int .i64, .int .i64, .sl 3, .int .i64, .bool]]
def res : RP := .one (.rd (.int .i64))
noncomputable abbrev E : Env := { T := assoc Tab, G := conG [(274, impl_HeadInts.con), (271, impl_Hash.con)], nt := 8 }
set_option maxRecDepth 100000
theorem run_eq (n : Nat) (ls : List L) : runF E (fun _ => []) Try.f288 res n (initS pats ls) = F (RHead.dec ls) := by kernel_rfl
noncomputable def md (a0 : MHead) : Int := ((impl_Hash.md ([233] ++ (impl_HeadInts.md a0))) : Int)
def gd (a0 : MHead) : Prop := (MHead.Sm (2 ^ 21) a0)
def acc (ls : List L) : RHead := (RHead.dec ls)
noncomputable def R : RHead → Option Int := RR gd md
theorem R_eq {a0} (h : gd a0) : R (MHead.r a0) = some (md a0) := RR_eq (a := a0) h
noncomputable def con : Con := CN pats res acc R
theorem okF (a0 : MHead) (hg : gd a0) : F (MHead.r a0) = ret ((md a0) : Int) := by
  unfold gd at hg
  have H0 := hg
  unfold F md
  try simp only [S0]
  refine call_to ((impl_HeadInts.md a0).map iRow) (impl_HeadInts.R_eq (a0 := a0) H0) ?_
  try simp only [S0]
  refine yes_ret (by
      have := impl_HeadInts.len a0
      have := (H0.1).1
      have := (H0.2.1).1
      have := (H0.2.2).1
      refine lim_t ?_
      try simp (disch := omega) only [LN, wi]
      first | omega | (simp; done) | (simp; omega)) ?_
  refine call_to (impl_Hash.md ([233] ++ (impl_HeadInts.md a0))) ?_ ?_
  · have R_ := impl_Hash.R_eq (a0 := ([233] ++ (impl_HeadInts.md a0))) ⟨(by
        have := impl_HeadInts.len a0
        have := (H0.1).1
        have := (H0.2.1).1
        have := (H0.2.2).1
        try simp (disch := omega) only [LN, wi]
        first | omega | (simp; done) | (simp; omega)), fun _ _ => trivial⟩
    first | exact R_ | (simp only [MP, S0] at R_ ⊢; first | exact R_ | (rw [← R_]; rfl))
  all_goals first | rfl | (simp only [S0, MP]; first | done | rfl)
theorem valid_ : Valid Try.prog Ev 288 con := VV (run := fun _ x => F x) mix tab_ok (.cons impl_HeadInts.valid_ (.cons impl_Hash.valid_ .nil)) Try.func288 (by kernel_rfl) run_eq (fun _ a _ _ hg => ⟨0, okF a hg⟩)
theorem br (a0 : MHead) : md a0 = spec_HeadDigest.md a0 := by
  unfold md spec_HeadDigest.md
  first
  | (simp only [impl_HeadInts.br, impl_Hash.br]; done)
  | (simp only [impl_HeadInts.br, impl_Hash.br]; rfl)
  | rfl
end impl_HeadDigest
/-! impl.isNext -/
namespace impl_isNext
noncomputable def F (x0 : RHead) (x1 : RHead) : Ans := (bif (x1.fZone == x0.fZone) then (bif (x1.fEpoch == (IntKind.i64.wrap (x0.fEpoch + 1))) then (call (impl_HeadDigest.R x0) fun v1 => (bif (x1.fPrev == v1) then ret ((decide (x1.fTime ≥ x0.fTime)) : Bool) else ret (false : Bool))) else ret (false : Bool)) else ret (false : Bool))
def pats : List Pat := [.agg [.int .i64, .int .i64, .int .i64, .int .i64, .int .i64, .int .i64, .int .i64, .int .i64, .sl 3, .int .i64, .sl 3, .int .i64, .int .i64, .sl 3, .int .i64, .bool], .agg [.int .i64, .int .i64, .int .i64, .int .i64, .int .i64, .int .i64, .int .i64, .int .i64, .sl 3, .int .i64, .sl 3, .int .i64, .int .i64, .sl 3, .int .i64, .bool]]
def res : RP := .one (.rd (.bool))
noncomputable abbrev E : Env := { T := assoc Tab, G := conG [(288, impl_HeadDigest.con)], nt := 32 }
set_option maxRecDepth 100000
theorem run_eq (n : Nat) (ls : List L) : runF E (fun _ => []) Try.f275 res n (initS pats ls) = F (RHead.dec ls) (RHead.dec (dropT 16 ls)) := by kernel_rfl
noncomputable def md (a0 : MHead) (a1 : MHead) : Bool := (bif (a1.fZone == a0.fZone) then (bif (a1.fEpoch == (IntKind.i64.wrap (a0.fEpoch + 1))) then (bif (a1.fPrev == (impl_HeadDigest.md a0)) then ((decide (a1.fTime ≥ a0.fTime)) : Bool) else (false : Bool)) else (false : Bool)) else (false : Bool))
def gd (a0 : MHead) (a1 : MHead) : Prop := (MHead.Sm (2 ^ 21) a0)
def acc (ls : List L) : RHead × RHead := ((RHead.dec ls), (RHead.dec (dropT 16 ls)))
noncomputable def R : (RHead × RHead) → Option Bool := RR (p2 gd) (u2 md)
theorem R_eq {a0} {a1} (h : gd a0 a1) : R ((MHead.r a0), (MHead.r a1)) = some (md a0 a1) := RR_eq (a := (a0, a1)) h
noncomputable def con : Con := CN pats res acc R
theorem okF (a0 : MHead) (a1 : MHead) (hg : gd a0 a1) : F (MHead.r a0) (MHead.r a1) = ret ((md a0 a1) : Bool) := by
  unfold gd at hg
  have H0 := hg
  unfold F md
  try simp only [S0, MHead.rs]
  refine bif_out ret (fun c1 => ?_) (fun _ => rfl)
  refine bif_out ret (fun c2 => ?_) (fun _ => rfl)
  refine call_to (impl_HeadDigest.md a0) (impl_HeadDigest.R_eq (a0 := a0) H0) ?_
  refine bif_out ret (fun c3 => ?_) (fun _ => rfl)
  all_goals first | rfl | (simp only [S0, MHead.rs, MP]; first | done | rfl)
theorem valid_ : Valid Try.prog Ev 275 con := VV (run := fun _ x => F x.1 x.2) mix tab_ok (.cons impl_HeadDigest.valid_ .nil) Try.func275 (by kernel_rfl) run_eq (fun _ a _ _ hg => ⟨0, okF a.1 a.2 hg⟩)
end impl_isNext
/-! impl.ownerCode -/
namespace impl_ownerCode
noncomputable def F (x0 : RHead) (x1 : RSigned) : Ans := (bif x0.fFrozen then ret (4 : Int) else (bif x1.fHead.fFrozen then ret (6 : Int) else (call (impl_Signed_isSignedBy.R (x1, x0.fKeys)) fun v1 => (bif (!v1) then ret (7 : Int) else ret (1 : Int)))))
def pats : List Pat := [.agg [.int .i64, .int .i64, .int .i64, .int .i64, .int .i64, .int .i64, .int .i64, .int .i64, .sl 3, .int .i64, .sl 3, .int .i64, .int .i64, .sl 3, .int .i64, .bool], .agg [.int .i64, .int .i64, .int .i64, .int .i64, .int .i64, .int .i64, .int .i64, .int .i64, .sl 3, .int .i64, .sl 3, .int .i64, .int .i64, .sl 3, .int .i64, .bool, .sl 248]]
def res : RP := .one (.rd (.int .i64))
noncomputable abbrev E : Env := { T := assoc Tab, G := conG [(251, impl_Signed_isSignedBy.con)], nt := 18 }
set_option maxRecDepth 100000
theorem run_eq (n : Nat) (ls : List L) : runF E (fun _ => []) Try.f276 res n (initS pats ls) = F (RHead.dec ls) (RSigned.dec (dropT 16 ls)) := by kernel_rfl
noncomputable def md (a0 : MHead) (a1 : MSigned) : Int := (bif a0.fFrozen then (4 : Int) else (bif a1.fHead.fFrozen then (6 : Int) else (bif (!(impl_Signed_isSignedBy.md a1 a0.fKeys)) then (7 : Int) else (1 : Int))))
def gd (a0 : MHead) (a1 : MSigned) : Prop := (MHead.Sm (2 ^ 21) a0) ∧ (MSigned.Sm (2 ^ 21) a1)
def acc (ls : List L) : RHead × RSigned := ((RHead.dec ls), (RSigned.dec (dropT 16 ls)))
noncomputable def R : (RHead × RSigned) → Option Int := RR (p2 gd) (u2 md)
theorem R_eq {a0} {a1} (h : gd a0 a1) : R ((MHead.r a0), (MSigned.r a1)) = some (md a0 a1) := RR_eq (a := (a0, a1)) h
noncomputable def con : Con := CN pats res acc R
theorem okF (a0 : MHead) (a1 : MSigned) (hg : gd a0 a1) : F (MHead.r a0) (MSigned.r a1) = ret ((md a0 a1) : Int) := by
  unfold gd at hg
  obtain ⟨H0, H1⟩ := hg
  unfold F md
  try simp only [S0, MHead.rs, MSigned.rs]
  refine bif_out ret (fun _ => rfl) (fun c1 => ?_)
  refine bif_out ret (fun _ => rfl) (fun c2 => ?_)
  refine call_to (impl_Signed_isSignedBy.md a1 a0.fKeys) (impl_Signed_isSignedBy.R_eq (a0 := a1) (a1 := a0.fKeys) ⟨H1, H0.1⟩) ?_
  refine bif_out ret (fun _ => rfl) (fun _ => rfl)
theorem valid_ : Valid Try.prog Ev 276 con := VV (run := fun _ x => F x.1 x.2) mix tab_ok (.cons impl_Signed_isSignedBy.valid_ .nil) Try.func276 (by kernel_rfl) run_eq (fun _ a _ _ hg => ⟨0, okF a.1 a.2 hg⟩)
end impl_ownerCode
/-! slices.Equal[[]int,int] -/
namespace slices_Equal_Sint_int
inductive Pt where
  | p0 (a : List (List L)) (b : List (List L)) (c : Int) (d : Int)
def pid : Pt → Nat
  | .p0 .. => 4
def pvs : Pt → List V
  | .p0 a b c d => [.sl none 3 a, .sl none 3 b, .int .i64 c, .int .i64 d]
def phs : Pt → List Root
  | .p0 a b c d => []
noncomputable def step (J : Pt → Ans) : Pt → Ans
  | .p0 a b c d => (bif (decide (d < c)) then (bif (decide ((0 : Int) ≤ d)) then (bif (decide (d < (a.length : Int))) then (bif (decide ((0 : Int) ≤ d)) then (bif (decide (d < (b.length : Int))) then (bif ((iAt a (Int.toNat d)) != (iAt b (Int.toNat d))) then ret (false : Bool) else J (.p0 a b c (IntKind.i64.wrap (d + 1)))) else none) else none) else none) else none) else ret (true : Bool))
noncomputable def start (J : Pt → Ans) (x0 : List (List L)) (x1 : List (List L)) : Ans := (bif ((x0.length : Int) != (x1.length : Int)) then ret (false : Bool) else J (.p0 x0 x1 (x0.length : Int) 0))
def live : Nat → Live := fun i => match i with | 4 => [(0, none), (1, none), (12, none), (13, none)] | _ => []
def pats : List Pat := [.rd (.sl 3), .rd (.sl 3)]
def res : RP := .one (.rd (.bool))
noncomputable abbrev E : Env := { T := assoc Tab, G := conG [], nt := 26 }
set_option maxRecDepth 100000
theorem step_eq (I : Heads) (p : Pt) : enterC E live I (pid p) (bodyOf Try.f209) (stOf (live (pid p)) (pvs p) (phs p)) (doneK E Try.f209 res) = step (fun q => I (pid q) (pvs q) (phs q)) p := by
  cases p <;> kernel_rfl
theorem start_eq (I : Heads) (ls : List L) : runC E live I (bodyOf Try.f209) (initS pats ls) (doneK E Try.f209 res) = start (fun q => I (pid q) (pvs q) (phs q)) (ls.headD .hole).toSl ((dropT 1 ls).headD .hole).toSl := by kernel_rfl
theorem run_eq (n : Nat) (ls : List L) : runF E live Try.f209 res n (initS pats ls) = start (iter step n) (ls.headD .hole).toSl ((dropT 1 ls).headD .hole).toSl := runF_iter (id := pid) (vs := pvs) (hs := phs) (step := step) (start := fun J => start J (ls.headD .hole).toSl ((dropT 1 ls).headD .hole).toSl) step_eq (fun I => start_eq I ls) n
noncomputable def md (a0 : List Int) (a1 : List Int) : Bool := (bif ((a0.length : Int) != (a1.length : Int)) then (false : Bool) else (loopM (S := Unit) (β := Bool) (fun (i2 : Nat) (s4 : Unit) => (bif ((a0.getD i2 0) != (a1.getD i2 0)) then (.inr (false : Bool)) else (.inl ()))) (fun (s4 : Unit) => (true : Bool)) a0.length 0 ()))
def gd (a0 : List Int) (a1 : List Int) : Prop := (SmL (2 ^ 38) (fun y : Int => True) a0) ∧ (SmL (2 ^ 38) (fun y : Int => True) a1)
def acc (ls : List L) : List (List L) × List (List L) := ((ls.headD .hole).toSl, ((dropT 1 ls).headD .hole).toSl)
noncomputable def R : (List (List L) × List (List L)) → Option Bool := RR (p2 gd) (u2 md)
theorem R_eq {a0} {a1} (h : gd a0 a1) : R ((a0.map iRow), (a1.map iRow)) = some (md a0 a1) := RR_eq (a := (a0, a1)) h
noncomputable def con : Con := CN pats res acc R
theorem okF (a0 : List Int) (a1 : List Int) (hg : gd a0 a1) : ∃ n, start (iter step n) (a0.map iRow) (a1.map iRow) = ret ((md a0 a1) : Bool) := by
  unfold gd at hg
  obtain ⟨H0, H1⟩ := hg
  unfold start md
  try simp only [S0]
  refine ex_bif ret (fun _ => ⟨0, rfl⟩) (fun c1 => ?_)
  have dc1 := c1
  try simp only [DC] at dc1
  have Bh3 : a0.length ≤ maxLen := (by
      have := (H0).1
      try simp only [maxLen] at *
      omega)
  refine ex_pt (p := Pt.p0 (a0.map iRow) (a1.map iRow) (a0.length : Int) 0) (by first | rfl | (simp only [S0, MP]; done) | (simp only [MP]; rfl)) ?_
  refine loopM_ok (pt := fun (i2 : Nat) (s4 : Unit) => Pt.p0 (a0.map iRow) (a1.map iRow) (a0.length : Int) (i2 : Int)) (s := (() : Unit)) (out := ret) (fun _ _ => True) (fun J i2 s4 h3 hih3 => ?_) (fun s4 hih3 => ?_) trivial
  · simp only [step, S0]
    have bb_ := Bh3
    simp only [maxLen] at bb_
    have := (H0).1
    refine Rnd.yes (by apply decide_eq_true; omega) ?_
    refine Rnd.yes zle_dec ?_
    refine Rnd.yes (lt_dec h3) ?_
    refine Rnd.yes zle_dec ?_
    refine Rnd.yes (by
        have := (H1).1
        refine decide_eq_true ?_
        try simp (disch := omega) only [LN, wi]
        first | omega | (simp; done) | (simp; omega)) ?_
    refine Rnd.bif (fun _ => Rnd.inr rfl) (fun c5 => ?_)
    refine Rnd.inl trivial ?_
    rw [wrap_succ h3 Bh3]
    all_goals first | rfl | (simp only [S0, MP]; first | done | rfl)
  · simp only [step, S0]
    have := (H0).1
    refine ex_no (by apply decide_eq_false; omega) ?_
    refine ⟨0, ?_⟩
    all_goals first | rfl | (simp only [S0, MP]; first | done | rfl)
theorem valid_ : Valid Try.prog Ev 209 con := VV (run := fun n x => start (iter step n) x.1 x.2) mix tab_ok .nil Try.func209 (by kernel_rfl) run_eq (fun _ a _ _ hg => okF a.1 a.2 hg)
theorem md_eq (a0 : List Int) (a1 : List Int) : md a0 a1 = eqB a0 a1 := by
  unfold md
  refine loop_eqB (0) (fun i s h h2 => ?_) (fun s => rfl)
  simp only [bne, int_beq, bool_beq, ba_beq]
  cases eqB _ _ <;> rfl
end slices_Equal_Sint_int
/-! impl.EqualKeys -/
namespace impl_EqualKeys
noncomputable def F (x0 : RKeys) (x1 : RKeys) : Ans := (call (slices_Equal_Sint_int.R (x0.fList, x1.fList)) fun v1 => (bif v1 then ret ((x0.fNeed == x1.fNeed) : Bool) else ret (false : Bool)))
def pats : List Pat := [.agg [.sl 3, .int .i64], .agg [.sl 3, .int .i64]]
def res : RP := .one (.rd (.bool))
noncomputable abbrev E : Env := { T := assoc Tab, G := conG [(209, slices_Equal_Sint_int.con)], nt := 17 }
set_option maxRecDepth 100000
theorem run_eq (n : Nat) (ls : List L) : runF E (fun _ => []) Try.f152 res n (initS pats ls) = F (RKeys.dec ls) (RKeys.dec (dropT 2 ls)) := by kernel_rfl
noncomputable def md (a0 : MKeys) (a1 : MKeys) : Bool := (bif (slices_Equal_Sint_int.md a0.fList a1.fList) then ((a0.fNeed == a1.fNeed) : Bool) else (false : Bool))
def gd (a0 : MKeys) (a1 : MKeys) : Prop := (MKeys.Sm (2 ^ 21) a0) ∧ (MKeys.Sm (2 ^ 21) a1)
def acc (ls : List L) : RKeys × RKeys := ((RKeys.dec ls), (RKeys.dec (dropT 2 ls)))
noncomputable def R : (RKeys × RKeys) → Option Bool := RR (p2 gd) (u2 md)
theorem R_eq {a0} {a1} (h : gd a0 a1) : R ((MKeys.r a0), (MKeys.r a1)) = some (md a0 a1) := RR_eq (a := (a0, a1)) h
noncomputable def con : Con := CN pats res acc R
theorem okF (a0 : MKeys) (a1 : MKeys) (hg : gd a0 a1) : F (MKeys.r a0) (MKeys.r a1) = ret ((md a0 a1) : Bool) := by
  unfold gd at hg
  obtain ⟨H0, H1⟩ := hg
  unfold F md
  try simp only [S0, MKeys.rs]
  refine call_to (slices_Equal_Sint_int.md a0.fList a1.fList) (slices_Equal_Sint_int.R_eq (a0 := a0.fList) (a1 := a1.fList) ⟨(H0.mono (by decide) (fun x hx => trivial)), (H1.mono (by decide) (fun x hx => trivial))⟩) ?_
  refine bif_out ret (fun c1 => ?_) (fun _ => rfl)
  all_goals first | rfl | (simp only [S0, MKeys.rs, MP]; first | done | rfl)
theorem valid_ : Valid Try.prog Ev 152 con := VV (run := fun _ x => F x.1 x.2) mix tab_ok (.cons slices_Equal_Sint_int.valid_ .nil) Try.func152 (by kernel_rfl) run_eq (fun _ a _ _ hg => ⟨0, okF a.1 a.2 hg⟩)
theorem md_eq (a0 : MKeys) (a1 : MKeys) : md a0 a1 = eqB a0 a1 := by
  unfold md
  cases a0; cases a1
  rw [Bool.eq_iff_iff]
  simp [eqB_iff, ba_beq, MKeys.mk.injEq, slices_Equal_Sint_int.md_eq]
  try (constructor <;> (intro h; simp_all))
end impl_EqualKeys
/-! impl.SameContents -/
namespace impl_SameContents
noncomputable def F (x0 : RHead) (x1 : RHead) : Ans := (bif (x0.fCount == x1.fCount) then ret ((x0.fRoot == x1.fRoot) : Bool) else ret (false : Bool))
def pats : List Pat := [.agg [.int .i64, .int .i64, .int .i64, .int .i64, .int .i64, .int .i64, .int .i64, .int .i64, .sl 3, .int .i64, .sl 3, .int .i64, .int .i64, .sl 3, .int .i64, .bool], .agg [.int .i64, .int .i64, .int .i64, .int .i64, .int .i64, .int .i64, .int .i64, .int .i64, .sl 3, .int .i64, .sl 3, .int .i64, .int .i64, .sl 3, .int .i64, .bool]]
def res : RP := .one (.rd (.bool))
noncomputable abbrev E : Env := { T := assoc Tab, G := conG [], nt := 17 }
set_option maxRecDepth 100000
theorem run_eq (n : Nat) (ls : List L) : runF E (fun _ => []) Try.f289 res n (initS pats ls) = F (RHead.dec ls) (RHead.dec (dropT 16 ls)) := by kernel_rfl
noncomputable def md (a0 : MHead) (a1 : MHead) : Bool := (bif (a0.fCount == a1.fCount) then ((a0.fRoot == a1.fRoot) : Bool) else (false : Bool))
def gd (a0 : MHead) (a1 : MHead) : Prop := True
def acc (ls : List L) : RHead × RHead := ((RHead.dec ls), (RHead.dec (dropT 16 ls)))
noncomputable def R : (RHead × RHead) → Option Bool := RR (p2 gd) (u2 md)
theorem R_eq {a0} {a1} (h : gd a0 a1) : R ((MHead.r a0), (MHead.r a1)) = some (md a0 a1) := RR_eq (a := (a0, a1)) h
noncomputable def con : Con := CN pats res acc R
theorem okF (a0 : MHead) (a1 : MHead) (hg : gd a0 a1) : F (MHead.r a0) (MHead.r a1) = ret ((md a0 a1) : Bool) := by
  unfold F md
  try simp only [S0, MHead.rs]
  refine bif_out ret (fun c1 => ?_) (fun _ => rfl)
  all_goals first | rfl | (simp only [S0, MHead.rs, MP]; first | done | rfl)
theorem valid_ : Valid Try.prog Ev 289 con := VV (run := fun _ x => F x.1 x.2) mix tab_ok .nil Try.func289 (by kernel_rfl) run_eq (fun _ a _ _ hg => ⟨0, okF a.1 a.2 hg⟩)
theorem br (a0 : MHead) (a1 : MHead) : md a0 a1 = spec_SameContents.md a0 a1 := by
  unfold md spec_SameContents.md
  first
  | (simp only [id]; done)
  | (simp only [id]; rfl)
  | rfl
end impl_SameContents
/-! impl.heirCode -/
namespace impl_heirCode
noncomputable def F (x0 : RHead) (x1 : RSigned) : Ans := (bif x0.fFrozen then ret (4 : Int) else (call (impl_NoKeys.R x0.fHeirs) fun v1 => (bif v1 then ret (5 : Int) else (bif (decide (x1.fHead.fTime < (IntKind.i64.wrap (x0.fUntil + x0.fWait)))) then ret (5 : Int) else (bif x1.fHead.fFrozen then ret (6 : Int) else (call (impl_EqualKeys.R (x1.fHead.fKeys, x0.fHeirs)) fun v2 => (bif (!v2) then ret (6 : Int) else (call (impl_SameContents.R (x1.fHead, x0)) fun v3 => (bif (!v3) then ret (6 : Int) else (call (impl_Signed_isSignedBy.R (x1, x0.fHeirs)) fun v4 => (bif (!v4) then ret (7 : Int) else ret (1 : Int))))))))))))
def pats : List Pat := [.agg [.int .i64, .int .i64, .int .i64, .int .i64, .int .i64, .int .i64, .int .i64, .int .i64, .sl 3, .int .i64, .sl 3, .int .i64, .int .i64, .sl 3, .int .i64, .bool], .agg [.int .i64, .int .i64, .int .i64, .int .i64, .int .i64, .int .i64, .int .i64, .int .i64, .sl 3, .int .i64, .sl 3, .int .i64, .int .i64, .sl 3, .int .i64, .bool, .sl 248]]
def res : RP := .one (.rd (.int .i64))
noncomputable abbrev E : Env := { T := assoc Tab, G := conG [(270, impl_NoKeys.con), (152, impl_EqualKeys.con), (289, impl_SameContents.con), (251, impl_Signed_isSignedBy.con)], nt := 48 }
set_option maxRecDepth 100000
theorem run_eq (n : Nat) (ls : List L) : runF E (fun _ => []) Try.f277 res n (initS pats ls) = F (RHead.dec ls) (RSigned.dec (dropT 16 ls)) := by kernel_rfl
noncomputable def md (a0 : MHead) (a1 : MSigned) : Int := (bif a0.fFrozen then (4 : Int) else (bif (impl_NoKeys.md a0.fHeirs) then (5 : Int) else (bif (decide (a1.fHead.fTime < (IntKind.i64.wrap (a0.fUntil + a0.fWait)))) then (5 : Int) else (bif a1.fHead.fFrozen then (6 : Int) else (bif (!(impl_EqualKeys.md a1.fHead.fKeys a0.fHeirs)) then (6 : Int) else (bif (!(impl_SameContents.md a1.fHead a0)) then (6 : Int) else (bif (!(impl_Signed_isSignedBy.md a1 a0.fHeirs)) then (7 : Int) else (1 : Int))))))))
def gd (a0 : MHead) (a1 : MSigned) : Prop := (MHead.Sm (2 ^ 21) a0) ∧ (MSigned.Sm (2 ^ 21) a1)
def acc (ls : List L) : RHead × RSigned := ((RHead.dec ls), (RSigned.dec (dropT 16 ls)))
noncomputable def R : (RHead × RSigned) → Option Int := RR (p2 gd) (u2 md)
theorem R_eq {a0} {a1} (h : gd a0 a1) : R ((MHead.r a0), (MSigned.r a1)) = some (md a0 a1) := RR_eq (a := (a0, a1)) h
noncomputable def con : Con := CN pats res acc R
theorem okF (a0 : MHead) (a1 : MSigned) (hg : gd a0 a1) : F (MHead.r a0) (MSigned.r a1) = ret ((md a0 a1) : Int) := by
  unfold gd at hg
  obtain ⟨H0, H1⟩ := hg
  unfold F md
  try simp only [S0, MHead.rs, MSigned.rs]
  refine bif_out ret (fun _ => rfl) (fun c1 => ?_)
  refine call_to (impl_NoKeys.md a0.fHeirs) (impl_NoKeys.R_eq (a0 := a0.fHeirs) trivial) ?_
  refine bif_out ret (fun _ => rfl) (fun c2 => ?_)
  refine bif_out ret (fun _ => rfl) (fun c3 => ?_)
  refine bif_out ret (fun _ => rfl) (fun c4 => ?_)
  refine call_to (impl_EqualKeys.md a1.fHead.fKeys a0.fHeirs) (impl_EqualKeys.R_eq (a0 := a1.fHead.fKeys) (a1 := a0.fHeirs) ⟨H1.1.1, H0.2.1⟩) ?_
  refine bif_out ret (fun _ => rfl) (fun c5 => ?_)
  refine call_to (impl_SameContents.md a1.fHead a0) (impl_SameContents.R_eq (a0 := a1.fHead) (a1 := a0) trivial) ?_
  refine bif_out ret (fun _ => rfl) (fun c6 => ?_)
  refine call_to (impl_Signed_isSignedBy.md a1 a0.fHeirs) (impl_Signed_isSignedBy.R_eq (a0 := a1) (a1 := a0.fHeirs) ⟨H1, H0.2.1⟩) ?_
  refine bif_out ret (fun _ => rfl) (fun _ => rfl)
theorem valid_ : Valid Try.prog Ev 277 con := VV (run := fun _ x => F x.1 x.2) mix tab_ok (.cons impl_NoKeys.valid_ (.cons impl_EqualKeys.valid_ (.cons impl_SameContents.valid_ (.cons impl_Signed_isSignedBy.valid_ .nil)))) Try.func277 (by kernel_rfl) run_eq (fun _ a _ _ hg => ⟨0, okF a.1 a.2 hg⟩)
end impl_heirCode
/-! impl.judgeCode -/
namespace impl_judgeCode
noncomputable def F (x0 : RHead) (x1 : RSigned) : Ans := (call (impl_SameContents.R (x1.fHead, x0)) fun v1 => (bif v1 then (call (impl_EqualKeys.R (x1.fHead.fJudge, x0.fJudge)) fun v2 => (bif v2 then (call (impl_EqualKeys.R (x1.fHead.fHeirs, x0.fHeirs)) fun v3 => (bif v3 then (call (impl_NoKeys.R x0.fJudge) fun v4 => (bif v4 then ret (5 : Int) else (bif (x1.fHead.fFrozen == x0.fFrozen) then ret (6 : Int) else (bif (!(x1.fHead.fWait == x0.fWait)) then ret (6 : Int) else (bif x1.fHead.fFrozen then (call (impl_EqualKeys.R (x1.fHead.fKeys, x0.fKeys)) fun v5 => (bif (!v5) then ret (6 : Int) else (call (impl_Signed_isSignedBy.R (x1, x0.fJudge)) fun v6 => (bif (!v6) then ret (7 : Int) else ret (1 : Int))))) else (call (impl_Signed_isSignedBy.R (x1, x0.fJudge)) fun v7 => (bif (!v7) then ret (7 : Int) else ret (1 : Int)))))))) else (call (impl_NoKeys.R x0.fJudge) fun v8 => (bif v8 then ret (5 : Int) else (bif (x1.fHead.fFrozen == x0.fFrozen) then ret (6 : Int) else ret (6 : Int)))))) else (call (impl_NoKeys.R x0.fJudge) fun v9 => (bif v9 then ret (5 : Int) else (bif (x1.fHead.fFrozen == x0.fFrozen) then ret (6 : Int) else ret (6 : Int)))))) else (call (impl_NoKeys.R x0.fJudge) fun v10 => (bif v10 then ret (5 : Int) else (bif (x1.fHead.fFrozen == x0.fFrozen) then ret (6 : Int) else ret (6 : Int))))))
def pats : List Pat := [.agg [.int .i64, .int .i64, .int .i64, .int .i64, .int .i64, .int .i64, .int .i64, .int .i64, .sl 3, .int .i64, .sl 3, .int .i64, .int .i64, .sl 3, .int .i64, .bool], .agg [.int .i64, .int .i64, .int .i64, .int .i64, .int .i64, .int .i64, .int .i64, .int .i64, .sl 3, .int .i64, .sl 3, .int .i64, .int .i64, .sl 3, .int .i64, .bool, .sl 248]]
def res : RP := .one (.rd (.int .i64))
noncomputable abbrev E : Env := { T := assoc Tab, G := conG [(289, impl_SameContents.con), (152, impl_EqualKeys.con), (270, impl_NoKeys.con), (251, impl_Signed_isSignedBy.con)], nt := 65 }
set_option maxRecDepth 100000
theorem run_eq (n : Nat) (ls : List L) : runF E (fun _ => []) Try.f278 res n (initS pats ls) = F (RHead.dec ls) (RSigned.dec (dropT 16 ls)) := by kernel_rfl
noncomputable def md (a0 : MHead) (a1 : MSigned) : Int := (bif (impl_SameContents.md a1.fHead a0) then (bif (impl_EqualKeys.md a1.fHead.fJudge a0.fJudge) then (bif (impl_EqualKeys.md a1.fHead.fHeirs a0.fHeirs) then (bif (impl_NoKeys.md a0.fJudge) then (5 : Int) else (bif (a1.fHead.fFrozen == a0.fFrozen) then (6 : Int) else (bif (!(a1.fHead.fWait == a0.fWait)) then (6 : Int) else (bif a1.fHead.fFrozen then (bif (!(impl_EqualKeys.md a1.fHead.fKeys a0.fKeys)) then (6 : Int) else (bif (!(impl_Signed_isSignedBy.md a1 a0.fJudge)) then (7 : Int) else (1 : Int))) else (bif (!(impl_Signed_isSignedBy.md a1 a0.fJudge)) then (7 : Int) else (1 : Int)))))) else (bif (impl_NoKeys.md a0.fJudge) then (5 : Int) else (bif (a1.fHead.fFrozen == a0.fFrozen) then (6 : Int) else (6 : Int)))) else (bif (impl_NoKeys.md a0.fJudge) then (5 : Int) else (bif (a1.fHead.fFrozen == a0.fFrozen) then (6 : Int) else (6 : Int)))) else (bif (impl_NoKeys.md a0.fJudge) then (5 : Int) else (bif (a1.fHead.fFrozen == a0.fFrozen) then (6 : Int) else (6 : Int))))
def gd (a0 : MHead) (a1 : MSigned) : Prop := (MHead.Sm (2 ^ 21) a0) ∧ (MSigned.Sm (2 ^ 21) a1)
def acc (ls : List L) : RHead × RSigned := ((RHead.dec ls), (RSigned.dec (dropT 16 ls)))
noncomputable def R : (RHead × RSigned) → Option Int := RR (p2 gd) (u2 md)
theorem R_eq {a0} {a1} (h : gd a0 a1) : R ((MHead.r a0), (MSigned.r a1)) = some (md a0 a1) := RR_eq (a := (a0, a1)) h
noncomputable def con : Con := CN pats res acc R
theorem okF (a0 : MHead) (a1 : MSigned) (hg : gd a0 a1) : F (MHead.r a0) (MSigned.r a1) = ret ((md a0 a1) : Int) := by
  unfold gd at hg
  obtain ⟨H0, H1⟩ := hg
  unfold F md
  try simp only [S0, MHead.rs, MSigned.rs]
  refine call_to (impl_SameContents.md a1.fHead a0) (impl_SameContents.R_eq (a0 := a1.fHead) (a1 := a0) trivial) ?_
  refine bif_out ret (fun c1 => ?_) (fun c1 => ?_)
  · refine call_to (impl_EqualKeys.md a1.fHead.fJudge a0.fJudge) (impl_EqualKeys.R_eq (a0 := a1.fHead.fJudge) (a1 := a0.fJudge) ⟨H1.1.2.2, H0.2.2⟩) ?_
    refine bif_out ret (fun c2 => ?_) (fun c2 => ?_)
    · refine call_to (impl_EqualKeys.md a1.fHead.fHeirs a0.fHeirs) (impl_EqualKeys.R_eq (a0 := a1.fHead.fHeirs) (a1 := a0.fHeirs) ⟨H1.1.2.1, H0.2.1⟩) ?_
      refine bif_out ret (fun c3 => ?_) (fun c3 => ?_)
      · refine call_to (impl_NoKeys.md a0.fJudge) (impl_NoKeys.R_eq (a0 := a0.fJudge) trivial) ?_
        refine bif_out ret (fun _ => rfl) (fun c4 => ?_)
        refine bif_out ret (fun _ => rfl) (fun c5 => ?_)
        refine bif_out ret (fun _ => rfl) (fun c6 => ?_)
        refine bif_out ret (fun c7 => ?_) (fun c7 => ?_)
        · refine call_to (impl_EqualKeys.md a1.fHead.fKeys a0.fKeys) (impl_EqualKeys.R_eq (a0 := a1.fHead.fKeys) (a1 := a0.fKeys) ⟨H1.1.1, H0.1⟩) ?_
          refine bif_out ret (fun _ => rfl) (fun c8 => ?_)
          refine call_to (impl_Signed_isSignedBy.md a1 a0.fJudge) (impl_Signed_isSignedBy.R_eq (a0 := a1) (a1 := a0.fJudge) ⟨H1, H0.2.2⟩) ?_
          refine bif_out ret (fun _ => rfl) (fun _ => rfl)
        · refine call_to (impl_Signed_isSignedBy.md a1 a0.fJudge) (impl_Signed_isSignedBy.R_eq (a0 := a1) (a1 := a0.fJudge) ⟨H1, H0.2.2⟩) ?_
          refine bif_out ret (fun _ => rfl) (fun _ => rfl)
      · refine call_to (impl_NoKeys.md a0.fJudge) (impl_NoKeys.R_eq (a0 := a0.fJudge) trivial) ?_
        refine bif_out ret (fun _ => rfl) (fun c11 => ?_)
        refine bif_out ret (fun _ => rfl) (fun _ => rfl)
    · refine call_to (impl_NoKeys.md a0.fJudge) (impl_NoKeys.R_eq (a0 := a0.fJudge) trivial) ?_
      refine bif_out ret (fun _ => rfl) (fun c13 => ?_)
      refine bif_out ret (fun _ => rfl) (fun _ => rfl)
  · refine call_to (impl_NoKeys.md a0.fJudge) (impl_NoKeys.R_eq (a0 := a0.fJudge) trivial) ?_
    refine bif_out ret (fun _ => rfl) (fun c15 => ?_)
    refine bif_out ret (fun _ => rfl) (fun _ => rfl)
theorem valid_ : Valid Try.prog Ev 278 con := VV (run := fun _ x => F x.1 x.2) mix tab_ok (.cons impl_SameContents.valid_ (.cons impl_EqualKeys.valid_ (.cons impl_NoKeys.valid_ (.cons impl_Signed_isSignedBy.valid_ .nil)))) Try.func278 (by kernel_rfl) run_eq (fun _ a _ _ hg => ⟨0, okF a.1 a.2 hg⟩)
end impl_judgeCode
end Go.DM
