/- What the functions compute that the law reaches, and that the law returns true. Conditions: none. -/
import Derived.Test.YtfghhicdmjiaaaaGreatTy
import Derived.Test.YtfghhicdmjiaaaaGreatProg
import Derived.Lib.AppendZerosOnto
import Derived.Lib.Bytealg
import Derived.Laws.Externs
import Derived.Lib.Walk
import Derived.Lib.Hide
import Derived.Lib.Strings
set_option linter.all false
namespace Go.DM
open Go.Proofs
def Tab : List (Nat × TI) := [
  (2, ⟨[.int .i64], false, [], 8, false⟩),
  (3, ⟨[.int .i64], false, [], 8, false⟩),
  (4, ⟨[.bool], false, [], 1, false⟩),
  (5, ⟨[.int .u8], false, [], 1, false⟩),
  (6, ⟨[.int .u8], false, [], 1, false⟩),
  (7, ⟨[.int .i64, .int .i64, .bool, .int .u8], true, [(0, 2), (1, 3), (2, 4), (3, 6)], 24, false⟩),
  (8, ⟨[.int .i64, .int .i64, .bool, .int .u8], true, [(0, 2), (1, 3), (2, 4), (3, 6)], 24, false⟩),
  (9, ⟨[.str], false, [], 16, false⟩),
  (10, ⟨[.str], false, [], 16, false⟩),
  (11, ⟨[.str], false, [], 16, false⟩),
  (12, ⟨[.int .u64], false, [], 8, false⟩),
  (13, ⟨[.str, .int .u64], true, [(0, 9), (1, 12)], 24, false⟩),
  (14, ⟨[.str, .int .u64], true, [(0, 9), (1, 12)], 24, false⟩),
  (21, ⟨[.int .i32], false, [], 4, false⟩),
  (22, ⟨[.sl 95], false, [], 24, false⟩),
  (24, ⟨[.sl 96], false, [], 24, false⟩),
  (31, ⟨[.sl 114], false, [], 24, false⟩),
  (33, ⟨[.sl 3], false, [], 24, false⟩),
  (34, ⟨[.sl 3, .int .i64], true, [(0, 33), (1, 3)], 32, false⟩),
  (35, ⟨[.sl 3, .int .i64], true, [(0, 33), (1, 3)], 32, false⟩),
  (38, ⟨[.sl 122], false, [], 24, false⟩),
  (45, ⟨[.sl 31], false, [], 24, false⟩),
  (46, ⟨[.sl 187], false, [], 24, false⟩),
  (47, ⟨[.sl 31, .sl 187], true, [(0, 45), (1, 46)], 48, false⟩),
  (48, ⟨[.sl 31, .sl 187], true, [(0, 45), (1, 46)], 48, false⟩),
  (50, ⟨[.sl 38], false, [], 24, false⟩),
  (51, ⟨[.sl 134], false, [], 24, false⟩),
  (52, ⟨[.sl 38, .sl 134], true, [(0, 50), (1, 51)], 48, false⟩),
  (53, ⟨[.sl 38, .sl 134], true, [(0, 50), (1, 51)], 48, false⟩),
  (60, ⟨[.sl 195], false, [], 24, false⟩),
  (61, ⟨[.sl 195], true, [(0, 60)], 24, false⟩),
  (62, ⟨[.sl 195], true, [(0, 60)], 24, false⟩),
  (64, ⟨[.sl 148], false, [], 24, false⟩),
  (65, ⟨[.sl 148], true, [(0, 64)], 24, false⟩),
  (66, ⟨[.sl 148], true, [(0, 64)], 24, false⟩),
  (72, ⟨[.sl 9], false, [], 24, false⟩),
  (73, ⟨[.str, .int .i64, .int .i64, .sl 9], true, [(0, 9), (1, 3), (2, 3), (3, 72)], 56, false⟩),
  (74, ⟨[.str, .int .i64, .int .i64, .sl 9], true, [(0, 9), (1, 3), (2, 3), (3, 72)], 56, false⟩),
  (75, ⟨[.int .i64, .sl 3], true, [(0, 3), (1, 33)], 32, false⟩),
  (76, ⟨[.int .i64, .sl 3], true, [(0, 3), (1, 33)], 32, false⟩),
  (77, ⟨[.int .i64, .str, .int .i64, .int .i64, .sl 9, .str, .int .i64, .int .i64, .sl 9, .int .i64, .sl 3, .int .i64, .sl 3], true, [(0, 3), (1, 74), (5, 74), (9, 76), (11, 76)], 184, false⟩),
  (78, ⟨[.int .i64, .str, .int .i64, .int .i64, .sl 9, .str, .int .i64, .int .i64, .sl 9, .int .i64, .sl 3, .int .i64, .sl 3], true, [(0, 3), (1, 74), (5, 74), (9, 76), (11, 76)], 184, false⟩),
  (79, ⟨[.sl 114, .bool, .str, .int .i64, .int .i64, .sl 9, .int .i64, .sl 3, .int .i64, .str, .int .i64, .int .i64, .sl 9, .str, .int .i64, .int .i64, .sl 9, .int .i64, .sl 3, .int .i64, .sl 3], true, [(0, 31), (1, 4), (2, 74), (6, 76), (8, 78)], 304, false⟩),
  (80, ⟨[.sl 114, .bool, .str, .int .i64, .int .i64, .sl 9, .int .i64, .sl 3, .int .i64, .str, .int .i64, .int .i64, .sl 9, .str, .int .i64, .int .i64, .sl 9, .int .i64, .sl 3, .int .i64, .sl 3], true, [(0, 31), (1, 4), (2, 74), (6, 76), (8, 78)], 304, false⟩),
  (83, ⟨[.str, .int .i64, .int .i64, .sl 9], true, [(0, 9), (1, 3), (2, 3), (3, 72)], 56, false⟩),
  (84, ⟨[.int .i64, .sl 3], true, [(0, 3), (1, 33)], 32, false⟩),
  (85, ⟨[.int .i64, .str, .int .i64, .int .i64, .sl 9, .str, .int .i64, .int .i64, .sl 9, .int .i64, .sl 3, .int .i64, .sl 3], true, [(0, 3), (1, 83), (5, 83), (9, 84), (11, 84)], 184, false⟩),
  (86, ⟨[.int .i64, .str, .int .i64, .int .i64, .sl 9, .str, .int .i64, .int .i64, .sl 9, .int .i64, .sl 3, .int .i64, .sl 3], true, [(0, 3), (1, 83), (5, 83), (9, 84), (11, 84)], 184, false⟩),
  (87, ⟨[.sl 122, .bool, .str, .int .i64, .int .i64, .sl 9, .int .i64, .sl 3, .int .i64, .str, .int .i64, .int .i64, .sl 9, .str, .int .i64, .int .i64, .sl 9, .int .i64, .sl 3, .int .i64, .sl 3], true, [(0, 38), (1, 4), (2, 83), (6, 84), (8, 86)], 304, false⟩),
  (88, ⟨[.sl 122, .bool, .str, .int .i64, .int .i64, .sl 9, .int .i64, .sl 3, .int .i64, .str, .int .i64, .int .i64, .sl 9, .str, .int .i64, .int .i64, .sl 9, .int .i64, .sl 3, .int .i64, .sl 3], true, [(0, 38), (1, 4), (2, 83), (6, 84), (8, 86)], 304, false⟩),
  (94, ⟨[.str, .int .i64], true, [(0, 9), (1, 3)], 24, false⟩),
  (95, ⟨[.str, .int .i64], true, [(0, 9), (1, 3)], 24, true⟩),
  (96, ⟨[.str, .int .i64], true, [(0, 9), (1, 3)], 24, true⟩),
  (109, ⟨[.sl 3, .int .i64], true, [(0, 33), (1, 3)], 32, false⟩),
  (110, ⟨[.int .i64, .int .i64, .int .i64, .int .i64, .int .i64, .int .i64, .int .i64, .int .i64, .sl 3, .int .i64, .sl 3, .int .i64, .int .i64, .sl 3, .int .i64, .bool], true, [(0, 3), (1, 3), (2, 3), (3, 3), (4, 3), (5, 3), (6, 3), (7, 3), (8, 109), (10, 109), (12, 3), (13, 109), (15, 4)], 176, false⟩),
  (111, ⟨[.int .i64, .int .i64, .int .i64, .int .i64, .int .i64, .int .i64, .int .i64, .int .i64, .sl 3, .int .i64, .sl 3, .int .i64, .int .i64, .sl 3, .int .i64, .bool], true, [(0, 3), (1, 3), (2, 3), (3, 3), (4, 3), (5, 3), (6, 3), (7, 3), (8, 109), (10, 109), (12, 3), (13, 109), (15, 4)], 176, false⟩),
  (112, ⟨[.sl 216], false, [], 24, false⟩),
  (113, ⟨[.int .i64, .int .i64, .int .i64, .int .i64, .int .i64, .int .i64, .int .i64, .int .i64, .sl 3, .int .i64, .sl 3, .int .i64, .int .i64, .sl 3, .int .i64, .bool, .sl 216], true, [(0, 111), (16, 112)], 200, false⟩),
  (114, ⟨[.int .i64, .int .i64, .int .i64, .int .i64, .int .i64, .int .i64, .int .i64, .int .i64, .sl 3, .int .i64, .sl 3, .int .i64, .int .i64, .sl 3, .int .i64, .bool, .sl 216], true, [(0, 111), (16, 112)], 200, false⟩),
  (115, ⟨[.int .i64, .int .i64, .int .i64, .int .i64, .int .i64, .int .i64, .int .i64, .int .i64, .sl 3, .int .i64, .sl 3, .int .i64, .int .i64, .sl 3, .int .i64, .bool], true, [(0, 3), (1, 3), (2, 3), (3, 3), (4, 3), (5, 3), (6, 3), (7, 3), (8, 35), (10, 35), (12, 3), (13, 35), (15, 4)], 176, false⟩),
  (116, ⟨[.int .i64, .int .i64, .int .i64, .int .i64, .int .i64, .int .i64, .int .i64, .int .i64, .sl 3, .int .i64, .sl 3, .int .i64, .int .i64, .sl 3, .int .i64, .bool], true, [(0, 3), (1, 3), (2, 3), (3, 3), (4, 3), (5, 3), (6, 3), (7, 3), (8, 35), (10, 35), (12, 3), (13, 35), (15, 4)], 176, false⟩),
  (120, ⟨[.sl 184], false, [], 24, false⟩),
  (121, ⟨[.int .i64, .int .i64, .int .i64, .int .i64, .int .i64, .int .i64, .int .i64, .int .i64, .sl 3, .int .i64, .sl 3, .int .i64, .int .i64, .sl 3, .int .i64, .bool, .sl 184], true, [(0, 116), (16, 120)], 200, false⟩),
  (122, ⟨[.int .i64, .int .i64, .int .i64, .int .i64, .int .i64, .int .i64, .int .i64, .int .i64, .sl 3, .int .i64, .sl 3, .int .i64, .int .i64, .sl 3, .int .i64, .bool, .sl 184], true, [(0, 116), (16, 120)], 200, false⟩),
  (133, ⟨[.int .i64, .int .i64, .int .i64, .int .i64, .int .i64, .int .i64, .int .i64, .int .i64, .sl 3, .int .i64, .sl 3, .int .i64, .int .i64, .sl 3, .int .i64, .bool, .sl 184, .int .i64, .int .i64, .int .i64, .int .i64, .int .i64, .int .i64, .int .i64, .int .i64, .sl 3, .int .i64, .sl 3, .int .i64, .int .i64, .sl 3, .int .i64, .bool, .sl 184, .int .i64, .int .i64, .int .i64, .int .i64, .int .i64, .int .i64, .int .i64, .int .i64, .sl 3, .int .i64, .sl 3, .int .i64, .int .i64, .sl 3, .int .i64, .bool, .sl 184], true, [(0, 122), (17, 122), (34, 122)], 600, false⟩),
  (134, ⟨[.int .i64, .int .i64, .int .i64, .int .i64, .int .i64, .int .i64, .int .i64, .int .i64, .sl 3, .int .i64, .sl 3, .int .i64, .int .i64, .sl 3, .int .i64, .bool, .sl 184, .int .i64, .int .i64, .int .i64, .int .i64, .int .i64, .int .i64, .int .i64, .int .i64, .sl 3, .int .i64, .sl 3, .int .i64, .int .i64, .sl 3, .int .i64, .bool, .sl 184, .int .i64, .int .i64, .int .i64, .int .i64, .int .i64, .int .i64, .int .i64, .int .i64, .sl 3, .int .i64, .sl 3, .int .i64, .int .i64, .sl 3, .int .i64, .bool, .sl 184], true, [(0, 122), (17, 122), (34, 122)], 600, false⟩),
  (147, ⟨[.int .i64, .str, .sl 122, .bool, .str, .int .i64, .int .i64, .sl 9, .int .i64, .sl 3, .int .i64, .str, .int .i64, .int .i64, .sl 9, .str, .int .i64, .int .i64, .sl 9, .int .i64, .sl 3, .int .i64, .sl 3], true, [(0, 3), (1, 9), (2, 88)], 328, false⟩),
  (148, ⟨[.int .i64, .str, .sl 122, .bool, .str, .int .i64, .int .i64, .sl 9, .int .i64, .sl 3, .int .i64, .str, .int .i64, .int .i64, .sl 9, .str, .int .i64, .int .i64, .sl 9, .int .i64, .sl 3, .int .i64, .sl 3], true, [(0, 3), (1, 9), (2, 88)], 328, false⟩),
  (174, ⟨[.sl 5], false, [], 24, false⟩),
  (183, ⟨[.int .i64, .int .i64], true, [(0, 3), (1, 3)], 16, false⟩),
  (184, ⟨[.int .i64, .int .i64], true, [(0, 3), (1, 3)], 16, true⟩),
  (186, ⟨[.int .i64, .int .i64, .int .i64, .int .i64, .int .i64, .int .i64, .int .i64, .int .i64, .sl 3, .int .i64, .sl 3, .int .i64, .int .i64, .sl 3, .int .i64, .bool, .sl 216, .int .i64, .int .i64, .int .i64, .int .i64, .int .i64, .int .i64, .int .i64, .int .i64, .sl 3, .int .i64, .sl 3, .int .i64, .int .i64, .sl 3, .int .i64, .bool, .sl 216, .int .i64, .int .i64, .int .i64, .int .i64, .int .i64, .int .i64, .int .i64, .int .i64, .sl 3, .int .i64, .sl 3, .int .i64, .int .i64, .sl 3, .int .i64, .bool, .sl 216], true, [(0, 114), (17, 114), (34, 114)], 600, false⟩),
  (187, ⟨[.int .i64, .int .i64, .int .i64, .int .i64, .int .i64, .int .i64, .int .i64, .int .i64, .sl 3, .int .i64, .sl 3, .int .i64, .int .i64, .sl 3, .int .i64, .bool, .sl 216, .int .i64, .int .i64, .int .i64, .int .i64, .int .i64, .int .i64, .int .i64, .int .i64, .sl 3, .int .i64, .sl 3, .int .i64, .int .i64, .sl 3, .int .i64, .bool, .sl 216, .int .i64, .int .i64, .int .i64, .int .i64, .int .i64, .int .i64, .int .i64, .int .i64, .sl 3, .int .i64, .sl 3, .int .i64, .int .i64, .sl 3, .int .i64, .bool, .sl 216], true, [(0, 114), (17, 114), (34, 114)], 600, false⟩),
  (194, ⟨[.int .i64, .str, .sl 114, .bool, .str, .int .i64, .int .i64, .sl 9, .int .i64, .sl 3, .int .i64, .str, .int .i64, .int .i64, .sl 9, .str, .int .i64, .int .i64, .sl 9, .int .i64, .sl 3, .int .i64, .sl 3], true, [(0, 3), (1, 9), (2, 80)], 328, false⟩),
  (195, ⟨[.int .i64, .str, .sl 114, .bool, .str, .int .i64, .int .i64, .sl 9, .int .i64, .sl 3, .int .i64, .str, .int .i64, .int .i64, .sl 9, .str, .int .i64, .int .i64, .sl 9, .int .i64, .sl 3, .int .i64, .sl 3], true, [(0, 3), (1, 9), (2, 80)], 328, false⟩),
  (216, ⟨[.int .i64, .int .i64], true, [(0, 3), (1, 3)], 16, true⟩),
  (229, ⟨[.int .u32], false, [], 4, false⟩),
  (232, ⟨[.int .i32, .int .u32], true, [(0, 21), (1, 229)], 8, false⟩),
  (233, ⟨[.int .i32, .int .u32], true, [(0, 21), (1, 229)], 8, false⟩),
  (254, ⟨[.sl 83], false, [], 24, false⟩),
  (263, ⟨[.sl 33], false, [], 24, false⟩),
  (322, ⟨[.int .u64], false, [], 8, false⟩),
  (334, ⟨[.int .u8], false, [], 1, false⟩),
  (335, ⟨[.int .u8], false, [], 1, false⟩),
  (338, ⟨[.int .i32], false, [], 4, false⟩),
  (339, ⟨[.int .i32], false, [], 4, false⟩),
  (354, ⟨[.sl 5], false, [], 24, false⟩)]
noncomputable abbrev Ev : Env := Env0 Tab
theorem tab_ok : tableB Tryz.prog Tab = true := by kernel_rfl
theorem mix : Tryz.prog.follows .mixedOrders = true := by kernel_rfl
/-! laws.szIntS -/
namespace laws_szIntS
noncomputable def F (x0 : List (List L)) (x1 : Int) : Ans := (bif (decide ((IntKind.i64.wrap (x1 - (x0.length : Int))) < 0)) then ret ((-1) : Int) else ret ((IntKind.i64.wrap (x1 - (x0.length : Int))) : Int))
def pats : List Pat := [.rd (.sl 3), .rd (.int .i64)]
def res : RP := .one (.rd (.int .i64))
noncomputable abbrev E : Env := { T := assoc Tab, G := conG [], nt := 12 }
set_option maxRecDepth 100000
theorem run_eq (n : Nat) (ls : List L) : runF E (fun _ => []) Tryz.f166 res n (initS pats ls) = F (ls.headD .hole).toSl ((dropT 1 ls).headD .hole).toInt := by kernel_rfl
noncomputable def md (a0 : List Int) (a1 : Int) : Int := szM (szL (fun y : Int => 0) a0) a1
def gd (a0 : List Int) (a1 : Int) : Prop := (SmL maxLen (fun y : Int => True) a0) ∧ 0 ≤ a1 ∧ a1 ≤ 1048576
def acc (ls : List L) : List (List L) × Int := ((ls.headD .hole).toSl, ((dropT 1 ls).headD .hole).toInt)
noncomputable def R : (List (List L) × Int) → Option Int := RR (p2 gd) (u2 md)
theorem R_eq {a0} {a1} (h : gd a0 a1) : R ((a0.map iRow), a1) = some (md a0 a1) := RR_eq (a := (a0, a1)) h
noncomputable def con : Con := CN pats res acc R
theorem okF (a0 : List Int) (a1 : Int) (hg : gd a0 a1) : F (a0.map iRow) a1 = ret ((md a0 a1) : Int) := by
  obtain ⟨hs, g0, g1⟩ := hg
  unfold F md
  rw [List.length_map, sz_wrap g0 g1 hs.1]
  have e : szL (fun y : Int => 0) a0 = a0.length := by
    unfold szL
    have : (a0.map (fun y : Int => 0)).sum = 0 := sum_zero (fun _ => rfl) a0
    omega
  rw [e]
  by_cases hc : a1 < ((a0.length : Nat) : Int)
  · rw [szM_neg hc, decide_eq_true (by omega)]; rfl
  · rw [szM_pos hc, decide_eq_false (by omega)]; rfl
theorem valid_ : Valid Tryz.prog Ev 166 con := VV (run := fun _ x => F x.1 x.2) mix tab_ok .nil Tryz.func166 (by kernel_rfl) run_eq (fun _ a _ _ hg => ⟨0, okF a.1 a.2 hg⟩)
end laws_szIntS
/-! laws.szKeys -/
namespace laws_szKeys
noncomputable def F (x0 : RKeys) (x1 : Int) : Ans := (call (laws_szIntS.R (x0.fList, x1)) fun v1 => (bif (decide (v1 < 0)) then ret ((-1) : Int) else ret (v1 : Int)))
def pats : List Pat := [.agg [.sl 3, .int .i64], .rd (.int .i64)]
def res : RP := .one (.rd (.int .i64))
noncomputable abbrev E : Env := { T := assoc Tab, G := conG [(166, laws_szIntS.con)], nt := 12 }
set_option maxRecDepth 100000
theorem run_eq (n : Nat) (ls : List L) : runF E (fun _ => []) Tryz.f182 res n (initS pats ls) = F (RKeys.dec ls) ((dropT 2 ls).headD .hole).toInt := by kernel_rfl
noncomputable def md (a0 : MKeys) (a1 : Int) : Int := szM (MKeys.size a0) a1
def gd (a0 : MKeys) (a1 : Int) : Prop := (MKeys.Sm maxLen a0) ∧ 0 ≤ a1 ∧ a1 ≤ 1048576
def acc (ls : List L) : RKeys × Int := ((RKeys.dec ls), ((dropT 2 ls).headD .hole).toInt)
noncomputable def R : (RKeys × Int) → Option Int := RR (p2 gd) (u2 md)
theorem R_eq {a0} {a1} (h : gd a0 a1) : R ((MKeys.r a0), a1) = some (md a0 a1) := RR_eq (a := (a0, a1)) h
noncomputable def con : Con := CN pats res acc R
theorem okF (a0 : MKeys) (a1 : Int) (hg : gd a0 a1) : F (MKeys.r a0) a1 = ret ((md a0 a1) : Int) := by
  obtain ⟨hs, g0, g1⟩ := hg
  unfold md
  show (call (laws_szIntS.R ((a0.fList.map iRow), a1)) fun v1 => (bif (decide (v1 < 0)) then ret ((-1) : Int) else ret (v1 : Int))) = _
  rw [call_eq (laws_szIntS.R_eq (a1 := a1) ⟨hs, by omega, by omega⟩)]
  unfold laws_szIntS.md
  by_cases c0 : a1 < ((szL (fun y : Int => 0) a0.fList : Nat) : Int)
  · rw [szM_neg c0]; rw [show szM (MKeys.size a0) a1 = -1 from szM_neg (by unfold MKeys.size; omega)]; try rfl
  rw [szM_pos c0, dec_neg (by omega), cond_false]
  rw [show szM (MKeys.size a0) a1 = a1 - ((szL (fun y : Int => 0) a0.fList : Nat) : Int) from by rw [szM_pos (by unfold MKeys.size; omega)]; unfold MKeys.size; omega]
theorem valid_ : Valid Tryz.prog Ev 182 con := VV (run := fun _ x => F x.1 x.2) mix tab_ok (.cons laws_szIntS.valid_ .nil) Tryz.func182 (by kernel_rfl) run_eq (fun _ a _ _ hg => ⟨0, okF a.1 a.2 hg⟩)
end laws_szKeys
/-! laws.szHead -/
namespace laws_szHead
noncomputable def F (x0 : RHead) (x1 : Int) : Ans := (call (laws_szKeys.R (x0.fKeys, x1)) fun v1 => (bif (decide (v1 < 0)) then ret ((-1) : Int) else (call (laws_szKeys.R (x0.fHeirs, v1)) fun v2 => (bif (decide (v2 < 0)) then ret ((-1) : Int) else (call (laws_szKeys.R (x0.fJudge, v2)) fun v3 => (bif (decide (v3 < 0)) then ret ((-1) : Int) else ret (v3 : Int)))))))
def pats : List Pat := [.agg [.int .i64, .int .i64, .int .i64, .int .i64, .int .i64, .int .i64, .int .i64, .int .i64, .sl 3, .int .i64, .sl 3, .int .i64, .int .i64, .sl 3, .int .i64, .bool], .rd (.int .i64)]
def res : RP := .one (.rd (.int .i64))
noncomputable abbrev E : Env := { T := assoc Tab, G := conG [(182, laws_szKeys.con)], nt := 24 }
set_option maxRecDepth 100000
theorem run_eq (n : Nat) (ls : List L) : runF E (fun _ => []) Tryz.f127 res n (initS pats ls) = F (RHead.dec ls) ((dropT 16 ls).headD .hole).toInt := by kernel_rfl
noncomputable def md (a0 : MHead) (a1 : Int) : Int := szM (MHead.size a0) a1
def gd (a0 : MHead) (a1 : Int) : Prop := (MHead.Sm maxLen a0) ∧ 0 ≤ a1 ∧ a1 ≤ 1048576
def acc (ls : List L) : RHead × Int := ((RHead.dec ls), ((dropT 16 ls).headD .hole).toInt)
noncomputable def R : (RHead × Int) → Option Int := RR (p2 gd) (u2 md)
theorem R_eq {a0} {a1} (h : gd a0 a1) : R ((MHead.r a0), a1) = some (md a0 a1) := RR_eq (a := (a0, a1)) h
noncomputable def con : Con := CN pats res acc R
theorem okF (a0 : MHead) (a1 : Int) (hg : gd a0 a1) : F (MHead.r a0) a1 = ret ((md a0 a1) : Int) := by
  obtain ⟨hs, g0, g1⟩ := hg
  unfold md
  show (call (laws_szKeys.R ((MKeys.r a0.fKeys), a1)) fun v1 => (bif (decide (v1 < 0)) then ret ((-1) : Int) else (call (laws_szKeys.R ((MKeys.r a0.fHeirs), v1)) fun v2 => (bif (decide (v2 < 0)) then ret ((-1) : Int) else (call (laws_szKeys.R ((MKeys.r a0.fJudge), v2)) fun v3 => (bif (decide (v3 < 0)) then ret ((-1) : Int) else ret (v3 : Int))))))) = _
  rw [call_eq (laws_szKeys.R_eq (a1 := a1) ⟨hs.1, by omega, by omega⟩)]
  unfold laws_szKeys.md
  by_cases c0 : a1 < ((MKeys.size a0.fKeys : Nat) : Int)
  · rw [szM_neg c0]; rw [show szM (MHead.size a0) a1 = -1 from szM_neg (by unfold MHead.size; omega)]; try rfl
  rw [szM_pos c0, dec_neg (by omega), cond_false]
  rw [call_eq (laws_szKeys.R_eq (a1 := (a1 - ((MKeys.size a0.fKeys : Nat) : Int))) ⟨hs.2.1, by omega, by omega⟩)]
  unfold laws_szKeys.md
  by_cases c1 : (a1 - ((MKeys.size a0.fKeys : Nat) : Int)) < ((MKeys.size a0.fHeirs : Nat) : Int)
  · rw [szM_neg c1]; rw [show szM (MHead.size a0) a1 = -1 from szM_neg (by unfold MHead.size; omega)]; try rfl
  rw [szM_pos c1, dec_neg (by omega), cond_false]
  rw [call_eq (laws_szKeys.R_eq (a1 := (a1 - ((MKeys.size a0.fKeys : Nat) : Int) - ((MKeys.size a0.fHeirs : Nat) : Int))) ⟨hs.2.2, by omega, by omega⟩)]
  unfold laws_szKeys.md
  by_cases c2 : (a1 - ((MKeys.size a0.fKeys : Nat) : Int) - ((MKeys.size a0.fHeirs : Nat) : Int)) < ((MKeys.size a0.fJudge : Nat) : Int)
  · rw [szM_neg c2]; rw [show szM (MHead.size a0) a1 = -1 from szM_neg (by unfold MHead.size; omega)]; try rfl
  rw [szM_pos c2, dec_neg (by omega), cond_false]
  rw [show szM (MHead.size a0) a1 = a1 - ((MKeys.size a0.fKeys : Nat) : Int) - ((MKeys.size a0.fHeirs : Nat) : Int) - ((MKeys.size a0.fJudge : Nat) : Int) from by rw [szM_pos (by unfold MHead.size; omega)]; unfold MHead.size; omega]
theorem valid_ : Valid Tryz.prog Ev 127 con := VV (run := fun _ x => F x.1 x.2) mix tab_ok (.cons laws_szKeys.valid_ .nil) Tryz.func127 (by kernel_rfl) run_eq (fun _ a _ _ hg => ⟨0, okF a.1 a.2 hg⟩)
end laws_szHead
/-! laws.szSigS -/
namespace laws_szSigS
noncomputable def F (x0 : List (List L)) (x1 : Int) : Ans := (bif (decide ((IntKind.i64.wrap (x1 - (x0.length : Int))) < 0)) then ret ((-1) : Int) else ret ((IntKind.i64.wrap (x1 - (x0.length : Int))) : Int))
def pats : List Pat := [.rd (.sl 216), .rd (.int .i64)]
def res : RP := .one (.rd (.int .i64))
noncomputable abbrev E : Env := { T := assoc Tab, G := conG [], nt := 12 }
set_option maxRecDepth 100000
theorem run_eq (n : Nat) (ls : List L) : runF E (fun _ => []) Tryz.f128 res n (initS pats ls) = F (ls.headD .hole).toSl ((dropT 1 ls).headD .hole).toInt := by kernel_rfl
noncomputable def md (a0 : List MSig) (a1 : Int) : Int := szM (szL (fun y : MSig => MSig.size y) a0) a1
def gd (a0 : List MSig) (a1 : Int) : Prop := (SmL maxLen (fun y : MSig => MSig.Sm maxLen y) a0) ∧ 0 ≤ a1 ∧ a1 ≤ 1048576
def acc (ls : List L) : List (List L) × Int := ((ls.headD .hole).toSl, ((dropT 1 ls).headD .hole).toInt)
noncomputable def R : (List (List L) × Int) → Option Int := RR (p2 gd) (u2 md)
theorem R_eq {a0} {a1} (h : gd a0 a1) : R ((a0.map MSig.row), a1) = some (md a0 a1) := RR_eq (a := (a0, a1)) h
noncomputable def con : Con := CN pats res acc R
theorem okF (a0 : List MSig) (a1 : Int) (hg : gd a0 a1) : F (a0.map MSig.row) a1 = ret ((md a0 a1) : Int) := by
  obtain ⟨hs, g0, g1⟩ := hg
  unfold F md
  rw [List.length_map, sz_wrap g0 g1 hs.1]
  have e : szL (fun y : MSig => MSig.size y) a0 = a0.length := by
    unfold szL
    have : (a0.map (fun y : MSig => MSig.size y)).sum = 0 := sum_zero (fun _ => rfl) a0
    omega
  rw [e]
  by_cases hc : a1 < ((a0.length : Nat) : Int)
  · rw [szM_neg hc, decide_eq_true (by omega)]; rfl
  · rw [szM_pos hc, decide_eq_false (by omega)]; rfl
theorem valid_ : Valid Tryz.prog Ev 128 con := VV (run := fun _ x => F x.1 x.2) mix tab_ok .nil Tryz.func128 (by kernel_rfl) run_eq (fun _ a _ _ hg => ⟨0, okF a.1 a.2 hg⟩)
end laws_szSigS
/-! laws.szSigned -/
namespace laws_szSigned
noncomputable def F (x0 : RSigned) (x1 : Int) : Ans := (call (laws_szHead.R (x0.fHead, x1)) fun v1 => (bif (decide (v1 < 0)) then ret ((-1) : Int) else (call (laws_szSigS.R (x0.fSigs, v1)) fun v2 => (bif (decide (v2 < 0)) then ret ((-1) : Int) else ret (v2 : Int)))))
def pats : List Pat := [.agg [.int .i64, .int .i64, .int .i64, .int .i64, .int .i64, .int .i64, .int .i64, .int .i64, .sl 3, .int .i64, .sl 3, .int .i64, .int .i64, .sl 3, .int .i64, .bool, .sl 216], .rd (.int .i64)]
def res : RP := .one (.rd (.int .i64))
noncomputable abbrev E : Env := { T := assoc Tab, G := conG [(127, laws_szHead.con), (128, laws_szSigS.con)], nt := 18 }
set_option maxRecDepth 100000
theorem run_eq (n : Nat) (ls : List L) : runF E (fun _ => []) Tryz.f61 res n (initS pats ls) = F (RSigned.dec ls) ((dropT 17 ls).headD .hole).toInt := by kernel_rfl
noncomputable def md (a0 : MSigned) (a1 : Int) : Int := szM (MSigned.size a0) a1
def gd (a0 : MSigned) (a1 : Int) : Prop := (MSigned.Sm maxLen a0) ∧ 0 ≤ a1 ∧ a1 ≤ 1048576
def acc (ls : List L) : RSigned × Int := ((RSigned.dec ls), ((dropT 17 ls).headD .hole).toInt)
noncomputable def R : (RSigned × Int) → Option Int := RR (p2 gd) (u2 md)
theorem R_eq {a0} {a1} (h : gd a0 a1) : R ((MSigned.r a0), a1) = some (md a0 a1) := RR_eq (a := (a0, a1)) h
noncomputable def con : Con := CN pats res acc R
theorem okF (a0 : MSigned) (a1 : Int) (hg : gd a0 a1) : F (MSigned.r a0) a1 = ret ((md a0 a1) : Int) := by
  obtain ⟨hs, g0, g1⟩ := hg
  unfold md
  show (call (laws_szHead.R ((MHead.r a0.fHead), a1)) fun v1 => (bif (decide (v1 < 0)) then ret ((-1) : Int) else (call (laws_szSigS.R ((a0.fSigs.map MSig.row), v1)) fun v2 => (bif (decide (v2 < 0)) then ret ((-1) : Int) else ret (v2 : Int))))) = _
  rw [call_eq (laws_szHead.R_eq (a1 := a1) ⟨hs.1, by omega, by omega⟩)]
  unfold laws_szHead.md
  by_cases c0 : a1 < ((MHead.size a0.fHead : Nat) : Int)
  · rw [szM_neg c0]; rw [show szM (MSigned.size a0) a1 = -1 from szM_neg (by unfold MSigned.size; omega)]; try rfl
  rw [szM_pos c0, dec_neg (by omega), cond_false]
  rw [call_eq (laws_szSigS.R_eq (a1 := (a1 - ((MHead.size a0.fHead : Nat) : Int))) ⟨hs.2, by omega, by omega⟩)]
  unfold laws_szSigS.md
  by_cases c1 : (a1 - ((MHead.size a0.fHead : Nat) : Int)) < ((szL (fun y : MSig => MSig.size y) a0.fSigs : Nat) : Int)
  · rw [szM_neg c1]; rw [show szM (MSigned.size a0) a1 = -1 from szM_neg (by unfold MSigned.size; omega)]; try rfl
  rw [szM_pos c1, dec_neg (by omega), cond_false]
  rw [show szM (MSigned.size a0) a1 = a1 - ((MHead.size a0.fHead : Nat) : Int) - ((szL (fun y : MSig => MSig.size y) a0.fSigs : Nat) : Int) from by rw [szM_pos (by unfold MSigned.size; omega)]; unfold MSigned.size; omega]
theorem valid_ : Valid Tryz.prog Ev 61 con := VV (run := fun _ x => F x.1 x.2) mix tab_ok (.cons laws_szHead.valid_ (.cons laws_szSigS.valid_ .nil)) Tryz.func61 (by kernel_rfl) run_eq (fun _ a _ _ hg => ⟨0, okF a.1 a.2 hg⟩)
end laws_szSigned
/-! laws.szSignedS -/
namespace laws_szSignedS
inductive Pt where
  | p0 (a : List (List L)) (b : Int) (c : Int)
def pid : Pt → Nat
  | .p0 .. => 5
def pvs : Pt → List V
  | .p0 a b c => [.sl none 114 a, .int .i64 b, .int .i64 c]
def phs : Pt → List Root
  | .p0 a b c => []
noncomputable def step (J : Pt → Ans) : Pt → Ans
  | .p0 a b c => (bif (decide (c < (a.length : Int))) then (bif (decide ((0 : Int) ≤ c)) then (bif (decide (c < (a.length : Int))) then (call (laws_szSigned.R ((RSigned.at a (Int.toNat c)), b)) fun v1 => (bif (decide (v1 < 0)) then ret ((-1) : Int) else J (.p0 a v1 (IntKind.i64.wrap (c + 1))))) else none) else none) else ret (b : Int))
noncomputable def start (J : Pt → Ans) (x0 : List (List L)) (x1 : Int) : Ans := (bif (decide ((IntKind.i64.wrap (x1 - (x0.length : Int))) < 0)) then ret ((-1) : Int) else J (.p0 x0 (IntKind.i64.wrap (x1 - (x0.length : Int))) 0))
def live : Nat → Live := fun i => match i with | 5 => [(0, none), (1, none), (5, none)] | _ => []
def pats : List Pat := [.rd (.sl 114), .rd (.int .i64)]
def res : RP := .one (.rd (.int .i64))
noncomputable abbrev E : Env := { T := assoc Tab, G := conG [(61, laws_szSigned.con)], nt := 27 }
set_option maxRecDepth 100000
theorem step_eq (I : Heads) (p : Pt) : enterC E live I (pid p) (bodyOf Tryz.f15) (stOf (live (pid p)) (pvs p) (phs p)) (doneK E Tryz.f15 res) = step (fun q => I (pid q) (pvs q) (phs q)) p := by
  cases p <;> kernel_rfl
theorem start_eq (I : Heads) (ls : List L) : runC E live I (bodyOf Tryz.f15) (initS pats ls) (doneK E Tryz.f15 res) = start (fun q => I (pid q) (pvs q) (phs q)) (ls.headD .hole).toSl ((dropT 1 ls).headD .hole).toInt := by kernel_rfl
theorem run_eq (n : Nat) (ls : List L) : runF E live Tryz.f15 res n (initS pats ls) = start (iter step n) (ls.headD .hole).toSl ((dropT 1 ls).headD .hole).toInt := runF_iter (id := pid) (vs := pvs) (hs := phs) (step := step) (start := fun J => start J (ls.headD .hole).toSl ((dropT 1 ls).headD .hole).toInt) step_eq (fun I => start_eq I ls) n
noncomputable def md (a0 : List MSigned) (a1 : Int) : Int := szM (szL (fun y : MSigned => MSigned.size y) a0) a1
def gd (a0 : List MSigned) (a1 : Int) : Prop := (SmL maxLen (fun y : MSigned => MSigned.Sm maxLen y) a0) ∧ 0 ≤ a1 ∧ a1 ≤ 1048576
def acc (ls : List L) : List (List L) × Int := ((ls.headD .hole).toSl, ((dropT 1 ls).headD .hole).toInt)
noncomputable def R : (List (List L) × Int) → Option Int := RR (p2 gd) (u2 md)
theorem R_eq {a0} {a1} (h : gd a0 a1) : R ((a0.map MSigned.row), a1) = some (md a0 a1) := RR_eq (a := (a0, a1)) h
noncomputable def con : Con := CN pats res acc R
theorem okF (a0 : List MSigned) (a1 : Int) (hg : gd a0 a1) : ∃ n, start (iter step n) (a0.map MSigned.row) a1 = ret ((md a0 a1) : Int) := by
  obtain ⟨hs, g0, g1⟩ := hg
  unfold start md
  simp only [List.length_map]
  refine sz_list (pt := fun left i => Pt.p0 (a0.map MSigned.row) left (i : Int)) (f := fun y : MSigned => MSigned.size y) hs.1 (fun J i h left p0 p1 => ?_) (fun J left => ?_) g0 g1
  · simp only [step, List.length_map, lt_dec h, zle_dec, cond_true, toNat_nat, MSigned.at_row h]
    rw [call_eq (laws_szSigned.R_eq ⟨hs.get h, p0, p1⟩), wrap_succ h hs.1]
    unfold laws_szSigned.md
    by_cases hc : left < ((MSigned.size (a0[i]) : Nat) : Int)
    · rw [szM_neg hc, if_pos hc]; rfl
    · rw [szM_pos hc, if_neg hc, dec_neg (by omega)]; rfl
  · simp only [step, List.length_map, nlt_dec, cond_false]
theorem valid_ : Valid Tryz.prog Ev 15 con := VV (run := fun n x => start (iter step n) x.1 x.2) mix tab_ok (.cons laws_szSigned.valid_ .nil) Tryz.func15 (by kernel_rfl) run_eq (fun _ a _ _ hg => okF a.1 a.2 hg)
end laws_szSignedS
/-! laws.toIntS -/
namespace laws_toIntS
inductive Pt where
  | p0 (a : List (List L)) (b : Int) (c : List (List L))
def pid : Pt → Nat
  | .p0 .. => 3
def pvs : Pt → List V
  | .p0 a b c => [.sl none 3 a, .own 0, .int .i64 b]
def phs : Pt → List Root
  | .p0 a b c => [.row 3 c]
noncomputable def step (J : Pt → Ans) : Pt → Ans
  | .p0 a b c => (bif (decide (b < (a.length : Int))) then (bif (decide ((0 : Int) ≤ b)) then (bif (decide (b < (a.length : Int))) then (bif (decide ((0 : Int) ≤ b)) then (bif (decide (b < (c.length : Int))) then J (.p0 a (IntKind.i64.wrap (b + 1)) (List.set c (Int.toNat b) [L.int (iAt a (Int.toNat b))])) else none) else none) else none) else none) else ret (c : List (List L)))
noncomputable def start (J : Pt → Ans) (x0 : List (List L)) : Ans := (bif (decide ((0 : Int) ≤ (x0.length : Int))) then (bif (decide ((x0.length : Int) ≤ (x0.length : Int))) then (bif (decide ((x0.length : Int) * 8 ≤ 140737488355328)) then J (.p0 x0 0 (List.replicate (Int.toNat (x0.length : Int)) [L.int 0])) else none) else none) else none)
def live : Nat → Live := fun i => match i with | 3 => [(0, none), (3, none), (4, none)] | _ => []
def pats : List Pat := [.rd (.sl 3)]
def res : RP := .one (.fr 3)
noncomputable abbrev E : Env := { T := assoc Tab, G := conG [], nt := 22 }
set_option maxRecDepth 100000
theorem step_eq (I : Heads) (p : Pt) : enterC E live I (pid p) (bodyOf Tryz.f171) (stOf (live (pid p)) (pvs p) (phs p)) (doneK E Tryz.f171 res) = step (fun q => I (pid q) (pvs q) (phs q)) p := by
  cases p <;> kernel_rfl
theorem start_eq (I : Heads) (ls : List L) : runC E live I (bodyOf Tryz.f171) (initS pats ls) (doneK E Tryz.f171 res) = start (fun q => I (pid q) (pvs q) (phs q)) (ls.headD .hole).toSl := by kernel_rfl
theorem run_eq (n : Nat) (ls : List L) : runF E live Tryz.f171 res n (initS pats ls) = start (iter step n) (ls.headD .hole).toSl := runF_iter (id := pid) (vs := pvs) (hs := phs) (step := step) (start := fun J => start J (ls.headD .hole).toSl) step_eq (fun I => start_eq I ls) n
noncomputable def md (a0 : List Int) : List Int := a0
def gd (a0 : List Int) : Prop := SmL (2 ^ 36) (fun y : Int => True) a0
def acc (ls : List L) : List (List L) := (ls.headD .hole).toSl
noncomputable def R : (List (List L)) → Option (List (List L)) := RR gd md
theorem R_eq {a0} (h : gd a0) : R (a0.map iRow) = some ((md a0).map iRow) := RR_eq (a := a0) h
noncomputable def con : Con := CN pats res acc R
theorem okF (a0 : List Int) (hg : gd a0) : ∃ n, start (iter step n) (a0.map iRow) = ret (((md a0).map iRow) : List (List L)) := by
  unfold start md
  simp only [List.length_map]
  refine to_list (b := 8) (pt := fun i c => Pt.p0 (a0.map iRow) (i : Int) c) (by have := hg.1; simp at this; omega) (fun J i h c hc => ?_) (fun J c => ?_)
  · simp only [step, List.length_map, lt_dec h, zle_dec, cond_true, toNat_nat, iAt_row h, hc]
    rw [wrap_succ (n := a0.length) h (by have := hg.1; simp only [maxLen]; simp at this; omega)]
    rfl
  · simp only [step, List.length_map, nlt_dec, cond_false]
theorem valid_ : Valid Tryz.prog Ev 171 con := VV (run := fun n x => start (iter step n) x) mix tab_ok .nil Tryz.func171 (by kernel_rfl) run_eq (fun _ a _ _ hg => okF a hg)
end laws_toIntS
/-! laws.toKeys -/
namespace laws_toKeys
noncomputable def F (x0 : RKeys) : Ans := (call (laws_toIntS.R x0.fList) fun v1 => ret ((⟨v1, x0.fNeed⟩ : RKeys) : RKeys))
def pats : List Pat := [.agg [.sl 3, .int .i64]]
def res : RP := .agg [.fr 3, .rd (.int .i64)]
noncomputable abbrev E : Env := { T := assoc Tab, G := conG [(171, laws_toIntS.con)], nt := 12 }
set_option maxRecDepth 100000
theorem run_eq (n : Nat) (ls : List L) : runF E (fun _ => []) Tryz.f184 res n (initS pats ls) = F (RKeys.dec ls) := by kernel_rfl
noncomputable def md (a0 : MKeys) : MKeys := a0
def gd (a0 : MKeys) : Prop := MKeys.Sm (2 ^ 36) a0
def acc (ls : List L) : RKeys := (RKeys.dec ls)
noncomputable def R : RKeys → Option RKeys := RR gd md
theorem R_eq {a0} (h : gd a0) : R (MKeys.r a0) = some (MKeys.r (md a0)) := RR_eq (a := a0) h
noncomputable def con : Con := CN pats res acc R
theorem okF (a0 : MKeys) (hg : gd a0) : F (MKeys.r a0) = ret ((MKeys.r (md a0)) : RKeys) := by
  unfold md
  show (call (laws_toIntS.R (a0.fList.map iRow)) fun v1 => ret ((⟨v1, a0.fNeed⟩ : RKeys) : RKeys)) = _
  rw [call_eq (laws_toIntS.R_eq hg)]
  rfl
theorem valid_ : Valid Tryz.prog Ev 184 con := VV (run := fun _ x => F x) mix tab_ok (.cons laws_toIntS.valid_ .nil) Tryz.func184 (by kernel_rfl) run_eq (fun _ a _ _ hg => ⟨0, okF a hg⟩)
end laws_toKeys
/-! laws.toHead -/
namespace laws_toHead
noncomputable def F (x0 : RHead) : Ans := (call (laws_toKeys.R x0.fKeys) fun v1 => (call (laws_toKeys.R x0.fHeirs) fun v2 => (call (laws_toKeys.R x0.fJudge) fun v3 => ret ((⟨x0.fZone, x0.fEpoch, x0.fKind, x0.fTime, x0.fUntil, x0.fCount, x0.fRoot, x0.fPrev, v1, v2, x0.fWait, v3, x0.fFrozen⟩ : RHead) : RHead))))
def pats : List Pat := [.agg [.int .i64, .int .i64, .int .i64, .int .i64, .int .i64, .int .i64, .int .i64, .int .i64, .sl 3, .int .i64, .sl 3, .int .i64, .int .i64, .sl 3, .int .i64, .bool]]
def res : RP := .agg [.rd (.int .i64), .rd (.int .i64), .rd (.int .i64), .rd (.int .i64), .rd (.int .i64), .rd (.int .i64), .rd (.int .i64), .rd (.int .i64), .fr 3, .rd (.int .i64), .fr 3, .rd (.int .i64), .rd (.int .i64), .fr 3, .rd (.int .i64), .rd (.bool)]
noncomputable abbrev E : Env := { T := assoc Tab, G := conG [(184, laws_toKeys.con)], nt := 47 }
set_option maxRecDepth 100000
theorem run_eq (n : Nat) (ls : List L) : runF E (fun _ => []) Tryz.f131 res n (initS pats ls) = F (RHead.dec ls) := by kernel_rfl
noncomputable def md (a0 : MHead) : MHead := a0
def gd (a0 : MHead) : Prop := MHead.Sm (2 ^ 36) a0
def acc (ls : List L) : RHead := (RHead.dec ls)
noncomputable def R : RHead → Option RHead := RR gd md
theorem R_eq {a0} (h : gd a0) : R (MHead.r a0) = some (MHead.r (md a0)) := RR_eq (a := a0) h
noncomputable def con : Con := CN pats res acc R
theorem okF (a0 : MHead) (hg : gd a0) : F (MHead.r a0) = ret ((MHead.r (md a0)) : RHead) := by
  unfold md
  show (call (laws_toKeys.R (MKeys.r a0.fKeys)) fun v1 => (call (laws_toKeys.R (MKeys.r a0.fHeirs)) fun v2 => (call (laws_toKeys.R (MKeys.r a0.fJudge)) fun v3 => ret ((⟨a0.fZone, a0.fEpoch, a0.fKind, a0.fTime, a0.fUntil, a0.fCount, a0.fRoot, a0.fPrev, v1, v2, a0.fWait, v3, a0.fFrozen⟩ : RHead) : RHead)))) = _
  rw [call_eq (laws_toKeys.R_eq hg.1)]
  rw [call_eq (laws_toKeys.R_eq hg.2.1)]
  rw [call_eq (laws_toKeys.R_eq hg.2.2)]
  rfl
theorem valid_ : Valid Tryz.prog Ev 131 con := VV (run := fun _ x => F x) mix tab_ok (.cons laws_toKeys.valid_ .nil) Tryz.func131 (by kernel_rfl) run_eq (fun _ a _ _ hg => ⟨0, okF a hg⟩)
end laws_toHead
/-! laws.toSig -/
namespace laws_toSig
noncomputable def F (x0 : MSig) : Ans := ret (x0 : MSig)
def pats : List Pat := [.agg [.int .i64, .int .i64]]
def res : RP := .agg [.rd (.int .i64), .rd (.int .i64)]
noncomputable abbrev E : Env := { T := assoc Tab, G := conG [], nt := 11 }
set_option maxRecDepth 100000
theorem run_eq (n : Nat) (ls : List L) : runF E (fun _ => []) Tryz.f185 res n (initS pats ls) = F (MSig.dec ls) := by kernel_rfl
noncomputable def md (a0 : MSig) : MSig := a0
def gd (a0 : MSig) : Prop := MSig.Sm (2 ^ 36) a0
def acc (ls : List L) : MSig := (MSig.dec ls)
noncomputable def R : MSig → Option MSig := RR gd md
theorem R_eq {a0} (h : gd a0) : R a0 = some (md a0) := RR_eq (a := a0) h
noncomputable def con : Con := CN pats res acc R
theorem okF (a0 : MSig) (hg : gd a0) : F a0 = ret ((md a0) : MSig) := by
  rfl
theorem valid_ : Valid Tryz.prog Ev 185 con := VV (run := fun _ x => F x) mix tab_ok .nil Tryz.func185 (by kernel_rfl) run_eq (fun _ a _ _ hg => ⟨0, okF a hg⟩)
end laws_toSig
/-! laws.toSigS -/
namespace laws_toSigS
inductive Pt where
  | p0 (a : List (List L)) (b : Int) (c : List (List L))
def pid : Pt → Nat
  | .p0 .. => 3
def pvs : Pt → List V
  | .p0 a b c => [.sl none 216 a, .own 0, .int .i64 b]
def phs : Pt → List Root
  | .p0 a b c => [.row 184 c]
noncomputable def step (J : Pt → Ans) : Pt → Ans
  | .p0 a b c => (bif (decide (b < (a.length : Int))) then (bif (decide ((0 : Int) ≤ b)) then (bif (decide (b < (a.length : Int))) then (call (laws_toSig.R (MSig.at a (Int.toNat b))) fun v1 => (bif (decide ((0 : Int) ≤ b)) then (bif (decide (b < (c.length : Int))) then J (.p0 a (IntKind.i64.wrap (b + 1)) (List.set c (Int.toNat b) (MSig.enc v1))) else none) else none)) else none) else none) else ret (c : List (List L)))
noncomputable def start (J : Pt → Ans) (x0 : List (List L)) : Ans := (bif (decide ((0 : Int) ≤ (x0.length : Int))) then (bif (decide ((x0.length : Int) ≤ (x0.length : Int))) then (bif (decide ((x0.length : Int) * 16 ≤ 140737488355328)) then J (.p0 x0 0 (List.replicate (Int.toNat (x0.length : Int)) [L.int 0, L.int 0])) else none) else none) else none)
def live : Nat → Live := fun i => match i with | 3 => [(0, none), (3, none), (4, none)] | _ => []
def pats : List Pat := [.rd (.sl 216)]
def res : RP := .one (.fr 184)
noncomputable abbrev E : Env := { T := assoc Tab, G := conG [(185, laws_toSig.con)], nt := 23 }
set_option maxRecDepth 100000
theorem step_eq (I : Heads) (p : Pt) : enterC E live I (pid p) (bodyOf Tryz.f132) (stOf (live (pid p)) (pvs p) (phs p)) (doneK E Tryz.f132 res) = step (fun q => I (pid q) (pvs q) (phs q)) p := by
  cases p <;> kernel_rfl
theorem start_eq (I : Heads) (ls : List L) : runC E live I (bodyOf Tryz.f132) (initS pats ls) (doneK E Tryz.f132 res) = start (fun q => I (pid q) (pvs q) (phs q)) (ls.headD .hole).toSl := by kernel_rfl
theorem run_eq (n : Nat) (ls : List L) : runF E live Tryz.f132 res n (initS pats ls) = start (iter step n) (ls.headD .hole).toSl := runF_iter (id := pid) (vs := pvs) (hs := phs) (step := step) (start := fun J => start J (ls.headD .hole).toSl) step_eq (fun I => start_eq I ls) n
noncomputable def md (a0 : List MSig) : List MSig := a0
def gd (a0 : List MSig) : Prop := SmL (2 ^ 36) (fun y : MSig => MSig.Sm (2 ^ 36) y) a0
def acc (ls : List L) : List (List L) := (ls.headD .hole).toSl
noncomputable def R : (List (List L)) → Option (List (List L)) := RR gd md
theorem R_eq {a0} (h : gd a0) : R (a0.map MSig.row) = some ((md a0).map MSig.row) := RR_eq (a := a0) h
noncomputable def con : Con := CN pats res acc R
theorem okF (a0 : List MSig) (hg : gd a0) : ∃ n, start (iter step n) (a0.map MSig.row) = ret (((md a0).map MSig.row) : List (List L)) := by
  unfold start md
  simp only [List.length_map]
  refine to_list (b := 16) (pt := fun i c => Pt.p0 (a0.map MSig.row) (i : Int) c) (by have := hg.1; simp at this; omega) (fun J i h c hc => ?_) (fun J c => ?_)
  · simp only [step, List.length_map, lt_dec h, zle_dec, cond_true, toNat_nat, MSig.at_row h, hc]
    rw [call_eq (laws_toSig.R_eq (hg.get h))]
    try simp only [hc, lt_dec h, cond_true]
    rw [wrap_succ (n := a0.length) h (by have := hg.1; simp only [maxLen]; simp at this; omega)]
    rfl
  · simp only [step, List.length_map, nlt_dec, cond_false]
theorem valid_ : Valid Tryz.prog Ev 132 con := VV (run := fun n x => start (iter step n) x) mix tab_ok (.cons laws_toSig.valid_ .nil) Tryz.func132 (by kernel_rfl) run_eq (fun _ a _ _ hg => okF a hg)
end laws_toSigS
/-! laws.toSigned -/
namespace laws_toSigned
noncomputable def F (x0 : RSigned) : Ans := (call (laws_toHead.R x0.fHead) fun v1 => (call (laws_toSigS.R x0.fSigs) fun v2 => ret ((⟨v1, v2⟩ : RSigned) : RSigned)))
def pats : List Pat := [.agg [.int .i64, .int .i64, .int .i64, .int .i64, .int .i64, .int .i64, .int .i64, .int .i64, .sl 3, .int .i64, .sl 3, .int .i64, .int .i64, .sl 3, .int .i64, .bool, .sl 216]]
def res : RP := .agg [.rd (.int .i64), .rd (.int .i64), .rd (.int .i64), .rd (.int .i64), .rd (.int .i64), .rd (.int .i64), .rd (.int .i64), .rd (.int .i64), .fr 3, .rd (.int .i64), .fr 3, .rd (.int .i64), .rd (.int .i64), .fr 3, .rd (.int .i64), .rd (.bool), .fr 184]
noncomputable abbrev E : Env := { T := assoc Tab, G := conG [(131, laws_toHead.con), (132, laws_toSigS.con)], nt := 13 }
set_option maxRecDepth 100000
theorem run_eq (n : Nat) (ls : List L) : runF E (fun _ => []) Tryz.f64 res n (initS pats ls) = F (RSigned.dec ls) := by kernel_rfl
noncomputable def md (a0 : MSigned) : MSigned := a0
def gd (a0 : MSigned) : Prop := MSigned.Sm (2 ^ 36) a0
def acc (ls : List L) : RSigned := (RSigned.dec ls)
noncomputable def R : RSigned → Option RSigned := RR gd md
theorem R_eq {a0} (h : gd a0) : R (MSigned.r a0) = some (MSigned.r (md a0)) := RR_eq (a := a0) h
noncomputable def con : Con := CN pats res acc R
theorem okF (a0 : MSigned) (hg : gd a0) : F (MSigned.r a0) = ret ((MSigned.r (md a0)) : RSigned) := by
  unfold md
  show (call (laws_toHead.R (MHead.r a0.fHead)) fun v1 => (call (laws_toSigS.R (a0.fSigs.map MSig.row)) fun v2 => ret ((⟨v1, v2⟩ : RSigned) : RSigned))) = _
  rw [call_eq (laws_toHead.R_eq hg.1)]
  rw [call_eq (laws_toSigS.R_eq hg.2)]
  rfl
theorem valid_ : Valid Tryz.prog Ev 64 con := VV (run := fun _ x => F x) mix tab_ok (.cons laws_toHead.valid_ (.cons laws_toSigS.valid_ .nil)) Tryz.func64 (by kernel_rfl) run_eq (fun _ a _ _ hg => ⟨0, okF a hg⟩)
end laws_toSigned
/-! laws.toSignedS -/
namespace laws_toSignedS
inductive Pt where
  | p0 (a : List (List L)) (b : Int) (c : List (List L))
def pid : Pt → Nat
  | .p0 .. => 3
def pvs : Pt → List V
  | .p0 a b c => [.sl none 114 a, .own 0, .int .i64 b]
def phs : Pt → List Root
  | .p0 a b c => [.row 122 c]
noncomputable def step (J : Pt → Ans) : Pt → Ans
  | .p0 a b c => (bif (decide (b < (a.length : Int))) then (bif (decide ((0 : Int) ≤ b)) then (bif (decide (b < (a.length : Int))) then (call (laws_toSigned.R (RSigned.at a (Int.toNat b))) fun v1 => (bif (decide ((0 : Int) ≤ b)) then (bif (decide (b < (c.length : Int))) then J (.p0 a (IntKind.i64.wrap (b + 1)) (List.set c (Int.toNat b) (RSigned.enc v1))) else none) else none)) else none) else none) else ret (c : List (List L)))
noncomputable def start (J : Pt → Ans) (x0 : List (List L)) : Ans := (bif (decide ((0 : Int) ≤ (x0.length : Int))) then (bif (decide ((x0.length : Int) ≤ (x0.length : Int))) then (bif (decide ((x0.length : Int) * 200 ≤ 140737488355328)) then J (.p0 x0 0 (List.replicate (Int.toNat (x0.length : Int)) [L.int 0, L.int 0, L.int 0, L.int 0, L.int 0, L.int 0, L.int 0, L.int 0, L.sl [], L.int 0, L.sl [], L.int 0, L.int 0, L.sl [], L.int 0, L.bool false, L.sl []])) else none) else none) else none)
def live : Nat → Live := fun i => match i with | 3 => [(0, none), (3, none), (4, none)] | _ => []
def pats : List Pat := [.rd (.sl 114)]
def res : RP := .one (.fr 122)
noncomputable abbrev E : Env := { T := assoc Tab, G := conG [(64, laws_toSigned.con)], nt := 23 }
set_option maxRecDepth 100000
theorem step_eq (I : Heads) (p : Pt) : enterC E live I (pid p) (bodyOf Tryz.f17) (stOf (live (pid p)) (pvs p) (phs p)) (doneK E Tryz.f17 res) = step (fun q => I (pid q) (pvs q) (phs q)) p := by
  cases p <;> kernel_rfl
theorem start_eq (I : Heads) (ls : List L) : runC E live I (bodyOf Tryz.f17) (initS pats ls) (doneK E Tryz.f17 res) = start (fun q => I (pid q) (pvs q) (phs q)) (ls.headD .hole).toSl := by kernel_rfl
theorem run_eq (n : Nat) (ls : List L) : runF E live Tryz.f17 res n (initS pats ls) = start (iter step n) (ls.headD .hole).toSl := runF_iter (id := pid) (vs := pvs) (hs := phs) (step := step) (start := fun J => start J (ls.headD .hole).toSl) step_eq (fun I => start_eq I ls) n
noncomputable def md (a0 : List MSigned) : List MSigned := a0
def gd (a0 : List MSigned) : Prop := SmL (2 ^ 36) (fun y : MSigned => MSigned.Sm (2 ^ 36) y) a0
def acc (ls : List L) : List (List L) := (ls.headD .hole).toSl
noncomputable def R : (List (List L)) → Option (List (List L)) := RR gd md
theorem R_eq {a0} (h : gd a0) : R (a0.map MSigned.row) = some ((md a0).map MSigned.row) := RR_eq (a := a0) h
noncomputable def con : Con := CN pats res acc R
theorem okF (a0 : List MSigned) (hg : gd a0) : ∃ n, start (iter step n) (a0.map MSigned.row) = ret (((md a0).map MSigned.row) : List (List L)) := by
  unfold start md
  simp only [List.length_map]
  refine to_list (b := 200) (pt := fun i c => Pt.p0 (a0.map MSigned.row) (i : Int) c) (by have := hg.1; simp at this; omega) (fun J i h c hc => ?_) (fun J c => ?_)
  · simp only [step, List.length_map, lt_dec h, zle_dec, cond_true, toNat_nat, MSigned.at_row h, hc]
    rw [call_eq (laws_toSigned.R_eq (hg.get h))]
    try simp only [hc, lt_dec h, cond_true]
    rw [wrap_succ (n := a0.length) h (by have := hg.1; simp only [maxLen]; simp at this; omega)]
    rfl
  · simp only [step, List.length_map, nlt_dec, cond_false]
theorem valid_ : Valid Tryz.prog Ev 17 con := VV (run := fun n x => start (iter step n) x) mix tab_ok (.cons laws_toSigned.valid_ .nil) Tryz.func17 (by kernel_rfl) run_eq (fun _ a _ _ hg => okF a hg)
end laws_toSignedS
/-! spec.l1In -/
namespace spec_l1In
noncomputable def F (x0 : Int) (x1 : Int) (x2 : Int) : Ans := (bif (decide (x0 ≥ x1)) then ret ((decide (x0 ≤ x2)) : Bool) else ret (false : Bool))
def pats : List Pat := [.rd (.int .i64), .rd (.int .i64), .rd (.int .i64)]
def res : RP := .one (.rd (.bool))
noncomputable abbrev E : Env := { T := assoc Tab, G := conG [], nt := 15 }
set_option maxRecDepth 100000
theorem run_eq (n : Nat) (ls : List L) : runF E (fun _ => []) Tryz.f120 res n (initS pats ls) = F (ls.headD .hole).toInt ((dropT 1 ls).headD .hole).toInt ((dropT 2 ls).headD .hole).toInt := by kernel_rfl
noncomputable def md (a0 : Int) (a1 : Int) (a2 : Int) : Bool := (bif (decide (a0 ≥ a1)) then ((decide (a0 ≤ a2)) : Bool) else (false : Bool))
def gd (a0 : Int) (a1 : Int) (a2 : Int) : Prop := True
def acc (ls : List L) : Int × Int × Int := ((ls.headD .hole).toInt, ((dropT 1 ls).headD .hole).toInt, ((dropT 2 ls).headD .hole).toInt)
noncomputable def R : (Int × Int × Int) → Option Bool := RR (p3 gd) (u3 md)
theorem R_eq {a0} {a1} {a2} (h : gd a0 a1 a2) : R (a0, a1, a2) = some (md a0 a1 a2) := RR_eq (a := (a0, a1, a2)) h
noncomputable def con : Con := CN pats res acc R
theorem okF (a0 : Int) (a1 : Int) (a2 : Int) (hg : gd a0 a1 a2) : F a0 a1 a2 = ret ((md a0 a1 a2) : Bool) := by
  unfold F md
  try simp only [S0]
  refine bif_out ret (fun c1 => ?_) (fun _ => rfl)
  all_goals first | rfl | (simp only [S0, MP]; first | done | rfl)
theorem valid_ : Valid Tryz.prog Ev 120 con := VV (run := fun _ x => F x.1 x.2.1 x.2.2) mix tab_ok .nil Tryz.func120 (by kernel_rfl) run_eq (fun _ a _ _ hg => ⟨0, okF a.1 a.2.1 a.2.2 hg⟩)
end spec_l1In
/-! spec.IsKeys -/
namespace spec_IsKeys
inductive Pt where
  | p0 (a : Int) (b : RKeys)
def pid : Pt → Nat
  | .p0 .. => 2
def pvs : Pt → List V
  | .p0 a b => [.bptr 0 0, .int .i64 a]
def phs : Pt → List Root
  | .p0 a b => [.box [.sl none 3 b.fList, .int .i64 b.fNeed]]
noncomputable def step (J : Pt → Ans) : Pt → Ans
  | .p0 a b => (bif (decide (a < (b.fList.length : Int))) then (bif (decide ((0 : Int) ≤ a)) then (bif (decide (a < (b.fList.length : Int))) then (call (spec_l1In.R ((iAt b.fList (Int.toNat a)), 1, 99)) fun v1 => (bif (!v1) then ret (false : Bool) else (bif (decide (a > 0)) then (bif (decide ((0 : Int) ≤ (IntKind.i64.wrap (a - 1)))) then (bif (decide ((IntKind.i64.wrap (a - 1)) < (b.fList.length : Int))) then (bif (decide ((0 : Int) ≤ a)) then (bif (decide (a < (b.fList.length : Int))) then (bif (decide ((iAt b.fList (Int.toNat (IntKind.i64.wrap (a - 1)))) ≥ (iAt b.fList (Int.toNat a)))) then ret (false : Bool) else J (.p0 (IntKind.i64.wrap (a + 1)) b)) else none) else none) else none) else none) else J (.p0 (IntKind.i64.wrap (a + 1)) b)))) else none) else none) else (call (spec_l1In.R ((b.fList.length : Int), 1, 4)) fun v2 => (bif v2 then (call (spec_l1In.R (b.fNeed, 1, (b.fList.length : Int))) fun v3 => ret (v3 : Bool)) else ret (false : Bool))))
noncomputable def start (J : Pt → Ans) (x0 : RKeys) : Ans := J (.p0 0 x0)
def live : Nat → Live := fun i => match i with | 2 => [(1, none), (3, none)] | _ => []
def pats : List Pat := [.agg [.sl 3, .int .i64]]
def res : RP := .one (.rd (.bool))
noncomputable abbrev E : Env := { T := assoc Tab, G := conG [(120, spec_l1In.con)], nt := 48 }
set_option maxRecDepth 100000
theorem step_eq (I : Heads) (p : Pt) : enterC E live I (pid p) (bodyOf Tryz.f268) (stOf (live (pid p)) (pvs p) (phs p)) (doneK E Tryz.f268 res) = step (fun q => I (pid q) (pvs q) (phs q)) p := by
  cases p <;> kernel_rfl
theorem start_eq (I : Heads) (ls : List L) : runC E live I (bodyOf Tryz.f268) (initS pats ls) (doneK E Tryz.f268 res) = start (fun q => I (pid q) (pvs q) (phs q)) (RKeys.dec ls) := by kernel_rfl
theorem run_eq (n : Nat) (ls : List L) : runF E live Tryz.f268 res n (initS pats ls) = start (iter step n) (RKeys.dec ls) := runF_iter (id := pid) (vs := pvs) (hs := phs) (step := step) (start := fun J => start J (RKeys.dec ls)) step_eq (fun I => start_eq I ls) n
noncomputable def md (a0 : MKeys) : Bool := (eachI (S := Unit) (β := Bool) (fun (i1 : Nat) (y1 : Int) (s3 : Unit) => (bif (!(spec_l1In.md y1 1 99)) then (.inr (false : Bool)) else (bif (decide ((i1 : Int) > 0)) then (bif (decide ((a0.fList.getD (Int.toNat (IntKind.i64.wrap ((i1 : Int) - 1))) 0) ≥ y1)) then (.inr (false : Bool)) else (.inl ())) else (.inl ())))) (fun (s3 : Unit) => (bif (spec_l1In.md (a0.fList.length : Int) 1 4) then ((spec_l1In.md a0.fNeed 1 (a0.fList.length : Int)) : Bool) else (false : Bool))) 0 a0.fList ())
def gd (a0 : MKeys) : Prop := (MKeys.Sm (2 ^ 21) a0)
def acc (ls : List L) : RKeys := (RKeys.dec ls)
noncomputable def R : RKeys → Option Bool := RR gd md
theorem R_eq {a0} (h : gd a0) : R (MKeys.r a0) = some (md a0) := RR_eq (a := a0) h
noncomputable def con : Con := CN pats res acc R
theorem okF (a0 : MKeys) (hg : gd a0) : ∃ n, start (iter step n) (MKeys.r a0) = ret ((md a0) : Bool) := by
  unfold gd at hg
  have H0 := hg
  unfold start md
  try simp only [S0, MKeys.rs]
  have Bh2 : a0.fList.length ≤ maxLen := (by
      have := (H0).1
      try simp only [maxLen] at *
      omega)
  refine ex_eq (out := ret) (loopM_eachI (z := 0)) ?_
  refine ex_pt (p := Pt.p0 0 (MKeys.r a0)) (by first | rfl | (simp only [S0, MKeys.rs, MP]; done) | (simp only [MP]; rfl)) ?_
  refine loopM_ok (pt := fun (i1 : Nat) (s3 : Unit) => Pt.p0 (i1 : Int) (MKeys.r a0)) (s := (() : Unit)) (out := ret) (fun _ _ => True) (fun J i1 s3 h2 hih2 => ?_) (fun s3 hih2 => ?_) trivial
  · simp only [step, S0, MKeys.rs]
    have bb_ := Bh2
    simp only [maxLen] at bb_
    have := (H0).1
    refine Rnd.yes (by apply decide_eq_true; omega) ?_
    refine Rnd.yes zle_dec ?_
    refine Rnd.yes (lt_dec h2) ?_
    refine Rnd.call_to (spec_l1In.md (a0.fList.getD i1 0) 1 99) (spec_l1In.R_eq (a0 := (a0.fList.getD i1 0)) (a1 := 1) (a2 := 99) trivial) ?_
    refine Rnd.bif (fun _ => Rnd.inr rfl) (fun c4 => ?_)
    have dc4 := c4
    try simp only [DC] at dc4
    have Dc4 := c4
    try simp [spec_l1In.md] at Dc4
    refine Rnd.bif (fun c5 => ?_) (fun c5 => ?_)
    · have dc5 := c5
      try simp only [DC] at dc5
      refine Rnd.yes (by
          refine decide_eq_true ?_
          try simp (disch := omega) only [LN, wi]
          first | omega | (simp; done) | (simp; omega)) ?_
      refine Rnd.yes (by
          have := (H0).1
          refine decide_eq_true ?_
          try simp (disch := omega) only [LN, wi]
          first | omega | (simp; done) | (simp; omega)) ?_
      refine Rnd.yes zle_dec ?_
      refine Rnd.yes (lt_dec h2) ?_
      refine Rnd.bif (fun _ => Rnd.inr rfl) (fun c6 => ?_)
      refine Rnd.inl trivial ?_
      rw [wrap_succ h2 Bh2]
      all_goals first | rfl | (simp only [S0, MKeys.rs, MP]; first | done | rfl)
    · refine Rnd.inl trivial ?_
      rw [wrap_succ h2 Bh2]
      all_goals first | rfl | (simp only [S0, MKeys.rs, MP]; first | done | rfl)
  · simp only [step, S0, MKeys.rs]
    have := (H0).1
    refine ex_no (by apply decide_eq_false; omega) ?_
    refine ex_call_to (spec_l1In.md (a0.fList.length : Int) 1 4) (spec_l1In.R_eq (a0 := (a0.fList.length : Int)) (a1 := 1) (a2 := 4) trivial) ?_
    refine ex_bif ret (fun c7 => ?_) (fun _ => ⟨0, rfl⟩)
    refine ex_call_to (spec_l1In.md a0.fNeed 1 (a0.fList.length : Int)) (spec_l1In.R_eq (a0 := a0.fNeed) (a1 := 1) (a2 := (a0.fList.length : Int)) trivial) ?_
    refine ⟨0, ?_⟩
    all_goals first | rfl | (simp only [S0, MKeys.rs, MP]; first | done | rfl)
theorem valid_ : Valid Tryz.prog Ev 268 con := VV (run := fun n x => start (iter step n) x) mix tab_ok (.cons spec_l1In.valid_ .nil) Tryz.func268 (by kernel_rfl) run_eq (fun _ a _ _ hg => okF a hg)
theorem tr {a0 : MKeys} (h : md a0 = true) : 1 ≤ a0.fList.length ∧ a0.fList.length ≤ 4 := by
  refine Classical.byContradiction fun hc => ?_
  have e1 : spec_l1In.md (a0.fList.length : Int) 1 4 = false := by simp [spec_l1In.md]; omega
  unfold md at h
  rw [e1] at h
  have e2 : ∀ s : Unit, (bif false then spec_l1In.md a0.fNeed 1 (a0.fList.length : Int) else false) = false := fun _ => rfl
  have h3 := eachI_const (c := false) (f := fun (i1 : Nat) (y1 : Int) (s3 : Unit) => (bif (!(spec_l1In.md y1 1 99)) then (.inr (false : Bool)) else (bif (decide ((i1 : Int) > 0)) then (bif (decide ((a0.fList.getD (Int.toNat (IntKind.i64.wrap ((i1 : Int) - 1))) 0) ≥ y1)) then (.inr (false : Bool)) else (.inl ())) else (.inl ())))) (by
    intro i x s b h
    revert h
    simp only [Bool.cond_eq_ite]
    repeat' split
    all_goals (intro h; first | (cases h; rfl) | cases h)) a0.fList 0 ()
  simp only [cond_false] at h
  rw [h3] at h
  cases h
end spec_IsKeys
/-! spec.NoKeys -/
namespace spec_NoKeys
noncomputable def F (x0 : RKeys) : Ans := (bif (x0.fNeed == 0) then ret (((x0.fList.length : Int) == 0) : Bool) else ret (false : Bool))
def pats : List Pat := [.agg [.sl 3, .int .i64]]
def res : RP := .one (.rd (.bool))
noncomputable abbrev E : Env := { T := assoc Tab, G := conG [], nt := 12 }
set_option maxRecDepth 100000
theorem run_eq (n : Nat) (ls : List L) : runF E (fun _ => []) Tryz.f269 res n (initS pats ls) = F (RKeys.dec ls) := by kernel_rfl
noncomputable def md (a0 : MKeys) : Bool := (bif (a0.fNeed == 0) then (((a0.fList.length : Int) == 0) : Bool) else (false : Bool))
def gd (a0 : MKeys) : Prop := True
def acc (ls : List L) : RKeys := (RKeys.dec ls)
noncomputable def R : RKeys → Option Bool := RR gd md
theorem R_eq {a0} (h : gd a0) : R (MKeys.r a0) = some (md a0) := RR_eq (a := a0) h
noncomputable def con : Con := CN pats res acc R
theorem okF (a0 : MKeys) (hg : gd a0) : F (MKeys.r a0) = ret ((md a0) : Bool) := by
  unfold F md
  try simp only [S0, MKeys.rs]
  refine bif_out ret (fun c1 => ?_) (fun _ => rfl)
  all_goals first | rfl | (simp only [S0, MKeys.rs, MP]; first | done | rfl)
theorem valid_ : Valid Tryz.prog Ev 269 con := VV (run := fun _ x => F x) mix tab_ok .nil Tryz.func269 (by kernel_rfl) run_eq (fun _ a _ _ hg => ⟨0, okF a hg⟩)
end spec_NoKeys
/-! spec.IsHead -/
namespace spec_IsHead
noncomputable def F (x0 : RHead) : Ans := (call (spec_l1In.R (x0.fZone, 0, 2147483646)) fun v1 => (bif (!v1) then ret (false : Bool) else (call (spec_l1In.R (x0.fRoot, 0, 2147483646)) fun v2 => (bif (!v2) then ret (false : Bool) else (call (spec_l1In.R (x0.fPrev, 0, 2147483646)) fun v3 => (bif (!v3) then ret (false : Bool) else (call (spec_l1In.R (x0.fEpoch, 0, 200)) fun v4 => (bif (!v4) then ret (false : Bool) else (call (spec_l1In.R (x0.fKind, 1, 3)) fun v5 => (bif (!v5) then ret (false : Bool) else (call (spec_l1In.R (x0.fTime, 0, 100000)) fun v6 => (bif (!v6) then ret (false : Bool) else (call (spec_l1In.R (x0.fUntil, x0.fTime, 100000)) fun v7 => (bif (!v7) then ret (false : Bool) else (bif (decide ((IntKind.i64.wrap (x0.fUntil - x0.fTime)) > 200)) then ret (false : Bool) else (call (spec_l1In.R (x0.fCount, 0, 12)) fun v8 => (bif (!v8) then ret (false : Bool) else (call (spec_IsKeys.R x0.fKeys) fun v9 => (bif (!v9) then ret (false : Bool) else (call (spec_NoKeys.R x0.fHeirs) fun v10 => (bif v10 then (bif (x0.fWait != 0) then ret (false : Bool) else (call (spec_IsKeys.R x0.fJudge) fun v11 => (bif v11 then ret (true : Bool) else (call (spec_NoKeys.R x0.fJudge) fun v12 => (bif v12 then ret ((!x0.fFrozen) : Bool) else ret (false : Bool)))))) else (call (spec_IsKeys.R x0.fHeirs) fun v13 => (bif (!v13) then ret (false : Bool) else (call (spec_l1In.R (x0.fWait, 1, 500)) fun v14 => (bif (!v14) then ret (false : Bool) else (call (spec_IsKeys.R x0.fJudge) fun v15 => (bif v15 then ret (true : Bool) else (call (spec_NoKeys.R x0.fJudge) fun v16 => (bif v16 then ret ((!x0.fFrozen) : Bool) else ret (false : Bool))))))))))))))))))))))))))))))
def pats : List Pat := [.agg [.int .i64, .int .i64, .int .i64, .int .i64, .int .i64, .int .i64, .int .i64, .int .i64, .sl 3, .int .i64, .sl 3, .int .i64, .int .i64, .sl 3, .int .i64, .bool]]
def res : RP := .one (.rd (.bool))
noncomputable abbrev E : Env := { T := assoc Tab, G := conG [(120, spec_l1In.con), (268, spec_IsKeys.con), (269, spec_NoKeys.con)], nt := 92 }
set_option maxRecDepth 100000
theorem run_eq (n : Nat) (ls : List L) : runF E (fun _ => []) Tryz.f238 res n (initS pats ls) = F (RHead.dec ls) := by kernel_rfl
noncomputable def md (a0 : MHead) : Bool := (bif (!(spec_l1In.md a0.fZone 0 2147483646)) then (false : Bool) else (bif (!(spec_l1In.md a0.fRoot 0 2147483646)) then (false : Bool) else (bif (!(spec_l1In.md a0.fPrev 0 2147483646)) then (false : Bool) else (bif (!(spec_l1In.md a0.fEpoch 0 200)) then (false : Bool) else (bif (!(spec_l1In.md a0.fKind 1 3)) then (false : Bool) else (bif (!(spec_l1In.md a0.fTime 0 100000)) then (false : Bool) else (bif (!(spec_l1In.md a0.fUntil a0.fTime 100000)) then (false : Bool) else (bif (decide ((IntKind.i64.wrap (a0.fUntil - a0.fTime)) > 200)) then (false : Bool) else (bif (!(spec_l1In.md a0.fCount 0 12)) then (false : Bool) else (bif (!(spec_IsKeys.md a0.fKeys)) then (false : Bool) else (bif (spec_NoKeys.md a0.fHeirs) then (bif (a0.fWait != 0) then (false : Bool) else (bif (spec_IsKeys.md a0.fJudge) then (true : Bool) else (bif (spec_NoKeys.md a0.fJudge) then ((!a0.fFrozen) : Bool) else (false : Bool)))) else (bif (!(spec_IsKeys.md a0.fHeirs)) then (false : Bool) else (bif (!(spec_l1In.md a0.fWait 1 500)) then (false : Bool) else (bif (spec_IsKeys.md a0.fJudge) then (true : Bool) else (bif (spec_NoKeys.md a0.fJudge) then ((!a0.fFrozen) : Bool) else (false : Bool))))))))))))))))
def gd (a0 : MHead) : Prop := (MHead.Sm (2 ^ 21) a0)
def acc (ls : List L) : RHead := (RHead.dec ls)
noncomputable def R : RHead → Option Bool := RR gd md
theorem R_eq {a0} (h : gd a0) : R (MHead.r a0) = some (md a0) := RR_eq (a := a0) h
noncomputable def con : Con := CN pats res acc R
theorem okF (a0 : MHead) (hg : gd a0) : F (MHead.r a0) = ret ((md a0) : Bool) := by
  unfold gd at hg
  have H0 := hg
  unfold F md
  try simp only [S0, MHead.rs]
  refine call_to (spec_l1In.md a0.fZone 0 2147483646) (spec_l1In.R_eq (a0 := a0.fZone) (a1 := 0) (a2 := 2147483646) trivial) ?_
  refine bif_out ret (fun _ => rfl) (fun c1 => ?_)
  refine call_to (spec_l1In.md a0.fRoot 0 2147483646) (spec_l1In.R_eq (a0 := a0.fRoot) (a1 := 0) (a2 := 2147483646) trivial) ?_
  refine bif_out ret (fun _ => rfl) (fun c2 => ?_)
  refine call_to (spec_l1In.md a0.fPrev 0 2147483646) (spec_l1In.R_eq (a0 := a0.fPrev) (a1 := 0) (a2 := 2147483646) trivial) ?_
  refine bif_out ret (fun _ => rfl) (fun c3 => ?_)
  refine call_to (spec_l1In.md a0.fEpoch 0 200) (spec_l1In.R_eq (a0 := a0.fEpoch) (a1 := 0) (a2 := 200) trivial) ?_
  refine bif_out ret (fun _ => rfl) (fun c4 => ?_)
  refine call_to (spec_l1In.md a0.fKind 1 3) (spec_l1In.R_eq (a0 := a0.fKind) (a1 := 1) (a2 := 3) trivial) ?_
  refine bif_out ret (fun _ => rfl) (fun c5 => ?_)
  refine call_to (spec_l1In.md a0.fTime 0 100000) (spec_l1In.R_eq (a0 := a0.fTime) (a1 := 0) (a2 := 100000) trivial) ?_
  refine bif_out ret (fun _ => rfl) (fun c6 => ?_)
  refine call_to (spec_l1In.md a0.fUntil a0.fTime 100000) (spec_l1In.R_eq (a0 := a0.fUntil) (a1 := a0.fTime) (a2 := 100000) trivial) ?_
  refine bif_out ret (fun _ => rfl) (fun c7 => ?_)
  refine bif_out ret (fun _ => rfl) (fun c8 => ?_)
  refine call_to (spec_l1In.md a0.fCount 0 12) (spec_l1In.R_eq (a0 := a0.fCount) (a1 := 0) (a2 := 12) trivial) ?_
  refine bif_out ret (fun _ => rfl) (fun c9 => ?_)
  refine call_to (spec_IsKeys.md a0.fKeys) (spec_IsKeys.R_eq (a0 := a0.fKeys) H0.1) ?_
  refine bif_out ret (fun _ => rfl) (fun c10 => ?_)
  refine call_to (spec_NoKeys.md a0.fHeirs) (spec_NoKeys.R_eq (a0 := a0.fHeirs) trivial) ?_
  refine bif_out ret (fun c11 => ?_) (fun c11 => ?_)
  · refine bif_out ret (fun _ => rfl) (fun c12 => ?_)
    refine call_to (spec_IsKeys.md a0.fJudge) (spec_IsKeys.R_eq (a0 := a0.fJudge) H0.2.2) ?_
    refine bif_out ret (fun _ => rfl) (fun c13 => ?_)
    refine call_to (spec_NoKeys.md a0.fJudge) (spec_NoKeys.R_eq (a0 := a0.fJudge) trivial) ?_
    refine bif_out ret (fun c14 => ?_) (fun _ => rfl)
    all_goals first | rfl | (simp only [S0, MHead.rs, MP]; first | done | rfl)
  · refine call_to (spec_IsKeys.md a0.fHeirs) (spec_IsKeys.R_eq (a0 := a0.fHeirs) H0.2.1) ?_
    refine bif_out ret (fun _ => rfl) (fun c15 => ?_)
    refine call_to (spec_l1In.md a0.fWait 1 500) (spec_l1In.R_eq (a0 := a0.fWait) (a1 := 1) (a2 := 500) trivial) ?_
    refine bif_out ret (fun _ => rfl) (fun c16 => ?_)
    refine call_to (spec_IsKeys.md a0.fJudge) (spec_IsKeys.R_eq (a0 := a0.fJudge) H0.2.2) ?_
    refine bif_out ret (fun _ => rfl) (fun c17 => ?_)
    refine call_to (spec_NoKeys.md a0.fJudge) (spec_NoKeys.R_eq (a0 := a0.fJudge) trivial) ?_
    refine bif_out ret (fun c18 => ?_) (fun _ => rfl)
    all_goals first | rfl | (simp only [S0, MHead.rs, MP]; first | done | rfl)
theorem valid_ : Valid Tryz.prog Ev 238 con := VV (run := fun _ x => F x) mix tab_ok (.cons spec_l1In.valid_ (.cons spec_IsKeys.valid_ (.cons spec_NoKeys.valid_ .nil))) Tryz.func238 (by kernel_rfl) run_eq (fun _ a _ _ hg => ⟨0, okF a hg⟩)
theorem tr {a0 : MHead} (h : md a0 = true) : (1 ≤ a0.fKind ∧ a0.fKind ≤ 3) ∧ 0 ≤ a0.fTime ∧ a0.fTime ≤ a0.fUntil ∧ a0.fUntil ≤ 100000 ∧ 0 ≤ a0.fCount ∧ a0.fCount ≤ 12 := by
  have key : ∀ x y z : Int, spec_l1In.md x y z = true → y ≤ x ∧ x ≤ z := fun x y z h => by simpa [spec_l1In.md] using h
  unfold md at h
  simp only [n_and, Bool.not_not, Bool.and_eq_true] at h
  obtain ⟨_, _, _, _, h5, h6, h7, _, h8, _⟩ := h
  have := key _ _ _ h5
  have := key _ _ _ h6
  have := key _ _ _ h7
  have := key _ _ _ h8
  omega
end spec_IsHead
/-! spec.KeysInts -/
namespace spec_KeysInts
noncomputable def F (x0 : RKeys) : Ans := (bif (lim (((2 : Int) + (x0.fList.length : Int)) * 8)) then ret (([[L.int x0.fNeed], [L.int (x0.fList.length : Int)]] ++ x0.fList) : List (List L)) else none)
def pats : List Pat := [.agg [.sl 3, .int .i64]]
def res : RP := .one (.fr 3)
noncomputable abbrev E : Env := { T := assoc Tab, G := conG [], nt := 12 }
set_option maxRecDepth 100000
theorem run_eq (n : Nat) (ls : List L) : runF E (fun _ => []) Tryz.f216 res n (initS pats ls) = F (RKeys.dec ls) := by kernel_rfl
noncomputable def md (a0 : MKeys) : List Int := ([a0.fNeed, (a0.fList.length : Int)] ++ a0.fList)
def gd (a0 : MKeys) : Prop := (MKeys.Sm (2 ^ 21) a0)
def acc (ls : List L) : RKeys := (RKeys.dec ls)
noncomputable def R : RKeys → Option (List (List L)) := RR gd md
theorem R_eq {a0} (h : gd a0) : R (MKeys.r a0) = some ((md a0).map iRow) := RR_eq (a := a0) h
noncomputable def con : Con := CN pats res acc R
theorem okF (a0 : MKeys) (hg : gd a0) : F (MKeys.r a0) = ret (((md a0).map iRow) : List (List L)) := by
  unfold gd at hg
  have H0 := hg
  unfold F md
  try simp only [S0, MKeys.rs]
  refine yes_ret (by
      have := (H0).1
      refine lim_t ?_
      try simp (disch := omega) only [LN, wi]
      first | omega | (simp; done) | (simp; omega)) ?_
  all_goals first | rfl | (simp only [S0, MKeys.rs]; done) | (simp only [MP]; rfl) | (simp only [S0, MKeys.rs, MP]; first | done | rfl)
theorem valid_ : Valid Tryz.prog Ev 216 con := VV (run := fun _ x => F x) mix tab_ok .nil Tryz.func216 (by kernel_rfl) run_eq (fun _ a _ _ hg => ⟨0, okF a hg⟩)
theorem len (a0 : MKeys) : (md a0).length = 2 + a0.fList.length := by simp [md]; omega
end spec_KeysInts
/-! spec.Mod -/
namespace spec_Mod
noncomputable def F (x0 : Int) (x1 : Int) : Ans := (call (spec_l1In.R (x1, 1, 1000000000000)) fun v1 => (bif (!v1) then ret (0 : Int) else (bif (decide (x1 = 0)) then none else (bif (decide (x1 = 0)) then none else ret ((Int.tmod (IntKind.i64.wrap ((Int.tmod x0 x1) + x1)) x1) : Int)))))
def pats : List Pat := [.rd (.int .i64), .rd (.int .i64)]
def res : RP := .one (.rd (.int .i64))
noncomputable abbrev E : Env := { T := assoc Tab, G := conG [(120, spec_l1In.con)], nt := 15 }
set_option maxRecDepth 100000
theorem run_eq (n : Nat) (ls : List L) : runF E (fun _ => []) Tryz.f285 res n (initS pats ls) = F (ls.headD .hole).toInt ((dropT 1 ls).headD .hole).toInt := by kernel_rfl
noncomputable def md (a0 : Int) (a1 : Int) : Int := (bif (!(spec_l1In.md a1 1 1000000000000)) then (0 : Int) else ((Int.tmod (IntKind.i64.wrap ((Int.tmod a0 a1) + a1)) a1) : Int))
def gd (a0 : Int) (a1 : Int) : Prop := True
def acc (ls : List L) : Int × Int := ((ls.headD .hole).toInt, ((dropT 1 ls).headD .hole).toInt)
noncomputable def R : (Int × Int) → Option Int := RR (p2 gd) (u2 md)
theorem R_eq {a0} {a1} (h : gd a0 a1) : R (a0, a1) = some (md a0 a1) := RR_eq (a := (a0, a1)) h
noncomputable def con : Con := CN pats res acc R
theorem okF (a0 : Int) (a1 : Int) (hg : gd a0 a1) : F a0 a1 = ret ((md a0 a1) : Int) := by
  unfold F md
  try simp only [S0]
  refine call_to (spec_l1In.md a1 1 1000000000000) (spec_l1In.R_eq (a0 := a1) (a1 := 1) (a2 := 1000000000000) trivial) ?_
  refine bif_out ret (fun _ => rfl) (fun c1 => ?_)
  have dc1 := c1
  try simp only [DC] at dc1
  have Dc1 := c1
  try simp [spec_l1In.md] at Dc1
  refine no_ret (by
      refine decide_eq_false ?_
      try simp (disch := omega) only [LN, wi]
      first | omega | (simp; done) | (simp; omega)) ?_
  refine no_ret (by
      refine decide_eq_false ?_
      try simp (disch := omega) only [LN, wi]
      first | omega | (simp; done) | (simp; omega)) ?_
  all_goals first | rfl | (simp only [S0, MP]; first | done | rfl)
theorem valid_ : Valid Tryz.prog Ev 285 con := VV (run := fun _ x => F x.1 x.2) mix tab_ok (.cons spec_l1In.valid_ .nil) Tryz.func285 (by kernel_rfl) run_eq (fun _ a _ _ hg => ⟨0, okF a.1 a.2 hg⟩)
end spec_Mod
/-! spec.Hash -/
namespace spec_Hash
inductive Pt where
  | p0 (a : List (List L)) (b : Int) (c : Int)
def pid : Pt → Nat
  | .p0 .. => 3
def pvs : Pt → List V
  | .p0 a b c => [.sl none 3 a, .int .i64 b, .int .i64 c]
def phs : Pt → List Root
  | .p0 a b c => []
noncomputable def step (J : Pt → Ans) : Pt → Ans
  | .p0 a b c => (bif (decide (c < (a.length : Int))) then (bif (decide ((0 : Int) ≤ c)) then (bif (decide (c < (a.length : Int))) then (call (spec_Mod.R ((iAt a (Int.toNat c)), 2147483647)) fun v1 => J (.p0 a (Int.tmod (IntKind.i64.wrap ((IntKind.i64.wrap ((IntKind.i64.wrap (b * 1000003)) + v1)) + 13)) 2147483647) (IntKind.i64.wrap (c + 1)))) else none) else none) else ret (b : Int))
noncomputable def start (J : Pt → Ans) (x0 : List (List L)) : Ans := J (.p0 x0 11 0)
def live : Nat → Live := fun i => match i with | 3 => [(0, none), (3, none), (4, none)] | _ => []
def pats : List Pat := [.rd (.sl 3)]
def res : RP := .one (.rd (.int .i64))
noncomputable abbrev E : Env := { T := assoc Tab, G := conG [(285, spec_Mod.con)], nt := 22 }
set_option maxRecDepth 100000
theorem step_eq (I : Heads) (p : Pt) : enterC E live I (pid p) (bodyOf Tryz.f248) (stOf (live (pid p)) (pvs p) (phs p)) (doneK E Tryz.f248 res) = step (fun q => I (pid q) (pvs q) (phs q)) p := by
  cases p <;> kernel_rfl
theorem start_eq (I : Heads) (ls : List L) : runC E live I (bodyOf Tryz.f248) (initS pats ls) (doneK E Tryz.f248 res) = start (fun q => I (pid q) (pvs q) (phs q)) (ls.headD .hole).toSl := by kernel_rfl
theorem run_eq (n : Nat) (ls : List L) : runF E live Tryz.f248 res n (initS pats ls) = start (iter step n) (ls.headD .hole).toSl := runF_iter (id := pid) (vs := pvs) (hs := phs) (step := step) (start := fun J => start J (ls.headD .hole).toSl) step_eq (fun I => start_eq I ls) n
noncomputable def md (a0 : List Int) : Int := (eachM (S := Int) (β := Int) (fun (y1 : Int) (s3 : Int) => (.inl (Int.tmod (IntKind.i64.wrap ((IntKind.i64.wrap ((IntKind.i64.wrap (s3 * 1000003)) + (spec_Mod.md y1 2147483647))) + 13)) 2147483647))) (fun (s3 : Int) => (s3 : Int)) a0 11)
def gd (a0 : List Int) : Prop := (SmL (2 ^ 43) (fun y : Int => True) a0)
def acc (ls : List L) : List (List L) := (ls.headD .hole).toSl
noncomputable def R : (List (List L)) → Option Int := RR gd md
theorem R_eq {a0} (h : gd a0) : R (a0.map iRow) = some (md a0) := RR_eq (a := a0) h
noncomputable def con : Con := CN pats res acc R
theorem okF (a0 : List Int) (hg : gd a0) : ∃ n, start (iter step n) (a0.map iRow) = ret ((md a0) : Int) := by
  unfold gd at hg
  have H0 := hg
  unfold start md
  try simp only [S0]
  have Bh2 : a0.length ≤ maxLen := (by
      have := (H0).1
      try simp only [maxLen] at *
      omega)
  refine ex_eq (out := ret) (loopM_eachM (z := 0)) ?_
  refine ex_pt (p := Pt.p0 (a0.map iRow) 11 0) (by first | rfl | (simp only [S0, MP]; done) | (simp only [MP]; rfl)) ?_
  refine loopM_ok (pt := fun (i1 : Nat) (s3 : Int) => Pt.p0 (a0.map iRow) s3 (i1 : Int)) (s := (11 : Int)) (out := ret) (fun _ _ => True) (fun J i1 s3 h2 hih2 => ?_) (fun s3 hih2 => ?_) trivial
  · simp only [step, S0]
    have bb_ := Bh2
    simp only [maxLen] at bb_
    have := (H0).1
    refine Rnd.yes (by apply decide_eq_true; omega) ?_
    refine Rnd.yes zle_dec ?_
    refine Rnd.yes (lt_dec h2) ?_
    refine Rnd.call_to (spec_Mod.md (a0.getD i1 0) 2147483647) (spec_Mod.R_eq (a0 := (a0.getD i1 0)) (a1 := 2147483647) trivial) ?_
    refine Rnd.inl trivial ?_
    rw [wrap_succ h2 Bh2]
    all_goals first | rfl | (simp only [S0, MP]; first | done | rfl)
  · simp only [step, S0]
    have := (H0).1
    refine ex_no (by apply decide_eq_false; omega) ?_
    refine ⟨0, ?_⟩
    all_goals first | rfl | (simp only [S0, MP]; first | done | rfl)
theorem valid_ : Valid Tryz.prog Ev 248 con := VV (run := fun n x => start (iter step n) x) mix tab_ok (.cons spec_Mod.valid_ .nil) Tryz.func248 (by kernel_rfl) run_eq (fun _ a _ _ hg => okF a hg)
end spec_Hash
/-! spec.ZoneOf -/
namespace spec_ZoneOf
noncomputable def F (x0 : RKeys) (x1 : Int) : Ans := (call (spec_KeysInts.R x0) fun v1 => (bif (lim (((2 : Int) + (v1.length : Int)) * 8)) then (call (spec_Hash.R ([[L.int 239], [L.int x1]] ++ v1)) fun v2 => ret (v2 : Int)) else none))
def pats : List Pat := [.agg [.sl 3, .int .i64], .rd (.int .i64)]
def res : RP := .one (.rd (.int .i64))
noncomputable abbrev E : Env := { T := assoc Tab, G := conG [(216, spec_KeysInts.con), (248, spec_Hash.con)], nt := 11 }
set_option maxRecDepth 100000
theorem run_eq (n : Nat) (ls : List L) : runF E (fun _ => []) Tryz.f239 res n (initS pats ls) = F (RKeys.dec ls) ((dropT 2 ls).headD .hole).toInt := by kernel_rfl
noncomputable def md (a0 : MKeys) (a1 : Int) : Int := ((spec_Hash.md ([239, a1] ++ (spec_KeysInts.md a0))) : Int)
def gd (a0 : MKeys) (a1 : Int) : Prop := (MKeys.Sm (2 ^ 21) a0)
def acc (ls : List L) : RKeys × Int := ((RKeys.dec ls), ((dropT 2 ls).headD .hole).toInt)
noncomputable def R : (RKeys × Int) → Option Int := RR (p2 gd) (u2 md)
theorem R_eq {a0} {a1} (h : gd a0 a1) : R ((MKeys.r a0), a1) = some (md a0 a1) := RR_eq (a := (a0, a1)) h
noncomputable def con : Con := CN pats res acc R
theorem okF (a0 : MKeys) (a1 : Int) (hg : gd a0 a1) : F (MKeys.r a0) a1 = ret ((md a0 a1) : Int) := by
  unfold gd at hg
  have H0 := hg
  unfold F md
  try simp only [S0]
  refine call_to ((spec_KeysInts.md a0).map iRow) (spec_KeysInts.R_eq (a0 := a0) H0) ?_
  try simp only [S0]
  refine yes_ret (by
      have := spec_KeysInts.len a0
      have := (H0).1
      refine lim_t ?_
      try simp (disch := omega) only [LN, wi]
      first | omega | (simp; done) | (simp; omega)) ?_
  refine call_to (spec_Hash.md ([239, a1] ++ (spec_KeysInts.md a0))) ?_ ?_
  · have R_ := spec_Hash.R_eq (a0 := ([239, a1] ++ (spec_KeysInts.md a0))) ⟨(by
        have := spec_KeysInts.len a0
        have := (H0).1
        try simp (disch := omega) only [LN, wi]
        first | omega | (simp; done) | (simp; omega)), fun _ _ => trivial⟩
    first | exact R_ | (simp only [MP, S0] at R_ ⊢; first | exact R_ | (rw [← R_]; rfl))
  all_goals first | rfl | (simp only [S0, MP]; first | done | rfl)
theorem valid_ : Valid Tryz.prog Ev 239 con := VV (run := fun _ x => F x.1 x.2) mix tab_ok (.cons spec_KeysInts.valid_ (.cons spec_Hash.valid_ .nil)) Tryz.func239 (by kernel_rfl) run_eq (fun _ a _ _ hg => ⟨0, okF a.1 a.2 hg⟩)
end spec_ZoneOf
/-! spec.HeadInts -/
namespace spec_HeadInts
noncomputable def F (x0 : RHead) : Ans := (call (spec_KeysInts.R x0.fKeys) fun v1 => (bif (lim (((8 : Int) + (v1.length : Int)) * 8)) then (call (spec_KeysInts.R x0.fHeirs) fun v2 => (bif (lim (((([[L.int x0.fZone], [L.int x0.fEpoch], [L.int x0.fKind], [L.int x0.fTime], [L.int x0.fUntil], [L.int x0.fCount], [L.int x0.fRoot], [L.int x0.fPrev]] ++ v1).length : Int) + (v2.length : Int)) * 8)) then (bif (lim ((((([[L.int x0.fZone], [L.int x0.fEpoch], [L.int x0.fKind], [L.int x0.fTime], [L.int x0.fUntil], [L.int x0.fCount], [L.int x0.fRoot], [L.int x0.fPrev]] ++ v1) ++ v2).length : Int) + 1) * 8)) then (call (spec_KeysInts.R x0.fJudge) fun v3 => (bif (lim (((((([[L.int x0.fZone], [L.int x0.fEpoch], [L.int x0.fKind], [L.int x0.fTime], [L.int x0.fUntil], [L.int x0.fCount], [L.int x0.fRoot], [L.int x0.fPrev]] ++ v1) ++ v2) ++ [[L.int x0.fWait]]).length : Int) + (v3.length : Int)) * 8)) then (bif x0.fFrozen then (bif (lim ((((((([[L.int x0.fZone], [L.int x0.fEpoch], [L.int x0.fKind], [L.int x0.fTime], [L.int x0.fUntil], [L.int x0.fCount], [L.int x0.fRoot], [L.int x0.fPrev]] ++ v1) ++ v2) ++ [[L.int x0.fWait]]) ++ v3).length : Int) + 1) * 8)) then ret (((((([[L.int x0.fZone], [L.int x0.fEpoch], [L.int x0.fKind], [L.int x0.fTime], [L.int x0.fUntil], [L.int x0.fCount], [L.int x0.fRoot], [L.int x0.fPrev]] ++ v1) ++ v2) ++ [[L.int x0.fWait]]) ++ v3) ++ [[L.int 1]]) : List (List L)) else none) else (bif (lim ((((((([[L.int x0.fZone], [L.int x0.fEpoch], [L.int x0.fKind], [L.int x0.fTime], [L.int x0.fUntil], [L.int x0.fCount], [L.int x0.fRoot], [L.int x0.fPrev]] ++ v1) ++ v2) ++ [[L.int x0.fWait]]) ++ v3).length : Int) + 1) * 8)) then ret (((((([[L.int x0.fZone], [L.int x0.fEpoch], [L.int x0.fKind], [L.int x0.fTime], [L.int x0.fUntil], [L.int x0.fCount], [L.int x0.fRoot], [L.int x0.fPrev]] ++ v1) ++ v2) ++ [[L.int x0.fWait]]) ++ v3) ++ [[L.int 0]]) : List (List L)) else none)) else none)) else none) else none)) else none))
def pats : List Pat := [.agg [.int .i64, .int .i64, .int .i64, .int .i64, .int .i64, .int .i64, .int .i64, .int .i64, .sl 3, .int .i64, .sl 3, .int .i64, .int .i64, .sl 3, .int .i64, .bool]]
def res : RP := .one (.fr 3)
noncomputable abbrev E : Env := { T := assoc Tab, G := conG [(216, spec_KeysInts.con)], nt := 49 }
set_option maxRecDepth 100000
theorem run_eq (n : Nat) (ls : List L) : runF E (fun _ => []) Tryz.f190 res n (initS pats ls) = F (RHead.dec ls) := by kernel_rfl
noncomputable def md (a0 : MHead) : List Int := (bif a0.fFrozen then ((((([a0.fZone, a0.fEpoch, a0.fKind, a0.fTime, a0.fUntil, a0.fCount, a0.fRoot, a0.fPrev] ++ (spec_KeysInts.md a0.fKeys)) ++ (spec_KeysInts.md a0.fHeirs)) ++ [a0.fWait]) ++ (spec_KeysInts.md a0.fJudge)) ++ [1]) else ((((([a0.fZone, a0.fEpoch, a0.fKind, a0.fTime, a0.fUntil, a0.fCount, a0.fRoot, a0.fPrev] ++ (spec_KeysInts.md a0.fKeys)) ++ (spec_KeysInts.md a0.fHeirs)) ++ [a0.fWait]) ++ (spec_KeysInts.md a0.fJudge)) ++ [0]))
def gd (a0 : MHead) : Prop := (MHead.Sm (2 ^ 21) a0)
def acc (ls : List L) : RHead := (RHead.dec ls)
noncomputable def R : RHead → Option (List (List L)) := RR gd md
theorem R_eq {a0} (h : gd a0) : R (MHead.r a0) = some ((md a0).map iRow) := RR_eq (a := a0) h
noncomputable def con : Con := CN pats res acc R
theorem okF (a0 : MHead) (hg : gd a0) : F (MHead.r a0) = ret (((md a0).map iRow) : List (List L)) := by
  unfold gd at hg
  have H0 := hg
  unfold F md
  try simp only [S0, MHead.rs]
  refine call_to ((spec_KeysInts.md a0.fKeys).map iRow) (spec_KeysInts.R_eq (a0 := a0.fKeys) H0.1) ?_
  try simp only [S0, MHead.rs]
  refine yes_ret (by
      have := spec_KeysInts.len a0.fKeys
      have := (H0.1).1
      refine lim_t ?_
      try simp (disch := omega) only [LN, wi]
      first | omega | (simp; done) | (simp; omega)) ?_
  refine call_to ((spec_KeysInts.md a0.fHeirs).map iRow) (spec_KeysInts.R_eq (a0 := a0.fHeirs) H0.2.1) ?_
  try simp only [S0, MHead.rs]
  refine yes_ret (by
      have := spec_KeysInts.len a0.fKeys
      have := (H0.1).1
      have := spec_KeysInts.len a0.fHeirs
      have := (H0.2.1).1
      refine lim_t ?_
      try simp (disch := omega) only [LN, wi]
      first | omega | (simp; done) | (simp; omega)) ?_
  refine yes_ret (by
      have := spec_KeysInts.len a0.fKeys
      have := (H0.1).1
      have := spec_KeysInts.len a0.fHeirs
      have := (H0.2.1).1
      refine lim_t ?_
      try simp (disch := omega) only [LN, wi]
      first | omega | (simp; done) | (simp; omega)) ?_
  refine call_to ((spec_KeysInts.md a0.fJudge).map iRow) (spec_KeysInts.R_eq (a0 := a0.fJudge) H0.2.2) ?_
  try simp only [S0, MHead.rs]
  refine yes_ret (by
      have := spec_KeysInts.len a0.fKeys
      have := (H0.1).1
      have := spec_KeysInts.len a0.fHeirs
      have := (H0.2.1).1
      have := spec_KeysInts.len a0.fJudge
      have := (H0.2.2).1
      refine lim_t ?_
      try simp (disch := omega) only [LN, wi]
      first | omega | (simp; done) | (simp; omega)) ?_
  refine bif_out (fun b : List Int => ret ((b.map iRow) : List (List L))) (fun c1 => ?_) (fun c1 => ?_)
  · refine yes_ret (by
        have := spec_KeysInts.len a0.fKeys
        have := (H0.1).1
        have := spec_KeysInts.len a0.fHeirs
        have := (H0.2.1).1
        have := spec_KeysInts.len a0.fJudge
        have := (H0.2.2).1
        refine lim_t ?_
        try simp (disch := omega) only [LN, wi]
        first | omega | (simp; done) | (simp; omega)) ?_
    all_goals first | rfl | (simp only [S0, MHead.rs]; done) | (simp only [MP]; rfl) | (simp only [S0, MHead.rs, MP]; first | done | rfl)
  · refine yes_ret (by
        have := spec_KeysInts.len a0.fKeys
        have := (H0.1).1
        have := spec_KeysInts.len a0.fHeirs
        have := (H0.2.1).1
        have := spec_KeysInts.len a0.fJudge
        have := (H0.2.2).1
        refine lim_t ?_
        try simp (disch := omega) only [LN, wi]
        first | omega | (simp; done) | (simp; omega)) ?_
    all_goals first | rfl | (simp only [S0, MHead.rs]; done) | (simp only [MP]; rfl) | (simp only [S0, MHead.rs, MP]; first | done | rfl)
theorem valid_ : Valid Tryz.prog Ev 190 con := VV (run := fun _ x => F x) mix tab_ok (.cons spec_KeysInts.valid_ .nil) Tryz.func190 (by kernel_rfl) run_eq (fun _ a _ _ hg => ⟨0, okF a hg⟩)
theorem len (a0 : MHead) : (md a0).length = 16 + a0.fKeys.fList.length + a0.fHeirs.fList.length + a0.fJudge.fList.length := by unfold md; cases a0.fFrozen <;> simp [spec_KeysInts.md] <;> omega
theorem injK {k l : MKeys} {x y : List Int} (h : spec_KeysInts.md k ++ x = spec_KeysInts.md l ++ y) : k = l ∧ x = y := by
  obtain ⟨kl, kn⟩ := k
  obtain ⟨ll, ln⟩ := l
  simp only [spec_KeysInts.md, List.cons_append, List.nil_append, List.cons.injEq] at h
  obtain ⟨h1, h2, h3⟩ := h
  obtain ⟨h4, h5⟩ := List.append_inj h3 (by omega)
  exact ⟨by rw [h1, h4], h5⟩
theorem md_form (a : MHead) : md a = a.fZone :: a.fEpoch :: a.fKind :: a.fTime :: a.fUntil :: a.fCount :: a.fRoot :: a.fPrev :: (spec_KeysInts.md a.fKeys ++ (spec_KeysInts.md a.fHeirs ++ (a.fWait :: (spec_KeysInts.md a.fJudge ++ [bif a.fFrozen then 1 else 0])))) := by
  unfold md
  cases a.fFrozen <;> simp only [cond_true, cond_false, List.append_assoc, List.cons_append, List.nil_append]
theorem inj {a b : MHead} (h : md a = md b) : a = b := by
  rw [md_form, md_form] at h
  simp only [List.cons.injEq] at h
  obtain ⟨g1, g2, g3, g4, g5, g6, g7, g8, g9⟩ := h
  obtain ⟨k1, g9⟩ := injK g9
  obtain ⟨k2, g9⟩ := injK g9
  simp only [List.cons.injEq] at g9
  obtain ⟨k3, g9⟩ := g9
  obtain ⟨k4, g9⟩ := injK g9
  have k5 : a.fFrozen = b.fFrozen := by
    simp only [List.cons.injEq, and_true] at g9
    revert g9
    cases a.fFrozen <;> cases b.fFrozen <;> simp
  cases a; cases b
  simp only [MHead.mk.injEq]
  exact ⟨g1, g2, g3, g4, g5, g6, g7, g8, k1, k2, k3, k4, k5⟩
end spec_HeadInts
/-! spec.KeyedHash -/
namespace spec_KeyedHash
noncomputable def F (x0 : Int) (x1 : List (List L)) : Ans := (bif (lim (((1 : Int) + (x1.length : Int)) * 8)) then (bif (lim (((([[L.int x0]] ++ x1).length : Int) + 1) * 8)) then (call (spec_Hash.R (([[L.int x0]] ++ x1) ++ [[L.int x0]])) fun v1 => ret (v1 : Int)) else none) else none)
def pats : List Pat := [.rd (.int .i64), .rd (.sl 3)]
def res : RP := .one (.rd (.int .i64))
noncomputable abbrev E : Env := { T := assoc Tab, G := conG [(248, spec_Hash.con)], nt := 13 }
set_option maxRecDepth 100000
theorem run_eq (n : Nat) (ls : List L) : runF E (fun _ => []) Tryz.f332 res n (initS pats ls) = F (ls.headD .hole).toInt ((dropT 1 ls).headD .hole).toSl := by kernel_rfl
noncomputable def md (a0 : Int) (a1 : List Int) : Int := ((spec_Hash.md (([a0] ++ a1) ++ [a0])) : Int)
def gd (a0 : Int) (a1 : List Int) : Prop := (SmL (2 ^ 40) (fun y : Int => True) a1)
def acc (ls : List L) : Int × List (List L) := ((ls.headD .hole).toInt, ((dropT 1 ls).headD .hole).toSl)
noncomputable def R : (Int × List (List L)) → Option Int := RR (p2 gd) (u2 md)
theorem R_eq {a0} {a1} (h : gd a0 a1) : R (a0, (a1.map iRow)) = some (md a0 a1) := RR_eq (a := (a0, a1)) h
noncomputable def con : Con := CN pats res acc R
theorem okF (a0 : Int) (a1 : List Int) (hg : gd a0 a1) : F a0 (a1.map iRow) = ret ((md a0 a1) : Int) := by
  unfold gd at hg
  have H1 := hg
  unfold F md
  try simp only [S0]
  refine yes_ret (by
      have := (H1).1
      refine lim_t ?_
      try simp (disch := omega) only [LN, wi]
      first | omega | (simp; done) | (simp; omega)) ?_
  refine yes_ret (by
      have := (H1).1
      refine lim_t ?_
      try simp (disch := omega) only [LN, wi]
      first | omega | (simp; done) | (simp; omega)) ?_
  refine call_to (spec_Hash.md (([a0] ++ a1) ++ [a0])) ?_ ?_
  · have R_ := spec_Hash.R_eq (a0 := (([a0] ++ a1) ++ [a0])) ⟨(by
        have := (H1).1
        try simp (disch := omega) only [LN, wi]
        first | omega | (simp; done) | (simp; omega)), fun _ _ => trivial⟩
    first | exact R_ | (simp only [MP, S0] at R_ ⊢; first | exact R_ | (rw [← R_]; rfl))
  all_goals first | rfl | (simp only [S0, MP]; first | done | rfl)
theorem valid_ : Valid Tryz.prog Ev 332 con := VV (run := fun _ x => F x.1 x.2) mix tab_ok (.cons spec_Hash.valid_ .nil) Tryz.func332 (by kernel_rfl) run_eq (fun _ a _ _ hg => ⟨0, okF a.1 a.2 hg⟩)
end spec_KeyedHash
/-! spec.TagOf -/
namespace spec_TagOf
noncomputable def F (x0 : Int) (x1 : List (List L)) : Ans := (bif (lim (((1 : Int) + (x1.length : Int)) * 8)) then (call (spec_KeyedHash.R (x0, ([[L.int 223]] ++ x1))) fun v1 => ret (v1 : Int)) else none)
def pats : List Pat := [.rd (.int .i64), .rd (.sl 3)]
def res : RP := .one (.rd (.int .i64))
noncomputable abbrev E : Env := { T := assoc Tab, G := conG [(332, spec_KeyedHash.con)], nt := 10 }
set_option maxRecDepth 100000
theorem run_eq (n : Nat) (ls : List L) : runF E (fun _ => []) Tryz.f320 res n (initS pats ls) = F (ls.headD .hole).toInt ((dropT 1 ls).headD .hole).toSl := by kernel_rfl
noncomputable def md (a0 : Int) (a1 : List Int) : Int := ((spec_KeyedHash.md a0 ([223] ++ a1)) : Int)
def gd (a0 : Int) (a1 : List Int) : Prop := (SmL (2 ^ 39) (fun y : Int => True) a1)
def acc (ls : List L) : Int × List (List L) := ((ls.headD .hole).toInt, ((dropT 1 ls).headD .hole).toSl)
noncomputable def R : (Int × List (List L)) → Option Int := RR (p2 gd) (u2 md)
theorem R_eq {a0} {a1} (h : gd a0 a1) : R (a0, (a1.map iRow)) = some (md a0 a1) := RR_eq (a := (a0, a1)) h
noncomputable def con : Con := CN pats res acc R
theorem okF (a0 : Int) (a1 : List Int) (hg : gd a0 a1) : F a0 (a1.map iRow) = ret ((md a0 a1) : Int) := by
  unfold gd at hg
  have H1 := hg
  unfold F md
  try simp only [S0]
  refine yes_ret (by
      have := (H1).1
      refine lim_t ?_
      try simp (disch := omega) only [LN, wi]
      first | omega | (simp; done) | (simp; omega)) ?_
  refine call_to (spec_KeyedHash.md a0 ([223] ++ a1)) ?_ ?_
  · have R_ := spec_KeyedHash.R_eq (a0 := a0) (a1 := ([223] ++ a1)) ⟨(by
        have := (H1).1
        try simp (disch := omega) only [LN, wi]
        first | omega | (simp; done) | (simp; omega)), fun _ _ => trivial⟩
    first | exact R_ | (simp only [MP, S0] at R_ ⊢; first | exact R_ | (rw [← R_]; rfl))
  all_goals first | rfl | (simp only [S0, MP]; first | done | rfl)
theorem valid_ : Valid Tryz.prog Ev 320 con := VV (run := fun _ x => F x.1 x.2) mix tab_ok (.cons spec_KeyedHash.valid_ .nil) Tryz.func320 (by kernel_rfl) run_eq (fun _ a _ _ hg => ⟨0, okF a.1 a.2 hg⟩)
end spec_TagOf
/-! spec.IsSigBy -/
namespace spec_IsSigBy
noncomputable def F (x0 : MSig) (x1 : List (List L)) : Ans := (call (spec_l1In.R (x0.fKey, 1, 99)) fun v1 => (bif v1 then (call (spec_TagOf.R (x0.fKey, x1)) fun v2 => ret ((x0.fTag == v2) : Bool)) else ret (false : Bool)))
def pats : List Pat := [.agg [.int .i64, .int .i64], .rd (.sl 3)]
def res : RP := .one (.rd (.bool))
noncomputable abbrev E : Env := { T := assoc Tab, G := conG [(120, spec_l1In.con), (320, spec_TagOf.con)], nt := 17 }
set_option maxRecDepth 100000
theorem run_eq (n : Nat) (ls : List L) : runF E (fun _ => []) Tryz.f299 res n (initS pats ls) = F (MSig.dec ls) ((dropT 2 ls).headD .hole).toSl := by kernel_rfl
noncomputable def md (a0 : MSig) (a1 : List Int) : Bool := (bif (spec_l1In.md a0.fKey 1 99) then ((a0.fTag == (spec_TagOf.md a0.fKey a1)) : Bool) else (false : Bool))
def gd (a0 : MSig) (a1 : List Int) : Prop := (SmL (2 ^ 38) (fun y : Int => True) a1)
def acc (ls : List L) : MSig × List (List L) := ((MSig.dec ls), ((dropT 2 ls).headD .hole).toSl)
noncomputable def R : (MSig × List (List L)) → Option Bool := RR (p2 gd) (u2 md)
theorem R_eq {a0} {a1} (h : gd a0 a1) : R (a0, (a1.map iRow)) = some (md a0 a1) := RR_eq (a := (a0, a1)) h
noncomputable def con : Con := CN pats res acc R
theorem okF (a0 : MSig) (a1 : List Int) (hg : gd a0 a1) : F a0 (a1.map iRow) = ret ((md a0 a1) : Bool) := by
  unfold gd at hg
  have H1 := hg
  unfold F md
  try simp only [S0]
  refine call_to (spec_l1In.md a0.fKey 1 99) (spec_l1In.R_eq (a0 := a0.fKey) (a1 := 1) (a2 := 99) trivial) ?_
  refine bif_out ret (fun c1 => ?_) (fun _ => rfl)
  refine call_to (spec_TagOf.md a0.fKey a1) (spec_TagOf.R_eq (a0 := a0.fKey) (a1 := a1) (H1.mono (by decide) (fun x hx => trivial))) ?_
  all_goals first | rfl | (simp only [S0, MP]; first | done | rfl)
theorem valid_ : Valid Tryz.prog Ev 299 con := VV (run := fun _ x => F x.1 x.2) mix tab_ok (.cons spec_l1In.valid_ (.cons spec_TagOf.valid_ .nil)) Tryz.func299 (by kernel_rfl) run_eq (fun _ a _ _ hg => ⟨0, okF a.1 a.2 hg⟩)
end spec_IsSigBy
/-! spec.CountSigs -/
namespace spec_CountSigs
inductive Pt where
  | p0 (a : List (List L)) (b : List (List L)) (c : Int) (d : Int) (e : RKeys)
  | p1 (a : List (List L)) (b : List (List L)) (c : Int) (d : Int) (e : Int) (f : RKeys)
def pid : Pt → Nat
  | .p0 .. => 3
  | .p1 .. => 6
def pvs : Pt → List V
  | .p0 a b c d e => [.sl none 3 a, .sl none 184 b, .bptr 0 0, .int .i64 c, .int .i64 d]
  | .p1 a b c d e f => [.sl none 3 a, .sl none 184 b, .bptr 0 0, .int .i64 c, .int .i64 d, .int .i64 e]
def phs : Pt → List Root
  | .p0 a b c d e => [.box [.sl none 3 e.fList, .int .i64 e.fNeed]]
  | .p1 a b c d e f => [.box [.sl none 3 f.fList, .int .i64 f.fNeed]]
noncomputable def step (J : Pt → Ans) : Pt → Ans
  | .p0 a b c d e => (bif (decide (d < (e.fList.length : Int))) then J (.p1 a b c d 0 e) else ret (c : Int))
  | .p1 a b c d e f => (bif (decide (e < (b.length : Int))) then (bif (decide ((0 : Int) ≤ e)) then (bif (decide (e < (b.length : Int))) then (bif (decide ((0 : Int) ≤ d)) then (bif (decide (d < (f.fList.length : Int))) then (bif ((MSig.at b (Int.toNat e)).fKey == (iAt f.fList (Int.toNat d))) then (bif (decide ((0 : Int) ≤ e)) then (bif (decide (e < (b.length : Int))) then (call (spec_IsSigBy.R ((MSig.at b (Int.toNat e)), a)) fun v1 => (bif v1 then J (.p0 a b (IntKind.i64.wrap (c + 1)) (IntKind.i64.wrap (d + 1)) f) else J (.p1 a b c d (IntKind.i64.wrap (e + 1)) f))) else none) else none) else J (.p1 a b c d (IntKind.i64.wrap (e + 1)) f)) else none) else none) else none) else none) else J (.p0 a b c (IntKind.i64.wrap (d + 1)) f))
noncomputable def start (J : Pt → Ans) (x0 : RKeys) (x1 : List (List L)) (x2 : List (List L)) : Ans := J (.p0 x1 x2 0 0 x0)
def live : Nat → Live := fun i => match i with | 3 => [(1, none), (2, none), (3, none), (7, none), (8, none)] | 6 => [(1, none), (2, none), (3, none), (7, none), (8, none), (9, none)] | _ => []
def pats : List Pat := [.agg [.sl 3, .int .i64], .rd (.sl 3), .rd (.sl 184)]
def res : RP := .one (.rd (.int .i64))
noncomputable abbrev E : Env := { T := assoc Tab, G := conG [(299, spec_IsSigBy.con)], nt := 45 }
set_option maxRecDepth 100000
theorem step_eq (I : Heads) (p : Pt) : enterC E live I (pid p) (bodyOf Tryz.f270) (stOf (live (pid p)) (pvs p) (phs p)) (doneK E Tryz.f270 res) = step (fun q => I (pid q) (pvs q) (phs q)) p := by
  cases p <;> kernel_rfl
theorem start_eq (I : Heads) (ls : List L) : runC E live I (bodyOf Tryz.f270) (initS pats ls) (doneK E Tryz.f270 res) = start (fun q => I (pid q) (pvs q) (phs q)) (RKeys.dec ls) ((dropT 2 ls).headD .hole).toSl ((dropT 3 ls).headD .hole).toSl := by kernel_rfl
theorem run_eq (n : Nat) (ls : List L) : runF E live Tryz.f270 res n (initS pats ls) = start (iter step n) (RKeys.dec ls) ((dropT 2 ls).headD .hole).toSl ((dropT 3 ls).headD .hole).toSl := runF_iter (id := pid) (vs := pvs) (hs := phs) (step := step) (start := fun J => start J (RKeys.dec ls) ((dropT 2 ls).headD .hole).toSl ((dropT 3 ls).headD .hole).toSl) step_eq (fun I => start_eq I ls) n
noncomputable def md (a0 : MKeys) (a1 : List Int) (a2 : List MSig) : Int := (eachM (S := Int) (β := Int) (fun (y1 : Int) (s3 : Int) => (eachM (S := Unit) (β := (Int ⊕ Int)) (fun (y5 : MSig) (s7 : Unit) => (bif (y5.fKey == y1) then (bif (spec_IsSigBy.md y5 a1) then (.inr (.inl (IntKind.i64.wrap (s3 + 1)))) else (.inl ())) else (.inl ()))) (fun (s7 : Unit) => (.inl s3)) a2 ())) (fun (s3 : Int) => (s3 : Int)) a0.fList 0)
def gd (a0 : MKeys) (a1 : List Int) (a2 : List MSig) : Prop := (MKeys.Sm (2 ^ 21) a0) ∧ (SmL (2 ^ 38) (fun y : Int => True) a1) ∧ (SmL (2 ^ 21) (fun y : MSig => MSig.Sm (2 ^ 21) y) a2)
def acc (ls : List L) : RKeys × List (List L) × List (List L) := ((RKeys.dec ls), ((dropT 2 ls).headD .hole).toSl, ((dropT 3 ls).headD .hole).toSl)
noncomputable def R : (RKeys × List (List L) × List (List L)) → Option Int := RR (p3 gd) (u3 md)
theorem R_eq {a0} {a1} {a2} (h : gd a0 a1 a2) : R ((MKeys.r a0), (a1.map iRow), (a2.map MSig.row)) = some (md a0 a1 a2) := RR_eq (a := (a0, a1, a2)) h
noncomputable def con : Con := CN pats res acc R
theorem okF (a0 : MKeys) (a1 : List Int) (a2 : List MSig) (hg : gd a0 a1 a2) : ∃ n, start (iter step n) (MKeys.r a0) (a1.map iRow) (a2.map MSig.row) = ret ((md a0 a1 a2) : Int) := by
  unfold gd at hg
  obtain ⟨H0, H1, H2⟩ := hg
  unfold start md
  try simp only [S0, MKeys.rs, MSig.rs]
  have Bh2 : a0.fList.length ≤ maxLen := (by
      have := (H0).1
      try simp only [maxLen] at *
      omega)
  refine ex_eq (out := ret) (loopM_eachM (z := 0)) ?_
  refine ex_pt (p := Pt.p0 (a1.map iRow) (a2.map MSig.row) 0 0 (MKeys.r a0)) (by first | rfl | (simp only [S0, MKeys.rs, MSig.rs, MP]; done) | (simp only [MP]; rfl)) ?_
  refine loopM_ex (pt := fun (i1 : Nat) (s3 : Int) => Pt.p0 (a1.map iRow) (a2.map MSig.row) s3 (i1 : Int) (MKeys.r a0)) (s := (0 : Int)) (out := ret) (fun _ _ => True) (fun i1 s3 h2 hih2 K4 hK4 rK4 => ?_) (fun s3 hih2 => ?_) trivial
  · simp only [step, S0, MKeys.rs, MSig.rs]
    have bb_ := Bh2
    simp only [maxLen] at bb_
    have := (H0).1
    refine ex_yes (by apply decide_eq_true; omega) ?_
    have Bh6 : a2.length ≤ maxLen := (by
        have := (H2).1
        try simp only [maxLen] at *
        omega)
    refine ex_eq (out := K4) (loopM_eachM (z := MSig.zero)) ?_
    refine ex_pt (p := Pt.p1 (a1.map iRow) (a2.map MSig.row) s3 (i1 : Int) 0 (MKeys.r a0)) (by first | rfl | (simp only [S0, MKeys.rs, MSig.rs, MP]; done) | (simp only [MP]; rfl)) ?_
    refine loopM_ex (pt := fun (i5 : Nat) (s7 : Unit) => Pt.p1 (a1.map iRow) (a2.map MSig.row) s3 (i1 : Int) (i5 : Int) (MKeys.r a0)) (s := (() : Unit)) (out := K4) (fun _ _ => True) (fun i5 s7 h6 hih6 K8 hK8 rK8 => ?_) (fun s7 hih6 => ?_) trivial
    · simp only [step, S0, MKeys.rs, MSig.rs]
      have bb_ := Bh6
      simp only [maxLen] at bb_
      have := (H2).1
      refine ex_yes (by apply decide_eq_true; omega) ?_
      refine ex_yes zle_dec ?_
      refine ex_yes (lt_dec h6) ?_
      refine ex_yes (by
          refine decide_eq_true ?_
          try simp (disch := omega) only [LN, wi]
          first | omega | (simp; done) | (simp; omega)) ?_
      refine ex_yes (by
          have := (H0).1
          refine decide_eq_true ?_
          try simp (disch := omega) only [LN, wi]
          first | omega | (simp; done) | (simp; omega)) ?_
      refine ex_bif K8 (fun c9 => ?_) (fun c9 => ?_)
      · refine ex_yes zle_dec ?_
        refine ex_yes (lt_dec h6) ?_
        refine ex_call_to (spec_IsSigBy.md (a2.getD i5 MSig.zero) a1) (spec_IsSigBy.R_eq (a0 := (a2.getD i5 MSig.zero)) (a1 := a1) H1) ?_
        refine ex_bif K8 (fun c10 => ?_) (fun c10 => ?_)
        · rw [rK8]
          rw [wrap_succ h2 Bh2]
          first | exact hK4 _ trivial | (simp only [S0, MKeys.rs, MSig.rs]; exact hK4 _ trivial) | (simp only [MP]; exact hK4 _ trivial)
        · rw [wrap_succ h6 Bh6]
          first | exact hK8 _ trivial | (simp only [S0, MKeys.rs, MSig.rs]; exact hK8 _ trivial) | (simp only [MP]; exact hK8 _ trivial)
      · rw [wrap_succ h6 Bh6]
        first | exact hK8 _ trivial | (simp only [S0, MKeys.rs, MSig.rs]; exact hK8 _ trivial) | (simp only [MP]; exact hK8 _ trivial)
    · simp only [step, S0, MKeys.rs, MSig.rs]
      have := (H2).1
      refine ex_no (by apply decide_eq_false; omega) ?_
      rw [wrap_succ h2 Bh2]
      first | exact hK4 _ trivial | (simp only [S0, MKeys.rs, MSig.rs]; exact hK4 _ trivial) | (simp only [MP]; exact hK4 _ trivial)
  · simp only [step, S0, MKeys.rs, MSig.rs]
    have := (H0).1
    refine ex_no (by apply decide_eq_false; omega) ?_
    refine ⟨0, ?_⟩
    all_goals first | rfl | (simp only [S0, MKeys.rs, MSig.rs, MP]; first | done | rfl)
theorem valid_ : Valid Tryz.prog Ev 270 con := VV (run := fun n x => start (iter step n) x.1 x.2.1 x.2.2) mix tab_ok (.cons spec_IsSigBy.valid_ .nil) Tryz.func270 (by kernel_rfl) run_eq (fun _ a _ _ hg => okF a.1 a.2.1 a.2.2 hg)
end spec_CountSigs
/-! spec.IsSigned -/
namespace spec_IsSigned
noncomputable def F (x0 : RKeys) (x1 : List (List L)) (x2 : List (List L)) : Ans := (call (spec_IsKeys.R x0) fun v1 => (bif v1 then (call (spec_CountSigs.R (x0, x1, x2)) fun v2 => ret ((decide (v2 ≥ x0.fNeed)) : Bool)) else ret (false : Bool)))
def pats : List Pat := [.agg [.sl 3, .int .i64], .rd (.sl 3), .rd (.sl 184)]
def res : RP := .one (.rd (.bool))
noncomputable abbrev E : Env := { T := assoc Tab, G := conG [(268, spec_IsKeys.con), (270, spec_CountSigs.con)], nt := 18 }
set_option maxRecDepth 100000
theorem run_eq (n : Nat) (ls : List L) : runF E (fun _ => []) Tryz.f240 res n (initS pats ls) = F (RKeys.dec ls) ((dropT 2 ls).headD .hole).toSl ((dropT 3 ls).headD .hole).toSl := by kernel_rfl
noncomputable def md (a0 : MKeys) (a1 : List Int) (a2 : List MSig) : Bool := (bif (spec_IsKeys.md a0) then ((decide ((spec_CountSigs.md a0 a1 a2) ≥ a0.fNeed)) : Bool) else (false : Bool))
def gd (a0 : MKeys) (a1 : List Int) (a2 : List MSig) : Prop := (MKeys.Sm (2 ^ 21) a0) ∧ (SmL (2 ^ 38) (fun y : Int => True) a1) ∧ (SmL (2 ^ 21) (fun y : MSig => MSig.Sm (2 ^ 21) y) a2)
def acc (ls : List L) : RKeys × List (List L) × List (List L) := ((RKeys.dec ls), ((dropT 2 ls).headD .hole).toSl, ((dropT 3 ls).headD .hole).toSl)
noncomputable def R : (RKeys × List (List L) × List (List L)) → Option Bool := RR (p3 gd) (u3 md)
theorem R_eq {a0} {a1} {a2} (h : gd a0 a1 a2) : R ((MKeys.r a0), (a1.map iRow), (a2.map MSig.row)) = some (md a0 a1 a2) := RR_eq (a := (a0, a1, a2)) h
noncomputable def con : Con := CN pats res acc R
theorem okF (a0 : MKeys) (a1 : List Int) (a2 : List MSig) (hg : gd a0 a1 a2) : F (MKeys.r a0) (a1.map iRow) (a2.map MSig.row) = ret ((md a0 a1 a2) : Bool) := by
  unfold gd at hg
  obtain ⟨H0, H1, H2⟩ := hg
  unfold F md
  try simp only [S0, MKeys.rs]
  refine call_to (spec_IsKeys.md a0) (spec_IsKeys.R_eq (a0 := a0) H0) ?_
  refine bif_out ret (fun c1 => ?_) (fun _ => rfl)
  refine call_to (spec_CountSigs.md a0 a1 a2) (spec_CountSigs.R_eq (a0 := a0) (a1 := a1) (a2 := a2) ⟨H0, H1, H2⟩) ?_
  all_goals first | rfl | (simp only [S0, MKeys.rs, MP]; first | done | rfl)
theorem valid_ : Valid Tryz.prog Ev 240 con := VV (run := fun _ x => F x.1 x.2.1 x.2.2) mix tab_ok (.cons spec_IsKeys.valid_ (.cons spec_CountSigs.valid_ .nil)) Tryz.func240 (by kernel_rfl) run_eq (fun _ a _ _ hg => ⟨0, okF a.1 a.2.1 a.2.2 hg⟩)
end spec_IsSigned
/-! spec.IsFirst -/
namespace spec_IsFirst
noncomputable def F (x0 : RSigned) : Ans := (call (spec_IsHead.R x0.fHead) fun v1 => (bif v1 then (bif (x0.fHead.fEpoch == 0) then (bif (x0.fHead.fKind == 1) then (bif (!x0.fHead.fFrozen) then (call (spec_ZoneOf.R (x0.fHead.fKeys, x0.fHead.fPrev)) fun v2 => (bif (x0.fHead.fZone == v2) then (call (spec_HeadInts.R x0.fHead) fun v3 => (call (spec_IsSigned.R (x0.fHead.fKeys, v3, x0.fSigs)) fun v4 => ret (v4 : Bool))) else ret (false : Bool))) else ret (false : Bool)) else ret (false : Bool)) else ret (false : Bool)) else ret (false : Bool)))
def pats : List Pat := [.agg [.int .i64, .int .i64, .int .i64, .int .i64, .int .i64, .int .i64, .int .i64, .int .i64, .sl 3, .int .i64, .sl 3, .int .i64, .int .i64, .sl 3, .int .i64, .bool, .sl 184]]
def res : RP := .one (.rd (.bool))
noncomputable abbrev E : Env := { T := assoc Tab, G := conG [(238, spec_IsHead.con), (239, spec_ZoneOf.con), (190, spec_HeadInts.con), (240, spec_IsSigned.con)], nt := 42 }
set_option maxRecDepth 100000
theorem run_eq (n : Nat) (ls : List L) : runF E (fun _ => []) Tryz.f212 res n (initS pats ls) = F (RSigned.dec ls) := by kernel_rfl
noncomputable def md (a0 : MSigned) : Bool := (bif (spec_IsHead.md a0.fHead) then (bif (a0.fHead.fEpoch == 0) then (bif (a0.fHead.fKind == 1) then (bif (!a0.fHead.fFrozen) then (bif (a0.fHead.fZone == (spec_ZoneOf.md a0.fHead.fKeys a0.fHead.fPrev)) then ((spec_IsSigned.md a0.fHead.fKeys (spec_HeadInts.md a0.fHead) a0.fSigs) : Bool) else (false : Bool)) else (false : Bool)) else (false : Bool)) else (false : Bool)) else (false : Bool))
def gd (a0 : MSigned) : Prop := (MSigned.Sm (2 ^ 21) a0)
def acc (ls : List L) : RSigned := (RSigned.dec ls)
noncomputable def R : RSigned → Option Bool := RR gd md
theorem R_eq {a0} (h : gd a0) : R (MSigned.r a0) = some (md a0) := RR_eq (a := a0) h
noncomputable def con : Con := CN pats res acc R
theorem okF (a0 : MSigned) (hg : gd a0) : F (MSigned.r a0) = ret ((md a0) : Bool) := by
  unfold gd at hg
  have H0 := hg
  unfold F md
  try simp only [S0, MHead.rs, MSigned.rs]
  refine call_to (spec_IsHead.md a0.fHead) (spec_IsHead.R_eq (a0 := a0.fHead) H0.1) ?_
  refine bif_out ret (fun c1 => ?_) (fun _ => rfl)
  try have tc1 := spec_IsHead.tr (by simpa using c1)
  refine bif_out ret (fun c2 => ?_) (fun _ => rfl)
  have dc2 := c2
  try simp only [DC] at dc2
  refine bif_out ret (fun c3 => ?_) (fun _ => rfl)
  have dc3 := c3
  try simp only [DC] at dc3
  refine bif_out ret (fun c4 => ?_) (fun _ => rfl)
  have dc4 := c4
  try simp only [DC] at dc4
  refine call_to (spec_ZoneOf.md a0.fHead.fKeys a0.fHead.fPrev) (spec_ZoneOf.R_eq (a0 := a0.fHead.fKeys) (a1 := a0.fHead.fPrev) H0.1.1) ?_
  refine bif_out ret (fun c5 => ?_) (fun _ => rfl)
  have dc5 := c5
  try simp only [DC] at dc5
  refine call_to ((spec_HeadInts.md a0.fHead).map iRow) (spec_HeadInts.R_eq (a0 := a0.fHead) H0.1) ?_
  try simp only [S0, MHead.rs, MSigned.rs]
  refine call_to (spec_IsSigned.md a0.fHead.fKeys (spec_HeadInts.md a0.fHead) a0.fSigs) (spec_IsSigned.R_eq (a0 := a0.fHead.fKeys) (a1 := (spec_HeadInts.md a0.fHead)) (a2 := a0.fSigs) ⟨H0.1.1, ⟨(by
      have := spec_HeadInts.len a0.fHead
      have := (H0.1.1).1
      have := (H0.1.2.1).1
      have := (H0.1.2.2).1
      try simp (disch := omega) only [LN, wi]
      first | omega | (simp; done) | (simp; omega)), fun _ _ => trivial⟩, H0.2⟩) ?_
  all_goals first | rfl | (simp only [S0, MHead.rs, MSigned.rs, MP]; first | done | rfl)
theorem valid_ : Valid Tryz.prog Ev 212 con := VV (run := fun _ x => F x) mix tab_ok (.cons spec_IsHead.valid_ (.cons spec_ZoneOf.valid_ (.cons spec_HeadInts.valid_ (.cons spec_IsSigned.valid_ .nil)))) Tryz.func212 (by kernel_rfl) run_eq (fun _ a _ _ hg => ⟨0, okF a hg⟩)
end spec_IsFirst
/-! spec.HeadDigest -/
namespace spec_HeadDigest
noncomputable def F (x0 : RHead) : Ans := (call (spec_HeadInts.R x0) fun v1 => (bif (lim (((1 : Int) + (v1.length : Int)) * 8)) then (call (spec_Hash.R ([[L.int 233]] ++ v1)) fun v2 => ret (v2 : Int)) else none))
def pats : List Pat := [.agg [.int .i64, .int .i64, .int .i64, .int .i64, .int .i64, .int .i64, .int .i64, .int .i64, .sl 3, .int .i64, .sl 3, .int .i64, .int .i64, .sl 3, .int .i64, .bool]]
def res : RP := .one (.rd (.int .i64))
noncomputable abbrev E : Env := { T := assoc Tab, G := conG [(190, spec_HeadInts.con), (248, spec_Hash.con)], nt := 8 }
set_option maxRecDepth 100000
theorem run_eq (n : Nat) (ls : List L) : runF E (fun _ => []) Tryz.f271 res n (initS pats ls) = F (RHead.dec ls) := by kernel_rfl
noncomputable def md (a0 : MHead) : Int := ((spec_Hash.md ([233] ++ (spec_HeadInts.md a0))) : Int)
def gd (a0 : MHead) : Prop := (MHead.Sm (2 ^ 21) a0)
def acc (ls : List L) : RHead := (RHead.dec ls)
noncomputable def R : RHead → Option Int := RR gd md
theorem R_eq {a0} (h : gd a0) : R (MHead.r a0) = some (md a0) := RR_eq (a := a0) h
noncomputable def con : Con := CN pats res acc R
theorem okF (a0 : MHead) (hg : gd a0) : F (MHead.r a0) = ret ((md a0) : Int) := by
  unfold gd at hg
  have H0 := hg
  unfold F md
  try simp only [S0]
  refine call_to ((spec_HeadInts.md a0).map iRow) (spec_HeadInts.R_eq (a0 := a0) H0) ?_
  try simp only [S0]
  refine yes_ret (by
      have := spec_HeadInts.len a0
      have := (H0.1).1
      have := (H0.2.1).1
      have := (H0.2.2).1
      refine lim_t ?_
      try simp (disch := omega) only [LN, wi]
      first | omega | (simp; done) | (simp; omega)) ?_
  refine call_to (spec_Hash.md ([233] ++ (spec_HeadInts.md a0))) ?_ ?_
  · have R_ := spec_Hash.R_eq (a0 := ([233] ++ (spec_HeadInts.md a0))) ⟨(by
        have := spec_HeadInts.len a0
        have := (H0.1).1
        have := (H0.2.1).1
        have := (H0.2.2).1
        try simp (disch := omega) only [LN, wi]
        first | omega | (simp; done) | (simp; omega)), fun _ _ => trivial⟩
    first | exact R_ | (simp only [MP, S0] at R_ ⊢; first | exact R_ | (rw [← R_]; rfl))
  all_goals first | rfl | (simp only [S0, MP]; first | done | rfl)
theorem valid_ : Valid Tryz.prog Ev 271 con := VV (run := fun _ x => F x) mix tab_ok (.cons spec_HeadInts.valid_ (.cons spec_Hash.valid_ .nil)) Tryz.func271 (by kernel_rfl) run_eq (fun _ a _ _ hg => ⟨0, okF a hg⟩)
end spec_HeadDigest
/-! spec.l15Owner -/
namespace spec_l15Owner
noncomputable def F (x0 : RHead) (x1 : RHead) : Ans := (bif x0.fFrozen then ret (4 : Int) else (bif x1.fFrozen then ret (6 : Int) else ret (1 : Int)))
def pats : List Pat := [.agg [.int .i64, .int .i64, .int .i64, .int .i64, .int .i64, .int .i64, .int .i64, .int .i64, .sl 3, .int .i64, .sl 3, .int .i64, .int .i64, .sl 3, .int .i64, .bool], .agg [.int .i64, .int .i64, .int .i64, .int .i64, .int .i64, .int .i64, .int .i64, .int .i64, .sl 3, .int .i64, .sl 3, .int .i64, .int .i64, .sl 3, .int .i64, .bool]]
def res : RP := .one (.rd (.int .i64))
noncomputable abbrev E : Env := { T := assoc Tab, G := conG [], nt := 11 }
set_option maxRecDepth 100000
theorem run_eq (n : Nat) (ls : List L) : runF E (fun _ => []) Tryz.f272 res n (initS pats ls) = F (RHead.dec ls) (RHead.dec (dropT 16 ls)) := by kernel_rfl
noncomputable def md (a0 : MHead) (a1 : MHead) : Int := (bif a0.fFrozen then (4 : Int) else (bif a1.fFrozen then (6 : Int) else (1 : Int)))
def gd (a0 : MHead) (a1 : MHead) : Prop := True
def acc (ls : List L) : RHead × RHead := ((RHead.dec ls), (RHead.dec (dropT 16 ls)))
noncomputable def R : (RHead × RHead) → Option Int := RR (p2 gd) (u2 md)
theorem R_eq {a0} {a1} (h : gd a0 a1) : R ((MHead.r a0), (MHead.r a1)) = some (md a0 a1) := RR_eq (a := (a0, a1)) h
noncomputable def con : Con := CN pats res acc R
theorem okF (a0 : MHead) (a1 : MHead) (hg : gd a0 a1) : F (MHead.r a0) (MHead.r a1) = ret ((md a0 a1) : Int) := by
  unfold F md
  try simp only [S0, MHead.rs]
  refine bif_out ret (fun _ => rfl) (fun c1 => ?_)
  refine bif_out ret (fun _ => rfl) (fun _ => rfl)
theorem valid_ : Valid Tryz.prog Ev 272 con := VV (run := fun _ x => F x.1 x.2) mix tab_ok .nil Tryz.func272 (by kernel_rfl) run_eq (fun _ a _ _ hg => ⟨0, okF a.1 a.2 hg⟩)
end spec_l15Owner
/-! spec.EqualInts -/
namespace spec_EqualInts
inductive Pt where
  | p0 (a : List (List L)) (b : List (List L)) (c : Int)
def pid : Pt → Nat
  | .p0 .. => 4
def pvs : Pt → List V
  | .p0 a b c => [.sl none 3 a, .sl none 3 b, .int .i64 c]
def phs : Pt → List Root
  | .p0 a b c => []
noncomputable def step (J : Pt → Ans) : Pt → Ans
  | .p0 a b c => (bif (decide (c < (a.length : Int))) then (bif (decide ((0 : Int) ≤ c)) then (bif (decide (c < (a.length : Int))) then (bif (decide ((0 : Int) ≤ c)) then (bif (decide (c < (b.length : Int))) then (bif ((iAt a (Int.toNat c)) != (iAt b (Int.toNat c))) then ret (false : Bool) else J (.p0 a b (IntKind.i64.wrap (c + 1)))) else none) else none) else none) else none) else ret (true : Bool))
noncomputable def start (J : Pt → Ans) (x0 : List (List L)) (x1 : List (List L)) : Ans := (bif ((x0.length : Int) != (x1.length : Int)) then ret (false : Bool) else J (.p0 x0 x1 0))
def live : Nat → Live := fun i => match i with | 4 => [(0, none), (1, none), (5, none)] | _ => []
def pats : List Pat := [.rd (.sl 3), .rd (.sl 3)]
def res : RP := .one (.rd (.bool))
noncomputable abbrev E : Env := { T := assoc Tab, G := conG [], nt := 26 }
set_option maxRecDepth 100000
theorem step_eq (I : Heads) (p : Pt) : enterC E live I (pid p) (bodyOf Tryz.f189) (stOf (live (pid p)) (pvs p) (phs p)) (doneK E Tryz.f189 res) = step (fun q => I (pid q) (pvs q) (phs q)) p := by
  cases p <;> kernel_rfl
theorem start_eq (I : Heads) (ls : List L) : runC E live I (bodyOf Tryz.f189) (initS pats ls) (doneK E Tryz.f189 res) = start (fun q => I (pid q) (pvs q) (phs q)) (ls.headD .hole).toSl ((dropT 1 ls).headD .hole).toSl := by kernel_rfl
theorem run_eq (n : Nat) (ls : List L) : runF E live Tryz.f189 res n (initS pats ls) = start (iter step n) (ls.headD .hole).toSl ((dropT 1 ls).headD .hole).toSl := runF_iter (id := pid) (vs := pvs) (hs := phs) (step := step) (start := fun J => start J (ls.headD .hole).toSl ((dropT 1 ls).headD .hole).toSl) step_eq (fun I => start_eq I ls) n
noncomputable def md (a0 : List Int) (a1 : List Int) : Bool := (bif ((a0.length : Int) != (a1.length : Int)) then (false : Bool) else (loopM (S := Unit) (β := Bool) (fun (i2 : Nat) (s4 : Unit) => (bif ((a0.getD i2 0) != (a1.getD i2 0)) then (.inr (false : Bool)) else (.inl ()))) (fun (s4 : Unit) => (true : Bool)) a0.length 0 ()))
def gd (a0 : List Int) (a1 : List Int) : Prop := (SmL (2 ^ 38) (fun y : Int => True) a0) ∧ (SmL (2 ^ 38) (fun y : Int => True) a1)
def acc (ls : List L) : List (List L) × List (List L) := ((ls.headD .hole).toSl, ((dropT 1 ls).headD .hole).toSl)
noncomputable def R : (List (List L) × List (List L)) → Option Bool := RR (p2 gd) (u2 md)
theorem R_eq {a0} {a1} (h : gd a0 a1) : R ((a0.map iRow), (a1.map iRow)) = some (md a0 a1) := RR_eq (a := (a0, a1)) h
noncomputable def con : Con := CN pats res acc R
theorem okF (a0 : List Int) (a1 : List Int) (hg : gd a0 a1) : ∃ n, start (iter step n) (a0.map iRow) (a1.map iRow) = ret ((md a0 a1) : Bool) := by
  unfold gd at hg
  obtain ⟨H0, H1⟩ := hg
  unfold start md
  try simp only [S0]
  refine ex_bif ret (fun _ => ⟨0, rfl⟩) (fun c1 => ?_)
  have dc1 := c1
  try simp only [DC] at dc1
  have Bh3 : a0.length ≤ maxLen := (by
      have := (H0).1
      try simp only [maxLen] at *
      omega)
  refine ex_pt (p := Pt.p0 (a0.map iRow) (a1.map iRow) 0) (by first | rfl | (simp only [S0, MP]; done) | (simp only [MP]; rfl)) ?_
  refine loopM_ok (pt := fun (i2 : Nat) (s4 : Unit) => Pt.p0 (a0.map iRow) (a1.map iRow) (i2 : Int)) (s := (() : Unit)) (out := ret) (fun _ _ => True) (fun J i2 s4 h3 hih3 => ?_) (fun s4 hih3 => ?_) trivial
  · simp only [step, S0]
    have bb_ := Bh3
    simp only [maxLen] at bb_
    have := (H0).1
    refine Rnd.yes (by apply decide_eq_true; omega) ?_
    refine Rnd.yes zle_dec ?_
    refine Rnd.yes (lt_dec h3) ?_
    refine Rnd.yes zle_dec ?_
    refine Rnd.yes (by
        have := (H1).1
        refine decide_eq_true ?_
        try simp (disch := omega) only [LN, wi]
        first | omega | (simp; done) | (simp; omega)) ?_
    refine Rnd.bif (fun _ => Rnd.inr rfl) (fun c5 => ?_)
    refine Rnd.inl trivial ?_
    rw [wrap_succ h3 Bh3]
    all_goals first | rfl | (simp only [S0, MP]; first | done | rfl)
  · simp only [step, S0]
    have := (H0).1
    refine ex_no (by apply decide_eq_false; omega) ?_
    refine ⟨0, ?_⟩
    all_goals first | rfl | (simp only [S0, MP]; first | done | rfl)
theorem valid_ : Valid Tryz.prog Ev 189 con := VV (run := fun n x => start (iter step n) x.1 x.2) mix tab_ok .nil Tryz.func189 (by kernel_rfl) run_eq (fun _ a _ _ hg => okF a.1 a.2 hg)
theorem md_eq (a0 : List Int) (a1 : List Int) : md a0 a1 = eqB a0 a1 := by
  unfold md
  refine loop_eqB (0) (fun i s h h2 => ?_) (fun s => rfl)
  simp only [bne, int_beq, bool_beq, ba_beq]
  cases eqB _ _ <;> rfl
end spec_EqualInts
/-! spec.EqualKeys -/
namespace spec_EqualKeys
noncomputable def F (x0 : RKeys) (x1 : RKeys) : Ans := (bif (x0.fNeed == x1.fNeed) then (call (spec_EqualInts.R (x0.fList, x1.fList)) fun v1 => ret (v1 : Bool)) else ret (false : Bool))
def pats : List Pat := [.agg [.sl 3, .int .i64], .agg [.sl 3, .int .i64]]
def res : RP := .one (.rd (.bool))
noncomputable abbrev E : Env := { T := assoc Tab, G := conG [(189, spec_EqualInts.con)], nt := 17 }
set_option maxRecDepth 100000
theorem run_eq (n : Nat) (ls : List L) : runF E (fun _ => []) Tryz.f300 res n (initS pats ls) = F (RKeys.dec ls) (RKeys.dec (dropT 2 ls)) := by kernel_rfl
noncomputable def md (a0 : MKeys) (a1 : MKeys) : Bool := (bif (a0.fNeed == a1.fNeed) then ((spec_EqualInts.md a0.fList a1.fList) : Bool) else (false : Bool))
def gd (a0 : MKeys) (a1 : MKeys) : Prop := (MKeys.Sm (2 ^ 21) a0) ∧ (MKeys.Sm (2 ^ 21) a1)
def acc (ls : List L) : RKeys × RKeys := ((RKeys.dec ls), (RKeys.dec (dropT 2 ls)))
noncomputable def R : (RKeys × RKeys) → Option Bool := RR (p2 gd) (u2 md)
theorem R_eq {a0} {a1} (h : gd a0 a1) : R ((MKeys.r a0), (MKeys.r a1)) = some (md a0 a1) := RR_eq (a := (a0, a1)) h
noncomputable def con : Con := CN pats res acc R
theorem okF (a0 : MKeys) (a1 : MKeys) (hg : gd a0 a1) : F (MKeys.r a0) (MKeys.r a1) = ret ((md a0 a1) : Bool) := by
  unfold gd at hg
  obtain ⟨H0, H1⟩ := hg
  unfold F md
  try simp only [S0, MKeys.rs]
  refine bif_out ret (fun c1 => ?_) (fun _ => rfl)
  refine call_to (spec_EqualInts.md a0.fList a1.fList) (spec_EqualInts.R_eq (a0 := a0.fList) (a1 := a1.fList) ⟨(H0.mono (by decide) (fun x hx => trivial)), (H1.mono (by decide) (fun x hx => trivial))⟩) ?_
  all_goals first | rfl | (simp only [S0, MKeys.rs, MP]; first | done | rfl)
theorem valid_ : Valid Tryz.prog Ev 300 con := VV (run := fun _ x => F x.1 x.2) mix tab_ok (.cons spec_EqualInts.valid_ .nil) Tryz.func300 (by kernel_rfl) run_eq (fun _ a _ _ hg => ⟨0, okF a.1 a.2 hg⟩)
theorem md_eq (a0 : MKeys) (a1 : MKeys) : md a0 a1 = eqB a0 a1 := by
  unfold md
  cases a0; cases a1
  rw [Bool.eq_iff_iff]
  simp [eqB_iff, ba_beq, MKeys.mk.injEq, spec_EqualInts.md_eq]
  try (constructor <;> (intro h; simp_all))
end spec_EqualKeys
/-! spec.SameContents -/
namespace spec_SameContents
noncomputable def F (x0 : RHead) (x1 : RHead) : Ans := (bif (x0.fCount == x1.fCount) then ret ((x0.fRoot == x1.fRoot) : Bool) else ret (false : Bool))
def pats : List Pat := [.agg [.int .i64, .int .i64, .int .i64, .int .i64, .int .i64, .int .i64, .int .i64, .int .i64, .sl 3, .int .i64, .sl 3, .int .i64, .int .i64, .sl 3, .int .i64, .bool], .agg [.int .i64, .int .i64, .int .i64, .int .i64, .int .i64, .int .i64, .int .i64, .int .i64, .sl 3, .int .i64, .sl 3, .int .i64, .int .i64, .sl 3, .int .i64, .bool]]
def res : RP := .one (.rd (.bool))
noncomputable abbrev E : Env := { T := assoc Tab, G := conG [], nt := 17 }
set_option maxRecDepth 100000
theorem run_eq (n : Nat) (ls : List L) : runF E (fun _ => []) Tryz.f301 res n (initS pats ls) = F (RHead.dec ls) (RHead.dec (dropT 16 ls)) := by kernel_rfl
noncomputable def md (a0 : MHead) (a1 : MHead) : Bool := (bif (a0.fCount == a1.fCount) then ((a0.fRoot == a1.fRoot) : Bool) else (false : Bool))
def gd (a0 : MHead) (a1 : MHead) : Prop := True
def acc (ls : List L) : RHead × RHead := ((RHead.dec ls), (RHead.dec (dropT 16 ls)))
noncomputable def R : (RHead × RHead) → Option Bool := RR (p2 gd) (u2 md)
theorem R_eq {a0} {a1} (h : gd a0 a1) : R ((MHead.r a0), (MHead.r a1)) = some (md a0 a1) := RR_eq (a := (a0, a1)) h
noncomputable def con : Con := CN pats res acc R
theorem okF (a0 : MHead) (a1 : MHead) (hg : gd a0 a1) : F (MHead.r a0) (MHead.r a1) = ret ((md a0 a1) : Bool) := by
  unfold F md
  try simp only [S0, MHead.rs]
  refine bif_out ret (fun c1 => ?_) (fun _ => rfl)
  all_goals first | rfl | (simp only [S0, MHead.rs, MP]; first | done | rfl)
theorem valid_ : Valid Tryz.prog Ev 301 con := VV (run := fun _ x => F x.1 x.2) mix tab_ok .nil Tryz.func301 (by kernel_rfl) run_eq (fun _ a _ _ hg => ⟨0, okF a.1 a.2 hg⟩)
end spec_SameContents
/-! spec.l15Heir -/
namespace spec_l15Heir
noncomputable def F (x0 : RHead) (x1 : RHead) : Ans := (bif x0.fFrozen then ret (4 : Int) else (call (spec_NoKeys.R x0.fHeirs) fun v1 => (bif v1 then ret (5 : Int) else (bif (decide (x1.fTime < (IntKind.i64.wrap (x0.fUntil + x0.fWait)))) then ret (5 : Int) else (bif x1.fFrozen then ret (6 : Int) else (call (spec_EqualKeys.R (x1.fKeys, x0.fHeirs)) fun v2 => (bif (!v2) then ret (6 : Int) else (call (spec_SameContents.R (x1, x0)) fun v3 => (bif (!v3) then ret (6 : Int) else ret (1 : Int))))))))))
def pats : List Pat := [.agg [.int .i64, .int .i64, .int .i64, .int .i64, .int .i64, .int .i64, .int .i64, .int .i64, .sl 3, .int .i64, .sl 3, .int .i64, .int .i64, .sl 3, .int .i64, .bool], .agg [.int .i64, .int .i64, .int .i64, .int .i64, .int .i64, .int .i64, .int .i64, .int .i64, .sl 3, .int .i64, .sl 3, .int .i64, .int .i64, .sl 3, .int .i64, .bool]]
def res : RP := .one (.rd (.int .i64))
noncomputable abbrev E : Env := { T := assoc Tab, G := conG [(269, spec_NoKeys.con), (300, spec_EqualKeys.con), (301, spec_SameContents.con)], nt := 39 }
set_option maxRecDepth 100000
theorem run_eq (n : Nat) (ls : List L) : runF E (fun _ => []) Tryz.f273 res n (initS pats ls) = F (RHead.dec ls) (RHead.dec (dropT 16 ls)) := by kernel_rfl
noncomputable def md (a0 : MHead) (a1 : MHead) : Int := (bif a0.fFrozen then (4 : Int) else (bif (spec_NoKeys.md a0.fHeirs) then (5 : Int) else (bif (decide (a1.fTime < (IntKind.i64.wrap (a0.fUntil + a0.fWait)))) then (5 : Int) else (bif a1.fFrozen then (6 : Int) else (bif (!(spec_EqualKeys.md a1.fKeys a0.fHeirs)) then (6 : Int) else (bif (!(spec_SameContents.md a1 a0)) then (6 : Int) else (1 : Int)))))))
def gd (a0 : MHead) (a1 : MHead) : Prop := (MHead.Sm (2 ^ 21) a0) ∧ (MHead.Sm (2 ^ 21) a1)
def acc (ls : List L) : RHead × RHead := ((RHead.dec ls), (RHead.dec (dropT 16 ls)))
noncomputable def R : (RHead × RHead) → Option Int := RR (p2 gd) (u2 md)
theorem R_eq {a0} {a1} (h : gd a0 a1) : R ((MHead.r a0), (MHead.r a1)) = some (md a0 a1) := RR_eq (a := (a0, a1)) h
noncomputable def con : Con := CN pats res acc R
theorem okF (a0 : MHead) (a1 : MHead) (hg : gd a0 a1) : F (MHead.r a0) (MHead.r a1) = ret ((md a0 a1) : Int) := by
  unfold gd at hg
  obtain ⟨H0, H1⟩ := hg
  unfold F md
  try simp only [S0, MHead.rs]
  refine bif_out ret (fun _ => rfl) (fun c1 => ?_)
  refine call_to (spec_NoKeys.md a0.fHeirs) (spec_NoKeys.R_eq (a0 := a0.fHeirs) trivial) ?_
  refine bif_out ret (fun _ => rfl) (fun c2 => ?_)
  refine bif_out ret (fun _ => rfl) (fun c3 => ?_)
  refine bif_out ret (fun _ => rfl) (fun c4 => ?_)
  refine call_to (spec_EqualKeys.md a1.fKeys a0.fHeirs) (spec_EqualKeys.R_eq (a0 := a1.fKeys) (a1 := a0.fHeirs) ⟨H1.1, H0.2.1⟩) ?_
  refine bif_out ret (fun _ => rfl) (fun c5 => ?_)
  refine call_to (spec_SameContents.md a1 a0) (spec_SameContents.R_eq (a0 := a1) (a1 := a0) trivial) ?_
  refine bif_out ret (fun _ => rfl) (fun _ => rfl)
theorem valid_ : Valid Tryz.prog Ev 273 con := VV (run := fun _ x => F x.1 x.2) mix tab_ok (.cons spec_NoKeys.valid_ (.cons spec_EqualKeys.valid_ (.cons spec_SameContents.valid_ .nil))) Tryz.func273 (by kernel_rfl) run_eq (fun _ a _ _ hg => ⟨0, okF a.1 a.2 hg⟩)
end spec_l15Heir
/-! spec.l15Judge -/
namespace spec_l15Judge
noncomputable def F (x0 : RHead) (x1 : RHead) : Ans := (call (spec_NoKeys.R x0.fJudge) fun v1 => (bif v1 then ret (5 : Int) else (bif (x1.fFrozen == x0.fFrozen) then ret (6 : Int) else (call (spec_SameContents.R (x1, x0)) fun v2 => (bif (!v2) then ret (6 : Int) else (call (spec_EqualKeys.R (x1.fJudge, x0.fJudge)) fun v3 => (bif (!v3) then ret (6 : Int) else (call (spec_EqualKeys.R (x1.fHeirs, x0.fHeirs)) fun v4 => (bif (!v4) then ret (6 : Int) else (bif (x1.fWait != x0.fWait) then ret (6 : Int) else (bif x1.fFrozen then (call (spec_EqualKeys.R (x1.fKeys, x0.fKeys)) fun v5 => (bif (!v5) then ret (6 : Int) else ret (1 : Int))) else ret (1 : Int))))))))))))
def pats : List Pat := [.agg [.int .i64, .int .i64, .int .i64, .int .i64, .int .i64, .int .i64, .int .i64, .int .i64, .sl 3, .int .i64, .sl 3, .int .i64, .int .i64, .sl 3, .int .i64, .bool], .agg [.int .i64, .int .i64, .int .i64, .int .i64, .int .i64, .int .i64, .int .i64, .int .i64, .sl 3, .int .i64, .sl 3, .int .i64, .int .i64, .sl 3, .int .i64, .bool]]
def res : RP := .one (.rd (.int .i64))
noncomputable abbrev E : Env := { T := assoc Tab, G := conG [(269, spec_NoKeys.con), (301, spec_SameContents.con), (300, spec_EqualKeys.con)], nt := 55 }
set_option maxRecDepth 100000
theorem run_eq (n : Nat) (ls : List L) : runF E (fun _ => []) Tryz.f274 res n (initS pats ls) = F (RHead.dec ls) (RHead.dec (dropT 16 ls)) := by kernel_rfl
noncomputable def md (a0 : MHead) (a1 : MHead) : Int := (bif (spec_NoKeys.md a0.fJudge) then (5 : Int) else (bif (a1.fFrozen == a0.fFrozen) then (6 : Int) else (bif (!(spec_SameContents.md a1 a0)) then (6 : Int) else (bif (!(spec_EqualKeys.md a1.fJudge a0.fJudge)) then (6 : Int) else (bif (!(spec_EqualKeys.md a1.fHeirs a0.fHeirs)) then (6 : Int) else (bif (a1.fWait != a0.fWait) then (6 : Int) else (bif a1.fFrozen then (bif (!(spec_EqualKeys.md a1.fKeys a0.fKeys)) then (6 : Int) else (1 : Int)) else (1 : Int))))))))
def gd (a0 : MHead) (a1 : MHead) : Prop := (MHead.Sm (2 ^ 21) a0) ∧ (MHead.Sm (2 ^ 21) a1)
def acc (ls : List L) : RHead × RHead := ((RHead.dec ls), (RHead.dec (dropT 16 ls)))
noncomputable def R : (RHead × RHead) → Option Int := RR (p2 gd) (u2 md)
theorem R_eq {a0} {a1} (h : gd a0 a1) : R ((MHead.r a0), (MHead.r a1)) = some (md a0 a1) := RR_eq (a := (a0, a1)) h
noncomputable def con : Con := CN pats res acc R
theorem okF (a0 : MHead) (a1 : MHead) (hg : gd a0 a1) : F (MHead.r a0) (MHead.r a1) = ret ((md a0 a1) : Int) := by
  unfold gd at hg
  obtain ⟨H0, H1⟩ := hg
  unfold F md
  try simp only [S0, MHead.rs]
  refine call_to (spec_NoKeys.md a0.fJudge) (spec_NoKeys.R_eq (a0 := a0.fJudge) trivial) ?_
  refine bif_out ret (fun _ => rfl) (fun c1 => ?_)
  refine bif_out ret (fun _ => rfl) (fun c2 => ?_)
  refine call_to (spec_SameContents.md a1 a0) (spec_SameContents.R_eq (a0 := a1) (a1 := a0) trivial) ?_
  refine bif_out ret (fun _ => rfl) (fun c3 => ?_)
  refine call_to (spec_EqualKeys.md a1.fJudge a0.fJudge) (spec_EqualKeys.R_eq (a0 := a1.fJudge) (a1 := a0.fJudge) ⟨H1.2.2, H0.2.2⟩) ?_
  refine bif_out ret (fun _ => rfl) (fun c4 => ?_)
  refine call_to (spec_EqualKeys.md a1.fHeirs a0.fHeirs) (spec_EqualKeys.R_eq (a0 := a1.fHeirs) (a1 := a0.fHeirs) ⟨H1.2.1, H0.2.1⟩) ?_
  refine bif_out ret (fun _ => rfl) (fun c5 => ?_)
  refine bif_out ret (fun _ => rfl) (fun c6 => ?_)
  refine bif_out ret (fun c7 => ?_) (fun _ => rfl)
  refine call_to (spec_EqualKeys.md a1.fKeys a0.fKeys) (spec_EqualKeys.R_eq (a0 := a1.fKeys) (a1 := a0.fKeys) ⟨H1.1, H0.1⟩) ?_
  refine bif_out ret (fun _ => rfl) (fun _ => rfl)
theorem valid_ : Valid Tryz.prog Ev 274 con := VV (run := fun _ x => F x.1 x.2) mix tab_ok (.cons spec_NoKeys.valid_ (.cons spec_SameContents.valid_ (.cons spec_EqualKeys.valid_ .nil))) Tryz.func274 (by kernel_rfl) run_eq (fun _ a _ _ hg => ⟨0, okF a.1 a.2 hg⟩)
end spec_l15Judge
/-! spec.NextCode -/
namespace spec_NextCode
noncomputable def F (x0 : RHead) (x1 : RSigned) : Ans := (call (spec_IsHead.R x0) fun v1 => (bif (!v1) then ret (2 : Int) else (call (spec_IsHead.R x1.fHead) fun v2 => (bif (!v2) then ret (2 : Int) else (bif (x1.fHead.fZone != x0.fZone) then ret (3 : Int) else (bif (x1.fHead.fEpoch != (IntKind.i64.wrap (x0.fEpoch + 1))) then ret (3 : Int) else (call (spec_HeadDigest.R x0) fun v3 => (bif (x1.fHead.fPrev != v3) then ret (3 : Int) else (bif (decide (x1.fHead.fTime < x0.fTime)) then ret (3 : Int) else (call (spec_l15Owner.R (x0, x1.fHead)) fun v4 => (bif (x1.fHead.fKind == 2) then (call (spec_l15Heir.R (x0, x1.fHead)) fun v5 => (bif (v5 == 1) then (call (spec_HeadInts.R x1.fHead) fun v6 => (call (spec_IsSigned.R (x0.fHeirs, v6, x1.fSigs)) fun v7 => (bif (!v7) then ret (7 : Int) else ret (v5 : Int)))) else ret (v5 : Int))) else (bif (x1.fHead.fKind == 3) then (call (spec_l15Judge.R (x0, x1.fHead)) fun v8 => (bif (v8 == 1) then (call (spec_HeadInts.R x1.fHead) fun v9 => (call (spec_IsSigned.R (x0.fJudge, v9, x1.fSigs)) fun v10 => (bif (!v10) then ret (7 : Int) else ret (v8 : Int)))) else ret (v8 : Int))) else (bif (v4 == 1) then (call (spec_HeadInts.R x1.fHead) fun v11 => (call (spec_IsSigned.R (x0.fKeys, v11, x1.fSigs)) fun v12 => (bif (!v12) then ret (7 : Int) else ret (v4 : Int)))) else ret (v4 : Int))))))))))))))
def pats : List Pat := [.agg [.int .i64, .int .i64, .int .i64, .int .i64, .int .i64, .int .i64, .int .i64, .int .i64, .sl 3, .int .i64, .sl 3, .int .i64, .int .i64, .sl 3, .int .i64, .bool], .agg [.int .i64, .int .i64, .int .i64, .int .i64, .int .i64, .int .i64, .int .i64, .int .i64, .sl 3, .int .i64, .sl 3, .int .i64, .int .i64, .sl 3, .int .i64, .bool, .sl 184]]
def res : RP := .one (.rd (.int .i64))
noncomputable abbrev E : Env := { T := assoc Tab, G := conG [(238, spec_IsHead.con), (271, spec_HeadDigest.con), (272, spec_l15Owner.con), (273, spec_l15Heir.con), (190, spec_HeadInts.con), (240, spec_IsSigned.con), (274, spec_l15Judge.con)], nt := 78 }
set_option maxRecDepth 100000
theorem run_eq (n : Nat) (ls : List L) : runF E (fun _ => []) Tryz.f241 res n (initS pats ls) = F (RHead.dec ls) (RSigned.dec (dropT 16 ls)) := by kernel_rfl
noncomputable def md (a0 : MHead) (a1 : MSigned) : Int := (bif (!(spec_IsHead.md a0)) then (2 : Int) else (bif (!(spec_IsHead.md a1.fHead)) then (2 : Int) else (bif (a1.fHead.fZone != a0.fZone) then (3 : Int) else (bif (a1.fHead.fEpoch != (IntKind.i64.wrap (a0.fEpoch + 1))) then (3 : Int) else (bif (a1.fHead.fPrev != (spec_HeadDigest.md a0)) then (3 : Int) else (bif (decide (a1.fHead.fTime < a0.fTime)) then (3 : Int) else (bif (a1.fHead.fKind == 2) then (bif ((spec_l15Heir.md a0 a1.fHead) == 1) then (bif (!(spec_IsSigned.md a0.fHeirs (spec_HeadInts.md a1.fHead) a1.fSigs)) then (7 : Int) else ((spec_l15Heir.md a0 a1.fHead) : Int)) else ((spec_l15Heir.md a0 a1.fHead) : Int)) else (bif (a1.fHead.fKind == 3) then (bif ((spec_l15Judge.md a0 a1.fHead) == 1) then (bif (!(spec_IsSigned.md a0.fJudge (spec_HeadInts.md a1.fHead) a1.fSigs)) then (7 : Int) else ((spec_l15Judge.md a0 a1.fHead) : Int)) else ((spec_l15Judge.md a0 a1.fHead) : Int)) else (bif ((spec_l15Owner.md a0 a1.fHead) == 1) then (bif (!(spec_IsSigned.md a0.fKeys (spec_HeadInts.md a1.fHead) a1.fSigs)) then (7 : Int) else ((spec_l15Owner.md a0 a1.fHead) : Int)) else ((spec_l15Owner.md a0 a1.fHead) : Int))))))))))
def gd (a0 : MHead) (a1 : MSigned) : Prop := (MHead.Sm (2 ^ 21) a0) ∧ (MSigned.Sm (2 ^ 21) a1)
def acc (ls : List L) : RHead × RSigned := ((RHead.dec ls), (RSigned.dec (dropT 16 ls)))
noncomputable def R : (RHead × RSigned) → Option Int := RR (p2 gd) (u2 md)
theorem R_eq {a0} {a1} (h : gd a0 a1) : R ((MHead.r a0), (MSigned.r a1)) = some (md a0 a1) := RR_eq (a := (a0, a1)) h
noncomputable def con : Con := CN pats res acc R
theorem okF (a0 : MHead) (a1 : MSigned) (hg : gd a0 a1) : F (MHead.r a0) (MSigned.r a1) = ret ((md a0 a1) : Int) := by
  unfold gd at hg
  obtain ⟨H0, H1⟩ := hg
  unfold F md
  try simp only [S0, MHead.rs, MSigned.rs]
  refine call_to (spec_IsHead.md a0) (spec_IsHead.R_eq (a0 := a0) H0) ?_
  refine bif_out ret (fun _ => rfl) (fun c1 => ?_)
  have dc1 := c1
  try simp only [DC] at dc1
  try have tc1 := spec_IsHead.tr (by simpa using c1)
  refine call_to (spec_IsHead.md a1.fHead) (spec_IsHead.R_eq (a0 := a1.fHead) H1.1) ?_
  refine bif_out ret (fun _ => rfl) (fun c2 => ?_)
  have dc2 := c2
  try simp only [DC] at dc2
  try have tc2 := spec_IsHead.tr (by simpa using c2)
  refine bif_out ret (fun _ => rfl) (fun c3 => ?_)
  have dc3 := c3
  try simp only [DC] at dc3
  refine bif_out ret (fun _ => rfl) (fun c4 => ?_)
  have dc4 := c4
  try simp only [DC] at dc4
  refine call_to (spec_HeadDigest.md a0) (spec_HeadDigest.R_eq (a0 := a0) H0) ?_
  refine bif_out ret (fun _ => rfl) (fun c5 => ?_)
  have dc5 := c5
  try simp only [DC] at dc5
  refine bif_out ret (fun _ => rfl) (fun c6 => ?_)
  have dc6 := c6
  try simp only [DC] at dc6
  refine call_to (spec_l15Owner.md a0 a1.fHead) (spec_l15Owner.R_eq (a0 := a0) (a1 := a1.fHead) trivial) ?_
  refine bif_out ret (fun c7 => ?_) (fun c7 => ?_)
  · have dc7 := c7
    try simp only [DC] at dc7
    refine call_to (spec_l15Heir.md a0 a1.fHead) (spec_l15Heir.R_eq (a0 := a0) (a1 := a1.fHead) ⟨H0, H1.1⟩) ?_
    refine bif_out ret (fun c8 => ?_) (fun c8 => ?_)
    · have dc8 := c8
      try simp only [DC] at dc8
      refine call_to ((spec_HeadInts.md a1.fHead).map iRow) (spec_HeadInts.R_eq (a0 := a1.fHead) H1.1) ?_
      try simp only [S0, MHead.rs, MSigned.rs]
      refine call_to (spec_IsSigned.md a0.fHeirs (spec_HeadInts.md a1.fHead) a1.fSigs) (spec_IsSigned.R_eq (a0 := a0.fHeirs) (a1 := (spec_HeadInts.md a1.fHead)) (a2 := a1.fSigs) ⟨H0.2.1, ⟨(by
          have := spec_HeadInts.len a1.fHead
          have := (H1.1.1).1
          have := (H1.1.2.1).1
          have := (H1.1.2.2).1
          try simp (disch := omega) only [LN, wi]
          first | omega | (simp; done) | (simp; omega)), fun _ _ => trivial⟩, H1.2⟩) ?_
      refine bif_out ret (fun _ => rfl) (fun c9 => ?_)
      all_goals first | rfl | (simp only [S0, MHead.rs, MSigned.rs, MP]; first | done | rfl)
    · all_goals first | rfl | (simp only [S0, MHead.rs, MSigned.rs, MP]; first | done | rfl)
  · have dc7 := c7
    try simp only [DC] at dc7
    refine bif_out ret (fun c10 => ?_) (fun c10 => ?_)
    · have dc10 := c10
      try simp only [DC] at dc10
      refine call_to (spec_l15Judge.md a0 a1.fHead) (spec_l15Judge.R_eq (a0 := a0) (a1 := a1.fHead) ⟨H0, H1.1⟩) ?_
      refine bif_out ret (fun c11 => ?_) (fun c11 => ?_)
      · have dc11 := c11
        try simp only [DC] at dc11
        refine call_to ((spec_HeadInts.md a1.fHead).map iRow) (spec_HeadInts.R_eq (a0 := a1.fHead) H1.1) ?_
        try simp only [S0, MHead.rs, MSigned.rs]
        refine call_to (spec_IsSigned.md a0.fJudge (spec_HeadInts.md a1.fHead) a1.fSigs) (spec_IsSigned.R_eq (a0 := a0.fJudge) (a1 := (spec_HeadInts.md a1.fHead)) (a2 := a1.fSigs) ⟨H0.2.2, ⟨(by
            have := spec_HeadInts.len a1.fHead
            have := (H1.1.1).1
            have := (H1.1.2.1).1
            have := (H1.1.2.2).1
            try simp (disch := omega) only [LN, wi]
            first | omega | (simp; done) | (simp; omega)), fun _ _ => trivial⟩, H1.2⟩) ?_
        refine bif_out ret (fun _ => rfl) (fun c12 => ?_)
        all_goals first | rfl | (simp only [S0, MHead.rs, MSigned.rs, MP]; first | done | rfl)
      · all_goals first | rfl | (simp only [S0, MHead.rs, MSigned.rs, MP]; first | done | rfl)
    · have dc10 := c10
      try simp only [DC] at dc10
      refine bif_out ret (fun c13 => ?_) (fun c13 => ?_)
      · have dc13 := c13
        try simp only [DC] at dc13
        refine call_to ((spec_HeadInts.md a1.fHead).map iRow) (spec_HeadInts.R_eq (a0 := a1.fHead) H1.1) ?_
        try simp only [S0, MHead.rs, MSigned.rs]
        refine call_to (spec_IsSigned.md a0.fKeys (spec_HeadInts.md a1.fHead) a1.fSigs) (spec_IsSigned.R_eq (a0 := a0.fKeys) (a1 := (spec_HeadInts.md a1.fHead)) (a2 := a1.fSigs) ⟨H0.1, ⟨(by
            have := spec_HeadInts.len a1.fHead
            have := (H1.1.1).1
            have := (H1.1.2.1).1
            have := (H1.1.2.2).1
            try simp (disch := omega) only [LN, wi]
            first | omega | (simp; done) | (simp; omega)), fun _ _ => trivial⟩, H1.2⟩) ?_
        refine bif_out ret (fun _ => rfl) (fun c14 => ?_)
        all_goals first | rfl | (simp only [S0, MHead.rs, MSigned.rs, MP]; first | done | rfl)
      · all_goals first | rfl | (simp only [S0, MHead.rs, MSigned.rs, MP]; first | done | rfl)
theorem valid_ : Valid Tryz.prog Ev 241 con := VV (run := fun _ x => F x.1 x.2) mix tab_ok (.cons spec_IsHead.valid_ (.cons spec_HeadDigest.valid_ (.cons spec_l15Owner.valid_ (.cons spec_l15Heir.valid_ (.cons spec_HeadInts.valid_ (.cons spec_IsSigned.valid_ (.cons spec_l15Judge.valid_ .nil))))))) Tryz.func241 (by kernel_rfl) run_eq (fun _ a _ _ hg => ⟨0, okF a.1 a.2 hg⟩)
end spec_NextCode
/-! spec.MayFollow -/
namespace spec_MayFollow
noncomputable def F (x0 : RHead) (x1 : RSigned) : Ans := (call (spec_NextCode.R (x0, x1)) fun v1 => ret ((v1 == 1) : Bool))
def pats : List Pat := [.agg [.int .i64, .int .i64, .int .i64, .int .i64, .int .i64, .int .i64, .int .i64, .int .i64, .sl 3, .int .i64, .sl 3, .int .i64, .int .i64, .sl 3, .int .i64, .bool], .agg [.int .i64, .int .i64, .int .i64, .int .i64, .int .i64, .int .i64, .int .i64, .int .i64, .sl 3, .int .i64, .sl 3, .int .i64, .int .i64, .sl 3, .int .i64, .bool, .sl 184]]
def res : RP := .one (.rd (.bool))
noncomputable abbrev E : Env := { T := assoc Tab, G := conG [(241, spec_NextCode.con)], nt := 9 }
set_option maxRecDepth 100000
theorem run_eq (n : Nat) (ls : List L) : runF E (fun _ => []) Tryz.f213 res n (initS pats ls) = F (RHead.dec ls) (RSigned.dec (dropT 16 ls)) := by kernel_rfl
noncomputable def md (a0 : MHead) (a1 : MSigned) : Bool := (((spec_NextCode.md a0 a1) == 1) : Bool)
def gd (a0 : MHead) (a1 : MSigned) : Prop := (MHead.Sm (2 ^ 21) a0) ∧ (MSigned.Sm (2 ^ 21) a1)
def acc (ls : List L) : RHead × RSigned := ((RHead.dec ls), (RSigned.dec (dropT 16 ls)))
noncomputable def R : (RHead × RSigned) → Option Bool := RR (p2 gd) (u2 md)
theorem R_eq {a0} {a1} (h : gd a0 a1) : R ((MHead.r a0), (MSigned.r a1)) = some (md a0 a1) := RR_eq (a := (a0, a1)) h
noncomputable def con : Con := CN pats res acc R
theorem okF (a0 : MHead) (a1 : MSigned) (hg : gd a0 a1) : F (MHead.r a0) (MSigned.r a1) = ret ((md a0 a1) : Bool) := by
  unfold gd at hg
  obtain ⟨H0, H1⟩ := hg
  unfold F md
  try simp only [S0]
  refine call_to (spec_NextCode.md a0 a1) (spec_NextCode.R_eq (a0 := a0) (a1 := a1) ⟨H0, H1⟩) ?_
  all_goals first | rfl | (simp only [S0, MP]; first | done | rfl)
theorem valid_ : Valid Tryz.prog Ev 213 con := VV (run := fun _ x => F x.1 x.2) mix tab_ok (.cons spec_NextCode.valid_ .nil) Tryz.func213 (by kernel_rfl) run_eq (fun _ a _ _ hg => ⟨0, okF a.1 a.2 hg⟩)
end spec_MayFollow
/-! spec.FirstWrong -/
namespace spec_FirstWrong
inductive Pt where
  | p0 (a : List (List L)) (b : Int)
def pid : Pt → Nat
  | .p0 .. => 2
def pvs : Pt → List V
  | .p0 a b => [.sl none 122 a, .int .i64 b]
def phs : Pt → List Root
  | .p0 a b => []
noncomputable def step (J : Pt → Ans) : Pt → Ans
  | .p0 a b => (bif (decide (b < (a.length : Int))) then (bif (b == 0) then (bif (decide ((0 : Int) < (a.length : Int))) then (call (spec_IsFirst.R (RSigned.at a 0)) fun v1 => (bif (!v1) then ret (b : Int) else (bif (decide (b > 0)) then (bif (decide ((0 : Int) ≤ (IntKind.i64.wrap (b - 1)))) then (bif (decide ((IntKind.i64.wrap (b - 1)) < (a.length : Int))) then (bif (decide ((0 : Int) ≤ b)) then (bif (decide (b < (a.length : Int))) then (call (spec_MayFollow.R ((RSigned.at a (Int.toNat (IntKind.i64.wrap (b - 1)))).fHead, (RSigned.at a (Int.toNat b)))) fun v2 => (bif (!v2) then ret (b : Int) else J (.p0 a (IntKind.i64.wrap (b + 1))))) else none) else none) else none) else none) else J (.p0 a (IntKind.i64.wrap (b + 1)))))) else none) else (bif (decide (b > 0)) then (bif (decide ((0 : Int) ≤ (IntKind.i64.wrap (b - 1)))) then (bif (decide ((IntKind.i64.wrap (b - 1)) < (a.length : Int))) then (bif (decide ((0 : Int) ≤ b)) then (bif (decide (b < (a.length : Int))) then (call (spec_MayFollow.R ((RSigned.at a (Int.toNat (IntKind.i64.wrap (b - 1)))).fHead, (RSigned.at a (Int.toNat b)))) fun v3 => (bif (!v3) then ret (b : Int) else J (.p0 a (IntKind.i64.wrap (b + 1))))) else none) else none) else none) else none) else J (.p0 a (IntKind.i64.wrap (b + 1))))) else ret ((-1) : Int))
noncomputable def start (J : Pt → Ans) (x0 : List (List L)) : Ans := J (.p0 x0 0)
def live : Nat → Live := fun i => match i with | 2 => [(0, none), (3, none)] | _ => []
def pats : List Pat := [.rd (.sl 122)]
def res : RP := .one (.rd (.int .i64))
noncomputable abbrev E : Env := { T := assoc Tab, G := conG [(212, spec_IsFirst.con), (213, spec_MayFollow.con)], nt := 38 }
set_option maxRecDepth 100000
theorem step_eq (I : Heads) (p : Pt) : enterC E live I (pid p) (bodyOf Tryz.f183) (stOf (live (pid p)) (pvs p) (phs p)) (doneK E Tryz.f183 res) = step (fun q => I (pid q) (pvs q) (phs q)) p := by
  cases p <;> kernel_rfl
theorem start_eq (I : Heads) (ls : List L) : runC E live I (bodyOf Tryz.f183) (initS pats ls) (doneK E Tryz.f183 res) = start (fun q => I (pid q) (pvs q) (phs q)) (ls.headD .hole).toSl := by kernel_rfl
theorem run_eq (n : Nat) (ls : List L) : runF E live Tryz.f183 res n (initS pats ls) = start (iter step n) (ls.headD .hole).toSl := runF_iter (id := pid) (vs := pvs) (hs := phs) (step := step) (start := fun J => start J (ls.headD .hole).toSl) step_eq (fun I => start_eq I ls) n
noncomputable def md (a0 : List MSigned) : Int := (eachI (S := Unit) (β := Int) (fun (i1 : Nat) (y1 : MSigned) (s3 : Unit) => (bif ((i1 : Int) == 0) then (bif (!(spec_IsFirst.md (a0.getD 0 MSigned.zero))) then (.inr ((i1 : Int) : Int)) else (bif (decide ((i1 : Int) > 0)) then (bif (!(spec_MayFollow.md ((a0.getD (Int.toNat (IntKind.i64.wrap ((i1 : Int) - 1))) MSigned.zero).fHead) y1)) then (.inr ((i1 : Int) : Int)) else (.inl ())) else (.inl ()))) else (bif (decide ((i1 : Int) > 0)) then (bif (!(spec_MayFollow.md ((a0.getD (Int.toNat (IntKind.i64.wrap ((i1 : Int) - 1))) MSigned.zero).fHead) y1)) then (.inr ((i1 : Int) : Int)) else (.inl ())) else (.inl ())))) (fun (s3 : Unit) => ((-1) : Int)) 0 a0 ())
def gd (a0 : List MSigned) : Prop := (SmL (2 ^ 21) (fun y : MSigned => MSigned.Sm (2 ^ 21) y) a0)
def acc (ls : List L) : List (List L) := (ls.headD .hole).toSl
noncomputable def R : (List (List L)) → Option Int := RR gd md
theorem R_eq {a0} (h : gd a0) : R (a0.map MSigned.row) = some (md a0) := RR_eq (a := a0) h
noncomputable def con : Con := CN pats res acc R
theorem okF (a0 : List MSigned) (hg : gd a0) : ∃ n, start (iter step n) (a0.map MSigned.row) = ret ((md a0) : Int) := by
  unfold gd at hg
  have H0 := hg
  unfold start md
  try simp only [S0, MSigned.rs]
  have Bh2 : a0.length ≤ maxLen := (by
      have := (H0).1
      try simp only [maxLen] at *
      omega)
  refine ex_eq (out := ret) (loopM_eachI (z := MSigned.zero)) ?_
  refine ex_pt (p := Pt.p0 (a0.map MSigned.row) 0) (by first | rfl | (simp only [S0, MSigned.rs, MP]; done) | (simp only [MP]; rfl)) ?_
  refine loopM_ok (pt := fun (i1 : Nat) (s3 : Unit) => Pt.p0 (a0.map MSigned.row) (i1 : Int)) (s := (() : Unit)) (out := ret) (fun _ _ => True) (fun J i1 s3 h2 hih2 => ?_) (fun s3 hih2 => ?_) trivial
  · simp only [step, S0, MSigned.rs]
    have bb_ := Bh2
    simp only [maxLen] at bb_
    have := (H0).1
    refine Rnd.yes (by apply decide_eq_true; omega) ?_
    refine Rnd.bif (fun c4 => ?_) (fun c4 => ?_)
    · have dc4 := c4
      try simp only [DC] at dc4
      refine Rnd.yes (by
          have := (H0).1
          refine decide_eq_true ?_
          try simp (disch := omega) only [LN, wi]
          first | omega | (simp; done) | (simp; omega)) ?_
      refine Rnd.call_to (spec_IsFirst.md (a0.getD 0 MSigned.zero)) (spec_IsFirst.R_eq (a0 := (a0.getD 0 MSigned.zero)) (SmL.getD (z := MSigned.zero) H0 (by first | assumption | omega | (simp (disch := omega) only [wi]; omega) | (simp; omega)))) ?_
      refine Rnd.bif (fun c5 => ?_) (fun c5 => ?_)
      · refine Rnd.inr ?_
        all_goals first | rfl | (simp only [S0, MSigned.rs, MP]; first | done | rfl)
      · have dc5 := c5
        try simp only [DC] at dc5
        refine Rnd.bif (fun c6 => ?_) (fun c6 => ?_)
        · have dc6 := c6
          try simp only [DC] at dc6
          refine Rnd.yes (by
              refine decide_eq_true ?_
              try simp (disch := omega) only [LN, wi]
              first | omega | (simp; done) | (simp; omega)) ?_
          refine Rnd.yes (by
              have := (H0).1
              refine decide_eq_true ?_
              try simp (disch := omega) only [LN, wi]
              first | omega | (simp; done) | (simp; omega)) ?_
          refine Rnd.yes zle_dec ?_
          refine Rnd.yes (lt_dec h2) ?_
          refine Rnd.call_to (spec_MayFollow.md ((a0.getD (Int.toNat (IntKind.i64.wrap ((i1 : Int) - 1))) MSigned.zero).fHead) (a0.getD i1 MSigned.zero)) (spec_MayFollow.R_eq (a0 := (a0.getD (Int.toNat (IntKind.i64.wrap ((i1 : Int) - 1))) MSigned.zero).fHead) (a1 := (a0.getD i1 MSigned.zero)) ⟨(SmL.getD (z := MSigned.zero) H0 (by first | assumption | omega | (simp (disch := omega) only [wi]; omega) | (simp; omega))).1, (SmL.getD (z := MSigned.zero) H0 h2)⟩) ?_
          refine Rnd.bif (fun c7 => ?_) (fun c7 => ?_)
          · refine Rnd.inr ?_
            all_goals first | rfl | (simp only [S0, MSigned.rs, MP]; first | done | rfl)
          · refine Rnd.inl trivial ?_
            rw [wrap_succ h2 Bh2]
            all_goals first | rfl | (simp only [S0, MSigned.rs, MP]; first | done | rfl)
        · refine Rnd.inl trivial ?_
          rw [wrap_succ h2 Bh2]
          all_goals first | rfl | (simp only [S0, MSigned.rs, MP]; first | done | rfl)
    · have dc4 := c4
      try simp only [DC] at dc4
      refine Rnd.bif (fun c8 => ?_) (fun c8 => ?_)
      · have dc8 := c8
        try simp only [DC] at dc8
        refine Rnd.yes (by
            refine decide_eq_true ?_
            try simp (disch := omega) only [LN, wi]
            first | omega | (simp; done) | (simp; omega)) ?_
        refine Rnd.yes (by
            have := (H0).1
            refine decide_eq_true ?_
            try simp (disch := omega) only [LN, wi]
            first | omega | (simp; done) | (simp; omega)) ?_
        refine Rnd.yes zle_dec ?_
        refine Rnd.yes (lt_dec h2) ?_
        refine Rnd.call_to (spec_MayFollow.md ((a0.getD (Int.toNat (IntKind.i64.wrap ((i1 : Int) - 1))) MSigned.zero).fHead) (a0.getD i1 MSigned.zero)) (spec_MayFollow.R_eq (a0 := (a0.getD (Int.toNat (IntKind.i64.wrap ((i1 : Int) - 1))) MSigned.zero).fHead) (a1 := (a0.getD i1 MSigned.zero)) ⟨(SmL.getD (z := MSigned.zero) H0 (by first | assumption | omega | (simp (disch := omega) only [wi]; omega) | (simp; omega))).1, (SmL.getD (z := MSigned.zero) H0 h2)⟩) ?_
        refine Rnd.bif (fun c9 => ?_) (fun c9 => ?_)
        · refine Rnd.inr ?_
          all_goals first | rfl | (simp only [S0, MSigned.rs, MP]; first | done | rfl)
        · refine Rnd.inl trivial ?_
          rw [wrap_succ h2 Bh2]
          all_goals first | rfl | (simp only [S0, MSigned.rs, MP]; first | done | rfl)
      · refine Rnd.inl trivial ?_
        rw [wrap_succ h2 Bh2]
        all_goals first | rfl | (simp only [S0, MSigned.rs, MP]; first | done | rfl)
  · simp only [step, S0, MSigned.rs]
    have := (H0).1
    refine ex_no (by apply decide_eq_false; omega) ?_
    refine ⟨0, ?_⟩
    all_goals first | rfl | (simp only [S0, MSigned.rs, MP]; first | done | rfl)
theorem valid_ : Valid Tryz.prog Ev 183 con := VV (run := fun n x => start (iter step n) x) mix tab_ok (.cons spec_IsFirst.valid_ (.cons spec_MayFollow.valid_ .nil)) Tryz.func183 (by kernel_rfl) run_eq (fun _ a _ _ hg => okF a hg)
end spec_FirstWrong
/-! spec.IsChain -/
namespace spec_IsChain
noncomputable def F (x0 : List (List L)) : Ans := (call (spec_l1In.R ((x0.length : Int), 1, 12)) fun v1 => (bif v1 then (call (spec_FirstWrong.R x0) fun v2 => ret ((decide (v2 < 0)) : Bool)) else ret (false : Bool)))
def pats : List Pat := [.rd (.sl 122)]
def res : RP := .one (.rd (.bool))
noncomputable abbrev E : Env := { T := assoc Tab, G := conG [(120, spec_l1In.con), (183, spec_FirstWrong.con)], nt := 11 }
set_option maxRecDepth 100000
theorem run_eq (n : Nat) (ls : List L) : runF E (fun _ => []) Tryz.f129 res n (initS pats ls) = F (ls.headD .hole).toSl := by kernel_rfl
noncomputable def md (a0 : List MSigned) : Bool := (bif (spec_l1In.md (a0.length : Int) 1 12) then ((decide ((spec_FirstWrong.md a0) < 0)) : Bool) else (false : Bool))
def gd (a0 : List MSigned) : Prop := (SmL (2 ^ 21) (fun y : MSigned => MSigned.Sm (2 ^ 21) y) a0)
def acc (ls : List L) : List (List L) := (ls.headD .hole).toSl
noncomputable def R : (List (List L)) → Option Bool := RR gd md
theorem R_eq {a0} (h : gd a0) : R (a0.map MSigned.row) = some (md a0) := RR_eq (a := a0) h
noncomputable def con : Con := CN pats res acc R
theorem okF (a0 : List MSigned) (hg : gd a0) : F (a0.map MSigned.row) = ret ((md a0) : Bool) := by
  unfold gd at hg
  have H0 := hg
  unfold F md
  try simp only [S0]
  refine call_to (spec_l1In.md (a0.length : Int) 1 12) (spec_l1In.R_eq (a0 := (a0.length : Int)) (a1 := 1) (a2 := 12) trivial) ?_
  refine bif_out ret (fun c1 => ?_) (fun _ => rfl)
  refine call_to (spec_FirstWrong.md a0) (spec_FirstWrong.R_eq (a0 := a0) H0) ?_
  all_goals first | rfl | (simp only [S0, MP]; first | done | rfl)
theorem valid_ : Valid Tryz.prog Ev 129 con := VV (run := fun _ x => F x) mix tab_ok (.cons spec_l1In.valid_ (.cons spec_FirstWrong.valid_ .nil)) Tryz.func129 (by kernel_rfl) run_eq (fun _ a _ _ hg => ⟨0, okF a hg⟩)
theorem tr {a0 : List MSigned} (h : md a0 = true) : 1 ≤ a0.length ∧ a0.length ≤ 12 := by simp [md, spec_l1In.md] at h; omega
theorem heads {l : List MSigned} (h : md l = true) : ∀ i, i < l.length → spec_IsHead.md (l.getD i MSigned.zero).fHead = true := by
  intro i hi
  have hl := tr h
  have h1 : spec_FirstWrong.md l < 0 := by
    unfold md at h
    cases hc : spec_l1In.md (l.length : Int) 1 12 <;> rw [hc] at h
    · cases h
    · simpa using h
  unfold spec_FirstWrong.md at h1
  have h2 := eachI_neg (z := MSigned.zero) (by
    intro i x s b h
    revert h
    simp only [Bool.cond_eq_ite]
    repeat' split
    all_goals (intro h; first | (cases h; rfl) | cases h)) h1 i hi
  by_cases h0 : i = 0
  · subst h0
    cases hf : spec_IsFirst.md (l.getD 0 MSigned.zero)
    · rw [hf] at h2; cases h2
    · unfold spec_IsFirst.md at hf
      cases hh : spec_IsHead.md (l.getD 0 MSigned.zero).fHead
      · rw [hh] at hf; cases hf
      · rfl
  · have e : ((i : Int) == 0) = false := beq_eq_false_iff_ne.2 (by omega)
    have e2 : decide ((i : Int) > 0) = true := by simpa using by omega
    simp only [e, e2, cond_false, cond_true] at h2
    cases hf : spec_MayFollow.md ((l.getD (Int.toNat (IntKind.i64.wrap ((i : Int) - 1))) MSigned.zero).fHead) (l.getD i MSigned.zero)
    · rw [hf] at h2; cases h2
    · unfold spec_MayFollow.md spec_NextCode.md at hf
      cases hh : spec_IsHead.md (l.getD i MSigned.zero).fHead
      · rw [hh] at hf
        cases hp : spec_IsHead.md ((l.getD (Int.toNat (IntKind.i64.wrap ((i : Int) - 1))) MSigned.zero).fHead) <;> rw [hp] at hf <;> cases hf
      · rfl
end spec_IsChain
/-! spec.l6Copy -/
namespace spec_l6Copy
noncomputable def F (x0 : RKeys) : Ans := (bif (lim ((x0.fList.length : Int) * 8)) then ret (x0 : RKeys) else none)
def pats : List Pat := [.agg [.sl 3, .int .i64]]
def res : RP := .agg [.fr 3, .rd (.int .i64)]
noncomputable abbrev E : Env := { T := assoc Tab, G := conG [], nt := 10 }
set_option maxRecDepth 100000
theorem run_eq (n : Nat) (ls : List L) : runF E (fun _ => []) Tryz.f63 res n (initS pats ls) = F (RKeys.dec ls) := by kernel_rfl
noncomputable def md (a0 : MKeys) : MKeys := a0
def gd (a0 : MKeys) : Prop := (MKeys.Sm (2 ^ 21) a0)
def acc (ls : List L) : RKeys := (RKeys.dec ls)
noncomputable def R : RKeys → Option RKeys := RR gd md
theorem R_eq {a0} (h : gd a0) : R (MKeys.r a0) = some (MKeys.r (md a0)) := RR_eq (a := a0) h
noncomputable def con : Con := CN pats res acc R
theorem okF (a0 : MKeys) (hg : gd a0) : F (MKeys.r a0) = ret ((MKeys.r (md a0)) : RKeys) := by
  unfold gd at hg
  have H0 := hg
  unfold F md
  try simp only [S0, MKeys.rs]
  refine yes_ret (by
      have := (H0).1
      refine lim_t ?_
      try simp (disch := omega) only [LN, wi]
      first | omega | (simp; done) | (simp; omega)) ?_
  all_goals first | rfl | (simp only [S0, MKeys.rs]; done) | (simp only [MP]; rfl) | (simp only [S0, MKeys.rs, MP]; first | done | rfl)
theorem valid_ : Valid Tryz.prog Ev 63 con := VV (run := fun _ x => F x) mix tab_ok .nil Tryz.func63 (by kernel_rfl) run_eq (fun _ a _ _ hg => ⟨0, okF a hg⟩)
end spec_l6Copy
/-! spec.l13Copy -/
namespace spec_l13Copy
noncomputable def F (x0 : RHead) : Ans := (call (spec_l6Copy.R x0.fKeys) fun v1 => (call (spec_l6Copy.R x0.fHeirs) fun v2 => (call (spec_l6Copy.R x0.fJudge) fun v3 => ret ((⟨x0.fZone, x0.fEpoch, x0.fKind, x0.fTime, x0.fUntil, x0.fCount, x0.fRoot, x0.fPrev, v1, v2, x0.fWait, v3, x0.fFrozen⟩ : RHead) : RHead))))
def pats : List Pat := [.agg [.int .i64, .int .i64, .int .i64, .int .i64, .int .i64, .int .i64, .int .i64, .int .i64, .sl 3, .int .i64, .sl 3, .int .i64, .int .i64, .sl 3, .int .i64, .bool]]
def res : RP := .agg [.rd (.int .i64), .rd (.int .i64), .rd (.int .i64), .rd (.int .i64), .rd (.int .i64), .rd (.int .i64), .rd (.int .i64), .rd (.int .i64), .fr 3, .rd (.int .i64), .fr 3, .rd (.int .i64), .rd (.int .i64), .fr 3, .rd (.int .i64), .rd (.bool)]
noncomputable abbrev E : Env := { T := assoc Tab, G := conG [(63, spec_l6Copy.con)], nt := 18 }
set_option maxRecDepth 100000
theorem run_eq (n : Nat) (ls : List L) : runF E (fun _ => []) Tryz.f130 res n (initS pats ls) = F (RHead.dec ls) := by kernel_rfl
noncomputable def md (a0 : MHead) : MHead := a0
def gd (a0 : MHead) : Prop := (MHead.Sm (2 ^ 21) a0)
def acc (ls : List L) : RHead := (RHead.dec ls)
noncomputable def R : RHead → Option RHead := RR gd md
theorem R_eq {a0} (h : gd a0) : R (MHead.r a0) = some (MHead.r (md a0)) := RR_eq (a := a0) h
noncomputable def con : Con := CN pats res acc R
theorem okF (a0 : MHead) (hg : gd a0) : F (MHead.r a0) = ret ((MHead.r (md a0)) : RHead) := by
  unfold gd at hg
  have H0 := hg
  unfold F md
  try simp only [S0, MHead.rs]
  refine call_to (MKeys.r a0.fKeys) ?_ ?_
  · have R_ := spec_l6Copy.R_eq (a0 := a0.fKeys) H0.1
    simp only [spec_l6Copy.md] at R_
    first | exact R_ | (simp only [MP, S0, MHead.rs] at R_ ⊢; first | exact R_ | (rw [← R_]; rfl))
  try simp only [S0, MHead.rs]
  refine call_to (MKeys.r a0.fHeirs) ?_ ?_
  · have R_ := spec_l6Copy.R_eq (a0 := a0.fHeirs) H0.2.1
    simp only [spec_l6Copy.md] at R_
    first | exact R_ | (simp only [MP, S0, MHead.rs] at R_ ⊢; first | exact R_ | (rw [← R_]; rfl))
  try simp only [S0, MHead.rs]
  refine call_to (MKeys.r a0.fJudge) ?_ ?_
  · have R_ := spec_l6Copy.R_eq (a0 := a0.fJudge) H0.2.2
    simp only [spec_l6Copy.md] at R_
    first | exact R_ | (simp only [MP, S0, MHead.rs] at R_ ⊢; first | exact R_ | (rw [← R_]; rfl))
  try simp only [S0, MHead.rs]
  all_goals first | rfl | (simp only [S0, MHead.rs]; done) | (simp only [MP]; rfl) | (simp only [S0, MHead.rs, MP]; first | done | rfl)
theorem valid_ : Valid Tryz.prog Ev 130 con := VV (run := fun _ x => F x) mix tab_ok (.cons spec_l6Copy.valid_ .nil) Tryz.func130 (by kernel_rfl) run_eq (fun _ a _ _ hg => ⟨0, okF a hg⟩)
end spec_l13Copy
/-! spec.HeadAt -/
namespace spec_HeadAt
inductive Pt where
  | p0 (a : List (List L)) (b : Int) (c : Int) (d : Int) (e : Int) (f : Int) (g : Int) (h : Int) (i : Int) (j : Int) (k : Int) (l : Int) (m : Int) (n : Int) (o : Int) (p : Bool)
def pid : Pt → Nat
  | .p0 .. => 4
def pvs : Pt → List V
  | .p0 a b c d e f g h i j k l m n o p => [.sl none 122 a, .int .i64 b, .bptr 0 0, .int .i64 c]
def phs : Pt → List Root
  | .p0 a b c d e f g h i j k l m n o p => [.box [.int .i64 d, .int .i64 e, .int .i64 f, .int .i64 g, .int .i64 h, .int .i64 i, .int .i64 j, .int .i64 k, .nil, .int .i64 l, .nil, .int .i64 m, .int .i64 n, .nil, .int .i64 o, .bool p]]
noncomputable def step (J : Pt → Ans) : Pt → Ans
  | .p0 a b c d e f g h i j k l m n o p => (bif (decide (c ≥ 0)) then (bif (decide ((0 : Int) ≤ c)) then (bif (decide (c < (a.length : Int))) then (bif (decide ((RSigned.at a (Int.toNat c)).fHead.fTime ≤ b)) then (bif (decide ((0 : Int) ≤ c)) then (bif (decide (c < (a.length : Int))) then (call (spec_l13Copy.R ((RSigned.at a (Int.toNat c)).fHead)) fun v1 => ret ((v1, true) : RHead × Bool)) else none) else none) else J (.p0 a b (IntKind.i64.wrap (c - 1)) d e f g h i j k l m n o p)) else none) else none) else ret (((⟨0, 0, 0, 0, 0, 0, 0, 0, (⟨[], 0⟩ : RKeys), (⟨[], 0⟩ : RKeys), 0, (⟨[], 0⟩ : RKeys), false⟩ : RHead), false) : RHead × Bool))
noncomputable def start (J : Pt → Ans) (x0 : List (List L)) (x1 : Int) : Ans := (call (spec_IsChain.R x0) fun v1 => (bif (!v1) then ret (((⟨0, 0, 0, 0, 0, 0, 0, 0, (⟨[], 0⟩ : RKeys), (⟨[], 0⟩ : RKeys), 0, (⟨[], 0⟩ : RKeys), false⟩ : RHead), false) : RHead × Bool) else J (.p0 x0 x1 (IntKind.i64.wrap ((x0.length : Int) - 1)) 0 0 0 0 0 0 0 0 0 0 0 0 false)))
def live : Nat → Live := fun i => match i with | 4 => [(0, none), (1, none), (4, none), (6, none)] | _ => []
def pats : List Pat := [.rd (.sl 122), .rd (.int .i64)]
def res : RP := .tup [(true, [.rd (.int .i64), .rd (.int .i64), .rd (.int .i64), .rd (.int .i64), .rd (.int .i64), .rd (.int .i64), .rd (.int .i64), .rd (.int .i64), .fr 3, .rd (.int .i64), .fr 3, .rd (.int .i64), .rd (.int .i64), .fr 3, .rd (.int .i64), .rd (.bool)]), (false, [.rd (.bool)])]
noncomputable abbrev E : Env := { T := assoc Tab, G := conG [(129, spec_IsChain.con), (130, spec_l13Copy.con)], nt := 33 }
set_option maxRecDepth 100000
theorem step_eq (I : Heads) (p : Pt) : enterC E live I (pid p) (bodyOf Tryz.f62) (stOf (live (pid p)) (pvs p) (phs p)) (doneK E Tryz.f62 res) = step (fun q => I (pid q) (pvs q) (phs q)) p := by
  cases p <;> kernel_rfl
theorem start_eq (I : Heads) (ls : List L) : runC E live I (bodyOf Tryz.f62) (initS pats ls) (doneK E Tryz.f62 res) = start (fun q => I (pid q) (pvs q) (phs q)) (ls.headD .hole).toSl ((dropT 1 ls).headD .hole).toInt := by kernel_rfl
theorem run_eq (n : Nat) (ls : List L) : runF E live Tryz.f62 res n (initS pats ls) = start (iter step n) (ls.headD .hole).toSl ((dropT 1 ls).headD .hole).toInt := runF_iter (id := pid) (vs := pvs) (hs := phs) (step := step) (start := fun J => start J (ls.headD .hole).toSl ((dropT 1 ls).headD .hole).toInt) step_eq (fun I => start_eq I ls) n
noncomputable def dn (t : Int) (xs : List MSigned) : Nat → MHead × Bool
  | 0 => (MHead.zero, false)
  | k + 1 => bif decide ((xs.getD k MSigned.zero).fHead.fTime ≤ t) then ((xs.getD k MSigned.zero).fHead, true) else dn t xs k
theorem dn_sm {t : Int} {xs : List MSigned} (h : SmL (2 ^ 21) (fun y : MSigned => MSigned.Sm (2 ^ 21) y) xs) : ∀ k : Nat, k ≤ xs.length → MHead.Sm (2 ^ 21) (dn t xs k).1
  | 0, _ => ⟨SmL.nil, SmL.nil, SmL.nil⟩
  | k + 1, hk => by
    unfold dn
    cases decide ((xs.getD k MSigned.zero).fHead.fTime ≤ t)
    · exact dn_sm h k (by omega)
    · exact (SmL.getD (z := MSigned.zero) h (by omega)).1
theorem dn_sz {t : Int} {xs : List MSigned} : ∀ k : Nat, k ≤ xs.length → MHead.size (dn t xs k).1 ≤ szL MSigned.size xs + MHead.size MHead.zero
  | 0, _ => Nat.le_add_left _ _
  | k + 1, hk => by
    unfold dn
    cases decide ((xs.getD k MSigned.zero).fHead.fTime ≤ t)
    · exact dn_sz k (by omega)
    · have h2 := szL_getD (f := MSigned.size) (xs := xs) (i := k) (z := MSigned.zero) (by omega)
      simp only [cond_true]
      refine Nat.le_trans ?_ (Nat.le_add_right _ _)
      refine Nat.le_trans ?_ h2
      show _ ≤ MSigned.size (xs.getD k MSigned.zero)
      unfold MSigned.size
      omega
noncomputable def md (a0 : List MSigned) (a1 : Int) : MHead × Bool := (bif (!(spec_IsChain.md a0)) then (MHead.zero, false) else dn a1 a0 a0.length)
def gd (a0 : List MSigned) (a1 : Int) : Prop := SmL (2 ^ 21) (fun y : MSigned => MSigned.Sm (2 ^ 21) y) a0
def acc (ls : List L) : List (List L) × Int := ((ls.headD .hole).toSl, ((dropT 1 ls).headD .hole).toInt)
noncomputable def R : (List (List L) × Int) → Option (RHead × Bool) := RR (p2 gd) (u2 md)
theorem R_eq {a0} {a1} (h : gd a0 a1) : R ((a0.map MSigned.row), a1) = some ((MHead.r (md a0 a1).1), (md a0 a1).2) := RR_eq (a := (a0, a1)) h
noncomputable def con : Con := CN pats res acc R
theorem okF (a0 : List MSigned) (a1 : Int) (hg : gd a0 a1) : ∃ n, start (iter step n) (a0.map MSigned.row) a1 = ret (((MHead.r (md a0 a1).1), (md a0 a1).2) : RHead × Bool) := by
  unfold gd at hg
  have key : ∀ k : Nat, k ≤ a0.length → ∃ n, iter step n (Pt.p0 (a0.map MSigned.row) a1 ((k : Int) - 1) 0 0 0 0 0 0 0 0 0 0 0 0 false) = ret ((MHead.r (dn a1 a0 k).1, (dn a1 a0 k).2) : RHead × Bool) := by
    intro k
    induction k with
    | zero =>
      intro _
      refine ⟨1, ?_⟩
      show step (iter step 0) _ = _
      simp only [step]
      exact no_ret (by decide) rfl
    | succ k ih =>
      intro hk
      obtain ⟨n, hn⟩ := ih (by omega)
      refine ⟨n + 1, ?_⟩
      show step (iter step n) _ = _
      have hl := hg.1
      have e : ((k + 1 : Nat) : Int) - 1 = (k : Int) := by omega
      have hlt : k < a0.length := by omega
      rw [e]
      simp only [step, S0, MSigned.rs, MHead.rs]
      refine yes_ret (decide_eq_true (by omega)) (yes_ret (decide_eq_true (by omega)) (yes_ret (decide_eq_true (by omega)) ?_))
      unfold dn
      cases hc : decide ((a0.getD k MSigned.zero).fHead.fTime ≤ a1)
      · simp only [cond_false]
        rw [wi _ (by omega)]
        exact hn
      · simp only [cond_true]
        refine yes_ret (decide_eq_true (by omega)) (yes_ret (decide_eq_true (by omega)) ?_)
        exact call_to (MHead.r (a0.getD k MSigned.zero).fHead) (spec_l13Copy.R_eq (SmL.getD (z := MSigned.zero) hg hlt).1) rfl
  unfold start md
  refine ex_call_to (spec_IsChain.md a0) (spec_IsChain.R_eq hg) ?_
  cases spec_IsChain.md a0
  · exact ⟨0, rfl⟩
  · obtain ⟨n, hn⟩ := key a0.length (Nat.le_refl _)
    refine ⟨n, ?_⟩
    have hl := hg.1
    simp only [Bool.not_true, cond_false, S0]
    rw [wi _ (by omega)]
    exact hn
theorem valid_ : Valid Tryz.prog Ev 62 con := VV (run := fun n x => start (iter step n) x.1 x.2) mix tab_ok (.cons spec_IsChain.valid_ (.cons spec_l13Copy.valid_ .nil)) Tryz.func62 (by kernel_rfl) run_eq (fun _ a _ _ hg => okF a.1 a.2 hg)
theorem sm0 {a0 : List MSigned} {a1 : Int} (hg : gd a0 a1) : MHead.Sm (2 ^ 21) ((md a0 a1).1) := by
  unfold gd at hg; unfold md
  cases spec_IsChain.md a0
  · exact ⟨SmL.nil, SmL.nil, SmL.nil⟩
  · exact spec_HeadAt.dn_sm hg _ (Nat.le_refl _)
end spec_HeadAt
/-! spec.OwnersWhen -/
namespace spec_OwnersWhen
noncomputable def F (x0 : List (List L)) (x1 : Int) : Ans := (call (spec_HeadAt.R (x0, x1)) fun v1 => (bif (!v1.2) then ret (((⟨[], 0⟩ : RKeys), false) : RKeys × Bool) else (call (spec_l6Copy.R v1.1.fKeys) fun v2 => ret ((v2, true) : RKeys × Bool))))
def pats : List Pat := [.rd (.sl 122), .rd (.int .i64)]
def res : RP := .tup [(true, [.fr 3, .rd (.int .i64)]), (false, [.rd (.bool)])]
noncomputable abbrev E : Env := { T := assoc Tab, G := conG [(62, spec_HeadAt.con), (63, spec_l6Copy.con)], nt := 20 }
set_option maxRecDepth 100000
theorem run_eq (n : Nat) (ls : List L) : runF E (fun _ => []) Tryz.f16 res n (initS pats ls) = F (ls.headD .hole).toSl ((dropT 1 ls).headD .hole).toInt := by kernel_rfl
noncomputable def md (a0 : List MSigned) (a1 : Int) : MKeys × Bool := (bif (!(spec_HeadAt.md a0 a1).2) then ((⟨[], 0⟩ : MKeys), false) else (((spec_HeadAt.md a0 a1).1.fKeys), true))
def gd (a0 : List MSigned) (a1 : Int) : Prop := (SmL (2 ^ 21) (fun y : MSigned => MSigned.Sm (2 ^ 21) y) a0)
def acc (ls : List L) : List (List L) × Int := ((ls.headD .hole).toSl, ((dropT 1 ls).headD .hole).toInt)
noncomputable def R : (List (List L) × Int) → Option (RKeys × Bool) := RR (p2 gd) (u2 md)
theorem R_eq {a0} {a1} (h : gd a0 a1) : R ((a0.map MSigned.row), a1) = some ((MKeys.r (md a0 a1).1), (md a0 a1).2) := RR_eq (a := (a0, a1)) h
noncomputable def con : Con := CN pats res acc R
theorem okF (a0 : List MSigned) (a1 : Int) (hg : gd a0 a1) : F (a0.map MSigned.row) a1 = ret (((MKeys.r (md a0 a1).1), (md a0 a1).2) : RKeys × Bool) := by
  unfold gd at hg
  have H0 := hg
  unfold F md
  try simp only [S0, MHead.rs]
  refine call_to ((MHead.r (spec_HeadAt.md a0 a1).1), (spec_HeadAt.md a0 a1).2) (spec_HeadAt.R_eq (a0 := a0) (a1 := a1) H0) ?_
  try simp only [S0, MHead.rs]
  refine bif_out (fun b : MKeys × Bool => ret (((MKeys.r b.1), b.2) : RKeys × Bool)) (fun c1 => ?_) (fun c1 => ?_)
  · all_goals first | rfl | (simp only [S0, MHead.rs]; done) | (simp only [MP]; rfl) | (simp only [S0, MHead.rs, MP]; first | done | rfl)
  · refine call_to (MKeys.r ((spec_HeadAt.md a0 a1).1.fKeys)) ?_ ?_
    · have R_ := spec_l6Copy.R_eq (a0 := (spec_HeadAt.md a0 a1).1.fKeys) (spec_HeadAt.sm0 (a0 := a0) (a1 := a1) H0).1
      simp only [spec_l6Copy.md] at R_
      first | exact R_ | (simp only [MP, S0, MHead.rs] at R_ ⊢; first | exact R_ | (rw [← R_]; rfl))
    try simp only [S0, MHead.rs]
    all_goals first | rfl | (simp only [S0, MHead.rs]; done) | (simp only [MP]; rfl) | (simp only [S0, MHead.rs, MP]; first | done | rfl)
theorem valid_ : Valid Tryz.prog Ev 16 con := VV (run := fun _ x => F x.1 x.2) mix tab_ok (.cons spec_HeadAt.valid_ (.cons spec_l6Copy.valid_ .nil)) Tryz.func16 (by kernel_rfl) run_eq (fun _ a _ _ hg => ⟨0, okF a.1 a.2 hg⟩)
end spec_OwnersWhen
/-! impl.InRange -/
namespace impl_InRange
noncomputable def F (x0 : Int) (x1 : Int) (x2 : Int) : Ans := (bif (decide (x1 ≤ x0)) then ret ((decide (x0 ≤ x2)) : Bool) else ret (false : Bool))
def pats : List Pat := [.rd (.int .i64), .rd (.int .i64), .rd (.int .i64)]
def res : RP := .one (.rd (.bool))
noncomputable abbrev E : Env := { T := assoc Tab, G := conG [], nt := 15 }
set_option maxRecDepth 100000
theorem run_eq (n : Nat) (ls : List L) : runF E (fun _ => []) Tryz.f177 res n (initS pats ls) = F (ls.headD .hole).toInt ((dropT 1 ls).headD .hole).toInt ((dropT 2 ls).headD .hole).toInt := by kernel_rfl
noncomputable def md (a0 : Int) (a1 : Int) (a2 : Int) : Bool := (bif (decide (a1 ≤ a0)) then ((decide (a0 ≤ a2)) : Bool) else (false : Bool))
def gd (a0 : Int) (a1 : Int) (a2 : Int) : Prop := True
def acc (ls : List L) : Int × Int × Int := ((ls.headD .hole).toInt, ((dropT 1 ls).headD .hole).toInt, ((dropT 2 ls).headD .hole).toInt)
noncomputable def R : (Int × Int × Int) → Option Bool := RR (p3 gd) (u3 md)
theorem R_eq {a0} {a1} {a2} (h : gd a0 a1 a2) : R (a0, a1, a2) = some (md a0 a1 a2) := RR_eq (a := (a0, a1, a2)) h
noncomputable def con : Con := CN pats res acc R
theorem okF (a0 : Int) (a1 : Int) (a2 : Int) (hg : gd a0 a1 a2) : F a0 a1 a2 = ret ((md a0 a1 a2) : Bool) := by
  unfold F md
  try simp only [S0]
  refine bif_out ret (fun c1 => ?_) (fun _ => rfl)
  all_goals first | rfl | (simp only [S0, MP]; first | done | rfl)
theorem valid_ : Valid Tryz.prog Ev 177 con := VV (run := fun _ x => F x.1 x.2.1 x.2.2) mix tab_ok .nil Tryz.func177 (by kernel_rfl) run_eq (fun _ a _ _ hg => ⟨0, okF a.1 a.2.1 a.2.2 hg⟩)
theorem br (a0 : Int) (a1 : Int) (a2 : Int) : md a0 a1 a2 = spec_l1In.md a0 a1 a2 := by
  unfold md spec_l1In.md
  first | rfl | (rw [Bool.eq_iff_iff]; simp)
end impl_InRange
/-! impl.isDigest -/
namespace impl_isDigest
noncomputable def F (x0 : Int) : Ans := (call (impl_InRange.R (x0, 0, 2147483646)) fun v1 => ret (v1 : Bool))
def pats : List Pat := [.rd (.int .i64)]
def res : RP := .one (.rd (.bool))
noncomputable abbrev E : Env := { T := assoc Tab, G := conG [(177, impl_InRange.con)], nt := 5 }
set_option maxRecDepth 100000
theorem run_eq (n : Nat) (ls : List L) : runF E (fun _ => []) Tryz.f122 res n (initS pats ls) = F (ls.headD .hole).toInt := by kernel_rfl
noncomputable def md (a0 : Int) : Bool := ((impl_InRange.md a0 0 2147483646) : Bool)
def gd (a0 : Int) : Prop := True
def acc (ls : List L) : Int := (ls.headD .hole).toInt
noncomputable def R : Int → Option Bool := RR gd md
theorem R_eq {a0} (h : gd a0) : R a0 = some (md a0) := RR_eq (a := a0) h
noncomputable def con : Con := CN pats res acc R
theorem okF (a0 : Int) (hg : gd a0) : F a0 = ret ((md a0) : Bool) := by
  unfold F md
  try simp only [S0]
  refine call_to (impl_InRange.md a0 0 2147483646) (impl_InRange.R_eq (a0 := a0) (a1 := 0) (a2 := 2147483646) trivial) ?_
  all_goals first | rfl | (simp only [S0, MP]; first | done | rfl)
theorem valid_ : Valid Tryz.prog Ev 122 con := VV (run := fun _ x => F x) mix tab_ok (.cons impl_InRange.valid_ .nil) Tryz.func122 (by kernel_rfl) run_eq (fun _ a _ _ hg => ⟨0, okF a hg⟩)
end impl_isDigest
/-! impl.isSpan -/
namespace impl_isSpan
noncomputable def F (x0 : RHead) : Ans := (bif (decide (x0.fTime ≥ 0)) then (bif (decide (x0.fTime ≤ x0.fUntil)) then (bif (decide (x0.fUntil ≤ 100000)) then ret ((decide ((IntKind.i64.wrap (x0.fUntil - x0.fTime)) ≤ 200)) : Bool) else ret (false : Bool)) else ret (false : Bool)) else ret (false : Bool))
def pats : List Pat := [.agg [.int .i64, .int .i64, .int .i64, .int .i64, .int .i64, .int .i64, .int .i64, .int .i64, .sl 3, .int .i64, .sl 3, .int .i64, .int .i64, .sl 3, .int .i64, .bool]]
def res : RP := .one (.rd (.bool))
noncomputable abbrev E : Env := { T := assoc Tab, G := conG [], nt := 26 }
set_option maxRecDepth 100000
theorem run_eq (n : Nat) (ls : List L) : runF E (fun _ => []) Tryz.f275 res n (initS pats ls) = F (RHead.dec ls) := by kernel_rfl
noncomputable def md (a0 : MHead) : Bool := (bif (decide (a0.fTime ≥ 0)) then (bif (decide (a0.fTime ≤ a0.fUntil)) then (bif (decide (a0.fUntil ≤ 100000)) then ((decide ((IntKind.i64.wrap (a0.fUntil - a0.fTime)) ≤ 200)) : Bool) else (false : Bool)) else (false : Bool)) else (false : Bool))
def gd (a0 : MHead) : Prop := True
def acc (ls : List L) : RHead := (RHead.dec ls)
noncomputable def R : RHead → Option Bool := RR gd md
theorem R_eq {a0} (h : gd a0) : R (MHead.r a0) = some (md a0) := RR_eq (a := a0) h
noncomputable def con : Con := CN pats res acc R
theorem okF (a0 : MHead) (hg : gd a0) : F (MHead.r a0) = ret ((md a0) : Bool) := by
  unfold F md
  try simp only [S0, MHead.rs]
  refine bif_out ret (fun c1 => ?_) (fun _ => rfl)
  refine bif_out ret (fun c2 => ?_) (fun _ => rfl)
  refine bif_out ret (fun c3 => ?_) (fun _ => rfl)
  all_goals first | rfl | (simp only [S0, MHead.rs, MP]; first | done | rfl)
theorem valid_ : Valid Tryz.prog Ev 275 con := VV (run := fun _ x => F x) mix tab_ok .nil Tryz.func275 (by kernel_rfl) run_eq (fun _ a _ _ hg => ⟨0, okF a hg⟩)
end impl_isSpan
/-! impl.ascending -/
namespace impl_ascending
inductive Pt where
  | p0 (a : List (List L)) (b : Int) (c : Int)
def pid : Pt → Nat
  | .p0 .. => 2
def pvs : Pt → List V
  | .p0 a b c => [.sl none 3 a, .int .i64 b, .int .i64 c]
def phs : Pt → List Root
  | .p0 a b c => []
noncomputable def step (J : Pt → Ans) : Pt → Ans
  | .p0 a b c => (bif (decide (c < b)) then (bif (decide (c > 0)) then (bif (decide ((0 : Int) ≤ c)) then (bif (decide (c < (a.length : Int))) then (bif (decide ((0 : Int) ≤ (IntKind.i64.wrap (c - 1)))) then (bif (decide ((IntKind.i64.wrap (c - 1)) < (a.length : Int))) then (bif (decide ((iAt a (Int.toNat c)) ≤ (iAt a (Int.toNat (IntKind.i64.wrap (c - 1)))))) then ret (false : Bool) else J (.p0 a b (IntKind.i64.wrap (c + 1)))) else none) else none) else none) else none) else J (.p0 a b (IntKind.i64.wrap (c + 1)))) else ret (true : Bool))
noncomputable def start (J : Pt → Ans) (x0 : List (List L)) : Ans := J (.p0 x0 (x0.length : Int) 0)
def live : Nat → Live := fun i => match i with | 2 => [(0, none), (5, none), (6, none)] | _ => []
def pats : List Pat := [.rd (.sl 3)]
def res : RP := .one (.rd (.bool))
noncomputable abbrev E : Env := { T := assoc Tab, G := conG [], nt := 24 }
set_option maxRecDepth 100000
theorem step_eq (I : Heads) (p : Pt) : enterC E live I (pid p) (bodyOf Tryz.f302) (stOf (live (pid p)) (pvs p) (phs p)) (doneK E Tryz.f302 res) = step (fun q => I (pid q) (pvs q) (phs q)) p := by
  cases p <;> kernel_rfl
theorem start_eq (I : Heads) (ls : List L) : runC E live I (bodyOf Tryz.f302) (initS pats ls) (doneK E Tryz.f302 res) = start (fun q => I (pid q) (pvs q) (phs q)) (ls.headD .hole).toSl := by kernel_rfl
theorem run_eq (n : Nat) (ls : List L) : runF E live Tryz.f302 res n (initS pats ls) = start (iter step n) (ls.headD .hole).toSl := runF_iter (id := pid) (vs := pvs) (hs := phs) (step := step) (start := fun J => start J (ls.headD .hole).toSl) step_eq (fun I => start_eq I ls) n
noncomputable def md (a0 : List Int) : Bool := (eachI (S := Unit) (β := Bool) (fun (i1 : Nat) (y1 : Int) (s3 : Unit) => (bif (decide ((i1 : Int) > 0)) then (bif (decide (y1 ≤ (a0.getD (Int.toNat (IntKind.i64.wrap ((i1 : Int) - 1))) 0))) then (.inr (false : Bool)) else (.inl ())) else (.inl ()))) (fun (s3 : Unit) => (true : Bool)) 0 a0 ())
def gd (a0 : List Int) : Prop := (SmL (2 ^ 38) (fun y : Int => True) a0)
def acc (ls : List L) : List (List L) := (ls.headD .hole).toSl
noncomputable def R : (List (List L)) → Option Bool := RR gd md
theorem R_eq {a0} (h : gd a0) : R (a0.map iRow) = some (md a0) := RR_eq (a := a0) h
noncomputable def con : Con := CN pats res acc R
theorem okF (a0 : List Int) (hg : gd a0) : ∃ n, start (iter step n) (a0.map iRow) = ret ((md a0) : Bool) := by
  unfold gd at hg
  have H0 := hg
  unfold start md
  try simp only [S0]
  have Bh2 : a0.length ≤ maxLen := (by
      have := (H0).1
      try simp only [maxLen] at *
      omega)
  refine ex_eq (out := ret) (loopM_eachI (z := 0)) ?_
  refine ex_pt (p := Pt.p0 (a0.map iRow) (a0.length : Int) 0) (by first | rfl | (simp only [S0, MP]; done) | (simp only [MP]; rfl)) ?_
  refine loopM_ok (pt := fun (i1 : Nat) (s3 : Unit) => Pt.p0 (a0.map iRow) (a0.length : Int) (i1 : Int)) (s := (() : Unit)) (out := ret) (fun _ _ => True) (fun J i1 s3 h2 hih2 => ?_) (fun s3 hih2 => ?_) trivial
  · simp only [step, S0]
    have bb_ := Bh2
    simp only [maxLen] at bb_
    have := (H0).1
    refine Rnd.yes (by apply decide_eq_true; omega) ?_
    refine Rnd.bif (fun c4 => ?_) (fun c4 => ?_)
    · have dc4 := c4
      try simp only [DC] at dc4
      refine Rnd.yes zle_dec ?_
      refine Rnd.yes (lt_dec h2) ?_
      refine Rnd.yes (by
          refine decide_eq_true ?_
          try simp (disch := omega) only [LN, wi]
          first | omega | (simp; done) | (simp; omega)) ?_
      refine Rnd.yes (by
          have := (H0).1
          refine decide_eq_true ?_
          try simp (disch := omega) only [LN, wi]
          first | omega | (simp; done) | (simp; omega)) ?_
      refine Rnd.bif (fun _ => Rnd.inr rfl) (fun c5 => ?_)
      refine Rnd.inl trivial ?_
      rw [wrap_succ h2 Bh2]
      all_goals first | rfl | (simp only [S0, MP]; first | done | rfl)
    · refine Rnd.inl trivial ?_
      rw [wrap_succ h2 Bh2]
      all_goals first | rfl | (simp only [S0, MP]; first | done | rfl)
  · simp only [step, S0]
    have := (H0).1
    refine ex_no (by apply decide_eq_false; omega) ?_
    refine ⟨0, ?_⟩
    all_goals first | rfl | (simp only [S0, MP]; first | done | rfl)
theorem valid_ : Valid Tryz.prog Ev 302 con := VV (run := fun n x => start (iter step n) x) mix tab_ok .nil Tryz.func302 (by kernel_rfl) run_eq (fun _ a _ _ hg => okF a hg)
end impl_ascending
/-! impl.isKey -/
namespace impl_isKey
noncomputable def F (x0 : Int) : Ans := (call (impl_InRange.R (x0, 1, 99)) fun v1 => ret (v1 : Bool))
def pats : List Pat := [.rd (.int .i64)]
def res : RP := .one (.rd (.bool))
noncomputable abbrev E : Env := { T := assoc Tab, G := conG [(177, impl_InRange.con)], nt := 5 }
set_option maxRecDepth 100000
theorem run_eq (n : Nat) (ls : List L) : runF E (fun _ => []) Tryz.f303 res n (initS pats ls) = F (ls.headD .hole).toInt := by kernel_rfl
noncomputable def md (a0 : Int) : Bool := ((impl_InRange.md a0 1 99) : Bool)
def gd (a0 : Int) : Prop := True
def acc (ls : List L) : Int := (ls.headD .hole).toInt
noncomputable def R : Int → Option Bool := RR gd md
theorem R_eq {a0} (h : gd a0) : R a0 = some (md a0) := RR_eq (a := a0) h
noncomputable def con : Con := CN pats res acc R
theorem okF (a0 : Int) (hg : gd a0) : F a0 = ret ((md a0) : Bool) := by
  unfold F md
  try simp only [S0]
  refine call_to (impl_InRange.md a0 1 99) (impl_InRange.R_eq (a0 := a0) (a1 := 1) (a2 := 99) trivial) ?_
  all_goals first | rfl | (simp only [S0, MP]; first | done | rfl)
theorem valid_ : Valid Tryz.prog Ev 303 con := VV (run := fun _ x => F x) mix tab_ok (.cons impl_InRange.valid_ .nil) Tryz.func303 (by kernel_rfl) run_eq (fun _ a _ _ hg => ⟨0, okF a hg⟩)
end impl_isKey
/-! impl.IsKeys -/
namespace impl_IsKeys
noncomputable def F (x0 : RKeys) : Ans := (call (impl_InRange.R ((x0.fList.length : Int), 1, 4)) fun v1 => (bif v1 then (call (impl_ascending.R x0.fList) fun v2 => (bif v2 then (bif (decide ((0 : Int) < (x0.fList.length : Int))) then (call (impl_isKey.R (iAt x0.fList 0)) fun v3 => (bif v3 then (bif (decide ((0 : Int) ≤ (IntKind.i64.wrap ((x0.fList.length : Int) - 1)))) then (bif (decide ((IntKind.i64.wrap ((x0.fList.length : Int) - 1)) < (x0.fList.length : Int))) then (call (impl_isKey.R (iAt x0.fList (Int.toNat (IntKind.i64.wrap ((x0.fList.length : Int) - 1))))) fun v4 => (bif v4 then (call (impl_InRange.R (x0.fNeed, 1, (x0.fList.length : Int))) fun v5 => ret (v5 : Bool)) else ret (false : Bool))) else none) else none) else ret (false : Bool))) else none) else ret (false : Bool))) else ret (false : Bool)))
def pats : List Pat := [.agg [.sl 3, .int .i64]]
def res : RP := .one (.rd (.bool))
noncomputable abbrev E : Env := { T := assoc Tab, G := conG [(177, impl_InRange.con), (302, impl_ascending.con), (303, impl_isKey.con)], nt := 38 }
set_option maxRecDepth 100000
theorem run_eq (n : Nat) (ls : List L) : runF E (fun _ => []) Tryz.f276 res n (initS pats ls) = F (RKeys.dec ls) := by kernel_rfl
noncomputable def md (a0 : MKeys) : Bool := (bif (impl_InRange.md (a0.fList.length : Int) 1 4) then (bif (impl_ascending.md a0.fList) then (bif (impl_isKey.md (a0.fList.getD 0 0)) then (bif (impl_isKey.md (a0.fList.getD (Int.toNat (IntKind.i64.wrap ((a0.fList.length : Int) - 1))) 0)) then ((impl_InRange.md a0.fNeed 1 (a0.fList.length : Int)) : Bool) else (false : Bool)) else (false : Bool)) else (false : Bool)) else (false : Bool))
def gd (a0 : MKeys) : Prop := (MKeys.Sm (2 ^ 21) a0)
def acc (ls : List L) : RKeys := (RKeys.dec ls)
noncomputable def R : RKeys → Option Bool := RR gd md
theorem R_eq {a0} (h : gd a0) : R (MKeys.r a0) = some (md a0) := RR_eq (a := a0) h
noncomputable def con : Con := CN pats res acc R
theorem okF (a0 : MKeys) (hg : gd a0) : F (MKeys.r a0) = ret ((md a0) : Bool) := by
  unfold gd at hg
  have H0 := hg
  unfold F md
  try simp only [S0, MKeys.rs]
  refine call_to (impl_InRange.md (a0.fList.length : Int) 1 4) (impl_InRange.R_eq (a0 := (a0.fList.length : Int)) (a1 := 1) (a2 := 4) trivial) ?_
  refine bif_out ret (fun c1 => ?_) (fun _ => rfl)
  have Dc1 := c1
  try simp [impl_InRange.md] at Dc1
  refine call_to (impl_ascending.md a0.fList) (impl_ascending.R_eq (a0 := a0.fList) (H0.mono (by decide) (fun x hx => trivial))) ?_
  refine bif_out ret (fun c2 => ?_) (fun _ => rfl)
  refine yes_ret (by
      have := (H0).1
      refine decide_eq_true ?_
      try simp (disch := omega) only [LN, wi]
      first | omega | (simp; done) | (simp; omega)) ?_
  refine call_to (impl_isKey.md (a0.fList.getD 0 0)) (impl_isKey.R_eq (a0 := (a0.fList.getD 0 0)) trivial) ?_
  refine bif_out ret (fun c3 => ?_) (fun _ => rfl)
  refine yes_ret (by
      have := (H0).1
      refine decide_eq_true ?_
      try simp (disch := omega) only [LN, wi]
      first | omega | (simp; done) | (simp; omega)) ?_
  refine yes_ret (by
      have := (H0).1
      refine decide_eq_true ?_
      try simp (disch := omega) only [LN, wi]
      first | omega | (simp; done) | (simp; omega)) ?_
  refine call_to (impl_isKey.md (a0.fList.getD (Int.toNat (IntKind.i64.wrap ((a0.fList.length : Int) - 1))) 0)) (impl_isKey.R_eq (a0 := (a0.fList.getD (Int.toNat (IntKind.i64.wrap ((a0.fList.length : Int) - 1))) 0)) trivial) ?_
  refine bif_out ret (fun c4 => ?_) (fun _ => rfl)
  refine call_to (impl_InRange.md a0.fNeed 1 (a0.fList.length : Int)) (impl_InRange.R_eq (a0 := a0.fNeed) (a1 := 1) (a2 := (a0.fList.length : Int)) trivial) ?_
  all_goals first | rfl | (simp only [S0, MKeys.rs, MP]; first | done | rfl)
theorem valid_ : Valid Tryz.prog Ev 276 con := VV (run := fun _ x => F x) mix tab_ok (.cons impl_InRange.valid_ (.cons impl_ascending.valid_ (.cons impl_isKey.valid_ .nil))) Tryz.func276 (by kernel_rfl) run_eq (fun _ a _ _ hg => ⟨0, okF a hg⟩)
-- uses spec_IsKeys
theorem asc {l : List Int} (h : ∀ i : Nat, i < l.length → 0 < i → l.getD (i - 1) 0 < l.getD i 0) : ∀ (k i : Nat), i + k < l.length → l.getD i 0 ≤ l.getD (i + k) 0
  | 0, i, _ => Int.le_refl _
  | k + 1, i, hi => by
    have h1 := asc h k i (by omega)
    have h2 := h (i + (k + 1)) hi (by omega)
    rw [show i + (k + 1) - 1 = i + k by omega] at h2
    omega
theorem br (a0 : MKeys) : md a0 = spec_IsKeys.md a0 := by
  unfold md spec_IsKeys.md impl_ascending.md
  simp only [impl_InRange.br, impl_isKey.md]
  by_cases hl : 1 ≤ a0.fList.length ∧ a0.fList.length ≤ 4
  · have e1 : spec_l1In.md (a0.fList.length : Int) 1 4 = true := by simp [spec_l1In.md]; omega
    rw [e1]
    have wp : ∀ i : Nat, 0 < i → i ≤ 4 → Int.toNat (IntKind.i64.wrap ((i : Int) - 1)) = i - 1 := fun i h1 h2 => by
      rw [Go.IntWalk.i64_in _ (by omega)]; omega
    rw [wp _ (by omega) (by omega)]
    generalize a0.fNeed = n
    generalize a0.fList = l at *
    have i1 : ∀ x a b : Int, spec_l1In.md x a b = true ↔ a ≤ x ∧ x ≤ b := fun x a b => by simp [spec_l1In.md]
    have i2 : ∀ x a b : Int, spec_l1In.md x a b = false ↔ ¬ (a ≤ x ∧ x ≤ b) := fun x a b => by rw [← i1]; simp
    have w2 : ∀ i : Nat, i < l.length → 0 < i → Int.toNat (IntKind.i64.wrap ((i : Int) - 1)) = i - 1 := fun i h1 h2 => wp i h2 (by omega)
    rw [Bool.eq_iff_iff, ← loopM_eachI (z := 0), ← loopM_eachI (z := 0)]
    have e3 : ∀ a b c d : Bool, (bif true then (bif a then (bif b then (bif c then d else false) else false) else false) else false) = true ↔ a = true ∧ b = true ∧ c = true ∧ d = true := by
      intro a b c d; cases a <;> cases b <;> cases c <;> simp
    have pos : ∀ i : Nat, 0 < i → decide ((i : Int) > 0) = true := fun i h => by simpa using h
    have npos : ∀ i : Nat, ¬ 0 < i → decide ((i : Int) > 0) = false := fun i h => by simpa using h
    rw [e3]
    rw [loopM_true (fun i => 0 < i → l.getD (i - 1) 0 < l.getD i 0) (fun i hi h => ?_) (fun i hi h => ?_), loopM_true (fun i => (1 ≤ l.getD i 0 ∧ l.getD i 0 ≤ 99) ∧ (0 < i → l.getD (i - 1) 0 < l.getD i 0)) (fun i hi h => ?_) (fun i hi h => ?_)]
    · simp only [i1, and_true, cond_true]
      constructor
      · rintro ⟨h1, ⟨h2, h3⟩, ⟨h4, h5⟩, h6⟩
        refine ⟨fun i hi => ⟨⟨?_, ?_⟩, h1 i hi⟩, h6⟩
        · have := asc h1 i 0 (by omega)
          rw [Nat.zero_add] at this; omega
        · have := asc h1 (l.length - 1 - i) i (by omega)
          rw [show i + (l.length - 1 - i) = l.length - 1 by omega] at this; omega
      · rintro ⟨h1, h6⟩
        exact ⟨fun i hi => (h1 i hi).2, (h1 0 (by omega)).1, (h1 (l.length - 1) (by omega)).1, h6⟩
    · have e2 := (i1 (l.getD i 0) 1 99).2 h.1
      rw [e2]
      by_cases h0 : 0 < i
      · have := h.2 h0
        rw [pos i h0, w2 i hi h0, decide_eq_false (by omega)]; rfl
      · rw [npos i h0]; rfl
    · by_cases h1 : 1 ≤ l.getD i 0 ∧ l.getD i 0 ≤ 99
      · have e2 := (i1 (l.getD i 0) 1 99).2 h1
        have h0 : 0 < i := Classical.byContradiction fun hc => h ⟨h1, fun h => (hc h).elim⟩
        have h2 : ¬ l.getD (i - 1) 0 < l.getD i 0 := fun hc => h ⟨h1, fun _ => hc⟩
        rw [e2, pos i h0, w2 i hi h0, decide_eq_true (by omega)]; rfl
      · rw [(i2 _ _ _).2 h1]; rfl
    · by_cases h0 : 0 < i
      · have := h h0
        rw [pos i h0, w2 i hi h0, decide_eq_false (by omega)]; rfl
      · rw [npos i h0]; rfl
    · have h0 : 0 < i := Classical.byContradiction fun hc => h fun h => (hc h).elim
      have h2 : ¬ l.getD (i - 1) 0 < l.getD i 0 := fun hc => h fun _ => hc
      rw [pos i h0, w2 i hi h0, decide_eq_true (by omega)]; rfl
  · have e1 : spec_l1In.md (a0.fList.length : Int) 1 4 = false := by simp [spec_l1In.md]; omega
    rw [e1]
    simp only [cond_false]
    symm
    exact eachI_const (by
      intro i x s b h
      revert h
      simp only [Bool.cond_eq_ite]
      repeat' split
      all_goals (intro h; first | (cases h; rfl) | cases h)) _ _ _
end impl_IsKeys
/-! impl.NoKeys -/
namespace impl_NoKeys
noncomputable def F (x0 : RKeys) : Ans := (bif (x0.fNeed == 0) then ret (((x0.fList.length : Int) == 0) : Bool) else ret (false : Bool))
def pats : List Pat := [.agg [.sl 3, .int .i64]]
def res : RP := .one (.rd (.bool))
noncomputable abbrev E : Env := { T := assoc Tab, G := conG [], nt := 12 }
set_option maxRecDepth 100000
theorem run_eq (n : Nat) (ls : List L) : runF E (fun _ => []) Tryz.f279 res n (initS pats ls) = F (RKeys.dec ls) := by kernel_rfl
noncomputable def md (a0 : MKeys) : Bool := (bif (a0.fNeed == 0) then (((a0.fList.length : Int) == 0) : Bool) else (false : Bool))
def gd (a0 : MKeys) : Prop := True
def acc (ls : List L) : RKeys := (RKeys.dec ls)
noncomputable def R : RKeys → Option Bool := RR gd md
theorem R_eq {a0} (h : gd a0) : R (MKeys.r a0) = some (md a0) := RR_eq (a := a0) h
noncomputable def con : Con := CN pats res acc R
theorem okF (a0 : MKeys) (hg : gd a0) : F (MKeys.r a0) = ret ((md a0) : Bool) := by
  unfold F md
  try simp only [S0, MKeys.rs]
  refine bif_out ret (fun c1 => ?_) (fun _ => rfl)
  all_goals first | rfl | (simp only [S0, MKeys.rs, MP]; first | done | rfl)
theorem valid_ : Valid Tryz.prog Ev 279 con := VV (run := fun _ x => F x) mix tab_ok .nil Tryz.func279 (by kernel_rfl) run_eq (fun _ a _ _ hg => ⟨0, okF a hg⟩)
theorem br (a0 : MKeys) : md a0 = spec_NoKeys.md a0 := by
  unfold md spec_NoKeys.md
  first
  | (simp only [id]; done)
  | (simp only [id]; rfl)
  | rfl
end impl_NoKeys
/-! impl.isMaybe -/
namespace impl_isMaybe
noncomputable def F (x0 : RKeys) : Ans := (call (impl_NoKeys.R x0) fun v1 => (bif v1 then ret (true : Bool) else (call (impl_IsKeys.R x0) fun v2 => ret (v2 : Bool))))
def pats : List Pat := [.agg [.sl 3, .int .i64]]
def res : RP := .one (.rd (.bool))
noncomputable abbrev E : Env := { T := assoc Tab, G := conG [(279, impl_NoKeys.con), (276, impl_IsKeys.con)], nt := 9 }
set_option maxRecDepth 100000
theorem run_eq (n : Nat) (ls : List L) : runF E (fun _ => []) Tryz.f277 res n (initS pats ls) = F (RKeys.dec ls) := by kernel_rfl
noncomputable def md (a0 : MKeys) : Bool := (bif (impl_NoKeys.md a0) then (true : Bool) else ((impl_IsKeys.md a0) : Bool))
def gd (a0 : MKeys) : Prop := (MKeys.Sm (2 ^ 21) a0)
def acc (ls : List L) : RKeys := (RKeys.dec ls)
noncomputable def R : RKeys → Option Bool := RR gd md
theorem R_eq {a0} (h : gd a0) : R (MKeys.r a0) = some (md a0) := RR_eq (a := a0) h
noncomputable def con : Con := CN pats res acc R
theorem okF (a0 : MKeys) (hg : gd a0) : F (MKeys.r a0) = ret ((md a0) : Bool) := by
  unfold gd at hg
  have H0 := hg
  unfold F md
  try simp only [S0]
  refine call_to (impl_NoKeys.md a0) (impl_NoKeys.R_eq (a0 := a0) trivial) ?_
  refine bif_out ret (fun _ => rfl) (fun c1 => ?_)
  refine call_to (impl_IsKeys.md a0) (impl_IsKeys.R_eq (a0 := a0) H0) ?_
  all_goals first | rfl | (simp only [S0, MP]; first | done | rfl)
theorem valid_ : Valid Tryz.prog Ev 277 con := VV (run := fun _ x => F x) mix tab_ok (.cons impl_NoKeys.valid_ (.cons impl_IsKeys.valid_ .nil)) Tryz.func277 (by kernel_rfl) run_eq (fun _ a _ _ hg => ⟨0, okF a hg⟩)
end impl_isMaybe
/-! impl.isWait -/
namespace impl_isWait
noncomputable def F (x0 : Int) (x1 : RKeys) : Ans := (call (impl_NoKeys.R x1) fun v1 => (bif v1 then ret ((x0 == 0) : Bool) else (call (impl_InRange.R (x0, 1, 500)) fun v2 => ret (v2 : Bool))))
def pats : List Pat := [.rd (.int .i64), .agg [.sl 3, .int .i64]]
def res : RP := .one (.rd (.bool))
noncomputable abbrev E : Env := { T := assoc Tab, G := conG [(279, impl_NoKeys.con), (177, impl_InRange.con)], nt := 11 }
set_option maxRecDepth 100000
theorem run_eq (n : Nat) (ls : List L) : runF E (fun _ => []) Tryz.f278 res n (initS pats ls) = F (ls.headD .hole).toInt (RKeys.dec (dropT 1 ls)) := by kernel_rfl
noncomputable def md (a0 : Int) (a1 : MKeys) : Bool := (bif (impl_NoKeys.md a1) then ((a0 == 0) : Bool) else ((impl_InRange.md a0 1 500) : Bool))
def gd (a0 : Int) (a1 : MKeys) : Prop := True
def acc (ls : List L) : Int × RKeys := ((ls.headD .hole).toInt, (RKeys.dec (dropT 1 ls)))
noncomputable def R : (Int × RKeys) → Option Bool := RR (p2 gd) (u2 md)
theorem R_eq {a0} {a1} (h : gd a0 a1) : R (a0, (MKeys.r a1)) = some (md a0 a1) := RR_eq (a := (a0, a1)) h
noncomputable def con : Con := CN pats res acc R
theorem okF (a0 : Int) (a1 : MKeys) (hg : gd a0 a1) : F a0 (MKeys.r a1) = ret ((md a0 a1) : Bool) := by
  unfold F md
  try simp only [S0]
  refine call_to (impl_NoKeys.md a1) (impl_NoKeys.R_eq (a0 := a1) trivial) ?_
  refine bif_out ret (fun c1 => ?_) (fun c1 => ?_)
  · all_goals first | rfl | (simp only [S0, MP]; first | done | rfl)
  · refine call_to (impl_InRange.md a0 1 500) (impl_InRange.R_eq (a0 := a0) (a1 := 1) (a2 := 500) trivial) ?_
    all_goals first | rfl | (simp only [S0, MP]; first | done | rfl)
theorem valid_ : Valid Tryz.prog Ev 278 con := VV (run := fun _ x => F x.1 x.2) mix tab_ok (.cons impl_NoKeys.valid_ (.cons impl_InRange.valid_ .nil)) Tryz.func278 (by kernel_rfl) run_eq (fun _ a _ _ hg => ⟨0, okF a.1 a.2 hg⟩)
end impl_isWait
/-! impl.IsHead -/
namespace impl_IsHead
noncomputable def F (x0 : RHead) : Ans := (call (impl_isDigest.R x0.fZone) fun v1 => (bif v1 then (call (impl_isDigest.R x0.fRoot) fun v2 => (bif v2 then (call (impl_isDigest.R x0.fPrev) fun v3 => (bif v3 then (call (impl_InRange.R (x0.fEpoch, 0, 200)) fun v4 => (bif v4 then (call (impl_InRange.R (x0.fKind, 1, 3)) fun v5 => (bif v5 then (call (impl_isSpan.R x0) fun v6 => (bif v6 then (call (impl_InRange.R (x0.fCount, 0, 12)) fun v7 => (bif v7 then (call (impl_IsKeys.R x0.fKeys) fun v8 => (bif v8 then (call (impl_isMaybe.R x0.fHeirs) fun v9 => (bif v9 then (call (impl_isMaybe.R x0.fJudge) fun v10 => (bif v10 then (call (impl_isWait.R (x0.fWait, x0.fHeirs)) fun v11 => (bif v11 then (bif x0.fFrozen then (call (impl_NoKeys.R x0.fJudge) fun v12 => ret ((!v12) : Bool)) else ret (true : Bool)) else ret (false : Bool))) else ret (false : Bool))) else ret (false : Bool))) else ret (false : Bool))) else ret (false : Bool))) else ret (false : Bool))) else ret (false : Bool))) else ret (false : Bool))) else ret (false : Bool))) else ret (false : Bool))) else ret (false : Bool)))
def pats : List Pat := [.agg [.int .i64, .int .i64, .int .i64, .int .i64, .int .i64, .int .i64, .int .i64, .int .i64, .sl 3, .int .i64, .sl 3, .int .i64, .int .i64, .sl 3, .int .i64, .bool]]
def res : RP := .one (.rd (.bool))
noncomputable abbrev E : Env := { T := assoc Tab, G := conG [(122, impl_isDigest.con), (177, impl_InRange.con), (275, impl_isSpan.con), (276, impl_IsKeys.con), (277, impl_isMaybe.con), (278, impl_isWait.con), (279, impl_NoKeys.con)], nt := 67 }
set_option maxRecDepth 100000
theorem run_eq (n : Nat) (ls : List L) : runF E (fun _ => []) Tryz.f242 res n (initS pats ls) = F (RHead.dec ls) := by kernel_rfl
noncomputable def md (a0 : MHead) : Bool := (bif (impl_isDigest.md a0.fZone) then (bif (impl_isDigest.md a0.fRoot) then (bif (impl_isDigest.md a0.fPrev) then (bif (impl_InRange.md a0.fEpoch 0 200) then (bif (impl_InRange.md a0.fKind 1 3) then (bif (impl_isSpan.md a0) then (bif (impl_InRange.md a0.fCount 0 12) then (bif (impl_IsKeys.md a0.fKeys) then (bif (impl_isMaybe.md a0.fHeirs) then (bif (impl_isMaybe.md a0.fJudge) then (bif (impl_isWait.md a0.fWait a0.fHeirs) then (bif a0.fFrozen then ((!(impl_NoKeys.md a0.fJudge)) : Bool) else (true : Bool)) else (false : Bool)) else (false : Bool)) else (false : Bool)) else (false : Bool)) else (false : Bool)) else (false : Bool)) else (false : Bool)) else (false : Bool)) else (false : Bool)) else (false : Bool)) else (false : Bool))
def gd (a0 : MHead) : Prop := (MHead.Sm (2 ^ 21) a0)
def acc (ls : List L) : RHead := (RHead.dec ls)
noncomputable def R : RHead → Option Bool := RR gd md
theorem R_eq {a0} (h : gd a0) : R (MHead.r a0) = some (md a0) := RR_eq (a := a0) h
noncomputable def con : Con := CN pats res acc R
theorem okF (a0 : MHead) (hg : gd a0) : F (MHead.r a0) = ret ((md a0) : Bool) := by
  unfold gd at hg
  have H0 := hg
  unfold F md
  try simp only [S0, MHead.rs]
  refine call_to (impl_isDigest.md a0.fZone) (impl_isDigest.R_eq (a0 := a0.fZone) trivial) ?_
  refine bif_out ret (fun c1 => ?_) (fun _ => rfl)
  refine call_to (impl_isDigest.md a0.fRoot) (impl_isDigest.R_eq (a0 := a0.fRoot) trivial) ?_
  refine bif_out ret (fun c2 => ?_) (fun _ => rfl)
  refine call_to (impl_isDigest.md a0.fPrev) (impl_isDigest.R_eq (a0 := a0.fPrev) trivial) ?_
  refine bif_out ret (fun c3 => ?_) (fun _ => rfl)
  refine call_to (impl_InRange.md a0.fEpoch 0 200) (impl_InRange.R_eq (a0 := a0.fEpoch) (a1 := 0) (a2 := 200) trivial) ?_
  refine bif_out ret (fun c4 => ?_) (fun _ => rfl)
  refine call_to (impl_InRange.md a0.fKind 1 3) (impl_InRange.R_eq (a0 := a0.fKind) (a1 := 1) (a2 := 3) trivial) ?_
  refine bif_out ret (fun c5 => ?_) (fun _ => rfl)
  refine call_to (impl_isSpan.md a0) (impl_isSpan.R_eq (a0 := a0) trivial) ?_
  refine bif_out ret (fun c6 => ?_) (fun _ => rfl)
  refine call_to (impl_InRange.md a0.fCount 0 12) (impl_InRange.R_eq (a0 := a0.fCount) (a1 := 0) (a2 := 12) trivial) ?_
  refine bif_out ret (fun c7 => ?_) (fun _ => rfl)
  refine call_to (impl_IsKeys.md a0.fKeys) (impl_IsKeys.R_eq (a0 := a0.fKeys) H0.1) ?_
  refine bif_out ret (fun c8 => ?_) (fun _ => rfl)
  refine call_to (impl_isMaybe.md a0.fHeirs) (impl_isMaybe.R_eq (a0 := a0.fHeirs) H0.2.1) ?_
  refine bif_out ret (fun c9 => ?_) (fun _ => rfl)
  refine call_to (impl_isMaybe.md a0.fJudge) (impl_isMaybe.R_eq (a0 := a0.fJudge) H0.2.2) ?_
  refine bif_out ret (fun c10 => ?_) (fun _ => rfl)
  refine call_to (impl_isWait.md a0.fWait a0.fHeirs) (impl_isWait.R_eq (a0 := a0.fWait) (a1 := a0.fHeirs) trivial) ?_
  refine bif_out ret (fun c11 => ?_) (fun _ => rfl)
  refine bif_out ret (fun c12 => ?_) (fun _ => rfl)
  refine call_to (impl_NoKeys.md a0.fJudge) (impl_NoKeys.R_eq (a0 := a0.fJudge) trivial) ?_
  all_goals first | rfl | (simp only [S0, MHead.rs, MP]; first | done | rfl)
theorem valid_ : Valid Tryz.prog Ev 242 con := VV (run := fun _ x => F x) mix tab_ok (.cons impl_isDigest.valid_ (.cons impl_InRange.valid_ (.cons impl_isSpan.valid_ (.cons impl_IsKeys.valid_ (.cons impl_isMaybe.valid_ (.cons impl_isWait.valid_ (.cons impl_NoKeys.valid_ .nil))))))) Tryz.func242 (by kernel_rfl) run_eq (fun _ a _ _ hg => ⟨0, okF a hg⟩)
theorem br (a0 : MHead) : md a0 = spec_IsHead.md a0 := by
  unfold md spec_IsHead.md
  simp only [impl_IsKeys.br, impl_InRange.br, impl_isDigest.md, impl_isMaybe.md, impl_isWait.md, impl_NoKeys.br]
  have hs : impl_isSpan.md a0 = (spec_l1In.md a0.fTime 0 100000 && (spec_l1In.md a0.fUntil a0.fTime 100000 && !decide ((IntKind.i64.wrap (a0.fUntil - a0.fTime)) > 200))) := by
    rw [Bool.eq_iff_iff]
    simp [impl_isSpan.md, spec_l1In.md]
    omega
  have hk : spec_IsKeys.md a0.fJudge = true → spec_NoKeys.md a0.fJudge = false := fun h => by
    have := spec_IsKeys.tr h
    have e : ((a0.fJudge.fList.length : Int) == 0) = false := beq_eq_false_iff_ne.2 (by omega)
    unfold spec_NoKeys.md
    rw [e]
    cases a0.fJudge.fNeed == 0 <;> rfl
  rw [hs]
  revert hk
  simp only [and_n, and_p, Bool.and_assoc]
  generalize spec_l1In.md a0.fZone 0 2147483646 = b1
  generalize spec_l1In.md a0.fRoot 0 2147483646 = b2
  generalize spec_l1In.md a0.fPrev 0 2147483646 = b3
  generalize spec_l1In.md a0.fEpoch 0 200 = b4
  generalize spec_l1In.md a0.fKind 1 3 = b5
  generalize spec_l1In.md a0.fTime 0 100000 = b6
  generalize spec_l1In.md a0.fUntil a0.fTime 100000 = b7
  generalize decide ((IntKind.i64.wrap (a0.fUntil - a0.fTime)) > 200) = b8
  generalize spec_l1In.md a0.fCount 0 12 = b9
  generalize spec_IsKeys.md a0.fKeys = b10
  generalize spec_IsKeys.md a0.fHeirs = kh
  generalize spec_NoKeys.md a0.fHeirs = nh
  generalize spec_IsKeys.md a0.fJudge = kj
  generalize spec_NoKeys.md a0.fJudge = nj
  generalize spec_l1In.md a0.fWait 1 500 = lw
  have hw : (a0.fWait != 0) = !(a0.fWait == 0) := rfl
  rw [hw]
  generalize (a0.fWait == 0) = w0
  generalize a0.fFrozen = fz
  intro hk
  cases b1; · rfl
  cases b2; · rfl
  cases b3; · rfl
  cases b4; · rfl
  cases b5; · rfl
  cases b6; · rfl
  cases b7; · rfl
  cases b8; rotate_left; · rfl
  cases b9; · rfl
  cases b10; · rfl
  revert hk
  revert kh nh kj nj lw w0 fz
  decide
end impl_IsHead
/-! impl.KeysInts -/
namespace impl_KeysInts
noncomputable def F (x0 : RKeys) : Ans := (bif (lim (((2 : Int) + (x0.fList.length : Int)) * 8)) then ret (([[L.int x0.fNeed], [L.int (x0.fList.length : Int)]] ++ x0.fList) : List (List L)) else none)
def pats : List Pat := [.agg [.sl 3, .int .i64]]
def res : RP := .one (.fr 3)
noncomputable abbrev E : Env := { T := assoc Tab, G := conG [], nt := 12 }
set_option maxRecDepth 100000
theorem run_eq (n : Nat) (ls : List L) : runF E (fun _ => []) Tryz.f218 res n (initS pats ls) = F (RKeys.dec ls) := by kernel_rfl
noncomputable def md (a0 : MKeys) : List Int := ([a0.fNeed, (a0.fList.length : Int)] ++ a0.fList)
def gd (a0 : MKeys) : Prop := (MKeys.Sm (2 ^ 21) a0)
def acc (ls : List L) : RKeys := (RKeys.dec ls)
noncomputable def R : RKeys → Option (List (List L)) := RR gd md
theorem R_eq {a0} (h : gd a0) : R (MKeys.r a0) = some ((md a0).map iRow) := RR_eq (a := a0) h
noncomputable def con : Con := CN pats res acc R
theorem okF (a0 : MKeys) (hg : gd a0) : F (MKeys.r a0) = ret (((md a0).map iRow) : List (List L)) := by
  unfold gd at hg
  have H0 := hg
  unfold F md
  try simp only [S0, MKeys.rs]
  refine yes_ret (by
      have := (H0).1
      refine lim_t ?_
      try simp (disch := omega) only [LN, wi]
      first | omega | (simp; done) | (simp; omega)) ?_
  all_goals first | rfl | (simp only [S0, MKeys.rs]; done) | (simp only [MP]; rfl) | (simp only [S0, MKeys.rs, MP]; first | done | rfl)
theorem valid_ : Valid Tryz.prog Ev 218 con := VV (run := fun _ x => F x) mix tab_ok .nil Tryz.func218 (by kernel_rfl) run_eq (fun _ a _ _ hg => ⟨0, okF a hg⟩)
theorem len (a0 : MKeys) : (md a0).length = 2 + a0.fList.length := by simp [md]; omega
theorem br (a0 : MKeys) : md a0 = spec_KeysInts.md a0 := by
  unfold md spec_KeysInts.md
  first
  | (simp only [id]; done)
  | (simp only [id]; rfl)
  | rfl
end impl_KeysInts
/-! impl.Mod -/
namespace impl_Mod
noncomputable def F (x0 : Int) (x1 : Int) : Ans := (call (impl_InRange.R (x1, 1, 1000000000000)) fun v1 => (bif (!v1) then ret (0 : Int) else (bif (decide (x1 = 0)) then none else (bif (decide (x1 = 0)) then none else ret ((Int.tmod (IntKind.i64.wrap ((Int.tmod x0 x1) + x1)) x1) : Int)))))
def pats : List Pat := [.rd (.int .i64), .rd (.int .i64)]
def res : RP := .one (.rd (.int .i64))
noncomputable abbrev E : Env := { T := assoc Tab, G := conG [(177, impl_InRange.con)], nt := 15 }
set_option maxRecDepth 100000
theorem run_eq (n : Nat) (ls : List L) : runF E (fun _ => []) Tryz.f288 res n (initS pats ls) = F (ls.headD .hole).toInt ((dropT 1 ls).headD .hole).toInt := by kernel_rfl
noncomputable def md (a0 : Int) (a1 : Int) : Int := (bif (!(impl_InRange.md a1 1 1000000000000)) then (0 : Int) else ((Int.tmod (IntKind.i64.wrap ((Int.tmod a0 a1) + a1)) a1) : Int))
def gd (a0 : Int) (a1 : Int) : Prop := True
def acc (ls : List L) : Int × Int := ((ls.headD .hole).toInt, ((dropT 1 ls).headD .hole).toInt)
noncomputable def R : (Int × Int) → Option Int := RR (p2 gd) (u2 md)
theorem R_eq {a0} {a1} (h : gd a0 a1) : R (a0, a1) = some (md a0 a1) := RR_eq (a := (a0, a1)) h
noncomputable def con : Con := CN pats res acc R
theorem okF (a0 : Int) (a1 : Int) (hg : gd a0 a1) : F a0 a1 = ret ((md a0 a1) : Int) := by
  unfold F md
  try simp only [S0]
  refine call_to (impl_InRange.md a1 1 1000000000000) (impl_InRange.R_eq (a0 := a1) (a1 := 1) (a2 := 1000000000000) trivial) ?_
  refine bif_out ret (fun _ => rfl) (fun c1 => ?_)
  have dc1 := c1
  try simp only [DC] at dc1
  have Dc1 := c1
  try simp [impl_InRange.md] at Dc1
  refine no_ret (by
      refine decide_eq_false ?_
      try simp (disch := omega) only [LN, wi]
      first | omega | (simp; done) | (simp; omega)) ?_
  refine no_ret (by
      refine decide_eq_false ?_
      try simp (disch := omega) only [LN, wi]
      first | omega | (simp; done) | (simp; omega)) ?_
  all_goals first | rfl | (simp only [S0, MP]; first | done | rfl)
theorem valid_ : Valid Tryz.prog Ev 288 con := VV (run := fun _ x => F x.1 x.2) mix tab_ok (.cons impl_InRange.valid_ .nil) Tryz.func288 (by kernel_rfl) run_eq (fun _ a _ _ hg => ⟨0, okF a.1 a.2 hg⟩)
theorem br (a0 : Int) (a1 : Int) : md a0 a1 = spec_Mod.md a0 a1 := by
  unfold md spec_Mod.md
  first
  | (simp only [impl_InRange.br]; done)
  | (simp only [impl_InRange.br]; rfl)
  | rfl
end impl_Mod
/-! impl.Hash -/
namespace impl_Hash
inductive Pt where
  | p0 (a : Int) (b : List (List L)) (c : Int) (d : Int)
def pid : Pt → Nat
  | .p0 .. => 3
def pvs : Pt → List V
  | .p0 a b c d => [.int .i64 a, .sl none 3 b, .int .i64 c, .int .i64 d]
def phs : Pt → List Root
  | .p0 a b c d => []
noncomputable def step (J : Pt → Ans) : Pt → Ans
  | .p0 a b c d => (bif (decide (d < c)) then (bif (decide ((0 : Int) ≤ d)) then (bif (decide (d < (b.length : Int))) then (call (impl_Mod.R ((iAt b (Int.toNat d)), 2147483647)) fun v1 => J (.p0 (Int.tmod (IntKind.i64.wrap ((IntKind.i64.wrap ((IntKind.i64.wrap (a * 1000003)) + v1)) + 13)) 2147483647) b c (IntKind.i64.wrap (d + 1)))) else none) else none) else ret (a : Int))
noncomputable def start (J : Pt → Ans) (x0 : List (List L)) : Ans := J (.p0 11 x0 (x0.length : Int) 0)
def live : Nat → Live := fun i => match i with | 3 => [(3, none), (6, none), (7, none), (8, none)] | _ => []
def pats : List Pat := [.rd (.sl 3)]
def res : RP := .one (.rd (.int .i64))
noncomputable abbrev E : Env := { T := assoc Tab, G := conG [(288, impl_Mod.con)], nt := 21 }
set_option maxRecDepth 100000
theorem step_eq (I : Heads) (p : Pt) : enterC E live I (pid p) (bodyOf Tryz.f255) (stOf (live (pid p)) (pvs p) (phs p)) (doneK E Tryz.f255 res) = step (fun q => I (pid q) (pvs q) (phs q)) p := by
  cases p <;> kernel_rfl
theorem start_eq (I : Heads) (ls : List L) : runC E live I (bodyOf Tryz.f255) (initS pats ls) (doneK E Tryz.f255 res) = start (fun q => I (pid q) (pvs q) (phs q)) (ls.headD .hole).toSl := by kernel_rfl
theorem run_eq (n : Nat) (ls : List L) : runF E live Tryz.f255 res n (initS pats ls) = start (iter step n) (ls.headD .hole).toSl := runF_iter (id := pid) (vs := pvs) (hs := phs) (step := step) (start := fun J => start J (ls.headD .hole).toSl) step_eq (fun I => start_eq I ls) n
noncomputable def md (a0 : List Int) : Int := (eachM (S := Int) (β := Int) (fun (y1 : Int) (s3 : Int) => (.inl (Int.tmod (IntKind.i64.wrap ((IntKind.i64.wrap ((IntKind.i64.wrap (s3 * 1000003)) + (impl_Mod.md y1 2147483647))) + 13)) 2147483647))) (fun (s3 : Int) => (s3 : Int)) a0 11)
def gd (a0 : List Int) : Prop := (SmL (2 ^ 43) (fun y : Int => True) a0)
def acc (ls : List L) : List (List L) := (ls.headD .hole).toSl
noncomputable def R : (List (List L)) → Option Int := RR gd md
theorem R_eq {a0} (h : gd a0) : R (a0.map iRow) = some (md a0) := RR_eq (a := a0) h
noncomputable def con : Con := CN pats res acc R
theorem okF (a0 : List Int) (hg : gd a0) : ∃ n, start (iter step n) (a0.map iRow) = ret ((md a0) : Int) := by
  unfold gd at hg
  have H0 := hg
  unfold start md
  try simp only [S0]
  have Bh2 : a0.length ≤ maxLen := (by
      have := (H0).1
      try simp only [maxLen] at *
      omega)
  refine ex_eq (out := ret) (loopM_eachM (z := 0)) ?_
  refine ex_pt (p := Pt.p0 11 (a0.map iRow) (a0.length : Int) 0) (by first | rfl | (simp only [S0, MP]; done) | (simp only [MP]; rfl)) ?_
  refine loopM_ok (pt := fun (i1 : Nat) (s3 : Int) => Pt.p0 s3 (a0.map iRow) (a0.length : Int) (i1 : Int)) (s := (11 : Int)) (out := ret) (fun _ _ => True) (fun J i1 s3 h2 hih2 => ?_) (fun s3 hih2 => ?_) trivial
  · simp only [step, S0]
    have bb_ := Bh2
    simp only [maxLen] at bb_
    have := (H0).1
    refine Rnd.yes (by apply decide_eq_true; omega) ?_
    refine Rnd.yes zle_dec ?_
    refine Rnd.yes (lt_dec h2) ?_
    refine Rnd.call_to (impl_Mod.md (a0.getD i1 0) 2147483647) (impl_Mod.R_eq (a0 := (a0.getD i1 0)) (a1 := 2147483647) trivial) ?_
    refine Rnd.inl trivial ?_
    rw [wrap_succ h2 Bh2]
    all_goals first | rfl | (simp only [S0, MP]; first | done | rfl)
  · simp only [step, S0]
    have := (H0).1
    refine ex_no (by apply decide_eq_false; omega) ?_
    refine ⟨0, ?_⟩
    all_goals first | rfl | (simp only [S0, MP]; first | done | rfl)
theorem valid_ : Valid Tryz.prog Ev 255 con := VV (run := fun n x => start (iter step n) x) mix tab_ok (.cons impl_Mod.valid_ .nil) Tryz.func255 (by kernel_rfl) run_eq (fun _ a _ _ hg => okF a hg)
theorem br (a0 : List Int) : md a0 = spec_Hash.md a0 := by
  unfold md spec_Hash.md
  first
  | (simp only [impl_Mod.br]; done)
  | (simp only [impl_Mod.br]; rfl)
  | rfl
end impl_Hash
/-! impl.ZoneOf -/
namespace impl_ZoneOf
noncomputable def F (x0 : RKeys) (x1 : Int) : Ans := (call (impl_KeysInts.R x0) fun v1 => (bif (lim (((2 : Int) + (v1.length : Int)) * 8)) then (call (impl_Hash.R ([[L.int 239], [L.int x1]] ++ v1)) fun v2 => ret (v2 : Int)) else none))
def pats : List Pat := [.agg [.sl 3, .int .i64], .rd (.int .i64)]
def res : RP := .one (.rd (.int .i64))
noncomputable abbrev E : Env := { T := assoc Tab, G := conG [(218, impl_KeysInts.con), (255, impl_Hash.con)], nt := 11 }
set_option maxRecDepth 100000
theorem run_eq (n : Nat) (ls : List L) : runF E (fun _ => []) Tryz.f243 res n (initS pats ls) = F (RKeys.dec ls) ((dropT 2 ls).headD .hole).toInt := by kernel_rfl
noncomputable def md (a0 : MKeys) (a1 : Int) : Int := ((impl_Hash.md ([239, a1] ++ (impl_KeysInts.md a0))) : Int)
def gd (a0 : MKeys) (a1 : Int) : Prop := (MKeys.Sm (2 ^ 21) a0)
def acc (ls : List L) : RKeys × Int := ((RKeys.dec ls), ((dropT 2 ls).headD .hole).toInt)
noncomputable def R : (RKeys × Int) → Option Int := RR (p2 gd) (u2 md)
theorem R_eq {a0} {a1} (h : gd a0 a1) : R ((MKeys.r a0), a1) = some (md a0 a1) := RR_eq (a := (a0, a1)) h
noncomputable def con : Con := CN pats res acc R
theorem okF (a0 : MKeys) (a1 : Int) (hg : gd a0 a1) : F (MKeys.r a0) a1 = ret ((md a0 a1) : Int) := by
  unfold gd at hg
  have H0 := hg
  unfold F md
  try simp only [S0]
  refine call_to ((impl_KeysInts.md a0).map iRow) (impl_KeysInts.R_eq (a0 := a0) H0) ?_
  try simp only [S0]
  refine yes_ret (by
      have := impl_KeysInts.len a0
      have := (H0).1
      refine lim_t ?_
      try simp (disch := omega) only [LN, wi]
      first | omega | (simp; done) | (simp; omega)) ?_
  refine call_to (impl_Hash.md ([239, a1] ++ (impl_KeysInts.md a0))) ?_ ?_
  · have R_ := impl_Hash.R_eq (a0 := ([239, a1] ++ (impl_KeysInts.md a0))) ⟨(by
        have := impl_KeysInts.len a0
        have := (H0).1
        try simp (disch := omega) only [LN, wi]
        first | omega | (simp; done) | (simp; omega)), fun _ _ => trivial⟩
    first | exact R_ | (simp only [MP, S0] at R_ ⊢; first | exact R_ | (rw [← R_]; rfl))
  all_goals first | rfl | (simp only [S0, MP]; first | done | rfl)
theorem valid_ : Valid Tryz.prog Ev 243 con := VV (run := fun _ x => F x.1 x.2) mix tab_ok (.cons impl_KeysInts.valid_ (.cons impl_Hash.valid_ .nil)) Tryz.func243 (by kernel_rfl) run_eq (fun _ a _ _ hg => ⟨0, okF a.1 a.2 hg⟩)
theorem br (a0 : MKeys) (a1 : Int) : md a0 a1 = spec_ZoneOf.md a0 a1 := by
  unfold md spec_ZoneOf.md
  first
  | (simp only [impl_KeysInts.br, impl_Hash.br]; done)
  | (simp only [impl_KeysInts.br, impl_Hash.br]; rfl)
  | rfl
end impl_ZoneOf
/-! impl.bit -/
namespace impl_bit
noncomputable def F (x0 : Bool) : Ans := (bif x0 then ret (1 : Int) else ret (0 : Int))
def pats : List Pat := [.rd (.bool)]
def res : RP := .one (.rd (.int .i64))
noncomputable abbrev E : Env := { T := assoc Tab, G := conG [], nt := 4 }
set_option maxRecDepth 100000
theorem run_eq (n : Nat) (ls : List L) : runF E (fun _ => []) Tryz.f219 res n (initS pats ls) = F (ls.headD .hole).toBool := by kernel_rfl
noncomputable def md (a0 : Bool) : Int := (bif a0 then (1 : Int) else (0 : Int))
def gd (a0 : Bool) : Prop := True
def acc (ls : List L) : Bool := (ls.headD .hole).toBool
noncomputable def R : Bool → Option Int := RR gd md
theorem R_eq {a0} (h : gd a0) : R a0 = some (md a0) := RR_eq (a := a0) h
noncomputable def con : Con := CN pats res acc R
theorem okF (a0 : Bool) (hg : gd a0) : F a0 = ret ((md a0) : Int) := by
  unfold F md
  try simp only [S0]
  refine bif_out ret (fun _ => rfl) (fun _ => rfl)
theorem valid_ : Valid Tryz.prog Ev 219 con := VV (run := fun _ x => F x) mix tab_ok .nil Tryz.func219 (by kernel_rfl) run_eq (fun _ a _ _ hg => ⟨0, okF a hg⟩)
end impl_bit
namespace slices_Grow_Sint_int
set_option maxHeartbeats 1000000 in
set_option maxRecDepth 100000 in
open Go.RowKit in
theorem calls0 (b : Option Addr) (w : World) : Calls Tryz.prog 246 #[.slice b 0 0, .int .i64 0] w fun e w' => e = .returned (.slice b 0 0) ∧ w' = w := by
  go_enter Tryz.func246, Tryz.ntmps246
  go_wp2
  go_ret
  exact ⟨rfl, rfl⟩
theorem size3 : Tryz.t3.size = 1 := by kernel_rfl
theorem bytes3 : Tryz.t3.bytes = 8 := by kernel_rfl
set_option maxHeartbeats 1000000 in
set_option maxRecDepth 100000 in
open Go.RowKit in
theorem calls1 (b : Option Addr) (n : Nat) (w : World) (h0 : 0 < n) (h1 : n * 8 ≤ 140737488355328) : Calls Tryz.prog 246 #[.slice b 0 0, .int .i64 n] w fun e w' => e = .returned (.slice (some ⟨w.heap.size, 0, none⟩) 0 (grownCap w n 0 3)) ∧ w' = (w.drew.alloc (.cells (Builtin.zeroCells #[.int .i64 0] n ++ Builtin.zeroCells #[.int .i64 0] (grownCap w n 0 3 - n)) 3)) := by
  have hp : (0 : Int) < n := by omega
  have hnn : ¬ ((n : Int) < 0) := by omega
  have hold : (Builtin.firstCells Tryz.t3.size 0 (.slice b 0 0)).run Tryz.prog w.drew = .ok ([] : List Value).toArray w.drew := by
    cases b with
    | none => exact run_firstCells_none _ _ _ _ _
    | some b => exact run_firstCells_some _ _ _ _ _ _ [] (by simp) (fun j v hj => by simp at hj)
  have H := fun ty => Lib.run_append_grow_zeros (P := Tryz.prog) w 33 3 ty 3 Tryz.t3 (.int .i64 0) .i64 .i64 (by kernel_rfl) (by kernel_rfl) (by kernel_rfl) (by kernel_rfl) b 0 0 [] hold n h0 (by rw [size3]; omega) (by omega) (by omega) (by rw [bytes3]; omega) (by
    rw [Nat.zero_add, nextslicecap_zero h0, bytes3]; omega)
  simp only [Nat.zero_add, Array.empty_append] at H
  have H2 := Lib.hid H
  clear H hold
  go_enter Tryz.func246, Tryz.ntmps246
  go_wp2_with (at_builtin; refine Lib.wpList_append_run _ rfl _ _ _ _ rfl _ _ rfl rfl _ _ (H2.out _) ?_)
  go_ret
  exact ⟨rfl, rfl⟩
noncomputable def md (_ : Int) : List Int := []
noncomputable def R (x0 : Int) : Option (List (List L)) := bif decide (0 ≤ x0) && decide (x0 * 8 ≤ 140737488355328) then some [] else none
theorem R_eq {a0 : Int} (h : 0 ≤ a0 ∧ a0 * 8 ≤ 140737488355328) : R a0 = some [] := by simp [R, h.1, h.2]
noncomputable def sem : List L → Option (List L)
  | [y0] => (R y0.toInt).map RT.enc
  | _ => none
noncomputable def con : Con := ⟨[.nil, .rd (.int .i64)], .one (.fr 3), sem⟩
theorem cells3 : Ev.cells 3 = [.int .i64] := by kernel_rfl
theorem valid_ : Valid Tryz.prog Ev 246 con := by
  refine valid_row ⟨Tryz.f246, Tryz.func246, by kernel_rfl, by kernel_rfl⟩ rfl fun ls r w vs Z hs hf => ?_
  simp only [con] at hs
  unfold sem at hs
  split at hs
  · rename_i y
    obtain ⟨v, hv, hq⟩ := map_some hs
    unfold R at hv
    cases hc : (decide (0 ≤ y.toInt) && decide (y.toInt * 8 ≤ 140737488355328)) <;> simp only [hc, cond_true, cond_false] at hv
    · cases hv
    injection hv with hv
    subst hv
    subst hq
    simp only [Bool.and_eq_true, decide_eq_true_eq] at hc
    cases hf with
    | cons h1 ht =>
      cases ht with
      | cons h2 ht =>
        cases ht
        obtain ⟨b, rfl⟩ := (show V0 Ev.cells w (A0 Z w) .nil _ from h1)
        have e2 : _ = Value.int .i64 y.toInt := h2
        subst e2
        obtain ⟨n, hn⟩ : ∃ n : Nat, y.toInt = n := ⟨y.toInt.toNat, by omega⟩
        rw [hn] at hc ⊢
        rcases Nat.eq_zero_or_pos n with h0 | h0
        · subst h0
          exact (calls0 b w).mono fun e w' ⟨h3, h4⟩ => ⟨_, fun _ => False, h3, by rw [h4]; exact Fr.refl _ _, fun b hb => hb.elim, .nil _ _ _ _ rfl⟩
        · refine (calls1 b n w h0 (by omega)).mono fun e w' ⟨h3, h4⟩ => ⟨_, fun b => b = w.heap.size, h3, ?_, fun b hb => ?_, ?_⟩
          · rw [h4]; exact ((Fr.refl w _).drew).alloc _
          · subst hb; rw [h4]; simp
          · have hge := grownCap_ge w n 0 3
            have hle : grownCap w n 0 3 ≤ maxLen := grownCap_le_maxLen w n 0 3 (by simp only [maxLen]; omega)
            rw [h4]
            refine .sl _ 3 0 _ w.heap.size 3 _ _ (fun _ _ => Go.undef) (fun _ _ _ => False) rfl (Nat.zero_le _) hle (heap_alloc_new w.drew _) ?_ rfl (fun _ _ _ h => h.elim) (fun _ _ _ _ _ h => h.elim) (fun i j k hi => by omega) (fun i j k hi => by omega)
            rw [cells3]
            simp only [Array.size_append, size_zeroCells, List.length_singleton]
            simp
            omega
  · cases hs
end slices_Grow_Sint_int
/-! slices.Concat[[]int,int] -/
namespace slices_Concat_Sint_int
inductive Pt where
  | p0 (a : List (List L)) (b : Int) (c : List (List L)) (d : Int) (e : Int)
  | p1 (a : List (List L)) (b : Int) (c : Int) (d : List (List L))
def pid : Pt → Nat
  | .p0 .. => 3
  | .p1 .. => 11
def pvs : Pt → List V
  | .p0 a b c d e => [.sl none 33 a, .int .i64 b, .sl none 33 c, .int .i64 d, .int .i64 e]
  | .p1 a b c d => [.own 0, .sl none 33 a, .int .i64 b, .int .i64 c]
def phs : Pt → List Root
  | .p0 a b c d e => []
  | .p1 a b c d => [.row 3 d]
noncomputable def step (J : Pt → Ans) : Pt → Ans
  | .p0 a b c d e => (bif (decide (e < d)) then (bif (decide ((0 : Int) ≤ e)) then (bif (decide (e < (c.length : Int))) then (bif (decide ((IntKind.i64.wrap (b + ((lAt c (Int.toNat e)).length : Int))) < 0)) then none else J (.p0 a (IntKind.i64.wrap (b + ((lAt c (Int.toNat e)).length : Int))) c d (IntKind.i64.wrap (e + 1)))) else none) else none) else (call (slices_Grow_Sint_int.R b) fun v1 => J (.p1 a (a.length : Int) 0 v1)))
  | .p1 a b c d => (bif (decide (c < b)) then (bif (decide ((0 : Int) ≤ c)) then (bif (decide (c < (a.length : Int))) then (bif (lim (((d.length : Int) + ((lAt a (Int.toNat c)).length : Int)) * 8)) then J (.p1 a b (IntKind.i64.wrap (c + 1)) (d ++ (lAt a (Int.toNat c)))) else none) else none) else none) else ret (d : List (List L)))
noncomputable def start (J : Pt → Ans) (x0 : List (List L)) : Ans := J (.p0 x0 0 x0 (x0.length : Int) 0)
def live : Nat → Live := fun i => match i with | 3 => [(0, none), (3, none), (9, none), (10, none), (11, none)] | 11 => [(6, none), (25, none), (26, none), (27, none)] | _ => []
def pats : List Pat := [.rd (.sl 33)]
def res : RP := .one (.fr 3)
noncomputable abbrev E : Env := { T := assoc Tab, G := conG [(246, slices_Grow_Sint_int.con)], nt := 36 }
set_option maxRecDepth 100000
theorem step_eq (I : Heads) (p : Pt) : enterC E live I (pid p) (bodyOf Tryz.f217) (stOf (live (pid p)) (pvs p) (phs p)) (doneK E Tryz.f217 res) = step (fun q => I (pid q) (pvs q) (phs q)) p := by
  cases p <;> kernel_rfl
theorem start_eq (I : Heads) (ls : List L) : runC E live I (bodyOf Tryz.f217) (initS pats ls) (doneK E Tryz.f217 res) = start (fun q => I (pid q) (pvs q) (phs q)) (ls.headD .hole).toSl := by kernel_rfl
theorem run_eq (n : Nat) (ls : List L) : runF E live Tryz.f217 res n (initS pats ls) = start (iter step n) (ls.headD .hole).toSl := runF_iter (id := pid) (vs := pvs) (hs := phs) (step := step) (start := fun J => start J (ls.headD .hole).toSl) step_eq (fun I => start_eq I ls) n
noncomputable def md (a0 : List (List Int)) : List Int := a0.flatten
def gd (a0 : List (List Int)) : Prop := a0.length ≤ 8 ∧ ∀ x ∈ a0, x.length ≤ 2 ^ 40
def acc (ls : List L) : List (List L) := (ls.headD .hole).toSl
noncomputable def R : (List (List L)) → Option (List (List L)) := RR gd md
theorem R_eq {a0} (h : gd a0) : R (a0.map (lRow iRow)) = some ((md a0).map iRow) := RR_eq (a := a0) h
noncomputable def con : Con := CN pats res acc R
theorem okF (a0 : List (List Int)) (hg : gd a0) : ∃ n, start (iter step n) (a0.map (lRow iRow)) = ret (((md a0).map iRow) : List (List L)) := by
  obtain ⟨hl, hx⟩ := hg
  have hs : ∀ i, i ≤ a0.length → ((a0.take i).map List.length).sum ≤ i * 2 ^ 40 := by
    intro i
    induction i with
    | zero => intro _; simp
    | succ i ih =>
      intro hi
      rw [List.take_succ_eq_append_getElem (by omega)]
      have h1 := hx a0[i] (List.getElem_mem _)
      have h2 := ih (by omega)
      simp only [List.map_append, List.map_cons, List.map_nil, List.sum_append, List.sum_cons, List.sum_nil]
      omega
  have hstep : ∀ i (h : i < a0.length), ((a0.take (i + 1)).map List.length).sum = ((a0.take i).map List.length).sum + a0[i].length := by
    intro i hi
    rw [List.take_succ_eq_append_getElem (by omega)]
    simp only [List.map_append, List.map_cons, List.map_nil, List.sum_append, List.sum_cons, List.sum_nil]
    omega
  have hf : ∀ i, (a0.take i).flatten.length = ((a0.take i).map List.length).sum := fun i => List.length_flatten
  have second : ∀ k i, i + k = a0.length → ∃ n, iter step n (Pt.p1 (a0.map (lRow iRow)) (a0.length : Int) (i : Int) ((a0.take i).flatten.map iRow)) = ret (a0.flatten.map iRow : List (List L)) := by
    intro k
    induction k with
    | zero =>
      intro i hi
      obtain rfl : i = a0.length := by omega
      refine ⟨1, ?_⟩
      show step (iter step 0) (Pt.p1 _ _ _ _) = _
      simp only [step]
      refine no_ret (by simp) ?_
      rw [List.take_length]
    | succ k ih =>
      intro i hi
      obtain ⟨n, hn⟩ := ih (i + 1) (by omega)
      refine ⟨n + 1, ?_⟩
      show step (iter step n) (Pt.p1 _ _ _ _) = _
      have hlt : i < a0.length := by omega
      have b1 := hs (i + 1) (by omega)
      have b2 := hstep i hlt
      simp only [step, List.length_map, toNat_nat, lAt_getD]
      refine yes_ret (by simp; omega) (yes_ret (by simp) (yes_ret (by simp; omega) (yes_ret (lim_t ?_) ?_)))
      · rw [getD_lt hlt, hf]; omega
      · rw [wrap_succ hlt (by simp only [maxLen]; omega), getD_lt hlt, ← List.map_append]
        have e : (a0.take i).flatten ++ a0[i] = (a0.take (i + 1)).flatten := by
          rw [List.take_succ_eq_append_getElem (by omega)]
          simp only [List.flatten_append, List.flatten_cons, List.flatten_nil, List.append_nil]
        rw [e]; exact hn
  have first : ∀ k i, i + k = a0.length → ∃ n, iter step n (Pt.p0 (a0.map (lRow iRow)) ((((a0.take i).map List.length).sum : Nat) : Int) (a0.map (lRow iRow)) (a0.length : Int) (i : Int)) = ret (a0.flatten.map iRow : List (List L)) := by
    intro k
    induction k with
    | zero =>
      intro i hi
      obtain rfl : i = a0.length := by omega
      obtain ⟨n, hn⟩ := second a0.length 0 (by omega)
      refine ⟨n + 1, ?_⟩
      show step (iter step n) (Pt.p0 _ _ _ _ _) = _
      have b1 := hs a0.length (by omega)
      simp only [step]
      refine no_ret (by simp) (call_to [] (slices_Grow_Sint_int.R_eq ⟨by omega, by omega⟩) ?_)
      simpa using hn
    | succ k ih =>
      intro i hi
      obtain ⟨n, hn⟩ := ih (i + 1) (by omega)
      refine ⟨n + 1, ?_⟩
      show step (iter step n) (Pt.p0 _ _ _ _ _) = _
      have hlt : i < a0.length := by omega
      have b1 := hs (i + 1) (by omega)
      have b2 := hstep i hlt
      simp only [step, List.length_map, toNat_nat, lAt_getD, getD_lt hlt]
      have e : IntKind.i64.wrap (((((a0.take i).map List.length).sum : Nat) : Int) + (a0[i].length : Int)) = ((((a0.take (i + 1)).map List.length).sum : Nat) : Int) := by
        rw [Go.IntWalk.i64_in _ (by omega)]; omega
      rw [e]
      refine yes_ret (by simp; omega) (yes_ret (by simp) (yes_ret (by simp; omega) (no_ret (by simp) ?_)))
      rw [wrap_succ hlt (by simp only [maxLen]; omega)]
      exact hn
  unfold md
  obtain ⟨n, hn⟩ := first a0.length 0 (by omega)
  refine ⟨n, ?_⟩
  unfold start
  simpa using hn
theorem valid_ : Valid Tryz.prog Ev 217 con := VV (run := fun n x => start (iter step n) x) mix tab_ok (.cons slices_Grow_Sint_int.valid_ .nil) Tryz.func217 (by kernel_rfl) run_eq (fun _ a _ _ hg => okF a hg)
theorem len (a0 : List (List Int)) : (md a0).length = (a0.map List.length).sum := by simp [md]
end slices_Concat_Sint_int
/-! impl.HeadInts -/
namespace impl_HeadInts
noncomputable def F (x0 : RHead) : Ans := (call (impl_KeysInts.R x0.fKeys) fun v1 => (call (impl_KeysInts.R x0.fHeirs) fun v2 => (call (impl_KeysInts.R x0.fJudge) fun v3 => (call (impl_bit.R x0.fFrozen) fun v4 => (call (slices_Concat_Sint_int.R [[L.sl [[L.int x0.fZone], [L.int x0.fEpoch], [L.int x0.fKind], [L.int x0.fTime], [L.int x0.fUntil], [L.int x0.fCount], [L.int x0.fRoot], [L.int x0.fPrev]]], [L.sl v1], [L.sl v2], [L.sl [[L.int x0.fWait]]], [L.sl v3], [L.sl [[L.int v4]]]]) fun v5 => ret (v5 : List (List L)))))))
def pats : List Pat := [.agg [.int .i64, .int .i64, .int .i64, .int .i64, .int .i64, .int .i64, .int .i64, .int .i64, .sl 3, .int .i64, .sl 3, .int .i64, .int .i64, .sl 3, .int .i64, .bool]]
def res : RP := .one (.fr 3)
noncomputable abbrev E : Env := { T := assoc Tab, G := conG [(218, impl_KeysInts.con), (219, impl_bit.con), (217, slices_Concat_Sint_int.con)], nt := 38 }
set_option maxRecDepth 100000
theorem run_eq (n : Nat) (ls : List L) : runF E (fun _ => []) Tryz.f194 res n (initS pats ls) = F (RHead.dec ls) := by kernel_rfl
noncomputable def md (a0 : MHead) : List Int := (slices_Concat_Sint_int.md [[a0.fZone, a0.fEpoch, a0.fKind, a0.fTime, a0.fUntil, a0.fCount, a0.fRoot, a0.fPrev], (impl_KeysInts.md a0.fKeys), (impl_KeysInts.md a0.fHeirs), [a0.fWait], (impl_KeysInts.md a0.fJudge), [(impl_bit.md a0.fFrozen)]])
def gd (a0 : MHead) : Prop := (MHead.Sm (2 ^ 21) a0)
def acc (ls : List L) : RHead := (RHead.dec ls)
noncomputable def R : RHead → Option (List (List L)) := RR gd md
theorem R_eq {a0} (h : gd a0) : R (MHead.r a0) = some ((md a0).map iRow) := RR_eq (a := a0) h
noncomputable def con : Con := CN pats res acc R
theorem okF (a0 : MHead) (hg : gd a0) : F (MHead.r a0) = ret (((md a0).map iRow) : List (List L)) := by
  unfold gd at hg
  have H0 := hg
  unfold F md
  try simp only [S0, MHead.rs]
  refine call_to ((impl_KeysInts.md a0.fKeys).map iRow) (impl_KeysInts.R_eq (a0 := a0.fKeys) H0.1) ?_
  try simp only [S0, MHead.rs]
  refine call_to ((impl_KeysInts.md a0.fHeirs).map iRow) (impl_KeysInts.R_eq (a0 := a0.fHeirs) H0.2.1) ?_
  try simp only [S0, MHead.rs]
  refine call_to ((impl_KeysInts.md a0.fJudge).map iRow) (impl_KeysInts.R_eq (a0 := a0.fJudge) H0.2.2) ?_
  try simp only [S0, MHead.rs]
  refine call_to (impl_bit.md a0.fFrozen) (impl_bit.R_eq (a0 := a0.fFrozen) trivial) ?_
  refine call_to ((slices_Concat_Sint_int.md [[a0.fZone, a0.fEpoch, a0.fKind, a0.fTime, a0.fUntil, a0.fCount, a0.fRoot, a0.fPrev], (impl_KeysInts.md a0.fKeys), (impl_KeysInts.md a0.fHeirs), [a0.fWait], (impl_KeysInts.md a0.fJudge), [(impl_bit.md a0.fFrozen)]]).map iRow) ?_ ?_
  · have R_ := slices_Concat_Sint_int.R_eq (a0 := [[a0.fZone, a0.fEpoch, a0.fKind, a0.fTime, a0.fUntil, a0.fCount, a0.fRoot, a0.fPrev], (impl_KeysInts.md a0.fKeys), (impl_KeysInts.md a0.fHeirs), [a0.fWait], (impl_KeysInts.md a0.fJudge), [(impl_bit.md a0.fFrozen)]]) ⟨(by simp), (by
        have := impl_KeysInts.len a0.fKeys
        have := (H0.1).1
        have := impl_KeysInts.len a0.fHeirs
        have := (H0.2.1).1
        have := impl_KeysInts.len a0.fJudge
        have := (H0.2.2).1
        intro x_ hx_
        simp only [List.mem_cons, List.not_mem_nil, or_false] at hx_
        rcases hx_ with hx_ | hx_ | hx_ | hx_ | hx_ | hx_
        all_goals (subst hx_; first | omega | (simp only [LN]; omega)))⟩
    first | exact R_ | (simp only [MP, S0, MHead.rs] at R_ ⊢; first | exact R_ | (rw [← R_]; rfl))
  try simp only [S0, MHead.rs]
  all_goals first | rfl | (simp only [S0, MHead.rs]; done) | (simp only [MP]; rfl) | (simp only [S0, MHead.rs, MP]; first | done | rfl)
theorem valid_ : Valid Tryz.prog Ev 194 con := VV (run := fun _ x => F x) mix tab_ok (.cons impl_KeysInts.valid_ (.cons impl_bit.valid_ (.cons slices_Concat_Sint_int.valid_ .nil))) Tryz.func194 (by kernel_rfl) run_eq (fun _ a _ _ hg => ⟨0, okF a hg⟩)
theorem len (a0 : MHead) : (md a0).length = 16 + a0.fKeys.fList.length + a0.fHeirs.fList.length + a0.fJudge.fList.length := by unfold md; simp [slices_Concat_Sint_int.md, impl_KeysInts.len]; omega
theorem br (a0 : MHead) : md a0 = spec_HeadInts.md a0 := by
  rw [spec_HeadInts.md_form]
  unfold md slices_Concat_Sint_int.md
  simp only [impl_KeysInts.br, impl_bit.md, List.flatten_cons, List.flatten_nil, List.cons_append, List.nil_append, List.append_nil]
end impl_HeadInts
/-! impl.KeyedHash -/
namespace impl_KeyedHash
noncomputable def F (x0 : Int) (x1 : List (List L)) : Ans := (call (slices_Concat_Sint_int.R [[L.sl [[L.int x0]]], [L.sl x1], [L.sl [[L.int x0]]]]) fun v1 => (call (impl_Hash.R v1) fun v2 => ret (v2 : Int)))
def pats : List Pat := [.rd (.int .i64), .rd (.sl 3)]
def res : RP := .one (.rd (.int .i64))
noncomputable abbrev E : Env := { T := assoc Tab, G := conG [(217, slices_Concat_Sint_int.con), (255, impl_Hash.con)], nt := 13 }
set_option maxRecDepth 100000
theorem run_eq (n : Nat) (ls : List L) : runF E (fun _ => []) Tryz.f335 res n (initS pats ls) = F (ls.headD .hole).toInt ((dropT 1 ls).headD .hole).toSl := by kernel_rfl
noncomputable def md (a0 : Int) (a1 : List Int) : Int := ((impl_Hash.md (slices_Concat_Sint_int.md [[a0], a1, [a0]])) : Int)
def gd (a0 : Int) (a1 : List Int) : Prop := (SmL (2 ^ 40) (fun y : Int => True) a1)
def acc (ls : List L) : Int × List (List L) := ((ls.headD .hole).toInt, ((dropT 1 ls).headD .hole).toSl)
noncomputable def R : (Int × List (List L)) → Option Int := RR (p2 gd) (u2 md)
theorem R_eq {a0} {a1} (h : gd a0 a1) : R (a0, (a1.map iRow)) = some (md a0 a1) := RR_eq (a := (a0, a1)) h
noncomputable def con : Con := CN pats res acc R
theorem okF (a0 : Int) (a1 : List Int) (hg : gd a0 a1) : F a0 (a1.map iRow) = ret ((md a0 a1) : Int) := by
  unfold gd at hg
  have H1 := hg
  unfold F md
  try simp only [S0]
  refine call_to ((slices_Concat_Sint_int.md [[a0], a1, [a0]]).map iRow) ?_ ?_
  · have R_ := slices_Concat_Sint_int.R_eq (a0 := [[a0], a1, [a0]]) ⟨(by simp), (by
        have := (H1).1
        intro x_ hx_
        simp only [List.mem_cons, List.not_mem_nil, or_false] at hx_
        rcases hx_ with hx_ | hx_ | hx_
        all_goals (subst hx_; first | omega | (simp only [LN]; omega)))⟩
    first | exact R_ | (simp only [MP, S0] at R_ ⊢; first | exact R_ | (rw [← R_]; rfl))
  try simp only [S0]
  refine call_to (impl_Hash.md (slices_Concat_Sint_int.md [[a0], a1, [a0]])) (impl_Hash.R_eq (a0 := (slices_Concat_Sint_int.md [[a0], a1, [a0]])) ⟨(by
      have := slices_Concat_Sint_int.len [[a0], a1, [a0]]
      try simp only [LN] at this
      have := (H1).1
      try simp (disch := omega) only [LN, wi]
      first | omega | (simp; done) | (simp; omega)), fun _ _ => trivial⟩) ?_
  all_goals first | rfl | (simp only [S0, MP]; first | done | rfl)
theorem valid_ : Valid Tryz.prog Ev 335 con := VV (run := fun _ x => F x.1 x.2) mix tab_ok (.cons slices_Concat_Sint_int.valid_ (.cons impl_Hash.valid_ .nil)) Tryz.func335 (by kernel_rfl) run_eq (fun _ a _ _ hg => ⟨0, okF a.1 a.2 hg⟩)
theorem br (a0 : Int) (a1 : List Int) : md a0 a1 = spec_KeyedHash.md a0 a1 := by
  unfold md spec_KeyedHash.md
  first
  | (simp only [impl_Hash.br]; done)
  | (simp only [impl_Hash.br]; rfl)
  | rfl
end impl_KeyedHash
/-! impl.TagOf -/
namespace impl_TagOf
noncomputable def F (x0 : Int) (x1 : List (List L)) : Ans := (bif (lim (((1 : Int) + (x1.length : Int)) * 8)) then (call (impl_KeyedHash.R (x0, ([[L.int 223]] ++ x1))) fun v1 => ret (v1 : Int)) else none)
def pats : List Pat := [.rd (.int .i64), .rd (.sl 3)]
def res : RP := .one (.rd (.int .i64))
noncomputable abbrev E : Env := { T := assoc Tab, G := conG [(335, impl_KeyedHash.con)], nt := 10 }
set_option maxRecDepth 100000
theorem run_eq (n : Nat) (ls : List L) : runF E (fun _ => []) Tryz.f334 res n (initS pats ls) = F (ls.headD .hole).toInt ((dropT 1 ls).headD .hole).toSl := by kernel_rfl
noncomputable def md (a0 : Int) (a1 : List Int) : Int := ((impl_KeyedHash.md a0 ([223] ++ a1)) : Int)
def gd (a0 : Int) (a1 : List Int) : Prop := (SmL (2 ^ 39) (fun y : Int => True) a1)
def acc (ls : List L) : Int × List (List L) := ((ls.headD .hole).toInt, ((dropT 1 ls).headD .hole).toSl)
noncomputable def R : (Int × List (List L)) → Option Int := RR (p2 gd) (u2 md)
theorem R_eq {a0} {a1} (h : gd a0 a1) : R (a0, (a1.map iRow)) = some (md a0 a1) := RR_eq (a := (a0, a1)) h
noncomputable def con : Con := CN pats res acc R
theorem okF (a0 : Int) (a1 : List Int) (hg : gd a0 a1) : F a0 (a1.map iRow) = ret ((md a0 a1) : Int) := by
  unfold gd at hg
  have H1 := hg
  unfold F md
  try simp only [S0]
  refine yes_ret (by
      have := (H1).1
      refine lim_t ?_
      try simp (disch := omega) only [LN, wi]
      first | omega | (simp; done) | (simp; omega)) ?_
  refine call_to (impl_KeyedHash.md a0 ([223] ++ a1)) ?_ ?_
  · have R_ := impl_KeyedHash.R_eq (a0 := a0) (a1 := ([223] ++ a1)) ⟨(by
        have := (H1).1
        try simp (disch := omega) only [LN, wi]
        first | omega | (simp; done) | (simp; omega)), fun _ _ => trivial⟩
    first | exact R_ | (simp only [MP, S0] at R_ ⊢; first | exact R_ | (rw [← R_]; rfl))
  all_goals first | rfl | (simp only [S0, MP]; first | done | rfl)
theorem valid_ : Valid Tryz.prog Ev 334 con := VV (run := fun _ x => F x.1 x.2) mix tab_ok (.cons impl_KeyedHash.valid_ .nil) Tryz.func334 (by kernel_rfl) run_eq (fun _ a _ _ hg => ⟨0, okF a.1 a.2 hg⟩)
theorem br (a0 : Int) (a1 : List Int) : md a0 a1 = spec_TagOf.md a0 a1 := by
  unfold md spec_TagOf.md
  first
  | (simp only [impl_KeyedHash.br]; done)
  | (simp only [impl_KeyedHash.br]; rfl)
  | rfl
end impl_TagOf
/-! impl.IsSigBy -/
namespace impl_IsSigBy
noncomputable def F (x0 : MSig) (x1 : List (List L)) : Ans := (call (impl_isKey.R x0.fKey) fun v1 => (bif v1 then (call (impl_TagOf.R (x0.fKey, x1)) fun v2 => ret ((x0.fTag == v2) : Bool)) else ret (false : Bool)))
def pats : List Pat := [.agg [.int .i64, .int .i64], .rd (.sl 3)]
def res : RP := .one (.rd (.bool))
noncomputable abbrev E : Env := { T := assoc Tab, G := conG [(303, impl_isKey.con), (334, impl_TagOf.con)], nt := 17 }
set_option maxRecDepth 100000
theorem run_eq (n : Nat) (ls : List L) : runF E (fun _ => []) Tryz.f323 res n (initS pats ls) = F (MSig.dec ls) ((dropT 2 ls).headD .hole).toSl := by kernel_rfl
noncomputable def md (a0 : MSig) (a1 : List Int) : Bool := (bif (impl_isKey.md a0.fKey) then ((a0.fTag == (impl_TagOf.md a0.fKey a1)) : Bool) else (false : Bool))
def gd (a0 : MSig) (a1 : List Int) : Prop := (SmL (2 ^ 38) (fun y : Int => True) a1)
def acc (ls : List L) : MSig × List (List L) := ((MSig.dec ls), ((dropT 2 ls).headD .hole).toSl)
noncomputable def R : (MSig × List (List L)) → Option Bool := RR (p2 gd) (u2 md)
theorem R_eq {a0} {a1} (h : gd a0 a1) : R (a0, (a1.map iRow)) = some (md a0 a1) := RR_eq (a := (a0, a1)) h
noncomputable def con : Con := CN pats res acc R
theorem okF (a0 : MSig) (a1 : List Int) (hg : gd a0 a1) : F a0 (a1.map iRow) = ret ((md a0 a1) : Bool) := by
  unfold gd at hg
  have H1 := hg
  unfold F md
  try simp only [S0]
  refine call_to (impl_isKey.md a0.fKey) (impl_isKey.R_eq (a0 := a0.fKey) trivial) ?_
  refine bif_out ret (fun c1 => ?_) (fun _ => rfl)
  refine call_to (impl_TagOf.md a0.fKey a1) (impl_TagOf.R_eq (a0 := a0.fKey) (a1 := a1) (H1.mono (by decide) (fun x hx => trivial))) ?_
  all_goals first | rfl | (simp only [S0, MP]; first | done | rfl)
theorem valid_ : Valid Tryz.prog Ev 323 con := VV (run := fun _ x => F x.1 x.2) mix tab_ok (.cons impl_isKey.valid_ (.cons impl_TagOf.valid_ .nil)) Tryz.func323 (by kernel_rfl) run_eq (fun _ a _ _ hg => ⟨0, okF a.1 a.2 hg⟩)
theorem br (a0 : MSig) (a1 : List Int) : md a0 a1 = spec_IsSigBy.md a0 a1 := by
  unfold md spec_IsSigBy.md
  first
  | (simp only [impl_TagOf.br]; done)
  | (simp only [impl_TagOf.br]; rfl)
  | rfl
end impl_IsSigBy
/-! impl.CountSigs$1 -/
namespace impl_CountSigs_1
noncomputable def F (x0 : MSig) (x1 : List L) (x2 : List L) : Ans := (bif (x0.fKey == (iDec x1)) then (call (impl_IsSigBy.R (x0, (lDec x2))) fun v1 => ret (v1 : Bool)) else ret (false : Bool))
def pats : List Pat := [.agg [.int .i64, .int .i64], .ptr [.int .i64], .ptr [.sl 3]]
def res : RP := .one (.rd (.bool))
noncomputable abbrev E : Env := { T := assoc Tab, G := conG [(323, impl_IsSigBy.con)], nt := 14 }
set_option maxRecDepth 100000
theorem run_eq (n : Nat) (ls : List L) : runF E (fun _ => []) Tryz.f322 res n (initS pats ls) = F (MSig.dec ls) (padL 1 (dropT 2 ls)) (padL 1 (dropT 3 ls)) := by kernel_rfl
noncomputable def md (a0 : MSig) (a1 : Int) (a2 : List Int) : Bool := (bif (a0.fKey == a1) then ((impl_IsSigBy.md a0 a2) : Bool) else (false : Bool))
def gd (a0 : MSig) (a1 : Int) (a2 : List Int) : Prop := (SmL (2 ^ 38) (fun y : Int => True) a2)
def acc (ls : List L) : MSig × Int × List (List L) := ((MSig.dec ls), (iDec (padL 1 (dropT 2 ls))), (lDec (padL 1 (dropT 3 ls))))
noncomputable def R : (MSig × Int × List (List L)) → Option Bool := RR (p3 gd) (u3 md)
theorem R_eq {a0} {a1} {a2} (h : gd a0 a1 a2) : R (a0, a1, (a2.map iRow)) = some (md a0 a1 a2) := RR_eq (a := (a0, a1, a2)) h
noncomputable def con : Con := CN pats res acc R
theorem okF (a0 : MSig) (a1 : Int) (a2 : List Int) (p1 : List L) (p2 : List L) (e1 : a1 = (iDec p1)) (e2 : (a2.map iRow) = (lDec p2)) (hg : gd a0 a1 a2) : F a0 p1 p2 = ret ((md a0 a1 a2) : Bool) := by
  unfold gd at hg
  have H2 := hg
  unfold F md
  try simp only [S0, ← e1, ← e2]
  refine bif_out ret (fun c1 => ?_) (fun _ => rfl)
  refine call_to (impl_IsSigBy.md a0 a2) (impl_IsSigBy.R_eq (a0 := a0) (a1 := a2) H2) ?_
  all_goals first | rfl | (simp only [S0, ← e1, ← e2, MP]; first | done | rfl)
theorem okV (ls : List L) (a : MSig × Int × List Int) (e : acc ls = Im.im a) (hg : (p3 gd) a) : ∃ n : Nat, F (MSig.dec ls) (padL 1 (dropT 2 ls)) (padL 1 (dropT 3 ls)) = ret (Im.im ((u3 md) a)) := by
  have e0 : a.1 = (MSig.dec ls) := (congrArg (fun x => x.1) e.symm)
  have hn := okF a.1 a.2.1 a.2.2 (padL 1 (dropT 2 ls)) (padL 1 (dropT 3 ls)) (congrArg (fun x => x.2.1) e.symm) (congrArg (fun x => x.2.2) e.symm) hg
  refine ⟨0, ?_⟩
  rw [← e0]
  exact hn
theorem valid_ : Valid Tryz.prog Ev 322 con := VP (accr := fun ls => ((MSig.dec ls), (padL 1 (dropT 2 ls)), (padL 1 (dropT 3 ls)))) (run := fun _ x => F x.1 x.2.1 x.2.2) mix tab_ok (.cons impl_IsSigBy.valid_ .nil) Tryz.func322 (by kernel_rfl) run_eq (fun ls a _ e hg => okV ls a e hg)
end impl_CountSigs_1
/-! slices.IndexFunc[[]impl.Sig,impl.Sig] -/
namespace slices_IndexFunc_Simpl_Sig_impl_Sig__impl_CountSigs_1
inductive Pt where
  | p0 (a : List (List L)) (b : List L) (c : List L) (d : Int) (e : Int)
def pid : Pt → Nat
  | .p0 .. => 2
def pvs : Pt → List V
  | .p0 a b c d e => [.sl none 184 a, .fn 322 [.cptr none [.int .i64] b 0, .cptr none [.sl 3] c 0], .int .i64 d, .int .i64 e]
def phs : Pt → List Root
  | .p0 a b c d e => []
noncomputable def step (J : Pt → Ans) : Pt → Ans
  | .p0 a b c d e => (bif (decide (e < d)) then (bif (decide ((0 : Int) ≤ e)) then (bif (decide (e < (a.length : Int))) then (call (impl_CountSigs_1.R ((MSig.at a (Int.toNat e)), (iDec b), (lDec c))) fun v1 => (bif v1 then ret (e : Int) else J (.p0 a b c d (IntKind.i64.wrap (e + 1))))) else none) else none) else ret ((-1) : Int))
noncomputable def start (J : Pt → Ans) (x0 : List (List L)) (x1 : List L) (x2 : List L) : Ans := J (.p0 x0 x1 x2 (x0.length : Int) 0)
def live : Nat → Live := fun i => match i with | 2 => [(0, none), (1, none), (7, none), (8, none)] | _ => []
def pats : List Pat := [.rd (.sl 184), .fn 322 [[.int .i64], [.sl 3]]]
def res : RP := .one (.rd (.int .i64))
noncomputable abbrev E : Env := { T := assoc Tab, G := conG [(322, impl_CountSigs_1.con)], nt := 19 }
set_option maxRecDepth 100000
theorem step_eq (I : Heads) (p : Pt) : enterC E live I (pid p) (bodyOf Tryz.f333) (stOf (live (pid p)) (pvs p) (phs p)) (doneK E Tryz.f333 res) = step (fun q => I (pid q) (pvs q) (phs q)) p := by
  cases p <;> kernel_rfl
theorem start_eq (I : Heads) (ls : List L) : runC E live I (bodyOf Tryz.f333) (initS pats ls) (doneK E Tryz.f333 res) = start (fun q => I (pid q) (pvs q) (phs q)) (ls.headD .hole).toSl (padL 1 (dropT 1 ls)) (padL 1 (dropT 2 ls)) := by kernel_rfl
theorem run_eq (n : Nat) (ls : List L) : runF E live Tryz.f333 res n (initS pats ls) = start (iter step n) (ls.headD .hole).toSl (padL 1 (dropT 1 ls)) (padL 1 (dropT 2 ls)) := runF_iter (id := pid) (vs := pvs) (hs := phs) (step := step) (start := fun J => start J (ls.headD .hole).toSl (padL 1 (dropT 1 ls)) (padL 1 (dropT 2 ls))) step_eq (fun I => start_eq I ls) n
noncomputable def md (a0 : List MSig) (a1 : Int) (a2 : List Int) : Int := (eachI (S := Unit) (β := Int) (fun (i1 : Nat) (y1 : MSig) (s3 : Unit) => (bif (impl_CountSigs_1.md y1 a1 a2) then (.inr ((i1 : Int) : Int)) else (.inl ()))) (fun (s3 : Unit) => ((-1) : Int)) 0 a0 ())
def gd (a0 : List MSig) (a1 : Int) (a2 : List Int) : Prop := (SmL (2 ^ 21) (fun y : MSig => MSig.Sm (2 ^ 21) y) a0) ∧ (SmL (2 ^ 38) (fun y : Int => True) a2)
def acc (ls : List L) : List (List L) × Int × List (List L) := ((ls.headD .hole).toSl, (iDec (padL 1 (dropT 1 ls))), (lDec (padL 1 (dropT 2 ls))))
noncomputable def R : (List (List L) × Int × List (List L)) → Option Int := RR (p3 gd) (u3 md)
theorem R_eq {a0} {a1} {a2} (h : gd a0 a1 a2) : R ((a0.map MSig.row), a1, (a2.map iRow)) = some (md a0 a1 a2) := RR_eq (a := (a0, a1, a2)) h
noncomputable def con : Con := CN pats res acc R
theorem okF (a0 : List MSig) (a1 : Int) (a2 : List Int) (p1 : List L) (p2 : List L) (e1 : a1 = (iDec p1)) (e2 : (a2.map iRow) = (lDec p2)) (hg : gd a0 a1 a2) : ∃ n, start (iter step n) (a0.map MSig.row) p1 p2 = ret ((md a0 a1 a2) : Int) := by
  unfold gd at hg
  obtain ⟨H0, H2⟩ := hg
  unfold start md
  try simp only [S0, MSig.rs, ← e1, ← e2]
  have Bh2 : a0.length ≤ maxLen := (by
      have := (H0).1
      try simp only [maxLen] at *
      omega)
  refine ex_eq (out := ret) (loopM_eachI (z := MSig.zero)) ?_
  refine ex_pt (p := Pt.p0 (a0.map MSig.row) p1 p2 (a0.length : Int) 0) (by first | rfl | (simp only [S0, MSig.rs, ← e1, ← e2, MP]; done) | (simp only [MP]; rfl)) ?_
  refine loopM_ok (pt := fun (i1 : Nat) (s3 : Unit) => Pt.p0 (a0.map MSig.row) p1 p2 (a0.length : Int) (i1 : Int)) (s := (() : Unit)) (out := ret) (fun _ _ => True) (fun J i1 s3 h2 hih2 => ?_) (fun s3 hih2 => ?_) trivial
  · simp only [step, S0, MSig.rs, ← e1, ← e2]
    have bb_ := Bh2
    simp only [maxLen] at bb_
    have := (H0).1
    refine Rnd.yes (by apply decide_eq_true; omega) ?_
    refine Rnd.yes zle_dec ?_
    refine Rnd.yes (lt_dec h2) ?_
    refine Rnd.call_to (impl_CountSigs_1.md (a0.getD i1 MSig.zero) a1 a2) (impl_CountSigs_1.R_eq (a0 := (a0.getD i1 MSig.zero)) (a1 := a1) (a2 := a2) H2) ?_
    refine Rnd.bif (fun c4 => ?_) (fun c4 => ?_)
    · refine Rnd.inr ?_
      all_goals first | rfl | (simp only [S0, MSig.rs, ← e1, ← e2, MP]; first | done | rfl)
    · refine Rnd.inl trivial ?_
      rw [wrap_succ h2 Bh2]
      all_goals first | rfl | (simp only [S0, MSig.rs, ← e1, ← e2, MP]; first | done | rfl)
  · simp only [step, S0, MSig.rs, ← e1, ← e2]
    have := (H0).1
    refine ex_no (by apply decide_eq_false; omega) ?_
    refine ⟨0, ?_⟩
    all_goals first | rfl | (simp only [S0, MSig.rs, ← e1, ← e2, MP]; first | done | rfl)
theorem okV (ls : List L) (a : List MSig × Int × List Int) (e : acc ls = Im.im a) (hg : (p3 gd) a) : ∃ n : Nat, start (iter step n) ((ls.headD .hole).toSl) (padL 1 (dropT 1 ls)) (padL 1 (dropT 2 ls)) = ret (Im.im ((u3 md) a)) := by
  have e0 : (a.1.map MSig.row) = (ls.headD .hole).toSl := (congrArg (fun x => x.1) e.symm)
  obtain ⟨n, hn⟩ := okF a.1 a.2.1 a.2.2 (padL 1 (dropT 1 ls)) (padL 1 (dropT 2 ls)) (congrArg (fun x => x.2.1) e.symm) (congrArg (fun x => x.2.2) e.symm) hg
  refine ⟨n, ?_⟩
  rw [← e0]
  exact hn
theorem valid_ : Valid Tryz.prog Ev 333 con := VP (accr := fun ls => ((ls.headD .hole).toSl, (padL 1 (dropT 1 ls)), (padL 1 (dropT 2 ls)))) (run := fun n x => start (iter step n) x.1 x.2.1 x.2.2) mix tab_ok (.cons impl_CountSigs_1.valid_ .nil) Tryz.func333 (by kernel_rfl) run_eq (fun ls a _ e hg => okV ls a e hg)
theorem fa (a0 : List MSig) (a1 : Int) (a2 : List Int) : -1 ≤ md a0 a1 a2 ∧ md a0 a1 a2 < (a0.length : Int) := by
  unfold md
  refine eachI_fa0 ?_ _ _
  all_goals
    intro i x s b h
    revert h
    simp only [Bool.cond_eq_ite]
    repeat' split
    all_goals (intro h; first | (cases h; rfl) | cases h)
theorem idx_eq (a0 : List MSig) (a1 : Int) (a2 : List Int) : md a0 a1 a2 = findI (fun y => impl_CountSigs_1.md y a1 a2) 0 a0 := by
  unfold md
  exact eachI_find
end slices_IndexFunc_Simpl_Sig_impl_Sig__impl_CountSigs_1
/-! slices.ContainsFunc[[]impl.Sig,impl.Sig] -/
namespace slices_ContainsFunc_Simpl_Sig_impl_Sig__impl_CountSigs_1
noncomputable def F (x0 : List (List L)) (x1 : List L) (x2 : List L) : Ans := (call (slices_IndexFunc_Simpl_Sig_impl_Sig__impl_CountSigs_1.R (x0, (iDec x1), (lDec x2))) fun v1 => ret ((decide (v1 ≥ 0)) : Bool))
def pats : List Pat := [.rd (.sl 184), .fn 322 [[.int .i64], [.sl 3]]]
def res : RP := .one (.rd (.bool))
noncomputable abbrev E : Env := { T := assoc Tab, G := conG [(333, slices_IndexFunc_Simpl_Sig_impl_Sig__impl_CountSigs_1.con)], nt := 9 }
set_option maxRecDepth 100000
theorem run_eq (n : Nat) (ls : List L) : runF E (fun _ => []) Tryz.f321 res n (initS pats ls) = F (ls.headD .hole).toSl (padL 1 (dropT 1 ls)) (padL 1 (dropT 2 ls)) := by kernel_rfl
noncomputable def md (a0 : List MSig) (a1 : Int) (a2 : List Int) : Bool := ((decide ((slices_IndexFunc_Simpl_Sig_impl_Sig__impl_CountSigs_1.md a0 a1 a2) ≥ 0)) : Bool)
def gd (a0 : List MSig) (a1 : Int) (a2 : List Int) : Prop := (SmL (2 ^ 21) (fun y : MSig => MSig.Sm (2 ^ 21) y) a0) ∧ (SmL (2 ^ 38) (fun y : Int => True) a2)
def acc (ls : List L) : List (List L) × Int × List (List L) := ((ls.headD .hole).toSl, (iDec (padL 1 (dropT 1 ls))), (lDec (padL 1 (dropT 2 ls))))
noncomputable def R : (List (List L) × Int × List (List L)) → Option Bool := RR (p3 gd) (u3 md)
theorem R_eq {a0} {a1} {a2} (h : gd a0 a1 a2) : R ((a0.map MSig.row), a1, (a2.map iRow)) = some (md a0 a1 a2) := RR_eq (a := (a0, a1, a2)) h
noncomputable def con : Con := CN pats res acc R
theorem okF (a0 : List MSig) (a1 : Int) (a2 : List Int) (p1 : List L) (p2 : List L) (e1 : a1 = (iDec p1)) (e2 : (a2.map iRow) = (lDec p2)) (hg : gd a0 a1 a2) : F (a0.map MSig.row) p1 p2 = ret ((md a0 a1 a2) : Bool) := by
  unfold gd at hg
  obtain ⟨H0, H2⟩ := hg
  unfold F md
  try simp only [S0, ← e1, ← e2]
  refine call_to (slices_IndexFunc_Simpl_Sig_impl_Sig__impl_CountSigs_1.md a0 a1 a2) (slices_IndexFunc_Simpl_Sig_impl_Sig__impl_CountSigs_1.R_eq (a0 := a0) (a1 := a1) (a2 := a2) ⟨H0, H2⟩) ?_
  have fv1_ := slices_IndexFunc_Simpl_Sig_impl_Sig__impl_CountSigs_1.fa a0 a1 a2
  all_goals first | rfl | (simp only [S0, ← e1, ← e2, MP]; first | done | rfl)
theorem okV (ls : List L) (a : List MSig × Int × List Int) (e : acc ls = Im.im a) (hg : (p3 gd) a) : ∃ n : Nat, F ((ls.headD .hole).toSl) (padL 1 (dropT 1 ls)) (padL 1 (dropT 2 ls)) = ret (Im.im ((u3 md) a)) := by
  have e0 : (a.1.map MSig.row) = (ls.headD .hole).toSl := (congrArg (fun x => x.1) e.symm)
  have hn := okF a.1 a.2.1 a.2.2 (padL 1 (dropT 1 ls)) (padL 1 (dropT 2 ls)) (congrArg (fun x => x.2.1) e.symm) (congrArg (fun x => x.2.2) e.symm) hg
  refine ⟨0, ?_⟩
  rw [← e0]
  exact hn
theorem valid_ : Valid Tryz.prog Ev 321 con := VP (accr := fun ls => ((ls.headD .hole).toSl, (padL 1 (dropT 1 ls)), (padL 1 (dropT 2 ls)))) (run := fun _ x => F x.1 x.2.1 x.2.2) mix tab_ok (.cons slices_IndexFunc_Simpl_Sig_impl_Sig__impl_CountSigs_1.valid_ .nil) Tryz.func321 (by kernel_rfl) run_eq (fun ls a _ e hg => okV ls a e hg)
theorem any_eq (a0 : List MSig) (a1 : Int) (a2 : List Int) : md a0 a1 a2 = a0.any (fun y => impl_CountSigs_1.md y a1 a2) := by
  unfold md
  rw [slices_IndexFunc_Simpl_Sig_impl_Sig__impl_CountSigs_1.idx_eq]
  exact findI_ge
end slices_ContainsFunc_Simpl_Sig_impl_Sig__impl_CountSigs_1
/-! impl.CountSigs -/
namespace impl_CountSigs
inductive Pt where
  | p0 (a : List (List L)) (b : Int) (c : List (List L)) (d : Int) (e : Int) (f : List (List L))
def pid : Pt → Nat
  | .p0 .. => 3
def pvs : Pt → List V
  | .p0 a b c d e f => [.sl none 184 a, .bptr 0 0, .int .i64 b, .sl none 3 c, .int .i64 d, .int .i64 e]
def phs : Pt → List Root
  | .p0 a b c d e f => [.box [.sl none 3 f]]
noncomputable def step (J : Pt → Ans) : Pt → Ans
  | .p0 a b c d e f => (bif (decide (e < d)) then (bif (decide ((0 : Int) ≤ e)) then (bif (decide (e < (c.length : Int))) then (call (slices_ContainsFunc_Simpl_Sig_impl_Sig__impl_CountSigs_1.R (a, (iAt c (Int.toNat e)), f)) fun v1 => (bif v1 then J (.p0 a (IntKind.i64.wrap (b + 1)) c d (IntKind.i64.wrap (e + 1)) f) else J (.p0 a b c d (IntKind.i64.wrap (e + 1)) f))) else none) else none) else ret (b : Int))
noncomputable def start (J : Pt → Ans) (x0 : RKeys) (x1 : List (List L)) (x2 : List (List L)) : Ans := J (.p0 x2 0 x0.fList (x0.fList.length : Int) 0 x1)
def live : Nat → Live := fun i => match i with | 3 => [(2, none), (4, none), (7, none), (11, none), (12, none), (13, none)] | _ => []
def pats : List Pat := [.agg [.sl 3, .int .i64], .rd (.sl 3), .rd (.sl 184)]
def res : RP := .one (.rd (.int .i64))
noncomputable abbrev E : Env := { T := assoc Tab, G := conG [(321, slices_ContainsFunc_Simpl_Sig_impl_Sig__impl_CountSigs_1.con)], nt := 24 }
set_option maxRecDepth 100000
theorem step_eq (I : Heads) (p : Pt) : enterC E live I (pid p) (bodyOf Tryz.f304) (stOf (live (pid p)) (pvs p) (phs p)) (doneK E Tryz.f304 res) = step (fun q => I (pid q) (pvs q) (phs q)) p := by
  cases p <;> kernel_rfl
theorem start_eq (I : Heads) (ls : List L) : runC E live I (bodyOf Tryz.f304) (initS pats ls) (doneK E Tryz.f304 res) = start (fun q => I (pid q) (pvs q) (phs q)) (RKeys.dec ls) ((dropT 2 ls).headD .hole).toSl ((dropT 3 ls).headD .hole).toSl := by kernel_rfl
theorem run_eq (n : Nat) (ls : List L) : runF E live Tryz.f304 res n (initS pats ls) = start (iter step n) (RKeys.dec ls) ((dropT 2 ls).headD .hole).toSl ((dropT 3 ls).headD .hole).toSl := runF_iter (id := pid) (vs := pvs) (hs := phs) (step := step) (start := fun J => start J (RKeys.dec ls) ((dropT 2 ls).headD .hole).toSl ((dropT 3 ls).headD .hole).toSl) step_eq (fun I => start_eq I ls) n
noncomputable def md (a0 : MKeys) (a1 : List Int) (a2 : List MSig) : Int := (eachM (S := Int) (β := Int) (fun (y1 : Int) (s3 : Int) => (bif (slices_ContainsFunc_Simpl_Sig_impl_Sig__impl_CountSigs_1.md a2 y1 a1) then (.inl (IntKind.i64.wrap (s3 + 1))) else (.inl s3))) (fun (s3 : Int) => (s3 : Int)) a0.fList 0)
def gd (a0 : MKeys) (a1 : List Int) (a2 : List MSig) : Prop := (MKeys.Sm (2 ^ 21) a0) ∧ (SmL (2 ^ 38) (fun y : Int => True) a1) ∧ (SmL (2 ^ 21) (fun y : MSig => MSig.Sm (2 ^ 21) y) a2)
def acc (ls : List L) : RKeys × List (List L) × List (List L) := ((RKeys.dec ls), ((dropT 2 ls).headD .hole).toSl, ((dropT 3 ls).headD .hole).toSl)
noncomputable def R : (RKeys × List (List L) × List (List L)) → Option Int := RR (p3 gd) (u3 md)
theorem R_eq {a0} {a1} {a2} (h : gd a0 a1 a2) : R ((MKeys.r a0), (a1.map iRow), (a2.map MSig.row)) = some (md a0 a1 a2) := RR_eq (a := (a0, a1, a2)) h
noncomputable def con : Con := CN pats res acc R
theorem okF (a0 : MKeys) (a1 : List Int) (a2 : List MSig) (hg : gd a0 a1 a2) : ∃ n, start (iter step n) (MKeys.r a0) (a1.map iRow) (a2.map MSig.row) = ret ((md a0 a1 a2) : Int) := by
  unfold gd at hg
  obtain ⟨H0, H1, H2⟩ := hg
  unfold start md
  try simp only [S0, MKeys.rs]
  have Bh2 : a0.fList.length ≤ maxLen := (by
      have := (H0).1
      try simp only [maxLen] at *
      omega)
  refine ex_eq (out := ret) (loopM_eachM (z := 0)) ?_
  refine ex_pt (p := Pt.p0 (a2.map MSig.row) 0 (a0.fList.map iRow) (a0.fList.length : Int) 0 (a1.map iRow)) (by first | rfl | (simp only [S0, MKeys.rs, MP]; done) | (simp only [MP]; rfl)) ?_
  refine loopM_ok (pt := fun (i1 : Nat) (s3 : Int) => Pt.p0 (a2.map MSig.row) s3 (a0.fList.map iRow) (a0.fList.length : Int) (i1 : Int) (a1.map iRow)) (s := (0 : Int)) (out := ret) (fun _ _ => True) (fun J i1 s3 h2 hih2 => ?_) (fun s3 hih2 => ?_) trivial
  · simp only [step, S0, MKeys.rs]
    have bb_ := Bh2
    simp only [maxLen] at bb_
    have := (H0).1
    refine Rnd.yes (by apply decide_eq_true; omega) ?_
    refine Rnd.yes zle_dec ?_
    refine Rnd.yes (lt_dec h2) ?_
    refine Rnd.call_to (slices_ContainsFunc_Simpl_Sig_impl_Sig__impl_CountSigs_1.md a2 (a0.fList.getD i1 0) a1) (slices_ContainsFunc_Simpl_Sig_impl_Sig__impl_CountSigs_1.R_eq (a0 := a2) (a1 := (a0.fList.getD i1 0)) (a2 := a1) ⟨H2, H1⟩) ?_
    refine Rnd.bif (fun c4 => ?_) (fun c4 => ?_)
    · refine Rnd.inl trivial ?_
      rw [wrap_succ h2 Bh2]
      all_goals first | rfl | (simp only [S0, MKeys.rs, MP]; first | done | rfl)
    · refine Rnd.inl trivial ?_
      rw [wrap_succ h2 Bh2]
      all_goals first | rfl | (simp only [S0, MKeys.rs, MP]; first | done | rfl)
  · simp only [step, S0, MKeys.rs]
    have := (H0).1
    refine ex_no (by apply decide_eq_false; omega) ?_
    refine ⟨0, ?_⟩
    all_goals first | rfl | (simp only [S0, MKeys.rs, MP]; first | done | rfl)
theorem valid_ : Valid Tryz.prog Ev 304 con := VV (run := fun n x => start (iter step n) x.1 x.2.1 x.2.2) mix tab_ok (.cons slices_ContainsFunc_Simpl_Sig_impl_Sig__impl_CountSigs_1.valid_ .nil) Tryz.func304 (by kernel_rfl) run_eq (fun _ a _ _ hg => okF a.1 a.2.1 a.2.2 hg)
theorem br (a0 : MKeys) (a1 : List Int) (a2 : List MSig) : md a0 a1 a2 = spec_CountSigs.md a0 a1 a2 := by
  unfold md spec_CountSigs.md
  refine eachM_congr (fun x _ s => ?_) (fun s => rfl)
  rw [slices_ContainsFunc_Simpl_Sig_impl_Sig__impl_CountSigs_1.any_eq]
  refine Eq.trans ?_ (eachM_any' (β := Int ⊕ Int) (p := fun y => impl_CountSigs_1.md y x a1) (b := Sum.inl (IntKind.i64.wrap (s + 1))) (c := Sum.inl s) (fun y s' => ?_) a2 ()).symm
  · cases a2.any (fun y => impl_CountSigs_1.md y x a1) <;> rfl
  · unfold impl_CountSigs_1.md
    simp only [impl_IsSigBy.br]
    cases y.fKey == x <;> cases spec_IsSigBy.md y a1 <;> rfl
end impl_CountSigs
/-! impl.IsSigned -/
namespace impl_IsSigned
noncomputable def F (x0 : RKeys) (x1 : List (List L)) (x2 : List (List L)) : Ans := (call (impl_IsKeys.R x0) fun v1 => (bif v1 then (call (impl_CountSigs.R (x0, x1, x2)) fun v2 => ret ((decide (v2 ≥ x0.fNeed)) : Bool)) else ret (false : Bool)))
def pats : List Pat := [.agg [.sl 3, .int .i64], .rd (.sl 3), .rd (.sl 184)]
def res : RP := .one (.rd (.bool))
noncomputable abbrev E : Env := { T := assoc Tab, G := conG [(276, impl_IsKeys.con), (304, impl_CountSigs.con)], nt := 18 }
set_option maxRecDepth 100000
theorem run_eq (n : Nat) (ls : List L) : runF E (fun _ => []) Tryz.f280 res n (initS pats ls) = F (RKeys.dec ls) ((dropT 2 ls).headD .hole).toSl ((dropT 3 ls).headD .hole).toSl := by kernel_rfl
noncomputable def md (a0 : MKeys) (a1 : List Int) (a2 : List MSig) : Bool := (bif (impl_IsKeys.md a0) then ((decide ((impl_CountSigs.md a0 a1 a2) ≥ a0.fNeed)) : Bool) else (false : Bool))
def gd (a0 : MKeys) (a1 : List Int) (a2 : List MSig) : Prop := (MKeys.Sm (2 ^ 21) a0) ∧ (SmL (2 ^ 38) (fun y : Int => True) a1) ∧ (SmL (2 ^ 21) (fun y : MSig => MSig.Sm (2 ^ 21) y) a2)
def acc (ls : List L) : RKeys × List (List L) × List (List L) := ((RKeys.dec ls), ((dropT 2 ls).headD .hole).toSl, ((dropT 3 ls).headD .hole).toSl)
noncomputable def R : (RKeys × List (List L) × List (List L)) → Option Bool := RR (p3 gd) (u3 md)
theorem R_eq {a0} {a1} {a2} (h : gd a0 a1 a2) : R ((MKeys.r a0), (a1.map iRow), (a2.map MSig.row)) = some (md a0 a1 a2) := RR_eq (a := (a0, a1, a2)) h
noncomputable def con : Con := CN pats res acc R
theorem okF (a0 : MKeys) (a1 : List Int) (a2 : List MSig) (hg : gd a0 a1 a2) : F (MKeys.r a0) (a1.map iRow) (a2.map MSig.row) = ret ((md a0 a1 a2) : Bool) := by
  unfold gd at hg
  obtain ⟨H0, H1, H2⟩ := hg
  unfold F md
  try simp only [S0, MKeys.rs]
  refine call_to (impl_IsKeys.md a0) (impl_IsKeys.R_eq (a0 := a0) H0) ?_
  refine bif_out ret (fun c1 => ?_) (fun _ => rfl)
  refine call_to (impl_CountSigs.md a0 a1 a2) (impl_CountSigs.R_eq (a0 := a0) (a1 := a1) (a2 := a2) ⟨H0, H1, H2⟩) ?_
  all_goals first | rfl | (simp only [S0, MKeys.rs, MP]; first | done | rfl)
theorem valid_ : Valid Tryz.prog Ev 280 con := VV (run := fun _ x => F x.1 x.2.1 x.2.2) mix tab_ok (.cons impl_IsKeys.valid_ (.cons impl_CountSigs.valid_ .nil)) Tryz.func280 (by kernel_rfl) run_eq (fun _ a _ _ hg => ⟨0, okF a.1 a.2.1 a.2.2 hg⟩)
theorem br (a0 : MKeys) (a1 : List Int) (a2 : List MSig) : md a0 a1 a2 = spec_IsSigned.md a0 a1 a2 := by
  unfold md spec_IsSigned.md
  first
  | (simp only [impl_IsKeys.br, impl_CountSigs.br]; done)
  | (simp only [impl_IsKeys.br, impl_CountSigs.br]; rfl)
  | rfl
end impl_IsSigned
/-! (impl.Signed).isSignedBy -/
namespace impl_Signed_isSignedBy
noncomputable def F (x0 : RSigned) (x1 : RKeys) : Ans := (call (impl_HeadInts.R x0.fHead) fun v1 => (call (impl_IsSigned.R (x1, v1, x0.fSigs)) fun v2 => ret (v2 : Bool)))
def pats : List Pat := [.agg [.int .i64, .int .i64, .int .i64, .int .i64, .int .i64, .int .i64, .int .i64, .int .i64, .sl 3, .int .i64, .sl 3, .int .i64, .int .i64, .sl 3, .int .i64, .bool, .sl 184], .agg [.sl 3, .int .i64]]
def res : RP := .one (.rd (.bool))
noncomputable abbrev E : Env := { T := assoc Tab, G := conG [(194, impl_HeadInts.con), (280, impl_IsSigned.con)], nt := 12 }
set_option maxRecDepth 100000
theorem run_eq (n : Nat) (ls : List L) : runF E (fun _ => []) Tryz.f244 res n (initS pats ls) = F (RSigned.dec ls) (RKeys.dec (dropT 17 ls)) := by kernel_rfl
noncomputable def md (a0 : MSigned) (a1 : MKeys) : Bool := ((impl_IsSigned.md a1 (impl_HeadInts.md a0.fHead) a0.fSigs) : Bool)
def gd (a0 : MSigned) (a1 : MKeys) : Prop := (MSigned.Sm (2 ^ 21) a0) ∧ (MKeys.Sm (2 ^ 21) a1)
def acc (ls : List L) : RSigned × RKeys := ((RSigned.dec ls), (RKeys.dec (dropT 17 ls)))
noncomputable def R : (RSigned × RKeys) → Option Bool := RR (p2 gd) (u2 md)
theorem R_eq {a0} {a1} (h : gd a0 a1) : R ((MSigned.r a0), (MKeys.r a1)) = some (md a0 a1) := RR_eq (a := (a0, a1)) h
noncomputable def con : Con := CN pats res acc R
theorem okF (a0 : MSigned) (a1 : MKeys) (hg : gd a0 a1) : F (MSigned.r a0) (MKeys.r a1) = ret ((md a0 a1) : Bool) := by
  unfold gd at hg
  obtain ⟨H0, H1⟩ := hg
  unfold F md
  try simp only [S0, MSigned.rs]
  refine call_to ((impl_HeadInts.md a0.fHead).map iRow) (impl_HeadInts.R_eq (a0 := a0.fHead) H0.1) ?_
  try simp only [S0, MSigned.rs]
  refine call_to (impl_IsSigned.md a1 (impl_HeadInts.md a0.fHead) a0.fSigs) (impl_IsSigned.R_eq (a0 := a1) (a1 := (impl_HeadInts.md a0.fHead)) (a2 := a0.fSigs) ⟨H1, ⟨(by
      have := impl_HeadInts.len a0.fHead
      have := (H0.1.1).1
      have := (H0.1.2.1).1
      have := (H0.1.2.2).1
      try simp (disch := omega) only [LN, wi]
      first | omega | (simp; done) | (simp; omega)), fun _ _ => trivial⟩, H0.2⟩) ?_
  all_goals first | rfl | (simp only [S0, MSigned.rs, MP]; first | done | rfl)
theorem valid_ : Valid Tryz.prog Ev 244 con := VV (run := fun _ x => F x.1 x.2) mix tab_ok (.cons impl_HeadInts.valid_ (.cons impl_IsSigned.valid_ .nil)) Tryz.func244 (by kernel_rfl) run_eq (fun _ a _ _ hg => ⟨0, okF a.1 a.2 hg⟩)
end impl_Signed_isSignedBy
/-! impl.IsFirst -/
namespace impl_IsFirst
noncomputable def F (x0 : RSigned) : Ans := (call (impl_IsHead.R x0.fHead) fun v1 => (bif v1 then (bif (x0.fHead.fEpoch == 0) then (bif (x0.fHead.fKind == 1) then (bif (!x0.fHead.fFrozen) then (call (impl_ZoneOf.R (x0.fHead.fKeys, x0.fHead.fPrev)) fun v2 => (bif (x0.fHead.fZone == v2) then (call (impl_Signed_isSignedBy.R (x0, x0.fHead.fKeys)) fun v3 => ret (v3 : Bool)) else ret (false : Bool))) else ret (false : Bool)) else ret (false : Bool)) else ret (false : Bool)) else ret (false : Bool)))
def pats : List Pat := [.agg [.int .i64, .int .i64, .int .i64, .int .i64, .int .i64, .int .i64, .int .i64, .int .i64, .sl 3, .int .i64, .sl 3, .int .i64, .int .i64, .sl 3, .int .i64, .bool, .sl 184]]
def res : RP := .one (.rd (.bool))
noncomputable abbrev E : Env := { T := assoc Tab, G := conG [(242, impl_IsHead.con), (243, impl_ZoneOf.con), (244, impl_Signed_isSignedBy.con)], nt := 39 }
set_option maxRecDepth 100000
theorem run_eq (n : Nat) (ls : List L) : runF E (fun _ => []) Tryz.f214 res n (initS pats ls) = F (RSigned.dec ls) := by kernel_rfl
noncomputable def md (a0 : MSigned) : Bool := (bif (impl_IsHead.md a0.fHead) then (bif (a0.fHead.fEpoch == 0) then (bif (a0.fHead.fKind == 1) then (bif (!a0.fHead.fFrozen) then (bif (a0.fHead.fZone == (impl_ZoneOf.md a0.fHead.fKeys a0.fHead.fPrev)) then ((impl_Signed_isSignedBy.md a0 a0.fHead.fKeys) : Bool) else (false : Bool)) else (false : Bool)) else (false : Bool)) else (false : Bool)) else (false : Bool))
def gd (a0 : MSigned) : Prop := (MSigned.Sm (2 ^ 21) a0)
def acc (ls : List L) : RSigned := (RSigned.dec ls)
noncomputable def R : RSigned → Option Bool := RR gd md
theorem R_eq {a0} (h : gd a0) : R (MSigned.r a0) = some (md a0) := RR_eq (a := a0) h
noncomputable def con : Con := CN pats res acc R
theorem okF (a0 : MSigned) (hg : gd a0) : F (MSigned.r a0) = ret ((md a0) : Bool) := by
  unfold gd at hg
  have H0 := hg
  unfold F md
  try simp only [S0, MHead.rs, MSigned.rs]
  refine call_to (impl_IsHead.md a0.fHead) (impl_IsHead.R_eq (a0 := a0.fHead) H0.1) ?_
  refine bif_out ret (fun c1 => ?_) (fun _ => rfl)
  refine bif_out ret (fun c2 => ?_) (fun _ => rfl)
  refine bif_out ret (fun c3 => ?_) (fun _ => rfl)
  refine bif_out ret (fun c4 => ?_) (fun _ => rfl)
  refine call_to (impl_ZoneOf.md a0.fHead.fKeys a0.fHead.fPrev) (impl_ZoneOf.R_eq (a0 := a0.fHead.fKeys) (a1 := a0.fHead.fPrev) H0.1.1) ?_
  refine bif_out ret (fun c5 => ?_) (fun _ => rfl)
  refine call_to (impl_Signed_isSignedBy.md a0 a0.fHead.fKeys) (impl_Signed_isSignedBy.R_eq (a0 := a0) (a1 := a0.fHead.fKeys) ⟨H0, H0.1.1⟩) ?_
  all_goals first | rfl | (simp only [S0, MHead.rs, MSigned.rs, MP]; first | done | rfl)
theorem valid_ : Valid Tryz.prog Ev 214 con := VV (run := fun _ x => F x) mix tab_ok (.cons impl_IsHead.valid_ (.cons impl_ZoneOf.valid_ (.cons impl_Signed_isSignedBy.valid_ .nil))) Tryz.func214 (by kernel_rfl) run_eq (fun _ a _ _ hg => ⟨0, okF a hg⟩)
theorem br (a0 : MSigned) : md a0 = spec_IsFirst.md a0 := by
  unfold md spec_IsFirst.md
  simp only [impl_Signed_isSignedBy.md, impl_IsSigned.br, impl_HeadInts.br, impl_IsHead.br, impl_ZoneOf.br]
end impl_IsFirst
/-! impl.HeadDigest -/
namespace impl_HeadDigest
noncomputable def F (x0 : RHead) : Ans := (call (impl_HeadInts.R x0) fun v1 => (bif (lim (((1 : Int) + (v1.length : Int)) * 8)) then (call (impl_Hash.R ([[L.int 233]] ++ v1)) fun v2 => ret (v2 : Int)) else none))
def pats : List Pat := [.agg [.int .i64, .int .i64, .int .i64, .int .i64, .int .i64, .int .i64, .int .i64, .int .i64, .sl 3, .int .i64, .sl 3, .int .i64, .int .i64, .sl 3, .int .i64, .bool]]
def res : RP := .one (.rd (.int .i64))
noncomputable abbrev E : Env := { T := assoc Tab, G := conG [(194, impl_HeadInts.con), (255, impl_Hash.con)], nt := 8 }
set_option maxRecDepth 100000
theorem run_eq (n : Nat) (ls : List L) : runF E (fun _ => []) Tryz.f305 res n (initS pats ls) = F (RHead.dec ls) := by kernel_rfl
noncomputable def md (a0 : MHead) : Int := ((impl_Hash.md ([233] ++ (impl_HeadInts.md a0))) : Int)
def gd (a0 : MHead) : Prop := (MHead.Sm (2 ^ 21) a0)
def acc (ls : List L) : RHead := (RHead.dec ls)
noncomputable def R : RHead → Option Int := RR gd md
theorem R_eq {a0} (h : gd a0) : R (MHead.r a0) = some (md a0) := RR_eq (a := a0) h
noncomputable def con : Con := CN pats res acc R
theorem okF (a0 : MHead) (hg : gd a0) : F (MHead.r a0) = ret ((md a0) : Int) := by
  unfold gd at hg
  have H0 := hg
  unfold F md
  try simp only [S0]
  refine call_to ((impl_HeadInts.md a0).map iRow) (impl_HeadInts.R_eq (a0 := a0) H0) ?_
  try simp only [S0]
  refine yes_ret (by
      have := impl_HeadInts.len a0
      have := (H0.1).1
      have := (H0.2.1).1
      have := (H0.2.2).1
      refine lim_t ?_
      try simp (disch := omega) only [LN, wi]
      first | omega | (simp; done) | (simp; omega)) ?_
  refine call_to (impl_Hash.md ([233] ++ (impl_HeadInts.md a0))) ?_ ?_
  · have R_ := impl_Hash.R_eq (a0 := ([233] ++ (impl_HeadInts.md a0))) ⟨(by
        have := impl_HeadInts.len a0
        have := (H0.1).1
        have := (H0.2.1).1
        have := (H0.2.2).1
        try simp (disch := omega) only [LN, wi]
        first | omega | (simp; done) | (simp; omega)), fun _ _ => trivial⟩
    first | exact R_ | (simp only [MP, S0] at R_ ⊢; first | exact R_ | (rw [← R_]; rfl))
  all_goals first | rfl | (simp only [S0, MP]; first | done | rfl)
theorem valid_ : Valid Tryz.prog Ev 305 con := VV (run := fun _ x => F x) mix tab_ok (.cons impl_HeadInts.valid_ (.cons impl_Hash.valid_ .nil)) Tryz.func305 (by kernel_rfl) run_eq (fun _ a _ _ hg => ⟨0, okF a hg⟩)
theorem br (a0 : MHead) : md a0 = spec_HeadDigest.md a0 := by
  unfold md spec_HeadDigest.md
  first
  | (simp only [impl_HeadInts.br, impl_Hash.br]; done)
  | (simp only [impl_HeadInts.br, impl_Hash.br]; rfl)
  | rfl
end impl_HeadDigest
/-! impl.isNext -/
namespace impl_isNext
noncomputable def F (x0 : RHead) (x1 : RHead) : Ans := (bif (x1.fZone == x0.fZone) then (bif (x1.fEpoch == (IntKind.i64.wrap (x0.fEpoch + 1))) then (call (impl_HeadDigest.R x0) fun v1 => (bif (x1.fPrev == v1) then ret ((decide (x1.fTime ≥ x0.fTime)) : Bool) else ret (false : Bool))) else ret (false : Bool)) else ret (false : Bool))
def pats : List Pat := [.agg [.int .i64, .int .i64, .int .i64, .int .i64, .int .i64, .int .i64, .int .i64, .int .i64, .sl 3, .int .i64, .sl 3, .int .i64, .int .i64, .sl 3, .int .i64, .bool], .agg [.int .i64, .int .i64, .int .i64, .int .i64, .int .i64, .int .i64, .int .i64, .int .i64, .sl 3, .int .i64, .sl 3, .int .i64, .int .i64, .sl 3, .int .i64, .bool]]
def res : RP := .one (.rd (.bool))
noncomputable abbrev E : Env := { T := assoc Tab, G := conG [(305, impl_HeadDigest.con)], nt := 32 }
set_option maxRecDepth 100000
theorem run_eq (n : Nat) (ls : List L) : runF E (fun _ => []) Tryz.f281 res n (initS pats ls) = F (RHead.dec ls) (RHead.dec (dropT 16 ls)) := by kernel_rfl
noncomputable def md (a0 : MHead) (a1 : MHead) : Bool := (bif (a1.fZone == a0.fZone) then (bif (a1.fEpoch == (IntKind.i64.wrap (a0.fEpoch + 1))) then (bif (a1.fPrev == (impl_HeadDigest.md a0)) then ((decide (a1.fTime ≥ a0.fTime)) : Bool) else (false : Bool)) else (false : Bool)) else (false : Bool))
def gd (a0 : MHead) (a1 : MHead) : Prop := (MHead.Sm (2 ^ 21) a0)
def acc (ls : List L) : RHead × RHead := ((RHead.dec ls), (RHead.dec (dropT 16 ls)))
noncomputable def R : (RHead × RHead) → Option Bool := RR (p2 gd) (u2 md)
theorem R_eq {a0} {a1} (h : gd a0 a1) : R ((MHead.r a0), (MHead.r a1)) = some (md a0 a1) := RR_eq (a := (a0, a1)) h
noncomputable def con : Con := CN pats res acc R
theorem okF (a0 : MHead) (a1 : MHead) (hg : gd a0 a1) : F (MHead.r a0) (MHead.r a1) = ret ((md a0 a1) : Bool) := by
  unfold gd at hg
  have H0 := hg
  unfold F md
  try simp only [S0, MHead.rs]
  refine bif_out ret (fun c1 => ?_) (fun _ => rfl)
  refine bif_out ret (fun c2 => ?_) (fun _ => rfl)
  refine call_to (impl_HeadDigest.md a0) (impl_HeadDigest.R_eq (a0 := a0) H0) ?_
  refine bif_out ret (fun c3 => ?_) (fun _ => rfl)
  all_goals first | rfl | (simp only [S0, MHead.rs, MP]; first | done | rfl)
theorem valid_ : Valid Tryz.prog Ev 281 con := VV (run := fun _ x => F x.1 x.2) mix tab_ok (.cons impl_HeadDigest.valid_ .nil) Tryz.func281 (by kernel_rfl) run_eq (fun _ a _ _ hg => ⟨0, okF a.1 a.2 hg⟩)
end impl_isNext
/-! impl.ownerCode -/
namespace impl_ownerCode
noncomputable def F (x0 : RHead) (x1 : RSigned) : Ans := (bif x0.fFrozen then ret (4 : Int) else (bif x1.fHead.fFrozen then ret (6 : Int) else (call (impl_Signed_isSignedBy.R (x1, x0.fKeys)) fun v1 => (bif (!v1) then ret (7 : Int) else ret (1 : Int)))))
def pats : List Pat := [.agg [.int .i64, .int .i64, .int .i64, .int .i64, .int .i64, .int .i64, .int .i64, .int .i64, .sl 3, .int .i64, .sl 3, .int .i64, .int .i64, .sl 3, .int .i64, .bool], .agg [.int .i64, .int .i64, .int .i64, .int .i64, .int .i64, .int .i64, .int .i64, .int .i64, .sl 3, .int .i64, .sl 3, .int .i64, .int .i64, .sl 3, .int .i64, .bool, .sl 184]]
def res : RP := .one (.rd (.int .i64))
noncomputable abbrev E : Env := { T := assoc Tab, G := conG [(244, impl_Signed_isSignedBy.con)], nt := 18 }
set_option maxRecDepth 100000
theorem run_eq (n : Nat) (ls : List L) : runF E (fun _ => []) Tryz.f282 res n (initS pats ls) = F (RHead.dec ls) (RSigned.dec (dropT 16 ls)) := by kernel_rfl
noncomputable def md (a0 : MHead) (a1 : MSigned) : Int := (bif a0.fFrozen then (4 : Int) else (bif a1.fHead.fFrozen then (6 : Int) else (bif (!(impl_Signed_isSignedBy.md a1 a0.fKeys)) then (7 : Int) else (1 : Int))))
def gd (a0 : MHead) (a1 : MSigned) : Prop := (MHead.Sm (2 ^ 21) a0) ∧ (MSigned.Sm (2 ^ 21) a1)
def acc (ls : List L) : RHead × RSigned := ((RHead.dec ls), (RSigned.dec (dropT 16 ls)))
noncomputable def R : (RHead × RSigned) → Option Int := RR (p2 gd) (u2 md)
theorem R_eq {a0} {a1} (h : gd a0 a1) : R ((MHead.r a0), (MSigned.r a1)) = some (md a0 a1) := RR_eq (a := (a0, a1)) h
noncomputable def con : Con := CN pats res acc R
theorem okF (a0 : MHead) (a1 : MSigned) (hg : gd a0 a1) : F (MHead.r a0) (MSigned.r a1) = ret ((md a0 a1) : Int) := by
  unfold gd at hg
  obtain ⟨H0, H1⟩ := hg
  unfold F md
  try simp only [S0, MHead.rs, MSigned.rs]
  refine bif_out ret (fun _ => rfl) (fun c1 => ?_)
  refine bif_out ret (fun _ => rfl) (fun c2 => ?_)
  refine call_to (impl_Signed_isSignedBy.md a1 a0.fKeys) (impl_Signed_isSignedBy.R_eq (a0 := a1) (a1 := a0.fKeys) ⟨H1, H0.1⟩) ?_
  refine bif_out ret (fun _ => rfl) (fun _ => rfl)
theorem valid_ : Valid Tryz.prog Ev 282 con := VV (run := fun _ x => F x.1 x.2) mix tab_ok (.cons impl_Signed_isSignedBy.valid_ .nil) Tryz.func282 (by kernel_rfl) run_eq (fun _ a _ _ hg => ⟨0, okF a.1 a.2 hg⟩)
end impl_ownerCode
/-! slices.Equal[[]int,int] -/
namespace slices_Equal_Sint_int
inductive Pt where
  | p0 (a : List (List L)) (b : List (List L)) (c : Int) (d : Int)
def pid : Pt → Nat
  | .p0 .. => 4
def pvs : Pt → List V
  | .p0 a b c d => [.sl none 3 a, .sl none 3 b, .int .i64 c, .int .i64 d]
def phs : Pt → List Root
  | .p0 a b c d => []
noncomputable def step (J : Pt → Ans) : Pt → Ans
  | .p0 a b c d => (bif (decide (d < c)) then (bif (decide ((0 : Int) ≤ d)) then (bif (decide (d < (a.length : Int))) then (bif (decide ((0 : Int) ≤ d)) then (bif (decide (d < (b.length : Int))) then (bif ((iAt a (Int.toNat d)) != (iAt b (Int.toNat d))) then ret (false : Bool) else J (.p0 a b c (IntKind.i64.wrap (d + 1)))) else none) else none) else none) else none) else ret (true : Bool))
noncomputable def start (J : Pt → Ans) (x0 : List (List L)) (x1 : List (List L)) : Ans := (bif ((x0.length : Int) != (x1.length : Int)) then ret (false : Bool) else J (.p0 x0 x1 (x0.length : Int) 0))
def live : Nat → Live := fun i => match i with | 4 => [(0, none), (1, none), (12, none), (13, none)] | _ => []
def pats : List Pat := [.rd (.sl 3), .rd (.sl 3)]
def res : RP := .one (.rd (.bool))
noncomputable abbrev E : Env := { T := assoc Tab, G := conG [], nt := 26 }
set_option maxRecDepth 100000
theorem step_eq (I : Heads) (p : Pt) : enterC E live I (pid p) (bodyOf Tryz.f193) (stOf (live (pid p)) (pvs p) (phs p)) (doneK E Tryz.f193 res) = step (fun q => I (pid q) (pvs q) (phs q)) p := by
  cases p <;> kernel_rfl
theorem start_eq (I : Heads) (ls : List L) : runC E live I (bodyOf Tryz.f193) (initS pats ls) (doneK E Tryz.f193 res) = start (fun q => I (pid q) (pvs q) (phs q)) (ls.headD .hole).toSl ((dropT 1 ls).headD .hole).toSl := by kernel_rfl
theorem run_eq (n : Nat) (ls : List L) : runF E live Tryz.f193 res n (initS pats ls) = start (iter step n) (ls.headD .hole).toSl ((dropT 1 ls).headD .hole).toSl := runF_iter (id := pid) (vs := pvs) (hs := phs) (step := step) (start := fun J => start J (ls.headD .hole).toSl ((dropT 1 ls).headD .hole).toSl) step_eq (fun I => start_eq I ls) n
noncomputable def md (a0 : List Int) (a1 : List Int) : Bool := (bif ((a0.length : Int) != (a1.length : Int)) then (false : Bool) else (loopM (S := Unit) (β := Bool) (fun (i2 : Nat) (s4 : Unit) => (bif ((a0.getD i2 0) != (a1.getD i2 0)) then (.inr (false : Bool)) else (.inl ()))) (fun (s4 : Unit) => (true : Bool)) a0.length 0 ()))
def gd (a0 : List Int) (a1 : List Int) : Prop := (SmL (2 ^ 38) (fun y : Int => True) a0) ∧ (SmL (2 ^ 38) (fun y : Int => True) a1)
def acc (ls : List L) : List (List L) × List (List L) := ((ls.headD .hole).toSl, ((dropT 1 ls).headD .hole).toSl)
noncomputable def R : (List (List L) × List (List L)) → Option Bool := RR (p2 gd) (u2 md)
theorem R_eq {a0} {a1} (h : gd a0 a1) : R ((a0.map iRow), (a1.map iRow)) = some (md a0 a1) := RR_eq (a := (a0, a1)) h
noncomputable def con : Con := CN pats res acc R
theorem okF (a0 : List Int) (a1 : List Int) (hg : gd a0 a1) : ∃ n, start (iter step n) (a0.map iRow) (a1.map iRow) = ret ((md a0 a1) : Bool) := by
  unfold gd at hg
  obtain ⟨H0, H1⟩ := hg
  unfold start md
  try simp only [S0]
  refine ex_bif ret (fun _ => ⟨0, rfl⟩) (fun c1 => ?_)
  have dc1 := c1
  try simp only [DC] at dc1
  have Bh3 : a0.length ≤ maxLen := (by
      have := (H0).1
      try simp only [maxLen] at *
      omega)
  refine ex_pt (p := Pt.p0 (a0.map iRow) (a1.map iRow) (a0.length : Int) 0) (by first | rfl | (simp only [S0, MP]; done) | (simp only [MP]; rfl)) ?_
  refine loopM_ok (pt := fun (i2 : Nat) (s4 : Unit) => Pt.p0 (a0.map iRow) (a1.map iRow) (a0.length : Int) (i2 : Int)) (s := (() : Unit)) (out := ret) (fun _ _ => True) (fun J i2 s4 h3 hih3 => ?_) (fun s4 hih3 => ?_) trivial
  · simp only [step, S0]
    have bb_ := Bh3
    simp only [maxLen] at bb_
    have := (H0).1
    refine Rnd.yes (by apply decide_eq_true; omega) ?_
    refine Rnd.yes zle_dec ?_
    refine Rnd.yes (lt_dec h3) ?_
    refine Rnd.yes zle_dec ?_
    refine Rnd.yes (by
        have := (H1).1
        refine decide_eq_true ?_
        try simp (disch := omega) only [LN, wi]
        first | omega | (simp; done) | (simp; omega)) ?_
    refine Rnd.bif (fun _ => Rnd.inr rfl) (fun c5 => ?_)
    refine Rnd.inl trivial ?_
    rw [wrap_succ h3 Bh3]
    all_goals first | rfl | (simp only [S0, MP]; first | done | rfl)
  · simp only [step, S0]
    have := (H0).1
    refine ex_no (by apply decide_eq_false; omega) ?_
    refine ⟨0, ?_⟩
    all_goals first | rfl | (simp only [S0, MP]; first | done | rfl)
theorem valid_ : Valid Tryz.prog Ev 193 con := VV (run := fun n x => start (iter step n) x.1 x.2) mix tab_ok .nil Tryz.func193 (by kernel_rfl) run_eq (fun _ a _ _ hg => okF a.1 a.2 hg)
theorem md_eq (a0 : List Int) (a1 : List Int) : md a0 a1 = eqB a0 a1 := by
  unfold md
  refine loop_eqB (0) (fun i s h h2 => ?_) (fun s => rfl)
  simp only [bne, int_beq, bool_beq, ba_beq]
  cases eqB _ _ <;> rfl
end slices_Equal_Sint_int
/-! impl.EqualKeys -/
namespace impl_EqualKeys
noncomputable def F (x0 : RKeys) (x1 : RKeys) : Ans := (call (slices_Equal_Sint_int.R (x0.fList, x1.fList)) fun v1 => (bif v1 then ret ((x0.fNeed == x1.fNeed) : Bool) else ret (false : Bool)))
def pats : List Pat := [.agg [.sl 3, .int .i64], .agg [.sl 3, .int .i64]]
def res : RP := .one (.rd (.bool))
noncomputable abbrev E : Env := { T := assoc Tab, G := conG [(193, slices_Equal_Sint_int.con)], nt := 17 }
set_option maxRecDepth 100000
theorem run_eq (n : Nat) (ls : List L) : runF E (fun _ => []) Tryz.f192 res n (initS pats ls) = F (RKeys.dec ls) (RKeys.dec (dropT 2 ls)) := by kernel_rfl
noncomputable def md (a0 : MKeys) (a1 : MKeys) : Bool := (bif (slices_Equal_Sint_int.md a0.fList a1.fList) then ((a0.fNeed == a1.fNeed) : Bool) else (false : Bool))
def gd (a0 : MKeys) (a1 : MKeys) : Prop := (MKeys.Sm (2 ^ 21) a0) ∧ (MKeys.Sm (2 ^ 21) a1)
def acc (ls : List L) : RKeys × RKeys := ((RKeys.dec ls), (RKeys.dec (dropT 2 ls)))
noncomputable def R : (RKeys × RKeys) → Option Bool := RR (p2 gd) (u2 md)
theorem R_eq {a0} {a1} (h : gd a0 a1) : R ((MKeys.r a0), (MKeys.r a1)) = some (md a0 a1) := RR_eq (a := (a0, a1)) h
noncomputable def con : Con := CN pats res acc R
theorem okF (a0 : MKeys) (a1 : MKeys) (hg : gd a0 a1) : F (MKeys.r a0) (MKeys.r a1) = ret ((md a0 a1) : Bool) := by
  unfold gd at hg
  obtain ⟨H0, H1⟩ := hg
  unfold F md
  try simp only [S0, MKeys.rs]
  refine call_to (slices_Equal_Sint_int.md a0.fList a1.fList) (slices_Equal_Sint_int.R_eq (a0 := a0.fList) (a1 := a1.fList) ⟨(H0.mono (by decide) (fun x hx => trivial)), (H1.mono (by decide) (fun x hx => trivial))⟩) ?_
  refine bif_out ret (fun c1 => ?_) (fun _ => rfl)
  all_goals first | rfl | (simp only [S0, MKeys.rs, MP]; first | done | rfl)
theorem valid_ : Valid Tryz.prog Ev 192 con := VV (run := fun _ x => F x.1 x.2) mix tab_ok (.cons slices_Equal_Sint_int.valid_ .nil) Tryz.func192 (by kernel_rfl) run_eq (fun _ a _ _ hg => ⟨0, okF a.1 a.2 hg⟩)
theorem md_eq (a0 : MKeys) (a1 : MKeys) : md a0 a1 = eqB a0 a1 := by
  unfold md
  cases a0; cases a1
  rw [Bool.eq_iff_iff]
  simp [eqB_iff, ba_beq, MKeys.mk.injEq, slices_Equal_Sint_int.md_eq]
  try (constructor <;> (intro h; simp_all))
end impl_EqualKeys
/-! impl.SameContents -/
namespace impl_SameContents
noncomputable def F (x0 : RHead) (x1 : RHead) : Ans := (bif (x0.fCount == x1.fCount) then ret ((x0.fRoot == x1.fRoot) : Bool) else ret (false : Bool))
def pats : List Pat := [.agg [.int .i64, .int .i64, .int .i64, .int .i64, .int .i64, .int .i64, .int .i64, .int .i64, .sl 3, .int .i64, .sl 3, .int .i64, .int .i64, .sl 3, .int .i64, .bool], .agg [.int .i64, .int .i64, .int .i64, .int .i64, .int .i64, .int .i64, .int .i64, .int .i64, .sl 3, .int .i64, .sl 3, .int .i64, .int .i64, .sl 3, .int .i64, .bool]]
def res : RP := .one (.rd (.bool))
noncomputable abbrev E : Env := { T := assoc Tab, G := conG [], nt := 17 }
set_option maxRecDepth 100000
theorem run_eq (n : Nat) (ls : List L) : runF E (fun _ => []) Tryz.f306 res n (initS pats ls) = F (RHead.dec ls) (RHead.dec (dropT 16 ls)) := by kernel_rfl
noncomputable def md (a0 : MHead) (a1 : MHead) : Bool := (bif (a0.fCount == a1.fCount) then ((a0.fRoot == a1.fRoot) : Bool) else (false : Bool))
def gd (a0 : MHead) (a1 : MHead) : Prop := True
def acc (ls : List L) : RHead × RHead := ((RHead.dec ls), (RHead.dec (dropT 16 ls)))
noncomputable def R : (RHead × RHead) → Option Bool := RR (p2 gd) (u2 md)
theorem R_eq {a0} {a1} (h : gd a0 a1) : R ((MHead.r a0), (MHead.r a1)) = some (md a0 a1) := RR_eq (a := (a0, a1)) h
noncomputable def con : Con := CN pats res acc R
theorem okF (a0 : MHead) (a1 : MHead) (hg : gd a0 a1) : F (MHead.r a0) (MHead.r a1) = ret ((md a0 a1) : Bool) := by
  unfold F md
  try simp only [S0, MHead.rs]
  refine bif_out ret (fun c1 => ?_) (fun _ => rfl)
  all_goals first | rfl | (simp only [S0, MHead.rs, MP]; first | done | rfl)
theorem valid_ : Valid Tryz.prog Ev 306 con := VV (run := fun _ x => F x.1 x.2) mix tab_ok .nil Tryz.func306 (by kernel_rfl) run_eq (fun _ a _ _ hg => ⟨0, okF a.1 a.2 hg⟩)
theorem br (a0 : MHead) (a1 : MHead) : md a0 a1 = spec_SameContents.md a0 a1 := by
  unfold md spec_SameContents.md
  first
  | (simp only [id]; done)
  | (simp only [id]; rfl)
  | rfl
end impl_SameContents
/-! impl.heirCode -/
namespace impl_heirCode
noncomputable def F (x0 : RHead) (x1 : RSigned) : Ans := (bif x0.fFrozen then ret (4 : Int) else (call (impl_NoKeys.R x0.fHeirs) fun v1 => (bif v1 then ret (5 : Int) else (bif (decide (x1.fHead.fTime < (IntKind.i64.wrap (x0.fUntil + x0.fWait)))) then ret (5 : Int) else (bif x1.fHead.fFrozen then ret (6 : Int) else (call (impl_EqualKeys.R (x1.fHead.fKeys, x0.fHeirs)) fun v2 => (bif (!v2) then ret (6 : Int) else (call (impl_SameContents.R (x1.fHead, x0)) fun v3 => (bif (!v3) then ret (6 : Int) else (call (impl_Signed_isSignedBy.R (x1, x0.fHeirs)) fun v4 => (bif (!v4) then ret (7 : Int) else ret (1 : Int))))))))))))
def pats : List Pat := [.agg [.int .i64, .int .i64, .int .i64, .int .i64, .int .i64, .int .i64, .int .i64, .int .i64, .sl 3, .int .i64, .sl 3, .int .i64, .int .i64, .sl 3, .int .i64, .bool], .agg [.int .i64, .int .i64, .int .i64, .int .i64, .int .i64, .int .i64, .int .i64, .int .i64, .sl 3, .int .i64, .sl 3, .int .i64, .int .i64, .sl 3, .int .i64, .bool, .sl 184]]
def res : RP := .one (.rd (.int .i64))
noncomputable abbrev E : Env := { T := assoc Tab, G := conG [(279, impl_NoKeys.con), (192, impl_EqualKeys.con), (306, impl_SameContents.con), (244, impl_Signed_isSignedBy.con)], nt := 48 }
set_option maxRecDepth 100000
theorem run_eq (n : Nat) (ls : List L) : runF E (fun _ => []) Tryz.f283 res n (initS pats ls) = F (RHead.dec ls) (RSigned.dec (dropT 16 ls)) := by kernel_rfl
noncomputable def md (a0 : MHead) (a1 : MSigned) : Int := (bif a0.fFrozen then (4 : Int) else (bif (impl_NoKeys.md a0.fHeirs) then (5 : Int) else (bif (decide (a1.fHead.fTime < (IntKind.i64.wrap (a0.fUntil + a0.fWait)))) then (5 : Int) else (bif a1.fHead.fFrozen then (6 : Int) else (bif (!(impl_EqualKeys.md a1.fHead.fKeys a0.fHeirs)) then (6 : Int) else (bif (!(impl_SameContents.md a1.fHead a0)) then (6 : Int) else (bif (!(impl_Signed_isSignedBy.md a1 a0.fHeirs)) then (7 : Int) else (1 : Int))))))))
def gd (a0 : MHead) (a1 : MSigned) : Prop := (MHead.Sm (2 ^ 21) a0) ∧ (MSigned.Sm (2 ^ 21) a1)
def acc (ls : List L) : RHead × RSigned := ((RHead.dec ls), (RSigned.dec (dropT 16 ls)))
noncomputable def R : (RHead × RSigned) → Option Int := RR (p2 gd) (u2 md)
theorem R_eq {a0} {a1} (h : gd a0 a1) : R ((MHead.r a0), (MSigned.r a1)) = some (md a0 a1) := RR_eq (a := (a0, a1)) h
noncomputable def con : Con := CN pats res acc R
theorem okF (a0 : MHead) (a1 : MSigned) (hg : gd a0 a1) : F (MHead.r a0) (MSigned.r a1) = ret ((md a0 a1) : Int) := by
  unfold gd at hg
  obtain ⟨H0, H1⟩ := hg
  unfold F md
  try simp only [S0, MHead.rs, MSigned.rs]
  refine bif_out ret (fun _ => rfl) (fun c1 => ?_)
  refine call_to (impl_NoKeys.md a0.fHeirs) (impl_NoKeys.R_eq (a0 := a0.fHeirs) trivial) ?_
  refine bif_out ret (fun _ => rfl) (fun c2 => ?_)
  refine bif_out ret (fun _ => rfl) (fun c3 => ?_)
  refine bif_out ret (fun _ => rfl) (fun c4 => ?_)
  refine call_to (impl_EqualKeys.md a1.fHead.fKeys a0.fHeirs) (impl_EqualKeys.R_eq (a0 := a1.fHead.fKeys) (a1 := a0.fHeirs) ⟨H1.1.1, H0.2.1⟩) ?_
  refine bif_out ret (fun _ => rfl) (fun c5 => ?_)
  refine call_to (impl_SameContents.md a1.fHead a0) (impl_SameContents.R_eq (a0 := a1.fHead) (a1 := a0) trivial) ?_
  refine bif_out ret (fun _ => rfl) (fun c6 => ?_)
  refine call_to (impl_Signed_isSignedBy.md a1 a0.fHeirs) (impl_Signed_isSignedBy.R_eq (a0 := a1) (a1 := a0.fHeirs) ⟨H1, H0.2.1⟩) ?_
  refine bif_out ret (fun _ => rfl) (fun _ => rfl)
theorem valid_ : Valid Tryz.prog Ev 283 con := VV (run := fun _ x => F x.1 x.2) mix tab_ok (.cons impl_NoKeys.valid_ (.cons impl_EqualKeys.valid_ (.cons impl_SameContents.valid_ (.cons impl_Signed_isSignedBy.valid_ .nil)))) Tryz.func283 (by kernel_rfl) run_eq (fun _ a _ _ hg => ⟨0, okF a.1 a.2 hg⟩)
end impl_heirCode
end Go.DM
