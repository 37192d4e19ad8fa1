/- What the functions compute that the law reaches, and that the law returns true. Conditions: none. -/
import Derived.Test.YtfghhicdmjiaaaaGreatLearnTy
import Derived.Test.YtfghhicdmjiaaaaGreatProg
import Derived.Lib.AppendZerosOnto
import Derived.Lib.Bytealg
import Derived.Laws.Externs
import Derived.Lib.Walk
import Derived.Lib.Hide
import Derived.Lib.Strings
set_option linter.all false
set_option maxRecDepth 100000
noncomputable section
namespace Go.DM
open Go.Proofs
def Tab : List (Nat × TI) := [
 (2, ⟨[.int .i64], false, [], 8, false⟩),
 (3, ⟨[.int .i64], false, [], 8, false⟩),
 (4, ⟨[.bool], false, [], 1, false⟩),
 (5, ⟨[.int .u8], false, [], 1, false⟩),
 (6, ⟨[.int .u8], false, [], 1, false⟩),
 (7, ⟨[.int .i64, .int .i64, .bool, .int .u8], true, [(0, 2), (1, 3), (2, 4), (3, 6)], 24, false⟩),
 (8, ⟨[.int .i64, .int .i64, .bool, .int .u8], true, [(0, 2), (1, 3), (2, 4), (3, 6)], 24, false⟩),
 (9, ⟨[.str], false, [], 16, false⟩),
 (10, ⟨[.str], false, [], 16, false⟩),
 (11, ⟨[.str], false, [], 16, false⟩),
 (12, ⟨[.int .u64], false, [], 8, false⟩),
 (13, ⟨[.str, .int .u64], true, [(0, 9), (1, 12)], 24, false⟩),
 (14, ⟨[.str, .int .u64], true, [(0, 9), (1, 12)], 24, false⟩),
 (21, ⟨[.int .i32], false, [], 4, false⟩),
 (22, ⟨[.sl 95], false, [], 24, false⟩),
 (24, ⟨[.sl 96], false, [], 24, false⟩),
 (31, ⟨[.sl 114], false, [], 24, false⟩),
 (33, ⟨[.sl 3], false, [], 24, false⟩),
 (34, ⟨[.sl 3, .int .i64], true, [(0, 33), (1, 3)], 32, false⟩),
 (35, ⟨[.sl 3, .int .i64], true, [(0, 33), (1, 3)], 32, false⟩),
 (38, ⟨[.sl 122], false, [], 24, false⟩),
 (45, ⟨[.sl 31], false, [], 24, false⟩),
 (46, ⟨[.sl 187], false, [], 24, false⟩),
 (47, ⟨[.sl 31, .sl 187], true, [(0, 45), (1, 46)], 48, false⟩),
 (48, ⟨[.sl 31, .sl 187], true, [(0, 45), (1, 46)], 48, false⟩),
 (50, ⟨[.sl 38], false, [], 24, false⟩),
 (51, ⟨[.sl 134], false, [], 24, false⟩),
 (52, ⟨[.sl 38, .sl 134], true, [(0, 50), (1, 51)], 48, false⟩),
 (53, ⟨[.sl 38, .sl 134], true, [(0, 50), (1, 51)], 48, false⟩),
 (60, ⟨[.sl 195], false, [], 24, false⟩),
 (61, ⟨[.sl 195], true, [(0, 60)], 24, false⟩),
 (62, ⟨[.sl 195], true, [(0, 60)], 24, false⟩),
 (64, ⟨[.sl 148], false, [], 24, false⟩),
 (65, ⟨[.sl 148], true, [(0, 64)], 24, false⟩),
 (66, ⟨[.sl 148], true, [(0, 64)], 24, false⟩),
 (72, ⟨[.sl 9], false, [], 24, false⟩),
 (73, ⟨[.str, .int .i64, .int .i64, .sl 9], true, [(0, 9), (1, 3), (2, 3), (3, 72)], 56, false⟩),
 (74, ⟨[.str, .int .i64, .int .i64, .sl 9], true, [(0, 9), (1, 3), (2, 3), (3, 72)], 56, false⟩),
 (75, ⟨[.int .i64, .sl 3], true, [(0, 3), (1, 33)], 32, false⟩),
 (76, ⟨[.int .i64, .sl 3], true, [(0, 3), (1, 33)], 32, false⟩),
 (77, ⟨[.int .i64, .str, .int .i64, .int .i64, .sl 9, .str, .int .i64, .int .i64, .sl 9, .int .i64, .sl 3, .int .i64, .sl 3], true, [(0, 3), (1, 74), (5, 74), (9, 76), (11, 76)], 184, false⟩),
 (78, ⟨[.int .i64, .str, .int .i64, .int .i64, .sl 9, .str, .int .i64, .int .i64, .sl 9, .int .i64, .sl 3, .int .i64, .sl 3], true, [(0, 3), (1, 74), (5, 74), (9, 76), (11, 76)], 184, false⟩),
 (79, ⟨[.sl 114, .bool, .str, .int .i64, .int .i64, .sl 9, .int .i64, .sl 3, .int .i64, .str, .int .i64, .int .i64, .sl 9, .str, .int .i64, .int .i64, .sl 9, .int .i64, .sl 3, .int .i64, .sl 3], true, [(0, 31), (1, 4), (2, 74), (6, 76), (8, 78)], 304, false⟩),
 (80, ⟨[.sl 114, .bool, .str, .int .i64, .int .i64, .sl 9, .int .i64, .sl 3, .int .i64, .str, .int .i64, .int .i64, .sl 9, .str, .int .i64, .int .i64, .sl 9, .int .i64, .sl 3, .int .i64, .sl 3], true, [(0, 31), (1, 4), (2, 74), (6, 76), (8, 78)], 304, false⟩),
 (83, ⟨[.str, .int .i64, .int .i64, .sl 9], true, [(0, 9), (1, 3), (2, 3), (3, 72)], 56, false⟩),
 (84, ⟨[.int .i64, .sl 3], true, [(0, 3), (1, 33)], 32, false⟩),
 (85, ⟨[.int .i64, .str, .int .i64, .int .i64, .sl 9, .str, .int .i64, .int .i64, .sl 9, .int .i64, .sl 3, .int .i64, .sl 3], true, [(0, 3), (1, 83), (5, 83), (9, 84), (11, 84)], 184, false⟩),
 (86, ⟨[.int .i64, .str, .int .i64, .int .i64, .sl 9, .str, .int .i64, .int .i64, .sl 9, .int .i64, .sl 3, .int .i64, .sl 3], true, [(0, 3), (1, 83), (5, 83), (9, 84), (11, 84)], 184, false⟩),
 (87, ⟨[.sl 122, .bool, .str, .int .i64, .int .i64, .sl 9, .int .i64, .sl 3, .int .i64, .str, .int .i64, .int .i64, .sl 9, .str, .int .i64, .int .i64, .sl 9, .int .i64, .sl 3, .int .i64, .sl 3], true, [(0, 38), (1, 4), (2, 83), (6, 84), (8, 86)], 304, false⟩),
 (88, ⟨[.sl 122, .bool, .str, .int .i64, .int .i64, .sl 9, .int .i64, .sl 3, .int .i64, .str, .int .i64, .int .i64, .sl 9, .str, .int .i64, .int .i64, .sl 9, .int .i64, .sl 3, .int .i64, .sl 3], true, [(0, 38), (1, 4), (2, 83), (6, 84), (8, 86)], 304, false⟩),
 (94, ⟨[.str, .int .i64], true, [(0, 9), (1, 3)], 24, false⟩),
 (95, ⟨[.str, .int .i64], true, [(0, 9), (1, 3)], 24, true⟩),
 (96, ⟨[.str, .int .i64], true, [(0, 9), (1, 3)], 24, true⟩),
 (109, ⟨[.sl 3, .int .i64], true, [(0, 33), (1, 3)], 32, false⟩),
 (110, ⟨[.int .i64, .int .i64, .int .i64, .int .i64, .int .i64, .int .i64, .int .i64, .int .i64, .sl 3, .int .i64, .sl 3, .int .i64, .int .i64, .sl 3, .int .i64, .bool], true, [(0, 3), (1, 3), (2, 3), (3, 3), (4, 3), (5, 3), (6, 3), (7, 3), (8, 109), (10, 109), (12, 3), (13, 109), (15, 4)], 176, false⟩),
 (111, ⟨[.int .i64, .int .i64, .int .i64, .int .i64, .int .i64, .int .i64, .int .i64, .int .i64, .sl 3, .int .i64, .sl 3, .int .i64, .int .i64, .sl 3, .int .i64, .bool], true, [(0, 3), (1, 3), (2, 3), (3, 3), (4, 3), (5, 3), (6, 3), (7, 3), (8, 109), (10, 109), (12, 3), (13, 109), (15, 4)], 176, false⟩),
 (112, ⟨[.sl 216], false, [], 24, false⟩),
 (113, ⟨[.int .i64, .int .i64, .int .i64, .int .i64, .int .i64, .int .i64, .int .i64, .int .i64, .sl 3, .int .i64, .sl 3, .int .i64, .int .i64, .sl 3, .int .i64, .bool, .sl 216], true, [(0, 111), (16, 112)], 200, false⟩),
 (114, ⟨[.int .i64, .int .i64, .int .i64, .int .i64, .int .i64, .int .i64, .int .i64, .int .i64, .sl 3, .int .i64, .sl 3, .int .i64, .int .i64, .sl 3, .int .i64, .bool, .sl 216], true, [(0, 111), (16, 112)], 200, false⟩),
 (115, ⟨[.int .i64, .int .i64, .int .i64, .int .i64, .int .i64, .int .i64, .int .i64, .int .i64, .sl 3, .int .i64, .sl 3, .int .i64, .int .i64, .sl 3, .int .i64, .bool], true, [(0, 3), (1, 3), (2, 3), (3, 3), (4, 3), (5, 3), (6, 3), (7, 3), (8, 35), (10, 35), (12, 3), (13, 35), (15, 4)], 176, false⟩),
 (116, ⟨[.int .i64, .int .i64, .int .i64, .int .i64, .int .i64, .int .i64, .int .i64, .int .i64, .sl 3, .int .i64, .sl 3, .int .i64, .int .i64, .sl 3, .int .i64, .bool], true, [(0, 3), (1, 3), (2, 3), (3, 3), (4, 3), (5, 3), (6, 3), (7, 3), (8, 35), (10, 35), (12, 3), (13, 35), (15, 4)], 176, false⟩),
 (120, ⟨[.sl 184], false, [], 24, false⟩),
 (121, ⟨[.int .i64, .int .i64, .int .i64, .int .i64, .int .i64, .int .i64, .int .i64, .int .i64, .sl 3, .int .i64, .sl 3, .int .i64, .int .i64, .sl 3, .int .i64, .bool, .sl 184], true, [(0, 116), (16, 120)], 200, false⟩),
 (122, ⟨[.int .i64, .int .i64, .int .i64, .int .i64, .int .i64, .int .i64, .int .i64, .int .i64, .sl 3, .int .i64, .sl 3, .int .i64, .int .i64, .sl 3, .int .i64, .bool, .sl 184], true, [(0, 116), (16, 120)], 200, false⟩),
 (133, ⟨[.int .i64, .int .i64, .int .i64, .int .i64, .int .i64, .int .i64, .int .i64, .int .i64, .sl 3, .int .i64, .sl 3, .int .i64, .int .i64, .sl 3, .int .i64, .bool, .sl 184, .int .i64, .int .i64, .int .i64, .int .i64, .int .i64, .int .i64, .int .i64, .int .i64, .sl 3, .int .i64, .sl 3, .int .i64, .int .i64, .sl 3, .int .i64, .bool, .sl 184, .int .i64, .int .i64, .int .i64, .int .i64, .int .i64, .int .i64, .int .i64, .int .i64, .sl 3, .int .i64, .sl 3, .int .i64, .int .i64, .sl 3, .int .i64, .bool, .sl 184], true, [(0, 122), (17, 122), (34, 122)], 600, false⟩),
 (134, ⟨[.int .i64, .int .i64, .int .i64, .int .i64, .int .i64, .int .i64, .int .i64, .int .i64, .sl 3, .int .i64, .sl 3, .int .i64, .int .i64, .sl 3, .int .i64, .bool, .sl 184, .int .i64, .int .i64, .int .i64, .int .i64, .int .i64, .int .i64, .int .i64, .int .i64, .sl 3, .int .i64, .sl 3, .int .i64, .int .i64, .sl 3, .int .i64, .bool, .sl 184, .int .i64, .int .i64, .int .i64, .int .i64, .int .i64, .int .i64, .int .i64, .int .i64, .sl 3, .int .i64, .sl 3, .int .i64, .int .i64, .sl 3, .int .i64, .bool, .sl 184], true, [(0, 122), (17, 122), (34, 122)], 600, false⟩),
 (147, ⟨[.int .i64, .str, .sl 122, .bool, .str, .int .i64, .int .i64, .sl 9, .int .i64, .sl 3, .int .i64, .str, .int .i64, .int .i64, .sl 9, .str, .int .i64, .int .i64, .sl 9, .int .i64, .sl 3, .int .i64, .sl 3], true, [(0, 3), (1, 9), (2, 88)], 328, false⟩),
 (148, ⟨[.int .i64, .str, .sl 122, .bool, .str, .int .i64, .int .i64, .sl 9, .int .i64, .sl 3, .int .i64, .str, .int .i64, .int .i64, .sl 9, .str, .int .i64, .int .i64, .sl 9, .int .i64, .sl 3, .int .i64, .sl 3], true, [(0, 3), (1, 9), (2, 88)], 328, false⟩),
 (174, ⟨[.sl 5], false, [], 24, false⟩),
 (183, ⟨[.int .i64, .int .i64], true, [(0, 3), (1, 3)], 16, false⟩),
 (184, ⟨[.int .i64, .int .i64], true, [(0, 3), (1, 3)], 16, true⟩),
 (186, ⟨[.int .i64, .int .i64, .int .i64, .int .i64, .int .i64, .int .i64, .int .i64, .int .i64, .sl 3, .int .i64, .sl 3, .int .i64, .int .i64, .sl 3, .int .i64, .bool, .sl 216, .int .i64, .int .i64, .int .i64, .int .i64, .int .i64, .int .i64, .int .i64, .int .i64, .sl 3, .int .i64, .sl 3, .int .i64, .int .i64, .sl 3, .int .i64, .bool, .sl 216, .int .i64, .int .i64, .int .i64, .int .i64, .int .i64, .int .i64, .int .i64, .int .i64, .sl 3, .int .i64, .sl 3, .int .i64, .int .i64, .sl 3, .int .i64, .bool, .sl 216], true, [(0, 114), (17, 114), (34, 114)], 600, false⟩),
 (187, ⟨[.int .i64, .int .i64, .int .i64, .int .i64, .int .i64, .int .i64, .int .i64, .int .i64, .sl 3, .int .i64, .sl 3, .int .i64, .int .i64, .sl 3, .int .i64, .bool, .sl 216, .int .i64, .int .i64, .int .i64, .int .i64, .int .i64, .int .i64, .int .i64, .int .i64, .sl 3, .int .i64, .sl 3, .int .i64, .int .i64, .sl 3, .int .i64, .bool, .sl 216, .int .i64, .int .i64, .int .i64, .int .i64, .int .i64, .int .i64, .int .i64, .int .i64, .sl 3, .int .i64, .sl 3, .int .i64, .int .i64, .sl 3, .int .i64, .bool, .sl 216], true, [(0, 114), (17, 114), (34, 114)], 600, false⟩),
 (194, ⟨[.int .i64, .str, .sl 114, .bool, .str, .int .i64, .int .i64, .sl 9, .int .i64, .sl 3, .int .i64, .str, .int .i64, .int .i64, .sl 9, .str, .int .i64, .int .i64, .sl 9, .int .i64, .sl 3, .int .i64, .sl 3], true, [(0, 3), (1, 9), (2, 80)], 328, false⟩),
 (195, ⟨[.int .i64, .str, .sl 114, .bool, .str, .int .i64, .int .i64, .sl 9, .int .i64, .sl 3, .int .i64, .str, .int .i64, .int .i64, .sl 9, .str, .int .i64, .int .i64, .sl 9, .int .i64, .sl 3, .int .i64, .sl 3], true, [(0, 3), (1, 9), (2, 80)], 328, false⟩),
 (216, ⟨[.int .i64, .int .i64], true, [(0, 3), (1, 3)], 16, true⟩),
 (229, ⟨[.int .u32], false, [], 4, false⟩),
 (232, ⟨[.int .i32, .int .u32], true, [(0, 21), (1, 229)], 8, false⟩),
 (233, ⟨[.int .i32, .int .u32], true, [(0, 21), (1, 229)], 8, false⟩),
 (254, ⟨[.sl 83], false, [], 24, false⟩),
 (263, ⟨[.sl 33], false, [], 24, false⟩),
 (322, ⟨[.int .u64], false, [], 8, false⟩),
 (334, ⟨[.int .u8], false, [], 1, false⟩),
 (335, ⟨[.int .u8], false, [], 1, false⟩),
 (338, ⟨[.int .i32], false, [], 4, false⟩),
 (339, ⟨[.int .i32], false, [], 4, false⟩),
 (354, ⟨[.sl 5], false, [], 24, false⟩)]
abbrev Ev : Env := Env0 Tab
theorem tab_ok : tableB Tryz.prog Tab = true := by kernel_rfl
theorem mix : Tryz.prog.follows .mixedOrders = true := by kernel_rfl
namespace Z0
def F (x0 : List (List L)) (x1 : Int) : Ans := (bif (decide ((IntKind.i64.wrap (x1 - (x0.length : Int))) < 0)) then ret ((-1) : Int) else ret ((IntKind.i64.wrap (x1 - (x0.length : Int))) : Int))
def pats : List Pat := [.rd (.sl 3), .rd (.int .i64)]
def res : RP := .one (.rd (.int .i64))
def md (a0 : List Int) (a1 : Int) : Int := szM (szL (fun y : Int => 0) a0) a1
def gd (a0 : List Int) (a1 : Int) : Prop := (SmL maxLen (fun y : Int => True) a0) ∧ 0 ≤ a1 ∧ a1 ≤ 1048576
def acc (ls : List L) : List (List L) × Int := ((ls.headD .hole).toSl, ((dropT 1 ls).headD .hole).toInt)
def R : (List (List L) × Int) → Option Int := RR (p2 gd) (u2 md)
theorem R_eq {a0} {a1} (h : gd a0 a1) : R ((a0.map iRow), a1) = some (md a0 a1) := RR_eq (a := (a0, a1)) h
def con : Con := CN pats res acc R
theorem okF (a0 : List Int) (a1 : Int) (hg : gd a0 a1) : F (a0.map iRow) a1 = ret ((md a0 a1) : Int) := by
  obtain ⟨hs, g0, g1⟩ := hg
  unfold F md
  rw [List.length_map, sz_wrap g0 g1 hs.1]
  have e : szL (fun y : Int => 0) a0 = a0.length := by
    unfold szL
    have : (a0.map (fun y : Int => 0)).sum = 0 := sum_zero (fun _ => rfl) a0
    omega
  rw [e]
  by_cases hc : a1 < ((a0.length : Nat) : Int)
  · rw [szM_neg hc, decide_eq_true (by omega)]; rfl
  · rw [szM_pos hc, decide_eq_false (by omega)]; rfl
theorem valid_ : Valid Tryz.prog Ev 166 con := VV (live := fun _ => []) (nt := 12) (run := fun _ x => F x.1 x.2) mix tab_ok .nil Tryz.func166 (by kernel_rfl) (fun _ _ => by kernel_rfl) (fun _ a _ _ hg => ⟨0, okF a.1 a.2 hg⟩)
end Z0
namespace Z1
def F (x0 : RKeys) (x1 : Int) : Ans := (call (Z0.R (x0.fList, x1)) fun v1 => (bif (decide (v1 < 0)) then ret ((-1) : Int) else ret (v1 : Int)))
def pats : List Pat := [.agg [.sl 3, .int .i64], .rd (.int .i64)]
def res : RP := .one (.rd (.int .i64))
def md (a0 : MKeys) (a1 : Int) : Int := szM (MKeys.size a0) a1
def gd (a0 : MKeys) (a1 : Int) : Prop := (MKeys.Sm maxLen a0) ∧ 0 ≤ a1 ∧ a1 ≤ 1048576
def acc (ls : List L) : RKeys × Int := ((RKeys.dec ls), ((dropT 2 ls).headD .hole).toInt)
def R : (RKeys × Int) → Option Int := RR (p2 gd) (u2 md)
theorem R_eq {a0} {a1} (h : gd a0 a1) : R ((MKeys.r a0), a1) = some (md a0 a1) := RR_eq (a := (a0, a1)) h
def con : Con := CN pats res acc R
theorem okF (a0 : MKeys) (a1 : Int) (hg : gd a0 a1) : F (MKeys.r a0) a1 = ret ((md a0 a1) : Int) := by
  obtain ⟨hs, g0, g1⟩ := hg
  unfold md
  show (call (Z0.R ((a0.fList.map iRow), a1)) fun v1 => (bif (decide (v1 < 0)) then ret ((-1) : Int) else ret (v1 : Int))) = _
  rw [call_eq (Z0.R_eq (a1 := a1) ⟨hs, by omega, by omega⟩)]
  unfold Z0.md
  by_cases c0 : a1 < ((szL (fun y : Int => 0) a0.fList : Nat) : Int)
  · rw [szM_neg c0]; rw [show szM (MKeys.size a0) a1 = -1 from szM_neg (by unfold MKeys.size; omega)]; try rfl
  rw [szM_pos c0, dec_neg (by omega), cond_false]
  rw [show szM (MKeys.size a0) a1 = a1 - ((szL (fun y : Int => 0) a0.fList : Nat) : Int) from by rw [szM_pos (by unfold MKeys.size; omega)]; unfold MKeys.size; omega]
theorem valid_ : Valid Tryz.prog Ev 182 con := VV (live := fun _ => []) (nt := 12) (run := fun _ x => F x.1 x.2) mix tab_ok (.cons Z0.valid_ .nil) Tryz.func182 (by kernel_rfl) (fun _ _ => by kernel_rfl) (fun _ a _ _ hg => ⟨0, okF a.1 a.2 hg⟩)
end Z1
namespace Z2
def F (x0 : RHead) (x1 : Int) : Ans := (call (Z1.R (x0.fKeys, x1)) fun v1 => (bif (decide (v1 < 0)) then ret ((-1) : Int) else (call (Z1.R (x0.fHeirs, v1)) fun v2 => (bif (decide (v2 < 0)) then ret ((-1) : Int) else (call (Z1.R (x0.fJudge, v2)) fun v3 => (bif (decide (v3 < 0)) then ret ((-1) : Int) else ret (v3 : Int)))))))
def pats : List Pat := [.agg [.int .i64, .int .i64, .int .i64, .int .i64, .int .i64, .int .i64, .int .i64, .int .i64, .sl 3, .int .i64, .sl 3, .int .i64, .int .i64, .sl 3, .int .i64, .bool], .rd (.int .i64)]
def res : RP := .one (.rd (.int .i64))
def md (a0 : MHead) (a1 : Int) : Int := szM (MHead.size a0) a1
def gd (a0 : MHead) (a1 : Int) : Prop := (MHead.Sm maxLen a0) ∧ 0 ≤ a1 ∧ a1 ≤ 1048576
def acc (ls : List L) : RHead × Int := ((RHead.dec ls), ((dropT 16 ls).headD .hole).toInt)
def R : (RHead × Int) → Option Int := RR (p2 gd) (u2 md)
theorem R_eq {a0} {a1} (h : gd a0 a1) : R ((MHead.r a0), a1) = some (md a0 a1) := RR_eq (a := (a0, a1)) h
def con : Con := CN pats res acc R
theorem okF (a0 : MHead) (a1 : Int) (hg : gd a0 a1) : F (MHead.r a0) a1 = ret ((md a0 a1) : Int) := by
  obtain ⟨hs, g0, g1⟩ := hg
  unfold md
  show (call (Z1.R ((MKeys.r a0.fKeys), a1)) fun v1 => (bif (decide (v1 < 0)) then ret ((-1) : Int) else (call (Z1.R ((MKeys.r a0.fHeirs), v1)) fun v2 => (bif (decide (v2 < 0)) then ret ((-1) : Int) else (call (Z1.R ((MKeys.r a0.fJudge), v2)) fun v3 => (bif (decide (v3 < 0)) then ret ((-1) : Int) else ret (v3 : Int))))))) = _
  rw [call_eq (Z1.R_eq (a1 := a1) ⟨hs.1, by omega, by omega⟩)]
  unfold Z1.md
  by_cases c0 : a1 < ((MKeys.size a0.fKeys : Nat) : Int)
  · rw [szM_neg c0]; rw [show szM (MHead.size a0) a1 = -1 from szM_neg (by unfold MHead.size; omega)]; try rfl
  rw [szM_pos c0, dec_neg (by omega), cond_false]
  rw [call_eq (Z1.R_eq (a1 := (a1 - ((MKeys.size a0.fKeys : Nat) : Int))) ⟨hs.2.1, by omega, by omega⟩)]
  unfold Z1.md
  by_cases c1 : (a1 - ((MKeys.size a0.fKeys : Nat) : Int)) < ((MKeys.size a0.fHeirs : Nat) : Int)
  · rw [szM_neg c1]; rw [show szM (MHead.size a0) a1 = -1 from szM_neg (by unfold MHead.size; omega)]; try rfl
  rw [szM_pos c1, dec_neg (by omega), cond_false]
  rw [call_eq (Z1.R_eq (a1 := (a1 - ((MKeys.size a0.fKeys : Nat) : Int) - ((MKeys.size a0.fHeirs : Nat) : Int))) ⟨hs.2.2, by omega, by omega⟩)]
  unfold Z1.md
  by_cases c2 : (a1 - ((MKeys.size a0.fKeys : Nat) : Int) - ((MKeys.size a0.fHeirs : Nat) : Int)) < ((MKeys.size a0.fJudge : Nat) : Int)
  · rw [szM_neg c2]; rw [show szM (MHead.size a0) a1 = -1 from szM_neg (by unfold MHead.size; omega)]; try rfl
  rw [szM_pos c2, dec_neg (by omega), cond_false]
  rw [show szM (MHead.size a0) a1 = a1 - ((MKeys.size a0.fKeys : Nat) : Int) - ((MKeys.size a0.fHeirs : Nat) : Int) - ((MKeys.size a0.fJudge : Nat) : Int) from by rw [szM_pos (by unfold MHead.size; omega)]; unfold MHead.size; omega]
theorem valid_ : Valid Tryz.prog Ev 127 con := VV (live := fun _ => []) (nt := 24) (run := fun _ x => F x.1 x.2) mix tab_ok (.cons Z1.valid_ .nil) Tryz.func127 (by kernel_rfl) (fun _ _ => by kernel_rfl) (fun _ a _ _ hg => ⟨0, okF a.1 a.2 hg⟩)
end Z2
namespace Z3
def F (x0 : List (List L)) (x1 : Int) : Ans := (bif (decide ((IntKind.i64.wrap (x1 - (x0.length : Int))) < 0)) then ret ((-1) : Int) else ret ((IntKind.i64.wrap (x1 - (x0.length : Int))) : Int))
def pats : List Pat := [.rd (.sl 216), .rd (.int .i64)]
def res : RP := .one (.rd (.int .i64))
def md (a0 : List MSig) (a1 : Int) : Int := szM (szL (fun y : MSig => MSig.size y) a0) a1
def gd (a0 : List MSig) (a1 : Int) : Prop := (SmL maxLen (fun y : MSig => MSig.Sm maxLen y) a0) ∧ 0 ≤ a1 ∧ a1 ≤ 1048576
def acc (ls : List L) : List (List L) × Int := ((ls.headD .hole).toSl, ((dropT 1 ls).headD .hole).toInt)
def R : (List (List L) × Int) → Option Int := RR (p2 gd) (u2 md)
theorem R_eq {a0} {a1} (h : gd a0 a1) : R ((a0.map MSig.row), a1) = some (md a0 a1) := RR_eq (a := (a0, a1)) h
def con : Con := CN pats res acc R
theorem okF (a0 : List MSig) (a1 : Int) (hg : gd a0 a1) : F (a0.map MSig.row) a1 = ret ((md a0 a1) : Int) := by
  obtain ⟨hs, g0, g1⟩ := hg
  unfold F md
  rw [List.length_map, sz_wrap g0 g1 hs.1]
  have e : szL (fun y : MSig => MSig.size y) a0 = a0.length := by
    unfold szL
    have : (a0.map (fun y : MSig => MSig.size y)).sum = 0 := sum_zero (fun _ => rfl) a0
    omega
  rw [e]
  by_cases hc : a1 < ((a0.length : Nat) : Int)
  · rw [szM_neg hc, decide_eq_true (by omega)]; rfl
  · rw [szM_pos hc, decide_eq_false (by omega)]; rfl
theorem valid_ : Valid Tryz.prog Ev 128 con := VV (live := fun _ => []) (nt := 12) (run := fun _ x => F x.1 x.2) mix tab_ok .nil Tryz.func128 (by kernel_rfl) (fun _ _ => by kernel_rfl) (fun _ a _ _ hg => ⟨0, okF a.1 a.2 hg⟩)
end Z3
namespace Z4
def F (x0 : RSigned) (x1 : Int) : Ans := (call (Z2.R (x0.fHead, x1)) fun v1 => (bif (decide (v1 < 0)) then ret ((-1) : Int) else (call (Z3.R (x0.fSigs, v1)) fun v2 => (bif (decide (v2 < 0)) then ret ((-1) : Int) else ret (v2 : Int)))))
def pats : List Pat := [.agg [.int .i64, .int .i64, .int .i64, .int .i64, .int .i64, .int .i64, .int .i64, .int .i64, .sl 3, .int .i64, .sl 3, .int .i64, .int .i64, .sl 3, .int .i64, .bool, .sl 216], .rd (.int .i64)]
def res : RP := .one (.rd (.int .i64))
def md (a0 : MSigned) (a1 : Int) : Int := szM (MSigned.size a0) a1
def gd (a0 : MSigned) (a1 : Int) : Prop := (MSigned.Sm maxLen a0) ∧ 0 ≤ a1 ∧ a1 ≤ 1048576
def acc (ls : List L) : RSigned × Int := ((RSigned.dec ls), ((dropT 17 ls).headD .hole).toInt)
def R : (RSigned × Int) → Option Int := RR (p2 gd) (u2 md)
theorem R_eq {a0} {a1} (h : gd a0 a1) : R ((MSigned.r a0), a1) = some (md a0 a1) := RR_eq (a := (a0, a1)) h
def con : Con := CN pats res acc R
theorem okF (a0 : MSigned) (a1 : Int) (hg : gd a0 a1) : F (MSigned.r a0) a1 = ret ((md a0 a1) : Int) := by
  obtain ⟨hs, g0, g1⟩ := hg
  unfold md
  show (call (Z2.R ((MHead.r a0.fHead), a1)) fun v1 => (bif (decide (v1 < 0)) then ret ((-1) : Int) else (call (Z3.R ((a0.fSigs.map MSig.row), v1)) fun v2 => (bif (decide (v2 < 0)) then ret ((-1) : Int) else ret (v2 : Int))))) = _
  rw [call_eq (Z2.R_eq (a1 := a1) ⟨hs.1, by omega, by omega⟩)]
  unfold Z2.md
  by_cases c0 : a1 < ((MHead.size a0.fHead : Nat) : Int)
  · rw [szM_neg c0]; rw [show szM (MSigned.size a0) a1 = -1 from szM_neg (by unfold MSigned.size; omega)]; try rfl
  rw [szM_pos c0, dec_neg (by omega), cond_false]
  rw [call_eq (Z3.R_eq (a1 := (a1 - ((MHead.size a0.fHead : Nat) : Int))) ⟨hs.2, by omega, by omega⟩)]
  unfold Z3.md
  by_cases c1 : (a1 - ((MHead.size a0.fHead : Nat) : Int)) < ((szL (fun y : MSig => MSig.size y) a0.fSigs : Nat) : Int)
  · rw [szM_neg c1]; rw [show szM (MSigned.size a0) a1 = -1 from szM_neg (by unfold MSigned.size; omega)]; try rfl
  rw [szM_pos c1, dec_neg (by omega), cond_false]
  rw [show szM (MSigned.size a0) a1 = a1 - ((MHead.size a0.fHead : Nat) : Int) - ((szL (fun y : MSig => MSig.size y) a0.fSigs : Nat) : Int) from by rw [szM_pos (by unfold MSigned.size; omega)]; unfold MSigned.size; omega]
theorem valid_ : Valid Tryz.prog Ev 61 con := VV (live := fun _ => []) (nt := 18) (run := fun _ x => F x.1 x.2) mix tab_ok (.cons Z2.valid_ (.cons Z3.valid_ .nil)) Tryz.func61 (by kernel_rfl) (fun _ _ => by kernel_rfl) (fun _ a _ _ hg => ⟨0, okF a.1 a.2 hg⟩)
end Z4
namespace Z5
inductive Pt where
 | p0 (a : List (List L)) (b : Int) (c : Int)
def pid : Pt → Nat
 | .p0 .. => 5
def pvs : Pt → List V
 | .p0 a b c => [.sl none 114 a, .int .i64 b, .int .i64 c]
def phs : Pt → List Root
 | .p0 a b c => []
def step (J : Pt → Ans) : Pt → Ans
 | .p0 a b c => (bif (decide (c < (a.length : Int))) then (bif (decide ((0 : Int) ≤ c)) then (bif (decide (c < (a.length : Int))) then (call (Z4.R ((RSigned.at a (Int.toNat c)), b)) fun v1 => (bif (decide (v1 < 0)) then ret ((-1) : Int) else J (.p0 a v1 (IntKind.i64.wrap (c + 1))))) else none) else none) else ret (b : Int))
def start (J : Pt → Ans) (x0 : List (List L)) (x1 : Int) : Ans := (bif (decide ((IntKind.i64.wrap (x1 - (x0.length : Int))) < 0)) then ret ((-1) : Int) else J (.p0 x0 (IntKind.i64.wrap (x1 - (x0.length : Int))) 0))
def live : Nat → Live := fun i => match i with | 5 => [(0, none), (1, none), (5, none)] | _ => []
def pats : List Pat := [.rd (.sl 114), .rd (.int .i64)]
def res : RP := .one (.rd (.int .i64))
abbrev E : Env := { T := assoc Tab, G := conG [(61, Z4.con)], nt := 27 }
theorem step_eq (I : Heads) (p : Pt) : enterC E live I (pid p) (bodyOf Tryz.f15) (stOf (live (pid p)) (pvs p) (phs p)) (doneK E Tryz.f15 res) = step (fun q => I (pid q) (pvs q) (phs q)) p := by
 cases p <;> kernel_rfl
theorem start_eq (I : Heads) (ls : List L) : runC E live I (bodyOf Tryz.f15) (initS pats ls) (doneK E Tryz.f15 res) = start (fun q => I (pid q) (pvs q) (phs q)) (ls.headD .hole).toSl ((dropT 1 ls).headD .hole).toInt := by kernel_rfl
theorem run_eq (n : Nat) (ls : List L) : runF E live Tryz.f15 res n (initS pats ls) = start (iter step n) (ls.headD .hole).toSl ((dropT 1 ls).headD .hole).toInt := runF_iter (id := pid) (vs := pvs) (hs := phs) (step := step) (start := fun J => start J (ls.headD .hole).toSl ((dropT 1 ls).headD .hole).toInt) step_eq (fun I => start_eq I ls) n
def md (a0 : List MSigned) (a1 : Int) : Int := szM (szL (fun y : MSigned => MSigned.size y) a0) a1
def gd (a0 : List MSigned) (a1 : Int) : Prop := (SmL maxLen (fun y : MSigned => MSigned.Sm maxLen y) a0) ∧ 0 ≤ a1 ∧ a1 ≤ 1048576
def acc (ls : List L) : List (List L) × Int := ((ls.headD .hole).toSl, ((dropT 1 ls).headD .hole).toInt)
def R : (List (List L) × Int) → Option Int := RR (p2 gd) (u2 md)
theorem R_eq {a0} {a1} (h : gd a0 a1) : R ((a0.map MSigned.row), a1) = some (md a0 a1) := RR_eq (a := (a0, a1)) h
def con : Con := CN pats res acc R
theorem okF (a0 : List MSigned) (a1 : Int) (hg : gd a0 a1) : ∃ n, start (iter step n) (a0.map MSigned.row) a1 = ret ((md a0 a1) : Int) := by
  obtain ⟨hs, g0, g1⟩ := hg
  unfold start md
  simp only [List.length_map]
  refine sz_list (pt := fun left i => Pt.p0 (a0.map MSigned.row) left (i : Int)) (f := fun y : MSigned => MSigned.size y) hs.1 (fun J i h left p0 p1 => ?_) (fun J left => ?_) g0 g1
  · simp only [step, List.length_map, lt_dec h, zle_dec, cond_true, toNat_nat, MSigned.at_row h]
    rw [call_eq (Z4.R_eq ⟨hs.get h, p0, p1⟩), wrap_succ h hs.1]
    unfold Z4.md
    by_cases hc : left < ((MSigned.size (a0[i]) : Nat) : Int)
    · rw [szM_neg hc, if_pos hc]; rfl
    · rw [szM_pos hc, if_neg hc, dec_neg (by omega)]; rfl
  · simp only [step, List.length_map, nlt_dec, cond_false]
theorem valid_ : Valid Tryz.prog Ev 15 con := VV (run := fun n x => start (iter step n) x.1 x.2) mix tab_ok (.cons Z4.valid_ .nil) Tryz.func15 (by kernel_rfl) run_eq (fun _ a _ _ hg => okF a.1 a.2 hg)
end Z5
namespace Z6
inductive Pt where
 | p0 (a : List (List L)) (b : Int) (c : Int)
def pid : Pt → Nat
 | .p0 .. => 5
def pvs : Pt → List V
 | .p0 a b c => [.sl none 31 a, .int .i64 b, .int .i64 c]
def phs : Pt → List Root
 | .p0 a b c => []
def step (J : Pt → Ans) : Pt → Ans
 | .p0 a b c => (bif (decide (c < (a.length : Int))) then (bif (decide ((0 : Int) ≤ c)) then (bif (decide (c < (a.length : Int))) then (call (Z5.R ((lAt a (Int.toNat c)), b)) fun v1 => (bif (decide (v1 < 0)) then ret ((-1) : Int) else J (.p0 a v1 (IntKind.i64.wrap (c + 1))))) else none) else none) else ret (b : Int))
def start (J : Pt → Ans) (x0 : List (List L)) (x1 : Int) : Ans := (bif (decide ((IntKind.i64.wrap (x1 - (x0.length : Int))) < 0)) then ret ((-1) : Int) else J (.p0 x0 (IntKind.i64.wrap (x1 - (x0.length : Int))) 0))
def live : Nat → Live := fun i => match i with | 5 => [(0, none), (1, none), (5, none)] | _ => []
def pats : List Pat := [.rd (.sl 31), .rd (.int .i64)]
def res : RP := .one (.rd (.int .i64))
abbrev E : Env := { T := assoc Tab, G := conG [(15, Z5.con)], nt := 27 }
theorem step_eq (I : Heads) (p : Pt) : enterC E live I (pid p) (bodyOf Tryz.f71) (stOf (live (pid p)) (pvs p) (phs p)) (doneK E Tryz.f71 res) = step (fun q => I (pid q) (pvs q) (phs q)) p := by
 cases p <;> kernel_rfl
theorem start_eq (I : Heads) (ls : List L) : runC E live I (bodyOf Tryz.f71) (initS pats ls) (doneK E Tryz.f71 res) = start (fun q => I (pid q) (pvs q) (phs q)) (ls.headD .hole).toSl ((dropT 1 ls).headD .hole).toInt := by kernel_rfl
theorem run_eq (n : Nat) (ls : List L) : runF E live Tryz.f71 res n (initS pats ls) = start (iter step n) (ls.headD .hole).toSl ((dropT 1 ls).headD .hole).toInt := runF_iter (id := pid) (vs := pvs) (hs := phs) (step := step) (start := fun J => start J (ls.headD .hole).toSl ((dropT 1 ls).headD .hole).toInt) step_eq (fun I => start_eq I ls) n
def md (a0 : List (List MSigned)) (a1 : Int) : Int := szM (szL (fun y : List MSigned => szL (fun y : MSigned => MSigned.size y) y) a0) a1
def gd (a0 : List (List MSigned)) (a1 : Int) : Prop := (SmL maxLen (fun y : List MSigned => SmL maxLen (fun y : MSigned => MSigned.Sm maxLen y) y) a0) ∧ 0 ≤ a1 ∧ a1 ≤ 1048576
def acc (ls : List L) : List (List L) × Int := ((ls.headD .hole).toSl, ((dropT 1 ls).headD .hole).toInt)
def R : (List (List L) × Int) → Option Int := RR (p2 gd) (u2 md)
theorem R_eq {a0} {a1} (h : gd a0 a1) : R ((a0.map (lRow MSigned.row)), a1) = some (md a0 a1) := RR_eq (a := (a0, a1)) h
def con : Con := CN pats res acc R
theorem okF (a0 : List (List MSigned)) (a1 : Int) (hg : gd a0 a1) : ∃ n, start (iter step n) (a0.map (lRow MSigned.row)) a1 = ret ((md a0 a1) : Int) := by
  obtain ⟨hs, g0, g1⟩ := hg
  unfold start md
  simp only [List.length_map]
  refine sz_list (pt := fun left i => Pt.p0 (a0.map (lRow MSigned.row)) left (i : Int)) (f := fun y : List MSigned => szL (fun y : MSigned => MSigned.size y) y) hs.1 (fun J i h left p0 p1 => ?_) (fun J left => ?_) g0 g1
  · simp only [step, List.length_map, lt_dec h, zle_dec, cond_true, toNat_nat, lAt_row h]
    rw [call_eq (Z5.R_eq ⟨hs.get h, p0, p1⟩), wrap_succ h hs.1]
    unfold Z5.md
    by_cases hc : left < ((szL (fun y : MSigned => MSigned.size y) (a0[i]) : Nat) : Int)
    · rw [szM_neg hc, if_pos hc]; rfl
    · rw [szM_pos hc, if_neg hc, dec_neg (by omega)]; rfl
  · simp only [step, List.length_map, nlt_dec, cond_false]
theorem valid_ : Valid Tryz.prog Ev 71 con := VV (run := fun n x => start (iter step n) x.1 x.2) mix tab_ok (.cons Z5.valid_ .nil) Tryz.func71 (by kernel_rfl) run_eq (fun _ a _ _ hg => okF a.1 a.2 hg)
end Z6
namespace Z7
def F (x0 : RFork) (x1 : Int) : Ans := (call (Z4.R (x0.fBefore, x1)) fun v1 => (bif (decide (v1 < 0)) then ret ((-1) : Int) else (call (Z4.R (x0.fA, v1)) fun v2 => (bif (decide (v2 < 0)) then ret ((-1) : Int) else (call (Z4.R (x0.fB, v2)) fun v3 => (bif (decide (v3 < 0)) then ret ((-1) : Int) else ret (v3 : Int)))))))
def pats : List Pat := [.agg [.int .i64, .int .i64, .int .i64, .int .i64, .int .i64, .int .i64, .int .i64, .int .i64, .sl 3, .int .i64, .sl 3, .int .i64, .int .i64, .sl 3, .int .i64, .bool, .sl 216, .int .i64, .int .i64, .int .i64, .int .i64, .int .i64, .int .i64, .int .i64, .int .i64, .sl 3, .int .i64, .sl 3, .int .i64, .int .i64, .sl 3, .int .i64, .bool, .sl 216, .int .i64, .int .i64, .int .i64, .int .i64, .int .i64, .int .i64, .int .i64, .int .i64, .sl 3, .int .i64, .sl 3, .int .i64, .int .i64, .sl 3, .int .i64, .bool, .sl 216], .rd (.int .i64)]
def res : RP := .one (.rd (.int .i64))
def md (a0 : MFork) (a1 : Int) : Int := szM (MFork.size a0) a1
def gd (a0 : MFork) (a1 : Int) : Prop := (MFork.Sm maxLen a0) ∧ 0 ≤ a1 ∧ a1 ≤ 1048576
def acc (ls : List L) : RFork × Int := ((RFork.dec ls), ((dropT 51 ls).headD .hole).toInt)
def R : (RFork × Int) → Option Int := RR (p2 gd) (u2 md)
theorem R_eq {a0} {a1} (h : gd a0 a1) : R ((MFork.r a0), a1) = some (md a0 a1) := RR_eq (a := (a0, a1)) h
def con : Con := CN pats res acc R
theorem okF (a0 : MFork) (a1 : Int) (hg : gd a0 a1) : F (MFork.r a0) a1 = ret ((md a0 a1) : Int) := by
  obtain ⟨hs, g0, g1⟩ := hg
  unfold md
  show (call (Z4.R ((MSigned.r a0.fBefore), a1)) fun v1 => (bif (decide (v1 < 0)) then ret ((-1) : Int) else (call (Z4.R ((MSigned.r a0.fA), v1)) fun v2 => (bif (decide (v2 < 0)) then ret ((-1) : Int) else (call (Z4.R ((MSigned.r a0.fB), v2)) fun v3 => (bif (decide (v3 < 0)) then ret ((-1) : Int) else ret (v3 : Int))))))) = _
  rw [call_eq (Z4.R_eq (a1 := a1) ⟨hs.1, by omega, by omega⟩)]
  unfold Z4.md
  by_cases c0 : a1 < ((MSigned.size a0.fBefore : Nat) : Int)
  · rw [szM_neg c0]; rw [show szM (MFork.size a0) a1 = -1 from szM_neg (by unfold MFork.size; omega)]; try rfl
  rw [szM_pos c0, dec_neg (by omega), cond_false]
  rw [call_eq (Z4.R_eq (a1 := (a1 - ((MSigned.size a0.fBefore : Nat) : Int))) ⟨hs.2.1, by omega, by omega⟩)]
  unfold Z4.md
  by_cases c1 : (a1 - ((MSigned.size a0.fBefore : Nat) : Int)) < ((MSigned.size a0.fA : Nat) : Int)
  · rw [szM_neg c1]; rw [show szM (MFork.size a0) a1 = -1 from szM_neg (by unfold MFork.size; omega)]; try rfl
  rw [szM_pos c1, dec_neg (by omega), cond_false]
  rw [call_eq (Z4.R_eq (a1 := (a1 - ((MSigned.size a0.fBefore : Nat) : Int) - ((MSigned.size a0.fA : Nat) : Int))) ⟨hs.2.2, by omega, by omega⟩)]
  unfold Z4.md
  by_cases c2 : (a1 - ((MSigned.size a0.fBefore : Nat) : Int) - ((MSigned.size a0.fA : Nat) : Int)) < ((MSigned.size a0.fB : Nat) : Int)
  · rw [szM_neg c2]; rw [show szM (MFork.size a0) a1 = -1 from szM_neg (by unfold MFork.size; omega)]; try rfl
  rw [szM_pos c2, dec_neg (by omega), cond_false]
  rw [show szM (MFork.size a0) a1 = a1 - ((MSigned.size a0.fBefore : Nat) : Int) - ((MSigned.size a0.fA : Nat) : Int) - ((MSigned.size a0.fB : Nat) : Int) from by rw [szM_pos (by unfold MFork.size; omega)]; unfold MFork.size; omega]
theorem valid_ : Valid Tryz.prog Ev 137 con := VV (live := fun _ => []) (nt := 24) (run := fun _ x => F x.1 x.2) mix tab_ok (.cons Z4.valid_ .nil) Tryz.func137 (by kernel_rfl) (fun _ _ => by kernel_rfl) (fun _ a _ _ hg => ⟨0, okF a.1 a.2 hg⟩)
end Z7
namespace Z8
inductive Pt where
 | p0 (a : List (List L)) (b : Int) (c : Int)
def pid : Pt → Nat
 | .p0 .. => 5
def pvs : Pt → List V
 | .p0 a b c => [.sl none 187 a, .int .i64 b, .int .i64 c]
def phs : Pt → List Root
 | .p0 a b c => []
def step (J : Pt → Ans) : Pt → Ans
 | .p0 a b c => (bif (decide (c < (a.length : Int))) then (bif (decide ((0 : Int) ≤ c)) then (bif (decide (c < (a.length : Int))) then (call (Z7.R ((RFork.at a (Int.toNat c)), b)) fun v1 => (bif (decide (v1 < 0)) then ret ((-1) : Int) else J (.p0 a v1 (IntKind.i64.wrap (c + 1))))) else none) else none) else ret (b : Int))
def start (J : Pt → Ans) (x0 : List (List L)) (x1 : Int) : Ans := (bif (decide ((IntKind.i64.wrap (x1 - (x0.length : Int))) < 0)) then ret ((-1) : Int) else J (.p0 x0 (IntKind.i64.wrap (x1 - (x0.length : Int))) 0))
def live : Nat → Live := fun i => match i with | 5 => [(0, none), (1, none), (5, none)] | _ => []
def pats : List Pat := [.rd (.sl 187), .rd (.int .i64)]
def res : RP := .one (.rd (.int .i64))
abbrev E : Env := { T := assoc Tab, G := conG [(137, Z7.con)], nt := 27 }
theorem step_eq (I : Heads) (p : Pt) : enterC E live I (pid p) (bodyOf Tryz.f72) (stOf (live (pid p)) (pvs p) (phs p)) (doneK E Tryz.f72 res) = step (fun q => I (pid q) (pvs q) (phs q)) p := by
 cases p <;> kernel_rfl
theorem start_eq (I : Heads) (ls : List L) : runC E live I (bodyOf Tryz.f72) (initS pats ls) (doneK E Tryz.f72 res) = start (fun q => I (pid q) (pvs q) (phs q)) (ls.headD .hole).toSl ((dropT 1 ls).headD .hole).toInt := by kernel_rfl
theorem run_eq (n : Nat) (ls : List L) : runF E live Tryz.f72 res n (initS pats ls) = start (iter step n) (ls.headD .hole).toSl ((dropT 1 ls).headD .hole).toInt := runF_iter (id := pid) (vs := pvs) (hs := phs) (step := step) (start := fun J => start J (ls.headD .hole).toSl ((dropT 1 ls).headD .hole).toInt) step_eq (fun I => start_eq I ls) n
def md (a0 : List MFork) (a1 : Int) : Int := szM (szL (fun y : MFork => MFork.size y) a0) a1
def gd (a0 : List MFork) (a1 : Int) : Prop := (SmL maxLen (fun y : MFork => MFork.Sm maxLen y) a0) ∧ 0 ≤ a1 ∧ a1 ≤ 1048576
def acc (ls : List L) : List (List L) × Int := ((ls.headD .hole).toSl, ((dropT 1 ls).headD .hole).toInt)
def R : (List (List L) × Int) → Option Int := RR (p2 gd) (u2 md)
theorem R_eq {a0} {a1} (h : gd a0 a1) : R ((a0.map MFork.row), a1) = some (md a0 a1) := RR_eq (a := (a0, a1)) h
def con : Con := CN pats res acc R
theorem okF (a0 : List MFork) (a1 : Int) (hg : gd a0 a1) : ∃ n, start (iter step n) (a0.map MFork.row) a1 = ret ((md a0 a1) : Int) := by
  obtain ⟨hs, g0, g1⟩ := hg
  unfold start md
  simp only [List.length_map]
  refine sz_list (pt := fun left i => Pt.p0 (a0.map MFork.row) left (i : Int)) (f := fun y : MFork => MFork.size y) hs.1 (fun J i h left p0 p1 => ?_) (fun J left => ?_) g0 g1
  · simp only [step, List.length_map, lt_dec h, zle_dec, cond_true, toNat_nat, MFork.at_row h]
    rw [call_eq (Z7.R_eq ⟨hs.get h, p0, p1⟩), wrap_succ h hs.1]
    unfold Z7.md
    by_cases hc : left < ((MFork.size (a0[i]) : Nat) : Int)
    · rw [szM_neg hc, if_pos hc]; rfl
    · rw [szM_pos hc, if_neg hc, dec_neg (by omega)]; rfl
  · simp only [step, List.length_map, nlt_dec, cond_false]
theorem valid_ : Valid Tryz.prog Ev 72 con := VV (run := fun n x => start (iter step n) x.1 x.2) mix tab_ok (.cons Z7.valid_ .nil) Tryz.func72 (by kernel_rfl) run_eq (fun _ a _ _ hg => okF a.1 a.2 hg)
end Z8
namespace Z9
def F (x0 : RKnown) (x1 : Int) : Ans := (call (Z6.R (x0.fChains, x1)) fun v1 => (bif (decide (v1 < 0)) then ret ((-1) : Int) else (call (Z8.R (x0.fForks, v1)) fun v2 => (bif (decide (v2 < 0)) then ret ((-1) : Int) else ret (v2 : Int)))))
def pats : List Pat := [.agg [.sl 31, .sl 187], .rd (.int .i64)]
def res : RP := .one (.rd (.int .i64))
def md (a0 : MKnown) (a1 : Int) : Int := szM (MKnown.size a0) a1
def gd (a0 : MKnown) (a1 : Int) : Prop := (MKnown.Sm maxLen a0) ∧ 0 ≤ a1 ∧ a1 ≤ 1048576
def acc (ls : List L) : RKnown × Int := ((RKnown.dec ls), ((dropT 2 ls).headD .hole).toInt)
def R : (RKnown × Int) → Option Int := RR (p2 gd) (u2 md)
theorem R_eq {a0} {a1} (h : gd a0 a1) : R ((MKnown.r a0), a1) = some (md a0 a1) := RR_eq (a := (a0, a1)) h
def con : Con := CN pats res acc R
theorem okF (a0 : MKnown) (a1 : Int) (hg : gd a0 a1) : F (MKnown.r a0) a1 = ret ((md a0 a1) : Int) := by
  obtain ⟨hs, g0, g1⟩ := hg
  unfold md
  show (call (Z6.R ((a0.fChains.map (lRow MSigned.row)), a1)) fun v1 => (bif (decide (v1 < 0)) then ret ((-1) : Int) else (call (Z8.R ((a0.fForks.map MFork.row), v1)) fun v2 => (bif (decide (v2 < 0)) then ret ((-1) : Int) else ret (v2 : Int))))) = _
  rw [call_eq (Z6.R_eq (a1 := a1) ⟨hs.1, by omega, by omega⟩)]
  unfold Z6.md
  by_cases c0 : a1 < ((szL (fun y : List MSigned => szL (fun y : MSigned => MSigned.size y) y) a0.fChains : Nat) : Int)
  · rw [szM_neg c0]; rw [show szM (MKnown.size a0) a1 = -1 from szM_neg (by unfold MKnown.size; omega)]; try rfl
  rw [szM_pos c0, dec_neg (by omega), cond_false]
  rw [call_eq (Z8.R_eq (a1 := (a1 - ((szL (fun y : List MSigned => szL (fun y : MSigned => MSigned.size y) y) a0.fChains : Nat) : Int))) ⟨hs.2, by omega, by omega⟩)]
  unfold Z8.md
  by_cases c1 : (a1 - ((szL (fun y : List MSigned => szL (fun y : MSigned => MSigned.size y) y) a0.fChains : Nat) : Int)) < ((szL (fun y : MFork => MFork.size y) a0.fForks : Nat) : Int)
  · rw [szM_neg c1]; rw [show szM (MKnown.size a0) a1 = -1 from szM_neg (by unfold MKnown.size; omega)]; try rfl
  rw [szM_pos c1, dec_neg (by omega), cond_false]
  rw [show szM (MKnown.size a0) a1 = a1 - ((szL (fun y : List MSigned => szL (fun y : MSigned => MSigned.size y) y) a0.fChains : Nat) : Int) - ((szL (fun y : MFork => MFork.size y) a0.fForks : Nat) : Int) from by rw [szM_pos (by unfold MKnown.size; omega)]; unfold MKnown.size; omega]
theorem valid_ : Valid Tryz.prog Ev 24 con := VV (live := fun _ => []) (nt := 18) (run := fun _ x => F x.1 x.2) mix tab_ok (.cons Z6.valid_ (.cons Z8.valid_ .nil)) Tryz.func24 (by kernel_rfl) (fun _ _ => by kernel_rfl) (fun _ a _ _ hg => ⟨0, okF a.1 a.2 hg⟩)
end Z9
namespace Z10
inductive Pt where
 | p0 (a : List (List L)) (b : Int) (c : List (List L))
def pid : Pt → Nat
 | .p0 .. => 3
def pvs : Pt → List V
 | .p0 a b c => [.sl none 3 a, .own 0, .int .i64 b]
def phs : Pt → List Root
 | .p0 a b c => [.row 3 c]
def step (J : Pt → Ans) : Pt → Ans
 | .p0 a b c => (bif (decide (b < (a.length : Int))) then (bif (decide ((0 : Int) ≤ b)) then (bif (decide (b < (a.length : Int))) then (bif (decide ((0 : Int) ≤ b)) then (bif (decide (b < (c.length : Int))) then J (.p0 a (IntKind.i64.wrap (b + 1)) (List.set c (Int.toNat b) [L.int (iAt a (Int.toNat b))])) else none) else none) else none) else none) else ret (c : List (List L)))
def start (J : Pt → Ans) (x0 : List (List L)) : Ans := (bif (decide ((0 : Int) ≤ (x0.length : Int))) then (bif (decide ((x0.length : Int) ≤ (x0.length : Int))) then (bif (decide ((x0.length : Int) * 8 ≤ 140737488355328)) then J (.p0 x0 0 (List.replicate (Int.toNat (x0.length : Int)) [L.int 0])) else none) else none) else none)
def live : Nat → Live := fun i => match i with | 3 => [(0, none), (3, none), (4, none)] | _ => []
def pats : List Pat := [.rd (.sl 3)]
def res : RP := .one (.fr 3)
abbrev E : Env := { T := assoc Tab, G := conG [], nt := 22 }
theorem step_eq (I : Heads) (p : Pt) : enterC E live I (pid p) (bodyOf Tryz.f171) (stOf (live (pid p)) (pvs p) (phs p)) (doneK E Tryz.f171 res) = step (fun q => I (pid q) (pvs q) (phs q)) p := by
 cases p <;> kernel_rfl
theorem start_eq (I : Heads) (ls : List L) : runC E live I (bodyOf Tryz.f171) (initS pats ls) (doneK E Tryz.f171 res) = start (fun q => I (pid q) (pvs q) (phs q)) (ls.headD .hole).toSl := by kernel_rfl
theorem run_eq (n : Nat) (ls : List L) : runF E live Tryz.f171 res n (initS pats ls) = start (iter step n) (ls.headD .hole).toSl := runF_iter (id := pid) (vs := pvs) (hs := phs) (step := step) (start := fun J => start J (ls.headD .hole).toSl) step_eq (fun I => start_eq I ls) n
def md (a0 : List Int) : List Int := a0
def gd (a0 : List Int) : Prop := SmL (2 ^ 36) (fun y : Int => True) a0
def acc (ls : List L) : List (List L) := (ls.headD .hole).toSl
def R : (List (List L)) → Option (List (List L)) := RR gd md
theorem R_eq {a0} (h : gd a0) : R (a0.map iRow) = some ((md a0).map iRow) := RR_eq (a := a0) h
def con : Con := CN pats res acc R
theorem okF (a0 : List Int) (hg : gd a0) : ∃ n, start (iter step n) (a0.map iRow) = ret (((md a0).map iRow) : List (List L)) := by
  unfold start md
  simp only [List.length_map]
  refine to_list (b := 8) (pt := fun i c => Pt.p0 (a0.map iRow) (i : Int) c) (by have := hg.1; simp at this; omega) (fun J i h c hc => ?_) (fun J c => ?_)
  · simp only [step, List.length_map, lt_dec h, zle_dec, cond_true, toNat_nat, iAt_row h, hc]
    rw [wrap_succ (n := a0.length) h (by have := hg.1; simp only [maxLen]; simp at this; omega)]
    rfl
  · simp only [step, List.length_map, nlt_dec, cond_false]
theorem valid_ : Valid Tryz.prog Ev 171 con := VV (run := fun n x => start (iter step n) x) mix tab_ok .nil Tryz.func171 (by kernel_rfl) run_eq (fun _ a _ _ hg => okF a hg)
end Z10
namespace Z11
def F (x0 : RKeys) : Ans := (call (Z10.R x0.fList) fun v1 => ret ((⟨v1, x0.fNeed⟩ : RKeys) : RKeys))
def pats : List Pat := [.agg [.sl 3, .int .i64]]
def res : RP := .agg [.fr 3, .rd (.int .i64)]
def md (a0 : MKeys) : MKeys := a0
def gd (a0 : MKeys) : Prop := MKeys.Sm (2 ^ 36) a0
def acc (ls : List L) : RKeys := (RKeys.dec ls)
def R : RKeys → Option RKeys := RR gd md
theorem R_eq {a0} (h : gd a0) : R (MKeys.r a0) = some (MKeys.r (md a0)) := RR_eq (a := a0) h
def con : Con := CN pats res acc R
theorem okF (a0 : MKeys) (hg : gd a0) : F (MKeys.r a0) = ret ((MKeys.r (md a0)) : RKeys) := by
 unfold md
 show (call (Z10.R (a0.fList.map iRow)) fun v1 => ret ((⟨v1, a0.fNeed⟩ : RKeys) : RKeys)) = _
 rw [call_eq (Z10.R_eq hg)]
 rfl
theorem valid_ : Valid Tryz.prog Ev 184 con := VV (live := fun _ => []) (nt := 12) (run := fun _ x => F x) mix tab_ok (.cons Z10.valid_ .nil) Tryz.func184 (by kernel_rfl) (fun _ _ => by kernel_rfl) (fun _ a _ _ hg => ⟨0, okF a hg⟩)
end Z11
namespace Z12
def F (x0 : RHead) : Ans := (call (Z11.R x0.fKeys) fun v1 => (call (Z11.R x0.fHeirs) fun v2 => (call (Z11.R x0.fJudge) fun v3 => ret ((⟨x0.fZone, x0.fEpoch, x0.fKind, x0.fTime, x0.fUntil, x0.fCount, x0.fRoot, x0.fPrev, v1, v2, x0.fWait, v3, x0.fFrozen⟩ : RHead) : RHead))))
def pats : List Pat := [.agg [.int .i64, .int .i64, .int .i64, .int .i64, .int .i64, .int .i64, .int .i64, .int .i64, .sl 3, .int .i64, .sl 3, .int .i64, .int .i64, .sl 3, .int .i64, .bool]]
def res : RP := .agg [.rd (.int .i64), .rd (.int .i64), .rd (.int .i64), .rd (.int .i64), .rd (.int .i64), .rd (.int .i64), .rd (.int .i64), .rd (.int .i64), .fr 3, .rd (.int .i64), .fr 3, .rd (.int .i64), .rd (.int .i64), .fr 3, .rd (.int .i64), .rd (.bool)]
def md (a0 : MHead) : MHead := a0
def gd (a0 : MHead) : Prop := MHead.Sm (2 ^ 36) a0
def acc (ls : List L) : RHead := (RHead.dec ls)
def R : RHead → Option RHead := RR gd md
theorem R_eq {a0} (h : gd a0) : R (MHead.r a0) = some (MHead.r (md a0)) := RR_eq (a := a0) h
def con : Con := CN pats res acc R
theorem okF (a0 : MHead) (hg : gd a0) : F (MHead.r a0) = ret ((MHead.r (md a0)) : RHead) := by
 unfold md
 show (call (Z11.R (MKeys.r a0.fKeys)) fun v1 => (call (Z11.R (MKeys.r a0.fHeirs)) fun v2 => (call (Z11.R (MKeys.r a0.fJudge)) fun v3 => ret ((⟨a0.fZone, a0.fEpoch, a0.fKind, a0.fTime, a0.fUntil, a0.fCount, a0.fRoot, a0.fPrev, v1, v2, a0.fWait, v3, a0.fFrozen⟩ : RHead) : RHead)))) = _
 rw [call_eq (Z11.R_eq hg.1)]
 rw [call_eq (Z11.R_eq hg.2.1)]
 rw [call_eq (Z11.R_eq hg.2.2)]
 rfl
theorem valid_ : Valid Tryz.prog Ev 131 con := VV (live := fun _ => []) (nt := 47) (run := fun _ x => F x) mix tab_ok (.cons Z11.valid_ .nil) Tryz.func131 (by kernel_rfl) (fun _ _ => by kernel_rfl) (fun _ a _ _ hg => ⟨0, okF a hg⟩)
end Z12
namespace Z13
def F (x0 : MSig) : Ans := ret (x0 : MSig)
def pats : List Pat := [.agg [.int .i64, .int .i64]]
def res : RP := .agg [.rd (.int .i64), .rd (.int .i64)]
def md (a0 : MSig) : MSig := a0
def gd (a0 : MSig) : Prop := MSig.Sm (2 ^ 36) a0
def acc (ls : List L) : MSig := (MSig.dec ls)
def R : MSig → Option MSig := RR gd md
theorem R_eq {a0} (h : gd a0) : R a0 = some (md a0) := RR_eq (a := a0) h
def con : Con := CN pats res acc R
theorem okF (a0 : MSig) (hg : gd a0) : F a0 = ret ((md a0) : MSig) := by
 rfl
theorem valid_ : Valid Tryz.prog Ev 185 con := VV (live := fun _ => []) (nt := 11) (run := fun _ x => F x) mix tab_ok .nil Tryz.func185 (by kernel_rfl) (fun _ _ => by kernel_rfl) (fun _ a _ _ hg => ⟨0, okF a hg⟩)
end Z13
namespace Z14
inductive Pt where
 | p0 (a : List (List L)) (b : Int) (c : List (List L))
def pid : Pt → Nat
 | .p0 .. => 3
def pvs : Pt → List V
 | .p0 a b c => [.sl none 216 a, .own 0, .int .i64 b]
def phs : Pt → List Root
 | .p0 a b c => [.row 184 c]
def step (J : Pt → Ans) : Pt → Ans
 | .p0 a b c => (bif (decide (b < (a.length : Int))) then (bif (decide ((0 : Int) ≤ b)) then (bif (decide (b < (a.length : Int))) then (call (Z13.R (MSig.at a (Int.toNat b))) fun v1 => (bif (decide ((0 : Int) ≤ b)) then (bif (decide (b < (c.length : Int))) then J (.p0 a (IntKind.i64.wrap (b + 1)) (List.set c (Int.toNat b) (MSig.enc v1))) else none) else none)) else none) else none) else ret (c : List (List L)))
def start (J : Pt → Ans) (x0 : List (List L)) : Ans := (bif (decide ((0 : Int) ≤ (x0.length : Int))) then (bif (decide ((x0.length : Int) ≤ (x0.length : Int))) then (bif (decide ((x0.length : Int) * 16 ≤ 140737488355328)) then J (.p0 x0 0 (List.replicate (Int.toNat (x0.length : Int)) [L.int 0, L.int 0])) else none) else none) else none)
def live : Nat → Live := fun i => match i with | 3 => [(0, none), (3, none), (4, none)] | _ => []
def pats : List Pat := [.rd (.sl 216)]
def res : RP := .one (.fr 184)
abbrev E : Env := { T := assoc Tab, G := conG [(185, Z13.con)], nt := 23 }
theorem step_eq (I : Heads) (p : Pt) : enterC E live I (pid p) (bodyOf Tryz.f132) (stOf (live (pid p)) (pvs p) (phs p)) (doneK E Tryz.f132 res) = step (fun q => I (pid q) (pvs q) (phs q)) p := by
 cases p <;> kernel_rfl
theorem start_eq (I : Heads) (ls : List L) : runC E live I (bodyOf Tryz.f132) (initS pats ls) (doneK E Tryz.f132 res) = start (fun q => I (pid q) (pvs q) (phs q)) (ls.headD .hole).toSl := by kernel_rfl
theorem run_eq (n : Nat) (ls : List L) : runF E live Tryz.f132 res n (initS pats ls) = start (iter step n) (ls.headD .hole).toSl := runF_iter (id := pid) (vs := pvs) (hs := phs) (step := step) (start := fun J => start J (ls.headD .hole).toSl) step_eq (fun I => start_eq I ls) n
def md (a0 : List MSig) : List MSig := a0
def gd (a0 : List MSig) : Prop := SmL (2 ^ 36) (fun y : MSig => MSig.Sm (2 ^ 36) y) a0
def acc (ls : List L) : List (List L) := (ls.headD .hole).toSl
def R : (List (List L)) → Option (List (List L)) := RR gd md
theorem R_eq {a0} (h : gd a0) : R (a0.map MSig.row) = some ((md a0).map MSig.row) := RR_eq (a := a0) h
def con : Con := CN pats res acc R
theorem okF (a0 : List MSig) (hg : gd a0) : ∃ n, start (iter step n) (a0.map MSig.row) = ret (((md a0).map MSig.row) : List (List L)) := by
  unfold start md
  simp only [List.length_map]
  refine to_list (b := 16) (pt := fun i c => Pt.p0 (a0.map MSig.row) (i : Int) c) (by have := hg.1; simp at this; omega) (fun J i h c hc => ?_) (fun J c => ?_)
  · simp only [step, List.length_map, lt_dec h, zle_dec, cond_true, toNat_nat, MSig.at_row h, hc]
    rw [call_eq (Z13.R_eq (hg.get h))]
    try simp only [hc, lt_dec h, cond_true]
    rw [wrap_succ (n := a0.length) h (by have := hg.1; simp only [maxLen]; simp at this; omega)]
    rfl
  · simp only [step, List.length_map, nlt_dec, cond_false]
theorem valid_ : Valid Tryz.prog Ev 132 con := VV (run := fun n x => start (iter step n) x) mix tab_ok (.cons Z13.valid_ .nil) Tryz.func132 (by kernel_rfl) run_eq (fun _ a _ _ hg => okF a hg)
end Z14
namespace Z15
def F (x0 : RSigned) : Ans := (call (Z12.R x0.fHead) fun v1 => (call (Z14.R x0.fSigs) fun v2 => ret ((⟨v1, v2⟩ : RSigned) : RSigned)))
def pats : List Pat := [.agg [.int .i64, .int .i64, .int .i64, .int .i64, .int .i64, .int .i64, .int .i64, .int .i64, .sl 3, .int .i64, .sl 3, .int .i64, .int .i64, .sl 3, .int .i64, .bool, .sl 216]]
def res : RP := .agg [.rd (.int .i64), .rd (.int .i64), .rd (.int .i64), .rd (.int .i64), .rd (.int .i64), .rd (.int .i64), .rd (.int .i64), .rd (.int .i64), .fr 3, .rd (.int .i64), .fr 3, .rd (.int .i64), .rd (.int .i64), .fr 3, .rd (.int .i64), .rd (.bool), .fr 184]
def md (a0 : MSigned) : MSigned := a0
def gd (a0 : MSigned) : Prop := MSigned.Sm (2 ^ 36) a0
def acc (ls : List L) : RSigned := (RSigned.dec ls)
def R : RSigned → Option RSigned := RR gd md
theorem R_eq {a0} (h : gd a0) : R (MSigned.r a0) = some (MSigned.r (md a0)) := RR_eq (a := a0) h
def con : Con := CN pats res acc R
theorem okF (a0 : MSigned) (hg : gd a0) : F (MSigned.r a0) = ret ((MSigned.r (md a0)) : RSigned) := by
 unfold md
 show (call (Z12.R (MHead.r a0.fHead)) fun v1 => (call (Z14.R (a0.fSigs.map MSig.row)) fun v2 => ret ((⟨v1, v2⟩ : RSigned) : RSigned))) = _
 rw [call_eq (Z12.R_eq hg.1)]
 rw [call_eq (Z14.R_eq hg.2)]
 rfl
theorem valid_ : Valid Tryz.prog Ev 64 con := VV (live := fun _ => []) (nt := 13) (run := fun _ x => F x) mix tab_ok (.cons Z12.valid_ (.cons Z14.valid_ .nil)) Tryz.func64 (by kernel_rfl) (fun _ _ => by kernel_rfl) (fun _ a _ _ hg => ⟨0, okF a hg⟩)
end Z15
namespace Z16
inductive Pt where
 | p0 (a : List (List L)) (b : Int) (c : List (List L))
def pid : Pt → Nat
 | .p0 .. => 3
def pvs : Pt → List V
 | .p0 a b c => [.sl none 114 a, .own 0, .int .i64 b]
def phs : Pt → List Root
 | .p0 a b c => [.row 122 c]
def step (J : Pt → Ans) : Pt → Ans
 | .p0 a b c => (bif (decide (b < (a.length : Int))) then (bif (decide ((0 : Int) ≤ b)) then (bif (decide (b < (a.length : Int))) then (call (Z15.R (RSigned.at a (Int.toNat b))) fun v1 => (bif (decide ((0 : Int) ≤ b)) then (bif (decide (b < (c.length : Int))) then J (.p0 a (IntKind.i64.wrap (b + 1)) (List.set c (Int.toNat b) (RSigned.enc v1))) else none) else none)) else none) else none) else ret (c : List (List L)))
def start (J : Pt → Ans) (x0 : List (List L)) : Ans := (bif (decide ((0 : Int) ≤ (x0.length : Int))) then (bif (decide ((x0.length : Int) ≤ (x0.length : Int))) then (bif (decide ((x0.length : Int) * 200 ≤ 140737488355328)) then J (.p0 x0 0 (List.replicate (Int.toNat (x0.length : Int)) [L.int 0, L.int 0, L.int 0, L.int 0, L.int 0, L.int 0, L.int 0, L.int 0, L.sl [], L.int 0, L.sl [], L.int 0, L.int 0, L.sl [], L.int 0, L.bool false, L.sl []])) else none) else none) else none)
def live : Nat → Live := fun i => match i with | 3 => [(0, none), (3, none), (4, none)] | _ => []
def pats : List Pat := [.rd (.sl 114)]
def res : RP := .one (.fr 122)
abbrev E : Env := { T := assoc Tab, G := conG [(64, Z15.con)], nt := 23 }
theorem step_eq (I : Heads) (p : Pt) : enterC E live I (pid p) (bodyOf Tryz.f17) (stOf (live (pid p)) (pvs p) (phs p)) (doneK E Tryz.f17 res) = step (fun q => I (pid q) (pvs q) (phs q)) p := by
 cases p <;> kernel_rfl
theorem start_eq (I : Heads) (ls : List L) : runC E live I (bodyOf Tryz.f17) (initS pats ls) (doneK E Tryz.f17 res) = start (fun q => I (pid q) (pvs q) (phs q)) (ls.headD .hole).toSl := by kernel_rfl
theorem run_eq (n : Nat) (ls : List L) : runF E live Tryz.f17 res n (initS pats ls) = start (iter step n) (ls.headD .hole).toSl := runF_iter (id := pid) (vs := pvs) (hs := phs) (step := step) (start := fun J => start J (ls.headD .hole).toSl) step_eq (fun I => start_eq I ls) n
def md (a0 : List MSigned) : List MSigned := a0
def gd (a0 : List MSigned) : Prop := SmL (2 ^ 36) (fun y : MSigned => MSigned.Sm (2 ^ 36) y) a0
def acc (ls : List L) : List (List L) := (ls.headD .hole).toSl
def R : (List (List L)) → Option (List (List L)) := RR gd md
theorem R_eq {a0} (h : gd a0) : R (a0.map MSigned.row) = some ((md a0).map MSigned.row) := RR_eq (a := a0) h
def con : Con := CN pats res acc R
theorem okF (a0 : List MSigned) (hg : gd a0) : ∃ n, start (iter step n) (a0.map MSigned.row) = ret (((md a0).map MSigned.row) : List (List L)) := by
  unfold start md
  simp only [List.length_map]
  refine to_list (b := 200) (pt := fun i c => Pt.p0 (a0.map MSigned.row) (i : Int) c) (by have := hg.1; simp at this; omega) (fun J i h c hc => ?_) (fun J c => ?_)
  · simp only [step, List.length_map, lt_dec h, zle_dec, cond_true, toNat_nat, MSigned.at_row h, hc]
    rw [call_eq (Z15.R_eq (hg.get h))]
    try simp only [hc, lt_dec h, cond_true]
    rw [wrap_succ (n := a0.length) h (by have := hg.1; simp only [maxLen]; simp at this; omega)]
    rfl
  · simp only [step, List.length_map, nlt_dec, cond_false]
theorem valid_ : Valid Tryz.prog Ev 17 con := VV (run := fun n x => start (iter step n) x) mix tab_ok (.cons Z15.valid_ .nil) Tryz.func17 (by kernel_rfl) run_eq (fun _ a _ _ hg => okF a hg)
end Z16
namespace Z17
inductive Pt where
 | p0 (a : List (List L)) (b : Int) (c : List (List L))
def pid : Pt → Nat
 | .p0 .. => 3
def pvs : Pt → List V
 | .p0 a b c => [.sl none 31 a, .own 0, .int .i64 b]
def phs : Pt → List Root
 | .p0 a b c => [.row 38 c]
def step (J : Pt → Ans) : Pt → Ans
 | .p0 a b c => (bif (decide (b < (a.length : Int))) then (bif (decide ((0 : Int) ≤ b)) then (bif (decide (b < (a.length : Int))) then (call (Z16.R (lAt a (Int.toNat b))) fun v1 => (bif (decide ((0 : Int) ≤ b)) then (bif (decide (b < (c.length : Int))) then J (.p0 a (IntKind.i64.wrap (b + 1)) (List.set c (Int.toNat b) [L.sl v1])) else none) else none)) else none) else none) else ret (c : List (List L)))
def start (J : Pt → Ans) (x0 : List (List L)) : Ans := (bif (decide ((0 : Int) ≤ (x0.length : Int))) then (bif (decide ((x0.length : Int) ≤ (x0.length : Int))) then (bif (decide ((x0.length : Int) * 24 ≤ 140737488355328)) then J (.p0 x0 0 (List.replicate (Int.toNat (x0.length : Int)) [L.sl []])) else none) else none) else none)
def live : Nat → Live := fun i => match i with | 3 => [(0, none), (3, none), (4, none)] | _ => []
def pats : List Pat := [.rd (.sl 31)]
def res : RP := .one (.fr 38)
abbrev E : Env := { T := assoc Tab, G := conG [(17, Z16.con)], nt := 23 }
theorem step_eq (I : Heads) (p : Pt) : enterC E live I (pid p) (bodyOf Tryz.f78) (stOf (live (pid p)) (pvs p) (phs p)) (doneK E Tryz.f78 res) = step (fun q => I (pid q) (pvs q) (phs q)) p := by
 cases p <;> kernel_rfl
theorem start_eq (I : Heads) (ls : List L) : runC E live I (bodyOf Tryz.f78) (initS pats ls) (doneK E Tryz.f78 res) = start (fun q => I (pid q) (pvs q) (phs q)) (ls.headD .hole).toSl := by kernel_rfl
theorem run_eq (n : Nat) (ls : List L) : runF E live Tryz.f78 res n (initS pats ls) = start (iter step n) (ls.headD .hole).toSl := runF_iter (id := pid) (vs := pvs) (hs := phs) (step := step) (start := fun J => start J (ls.headD .hole).toSl) step_eq (fun I => start_eq I ls) n
def md (a0 : List (List MSigned)) : List (List MSigned) := a0
def gd (a0 : List (List MSigned)) : Prop := SmL (2 ^ 36) (fun y : List MSigned => SmL (2 ^ 36) (fun y : MSigned => MSigned.Sm (2 ^ 36) y) y) a0
def acc (ls : List L) : List (List L) := (ls.headD .hole).toSl
def R : (List (List L)) → Option (List (List L)) := RR gd md
theorem R_eq {a0} (h : gd a0) : R (a0.map (lRow MSigned.row)) = some ((md a0).map (lRow MSigned.row)) := RR_eq (a := a0) h
def con : Con := CN pats res acc R
theorem okF (a0 : List (List MSigned)) (hg : gd a0) : ∃ n, start (iter step n) (a0.map (lRow MSigned.row)) = ret (((md a0).map (lRow MSigned.row)) : List (List L)) := by
  unfold start md
  simp only [List.length_map]
  refine to_list (b := 24) (pt := fun i c => Pt.p0 (a0.map (lRow MSigned.row)) (i : Int) c) (by have := hg.1; simp at this; omega) (fun J i h c hc => ?_) (fun J c => ?_)
  · simp only [step, List.length_map, lt_dec h, zle_dec, cond_true, toNat_nat, lAt_row h, hc]
    rw [call_eq (Z16.R_eq (hg.get h))]
    try simp only [hc, lt_dec h, cond_true]
    rw [wrap_succ (n := a0.length) h (by have := hg.1; simp only [maxLen]; simp at this; omega)]
    rfl
  · simp only [step, List.length_map, nlt_dec, cond_false]
theorem valid_ : Valid Tryz.prog Ev 78 con := VV (run := fun n x => start (iter step n) x) mix tab_ok (.cons Z16.valid_ .nil) Tryz.func78 (by kernel_rfl) run_eq (fun _ a _ _ hg => okF a hg)
end Z17
namespace Z18
def F (x0 : RFork) : Ans := (call (Z15.R x0.fBefore) fun v1 => (call (Z15.R x0.fA) fun v2 => (call (Z15.R x0.fB) fun v3 => ret ((⟨v1, v2, v3⟩ : RFork) : RFork))))
def pats : List Pat := [.agg [.int .i64, .int .i64, .int .i64, .int .i64, .int .i64, .int .i64, .int .i64, .int .i64, .sl 3, .int .i64, .sl 3, .int .i64, .int .i64, .sl 3, .int .i64, .bool, .sl 216, .int .i64, .int .i64, .int .i64, .int .i64, .int .i64, .int .i64, .int .i64, .int .i64, .sl 3, .int .i64, .sl 3, .int .i64, .int .i64, .sl 3, .int .i64, .bool, .sl 216, .int .i64, .int .i64, .int .i64, .int .i64, .int .i64, .int .i64, .int .i64, .int .i64, .sl 3, .int .i64, .sl 3, .int .i64, .int .i64, .sl 3, .int .i64, .bool, .sl 216]]
def res : RP := .agg [.rd (.int .i64), .rd (.int .i64), .rd (.int .i64), .rd (.int .i64), .rd (.int .i64), .rd (.int .i64), .rd (.int .i64), .rd (.int .i64), .fr 3, .rd (.int .i64), .fr 3, .rd (.int .i64), .rd (.int .i64), .fr 3, .rd (.int .i64), .rd (.bool), .fr 184, .rd (.int .i64), .rd (.int .i64), .rd (.int .i64), .rd (.int .i64), .rd (.int .i64), .rd (.int .i64), .rd (.int .i64), .rd (.int .i64), .fr 3, .rd (.int .i64), .fr 3, .rd (.int .i64), .rd (.int .i64), .fr 3, .rd (.int .i64), .rd (.bool), .fr 184, .rd (.int .i64), .rd (.int .i64), .rd (.int .i64), .rd (.int .i64), .rd (.int .i64), .rd (.int .i64), .rd (.int .i64), .rd (.int .i64), .fr 3, .rd (.int .i64), .fr 3, .rd (.int .i64), .rd (.int .i64), .fr 3, .rd (.int .i64), .rd (.bool), .fr 184]
def md (a0 : MFork) : MFork := a0
def gd (a0 : MFork) : Prop := MFork.Sm (2 ^ 36) a0
def acc (ls : List L) : RFork := (RFork.dec ls)
def R : RFork → Option RFork := RR gd md
theorem R_eq {a0} (h : gd a0) : R (MFork.r a0) = some (MFork.r (md a0)) := RR_eq (a := a0) h
def con : Con := CN pats res acc R
theorem okF (a0 : MFork) (hg : gd a0) : F (MFork.r a0) = ret ((MFork.r (md a0)) : RFork) := by
 unfold md
 show (call (Z15.R (MSigned.r a0.fBefore)) fun v1 => (call (Z15.R (MSigned.r a0.fA)) fun v2 => (call (Z15.R (MSigned.r a0.fB)) fun v3 => ret ((⟨v1, v2, v3⟩ : RFork) : RFork)))) = _
 rw [call_eq (Z15.R_eq hg.1)]
 rw [call_eq (Z15.R_eq hg.2.1)]
 rw [call_eq (Z15.R_eq hg.2.2)]
 rfl
theorem valid_ : Valid Tryz.prog Ev 142 con := VV (live := fun _ => []) (nt := 17) (run := fun _ x => F x) mix tab_ok (.cons Z15.valid_ .nil) Tryz.func142 (by kernel_rfl) (fun _ _ => by kernel_rfl) (fun _ a _ _ hg => ⟨0, okF a hg⟩)
end Z18
namespace Z19
inductive Pt where
 | p0 (a : List (List L)) (b : Int) (c : List (List L))
def pid : Pt → Nat
 | .p0 .. => 3
def pvs : Pt → List V
 | .p0 a b c => [.sl none 187 a, .own 0, .int .i64 b]
def phs : Pt → List Root
 | .p0 a b c => [.row 134 c]
def step (J : Pt → Ans) : Pt → Ans
 | .p0 a b c => (bif (decide (b < (a.length : Int))) then (bif (decide ((0 : Int) ≤ b)) then (bif (decide (b < (a.length : Int))) then (call (Z18.R (RFork.at a (Int.toNat b))) fun v1 => (bif (decide ((0 : Int) ≤ b)) then (bif (decide (b < (c.length : Int))) then J (.p0 a (IntKind.i64.wrap (b + 1)) (List.set c (Int.toNat b) (RFork.enc v1))) else none) else none)) else none) else none) else ret (c : List (List L)))
def start (J : Pt → Ans) (x0 : List (List L)) : Ans := (bif (decide ((0 : Int) ≤ (x0.length : Int))) then (bif (decide ((x0.length : Int) ≤ (x0.length : Int))) then (bif (decide ((x0.length : Int) * 600 ≤ 140737488355328)) then J (.p0 x0 0 (List.replicate (Int.toNat (x0.length : Int)) [L.int 0, L.int 0, L.int 0, L.int 0, L.int 0, L.int 0, L.int 0, L.int 0, L.sl [], L.int 0, L.sl [], L.int 0, L.int 0, L.sl [], L.int 0, L.bool false, L.sl [], L.int 0, L.int 0, L.int 0, L.int 0, L.int 0, L.int 0, L.int 0, L.int 0, L.sl [], L.int 0, L.sl [], L.int 0, L.int 0, L.sl [], L.int 0, L.bool false, L.sl [], L.int 0, L.int 0, L.int 0, L.int 0, L.int 0, L.int 0, L.int 0, L.int 0, L.sl [], L.int 0, L.sl [], L.int 0, L.int 0, L.sl [], L.int 0, L.bool false, L.sl []])) else none) else none) else none)
def live : Nat → Live := fun i => match i with | 3 => [(0, none), (3, none), (4, none)] | _ => []
def pats : List Pat := [.rd (.sl 187)]
def res : RP := .one (.fr 134)
abbrev E : Env := { T := assoc Tab, G := conG [(142, Z18.con)], nt := 23 }
theorem step_eq (I : Heads) (p : Pt) : enterC E live I (pid p) (bodyOf Tryz.f79) (stOf (live (pid p)) (pvs p) (phs p)) (doneK E Tryz.f79 res) = step (fun q => I (pid q) (pvs q) (phs q)) p := by
 cases p <;> kernel_rfl
theorem start_eq (I : Heads) (ls : List L) : runC E live I (bodyOf Tryz.f79) (initS pats ls) (doneK E Tryz.f79 res) = start (fun q => I (pid q) (pvs q) (phs q)) (ls.headD .hole).toSl := by kernel_rfl
theorem run_eq (n : Nat) (ls : List L) : runF E live Tryz.f79 res n (initS pats ls) = start (iter step n) (ls.headD .hole).toSl := runF_iter (id := pid) (vs := pvs) (hs := phs) (step := step) (start := fun J => start J (ls.headD .hole).toSl) step_eq (fun I => start_eq I ls) n
def md (a0 : List MFork) : List MFork := a0
def gd (a0 : List MFork) : Prop := SmL (2 ^ 36) (fun y : MFork => MFork.Sm (2 ^ 36) y) a0
def acc (ls : List L) : List (List L) := (ls.headD .hole).toSl
def R : (List (List L)) → Option (List (List L)) := RR gd md
theorem R_eq {a0} (h : gd a0) : R (a0.map MFork.row) = some ((md a0).map MFork.row) := RR_eq (a := a0) h
def con : Con := CN pats res acc R
theorem okF (a0 : List MFork) (hg : gd a0) : ∃ n, start (iter step n) (a0.map MFork.row) = ret (((md a0).map MFork.row) : List (List L)) := by
  unfold start md
  simp only [List.length_map]
  refine to_list (b := 600) (pt := fun i c => Pt.p0 (a0.map MFork.row) (i : Int) c) (by have := hg.1; simp at this; omega) (fun J i h c hc => ?_) (fun J c => ?_)
  · simp only [step, List.length_map, lt_dec h, zle_dec, cond_true, toNat_nat, MFork.at_row h, hc]
    rw [call_eq (Z18.R_eq (hg.get h))]
    try simp only [hc, lt_dec h, cond_true]
    rw [wrap_succ (n := a0.length) h (by have := hg.1; simp only [maxLen]; simp at this; omega)]
    rfl
  · simp only [step, List.length_map, nlt_dec, cond_false]
theorem valid_ : Valid Tryz.prog Ev 79 con := VV (run := fun n x => start (iter step n) x) mix tab_ok (.cons Z18.valid_ .nil) Tryz.func79 (by kernel_rfl) run_eq (fun _ a _ _ hg => okF a hg)
end Z19
namespace Z20
def F (x0 : RKnown) : Ans := (call (Z17.R x0.fChains) fun v1 => (call (Z19.R x0.fForks) fun v2 => ret ((⟨v1, v2⟩ : RKnown) : RKnown)))
def pats : List Pat := [.agg [.sl 31, .sl 187]]
def res : RP := .agg [.fr 38, .fr 134]
def md (a0 : MKnown) : MKnown := a0
def gd (a0 : MKnown) : Prop := MKnown.Sm (2 ^ 36) a0
def acc (ls : List L) : RKnown := (RKnown.dec ls)
def R : RKnown → Option RKnown := RR gd md
theorem R_eq {a0} (h : gd a0) : R (MKnown.r a0) = some (MKnown.r (md a0)) := RR_eq (a := a0) h
def con : Con := CN pats res acc R
theorem okF (a0 : MKnown) (hg : gd a0) : F (MKnown.r a0) = ret ((MKnown.r (md a0)) : RKnown) := by
 unfold md
 show (call (Z17.R (a0.fChains.map (lRow MSigned.row))) fun v1 => (call (Z19.R (a0.fForks.map MFork.row)) fun v2 => ret ((⟨v1, v2⟩ : RKnown) : RKnown))) = _
 rw [call_eq (Z17.R_eq hg.1)]
 rw [call_eq (Z19.R_eq hg.2)]
 rfl
theorem valid_ : Valid Tryz.prog Ev 26 con := VV (live := fun _ => []) (nt := 13) (run := fun _ x => F x) mix tab_ok (.cons Z17.valid_ (.cons Z19.valid_ .nil)) Tryz.func26 (by kernel_rfl) (fun _ _ => by kernel_rfl) (fun _ a _ _ hg => ⟨0, okF a hg⟩)
end Z20
namespace Z21
def F (x0 : RKeys) : Ans := (bif (lim ((x0.fList.length : Int) * 8)) then ret (x0 : RKeys) else none)
def pats : List Pat := [.agg [.sl 3, .int .i64]]
def res : RP := .agg [.fr 3, .rd (.int .i64)]
def md (a0 : MKeys) : MKeys := a0
def gd (a0 : MKeys) : Prop := (MKeys.Sm (2 ^ 21) a0)
def acc (ls : List L) : RKeys := (RKeys.dec ls)
def R : RKeys → Option RKeys := RR gd md
theorem R_eq {a0} (h : gd a0) : R (MKeys.r a0) = some (MKeys.r (md a0)) := RR_eq (a := a0) h
def con : Con := CN pats res acc R
theorem okF (a0 : MKeys) (hg : gd a0) : F (MKeys.r a0) = ret ((MKeys.r (md a0)) : RKeys) := by
 unfold gd at hg
 have H0 := hg
 unfold F md
 try simp only [S0, MKeys.rs]
 refine yes_ret (by
   have := (H0).1
   refine lim_t ?_
   try simp (disch := omega) only [LN, wi]
   first | omega | (simp; done) | (simp; omega)) ?_
 all_goals first | rfl | (simp only [S0, MKeys.rs]; done) | (simp only [MP]; rfl) | (simp only [S0, MKeys.rs, MP]; first | done | rfl)
theorem valid_ : Valid Tryz.prog Ev 63 con := VV (live := fun _ => []) (nt := 10) (run := fun _ x => F x) mix tab_ok .nil Tryz.func63 (by kernel_rfl) (fun _ _ => by kernel_rfl) (fun _ a _ _ hg => ⟨0, okF a hg⟩)
end Z21
namespace Z22
def F (x0 : RHead) : Ans := (call (Z21.R x0.fKeys) fun v1 => (call (Z21.R x0.fHeirs) fun v2 => (call (Z21.R x0.fJudge) fun v3 => ret ((⟨x0.fZone, x0.fEpoch, x0.fKind, x0.fTime, x0.fUntil, x0.fCount, x0.fRoot, x0.fPrev, v1, v2, x0.fWait, v3, x0.fFrozen⟩ : RHead) : RHead))))
def pats : List Pat := [.agg [.int .i64, .int .i64, .int .i64, .int .i64, .int .i64, .int .i64, .int .i64, .int .i64, .sl 3, .int .i64, .sl 3, .int .i64, .int .i64, .sl 3, .int .i64, .bool]]
def res : RP := .agg [.rd (.int .i64), .rd (.int .i64), .rd (.int .i64), .rd (.int .i64), .rd (.int .i64), .rd (.int .i64), .rd (.int .i64), .rd (.int .i64), .fr 3, .rd (.int .i64), .fr 3, .rd (.int .i64), .rd (.int .i64), .fr 3, .rd (.int .i64), .rd (.bool)]
def md (a0 : MHead) : MHead := a0
def gd (a0 : MHead) : Prop := (MHead.Sm (2 ^ 21) a0)
def acc (ls : List L) : RHead := (RHead.dec ls)
def R : RHead → Option RHead := RR gd md
theorem R_eq {a0} (h : gd a0) : R (MHead.r a0) = some (MHead.r (md a0)) := RR_eq (a := a0) h
def con : Con := CN pats res acc R
theorem okF (a0 : MHead) (hg : gd a0) : F (MHead.r a0) = ret ((MHead.r (md a0)) : RHead) := by
  unfold gd at hg
  have H0 := hg
  unfold F md
  try simp only [S0, MHead.rs]
  refine call_to (MKeys.r a0.fKeys) ?_ ?_
  · have R_ := Z21.R_eq (a0 := a0.fKeys) H0.1
    simp only [Z21.md] at R_
    first | exact R_ | (simp only [MP, S0, MHead.rs] at R_ ⊢; first | exact R_ | (rw [← R_]; rfl))
  try simp only [S0, MHead.rs]
  refine call_to (MKeys.r a0.fHeirs) ?_ ?_
  · have R_ := Z21.R_eq (a0 := a0.fHeirs) H0.2.1
    simp only [Z21.md] at R_
    first | exact R_ | (simp only [MP, S0, MHead.rs] at R_ ⊢; first | exact R_ | (rw [← R_]; rfl))
  try simp only [S0, MHead.rs]
  refine call_to (MKeys.r a0.fJudge) ?_ ?_
  · have R_ := Z21.R_eq (a0 := a0.fJudge) H0.2.2
    simp only [Z21.md] at R_
    first | exact R_ | (simp only [MP, S0, MHead.rs] at R_ ⊢; first | exact R_ | (rw [← R_]; rfl))
  try simp only [S0, MHead.rs]
  all_goals first | rfl | (simp only [S0, MHead.rs]; done) | (simp only [MP]; rfl) | (simp only [S0, MHead.rs, MP]; first | done | rfl)
theorem valid_ : Valid Tryz.prog Ev 130 con := VV (live := fun _ => []) (nt := 18) (run := fun _ x => F x) mix tab_ok (.cons Z21.valid_ .nil) Tryz.func130 (by kernel_rfl) (fun _ _ => by kernel_rfl) (fun _ a _ _ hg => ⟨0, okF a hg⟩)
end Z22
namespace Z23
def F (x0 : RSigned) : Ans := (call (Z22.R x0.fHead) fun v1 => (bif (lim ((x0.fSigs.length : Int) * 16)) then ret ((⟨v1, x0.fSigs⟩ : RSigned) : RSigned) else none))
def pats : List Pat := [.agg [.int .i64, .int .i64, .int .i64, .int .i64, .int .i64, .int .i64, .int .i64, .int .i64, .sl 3, .int .i64, .sl 3, .int .i64, .int .i64, .sl 3, .int .i64, .bool, .sl 184]]
def res : RP := .agg [.rd (.int .i64), .rd (.int .i64), .rd (.int .i64), .rd (.int .i64), .rd (.int .i64), .rd (.int .i64), .rd (.int .i64), .rd (.int .i64), .fr 3, .rd (.int .i64), .fr 3, .rd (.int .i64), .rd (.int .i64), .fr 3, .rd (.int .i64), .rd (.bool), .fr 184]
def md (a0 : MSigned) : MSigned := a0
def gd (a0 : MSigned) : Prop := (MSigned.Sm (2 ^ 21) a0)
def acc (ls : List L) : RSigned := (RSigned.dec ls)
def R : RSigned → Option RSigned := RR gd md
theorem R_eq {a0} (h : gd a0) : R (MSigned.r a0) = some (MSigned.r (md a0)) := RR_eq (a := a0) h
def con : Con := CN pats res acc R
theorem okF (a0 : MSigned) (hg : gd a0) : F (MSigned.r a0) = ret ((MSigned.r (md a0)) : RSigned) := by
  unfold gd at hg
  have H0 := hg
  unfold F md
  try simp only [S0, MSigned.rs]
  refine call_to (MHead.r a0.fHead) ?_ ?_
  · have R_ := Z22.R_eq (a0 := a0.fHead) H0.1
    simp only [Z22.md] at R_
    first | exact R_ | (simp only [MP, S0, MSigned.rs] at R_ ⊢; first | exact R_ | (rw [← R_]; rfl))
  try simp only [S0, MSigned.rs]
  refine yes_ret (by
      have := (H0.2).1
      refine lim_t ?_
      try simp (disch := omega) only [LN, wi]
      first | omega | (simp; done) | (simp; omega)) ?_
  all_goals first | rfl | (simp only [S0, MSigned.rs]; done) | (simp only [MP]; rfl) | (simp only [S0, MSigned.rs, MP]; first | done | rfl)
theorem valid_ : Valid Tryz.prog Ev 140 con := VV (live := fun _ => []) (nt := 11) (run := fun _ x => F x) mix tab_ok (.cons Z22.valid_ .nil) Tryz.func140 (by kernel_rfl) (fun _ _ => by kernel_rfl) (fun _ a _ _ hg => ⟨0, okF a hg⟩)
end Z23
namespace Z24
inductive Pt where
 | p0 (a : List (List L)) (b : Int) (c : List (List L))
def pid : Pt → Nat
 | .p0 .. => 3
def pvs : Pt → List V
 | .p0 a b c => [.sl none 122 a, .own 0, .int .i64 b]
def phs : Pt → List Root
 | .p0 a b c => [.row 122 c]
def step (J : Pt → Ans) : Pt → Ans
 | .p0 a b c => (bif (decide (b < (a.length : Int))) then (bif (decide ((0 : Int) ≤ b)) then (bif (decide (b < (a.length : Int))) then (call (Z23.R (RSigned.at a (Int.toNat b))) fun v1 => (bif (lim (((c.length : Int) + 1) * 200)) then J (.p0 a (IntKind.i64.wrap (b + 1)) (c ++ [(RSigned.enc v1)])) else none)) else none) else none) else ret (c : List (List L)))
def start (J : Pt → Ans) (x0 : List (List L)) : Ans := J (.p0 x0 0 [])
def live : Nat → Live := fun i => match i with | 3 => [(0, none), (3, some 122), (4, none)] | _ => []
def pats : List Pat := [.rd (.sl 122)]
def res : RP := .one (.fr 122)
abbrev E : Env := { T := assoc Tab, G := conG [(140, Z23.con)], nt := 21 }
theorem step_eq (I : Heads) (p : Pt) : enterC E live I (pid p) (bodyOf Tryz.f75) (stOf (live (pid p)) (pvs p) (phs p)) (doneK E Tryz.f75 res) = step (fun q => I (pid q) (pvs q) (phs q)) p := by
 cases p <;> kernel_rfl
theorem start_eq (I : Heads) (ls : List L) : runC E live I (bodyOf Tryz.f75) (initS pats ls) (doneK E Tryz.f75 res) = start (fun q => I (pid q) (pvs q) (phs q)) (ls.headD .hole).toSl := by kernel_rfl
theorem run_eq (n : Nat) (ls : List L) : runF E live Tryz.f75 res n (initS pats ls) = start (iter step n) (ls.headD .hole).toSl := runF_iter (id := pid) (vs := pvs) (hs := phs) (step := step) (start := fun J => start J (ls.headD .hole).toSl) step_eq (fun I => start_eq I ls) n
def md (a0 : List MSigned) : List MSigned := a0
def gd (a0 : List MSigned) : Prop := (SmL (2 ^ 21) (fun y : MSigned => MSigned.Sm (2 ^ 21) y) a0)
def acc (ls : List L) : List (List L) := (ls.headD .hole).toSl
def R : (List (List L)) → Option (List (List L)) := RR gd md
theorem R_eq {a0} (h : gd a0) : R (a0.map MSigned.row) = some ((md a0).map MSigned.row) := RR_eq (a := a0) h
def con : Con := CN pats res acc R
theorem okF (a0 : List MSigned) (hg : gd a0) : ∃ n, start (iter step n) (a0.map MSigned.row) = ret (((md a0).map MSigned.row) : List (List L)) := by
  unfold gd at hg
  have H0 := hg
  unfold start md
  try simp only [S0, MSigned.rs]
  have Bh2 : a0.length ≤ maxLen := (by
      have := (H0).1
      try simp only [maxLen] at *
      omega)
  refine ex_eq (out := (fun b : List MSigned => ret ((b.map MSigned.row) : List (List L)))) (loopM_copy (xs := a0) (z := MSigned.zero) (t := fun s3 : List MSigned => s3)) ?_
  refine ex_pt (p := Pt.p0 (a0.map MSigned.row) 0 ([].map MSigned.row)) (by first | rfl | (simp only [S0, MSigned.rs, MP]; done) | (simp only [MP]; rfl)) ?_
  refine loopM_ok (pt := fun (i1 : Nat) (s3 : List MSigned) => Pt.p0 (a0.map MSigned.row) (i1 : Int) (s3.map MSigned.row)) (s := ([] : List MSigned)) (out := (fun b : List MSigned => ret ((b.map MSigned.row) : List (List L)))) (fun (i1 : Nat) (s3 : List MSigned) => s3.length ≤ ([] : List Int).length + 1 * i1) (fun J i1 s3 h2 hih2 => ?_) (fun s3 hih2 => ?_) (by simp)
  · simp only [step, S0, MSigned.rs]
    have gr_ := hih2
    try simp only [LN] at gr_
    have bb_ := Bh2
    simp only [maxLen] at bb_
    have := (H0).1
    refine Rnd.yes (by apply decide_eq_true; omega) ?_
    refine Rnd.yes zle_dec ?_
    refine Rnd.yes (lt_dec h2) ?_
    refine Rnd.call_to (MSigned.r (a0.getD i1 MSigned.zero)) ?_ ?_
    · have R_ := Z23.R_eq (a0 := (a0.getD i1 MSigned.zero)) (SmL.getD (z := MSigned.zero) H0 h2)
      simp only [Z23.md] at R_
      first | exact R_ | (simp only [MP, S0, MSigned.rs] at R_ ⊢; first | exact R_ | (rw [← R_]; rfl))
    try simp only [S0, MSigned.rs]
    refine Rnd.yes (by
        refine lim_t ?_
        try simp (disch := omega) only [LN, wi]
        first | omega | (simp; done) | (simp; omega)) ?_
    refine Rnd.inl (by
        have g_ := hih2
        try simp only [LN] at g_ ⊢
        first | omega | (simp; done) | (simp; omega)) ?_
    rw [wrap_succ h2 Bh2]
    all_goals first | rfl | (simp only [S0, MSigned.rs]; done) | (simp only [MP]; rfl) | (simp only [S0, MSigned.rs, MP]; first | done | rfl)
  · simp only [step, S0, MSigned.rs]
    have gr_ := hih2
    try simp only [LN] at gr_
    have := (H0).1
    refine ex_no (by apply decide_eq_false; omega) ?_
    refine ⟨0, ?_⟩
    all_goals first | rfl | (simp only [S0, MSigned.rs]; done) | (simp only [MP]; rfl) | (simp only [S0, MSigned.rs, MP]; first | done | rfl)
theorem valid_ : Valid Tryz.prog Ev 75 con := VV (run := fun n x => start (iter step n) x) mix tab_ok (.cons Z23.valid_ .nil) Tryz.func75 (by kernel_rfl) run_eq (fun _ a _ _ hg => okF a hg)
end Z24
namespace Z25
def F (x0 : RFork) : Ans := (call (Z23.R x0.fBefore) fun v1 => (call (Z23.R x0.fA) fun v2 => (call (Z23.R x0.fB) fun v3 => ret ((⟨v1, v2, v3⟩ : RFork) : RFork))))
def pats : List Pat := [.agg [.int .i64, .int .i64, .int .i64, .int .i64, .int .i64, .int .i64, .int .i64, .int .i64, .sl 3, .int .i64, .sl 3, .int .i64, .int .i64, .sl 3, .int .i64, .bool, .sl 184, .int .i64, .int .i64, .int .i64, .int .i64, .int .i64, .int .i64, .int .i64, .int .i64, .sl 3, .int .i64, .sl 3, .int .i64, .int .i64, .sl 3, .int .i64, .bool, .sl 184, .int .i64, .int .i64, .int .i64, .int .i64, .int .i64, .int .i64, .int .i64, .int .i64, .sl 3, .int .i64, .sl 3, .int .i64, .int .i64, .sl 3, .int .i64, .bool, .sl 184]]
def res : RP := .agg [.rd (.int .i64), .rd (.int .i64), .rd (.int .i64), .rd (.int .i64), .rd (.int .i64), .rd (.int .i64), .rd (.int .i64), .rd (.int .i64), .fr 3, .rd (.int .i64), .fr 3, .rd (.int .i64), .rd (.int .i64), .fr 3, .rd (.int .i64), .rd (.bool), .fr 184, .rd (.int .i64), .rd (.int .i64), .rd (.int .i64), .rd (.int .i64), .rd (.int .i64), .rd (.int .i64), .rd (.int .i64), .rd (.int .i64), .fr 3, .rd (.int .i64), .fr 3, .rd (.int .i64), .rd (.int .i64), .fr 3, .rd (.int .i64), .rd (.bool), .fr 184, .rd (.int .i64), .rd (.int .i64), .rd (.int .i64), .rd (.int .i64), .rd (.int .i64), .rd (.int .i64), .rd (.int .i64), .rd (.int .i64), .fr 3, .rd (.int .i64), .fr 3, .rd (.int .i64), .rd (.int .i64), .fr 3, .rd (.int .i64), .rd (.bool), .fr 184]
def md (a0 : MFork) : MFork := a0
def gd (a0 : MFork) : Prop := (MFork.Sm (2 ^ 21) a0)
def acc (ls : List L) : RFork := (RFork.dec ls)
def R : RFork → Option RFork := RR gd md
theorem R_eq {a0} (h : gd a0) : R (MFork.r a0) = some (MFork.r (md a0)) := RR_eq (a := a0) h
def con : Con := CN pats res acc R
theorem okF (a0 : MFork) (hg : gd a0) : F (MFork.r a0) = ret ((MFork.r (md a0)) : RFork) := by
  unfold gd at hg
  have H0 := hg
  unfold F md
  try simp only [S0, MFork.rs]
  refine call_to (MSigned.r a0.fBefore) ?_ ?_
  · have R_ := Z23.R_eq (a0 := a0.fBefore) H0.1
    simp only [Z23.md] at R_
    first | exact R_ | (simp only [MP, S0, MFork.rs] at R_ ⊢; first | exact R_ | (rw [← R_]; rfl))
  try simp only [S0, MFork.rs]
  refine call_to (MSigned.r a0.fA) ?_ ?_
  · have R_ := Z23.R_eq (a0 := a0.fA) H0.2.1
    simp only [Z23.md] at R_
    first | exact R_ | (simp only [MP, S0, MFork.rs] at R_ ⊢; first | exact R_ | (rw [← R_]; rfl))
  try simp only [S0, MFork.rs]
  refine call_to (MSigned.r a0.fB) ?_ ?_
  · have R_ := Z23.R_eq (a0 := a0.fB) H0.2.2
    simp only [Z23.md] at R_
    first | exact R_ | (simp only [MP, S0, MFork.rs] at R_ ⊢; first | exact R_ | (rw [← R_]; rfl))
  try simp only [S0, MFork.rs]
  all_goals first | rfl | (simp only [S0, MFork.rs]; done) | (simp only [MP]; rfl) | (simp only [S0, MFork.rs, MP]; first | done | rfl)
theorem valid_ : Valid Tryz.prog Ev 138 con := VV (live := fun _ => []) (nt := 13) (run := fun _ x => F x) mix tab_ok (.cons Z23.valid_ .nil) Tryz.func138 (by kernel_rfl) (fun _ _ => by kernel_rfl) (fun _ a _ _ hg => ⟨0, okF a hg⟩)
end Z25
namespace Z26
inductive Pt where
 | p0 (a : Int) (b : RKnown) (c : List (List L))
 | p1 (a : Int) (b : RKnown) (c : List (List L)) (d : List (List L))
def pid : Pt → Nat
 | .p0 .. => 3
 | .p1 .. => 7
def pvs : Pt → List V
 | .p0 a b c => [.bptr 0 0, .bptr 1 0, .bptr 2 0, .int .i64 a, .bptr 2 0]
 | .p1 a b c d => [.bptr 0 0, .bptr 1 0, .bptr 2 0, .int .i64 a, .bptr 2 0, .bptr 2 0]
def phs : Pt → List Root
 | .p0 a b c => [.box [.sl none 38 b.fChains, .sl none 134 b.fForks], .box [.nil, .nil], .box [.own 3, .nil], .row 38 c]
 | .p1 a b c d => [.box [.sl none 38 b.fChains, .sl none 134 b.fForks], .box [.nil, .nil], .box [.own 3, .own 4], .row 38 c, .row 134 d]
def step (J : Pt → Ans) : Pt → Ans
 | .p0 a b c => (bif (decide (a < (b.fChains.length : Int))) then (bif (decide ((0 : Int) ≤ a)) then (bif (decide (a < (b.fChains.length : Int))) then (call (Z24.R (lAt b.fChains (Int.toNat a))) fun v1 => (bif (lim (((c.length : Int) + 1) * 24)) then J (.p0 (IntKind.i64.wrap (a + 1)) b (c ++ [[L.sl v1]])) else none)) else none) else none) else J (.p1 0 b c []))
 | .p1 a b c d => (bif (decide (a < (b.fForks.length : Int))) then (bif (decide ((0 : Int) ≤ a)) then (bif (decide (a < (b.fForks.length : Int))) then (call (Z25.R (RFork.at b.fForks (Int.toNat a))) fun v1 => (bif (lim (((d.length : Int) + 1) * 600)) then J (.p1 (IntKind.i64.wrap (a + 1)) b c (d ++ [(RFork.enc v1)])) else none)) else none) else none) else ret ((⟨c, d⟩ : RKnown) : RKnown))
def start (J : Pt → Ans) (x0 : RKnown) : Ans := J (.p0 0 x0 [])
def live : Nat → Live := fun i => match i with | 3 => [(1, none), (2, none), (3, none), (4, none), (3, some 38)] | 7 => [(1, none), (2, none), (3, none), (5, none), (3, some 38), (3, some 1048710)] | _ => []
def pats : List Pat := [.agg [.sl 38, .sl 134]]
def res : RP := .agg [.fr 38, .fr 134]
abbrev E : Env := { T := assoc Tab, G := conG [(75, Z24.con), (138, Z25.con)], nt := 44 }
theorem step_eq (I : Heads) (p : Pt) : enterC E live I (pid p) (bodyOf Tryz.f73) (stOf (live (pid p)) (pvs p) (phs p)) (doneK E Tryz.f73 res) = step (fun q => I (pid q) (pvs q) (phs q)) p := by
 cases p <;> kernel_rfl
theorem start_eq (I : Heads) (ls : List L) : runC E live I (bodyOf Tryz.f73) (initS pats ls) (doneK E Tryz.f73 res) = start (fun q => I (pid q) (pvs q) (phs q)) (RKnown.dec ls) := by kernel_rfl
theorem run_eq (n : Nat) (ls : List L) : runF E live Tryz.f73 res n (initS pats ls) = start (iter step n) (RKnown.dec ls) := runF_iter (id := pid) (vs := pvs) (hs := phs) (step := step) (start := fun J => start J (RKnown.dec ls)) step_eq (fun I => start_eq I ls) n
def md (a0 : MKnown) : MKnown := a0
def gd (a0 : MKnown) : Prop := (MKnown.Sm (2 ^ 21) a0)
def acc (ls : List L) : RKnown := (RKnown.dec ls)
def R : RKnown → Option RKnown := RR gd md
theorem R_eq {a0} (h : gd a0) : R (MKnown.r a0) = some (MKnown.r (md a0)) := RR_eq (a := a0) h
def con : Con := CN pats res acc R
theorem okF (a0 : MKnown) (hg : gd a0) : ∃ n, start (iter step n) (MKnown.r a0) = ret ((MKnown.r (md a0)) : RKnown) := by
  unfold gd at hg
  have H0 := hg
  unfold start md
  try simp only [S0, MFork.rs, MKnown.rs]
  have Bh2 : a0.fChains.length ≤ maxLen := (by
      have := (H0.1).1
      try simp only [maxLen] at *
      omega)
  refine ex_eq (out := (fun b : MKnown => ret ((MKnown.r b) : RKnown))) (loopM_copy (xs := a0.fChains) (z := []) (t := fun s3 : List (List MSigned) => (⟨s3, a0.fForks⟩ : MKnown))) ?_
  refine ex_pt (p := Pt.p0 0 (MKnown.r a0) ([].map (lRow MSigned.row))) (by first | rfl | (simp only [S0, MFork.rs, MKnown.rs, MP]; done) | (simp only [MP]; rfl)) ?_
  refine loopM_ok (pt := fun (i1 : Nat) (s3 : List (List MSigned)) => Pt.p0 (i1 : Int) (MKnown.r a0) (s3.map (lRow MSigned.row))) (s := ([] : List (List MSigned))) (out := (fun b : MKnown => ret ((MKnown.r b) : RKnown))) (fun (i1 : Nat) (s3 : List (List MSigned)) => s3.length ≤ ([] : List Int).length + 1 * i1) (fun J i1 s3 h2 hih2 => ?_) (fun s3 hih2 => ?_) (by simp)
  · simp only [step, S0, MFork.rs, MKnown.rs]
    have gr_ := hih2
    try simp only [LN] at gr_
    have bb_ := Bh2
    simp only [maxLen] at bb_
    have := (H0.1).1
    refine Rnd.yes (by apply decide_eq_true; omega) ?_
    refine Rnd.yes zle_dec ?_
    refine Rnd.yes (lt_dec h2) ?_
    refine Rnd.call_to ((a0.fChains.getD i1 []).map MSigned.row) ?_ ?_
    · have R_ := Z24.R_eq (a0 := (a0.fChains.getD i1 [])) (SmL.getD (z := []) H0.1 h2)
      simp only [Z24.md] at R_
      first | exact R_ | (simp only [MP, S0, MFork.rs, MKnown.rs] at R_ ⊢; first | exact R_ | (rw [← R_]; rfl))
    try simp only [S0, MFork.rs, MKnown.rs]
    refine Rnd.yes (by
        refine lim_t ?_
        try simp (disch := omega) only [LN, wi]
        first | omega | (simp; done) | (simp; omega)) ?_
    refine Rnd.inl (by
        have g_ := hih2
        try simp only [LN] at g_ ⊢
        first | omega | (simp; done) | (simp; omega)) ?_
    rw [wrap_succ h2 Bh2]
    all_goals first | rfl | (simp only [S0, MFork.rs, MKnown.rs]; done) | (simp only [MP]; rfl) | (simp only [S0, MFork.rs, MKnown.rs, MP]; first | done | rfl) | (simp only [MKnown.r, S0, MFork.rs, MKnown.rs, MP]; first | done | rfl)
  · simp only [step, S0, MFork.rs, MKnown.rs]
    have gr_ := hih2
    try simp only [LN] at gr_
    have := (H0.1).1
    refine ex_no (by apply decide_eq_false; omega) ?_
    have Bh5 : a0.fForks.length ≤ maxLen := (by
        have := (H0.2).1
        try simp only [maxLen] at *
        omega)
    refine ex_eq (out := (fun b : MKnown => ret ((MKnown.r b) : RKnown))) (loopM_copy (xs := a0.fForks) (z := MFork.zero) (t := fun s6 : List MFork => (⟨s3, s6⟩ : MKnown))) ?_
    refine ex_pt (p := Pt.p1 0 (MKnown.r a0) (s3.map (lRow MSigned.row)) ([].map MFork.row)) (by first | rfl | (simp only [S0, MFork.rs, MKnown.rs, MP]; done) | (simp only [MP]; rfl)) ?_
    refine loopM_ok (pt := fun (i4 : Nat) (s6 : List MFork) => Pt.p1 (i4 : Int) (MKnown.r a0) (s3.map (lRow MSigned.row)) (s6.map MFork.row)) (s := ([] : List MFork)) (out := (fun b : MKnown => ret ((MKnown.r b) : RKnown))) (fun (i4 : Nat) (s6 : List MFork) => s6.length ≤ ([] : List Int).length + 1 * i4) (fun J i4 s6 h5 hih5 => ?_) (fun s6 hih5 => ?_) (by simp)
    · simp only [step, S0, MFork.rs, MKnown.rs]
      have gr_ := hih5
      try simp only [LN] at gr_
      have bb_ := Bh5
      simp only [maxLen] at bb_
      have := (H0.2).1
      refine Rnd.yes (by apply decide_eq_true; omega) ?_
      refine Rnd.yes zle_dec ?_
      refine Rnd.yes (lt_dec h5) ?_
      refine Rnd.call_to (MFork.r (a0.fForks.getD i4 MFork.zero)) ?_ ?_
      · have R_ := Z25.R_eq (a0 := (a0.fForks.getD i4 MFork.zero)) (SmL.getD (z := MFork.zero) H0.2 h5)
        simp only [Z25.md] at R_
        first | exact R_ | (simp only [MP, S0, MFork.rs, MKnown.rs] at R_ ⊢; first | exact R_ | (rw [← R_]; rfl))
      try simp only [S0, MFork.rs, MKnown.rs]
      refine Rnd.yes (by
          refine lim_t ?_
          try simp (disch := omega) only [LN, wi]
          first | omega | (simp; done) | (simp; omega)) ?_
      refine Rnd.inl (by
          have g_ := hih5
          try simp only [LN] at g_ ⊢
          first | omega | (simp; done) | (simp; omega)) ?_
      rw [wrap_succ h5 Bh5]
      all_goals first | rfl | (simp only [S0, MFork.rs, MKnown.rs]; done) | (simp only [MP]; rfl) | (simp only [S0, MFork.rs, MKnown.rs, MP]; first | done | rfl) | (simp only [MKnown.r, S0, MFork.rs, MKnown.rs, MP]; first | done | rfl)
    · simp only [step, S0, MFork.rs, MKnown.rs]
      have gr_ := hih5
      try simp only [LN] at gr_
      have := (H0.2).1
      refine ex_no (by apply decide_eq_false; omega) ?_
      refine ⟨0, ?_⟩
      all_goals first | rfl | (simp only [S0, MFork.rs, MKnown.rs]; done) | (simp only [MP]; rfl) | (simp only [S0, MFork.rs, MKnown.rs, MP]; first | done | rfl) | (simp only [MKnown.r, S0, MFork.rs, MKnown.rs, MP]; first | done | rfl)
theorem valid_ : Valid Tryz.prog Ev 73 con := VV (run := fun n x => start (iter step n) x) mix tab_ok (.cons Z24.valid_ (.cons Z25.valid_ .nil)) Tryz.func73 (by kernel_rfl) run_eq (fun _ a _ _ hg => okF a hg)
end Z26
namespace Z27
def F (x0 : Int) (x1 : Int) (x2 : Int) : Ans := (bif (decide (x0 ≥ x1)) then ret ((decide (x0 ≤ x2)) : Bool) else ret (false : Bool))
def pats : List Pat := [.rd (.int .i64), .rd (.int .i64), .rd (.int .i64)]
def res : RP := .one (.rd (.bool))
def md (a0 : Int) (a1 : Int) (a2 : Int) : Bool := (bif (decide (a0 ≥ a1)) then ((decide (a0 ≤ a2)) : Bool) else (false : Bool))
def gd (a0 : Int) (a1 : Int) (a2 : Int) : Prop := True
def acc (ls : List L) : Int × Int × Int := ((ls.headD .hole).toInt, ((dropT 1 ls).headD .hole).toInt, ((dropT 2 ls).headD .hole).toInt)
def R : (Int × Int × Int) → Option Bool := RR (p3 gd) (u3 md)
theorem R_eq {a0} {a1} {a2} (h : gd a0 a1 a2) : R (a0, a1, a2) = some (md a0 a1 a2) := RR_eq (a := (a0, a1, a2)) h
def con : Con := CN pats res acc R
theorem okF (a0 : Int) (a1 : Int) (a2 : Int) (hg : gd a0 a1 a2) : F a0 a1 a2 = ret ((md a0 a1 a2) : Bool) := by
 unfold F md
 try simp only [S0]
 refine bif_out ret (fun c1 => ?_) (fun _ => rfl)
 all_goals first | rfl | (simp only [S0, MP]; first | done | rfl)
theorem valid_ : Valid Tryz.prog Ev 120 con := VV (live := fun _ => []) (nt := 15) (run := fun _ x => F x.1 x.2.1 x.2.2) mix tab_ok .nil Tryz.func120 (by kernel_rfl) (fun _ _ => by kernel_rfl) (fun _ a _ _ hg => ⟨0, okF a.1 a.2.1 a.2.2 hg⟩)
end Z27
namespace Z28
inductive Pt where
 | p0 (a : Int) (b : RKeys)
def pid : Pt → Nat
 | .p0 .. => 2
def pvs : Pt → List V
 | .p0 a b => [.bptr 0 0, .int .i64 a]
def phs : Pt → List Root
 | .p0 a b => [.box [.sl none 3 b.fList, .int .i64 b.fNeed]]
def step (J : Pt → Ans) : Pt → Ans
 | .p0 a b => (bif (decide (a < (b.fList.length : Int))) then (bif (decide ((0 : Int) ≤ a)) then (bif (decide (a < (b.fList.length : Int))) then (call (Z27.R ((iAt b.fList (Int.toNat a)), 1, 99)) fun v1 => (bif (!v1) then ret (false : Bool) else (bif (decide (a > 0)) then (bif (decide ((0 : Int) ≤ (IntKind.i64.wrap (a - 1)))) then (bif (decide ((IntKind.i64.wrap (a - 1)) < (b.fList.length : Int))) then (bif (decide ((0 : Int) ≤ a)) then (bif (decide (a < (b.fList.length : Int))) then (bif (decide ((iAt b.fList (Int.toNat (IntKind.i64.wrap (a - 1)))) ≥ (iAt b.fList (Int.toNat a)))) then ret (false : Bool) else J (.p0 (IntKind.i64.wrap (a + 1)) b)) else none) else none) else none) else none) else J (.p0 (IntKind.i64.wrap (a + 1)) b)))) else none) else none) else (call (Z27.R ((b.fList.length : Int), 1, 4)) fun v2 => (bif v2 then (call (Z27.R (b.fNeed, 1, (b.fList.length : Int))) fun v3 => ret (v3 : Bool)) else ret (false : Bool))))
def start (J : Pt → Ans) (x0 : RKeys) : Ans := J (.p0 0 x0)
def live : Nat → Live := fun i => match i with | 2 => [(1, none), (3, none)] | _ => []
def pats : List Pat := [.agg [.sl 3, .int .i64]]
def res : RP := .one (.rd (.bool))
abbrev E : Env := { T := assoc Tab, G := conG [(120, Z27.con)], nt := 48 }
theorem step_eq (I : Heads) (p : Pt) : enterC E live I (pid p) (bodyOf Tryz.f268) (stOf (live (pid p)) (pvs p) (phs p)) (doneK E Tryz.f268 res) = step (fun q => I (pid q) (pvs q) (phs q)) p := by
 cases p <;> kernel_rfl
theorem start_eq (I : Heads) (ls : List L) : runC E live I (bodyOf Tryz.f268) (initS pats ls) (doneK E Tryz.f268 res) = start (fun q => I (pid q) (pvs q) (phs q)) (RKeys.dec ls) := by kernel_rfl
theorem run_eq (n : Nat) (ls : List L) : runF E live Tryz.f268 res n (initS pats ls) = start (iter step n) (RKeys.dec ls) := runF_iter (id := pid) (vs := pvs) (hs := phs) (step := step) (start := fun J => start J (RKeys.dec ls)) step_eq (fun I => start_eq I ls) n
def md (a0 : MKeys) : Bool := (eachI (S := Unit) (β := Bool) (fun (i1 : Nat) (y1 : Int) (s3 : Unit) => (bif (!(Z27.md y1 1 99)) then (.inr (false : Bool)) else (bif (decide ((i1 : Int) > 0)) then (bif (decide ((a0.fList.getD (Int.toNat (IntKind.i64.wrap ((i1 : Int) - 1))) 0) ≥ y1)) then (.inr (false : Bool)) else (.inl ())) else (.inl ())))) (fun (s3 : Unit) => (bif (Z27.md (a0.fList.length : Int) 1 4) then ((Z27.md a0.fNeed 1 (a0.fList.length : Int)) : Bool) else (false : Bool))) 0 a0.fList ())
def gd (a0 : MKeys) : Prop := (MKeys.Sm (2 ^ 21) a0)
def acc (ls : List L) : RKeys := (RKeys.dec ls)
def R : RKeys → Option Bool := RR gd md
theorem R_eq {a0} (h : gd a0) : R (MKeys.r a0) = some (md a0) := RR_eq (a := a0) h
def con : Con := CN pats res acc R
theorem okF (a0 : MKeys) (hg : gd a0) : ∃ n, start (iter step n) (MKeys.r a0) = ret ((md a0) : Bool) := by
  unfold gd at hg
  have H0 := hg
  unfold start md
  try simp only [S0, MKeys.rs]
  have Bh2 : a0.fList.length ≤ maxLen := (by
      have := (H0).1
      try simp only [maxLen] at *
      omega)
  refine ex_eq (out := ret) (loopM_eachI (z := 0)) ?_
  refine ex_pt (p := Pt.p0 0 (MKeys.r a0)) (by first | rfl | (simp only [S0, MKeys.rs, MP]; done) | (simp only [MP]; rfl)) ?_
  refine loopM_ok (pt := fun (i1 : Nat) (s3 : Unit) => Pt.p0 (i1 : Int) (MKeys.r a0)) (s := (() : Unit)) (out := ret) (fun _ _ => True) (fun J i1 s3 h2 hih2 => ?_) (fun s3 hih2 => ?_) trivial
  · simp only [step, S0, MKeys.rs]
    have bb_ := Bh2
    simp only [maxLen] at bb_
    have := (H0).1
    refine Rnd.yes (by apply decide_eq_true; omega) ?_
    refine Rnd.yes zle_dec ?_
    refine Rnd.yes (lt_dec h2) ?_
    refine Rnd.call_to (Z27.md (a0.fList.getD i1 0) 1 99) (Z27.R_eq (a0 := (a0.fList.getD i1 0)) (a1 := 1) (a2 := 99) trivial) ?_
    refine Rnd.bif (fun _ => Rnd.inr rfl) (fun c4 => ?_)
    have dc4 := c4
    try simp only [DC] at dc4
    have Dc4 := c4
    try simp [Z27.md] at Dc4
    refine Rnd.bif (fun c5 => ?_) (fun c5 => ?_)
    · have dc5 := c5
      try simp only [DC] at dc5
      refine Rnd.yes (by
          refine decide_eq_true ?_
          try simp (disch := omega) only [LN, wi]
          first | omega | (simp; done) | (simp; omega)) ?_
      refine Rnd.yes (by
          have := (H0).1
          refine decide_eq_true ?_
          try simp (disch := omega) only [LN, wi]
          first | omega | (simp; done) | (simp; omega)) ?_
      refine Rnd.yes zle_dec ?_
      refine Rnd.yes (lt_dec h2) ?_
      refine Rnd.bif (fun _ => Rnd.inr rfl) (fun c6 => ?_)
      refine Rnd.inl trivial ?_
      rw [wrap_succ h2 Bh2]
      all_goals first | rfl | (simp only [S0, MKeys.rs, MP]; first | done | rfl)
    · refine Rnd.inl trivial ?_
      rw [wrap_succ h2 Bh2]
      all_goals first | rfl | (simp only [S0, MKeys.rs, MP]; first | done | rfl)
  · simp only [step, S0, MKeys.rs]
    have := (H0).1
    refine ex_no (by apply decide_eq_false; omega) ?_
    refine ex_call_to (Z27.md (a0.fList.length : Int) 1 4) (Z27.R_eq (a0 := (a0.fList.length : Int)) (a1 := 1) (a2 := 4) trivial) ?_
    refine ex_bif ret (fun c7 => ?_) (fun _ => ⟨0, rfl⟩)
    refine ex_call_to (Z27.md a0.fNeed 1 (a0.fList.length : Int)) (Z27.R_eq (a0 := a0.fNeed) (a1 := 1) (a2 := (a0.fList.length : Int)) trivial) ?_
    refine ⟨0, ?_⟩
    all_goals first | rfl | (simp only [S0, MKeys.rs, MP]; first | done | rfl)
theorem valid_ : Valid Tryz.prog Ev 268 con := VV (run := fun n x => start (iter step n) x) mix tab_ok (.cons Z27.valid_ .nil) Tryz.func268 (by kernel_rfl) run_eq (fun _ a _ _ hg => okF a hg)
theorem tr {a0 : MKeys} (h : md a0 = true) : 1 ≤ a0.fList.length ∧ a0.fList.length ≤ 4 := by
 refine Classical.byContradiction fun hc => ?_
 have e1 : Z27.md (a0.fList.length : Int) 1 4 = false := by simp [Z27.md]; omega
 unfold md at h
 rw [e1] at h
 have e2 : ∀ s : Unit, (bif false then Z27.md a0.fNeed 1 (a0.fList.length : Int) else false) = false := fun _ => rfl
 have h3 := eachI_const (c := false) (f := fun (i1 : Nat) (y1 : Int) (s3 : Unit) => (bif (!(Z27.md y1 1 99)) then (.inr (false : Bool)) else (bif (decide ((i1 : Int) > 0)) then (bif (decide ((a0.fList.getD (Int.toNat (IntKind.i64.wrap ((i1 : Int) - 1))) 0) ≥ y1)) then (.inr (false : Bool)) else (.inl ())) else (.inl ())))) (by
  intro i x s b h
  revert h
  simp only [Bool.cond_eq_ite]
  repeat' split
  all_goals (intro h; first | (cases h; rfl) | cases h)) a0.fList 0 ()
 simp only [cond_false] at h
 rw [h3] at h
 cases h
end Z28
namespace Z29
def F (x0 : RKeys) : Ans := (bif (x0.fNeed == 0) then ret (((x0.fList.length : Int) == 0) : Bool) else ret (false : Bool))
def pats : List Pat := [.agg [.sl 3, .int .i64]]
def res : RP := .one (.rd (.bool))
def md (a0 : MKeys) : Bool := (bif (a0.fNeed == 0) then (((a0.fList.length : Int) == 0) : Bool) else (false : Bool))
def gd (a0 : MKeys) : Prop := True
def acc (ls : List L) : RKeys := (RKeys.dec ls)
def R : RKeys → Option Bool := RR gd md
theorem R_eq {a0} (h : gd a0) : R (MKeys.r a0) = some (md a0) := RR_eq (a := a0) h
def con : Con := CN pats res acc R
theorem okF (a0 : MKeys) (hg : gd a0) : F (MKeys.r a0) = ret ((md a0) : Bool) := by
 unfold F md
 try simp only [S0, MKeys.rs]
 refine bif_out ret (fun c1 => ?_) (fun _ => rfl)
 all_goals first | rfl | (simp only [S0, MKeys.rs, MP]; first | done | rfl)
theorem valid_ : Valid Tryz.prog Ev 269 con := VV (live := fun _ => []) (nt := 12) (run := fun _ x => F x) mix tab_ok .nil Tryz.func269 (by kernel_rfl) (fun _ _ => by kernel_rfl) (fun _ a _ _ hg => ⟨0, okF a hg⟩)
end Z29
namespace Z30
def F (x0 : RHead) : Ans := (call (Z27.R (x0.fZone, 0, 2147483646)) fun v1 => (bif (!v1) then ret (false : Bool) else (call (Z27.R (x0.fRoot, 0, 2147483646)) fun v2 => (bif (!v2) then ret (false : Bool) else (call (Z27.R (x0.fPrev, 0, 2147483646)) fun v3 => (bif (!v3) then ret (false : Bool) else (call (Z27.R (x0.fEpoch, 0, 200)) fun v4 => (bif (!v4) then ret (false : Bool) else (call (Z27.R (x0.fKind, 1, 3)) fun v5 => (bif (!v5) then ret (false : Bool) else (call (Z27.R (x0.fTime, 0, 100000)) fun v6 => (bif (!v6) then ret (false : Bool) else (call (Z27.R (x0.fUntil, x0.fTime, 100000)) fun v7 => (bif (!v7) then ret (false : Bool) else (bif (decide ((IntKind.i64.wrap (x0.fUntil - x0.fTime)) > 200)) then ret (false : Bool) else (call (Z27.R (x0.fCount, 0, 12)) fun v8 => (bif (!v8) then ret (false : Bool) else (call (Z28.R x0.fKeys) fun v9 => (bif (!v9) then ret (false : Bool) else (call (Z29.R x0.fHeirs) fun v10 => (bif v10 then (bif (x0.fWait != 0) then ret (false : Bool) else (call (Z28.R x0.fJudge) fun v11 => (bif v11 then ret (true : Bool) else (call (Z29.R x0.fJudge) fun v12 => (bif v12 then ret ((!x0.fFrozen) : Bool) else ret (false : Bool)))))) else (call (Z28.R x0.fHeirs) fun v13 => (bif (!v13) then ret (false : Bool) else (call (Z27.R (x0.fWait, 1, 500)) fun v14 => (bif (!v14) then ret (false : Bool) else (call (Z28.R x0.fJudge) fun v15 => (bif v15 then ret (true : Bool) else (call (Z29.R x0.fJudge) fun v16 => (bif v16 then ret ((!x0.fFrozen) : Bool) else ret (false : Bool))))))))))))))))))))))))))))))
def pats : List Pat := [.agg [.int .i64, .int .i64, .int .i64, .int .i64, .int .i64, .int .i64, .int .i64, .int .i64, .sl 3, .int .i64, .sl 3, .int .i64, .int .i64, .sl 3, .int .i64, .bool]]
def res : RP := .one (.rd (.bool))
def md (a0 : MHead) : Bool := (bif (!(Z27.md a0.fZone 0 2147483646)) then (false : Bool) else (bif (!(Z27.md a0.fRoot 0 2147483646)) then (false : Bool) else (bif (!(Z27.md a0.fPrev 0 2147483646)) then (false : Bool) else (bif (!(Z27.md a0.fEpoch 0 200)) then (false : Bool) else (bif (!(Z27.md a0.fKind 1 3)) then (false : Bool) else (bif (!(Z27.md a0.fTime 0 100000)) then (false : Bool) else (bif (!(Z27.md a0.fUntil a0.fTime 100000)) then (false : Bool) else (bif (decide ((IntKind.i64.wrap (a0.fUntil - a0.fTime)) > 200)) then (false : Bool) else (bif (!(Z27.md a0.fCount 0 12)) then (false : Bool) else (bif (!(Z28.md a0.fKeys)) then (false : Bool) else (bif (Z29.md a0.fHeirs) then (bif (a0.fWait != 0) then (false : Bool) else (bif (Z28.md a0.fJudge) then (true : Bool) else (bif (Z29.md a0.fJudge) then ((!a0.fFrozen) : Bool) else (false : Bool)))) else (bif (!(Z28.md a0.fHeirs)) then (false : Bool) else (bif (!(Z27.md a0.fWait 1 500)) then (false : Bool) else (bif (Z28.md a0.fJudge) then (true : Bool) else (bif (Z29.md a0.fJudge) then ((!a0.fFrozen) : Bool) else (false : Bool))))))))))))))))
def gd (a0 : MHead) : Prop := (MHead.Sm (2 ^ 21) a0)
def acc (ls : List L) : RHead := (RHead.dec ls)
def R : RHead → Option Bool := RR gd md
theorem R_eq {a0} (h : gd a0) : R (MHead.r a0) = some (md a0) := RR_eq (a := a0) h
def con : Con := CN pats res acc R
theorem okF (a0 : MHead) (hg : gd a0) : F (MHead.r a0) = ret ((md a0) : Bool) := by
  unfold gd at hg
  have H0 := hg
  unfold F md
  try simp only [S0, MHead.rs]
  refine call_to (Z27.md a0.fZone 0 2147483646) (Z27.R_eq (a0 := a0.fZone) (a1 := 0) (a2 := 2147483646) trivial) ?_
  refine bif_out ret (fun _ => rfl) (fun c1 => ?_)
  refine call_to (Z27.md a0.fRoot 0 2147483646) (Z27.R_eq (a0 := a0.fRoot) (a1 := 0) (a2 := 2147483646) trivial) ?_
  refine bif_out ret (fun _ => rfl) (fun c2 => ?_)
  refine call_to (Z27.md a0.fPrev 0 2147483646) (Z27.R_eq (a0 := a0.fPrev) (a1 := 0) (a2 := 2147483646) trivial) ?_
  refine bif_out ret (fun _ => rfl) (fun c3 => ?_)
  refine call_to (Z27.md a0.fEpoch 0 200) (Z27.R_eq (a0 := a0.fEpoch) (a1 := 0) (a2 := 200) trivial) ?_
  refine bif_out ret (fun _ => rfl) (fun c4 => ?_)
  refine call_to (Z27.md a0.fKind 1 3) (Z27.R_eq (a0 := a0.fKind) (a1 := 1) (a2 := 3) trivial) ?_
  refine bif_out ret (fun _ => rfl) (fun c5 => ?_)
  refine call_to (Z27.md a0.fTime 0 100000) (Z27.R_eq (a0 := a0.fTime) (a1 := 0) (a2 := 100000) trivial) ?_
  refine bif_out ret (fun _ => rfl) (fun c6 => ?_)
  refine call_to (Z27.md a0.fUntil a0.fTime 100000) (Z27.R_eq (a0 := a0.fUntil) (a1 := a0.fTime) (a2 := 100000) trivial) ?_
  refine bif_out ret (fun _ => rfl) (fun c7 => ?_)
  refine bif_out ret (fun _ => rfl) (fun c8 => ?_)
  refine call_to (Z27.md a0.fCount 0 12) (Z27.R_eq (a0 := a0.fCount) (a1 := 0) (a2 := 12) trivial) ?_
  refine bif_out ret (fun _ => rfl) (fun c9 => ?_)
  refine call_to (Z28.md a0.fKeys) (Z28.R_eq (a0 := a0.fKeys) H0.1) ?_
  refine bif_out ret (fun _ => rfl) (fun c10 => ?_)
  refine call_to (Z29.md a0.fHeirs) (Z29.R_eq (a0 := a0.fHeirs) trivial) ?_
  refine bif_out ret (fun c11 => ?_) (fun c11 => ?_)
  · refine bif_out ret (fun _ => rfl) (fun c12 => ?_)
    refine call_to (Z28.md a0.fJudge) (Z28.R_eq (a0 := a0.fJudge) H0.2.2) ?_
    refine bif_out ret (fun _ => rfl) (fun c13 => ?_)
    refine call_to (Z29.md a0.fJudge) (Z29.R_eq (a0 := a0.fJudge) trivial) ?_
    refine bif_out ret (fun c14 => ?_) (fun _ => rfl)
    all_goals first | rfl | (simp only [S0, MHead.rs, MP]; first | done | rfl)
  · refine call_to (Z28.md a0.fHeirs) (Z28.R_eq (a0 := a0.fHeirs) H0.2.1) ?_
    refine bif_out ret (fun _ => rfl) (fun c15 => ?_)
    refine call_to (Z27.md a0.fWait 1 500) (Z27.R_eq (a0 := a0.fWait) (a1 := 1) (a2 := 500) trivial) ?_
    refine bif_out ret (fun _ => rfl) (fun c16 => ?_)
    refine call_to (Z28.md a0.fJudge) (Z28.R_eq (a0 := a0.fJudge) H0.2.2) ?_
    refine bif_out ret (fun _ => rfl) (fun c17 => ?_)
    refine call_to (Z29.md a0.fJudge) (Z29.R_eq (a0 := a0.fJudge) trivial) ?_
    refine bif_out ret (fun c18 => ?_) (fun _ => rfl)
    all_goals first | rfl | (simp only [S0, MHead.rs, MP]; first | done | rfl)
theorem valid_ : Valid Tryz.prog Ev 238 con := VV (live := fun _ => []) (nt := 92) (run := fun _ x => F x) mix tab_ok (.cons Z27.valid_ (.cons Z28.valid_ (.cons Z29.valid_ .nil))) Tryz.func238 (by kernel_rfl) (fun _ _ => by kernel_rfl) (fun _ a _ _ hg => ⟨0, okF a hg⟩)
theorem tr {a0 : MHead} (h : md a0 = true) : (1 ≤ a0.fKind ∧ a0.fKind ≤ 3) ∧ 0 ≤ a0.fTime ∧ a0.fTime ≤ a0.fUntil ∧ a0.fUntil ≤ 100000 ∧ 0 ≤ a0.fCount ∧ a0.fCount ≤ 12 := by
 have key : ∀ x y z : Int, Z27.md x y z = true → y ≤ x ∧ x ≤ z := fun x y z h => by simpa [Z27.md] using h
 unfold md at h
 simp only [n_and, Bool.not_not, Bool.and_eq_true] at h
 obtain ⟨_, _, _, _, h5, h6, h7, _, h8, _⟩ := h
 have := key _ _ _ h5
 have := key _ _ _ h6
 have := key _ _ _ h7
 have := key _ _ _ h8
 omega
end Z30
namespace Z31
def F (x0 : RKeys) : Ans := (bif (lim (((2 : Int) + (x0.fList.length : Int)) * 8)) then ret (([[L.int x0.fNeed], [L.int (x0.fList.length : Int)]] ++ x0.fList) : List (List L)) else none)
def pats : List Pat := [.agg [.sl 3, .int .i64]]
def res : RP := .one (.fr 3)
def md (a0 : MKeys) : List Int := ([a0.fNeed, (a0.fList.length : Int)] ++ a0.fList)
def gd (a0 : MKeys) : Prop := (MKeys.Sm (2 ^ 21) a0)
def acc (ls : List L) : RKeys := (RKeys.dec ls)
def R : RKeys → Option (List (List L)) := RR gd md
theorem R_eq {a0} (h : gd a0) : R (MKeys.r a0) = some ((md a0).map iRow) := RR_eq (a := a0) h
def con : Con := CN pats res acc R
theorem okF (a0 : MKeys) (hg : gd a0) : F (MKeys.r a0) = ret (((md a0).map iRow) : List (List L)) := by
 unfold gd at hg
 have H0 := hg
 unfold F md
 try simp only [S0, MKeys.rs]
 refine yes_ret (by
   have := (H0).1
   refine lim_t ?_
   try simp (disch := omega) only [LN, wi]
   first | omega | (simp; done) | (simp; omega)) ?_
 all_goals first | rfl | (simp only [S0, MKeys.rs]; done) | (simp only [MP]; rfl) | (simp only [S0, MKeys.rs, MP]; first | done | rfl)
theorem valid_ : Valid Tryz.prog Ev 216 con := VV (live := fun _ => []) (nt := 12) (run := fun _ x => F x) mix tab_ok .nil Tryz.func216 (by kernel_rfl) (fun _ _ => by kernel_rfl) (fun _ a _ _ hg => ⟨0, okF a hg⟩)
theorem len (a0 : MKeys) : (md a0).length = 2 + a0.fList.length := by simp [md]; omega
end Z31
namespace Z32
def F (x0 : Int) (x1 : Int) : Ans := (call (Z27.R (x1, 1, 1000000000000)) fun v1 => (bif (!v1) then ret (0 : Int) else (bif (decide (x1 = 0)) then none else (bif (decide (x1 = 0)) then none else ret ((Int.tmod (IntKind.i64.wrap ((Int.tmod x0 x1) + x1)) x1) : Int)))))
def pats : List Pat := [.rd (.int .i64), .rd (.int .i64)]
def res : RP := .one (.rd (.int .i64))
def md (a0 : Int) (a1 : Int) : Int := (bif (!(Z27.md a1 1 1000000000000)) then (0 : Int) else ((Int.tmod (IntKind.i64.wrap ((Int.tmod a0 a1) + a1)) a1) : Int))
def gd (a0 : Int) (a1 : Int) : Prop := True
def acc (ls : List L) : Int × Int := ((ls.headD .hole).toInt, ((dropT 1 ls).headD .hole).toInt)
def R : (Int × Int) → Option Int := RR (p2 gd) (u2 md)
theorem R_eq {a0} {a1} (h : gd a0 a1) : R (a0, a1) = some (md a0 a1) := RR_eq (a := (a0, a1)) h
def con : Con := CN pats res acc R
theorem okF (a0 : Int) (a1 : Int) (hg : gd a0 a1) : F a0 a1 = ret ((md a0 a1) : Int) := by
 unfold F md
 try simp only [S0]
 refine call_to (Z27.md a1 1 1000000000000) (Z27.R_eq (a0 := a1) (a1 := 1) (a2 := 1000000000000) trivial) ?_
 refine bif_out ret (fun _ => rfl) (fun c1 => ?_)
 have dc1 := c1
 try simp only [DC] at dc1
 have Dc1 := c1
 try simp [Z27.md] at Dc1
 refine no_ret (by
   refine decide_eq_false ?_
   try simp (disch := omega) only [LN, wi]
   first | omega | (simp; done) | (simp; omega)) ?_
 refine no_ret (by
   refine decide_eq_false ?_
   try simp (disch := omega) only [LN, wi]
   first | omega | (simp; done) | (simp; omega)) ?_
 all_goals first | rfl | (simp only [S0, MP]; first | done | rfl)
theorem valid_ : Valid Tryz.prog Ev 285 con := VV (live := fun _ => []) (nt := 15) (run := fun _ x => F x.1 x.2) mix tab_ok (.cons Z27.valid_ .nil) Tryz.func285 (by kernel_rfl) (fun _ _ => by kernel_rfl) (fun _ a _ _ hg => ⟨0, okF a.1 a.2 hg⟩)
end Z32
namespace Z33
inductive Pt where
 | p0 (a : List (List L)) (b : Int) (c : Int)
def pid : Pt → Nat
 | .p0 .. => 3
def pvs : Pt → List V
 | .p0 a b c => [.sl none 3 a, .int .i64 b, .int .i64 c]
def phs : Pt → List Root
 | .p0 a b c => []
def step (J : Pt → Ans) : Pt → Ans
 | .p0 a b c => (bif (decide (c < (a.length : Int))) then (bif (decide ((0 : Int) ≤ c)) then (bif (decide (c < (a.length : Int))) then (call (Z32.R ((iAt a (Int.toNat c)), 2147483647)) fun v1 => J (.p0 a (Int.tmod (IntKind.i64.wrap ((IntKind.i64.wrap ((IntKind.i64.wrap (b * 1000003)) + v1)) + 13)) 2147483647) (IntKind.i64.wrap (c + 1)))) else none) else none) else ret (b : Int))
def start (J : Pt → Ans) (x0 : List (List L)) : Ans := J (.p0 x0 11 0)
def live : Nat → Live := fun i => match i with | 3 => [(0, none), (3, none), (4, none)] | _ => []
def pats : List Pat := [.rd (.sl 3)]
def res : RP := .one (.rd (.int .i64))
abbrev E : Env := { T := assoc Tab, G := conG [(285, Z32.con)], nt := 22 }
theorem step_eq (I : Heads) (p : Pt) : enterC E live I (pid p) (bodyOf Tryz.f248) (stOf (live (pid p)) (pvs p) (phs p)) (doneK E Tryz.f248 res) = step (fun q => I (pid q) (pvs q) (phs q)) p := by
 cases p <;> kernel_rfl
theorem start_eq (I : Heads) (ls : List L) : runC E live I (bodyOf Tryz.f248) (initS pats ls) (doneK E Tryz.f248 res) = start (fun q => I (pid q) (pvs q) (phs q)) (ls.headD .hole).toSl := by kernel_rfl
theorem run_eq (n : Nat) (ls : List L) : runF E live Tryz.f248 res n (initS pats ls) = start (iter step n) (ls.headD .hole).toSl := runF_iter (id := pid) (vs := pvs) (hs := phs) (step := step) (start := fun J => start J (ls.headD .hole).toSl) step_eq (fun I => start_eq I ls) n
def md (a0 : List Int) : Int := (eachM (S := Int) (β := Int) (fun (y1 : Int) (s3 : Int) => (.inl (Int.tmod (IntKind.i64.wrap ((IntKind.i64.wrap ((IntKind.i64.wrap (s3 * 1000003)) + (Z32.md y1 2147483647))) + 13)) 2147483647))) (fun (s3 : Int) => (s3 : Int)) a0 11)
def gd (a0 : List Int) : Prop := (SmL (2 ^ 43) (fun y : Int => True) a0)
def acc (ls : List L) : List (List L) := (ls.headD .hole).toSl
def R : (List (List L)) → Option Int := RR gd md
theorem R_eq {a0} (h : gd a0) : R (a0.map iRow) = some (md a0) := RR_eq (a := a0) h
def con : Con := CN pats res acc R
theorem okF (a0 : List Int) (hg : gd a0) : ∃ n, start (iter step n) (a0.map iRow) = ret ((md a0) : Int) := by
  unfold gd at hg
  have H0 := hg
  unfold start md
  try simp only [S0]
  have Bh2 : a0.length ≤ maxLen := (by
      have := (H0).1
      try simp only [maxLen] at *
      omega)
  refine ex_eq (out := ret) (loopM_eachM (z := 0)) ?_
  refine ex_pt (p := Pt.p0 (a0.map iRow) 11 0) (by first | rfl | (simp only [S0, MP]; done) | (simp only [MP]; rfl)) ?_
  refine loopM_ok (pt := fun (i1 : Nat) (s3 : Int) => Pt.p0 (a0.map iRow) s3 (i1 : Int)) (s := (11 : Int)) (out := ret) (fun _ _ => True) (fun J i1 s3 h2 hih2 => ?_) (fun s3 hih2 => ?_) trivial
  · simp only [step, S0]
    have bb_ := Bh2
    simp only [maxLen] at bb_
    have := (H0).1
    refine Rnd.yes (by apply decide_eq_true; omega) ?_
    refine Rnd.yes zle_dec ?_
    refine Rnd.yes (lt_dec h2) ?_
    refine Rnd.call_to (Z32.md (a0.getD i1 0) 2147483647) (Z32.R_eq (a0 := (a0.getD i1 0)) (a1 := 2147483647) trivial) ?_
    refine Rnd.inl trivial ?_
    rw [wrap_succ h2 Bh2]
    all_goals first | rfl | (simp only [S0, MP]; first | done | rfl)
  · simp only [step, S0]
    have := (H0).1
    refine ex_no (by apply decide_eq_false; omega) ?_
    refine ⟨0, ?_⟩
    all_goals first | rfl | (simp only [S0, MP]; first | done | rfl)
theorem valid_ : Valid Tryz.prog Ev 248 con := VV (run := fun n x => start (iter step n) x) mix tab_ok (.cons Z32.valid_ .nil) Tryz.func248 (by kernel_rfl) run_eq (fun _ a _ _ hg => okF a hg)
end Z33
namespace Z34
def F (x0 : RKeys) (x1 : Int) : Ans := (call (Z31.R x0) fun v1 => (bif (lim (((2 : Int) + (v1.length : Int)) * 8)) then (call (Z33.R ([[L.int 239], [L.int x1]] ++ v1)) fun v2 => ret (v2 : Int)) else none))
def pats : List Pat := [.agg [.sl 3, .int .i64], .rd (.int .i64)]
def res : RP := .one (.rd (.int .i64))
def md (a0 : MKeys) (a1 : Int) : Int := ((Z33.md ([239, a1] ++ (Z31.md a0))) : Int)
def gd (a0 : MKeys) (a1 : Int) : Prop := (MKeys.Sm (2 ^ 21) a0)
def acc (ls : List L) : RKeys × Int := ((RKeys.dec ls), ((dropT 2 ls).headD .hole).toInt)
def R : (RKeys × Int) → Option Int := RR (p2 gd) (u2 md)
theorem R_eq {a0} {a1} (h : gd a0 a1) : R ((MKeys.r a0), a1) = some (md a0 a1) := RR_eq (a := (a0, a1)) h
def con : Con := CN pats res acc R
theorem okF (a0 : MKeys) (a1 : Int) (hg : gd a0 a1) : F (MKeys.r a0) a1 = ret ((md a0 a1) : Int) := by
  unfold gd at hg
  have H0 := hg
  unfold F md
  try simp only [S0]
  refine call_to ((Z31.md a0).map iRow) (Z31.R_eq (a0 := a0) H0) ?_
  try simp only [S0]
  refine yes_ret (by
      have := Z31.len a0
      have := (H0).1
      refine lim_t ?_
      try simp (disch := omega) only [LN, wi]
      first | omega | (simp; done) | (simp; omega)) ?_
  refine call_to (Z33.md ([239, a1] ++ (Z31.md a0))) ?_ ?_
  · have R_ := Z33.R_eq (a0 := ([239, a1] ++ (Z31.md a0))) ⟨(by
        have := Z31.len a0
        have := (H0).1
        try simp (disch := omega) only [LN, wi]
        first | omega | (simp; done) | (simp; omega)), fun _ _ => trivial⟩
    first | exact R_ | (simp only [MP, S0] at R_ ⊢; first | exact R_ | (rw [← R_]; rfl))
  all_goals first | rfl | (simp only [S0, MP]; first | done | rfl)
theorem valid_ : Valid Tryz.prog Ev 239 con := VV (live := fun _ => []) (nt := 11) (run := fun _ x => F x.1 x.2) mix tab_ok (.cons Z31.valid_ (.cons Z33.valid_ .nil)) Tryz.func239 (by kernel_rfl) (fun _ _ => by kernel_rfl) (fun _ a _ _ hg => ⟨0, okF a.1 a.2 hg⟩)
end Z34
namespace Z35
def F (x0 : RHead) : Ans := (call (Z31.R x0.fKeys) fun v1 => (bif (lim (((8 : Int) + (v1.length : Int)) * 8)) then (call (Z31.R x0.fHeirs) fun v2 => (bif (lim (((([[L.int x0.fZone], [L.int x0.fEpoch], [L.int x0.fKind], [L.int x0.fTime], [L.int x0.fUntil], [L.int x0.fCount], [L.int x0.fRoot], [L.int x0.fPrev]] ++ v1).length : Int) + (v2.length : Int)) * 8)) then (bif (lim ((((([[L.int x0.fZone], [L.int x0.fEpoch], [L.int x0.fKind], [L.int x0.fTime], [L.int x0.fUntil], [L.int x0.fCount], [L.int x0.fRoot], [L.int x0.fPrev]] ++ v1) ++ v2).length : Int) + 1) * 8)) then (call (Z31.R x0.fJudge) fun v3 => (bif (lim (((((([[L.int x0.fZone], [L.int x0.fEpoch], [L.int x0.fKind], [L.int x0.fTime], [L.int x0.fUntil], [L.int x0.fCount], [L.int x0.fRoot], [L.int x0.fPrev]] ++ v1) ++ v2) ++ [[L.int x0.fWait]]).length : Int) + (v3.length : Int)) * 8)) then (bif x0.fFrozen then (bif (lim ((((((([[L.int x0.fZone], [L.int x0.fEpoch], [L.int x0.fKind], [L.int x0.fTime], [L.int x0.fUntil], [L.int x0.fCount], [L.int x0.fRoot], [L.int x0.fPrev]] ++ v1) ++ v2) ++ [[L.int x0.fWait]]) ++ v3).length : Int) + 1) * 8)) then ret (((((([[L.int x0.fZone], [L.int x0.fEpoch], [L.int x0.fKind], [L.int x0.fTime], [L.int x0.fUntil], [L.int x0.fCount], [L.int x0.fRoot], [L.int x0.fPrev]] ++ v1) ++ v2) ++ [[L.int x0.fWait]]) ++ v3) ++ [[L.int 1]]) : List (List L)) else none) else (bif (lim ((((((([[L.int x0.fZone], [L.int x0.fEpoch], [L.int x0.fKind], [L.int x0.fTime], [L.int x0.fUntil], [L.int x0.fCount], [L.int x0.fRoot], [L.int x0.fPrev]] ++ v1) ++ v2) ++ [[L.int x0.fWait]]) ++ v3).length : Int) + 1) * 8)) then ret (((((([[L.int x0.fZone], [L.int x0.fEpoch], [L.int x0.fKind], [L.int x0.fTime], [L.int x0.fUntil], [L.int x0.fCount], [L.int x0.fRoot], [L.int x0.fPrev]] ++ v1) ++ v2) ++ [[L.int x0.fWait]]) ++ v3) ++ [[L.int 0]]) : List (List L)) else none)) else none)) else none) else none)) else none))
def pats : List Pat := [.agg [.int .i64, .int .i64, .int .i64, .int .i64, .int .i64, .int .i64, .int .i64, .int .i64, .sl 3, .int .i64, .sl 3, .int .i64, .int .i64, .sl 3, .int .i64, .bool]]
def res : RP := .one (.fr 3)
def md (a0 : MHead) : List Int := (bif a0.fFrozen then ((((([a0.fZone, a0.fEpoch, a0.fKind, a0.fTime, a0.fUntil, a0.fCount, a0.fRoot, a0.fPrev] ++ (Z31.md a0.fKeys)) ++ (Z31.md a0.fHeirs)) ++ [a0.fWait]) ++ (Z31.md a0.fJudge)) ++ [1]) else ((((([a0.fZone, a0.fEpoch, a0.fKind, a0.fTime, a0.fUntil, a0.fCount, a0.fRoot, a0.fPrev] ++ (Z31.md a0.fKeys)) ++ (Z31.md a0.fHeirs)) ++ [a0.fWait]) ++ (Z31.md a0.fJudge)) ++ [0]))
def gd (a0 : MHead) : Prop := (MHead.Sm (2 ^ 21) a0)
def acc (ls : List L) : RHead := (RHead.dec ls)
def R : RHead → Option (List (List L)) := RR gd md
theorem R_eq {a0} (h : gd a0) : R (MHead.r a0) = some ((md a0).map iRow) := RR_eq (a := a0) h
def con : Con := CN pats res acc R
theorem okF (a0 : MHead) (hg : gd a0) : F (MHead.r a0) = ret (((md a0).map iRow) : List (List L)) := by
  unfold gd at hg
  have H0 := hg
  unfold F md
  try simp only [S0, MHead.rs]
  refine call_to ((Z31.md a0.fKeys).map iRow) (Z31.R_eq (a0 := a0.fKeys) H0.1) ?_
  try simp only [S0, MHead.rs]
  refine yes_ret (by
      have := Z31.len a0.fKeys
      have := (H0.1).1
      refine lim_t ?_
      try simp (disch := omega) only [LN, wi]
      first | omega | (simp; done) | (simp; omega)) ?_
  refine call_to ((Z31.md a0.fHeirs).map iRow) (Z31.R_eq (a0 := a0.fHeirs) H0.2.1) ?_
  try simp only [S0, MHead.rs]
  refine yes_ret (by
      have := Z31.len a0.fKeys
      have := (H0.1).1
      have := Z31.len a0.fHeirs
      have := (H0.2.1).1
      refine lim_t ?_
      try simp (disch := omega) only [LN, wi]
      first | omega | (simp; done) | (simp; omega)) ?_
  refine yes_ret (by
      have := Z31.len a0.fKeys
      have := (H0.1).1
      have := Z31.len a0.fHeirs
      have := (H0.2.1).1
      refine lim_t ?_
      try simp (disch := omega) only [LN, wi]
      first | omega | (simp; done) | (simp; omega)) ?_
  refine call_to ((Z31.md a0.fJudge).map iRow) (Z31.R_eq (a0 := a0.fJudge) H0.2.2) ?_
  try simp only [S0, MHead.rs]
  refine yes_ret (by
      have := Z31.len a0.fKeys
      have := (H0.1).1
      have := Z31.len a0.fHeirs
      have := (H0.2.1).1
      have := Z31.len a0.fJudge
      have := (H0.2.2).1
      refine lim_t ?_
      try simp (disch := omega) only [LN, wi]
      first | omega | (simp; done) | (simp; omega)) ?_
  refine bif_out (fun b : List Int => ret ((b.map iRow) : List (List L))) (fun c1 => ?_) (fun c1 => ?_)
  · refine yes_ret (by
        have := Z31.len a0.fKeys
        have := (H0.1).1
        have := Z31.len a0.fHeirs
        have := (H0.2.1).1
        have := Z31.len a0.fJudge
        have := (H0.2.2).1
        refine lim_t ?_
        try simp (disch := omega) only [LN, wi]
        first | omega | (simp; done) | (simp; omega)) ?_
    all_goals first | rfl | (simp only [S0, MHead.rs]; done) | (simp only [MP]; rfl) | (simp only [S0, MHead.rs, MP]; first | done | rfl)
  · refine yes_ret (by
        have := Z31.len a0.fKeys
        have := (H0.1).1
        have := Z31.len a0.fHeirs
        have := (H0.2.1).1
        have := Z31.len a0.fJudge
        have := (H0.2.2).1
        refine lim_t ?_
        try simp (disch := omega) only [LN, wi]
        first | omega | (simp; done) | (simp; omega)) ?_
    all_goals first | rfl | (simp only [S0, MHead.rs]; done) | (simp only [MP]; rfl) | (simp only [S0, MHead.rs, MP]; first | done | rfl)
theorem valid_ : Valid Tryz.prog Ev 190 con := VV (live := fun _ => []) (nt := 49) (run := fun _ x => F x) mix tab_ok (.cons Z31.valid_ .nil) Tryz.func190 (by kernel_rfl) (fun _ _ => by kernel_rfl) (fun _ a _ _ hg => ⟨0, okF a hg⟩)
theorem len (a0 : MHead) : (md a0).length = 16 + a0.fKeys.fList.length + a0.fHeirs.fList.length + a0.fJudge.fList.length := by unfold md; cases a0.fFrozen <;> simp [Z31.md] <;> omega
theorem injK {k l : MKeys} {x y : List Int} (h : Z31.md k ++ x = Z31.md l ++ y) : k = l ∧ x = y := by
 obtain ⟨kl, kn⟩ := k
 obtain ⟨ll, ln⟩ := l
 simp only [Z31.md, List.cons_append, List.nil_append, List.cons.injEq] at h
 obtain ⟨h1, h2, h3⟩ := h
 obtain ⟨h4, h5⟩ := List.append_inj h3 (by omega)
 exact ⟨by rw [h1, h4], h5⟩
theorem md_form (a : MHead) : md a = a.fZone :: a.fEpoch :: a.fKind :: a.fTime :: a.fUntil :: a.fCount :: a.fRoot :: a.fPrev :: (Z31.md a.fKeys ++ (Z31.md a.fHeirs ++ (a.fWait :: (Z31.md a.fJudge ++ [bif a.fFrozen then 1 else 0])))) := by
 unfold md
 cases a.fFrozen <;> simp only [cond_true, cond_false, List.append_assoc, List.cons_append, List.nil_append]
theorem inj {a b : MHead} (h : md a = md b) : a = b := by
 rw [md_form, md_form] at h
 simp only [List.cons.injEq] at h
 obtain ⟨g1, g2, g3, g4, g5, g6, g7, g8, g9⟩ := h
 obtain ⟨k1, g9⟩ := injK g9
 obtain ⟨k2, g9⟩ := injK g9
 simp only [List.cons.injEq] at g9
 obtain ⟨k3, g9⟩ := g9
 obtain ⟨k4, g9⟩ := injK g9
 have k5 : a.fFrozen = b.fFrozen := by
  simp only [List.cons.injEq, and_true] at g9
  revert g9
  cases a.fFrozen <;> cases b.fFrozen <;> simp
 cases a; cases b
 simp only [MHead.mk.injEq]
 exact ⟨g1, g2, g3, g4, g5, g6, g7, g8, k1, k2, k3, k4, k5⟩
end Z35
namespace Z36
def F (x0 : Int) (x1 : List (List L)) : Ans := (bif (lim (((1 : Int) + (x1.length : Int)) * 8)) then (bif (lim (((([[L.int x0]] ++ x1).length : Int) + 1) * 8)) then (call (Z33.R (([[L.int x0]] ++ x1) ++ [[L.int x0]])) fun v1 => ret (v1 : Int)) else none) else none)
def pats : List Pat := [.rd (.int .i64), .rd (.sl 3)]
def res : RP := .one (.rd (.int .i64))
def md (a0 : Int) (a1 : List Int) : Int := ((Z33.md (([a0] ++ a1) ++ [a0])) : Int)
def gd (a0 : Int) (a1 : List Int) : Prop := (SmL (2 ^ 40) (fun y : Int => True) a1)
def acc (ls : List L) : Int × List (List L) := ((ls.headD .hole).toInt, ((dropT 1 ls).headD .hole).toSl)
def R : (Int × List (List L)) → Option Int := RR (p2 gd) (u2 md)
theorem R_eq {a0} {a1} (h : gd a0 a1) : R (a0, (a1.map iRow)) = some (md a0 a1) := RR_eq (a := (a0, a1)) h
def con : Con := CN pats res acc R
theorem okF (a0 : Int) (a1 : List Int) (hg : gd a0 a1) : F a0 (a1.map iRow) = ret ((md a0 a1) : Int) := by
  unfold gd at hg
  have H1 := hg
  unfold F md
  try simp only [S0]
  refine yes_ret (by
      have := (H1).1
      refine lim_t ?_
      try simp (disch := omega) only [LN, wi]
      first | omega | (simp; done) | (simp; omega)) ?_
  refine yes_ret (by
      have := (H1).1
      refine lim_t ?_
      try simp (disch := omega) only [LN, wi]
      first | omega | (simp; done) | (simp; omega)) ?_
  refine call_to (Z33.md (([a0] ++ a1) ++ [a0])) ?_ ?_
  · have R_ := Z33.R_eq (a0 := (([a0] ++ a1) ++ [a0])) ⟨(by
        have := (H1).1
        try simp (disch := omega) only [LN, wi]
        first | omega | (simp; done) | (simp; omega)), fun _ _ => trivial⟩
    first | exact R_ | (simp only [MP, S0] at R_ ⊢; first | exact R_ | (rw [← R_]; rfl))
  all_goals first | rfl | (simp only [S0, MP]; first | done | rfl)
theorem valid_ : Valid Tryz.prog Ev 332 con := VV (live := fun _ => []) (nt := 13) (run := fun _ x => F x.1 x.2) mix tab_ok (.cons Z33.valid_ .nil) Tryz.func332 (by kernel_rfl) (fun _ _ => by kernel_rfl) (fun _ a _ _ hg => ⟨0, okF a.1 a.2 hg⟩)
end Z36
namespace Z37
def F (x0 : Int) (x1 : List (List L)) : Ans := (bif (lim (((1 : Int) + (x1.length : Int)) * 8)) then (call (Z36.R (x0, ([[L.int 223]] ++ x1))) fun v1 => ret (v1 : Int)) else none)
def pats : List Pat := [.rd (.int .i64), .rd (.sl 3)]
def res : RP := .one (.rd (.int .i64))
def md (a0 : Int) (a1 : List Int) : Int := ((Z36.md a0 ([223] ++ a1)) : Int)
def gd (a0 : Int) (a1 : List Int) : Prop := (SmL (2 ^ 39) (fun y : Int => True) a1)
def acc (ls : List L) : Int × List (List L) := ((ls.headD .hole).toInt, ((dropT 1 ls).headD .hole).toSl)
def R : (Int × List (List L)) → Option Int := RR (p2 gd) (u2 md)
theorem R_eq {a0} {a1} (h : gd a0 a1) : R (a0, (a1.map iRow)) = some (md a0 a1) := RR_eq (a := (a0, a1)) h
def con : Con := CN pats res acc R
theorem okF (a0 : Int) (a1 : List Int) (hg : gd a0 a1) : F a0 (a1.map iRow) = ret ((md a0 a1) : Int) := by
  unfold gd at hg
  have H1 := hg
  unfold F md
  try simp only [S0]
  refine yes_ret (by
      have := (H1).1
      refine lim_t ?_
      try simp (disch := omega) only [LN, wi]
      first | omega | (simp; done) | (simp; omega)) ?_
  refine call_to (Z36.md a0 ([223] ++ a1)) ?_ ?_
  · have R_ := Z36.R_eq (a0 := a0) (a1 := ([223] ++ a1)) ⟨(by
        have := (H1).1
        try simp (disch := omega) only [LN, wi]
        first | omega | (simp; done) | (simp; omega)), fun _ _ => trivial⟩
    first | exact R_ | (simp only [MP, S0] at R_ ⊢; first | exact R_ | (rw [← R_]; rfl))
  all_goals first | rfl | (simp only [S0, MP]; first | done | rfl)
theorem valid_ : Valid Tryz.prog Ev 320 con := VV (live := fun _ => []) (nt := 10) (run := fun _ x => F x.1 x.2) mix tab_ok (.cons Z36.valid_ .nil) Tryz.func320 (by kernel_rfl) (fun _ _ => by kernel_rfl) (fun _ a _ _ hg => ⟨0, okF a.1 a.2 hg⟩)
end Z37
namespace Z38
def F (x0 : MSig) (x1 : List (List L)) : Ans := (call (Z27.R (x0.fKey, 1, 99)) fun v1 => (bif v1 then (call (Z37.R (x0.fKey, x1)) fun v2 => ret ((x0.fTag == v2) : Bool)) else ret (false : Bool)))
def pats : List Pat := [.agg [.int .i64, .int .i64], .rd (.sl 3)]
def res : RP := .one (.rd (.bool))
def md (a0 : MSig) (a1 : List Int) : Bool := (bif (Z27.md a0.fKey 1 99) then ((a0.fTag == (Z37.md a0.fKey a1)) : Bool) else (false : Bool))
def gd (a0 : MSig) (a1 : List Int) : Prop := (SmL (2 ^ 38) (fun y : Int => True) a1)
def acc (ls : List L) : MSig × List (List L) := ((MSig.dec ls), ((dropT 2 ls).headD .hole).toSl)
def R : (MSig × List (List L)) → Option Bool := RR (p2 gd) (u2 md)
theorem R_eq {a0} {a1} (h : gd a0 a1) : R (a0, (a1.map iRow)) = some (md a0 a1) := RR_eq (a := (a0, a1)) h
def con : Con := CN pats res acc R
theorem okF (a0 : MSig) (a1 : List Int) (hg : gd a0 a1) : F a0 (a1.map iRow) = ret ((md a0 a1) : Bool) := by
 unfold gd at hg
 have H1 := hg
 unfold F md
 try simp only [S0]
 refine call_to (Z27.md a0.fKey 1 99) (Z27.R_eq (a0 := a0.fKey) (a1 := 1) (a2 := 99) trivial) ?_
 refine bif_out ret (fun c1 => ?_) (fun _ => rfl)
 refine call_to (Z37.md a0.fKey a1) (Z37.R_eq (a0 := a0.fKey) (a1 := a1) (H1.mono (by decide) (fun x hx => trivial))) ?_
 all_goals first | rfl | (simp only [S0, MP]; first | done | rfl)
theorem valid_ : Valid Tryz.prog Ev 299 con := VV (live := fun _ => []) (nt := 17) (run := fun _ x => F x.1 x.2) mix tab_ok (.cons Z27.valid_ (.cons Z37.valid_ .nil)) Tryz.func299 (by kernel_rfl) (fun _ _ => by kernel_rfl) (fun _ a _ _ hg => ⟨0, okF a.1 a.2 hg⟩)
end Z38
namespace Z39
inductive Pt where
 | p0 (a : List (List L)) (b : List (List L)) (c : Int) (d : Int) (e : RKeys)
 | p1 (a : List (List L)) (b : List (List L)) (c : Int) (d : Int) (e : Int) (f : RKeys)
def pid : Pt → Nat
 | .p0 .. => 3
 | .p1 .. => 6
def pvs : Pt → List V
 | .p0 a b c d e => [.sl none 3 a, .sl none 184 b, .bptr 0 0, .int .i64 c, .int .i64 d]
 | .p1 a b c d e f => [.sl none 3 a, .sl none 184 b, .bptr 0 0, .int .i64 c, .int .i64 d, .int .i64 e]
def phs : Pt → List Root
 | .p0 a b c d e => [.box [.sl none 3 e.fList, .int .i64 e.fNeed]]
 | .p1 a b c d e f => [.box [.sl none 3 f.fList, .int .i64 f.fNeed]]
def step (J : Pt → Ans) : Pt → Ans
 | .p0 a b c d e => (bif (decide (d < (e.fList.length : Int))) then J (.p1 a b c d 0 e) else ret (c : Int))
 | .p1 a b c d e f => (bif (decide (e < (b.length : Int))) then (bif (decide ((0 : Int) ≤ e)) then (bif (decide (e < (b.length : Int))) then (bif (decide ((0 : Int) ≤ d)) then (bif (decide (d < (f.fList.length : Int))) then (bif ((MSig.at b (Int.toNat e)).fKey == (iAt f.fList (Int.toNat d))) then (bif (decide ((0 : Int) ≤ e)) then (bif (decide (e < (b.length : Int))) then (call (Z38.R ((MSig.at b (Int.toNat e)), a)) fun v1 => (bif v1 then J (.p0 a b (IntKind.i64.wrap (c + 1)) (IntKind.i64.wrap (d + 1)) f) else J (.p1 a b c d (IntKind.i64.wrap (e + 1)) f))) else none) else none) else J (.p1 a b c d (IntKind.i64.wrap (e + 1)) f)) else none) else none) else none) else none) else J (.p0 a b c (IntKind.i64.wrap (d + 1)) f))
def start (J : Pt → Ans) (x0 : RKeys) (x1 : List (List L)) (x2 : List (List L)) : Ans := J (.p0 x1 x2 0 0 x0)
def live : Nat → Live := fun i => match i with | 3 => [(1, none), (2, none), (3, none), (7, none), (8, none)] | 6 => [(1, none), (2, none), (3, none), (7, none), (8, none), (9, none)] | _ => []
def pats : List Pat := [.agg [.sl 3, .int .i64], .rd (.sl 3), .rd (.sl 184)]
def res : RP := .one (.rd (.int .i64))
abbrev E : Env := { T := assoc Tab, G := conG [(299, Z38.con)], nt := 45 }
theorem step_eq (I : Heads) (p : Pt) : enterC E live I (pid p) (bodyOf Tryz.f270) (stOf (live (pid p)) (pvs p) (phs p)) (doneK E Tryz.f270 res) = step (fun q => I (pid q) (pvs q) (phs q)) p := by
 cases p <;> kernel_rfl
theorem start_eq (I : Heads) (ls : List L) : runC E live I (bodyOf Tryz.f270) (initS pats ls) (doneK E Tryz.f270 res) = start (fun q => I (pid q) (pvs q) (phs q)) (RKeys.dec ls) ((dropT 2 ls).headD .hole).toSl ((dropT 3 ls).headD .hole).toSl := by kernel_rfl
theorem run_eq (n : Nat) (ls : List L) : runF E live Tryz.f270 res n (initS pats ls) = start (iter step n) (RKeys.dec ls) ((dropT 2 ls).headD .hole).toSl ((dropT 3 ls).headD .hole).toSl := runF_iter (id := pid) (vs := pvs) (hs := phs) (step := step) (start := fun J => start J (RKeys.dec ls) ((dropT 2 ls).headD .hole).toSl ((dropT 3 ls).headD .hole).toSl) step_eq (fun I => start_eq I ls) n
def md (a0 : MKeys) (a1 : List Int) (a2 : List MSig) : Int := (eachM (S := Int) (β := Int) (fun (y1 : Int) (s3 : Int) => (eachM (S := Unit) (β := (Int ⊕ Int)) (fun (y5 : MSig) (s7 : Unit) => (bif (y5.fKey == y1) then (bif (Z38.md y5 a1) then (.inr (.inl (IntKind.i64.wrap (s3 + 1)))) else (.inl ())) else (.inl ()))) (fun (s7 : Unit) => (.inl s3)) a2 ())) (fun (s3 : Int) => (s3 : Int)) a0.fList 0)
def gd (a0 : MKeys) (a1 : List Int) (a2 : List MSig) : Prop := (MKeys.Sm (2 ^ 21) a0) ∧ (SmL (2 ^ 38) (fun y : Int => True) a1) ∧ (SmL (2 ^ 21) (fun y : MSig => MSig.Sm (2 ^ 21) y) a2)
def acc (ls : List L) : RKeys × List (List L) × List (List L) := ((RKeys.dec ls), ((dropT 2 ls).headD .hole).toSl, ((dropT 3 ls).headD .hole).toSl)
def R : (RKeys × List (List L) × List (List L)) → Option Int := RR (p3 gd) (u3 md)
theorem R_eq {a0} {a1} {a2} (h : gd a0 a1 a2) : R ((MKeys.r a0), (a1.map iRow), (a2.map MSig.row)) = some (md a0 a1 a2) := RR_eq (a := (a0, a1, a2)) h
def con : Con := CN pats res acc R
theorem okF (a0 : MKeys) (a1 : List Int) (a2 : List MSig) (hg : gd a0 a1 a2) : ∃ n, start (iter step n) (MKeys.r a0) (a1.map iRow) (a2.map MSig.row) = ret ((md a0 a1 a2) : Int) := by
  unfold gd at hg
  obtain ⟨H0, H1, H2⟩ := hg
  unfold start md
  try simp only [S0, MKeys.rs, MSig.rs]
  have Bh2 : a0.fList.length ≤ maxLen := (by
      have := (H0).1
      try simp only [maxLen] at *
      omega)
  refine ex_eq (out := ret) (loopM_eachM (z := 0)) ?_
  refine ex_pt (p := Pt.p0 (a1.map iRow) (a2.map MSig.row) 0 0 (MKeys.r a0)) (by first | rfl | (simp only [S0, MKeys.rs, MSig.rs, MP]; done) | (simp only [MP]; rfl)) ?_
  refine loopM_ex (pt := fun (i1 : Nat) (s3 : Int) => Pt.p0 (a1.map iRow) (a2.map MSig.row) s3 (i1 : Int) (MKeys.r a0)) (s := (0 : Int)) (out := ret) (fun _ _ => True) (fun i1 s3 h2 hih2 K4 hK4 rK4 => ?_) (fun s3 hih2 => ?_) trivial
  · simp only [step, S0, MKeys.rs, MSig.rs]
    have bb_ := Bh2
    simp only [maxLen] at bb_
    have := (H0).1
    refine ex_yes (by apply decide_eq_true; omega) ?_
    have Bh6 : a2.length ≤ maxLen := (by
        have := (H2).1
        try simp only [maxLen] at *
        omega)
    refine ex_eq (out := K4) (loopM_eachM (z := MSig.zero)) ?_
    refine ex_pt (p := Pt.p1 (a1.map iRow) (a2.map MSig.row) s3 (i1 : Int) 0 (MKeys.r a0)) (by first | rfl | (simp only [S0, MKeys.rs, MSig.rs, MP]; done) | (simp only [MP]; rfl)) ?_
    refine loopM_ex (pt := fun (i5 : Nat) (s7 : Unit) => Pt.p1 (a1.map iRow) (a2.map MSig.row) s3 (i1 : Int) (i5 : Int) (MKeys.r a0)) (s := (() : Unit)) (out := K4) (fun _ _ => True) (fun i5 s7 h6 hih6 K8 hK8 rK8 => ?_) (fun s7 hih6 => ?_) trivial
    · simp only [step, S0, MKeys.rs, MSig.rs]
      have bb_ := Bh6
      simp only [maxLen] at bb_
      have := (H2).1
      refine ex_yes (by apply decide_eq_true; omega) ?_
      refine ex_yes zle_dec ?_
      refine ex_yes (lt_dec h6) ?_
      refine ex_yes (by
          refine decide_eq_true ?_
          try simp (disch := omega) only [LN, wi]
          first | omega | (simp; done) | (simp; omega)) ?_
      refine ex_yes (by
          have := (H0).1
          refine decide_eq_true ?_
          try simp (disch := omega) only [LN, wi]
          first | omega | (simp; done) | (simp; omega)) ?_
      refine ex_bif K8 (fun c9 => ?_) (fun c9 => ?_)
      · refine ex_yes zle_dec ?_
        refine ex_yes (lt_dec h6) ?_
        refine ex_call_to (Z38.md (a2.getD i5 MSig.zero) a1) (Z38.R_eq (a0 := (a2.getD i5 MSig.zero)) (a1 := a1) H1) ?_
        refine ex_bif K8 (fun c10 => ?_) (fun c10 => ?_)
        · rw [rK8]
          rw [wrap_succ h2 Bh2]
          first | exact hK4 _ trivial | (simp only [S0, MKeys.rs, MSig.rs]; exact hK4 _ trivial) | (simp only [MP]; exact hK4 _ trivial)
        · rw [wrap_succ h6 Bh6]
          first | exact hK8 _ trivial | (simp only [S0, MKeys.rs, MSig.rs]; exact hK8 _ trivial) | (simp only [MP]; exact hK8 _ trivial)
      · rw [wrap_succ h6 Bh6]
        first | exact hK8 _ trivial | (simp only [S0, MKeys.rs, MSig.rs]; exact hK8 _ trivial) | (simp only [MP]; exact hK8 _ trivial)
    · simp only [step, S0, MKeys.rs, MSig.rs]
      have := (H2).1
      refine ex_no (by apply decide_eq_false; omega) ?_
      rw [wrap_succ h2 Bh2]
      first | exact hK4 _ trivial | (simp only [S0, MKeys.rs, MSig.rs]; exact hK4 _ trivial) | (simp only [MP]; exact hK4 _ trivial)
  · simp only [step, S0, MKeys.rs, MSig.rs]
    have := (H0).1
    refine ex_no (by apply decide_eq_false; omega) ?_
    refine ⟨0, ?_⟩
    all_goals first | rfl | (simp only [S0, MKeys.rs, MSig.rs, MP]; first | done | rfl)
theorem valid_ : Valid Tryz.prog Ev 270 con := VV (run := fun n x => start (iter step n) x.1 x.2.1 x.2.2) mix tab_ok (.cons Z38.valid_ .nil) Tryz.func270 (by kernel_rfl) run_eq (fun _ a _ _ hg => okF a.1 a.2.1 a.2.2 hg)
end Z39
namespace Z40
def F (x0 : RKeys) (x1 : List (List L)) (x2 : List (List L)) : Ans := (call (Z28.R x0) fun v1 => (bif v1 then (call (Z39.R (x0, x1, x2)) fun v2 => ret ((decide (v2 ≥ x0.fNeed)) : Bool)) else ret (false : Bool)))
def pats : List Pat := [.agg [.sl 3, .int .i64], .rd (.sl 3), .rd (.sl 184)]
def res : RP := .one (.rd (.bool))
def md (a0 : MKeys) (a1 : List Int) (a2 : List MSig) : Bool := (bif (Z28.md a0) then ((decide ((Z39.md a0 a1 a2) ≥ a0.fNeed)) : Bool) else (false : Bool))
def gd (a0 : MKeys) (a1 : List Int) (a2 : List MSig) : Prop := (MKeys.Sm (2 ^ 21) a0) ∧ (SmL (2 ^ 38) (fun y : Int => True) a1) ∧ (SmL (2 ^ 21) (fun y : MSig => MSig.Sm (2 ^ 21) y) a2)
def acc (ls : List L) : RKeys × List (List L) × List (List L) := ((RKeys.dec ls), ((dropT 2 ls).headD .hole).toSl, ((dropT 3 ls).headD .hole).toSl)
def R : (RKeys × List (List L) × List (List L)) → Option Bool := RR (p3 gd) (u3 md)
theorem R_eq {a0} {a1} {a2} (h : gd a0 a1 a2) : R ((MKeys.r a0), (a1.map iRow), (a2.map MSig.row)) = some (md a0 a1 a2) := RR_eq (a := (a0, a1, a2)) h
def con : Con := CN pats res acc R
theorem okF (a0 : MKeys) (a1 : List Int) (a2 : List MSig) (hg : gd a0 a1 a2) : F (MKeys.r a0) (a1.map iRow) (a2.map MSig.row) = ret ((md a0 a1 a2) : Bool) := by
 unfold gd at hg
 obtain ⟨H0, H1, H2⟩ := hg
 unfold F md
 try simp only [S0, MKeys.rs]
 refine call_to (Z28.md a0) (Z28.R_eq (a0 := a0) H0) ?_
 refine bif_out ret (fun c1 => ?_) (fun _ => rfl)
 refine call_to (Z39.md a0 a1 a2) (Z39.R_eq (a0 := a0) (a1 := a1) (a2 := a2) ⟨H0, H1, H2⟩) ?_
 all_goals first | rfl | (simp only [S0, MKeys.rs, MP]; first | done | rfl)
theorem valid_ : Valid Tryz.prog Ev 240 con := VV (live := fun _ => []) (nt := 18) (run := fun _ x => F x.1 x.2.1 x.2.2) mix tab_ok (.cons Z28.valid_ (.cons Z39.valid_ .nil)) Tryz.func240 (by kernel_rfl) (fun _ _ => by kernel_rfl) (fun _ a _ _ hg => ⟨0, okF a.1 a.2.1 a.2.2 hg⟩)
end Z40
namespace Z41
def F (x0 : RSigned) : Ans := (call (Z30.R x0.fHead) fun v1 => (bif v1 then (bif (x0.fHead.fEpoch == 0) then (bif (x0.fHead.fKind == 1) then (bif (!x0.fHead.fFrozen) then (call (Z34.R (x0.fHead.fKeys, x0.fHead.fPrev)) fun v2 => (bif (x0.fHead.fZone == v2) then (call (Z35.R x0.fHead) fun v3 => (call (Z40.R (x0.fHead.fKeys, v3, x0.fSigs)) fun v4 => ret (v4 : Bool))) else ret (false : Bool))) else ret (false : Bool)) else ret (false : Bool)) else ret (false : Bool)) else ret (false : Bool)))
def pats : List Pat := [.agg [.int .i64, .int .i64, .int .i64, .int .i64, .int .i64, .int .i64, .int .i64, .int .i64, .sl 3, .int .i64, .sl 3, .int .i64, .int .i64, .sl 3, .int .i64, .bool, .sl 184]]
def res : RP := .one (.rd (.bool))
def md (a0 : MSigned) : Bool := (bif (Z30.md a0.fHead) then (bif (a0.fHead.fEpoch == 0) then (bif (a0.fHead.fKind == 1) then (bif (!a0.fHead.fFrozen) then (bif (a0.fHead.fZone == (Z34.md a0.fHead.fKeys a0.fHead.fPrev)) then ((Z40.md a0.fHead.fKeys (Z35.md a0.fHead) a0.fSigs) : Bool) else (false : Bool)) else (false : Bool)) else (false : Bool)) else (false : Bool)) else (false : Bool))
def gd (a0 : MSigned) : Prop := (MSigned.Sm (2 ^ 21) a0)
def acc (ls : List L) : RSigned := (RSigned.dec ls)
def R : RSigned → Option Bool := RR gd md
theorem R_eq {a0} (h : gd a0) : R (MSigned.r a0) = some (md a0) := RR_eq (a := a0) h
def con : Con := CN pats res acc R
theorem okF (a0 : MSigned) (hg : gd a0) : F (MSigned.r a0) = ret ((md a0) : Bool) := by
 unfold gd at hg
 have H0 := hg
 unfold F md
 try simp only [S0, MHead.rs, MSigned.rs]
 refine call_to (Z30.md a0.fHead) (Z30.R_eq (a0 := a0.fHead) H0.1) ?_
 refine bif_out ret (fun c1 => ?_) (fun _ => rfl)
 try have tc1 := Z30.tr (by simpa using c1)
 refine bif_out ret (fun c2 => ?_) (fun _ => rfl)
 have dc2 := c2
 try simp only [DC] at dc2
 refine bif_out ret (fun c3 => ?_) (fun _ => rfl)
 have dc3 := c3
 try simp only [DC] at dc3
 refine bif_out ret (fun c4 => ?_) (fun _ => rfl)
 have dc4 := c4
 try simp only [DC] at dc4
 refine call_to (Z34.md a0.fHead.fKeys a0.fHead.fPrev) (Z34.R_eq (a0 := a0.fHead.fKeys) (a1 := a0.fHead.fPrev) H0.1.1) ?_
 refine bif_out ret (fun c5 => ?_) (fun _ => rfl)
 have dc5 := c5
 try simp only [DC] at dc5
 refine call_to ((Z35.md a0.fHead).map iRow) (Z35.R_eq (a0 := a0.fHead) H0.1) ?_
 try simp only [S0, MHead.rs, MSigned.rs]
 refine call_to (Z40.md a0.fHead.fKeys (Z35.md a0.fHead) a0.fSigs) (Z40.R_eq (a0 := a0.fHead.fKeys) (a1 := (Z35.md a0.fHead)) (a2 := a0.fSigs) ⟨H0.1.1, ⟨(by
   have := Z35.len a0.fHead
   have := (H0.1.1).1
   have := (H0.1.2.1).1
   have := (H0.1.2.2).1
   try simp (disch := omega) only [LN, wi]
   first | omega | (simp; done) | (simp; omega)), fun _ _ => trivial⟩, H0.2⟩) ?_
 all_goals first | rfl | (simp only [S0, MHead.rs, MSigned.rs, MP]; first | done | rfl)
theorem valid_ : Valid Tryz.prog Ev 212 con := VV (live := fun _ => []) (nt := 42) (run := fun _ x => F x) mix tab_ok (.cons Z30.valid_ (.cons Z34.valid_ (.cons Z35.valid_ (.cons Z40.valid_ .nil)))) Tryz.func212 (by kernel_rfl) (fun _ _ => by kernel_rfl) (fun _ a _ _ hg => ⟨0, okF a hg⟩)
end Z41
namespace Z42
def F (x0 : RHead) : Ans := (call (Z35.R x0) fun v1 => (bif (lim (((1 : Int) + (v1.length : Int)) * 8)) then (call (Z33.R ([[L.int 233]] ++ v1)) fun v2 => ret (v2 : Int)) else none))
def pats : List Pat := [.agg [.int .i64, .int .i64, .int .i64, .int .i64, .int .i64, .int .i64, .int .i64, .int .i64, .sl 3, .int .i64, .sl 3, .int .i64, .int .i64, .sl 3, .int .i64, .bool]]
def res : RP := .one (.rd (.int .i64))
def md (a0 : MHead) : Int := ((Z33.md ([233] ++ (Z35.md a0))) : Int)
def gd (a0 : MHead) : Prop := (MHead.Sm (2 ^ 21) a0)
def acc (ls : List L) : RHead := (RHead.dec ls)
def R : RHead → Option Int := RR gd md
theorem R_eq {a0} (h : gd a0) : R (MHead.r a0) = some (md a0) := RR_eq (a := a0) h
def con : Con := CN pats res acc R
theorem okF (a0 : MHead) (hg : gd a0) : F (MHead.r a0) = ret ((md a0) : Int) := by
  unfold gd at hg
  have H0 := hg
  unfold F md
  try simp only [S0]
  refine call_to ((Z35.md a0).map iRow) (Z35.R_eq (a0 := a0) H0) ?_
  try simp only [S0]
  refine yes_ret (by
      have := Z35.len a0
      have := (H0.1).1
      have := (H0.2.1).1
      have := (H0.2.2).1
      refine lim_t ?_
      try simp (disch := omega) only [LN, wi]
      first | omega | (simp; done) | (simp; omega)) ?_
  refine call_to (Z33.md ([233] ++ (Z35.md a0))) ?_ ?_
  · have R_ := Z33.R_eq (a0 := ([233] ++ (Z35.md a0))) ⟨(by
        have := Z35.len a0
        have := (H0.1).1
        have := (H0.2.1).1
        have := (H0.2.2).1
        try simp (disch := omega) only [LN, wi]
        first | omega | (simp; done) | (simp; omega)), fun _ _ => trivial⟩
    first | exact R_ | (simp only [MP, S0] at R_ ⊢; first | exact R_ | (rw [← R_]; rfl))
  all_goals first | rfl | (simp only [S0, MP]; first | done | rfl)
theorem valid_ : Valid Tryz.prog Ev 271 con := VV (live := fun _ => []) (nt := 8) (run := fun _ x => F x) mix tab_ok (.cons Z35.valid_ (.cons Z33.valid_ .nil)) Tryz.func271 (by kernel_rfl) (fun _ _ => by kernel_rfl) (fun _ a _ _ hg => ⟨0, okF a hg⟩)
end Z42
namespace Z43
def F (x0 : RHead) (x1 : RHead) : Ans := (bif x0.fFrozen then ret (4 : Int) else (bif x1.fFrozen then ret (6 : Int) else ret (1 : Int)))
def pats : List Pat := [.agg [.int .i64, .int .i64, .int .i64, .int .i64, .int .i64, .int .i64, .int .i64, .int .i64, .sl 3, .int .i64, .sl 3, .int .i64, .int .i64, .sl 3, .int .i64, .bool], .agg [.int .i64, .int .i64, .int .i64, .int .i64, .int .i64, .int .i64, .int .i64, .int .i64, .sl 3, .int .i64, .sl 3, .int .i64, .int .i64, .sl 3, .int .i64, .bool]]
def res : RP := .one (.rd (.int .i64))
def md (a0 : MHead) (a1 : MHead) : Int := (bif a0.fFrozen then (4 : Int) else (bif a1.fFrozen then (6 : Int) else (1 : Int)))
def gd (a0 : MHead) (a1 : MHead) : Prop := True
def acc (ls : List L) : RHead × RHead := ((RHead.dec ls), (RHead.dec (dropT 16 ls)))
def R : (RHead × RHead) → Option Int := RR (p2 gd) (u2 md)
theorem R_eq {a0} {a1} (h : gd a0 a1) : R ((MHead.r a0), (MHead.r a1)) = some (md a0 a1) := RR_eq (a := (a0, a1)) h
def con : Con := CN pats res acc R
theorem okF (a0 : MHead) (a1 : MHead) (hg : gd a0 a1) : F (MHead.r a0) (MHead.r a1) = ret ((md a0 a1) : Int) := by
 unfold F md
 try simp only [S0, MHead.rs]
 refine bif_out ret (fun _ => rfl) (fun c1 => ?_)
 refine bif_out ret (fun _ => rfl) (fun _ => rfl)
theorem valid_ : Valid Tryz.prog Ev 272 con := VV (live := fun _ => []) (nt := 11) (run := fun _ x => F x.1 x.2) mix tab_ok .nil Tryz.func272 (by kernel_rfl) (fun _ _ => by kernel_rfl) (fun _ a _ _ hg => ⟨0, okF a.1 a.2 hg⟩)
end Z43
namespace Z44
inductive Pt where
 | p0 (a : List (List L)) (b : List (List L)) (c : Int)
def pid : Pt → Nat
 | .p0 .. => 4
def pvs : Pt → List V
 | .p0 a b c => [.sl none 3 a, .sl none 3 b, .int .i64 c]
def phs : Pt → List Root
 | .p0 a b c => []
def step (J : Pt → Ans) : Pt → Ans
 | .p0 a b c => (bif (decide (c < (a.length : Int))) then (bif (decide ((0 : Int) ≤ c)) then (bif (decide (c < (a.length : Int))) then (bif (decide ((0 : Int) ≤ c)) then (bif (decide (c < (b.length : Int))) then (bif ((iAt a (Int.toNat c)) != (iAt b (Int.toNat c))) then ret (false : Bool) else J (.p0 a b (IntKind.i64.wrap (c + 1)))) else none) else none) else none) else none) else ret (true : Bool))
def start (J : Pt → Ans) (x0 : List (List L)) (x1 : List (List L)) : Ans := (bif ((x0.length : Int) != (x1.length : Int)) then ret (false : Bool) else J (.p0 x0 x1 0))
def live : Nat → Live := fun i => match i with | 4 => [(0, none), (1, none), (5, none)] | _ => []
def pats : List Pat := [.rd (.sl 3), .rd (.sl 3)]
def res : RP := .one (.rd (.bool))
abbrev E : Env := { T := assoc Tab, G := conG [], nt := 26 }
theorem step_eq (I : Heads) (p : Pt) : enterC E live I (pid p) (bodyOf Tryz.f189) (stOf (live (pid p)) (pvs p) (phs p)) (doneK E Tryz.f189 res) = step (fun q => I (pid q) (pvs q) (phs q)) p := by
 cases p <;> kernel_rfl
theorem start_eq (I : Heads) (ls : List L) : runC E live I (bodyOf Tryz.f189) (initS pats ls) (doneK E Tryz.f189 res) = start (fun q => I (pid q) (pvs q) (phs q)) (ls.headD .hole).toSl ((dropT 1 ls).headD .hole).toSl := by kernel_rfl
theorem run_eq (n : Nat) (ls : List L) : runF E live Tryz.f189 res n (initS pats ls) = start (iter step n) (ls.headD .hole).toSl ((dropT 1 ls).headD .hole).toSl := runF_iter (id := pid) (vs := pvs) (hs := phs) (step := step) (start := fun J => start J (ls.headD .hole).toSl ((dropT 1 ls).headD .hole).toSl) step_eq (fun I => start_eq I ls) n
def md (a0 : List Int) (a1 : List Int) : Bool := (bif ((a0.length : Int) != (a1.length : Int)) then (false : Bool) else (loopM (S := Unit) (β := Bool) (fun (i2 : Nat) (s4 : Unit) => (bif ((a0.getD i2 0) != (a1.getD i2 0)) then (.inr (false : Bool)) else (.inl ()))) (fun (s4 : Unit) => (true : Bool)) a0.length 0 ()))
def gd (a0 : List Int) (a1 : List Int) : Prop := (SmL (2 ^ 38) (fun y : Int => True) a0) ∧ (SmL (2 ^ 38) (fun y : Int => True) a1)
def acc (ls : List L) : List (List L) × List (List L) := ((ls.headD .hole).toSl, ((dropT 1 ls).headD .hole).toSl)
def R : (List (List L) × List (List L)) → Option Bool := RR (p2 gd) (u2 md)
theorem R_eq {a0} {a1} (h : gd a0 a1) : R ((a0.map iRow), (a1.map iRow)) = some (md a0 a1) := RR_eq (a := (a0, a1)) h
def con : Con := CN pats res acc R
theorem okF (a0 : List Int) (a1 : List Int) (hg : gd a0 a1) : ∃ n, start (iter step n) (a0.map iRow) (a1.map iRow) = ret ((md a0 a1) : Bool) := by
  unfold gd at hg
  obtain ⟨H0, H1⟩ := hg
  unfold start md
  try simp only [S0]
  refine ex_bif ret (fun _ => ⟨0, rfl⟩) (fun c1 => ?_)
  have dc1 := c1
  try simp only [DC] at dc1
  have Bh3 : a0.length ≤ maxLen := (by
      have := (H0).1
      try simp only [maxLen] at *
      omega)
  refine ex_pt (p := Pt.p0 (a0.map iRow) (a1.map iRow) 0) (by first | rfl | (simp only [S0, MP]; done) | (simp only [MP]; rfl)) ?_
  refine loopM_ok (pt := fun (i2 : Nat) (s4 : Unit) => Pt.p0 (a0.map iRow) (a1.map iRow) (i2 : Int)) (s := (() : Unit)) (out := ret) (fun _ _ => True) (fun J i2 s4 h3 hih3 => ?_) (fun s4 hih3 => ?_) trivial
  · simp only [step, S0]
    have bb_ := Bh3
    simp only [maxLen] at bb_
    have := (H0).1
    refine Rnd.yes (by apply decide_eq_true; omega) ?_
    refine Rnd.yes zle_dec ?_
    refine Rnd.yes (lt_dec h3) ?_
    refine Rnd.yes zle_dec ?_
    refine Rnd.yes (by
        have := (H1).1
        refine decide_eq_true ?_
        try simp (disch := omega) only [LN, wi]
        first | omega | (simp; done) | (simp; omega)) ?_
    refine Rnd.bif (fun _ => Rnd.inr rfl) (fun c5 => ?_)
    refine Rnd.inl trivial ?_
    rw [wrap_succ h3 Bh3]
    all_goals first | rfl | (simp only [S0, MP]; first | done | rfl)
  · simp only [step, S0]
    have := (H0).1
    refine ex_no (by apply decide_eq_false; omega) ?_
    refine ⟨0, ?_⟩
    all_goals first | rfl | (simp only [S0, MP]; first | done | rfl)
theorem valid_ : Valid Tryz.prog Ev 189 con := VV (run := fun n x => start (iter step n) x.1 x.2) mix tab_ok .nil Tryz.func189 (by kernel_rfl) run_eq (fun _ a _ _ hg => okF a.1 a.2 hg)
theorem md_eq (a0 : List Int) (a1 : List Int) : md a0 a1 = eqB a0 a1 := by
 unfold md
 refine loop_eqB (0) (fun i s h h2 => ?_) (fun s => rfl)
 simp only [bne, int_beq, bool_beq, ba_beq]
 cases eqB _ _ <;> rfl
end Z44
namespace Z45
def F (x0 : RKeys) (x1 : RKeys) : Ans := (bif (x0.fNeed == x1.fNeed) then (call (Z44.R (x0.fList, x1.fList)) fun v1 => ret (v1 : Bool)) else ret (false : Bool))
def pats : List Pat := [.agg [.sl 3, .int .i64], .agg [.sl 3, .int .i64]]
def res : RP := .one (.rd (.bool))
def md (a0 : MKeys) (a1 : MKeys) : Bool := (bif (a0.fNeed == a1.fNeed) then ((Z44.md a0.fList a1.fList) : Bool) else (false : Bool))
def gd (a0 : MKeys) (a1 : MKeys) : Prop := (MKeys.Sm (2 ^ 21) a0) ∧ (MKeys.Sm (2 ^ 21) a1)
def acc (ls : List L) : RKeys × RKeys := ((RKeys.dec ls), (RKeys.dec (dropT 2 ls)))
def R : (RKeys × RKeys) → Option Bool := RR (p2 gd) (u2 md)
theorem R_eq {a0} {a1} (h : gd a0 a1) : R ((MKeys.r a0), (MKeys.r a1)) = some (md a0 a1) := RR_eq (a := (a0, a1)) h
def con : Con := CN pats res acc R
theorem okF (a0 : MKeys) (a1 : MKeys) (hg : gd a0 a1) : F (MKeys.r a0) (MKeys.r a1) = ret ((md a0 a1) : Bool) := by
 unfold gd at hg
 obtain ⟨H0, H1⟩ := hg
 unfold F md
 try simp only [S0, MKeys.rs]
 refine bif_out ret (fun c1 => ?_) (fun _ => rfl)
 refine call_to (Z44.md a0.fList a1.fList) (Z44.R_eq (a0 := a0.fList) (a1 := a1.fList) ⟨(H0.mono (by decide) (fun x hx => trivial)), (H1.mono (by decide) (fun x hx => trivial))⟩) ?_
 all_goals first | rfl | (simp only [S0, MKeys.rs, MP]; first | done | rfl)
theorem valid_ : Valid Tryz.prog Ev 300 con := VV (live := fun _ => []) (nt := 17) (run := fun _ x => F x.1 x.2) mix tab_ok (.cons Z44.valid_ .nil) Tryz.func300 (by kernel_rfl) (fun _ _ => by kernel_rfl) (fun _ a _ _ hg => ⟨0, okF a.1 a.2 hg⟩)
theorem md_eq (a0 : MKeys) (a1 : MKeys) : md a0 a1 = eqB a0 a1 := by
 unfold md
 cases a0; cases a1
 rw [Bool.eq_iff_iff]
 simp [eqB_iff, ba_beq, MKeys.mk.injEq, Z44.md_eq]
 try (constructor <;> (intro h; simp_all))
end Z45
namespace Z46
def F (x0 : RHead) (x1 : RHead) : Ans := (bif (x0.fCount == x1.fCount) then ret ((x0.fRoot == x1.fRoot) : Bool) else ret (false : Bool))
def pats : List Pat := [.agg [.int .i64, .int .i64, .int .i64, .int .i64, .int .i64, .int .i64, .int .i64, .int .i64, .sl 3, .int .i64, .sl 3, .int .i64, .int .i64, .sl 3, .int .i64, .bool], .agg [.int .i64, .int .i64, .int .i64, .int .i64, .int .i64, .int .i64, .int .i64, .int .i64, .sl 3, .int .i64, .sl 3, .int .i64, .int .i64, .sl 3, .int .i64, .bool]]
def res : RP := .one (.rd (.bool))
def md (a0 : MHead) (a1 : MHead) : Bool := (bif (a0.fCount == a1.fCount) then ((a0.fRoot == a1.fRoot) : Bool) else (false : Bool))
def gd (a0 : MHead) (a1 : MHead) : Prop := True
def acc (ls : List L) : RHead × RHead := ((RHead.dec ls), (RHead.dec (dropT 16 ls)))
def R : (RHead × RHead) → Option Bool := RR (p2 gd) (u2 md)
theorem R_eq {a0} {a1} (h : gd a0 a1) : R ((MHead.r a0), (MHead.r a1)) = some (md a0 a1) := RR_eq (a := (a0, a1)) h
def con : Con := CN pats res acc R
theorem okF (a0 : MHead) (a1 : MHead) (hg : gd a0 a1) : F (MHead.r a0) (MHead.r a1) = ret ((md a0 a1) : Bool) := by
 unfold F md
 try simp only [S0, MHead.rs]
 refine bif_out ret (fun c1 => ?_) (fun _ => rfl)
 all_goals first | rfl | (simp only [S0, MHead.rs, MP]; first | done | rfl)
theorem valid_ : Valid Tryz.prog Ev 301 con := VV (live := fun _ => []) (nt := 17) (run := fun _ x => F x.1 x.2) mix tab_ok .nil Tryz.func301 (by kernel_rfl) (fun _ _ => by kernel_rfl) (fun _ a _ _ hg => ⟨0, okF a.1 a.2 hg⟩)
end Z46
namespace Z47
def F (x0 : RHead) (x1 : RHead) : Ans := (bif x0.fFrozen then ret (4 : Int) else (call (Z29.R x0.fHeirs) fun v1 => (bif v1 then ret (5 : Int) else (bif (decide (x1.fTime < (IntKind.i64.wrap (x0.fUntil + x0.fWait)))) then ret (5 : Int) else (bif x1.fFrozen then ret (6 : Int) else (call (Z45.R (x1.fKeys, x0.fHeirs)) fun v2 => (bif (!v2) then ret (6 : Int) else (call (Z46.R (x1, x0)) fun v3 => (bif (!v3) then ret (6 : Int) else ret (1 : Int))))))))))
def pats : List Pat := [.agg [.int .i64, .int .i64, .int .i64, .int .i64, .int .i64, .int .i64, .int .i64, .int .i64, .sl 3, .int .i64, .sl 3, .int .i64, .int .i64, .sl 3, .int .i64, .bool], .agg [.int .i64, .int .i64, .int .i64, .int .i64, .int .i64, .int .i64, .int .i64, .int .i64, .sl 3, .int .i64, .sl 3, .int .i64, .int .i64, .sl 3, .int .i64, .bool]]
def res : RP := .one (.rd (.int .i64))
def md (a0 : MHead) (a1 : MHead) : Int := (bif a0.fFrozen then (4 : Int) else (bif (Z29.md a0.fHeirs) then (5 : Int) else (bif (decide (a1.fTime < (IntKind.i64.wrap (a0.fUntil + a0.fWait)))) then (5 : Int) else (bif a1.fFrozen then (6 : Int) else (bif (!(Z45.md a1.fKeys a0.fHeirs)) then (6 : Int) else (bif (!(Z46.md a1 a0)) then (6 : Int) else (1 : Int)))))))
def gd (a0 : MHead) (a1 : MHead) : Prop := (MHead.Sm (2 ^ 21) a0) ∧ (MHead.Sm (2 ^ 21) a1)
def acc (ls : List L) : RHead × RHead := ((RHead.dec ls), (RHead.dec (dropT 16 ls)))
def R : (RHead × RHead) → Option Int := RR (p2 gd) (u2 md)
theorem R_eq {a0} {a1} (h : gd a0 a1) : R ((MHead.r a0), (MHead.r a1)) = some (md a0 a1) := RR_eq (a := (a0, a1)) h
def con : Con := CN pats res acc R
theorem okF (a0 : MHead) (a1 : MHead) (hg : gd a0 a1) : F (MHead.r a0) (MHead.r a1) = ret ((md a0 a1) : Int) := by
 unfold gd at hg
 obtain ⟨H0, H1⟩ := hg
 unfold F md
 try simp only [S0, MHead.rs]
 refine bif_out ret (fun _ => rfl) (fun c1 => ?_)
 refine call_to (Z29.md a0.fHeirs) (Z29.R_eq (a0 := a0.fHeirs) trivial) ?_
 refine bif_out ret (fun _ => rfl) (fun c2 => ?_)
 refine bif_out ret (fun _ => rfl) (fun c3 => ?_)
 refine bif_out ret (fun _ => rfl) (fun c4 => ?_)
 refine call_to (Z45.md a1.fKeys a0.fHeirs) (Z45.R_eq (a0 := a1.fKeys) (a1 := a0.fHeirs) ⟨H1.1, H0.2.1⟩) ?_
 refine bif_out ret (fun _ => rfl) (fun c5 => ?_)
 refine call_to (Z46.md a1 a0) (Z46.R_eq (a0 := a1) (a1 := a0) trivial) ?_
 refine bif_out ret (fun _ => rfl) (fun _ => rfl)
theorem valid_ : Valid Tryz.prog Ev 273 con := VV (live := fun _ => []) (nt := 39) (run := fun _ x => F x.1 x.2) mix tab_ok (.cons Z29.valid_ (.cons Z45.valid_ (.cons Z46.valid_ .nil))) Tryz.func273 (by kernel_rfl) (fun _ _ => by kernel_rfl) (fun _ a _ _ hg => ⟨0, okF a.1 a.2 hg⟩)
end Z47
namespace Z48
def F (x0 : RHead) (x1 : RHead) : Ans := (call (Z29.R x0.fJudge) fun v1 => (bif v1 then ret (5 : Int) else (bif (x1.fFrozen == x0.fFrozen) then ret (6 : Int) else (call (Z46.R (x1, x0)) fun v2 => (bif (!v2) then ret (6 : Int) else (call (Z45.R (x1.fJudge, x0.fJudge)) fun v3 => (bif (!v3) then ret (6 : Int) else (call (Z45.R (x1.fHeirs, x0.fHeirs)) fun v4 => (bif (!v4) then ret (6 : Int) else (bif (x1.fWait != x0.fWait) then ret (6 : Int) else (bif x1.fFrozen then (call (Z45.R (x1.fKeys, x0.fKeys)) fun v5 => (bif (!v5) then ret (6 : Int) else ret (1 : Int))) else ret (1 : Int))))))))))))
def pats : List Pat := [.agg [.int .i64, .int .i64, .int .i64, .int .i64, .int .i64, .int .i64, .int .i64, .int .i64, .sl 3, .int .i64, .sl 3, .int .i64, .int .i64, .sl 3, .int .i64, .bool], .agg [.int .i64, .int .i64, .int .i64, .int .i64, .int .i64, .int .i64, .int .i64, .int .i64, .sl 3, .int .i64, .sl 3, .int .i64, .int .i64, .sl 3, .int .i64, .bool]]
def res : RP := .one (.rd (.int .i64))
def md (a0 : MHead) (a1 : MHead) : Int := (bif (Z29.md a0.fJudge) then (5 : Int) else (bif (a1.fFrozen == a0.fFrozen) then (6 : Int) else (bif (!(Z46.md a1 a0)) then (6 : Int) else (bif (!(Z45.md a1.fJudge a0.fJudge)) then (6 : Int) else (bif (!(Z45.md a1.fHeirs a0.fHeirs)) then (6 : Int) else (bif (a1.fWait != a0.fWait) then (6 : Int) else (bif a1.fFrozen then (bif (!(Z45.md a1.fKeys a0.fKeys)) then (6 : Int) else (1 : Int)) else (1 : Int))))))))
def gd (a0 : MHead) (a1 : MHead) : Prop := (MHead.Sm (2 ^ 21) a0) ∧ (MHead.Sm (2 ^ 21) a1)
def acc (ls : List L) : RHead × RHead := ((RHead.dec ls), (RHead.dec (dropT 16 ls)))
def R : (RHead × RHead) → Option Int := RR (p2 gd) (u2 md)
theorem R_eq {a0} {a1} (h : gd a0 a1) : R ((MHead.r a0), (MHead.r a1)) = some (md a0 a1) := RR_eq (a := (a0, a1)) h
def con : Con := CN pats res acc R
theorem okF (a0 : MHead) (a1 : MHead) (hg : gd a0 a1) : F (MHead.r a0) (MHead.r a1) = ret ((md a0 a1) : Int) := by
 unfold gd at hg
 obtain ⟨H0, H1⟩ := hg
 unfold F md
 try simp only [S0, MHead.rs]
 refine call_to (Z29.md a0.fJudge) (Z29.R_eq (a0 := a0.fJudge) trivial) ?_
 refine bif_out ret (fun _ => rfl) (fun c1 => ?_)
 refine bif_out ret (fun _ => rfl) (fun c2 => ?_)
 refine call_to (Z46.md a1 a0) (Z46.R_eq (a0 := a1) (a1 := a0) trivial) ?_
 refine bif_out ret (fun _ => rfl) (fun c3 => ?_)
 refine call_to (Z45.md a1.fJudge a0.fJudge) (Z45.R_eq (a0 := a1.fJudge) (a1 := a0.fJudge) ⟨H1.2.2, H0.2.2⟩) ?_
 refine bif_out ret (fun _ => rfl) (fun c4 => ?_)
 refine call_to (Z45.md a1.fHeirs a0.fHeirs) (Z45.R_eq (a0 := a1.fHeirs) (a1 := a0.fHeirs) ⟨H1.2.1, H0.2.1⟩) ?_
 refine bif_out ret (fun _ => rfl) (fun c5 => ?_)
 refine bif_out ret (fun _ => rfl) (fun c6 => ?_)
 refine bif_out ret (fun c7 => ?_) (fun _ => rfl)
 refine call_to (Z45.md a1.fKeys a0.fKeys) (Z45.R_eq (a0 := a1.fKeys) (a1 := a0.fKeys) ⟨H1.1, H0.1⟩) ?_
 refine bif_out ret (fun _ => rfl) (fun _ => rfl)
theorem valid_ : Valid Tryz.prog Ev 274 con := VV (live := fun _ => []) (nt := 55) (run := fun _ x => F x.1 x.2) mix tab_ok (.cons Z29.valid_ (.cons Z46.valid_ (.cons Z45.valid_ .nil))) Tryz.func274 (by kernel_rfl) (fun _ _ => by kernel_rfl) (fun _ a _ _ hg => ⟨0, okF a.1 a.2 hg⟩)
end Z48
namespace Z49
def F (x0 : RHead) (x1 : RSigned) : Ans := (call (Z30.R x0) fun v1 => (bif (!v1) then ret (2 : Int) else (call (Z30.R x1.fHead) fun v2 => (bif (!v2) then ret (2 : Int) else (bif (x1.fHead.fZone != x0.fZone) then ret (3 : Int) else (bif (x1.fHead.fEpoch != (IntKind.i64.wrap (x0.fEpoch + 1))) then ret (3 : Int) else (call (Z42.R x0) fun v3 => (bif (x1.fHead.fPrev != v3) then ret (3 : Int) else (bif (decide (x1.fHead.fTime < x0.fTime)) then ret (3 : Int) else (call (Z43.R (x0, x1.fHead)) fun v4 => (bif (x1.fHead.fKind == 2) then (call (Z47.R (x0, x1.fHead)) fun v5 => (bif (v5 == 1) then (call (Z35.R x1.fHead) fun v6 => (call (Z40.R (x0.fHeirs, v6, x1.fSigs)) fun v7 => (bif (!v7) then ret (7 : Int) else ret (v5 : Int)))) else ret (v5 : Int))) else (bif (x1.fHead.fKind == 3) then (call (Z48.R (x0, x1.fHead)) fun v8 => (bif (v8 == 1) then (call (Z35.R x1.fHead) fun v9 => (call (Z40.R (x0.fJudge, v9, x1.fSigs)) fun v10 => (bif (!v10) then ret (7 : Int) else ret (v8 : Int)))) else ret (v8 : Int))) else (bif (v4 == 1) then (call (Z35.R x1.fHead) fun v11 => (call (Z40.R (x0.fKeys, v11, x1.fSigs)) fun v12 => (bif (!v12) then ret (7 : Int) else ret (v4 : Int)))) else ret (v4 : Int))))))))))))))
def pats : List Pat := [.agg [.int .i64, .int .i64, .int .i64, .int .i64, .int .i64, .int .i64, .int .i64, .int .i64, .sl 3, .int .i64, .sl 3, .int .i64, .int .i64, .sl 3, .int .i64, .bool], .agg [.int .i64, .int .i64, .int .i64, .int .i64, .int .i64, .int .i64, .int .i64, .int .i64, .sl 3, .int .i64, .sl 3, .int .i64, .int .i64, .sl 3, .int .i64, .bool, .sl 184]]
def res : RP := .one (.rd (.int .i64))
def md (a0 : MHead) (a1 : MSigned) : Int := (bif (!(Z30.md a0)) then (2 : Int) else (bif (!(Z30.md a1.fHead)) then (2 : Int) else (bif (a1.fHead.fZone != a0.fZone) then (3 : Int) else (bif (a1.fHead.fEpoch != (IntKind.i64.wrap (a0.fEpoch + 1))) then (3 : Int) else (bif (a1.fHead.fPrev != (Z42.md a0)) then (3 : Int) else (bif (decide (a1.fHead.fTime < a0.fTime)) then (3 : Int) else (bif (a1.fHead.fKind == 2) then (bif ((Z47.md a0 a1.fHead) == 1) then (bif (!(Z40.md a0.fHeirs (Z35.md a1.fHead) a1.fSigs)) then (7 : Int) else ((Z47.md a0 a1.fHead) : Int)) else ((Z47.md a0 a1.fHead) : Int)) else (bif (a1.fHead.fKind == 3) then (bif ((Z48.md a0 a1.fHead) == 1) then (bif (!(Z40.md a0.fJudge (Z35.md a1.fHead) a1.fSigs)) then (7 : Int) else ((Z48.md a0 a1.fHead) : Int)) else ((Z48.md a0 a1.fHead) : Int)) else (bif ((Z43.md a0 a1.fHead) == 1) then (bif (!(Z40.md a0.fKeys (Z35.md a1.fHead) a1.fSigs)) then (7 : Int) else ((Z43.md a0 a1.fHead) : Int)) else ((Z43.md a0 a1.fHead) : Int))))))))))
def gd (a0 : MHead) (a1 : MSigned) : Prop := (MHead.Sm (2 ^ 21) a0) ∧ (MSigned.Sm (2 ^ 21) a1)
def acc (ls : List L) : RHead × RSigned := ((RHead.dec ls), (RSigned.dec (dropT 16 ls)))
def R : (RHead × RSigned) → Option Int := RR (p2 gd) (u2 md)
theorem R_eq {a0} {a1} (h : gd a0 a1) : R ((MHead.r a0), (MSigned.r a1)) = some (md a0 a1) := RR_eq (a := (a0, a1)) h
def con : Con := CN pats res acc R
theorem okF (a0 : MHead) (a1 : MSigned) (hg : gd a0 a1) : F (MHead.r a0) (MSigned.r a1) = ret ((md a0 a1) : Int) := by
  unfold gd at hg
  obtain ⟨H0, H1⟩ := hg
  unfold F md
  try simp only [S0, MHead.rs, MSigned.rs]
  refine call_to (Z30.md a0) (Z30.R_eq (a0 := a0) H0) ?_
  refine bif_out ret (fun _ => rfl) (fun c1 => ?_)
  have dc1 := c1
  try simp only [DC] at dc1
  try have tc1 := Z30.tr (by simpa using c1)
  refine call_to (Z30.md a1.fHead) (Z30.R_eq (a0 := a1.fHead) H1.1) ?_
  refine bif_out ret (fun _ => rfl) (fun c2 => ?_)
  have dc2 := c2
  try simp only [DC] at dc2
  try have tc2 := Z30.tr (by simpa using c2)
  refine bif_out ret (fun _ => rfl) (fun c3 => ?_)
  have dc3 := c3
  try simp only [DC] at dc3
  refine bif_out ret (fun _ => rfl) (fun c4 => ?_)
  have dc4 := c4
  try simp only [DC] at dc4
  refine call_to (Z42.md a0) (Z42.R_eq (a0 := a0) H0) ?_
  refine bif_out ret (fun _ => rfl) (fun c5 => ?_)
  have dc5 := c5
  try simp only [DC] at dc5
  refine bif_out ret (fun _ => rfl) (fun c6 => ?_)
  have dc6 := c6
  try simp only [DC] at dc6
  refine call_to (Z43.md a0 a1.fHead) (Z43.R_eq (a0 := a0) (a1 := a1.fHead) trivial) ?_
  refine bif_out ret (fun c7 => ?_) (fun c7 => ?_)
  · have dc7 := c7
    try simp only [DC] at dc7
    refine call_to (Z47.md a0 a1.fHead) (Z47.R_eq (a0 := a0) (a1 := a1.fHead) ⟨H0, H1.1⟩) ?_
    refine bif_out ret (fun c8 => ?_) (fun c8 => ?_)
    · have dc8 := c8
      try simp only [DC] at dc8
      refine call_to ((Z35.md a1.fHead).map iRow) (Z35.R_eq (a0 := a1.fHead) H1.1) ?_
      try simp only [S0, MHead.rs, MSigned.rs]
      refine call_to (Z40.md a0.fHeirs (Z35.md a1.fHead) a1.fSigs) (Z40.R_eq (a0 := a0.fHeirs) (a1 := (Z35.md a1.fHead)) (a2 := a1.fSigs) ⟨H0.2.1, ⟨(by
          have := Z35.len a1.fHead
          have := (H1.1.1).1
          have := (H1.1.2.1).1
          have := (H1.1.2.2).1
          try simp (disch := omega) only [LN, wi]
          first | omega | (simp; done) | (simp; omega)), fun _ _ => trivial⟩, H1.2⟩) ?_
      refine bif_out ret (fun _ => rfl) (fun c9 => ?_)
      all_goals first | rfl | (simp only [S0, MHead.rs, MSigned.rs, MP]; first | done | rfl)
    · all_goals first | rfl | (simp only [S0, MHead.rs, MSigned.rs, MP]; first | done | rfl)
  · have dc7 := c7
    try simp only [DC] at dc7
    refine bif_out ret (fun c10 => ?_) (fun c10 => ?_)
    · have dc10 := c10
      try simp only [DC] at dc10
      refine call_to (Z48.md a0 a1.fHead) (Z48.R_eq (a0 := a0) (a1 := a1.fHead) ⟨H0, H1.1⟩) ?_
      refine bif_out ret (fun c11 => ?_) (fun c11 => ?_)
      · have dc11 := c11
        try simp only [DC] at dc11
        refine call_to ((Z35.md a1.fHead).map iRow) (Z35.R_eq (a0 := a1.fHead) H1.1) ?_
        try simp only [S0, MHead.rs, MSigned.rs]
        refine call_to (Z40.md a0.fJudge (Z35.md a1.fHead) a1.fSigs) (Z40.R_eq (a0 := a0.fJudge) (a1 := (Z35.md a1.fHead)) (a2 := a1.fSigs) ⟨H0.2.2, ⟨(by
            have := Z35.len a1.fHead
            have := (H1.1.1).1
            have := (H1.1.2.1).1
            have := (H1.1.2.2).1
            try simp (disch := omega) only [LN, wi]
            first | omega | (simp; done) | (simp; omega)), fun _ _ => trivial⟩, H1.2⟩) ?_
        refine bif_out ret (fun _ => rfl) (fun c12 => ?_)
        all_goals first | rfl | (simp only [S0, MHead.rs, MSigned.rs, MP]; first | done | rfl)
      · all_goals first | rfl | (simp only [S0, MHead.rs, MSigned.rs, MP]; first | done | rfl)
    · have dc10 := c10
      try simp only [DC] at dc10
      refine bif_out ret (fun c13 => ?_) (fun c13 => ?_)
      · have dc13 := c13
        try simp only [DC] at dc13
        refine call_to ((Z35.md a1.fHead).map iRow) (Z35.R_eq (a0 := a1.fHead) H1.1) ?_
        try simp only [S0, MHead.rs, MSigned.rs]
        refine call_to (Z40.md a0.fKeys (Z35.md a1.fHead) a1.fSigs) (Z40.R_eq (a0 := a0.fKeys) (a1 := (Z35.md a1.fHead)) (a2 := a1.fSigs) ⟨H0.1, ⟨(by
            have := Z35.len a1.fHead
            have := (H1.1.1).1
            have := (H1.1.2.1).1
            have := (H1.1.2.2).1
            try simp (disch := omega) only [LN, wi]
            first | omega | (simp; done) | (simp; omega)), fun _ _ => trivial⟩, H1.2⟩) ?_
        refine bif_out ret (fun _ => rfl) (fun c14 => ?_)
        all_goals first | rfl | (simp only [S0, MHead.rs, MSigned.rs, MP]; first | done | rfl)
      · all_goals first | rfl | (simp only [S0, MHead.rs, MSigned.rs, MP]; first | done | rfl)
theorem valid_ : Valid Tryz.prog Ev 241 con := VV (live := fun _ => []) (nt := 78) (run := fun _ x => F x.1 x.2) mix tab_ok (.cons Z30.valid_ (.cons Z42.valid_ (.cons Z43.valid_ (.cons Z47.valid_ (.cons Z35.valid_ (.cons Z40.valid_ (.cons Z48.valid_ .nil))))))) Tryz.func241 (by kernel_rfl) (fun _ _ => by kernel_rfl) (fun _ a _ _ hg => ⟨0, okF a.1 a.2 hg⟩)
end Z49
namespace Z50
def F (x0 : RHead) (x1 : RSigned) : Ans := (call (Z49.R (x0, x1)) fun v1 => ret ((v1 == 1) : Bool))
def pats : List Pat := [.agg [.int .i64, .int .i64, .int .i64, .int .i64, .int .i64, .int .i64, .int .i64, .int .i64, .sl 3, .int .i64, .sl 3, .int .i64, .int .i64, .sl 3, .int .i64, .bool], .agg [.int .i64, .int .i64, .int .i64, .int .i64, .int .i64, .int .i64, .int .i64, .int .i64, .sl 3, .int .i64, .sl 3, .int .i64, .int .i64, .sl 3, .int .i64, .bool, .sl 184]]
def res : RP := .one (.rd (.bool))
def md (a0 : MHead) (a1 : MSigned) : Bool := (((Z49.md a0 a1) == 1) : Bool)
def gd (a0 : MHead) (a1 : MSigned) : Prop := (MHead.Sm (2 ^ 21) a0) ∧ (MSigned.Sm (2 ^ 21) a1)
def acc (ls : List L) : RHead × RSigned := ((RHead.dec ls), (RSigned.dec (dropT 16 ls)))
def R : (RHead × RSigned) → Option Bool := RR (p2 gd) (u2 md)
theorem R_eq {a0} {a1} (h : gd a0 a1) : R ((MHead.r a0), (MSigned.r a1)) = some (md a0 a1) := RR_eq (a := (a0, a1)) h
def con : Con := CN pats res acc R
theorem okF (a0 : MHead) (a1 : MSigned) (hg : gd a0 a1) : F (MHead.r a0) (MSigned.r a1) = ret ((md a0 a1) : Bool) := by
 unfold gd at hg
 obtain ⟨H0, H1⟩ := hg
 unfold F md
 try simp only [S0]
 refine call_to (Z49.md a0 a1) (Z49.R_eq (a0 := a0) (a1 := a1) ⟨H0, H1⟩) ?_
 all_goals first | rfl | (simp only [S0, MP]; first | done | rfl)
theorem valid_ : Valid Tryz.prog Ev 213 con := VV (live := fun _ => []) (nt := 9) (run := fun _ x => F x.1 x.2) mix tab_ok (.cons Z49.valid_ .nil) Tryz.func213 (by kernel_rfl) (fun _ _ => by kernel_rfl) (fun _ a _ _ hg => ⟨0, okF a.1 a.2 hg⟩)
end Z50
namespace Z51
inductive Pt where
 | p0 (a : List (List L)) (b : Int)
def pid : Pt → Nat
 | .p0 .. => 2
def pvs : Pt → List V
 | .p0 a b => [.sl none 122 a, .int .i64 b]
def phs : Pt → List Root
 | .p0 a b => []
def step (J : Pt → Ans) : Pt → Ans
 | .p0 a b => (bif (decide (b < (a.length : Int))) then (bif (b == 0) then (bif (decide ((0 : Int) < (a.length : Int))) then (call (Z41.R (RSigned.at a 0)) fun v1 => (bif (!v1) then ret (b : Int) else (bif (decide (b > 0)) then (bif (decide ((0 : Int) ≤ (IntKind.i64.wrap (b - 1)))) then (bif (decide ((IntKind.i64.wrap (b - 1)) < (a.length : Int))) then (bif (decide ((0 : Int) ≤ b)) then (bif (decide (b < (a.length : Int))) then (call (Z50.R ((RSigned.at a (Int.toNat (IntKind.i64.wrap (b - 1)))).fHead, (RSigned.at a (Int.toNat b)))) fun v2 => (bif (!v2) then ret (b : Int) else J (.p0 a (IntKind.i64.wrap (b + 1))))) else none) else none) else none) else none) else J (.p0 a (IntKind.i64.wrap (b + 1)))))) else none) else (bif (decide (b > 0)) then (bif (decide ((0 : Int) ≤ (IntKind.i64.wrap (b - 1)))) then (bif (decide ((IntKind.i64.wrap (b - 1)) < (a.length : Int))) then (bif (decide ((0 : Int) ≤ b)) then (bif (decide (b < (a.length : Int))) then (call (Z50.R ((RSigned.at a (Int.toNat (IntKind.i64.wrap (b - 1)))).fHead, (RSigned.at a (Int.toNat b)))) fun v3 => (bif (!v3) then ret (b : Int) else J (.p0 a (IntKind.i64.wrap (b + 1))))) else none) else none) else none) else none) else J (.p0 a (IntKind.i64.wrap (b + 1))))) else ret ((-1) : Int))
def start (J : Pt → Ans) (x0 : List (List L)) : Ans := J (.p0 x0 0)
def live : Nat → Live := fun i => match i with | 2 => [(0, none), (3, none)] | _ => []
def pats : List Pat := [.rd (.sl 122)]
def res : RP := .one (.rd (.int .i64))
abbrev E : Env := { T := assoc Tab, G := conG [(212, Z41.con), (213, Z50.con)], nt := 38 }
theorem step_eq (I : Heads) (p : Pt) : enterC E live I (pid p) (bodyOf Tryz.f183) (stOf (live (pid p)) (pvs p) (phs p)) (doneK E Tryz.f183 res) = step (fun q => I (pid q) (pvs q) (phs q)) p := by
 cases p <;> kernel_rfl
theorem start_eq (I : Heads) (ls : List L) : runC E live I (bodyOf Tryz.f183) (initS pats ls) (doneK E Tryz.f183 res) = start (fun q => I (pid q) (pvs q) (phs q)) (ls.headD .hole).toSl := by kernel_rfl
theorem run_eq (n : Nat) (ls : List L) : runF E live Tryz.f183 res n (initS pats ls) = start (iter step n) (ls.headD .hole).toSl := runF_iter (id := pid) (vs := pvs) (hs := phs) (step := step) (start := fun J => start J (ls.headD .hole).toSl) step_eq (fun I => start_eq I ls) n
def md (a0 : List MSigned) : Int := (eachI (S := Unit) (β := Int) (fun (i1 : Nat) (y1 : MSigned) (s3 : Unit) => (bif ((i1 : Int) == 0) then (bif (!(Z41.md (a0.getD 0 MSigned.zero))) then (.inr ((i1 : Int) : Int)) else (bif (decide ((i1 : Int) > 0)) then (bif (!(Z50.md ((a0.getD (Int.toNat (IntKind.i64.wrap ((i1 : Int) - 1))) MSigned.zero).fHead) y1)) then (.inr ((i1 : Int) : Int)) else (.inl ())) else (.inl ()))) else (bif (decide ((i1 : Int) > 0)) then (bif (!(Z50.md ((a0.getD (Int.toNat (IntKind.i64.wrap ((i1 : Int) - 1))) MSigned.zero).fHead) y1)) then (.inr ((i1 : Int) : Int)) else (.inl ())) else (.inl ())))) (fun (s3 : Unit) => ((-1) : Int)) 0 a0 ())
def gd (a0 : List MSigned) : Prop := (SmL (2 ^ 21) (fun y : MSigned => MSigned.Sm (2 ^ 21) y) a0)
def acc (ls : List L) : List (List L) := (ls.headD .hole).toSl
def R : (List (List L)) → Option Int := RR gd md
theorem R_eq {a0} (h : gd a0) : R (a0.map MSigned.row) = some (md a0) := RR_eq (a := a0) h
def con : Con := CN pats res acc R
theorem okF (a0 : List MSigned) (hg : gd a0) : ∃ n, start (iter step n) (a0.map MSigned.row) = ret ((md a0) : Int) := by
  unfold gd at hg
  have H0 := hg
  unfold start md
  try simp only [S0, MSigned.rs]
  have Bh2 : a0.length ≤ maxLen := (by
      have := (H0).1
      try simp only [maxLen] at *
      omega)
  refine ex_eq (out := ret) (loopM_eachI (z := MSigned.zero)) ?_
  refine ex_pt (p := Pt.p0 (a0.map MSigned.row) 0) (by first | rfl | (simp only [S0, MSigned.rs, MP]; done) | (simp only [MP]; rfl)) ?_
  refine loopM_ok (pt := fun (i1 : Nat) (s3 : Unit) => Pt.p0 (a0.map MSigned.row) (i1 : Int)) (s := (() : Unit)) (out := ret) (fun _ _ => True) (fun J i1 s3 h2 hih2 => ?_) (fun s3 hih2 => ?_) trivial
  · simp only [step, S0, MSigned.rs]
    have bb_ := Bh2
    simp only [maxLen] at bb_
    have := (H0).1
    refine Rnd.yes (by apply decide_eq_true; omega) ?_
    refine Rnd.bif (fun c4 => ?_) (fun c4 => ?_)
    · have dc4 := c4
      try simp only [DC] at dc4
      refine Rnd.yes (by
          have := (H0).1
          refine decide_eq_true ?_
          try simp (disch := omega) only [LN, wi]
          first | omega | (simp; done) | (simp; omega)) ?_
      refine Rnd.call_to (Z41.md (a0.getD 0 MSigned.zero)) (Z41.R_eq (a0 := (a0.getD 0 MSigned.zero)) (SmL.getD (z := MSigned.zero) H0 (by first | assumption | omega | (simp (disch := omega) only [wi]; omega) | (simp; omega)))) ?_
      refine Rnd.bif (fun c5 => ?_) (fun c5 => ?_)
      · refine Rnd.inr ?_
        all_goals first | rfl | (simp only [S0, MSigned.rs, MP]; first | done | rfl)
      · have dc5 := c5
        try simp only [DC] at dc5
        refine Rnd.bif (fun c6 => ?_) (fun c6 => ?_)
        · have dc6 := c6
          try simp only [DC] at dc6
          refine Rnd.yes (by
              refine decide_eq_true ?_
              try simp (disch := omega) only [LN, wi]
              first | omega | (simp; done) | (simp; omega)) ?_
          refine Rnd.yes (by
              have := (H0).1
              refine decide_eq_true ?_
              try simp (disch := omega) only [LN, wi]
              first | omega | (simp; done) | (simp; omega)) ?_
          refine Rnd.yes zle_dec ?_
          refine Rnd.yes (lt_dec h2) ?_
          refine Rnd.call_to (Z50.md ((a0.getD (Int.toNat (IntKind.i64.wrap ((i1 : Int) - 1))) MSigned.zero).fHead) (a0.getD i1 MSigned.zero)) (Z50.R_eq (a0 := (a0.getD (Int.toNat (IntKind.i64.wrap ((i1 : Int) - 1))) MSigned.zero).fHead) (a1 := (a0.getD i1 MSigned.zero)) ⟨(SmL.getD (z := MSigned.zero) H0 (by first | assumption | omega | (simp (disch := omega) only [wi]; omega) | (simp; omega))).1, (SmL.getD (z := MSigned.zero) H0 h2)⟩) ?_
          refine Rnd.bif (fun c7 => ?_) (fun c7 => ?_)
          · refine Rnd.inr ?_
            all_goals first | rfl | (simp only [S0, MSigned.rs, MP]; first | done | rfl)
          · refine Rnd.inl trivial ?_
            rw [wrap_succ h2 Bh2]
            all_goals first | rfl | (simp only [S0, MSigned.rs, MP]; first | done | rfl)
        · refine Rnd.inl trivial ?_
          rw [wrap_succ h2 Bh2]
          all_goals first | rfl | (simp only [S0, MSigned.rs, MP]; first | done | rfl)
    · have dc4 := c4
      try simp only [DC] at dc4
      refine Rnd.bif (fun c8 => ?_) (fun c8 => ?_)
      · have dc8 := c8
        try simp only [DC] at dc8
        refine Rnd.yes (by
            refine decide_eq_true ?_
            try simp (disch := omega) only [LN, wi]
            first | omega | (simp; done) | (simp; omega)) ?_
        refine Rnd.yes (by
            have := (H0).1
            refine decide_eq_true ?_
            try simp (disch := omega) only [LN, wi]
            first | omega | (simp; done) | (simp; omega)) ?_
        refine Rnd.yes zle_dec ?_
        refine Rnd.yes (lt_dec h2) ?_
        refine Rnd.call_to (Z50.md ((a0.getD (Int.toNat (IntKind.i64.wrap ((i1 : Int) - 1))) MSigned.zero).fHead) (a0.getD i1 MSigned.zero)) (Z50.R_eq (a0 := (a0.getD (Int.toNat (IntKind.i64.wrap ((i1 : Int) - 1))) MSigned.zero).fHead) (a1 := (a0.getD i1 MSigned.zero)) ⟨(SmL.getD (z := MSigned.zero) H0 (by first | assumption | omega | (simp (disch := omega) only [wi]; omega) | (simp; omega))).1, (SmL.getD (z := MSigned.zero) H0 h2)⟩) ?_
        refine Rnd.bif (fun c9 => ?_) (fun c9 => ?_)
        · refine Rnd.inr ?_
          all_goals first | rfl | (simp only [S0, MSigned.rs, MP]; first | done | rfl)
        · refine Rnd.inl trivial ?_
          rw [wrap_succ h2 Bh2]
          all_goals first | rfl | (simp only [S0, MSigned.rs, MP]; first | done | rfl)
      · refine Rnd.inl trivial ?_
        rw [wrap_succ h2 Bh2]
        all_goals first | rfl | (simp only [S0, MSigned.rs, MP]; first | done | rfl)
  · simp only [step, S0, MSigned.rs]
    have := (H0).1
    refine ex_no (by apply decide_eq_false; omega) ?_
    refine ⟨0, ?_⟩
    all_goals first | rfl | (simp only [S0, MSigned.rs, MP]; first | done | rfl)
theorem valid_ : Valid Tryz.prog Ev 183 con := VV (run := fun n x => start (iter step n) x) mix tab_ok (.cons Z41.valid_ (.cons Z50.valid_ .nil)) Tryz.func183 (by kernel_rfl) run_eq (fun _ a _ _ hg => okF a hg)
end Z51
namespace Z52
def F (x0 : List (List L)) : Ans := (call (Z27.R ((x0.length : Int), 1, 12)) fun v1 => (bif v1 then (call (Z51.R x0) fun v2 => ret ((decide (v2 < 0)) : Bool)) else ret (false : Bool)))
def pats : List Pat := [.rd (.sl 122)]
def res : RP := .one (.rd (.bool))
def md (a0 : List MSigned) : Bool := (bif (Z27.md (a0.length : Int) 1 12) then ((decide ((Z51.md a0) < 0)) : Bool) else (false : Bool))
def gd (a0 : List MSigned) : Prop := (SmL (2 ^ 21) (fun y : MSigned => MSigned.Sm (2 ^ 21) y) a0)
def acc (ls : List L) : List (List L) := (ls.headD .hole).toSl
def R : (List (List L)) → Option Bool := RR gd md
theorem R_eq {a0} (h : gd a0) : R (a0.map MSigned.row) = some (md a0) := RR_eq (a := a0) h
def con : Con := CN pats res acc R
theorem okF (a0 : List MSigned) (hg : gd a0) : F (a0.map MSigned.row) = ret ((md a0) : Bool) := by
 unfold gd at hg
 have H0 := hg
 unfold F md
 try simp only [S0]
 refine call_to (Z27.md (a0.length : Int) 1 12) (Z27.R_eq (a0 := (a0.length : Int)) (a1 := 1) (a2 := 12) trivial) ?_
 refine bif_out ret (fun c1 => ?_) (fun _ => rfl)
 refine call_to (Z51.md a0) (Z51.R_eq (a0 := a0) H0) ?_
 all_goals first | rfl | (simp only [S0, MP]; first | done | rfl)
theorem valid_ : Valid Tryz.prog Ev 129 con := VV (live := fun _ => []) (nt := 11) (run := fun _ x => F x) mix tab_ok (.cons Z27.valid_ (.cons Z51.valid_ .nil)) Tryz.func129 (by kernel_rfl) (fun _ _ => by kernel_rfl) (fun _ a _ _ hg => ⟨0, okF a hg⟩)
theorem tr {a0 : List MSigned} (h : md a0 = true) : 1 ≤ a0.length ∧ a0.length ≤ 12 := by simp [md, Z27.md] at h; omega
end Z52
namespace Z53
inductive Pt where
 | p0 (a : Int) (b : Int) (c : RKnown)
def pid : Pt → Nat
 | .p0 .. => 2
def pvs : Pt → List V
 | .p0 a b c => [.int .i64 a, .bptr 0 0, .int .i64 b]
def phs : Pt → List Root
 | .p0 a b c => [.box [.sl none 38 c.fChains, .sl none 134 c.fForks]]
def step (J : Pt → Ans) : Pt → Ans
 | .p0 a b c => (bif (decide (b < (c.fChains.length : Int))) then (bif (decide ((0 : Int) ≤ b)) then (bif (decide (b < (c.fChains.length : Int))) then (bif (decide (((lAt c.fChains (Int.toNat b)).length : Int) > 0)) then (bif (decide ((0 : Int) ≤ b)) then (bif (decide (b < (c.fChains.length : Int))) then (bif (decide ((0 : Int) < ((lAt c.fChains (Int.toNat b)).length : Int))) then (bif ((RSigned.at (lAt c.fChains (Int.toNat b)) 0).fHead.fZone == a) then ret (b : Int) else J (.p0 a (IntKind.i64.wrap (b + 1)) c)) else none) else none) else none) else J (.p0 a (IntKind.i64.wrap (b + 1)) c)) else none) else none) else ret ((-1) : Int))
def start (J : Pt → Ans) (x0 : RKnown) (x1 : Int) : Ans := J (.p0 x1 0 x0)
def live : Nat → Live := fun i => match i with | 2 => [(1, none), (2, none), (5, none)] | _ => []
def pats : List Pat := [.agg [.sl 38, .sl 134], .rd (.int .i64)]
def res : RP := .one (.rd (.int .i64))
abbrev E : Env := { T := assoc Tab, G := conG [], nt := 34 }
theorem step_eq (I : Heads) (p : Pt) : enterC E live I (pid p) (bodyOf Tryz.f76) (stOf (live (pid p)) (pvs p) (phs p)) (doneK E Tryz.f76 res) = step (fun q => I (pid q) (pvs q) (phs q)) p := by
 cases p <;> kernel_rfl
theorem start_eq (I : Heads) (ls : List L) : runC E live I (bodyOf Tryz.f76) (initS pats ls) (doneK E Tryz.f76 res) = start (fun q => I (pid q) (pvs q) (phs q)) (RKnown.dec ls) ((dropT 2 ls).headD .hole).toInt := by kernel_rfl
theorem run_eq (n : Nat) (ls : List L) : runF E live Tryz.f76 res n (initS pats ls) = start (iter step n) (RKnown.dec ls) ((dropT 2 ls).headD .hole).toInt := runF_iter (id := pid) (vs := pvs) (hs := phs) (step := step) (start := fun J => start J (RKnown.dec ls) ((dropT 2 ls).headD .hole).toInt) step_eq (fun I => start_eq I ls) n
def md (a0 : MKnown) (a1 : Int) : Int := (eachI (S := Unit) (β := Int) (fun (i1 : Nat) (y1 : List MSigned) (s3 : Unit) => (bif (decide ((y1.length : Int) > 0)) then (bif (((y1.getD 0 MSigned.zero).fHead).fZone == a1) then (.inr ((i1 : Int) : Int)) else (.inl ())) else (.inl ()))) (fun (s3 : Unit) => ((-1) : Int)) 0 a0.fChains ())
def gd (a0 : MKnown) (a1 : Int) : Prop := (MKnown.Sm (2 ^ 21) a0)
def acc (ls : List L) : RKnown × Int := ((RKnown.dec ls), ((dropT 2 ls).headD .hole).toInt)
def R : (RKnown × Int) → Option Int := RR (p2 gd) (u2 md)
theorem R_eq {a0} {a1} (h : gd a0 a1) : R ((MKnown.r a0), a1) = some (md a0 a1) := RR_eq (a := (a0, a1)) h
def con : Con := CN pats res acc R
theorem okF (a0 : MKnown) (a1 : Int) (hg : gd a0 a1) : ∃ n, start (iter step n) (MKnown.r a0) a1 = ret ((md a0 a1) : Int) := by
  unfold gd at hg
  have H0 := hg
  unfold start md
  try simp only [S0, MHead.rs, MSigned.rs, MKnown.rs]
  have Bh2 : a0.fChains.length ≤ maxLen := (by
      have := (H0.1).1
      try simp only [maxLen] at *
      omega)
  refine ex_eq (out := ret) (loopM_eachI (z := [])) ?_
  refine ex_pt (p := Pt.p0 a1 0 (MKnown.r a0)) (by first | rfl | (simp only [S0, MHead.rs, MSigned.rs, MKnown.rs, MP]; done) | (simp only [MP]; rfl)) ?_
  refine loopM_ok (pt := fun (i1 : Nat) (s3 : Unit) => Pt.p0 a1 (i1 : Int) (MKnown.r a0)) (s := (() : Unit)) (out := ret) (fun _ _ => True) (fun J i1 s3 h2 hih2 => ?_) (fun s3 hih2 => ?_) trivial
  · simp only [step, S0, MHead.rs, MSigned.rs, MKnown.rs]
    have bb_ := Bh2
    simp only [maxLen] at bb_
    have := (H0.1).1
    refine Rnd.yes (by apply decide_eq_true; omega) ?_
    refine Rnd.yes zle_dec ?_
    refine Rnd.yes (lt_dec h2) ?_
    refine Rnd.bif (fun c4 => ?_) (fun c4 => ?_)
    · have dc4 := c4
      try simp only [DC] at dc4
      refine Rnd.yes zle_dec ?_
      refine Rnd.yes (lt_dec h2) ?_
      refine Rnd.yes (by
          have := ((SmL.getD (z := []) H0.1 h2)).1
          refine decide_eq_true ?_
          try simp (disch := omega) only [LN, wi]
          first | omega | (simp; done) | (simp; omega)) ?_
      refine Rnd.bif (fun c5 => ?_) (fun c5 => ?_)
      · refine Rnd.inr ?_
        all_goals first | rfl | (simp only [S0, MHead.rs, MSigned.rs, MKnown.rs, MP]; first | done | rfl)
      · refine Rnd.inl trivial ?_
        rw [wrap_succ h2 Bh2]
        all_goals first | rfl | (simp only [S0, MHead.rs, MSigned.rs, MKnown.rs, MP]; first | done | rfl)
    · refine Rnd.inl trivial ?_
      rw [wrap_succ h2 Bh2]
      all_goals first | rfl | (simp only [S0, MHead.rs, MSigned.rs, MKnown.rs, MP]; first | done | rfl)
  · simp only [step, S0, MHead.rs, MSigned.rs, MKnown.rs]
    have := (H0.1).1
    refine ex_no (by apply decide_eq_false; omega) ?_
    refine ⟨0, ?_⟩
    all_goals first | rfl | (simp only [S0, MHead.rs, MSigned.rs, MKnown.rs, MP]; first | done | rfl)
theorem valid_ : Valid Tryz.prog Ev 76 con := VV (run := fun n x => start (iter step n) x.1 x.2) mix tab_ok .nil Tryz.func76 (by kernel_rfl) run_eq (fun _ a _ _ hg => okF a.1 a.2 hg)
theorem fa (a0 : MKnown) (a1 : Int) : -1 ≤ md a0 a1 ∧ md a0 a1 < (a0.fChains.length : Int) := by
 unfold md
 refine eachI_fa0 ?_ _ _
 all_goals
  intro i x s b h
  revert h
  simp only [Bool.cond_eq_ite]
  repeat' split
  all_goals (intro h; first | (cases h; rfl) | cases h)
end Z53
namespace Z54
def F (x0 : RHead) (x1 : RHead) : Ans := (call (Z35.R x0) fun v1 => (call (Z35.R x1) fun v2 => (call (Z44.R (v1, v2)) fun v3 => (bif v3 then ret ((x0.fFrozen == x1.fFrozen) : Bool) else ret (false : Bool)))))
def pats : List Pat := [.agg [.int .i64, .int .i64, .int .i64, .int .i64, .int .i64, .int .i64, .int .i64, .int .i64, .sl 3, .int .i64, .sl 3, .int .i64, .int .i64, .sl 3, .int .i64, .bool], .agg [.int .i64, .int .i64, .int .i64, .int .i64, .int .i64, .int .i64, .int .i64, .int .i64, .sl 3, .int .i64, .sl 3, .int .i64, .int .i64, .sl 3, .int .i64, .bool]]
def res : RP := .one (.rd (.bool))
def md (a0 : MHead) (a1 : MHead) : Bool := (bif (Z44.md (Z35.md a0) (Z35.md a1)) then ((a0.fFrozen == a1.fFrozen) : Bool) else (false : Bool))
def gd (a0 : MHead) (a1 : MHead) : Prop := (MHead.Sm (2 ^ 21) a0) ∧ (MHead.Sm (2 ^ 21) a1)
def acc (ls : List L) : RHead × RHead := ((RHead.dec ls), (RHead.dec (dropT 16 ls)))
def R : (RHead × RHead) → Option Bool := RR (p2 gd) (u2 md)
theorem R_eq {a0} {a1} (h : gd a0 a1) : R ((MHead.r a0), (MHead.r a1)) = some (md a0 a1) := RR_eq (a := (a0, a1)) h
def con : Con := CN pats res acc R
theorem okF (a0 : MHead) (a1 : MHead) (hg : gd a0 a1) : F (MHead.r a0) (MHead.r a1) = ret ((md a0 a1) : Bool) := by
 unfold gd at hg
 obtain ⟨H0, H1⟩ := hg
 unfold F md
 try simp only [S0, MHead.rs]
 refine call_to ((Z35.md a0).map iRow) (Z35.R_eq (a0 := a0) H0) ?_
 try simp only [S0, MHead.rs]
 refine call_to ((Z35.md a1).map iRow) (Z35.R_eq (a0 := a1) H1) ?_
 try simp only [S0, MHead.rs]
 refine call_to (Z44.md (Z35.md a0) (Z35.md a1)) (Z44.R_eq (a0 := (Z35.md a0)) (a1 := (Z35.md a1)) ⟨⟨(by
   have := Z35.len a0
   have := (H0.1).1
   have := (H0.2.1).1
   have := (H0.2.2).1
   try simp (disch := omega) only [LN, wi]
   first | omega | (simp; done) | (simp; omega)), fun _ _ => trivial⟩, ⟨(by
   have := Z35.len a1
   have := (H1.1).1
   have := (H1.2.1).1
   have := (H1.2.2).1
   try simp (disch := omega) only [LN, wi]
   first | omega | (simp; done) | (simp; omega)), fun _ _ => trivial⟩⟩) ?_
 refine bif_out ret (fun c1 => ?_) (fun _ => rfl)
 all_goals first | rfl | (simp only [S0, MHead.rs, MP]; first | done | rfl)
theorem valid_ : Valid Tryz.prog Ev 141 con := VV (live := fun _ => []) (nt := 17) (run := fun _ x => F x.1 x.2) mix tab_ok (.cons Z35.valid_ (.cons Z44.valid_ .nil)) Tryz.func141 (by kernel_rfl) (fun _ _ => by kernel_rfl) (fun _ a _ _ hg => ⟨0, okF a.1 a.2 hg⟩)
theorem md_eq (a0 : MHead) (a1 : MHead) : md a0 a1 = eqB a0 a1 := by
  unfold md
  simp only [Z44.md_eq, bool_beq]
  rw [Bool.eq_iff_iff]
  constructor
  · intro h
    cases he : eqB (Z35.md a0) (Z35.md a1) <;> rw [he] at h
    · cases h
    · exact eqB_iff.2 (Z35.inj (eqB_iff.1 he))
  · intro h
    rw [eqB_iff] at h
    rw [h, eqB_refl, eqB_refl]; rfl
end Z54
namespace Z55
inductive Pt where
 | p0 (a : List (List L)) (b : List (List L)) (c : Int)
def pid : Pt → Nat
 | .p0 .. => 4
def pvs : Pt → List V
 | .p0 a b c => [.sl none 122 a, .sl none 122 b, .int .i64 c]
def phs : Pt → List Root
 | .p0 a b c => []
def step (J : Pt → Ans) : Pt → Ans
 | .p0 a b c => (bif (decide (c < (a.length : Int))) then (bif (decide ((0 : Int) ≤ c)) then (bif (decide (c < (a.length : Int))) then (bif (decide ((0 : Int) ≤ c)) then (bif (decide (c < (b.length : Int))) then (call (Z54.R ((RSigned.at a (Int.toNat c)).fHead, (RSigned.at b (Int.toNat c)).fHead)) fun v1 => (bif (!v1) then ret (false : Bool) else J (.p0 a b (IntKind.i64.wrap (c + 1))))) else none) else none) else none) else none) else ret (true : Bool))
def start (J : Pt → Ans) (x0 : List (List L)) (x1 : List (List L)) : Ans := (bif (decide ((x0.length : Int) > (x1.length : Int))) then ret (false : Bool) else J (.p0 x0 x1 0))
def live : Nat → Live := fun i => match i with | 4 => [(0, none), (1, none), (5, none)] | _ => []
def pats : List Pat := [.rd (.sl 122), .rd (.sl 122)]
def res : RP := .one (.rd (.bool))
abbrev E : Env := { T := assoc Tab, G := conG [(141, Z54.con)], nt := 29 }
theorem step_eq (I : Heads) (p : Pt) : enterC E live I (pid p) (bodyOf Tryz.f139) (stOf (live (pid p)) (pvs p) (phs p)) (doneK E Tryz.f139 res) = step (fun q => I (pid q) (pvs q) (phs q)) p := by
 cases p <;> kernel_rfl
theorem start_eq (I : Heads) (ls : List L) : runC E live I (bodyOf Tryz.f139) (initS pats ls) (doneK E Tryz.f139 res) = start (fun q => I (pid q) (pvs q) (phs q)) (ls.headD .hole).toSl ((dropT 1 ls).headD .hole).toSl := by kernel_rfl
theorem run_eq (n : Nat) (ls : List L) : runF E live Tryz.f139 res n (initS pats ls) = start (iter step n) (ls.headD .hole).toSl ((dropT 1 ls).headD .hole).toSl := runF_iter (id := pid) (vs := pvs) (hs := phs) (step := step) (start := fun J => start J (ls.headD .hole).toSl ((dropT 1 ls).headD .hole).toSl) step_eq (fun I => start_eq I ls) n
def md (a0 : List MSigned) (a1 : List MSigned) : Bool := (bif (decide ((a0.length : Int) > (a1.length : Int))) then (false : Bool) else (loopM (S := Unit) (β := Bool) (fun (i2 : Nat) (s4 : Unit) => (bif (!(Z54.md ((a0.getD i2 MSigned.zero).fHead) ((a1.getD i2 MSigned.zero).fHead))) then (.inr (false : Bool)) else (.inl ()))) (fun (s4 : Unit) => (true : Bool)) a0.length 0 ()))
def gd (a0 : List MSigned) (a1 : List MSigned) : Prop := (SmL (2 ^ 21) (fun y : MSigned => MSigned.Sm (2 ^ 21) y) a0) ∧ (SmL (2 ^ 21) (fun y : MSigned => MSigned.Sm (2 ^ 21) y) a1)
def acc (ls : List L) : List (List L) × List (List L) := ((ls.headD .hole).toSl, ((dropT 1 ls).headD .hole).toSl)
def R : (List (List L) × List (List L)) → Option Bool := RR (p2 gd) (u2 md)
theorem R_eq {a0} {a1} (h : gd a0 a1) : R ((a0.map MSigned.row), (a1.map MSigned.row)) = some (md a0 a1) := RR_eq (a := (a0, a1)) h
def con : Con := CN pats res acc R
theorem okF (a0 : List MSigned) (a1 : List MSigned) (hg : gd a0 a1) : ∃ n, start (iter step n) (a0.map MSigned.row) (a1.map MSigned.row) = ret ((md a0 a1) : Bool) := by
  unfold gd at hg
  obtain ⟨H0, H1⟩ := hg
  unfold start md
  try simp only [S0, MSigned.rs]
  refine ex_bif ret (fun _ => ⟨0, rfl⟩) (fun c1 => ?_)
  have dc1 := c1
  try simp only [DC] at dc1
  have Bh3 : a0.length ≤ maxLen := (by
      have := (H0).1
      try simp only [maxLen] at *
      omega)
  refine ex_pt (p := Pt.p0 (a0.map MSigned.row) (a1.map MSigned.row) 0) (by first | rfl | (simp only [S0, MSigned.rs, MP]; done) | (simp only [MP]; rfl)) ?_
  refine loopM_ok (pt := fun (i2 : Nat) (s4 : Unit) => Pt.p0 (a0.map MSigned.row) (a1.map MSigned.row) (i2 : Int)) (s := (() : Unit)) (out := ret) (fun _ _ => True) (fun J i2 s4 h3 hih3 => ?_) (fun s4 hih3 => ?_) trivial
  · simp only [step, S0, MSigned.rs]
    have bb_ := Bh3
    simp only [maxLen] at bb_
    have := (H0).1
    refine Rnd.yes (by apply decide_eq_true; omega) ?_
    refine Rnd.yes zle_dec ?_
    refine Rnd.yes (lt_dec h3) ?_
    refine Rnd.yes zle_dec ?_
    refine Rnd.yes (by
        have := (H1).1
        refine decide_eq_true ?_
        try simp (disch := omega) only [LN, wi]
        first | omega | (simp; done) | (simp; omega)) ?_
    refine Rnd.call_to (Z54.md ((a0.getD i2 MSigned.zero).fHead) ((a1.getD i2 MSigned.zero).fHead)) (Z54.R_eq (a0 := (a0.getD i2 MSigned.zero).fHead) (a1 := (a1.getD i2 MSigned.zero).fHead) ⟨(SmL.getD (z := MSigned.zero) H0 h3).1, (SmL.getD (z := MSigned.zero) H1 (by first | assumption | omega | (simp (disch := omega) only [wi]; omega) | (simp; omega))).1⟩) ?_
    refine Rnd.bif (fun _ => Rnd.inr rfl) (fun c5 => ?_)
    refine Rnd.inl trivial ?_
    rw [wrap_succ h3 Bh3]
    all_goals first | rfl | (simp only [S0, MSigned.rs, MP]; first | done | rfl)
  · simp only [step, S0, MSigned.rs]
    have := (H0).1
    refine ex_no (by apply decide_eq_false; omega) ?_
    refine ⟨0, ?_⟩
    all_goals first | rfl | (simp only [S0, MSigned.rs, MP]; first | done | rfl)
theorem valid_ : Valid Tryz.prog Ev 139 con := VV (run := fun n x => start (iter step n) x.1 x.2) mix tab_ok (.cons Z54.valid_ .nil) Tryz.func139 (by kernel_rfl) run_eq (fun _ a _ _ hg => okF a.1 a.2 hg)
end Z55
namespace Z56
def F (x0 : RKnown) (x1 : List (List L)) : Ans := (call (Z52.R x1) fun v1 => (bif (!v1) then ret (6 : Int) else (bif (decide ((0 : Int) < (x1.length : Int))) then (call (Z53.R (x0, (RSigned.at x1 0).fHead.fZone)) fun v2 => (bif (decide (v2 < 0)) then ret (1 : Int) else (bif (decide ((0 : Int) ≤ v2)) then (bif (decide (v2 < (x0.fChains.length : Int))) then (call (Z55.R ((lAt x0.fChains (Int.toNat v2)), x1)) fun v3 => (bif (decide ((0 : Int) ≤ v2)) then (bif (decide (v2 < (x0.fChains.length : Int))) then (call (Z55.R (x1, (lAt x0.fChains (Int.toNat v2)))) fun v4 => (bif v3 then (bif v4 then ret (2 : Int) else (bif v3 then ret (3 : Int) else (bif v4 then ret (4 : Int) else ret (5 : Int)))) else (bif v3 then ret (3 : Int) else (bif v4 then ret (4 : Int) else ret (5 : Int))))) else none) else none)) else none) else none))) else none)))
def pats : List Pat := [.agg [.sl 38, .sl 134], .rd (.sl 122)]
def res : RP := .one (.rd (.int .i64))
def md (a0 : MKnown) (a1 : List MSigned) : Int := (bif (!(Z52.md a1)) then (6 : Int) else (bif (decide ((Z53.md a0 (((a1.getD 0 MSigned.zero).fHead).fZone)) < 0)) then (1 : Int) else (bif (Z55.md (a0.fChains.getD (Int.toNat (Z53.md a0 (((a1.getD 0 MSigned.zero).fHead).fZone))) []) a1) then (bif (Z55.md a1 (a0.fChains.getD (Int.toNat (Z53.md a0 (((a1.getD 0 MSigned.zero).fHead).fZone))) [])) then (2 : Int) else (bif (Z55.md (a0.fChains.getD (Int.toNat (Z53.md a0 (((a1.getD 0 MSigned.zero).fHead).fZone))) []) a1) then (3 : Int) else (bif (Z55.md a1 (a0.fChains.getD (Int.toNat (Z53.md a0 (((a1.getD 0 MSigned.zero).fHead).fZone))) [])) then (4 : Int) else (5 : Int)))) else (bif (Z55.md (a0.fChains.getD (Int.toNat (Z53.md a0 (((a1.getD 0 MSigned.zero).fHead).fZone))) []) a1) then (3 : Int) else (bif (Z55.md a1 (a0.fChains.getD (Int.toNat (Z53.md a0 (((a1.getD 0 MSigned.zero).fHead).fZone))) [])) then (4 : Int) else (5 : Int))))))
def gd (a0 : MKnown) (a1 : List MSigned) : Prop := (MKnown.Sm (2 ^ 21) a0) ∧ (SmL (2 ^ 21) (fun y : MSigned => MSigned.Sm (2 ^ 21) y) a1)
def acc (ls : List L) : RKnown × List (List L) := ((RKnown.dec ls), ((dropT 2 ls).headD .hole).toSl)
def R : (RKnown × List (List L)) → Option Int := RR (p2 gd) (u2 md)
theorem R_eq {a0} {a1} (h : gd a0 a1) : R ((MKnown.r a0), (a1.map MSigned.row)) = some (md a0 a1) := RR_eq (a := (a0, a1)) h
def con : Con := CN pats res acc R
theorem okF (a0 : MKnown) (a1 : List MSigned) (hg : gd a0 a1) : F (MKnown.r a0) (a1.map MSigned.row) = ret ((md a0 a1) : Int) := by
  unfold gd at hg
  obtain ⟨H0, H1⟩ := hg
  unfold F md
  try simp only [S0, MHead.rs, MSigned.rs, MKnown.rs]
  refine call_to (Z52.md a1) (Z52.R_eq (a0 := a1) H1) ?_
  refine bif_out ret (fun _ => rfl) (fun c1 => ?_)
  have dc1 := c1
  try simp only [DC] at dc1
  try have tc1 := Z52.tr (by simpa using c1)
  refine yes_ret (by
      have := (H1).1
      refine decide_eq_true ?_
      try simp (disch := omega) only [LN, wi]
      first | omega | (simp; done) | (simp; omega)) ?_
  refine call_to (Z53.md a0 (((a1.getD 0 MSigned.zero).fHead).fZone)) (Z53.R_eq (a0 := a0) (a1 := ((a1.getD 0 MSigned.zero).fHead).fZone) H0) ?_
  have fv2_ := Z53.fa a0 (((a1.getD 0 MSigned.zero).fHead).fZone)
  refine bif_out ret (fun _ => rfl) (fun c2 => ?_)
  have dc2 := c2
  try simp only [DC] at dc2
  refine yes_ret (by
      refine decide_eq_true ?_
      try simp (disch := omega) only [LN, wi]
      first | omega | (simp; done) | (simp; omega)) ?_
  refine yes_ret (by
      have := (H0.1).1
      refine decide_eq_true ?_
      try simp (disch := omega) only [LN, wi]
      first | omega | (simp; done) | (simp; omega)) ?_
  refine call_to (Z55.md (a0.fChains.getD (Int.toNat (Z53.md a0 (((a1.getD 0 MSigned.zero).fHead).fZone))) []) a1) (Z55.R_eq (a0 := (a0.fChains.getD (Int.toNat (Z53.md a0 (((a1.getD 0 MSigned.zero).fHead).fZone))) [])) (a1 := a1) ⟨(SmL.getD (z := []) H0.1 (by first | assumption | omega | (simp (disch := omega) only [wi]; omega) | (simp; omega))), H1⟩) ?_
  refine yes_ret (by
      refine decide_eq_true ?_
      try simp (disch := omega) only [LN, wi]
      first | omega | (simp; done) | (simp; omega)) ?_
  refine yes_ret (by
      have := (H0.1).1
      refine decide_eq_true ?_
      try simp (disch := omega) only [LN, wi]
      first | omega | (simp; done) | (simp; omega)) ?_
  refine call_to (Z55.md a1 (a0.fChains.getD (Int.toNat (Z53.md a0 (((a1.getD 0 MSigned.zero).fHead).fZone))) [])) (Z55.R_eq (a0 := a1) (a1 := (a0.fChains.getD (Int.toNat (Z53.md a0 (((a1.getD 0 MSigned.zero).fHead).fZone))) [])) ⟨H1, (SmL.getD (z := []) H0.1 (by first | assumption | omega | (simp (disch := omega) only [wi]; omega) | (simp; omega)))⟩) ?_
  refine bif_out ret (fun c3 => ?_) (fun c3 => ?_)
  · refine bif_out ret (fun _ => rfl) (fun c4 => ?_)
    refine bif_out ret (fun _ => rfl) (fun c5 => ?_)
    refine bif_out ret (fun _ => rfl) (fun _ => rfl)
  · refine bif_out ret (fun _ => rfl) (fun c7 => ?_)
    refine bif_out ret (fun _ => rfl) (fun _ => rfl)
theorem valid_ : Valid Tryz.prog Ev 74 con := VV (live := fun _ => []) (nt := 43) (run := fun _ x => F x.1 x.2) mix tab_ok (.cons Z52.valid_ (.cons Z53.valid_ (.cons Z55.valid_ .nil))) Tryz.func74 (by kernel_rfl) (fun _ _ => by kernel_rfl) (fun _ a _ _ hg => ⟨0, okF a.1 a.2 hg⟩)
theorem fa (a0 : MKnown) (a1 : List MSigned) : (md a0 a1 = 3 → 1 ≤ a1.length ∧ 0 ≤ Z53.md a0 (a1.getD 0 MSigned.zero).fHead.fZone) ∧ (md a0 a1 = 5 → 1 ≤ a1.length ∧ 0 ≤ Z53.md a0 (a1.getD 0 MSigned.zero).fHead.fZone) := by
  unfold md
  cases h : Z52.md a1
  · exact ⟨fun h => by simp at h, fun h => by simp at h⟩
  · have t := Z52.tr h
    cases hf : decide (Z53.md a0 ((a1.getD 0 MSigned.zero).fHead.fZone) < 0)
    · have := of_decide_eq_false hf
      exact ⟨fun _ => ⟨t.1, by omega⟩, fun _ => ⟨t.1, by omega⟩⟩
    · exact ⟨fun h => by simp at h, fun h => by simp at h⟩
end Z56
namespace Z57
inductive Pt where
 | p0 (a : List (List L)) (b : List (List L)) (c : Int) (d : Int) (e : Int) (f : Int) (g : Int) (h : Int) (i : Int) (j : Int) (k : Int) (l : Int) (m : Int) (n : Int) (o : Int) (p : Bool) (q : Int) (s : Int) (t : Int) (u : Int) (v : Int) (w : Int) (y : Int) (z : Int) (w24 : Int) (w25 : Int) (w26 : Int) (w27 : Int) (w28 : Bool) (w29 : Int) (w30 : Int) (w31 : Int) (w32 : Int) (w33 : Int) (w34 : Int) (w35 : Int) (w36 : Int) (w37 : Int) (w38 : Int) (w39 : Int) (w40 : Int) (w41 : Bool)
def pid : Pt → Nat
 | .p0 .. => 4
def pvs : Pt → List V
 | .p0 a b c d e f g h i j k l m n o p q s t u v w y z w24 w25 w26 w27 w28 w29 w30 w31 w32 w33 w34 w35 w36 w37 w38 w39 w40 w41 => [.sl none 122 a, .sl none 122 b, .bptr 0 0, .int .i64 c]
def phs : Pt → List Root
 | .p0 a b c d e f g h i j k l m n o p q s t u v w y z w24 w25 w26 w27 w28 w29 w30 w31 w32 w33 w34 w35 w36 w37 w38 w39 w40 w41 => [.box [.int .i64 d, .int .i64 e, .int .i64 f, .int .i64 g, .int .i64 h, .int .i64 i, .int .i64 j, .int .i64 k, .nil, .int .i64 l, .nil, .int .i64 m, .int .i64 n, .nil, .int .i64 o, .bool p, .nil, .int .i64 q, .int .i64 s, .int .i64 t, .int .i64 u, .int .i64 v, .int .i64 w, .int .i64 y, .int .i64 z, .nil, .int .i64 w24, .nil, .int .i64 w25, .int .i64 w26, .nil, .int .i64 w27, .bool w28, .nil, .int .i64 w29, .int .i64 w30, .int .i64 w31, .int .i64 w32, .int .i64 w33, .int .i64 w34, .int .i64 w35, .int .i64 w36, .nil, .int .i64 w37, .nil, .int .i64 w38, .int .i64 w39, .nil, .int .i64 w40, .bool w41, .nil]]
def step (J : Pt → Ans) : Pt → Ans
 | .p0 a b c d e f g h i j k l m n o p q s t u v w y z w24 w25 w26 w27 w28 w29 w30 w31 w32 w33 w34 w35 w36 w37 w38 w39 w40 w41 => (bif (decide (c < (a.length : Int))) then (bif (decide (c < (b.length : Int))) then (bif (decide ((0 : Int) ≤ c)) then (bif (decide (c < (a.length : Int))) then (bif (decide ((0 : Int) ≤ c)) then (bif (decide (c < (b.length : Int))) then (call (Z54.R ((RSigned.at a (Int.toNat c)).fHead, (RSigned.at b (Int.toNat c)).fHead)) fun v1 => (bif v1 then J (.p0 a b (IntKind.i64.wrap (c + 1)) d e f g h i j k l m n o p q s t u v w y z w24 w25 w26 w27 w28 w29 w30 w31 w32 w33 w34 w35 w36 w37 w38 w39 w40 w41) else (bif (decide ((0 : Int) ≤ c)) then (bif (decide (c < (a.length : Int))) then (call (Z23.R (RSigned.at a (Int.toNat c))) fun v2 => (bif (decide ((0 : Int) ≤ c)) then (bif (decide (c < (b.length : Int))) then (call (Z23.R (RSigned.at b (Int.toNat c))) fun v3 => (bif (decide (c > 0)) then (bif (decide ((0 : Int) ≤ (IntKind.i64.wrap (c - 1)))) then (bif (decide ((IntKind.i64.wrap (c - 1)) < (a.length : Int))) then (call (Z23.R (RSigned.at a (Int.toNat (IntKind.i64.wrap (c - 1))))) fun v4 => ret (((⟨v4, v2, v3⟩ : RFork), true) : RFork × Bool)) else none) else none) else ret (((⟨(⟨(⟨0, 0, 0, 0, 0, 0, 0, 0, (⟨[], 0⟩ : RKeys), (⟨[], 0⟩ : RKeys), 0, (⟨[], 0⟩ : RKeys), false⟩ : RHead), []⟩ : RSigned), v2, v3⟩ : RFork), true) : RFork × Bool))) else none) else none)) else none) else none))) else none) else none) else none) else none) else (bif (decide ((0 : Int) ≤ c)) then (bif (decide (c < (a.length : Int))) then (call (Z23.R (RSigned.at a (Int.toNat c))) fun v5 => (bif (decide ((0 : Int) ≤ c)) then (bif (decide (c < (b.length : Int))) then (call (Z23.R (RSigned.at b (Int.toNat c))) fun v6 => (bif (decide (c > 0)) then (bif (decide ((0 : Int) ≤ (IntKind.i64.wrap (c - 1)))) then (bif (decide ((IntKind.i64.wrap (c - 1)) < (a.length : Int))) then (call (Z23.R (RSigned.at a (Int.toNat (IntKind.i64.wrap (c - 1))))) fun v7 => ret (((⟨v7, v5, v6⟩ : RFork), true) : RFork × Bool)) else none) else none) else ret (((⟨(⟨(⟨0, 0, 0, 0, 0, 0, 0, 0, (⟨[], 0⟩ : RKeys), (⟨[], 0⟩ : RKeys), 0, (⟨[], 0⟩ : RKeys), false⟩ : RHead), []⟩ : RSigned), v5, v6⟩ : RFork), true) : RFork × Bool))) else none) else none)) else none) else none)) else (bif (decide ((0 : Int) ≤ c)) then (bif (decide (c < (a.length : Int))) then (call (Z23.R (RSigned.at a (Int.toNat c))) fun v8 => (bif (decide ((0 : Int) ≤ c)) then (bif (decide (c < (b.length : Int))) then (call (Z23.R (RSigned.at b (Int.toNat c))) fun v9 => (bif (decide (c > 0)) then (bif (decide ((0 : Int) ≤ (IntKind.i64.wrap (c - 1)))) then (bif (decide ((IntKind.i64.wrap (c - 1)) < (a.length : Int))) then (call (Z23.R (RSigned.at a (Int.toNat (IntKind.i64.wrap (c - 1))))) fun v10 => ret (((⟨v10, v8, v9⟩ : RFork), true) : RFork × Bool)) else none) else none) else ret (((⟨(⟨(⟨0, 0, 0, 0, 0, 0, 0, 0, (⟨[], 0⟩ : RKeys), (⟨[], 0⟩ : RKeys), 0, (⟨[], 0⟩ : RKeys), false⟩ : RHead), []⟩ : RSigned), v8, v9⟩ : RFork), true) : RFork × Bool))) else none) else none)) else none) else none))
def start (J : Pt → Ans) (x0 : List (List L)) (x1 : List (List L)) : Ans := (call (Z52.R x0) fun v1 => (bif (!v1) then ret (((⟨(⟨(⟨0, 0, 0, 0, 0, 0, 0, 0, (⟨[], 0⟩ : RKeys), (⟨[], 0⟩ : RKeys), 0, (⟨[], 0⟩ : RKeys), false⟩ : RHead), []⟩ : RSigned), (⟨(⟨0, 0, 0, 0, 0, 0, 0, 0, (⟨[], 0⟩ : RKeys), (⟨[], 0⟩ : RKeys), 0, (⟨[], 0⟩ : RKeys), false⟩ : RHead), []⟩ : RSigned), (⟨(⟨0, 0, 0, 0, 0, 0, 0, 0, (⟨[], 0⟩ : RKeys), (⟨[], 0⟩ : RKeys), 0, (⟨[], 0⟩ : RKeys), false⟩ : RHead), []⟩ : RSigned)⟩ : RFork), false) : RFork × Bool) else (call (Z52.R x1) fun v2 => (bif (!v2) then ret (((⟨(⟨(⟨0, 0, 0, 0, 0, 0, 0, 0, (⟨[], 0⟩ : RKeys), (⟨[], 0⟩ : RKeys), 0, (⟨[], 0⟩ : RKeys), false⟩ : RHead), []⟩ : RSigned), (⟨(⟨0, 0, 0, 0, 0, 0, 0, 0, (⟨[], 0⟩ : RKeys), (⟨[], 0⟩ : RKeys), 0, (⟨[], 0⟩ : RKeys), false⟩ : RHead), []⟩ : RSigned), (⟨(⟨0, 0, 0, 0, 0, 0, 0, 0, (⟨[], 0⟩ : RKeys), (⟨[], 0⟩ : RKeys), 0, (⟨[], 0⟩ : RKeys), false⟩ : RHead), []⟩ : RSigned)⟩ : RFork), false) : RFork × Bool) else (bif (decide ((0 : Int) < (x0.length : Int))) then (bif (decide ((0 : Int) < (x1.length : Int))) then (bif ((RSigned.at x0 0).fHead.fZone != (RSigned.at x1 0).fHead.fZone) then ret (((⟨(⟨(⟨0, 0, 0, 0, 0, 0, 0, 0, (⟨[], 0⟩ : RKeys), (⟨[], 0⟩ : RKeys), 0, (⟨[], 0⟩ : RKeys), false⟩ : RHead), []⟩ : RSigned), (⟨(⟨0, 0, 0, 0, 0, 0, 0, 0, (⟨[], 0⟩ : RKeys), (⟨[], 0⟩ : RKeys), 0, (⟨[], 0⟩ : RKeys), false⟩ : RHead), []⟩ : RSigned), (⟨(⟨0, 0, 0, 0, 0, 0, 0, 0, (⟨[], 0⟩ : RKeys), (⟨[], 0⟩ : RKeys), 0, (⟨[], 0⟩ : RKeys), false⟩ : RHead), []⟩ : RSigned)⟩ : RFork), false) : RFork × Bool) else (call (Z55.R (x0, x1)) fun v3 => (bif v3 then ret (((⟨(⟨(⟨0, 0, 0, 0, 0, 0, 0, 0, (⟨[], 0⟩ : RKeys), (⟨[], 0⟩ : RKeys), 0, (⟨[], 0⟩ : RKeys), false⟩ : RHead), []⟩ : RSigned), (⟨(⟨0, 0, 0, 0, 0, 0, 0, 0, (⟨[], 0⟩ : RKeys), (⟨[], 0⟩ : RKeys), 0, (⟨[], 0⟩ : RKeys), false⟩ : RHead), []⟩ : RSigned), (⟨(⟨0, 0, 0, 0, 0, 0, 0, 0, (⟨[], 0⟩ : RKeys), (⟨[], 0⟩ : RKeys), 0, (⟨[], 0⟩ : RKeys), false⟩ : RHead), []⟩ : RSigned)⟩ : RFork), false) : RFork × Bool) else (call (Z55.R (x1, x0)) fun v4 => (bif v4 then ret (((⟨(⟨(⟨0, 0, 0, 0, 0, 0, 0, 0, (⟨[], 0⟩ : RKeys), (⟨[], 0⟩ : RKeys), 0, (⟨[], 0⟩ : RKeys), false⟩ : RHead), []⟩ : RSigned), (⟨(⟨0, 0, 0, 0, 0, 0, 0, 0, (⟨[], 0⟩ : RKeys), (⟨[], 0⟩ : RKeys), 0, (⟨[], 0⟩ : RKeys), false⟩ : RHead), []⟩ : RSigned), (⟨(⟨0, 0, 0, 0, 0, 0, 0, 0, (⟨[], 0⟩ : RKeys), (⟨[], 0⟩ : RKeys), 0, (⟨[], 0⟩ : RKeys), false⟩ : RHead), []⟩ : RSigned)⟩ : RFork), false) : RFork × Bool) else J (.p0 x0 x1 0 0 0 0 0 0 0 0 0 0 0 0 0 false 0 0 0 0 0 0 0 0 0 0 0 0 false 0 0 0 0 0 0 0 0 0 0 0 0 false)))))) else none) else none)))))
def live : Nat → Live := fun i => match i with | 4 => [(0, none), (1, none), (4, none), (6, none)] | _ => []
def pats : List Pat := [.rd (.sl 122), .rd (.sl 122)]
def res : RP := .tup [(true, [.rd (.int .i64), .rd (.int .i64), .rd (.int .i64), .rd (.int .i64), .rd (.int .i64), .rd (.int .i64), .rd (.int .i64), .rd (.int .i64), .fr 3, .rd (.int .i64), .fr 3, .rd (.int .i64), .rd (.int .i64), .fr 3, .rd (.int .i64), .rd (.bool), .fr 184, .rd (.int .i64), .rd (.int .i64), .rd (.int .i64), .rd (.int .i64), .rd (.int .i64), .rd (.int .i64), .rd (.int .i64), .rd (.int .i64), .fr 3, .rd (.int .i64), .fr 3, .rd (.int .i64), .rd (.int .i64), .fr 3, .rd (.int .i64), .rd (.bool), .fr 184, .rd (.int .i64), .rd (.int .i64), .rd (.int .i64), .rd (.int .i64), .rd (.int .i64), .rd (.int .i64), .rd (.int .i64), .rd (.int .i64), .fr 3, .rd (.int .i64), .fr 3, .rd (.int .i64), .rd (.int .i64), .fr 3, .rd (.int .i64), .rd (.bool), .fr 184]), (false, [.rd (.bool)])]
abbrev E : Env := { T := assoc Tab, G := conG [(129, Z52.con), (139, Z55.con), (141, Z54.con), (140, Z23.con)], nt := 86 }
theorem step_eq (I : Heads) (p : Pt) : enterC E live I (pid p) (bodyOf Tryz.f77) (stOf (live (pid p)) (pvs p) (phs p)) (doneK E Tryz.f77 res) = step (fun q => I (pid q) (pvs q) (phs q)) p := by
 cases p <;> kernel_rfl
theorem start_eq (I : Heads) (ls : List L) : runC E live I (bodyOf Tryz.f77) (initS pats ls) (doneK E Tryz.f77 res) = start (fun q => I (pid q) (pvs q) (phs q)) (ls.headD .hole).toSl ((dropT 1 ls).headD .hole).toSl := by kernel_rfl
theorem run_eq (n : Nat) (ls : List L) : runF E live Tryz.f77 res n (initS pats ls) = start (iter step n) (ls.headD .hole).toSl ((dropT 1 ls).headD .hole).toSl := runF_iter (id := pid) (vs := pvs) (hs := phs) (step := step) (start := fun J => start J (ls.headD .hole).toSl ((dropT 1 ls).headD .hole).toSl) step_eq (fun I => start_eq I ls) n
def pt (a b : List (List L)) (c : Int) : Pt := Pt.p0 a b c 0 0 0 0 0 0 0 0 0 0 0 0 false 0 0 0 0 0 0 0 0 0 0 0 0 false 0 0 0 0 0 0 0 0 0 0 0 0 false
def fk : List MSigned → List MSigned → Nat
 | x :: xs, y :: ys => bif Z54.md x.fHead y.fHead then fk xs ys + 1 else 0
 | _, _ => 0
theorem fk_spec : ∀ a b : List MSigned, (∀ i, i < fk a b → Z54.md (a.getD i MSigned.zero).fHead (b.getD i MSigned.zero).fHead = true) ∧
    ((fk a b < a.length ∧ fk a b < b.length ∧ Z54.md (a.getD (fk a b) MSigned.zero).fHead (b.getD (fk a b) MSigned.zero).fHead = false) ∨
     (a.length ≤ b.length ∧ ∀ i, i < a.length → Z54.md (a.getD i MSigned.zero).fHead (b.getD i MSigned.zero).fHead = true) ∨
     (b.length ≤ a.length ∧ ∀ i, i < b.length → Z54.md (a.getD i MSigned.zero).fHead (b.getD i MSigned.zero).fHead = true))
  | [], b => ⟨fun i hi => by simp [fk] at hi, .inr (.inl ⟨Nat.zero_le _, fun i hi => by simp at hi⟩)⟩
  | x :: xs, [] => ⟨fun i hi => by simp [fk] at hi, .inr (.inr ⟨Nat.zero_le _, fun i hi => by simp at hi⟩)⟩
  | x :: xs, y :: ys => by
    obtain ⟨h1, h2⟩ := fk_spec xs ys
    cases h : Z54.md x.fHead y.fHead
    · have e : fk (x :: xs) (y :: ys) = 0 := by simp [fk, h]
      rw [e]
      exact ⟨fun i hi => by omega, .inl ⟨by simp, by simp, h⟩⟩
    · have e : fk (x :: xs) (y :: ys) = fk xs ys + 1 := by simp [fk, h]
      rw [e]
      have up : ∀ {m : Nat}, (∀ i, i < m → Z54.md (xs.getD i MSigned.zero).fHead (ys.getD i MSigned.zero).fHead = true) → ∀ i, i < m + 1 → Z54.md ((x :: xs).getD i MSigned.zero).fHead ((y :: ys).getD i MSigned.zero).fHead = true := by
        intro m hm i hi
        cases i with
        | zero => exact h
        | succ i => exact hm i (by omega)
      refine ⟨up h1, ?_⟩
      rcases h2 with ⟨a, b, c⟩ | ⟨a, b⟩ | ⟨a, b⟩
      · exact .inl ⟨by simpa using a, by simpa using b, c⟩
      · exact .inr (.inl ⟨by simpa using a, up b⟩)
      · exact .inr (.inr ⟨by simpa using a, up b⟩)
theorem pre_of {a b : List MSigned} (hl : a.length ≤ b.length) (h : ∀ i, i < a.length → Z54.md (a.getD i MSigned.zero).fHead (b.getD i MSigned.zero).fHead = true) : Z55.md a b = true := by
  unfold Z55.md
  rw [decide_eq_false (by omega), cond_false]
  refine (loopM_true (fun i => Z54.md (a.getD i MSigned.zero).fHead (b.getD i MSigned.zero).fHead = true) (fun i _ hi => ?_) (fun i _ hi => ?_)).2 ⟨h, rfl⟩
  · simp only [hi, Bool.not_true, cond_false]
  · rw [Bool.not_eq_true] at hi
    simp only [hi, Bool.not_false, cond_true]
theorem eq_comm {a b : MHead} (h : Z54.md a b = true) : Z54.md b a = true := by
 rw [Z54.md_eq, eqB_iff] at h ⊢
 exact h.symm
theorem fk_found {a b : List MSigned} (h1 : Z55.md a b = false) (h2 : Z55.md b a = false) : fk a b < a.length ∧ fk a b < b.length ∧ Z54.md (a.getD (fk a b) MSigned.zero).fHead (b.getD (fk a b) MSigned.zero).fHead = false := by
  rcases (fk_spec a b).2 with h | ⟨h3, h4⟩ | ⟨h3, h4⟩
  · exact h
  · rw [pre_of h3 h4] at h1; cases h1
  · rw [pre_of h3 fun i hi => eq_comm (h4 i hi)] at h2; cases h2
def fkAt (a b : List MSigned) : Nat → MFork
 | 0 => ⟨MSigned.zero, a.getD 0 MSigned.zero, b.getD 0 MSigned.zero⟩
 | k + 1 => ⟨a.getD k MSigned.zero, a.getD (k + 1) MSigned.zero, b.getD (k + 1) MSigned.zero⟩
theorem fkAt_sz {a b : List MSigned} {k : Nat} (hk : k < a.length) (hk2 : k < b.length) : MFork.size (fkAt a b k) ≤ 2 * szL (fun y : MSigned => MSigned.size y) a + szL (fun y : MSigned => MSigned.size y) b := by
 have h1 := szL_getD (f := fun y : MSigned => MSigned.size y) (xs := b) (i := k) (z := MSigned.zero) hk2
 have h2 := szL_getD (f := fun y : MSigned => MSigned.size y) (xs := a) (i := k) (z := MSigned.zero) hk
 have h0 : MSigned.size MSigned.zero = 0 := rfl
 cases k with
 | zero => simp only [fkAt, MFork.size]; omega
 | succ k =>
  have h3 := szL_getD (f := fun y : MSigned => MSigned.size y) (xs := a) (i := k) (z := MSigned.zero) (by omega)
  simp only [fkAt, MFork.size]; omega
def md (a0 : List MSigned) (a1 : List MSigned) : MFork × Bool := (bif (!(Z52.md a0)) then (MFork.zero, false) else (bif (!(Z52.md a1)) then (MFork.zero, false) else (bif (((a0.getD 0 MSigned.zero).fHead).fZone != ((a1.getD 0 MSigned.zero).fHead).fZone) then (MFork.zero, false) else (bif (Z55.md a0 a1) then (MFork.zero, false) else (bif (Z55.md a1 a0) then (MFork.zero, false) else (fkAt a0 a1 (fk a0 a1), true))))))
def gd (a0 : List MSigned) (a1 : List MSigned) : Prop := SmL (2 ^ 21) (fun y : MSigned => MSigned.Sm (2 ^ 21) y) a0 ∧ SmL (2 ^ 21) (fun y : MSigned => MSigned.Sm (2 ^ 21) y) a1
def acc (ls : List L) : List (List L) × List (List L) := ((ls.headD .hole).toSl, ((dropT 1 ls).headD .hole).toSl)
def R : (List (List L) × List (List L)) → Option (RFork × Bool) := RR (p2 gd) (u2 md)
theorem R_eq {a0} {a1} (h : gd a0 a1) : R ((a0.map MSigned.row), (a1.map MSigned.row)) = some ((MFork.r (md a0 a1).1), (md a0 a1).2) := RR_eq (a := (a0, a1)) h
def con : Con := CN pats res acc R
theorem okF (a0 : List MSigned) (a1 : List MSigned) (hg : gd a0 a1) : ∃ n, start (iter step n) (a0.map MSigned.row) (a1.map MSigned.row) = ret (((MFork.r (md a0 a1).1), (md a0 a1).2) : RFork × Bool) := by
  unfold gd at hg
  obtain ⟨H0, H1⟩ := hg
  have hl0 := H0.1
  have hl1 := H1.1
  have key : fk a0 a1 < a0.length → fk a0 a1 < a1.length → Z54.md (a0.getD (fk a0 a1) MSigned.zero).fHead (a1.getD (fk a0 a1) MSigned.zero).fHead = false → ∀ d k, k + d = fk a0 a1 → ∃ n, iter step n (pt (a0.map MSigned.row) (a1.map MSigned.row) (k : Int)) = ret ((MFork.r (fkAt a0 a1 (fk a0 a1)), true) : RFork × Bool) := by
    intro hn0 hn1 hne d
    have hR : ∀ k, k < a0.length → k < a1.length → Z54.R (MHead.r (a0.getD k MSigned.zero).fHead, MHead.r (a1.getD k MSigned.zero).fHead) = some (Z54.md (a0.getD k MSigned.zero).fHead (a1.getD k MSigned.zero).fHead) := by
      intro k h0 h1
      rw [Z54.R_eq ⟨(SmL.getD (z := MSigned.zero) H0 h0).1, (SmL.getD (z := MSigned.zero) H1 h1).1⟩]
    induction d with
    | zero =>
      intro k hk
      obtain rfl : k = fk a0 a1 := by omega
      generalize hkk : fk a0 a1 = k at hn0 hn1 hne ⊢
      refine ⟨1, ?_⟩
      show step (iter step 0) _ = _
      have q1 : (0 : Int) ≤ (k : Int) := by omega
      have q2 : (k : Int) < (a0.length : Int) := by omega
      have q3 : (k : Int) < (a1.length : Int) := by omega
      simp only [pt, step, S0, MSigned.rs, MHead.rs, q1, q2, q3, decide_true, cond_true]
      rw [call_eq (hR k hn0 hn1), hne, cond_false, call_eq (Z23.R_eq (a0 := a0.getD k MSigned.zero) (SmL.getD (z := MSigned.zero) H0 hn0)), call_eq (Z23.R_eq (a0 := a1.getD k MSigned.zero) (SmL.getD (z := MSigned.zero) H1 hn1))]
      cases k with
      | zero => rfl
      | succ k =>
        have q4 : ((k + 1 : Nat) : Int) > 0 := by omega
        have q5 : IntKind.i64.wrap (((k + 1 : Nat) : Int) - 1) = (k : Int) := by rw [wi _ (by omega)]; omega
        have q6 : (0 : Int) ≤ (k : Int) := by omega
        have q7 : (k : Int) < (a0.length : Int) := by omega
        simp only [q4, q5, q6, q7, decide_true, cond_true, S0, MSigned.rs]
        rw [call_eq (Z23.R_eq (a0 := a0.getD k MSigned.zero) (SmL.getD (z := MSigned.zero) H0 (by omega)))]
        rfl
    | succ d ih =>
      intro k hk
      obtain ⟨n, hn⟩ := ih (k + 1) (by omega)
      refine ⟨n + 1, ?_⟩
      show step (iter step n) _ = _
      have q1 : (0 : Int) ≤ (k : Int) := by omega
      have q2 : (k : Int) < (a0.length : Int) := by omega
      have q3 : (k : Int) < (a1.length : Int) := by omega
      simp only [pt, step, S0, MSigned.rs, MHead.rs, q1, q2, q3, decide_true, cond_true]
      rw [call_eq (hR k (by omega) (by omega)), (fk_spec a0 a1).1 k (by omega), cond_true, wi _ (by omega)]
      exact hn
  unfold start md
  simp only [S0, MSigned.rs, MHead.rs]
  refine ex_call_to (Z52.md a0) (Z52.R_eq H0) ?_
  cases hc0 : Z52.md a0
  · exact ⟨0, rfl⟩
  simp only [Bool.not_true, cond_false]
  refine ex_call_to (Z52.md a1) (Z52.R_eq H1) ?_
  cases hc1 : Z52.md a1
  · exact ⟨0, rfl⟩
  have t0 := Z52.tr hc0
  have t1 := Z52.tr hc1
  simp only [Bool.not_true, cond_false]
  refine ex_yes (decide_eq_true (by omega)) (ex_yes (decide_eq_true (by omega)) ?_)
  cases ((a0.getD 0 MSigned.zero).fHead.fZone != (a1.getD 0 MSigned.zero).fHead.fZone)
  case true => exact ⟨0, rfl⟩
  simp only [cond_false]
  refine ex_call_to (Z55.md a0 a1) (Z55.R_eq ⟨H0, H1⟩) ?_
  cases hp0 : Z55.md a0 a1
  case true => exact ⟨0, rfl⟩
  simp only [cond_false]
  refine ex_call_to (Z55.md a1 a0) (Z55.R_eq ⟨H1, H0⟩) ?_
  cases hp1 : Z55.md a1 a0
  case true => exact ⟨0, rfl⟩
  simp only [cond_false]
  obtain ⟨h1, h2, h3⟩ := fk_found hp0 hp1
  exact key h1 h2 h3 (fk a0 a1) 0 (by omega)
theorem valid_ : Valid Tryz.prog Ev 77 con := VV (run := fun n x => start (iter step n) x.1 x.2) mix tab_ok (.cons Z52.valid_ (.cons Z55.valid_ (.cons Z54.valid_ (.cons Z23.valid_ .nil)))) Tryz.func77 (by kernel_rfl) run_eq (fun _ a _ _ hg => okF a.1 a.2 hg)
end Z57
namespace Z58
def F (x0 : RKnown) (x1 : List (List L)) : Ans := (call (Z26.R x0) fun v1 => (call (Z56.R (x0, x1)) fun v2 => (bif (v2 == 1) then (bif (decide ((x0.fChains.length : Int) ≥ 8)) then ret ((v1, 6) : RKnown × Int) else (call (Z24.R x1) fun v3 => (bif (lim (((v1.fChains.length : Int) + 1) * 24)) then ret (((⟨(v1.fChains ++ [[L.sl v3]]), v1.fForks⟩ : RKnown), v2) : RKnown × Int) else none))) else (bif (v2 == 3) then (bif (decide ((0 : Int) < (x1.length : Int))) then (call (Z53.R (x0, (RSigned.at x1 0).fHead.fZone)) fun v4 => (call (Z24.R x1) fun v5 => (bif (decide ((0 : Int) ≤ v4)) then (bif (decide (v4 < (v1.fChains.length : Int))) then ret (((⟨(List.set v1.fChains (Int.toNat v4) [L.sl v5]), v1.fForks⟩ : RKnown), v2) : RKnown × Int) else none) else none))) else none) else (bif (v2 == 5) then (bif (decide ((0 : Int) < (x1.length : Int))) then (call (Z53.R (x0, (RSigned.at x1 0).fHead.fZone)) fun v6 => (bif (decide ((0 : Int) ≤ v6)) then (bif (decide (v6 < (x0.fChains.length : Int))) then (call (Z57.R ((lAt x0.fChains (Int.toNat v6)), x1)) fun v7 => (bif v7.2 then (bif (decide ((x0.fForks.length : Int) < 8)) then (bif (lim (((v1.fForks.length : Int) + 1) * 600)) then ret (((⟨v1.fChains, (v1.fForks ++ [(RFork.enc v7.1)])⟩ : RKnown), v2) : RKnown × Int) else none) else ret ((v1, v2) : RKnown × Int)) else ret ((v1, v2) : RKnown × Int))) else none) else none)) else none) else ret ((v1, v2) : RKnown × Int))))))
def pats : List Pat := [.agg [.sl 38, .sl 134], .rd (.sl 122)]
def res : RP := .tup [(true, [.fr 38, .fr 134]), (false, [.rd (.int .i64)])]
def md (a0 : MKnown) (a1 : List MSigned) : MKnown × Int := (bif ((Z56.md a0 a1) == 1) then (bif (decide ((a0.fChains.length : Int) ≥ 8)) then (a0, 6) else ((⟨(a0.fChains ++ [a1]), a0.fForks⟩ : MKnown), (Z56.md a0 a1))) else (bif ((Z56.md a0 a1) == 3) then ((⟨(List.set a0.fChains (Int.toNat (Z53.md a0 (((a1.getD 0 MSigned.zero).fHead).fZone))) a1), a0.fForks⟩ : MKnown), (Z56.md a0 a1)) else (bif ((Z56.md a0 a1) == 5) then (bif (Z57.md (a0.fChains.getD (Int.toNat (Z53.md a0 (((a1.getD 0 MSigned.zero).fHead).fZone))) []) a1).2 then (bif (decide ((a0.fForks.length : Int) < 8)) then ((⟨a0.fChains, (a0.fForks ++ [(Z57.md (a0.fChains.getD (Int.toNat (Z53.md a0 (((a1.getD 0 MSigned.zero).fHead).fZone))) []) a1).1])⟩ : MKnown), (Z56.md a0 a1)) else (a0, (Z56.md a0 a1))) else (a0, (Z56.md a0 a1))) else (a0, (Z56.md a0 a1)))))
def gd (a0 : MKnown) (a1 : List MSigned) : Prop := (MKnown.Sm (2 ^ 21) a0) ∧ (SmL (2 ^ 21) (fun y : MSigned => MSigned.Sm (2 ^ 21) y) a1)
def acc (ls : List L) : RKnown × List (List L) := ((RKnown.dec ls), ((dropT 2 ls).headD .hole).toSl)
def R : (RKnown × List (List L)) → Option (RKnown × Int) := RR (p2 gd) (u2 md)
theorem R_eq {a0} {a1} (h : gd a0 a1) : R ((MKnown.r a0), (a1.map MSigned.row)) = some ((MKnown.r (md a0 a1).1), (md a0 a1).2) := RR_eq (a := (a0, a1)) h
def con : Con := CN pats res acc R
theorem okF (a0 : MKnown) (a1 : List MSigned) (hg : gd a0 a1) : F (MKnown.r a0) (a1.map MSigned.row) = ret (((MKnown.r (md a0 a1).1), (md a0 a1).2) : RKnown × Int) := by
  unfold gd at hg
  obtain ⟨H0, H1⟩ := hg
  unfold F md
  try simp only [S0, MHead.rs, MSigned.rs, MKnown.rs]
  refine call_to (MKnown.r a0) ?_ ?_
  · have R_ := Z26.R_eq (a0 := a0) H0
    simp only [Z26.md] at R_
    first | exact R_ | (simp only [MP, S0, MHead.rs, MSigned.rs, MKnown.rs] at R_ ⊢; first | exact R_ | (rw [← R_]; rfl))
  try simp only [S0, MHead.rs, MSigned.rs, MKnown.rs]
  refine call_to (Z56.md a0 a1) (Z56.R_eq (a0 := a0) (a1 := a1) ⟨H0, H1⟩) ?_
  have fv2_ := Z56.fa a0 a1
  refine bif_out (fun b : MKnown × Int => ret (((MKnown.r b.1), b.2) : RKnown × Int)) (fun c1 => ?_) (fun c1 => ?_)
  · have dc1 := c1
    try simp only [DC] at dc1
    refine bif_out (fun b : MKnown × Int => ret (((MKnown.r b.1), b.2) : RKnown × Int)) (fun c2 => ?_) (fun c2 => ?_)
    · all_goals first | rfl | (simp only [S0, MHead.rs, MSigned.rs, MKnown.rs]; done) | (simp only [MP]; rfl) | (simp only [S0, MHead.rs, MSigned.rs, MKnown.rs, MP]; first | done | rfl) | (simp only [MKnown.r, S0, MHead.rs, MSigned.rs, MKnown.rs, MP]; first | done | rfl)
    · have dc2 := c2
      try simp only [DC] at dc2
      refine call_to (a1.map MSigned.row) ?_ ?_
      · have R_ := Z24.R_eq (a0 := a1) H1
        simp only [Z24.md] at R_
        first | exact R_ | (simp only [MP, S0, MHead.rs, MSigned.rs, MKnown.rs] at R_ ⊢; first | exact R_ | (rw [← R_]; rfl))
      try simp only [S0, MHead.rs, MSigned.rs, MKnown.rs]
      refine yes_ret (by
          have := (H0.1).1
          refine lim_t ?_
          try simp (disch := omega) only [LN, wi]
          first | omega | (simp; done) | (simp; omega)) ?_
      all_goals first | rfl | (simp only [S0, MHead.rs, MSigned.rs, MKnown.rs]; done) | (simp only [MP]; rfl) | (simp only [S0, MHead.rs, MSigned.rs, MKnown.rs, MP]; first | done | rfl) | (simp only [MKnown.r, S0, MHead.rs, MSigned.rs, MKnown.rs, MP]; first | done | rfl)
  · have dc1 := c1
    try simp only [DC] at dc1
    refine bif_out (fun b : MKnown × Int => ret (((MKnown.r b.1), b.2) : RKnown × Int)) (fun c3 => ?_) (fun c3 => ?_)
    · have dc3 := c3
      try simp only [DC] at dc3
      refine yes_ret (by
          have := (H1).1
          refine decide_eq_true ?_
          try simp (disch := omega) only [LN, wi]
          first | omega | (simp; done) | (simp; omega)) ?_
      refine call_to (Z53.md a0 (((a1.getD 0 MSigned.zero).fHead).fZone)) (Z53.R_eq (a0 := a0) (a1 := ((a1.getD 0 MSigned.zero).fHead).fZone) H0) ?_
      have fv4_ := Z53.fa a0 (((a1.getD 0 MSigned.zero).fHead).fZone)
      refine call_to (a1.map MSigned.row) ?_ ?_
      · have R_ := Z24.R_eq (a0 := a1) H1
        simp only [Z24.md] at R_
        first | exact R_ | (simp only [MP, S0, MHead.rs, MSigned.rs, MKnown.rs] at R_ ⊢; first | exact R_ | (rw [← R_]; rfl))
      try simp only [S0, MHead.rs, MSigned.rs, MKnown.rs]
      refine yes_ret (by
          refine decide_eq_true ?_
          try simp (disch := omega) only [LN, wi]
          first | omega | (simp; done) | (simp; omega)) ?_
      refine yes_ret (by
          have := (H0.1).1
          refine decide_eq_true ?_
          try simp (disch := omega) only [LN, wi]
          first | omega | (simp; done) | (simp; omega)) ?_
      all_goals first | rfl | (simp only [S0, MHead.rs, MSigned.rs, MKnown.rs]; done) | (simp only [MP]; rfl) | (simp only [S0, MHead.rs, MSigned.rs, MKnown.rs, MP]; first | done | rfl) | (simp only [MKnown.r, S0, MHead.rs, MSigned.rs, MKnown.rs, MP]; first | done | rfl)
    · have dc3 := c3
      try simp only [DC] at dc3
      refine bif_out (fun b : MKnown × Int => ret (((MKnown.r b.1), b.2) : RKnown × Int)) (fun c4 => ?_) (fun c4 => ?_)
      · have dc4 := c4
        try simp only [DC] at dc4
        refine yes_ret (by
            have := (H1).1
            refine decide_eq_true ?_
            try simp (disch := omega) only [LN, wi]
            first | omega | (simp; done) | (simp; omega)) ?_
        refine call_to (Z53.md a0 (((a1.getD 0 MSigned.zero).fHead).fZone)) (Z53.R_eq (a0 := a0) (a1 := ((a1.getD 0 MSigned.zero).fHead).fZone) H0) ?_
        have fv6_ := Z53.fa a0 (((a1.getD 0 MSigned.zero).fHead).fZone)
        refine yes_ret (by
            refine decide_eq_true ?_
            try simp (disch := omega) only [LN, wi]
            first | omega | (simp; done) | (simp; omega)) ?_
        refine yes_ret (by
            have := (H0.1).1
            refine decide_eq_true ?_
            try simp (disch := omega) only [LN, wi]
            first | omega | (simp; done) | (simp; omega)) ?_
        refine call_to ((MFork.r (Z57.md (a0.fChains.getD (Int.toNat (Z53.md a0 (((a1.getD 0 MSigned.zero).fHead).fZone))) []) a1).1), (Z57.md (a0.fChains.getD (Int.toNat (Z53.md a0 (((a1.getD 0 MSigned.zero).fHead).fZone))) []) a1).2) (Z57.R_eq (a0 := (a0.fChains.getD (Int.toNat (Z53.md a0 (((a1.getD 0 MSigned.zero).fHead).fZone))) [])) (a1 := a1) ⟨(SmL.getD (z := []) H0.1 (by first | assumption | omega | (simp (disch := omega) only [wi]; omega) | (simp; omega))), H1⟩) ?_
        try simp only [S0, MHead.rs, MSigned.rs, MKnown.rs]
        refine bif_out (fun b : MKnown × Int => ret (((MKnown.r b.1), b.2) : RKnown × Int)) (fun c5 => ?_) (fun c5 => ?_)
        · refine bif_out (fun b : MKnown × Int => ret (((MKnown.r b.1), b.2) : RKnown × Int)) (fun c6 => ?_) (fun c6 => ?_)
          · have dc6 := c6
            try simp only [DC] at dc6
            refine yes_ret (by
                have := (H0.2).1
                refine lim_t ?_
                try simp (disch := omega) only [LN, wi]
                first | omega | (simp; done) | (simp; omega)) ?_
            all_goals first | rfl | (simp only [S0, MHead.rs, MSigned.rs, MKnown.rs]; done) | (simp only [MP]; rfl) | (simp only [S0, MHead.rs, MSigned.rs, MKnown.rs, MP]; first | done | rfl) | (simp only [MKnown.r, S0, MHead.rs, MSigned.rs, MKnown.rs, MP]; first | done | rfl)
          · all_goals first | rfl | (simp only [S0, MHead.rs, MSigned.rs, MKnown.rs]; done) | (simp only [MP]; rfl) | (simp only [S0, MHead.rs, MSigned.rs, MKnown.rs, MP]; first | done | rfl) | (simp only [MKnown.r, S0, MHead.rs, MSigned.rs, MKnown.rs, MP]; first | done | rfl)
        · all_goals first | rfl | (simp only [S0, MHead.rs, MSigned.rs, MKnown.rs]; done) | (simp only [MP]; rfl) | (simp only [S0, MHead.rs, MSigned.rs, MKnown.rs, MP]; first | done | rfl) | (simp only [MKnown.r, S0, MHead.rs, MSigned.rs, MKnown.rs, MP]; first | done | rfl)
      · all_goals first | rfl | (simp only [S0, MHead.rs, MSigned.rs, MKnown.rs]; done) | (simp only [MP]; rfl) | (simp only [S0, MHead.rs, MSigned.rs, MKnown.rs, MP]; first | done | rfl) | (simp only [MKnown.r, S0, MHead.rs, MSigned.rs, MKnown.rs, MP]; first | done | rfl)
theorem valid_ : Valid Tryz.prog Ev 25 con := VV (live := fun _ => []) (nt := 77) (run := fun _ x => F x.1 x.2) mix tab_ok (.cons Z26.valid_ (.cons Z56.valid_ (.cons Z24.valid_ (.cons Z53.valid_ (.cons Z57.valid_ .nil))))) Tryz.func25 (by kernel_rfl) (fun _ _ => by kernel_rfl) (fun _ a _ _ hg => ⟨0, okF a.1 a.2 hg⟩)
end Z58
namespace Z59
def F (x0 : List (List L)) : Ans := (bif x0.isEmpty then (either (ret ([] : List (List L))) ((bif (lim ((x0.length : Int) * 8)) then ret (x0 : List (List L)) else none))) else (bif (lim ((x0.length : Int) * 8)) then ret (x0 : List (List L)) else none))
def pats : List Pat := [.rd (.sl 3)]
def res : RP := .one (.fr 3)
def md (a0 : List Int) : List Int := a0
def gd (a0 : List Int) : Prop := SmL (2 ^ 38) (fun y : Int => True) a0
def acc (ls : List L) : List (List L) := (ls.headD .hole).toSl
def R : (List (List L)) → Option (List (List L)) := RR gd md
theorem R_eq {a0} (h : gd a0) : R (a0.map iRow) = some ((md a0).map iRow) := RR_eq (a := a0) h
def con : Con := CN pats res acc R
theorem okF (a0 : List Int) (hg : gd a0) : F (a0.map iRow) = ret (((md a0).map iRow) : List (List L)) := by
 have H0 := hg.1
 unfold F md
 have hl : lim (((a0.map iRow).length : Int) * 8) = true := lim_t (by simp only [List.length_map]; omega)
 simp only [hl, cond_true]
 cases a0 with
 | nil => exact either_same
 | cons x xs => rfl
theorem valid_ : Valid Tryz.prog Ev 207 con := VV (live := fun _ => []) (nt := 8) (run := fun _ x => F x) mix tab_ok .nil Tryz.func207 (by kernel_rfl) (fun _ _ => by kernel_rfl) (fun _ a _ _ hg => ⟨0, okF a hg⟩)
end Z59
namespace Z60
def F (x0 : RKeys) : Ans := (call (Z59.R x0.fList) fun v1 => ret ((⟨v1, x0.fNeed⟩ : RKeys) : RKeys))
def pats : List Pat := [.agg [.sl 3, .int .i64]]
def res : RP := .agg [.fr 3, .rd (.int .i64)]
def md (a0 : MKeys) : MKeys := a0
def gd (a0 : MKeys) : Prop := (MKeys.Sm (2 ^ 21) a0)
def acc (ls : List L) : RKeys := (RKeys.dec ls)
def R : RKeys → Option RKeys := RR gd md
theorem R_eq {a0} (h : gd a0) : R (MKeys.r a0) = some (MKeys.r (md a0)) := RR_eq (a := a0) h
def con : Con := CN pats res acc R
theorem okF (a0 : MKeys) (hg : gd a0) : F (MKeys.r a0) = ret ((MKeys.r (md a0)) : RKeys) := by
  unfold gd at hg
  have H0 := hg
  unfold F md
  try simp only [S0, MKeys.rs]
  refine call_to (a0.fList.map iRow) ?_ ?_
  · have R_ := Z59.R_eq (a0 := a0.fList) (H0.mono (by decide) (fun x hx => trivial))
    simp only [Z59.md] at R_
    first | exact R_ | (simp only [MP, S0, MKeys.rs] at R_ ⊢; first | exact R_ | (rw [← R_]; rfl))
  try simp only [S0, MKeys.rs]
  all_goals first | rfl | (simp only [S0, MKeys.rs]; done) | (simp only [MP]; rfl) | (simp only [S0, MKeys.rs, MP]; first | done | rfl)
theorem valid_ : Valid Tryz.prog Ev 187 con := VV (live := fun _ => []) (nt := 9) (run := fun _ x => F x) mix tab_ok (.cons Z59.valid_ .nil) Tryz.func187 (by kernel_rfl) (fun _ _ => by kernel_rfl) (fun _ a _ _ hg => ⟨0, okF a hg⟩)
end Z60
namespace Z61
def F (x0 : RHead) : Ans := (call (Z60.R x0.fKeys) fun v1 => (call (Z60.R x0.fHeirs) fun v2 => (call (Z60.R x0.fJudge) fun v3 => ret ((⟨x0.fZone, x0.fEpoch, x0.fKind, x0.fTime, x0.fUntil, x0.fCount, x0.fRoot, x0.fPrev, v1, v2, x0.fWait, v3, x0.fFrozen⟩ : RHead) : RHead))))
def pats : List Pat := [.agg [.int .i64, .int .i64, .int .i64, .int .i64, .int .i64, .int .i64, .int .i64, .int .i64, .sl 3, .int .i64, .sl 3, .int .i64, .int .i64, .sl 3, .int .i64, .bool]]
def res : RP := .agg [.rd (.int .i64), .rd (.int .i64), .rd (.int .i64), .rd (.int .i64), .rd (.int .i64), .rd (.int .i64), .rd (.int .i64), .rd (.int .i64), .fr 3, .rd (.int .i64), .fr 3, .rd (.int .i64), .rd (.int .i64), .fr 3, .rd (.int .i64), .rd (.bool)]
def md (a0 : MHead) : MHead := a0
def gd (a0 : MHead) : Prop := (MHead.Sm (2 ^ 21) a0)
def acc (ls : List L) : RHead := (RHead.dec ls)
def R : RHead → Option RHead := RR gd md
theorem R_eq {a0} (h : gd a0) : R (MHead.r a0) = some (MHead.r (md a0)) := RR_eq (a := a0) h
def con : Con := CN pats res acc R
theorem okF (a0 : MHead) (hg : gd a0) : F (MHead.r a0) = ret ((MHead.r (md a0)) : RHead) := by
  unfold gd at hg
  have H0 := hg
  unfold F md
  try simp only [S0, MHead.rs]
  refine call_to (MKeys.r a0.fKeys) ?_ ?_
  · have R_ := Z60.R_eq (a0 := a0.fKeys) H0.1
    simp only [Z60.md] at R_
    first | exact R_ | (simp only [MP, S0, MHead.rs] at R_ ⊢; first | exact R_ | (rw [← R_]; rfl))
  try simp only [S0, MHead.rs]
  refine call_to (MKeys.r a0.fHeirs) ?_ ?_
  · have R_ := Z60.R_eq (a0 := a0.fHeirs) H0.2.1
    simp only [Z60.md] at R_
    first | exact R_ | (simp only [MP, S0, MHead.rs] at R_ ⊢; first | exact R_ | (rw [← R_]; rfl))
  try simp only [S0, MHead.rs]
  refine call_to (MKeys.r a0.fJudge) ?_ ?_
  · have R_ := Z60.R_eq (a0 := a0.fJudge) H0.2.2
    simp only [Z60.md] at R_
    first | exact R_ | (simp only [MP, S0, MHead.rs] at R_ ⊢; first | exact R_ | (rw [← R_]; rfl))
  try simp only [S0, MHead.rs]
  all_goals first | rfl | (simp only [S0, MHead.rs]; done) | (simp only [MP]; rfl) | (simp only [S0, MHead.rs, MP]; first | done | rfl)
theorem valid_ : Valid Tryz.prog Ev 134 con := VV (live := fun _ => []) (nt := 16) (run := fun _ x => F x) mix tab_ok (.cons Z60.valid_ .nil) Tryz.func134 (by kernel_rfl) (fun _ _ => by kernel_rfl) (fun _ a _ _ hg => ⟨0, okF a hg⟩)
end Z61
namespace Z62
def F (x0 : List (List L)) : Ans := (bif x0.isEmpty then (either (ret ([] : List (List L))) ((bif (lim ((x0.length : Int) * 16)) then ret (x0 : List (List L)) else none))) else (bif (lim ((x0.length : Int) * 16)) then ret (x0 : List (List L)) else none))
def pats : List Pat := [.rd (.sl 184)]
def res : RP := .one (.fr 184)
def md (a0 : List MSig) : List MSig := a0
def gd (a0 : List MSig) : Prop := SmL (2 ^ 21) (fun y : MSig => MSig.Sm (2 ^ 21) y) a0
def acc (ls : List L) : List (List L) := (ls.headD .hole).toSl
def R : (List (List L)) → Option (List (List L)) := RR gd md
theorem R_eq {a0} (h : gd a0) : R (a0.map MSig.row) = some ((md a0).map MSig.row) := RR_eq (a := a0) h
def con : Con := CN pats res acc R
theorem okF (a0 : List MSig) (hg : gd a0) : F (a0.map MSig.row) = ret (((md a0).map MSig.row) : List (List L)) := by
 have H0 := hg.1
 unfold F md
 have hl : lim (((a0.map MSig.row).length : Int) * 16) = true := lim_t (by simp only [List.length_map]; omega)
 simp only [hl, cond_true]
 cases a0 with
 | nil => exact either_same
 | cons x xs => rfl
theorem valid_ : Valid Tryz.prog Ev 191 con := VV (live := fun _ => []) (nt := 8) (run := fun _ x => F x) mix tab_ok .nil Tryz.func191 (by kernel_rfl) (fun _ _ => by kernel_rfl) (fun _ a _ _ hg => ⟨0, okF a hg⟩)
end Z62
namespace Z63
def F (x0 : RSigned) : Ans := (call (Z61.R x0.fHead) fun v1 => (call (Z62.R x0.fSigs) fun v2 => ret ((⟨v1, v2⟩ : RSigned) : RSigned)))
def pats : List Pat := [.agg [.int .i64, .int .i64, .int .i64, .int .i64, .int .i64, .int .i64, .int .i64, .int .i64, .sl 3, .int .i64, .sl 3, .int .i64, .int .i64, .sl 3, .int .i64, .bool, .sl 184]]
def res : RP := .agg [.rd (.int .i64), .rd (.int .i64), .rd (.int .i64), .rd (.int .i64), .rd (.int .i64), .rd (.int .i64), .rd (.int .i64), .rd (.int .i64), .fr 3, .rd (.int .i64), .fr 3, .rd (.int .i64), .rd (.int .i64), .fr 3, .rd (.int .i64), .rd (.bool), .fr 184]
def md (a0 : MSigned) : MSigned := a0
def gd (a0 : MSigned) : Prop := (MSigned.Sm (2 ^ 21) a0)
def acc (ls : List L) : RSigned := (RSigned.dec ls)
def R : RSigned → Option RSigned := RR gd md
theorem R_eq {a0} (h : gd a0) : R (MSigned.r a0) = some (MSigned.r (md a0)) := RR_eq (a := a0) h
def con : Con := CN pats res acc R
theorem okF (a0 : MSigned) (hg : gd a0) : F (MSigned.r a0) = ret ((MSigned.r (md a0)) : RSigned) := by
  unfold gd at hg
  have H0 := hg
  unfold F md
  try simp only [S0, MSigned.rs]
  refine call_to (MHead.r a0.fHead) ?_ ?_
  · have R_ := Z61.R_eq (a0 := a0.fHead) H0.1
    simp only [Z61.md] at R_
    first | exact R_ | (simp only [MP, S0, MSigned.rs] at R_ ⊢; first | exact R_ | (rw [← R_]; rfl))
  try simp only [S0, MSigned.rs]
  refine call_to (a0.fSigs.map MSig.row) ?_ ?_
  · have R_ := Z62.R_eq (a0 := a0.fSigs) H0.2
    simp only [Z62.md] at R_
    first | exact R_ | (simp only [MP, S0, MSigned.rs] at R_ ⊢; first | exact R_ | (rw [← R_]; rfl))
  try simp only [S0, MSigned.rs]
  all_goals first | rfl | (simp only [S0, MSigned.rs]; done) | (simp only [MP]; rfl) | (simp only [S0, MSigned.rs, MP]; first | done | rfl)
theorem valid_ : Valid Tryz.prog Ev 145 con := VV (live := fun _ => []) (nt := 10) (run := fun _ x => F x) mix tab_ok (.cons Z61.valid_ (.cons Z62.valid_ .nil)) Tryz.func145 (by kernel_rfl) (fun _ _ => by kernel_rfl) (fun _ a _ _ hg => ⟨0, okF a hg⟩)
end Z63
namespace Z64
inductive Pt where
 | p0 (a : List (List L)) (b : Int) (c : Int) (d : List (List L))
def pid : Pt → Nat
 | .p0 .. => 3
def pvs : Pt → List V
 | .p0 a b c d => [.own 0, .sl none 122 a, .int .i64 b, .int .i64 c]
def phs : Pt → List Root
 | .p0 a b c d => [.row 122 d]
def step (J : Pt → Ans) : Pt → Ans
 | .p0 a b c d => (bif (decide (c < b)) then (bif (decide ((0 : Int) ≤ c)) then (bif (decide (c < (a.length : Int))) then (call (Z63.R (RSigned.at a (Int.toNat c))) fun v1 => (bif (lim (((d.length : Int) + 1) * 200)) then J (.p0 a b (IntKind.i64.wrap (c + 1)) (d ++ [(RSigned.enc v1)])) else none)) else none) else none) else ret (d : List (List L)))
def start (J : Pt → Ans) (x0 : List (List L)) : Ans := J (.p0 x0 (x0.length : Int) 0 [])
def live : Nat → Live := fun i => match i with | 3 => [(3, some 122), (7, none), (8, none), (9, none)] | _ => []
def pats : List Pat := [.rd (.sl 122)]
def res : RP := .one (.fr 122)
abbrev E : Env := { T := assoc Tab, G := conG [(145, Z63.con)], nt := 20 }
theorem step_eq (I : Heads) (p : Pt) : enterC E live I (pid p) (bodyOf Tryz.f82) (stOf (live (pid p)) (pvs p) (phs p)) (doneK E Tryz.f82 res) = step (fun q => I (pid q) (pvs q) (phs q)) p := by
 cases p <;> kernel_rfl
theorem start_eq (I : Heads) (ls : List L) : runC E live I (bodyOf Tryz.f82) (initS pats ls) (doneK E Tryz.f82 res) = start (fun q => I (pid q) (pvs q) (phs q)) (ls.headD .hole).toSl := by kernel_rfl
theorem run_eq (n : Nat) (ls : List L) : runF E live Tryz.f82 res n (initS pats ls) = start (iter step n) (ls.headD .hole).toSl := runF_iter (id := pid) (vs := pvs) (hs := phs) (step := step) (start := fun J => start J (ls.headD .hole).toSl) step_eq (fun I => start_eq I ls) n
def md (a0 : List MSigned) : List MSigned := a0
def gd (a0 : List MSigned) : Prop := (SmL (2 ^ 21) (fun y : MSigned => MSigned.Sm (2 ^ 21) y) a0)
def acc (ls : List L) : List (List L) := (ls.headD .hole).toSl
def R : (List (List L)) → Option (List (List L)) := RR gd md
theorem R_eq {a0} (h : gd a0) : R (a0.map MSigned.row) = some ((md a0).map MSigned.row) := RR_eq (a := a0) h
def con : Con := CN pats res acc R
theorem okF (a0 : List MSigned) (hg : gd a0) : ∃ n, start (iter step n) (a0.map MSigned.row) = ret (((md a0).map MSigned.row) : List (List L)) := by
  unfold gd at hg
  have H0 := hg
  unfold start md
  try simp only [S0, MSigned.rs]
  have Bh2 : a0.length ≤ maxLen := (by
      have := (H0).1
      try simp only [maxLen] at *
      omega)
  refine ex_eq (out := (fun b : List MSigned => ret ((b.map MSigned.row) : List (List L)))) (loopM_copy (xs := a0) (z := MSigned.zero) (t := fun s3 : List MSigned => s3)) ?_
  refine ex_pt (p := Pt.p0 (a0.map MSigned.row) (a0.length : Int) 0 ([].map MSigned.row)) (by first | rfl | (simp only [S0, MSigned.rs, MP]; done) | (simp only [MP]; rfl)) ?_
  refine loopM_ok (pt := fun (i1 : Nat) (s3 : List MSigned) => Pt.p0 (a0.map MSigned.row) (a0.length : Int) (i1 : Int) (s3.map MSigned.row)) (s := ([] : List MSigned)) (out := (fun b : List MSigned => ret ((b.map MSigned.row) : List (List L)))) (fun (i1 : Nat) (s3 : List MSigned) => s3.length ≤ ([] : List Int).length + 1 * i1) (fun J i1 s3 h2 hih2 => ?_) (fun s3 hih2 => ?_) (by simp)
  · simp only [step, S0, MSigned.rs]
    have gr_ := hih2
    try simp only [LN] at gr_
    have bb_ := Bh2
    simp only [maxLen] at bb_
    have := (H0).1
    refine Rnd.yes (by apply decide_eq_true; omega) ?_
    refine Rnd.yes zle_dec ?_
    refine Rnd.yes (lt_dec h2) ?_
    refine Rnd.call_to (MSigned.r (a0.getD i1 MSigned.zero)) ?_ ?_
    · have R_ := Z63.R_eq (a0 := (a0.getD i1 MSigned.zero)) (SmL.getD (z := MSigned.zero) H0 h2)
      simp only [Z63.md] at R_
      first | exact R_ | (simp only [MP, S0, MSigned.rs] at R_ ⊢; first | exact R_ | (rw [← R_]; rfl))
    try simp only [S0, MSigned.rs]
    refine Rnd.yes (by
        refine lim_t ?_
        try simp (disch := omega) only [LN, wi]
        first | omega | (simp; done) | (simp; omega)) ?_
    refine Rnd.inl (by
        have g_ := hih2
        try simp only [LN] at g_ ⊢
        first | omega | (simp; done) | (simp; omega)) ?_
    rw [wrap_succ h2 Bh2]
    all_goals first | rfl | (simp only [S0, MSigned.rs]; done) | (simp only [MP]; rfl) | (simp only [S0, MSigned.rs, MP]; first | done | rfl)
  · simp only [step, S0, MSigned.rs]
    have gr_ := hih2
    try simp only [LN] at gr_
    have := (H0).1
    refine ex_no (by apply decide_eq_false; omega) ?_
    refine ⟨0, ?_⟩
    all_goals first | rfl | (simp only [S0, MSigned.rs]; done) | (simp only [MP]; rfl) | (simp only [S0, MSigned.rs, MP]; first | done | rfl)
theorem valid_ : Valid Tryz.prog Ev 82 con := VV (run := fun n x => start (iter step n) x) mix tab_ok (.cons Z63.valid_ .nil) Tryz.func82 (by kernel_rfl) run_eq (fun _ a _ _ hg => okF a hg)
end Z64
namespace Z65
def F (x0 : RFork) : Ans := (call (Z63.R x0.fBefore) fun v1 => (call (Z63.R x0.fA) fun v2 => (call (Z63.R x0.fB) fun v3 => ret ((⟨v1, v2, v3⟩ : RFork) : RFork))))
def pats : List Pat := [.agg [.int .i64, .int .i64, .int .i64, .int .i64, .int .i64, .int .i64, .int .i64, .int .i64, .sl 3, .int .i64, .sl 3, .int .i64, .int .i64, .sl 3, .int .i64, .bool, .sl 184, .int .i64, .int .i64, .int .i64, .int .i64, .int .i64, .int .i64, .int .i64, .int .i64, .sl 3, .int .i64, .sl 3, .int .i64, .int .i64, .sl 3, .int .i64, .bool, .sl 184, .int .i64, .int .i64, .int .i64, .int .i64, .int .i64, .int .i64, .int .i64, .int .i64, .sl 3, .int .i64, .sl 3, .int .i64, .int .i64, .sl 3, .int .i64, .bool, .sl 184]]
def res : RP := .agg [.rd (.int .i64), .rd (.int .i64), .rd (.int .i64), .rd (.int .i64), .rd (.int .i64), .rd (.int .i64), .rd (.int .i64), .rd (.int .i64), .fr 3, .rd (.int .i64), .fr 3, .rd (.int .i64), .rd (.int .i64), .fr 3, .rd (.int .i64), .rd (.bool), .fr 184, .rd (.int .i64), .rd (.int .i64), .rd (.int .i64), .rd (.int .i64), .rd (.int .i64), .rd (.int .i64), .rd (.int .i64), .rd (.int .i64), .fr 3, .rd (.int .i64), .fr 3, .rd (.int .i64), .rd (.int .i64), .fr 3, .rd (.int .i64), .rd (.bool), .fr 184, .rd (.int .i64), .rd (.int .i64), .rd (.int .i64), .rd (.int .i64), .rd (.int .i64), .rd (.int .i64), .rd (.int .i64), .rd (.int .i64), .fr 3, .rd (.int .i64), .fr 3, .rd (.int .i64), .rd (.int .i64), .fr 3, .rd (.int .i64), .rd (.bool), .fr 184]
def md (a0 : MFork) : MFork := a0
def gd (a0 : MFork) : Prop := (MFork.Sm (2 ^ 21) a0)
def acc (ls : List L) : RFork := (RFork.dec ls)
def R : RFork → Option RFork := RR gd md
theorem R_eq {a0} (h : gd a0) : R (MFork.r a0) = some (MFork.r (md a0)) := RR_eq (a := a0) h
def con : Con := CN pats res acc R
theorem okF (a0 : MFork) (hg : gd a0) : F (MFork.r a0) = ret ((MFork.r (md a0)) : RFork) := by
  unfold gd at hg
  have H0 := hg
  unfold F md
  try simp only [S0, MFork.rs]
  refine call_to (MSigned.r a0.fBefore) ?_ ?_
  · have R_ := Z63.R_eq (a0 := a0.fBefore) H0.1
    simp only [Z63.md] at R_
    first | exact R_ | (simp only [MP, S0, MFork.rs] at R_ ⊢; first | exact R_ | (rw [← R_]; rfl))
  try simp only [S0, MFork.rs]
  refine call_to (MSigned.r a0.fA) ?_ ?_
  · have R_ := Z63.R_eq (a0 := a0.fA) H0.2.1
    simp only [Z63.md] at R_
    first | exact R_ | (simp only [MP, S0, MFork.rs] at R_ ⊢; first | exact R_ | (rw [← R_]; rfl))
  try simp only [S0, MFork.rs]
  refine call_to (MSigned.r a0.fB) ?_ ?_
  · have R_ := Z63.R_eq (a0 := a0.fB) H0.2.2
    simp only [Z63.md] at R_
    first | exact R_ | (simp only [MP, S0, MFork.rs] at R_ ⊢; first | exact R_ | (rw [← R_]; rfl))
  try simp only [S0, MFork.rs]
  all_goals first | rfl | (simp only [S0, MFork.rs]; done) | (simp only [MP]; rfl) | (simp only [S0, MFork.rs, MP]; first | done | rfl)
theorem valid_ : Valid Tryz.prog Ev 143 con := VV (live := fun _ => []) (nt := 13) (run := fun _ x => F x) mix tab_ok (.cons Z63.valid_ .nil) Tryz.func143 (by kernel_rfl) (fun _ _ => by kernel_rfl) (fun _ a _ _ hg => ⟨0, okF a hg⟩)
end Z65
namespace Z66
inductive Pt where
 | p0 (a : List (List L)) (b : Int) (c : Int) (d : RKnown) (e : List (List L))
 | p1 (a : List (List L)) (b : Int) (c : Int) (d : List (List L)) (e : List (List L))
def pid : Pt → Nat
 | .p0 .. => 3
 | .p1 .. => 8
def pvs : Pt → List V
 | .p0 a b c d e => [.bptr 0 0, .bptr 1 0, .bptr 2 0, .sl none 38 a, .int .i64 b, .int .i64 c, .bptr 2 0]
 | .p1 a b c d e => [.bptr 0 0, .bptr 1 0, .sl none 134 a, .int .i64 b, .int .i64 c, .bptr 1 0, .bptr 1 0]
def phs : Pt → List Root
 | .p0 a b c d e => [.box [.sl none 38 d.fChains, .sl none 134 d.fForks], .box [.nil, .nil], .box [.own 3, .nil], .row 38 e]
 | .p1 a b c d e => [.box [.nil, .nil], .box [.own 2, .own 3], .row 38 d, .row 134 e]
def step (J : Pt → Ans) : Pt → Ans
 | .p0 a b c d e => (bif (decide (c < b)) then (bif (decide ((0 : Int) ≤ c)) then (bif (decide (c < (a.length : Int))) then (call (Z64.R (lAt a (Int.toNat c))) fun v1 => (bif (lim (((e.length : Int) + 1) * 24)) then J (.p0 a b (IntKind.i64.wrap (c + 1)) d (e ++ [[L.sl v1]])) else none)) else none) else none) else J (.p1 d.fForks (d.fForks.length : Int) 0 e []))
 | .p1 a b c d e => (bif (decide (c < b)) then (bif (decide ((0 : Int) ≤ c)) then (bif (decide (c < (a.length : Int))) then (call (Z65.R (RFork.at a (Int.toNat c))) fun v1 => (bif (lim (((e.length : Int) + 1) * 600)) then J (.p1 a b (IntKind.i64.wrap (c + 1)) d (e ++ [(RFork.enc v1)])) else none)) else none) else none) else ret ((⟨d, e⟩ : RKnown) : RKnown))
def start (J : Pt → Ans) (x0 : RKnown) : Ans := J (.p0 x0.fChains (x0.fChains.length : Int) 0 x0 [])
def live : Nat → Live := fun i => match i with | 3 => [(1, none), (2, none), (3, none), (10, none), (11, none), (12, none), (3, some 38)] | 8 => [(2, none), (3, none), (25, none), (26, none), (27, none), (3, some 38), (3, some 1048710)] | _ => []
def pats : List Pat := [.agg [.sl 38, .sl 134]]
def res : RP := .agg [.fr 38, .fr 134]
abbrev E : Env := { T := assoc Tab, G := conG [(82, Z64.con), (143, Z65.con)], nt := 40 }
theorem step_eq (I : Heads) (p : Pt) : enterC E live I (pid p) (bodyOf Tryz.f80) (stOf (live (pid p)) (pvs p) (phs p)) (doneK E Tryz.f80 res) = step (fun q => I (pid q) (pvs q) (phs q)) p := by
 cases p <;> kernel_rfl
theorem start_eq (I : Heads) (ls : List L) : runC E live I (bodyOf Tryz.f80) (initS pats ls) (doneK E Tryz.f80 res) = start (fun q => I (pid q) (pvs q) (phs q)) (RKnown.dec ls) := by kernel_rfl
theorem run_eq (n : Nat) (ls : List L) : runF E live Tryz.f80 res n (initS pats ls) = start (iter step n) (RKnown.dec ls) := runF_iter (id := pid) (vs := pvs) (hs := phs) (step := step) (start := fun J => start J (RKnown.dec ls)) step_eq (fun I => start_eq I ls) n
def md (a0 : MKnown) : MKnown := a0
def gd (a0 : MKnown) : Prop := (MKnown.Sm (2 ^ 21) a0)
def acc (ls : List L) : RKnown := (RKnown.dec ls)
def R : RKnown → Option RKnown := RR gd md
theorem R_eq {a0} (h : gd a0) : R (MKnown.r a0) = some (MKnown.r (md a0)) := RR_eq (a := a0) h
def con : Con := CN pats res acc R
theorem okF (a0 : MKnown) (hg : gd a0) : ∃ n, start (iter step n) (MKnown.r a0) = ret ((MKnown.r (md a0)) : RKnown) := by
  unfold gd at hg
  have H0 := hg
  unfold start md
  try simp only [S0, MFork.rs, MKnown.rs]
  have Bh2 : a0.fChains.length ≤ maxLen := (by
      have := (H0.1).1
      try simp only [maxLen] at *
      omega)
  refine ex_eq (out := (fun b : MKnown => ret ((MKnown.r b) : RKnown))) (loopM_copy (xs := a0.fChains) (z := []) (t := fun s3 : List (List MSigned) => (⟨s3, a0.fForks⟩ : MKnown))) ?_
  refine ex_pt (p := Pt.p0 (a0.fChains.map (lRow MSigned.row)) (a0.fChains.length : Int) 0 (MKnown.r a0) ([].map (lRow MSigned.row))) (by first | rfl | (simp only [S0, MFork.rs, MKnown.rs, MP]; done) | (simp only [MP]; rfl)) ?_
  refine loopM_ok (pt := fun (i1 : Nat) (s3 : List (List MSigned)) => Pt.p0 (a0.fChains.map (lRow MSigned.row)) (a0.fChains.length : Int) (i1 : Int) (MKnown.r a0) (s3.map (lRow MSigned.row))) (s := ([] : List (List MSigned))) (out := (fun b : MKnown => ret ((MKnown.r b) : RKnown))) (fun (i1 : Nat) (s3 : List (List MSigned)) => s3.length ≤ ([] : List Int).length + 1 * i1) (fun J i1 s3 h2 hih2 => ?_) (fun s3 hih2 => ?_) (by simp)
  · simp only [step, S0, MFork.rs, MKnown.rs]
    have gr_ := hih2
    try simp only [LN] at gr_
    have bb_ := Bh2
    simp only [maxLen] at bb_
    have := (H0.1).1
    refine Rnd.yes (by apply decide_eq_true; omega) ?_
    refine Rnd.yes zle_dec ?_
    refine Rnd.yes (lt_dec h2) ?_
    refine Rnd.call_to ((a0.fChains.getD i1 []).map MSigned.row) ?_ ?_
    · have R_ := Z64.R_eq (a0 := (a0.fChains.getD i1 [])) (SmL.getD (z := []) H0.1 h2)
      simp only [Z64.md] at R_
      first | exact R_ | (simp only [MP, S0, MFork.rs, MKnown.rs] at R_ ⊢; first | exact R_ | (rw [← R_]; rfl))
    try simp only [S0, MFork.rs, MKnown.rs]
    refine Rnd.yes (by
        refine lim_t ?_
        try simp (disch := omega) only [LN, wi]
        first | omega | (simp; done) | (simp; omega)) ?_
    refine Rnd.inl (by
        have g_ := hih2
        try simp only [LN] at g_ ⊢
        first | omega | (simp; done) | (simp; omega)) ?_
    rw [wrap_succ h2 Bh2]
    all_goals first | rfl | (simp only [S0, MFork.rs, MKnown.rs]; done) | (simp only [MP]; rfl) | (simp only [S0, MFork.rs, MKnown.rs, MP]; first | done | rfl) | (simp only [MKnown.r, S0, MFork.rs, MKnown.rs, MP]; first | done | rfl)
  · simp only [step, S0, MFork.rs, MKnown.rs]
    have gr_ := hih2
    try simp only [LN] at gr_
    have := (H0.1).1
    refine ex_no (by apply decide_eq_false; omega) ?_
    have Bh5 : a0.fForks.length ≤ maxLen := (by
        have := (H0.2).1
        try simp only [maxLen] at *
        omega)
    refine ex_eq (out := (fun b : MKnown => ret ((MKnown.r b) : RKnown))) (loopM_copy (xs := a0.fForks) (z := MFork.zero) (t := fun s6 : List MFork => (⟨s3, s6⟩ : MKnown))) ?_
    refine ex_pt (p := Pt.p1 (a0.fForks.map MFork.row) (a0.fForks.length : Int) 0 (s3.map (lRow MSigned.row)) ([].map MFork.row)) (by first | rfl | (simp only [S0, MFork.rs, MKnown.rs, MP]; done) | (simp only [MP]; rfl)) ?_
    refine loopM_ok (pt := fun (i4 : Nat) (s6 : List MFork) => Pt.p1 (a0.fForks.map MFork.row) (a0.fForks.length : Int) (i4 : Int) (s3.map (lRow MSigned.row)) (s6.map MFork.row)) (s := ([] : List MFork)) (out := (fun b : MKnown => ret ((MKnown.r b) : RKnown))) (fun (i4 : Nat) (s6 : List MFork) => s6.length ≤ ([] : List Int).length + 1 * i4) (fun J i4 s6 h5 hih5 => ?_) (fun s6 hih5 => ?_) (by simp)
    · simp only [step, S0, MFork.rs, MKnown.rs]
      have gr_ := hih5
      try simp only [LN] at gr_
      have bb_ := Bh5
      simp only [maxLen] at bb_
      have := (H0.2).1
      refine Rnd.yes (by apply decide_eq_true; omega) ?_
      refine Rnd.yes zle_dec ?_
      refine Rnd.yes (lt_dec h5) ?_
      refine Rnd.call_to (MFork.r (a0.fForks.getD i4 MFork.zero)) ?_ ?_
      · have R_ := Z65.R_eq (a0 := (a0.fForks.getD i4 MFork.zero)) (SmL.getD (z := MFork.zero) H0.2 h5)
        simp only [Z65.md] at R_
        first | exact R_ | (simp only [MP, S0, MFork.rs, MKnown.rs] at R_ ⊢; first | exact R_ | (rw [← R_]; rfl))
      try simp only [S0, MFork.rs, MKnown.rs]
      refine Rnd.yes (by
          refine lim_t ?_
          try simp (disch := omega) only [LN, wi]
          first | omega | (simp; done) | (simp; omega)) ?_
      refine Rnd.inl (by
          have g_ := hih5
          try simp only [LN] at g_ ⊢
          first | omega | (simp; done) | (simp; omega)) ?_
      rw [wrap_succ h5 Bh5]
      all_goals first | rfl | (simp only [S0, MFork.rs, MKnown.rs]; done) | (simp only [MP]; rfl) | (simp only [S0, MFork.rs, MKnown.rs, MP]; first | done | rfl) | (simp only [MKnown.r, S0, MFork.rs, MKnown.rs, MP]; first | done | rfl)
    · simp only [step, S0, MFork.rs, MKnown.rs]
      have gr_ := hih5
      try simp only [LN] at gr_
      have := (H0.2).1
      refine ex_no (by apply decide_eq_false; omega) ?_
      refine ⟨0, ?_⟩
      all_goals first | rfl | (simp only [S0, MFork.rs, MKnown.rs]; done) | (simp only [MP]; rfl) | (simp only [S0, MFork.rs, MKnown.rs, MP]; first | done | rfl) | (simp only [MKnown.r, S0, MFork.rs, MKnown.rs, MP]; first | done | rfl)
theorem valid_ : Valid Tryz.prog Ev 80 con := VV (run := fun n x => start (iter step n) x) mix tab_ok (.cons Z64.valid_ (.cons Z65.valid_ .nil)) Tryz.func80 (by kernel_rfl) run_eq (fun _ a _ _ hg => okF a hg)
end Z66
namespace Z67
def F (x0 : Int) (x1 : Int) (x2 : Int) : Ans := (bif (decide (x1 ≤ x0)) then ret ((decide (x0 ≤ x2)) : Bool) else ret (false : Bool))
def pats : List Pat := [.rd (.int .i64), .rd (.int .i64), .rd (.int .i64)]
def res : RP := .one (.rd (.bool))
def md (a0 : Int) (a1 : Int) (a2 : Int) : Bool := (bif (decide (a1 ≤ a0)) then ((decide (a0 ≤ a2)) : Bool) else (false : Bool))
def gd (a0 : Int) (a1 : Int) (a2 : Int) : Prop := True
def acc (ls : List L) : Int × Int × Int := ((ls.headD .hole).toInt, ((dropT 1 ls).headD .hole).toInt, ((dropT 2 ls).headD .hole).toInt)
def R : (Int × Int × Int) → Option Bool := RR (p3 gd) (u3 md)
theorem R_eq {a0} {a1} {a2} (h : gd a0 a1 a2) : R (a0, a1, a2) = some (md a0 a1 a2) := RR_eq (a := (a0, a1, a2)) h
def con : Con := CN pats res acc R
theorem okF (a0 : Int) (a1 : Int) (a2 : Int) (hg : gd a0 a1 a2) : F a0 a1 a2 = ret ((md a0 a1 a2) : Bool) := by
 unfold F md
 try simp only [S0]
 refine bif_out ret (fun c1 => ?_) (fun _ => rfl)
 all_goals first | rfl | (simp only [S0, MP]; first | done | rfl)
theorem valid_ : Valid Tryz.prog Ev 177 con := VV (live := fun _ => []) (nt := 15) (run := fun _ x => F x.1 x.2.1 x.2.2) mix tab_ok .nil Tryz.func177 (by kernel_rfl) (fun _ _ => by kernel_rfl) (fun _ a _ _ hg => ⟨0, okF a.1 a.2.1 a.2.2 hg⟩)
theorem br (a0 : Int) (a1 : Int) (a2 : Int) : md a0 a1 a2 = Z27.md a0 a1 a2 := by
 unfold md Z27.md
 first | rfl | (rw [Bool.eq_iff_iff]; simp)
end Z67
namespace Z68
def F (x0 : Int) : Ans := (call (Z67.R (x0, 0, 2147483646)) fun v1 => ret (v1 : Bool))
def pats : List Pat := [.rd (.int .i64)]
def res : RP := .one (.rd (.bool))
def md (a0 : Int) : Bool := ((Z67.md a0 0 2147483646) : Bool)
def gd (a0 : Int) : Prop := True
def acc (ls : List L) : Int := (ls.headD .hole).toInt
def R : Int → Option Bool := RR gd md
theorem R_eq {a0} (h : gd a0) : R a0 = some (md a0) := RR_eq (a := a0) h
def con : Con := CN pats res acc R
theorem okF (a0 : Int) (hg : gd a0) : F a0 = ret ((md a0) : Bool) := by
 unfold F md
 try simp only [S0]
 refine call_to (Z67.md a0 0 2147483646) (Z67.R_eq (a0 := a0) (a1 := 0) (a2 := 2147483646) trivial) ?_
 all_goals first | rfl | (simp only [S0, MP]; first | done | rfl)
theorem valid_ : Valid Tryz.prog Ev 122 con := VV (live := fun _ => []) (nt := 5) (run := fun _ x => F x) mix tab_ok (.cons Z67.valid_ .nil) Tryz.func122 (by kernel_rfl) (fun _ _ => by kernel_rfl) (fun _ a _ _ hg => ⟨0, okF a hg⟩)
end Z68
namespace Z69
def F (x0 : RHead) : Ans := (bif (decide (x0.fTime ≥ 0)) then (bif (decide (x0.fTime ≤ x0.fUntil)) then (bif (decide (x0.fUntil ≤ 100000)) then ret ((decide ((IntKind.i64.wrap (x0.fUntil - x0.fTime)) ≤ 200)) : Bool) else ret (false : Bool)) else ret (false : Bool)) else ret (false : Bool))
def pats : List Pat := [.agg [.int .i64, .int .i64, .int .i64, .int .i64, .int .i64, .int .i64, .int .i64, .int .i64, .sl 3, .int .i64, .sl 3, .int .i64, .int .i64, .sl 3, .int .i64, .bool]]
def res : RP := .one (.rd (.bool))
def md (a0 : MHead) : Bool := (bif (decide (a0.fTime ≥ 0)) then (bif (decide (a0.fTime ≤ a0.fUntil)) then (bif (decide (a0.fUntil ≤ 100000)) then ((decide ((IntKind.i64.wrap (a0.fUntil - a0.fTime)) ≤ 200)) : Bool) else (false : Bool)) else (false : Bool)) else (false : Bool))
def gd (a0 : MHead) : Prop := True
def acc (ls : List L) : RHead := (RHead.dec ls)
def R : RHead → Option Bool := RR gd md
theorem R_eq {a0} (h : gd a0) : R (MHead.r a0) = some (md a0) := RR_eq (a := a0) h
def con : Con := CN pats res acc R
theorem okF (a0 : MHead) (hg : gd a0) : F (MHead.r a0) = ret ((md a0) : Bool) := by
 unfold F md
 try simp only [S0, MHead.rs]
 refine bif_out ret (fun c1 => ?_) (fun _ => rfl)
 refine bif_out ret (fun c2 => ?_) (fun _ => rfl)
 refine bif_out ret (fun c3 => ?_) (fun _ => rfl)
 all_goals first | rfl | (simp only [S0, MHead.rs, MP]; first | done | rfl)
theorem valid_ : Valid Tryz.prog Ev 275 con := VV (live := fun _ => []) (nt := 26) (run := fun _ x => F x) mix tab_ok .nil Tryz.func275 (by kernel_rfl) (fun _ _ => by kernel_rfl) (fun _ a _ _ hg => ⟨0, okF a hg⟩)
end Z69
namespace Z70
inductive Pt where
 | p0 (a : List (List L)) (b : Int) (c : Int)
def pid : Pt → Nat
 | .p0 .. => 2
def pvs : Pt → List V
 | .p0 a b c => [.sl none 3 a, .int .i64 b, .int .i64 c]
def phs : Pt → List Root
 | .p0 a b c => []
def step (J : Pt → Ans) : Pt → Ans
 | .p0 a b c => (bif (decide (c < b)) then (bif (decide (c > 0)) then (bif (decide ((0 : Int) ≤ c)) then (bif (decide (c < (a.length : Int))) then (bif (decide ((0 : Int) ≤ (IntKind.i64.wrap (c - 1)))) then (bif (decide ((IntKind.i64.wrap (c - 1)) < (a.length : Int))) then (bif (decide ((iAt a (Int.toNat c)) ≤ (iAt a (Int.toNat (IntKind.i64.wrap (c - 1)))))) then ret (false : Bool) else J (.p0 a b (IntKind.i64.wrap (c + 1)))) else none) else none) else none) else none) else J (.p0 a b (IntKind.i64.wrap (c + 1)))) else ret (true : Bool))
def start (J : Pt → Ans) (x0 : List (List L)) : Ans := J (.p0 x0 (x0.length : Int) 0)
def live : Nat → Live := fun i => match i with | 2 => [(0, none), (5, none), (6, none)] | _ => []
def pats : List Pat := [.rd (.sl 3)]
def res : RP := .one (.rd (.bool))
abbrev E : Env := { T := assoc Tab, G := conG [], nt := 24 }
theorem step_eq (I : Heads) (p : Pt) : enterC E live I (pid p) (bodyOf Tryz.f302) (stOf (live (pid p)) (pvs p) (phs p)) (doneK E Tryz.f302 res) = step (fun q => I (pid q) (pvs q) (phs q)) p := by
 cases p <;> kernel_rfl
theorem start_eq (I : Heads) (ls : List L) : runC E live I (bodyOf Tryz.f302) (initS pats ls) (doneK E Tryz.f302 res) = start (fun q => I (pid q) (pvs q) (phs q)) (ls.headD .hole).toSl := by kernel_rfl
theorem run_eq (n : Nat) (ls : List L) : runF E live Tryz.f302 res n (initS pats ls) = start (iter step n) (ls.headD .hole).toSl := runF_iter (id := pid) (vs := pvs) (hs := phs) (step := step) (start := fun J => start J (ls.headD .hole).toSl) step_eq (fun I => start_eq I ls) n
def md (a0 : List Int) : Bool := (eachI (S := Unit) (β := Bool) (fun (i1 : Nat) (y1 : Int) (s3 : Unit) => (bif (decide ((i1 : Int) > 0)) then (bif (decide (y1 ≤ (a0.getD (Int.toNat (IntKind.i64.wrap ((i1 : Int) - 1))) 0))) then (.inr (false : Bool)) else (.inl ())) else (.inl ()))) (fun (s3 : Unit) => (true : Bool)) 0 a0 ())
def gd (a0 : List Int) : Prop := (SmL (2 ^ 38) (fun y : Int => True) a0)
def acc (ls : List L) : List (List L) := (ls.headD .hole).toSl
def R : (List (List L)) → Option Bool := RR gd md
theorem R_eq {a0} (h : gd a0) : R (a0.map iRow) = some (md a0) := RR_eq (a := a0) h
def con : Con := CN pats res acc R
theorem okF (a0 : List Int) (hg : gd a0) : ∃ n, start (iter step n) (a0.map iRow) = ret ((md a0) : Bool) := by
  unfold gd at hg
  have H0 := hg
  unfold start md
  try simp only [S0]
  have Bh2 : a0.length ≤ maxLen := (by
      have := (H0).1
      try simp only [maxLen] at *
      omega)
  refine ex_eq (out := ret) (loopM_eachI (z := 0)) ?_
  refine ex_pt (p := Pt.p0 (a0.map iRow) (a0.length : Int) 0) (by first | rfl | (simp only [S0, MP]; done) | (simp only [MP]; rfl)) ?_
  refine loopM_ok (pt := fun (i1 : Nat) (s3 : Unit) => Pt.p0 (a0.map iRow) (a0.length : Int) (i1 : Int)) (s := (() : Unit)) (out := ret) (fun _ _ => True) (fun J i1 s3 h2 hih2 => ?_) (fun s3 hih2 => ?_) trivial
  · simp only [step, S0]
    have bb_ := Bh2
    simp only [maxLen] at bb_
    have := (H0).1
    refine Rnd.yes (by apply decide_eq_true; omega) ?_
    refine Rnd.bif (fun c4 => ?_) (fun c4 => ?_)
    · have dc4 := c4
      try simp only [DC] at dc4
      refine Rnd.yes zle_dec ?_
      refine Rnd.yes (lt_dec h2) ?_
      refine Rnd.yes (by
          refine decide_eq_true ?_
          try simp (disch := omega) only [LN, wi]
          first | omega | (simp; done) | (simp; omega)) ?_
      refine Rnd.yes (by
          have := (H0).1
          refine decide_eq_true ?_
          try simp (disch := omega) only [LN, wi]
          first | omega | (simp; done) | (simp; omega)) ?_
      refine Rnd.bif (fun _ => Rnd.inr rfl) (fun c5 => ?_)
      refine Rnd.inl trivial ?_
      rw [wrap_succ h2 Bh2]
      all_goals first | rfl | (simp only [S0, MP]; first | done | rfl)
    · refine Rnd.inl trivial ?_
      rw [wrap_succ h2 Bh2]
      all_goals first | rfl | (simp only [S0, MP]; first | done | rfl)
  · simp only [step, S0]
    have := (H0).1
    refine ex_no (by apply decide_eq_false; omega) ?_
    refine ⟨0, ?_⟩
    all_goals first | rfl | (simp only [S0, MP]; first | done | rfl)
theorem valid_ : Valid Tryz.prog Ev 302 con := VV (run := fun n x => start (iter step n) x) mix tab_ok .nil Tryz.func302 (by kernel_rfl) run_eq (fun _ a _ _ hg => okF a hg)
end Z70
namespace Z71
def F (x0 : Int) : Ans := (call (Z67.R (x0, 1, 99)) fun v1 => ret (v1 : Bool))
def pats : List Pat := [.rd (.int .i64)]
def res : RP := .one (.rd (.bool))
def md (a0 : Int) : Bool := ((Z67.md a0 1 99) : Bool)
def gd (a0 : Int) : Prop := True
def acc (ls : List L) : Int := (ls.headD .hole).toInt
def R : Int → Option Bool := RR gd md
theorem R_eq {a0} (h : gd a0) : R a0 = some (md a0) := RR_eq (a := a0) h
def con : Con := CN pats res acc R
theorem okF (a0 : Int) (hg : gd a0) : F a0 = ret ((md a0) : Bool) := by
 unfold F md
 try simp only [S0]
 refine call_to (Z67.md a0 1 99) (Z67.R_eq (a0 := a0) (a1 := 1) (a2 := 99) trivial) ?_
 all_goals first | rfl | (simp only [S0, MP]; first | done | rfl)
theorem valid_ : Valid Tryz.prog Ev 303 con := VV (live := fun _ => []) (nt := 5) (run := fun _ x => F x) mix tab_ok (.cons Z67.valid_ .nil) Tryz.func303 (by kernel_rfl) (fun _ _ => by kernel_rfl) (fun _ a _ _ hg => ⟨0, okF a hg⟩)
end Z71
namespace Z72
def F (x0 : RKeys) : Ans := (call (Z67.R ((x0.fList.length : Int), 1, 4)) fun v1 => (bif v1 then (call (Z70.R x0.fList) fun v2 => (bif v2 then (bif (decide ((0 : Int) < (x0.fList.length : Int))) then (call (Z71.R (iAt x0.fList 0)) fun v3 => (bif v3 then (bif (decide ((0 : Int) ≤ (IntKind.i64.wrap ((x0.fList.length : Int) - 1)))) then (bif (decide ((IntKind.i64.wrap ((x0.fList.length : Int) - 1)) < (x0.fList.length : Int))) then (call (Z71.R (iAt x0.fList (Int.toNat (IntKind.i64.wrap ((x0.fList.length : Int) - 1))))) fun v4 => (bif v4 then (call (Z67.R (x0.fNeed, 1, (x0.fList.length : Int))) fun v5 => ret (v5 : Bool)) else ret (false : Bool))) else none) else none) else ret (false : Bool))) else none) else ret (false : Bool))) else ret (false : Bool)))
def pats : List Pat := [.agg [.sl 3, .int .i64]]
def res : RP := .one (.rd (.bool))
def md (a0 : MKeys) : Bool := (bif (Z67.md (a0.fList.length : Int) 1 4) then (bif (Z70.md a0.fList) then (bif (Z71.md (a0.fList.getD 0 0)) then (bif (Z71.md (a0.fList.getD (Int.toNat (IntKind.i64.wrap ((a0.fList.length : Int) - 1))) 0)) then ((Z67.md a0.fNeed 1 (a0.fList.length : Int)) : Bool) else (false : Bool)) else (false : Bool)) else (false : Bool)) else (false : Bool))
def gd (a0 : MKeys) : Prop := (MKeys.Sm (2 ^ 21) a0)
def acc (ls : List L) : RKeys := (RKeys.dec ls)
def R : RKeys → Option Bool := RR gd md
theorem R_eq {a0} (h : gd a0) : R (MKeys.r a0) = some (md a0) := RR_eq (a := a0) h
def con : Con := CN pats res acc R
theorem okF (a0 : MKeys) (hg : gd a0) : F (MKeys.r a0) = ret ((md a0) : Bool) := by
 unfold gd at hg
 have H0 := hg
 unfold F md
 try simp only [S0, MKeys.rs]
 refine call_to (Z67.md (a0.fList.length : Int) 1 4) (Z67.R_eq (a0 := (a0.fList.length : Int)) (a1 := 1) (a2 := 4) trivial) ?_
 refine bif_out ret (fun c1 => ?_) (fun _ => rfl)
 have Dc1 := c1
 try simp [Z67.md] at Dc1
 refine call_to (Z70.md a0.fList) (Z70.R_eq (a0 := a0.fList) (H0.mono (by decide) (fun x hx => trivial))) ?_
 refine bif_out ret (fun c2 => ?_) (fun _ => rfl)
 refine yes_ret (by
   have := (H0).1
   refine decide_eq_true ?_
   try simp (disch := omega) only [LN, wi]
   first | omega | (simp; done) | (simp; omega)) ?_
 refine call_to (Z71.md (a0.fList.getD 0 0)) (Z71.R_eq (a0 := (a0.fList.getD 0 0)) trivial) ?_
 refine bif_out ret (fun c3 => ?_) (fun _ => rfl)
 refine yes_ret (by
   have := (H0).1
   refine decide_eq_true ?_
   try simp (disch := omega) only [LN, wi]
   first | omega | (simp; done) | (simp; omega)) ?_
 refine yes_ret (by
   have := (H0).1
   refine decide_eq_true ?_
   try simp (disch := omega) only [LN, wi]
   first | omega | (simp; done) | (simp; omega)) ?_
 refine call_to (Z71.md (a0.fList.getD (Int.toNat (IntKind.i64.wrap ((a0.fList.length : Int) - 1))) 0)) (Z71.R_eq (a0 := (a0.fList.getD (Int.toNat (IntKind.i64.wrap ((a0.fList.length : Int) - 1))) 0)) trivial) ?_
 refine bif_out ret (fun c4 => ?_) (fun _ => rfl)
 refine call_to (Z67.md a0.fNeed 1 (a0.fList.length : Int)) (Z67.R_eq (a0 := a0.fNeed) (a1 := 1) (a2 := (a0.fList.length : Int)) trivial) ?_
 all_goals first | rfl | (simp only [S0, MKeys.rs, MP]; first | done | rfl)
theorem valid_ : Valid Tryz.prog Ev 276 con := VV (live := fun _ => []) (nt := 38) (run := fun _ x => F x) mix tab_ok (.cons Z67.valid_ (.cons Z70.valid_ (.cons Z71.valid_ .nil))) Tryz.func276 (by kernel_rfl) (fun _ _ => by kernel_rfl) (fun _ a _ _ hg => ⟨0, okF a hg⟩)
-- uses Z28
theorem asc {l : List Int} (h : ∀ i : Nat, i < l.length → 0 < i → l.getD (i - 1) 0 < l.getD i 0) : ∀ (k i : Nat), i + k < l.length → l.getD i 0 ≤ l.getD (i + k) 0
 | 0, i, _ => Int.le_refl _
 | k + 1, i, hi => by
  have h1 := asc h k i (by omega)
  have h2 := h (i + (k + 1)) hi (by omega)
  rw [show i + (k + 1) - 1 = i + k by omega] at h2
  omega
theorem br (a0 : MKeys) : md a0 = Z28.md a0 := by
  unfold md Z28.md Z70.md
  simp only [Z67.br, Z71.md]
  by_cases hl : 1 ≤ a0.fList.length ∧ a0.fList.length ≤ 4
  · have e1 : Z27.md (a0.fList.length : Int) 1 4 = true := by simp [Z27.md]; omega
    rw [e1]
    have wp : ∀ i : Nat, 0 < i → i ≤ 4 → Int.toNat (IntKind.i64.wrap ((i : Int) - 1)) = i - 1 := fun i h1 h2 => by
      rw [Go.IntWalk.i64_in _ (by omega)]; omega
    rw [wp _ (by omega) (by omega)]
    generalize a0.fNeed = n
    generalize a0.fList = l at *
    have i1 : ∀ x a b : Int, Z27.md x a b = true ↔ a ≤ x ∧ x ≤ b := fun x a b => by simp [Z27.md]
    have i2 : ∀ x a b : Int, Z27.md x a b = false ↔ ¬ (a ≤ x ∧ x ≤ b) := fun x a b => by rw [← i1]; simp
    have w2 : ∀ i : Nat, i < l.length → 0 < i → Int.toNat (IntKind.i64.wrap ((i : Int) - 1)) = i - 1 := fun i h1 h2 => wp i h2 (by omega)
    rw [Bool.eq_iff_iff, ← loopM_eachI (z := 0), ← loopM_eachI (z := 0)]
    have e3 : ∀ a b c d : Bool, (bif true then (bif a then (bif b then (bif c then d else false) else false) else false) else false) = true ↔ a = true ∧ b = true ∧ c = true ∧ d = true := by
      intro a b c d; cases a <;> cases b <;> cases c <;> simp
    have pos : ∀ i : Nat, 0 < i → decide ((i : Int) > 0) = true := fun i h => by simpa using h
    have npos : ∀ i : Nat, ¬ 0 < i → decide ((i : Int) > 0) = false := fun i h => by simpa using h
    rw [e3]
    rw [loopM_true (fun i => 0 < i → l.getD (i - 1) 0 < l.getD i 0) (fun i hi h => ?_) (fun i hi h => ?_), loopM_true (fun i => (1 ≤ l.getD i 0 ∧ l.getD i 0 ≤ 99) ∧ (0 < i → l.getD (i - 1) 0 < l.getD i 0)) (fun i hi h => ?_) (fun i hi h => ?_)]
    · simp only [i1, and_true, cond_true]
      constructor
      · rintro ⟨h1, ⟨h2, h3⟩, ⟨h4, h5⟩, h6⟩
        refine ⟨fun i hi => ⟨⟨?_, ?_⟩, h1 i hi⟩, h6⟩
        · have := asc h1 i 0 (by omega)
          rw [Nat.zero_add] at this; omega
        · have := asc h1 (l.length - 1 - i) i (by omega)
          rw [show i + (l.length - 1 - i) = l.length - 1 by omega] at this; omega
      · rintro ⟨h1, h6⟩
        exact ⟨fun i hi => (h1 i hi).2, (h1 0 (by omega)).1, (h1 (l.length - 1) (by omega)).1, h6⟩
    · have e2 := (i1 (l.getD i 0) 1 99).2 h.1
      rw [e2]
      by_cases h0 : 0 < i
      · have := h.2 h0
        rw [pos i h0, w2 i hi h0, decide_eq_false (by omega)]; rfl
      · rw [npos i h0]; rfl
    · by_cases h1 : 1 ≤ l.getD i 0 ∧ l.getD i 0 ≤ 99
      · have e2 := (i1 (l.getD i 0) 1 99).2 h1
        have h0 : 0 < i := Classical.byContradiction fun hc => h ⟨h1, fun h => (hc h).elim⟩
        have h2 : ¬ l.getD (i - 1) 0 < l.getD i 0 := fun hc => h ⟨h1, fun _ => hc⟩
        rw [e2, pos i h0, w2 i hi h0, decide_eq_true (by omega)]; rfl
      · rw [(i2 _ _ _).2 h1]; rfl
    · by_cases h0 : 0 < i
      · have := h h0
        rw [pos i h0, w2 i hi h0, decide_eq_false (by omega)]; rfl
      · rw [npos i h0]; rfl
    · have h0 : 0 < i := Classical.byContradiction fun hc => h fun h => (hc h).elim
      have h2 : ¬ l.getD (i - 1) 0 < l.getD i 0 := fun hc => h fun _ => hc
      rw [pos i h0, w2 i hi h0, decide_eq_true (by omega)]; rfl
  · have e1 : Z27.md (a0.fList.length : Int) 1 4 = false := by simp [Z27.md]; omega
    rw [e1]
    simp only [cond_false]
    symm
    exact eachI_const (by
      intro i x s b h
      revert h
      simp only [Bool.cond_eq_ite]
      repeat' split
      all_goals (intro h; first | (cases h; rfl) | cases h)) _ _ _
end Z72
namespace Z73
def F (x0 : RKeys) : Ans := (bif (x0.fNeed == 0) then ret (((x0.fList.length : Int) == 0) : Bool) else ret (false : Bool))
def pats : List Pat := [.agg [.sl 3, .int .i64]]
def res : RP := .one (.rd (.bool))
def md (a0 : MKeys) : Bool := (bif (a0.fNeed == 0) then (((a0.fList.length : Int) == 0) : Bool) else (false : Bool))
def gd (a0 : MKeys) : Prop := True
def acc (ls : List L) : RKeys := (RKeys.dec ls)
def R : RKeys → Option Bool := RR gd md
theorem R_eq {a0} (h : gd a0) : R (MKeys.r a0) = some (md a0) := RR_eq (a := a0) h
def con : Con := CN pats res acc R
theorem okF (a0 : MKeys) (hg : gd a0) : F (MKeys.r a0) = ret ((md a0) : Bool) := by
 unfold F md
 try simp only [S0, MKeys.rs]
 refine bif_out ret (fun c1 => ?_) (fun _ => rfl)
 all_goals first | rfl | (simp only [S0, MKeys.rs, MP]; first | done | rfl)
theorem valid_ : Valid Tryz.prog Ev 279 con := VV (live := fun _ => []) (nt := 12) (run := fun _ x => F x) mix tab_ok .nil Tryz.func279 (by kernel_rfl) (fun _ _ => by kernel_rfl) (fun _ a _ _ hg => ⟨0, okF a hg⟩)
theorem br (a0 : MKeys) : md a0 = Z29.md a0 := by
 unfold md Z29.md
 first
 | (simp only [id]; done)
 | (simp only [id]; rfl)
 | rfl
end Z73
namespace Z74
def F (x0 : RKeys) : Ans := (call (Z73.R x0) fun v1 => (bif v1 then ret (true : Bool) else (call (Z72.R x0) fun v2 => ret (v2 : Bool))))
def pats : List Pat := [.agg [.sl 3, .int .i64]]
def res : RP := .one (.rd (.bool))
def md (a0 : MKeys) : Bool := (bif (Z73.md a0) then (true : Bool) else ((Z72.md a0) : Bool))
def gd (a0 : MKeys) : Prop := (MKeys.Sm (2 ^ 21) a0)
def acc (ls : List L) : RKeys := (RKeys.dec ls)
def R : RKeys → Option Bool := RR gd md
theorem R_eq {a0} (h : gd a0) : R (MKeys.r a0) = some (md a0) := RR_eq (a := a0) h
def con : Con := CN pats res acc R
theorem okF (a0 : MKeys) (hg : gd a0) : F (MKeys.r a0) = ret ((md a0) : Bool) := by
 unfold gd at hg
 have H0 := hg
 unfold F md
 try simp only [S0]
 refine call_to (Z73.md a0) (Z73.R_eq (a0 := a0) trivial) ?_
 refine bif_out ret (fun _ => rfl) (fun c1 => ?_)
 refine call_to (Z72.md a0) (Z72.R_eq (a0 := a0) H0) ?_
 all_goals first | rfl | (simp only [S0, MP]; first | done | rfl)
theorem valid_ : Valid Tryz.prog Ev 277 con := VV (live := fun _ => []) (nt := 9) (run := fun _ x => F x) mix tab_ok (.cons Z73.valid_ (.cons Z72.valid_ .nil)) Tryz.func277 (by kernel_rfl) (fun _ _ => by kernel_rfl) (fun _ a _ _ hg => ⟨0, okF a hg⟩)
end Z74
namespace Z75
def F (x0 : Int) (x1 : RKeys) : Ans := (call (Z73.R x1) fun v1 => (bif v1 then ret ((x0 == 0) : Bool) else (call (Z67.R (x0, 1, 500)) fun v2 => ret (v2 : Bool))))
def pats : List Pat := [.rd (.int .i64), .agg [.sl 3, .int .i64]]
def res : RP := .one (.rd (.bool))
def md (a0 : Int) (a1 : MKeys) : Bool := (bif (Z73.md a1) then ((a0 == 0) : Bool) else ((Z67.md a0 1 500) : Bool))
def gd (a0 : Int) (a1 : MKeys) : Prop := True
def acc (ls : List L) : Int × RKeys := ((ls.headD .hole).toInt, (RKeys.dec (dropT 1 ls)))
def R : (Int × RKeys) → Option Bool := RR (p2 gd) (u2 md)
theorem R_eq {a0} {a1} (h : gd a0 a1) : R (a0, (MKeys.r a1)) = some (md a0 a1) := RR_eq (a := (a0, a1)) h
def con : Con := CN pats res acc R
theorem okF (a0 : Int) (a1 : MKeys) (hg : gd a0 a1) : F a0 (MKeys.r a1) = ret ((md a0 a1) : Bool) := by
  unfold F md
  try simp only [S0]
  refine call_to (Z73.md a1) (Z73.R_eq (a0 := a1) trivial) ?_
  refine bif_out ret (fun c1 => ?_) (fun c1 => ?_)
  · all_goals first | rfl | (simp only [S0, MP]; first | done | rfl)
  · refine call_to (Z67.md a0 1 500) (Z67.R_eq (a0 := a0) (a1 := 1) (a2 := 500) trivial) ?_
    all_goals first | rfl | (simp only [S0, MP]; first | done | rfl)
theorem valid_ : Valid Tryz.prog Ev 278 con := VV (live := fun _ => []) (nt := 11) (run := fun _ x => F x.1 x.2) mix tab_ok (.cons Z73.valid_ (.cons Z67.valid_ .nil)) Tryz.func278 (by kernel_rfl) (fun _ _ => by kernel_rfl) (fun _ a _ _ hg => ⟨0, okF a.1 a.2 hg⟩)
end Z75
namespace Z76
def F (x0 : RHead) : Ans := (call (Z68.R x0.fZone) fun v1 => (bif v1 then (call (Z68.R x0.fRoot) fun v2 => (bif v2 then (call (Z68.R x0.fPrev) fun v3 => (bif v3 then (call (Z67.R (x0.fEpoch, 0, 200)) fun v4 => (bif v4 then (call (Z67.R (x0.fKind, 1, 3)) fun v5 => (bif v5 then (call (Z69.R x0) fun v6 => (bif v6 then (call (Z67.R (x0.fCount, 0, 12)) fun v7 => (bif v7 then (call (Z72.R x0.fKeys) fun v8 => (bif v8 then (call (Z74.R x0.fHeirs) fun v9 => (bif v9 then (call (Z74.R x0.fJudge) fun v10 => (bif v10 then (call (Z75.R (x0.fWait, x0.fHeirs)) fun v11 => (bif v11 then (bif x0.fFrozen then (call (Z73.R x0.fJudge) fun v12 => ret ((!v12) : Bool)) else ret (true : Bool)) else ret (false : Bool))) else ret (false : Bool))) else ret (false : Bool))) else ret (false : Bool))) else ret (false : Bool))) else ret (false : Bool))) else ret (false : Bool))) else ret (false : Bool))) else ret (false : Bool))) else ret (false : Bool))) else ret (false : Bool)))
def pats : List Pat := [.agg [.int .i64, .int .i64, .int .i64, .int .i64, .int .i64, .int .i64, .int .i64, .int .i64, .sl 3, .int .i64, .sl 3, .int .i64, .int .i64, .sl 3, .int .i64, .bool]]
def res : RP := .one (.rd (.bool))
def md (a0 : MHead) : Bool := (bif (Z68.md a0.fZone) then (bif (Z68.md a0.fRoot) then (bif (Z68.md a0.fPrev) then (bif (Z67.md a0.fEpoch 0 200) then (bif (Z67.md a0.fKind 1 3) then (bif (Z69.md a0) then (bif (Z67.md a0.fCount 0 12) then (bif (Z72.md a0.fKeys) then (bif (Z74.md a0.fHeirs) then (bif (Z74.md a0.fJudge) then (bif (Z75.md a0.fWait a0.fHeirs) then (bif a0.fFrozen then ((!(Z73.md a0.fJudge)) : Bool) else (true : Bool)) else (false : Bool)) else (false : Bool)) else (false : Bool)) else (false : Bool)) else (false : Bool)) else (false : Bool)) else (false : Bool)) else (false : Bool)) else (false : Bool)) else (false : Bool)) else (false : Bool))
def gd (a0 : MHead) : Prop := (MHead.Sm (2 ^ 21) a0)
def acc (ls : List L) : RHead := (RHead.dec ls)
def R : RHead → Option Bool := RR gd md
theorem R_eq {a0} (h : gd a0) : R (MHead.r a0) = some (md a0) := RR_eq (a := a0) h
def con : Con := CN pats res acc R
theorem okF (a0 : MHead) (hg : gd a0) : F (MHead.r a0) = ret ((md a0) : Bool) := by
 unfold gd at hg
 have H0 := hg
 unfold F md
 try simp only [S0, MHead.rs]
 refine call_to (Z68.md a0.fZone) (Z68.R_eq (a0 := a0.fZone) trivial) ?_
 refine bif_out ret (fun c1 => ?_) (fun _ => rfl)
 refine call_to (Z68.md a0.fRoot) (Z68.R_eq (a0 := a0.fRoot) trivial) ?_
 refine bif_out ret (fun c2 => ?_) (fun _ => rfl)
 refine call_to (Z68.md a0.fPrev) (Z68.R_eq (a0 := a0.fPrev) trivial) ?_
 refine bif_out ret (fun c3 => ?_) (fun _ => rfl)
 refine call_to (Z67.md a0.fEpoch 0 200) (Z67.R_eq (a0 := a0.fEpoch) (a1 := 0) (a2 := 200) trivial) ?_
 refine bif_out ret (fun c4 => ?_) (fun _ => rfl)
 refine call_to (Z67.md a0.fKind 1 3) (Z67.R_eq (a0 := a0.fKind) (a1 := 1) (a2 := 3) trivial) ?_
 refine bif_out ret (fun c5 => ?_) (fun _ => rfl)
 refine call_to (Z69.md a0) (Z69.R_eq (a0 := a0) trivial) ?_
 refine bif_out ret (fun c6 => ?_) (fun _ => rfl)
 refine call_to (Z67.md a0.fCount 0 12) (Z67.R_eq (a0 := a0.fCount) (a1 := 0) (a2 := 12) trivial) ?_
 refine bif_out ret (fun c7 => ?_) (fun _ => rfl)
 refine call_to (Z72.md a0.fKeys) (Z72.R_eq (a0 := a0.fKeys) H0.1) ?_
 refine bif_out ret (fun c8 => ?_) (fun _ => rfl)
 refine call_to (Z74.md a0.fHeirs) (Z74.R_eq (a0 := a0.fHeirs) H0.2.1) ?_
 refine bif_out ret (fun c9 => ?_) (fun _ => rfl)
 refine call_to (Z74.md a0.fJudge) (Z74.R_eq (a0 := a0.fJudge) H0.2.2) ?_
 refine bif_out ret (fun c10 => ?_) (fun _ => rfl)
 refine call_to (Z75.md a0.fWait a0.fHeirs) (Z75.R_eq (a0 := a0.fWait) (a1 := a0.fHeirs) trivial) ?_
 refine bif_out ret (fun c11 => ?_) (fun _ => rfl)
 refine bif_out ret (fun c12 => ?_) (fun _ => rfl)
 refine call_to (Z73.md a0.fJudge) (Z73.R_eq (a0 := a0.fJudge) trivial) ?_
 all_goals first | rfl | (simp only [S0, MHead.rs, MP]; first | done | rfl)
theorem valid_ : Valid Tryz.prog Ev 242 con := VV (live := fun _ => []) (nt := 67) (run := fun _ x => F x) mix tab_ok (.cons Z68.valid_ (.cons Z67.valid_ (.cons Z69.valid_ (.cons Z72.valid_ (.cons Z74.valid_ (.cons Z75.valid_ (.cons Z73.valid_ .nil))))))) Tryz.func242 (by kernel_rfl) (fun _ _ => by kernel_rfl) (fun _ a _ _ hg => ⟨0, okF a hg⟩)
theorem br (a0 : MHead) : md a0 = Z30.md a0 := by
 unfold md Z30.md
 simp only [Z72.br, Z67.br, Z68.md, Z74.md, Z75.md, Z73.br]
 have hs : Z69.md a0 = (Z27.md a0.fTime 0 100000 && (Z27.md a0.fUntil a0.fTime 100000 && !decide ((IntKind.i64.wrap (a0.fUntil - a0.fTime)) > 200))) := by
  rw [Bool.eq_iff_iff]
  simp [Z69.md, Z27.md]
  omega
 have hk : Z28.md a0.fJudge = true → Z29.md a0.fJudge = false := fun h => by
  have := Z28.tr h
  have e : ((a0.fJudge.fList.length : Int) == 0) = false := beq_eq_false_iff_ne.2 (by omega)
  unfold Z29.md
  rw [e]
  cases a0.fJudge.fNeed == 0 <;> rfl
 rw [hs]
 revert hk
 simp only [and_n, and_p, Bool.and_assoc]
 generalize Z27.md a0.fZone 0 2147483646 = b1
 generalize Z27.md a0.fRoot 0 2147483646 = b2
 generalize Z27.md a0.fPrev 0 2147483646 = b3
 generalize Z27.md a0.fEpoch 0 200 = b4
 generalize Z27.md a0.fKind 1 3 = b5
 generalize Z27.md a0.fTime 0 100000 = b6
 generalize Z27.md a0.fUntil a0.fTime 100000 = b7
 generalize decide ((IntKind.i64.wrap (a0.fUntil - a0.fTime)) > 200) = b8
 generalize Z27.md a0.fCount 0 12 = b9
 generalize Z28.md a0.fKeys = b10
 generalize Z28.md a0.fHeirs = kh
 generalize Z29.md a0.fHeirs = nh
 generalize Z28.md a0.fJudge = kj
 generalize Z29.md a0.fJudge = nj
 generalize Z27.md a0.fWait 1 500 = lw
 have hw : (a0.fWait != 0) = !(a0.fWait == 0) := rfl
 rw [hw]
 generalize (a0.fWait == 0) = w0
 generalize a0.fFrozen = fz
 intro hk
 cases b1; · rfl
 cases b2; · rfl
 cases b3; · rfl
 cases b4; · rfl
 cases b5; · rfl
 cases b6; · rfl
 cases b7; · rfl
 cases b8; rotate_left; · rfl
 cases b9; · rfl
 cases b10; · rfl
 revert hk
 revert kh nh kj nj lw w0 fz
 decide
end Z76
namespace Z77
def F (x0 : RKeys) : Ans := (bif (lim (((2 : Int) + (x0.fList.length : Int)) * 8)) then ret (([[L.int x0.fNeed], [L.int (x0.fList.length : Int)]] ++ x0.fList) : List (List L)) else none)
def pats : List Pat := [.agg [.sl 3, .int .i64]]
def res : RP := .one (.fr 3)
def md (a0 : MKeys) : List Int := ([a0.fNeed, (a0.fList.length : Int)] ++ a0.fList)
def gd (a0 : MKeys) : Prop := (MKeys.Sm (2 ^ 21) a0)
def acc (ls : List L) : RKeys := (RKeys.dec ls)
def R : RKeys → Option (List (List L)) := RR gd md
theorem R_eq {a0} (h : gd a0) : R (MKeys.r a0) = some ((md a0).map iRow) := RR_eq (a := a0) h
def con : Con := CN pats res acc R
theorem okF (a0 : MKeys) (hg : gd a0) : F (MKeys.r a0) = ret (((md a0).map iRow) : List (List L)) := by
 unfold gd at hg
 have H0 := hg
 unfold F md
 try simp only [S0, MKeys.rs]
 refine yes_ret (by
   have := (H0).1
   refine lim_t ?_
   try simp (disch := omega) only [LN, wi]
   first | omega | (simp; done) | (simp; omega)) ?_
 all_goals first | rfl | (simp only [S0, MKeys.rs]; done) | (simp only [MP]; rfl) | (simp only [S0, MKeys.rs, MP]; first | done | rfl)
theorem valid_ : Valid Tryz.prog Ev 218 con := VV (live := fun _ => []) (nt := 12) (run := fun _ x => F x) mix tab_ok .nil Tryz.func218 (by kernel_rfl) (fun _ _ => by kernel_rfl) (fun _ a _ _ hg => ⟨0, okF a hg⟩)
theorem len (a0 : MKeys) : (md a0).length = 2 + a0.fList.length := by simp [md]; omega
theorem br (a0 : MKeys) : md a0 = Z31.md a0 := by
 unfold md Z31.md
 first
 | (simp only [id]; done)
 | (simp only [id]; rfl)
 | rfl
end Z77
namespace Z78
def F (x0 : Int) (x1 : Int) : Ans := (call (Z67.R (x1, 1, 1000000000000)) fun v1 => (bif (!v1) then ret (0 : Int) else (bif (decide (x1 = 0)) then none else (bif (decide (x1 = 0)) then none else ret ((Int.tmod (IntKind.i64.wrap ((Int.tmod x0 x1) + x1)) x1) : Int)))))
def pats : List Pat := [.rd (.int .i64), .rd (.int .i64)]
def res : RP := .one (.rd (.int .i64))
def md (a0 : Int) (a1 : Int) : Int := (bif (!(Z67.md a1 1 1000000000000)) then (0 : Int) else ((Int.tmod (IntKind.i64.wrap ((Int.tmod a0 a1) + a1)) a1) : Int))
def gd (a0 : Int) (a1 : Int) : Prop := True
def acc (ls : List L) : Int × Int := ((ls.headD .hole).toInt, ((dropT 1 ls).headD .hole).toInt)
def R : (Int × Int) → Option Int := RR (p2 gd) (u2 md)
theorem R_eq {a0} {a1} (h : gd a0 a1) : R (a0, a1) = some (md a0 a1) := RR_eq (a := (a0, a1)) h
def con : Con := CN pats res acc R
theorem okF (a0 : Int) (a1 : Int) (hg : gd a0 a1) : F a0 a1 = ret ((md a0 a1) : Int) := by
 unfold F md
 try simp only [S0]
 refine call_to (Z67.md a1 1 1000000000000) (Z67.R_eq (a0 := a1) (a1 := 1) (a2 := 1000000000000) trivial) ?_
 refine bif_out ret (fun _ => rfl) (fun c1 => ?_)
 have dc1 := c1
 try simp only [DC] at dc1
 have Dc1 := c1
 try simp [Z67.md] at Dc1
 refine no_ret (by
   refine decide_eq_false ?_
   try simp (disch := omega) only [LN, wi]
   first | omega | (simp; done) | (simp; omega)) ?_
 refine no_ret (by
   refine decide_eq_false ?_
   try simp (disch := omega) only [LN, wi]
   first | omega | (simp; done) | (simp; omega)) ?_
 all_goals first | rfl | (simp only [S0, MP]; first | done | rfl)
theorem valid_ : Valid Tryz.prog Ev 288 con := VV (live := fun _ => []) (nt := 15) (run := fun _ x => F x.1 x.2) mix tab_ok (.cons Z67.valid_ .nil) Tryz.func288 (by kernel_rfl) (fun _ _ => by kernel_rfl) (fun _ a _ _ hg => ⟨0, okF a.1 a.2 hg⟩)
theorem br (a0 : Int) (a1 : Int) : md a0 a1 = Z32.md a0 a1 := by
 unfold md Z32.md
 first
 | (simp only [Z67.br]; done)
 | (simp only [Z67.br]; rfl)
 | rfl
end Z78
namespace Z79
inductive Pt where
 | p0 (a : Int) (b : List (List L)) (c : Int) (d : Int)
def pid : Pt → Nat
 | .p0 .. => 3
def pvs : Pt → List V
 | .p0 a b c d => [.int .i64 a, .sl none 3 b, .int .i64 c, .int .i64 d]
def phs : Pt → List Root
 | .p0 a b c d => []
def step (J : Pt → Ans) : Pt → Ans
 | .p0 a b c d => (bif (decide (d < c)) then (bif (decide ((0 : Int) ≤ d)) then (bif (decide (d < (b.length : Int))) then (call (Z78.R ((iAt b (Int.toNat d)), 2147483647)) fun v1 => J (.p0 (Int.tmod (IntKind.i64.wrap ((IntKind.i64.wrap ((IntKind.i64.wrap (a * 1000003)) + v1)) + 13)) 2147483647) b c (IntKind.i64.wrap (d + 1)))) else none) else none) else ret (a : Int))
def start (J : Pt → Ans) (x0 : List (List L)) : Ans := J (.p0 11 x0 (x0.length : Int) 0)
def live : Nat → Live := fun i => match i with | 3 => [(3, none), (6, none), (7, none), (8, none)] | _ => []
def pats : List Pat := [.rd (.sl 3)]
def res : RP := .one (.rd (.int .i64))
abbrev E : Env := { T := assoc Tab, G := conG [(288, Z78.con)], nt := 21 }
theorem step_eq (I : Heads) (p : Pt) : enterC E live I (pid p) (bodyOf Tryz.f255) (stOf (live (pid p)) (pvs p) (phs p)) (doneK E Tryz.f255 res) = step (fun q => I (pid q) (pvs q) (phs q)) p := by
 cases p <;> kernel_rfl
theorem start_eq (I : Heads) (ls : List L) : runC E live I (bodyOf Tryz.f255) (initS pats ls) (doneK E Tryz.f255 res) = start (fun q => I (pid q) (pvs q) (phs q)) (ls.headD .hole).toSl := by kernel_rfl
theorem run_eq (n : Nat) (ls : List L) : runF E live Tryz.f255 res n (initS pats ls) = start (iter step n) (ls.headD .hole).toSl := runF_iter (id := pid) (vs := pvs) (hs := phs) (step := step) (start := fun J => start J (ls.headD .hole).toSl) step_eq (fun I => start_eq I ls) n
def md (a0 : List Int) : Int := (eachM (S := Int) (β := Int) (fun (y1 : Int) (s3 : Int) => (.inl (Int.tmod (IntKind.i64.wrap ((IntKind.i64.wrap ((IntKind.i64.wrap (s3 * 1000003)) + (Z78.md y1 2147483647))) + 13)) 2147483647))) (fun (s3 : Int) => (s3 : Int)) a0 11)
def gd (a0 : List Int) : Prop := (SmL (2 ^ 43) (fun y : Int => True) a0)
def acc (ls : List L) : List (List L) := (ls.headD .hole).toSl
def R : (List (List L)) → Option Int := RR gd md
theorem R_eq {a0} (h : gd a0) : R (a0.map iRow) = some (md a0) := RR_eq (a := a0) h
def con : Con := CN pats res acc R
theorem okF (a0 : List Int) (hg : gd a0) : ∃ n, start (iter step n) (a0.map iRow) = ret ((md a0) : Int) := by
  unfold gd at hg
  have H0 := hg
  unfold start md
  try simp only [S0]
  have Bh2 : a0.length ≤ maxLen := (by
      have := (H0).1
      try simp only [maxLen] at *
      omega)
  refine ex_eq (out := ret) (loopM_eachM (z := 0)) ?_
  refine ex_pt (p := Pt.p0 11 (a0.map iRow) (a0.length : Int) 0) (by first | rfl | (simp only [S0, MP]; done) | (simp only [MP]; rfl)) ?_
  refine loopM_ok (pt := fun (i1 : Nat) (s3 : Int) => Pt.p0 s3 (a0.map iRow) (a0.length : Int) (i1 : Int)) (s := (11 : Int)) (out := ret) (fun _ _ => True) (fun J i1 s3 h2 hih2 => ?_) (fun s3 hih2 => ?_) trivial
  · simp only [step, S0]
    have bb_ := Bh2
    simp only [maxLen] at bb_
    have := (H0).1
    refine Rnd.yes (by apply decide_eq_true; omega) ?_
    refine Rnd.yes zle_dec ?_
    refine Rnd.yes (lt_dec h2) ?_
    refine Rnd.call_to (Z78.md (a0.getD i1 0) 2147483647) (Z78.R_eq (a0 := (a0.getD i1 0)) (a1 := 2147483647) trivial) ?_
    refine Rnd.inl trivial ?_
    rw [wrap_succ h2 Bh2]
    all_goals first | rfl | (simp only [S0, MP]; first | done | rfl)
  · simp only [step, S0]
    have := (H0).1
    refine ex_no (by apply decide_eq_false; omega) ?_
    refine ⟨0, ?_⟩
    all_goals first | rfl | (simp only [S0, MP]; first | done | rfl)
theorem valid_ : Valid Tryz.prog Ev 255 con := VV (run := fun n x => start (iter step n) x) mix tab_ok (.cons Z78.valid_ .nil) Tryz.func255 (by kernel_rfl) run_eq (fun _ a _ _ hg => okF a hg)
theorem br (a0 : List Int) : md a0 = Z33.md a0 := by
 unfold md Z33.md
 first
 | (simp only [Z78.br]; done)
 | (simp only [Z78.br]; rfl)
 | rfl
end Z79
namespace Z80
def F (x0 : RKeys) (x1 : Int) : Ans := (call (Z77.R x0) fun v1 => (bif (lim (((2 : Int) + (v1.length : Int)) * 8)) then (call (Z79.R ([[L.int 239], [L.int x1]] ++ v1)) fun v2 => ret (v2 : Int)) else none))
def pats : List Pat := [.agg [.sl 3, .int .i64], .rd (.int .i64)]
def res : RP := .one (.rd (.int .i64))
def md (a0 : MKeys) (a1 : Int) : Int := ((Z79.md ([239, a1] ++ (Z77.md a0))) : Int)
def gd (a0 : MKeys) (a1 : Int) : Prop := (MKeys.Sm (2 ^ 21) a0)
def acc (ls : List L) : RKeys × Int := ((RKeys.dec ls), ((dropT 2 ls).headD .hole).toInt)
def R : (RKeys × Int) → Option Int := RR (p2 gd) (u2 md)
theorem R_eq {a0} {a1} (h : gd a0 a1) : R ((MKeys.r a0), a1) = some (md a0 a1) := RR_eq (a := (a0, a1)) h
def con : Con := CN pats res acc R
theorem okF (a0 : MKeys) (a1 : Int) (hg : gd a0 a1) : F (MKeys.r a0) a1 = ret ((md a0 a1) : Int) := by
  unfold gd at hg
  have H0 := hg
  unfold F md
  try simp only [S0]
  refine call_to ((Z77.md a0).map iRow) (Z77.R_eq (a0 := a0) H0) ?_
  try simp only [S0]
  refine yes_ret (by
      have := Z77.len a0
      have := (H0).1
      refine lim_t ?_
      try simp (disch := omega) only [LN, wi]
      first | omega | (simp; done) | (simp; omega)) ?_
  refine call_to (Z79.md ([239, a1] ++ (Z77.md a0))) ?_ ?_
  · have R_ := Z79.R_eq (a0 := ([239, a1] ++ (Z77.md a0))) ⟨(by
        have := Z77.len a0
        have := (H0).1
        try simp (disch := omega) only [LN, wi]
        first | omega | (simp; done) | (simp; omega)), fun _ _ => trivial⟩
    first | exact R_ | (simp only [MP, S0] at R_ ⊢; first | exact R_ | (rw [← R_]; rfl))
  all_goals first | rfl | (simp only [S0, MP]; first | done | rfl)
theorem valid_ : Valid Tryz.prog Ev 243 con := VV (live := fun _ => []) (nt := 11) (run := fun _ x => F x.1 x.2) mix tab_ok (.cons Z77.valid_ (.cons Z79.valid_ .nil)) Tryz.func243 (by kernel_rfl) (fun _ _ => by kernel_rfl) (fun _ a _ _ hg => ⟨0, okF a.1 a.2 hg⟩)
theorem br (a0 : MKeys) (a1 : Int) : md a0 a1 = Z34.md a0 a1 := by
 unfold md Z34.md
 first
 | (simp only [Z77.br, Z79.br]; done)
 | (simp only [Z77.br, Z79.br]; rfl)
 | rfl
end Z80
namespace Z81
def F (x0 : Bool) : Ans := (bif x0 then ret (1 : Int) else ret (0 : Int))
def pats : List Pat := [.rd (.bool)]
def res : RP := .one (.rd (.int .i64))
def md (a0 : Bool) : Int := (bif a0 then (1 : Int) else (0 : Int))
def gd (a0 : Bool) : Prop := True
def acc (ls : List L) : Bool := (ls.headD .hole).toBool
def R : Bool → Option Int := RR gd md
theorem R_eq {a0} (h : gd a0) : R a0 = some (md a0) := RR_eq (a := a0) h
def con : Con := CN pats res acc R
theorem okF (a0 : Bool) (hg : gd a0) : F a0 = ret ((md a0) : Int) := by
 unfold F md
 try simp only [S0]
 refine bif_out ret (fun _ => rfl) (fun _ => rfl)
theorem valid_ : Valid Tryz.prog Ev 219 con := VV (live := fun _ => []) (nt := 4) (run := fun _ x => F x) mix tab_ok .nil Tryz.func219 (by kernel_rfl) (fun _ _ => by kernel_rfl) (fun _ a _ _ hg => ⟨0, okF a hg⟩)
end Z81
end Go.DM
end
