/- What the functions compute that the law reaches, and that the law returns true. Conditions: none. -/
import Derived.Test.YtfghhicdmjiaaaaGreatKeepAnswerTy
import Derived.Test.YtfghhicdmjiaaaaGreatProg
import Derived.Lib.AppendZerosOnto
import Derived.Lib.Bytealg
import Derived.Laws.Externs
import Derived.Lib.Walk
import Derived.Lib.Hide
import Derived.Lib.Strings
set_option linter.all false
set_option maxRecDepth 100000
noncomputable section
namespace Go.DM
open Go.Proofs
def Tab : List (Nat × TI) := [
 (2, ⟨[.int .i64], false, [], 8, false⟩),
 (3, ⟨[.int .i64], false, [], 8, false⟩),
 (4, ⟨[.bool], false, [], 1, false⟩),
 (5, ⟨[.int .u8], false, [], 1, false⟩),
 (6, ⟨[.int .u8], false, [], 1, false⟩),
 (7, ⟨[.int .i64, .int .i64, .bool, .int .u8], true, [(0, 2), (1, 3), (2, 4), (3, 6)], 24, false⟩),
 (8, ⟨[.int .i64, .int .i64, .bool, .int .u8], true, [(0, 2), (1, 3), (2, 4), (3, 6)], 24, false⟩),
 (9, ⟨[.str], false, [], 16, false⟩),
 (10, ⟨[.str], false, [], 16, false⟩),
 (11, ⟨[.str], false, [], 16, false⟩),
 (12, ⟨[.int .u64], false, [], 8, false⟩),
 (13, ⟨[.str, .int .u64], true, [(0, 9), (1, 12)], 24, false⟩),
 (14, ⟨[.str, .int .u64], true, [(0, 9), (1, 12)], 24, false⟩),
 (21, ⟨[.int .i32], false, [], 4, false⟩),
 (22, ⟨[.sl 95], false, [], 24, false⟩),
 (24, ⟨[.sl 96], false, [], 24, false⟩),
 (31, ⟨[.sl 114], false, [], 24, false⟩),
 (33, ⟨[.sl 3], false, [], 24, false⟩),
 (34, ⟨[.sl 3, .int .i64], true, [(0, 33), (1, 3)], 32, false⟩),
 (35, ⟨[.sl 3, .int .i64], true, [(0, 33), (1, 3)], 32, false⟩),
 (38, ⟨[.sl 122], false, [], 24, false⟩),
 (45, ⟨[.sl 31], false, [], 24, false⟩),
 (46, ⟨[.sl 187], false, [], 24, false⟩),
 (47, ⟨[.sl 31, .sl 187], true, [(0, 45), (1, 46)], 48, false⟩),
 (48, ⟨[.sl 31, .sl 187], true, [(0, 45), (1, 46)], 48, false⟩),
 (50, ⟨[.sl 38], false, [], 24, false⟩),
 (51, ⟨[.sl 134], false, [], 24, false⟩),
 (52, ⟨[.sl 38, .sl 134], true, [(0, 50), (1, 51)], 48, false⟩),
 (53, ⟨[.sl 38, .sl 134], true, [(0, 50), (1, 51)], 48, false⟩),
 (60, ⟨[.sl 195], false, [], 24, false⟩),
 (61, ⟨[.sl 195], true, [(0, 60)], 24, false⟩),
 (62, ⟨[.sl 195], true, [(0, 60)], 24, false⟩),
 (64, ⟨[.sl 148], false, [], 24, false⟩),
 (65, ⟨[.sl 148], true, [(0, 64)], 24, false⟩),
 (66, ⟨[.sl 148], true, [(0, 64)], 24, false⟩),
 (72, ⟨[.sl 9], false, [], 24, false⟩),
 (73, ⟨[.str, .int .i64, .int .i64, .sl 9], true, [(0, 9), (1, 3), (2, 3), (3, 72)], 56, false⟩),
 (74, ⟨[.str, .int .i64, .int .i64, .sl 9], true, [(0, 9), (1, 3), (2, 3), (3, 72)], 56, false⟩),
 (75, ⟨[.int .i64, .sl 3], true, [(0, 3), (1, 33)], 32, false⟩),
 (76, ⟨[.int .i64, .sl 3], true, [(0, 3), (1, 33)], 32, false⟩),
 (77, ⟨[.int .i64, .str, .int .i64, .int .i64, .sl 9, .str, .int .i64, .int .i64, .sl 9, .int .i64, .sl 3, .int .i64, .sl 3], true, [(0, 3), (1, 74), (5, 74), (9, 76), (11, 76)], 184, false⟩),
 (78, ⟨[.int .i64, .str, .int .i64, .int .i64, .sl 9, .str, .int .i64, .int .i64, .sl 9, .int .i64, .sl 3, .int .i64, .sl 3], true, [(0, 3), (1, 74), (5, 74), (9, 76), (11, 76)], 184, false⟩),
 (79, ⟨[.sl 114, .bool, .str, .int .i64, .int .i64, .sl 9, .int .i64, .sl 3, .int .i64, .str, .int .i64, .int .i64, .sl 9, .str, .int .i64, .int .i64, .sl 9, .int .i64, .sl 3, .int .i64, .sl 3], true, [(0, 31), (1, 4), (2, 74), (6, 76), (8, 78)], 304, false⟩),
 (80, ⟨[.sl 114, .bool, .str, .int .i64, .int .i64, .sl 9, .int .i64, .sl 3, .int .i64, .str, .int .i64, .int .i64, .sl 9, .str, .int .i64, .int .i64, .sl 9, .int .i64, .sl 3, .int .i64, .sl 3], true, [(0, 31), (1, 4), (2, 74), (6, 76), (8, 78)], 304, false⟩),
 (83, ⟨[.str, .int .i64, .int .i64, .sl 9], true, [(0, 9), (1, 3), (2, 3), (3, 72)], 56, false⟩),
 (84, ⟨[.int .i64, .sl 3], true, [(0, 3), (1, 33)], 32, false⟩),
 (85, ⟨[.int .i64, .str, .int .i64, .int .i64, .sl 9, .str, .int .i64, .int .i64, .sl 9, .int .i64, .sl 3, .int .i64, .sl 3], true, [(0, 3), (1, 83), (5, 83), (9, 84), (11, 84)], 184, false⟩),
 (86, ⟨[.int .i64, .str, .int .i64, .int .i64, .sl 9, .str, .int .i64, .int .i64, .sl 9, .int .i64, .sl 3, .int .i64, .sl 3], true, [(0, 3), (1, 83), (5, 83), (9, 84), (11, 84)], 184, false⟩),
 (87, ⟨[.sl 122, .bool, .str, .int .i64, .int .i64, .sl 9, .int .i64, .sl 3, .int .i64, .str, .int .i64, .int .i64, .sl 9, .str, .int .i64, .int .i64, .sl 9, .int .i64, .sl 3, .int .i64, .sl 3], true, [(0, 38), (1, 4), (2, 83), (6, 84), (8, 86)], 304, false⟩),
 (88, ⟨[.sl 122, .bool, .str, .int .i64, .int .i64, .sl 9, .int .i64, .sl 3, .int .i64, .str, .int .i64, .int .i64, .sl 9, .str, .int .i64, .int .i64, .sl 9, .int .i64, .sl 3, .int .i64, .sl 3], true, [(0, 38), (1, 4), (2, 83), (6, 84), (8, 86)], 304, false⟩),
 (94, ⟨[.str, .int .i64], true, [(0, 9), (1, 3)], 24, false⟩),
 (95, ⟨[.str, .int .i64], true, [(0, 9), (1, 3)], 24, true⟩),
 (96, ⟨[.str, .int .i64], true, [(0, 9), (1, 3)], 24, true⟩),
 (109, ⟨[.sl 3, .int .i64], true, [(0, 33), (1, 3)], 32, false⟩),
 (110, ⟨[.int .i64, .int .i64, .int .i64, .int .i64, .int .i64, .int .i64, .int .i64, .int .i64, .sl 3, .int .i64, .sl 3, .int .i64, .int .i64, .sl 3, .int .i64, .bool], true, [(0, 3), (1, 3), (2, 3), (3, 3), (4, 3), (5, 3), (6, 3), (7, 3), (8, 109), (10, 109), (12, 3), (13, 109), (15, 4)], 176, false⟩),
 (111, ⟨[.int .i64, .int .i64, .int .i64, .int .i64, .int .i64, .int .i64, .int .i64, .int .i64, .sl 3, .int .i64, .sl 3, .int .i64, .int .i64, .sl 3, .int .i64, .bool], true, [(0, 3), (1, 3), (2, 3), (3, 3), (4, 3), (5, 3), (6, 3), (7, 3), (8, 109), (10, 109), (12, 3), (13, 109), (15, 4)], 176, false⟩),
 (112, ⟨[.sl 216], false, [], 24, false⟩),
 (113, ⟨[.int .i64, .int .i64, .int .i64, .int .i64, .int .i64, .int .i64, .int .i64, .int .i64, .sl 3, .int .i64, .sl 3, .int .i64, .int .i64, .sl 3, .int .i64, .bool, .sl 216], true, [(0, 111), (16, 112)], 200, false⟩),
 (114, ⟨[.int .i64, .int .i64, .int .i64, .int .i64, .int .i64, .int .i64, .int .i64, .int .i64, .sl 3, .int .i64, .sl 3, .int .i64, .int .i64, .sl 3, .int .i64, .bool, .sl 216], true, [(0, 111), (16, 112)], 200, false⟩),
 (115, ⟨[.int .i64, .int .i64, .int .i64, .int .i64, .int .i64, .int .i64, .int .i64, .int .i64, .sl 3, .int .i64, .sl 3, .int .i64, .int .i64, .sl 3, .int .i64, .bool], true, [(0, 3), (1, 3), (2, 3), (3, 3), (4, 3), (5, 3), (6, 3), (7, 3), (8, 35), (10, 35), (12, 3), (13, 35), (15, 4)], 176, false⟩),
 (116, ⟨[.int .i64, .int .i64, .int .i64, .int .i64, .int .i64, .int .i64, .int .i64, .int .i64, .sl 3, .int .i64, .sl 3, .int .i64, .int .i64, .sl 3, .int .i64, .bool], true, [(0, 3), (1, 3), (2, 3), (3, 3), (4, 3), (5, 3), (6, 3), (7, 3), (8, 35), (10, 35), (12, 3), (13, 35), (15, 4)], 176, false⟩),
 (120, ⟨[.sl 184], false, [], 24, false⟩),
 (121, ⟨[.int .i64, .int .i64, .int .i64, .int .i64, .int .i64, .int .i64, .int .i64, .int .i64, .sl 3, .int .i64, .sl 3, .int .i64, .int .i64, .sl 3, .int .i64, .bool, .sl 184], true, [(0, 116), (16, 120)], 200, false⟩),
 (122, ⟨[.int .i64, .int .i64, .int .i64, .int .i64, .int .i64, .int .i64, .int .i64, .int .i64, .sl 3, .int .i64, .sl 3, .int .i64, .int .i64, .sl 3, .int .i64, .bool, .sl 184], true, [(0, 116), (16, 120)], 200, false⟩),
 (133, ⟨[.int .i64, .int .i64, .int .i64, .int .i64, .int .i64, .int .i64, .int .i64, .int .i64, .sl 3, .int .i64, .sl 3, .int .i64, .int .i64, .sl 3, .int .i64, .bool, .sl 184, .int .i64, .int .i64, .int .i64, .int .i64, .int .i64, .int .i64, .int .i64, .int .i64, .sl 3, .int .i64, .sl 3, .int .i64, .int .i64, .sl 3, .int .i64, .bool, .sl 184, .int .i64, .int .i64, .int .i64, .int .i64, .int .i64, .int .i64, .int .i64, .int .i64, .sl 3, .int .i64, .sl 3, .int .i64, .int .i64, .sl 3, .int .i64, .bool, .sl 184], true, [(0, 122), (17, 122), (34, 122)], 600, false⟩),
 (134, ⟨[.int .i64, .int .i64, .int .i64, .int .i64, .int .i64, .int .i64, .int .i64, .int .i64, .sl 3, .int .i64, .sl 3, .int .i64, .int .i64, .sl 3, .int .i64, .bool, .sl 184, .int .i64, .int .i64, .int .i64, .int .i64, .int .i64, .int .i64, .int .i64, .int .i64, .sl 3, .int .i64, .sl 3, .int .i64, .int .i64, .sl 3, .int .i64, .bool, .sl 184, .int .i64, .int .i64, .int .i64, .int .i64, .int .i64, .int .i64, .int .i64, .int .i64, .sl 3, .int .i64, .sl 3, .int .i64, .int .i64, .sl 3, .int .i64, .bool, .sl 184], true, [(0, 122), (17, 122), (34, 122)], 600, false⟩),
 (147, ⟨[.int .i64, .str, .sl 122, .bool, .str, .int .i64, .int .i64, .sl 9, .int .i64, .sl 3, .int .i64, .str, .int .i64, .int .i64, .sl 9, .str, .int .i64, .int .i64, .sl 9, .int .i64, .sl 3, .int .i64, .sl 3], true, [(0, 3), (1, 9), (2, 88)], 328, false⟩),
 (148, ⟨[.int .i64, .str, .sl 122, .bool, .str, .int .i64, .int .i64, .sl 9, .int .i64, .sl 3, .int .i64, .str, .int .i64, .int .i64, .sl 9, .str, .int .i64, .int .i64, .sl 9, .int .i64, .sl 3, .int .i64, .sl 3], true, [(0, 3), (1, 9), (2, 88)], 328, false⟩),
 (174, ⟨[.sl 5], false, [], 24, false⟩),
 (183, ⟨[.int .i64, .int .i64], true, [(0, 3), (1, 3)], 16, false⟩),
 (184, ⟨[.int .i64, .int .i64], true, [(0, 3), (1, 3)], 16, true⟩),
 (186, ⟨[.int .i64, .int .i64, .int .i64, .int .i64, .int .i64, .int .i64, .int .i64, .int .i64, .sl 3, .int .i64, .sl 3, .int .i64, .int .i64, .sl 3, .int .i64, .bool, .sl 216, .int .i64, .int .i64, .int .i64, .int .i64, .int .i64, .int .i64, .int .i64, .int .i64, .sl 3, .int .i64, .sl 3, .int .i64, .int .i64, .sl 3, .int .i64, .bool, .sl 216, .int .i64, .int .i64, .int .i64, .int .i64, .int .i64, .int .i64, .int .i64, .int .i64, .sl 3, .int .i64, .sl 3, .int .i64, .int .i64, .sl 3, .int .i64, .bool, .sl 216], true, [(0, 114), (17, 114), (34, 114)], 600, false⟩),
 (187, ⟨[.int .i64, .int .i64, .int .i64, .int .i64, .int .i64, .int .i64, .int .i64, .int .i64, .sl 3, .int .i64, .sl 3, .int .i64, .int .i64, .sl 3, .int .i64, .bool, .sl 216, .int .i64, .int .i64, .int .i64, .int .i64, .int .i64, .int .i64, .int .i64, .int .i64, .sl 3, .int .i64, .sl 3, .int .i64, .int .i64, .sl 3, .int .i64, .bool, .sl 216, .int .i64, .int .i64, .int .i64, .int .i64, .int .i64, .int .i64, .int .i64, .int .i64, .sl 3, .int .i64, .sl 3, .int .i64, .int .i64, .sl 3, .int .i64, .bool, .sl 216], true, [(0, 114), (17, 114), (34, 114)], 600, false⟩),
 (194, ⟨[.int .i64, .str, .sl 114, .bool, .str, .int .i64, .int .i64, .sl 9, .int .i64, .sl 3, .int .i64, .str, .int .i64, .int .i64, .sl 9, .str, .int .i64, .int .i64, .sl 9, .int .i64, .sl 3, .int .i64, .sl 3], true, [(0, 3), (1, 9), (2, 80)], 328, false⟩),
 (195, ⟨[.int .i64, .str, .sl 114, .bool, .str, .int .i64, .int .i64, .sl 9, .int .i64, .sl 3, .int .i64, .str, .int .i64, .int .i64, .sl 9, .str, .int .i64, .int .i64, .sl 9, .int .i64, .sl 3, .int .i64, .sl 3], true, [(0, 3), (1, 9), (2, 80)], 328, false⟩),
 (216, ⟨[.int .i64, .int .i64], true, [(0, 3), (1, 3)], 16, true⟩),
 (229, ⟨[.int .u32], false, [], 4, false⟩),
 (232, ⟨[.int .i32, .int .u32], true, [(0, 21), (1, 229)], 8, false⟩),
 (233, ⟨[.int .i32, .int .u32], true, [(0, 21), (1, 229)], 8, false⟩),
 (254, ⟨[.sl 83], false, [], 24, false⟩),
 (263, ⟨[.sl 33], false, [], 24, false⟩),
 (322, ⟨[.int .u64], false, [], 8, false⟩),
 (334, ⟨[.int .u8], false, [], 1, false⟩),
 (335, ⟨[.int .u8], false, [], 1, false⟩),
 (338, ⟨[.int .i32], false, [], 4, false⟩),
 (339, ⟨[.int .i32], false, [], 4, false⟩),
 (354, ⟨[.sl 5], false, [], 24, false⟩)]
abbrev Ev : Env := Env0 Tab
theorem tab_ok : tableB Tryz.prog Tab = true := by kernel_rfl
theorem mix : Tryz.prog.follows .mixedOrders = true := by kernel_rfl
namespace Z0
def F (x0 : List (List L)) (x1 : Int) : Ans := (bif (decide ((IntKind.i64.wrap (x1 - (x0.length : Int))) < 0)) then ret ((-1) : Int) else ret ((IntKind.i64.wrap (x1 - (x0.length : Int))) : Int))
def pats : List Pat := [.rd (.sl 3), .rd (.int .i64)]
def res : RP := .one (.rd (.int .i64))
def md (a0 : List Int) (a1 : Int) : Int := szM (szL (fun y : Int => 0) a0) a1
def gd (a0 : List Int) (a1 : Int) : Prop := (SmL maxLen (fun y : Int => True) a0) ∧ 0 ≤ a1 ∧ a1 ≤ 1048576
def acc (ls : List L) : List (List L) × Int := ((ls.headD .hole).toSl, ((dropT 1 ls).headD .hole).toInt)
def R : (List (List L) × Int) → Option Int := RR (p2 gd) (u2 md)
theorem R_eq {a0} {a1} (h : gd a0 a1) : R ((a0.map iRow), a1) = some (md a0 a1) := RR_eq (a := (a0, a1)) h
def con : Con := CN pats res acc R
theorem okF (a0 : List Int) (a1 : Int) (hg : gd a0 a1) : F (a0.map iRow) a1 = ret ((md a0 a1) : Int) := by
  obtain ⟨hs, g0, g1⟩ := hg
  unfold F md
  rw [List.length_map, sz_wrap g0 g1 hs.1]
  have e : szL (fun y : Int => 0) a0 = a0.length := by
    unfold szL
    have : (a0.map (fun y : Int => 0)).sum = 0 := sum_zero (fun _ => rfl) a0
    omega
  rw [e]
  by_cases hc : a1 < ((a0.length : Nat) : Int)
  · rw [szM_neg hc, decide_eq_true (by omega)]; rfl
  · rw [szM_pos hc, decide_eq_false (by omega)]; rfl
theorem valid_ : Valid Tryz.prog Ev 166 con := VV (live := fun _ => []) (nt := 12) (run := fun _ x => F x.1 x.2) mix tab_ok .nil Tryz.func166 (by kernel_rfl) (fun _ _ => by kernel_rfl) (fun _ a _ _ hg => ⟨0, okF a.1 a.2 hg⟩)
end Z0
namespace Z1
def F (x0 : RKeys) (x1 : Int) : Ans := (call (Z0.R (x0.fList, x1)) fun v1 => (bif (decide (v1 < 0)) then ret ((-1) : Int) else ret (v1 : Int)))
def pats : List Pat := [.agg [.sl 3, .int .i64], .rd (.int .i64)]
def res : RP := .one (.rd (.int .i64))
def md (a0 : MKeys) (a1 : Int) : Int := szM (MKeys.size a0) a1
def gd (a0 : MKeys) (a1 : Int) : Prop := (MKeys.Sm maxLen a0) ∧ 0 ≤ a1 ∧ a1 ≤ 1048576
def acc (ls : List L) : RKeys × Int := ((RKeys.dec ls), ((dropT 2 ls).headD .hole).toInt)
def R : (RKeys × Int) → Option Int := RR (p2 gd) (u2 md)
theorem R_eq {a0} {a1} (h : gd a0 a1) : R ((MKeys.r a0), a1) = some (md a0 a1) := RR_eq (a := (a0, a1)) h
def con : Con := CN pats res acc R
theorem okF (a0 : MKeys) (a1 : Int) (hg : gd a0 a1) : F (MKeys.r a0) a1 = ret ((md a0 a1) : Int) := by
  obtain ⟨hs, g0, g1⟩ := hg
  unfold md
  show (call (Z0.R ((a0.fList.map iRow), a1)) fun v1 => (bif (decide (v1 < 0)) then ret ((-1) : Int) else ret (v1 : Int))) = _
  rw [call_eq (Z0.R_eq (a1 := a1) ⟨hs, by omega, by omega⟩)]
  unfold Z0.md
  by_cases c0 : a1 < ((szL (fun y : Int => 0) a0.fList : Nat) : Int)
  · rw [szM_neg c0]; rw [show szM (MKeys.size a0) a1 = -1 from szM_neg (by unfold MKeys.size; omega)]; try rfl
  rw [szM_pos c0, dec_neg (by omega), cond_false]
  rw [show szM (MKeys.size a0) a1 = a1 - ((szL (fun y : Int => 0) a0.fList : Nat) : Int) from by rw [szM_pos (by unfold MKeys.size; omega)]; unfold MKeys.size; omega]
theorem valid_ : Valid Tryz.prog Ev 182 con := VV (live := fun _ => []) (nt := 12) (run := fun _ x => F x.1 x.2) mix tab_ok (.cons Z0.valid_ .nil) Tryz.func182 (by kernel_rfl) (fun _ _ => by kernel_rfl) (fun _ a _ _ hg => ⟨0, okF a.1 a.2 hg⟩)
end Z1
namespace Z2
def F (x0 : RHead) (x1 : Int) : Ans := (call (Z1.R (x0.fKeys, x1)) fun v1 => (bif (decide (v1 < 0)) then ret ((-1) : Int) else (call (Z1.R (x0.fHeirs, v1)) fun v2 => (bif (decide (v2 < 0)) then ret ((-1) : Int) else (call (Z1.R (x0.fJudge, v2)) fun v3 => (bif (decide (v3 < 0)) then ret ((-1) : Int) else ret (v3 : Int)))))))
def pats : List Pat := [.agg [.int .i64, .int .i64, .int .i64, .int .i64, .int .i64, .int .i64, .int .i64, .int .i64, .sl 3, .int .i64, .sl 3, .int .i64, .int .i64, .sl 3, .int .i64, .bool], .rd (.int .i64)]
def res : RP := .one (.rd (.int .i64))
def md (a0 : MHead) (a1 : Int) : Int := szM (MHead.size a0) a1
def gd (a0 : MHead) (a1 : Int) : Prop := (MHead.Sm maxLen a0) ∧ 0 ≤ a1 ∧ a1 ≤ 1048576
def acc (ls : List L) : RHead × Int := ((RHead.dec ls), ((dropT 16 ls).headD .hole).toInt)
def R : (RHead × Int) → Option Int := RR (p2 gd) (u2 md)
theorem R_eq {a0} {a1} (h : gd a0 a1) : R ((MHead.r a0), a1) = some (md a0 a1) := RR_eq (a := (a0, a1)) h
def con : Con := CN pats res acc R
theorem okF (a0 : MHead) (a1 : Int) (hg : gd a0 a1) : F (MHead.r a0) a1 = ret ((md a0 a1) : Int) := by
  obtain ⟨hs, g0, g1⟩ := hg
  unfold md
  show (call (Z1.R ((MKeys.r a0.fKeys), a1)) fun v1 => (bif (decide (v1 < 0)) then ret ((-1) : Int) else (call (Z1.R ((MKeys.r a0.fHeirs), v1)) fun v2 => (bif (decide (v2 < 0)) then ret ((-1) : Int) else (call (Z1.R ((MKeys.r a0.fJudge), v2)) fun v3 => (bif (decide (v3 < 0)) then ret ((-1) : Int) else ret (v3 : Int))))))) = _
  rw [call_eq (Z1.R_eq (a1 := a1) ⟨hs.1, by omega, by omega⟩)]
  unfold Z1.md
  by_cases c0 : a1 < ((MKeys.size a0.fKeys : Nat) : Int)
  · rw [szM_neg c0]; rw [show szM (MHead.size a0) a1 = -1 from szM_neg (by unfold MHead.size; omega)]; try rfl
  rw [szM_pos c0, dec_neg (by omega), cond_false]
  rw [call_eq (Z1.R_eq (a1 := (a1 - ((MKeys.size a0.fKeys : Nat) : Int))) ⟨hs.2.1, by omega, by omega⟩)]
  unfold Z1.md
  by_cases c1 : (a1 - ((MKeys.size a0.fKeys : Nat) : Int)) < ((MKeys.size a0.fHeirs : Nat) : Int)
  · rw [szM_neg c1]; rw [show szM (MHead.size a0) a1 = -1 from szM_neg (by unfold MHead.size; omega)]; try rfl
  rw [szM_pos c1, dec_neg (by omega), cond_false]
  rw [call_eq (Z1.R_eq (a1 := (a1 - ((MKeys.size a0.fKeys : Nat) : Int) - ((MKeys.size a0.fHeirs : Nat) : Int))) ⟨hs.2.2, by omega, by omega⟩)]
  unfold Z1.md
  by_cases c2 : (a1 - ((MKeys.size a0.fKeys : Nat) : Int) - ((MKeys.size a0.fHeirs : Nat) : Int)) < ((MKeys.size a0.fJudge : Nat) : Int)
  · rw [szM_neg c2]; rw [show szM (MHead.size a0) a1 = -1 from szM_neg (by unfold MHead.size; omega)]; try rfl
  rw [szM_pos c2, dec_neg (by omega), cond_false]
  rw [show szM (MHead.size a0) a1 = a1 - ((MKeys.size a0.fKeys : Nat) : Int) - ((MKeys.size a0.fHeirs : Nat) : Int) - ((MKeys.size a0.fJudge : Nat) : Int) from by rw [szM_pos (by unfold MHead.size; omega)]; unfold MHead.size; omega]
theorem valid_ : Valid Tryz.prog Ev 127 con := VV (live := fun _ => []) (nt := 24) (run := fun _ x => F x.1 x.2) mix tab_ok (.cons Z1.valid_ .nil) Tryz.func127 (by kernel_rfl) (fun _ _ => by kernel_rfl) (fun _ a _ _ hg => ⟨0, okF a.1 a.2 hg⟩)
end Z2
namespace Z3
def F (x0 : List (List L)) (x1 : Int) : Ans := (bif (decide ((IntKind.i64.wrap (x1 - (x0.length : Int))) < 0)) then ret ((-1) : Int) else ret ((IntKind.i64.wrap (x1 - (x0.length : Int))) : Int))
def pats : List Pat := [.rd (.sl 216), .rd (.int .i64)]
def res : RP := .one (.rd (.int .i64))
def md (a0 : List MSig) (a1 : Int) : Int := szM (szL (fun y : MSig => MSig.size y) a0) a1
def gd (a0 : List MSig) (a1 : Int) : Prop := (SmL maxLen (fun y : MSig => MSig.Sm maxLen y) a0) ∧ 0 ≤ a1 ∧ a1 ≤ 1048576
def acc (ls : List L) : List (List L) × Int := ((ls.headD .hole).toSl, ((dropT 1 ls).headD .hole).toInt)
def R : (List (List L) × Int) → Option Int := RR (p2 gd) (u2 md)
theorem R_eq {a0} {a1} (h : gd a0 a1) : R ((a0.map MSig.row), a1) = some (md a0 a1) := RR_eq (a := (a0, a1)) h
def con : Con := CN pats res acc R
theorem okF (a0 : List MSig) (a1 : Int) (hg : gd a0 a1) : F (a0.map MSig.row) a1 = ret ((md a0 a1) : Int) := by
  obtain ⟨hs, g0, g1⟩ := hg
  unfold F md
  rw [List.length_map, sz_wrap g0 g1 hs.1]
  have e : szL (fun y : MSig => MSig.size y) a0 = a0.length := by
    unfold szL
    have : (a0.map (fun y : MSig => MSig.size y)).sum = 0 := sum_zero (fun _ => rfl) a0
    omega
  rw [e]
  by_cases hc : a1 < ((a0.length : Nat) : Int)
  · rw [szM_neg hc, decide_eq_true (by omega)]; rfl
  · rw [szM_pos hc, decide_eq_false (by omega)]; rfl
theorem valid_ : Valid Tryz.prog Ev 128 con := VV (live := fun _ => []) (nt := 12) (run := fun _ x => F x.1 x.2) mix tab_ok .nil Tryz.func128 (by kernel_rfl) (fun _ _ => by kernel_rfl) (fun _ a _ _ hg => ⟨0, okF a.1 a.2 hg⟩)
end Z3
namespace Z4
def F (x0 : RSigned) (x1 : Int) : Ans := (call (Z2.R (x0.fHead, x1)) fun v1 => (bif (decide (v1 < 0)) then ret ((-1) : Int) else (call (Z3.R (x0.fSigs, v1)) fun v2 => (bif (decide (v2 < 0)) then ret ((-1) : Int) else ret (v2 : Int)))))
def pats : List Pat := [.agg [.int .i64, .int .i64, .int .i64, .int .i64, .int .i64, .int .i64, .int .i64, .int .i64, .sl 3, .int .i64, .sl 3, .int .i64, .int .i64, .sl 3, .int .i64, .bool, .sl 216], .rd (.int .i64)]
def res : RP := .one (.rd (.int .i64))
def md (a0 : MSigned) (a1 : Int) : Int := szM (MSigned.size a0) a1
def gd (a0 : MSigned) (a1 : Int) : Prop := (MSigned.Sm maxLen a0) ∧ 0 ≤ a1 ∧ a1 ≤ 1048576
def acc (ls : List L) : RSigned × Int := ((RSigned.dec ls), ((dropT 17 ls).headD .hole).toInt)
def R : (RSigned × Int) → Option Int := RR (p2 gd) (u2 md)
theorem R_eq {a0} {a1} (h : gd a0 a1) : R ((MSigned.r a0), a1) = some (md a0 a1) := RR_eq (a := (a0, a1)) h
def con : Con := CN pats res acc R
theorem okF (a0 : MSigned) (a1 : Int) (hg : gd a0 a1) : F (MSigned.r a0) a1 = ret ((md a0 a1) : Int) := by
  obtain ⟨hs, g0, g1⟩ := hg
  unfold md
  show (call (Z2.R ((MHead.r a0.fHead), a1)) fun v1 => (bif (decide (v1 < 0)) then ret ((-1) : Int) else (call (Z3.R ((a0.fSigs.map MSig.row), v1)) fun v2 => (bif (decide (v2 < 0)) then ret ((-1) : Int) else ret (v2 : Int))))) = _
  rw [call_eq (Z2.R_eq (a1 := a1) ⟨hs.1, by omega, by omega⟩)]
  unfold Z2.md
  by_cases c0 : a1 < ((MHead.size a0.fHead : Nat) : Int)
  · rw [szM_neg c0]; rw [show szM (MSigned.size a0) a1 = -1 from szM_neg (by unfold MSigned.size; omega)]; try rfl
  rw [szM_pos c0, dec_neg (by omega), cond_false]
  rw [call_eq (Z3.R_eq (a1 := (a1 - ((MHead.size a0.fHead : Nat) : Int))) ⟨hs.2, by omega, by omega⟩)]
  unfold Z3.md
  by_cases c1 : (a1 - ((MHead.size a0.fHead : Nat) : Int)) < ((szL (fun y : MSig => MSig.size y) a0.fSigs : Nat) : Int)
  · rw [szM_neg c1]; rw [show szM (MSigned.size a0) a1 = -1 from szM_neg (by unfold MSigned.size; omega)]; try rfl
  rw [szM_pos c1, dec_neg (by omega), cond_false]
  rw [show szM (MSigned.size a0) a1 = a1 - ((MHead.size a0.fHead : Nat) : Int) - ((szL (fun y : MSig => MSig.size y) a0.fSigs : Nat) : Int) from by rw [szM_pos (by unfold MSigned.size; omega)]; unfold MSigned.size; omega]
theorem valid_ : Valid Tryz.prog Ev 61 con := VV (live := fun _ => []) (nt := 18) (run := fun _ x => F x.1 x.2) mix tab_ok (.cons Z2.valid_ (.cons Z3.valid_ .nil)) Tryz.func61 (by kernel_rfl) (fun _ _ => by kernel_rfl) (fun _ a _ _ hg => ⟨0, okF a.1 a.2 hg⟩)
end Z4
namespace Z5
inductive Pt where
 | p0 (a : List (List L)) (b : Int) (c : Int)
def pid : Pt → Nat
 | .p0 .. => 5
def pvs : Pt → List V
 | .p0 a b c => [.sl none 114 a, .int .i64 b, .int .i64 c]
def phs : Pt → List Root
 | .p0 a b c => []
def step (J : Pt → Ans) : Pt → Ans
 | .p0 a b c => (bif (decide (c < (a.length : Int))) then (bif (decide ((0 : Int) ≤ c)) then (bif (decide (c < (a.length : Int))) then (call (Z4.R ((RSigned.at a (Int.toNat c)), b)) fun v1 => (bif (decide (v1 < 0)) then ret ((-1) : Int) else J (.p0 a v1 (IntKind.i64.wrap (c + 1))))) else none) else none) else ret (b : Int))
def start (J : Pt → Ans) (x0 : List (List L)) (x1 : Int) : Ans := (bif (decide ((IntKind.i64.wrap (x1 - (x0.length : Int))) < 0)) then ret ((-1) : Int) else J (.p0 x0 (IntKind.i64.wrap (x1 - (x0.length : Int))) 0))
def live : Nat → Live := fun i => match i with | 5 => [(0, none), (1, none), (5, none)] | _ => []
def pats : List Pat := [.rd (.sl 114), .rd (.int .i64)]
def res : RP := .one (.rd (.int .i64))
abbrev E : Env := { T := assoc Tab, G := conG [(61, Z4.con)], nt := 27 }
theorem step_eq (I : Heads) (p : Pt) : enterC E live I (pid p) (bodyOf Tryz.f15) (stOf (live (pid p)) (pvs p) (phs p)) (doneK E Tryz.f15 res) = step (fun q => I (pid q) (pvs q) (phs q)) p := by
 cases p <;> kernel_rfl
theorem start_eq (I : Heads) (ls : List L) : runC E live I (bodyOf Tryz.f15) (initS pats ls) (doneK E Tryz.f15 res) = start (fun q => I (pid q) (pvs q) (phs q)) (ls.headD .hole).toSl ((dropT 1 ls).headD .hole).toInt := by kernel_rfl
theorem run_eq (n : Nat) (ls : List L) : runF E live Tryz.f15 res n (initS pats ls) = start (iter step n) (ls.headD .hole).toSl ((dropT 1 ls).headD .hole).toInt := runF_iter (id := pid) (vs := pvs) (hs := phs) (step := step) (start := fun J => start J (ls.headD .hole).toSl ((dropT 1 ls).headD .hole).toInt) step_eq (fun I => start_eq I ls) n
def md (a0 : List MSigned) (a1 : Int) : Int := szM (szL (fun y : MSigned => MSigned.size y) a0) a1
def gd (a0 : List MSigned) (a1 : Int) : Prop := (SmL maxLen (fun y : MSigned => MSigned.Sm maxLen y) a0) ∧ 0 ≤ a1 ∧ a1 ≤ 1048576
def acc (ls : List L) : List (List L) × Int := ((ls.headD .hole).toSl, ((dropT 1 ls).headD .hole).toInt)
def R : (List (List L) × Int) → Option Int := RR (p2 gd) (u2 md)
theorem R_eq {a0} {a1} (h : gd a0 a1) : R ((a0.map MSigned.row), a1) = some (md a0 a1) := RR_eq (a := (a0, a1)) h
def con : Con := CN pats res acc R
theorem okF (a0 : List MSigned) (a1 : Int) (hg : gd a0 a1) : ∃ n, start (iter step n) (a0.map MSigned.row) a1 = ret ((md a0 a1) : Int) := by
  obtain ⟨hs, g0, g1⟩ := hg
  unfold start md
  simp only [List.length_map]
  refine sz_list (pt := fun left i => Pt.p0 (a0.map MSigned.row) left (i : Int)) (f := fun y : MSigned => MSigned.size y) hs.1 (fun J i h left p0 p1 => ?_) (fun J left => ?_) g0 g1
  · simp only [step, List.length_map, lt_dec h, zle_dec, cond_true, toNat_nat, MSigned.at_row h]
    rw [call_eq (Z4.R_eq ⟨hs.get h, p0, p1⟩), wrap_succ h hs.1]
    unfold Z4.md
    by_cases hc : left < ((MSigned.size (a0[i]) : Nat) : Int)
    · rw [szM_neg hc, if_pos hc]; rfl
    · rw [szM_pos hc, if_neg hc, dec_neg (by omega)]; rfl
  · simp only [step, List.length_map, nlt_dec, cond_false]
theorem valid_ : Valid Tryz.prog Ev 15 con := VV (run := fun n x => start (iter step n) x.1 x.2) mix tab_ok (.cons Z4.valid_ .nil) Tryz.func15 (by kernel_rfl) run_eq (fun _ a _ _ hg => okF a.1 a.2 hg)
end Z5
namespace Z6
inductive Pt where
 | p0 (a : List (List L)) (b : Int) (c : Int)
def pid : Pt → Nat
 | .p0 .. => 5
def pvs : Pt → List V
 | .p0 a b c => [.sl none 9 a, .int .i64 b, .int .i64 c]
def phs : Pt → List Root
 | .p0 a b c => []
def step (J : Pt → Ans) : Pt → Ans
 | .p0 a b c => (bif (decide (c < (a.length : Int))) then (bif (decide ((0 : Int) ≤ c)) then (bif (decide (c < (a.length : Int))) then (bif (decide ((IntKind.i64.wrap (b - ((sAt a (Int.toNat c)).size : Int))) < 0)) then ret ((-1) : Int) else J (.p0 a (IntKind.i64.wrap (b - ((sAt a (Int.toNat c)).size : Int))) (IntKind.i64.wrap (c + 1)))) else none) else none) else ret (b : Int))
def start (J : Pt → Ans) (x0 : List (List L)) (x1 : Int) : Ans := (bif (decide ((IntKind.i64.wrap (x1 - (x0.length : Int))) < 0)) then ret ((-1) : Int) else J (.p0 x0 (IntKind.i64.wrap (x1 - (x0.length : Int))) 0))
def live : Nat → Live := fun i => match i with | 5 => [(0, none), (1, none), (5, none)] | _ => []
def pats : List Pat := [.rd (.sl 9), .rd (.int .i64)]
def res : RP := .one (.rd (.int .i64))
abbrev E : Env := { T := assoc Tab, G := conG [], nt := 28 }
theorem step_eq (I : Heads) (p : Pt) : enterC E live I (pid p) (bodyOf Tryz.f165) (stOf (live (pid p)) (pvs p) (phs p)) (doneK E Tryz.f165 res) = step (fun q => I (pid q) (pvs q) (phs q)) p := by
 cases p <;> kernel_rfl
theorem start_eq (I : Heads) (ls : List L) : runC E live I (bodyOf Tryz.f165) (initS pats ls) (doneK E Tryz.f165 res) = start (fun q => I (pid q) (pvs q) (phs q)) (ls.headD .hole).toSl ((dropT 1 ls).headD .hole).toInt := by kernel_rfl
theorem run_eq (n : Nat) (ls : List L) : runF E live Tryz.f165 res n (initS pats ls) = start (iter step n) (ls.headD .hole).toSl ((dropT 1 ls).headD .hole).toInt := runF_iter (id := pid) (vs := pvs) (hs := phs) (step := step) (start := fun J => start J (ls.headD .hole).toSl ((dropT 1 ls).headD .hole).toInt) step_eq (fun I => start_eq I ls) n
def md (a0 : List ByteArray) (a1 : Int) : Int := szM (szL (fun y : ByteArray => y.size) a0) a1
def gd (a0 : List ByteArray) (a1 : Int) : Prop := (SmL maxLen (fun y : ByteArray => y.size ≤ maxLen) a0) ∧ 0 ≤ a1 ∧ a1 ≤ 1048576
def acc (ls : List L) : List (List L) × Int := ((ls.headD .hole).toSl, ((dropT 1 ls).headD .hole).toInt)
def R : (List (List L) × Int) → Option Int := RR (p2 gd) (u2 md)
theorem R_eq {a0} {a1} (h : gd a0 a1) : R ((a0.map sRow), a1) = some (md a0 a1) := RR_eq (a := (a0, a1)) h
def con : Con := CN pats res acc R
theorem okF (a0 : List ByteArray) (a1 : Int) (hg : gd a0 a1) : ∃ n, start (iter step n) (a0.map sRow) a1 = ret ((md a0 a1) : Int) := by
  obtain ⟨hs, g0, g1⟩ := hg
  unfold start md
  simp only [List.length_map]
  refine sz_list (pt := fun left i => Pt.p0 (a0.map sRow) left (i : Int)) (f := fun y : ByteArray => y.size) hs.1 (fun J i h left p0 p1 => ?_) (fun J left => ?_) g0 g1
  · simp only [step, List.length_map, lt_dec h, zle_dec, cond_true, toNat_nat, sAt_row h]
    rw [sz_wrap p0 p1 (hs.get h), wrap_succ h hs.1]
    by_cases hc : left - ((a0[i].size : Nat) : Int) < 0
    · rw [decide_eq_true hc, if_pos (by omega)]; rfl
    · rw [decide_eq_false hc, if_neg (by omega)]; rfl
  · simp only [step, List.length_map, nlt_dec, cond_false]
theorem valid_ : Valid Tryz.prog Ev 165 con := VV (run := fun n x => start (iter step n) x.1 x.2) mix tab_ok .nil Tryz.func165 (by kernel_rfl) run_eq (fun _ a _ _ hg => okF a.1 a.2 hg)
end Z6
namespace Z7
def F (x0 : REntry) (x1 : Int) : Ans := (bif (decide ((IntKind.i64.wrap (x1 - (x0.fLabel.size : Int))) < 0)) then ret ((-1) : Int) else (call (Z6.R (x0.fPath, (IntKind.i64.wrap (x1 - (x0.fLabel.size : Int))))) fun v1 => (bif (decide (v1 < 0)) then ret ((-1) : Int) else ret (v1 : Int))))
def pats : List Pat := [.agg [.str, .int .i64, .int .i64, .sl 9], .rd (.int .i64)]
def res : RP := .one (.rd (.int .i64))
def md (a0 : MEntry) (a1 : Int) : Int := szM (MEntry.size a0) a1
def gd (a0 : MEntry) (a1 : Int) : Prop := (MEntry.Sm maxLen a0) ∧ 0 ≤ a1 ∧ a1 ≤ 1048576
def acc (ls : List L) : REntry × Int := ((REntry.dec ls), ((dropT 4 ls).headD .hole).toInt)
def R : (REntry × Int) → Option Int := RR (p2 gd) (u2 md)
theorem R_eq {a0} {a1} (h : gd a0 a1) : R ((MEntry.r a0), a1) = some (md a0 a1) := RR_eq (a := (a0, a1)) h
def con : Con := CN pats res acc R
theorem okF (a0 : MEntry) (a1 : Int) (hg : gd a0 a1) : F (MEntry.r a0) a1 = ret ((md a0 a1) : Int) := by
  obtain ⟨hs, g0, g1⟩ := hg
  unfold md
  show (bif (decide ((IntKind.i64.wrap (a1 - (a0.fLabel.size : Int))) < 0)) then ret ((-1) : Int) else (call (Z6.R ((a0.fPath.map sRow), (IntKind.i64.wrap (a1 - (a0.fLabel.size : Int))))) fun v1 => (bif (decide (v1 < 0)) then ret ((-1) : Int) else ret (v1 : Int)))) = _
  rw [sz_wrap (left := a1) (s := a0.fLabel.size) (by omega) (by omega) hs.1]
  by_cases c0 : a1 - ((a0.fLabel.size : Nat) : Int) < 0
  · rw [decide_eq_true c0, cond_true]; rw [show szM (MEntry.size a0) a1 = -1 from szM_neg (by unfold MEntry.size; omega)]; try rfl
  rw [decide_eq_false c0, cond_false]
  rw [call_eq (Z6.R_eq (a1 := (a1 - ((a0.fLabel.size : Nat) : Int))) ⟨hs.2, by omega, by omega⟩)]
  unfold Z6.md
  by_cases c1 : (a1 - ((a0.fLabel.size : Nat) : Int)) < ((szL (fun y : ByteArray => y.size) a0.fPath : Nat) : Int)
  · rw [szM_neg c1]; rw [show szM (MEntry.size a0) a1 = -1 from szM_neg (by unfold MEntry.size; omega)]; try rfl
  rw [szM_pos c1, dec_neg (by omega), cond_false]
  rw [show szM (MEntry.size a0) a1 = a1 - ((a0.fLabel.size : Nat) : Int) - ((szL (fun y : ByteArray => y.size) a0.fPath : Nat) : Int) from by rw [szM_pos (by unfold MEntry.size; omega)]; unfold MEntry.size; omega]
theorem valid_ : Valid Tryz.prog Ev 102 con := VV (live := fun _ => []) (nt := 19) (run := fun _ x => F x.1 x.2) mix tab_ok (.cons Z6.valid_ .nil) Tryz.func102 (by kernel_rfl) (fun _ _ => by kernel_rfl) (fun _ a _ _ hg => ⟨0, okF a.1 a.2 hg⟩)
end Z7
namespace Z8
def F (x0 : RProof) (x1 : Int) : Ans := (call (Z0.R (x0.fPath, x1)) fun v1 => (bif (decide (v1 < 0)) then ret ((-1) : Int) else ret (v1 : Int)))
def pats : List Pat := [.agg [.int .i64, .sl 3], .rd (.int .i64)]
def res : RP := .one (.rd (.int .i64))
def md (a0 : MProof) (a1 : Int) : Int := szM (MProof.size a0) a1
def gd (a0 : MProof) (a1 : Int) : Prop := (MProof.Sm maxLen a0) ∧ 0 ≤ a1 ∧ a1 ≤ 1048576
def acc (ls : List L) : RProof × Int := ((RProof.dec ls), ((dropT 2 ls).headD .hole).toInt)
def R : (RProof × Int) → Option Int := RR (p2 gd) (u2 md)
theorem R_eq {a0} {a1} (h : gd a0 a1) : R ((MProof.r a0), a1) = some (md a0 a1) := RR_eq (a := (a0, a1)) h
def con : Con := CN pats res acc R
theorem okF (a0 : MProof) (a1 : Int) (hg : gd a0 a1) : F (MProof.r a0) a1 = ret ((md a0 a1) : Int) := by
  obtain ⟨hs, g0, g1⟩ := hg
  unfold md
  show (call (Z0.R ((a0.fPath.map iRow), a1)) fun v1 => (bif (decide (v1 < 0)) then ret ((-1) : Int) else ret (v1 : Int))) = _
  rw [call_eq (Z0.R_eq (a1 := a1) ⟨hs, by omega, by omega⟩)]
  unfold Z0.md
  by_cases c0 : a1 < ((szL (fun y : Int => 0) a0.fPath : Nat) : Int)
  · rw [szM_neg c0]; rw [show szM (MProof.size a0) a1 = -1 from szM_neg (by unfold MProof.size; omega)]; try rfl
  rw [szM_pos c0, dec_neg (by omega), cond_false]
  rw [show szM (MProof.size a0) a1 = a1 - ((szL (fun y : Int => 0) a0.fPath : Nat) : Int) from by rw [szM_pos (by unfold MProof.size; omega)]; unfold MProof.size; omega]
theorem valid_ : Valid Tryz.prog Ev 103 con := VV (live := fun _ => []) (nt := 12) (run := fun _ x => F x.1 x.2) mix tab_ok (.cons Z0.valid_ .nil) Tryz.func103 (by kernel_rfl) (fun _ _ => by kernel_rfl) (fun _ a _ _ hg => ⟨0, okF a.1 a.2 hg⟩)
end Z8
namespace Z9
def F (x0 : RGap) (x1 : Int) : Ans := (call (Z7.R (x0.fBefore, x1)) fun v1 => (bif (decide (v1 < 0)) then ret ((-1) : Int) else (call (Z7.R (x0.fAfter, v1)) fun v2 => (bif (decide (v2 < 0)) then ret ((-1) : Int) else (call (Z8.R (x0.fLeft, v2)) fun v3 => (bif (decide (v3 < 0)) then ret ((-1) : Int) else (call (Z8.R (x0.fRight, v3)) fun v4 => (bif (decide (v4 < 0)) then ret ((-1) : Int) else ret (v4 : Int)))))))))
def pats : List Pat := [.agg [.int .i64, .str, .int .i64, .int .i64, .sl 9, .str, .int .i64, .int .i64, .sl 9, .int .i64, .sl 3, .int .i64, .sl 3], .rd (.int .i64)]
def res : RP := .one (.rd (.int .i64))
def md (a0 : MGap) (a1 : Int) : Int := szM (MGap.size a0) a1
def gd (a0 : MGap) (a1 : Int) : Prop := (MGap.Sm maxLen a0) ∧ 0 ≤ a1 ∧ a1 ≤ 1048576
def acc (ls : List L) : RGap × Int := ((RGap.dec ls), ((dropT 13 ls).headD .hole).toInt)
def R : (RGap × Int) → Option Int := RR (p2 gd) (u2 md)
theorem R_eq {a0} {a1} (h : gd a0 a1) : R ((MGap.r a0), a1) = some (md a0 a1) := RR_eq (a := (a0, a1)) h
def con : Con := CN pats res acc R
theorem okF (a0 : MGap) (a1 : Int) (hg : gd a0 a1) : F (MGap.r a0) a1 = ret ((md a0 a1) : Int) := by
  obtain ⟨hs, g0, g1⟩ := hg
  unfold md
  show (call (Z7.R ((MEntry.r a0.fBefore), a1)) fun v1 => (bif (decide (v1 < 0)) then ret ((-1) : Int) else (call (Z7.R ((MEntry.r a0.fAfter), v1)) fun v2 => (bif (decide (v2 < 0)) then ret ((-1) : Int) else (call (Z8.R ((MProof.r a0.fLeft), v2)) fun v3 => (bif (decide (v3 < 0)) then ret ((-1) : Int) else (call (Z8.R ((MProof.r a0.fRight), v3)) fun v4 => (bif (decide (v4 < 0)) then ret ((-1) : Int) else ret (v4 : Int))))))))) = _
  rw [call_eq (Z7.R_eq (a1 := a1) ⟨hs.1, by omega, by omega⟩)]
  unfold Z7.md
  by_cases c0 : a1 < ((MEntry.size a0.fBefore : Nat) : Int)
  · rw [szM_neg c0]; rw [show szM (MGap.size a0) a1 = -1 from szM_neg (by unfold MGap.size; omega)]; try rfl
  rw [szM_pos c0, dec_neg (by omega), cond_false]
  rw [call_eq (Z7.R_eq (a1 := (a1 - ((MEntry.size a0.fBefore : Nat) : Int))) ⟨hs.2.1, by omega, by omega⟩)]
  unfold Z7.md
  by_cases c1 : (a1 - ((MEntry.size a0.fBefore : Nat) : Int)) < ((MEntry.size a0.fAfter : Nat) : Int)
  · rw [szM_neg c1]; rw [show szM (MGap.size a0) a1 = -1 from szM_neg (by unfold MGap.size; omega)]; try rfl
  rw [szM_pos c1, dec_neg (by omega), cond_false]
  rw [call_eq (Z8.R_eq (a1 := (a1 - ((MEntry.size a0.fBefore : Nat) : Int) - ((MEntry.size a0.fAfter : Nat) : Int))) ⟨hs.2.2.1, by omega, by omega⟩)]
  unfold Z8.md
  by_cases c2 : (a1 - ((MEntry.size a0.fBefore : Nat) : Int) - ((MEntry.size a0.fAfter : Nat) : Int)) < ((MProof.size a0.fLeft : Nat) : Int)
  · rw [szM_neg c2]; rw [show szM (MGap.size a0) a1 = -1 from szM_neg (by unfold MGap.size; omega)]; try rfl
  rw [szM_pos c2, dec_neg (by omega), cond_false]
  rw [call_eq (Z8.R_eq (a1 := (a1 - ((MEntry.size a0.fBefore : Nat) : Int) - ((MEntry.size a0.fAfter : Nat) : Int) - ((MProof.size a0.fLeft : Nat) : Int))) ⟨hs.2.2.2, by omega, by omega⟩)]
  unfold Z8.md
  by_cases c3 : (a1 - ((MEntry.size a0.fBefore : Nat) : Int) - ((MEntry.size a0.fAfter : Nat) : Int) - ((MProof.size a0.fLeft : Nat) : Int)) < ((MProof.size a0.fRight : Nat) : Int)
  · rw [szM_neg c3]; rw [show szM (MGap.size a0) a1 = -1 from szM_neg (by unfold MGap.size; omega)]; try rfl
  rw [szM_pos c3, dec_neg (by omega), cond_false]
  rw [show szM (MGap.size a0) a1 = a1 - ((MEntry.size a0.fBefore : Nat) : Int) - ((MEntry.size a0.fAfter : Nat) : Int) - ((MProof.size a0.fLeft : Nat) : Int) - ((MProof.size a0.fRight : Nat) : Int) from by rw [szM_pos (by unfold MGap.size; omega)]; unfold MGap.size; omega]
theorem valid_ : Valid Tryz.prog Ev 104 con := VV (live := fun _ => []) (nt := 30) (run := fun _ x => F x.1 x.2) mix tab_ok (.cons Z7.valid_ (.cons Z8.valid_ .nil)) Tryz.func104 (by kernel_rfl) (fun _ _ => by kernel_rfl) (fun _ a _ _ hg => ⟨0, okF a.1 a.2 hg⟩)
end Z9
namespace Z10
def F (x0 : RAnswer) (x1 : Int) : Ans := (call (Z5.R (x0.fChain, x1)) fun v1 => (bif (decide (v1 < 0)) then ret ((-1) : Int) else (call (Z7.R (x0.fEntry, v1)) fun v2 => (bif (decide (v2 < 0)) then ret ((-1) : Int) else (call (Z8.R (x0.fProof, v2)) fun v3 => (bif (decide (v3 < 0)) then ret ((-1) : Int) else (call (Z9.R (x0.fGap, v3)) fun v4 => (bif (decide (v4 < 0)) then ret ((-1) : Int) else ret (v4 : Int)))))))))
def pats : List Pat := [.agg [.sl 114, .bool, .str, .int .i64, .int .i64, .sl 9, .int .i64, .sl 3, .int .i64, .str, .int .i64, .int .i64, .sl 9, .str, .int .i64, .int .i64, .sl 9, .int .i64, .sl 3, .int .i64, .sl 3], .rd (.int .i64)]
def res : RP := .one (.rd (.int .i64))
def md (a0 : MAnswer) (a1 : Int) : Int := szM (MAnswer.size a0) a1
def gd (a0 : MAnswer) (a1 : Int) : Prop := (MAnswer.Sm maxLen a0) ∧ 0 ≤ a1 ∧ a1 ≤ 1048576
def acc (ls : List L) : RAnswer × Int := ((RAnswer.dec ls), ((dropT 21 ls).headD .hole).toInt)
def R : (RAnswer × Int) → Option Int := RR (p2 gd) (u2 md)
theorem R_eq {a0} {a1} (h : gd a0 a1) : R ((MAnswer.r a0), a1) = some (md a0 a1) := RR_eq (a := (a0, a1)) h
def con : Con := CN pats res acc R
theorem okF (a0 : MAnswer) (a1 : Int) (hg : gd a0 a1) : F (MAnswer.r a0) a1 = ret ((md a0 a1) : Int) := by
  obtain ⟨hs, g0, g1⟩ := hg
  unfold md
  show (call (Z5.R ((a0.fChain.map MSigned.row), a1)) fun v1 => (bif (decide (v1 < 0)) then ret ((-1) : Int) else (call (Z7.R ((MEntry.r a0.fEntry), v1)) fun v2 => (bif (decide (v2 < 0)) then ret ((-1) : Int) else (call (Z8.R ((MProof.r a0.fProof), v2)) fun v3 => (bif (decide (v3 < 0)) then ret ((-1) : Int) else (call (Z9.R ((MGap.r a0.fGap), v3)) fun v4 => (bif (decide (v4 < 0)) then ret ((-1) : Int) else ret (v4 : Int))))))))) = _
  rw [call_eq (Z5.R_eq (a1 := a1) ⟨hs.1, by omega, by omega⟩)]
  unfold Z5.md
  by_cases c0 : a1 < ((szL (fun y : MSigned => MSigned.size y) a0.fChain : Nat) : Int)
  · rw [szM_neg c0]; rw [show szM (MAnswer.size a0) a1 = -1 from szM_neg (by unfold MAnswer.size; omega)]; try rfl
  rw [szM_pos c0, dec_neg (by omega), cond_false]
  rw [call_eq (Z7.R_eq (a1 := (a1 - ((szL (fun y : MSigned => MSigned.size y) a0.fChain : Nat) : Int))) ⟨hs.2.1, by omega, by omega⟩)]
  unfold Z7.md
  by_cases c1 : (a1 - ((szL (fun y : MSigned => MSigned.size y) a0.fChain : Nat) : Int)) < ((MEntry.size a0.fEntry : Nat) : Int)
  · rw [szM_neg c1]; rw [show szM (MAnswer.size a0) a1 = -1 from szM_neg (by unfold MAnswer.size; omega)]; try rfl
  rw [szM_pos c1, dec_neg (by omega), cond_false]
  rw [call_eq (Z8.R_eq (a1 := (a1 - ((szL (fun y : MSigned => MSigned.size y) a0.fChain : Nat) : Int) - ((MEntry.size a0.fEntry : Nat) : Int))) ⟨hs.2.2.1, by omega, by omega⟩)]
  unfold Z8.md
  by_cases c2 : (a1 - ((szL (fun y : MSigned => MSigned.size y) a0.fChain : Nat) : Int) - ((MEntry.size a0.fEntry : Nat) : Int)) < ((MProof.size a0.fProof : Nat) : Int)
  · rw [szM_neg c2]; rw [show szM (MAnswer.size a0) a1 = -1 from szM_neg (by unfold MAnswer.size; omega)]; try rfl
  rw [szM_pos c2, dec_neg (by omega), cond_false]
  rw [call_eq (Z9.R_eq (a1 := (a1 - ((szL (fun y : MSigned => MSigned.size y) a0.fChain : Nat) : Int) - ((MEntry.size a0.fEntry : Nat) : Int) - ((MProof.size a0.fProof : Nat) : Int))) ⟨hs.2.2.2, by omega, by omega⟩)]
  unfold Z9.md
  by_cases c3 : (a1 - ((szL (fun y : MSigned => MSigned.size y) a0.fChain : Nat) : Int) - ((MEntry.size a0.fEntry : Nat) : Int) - ((MProof.size a0.fProof : Nat) : Int)) < ((MGap.size a0.fGap : Nat) : Int)
  · rw [szM_neg c3]; rw [show szM (MAnswer.size a0) a1 = -1 from szM_neg (by unfold MAnswer.size; omega)]; try rfl
  rw [szM_pos c3, dec_neg (by omega), cond_false]
  rw [show szM (MAnswer.size a0) a1 = a1 - ((szL (fun y : MSigned => MSigned.size y) a0.fChain : Nat) : Int) - ((MEntry.size a0.fEntry : Nat) : Int) - ((MProof.size a0.fProof : Nat) : Int) - ((MGap.size a0.fGap : Nat) : Int) from by rw [szM_pos (by unfold MAnswer.size; omega)]; unfold MAnswer.size; omega]
theorem valid_ : Valid Tryz.prog Ev 38 con := VV (live := fun _ => []) (nt := 30) (run := fun _ x => F x.1 x.2) mix tab_ok (.cons Z5.valid_ (.cons Z7.valid_ (.cons Z8.valid_ (.cons Z9.valid_ .nil)))) Tryz.func38 (by kernel_rfl) (fun _ _ => by kernel_rfl) (fun _ a _ _ hg => ⟨0, okF a.1 a.2 hg⟩)
end Z10
namespace Z11
def F (x0 : RStored) (x1 : Int) : Ans := (bif (decide ((IntKind.i64.wrap (x1 - (x0.fLabel.size : Int))) < 0)) then ret ((-1) : Int) else (call (Z10.R (x0.fAnswer, (IntKind.i64.wrap (x1 - (x0.fLabel.size : Int))))) fun v1 => (bif (decide (v1 < 0)) then ret ((-1) : Int) else ret (v1 : Int))))
def pats : List Pat := [.agg [.int .i64, .str, .sl 114, .bool, .str, .int .i64, .int .i64, .sl 9, .int .i64, .sl 3, .int .i64, .str, .int .i64, .int .i64, .sl 9, .str, .int .i64, .int .i64, .sl 9, .int .i64, .sl 3, .int .i64, .sl 3], .rd (.int .i64)]
def res : RP := .one (.rd (.int .i64))
def md (a0 : MStored) (a1 : Int) : Int := szM (MStored.size a0) a1
def gd (a0 : MStored) (a1 : Int) : Prop := (MStored.Sm maxLen a0) ∧ 0 ≤ a1 ∧ a1 ≤ 1048576
def acc (ls : List L) : RStored × Int := ((RStored.dec ls), ((dropT 23 ls).headD .hole).toInt)
def R : (RStored × Int) → Option Int := RR (p2 gd) (u2 md)
theorem R_eq {a0} {a1} (h : gd a0 a1) : R ((MStored.r a0), a1) = some (md a0 a1) := RR_eq (a := (a0, a1)) h
def con : Con := CN pats res acc R
theorem okF (a0 : MStored) (a1 : Int) (hg : gd a0 a1) : F (MStored.r a0) a1 = ret ((md a0 a1) : Int) := by
  obtain ⟨hs, g0, g1⟩ := hg
  unfold md
  show (bif (decide ((IntKind.i64.wrap (a1 - (a0.fLabel.size : Int))) < 0)) then ret ((-1) : Int) else (call (Z10.R ((MAnswer.r a0.fAnswer), (IntKind.i64.wrap (a1 - (a0.fLabel.size : Int))))) fun v1 => (bif (decide (v1 < 0)) then ret ((-1) : Int) else ret (v1 : Int)))) = _
  rw [sz_wrap (left := a1) (s := a0.fLabel.size) (by omega) (by omega) hs.1]
  by_cases c0 : a1 - ((a0.fLabel.size : Nat) : Int) < 0
  · rw [decide_eq_true c0, cond_true]; rw [show szM (MStored.size a0) a1 = -1 from szM_neg (by unfold MStored.size; omega)]; try rfl
  rw [decide_eq_false c0, cond_false]
  rw [call_eq (Z10.R_eq (a1 := (a1 - ((a0.fLabel.size : Nat) : Int))) ⟨hs.2, by omega, by omega⟩)]
  unfold Z10.md
  by_cases c1 : (a1 - ((a0.fLabel.size : Nat) : Int)) < ((MAnswer.size a0.fAnswer : Nat) : Int)
  · rw [szM_neg c1]; rw [show szM (MStored.size a0) a1 = -1 from szM_neg (by unfold MStored.size; omega)]; try rfl
  rw [szM_pos c1, dec_neg (by omega), cond_false]
  rw [show szM (MStored.size a0) a1 = a1 - ((a0.fLabel.size : Nat) : Int) - ((MAnswer.size a0.fAnswer : Nat) : Int) from by rw [szM_pos (by unfold MStored.size; omega)]; unfold MStored.size; omega]
theorem valid_ : Valid Tryz.prog Ev 152 con := VV (live := fun _ => []) (nt := 19) (run := fun _ x => F x.1 x.2) mix tab_ok (.cons Z10.valid_ .nil) Tryz.func152 (by kernel_rfl) (fun _ _ => by kernel_rfl) (fun _ a _ _ hg => ⟨0, okF a.1 a.2 hg⟩)
end Z11
namespace Z12
inductive Pt where
 | p0 (a : List (List L)) (b : Int) (c : Int)
def pid : Pt → Nat
 | .p0 .. => 5
def pvs : Pt → List V
 | .p0 a b c => [.sl none 195 a, .int .i64 b, .int .i64 c]
def phs : Pt → List Root
 | .p0 a b c => []
def step (J : Pt → Ans) : Pt → Ans
 | .p0 a b c => (bif (decide (c < (a.length : Int))) then (bif (decide ((0 : Int) ≤ c)) then (bif (decide (c < (a.length : Int))) then (call (Z11.R ((RStored.at a (Int.toNat c)), b)) fun v1 => (bif (decide (v1 < 0)) then ret ((-1) : Int) else J (.p0 a v1 (IntKind.i64.wrap (c + 1))))) else none) else none) else ret (b : Int))
def start (J : Pt → Ans) (x0 : List (List L)) (x1 : Int) : Ans := (bif (decide ((IntKind.i64.wrap (x1 - (x0.length : Int))) < 0)) then ret ((-1) : Int) else J (.p0 x0 (IntKind.i64.wrap (x1 - (x0.length : Int))) 0))
def live : Nat → Live := fun i => match i with | 5 => [(0, none), (1, none), (5, none)] | _ => []
def pats : List Pat := [.rd (.sl 195), .rd (.int .i64)]
def res : RP := .one (.rd (.int .i64))
abbrev E : Env := { T := assoc Tab, G := conG [(152, Z11.con)], nt := 27 }
theorem step_eq (I : Heads) (p : Pt) : enterC E live I (pid p) (bodyOf Tryz.f91) (stOf (live (pid p)) (pvs p) (phs p)) (doneK E Tryz.f91 res) = step (fun q => I (pid q) (pvs q) (phs q)) p := by
 cases p <;> kernel_rfl
theorem start_eq (I : Heads) (ls : List L) : runC E live I (bodyOf Tryz.f91) (initS pats ls) (doneK E Tryz.f91 res) = start (fun q => I (pid q) (pvs q) (phs q)) (ls.headD .hole).toSl ((dropT 1 ls).headD .hole).toInt := by kernel_rfl
theorem run_eq (n : Nat) (ls : List L) : runF E live Tryz.f91 res n (initS pats ls) = start (iter step n) (ls.headD .hole).toSl ((dropT 1 ls).headD .hole).toInt := runF_iter (id := pid) (vs := pvs) (hs := phs) (step := step) (start := fun J => start J (ls.headD .hole).toSl ((dropT 1 ls).headD .hole).toInt) step_eq (fun I => start_eq I ls) n
def md (a0 : List MStored) (a1 : Int) : Int := szM (szL (fun y : MStored => MStored.size y) a0) a1
def gd (a0 : List MStored) (a1 : Int) : Prop := (SmL maxLen (fun y : MStored => MStored.Sm maxLen y) a0) ∧ 0 ≤ a1 ∧ a1 ≤ 1048576
def acc (ls : List L) : List (List L) × Int := ((ls.headD .hole).toSl, ((dropT 1 ls).headD .hole).toInt)
def R : (List (List L) × Int) → Option Int := RR (p2 gd) (u2 md)
theorem R_eq {a0} {a1} (h : gd a0 a1) : R ((a0.map MStored.row), a1) = some (md a0 a1) := RR_eq (a := (a0, a1)) h
def con : Con := CN pats res acc R
theorem okF (a0 : List MStored) (a1 : Int) (hg : gd a0 a1) : ∃ n, start (iter step n) (a0.map MStored.row) a1 = ret ((md a0 a1) : Int) := by
  obtain ⟨hs, g0, g1⟩ := hg
  unfold start md
  simp only [List.length_map]
  refine sz_list (pt := fun left i => Pt.p0 (a0.map MStored.row) left (i : Int)) (f := fun y : MStored => MStored.size y) hs.1 (fun J i h left p0 p1 => ?_) (fun J left => ?_) g0 g1
  · simp only [step, List.length_map, lt_dec h, zle_dec, cond_true, toNat_nat, MStored.at_row h]
    rw [call_eq (Z11.R_eq ⟨hs.get h, p0, p1⟩), wrap_succ h hs.1]
    unfold Z11.md
    by_cases hc : left < ((MStored.size (a0[i]) : Nat) : Int)
    · rw [szM_neg hc, if_pos hc]; rfl
    · rw [szM_pos hc, if_neg hc, dec_neg (by omega)]; rfl
  · simp only [step, List.length_map, nlt_dec, cond_false]
theorem valid_ : Valid Tryz.prog Ev 91 con := VV (run := fun n x => start (iter step n) x.1 x.2) mix tab_ok (.cons Z11.valid_ .nil) Tryz.func91 (by kernel_rfl) run_eq (fun _ a _ _ hg => okF a.1 a.2 hg)
end Z12
namespace Z13
def F (x0 : RCache) (x1 : Int) : Ans := (call (Z12.R (x0.fList, x1)) fun v1 => (bif (decide (v1 < 0)) then ret ((-1) : Int) else ret (v1 : Int)))
def pats : List Pat := [.agg [.sl 195], .rd (.int .i64)]
def res : RP := .one (.rd (.int .i64))
def md (a0 : MCache) (a1 : Int) : Int := szM (MCache.size a0) a1
def gd (a0 : MCache) (a1 : Int) : Prop := (MCache.Sm maxLen a0) ∧ 0 ≤ a1 ∧ a1 ≤ 1048576
def acc (ls : List L) : RCache × Int := ((RCache.dec ls), ((dropT 1 ls).headD .hole).toInt)
def R : (RCache × Int) → Option Int := RR (p2 gd) (u2 md)
theorem R_eq {a0} {a1} (h : gd a0 a1) : R ((MCache.r a0), a1) = some (md a0 a1) := RR_eq (a := (a0, a1)) h
def con : Con := CN pats res acc R
theorem okF (a0 : MCache) (a1 : Int) (hg : gd a0 a1) : F (MCache.r a0) a1 = ret ((md a0 a1) : Int) := by
  obtain ⟨hs, g0, g1⟩ := hg
  unfold md
  show (call (Z12.R ((a0.fList.map MStored.row), a1)) fun v1 => (bif (decide (v1 < 0)) then ret ((-1) : Int) else ret (v1 : Int))) = _
  rw [call_eq (Z12.R_eq (a1 := a1) ⟨hs, by omega, by omega⟩)]
  unfold Z12.md
  by_cases c0 : a1 < ((szL (fun y : MStored => MStored.size y) a0.fList : Nat) : Int)
  · rw [szM_neg c0]; rw [show szM (MCache.size a0) a1 = -1 from szM_neg (by unfold MCache.size; omega)]; try rfl
  rw [szM_pos c0, dec_neg (by omega), cond_false]
  rw [show szM (MCache.size a0) a1 = a1 - ((szL (fun y : MStored => MStored.size y) a0.fList : Nat) : Int) from by rw [szM_pos (by unfold MCache.size; omega)]; unfold MCache.size; omega]
theorem valid_ : Valid Tryz.prog Ev 31 con := VV (live := fun _ => []) (nt := 12) (run := fun _ x => F x.1 x.2) mix tab_ok (.cons Z12.valid_ .nil) Tryz.func31 (by kernel_rfl) (fun _ _ => by kernel_rfl) (fun _ a _ _ hg => ⟨0, okF a.1 a.2 hg⟩)
end Z13
namespace Z14
inductive Pt where
 | p0 (a : List (List L)) (b : Int) (c : List (List L))
def pid : Pt → Nat
 | .p0 .. => 3
def pvs : Pt → List V
 | .p0 a b c => [.sl none 3 a, .own 0, .int .i64 b]
def phs : Pt → List Root
 | .p0 a b c => [.row 3 c]
def step (J : Pt → Ans) : Pt → Ans
 | .p0 a b c => (bif (decide (b < (a.length : Int))) then (bif (decide ((0 : Int) ≤ b)) then (bif (decide (b < (a.length : Int))) then (bif (decide ((0 : Int) ≤ b)) then (bif (decide (b < (c.length : Int))) then J (.p0 a (IntKind.i64.wrap (b + 1)) (List.set c (Int.toNat b) [L.int (iAt a (Int.toNat b))])) else none) else none) else none) else none) else ret (c : List (List L)))
def start (J : Pt → Ans) (x0 : List (List L)) : Ans := (bif (decide ((0 : Int) ≤ (x0.length : Int))) then (bif (decide ((x0.length : Int) ≤ (x0.length : Int))) then (bif (decide ((x0.length : Int) * 8 ≤ 140737488355328)) then J (.p0 x0 0 (List.replicate (Int.toNat (x0.length : Int)) [L.int 0])) else none) else none) else none)
def live : Nat → Live := fun i => match i with | 3 => [(0, none), (3, none), (4, none)] | _ => []
def pats : List Pat := [.rd (.sl 3)]
def res : RP := .one (.fr 3)
abbrev E : Env := { T := assoc Tab, G := conG [], nt := 22 }
theorem step_eq (I : Heads) (p : Pt) : enterC E live I (pid p) (bodyOf Tryz.f171) (stOf (live (pid p)) (pvs p) (phs p)) (doneK E Tryz.f171 res) = step (fun q => I (pid q) (pvs q) (phs q)) p := by
 cases p <;> kernel_rfl
theorem start_eq (I : Heads) (ls : List L) : runC E live I (bodyOf Tryz.f171) (initS pats ls) (doneK E Tryz.f171 res) = start (fun q => I (pid q) (pvs q) (phs q)) (ls.headD .hole).toSl := by kernel_rfl
theorem run_eq (n : Nat) (ls : List L) : runF E live Tryz.f171 res n (initS pats ls) = start (iter step n) (ls.headD .hole).toSl := runF_iter (id := pid) (vs := pvs) (hs := phs) (step := step) (start := fun J => start J (ls.headD .hole).toSl) step_eq (fun I => start_eq I ls) n
def md (a0 : List Int) : List Int := a0
def gd (a0 : List Int) : Prop := SmL (2 ^ 36) (fun y : Int => True) a0
def acc (ls : List L) : List (List L) := (ls.headD .hole).toSl
def R : (List (List L)) → Option (List (List L)) := RR gd md
theorem R_eq {a0} (h : gd a0) : R (a0.map iRow) = some ((md a0).map iRow) := RR_eq (a := a0) h
def con : Con := CN pats res acc R
theorem okF (a0 : List Int) (hg : gd a0) : ∃ n, start (iter step n) (a0.map iRow) = ret (((md a0).map iRow) : List (List L)) := by
  unfold start md
  simp only [List.length_map]
  refine to_list (b := 8) (pt := fun i c => Pt.p0 (a0.map iRow) (i : Int) c) (by have := hg.1; simp at this; omega) (fun J i h c hc => ?_) (fun J c => ?_)
  · simp only [step, List.length_map, lt_dec h, zle_dec, cond_true, toNat_nat, iAt_row h, hc]
    rw [wrap_succ (n := a0.length) h (by have := hg.1; simp only [maxLen]; simp at this; omega)]
    rfl
  · simp only [step, List.length_map, nlt_dec, cond_false]
theorem valid_ : Valid Tryz.prog Ev 171 con := VV (run := fun n x => start (iter step n) x) mix tab_ok .nil Tryz.func171 (by kernel_rfl) run_eq (fun _ a _ _ hg => okF a hg)
end Z14
namespace Z15
def F (x0 : RKeys) : Ans := (call (Z14.R x0.fList) fun v1 => ret ((⟨v1, x0.fNeed⟩ : RKeys) : RKeys))
def pats : List Pat := [.agg [.sl 3, .int .i64]]
def res : RP := .agg [.fr 3, .rd (.int .i64)]
def md (a0 : MKeys) : MKeys := a0
def gd (a0 : MKeys) : Prop := MKeys.Sm (2 ^ 36) a0
def acc (ls : List L) : RKeys := (RKeys.dec ls)
def R : RKeys → Option RKeys := RR gd md
theorem R_eq {a0} (h : gd a0) : R (MKeys.r a0) = some (MKeys.r (md a0)) := RR_eq (a := a0) h
def con : Con := CN pats res acc R
theorem okF (a0 : MKeys) (hg : gd a0) : F (MKeys.r a0) = ret ((MKeys.r (md a0)) : RKeys) := by
 unfold md
 show (call (Z14.R (a0.fList.map iRow)) fun v1 => ret ((⟨v1, a0.fNeed⟩ : RKeys) : RKeys)) = _
 rw [call_eq (Z14.R_eq hg)]
 rfl
theorem valid_ : Valid Tryz.prog Ev 184 con := VV (live := fun _ => []) (nt := 12) (run := fun _ x => F x) mix tab_ok (.cons Z14.valid_ .nil) Tryz.func184 (by kernel_rfl) (fun _ _ => by kernel_rfl) (fun _ a _ _ hg => ⟨0, okF a hg⟩)
end Z15
namespace Z16
def F (x0 : RHead) : Ans := (call (Z15.R x0.fKeys) fun v1 => (call (Z15.R x0.fHeirs) fun v2 => (call (Z15.R x0.fJudge) fun v3 => ret ((⟨x0.fZone, x0.fEpoch, x0.fKind, x0.fTime, x0.fUntil, x0.fCount, x0.fRoot, x0.fPrev, v1, v2, x0.fWait, v3, x0.fFrozen⟩ : RHead) : RHead))))
def pats : List Pat := [.agg [.int .i64, .int .i64, .int .i64, .int .i64, .int .i64, .int .i64, .int .i64, .int .i64, .sl 3, .int .i64, .sl 3, .int .i64, .int .i64, .sl 3, .int .i64, .bool]]
def res : RP := .agg [.rd (.int .i64), .rd (.int .i64), .rd (.int .i64), .rd (.int .i64), .rd (.int .i64), .rd (.int .i64), .rd (.int .i64), .rd (.int .i64), .fr 3, .rd (.int .i64), .fr 3, .rd (.int .i64), .rd (.int .i64), .fr 3, .rd (.int .i64), .rd (.bool)]
def md (a0 : MHead) : MHead := a0
def gd (a0 : MHead) : Prop := MHead.Sm (2 ^ 36) a0
def acc (ls : List L) : RHead := (RHead.dec ls)
def R : RHead → Option RHead := RR gd md
theorem R_eq {a0} (h : gd a0) : R (MHead.r a0) = some (MHead.r (md a0)) := RR_eq (a := a0) h
def con : Con := CN pats res acc R
theorem okF (a0 : MHead) (hg : gd a0) : F (MHead.r a0) = ret ((MHead.r (md a0)) : RHead) := by
 unfold md
 show (call (Z15.R (MKeys.r a0.fKeys)) fun v1 => (call (Z15.R (MKeys.r a0.fHeirs)) fun v2 => (call (Z15.R (MKeys.r a0.fJudge)) fun v3 => ret ((⟨a0.fZone, a0.fEpoch, a0.fKind, a0.fTime, a0.fUntil, a0.fCount, a0.fRoot, a0.fPrev, v1, v2, a0.fWait, v3, a0.fFrozen⟩ : RHead) : RHead)))) = _
 rw [call_eq (Z15.R_eq hg.1)]
 rw [call_eq (Z15.R_eq hg.2.1)]
 rw [call_eq (Z15.R_eq hg.2.2)]
 rfl
theorem valid_ : Valid Tryz.prog Ev 131 con := VV (live := fun _ => []) (nt := 47) (run := fun _ x => F x) mix tab_ok (.cons Z15.valid_ .nil) Tryz.func131 (by kernel_rfl) (fun _ _ => by kernel_rfl) (fun _ a _ _ hg => ⟨0, okF a hg⟩)
end Z16
namespace Z17
def F (x0 : MSig) : Ans := ret (x0 : MSig)
def pats : List Pat := [.agg [.int .i64, .int .i64]]
def res : RP := .agg [.rd (.int .i64), .rd (.int .i64)]
def md (a0 : MSig) : MSig := a0
def gd (a0 : MSig) : Prop := MSig.Sm (2 ^ 36) a0
def acc (ls : List L) : MSig := (MSig.dec ls)
def R : MSig → Option MSig := RR gd md
theorem R_eq {a0} (h : gd a0) : R a0 = some (md a0) := RR_eq (a := a0) h
def con : Con := CN pats res acc R
theorem okF (a0 : MSig) (hg : gd a0) : F a0 = ret ((md a0) : MSig) := by
 rfl
theorem valid_ : Valid Tryz.prog Ev 185 con := VV (live := fun _ => []) (nt := 11) (run := fun _ x => F x) mix tab_ok .nil Tryz.func185 (by kernel_rfl) (fun _ _ => by kernel_rfl) (fun _ a _ _ hg => ⟨0, okF a hg⟩)
end Z17
namespace Z18
inductive Pt where
 | p0 (a : List (List L)) (b : Int) (c : List (List L))
def pid : Pt → Nat
 | .p0 .. => 3
def pvs : Pt → List V
 | .p0 a b c => [.sl none 216 a, .own 0, .int .i64 b]
def phs : Pt → List Root
 | .p0 a b c => [.row 184 c]
def step (J : Pt → Ans) : Pt → Ans
 | .p0 a b c => (bif (decide (b < (a.length : Int))) then (bif (decide ((0 : Int) ≤ b)) then (bif (decide (b < (a.length : Int))) then (call (Z17.R (MSig.at a (Int.toNat b))) fun v1 => (bif (decide ((0 : Int) ≤ b)) then (bif (decide (b < (c.length : Int))) then J (.p0 a (IntKind.i64.wrap (b + 1)) (List.set c (Int.toNat b) (MSig.enc v1))) else none) else none)) else none) else none) else ret (c : List (List L)))
def start (J : Pt → Ans) (x0 : List (List L)) : Ans := (bif (decide ((0 : Int) ≤ (x0.length : Int))) then (bif (decide ((x0.length : Int) ≤ (x0.length : Int))) then (bif (decide ((x0.length : Int) * 16 ≤ 140737488355328)) then J (.p0 x0 0 (List.replicate (Int.toNat (x0.length : Int)) [L.int 0, L.int 0])) else none) else none) else none)
def live : Nat → Live := fun i => match i with | 3 => [(0, none), (3, none), (4, none)] | _ => []
def pats : List Pat := [.rd (.sl 216)]
def res : RP := .one (.fr 184)
abbrev E : Env := { T := assoc Tab, G := conG [(185, Z17.con)], nt := 23 }
theorem step_eq (I : Heads) (p : Pt) : enterC E live I (pid p) (bodyOf Tryz.f132) (stOf (live (pid p)) (pvs p) (phs p)) (doneK E Tryz.f132 res) = step (fun q => I (pid q) (pvs q) (phs q)) p := by
 cases p <;> kernel_rfl
theorem start_eq (I : Heads) (ls : List L) : runC E live I (bodyOf Tryz.f132) (initS pats ls) (doneK E Tryz.f132 res) = start (fun q => I (pid q) (pvs q) (phs q)) (ls.headD .hole).toSl := by kernel_rfl
theorem run_eq (n : Nat) (ls : List L) : runF E live Tryz.f132 res n (initS pats ls) = start (iter step n) (ls.headD .hole).toSl := runF_iter (id := pid) (vs := pvs) (hs := phs) (step := step) (start := fun J => start J (ls.headD .hole).toSl) step_eq (fun I => start_eq I ls) n
def md (a0 : List MSig) : List MSig := a0
def gd (a0 : List MSig) : Prop := SmL (2 ^ 36) (fun y : MSig => MSig.Sm (2 ^ 36) y) a0
def acc (ls : List L) : List (List L) := (ls.headD .hole).toSl
def R : (List (List L)) → Option (List (List L)) := RR gd md
theorem R_eq {a0} (h : gd a0) : R (a0.map MSig.row) = some ((md a0).map MSig.row) := RR_eq (a := a0) h
def con : Con := CN pats res acc R
theorem okF (a0 : List MSig) (hg : gd a0) : ∃ n, start (iter step n) (a0.map MSig.row) = ret (((md a0).map MSig.row) : List (List L)) := by
  unfold start md
  simp only [List.length_map]
  refine to_list (b := 16) (pt := fun i c => Pt.p0 (a0.map MSig.row) (i : Int) c) (by have := hg.1; simp at this; omega) (fun J i h c hc => ?_) (fun J c => ?_)
  · simp only [step, List.length_map, lt_dec h, zle_dec, cond_true, toNat_nat, MSig.at_row h, hc]
    rw [call_eq (Z17.R_eq (hg.get h))]
    try simp only [hc, lt_dec h, cond_true]
    rw [wrap_succ (n := a0.length) h (by have := hg.1; simp only [maxLen]; simp at this; omega)]
    rfl
  · simp only [step, List.length_map, nlt_dec, cond_false]
theorem valid_ : Valid Tryz.prog Ev 132 con := VV (run := fun n x => start (iter step n) x) mix tab_ok (.cons Z17.valid_ .nil) Tryz.func132 (by kernel_rfl) run_eq (fun _ a _ _ hg => okF a hg)
end Z18
namespace Z19
def F (x0 : RSigned) : Ans := (call (Z16.R x0.fHead) fun v1 => (call (Z18.R x0.fSigs) fun v2 => ret ((⟨v1, v2⟩ : RSigned) : RSigned)))
def pats : List Pat := [.agg [.int .i64, .int .i64, .int .i64, .int .i64, .int .i64, .int .i64, .int .i64, .int .i64, .sl 3, .int .i64, .sl 3, .int .i64, .int .i64, .sl 3, .int .i64, .bool, .sl 216]]
def res : RP := .agg [.rd (.int .i64), .rd (.int .i64), .rd (.int .i64), .rd (.int .i64), .rd (.int .i64), .rd (.int .i64), .rd (.int .i64), .rd (.int .i64), .fr 3, .rd (.int .i64), .fr 3, .rd (.int .i64), .rd (.int .i64), .fr 3, .rd (.int .i64), .rd (.bool), .fr 184]
def md (a0 : MSigned) : MSigned := a0
def gd (a0 : MSigned) : Prop := MSigned.Sm (2 ^ 36) a0
def acc (ls : List L) : RSigned := (RSigned.dec ls)
def R : RSigned → Option RSigned := RR gd md
theorem R_eq {a0} (h : gd a0) : R (MSigned.r a0) = some (MSigned.r (md a0)) := RR_eq (a := a0) h
def con : Con := CN pats res acc R
theorem okF (a0 : MSigned) (hg : gd a0) : F (MSigned.r a0) = ret ((MSigned.r (md a0)) : RSigned) := by
 unfold md
 show (call (Z16.R (MHead.r a0.fHead)) fun v1 => (call (Z18.R (a0.fSigs.map MSig.row)) fun v2 => ret ((⟨v1, v2⟩ : RSigned) : RSigned))) = _
 rw [call_eq (Z16.R_eq hg.1)]
 rw [call_eq (Z18.R_eq hg.2)]
 rfl
theorem valid_ : Valid Tryz.prog Ev 64 con := VV (live := fun _ => []) (nt := 13) (run := fun _ x => F x) mix tab_ok (.cons Z16.valid_ (.cons Z18.valid_ .nil)) Tryz.func64 (by kernel_rfl) (fun _ _ => by kernel_rfl) (fun _ a _ _ hg => ⟨0, okF a hg⟩)
end Z19
namespace Z20
inductive Pt where
 | p0 (a : List (List L)) (b : Int) (c : List (List L))
def pid : Pt → Nat
 | .p0 .. => 3
def pvs : Pt → List V
 | .p0 a b c => [.sl none 114 a, .own 0, .int .i64 b]
def phs : Pt → List Root
 | .p0 a b c => [.row 122 c]
def step (J : Pt → Ans) : Pt → Ans
 | .p0 a b c => (bif (decide (b < (a.length : Int))) then (bif (decide ((0 : Int) ≤ b)) then (bif (decide (b < (a.length : Int))) then (call (Z19.R (RSigned.at a (Int.toNat b))) fun v1 => (bif (decide ((0 : Int) ≤ b)) then (bif (decide (b < (c.length : Int))) then J (.p0 a (IntKind.i64.wrap (b + 1)) (List.set c (Int.toNat b) (RSigned.enc v1))) else none) else none)) else none) else none) else ret (c : List (List L)))
def start (J : Pt → Ans) (x0 : List (List L)) : Ans := (bif (decide ((0 : Int) ≤ (x0.length : Int))) then (bif (decide ((x0.length : Int) ≤ (x0.length : Int))) then (bif (decide ((x0.length : Int) * 200 ≤ 140737488355328)) then J (.p0 x0 0 (List.replicate (Int.toNat (x0.length : Int)) [L.int 0, L.int 0, L.int 0, L.int 0, L.int 0, L.int 0, L.int 0, L.int 0, L.sl [], L.int 0, L.sl [], L.int 0, L.int 0, L.sl [], L.int 0, L.bool false, L.sl []])) else none) else none) else none)
def live : Nat → Live := fun i => match i with | 3 => [(0, none), (3, none), (4, none)] | _ => []
def pats : List Pat := [.rd (.sl 114)]
def res : RP := .one (.fr 122)
abbrev E : Env := { T := assoc Tab, G := conG [(64, Z19.con)], nt := 23 }
theorem step_eq (I : Heads) (p : Pt) : enterC E live I (pid p) (bodyOf Tryz.f17) (stOf (live (pid p)) (pvs p) (phs p)) (doneK E Tryz.f17 res) = step (fun q => I (pid q) (pvs q) (phs q)) p := by
 cases p <;> kernel_rfl
theorem start_eq (I : Heads) (ls : List L) : runC E live I (bodyOf Tryz.f17) (initS pats ls) (doneK E Tryz.f17 res) = start (fun q => I (pid q) (pvs q) (phs q)) (ls.headD .hole).toSl := by kernel_rfl
theorem run_eq (n : Nat) (ls : List L) : runF E live Tryz.f17 res n (initS pats ls) = start (iter step n) (ls.headD .hole).toSl := runF_iter (id := pid) (vs := pvs) (hs := phs) (step := step) (start := fun J => start J (ls.headD .hole).toSl) step_eq (fun I => start_eq I ls) n
def md (a0 : List MSigned) : List MSigned := a0
def gd (a0 : List MSigned) : Prop := SmL (2 ^ 36) (fun y : MSigned => MSigned.Sm (2 ^ 36) y) a0
def acc (ls : List L) : List (List L) := (ls.headD .hole).toSl
def R : (List (List L)) → Option (List (List L)) := RR gd md
theorem R_eq {a0} (h : gd a0) : R (a0.map MSigned.row) = some ((md a0).map MSigned.row) := RR_eq (a := a0) h
def con : Con := CN pats res acc R
theorem okF (a0 : List MSigned) (hg : gd a0) : ∃ n, start (iter step n) (a0.map MSigned.row) = ret (((md a0).map MSigned.row) : List (List L)) := by
  unfold start md
  simp only [List.length_map]
  refine to_list (b := 200) (pt := fun i c => Pt.p0 (a0.map MSigned.row) (i : Int) c) (by have := hg.1; simp at this; omega) (fun J i h c hc => ?_) (fun J c => ?_)
  · simp only [step, List.length_map, lt_dec h, zle_dec, cond_true, toNat_nat, MSigned.at_row h, hc]
    rw [call_eq (Z19.R_eq (hg.get h))]
    try simp only [hc, lt_dec h, cond_true]
    rw [wrap_succ (n := a0.length) h (by have := hg.1; simp only [maxLen]; simp at this; omega)]
    rfl
  · simp only [step, List.length_map, nlt_dec, cond_false]
theorem valid_ : Valid Tryz.prog Ev 17 con := VV (run := fun n x => start (iter step n) x) mix tab_ok (.cons Z19.valid_ .nil) Tryz.func17 (by kernel_rfl) run_eq (fun _ a _ _ hg => okF a hg)
end Z20
namespace Z21
inductive Pt where
 | p0 (a : List (List L)) (b : Int) (c : List (List L))
def pid : Pt → Nat
 | .p0 .. => 3
def pvs : Pt → List V
 | .p0 a b c => [.sl none 9 a, .own 0, .int .i64 b]
def phs : Pt → List Root
 | .p0 a b c => [.row 9 c]
def step (J : Pt → Ans) : Pt → Ans
 | .p0 a b c => (bif (decide (b < (a.length : Int))) then (bif (decide ((0 : Int) ≤ b)) then (bif (decide (b < (a.length : Int))) then (bif (decide ((0 : Int) ≤ b)) then (bif (decide (b < (c.length : Int))) then J (.p0 a (IntKind.i64.wrap (b + 1)) (List.set c (Int.toNat b) [L.str (sAt a (Int.toNat b))])) else none) else none) else none) else none) else ret (c : List (List L)))
def start (J : Pt → Ans) (x0 : List (List L)) : Ans := (bif (decide ((0 : Int) ≤ (x0.length : Int))) then (bif (decide ((x0.length : Int) ≤ (x0.length : Int))) then (bif (decide ((x0.length : Int) * 16 ≤ 140737488355328)) then J (.p0 x0 0 (List.replicate (Int.toNat (x0.length : Int)) [L.str ⟨#[]⟩])) else none) else none) else none)
def live : Nat → Live := fun i => match i with | 3 => [(0, none), (3, none), (4, none)] | _ => []
def pats : List Pat := [.rd (.sl 9)]
def res : RP := .one (.fr 9)
abbrev E : Env := { T := assoc Tab, G := conG [], nt := 22 }
theorem step_eq (I : Heads) (p : Pt) : enterC E live I (pid p) (bodyOf Tryz.f170) (stOf (live (pid p)) (pvs p) (phs p)) (doneK E Tryz.f170 res) = step (fun q => I (pid q) (pvs q) (phs q)) p := by
 cases p <;> kernel_rfl
theorem start_eq (I : Heads) (ls : List L) : runC E live I (bodyOf Tryz.f170) (initS pats ls) (doneK E Tryz.f170 res) = start (fun q => I (pid q) (pvs q) (phs q)) (ls.headD .hole).toSl := by kernel_rfl
theorem run_eq (n : Nat) (ls : List L) : runF E live Tryz.f170 res n (initS pats ls) = start (iter step n) (ls.headD .hole).toSl := runF_iter (id := pid) (vs := pvs) (hs := phs) (step := step) (start := fun J => start J (ls.headD .hole).toSl) step_eq (fun I => start_eq I ls) n
def md (a0 : List ByteArray) : List ByteArray := a0
def gd (a0 : List ByteArray) : Prop := SmL (2 ^ 36) (fun y : ByteArray => y.size ≤ (2 ^ 36)) a0
def acc (ls : List L) : List (List L) := (ls.headD .hole).toSl
def R : (List (List L)) → Option (List (List L)) := RR gd md
theorem R_eq {a0} (h : gd a0) : R (a0.map sRow) = some ((md a0).map sRow) := RR_eq (a := a0) h
def con : Con := CN pats res acc R
theorem okF (a0 : List ByteArray) (hg : gd a0) : ∃ n, start (iter step n) (a0.map sRow) = ret (((md a0).map sRow) : List (List L)) := by
  unfold start md
  simp only [List.length_map]
  refine to_list (b := 16) (pt := fun i c => Pt.p0 (a0.map sRow) (i : Int) c) (by have := hg.1; simp at this; omega) (fun J i h c hc => ?_) (fun J c => ?_)
  · simp only [step, List.length_map, lt_dec h, zle_dec, cond_true, toNat_nat, sAt_row h, hc]
    rw [wrap_succ (n := a0.length) h (by have := hg.1; simp only [maxLen]; simp at this; omega)]
    rfl
  · simp only [step, List.length_map, nlt_dec, cond_false]
theorem valid_ : Valid Tryz.prog Ev 170 con := VV (run := fun n x => start (iter step n) x) mix tab_ok .nil Tryz.func170 (by kernel_rfl) run_eq (fun _ a _ _ hg => okF a hg)
end Z21
namespace Z22
def F (x0 : REntry) : Ans := (call (Z21.R x0.fPath) fun v1 => ret ((⟨x0.fLabel, x0.fKind, x0.fValue, v1⟩ : REntry) : REntry))
def pats : List Pat := [.agg [.str, .int .i64, .int .i64, .sl 9]]
def res : RP := .agg [.rd (.str), .rd (.int .i64), .rd (.int .i64), .fr 9]
def md (a0 : MEntry) : MEntry := a0
def gd (a0 : MEntry) : Prop := MEntry.Sm (2 ^ 36) a0
def acc (ls : List L) : REntry := (REntry.dec ls)
def R : REntry → Option REntry := RR gd md
theorem R_eq {a0} (h : gd a0) : R (MEntry.r a0) = some (MEntry.r (md a0)) := RR_eq (a := a0) h
def con : Con := CN pats res acc R
theorem okF (a0 : MEntry) (hg : gd a0) : F (MEntry.r a0) = ret ((MEntry.r (md a0)) : REntry) := by
 unfold md
 show (call (Z21.R (a0.fPath.map sRow)) fun v1 => ret ((⟨a0.fLabel, a0.fKind, a0.fValue, v1⟩ : REntry) : REntry)) = _
 rw [call_eq (Z21.R_eq hg.2)]
 rfl
theorem valid_ : Valid Tryz.prog Ev 107 con := VV (live := fun _ => []) (nt := 18) (run := fun _ x => F x) mix tab_ok (.cons Z21.valid_ .nil) Tryz.func107 (by kernel_rfl) (fun _ _ => by kernel_rfl) (fun _ a _ _ hg => ⟨0, okF a hg⟩)
end Z22
namespace Z23
def F (x0 : RProof) : Ans := (call (Z14.R x0.fPath) fun v1 => ret ((⟨x0.fAt, v1⟩ : RProof) : RProof))
def pats : List Pat := [.agg [.int .i64, .sl 3]]
def res : RP := .agg [.rd (.int .i64), .fr 3]
def md (a0 : MProof) : MProof := a0
def gd (a0 : MProof) : Prop := MProof.Sm (2 ^ 36) a0
def acc (ls : List L) : RProof := (RProof.dec ls)
def R : RProof → Option RProof := RR gd md
theorem R_eq {a0} (h : gd a0) : R (MProof.r a0) = some (MProof.r (md a0)) := RR_eq (a := a0) h
def con : Con := CN pats res acc R
theorem okF (a0 : MProof) (hg : gd a0) : F (MProof.r a0) = ret ((MProof.r (md a0)) : RProof) := by
 unfold md
 show (call (Z14.R (a0.fPath.map iRow)) fun v1 => ret ((⟨a0.fAt, v1⟩ : RProof) : RProof)) = _
 rw [call_eq (Z14.R_eq hg)]
 rfl
theorem valid_ : Valid Tryz.prog Ev 108 con := VV (live := fun _ => []) (nt := 12) (run := fun _ x => F x) mix tab_ok (.cons Z14.valid_ .nil) Tryz.func108 (by kernel_rfl) (fun _ _ => by kernel_rfl) (fun _ a _ _ hg => ⟨0, okF a hg⟩)
end Z23
namespace Z24
def F (x0 : RGap) : Ans := (call (Z22.R x0.fBefore) fun v1 => (call (Z22.R x0.fAfter) fun v2 => (call (Z23.R x0.fLeft) fun v3 => (call (Z23.R x0.fRight) fun v4 => ret ((⟨x0.fAt, v1, v2, v3, v4⟩ : RGap) : RGap)))))
def pats : List Pat := [.agg [.int .i64, .str, .int .i64, .int .i64, .sl 9, .str, .int .i64, .int .i64, .sl 9, .int .i64, .sl 3, .int .i64, .sl 3]]
def res : RP := .agg [.rd (.int .i64), .rd (.str), .rd (.int .i64), .rd (.int .i64), .fr 9, .rd (.str), .rd (.int .i64), .rd (.int .i64), .fr 9, .rd (.int .i64), .fr 3, .rd (.int .i64), .fr 3]
def md (a0 : MGap) : MGap := a0
def gd (a0 : MGap) : Prop := MGap.Sm (2 ^ 36) a0
def acc (ls : List L) : RGap := (RGap.dec ls)
def R : RGap → Option RGap := RR gd md
theorem R_eq {a0} (h : gd a0) : R (MGap.r a0) = some (MGap.r (md a0)) := RR_eq (a := a0) h
def con : Con := CN pats res acc R
theorem okF (a0 : MGap) (hg : gd a0) : F (MGap.r a0) = ret ((MGap.r (md a0)) : RGap) := by
 unfold md
 show (call (Z22.R (MEntry.r a0.fBefore)) fun v1 => (call (Z22.R (MEntry.r a0.fAfter)) fun v2 => (call (Z23.R (MProof.r a0.fLeft)) fun v3 => (call (Z23.R (MProof.r a0.fRight)) fun v4 => ret ((⟨a0.fAt, v1, v2, v3, v4⟩ : RGap) : RGap))))) = _
 rw [call_eq (Z22.R_eq hg.1)]
 rw [call_eq (Z22.R_eq hg.2.1)]
 rw [call_eq (Z23.R_eq hg.2.2.1)]
 rw [call_eq (Z23.R_eq hg.2.2.2)]
 rfl
theorem valid_ : Valid Tryz.prog Ev 109 con := VV (live := fun _ => []) (nt := 24) (run := fun _ x => F x) mix tab_ok (.cons Z22.valid_ (.cons Z23.valid_ .nil)) Tryz.func109 (by kernel_rfl) (fun _ _ => by kernel_rfl) (fun _ a _ _ hg => ⟨0, okF a hg⟩)
end Z24
namespace Z25
def F (x0 : RAnswer) : Ans := (call (Z20.R x0.fChain) fun v1 => (call (Z22.R x0.fEntry) fun v2 => (call (Z23.R x0.fProof) fun v3 => (call (Z24.R x0.fGap) fun v4 => ret ((⟨v1, x0.fFound, v2, v3, v4⟩ : RAnswer) : RAnswer)))))
def pats : List Pat := [.agg [.sl 114, .bool, .str, .int .i64, .int .i64, .sl 9, .int .i64, .sl 3, .int .i64, .str, .int .i64, .int .i64, .sl 9, .str, .int .i64, .int .i64, .sl 9, .int .i64, .sl 3, .int .i64, .sl 3]]
def res : RP := .agg [.fr 122, .rd (.bool), .rd (.str), .rd (.int .i64), .rd (.int .i64), .fr 9, .rd (.int .i64), .fr 3, .rd (.int .i64), .rd (.str), .rd (.int .i64), .rd (.int .i64), .fr 9, .rd (.str), .rd (.int .i64), .rd (.int .i64), .fr 9, .rd (.int .i64), .fr 3, .rd (.int .i64), .fr 3]
def md (a0 : MAnswer) : MAnswer := a0
def gd (a0 : MAnswer) : Prop := MAnswer.Sm (2 ^ 36) a0
def acc (ls : List L) : RAnswer := (RAnswer.dec ls)
def R : RAnswer → Option RAnswer := RR gd md
theorem R_eq {a0} (h : gd a0) : R (MAnswer.r a0) = some (MAnswer.r (md a0)) := RR_eq (a := a0) h
def con : Con := CN pats res acc R
theorem okF (a0 : MAnswer) (hg : gd a0) : F (MAnswer.r a0) = ret ((MAnswer.r (md a0)) : RAnswer) := by
 unfold md
 show (call (Z20.R (a0.fChain.map MSigned.row)) fun v1 => (call (Z22.R (MEntry.r a0.fEntry)) fun v2 => (call (Z23.R (MProof.r a0.fProof)) fun v3 => (call (Z24.R (MGap.r a0.fGap)) fun v4 => ret ((⟨v1, a0.fFound, v2, v3, v4⟩ : RAnswer) : RAnswer))))) = _
 rw [call_eq (Z20.R_eq hg.1)]
 rw [call_eq (Z22.R_eq hg.2.1)]
 rw [call_eq (Z23.R_eq hg.2.2.1)]
 rw [call_eq (Z24.R_eq hg.2.2.2)]
 rfl
theorem valid_ : Valid Tryz.prog Ev 40 con := VV (live := fun _ => []) (nt := 24) (run := fun _ x => F x) mix tab_ok (.cons Z20.valid_ (.cons Z22.valid_ (.cons Z23.valid_ (.cons Z24.valid_ .nil)))) Tryz.func40 (by kernel_rfl) (fun _ _ => by kernel_rfl) (fun _ a _ _ hg => ⟨0, okF a hg⟩)
end Z25
namespace Z26
def F (x0 : RStored) : Ans := (call (Z25.R x0.fAnswer) fun v1 => ret ((⟨x0.fZone, x0.fLabel, v1⟩ : RStored) : RStored))
def pats : List Pat := [.agg [.int .i64, .str, .sl 114, .bool, .str, .int .i64, .int .i64, .sl 9, .int .i64, .sl 3, .int .i64, .str, .int .i64, .int .i64, .sl 9, .str, .int .i64, .int .i64, .sl 9, .int .i64, .sl 3, .int .i64, .sl 3]]
def res : RP := .agg [.rd (.int .i64), .rd (.str), .fr 122, .rd (.bool), .rd (.str), .rd (.int .i64), .rd (.int .i64), .fr 9, .rd (.int .i64), .fr 3, .rd (.int .i64), .rd (.str), .rd (.int .i64), .rd (.int .i64), .fr 9, .rd (.str), .rd (.int .i64), .rd (.int .i64), .fr 9, .rd (.int .i64), .fr 3, .rd (.int .i64), .fr 3]
def md (a0 : MStored) : MStored := a0
def gd (a0 : MStored) : Prop := MStored.Sm (2 ^ 36) a0
def acc (ls : List L) : RStored := (RStored.dec ls)
def R : RStored → Option RStored := RR gd md
theorem R_eq {a0} (h : gd a0) : R (MStored.r a0) = some (MStored.r (md a0)) := RR_eq (a := a0) h
def con : Con := CN pats res acc R
theorem okF (a0 : MStored) (hg : gd a0) : F (MStored.r a0) = ret ((MStored.r (md a0)) : RStored) := by
 unfold md
 show (call (Z25.R (MAnswer.r a0.fAnswer)) fun v1 => ret ((⟨a0.fZone, a0.fLabel, v1⟩ : RStored) : RStored)) = _
 rw [call_eq (Z25.R_eq hg.2)]
 rfl
theorem valid_ : Valid Tryz.prog Ev 156 con := VV (live := fun _ => []) (nt := 15) (run := fun _ x => F x) mix tab_ok (.cons Z25.valid_ .nil) Tryz.func156 (by kernel_rfl) (fun _ _ => by kernel_rfl) (fun _ a _ _ hg => ⟨0, okF a hg⟩)
end Z26
namespace Z27
inductive Pt where
 | p0 (a : List (List L)) (b : Int) (c : List (List L))
def pid : Pt → Nat
 | .p0 .. => 3
def pvs : Pt → List V
 | .p0 a b c => [.sl none 195 a, .own 0, .int .i64 b]
def phs : Pt → List Root
 | .p0 a b c => [.row 148 c]
def step (J : Pt → Ans) : Pt → Ans
 | .p0 a b c => (bif (decide (b < (a.length : Int))) then (bif (decide ((0 : Int) ≤ b)) then (bif (decide (b < (a.length : Int))) then (call (Z26.R (RStored.at a (Int.toNat b))) fun v1 => (bif (decide ((0 : Int) ≤ b)) then (bif (decide (b < (c.length : Int))) then J (.p0 a (IntKind.i64.wrap (b + 1)) (List.set c (Int.toNat b) (RStored.enc v1))) else none) else none)) else none) else none) else ret (c : List (List L)))
def start (J : Pt → Ans) (x0 : List (List L)) : Ans := (bif (decide ((0 : Int) ≤ (x0.length : Int))) then (bif (decide ((x0.length : Int) ≤ (x0.length : Int))) then (bif (decide ((x0.length : Int) * 328 ≤ 140737488355328)) then J (.p0 x0 0 (List.replicate (Int.toNat (x0.length : Int)) [L.int 0, L.str ⟨#[]⟩, L.sl [], L.bool false, L.str ⟨#[]⟩, L.int 0, L.int 0, L.sl [], L.int 0, L.sl [], L.int 0, L.str ⟨#[]⟩, L.int 0, L.int 0, L.sl [], L.str ⟨#[]⟩, L.int 0, L.int 0, L.sl [], L.int 0, L.sl [], L.int 0, L.sl []])) else none) else none) else none)
def live : Nat → Live := fun i => match i with | 3 => [(0, none), (3, none), (4, none)] | _ => []
def pats : List Pat := [.rd (.sl 195)]
def res : RP := .one (.fr 148)
abbrev E : Env := { T := assoc Tab, G := conG [(156, Z26.con)], nt := 23 }
theorem step_eq (I : Heads) (p : Pt) : enterC E live I (pid p) (bodyOf Tryz.f94) (stOf (live (pid p)) (pvs p) (phs p)) (doneK E Tryz.f94 res) = step (fun q => I (pid q) (pvs q) (phs q)) p := by
 cases p <;> kernel_rfl
theorem start_eq (I : Heads) (ls : List L) : runC E live I (bodyOf Tryz.f94) (initS pats ls) (doneK E Tryz.f94 res) = start (fun q => I (pid q) (pvs q) (phs q)) (ls.headD .hole).toSl := by kernel_rfl
theorem run_eq (n : Nat) (ls : List L) : runF E live Tryz.f94 res n (initS pats ls) = start (iter step n) (ls.headD .hole).toSl := runF_iter (id := pid) (vs := pvs) (hs := phs) (step := step) (start := fun J => start J (ls.headD .hole).toSl) step_eq (fun I => start_eq I ls) n
def md (a0 : List MStored) : List MStored := a0
def gd (a0 : List MStored) : Prop := SmL (2 ^ 36) (fun y : MStored => MStored.Sm (2 ^ 36) y) a0
def acc (ls : List L) : List (List L) := (ls.headD .hole).toSl
def R : (List (List L)) → Option (List (List L)) := RR gd md
theorem R_eq {a0} (h : gd a0) : R (a0.map MStored.row) = some ((md a0).map MStored.row) := RR_eq (a := a0) h
def con : Con := CN pats res acc R
theorem okF (a0 : List MStored) (hg : gd a0) : ∃ n, start (iter step n) (a0.map MStored.row) = ret (((md a0).map MStored.row) : List (List L)) := by
  unfold start md
  simp only [List.length_map]
  refine to_list (b := 328) (pt := fun i c => Pt.p0 (a0.map MStored.row) (i : Int) c) (by have := hg.1; simp at this; omega) (fun J i h c hc => ?_) (fun J c => ?_)
  · simp only [step, List.length_map, lt_dec h, zle_dec, cond_true, toNat_nat, MStored.at_row h, hc]
    rw [call_eq (Z26.R_eq (hg.get h))]
    try simp only [hc, lt_dec h, cond_true]
    rw [wrap_succ (n := a0.length) h (by have := hg.1; simp only [maxLen]; simp at this; omega)]
    rfl
  · simp only [step, List.length_map, nlt_dec, cond_false]
theorem valid_ : Valid Tryz.prog Ev 94 con := VV (run := fun n x => start (iter step n) x) mix tab_ok (.cons Z26.valid_ .nil) Tryz.func94 (by kernel_rfl) run_eq (fun _ a _ _ hg => okF a hg)
end Z27
namespace Z28
def F (x0 : RCache) : Ans := (call (Z27.R x0.fList) fun v1 => ret ((⟨v1⟩ : RCache) : RCache))
def pats : List Pat := [.agg [.sl 195]]
def res : RP := .agg [.fr 148]
def md (a0 : MCache) : MCache := a0
def gd (a0 : MCache) : Prop := MCache.Sm (2 ^ 36) a0
def acc (ls : List L) : RCache := (RCache.dec ls)
def R : RCache → Option RCache := RR gd md
theorem R_eq {a0} (h : gd a0) : R (MCache.r a0) = some (MCache.r (md a0)) := RR_eq (a := a0) h
def con : Con := CN pats res acc R
theorem okF (a0 : MCache) (hg : gd a0) : F (MCache.r a0) = ret ((MCache.r (md a0)) : RCache) := by
 unfold md
 show (call (Z27.R (a0.fList.map MStored.row)) fun v1 => ret ((⟨v1⟩ : RCache) : RCache)) = _
 rw [call_eq (Z27.R_eq hg)]
 rfl
theorem valid_ : Valid Tryz.prog Ev 33 con := VV (live := fun _ => []) (nt := 9) (run := fun _ x => F x) mix tab_ok (.cons Z27.valid_ .nil) Tryz.func33 (by kernel_rfl) (fun _ _ => by kernel_rfl) (fun _ a _ _ hg => ⟨0, okF a hg⟩)
end Z28
namespace Z29
def F (x0 : RKeys) : Ans := (bif (lim ((x0.fList.length : Int) * 8)) then ret (x0 : RKeys) else none)
def pats : List Pat := [.agg [.sl 3, .int .i64]]
def res : RP := .agg [.fr 3, .rd (.int .i64)]
def md (a0 : MKeys) : MKeys := a0
def gd (a0 : MKeys) : Prop := (MKeys.Sm (2 ^ 21) a0)
def acc (ls : List L) : RKeys := (RKeys.dec ls)
def R : RKeys → Option RKeys := RR gd md
theorem R_eq {a0} (h : gd a0) : R (MKeys.r a0) = some (MKeys.r (md a0)) := RR_eq (a := a0) h
def con : Con := CN pats res acc R
theorem okF (a0 : MKeys) (hg : gd a0) : F (MKeys.r a0) = ret ((MKeys.r (md a0)) : RKeys) := by
 unfold gd at hg
 have H0 := hg
 unfold F md
 try simp only [S0, MKeys.rs]
 refine yes_ret (by
   have := (H0).1
   refine lim_t ?_
   try simp (disch := omega) only [LN, wi]
   first | omega | (simp; done) | (simp; omega)) ?_
 all_goals first | rfl | (simp only [S0, MKeys.rs]; done) | (simp only [MP]; rfl) | (simp only [S0, MKeys.rs, MP]; first | done | rfl)
theorem valid_ : Valid Tryz.prog Ev 63 con := VV (live := fun _ => []) (nt := 10) (run := fun _ x => F x) mix tab_ok .nil Tryz.func63 (by kernel_rfl) (fun _ _ => by kernel_rfl) (fun _ a _ _ hg => ⟨0, okF a hg⟩)
end Z29
namespace Z30
def F (x0 : RHead) : Ans := (call (Z29.R x0.fKeys) fun v1 => (call (Z29.R x0.fHeirs) fun v2 => (call (Z29.R x0.fJudge) fun v3 => ret ((⟨x0.fZone, x0.fEpoch, x0.fKind, x0.fTime, x0.fUntil, x0.fCount, x0.fRoot, x0.fPrev, v1, v2, x0.fWait, v3, x0.fFrozen⟩ : RHead) : RHead))))
def pats : List Pat := [.agg [.int .i64, .int .i64, .int .i64, .int .i64, .int .i64, .int .i64, .int .i64, .int .i64, .sl 3, .int .i64, .sl 3, .int .i64, .int .i64, .sl 3, .int .i64, .bool]]
def res : RP := .agg [.rd (.int .i64), .rd (.int .i64), .rd (.int .i64), .rd (.int .i64), .rd (.int .i64), .rd (.int .i64), .rd (.int .i64), .rd (.int .i64), .fr 3, .rd (.int .i64), .fr 3, .rd (.int .i64), .rd (.int .i64), .fr 3, .rd (.int .i64), .rd (.bool)]
def md (a0 : MHead) : MHead := a0
def gd (a0 : MHead) : Prop := (MHead.Sm (2 ^ 21) a0)
def acc (ls : List L) : RHead := (RHead.dec ls)
def R : RHead → Option RHead := RR gd md
theorem R_eq {a0} (h : gd a0) : R (MHead.r a0) = some (MHead.r (md a0)) := RR_eq (a := a0) h
def con : Con := CN pats res acc R
theorem okF (a0 : MHead) (hg : gd a0) : F (MHead.r a0) = ret ((MHead.r (md a0)) : RHead) := by
  unfold gd at hg
  have H0 := hg
  unfold F md
  try simp only [S0, MHead.rs]
  refine call_to (MKeys.r a0.fKeys) ?_ ?_
  · have R_ := Z29.R_eq (a0 := a0.fKeys) H0.1
    simp only [Z29.md] at R_
    first | exact R_ | (simp only [MP, S0, MHead.rs] at R_ ⊢; first | exact R_ | (rw [← R_]; rfl))
  try simp only [S0, MHead.rs]
  refine call_to (MKeys.r a0.fHeirs) ?_ ?_
  · have R_ := Z29.R_eq (a0 := a0.fHeirs) H0.2.1
    simp only [Z29.md] at R_
    first | exact R_ | (simp only [MP, S0, MHead.rs] at R_ ⊢; first | exact R_ | (rw [← R_]; rfl))
  try simp only [S0, MHead.rs]
  refine call_to (MKeys.r a0.fJudge) ?_ ?_
  · have R_ := Z29.R_eq (a0 := a0.fJudge) H0.2.2
    simp only [Z29.md] at R_
    first | exact R_ | (simp only [MP, S0, MHead.rs] at R_ ⊢; first | exact R_ | (rw [← R_]; rfl))
  try simp only [S0, MHead.rs]
  all_goals first | rfl | (simp only [S0, MHead.rs]; done) | (simp only [MP]; rfl) | (simp only [S0, MHead.rs, MP]; first | done | rfl)
theorem valid_ : Valid Tryz.prog Ev 130 con := VV (live := fun _ => []) (nt := 18) (run := fun _ x => F x) mix tab_ok (.cons Z29.valid_ .nil) Tryz.func130 (by kernel_rfl) (fun _ _ => by kernel_rfl) (fun _ a _ _ hg => ⟨0, okF a hg⟩)
end Z30
namespace Z31
def F (x0 : RSigned) : Ans := (call (Z30.R x0.fHead) fun v1 => (bif (lim ((x0.fSigs.length : Int) * 16)) then ret ((⟨v1, x0.fSigs⟩ : RSigned) : RSigned) else none))
def pats : List Pat := [.agg [.int .i64, .int .i64, .int .i64, .int .i64, .int .i64, .int .i64, .int .i64, .int .i64, .sl 3, .int .i64, .sl 3, .int .i64, .int .i64, .sl 3, .int .i64, .bool, .sl 184]]
def res : RP := .agg [.rd (.int .i64), .rd (.int .i64), .rd (.int .i64), .rd (.int .i64), .rd (.int .i64), .rd (.int .i64), .rd (.int .i64), .rd (.int .i64), .fr 3, .rd (.int .i64), .fr 3, .rd (.int .i64), .rd (.int .i64), .fr 3, .rd (.int .i64), .rd (.bool), .fr 184]
def md (a0 : MSigned) : MSigned := a0
def gd (a0 : MSigned) : Prop := (MSigned.Sm (2 ^ 21) a0)
def acc (ls : List L) : RSigned := (RSigned.dec ls)
def R : RSigned → Option RSigned := RR gd md
theorem R_eq {a0} (h : gd a0) : R (MSigned.r a0) = some (MSigned.r (md a0)) := RR_eq (a := a0) h
def con : Con := CN pats res acc R
theorem okF (a0 : MSigned) (hg : gd a0) : F (MSigned.r a0) = ret ((MSigned.r (md a0)) : RSigned) := by
  unfold gd at hg
  have H0 := hg
  unfold F md
  try simp only [S0, MSigned.rs]
  refine call_to (MHead.r a0.fHead) ?_ ?_
  · have R_ := Z30.R_eq (a0 := a0.fHead) H0.1
    simp only [Z30.md] at R_
    first | exact R_ | (simp only [MP, S0, MSigned.rs] at R_ ⊢; first | exact R_ | (rw [← R_]; rfl))
  try simp only [S0, MSigned.rs]
  refine yes_ret (by
      have := (H0.2).1
      refine lim_t ?_
      try simp (disch := omega) only [LN, wi]
      first | omega | (simp; done) | (simp; omega)) ?_
  all_goals first | rfl | (simp only [S0, MSigned.rs]; done) | (simp only [MP]; rfl) | (simp only [S0, MSigned.rs, MP]; first | done | rfl)
theorem valid_ : Valid Tryz.prog Ev 140 con := VV (live := fun _ => []) (nt := 11) (run := fun _ x => F x) mix tab_ok (.cons Z30.valid_ .nil) Tryz.func140 (by kernel_rfl) (fun _ _ => by kernel_rfl) (fun _ a _ _ hg => ⟨0, okF a hg⟩)
end Z31
namespace Z32
inductive Pt where
 | p0 (a : List (List L)) (b : Int) (c : List (List L))
def pid : Pt → Nat
 | .p0 .. => 3
def pvs : Pt → List V
 | .p0 a b c => [.sl none 122 a, .own 0, .int .i64 b]
def phs : Pt → List Root
 | .p0 a b c => [.row 122 c]
def step (J : Pt → Ans) : Pt → Ans
 | .p0 a b c => (bif (decide (b < (a.length : Int))) then (bif (decide ((0 : Int) ≤ b)) then (bif (decide (b < (a.length : Int))) then (call (Z31.R (RSigned.at a (Int.toNat b))) fun v1 => (bif (lim (((c.length : Int) + 1) * 200)) then J (.p0 a (IntKind.i64.wrap (b + 1)) (c ++ [(RSigned.enc v1)])) else none)) else none) else none) else ret (c : List (List L)))
def start (J : Pt → Ans) (x0 : List (List L)) : Ans := J (.p0 x0 0 [])
def live : Nat → Live := fun i => match i with | 3 => [(0, none), (3, some 122), (4, none)] | _ => []
def pats : List Pat := [.rd (.sl 122)]
def res : RP := .one (.fr 122)
abbrev E : Env := { T := assoc Tab, G := conG [(140, Z31.con)], nt := 21 }
theorem step_eq (I : Heads) (p : Pt) : enterC E live I (pid p) (bodyOf Tryz.f75) (stOf (live (pid p)) (pvs p) (phs p)) (doneK E Tryz.f75 res) = step (fun q => I (pid q) (pvs q) (phs q)) p := by
 cases p <;> kernel_rfl
theorem start_eq (I : Heads) (ls : List L) : runC E live I (bodyOf Tryz.f75) (initS pats ls) (doneK E Tryz.f75 res) = start (fun q => I (pid q) (pvs q) (phs q)) (ls.headD .hole).toSl := by kernel_rfl
theorem run_eq (n : Nat) (ls : List L) : runF E live Tryz.f75 res n (initS pats ls) = start (iter step n) (ls.headD .hole).toSl := runF_iter (id := pid) (vs := pvs) (hs := phs) (step := step) (start := fun J => start J (ls.headD .hole).toSl) step_eq (fun I => start_eq I ls) n
def md (a0 : List MSigned) : List MSigned := a0
def gd (a0 : List MSigned) : Prop := (SmL (2 ^ 21) (fun y : MSigned => MSigned.Sm (2 ^ 21) y) a0)
def acc (ls : List L) : List (List L) := (ls.headD .hole).toSl
def R : (List (List L)) → Option (List (List L)) := RR gd md
theorem R_eq {a0} (h : gd a0) : R (a0.map MSigned.row) = some ((md a0).map MSigned.row) := RR_eq (a := a0) h
def con : Con := CN pats res acc R
theorem okF (a0 : List MSigned) (hg : gd a0) : ∃ n, start (iter step n) (a0.map MSigned.row) = ret (((md a0).map MSigned.row) : List (List L)) := by
  unfold gd at hg
  have H0 := hg
  unfold start md
  try simp only [S0, MSigned.rs]
  have Bh2 : a0.length ≤ maxLen := (by
      have := (H0).1
      try simp only [maxLen] at *
      omega)
  refine ex_eq (out := (fun b : List MSigned => ret ((b.map MSigned.row) : List (List L)))) (loopM_copy (xs := a0) (z := MSigned.zero) (t := fun s3 : List MSigned => s3)) ?_
  refine ex_pt (p := Pt.p0 (a0.map MSigned.row) 0 ([].map MSigned.row)) (by first | rfl | (simp only [S0, MSigned.rs, MP]; done) | (simp only [MP]; rfl)) ?_
  refine loopM_ok (pt := fun (i1 : Nat) (s3 : List MSigned) => Pt.p0 (a0.map MSigned.row) (i1 : Int) (s3.map MSigned.row)) (s := ([] : List MSigned)) (out := (fun b : List MSigned => ret ((b.map MSigned.row) : List (List L)))) (fun (i1 : Nat) (s3 : List MSigned) => s3.length ≤ ([] : List Int).length + 1 * i1) (fun J i1 s3 h2 hih2 => ?_) (fun s3 hih2 => ?_) (by simp)
  · simp only [step, S0, MSigned.rs]
    have gr_ := hih2
    try simp only [LN] at gr_
    have bb_ := Bh2
    simp only [maxLen] at bb_
    have := (H0).1
    refine Rnd.yes (by apply decide_eq_true; omega) ?_
    refine Rnd.yes zle_dec ?_
    refine Rnd.yes (lt_dec h2) ?_
    refine Rnd.call_to (MSigned.r (a0.getD i1 MSigned.zero)) ?_ ?_
    · have R_ := Z31.R_eq (a0 := (a0.getD i1 MSigned.zero)) (SmL.getD (z := MSigned.zero) H0 h2)
      simp only [Z31.md] at R_
      first | exact R_ | (simp only [MP, S0, MSigned.rs] at R_ ⊢; first | exact R_ | (rw [← R_]; rfl))
    try simp only [S0, MSigned.rs]
    refine Rnd.yes (by
        refine lim_t ?_
        try simp (disch := omega) only [LN, wi]
        first | omega | (simp; done) | (simp; omega)) ?_
    refine Rnd.inl (by
        have g_ := hih2
        try simp only [LN] at g_ ⊢
        first | omega | (simp; done) | (simp; omega)) ?_
    rw [wrap_succ h2 Bh2]
    all_goals first | rfl | (simp only [S0, MSigned.rs]; done) | (simp only [MP]; rfl) | (simp only [S0, MSigned.rs, MP]; first | done | rfl)
  · simp only [step, S0, MSigned.rs]
    have gr_ := hih2
    try simp only [LN] at gr_
    have := (H0).1
    refine ex_no (by apply decide_eq_false; omega) ?_
    refine ⟨0, ?_⟩
    all_goals first | rfl | (simp only [S0, MSigned.rs]; done) | (simp only [MP]; rfl) | (simp only [S0, MSigned.rs, MP]; first | done | rfl)
theorem valid_ : Valid Tryz.prog Ev 75 con := VV (run := fun n x => start (iter step n) x) mix tab_ok (.cons Z31.valid_ .nil) Tryz.func75 (by kernel_rfl) run_eq (fun _ a _ _ hg => okF a hg)
end Z32
namespace Z33
def F (x0 : List (List L)) : Ans := (bif (lim ((x0.length : Int) * 16)) then ret (x0 : List (List L)) else none)
def pats : List Pat := [.rd (.sl 9)]
def res : RP := .one (.fr 9)
def md (a0 : List ByteArray) : List ByteArray := a0
def gd (a0 : List ByteArray) : Prop := (SmL (2 ^ 21) (fun y : ByteArray => y.size ≤ (2 ^ 21)) a0)
def acc (ls : List L) : List (List L) := (ls.headD .hole).toSl
def R : (List (List L)) → Option (List (List L)) := RR gd md
theorem R_eq {a0} (h : gd a0) : R (a0.map sRow) = some ((md a0).map sRow) := RR_eq (a := a0) h
def con : Con := CN pats res acc R
theorem okF (a0 : List ByteArray) (hg : gd a0) : F (a0.map sRow) = ret (((md a0).map sRow) : List (List L)) := by
 unfold gd at hg
 have H0 := hg
 unfold F md
 try simp only [S0]
 refine yes_ret (by
   have := (H0).1
   refine lim_t ?_
   try simp (disch := omega) only [LN, wi]
   first | omega | (simp; done) | (simp; omega)) ?_
 all_goals first | rfl | (simp only [S0]; done) | (simp only [MP]; rfl) | (simp only [S0, MP]; first | done | rfl)
theorem valid_ : Valid Tryz.prog Ev 205 con := VV (live := fun _ => []) (nt := 6) (run := fun _ x => F x) mix tab_ok .nil Tryz.func205 (by kernel_rfl) (fun _ _ => by kernel_rfl) (fun _ a _ _ hg => ⟨0, okF a hg⟩)
end Z33
namespace Z34
def F (x0 : REntry) : Ans := (call (Z33.R x0.fPath) fun v1 => ret ((⟨x0.fLabel, x0.fKind, x0.fValue, v1⟩ : REntry) : REntry))
def pats : List Pat := [.agg [.str, .int .i64, .int .i64, .sl 9]]
def res : RP := .agg [.rd (.str), .rd (.int .i64), .rd (.int .i64), .fr 9]
def md (a0 : MEntry) : MEntry := a0
def gd (a0 : MEntry) : Prop := (MEntry.Sm (2 ^ 21) a0)
def acc (ls : List L) : REntry := (REntry.dec ls)
def R : REntry → Option REntry := RR gd md
theorem R_eq {a0} (h : gd a0) : R (MEntry.r a0) = some (MEntry.r (md a0)) := RR_eq (a := a0) h
def con : Con := CN pats res acc R
theorem okF (a0 : MEntry) (hg : gd a0) : F (MEntry.r a0) = ret ((MEntry.r (md a0)) : REntry) := by
  unfold gd at hg
  have H0 := hg
  unfold F md
  try simp only [S0, MEntry.rs]
  refine call_to (a0.fPath.map sRow) ?_ ?_
  · have R_ := Z33.R_eq (a0 := a0.fPath) H0.2
    simp only [Z33.md] at R_
    first | exact R_ | (simp only [MP, S0, MEntry.rs] at R_ ⊢; first | exact R_ | (rw [← R_]; rfl))
  try simp only [S0, MEntry.rs]
  all_goals first | rfl | (simp only [S0, MEntry.rs]; done) | (simp only [MP]; rfl) | (simp only [S0, MEntry.rs, MP]; first | done | rfl)
theorem valid_ : Valid Tryz.prog Ev 167 con := VV (live := fun _ => []) (nt := 13) (run := fun _ x => F x) mix tab_ok (.cons Z33.valid_ .nil) Tryz.func167 (by kernel_rfl) (fun _ _ => by kernel_rfl) (fun _ a _ _ hg => ⟨0, okF a hg⟩)
end Z34
namespace Z35
def F (x0 : RProof) : Ans := (bif (lim ((x0.fPath.length : Int) * 8)) then ret (x0 : RProof) else none)
def pats : List Pat := [.agg [.int .i64, .sl 3]]
def res : RP := .agg [.rd (.int .i64), .fr 3]
def md (a0 : MProof) : MProof := a0
def gd (a0 : MProof) : Prop := (MProof.Sm (2 ^ 21) a0)
def acc (ls : List L) : RProof := (RProof.dec ls)
def R : RProof → Option RProof := RR gd md
theorem R_eq {a0} (h : gd a0) : R (MProof.r a0) = some (MProof.r (md a0)) := RR_eq (a := a0) h
def con : Con := CN pats res acc R
theorem okF (a0 : MProof) (hg : gd a0) : F (MProof.r a0) = ret ((MProof.r (md a0)) : RProof) := by
 unfold gd at hg
 have H0 := hg
 unfold F md
 try simp only [S0, MProof.rs]
 refine yes_ret (by
   have := (H0).1
   refine lim_t ?_
   try simp (disch := omega) only [LN, wi]
   first | omega | (simp; done) | (simp; omega)) ?_
 all_goals first | rfl | (simp only [S0, MProof.rs]; done) | (simp only [MP]; rfl) | (simp only [S0, MProof.rs, MP]; first | done | rfl)
theorem valid_ : Valid Tryz.prog Ev 168 con := VV (live := fun _ => []) (nt := 10) (run := fun _ x => F x) mix tab_ok .nil Tryz.func168 (by kernel_rfl) (fun _ _ => by kernel_rfl) (fun _ a _ _ hg => ⟨0, okF a hg⟩)
end Z35
namespace Z36
def F (x0 : RGap) : Ans := (call (Z34.R x0.fBefore) fun v1 => (call (Z34.R x0.fAfter) fun v2 => (call (Z35.R x0.fLeft) fun v3 => (call (Z35.R x0.fRight) fun v4 => ret ((⟨x0.fAt, v1, v2, v3, v4⟩ : RGap) : RGap)))))
def pats : List Pat := [.agg [.int .i64, .str, .int .i64, .int .i64, .sl 9, .str, .int .i64, .int .i64, .sl 9, .int .i64, .sl 3, .int .i64, .sl 3]]
def res : RP := .agg [.rd (.int .i64), .rd (.str), .rd (.int .i64), .rd (.int .i64), .fr 9, .rd (.str), .rd (.int .i64), .rd (.int .i64), .fr 9, .rd (.int .i64), .fr 3, .rd (.int .i64), .fr 3]
def md (a0 : MGap) : MGap := a0
def gd (a0 : MGap) : Prop := (MGap.Sm (2 ^ 21) a0)
def acc (ls : List L) : RGap := (RGap.dec ls)
def R : RGap → Option RGap := RR gd md
theorem R_eq {a0} (h : gd a0) : R (MGap.r a0) = some (MGap.r (md a0)) := RR_eq (a := a0) h
def con : Con := CN pats res acc R
theorem okF (a0 : MGap) (hg : gd a0) : F (MGap.r a0) = ret ((MGap.r (md a0)) : RGap) := by
  unfold gd at hg
  have H0 := hg
  unfold F md
  try simp only [S0, MProof.rs, MGap.rs]
  refine call_to (MEntry.r a0.fBefore) ?_ ?_
  · have R_ := Z34.R_eq (a0 := a0.fBefore) H0.1
    simp only [Z34.md] at R_
    first | exact R_ | (simp only [MP, S0, MProof.rs, MGap.rs] at R_ ⊢; first | exact R_ | (rw [← R_]; rfl))
  try simp only [S0, MProof.rs, MGap.rs]
  refine call_to (MEntry.r a0.fAfter) ?_ ?_
  · have R_ := Z34.R_eq (a0 := a0.fAfter) H0.2.1
    simp only [Z34.md] at R_
    first | exact R_ | (simp only [MP, S0, MProof.rs, MGap.rs] at R_ ⊢; first | exact R_ | (rw [← R_]; rfl))
  try simp only [S0, MProof.rs, MGap.rs]
  refine call_to (MProof.r a0.fLeft) ?_ ?_
  · have R_ := Z35.R_eq (a0 := a0.fLeft) H0.2.2.1
    simp only [Z35.md] at R_
    first | exact R_ | (simp only [MP, S0, MProof.rs, MGap.rs] at R_ ⊢; first | exact R_ | (rw [← R_]; rfl))
  try simp only [S0, MProof.rs, MGap.rs]
  refine call_to (MProof.r a0.fRight) ?_ ?_
  · have R_ := Z35.R_eq (a0 := a0.fRight) H0.2.2.2
    simp only [Z35.md] at R_
    first | exact R_ | (simp only [MP, S0, MProof.rs, MGap.rs] at R_ ⊢; first | exact R_ | (rw [← R_]; rfl))
  try simp only [S0, MProof.rs, MGap.rs]
  all_goals first | rfl | (simp only [S0, MProof.rs, MGap.rs]; done) | (simp only [MP]; rfl) | (simp only [S0, MProof.rs, MGap.rs, MP]; first | done | rfl)
theorem valid_ : Valid Tryz.prog Ev 169 con := VV (live := fun _ => []) (nt := 18) (run := fun _ x => F x) mix tab_ok (.cons Z34.valid_ (.cons Z35.valid_ .nil)) Tryz.func169 (by kernel_rfl) (fun _ _ => by kernel_rfl) (fun _ a _ _ hg => ⟨0, okF a hg⟩)
end Z36
namespace Z37
def F (x0 : RAnswer) : Ans := (call (Z32.R x0.fChain) fun v1 => (call (Z34.R x0.fEntry) fun v2 => (call (Z35.R x0.fProof) fun v3 => (call (Z36.R x0.fGap) fun v4 => ret ((⟨v1, x0.fFound, v2, v3, v4⟩ : RAnswer) : RAnswer)))))
def pats : List Pat := [.agg [.sl 122, .bool, .str, .int .i64, .int .i64, .sl 9, .int .i64, .sl 3, .int .i64, .str, .int .i64, .int .i64, .sl 9, .str, .int .i64, .int .i64, .sl 9, .int .i64, .sl 3, .int .i64, .sl 3]]
def res : RP := .agg [.fr 122, .rd (.bool), .rd (.str), .rd (.int .i64), .rd (.int .i64), .fr 9, .rd (.int .i64), .fr 3, .rd (.int .i64), .rd (.str), .rd (.int .i64), .rd (.int .i64), .fr 9, .rd (.str), .rd (.int .i64), .rd (.int .i64), .fr 9, .rd (.int .i64), .fr 3, .rd (.int .i64), .fr 3]
def md (a0 : MAnswer) : MAnswer := a0
def gd (a0 : MAnswer) : Prop := (MAnswer.Sm (2 ^ 21) a0)
def acc (ls : List L) : RAnswer := (RAnswer.dec ls)
def R : RAnswer → Option RAnswer := RR gd md
theorem R_eq {a0} (h : gd a0) : R (MAnswer.r a0) = some (MAnswer.r (md a0)) := RR_eq (a := a0) h
def con : Con := CN pats res acc R
theorem okF (a0 : MAnswer) (hg : gd a0) : F (MAnswer.r a0) = ret ((MAnswer.r (md a0)) : RAnswer) := by
  unfold gd at hg
  have H0 := hg
  unfold F md
  try simp only [S0, MAnswer.rs]
  refine call_to (a0.fChain.map MSigned.row) ?_ ?_
  · have R_ := Z32.R_eq (a0 := a0.fChain) H0.1
    simp only [Z32.md] at R_
    first | exact R_ | (simp only [MP, S0, MAnswer.rs] at R_ ⊢; first | exact R_ | (rw [← R_]; rfl))
  try simp only [S0, MAnswer.rs]
  refine call_to (MEntry.r a0.fEntry) ?_ ?_
  · have R_ := Z34.R_eq (a0 := a0.fEntry) H0.2.1
    simp only [Z34.md] at R_
    first | exact R_ | (simp only [MP, S0, MAnswer.rs] at R_ ⊢; first | exact R_ | (rw [← R_]; rfl))
  try simp only [S0, MAnswer.rs]
  refine call_to (MProof.r a0.fProof) ?_ ?_
  · have R_ := Z35.R_eq (a0 := a0.fProof) H0.2.2.1
    simp only [Z35.md] at R_
    first | exact R_ | (simp only [MP, S0, MAnswer.rs] at R_ ⊢; first | exact R_ | (rw [← R_]; rfl))
  try simp only [S0, MAnswer.rs]
  refine call_to (MGap.r a0.fGap) ?_ ?_
  · have R_ := Z36.R_eq (a0 := a0.fGap) H0.2.2.2
    simp only [Z36.md] at R_
    first | exact R_ | (simp only [MP, S0, MAnswer.rs] at R_ ⊢; first | exact R_ | (rw [← R_]; rfl))
  try simp only [S0, MAnswer.rs]
  all_goals first | rfl | (simp only [S0, MAnswer.rs]; done) | (simp only [MP]; rfl) | (simp only [S0, MAnswer.rs, MP]; first | done | rfl)
theorem valid_ : Valid Tryz.prog Ev 105 con := VV (live := fun _ => []) (nt := 18) (run := fun _ x => F x) mix tab_ok (.cons Z32.valid_ (.cons Z34.valid_ (.cons Z35.valid_ (.cons Z36.valid_ .nil)))) Tryz.func105 (by kernel_rfl) (fun _ _ => by kernel_rfl) (fun _ a _ _ hg => ⟨0, okF a hg⟩)
end Z37
namespace Z38
inductive Pt where
 | p0 (a : Int) (b : RCache) (c : List (List L))
def pid : Pt → Nat
 | .p0 .. => 3
def pvs : Pt → List V
 | .p0 a b c => [.bptr 0 0, .bptr 1 0, .bptr 2 0, .int .i64 a, .bptr 2 0]
def phs : Pt → List Root
 | .p0 a b c => [.box [.sl none 148 b.fList], .box [.nil], .box [.own 3], .row 148 c]
def step (J : Pt → Ans) : Pt → Ans
 | .p0 a b c => (bif (decide (a < (b.fList.length : Int))) then (bif (decide ((0 : Int) ≤ a)) then (bif (decide (a < (b.fList.length : Int))) then (bif (decide ((0 : Int) ≤ a)) then (bif (decide (a < (b.fList.length : Int))) then (bif (decide ((0 : Int) ≤ a)) then (bif (decide (a < (b.fList.length : Int))) then (call (Z37.R ((RStored.at b.fList (Int.toNat a)).fAnswer)) fun v1 => (bif (lim (((c.length : Int) + 1) * 328)) then J (.p0 (IntKind.i64.wrap (a + 1)) b (c ++ [(RStored.enc (⟨(RStored.at b.fList (Int.toNat a)).fZone, (RStored.at b.fList (Int.toNat a)).fLabel, v1⟩ : RStored))])) else none)) else none) else none) else none) else none) else none) else none) else ret ((⟨c⟩ : RCache) : RCache))
def start (J : Pt → Ans) (x0 : RCache) : Ans := J (.p0 0 x0 [])
def live : Nat → Live := fun i => match i with | 3 => [(1, none), (2, none), (3, none), (4, none), (3, some 148)] | _ => []
def pats : List Pat := [.agg [.sl 148]]
def res : RP := .agg [.fr 148]
abbrev E : Env := { T := assoc Tab, G := conG [(105, Z37.con)], nt := 39 }
theorem step_eq (I : Heads) (p : Pt) : enterC E live I (pid p) (bodyOf Tryz.f92) (stOf (live (pid p)) (pvs p) (phs p)) (doneK E Tryz.f92 res) = step (fun q => I (pid q) (pvs q) (phs q)) p := by
 cases p <;> kernel_rfl
theorem start_eq (I : Heads) (ls : List L) : runC E live I (bodyOf Tryz.f92) (initS pats ls) (doneK E Tryz.f92 res) = start (fun q => I (pid q) (pvs q) (phs q)) (RCache.dec ls) := by kernel_rfl
theorem run_eq (n : Nat) (ls : List L) : runF E live Tryz.f92 res n (initS pats ls) = start (iter step n) (RCache.dec ls) := runF_iter (id := pid) (vs := pvs) (hs := phs) (step := step) (start := fun J => start J (RCache.dec ls)) step_eq (fun I => start_eq I ls) n
def md (a0 : MCache) : MCache := a0
def gd (a0 : MCache) : Prop := (MCache.Sm (2 ^ 21) a0)
def acc (ls : List L) : RCache := (RCache.dec ls)
def R : RCache → Option RCache := RR gd md
theorem R_eq {a0} (h : gd a0) : R (MCache.r a0) = some (MCache.r (md a0)) := RR_eq (a := a0) h
def con : Con := CN pats res acc R
theorem okF (a0 : MCache) (hg : gd a0) : ∃ n, start (iter step n) (MCache.r a0) = ret ((MCache.r (md a0)) : RCache) := by
  unfold gd at hg
  have H0 := hg
  unfold start md
  try simp only [S0, MKeys.rs, MHead.rs, MEntry.rs, MStored.rs, MCache.rs]
  have Bh2 : a0.fList.length ≤ maxLen := (by
      have := (H0).1
      try simp only [maxLen] at *
      omega)
  refine ex_eq (out := (fun b : MCache => ret ((MCache.r b) : RCache))) (loopM_copy (xs := a0.fList) (z := MStored.zero) (t := fun s3 : List MStored => (⟨s3⟩ : MCache))) ?_
  refine ex_pt (p := Pt.p0 0 (MCache.r a0) ([].map MStored.row)) (by first | rfl | (simp only [S0, MKeys.rs, MHead.rs, MEntry.rs, MStored.rs, MCache.rs, MP]; done) | (simp only [MP]; rfl)) ?_
  refine loopM_ok (pt := fun (i1 : Nat) (s3 : List MStored) => Pt.p0 (i1 : Int) (MCache.r a0) (s3.map MStored.row)) (s := ([] : List MStored)) (out := (fun b : MCache => ret ((MCache.r b) : RCache))) (fun (i1 : Nat) (s3 : List MStored) => s3.length ≤ ([] : List Int).length + 1 * i1) (fun J i1 s3 h2 hih2 => ?_) (fun s3 hih2 => ?_) (by simp)
  · simp only [step, S0, MKeys.rs, MHead.rs, MEntry.rs, MStored.rs, MCache.rs]
    have gr_ := hih2
    try simp only [LN] at gr_
    have bb_ := Bh2
    simp only [maxLen] at bb_
    have := (H0).1
    refine Rnd.yes (by apply decide_eq_true; omega) ?_
    refine Rnd.yes zle_dec ?_
    refine Rnd.yes (lt_dec h2) ?_
    refine Rnd.yes zle_dec ?_
    refine Rnd.yes (lt_dec h2) ?_
    refine Rnd.yes zle_dec ?_
    refine Rnd.yes (lt_dec h2) ?_
    refine Rnd.call_to (MAnswer.r ((a0.fList.getD i1 MStored.zero).fAnswer)) ?_ ?_
    · have R_ := Z37.R_eq (a0 := (a0.fList.getD i1 MStored.zero).fAnswer) (SmL.getD (z := MStored.zero) H0 h2).2
      simp only [Z37.md] at R_
      first | exact R_ | (simp only [MP, S0, MKeys.rs, MHead.rs, MEntry.rs, MStored.rs, MCache.rs] at R_ ⊢; first | exact R_ | (rw [← R_]; rfl))
    try simp only [S0, MKeys.rs, MHead.rs, MEntry.rs, MStored.rs, MCache.rs]
    refine Rnd.yes (by
        refine lim_t ?_
        try simp (disch := omega) only [LN, wi]
        first | omega | (simp; done) | (simp; omega)) ?_
    refine Rnd.inl (by
        have g_ := hih2
        try simp only [LN] at g_ ⊢
        first | omega | (simp; done) | (simp; omega)) ?_
    rw [wrap_succ h2 Bh2]
    all_goals first | rfl | (simp only [S0, MKeys.rs, MHead.rs, MEntry.rs, MStored.rs, MCache.rs]; done) | (simp only [MP]; rfl) | (simp only [S0, MKeys.rs, MHead.rs, MEntry.rs, MStored.rs, MCache.rs, MP]; first | done | rfl) | (simp only [MCache.r, S0, MKeys.rs, MHead.rs, MEntry.rs, MStored.rs, MCache.rs, MP]; first | done | rfl)
  · simp only [step, S0, MKeys.rs, MHead.rs, MEntry.rs, MStored.rs, MCache.rs]
    have gr_ := hih2
    try simp only [LN] at gr_
    have := (H0).1
    refine ex_no (by apply decide_eq_false; omega) ?_
    refine ⟨0, ?_⟩
    all_goals first | rfl | (simp only [S0, MKeys.rs, MHead.rs, MEntry.rs, MStored.rs, MCache.rs]; done) | (simp only [MP]; rfl) | (simp only [S0, MKeys.rs, MHead.rs, MEntry.rs, MStored.rs, MCache.rs, MP]; first | done | rfl) | (simp only [MCache.r, S0, MKeys.rs, MHead.rs, MEntry.rs, MStored.rs, MCache.rs, MP]; first | done | rfl)
theorem valid_ : Valid Tryz.prog Ev 92 con := VV (run := fun n x => start (iter step n) x) mix tab_ok (.cons Z37.valid_ .nil) Tryz.func92 (by kernel_rfl) run_eq (fun _ a _ _ hg => okF a hg)
end Z38
namespace Z39
def F (x0 : Int) (x1 : Int) (x2 : Int) : Ans := (bif (decide (x0 ≥ x1)) then ret ((decide (x0 ≤ x2)) : Bool) else ret (false : Bool))
def pats : List Pat := [.rd (.int .i64), .rd (.int .i64), .rd (.int .i64)]
def res : RP := .one (.rd (.bool))
def md (a0 : Int) (a1 : Int) (a2 : Int) : Bool := (bif (decide (a0 ≥ a1)) then ((decide (a0 ≤ a2)) : Bool) else (false : Bool))
def gd (a0 : Int) (a1 : Int) (a2 : Int) : Prop := True
def acc (ls : List L) : Int × Int × Int := ((ls.headD .hole).toInt, ((dropT 1 ls).headD .hole).toInt, ((dropT 2 ls).headD .hole).toInt)
def R : (Int × Int × Int) → Option Bool := RR (p3 gd) (u3 md)
theorem R_eq {a0} {a1} {a2} (h : gd a0 a1 a2) : R (a0, a1, a2) = some (md a0 a1 a2) := RR_eq (a := (a0, a1, a2)) h
def con : Con := CN pats res acc R
theorem okF (a0 : Int) (a1 : Int) (a2 : Int) (hg : gd a0 a1 a2) : F a0 a1 a2 = ret ((md a0 a1 a2) : Bool) := by
 unfold F md
 try simp only [S0]
 refine bif_out ret (fun c1 => ?_) (fun _ => rfl)
 all_goals first | rfl | (simp only [S0, MP]; first | done | rfl)
theorem valid_ : Valid Tryz.prog Ev 120 con := VV (live := fun _ => []) (nt := 15) (run := fun _ x => F x.1 x.2.1 x.2.2) mix tab_ok .nil Tryz.func120 (by kernel_rfl) (fun _ _ => by kernel_rfl) (fun _ a _ _ hg => ⟨0, okF a.1 a.2.1 a.2.2 hg⟩)
end Z39
namespace Z40
inductive Pt where
 | p0 (a : Int) (b : RKeys)
def pid : Pt → Nat
 | .p0 .. => 2
def pvs : Pt → List V
 | .p0 a b => [.bptr 0 0, .int .i64 a]
def phs : Pt → List Root
 | .p0 a b => [.box [.sl none 3 b.fList, .int .i64 b.fNeed]]
def step (J : Pt → Ans) : Pt → Ans
 | .p0 a b => (bif (decide (a < (b.fList.length : Int))) then (bif (decide ((0 : Int) ≤ a)) then (bif (decide (a < (b.fList.length : Int))) then (call (Z39.R ((iAt b.fList (Int.toNat a)), 1, 99)) fun v1 => (bif (!v1) then ret (false : Bool) else (bif (decide (a > 0)) then (bif (decide ((0 : Int) ≤ (IntKind.i64.wrap (a - 1)))) then (bif (decide ((IntKind.i64.wrap (a - 1)) < (b.fList.length : Int))) then (bif (decide ((0 : Int) ≤ a)) then (bif (decide (a < (b.fList.length : Int))) then (bif (decide ((iAt b.fList (Int.toNat (IntKind.i64.wrap (a - 1)))) ≥ (iAt b.fList (Int.toNat a)))) then ret (false : Bool) else J (.p0 (IntKind.i64.wrap (a + 1)) b)) else none) else none) else none) else none) else J (.p0 (IntKind.i64.wrap (a + 1)) b)))) else none) else none) else (call (Z39.R ((b.fList.length : Int), 1, 4)) fun v2 => (bif v2 then (call (Z39.R (b.fNeed, 1, (b.fList.length : Int))) fun v3 => ret (v3 : Bool)) else ret (false : Bool))))
def start (J : Pt → Ans) (x0 : RKeys) : Ans := J (.p0 0 x0)
def live : Nat → Live := fun i => match i with | 2 => [(1, none), (3, none)] | _ => []
def pats : List Pat := [.agg [.sl 3, .int .i64]]
def res : RP := .one (.rd (.bool))
abbrev E : Env := { T := assoc Tab, G := conG [(120, Z39.con)], nt := 48 }
theorem step_eq (I : Heads) (p : Pt) : enterC E live I (pid p) (bodyOf Tryz.f268) (stOf (live (pid p)) (pvs p) (phs p)) (doneK E Tryz.f268 res) = step (fun q => I (pid q) (pvs q) (phs q)) p := by
 cases p <;> kernel_rfl
theorem start_eq (I : Heads) (ls : List L) : runC E live I (bodyOf Tryz.f268) (initS pats ls) (doneK E Tryz.f268 res) = start (fun q => I (pid q) (pvs q) (phs q)) (RKeys.dec ls) := by kernel_rfl
theorem run_eq (n : Nat) (ls : List L) : runF E live Tryz.f268 res n (initS pats ls) = start (iter step n) (RKeys.dec ls) := runF_iter (id := pid) (vs := pvs) (hs := phs) (step := step) (start := fun J => start J (RKeys.dec ls)) step_eq (fun I => start_eq I ls) n
def md (a0 : MKeys) : Bool := (eachI (S := Unit) (β := Bool) (fun (i1 : Nat) (y1 : Int) (s3 : Unit) => (bif (!(Z39.md y1 1 99)) then (.inr (false : Bool)) else (bif (decide ((i1 : Int) > 0)) then (bif (decide ((a0.fList.getD (Int.toNat (IntKind.i64.wrap ((i1 : Int) - 1))) 0) ≥ y1)) then (.inr (false : Bool)) else (.inl ())) else (.inl ())))) (fun (s3 : Unit) => (bif (Z39.md (a0.fList.length : Int) 1 4) then ((Z39.md a0.fNeed 1 (a0.fList.length : Int)) : Bool) else (false : Bool))) 0 a0.fList ())
def gd (a0 : MKeys) : Prop := (MKeys.Sm (2 ^ 21) a0)
def acc (ls : List L) : RKeys := (RKeys.dec ls)
def R : RKeys → Option Bool := RR gd md
theorem R_eq {a0} (h : gd a0) : R (MKeys.r a0) = some (md a0) := RR_eq (a := a0) h
def con : Con := CN pats res acc R
theorem okF (a0 : MKeys) (hg : gd a0) : ∃ n, start (iter step n) (MKeys.r a0) = ret ((md a0) : Bool) := by
  unfold gd at hg
  have H0 := hg
  unfold start md
  try simp only [S0, MKeys.rs]
  have Bh2 : a0.fList.length ≤ maxLen := (by
      have := (H0).1
      try simp only [maxLen] at *
      omega)
  refine ex_eq (out := ret) (loopM_eachI (z := 0)) ?_
  refine ex_pt (p := Pt.p0 0 (MKeys.r a0)) (by first | rfl | (simp only [S0, MKeys.rs, MP]; done) | (simp only [MP]; rfl)) ?_
  refine loopM_ok (pt := fun (i1 : Nat) (s3 : Unit) => Pt.p0 (i1 : Int) (MKeys.r a0)) (s := (() : Unit)) (out := ret) (fun _ _ => True) (fun J i1 s3 h2 hih2 => ?_) (fun s3 hih2 => ?_) trivial
  · simp only [step, S0, MKeys.rs]
    have bb_ := Bh2
    simp only [maxLen] at bb_
    have := (H0).1
    refine Rnd.yes (by apply decide_eq_true; omega) ?_
    refine Rnd.yes zle_dec ?_
    refine Rnd.yes (lt_dec h2) ?_
    refine Rnd.call_to (Z39.md (a0.fList.getD i1 0) 1 99) (Z39.R_eq (a0 := (a0.fList.getD i1 0)) (a1 := 1) (a2 := 99) trivial) ?_
    refine Rnd.bif (fun _ => Rnd.inr rfl) (fun c4 => ?_)
    have dc4 := c4
    try simp only [DC] at dc4
    have Dc4 := c4
    try simp [Z39.md] at Dc4
    refine Rnd.bif (fun c5 => ?_) (fun c5 => ?_)
    · have dc5 := c5
      try simp only [DC] at dc5
      refine Rnd.yes (by
          refine decide_eq_true ?_
          try simp (disch := omega) only [LN, wi]
          first | omega | (simp; done) | (simp; omega)) ?_
      refine Rnd.yes (by
          have := (H0).1
          refine decide_eq_true ?_
          try simp (disch := omega) only [LN, wi]
          first | omega | (simp; done) | (simp; omega)) ?_
      refine Rnd.yes zle_dec ?_
      refine Rnd.yes (lt_dec h2) ?_
      refine Rnd.bif (fun _ => Rnd.inr rfl) (fun c6 => ?_)
      refine Rnd.inl trivial ?_
      rw [wrap_succ h2 Bh2]
      all_goals first | rfl | (simp only [S0, MKeys.rs, MP]; first | done | rfl)
    · refine Rnd.inl trivial ?_
      rw [wrap_succ h2 Bh2]
      all_goals first | rfl | (simp only [S0, MKeys.rs, MP]; first | done | rfl)
  · simp only [step, S0, MKeys.rs]
    have := (H0).1
    refine ex_no (by apply decide_eq_false; omega) ?_
    refine ex_call_to (Z39.md (a0.fList.length : Int) 1 4) (Z39.R_eq (a0 := (a0.fList.length : Int)) (a1 := 1) (a2 := 4) trivial) ?_
    refine ex_bif ret (fun c7 => ?_) (fun _ => ⟨0, rfl⟩)
    refine ex_call_to (Z39.md a0.fNeed 1 (a0.fList.length : Int)) (Z39.R_eq (a0 := a0.fNeed) (a1 := 1) (a2 := (a0.fList.length : Int)) trivial) ?_
    refine ⟨0, ?_⟩
    all_goals first | rfl | (simp only [S0, MKeys.rs, MP]; first | done | rfl)
theorem valid_ : Valid Tryz.prog Ev 268 con := VV (run := fun n x => start (iter step n) x) mix tab_ok (.cons Z39.valid_ .nil) Tryz.func268 (by kernel_rfl) run_eq (fun _ a _ _ hg => okF a hg)
theorem tr {a0 : MKeys} (h : md a0 = true) : 1 ≤ a0.fList.length ∧ a0.fList.length ≤ 4 := by
 refine Classical.byContradiction fun hc => ?_
 have e1 : Z39.md (a0.fList.length : Int) 1 4 = false := by simp [Z39.md]; omega
 unfold md at h
 rw [e1] at h
 have e2 : ∀ s : Unit, (bif false then Z39.md a0.fNeed 1 (a0.fList.length : Int) else false) = false := fun _ => rfl
 have h3 := eachI_const (c := false) (f := fun (i1 : Nat) (y1 : Int) (s3 : Unit) => (bif (!(Z39.md y1 1 99)) then (.inr (false : Bool)) else (bif (decide ((i1 : Int) > 0)) then (bif (decide ((a0.fList.getD (Int.toNat (IntKind.i64.wrap ((i1 : Int) - 1))) 0) ≥ y1)) then (.inr (false : Bool)) else (.inl ())) else (.inl ())))) (by
  intro i x s b h
  revert h
  simp only [Bool.cond_eq_ite]
  repeat' split
  all_goals (intro h; first | (cases h; rfl) | cases h)) a0.fList 0 ()
 simp only [cond_false] at h
 rw [h3] at h
 cases h
end Z40
namespace Z41
def F (x0 : RKeys) : Ans := (bif (x0.fNeed == 0) then ret (((x0.fList.length : Int) == 0) : Bool) else ret (false : Bool))
def pats : List Pat := [.agg [.sl 3, .int .i64]]
def res : RP := .one (.rd (.bool))
def md (a0 : MKeys) : Bool := (bif (a0.fNeed == 0) then (((a0.fList.length : Int) == 0) : Bool) else (false : Bool))
def gd (a0 : MKeys) : Prop := True
def acc (ls : List L) : RKeys := (RKeys.dec ls)
def R : RKeys → Option Bool := RR gd md
theorem R_eq {a0} (h : gd a0) : R (MKeys.r a0) = some (md a0) := RR_eq (a := a0) h
def con : Con := CN pats res acc R
theorem okF (a0 : MKeys) (hg : gd a0) : F (MKeys.r a0) = ret ((md a0) : Bool) := by
 unfold F md
 try simp only [S0, MKeys.rs]
 refine bif_out ret (fun c1 => ?_) (fun _ => rfl)
 all_goals first | rfl | (simp only [S0, MKeys.rs, MP]; first | done | rfl)
theorem valid_ : Valid Tryz.prog Ev 269 con := VV (live := fun _ => []) (nt := 12) (run := fun _ x => F x) mix tab_ok .nil Tryz.func269 (by kernel_rfl) (fun _ _ => by kernel_rfl) (fun _ a _ _ hg => ⟨0, okF a hg⟩)
end Z41
namespace Z42
def F (x0 : RHead) : Ans := (call (Z39.R (x0.fZone, 0, 2147483646)) fun v1 => (bif (!v1) then ret (false : Bool) else (call (Z39.R (x0.fRoot, 0, 2147483646)) fun v2 => (bif (!v2) then ret (false : Bool) else (call (Z39.R (x0.fPrev, 0, 2147483646)) fun v3 => (bif (!v3) then ret (false : Bool) else (call (Z39.R (x0.fEpoch, 0, 200)) fun v4 => (bif (!v4) then ret (false : Bool) else (call (Z39.R (x0.fKind, 1, 3)) fun v5 => (bif (!v5) then ret (false : Bool) else (call (Z39.R (x0.fTime, 0, 100000)) fun v6 => (bif (!v6) then ret (false : Bool) else (call (Z39.R (x0.fUntil, x0.fTime, 100000)) fun v7 => (bif (!v7) then ret (false : Bool) else (bif (decide ((IntKind.i64.wrap (x0.fUntil - x0.fTime)) > 200)) then ret (false : Bool) else (call (Z39.R (x0.fCount, 0, 12)) fun v8 => (bif (!v8) then ret (false : Bool) else (call (Z40.R x0.fKeys) fun v9 => (bif (!v9) then ret (false : Bool) else (call (Z41.R x0.fHeirs) fun v10 => (bif v10 then (bif (x0.fWait != 0) then ret (false : Bool) else (call (Z40.R x0.fJudge) fun v11 => (bif v11 then ret (true : Bool) else (call (Z41.R x0.fJudge) fun v12 => (bif v12 then ret ((!x0.fFrozen) : Bool) else ret (false : Bool)))))) else (call (Z40.R x0.fHeirs) fun v13 => (bif (!v13) then ret (false : Bool) else (call (Z39.R (x0.fWait, 1, 500)) fun v14 => (bif (!v14) then ret (false : Bool) else (call (Z40.R x0.fJudge) fun v15 => (bif v15 then ret (true : Bool) else (call (Z41.R x0.fJudge) fun v16 => (bif v16 then ret ((!x0.fFrozen) : Bool) else ret (false : Bool))))))))))))))))))))))))))))))
def pats : List Pat := [.agg [.int .i64, .int .i64, .int .i64, .int .i64, .int .i64, .int .i64, .int .i64, .int .i64, .sl 3, .int .i64, .sl 3, .int .i64, .int .i64, .sl 3, .int .i64, .bool]]
def res : RP := .one (.rd (.bool))
def md (a0 : MHead) : Bool := (bif (!(Z39.md a0.fZone 0 2147483646)) then (false : Bool) else (bif (!(Z39.md a0.fRoot 0 2147483646)) then (false : Bool) else (bif (!(Z39.md a0.fPrev 0 2147483646)) then (false : Bool) else (bif (!(Z39.md a0.fEpoch 0 200)) then (false : Bool) else (bif (!(Z39.md a0.fKind 1 3)) then (false : Bool) else (bif (!(Z39.md a0.fTime 0 100000)) then (false : Bool) else (bif (!(Z39.md a0.fUntil a0.fTime 100000)) then (false : Bool) else (bif (decide ((IntKind.i64.wrap (a0.fUntil - a0.fTime)) > 200)) then (false : Bool) else (bif (!(Z39.md a0.fCount 0 12)) then (false : Bool) else (bif (!(Z40.md a0.fKeys)) then (false : Bool) else (bif (Z41.md a0.fHeirs) then (bif (a0.fWait != 0) then (false : Bool) else (bif (Z40.md a0.fJudge) then (true : Bool) else (bif (Z41.md a0.fJudge) then ((!a0.fFrozen) : Bool) else (false : Bool)))) else (bif (!(Z40.md a0.fHeirs)) then (false : Bool) else (bif (!(Z39.md a0.fWait 1 500)) then (false : Bool) else (bif (Z40.md a0.fJudge) then (true : Bool) else (bif (Z41.md a0.fJudge) then ((!a0.fFrozen) : Bool) else (false : Bool))))))))))))))))
def gd (a0 : MHead) : Prop := (MHead.Sm (2 ^ 21) a0)
def acc (ls : List L) : RHead := (RHead.dec ls)
def R : RHead → Option Bool := RR gd md
theorem R_eq {a0} (h : gd a0) : R (MHead.r a0) = some (md a0) := RR_eq (a := a0) h
def con : Con := CN pats res acc R
theorem okF (a0 : MHead) (hg : gd a0) : F (MHead.r a0) = ret ((md a0) : Bool) := by
  unfold gd at hg
  have H0 := hg
  unfold F md
  try simp only [S0, MHead.rs]
  refine call_to (Z39.md a0.fZone 0 2147483646) (Z39.R_eq (a0 := a0.fZone) (a1 := 0) (a2 := 2147483646) trivial) ?_
  refine bif_out ret (fun _ => rfl) (fun c1 => ?_)
  refine call_to (Z39.md a0.fRoot 0 2147483646) (Z39.R_eq (a0 := a0.fRoot) (a1 := 0) (a2 := 2147483646) trivial) ?_
  refine bif_out ret (fun _ => rfl) (fun c2 => ?_)
  refine call_to (Z39.md a0.fPrev 0 2147483646) (Z39.R_eq (a0 := a0.fPrev) (a1 := 0) (a2 := 2147483646) trivial) ?_
  refine bif_out ret (fun _ => rfl) (fun c3 => ?_)
  refine call_to (Z39.md a0.fEpoch 0 200) (Z39.R_eq (a0 := a0.fEpoch) (a1 := 0) (a2 := 200) trivial) ?_
  refine bif_out ret (fun _ => rfl) (fun c4 => ?_)
  refine call_to (Z39.md a0.fKind 1 3) (Z39.R_eq (a0 := a0.fKind) (a1 := 1) (a2 := 3) trivial) ?_
  refine bif_out ret (fun _ => rfl) (fun c5 => ?_)
  refine call_to (Z39.md a0.fTime 0 100000) (Z39.R_eq (a0 := a0.fTime) (a1 := 0) (a2 := 100000) trivial) ?_
  refine bif_out ret (fun _ => rfl) (fun c6 => ?_)
  refine call_to (Z39.md a0.fUntil a0.fTime 100000) (Z39.R_eq (a0 := a0.fUntil) (a1 := a0.fTime) (a2 := 100000) trivial) ?_
  refine bif_out ret (fun _ => rfl) (fun c7 => ?_)
  refine bif_out ret (fun _ => rfl) (fun c8 => ?_)
  refine call_to (Z39.md a0.fCount 0 12) (Z39.R_eq (a0 := a0.fCount) (a1 := 0) (a2 := 12) trivial) ?_
  refine bif_out ret (fun _ => rfl) (fun c9 => ?_)
  refine call_to (Z40.md a0.fKeys) (Z40.R_eq (a0 := a0.fKeys) H0.1) ?_
  refine bif_out ret (fun _ => rfl) (fun c10 => ?_)
  refine call_to (Z41.md a0.fHeirs) (Z41.R_eq (a0 := a0.fHeirs) trivial) ?_
  refine bif_out ret (fun c11 => ?_) (fun c11 => ?_)
  · refine bif_out ret (fun _ => rfl) (fun c12 => ?_)
    refine call_to (Z40.md a0.fJudge) (Z40.R_eq (a0 := a0.fJudge) H0.2.2) ?_
    refine bif_out ret (fun _ => rfl) (fun c13 => ?_)
    refine call_to (Z41.md a0.fJudge) (Z41.R_eq (a0 := a0.fJudge) trivial) ?_
    refine bif_out ret (fun c14 => ?_) (fun _ => rfl)
    all_goals first | rfl | (simp only [S0, MHead.rs, MP]; first | done | rfl)
  · refine call_to (Z40.md a0.fHeirs) (Z40.R_eq (a0 := a0.fHeirs) H0.2.1) ?_
    refine bif_out ret (fun _ => rfl) (fun c15 => ?_)
    refine call_to (Z39.md a0.fWait 1 500) (Z39.R_eq (a0 := a0.fWait) (a1 := 1) (a2 := 500) trivial) ?_
    refine bif_out ret (fun _ => rfl) (fun c16 => ?_)
    refine call_to (Z40.md a0.fJudge) (Z40.R_eq (a0 := a0.fJudge) H0.2.2) ?_
    refine bif_out ret (fun _ => rfl) (fun c17 => ?_)
    refine call_to (Z41.md a0.fJudge) (Z41.R_eq (a0 := a0.fJudge) trivial) ?_
    refine bif_out ret (fun c18 => ?_) (fun _ => rfl)
    all_goals first | rfl | (simp only [S0, MHead.rs, MP]; first | done | rfl)
theorem valid_ : Valid Tryz.prog Ev 238 con := VV (live := fun _ => []) (nt := 92) (run := fun _ x => F x) mix tab_ok (.cons Z39.valid_ (.cons Z40.valid_ (.cons Z41.valid_ .nil))) Tryz.func238 (by kernel_rfl) (fun _ _ => by kernel_rfl) (fun _ a _ _ hg => ⟨0, okF a hg⟩)
theorem tr {a0 : MHead} (h : md a0 = true) : (1 ≤ a0.fKind ∧ a0.fKind ≤ 3) ∧ 0 ≤ a0.fTime ∧ a0.fTime ≤ a0.fUntil ∧ a0.fUntil ≤ 100000 ∧ 0 ≤ a0.fCount ∧ a0.fCount ≤ 12 := by
 have key : ∀ x y z : Int, Z39.md x y z = true → y ≤ x ∧ x ≤ z := fun x y z h => by simpa [Z39.md] using h
 unfold md at h
 simp only [n_and, Bool.not_not, Bool.and_eq_true] at h
 obtain ⟨_, _, _, _, h5, h6, h7, _, h8, _⟩ := h
 have := key _ _ _ h5
 have := key _ _ _ h6
 have := key _ _ _ h7
 have := key _ _ _ h8
 omega
end Z42
namespace Z43
def F (x0 : RKeys) : Ans := (bif (lim (((2 : Int) + (x0.fList.length : Int)) * 8)) then ret (([[L.int x0.fNeed], [L.int (x0.fList.length : Int)]] ++ x0.fList) : List (List L)) else none)
def pats : List Pat := [.agg [.sl 3, .int .i64]]
def res : RP := .one (.fr 3)
def md (a0 : MKeys) : List Int := ([a0.fNeed, (a0.fList.length : Int)] ++ a0.fList)
def gd (a0 : MKeys) : Prop := (MKeys.Sm (2 ^ 21) a0)
def acc (ls : List L) : RKeys := (RKeys.dec ls)
def R : RKeys → Option (List (List L)) := RR gd md
theorem R_eq {a0} (h : gd a0) : R (MKeys.r a0) = some ((md a0).map iRow) := RR_eq (a := a0) h
def con : Con := CN pats res acc R
theorem okF (a0 : MKeys) (hg : gd a0) : F (MKeys.r a0) = ret (((md a0).map iRow) : List (List L)) := by
 unfold gd at hg
 have H0 := hg
 unfold F md
 try simp only [S0, MKeys.rs]
 refine yes_ret (by
   have := (H0).1
   refine lim_t ?_
   try simp (disch := omega) only [LN, wi]
   first | omega | (simp; done) | (simp; omega)) ?_
 all_goals first | rfl | (simp only [S0, MKeys.rs]; done) | (simp only [MP]; rfl) | (simp only [S0, MKeys.rs, MP]; first | done | rfl)
theorem valid_ : Valid Tryz.prog Ev 216 con := VV (live := fun _ => []) (nt := 12) (run := fun _ x => F x) mix tab_ok .nil Tryz.func216 (by kernel_rfl) (fun _ _ => by kernel_rfl) (fun _ a _ _ hg => ⟨0, okF a hg⟩)
theorem len (a0 : MKeys) : (md a0).length = 2 + a0.fList.length := by simp [md]; omega
end Z43
namespace Z44
def F (x0 : Int) (x1 : Int) : Ans := (call (Z39.R (x1, 1, 1000000000000)) fun v1 => (bif (!v1) then ret (0 : Int) else (bif (decide (x1 = 0)) then none else (bif (decide (x1 = 0)) then none else ret ((Int.tmod (IntKind.i64.wrap ((Int.tmod x0 x1) + x1)) x1) : Int)))))
def pats : List Pat := [.rd (.int .i64), .rd (.int .i64)]
def res : RP := .one (.rd (.int .i64))
def md (a0 : Int) (a1 : Int) : Int := (bif (!(Z39.md a1 1 1000000000000)) then (0 : Int) else ((Int.tmod (IntKind.i64.wrap ((Int.tmod a0 a1) + a1)) a1) : Int))
def gd (a0 : Int) (a1 : Int) : Prop := True
def acc (ls : List L) : Int × Int := ((ls.headD .hole).toInt, ((dropT 1 ls).headD .hole).toInt)
def R : (Int × Int) → Option Int := RR (p2 gd) (u2 md)
theorem R_eq {a0} {a1} (h : gd a0 a1) : R (a0, a1) = some (md a0 a1) := RR_eq (a := (a0, a1)) h
def con : Con := CN pats res acc R
theorem okF (a0 : Int) (a1 : Int) (hg : gd a0 a1) : F a0 a1 = ret ((md a0 a1) : Int) := by
 unfold F md
 try simp only [S0]
 refine call_to (Z39.md a1 1 1000000000000) (Z39.R_eq (a0 := a1) (a1 := 1) (a2 := 1000000000000) trivial) ?_
 refine bif_out ret (fun _ => rfl) (fun c1 => ?_)
 have dc1 := c1
 try simp only [DC] at dc1
 have Dc1 := c1
 try simp [Z39.md] at Dc1
 refine no_ret (by
   refine decide_eq_false ?_
   try simp (disch := omega) only [LN, wi]
   first | omega | (simp; done) | (simp; omega)) ?_
 refine no_ret (by
   refine decide_eq_false ?_
   try simp (disch := omega) only [LN, wi]
   first | omega | (simp; done) | (simp; omega)) ?_
 all_goals first | rfl | (simp only [S0, MP]; first | done | rfl)
theorem valid_ : Valid Tryz.prog Ev 285 con := VV (live := fun _ => []) (nt := 15) (run := fun _ x => F x.1 x.2) mix tab_ok (.cons Z39.valid_ .nil) Tryz.func285 (by kernel_rfl) (fun _ _ => by kernel_rfl) (fun _ a _ _ hg => ⟨0, okF a.1 a.2 hg⟩)
end Z44
namespace Z45
inductive Pt where
 | p0 (a : List (List L)) (b : Int) (c : Int)
def pid : Pt → Nat
 | .p0 .. => 3
def pvs : Pt → List V
 | .p0 a b c => [.sl none 3 a, .int .i64 b, .int .i64 c]
def phs : Pt → List Root
 | .p0 a b c => []
def step (J : Pt → Ans) : Pt → Ans
 | .p0 a b c => (bif (decide (c < (a.length : Int))) then (bif (decide ((0 : Int) ≤ c)) then (bif (decide (c < (a.length : Int))) then (call (Z44.R ((iAt a (Int.toNat c)), 2147483647)) fun v1 => J (.p0 a (Int.tmod (IntKind.i64.wrap ((IntKind.i64.wrap ((IntKind.i64.wrap (b * 1000003)) + v1)) + 13)) 2147483647) (IntKind.i64.wrap (c + 1)))) else none) else none) else ret (b : Int))
def start (J : Pt → Ans) (x0 : List (List L)) : Ans := J (.p0 x0 11 0)
def live : Nat → Live := fun i => match i with | 3 => [(0, none), (3, none), (4, none)] | _ => []
def pats : List Pat := [.rd (.sl 3)]
def res : RP := .one (.rd (.int .i64))
abbrev E : Env := { T := assoc Tab, G := conG [(285, Z44.con)], nt := 22 }
theorem step_eq (I : Heads) (p : Pt) : enterC E live I (pid p) (bodyOf Tryz.f248) (stOf (live (pid p)) (pvs p) (phs p)) (doneK E Tryz.f248 res) = step (fun q => I (pid q) (pvs q) (phs q)) p := by
 cases p <;> kernel_rfl
theorem start_eq (I : Heads) (ls : List L) : runC E live I (bodyOf Tryz.f248) (initS pats ls) (doneK E Tryz.f248 res) = start (fun q => I (pid q) (pvs q) (phs q)) (ls.headD .hole).toSl := by kernel_rfl
theorem run_eq (n : Nat) (ls : List L) : runF E live Tryz.f248 res n (initS pats ls) = start (iter step n) (ls.headD .hole).toSl := runF_iter (id := pid) (vs := pvs) (hs := phs) (step := step) (start := fun J => start J (ls.headD .hole).toSl) step_eq (fun I => start_eq I ls) n
def md (a0 : List Int) : Int := (eachM (S := Int) (β := Int) (fun (y1 : Int) (s3 : Int) => (.inl (Int.tmod (IntKind.i64.wrap ((IntKind.i64.wrap ((IntKind.i64.wrap (s3 * 1000003)) + (Z44.md y1 2147483647))) + 13)) 2147483647))) (fun (s3 : Int) => (s3 : Int)) a0 11)
def gd (a0 : List Int) : Prop := (SmL (2 ^ 43) (fun y : Int => True) a0)
def acc (ls : List L) : List (List L) := (ls.headD .hole).toSl
def R : (List (List L)) → Option Int := RR gd md
theorem R_eq {a0} (h : gd a0) : R (a0.map iRow) = some (md a0) := RR_eq (a := a0) h
def con : Con := CN pats res acc R
theorem okF (a0 : List Int) (hg : gd a0) : ∃ n, start (iter step n) (a0.map iRow) = ret ((md a0) : Int) := by
  unfold gd at hg
  have H0 := hg
  unfold start md
  try simp only [S0]
  have Bh2 : a0.length ≤ maxLen := (by
      have := (H0).1
      try simp only [maxLen] at *
      omega)
  refine ex_eq (out := ret) (loopM_eachM (z := 0)) ?_
  refine ex_pt (p := Pt.p0 (a0.map iRow) 11 0) (by first | rfl | (simp only [S0, MP]; done) | (simp only [MP]; rfl)) ?_
  refine loopM_ok (pt := fun (i1 : Nat) (s3 : Int) => Pt.p0 (a0.map iRow) s3 (i1 : Int)) (s := (11 : Int)) (out := ret) (fun _ _ => True) (fun J i1 s3 h2 hih2 => ?_) (fun s3 hih2 => ?_) trivial
  · simp only [step, S0]
    have bb_ := Bh2
    simp only [maxLen] at bb_
    have := (H0).1
    refine Rnd.yes (by apply decide_eq_true; omega) ?_
    refine Rnd.yes zle_dec ?_
    refine Rnd.yes (lt_dec h2) ?_
    refine Rnd.call_to (Z44.md (a0.getD i1 0) 2147483647) (Z44.R_eq (a0 := (a0.getD i1 0)) (a1 := 2147483647) trivial) ?_
    refine Rnd.inl trivial ?_
    rw [wrap_succ h2 Bh2]
    all_goals first | rfl | (simp only [S0, MP]; first | done | rfl)
  · simp only [step, S0]
    have := (H0).1
    refine ex_no (by apply decide_eq_false; omega) ?_
    refine ⟨0, ?_⟩
    all_goals first | rfl | (simp only [S0, MP]; first | done | rfl)
theorem valid_ : Valid Tryz.prog Ev 248 con := VV (run := fun n x => start (iter step n) x) mix tab_ok (.cons Z44.valid_ .nil) Tryz.func248 (by kernel_rfl) run_eq (fun _ a _ _ hg => okF a hg)
end Z45
namespace Z46
def F (x0 : RKeys) (x1 : Int) : Ans := (call (Z43.R x0) fun v1 => (bif (lim (((2 : Int) + (v1.length : Int)) * 8)) then (call (Z45.R ([[L.int 239], [L.int x1]] ++ v1)) fun v2 => ret (v2 : Int)) else none))
def pats : List Pat := [.agg [.sl 3, .int .i64], .rd (.int .i64)]
def res : RP := .one (.rd (.int .i64))
def md (a0 : MKeys) (a1 : Int) : Int := ((Z45.md ([239, a1] ++ (Z43.md a0))) : Int)
def gd (a0 : MKeys) (a1 : Int) : Prop := (MKeys.Sm (2 ^ 21) a0)
def acc (ls : List L) : RKeys × Int := ((RKeys.dec ls), ((dropT 2 ls).headD .hole).toInt)
def R : (RKeys × Int) → Option Int := RR (p2 gd) (u2 md)
theorem R_eq {a0} {a1} (h : gd a0 a1) : R ((MKeys.r a0), a1) = some (md a0 a1) := RR_eq (a := (a0, a1)) h
def con : Con := CN pats res acc R
theorem okF (a0 : MKeys) (a1 : Int) (hg : gd a0 a1) : F (MKeys.r a0) a1 = ret ((md a0 a1) : Int) := by
  unfold gd at hg
  have H0 := hg
  unfold F md
  try simp only [S0]
  refine call_to ((Z43.md a0).map iRow) (Z43.R_eq (a0 := a0) H0) ?_
  try simp only [S0]
  refine yes_ret (by
      have := Z43.len a0
      have := (H0).1
      refine lim_t ?_
      try simp (disch := omega) only [LN, wi]
      first | omega | (simp; done) | (simp; omega)) ?_
  refine call_to (Z45.md ([239, a1] ++ (Z43.md a0))) ?_ ?_
  · have R_ := Z45.R_eq (a0 := ([239, a1] ++ (Z43.md a0))) ⟨(by
        have := Z43.len a0
        have := (H0).1
        try simp (disch := omega) only [LN, wi]
        first | omega | (simp; done) | (simp; omega)), fun _ _ => trivial⟩
    first | exact R_ | (simp only [MP, S0] at R_ ⊢; first | exact R_ | (rw [← R_]; rfl))
  all_goals first | rfl | (simp only [S0, MP]; first | done | rfl)
theorem valid_ : Valid Tryz.prog Ev 239 con := VV (live := fun _ => []) (nt := 11) (run := fun _ x => F x.1 x.2) mix tab_ok (.cons Z43.valid_ (.cons Z45.valid_ .nil)) Tryz.func239 (by kernel_rfl) (fun _ _ => by kernel_rfl) (fun _ a _ _ hg => ⟨0, okF a.1 a.2 hg⟩)
end Z46
namespace Z47
def F (x0 : RHead) : Ans := (call (Z43.R x0.fKeys) fun v1 => (bif (lim (((8 : Int) + (v1.length : Int)) * 8)) then (call (Z43.R x0.fHeirs) fun v2 => (bif (lim (((([[L.int x0.fZone], [L.int x0.fEpoch], [L.int x0.fKind], [L.int x0.fTime], [L.int x0.fUntil], [L.int x0.fCount], [L.int x0.fRoot], [L.int x0.fPrev]] ++ v1).length : Int) + (v2.length : Int)) * 8)) then (bif (lim ((((([[L.int x0.fZone], [L.int x0.fEpoch], [L.int x0.fKind], [L.int x0.fTime], [L.int x0.fUntil], [L.int x0.fCount], [L.int x0.fRoot], [L.int x0.fPrev]] ++ v1) ++ v2).length : Int) + 1) * 8)) then (call (Z43.R x0.fJudge) fun v3 => (bif (lim (((((([[L.int x0.fZone], [L.int x0.fEpoch], [L.int x0.fKind], [L.int x0.fTime], [L.int x0.fUntil], [L.int x0.fCount], [L.int x0.fRoot], [L.int x0.fPrev]] ++ v1) ++ v2) ++ [[L.int x0.fWait]]).length : Int) + (v3.length : Int)) * 8)) then (bif x0.fFrozen then (bif (lim ((((((([[L.int x0.fZone], [L.int x0.fEpoch], [L.int x0.fKind], [L.int x0.fTime], [L.int x0.fUntil], [L.int x0.fCount], [L.int x0.fRoot], [L.int x0.fPrev]] ++ v1) ++ v2) ++ [[L.int x0.fWait]]) ++ v3).length : Int) + 1) * 8)) then ret (((((([[L.int x0.fZone], [L.int x0.fEpoch], [L.int x0.fKind], [L.int x0.fTime], [L.int x0.fUntil], [L.int x0.fCount], [L.int x0.fRoot], [L.int x0.fPrev]] ++ v1) ++ v2) ++ [[L.int x0.fWait]]) ++ v3) ++ [[L.int 1]]) : List (List L)) else none) else (bif (lim ((((((([[L.int x0.fZone], [L.int x0.fEpoch], [L.int x0.fKind], [L.int x0.fTime], [L.int x0.fUntil], [L.int x0.fCount], [L.int x0.fRoot], [L.int x0.fPrev]] ++ v1) ++ v2) ++ [[L.int x0.fWait]]) ++ v3).length : Int) + 1) * 8)) then ret (((((([[L.int x0.fZone], [L.int x0.fEpoch], [L.int x0.fKind], [L.int x0.fTime], [L.int x0.fUntil], [L.int x0.fCount], [L.int x0.fRoot], [L.int x0.fPrev]] ++ v1) ++ v2) ++ [[L.int x0.fWait]]) ++ v3) ++ [[L.int 0]]) : List (List L)) else none)) else none)) else none) else none)) else none))
def pats : List Pat := [.agg [.int .i64, .int .i64, .int .i64, .int .i64, .int .i64, .int .i64, .int .i64, .int .i64, .sl 3, .int .i64, .sl 3, .int .i64, .int .i64, .sl 3, .int .i64, .bool]]
def res : RP := .one (.fr 3)
def md (a0 : MHead) : List Int := (bif a0.fFrozen then ((((([a0.fZone, a0.fEpoch, a0.fKind, a0.fTime, a0.fUntil, a0.fCount, a0.fRoot, a0.fPrev] ++ (Z43.md a0.fKeys)) ++ (Z43.md a0.fHeirs)) ++ [a0.fWait]) ++ (Z43.md a0.fJudge)) ++ [1]) else ((((([a0.fZone, a0.fEpoch, a0.fKind, a0.fTime, a0.fUntil, a0.fCount, a0.fRoot, a0.fPrev] ++ (Z43.md a0.fKeys)) ++ (Z43.md a0.fHeirs)) ++ [a0.fWait]) ++ (Z43.md a0.fJudge)) ++ [0]))
def gd (a0 : MHead) : Prop := (MHead.Sm (2 ^ 21) a0)
def acc (ls : List L) : RHead := (RHead.dec ls)
def R : RHead → Option (List (List L)) := RR gd md
theorem R_eq {a0} (h : gd a0) : R (MHead.r a0) = some ((md a0).map iRow) := RR_eq (a := a0) h
def con : Con := CN pats res acc R
theorem okF (a0 : MHead) (hg : gd a0) : F (MHead.r a0) = ret (((md a0).map iRow) : List (List L)) := by
  unfold gd at hg
  have H0 := hg
  unfold F md
  try simp only [S0, MHead.rs]
  refine call_to ((Z43.md a0.fKeys).map iRow) (Z43.R_eq (a0 := a0.fKeys) H0.1) ?_
  try simp only [S0, MHead.rs]
  refine yes_ret (by
      have := Z43.len a0.fKeys
      have := (H0.1).1
      refine lim_t ?_
      try simp (disch := omega) only [LN, wi]
      first | omega | (simp; done) | (simp; omega)) ?_
  refine call_to ((Z43.md a0.fHeirs).map iRow) (Z43.R_eq (a0 := a0.fHeirs) H0.2.1) ?_
  try simp only [S0, MHead.rs]
  refine yes_ret (by
      have := Z43.len a0.fKeys
      have := (H0.1).1
      have := Z43.len a0.fHeirs
      have := (H0.2.1).1
      refine lim_t ?_
      try simp (disch := omega) only [LN, wi]
      first | omega | (simp; done) | (simp; omega)) ?_
  refine yes_ret (by
      have := Z43.len a0.fKeys
      have := (H0.1).1
      have := Z43.len a0.fHeirs
      have := (H0.2.1).1
      refine lim_t ?_
      try simp (disch := omega) only [LN, wi]
      first | omega | (simp; done) | (simp; omega)) ?_
  refine call_to ((Z43.md a0.fJudge).map iRow) (Z43.R_eq (a0 := a0.fJudge) H0.2.2) ?_
  try simp only [S0, MHead.rs]
  refine yes_ret (by
      have := Z43.len a0.fKeys
      have := (H0.1).1
      have := Z43.len a0.fHeirs
      have := (H0.2.1).1
      have := Z43.len a0.fJudge
      have := (H0.2.2).1
      refine lim_t ?_
      try simp (disch := omega) only [LN, wi]
      first | omega | (simp; done) | (simp; omega)) ?_
  refine bif_out (fun b : List Int => ret ((b.map iRow) : List (List L))) (fun c1 => ?_) (fun c1 => ?_)
  · refine yes_ret (by
        have := Z43.len a0.fKeys
        have := (H0.1).1
        have := Z43.len a0.fHeirs
        have := (H0.2.1).1
        have := Z43.len a0.fJudge
        have := (H0.2.2).1
        refine lim_t ?_
        try simp (disch := omega) only [LN, wi]
        first | omega | (simp; done) | (simp; omega)) ?_
    all_goals first | rfl | (simp only [S0, MHead.rs]; done) | (simp only [MP]; rfl) | (simp only [S0, MHead.rs, MP]; first | done | rfl)
  · refine yes_ret (by
        have := Z43.len a0.fKeys
        have := (H0.1).1
        have := Z43.len a0.fHeirs
        have := (H0.2.1).1
        have := Z43.len a0.fJudge
        have := (H0.2.2).1
        refine lim_t ?_
        try simp (disch := omega) only [LN, wi]
        first | omega | (simp; done) | (simp; omega)) ?_
    all_goals first | rfl | (simp only [S0, MHead.rs]; done) | (simp only [MP]; rfl) | (simp only [S0, MHead.rs, MP]; first | done | rfl)
theorem valid_ : Valid Tryz.prog Ev 190 con := VV (live := fun _ => []) (nt := 49) (run := fun _ x => F x) mix tab_ok (.cons Z43.valid_ .nil) Tryz.func190 (by kernel_rfl) (fun _ _ => by kernel_rfl) (fun _ a _ _ hg => ⟨0, okF a hg⟩)
theorem len (a0 : MHead) : (md a0).length = 16 + a0.fKeys.fList.length + a0.fHeirs.fList.length + a0.fJudge.fList.length := by unfold md; cases a0.fFrozen <;> simp [Z43.md] <;> omega
theorem md_form (a : MHead) : md a = a.fZone :: a.fEpoch :: a.fKind :: a.fTime :: a.fUntil :: a.fCount :: a.fRoot :: a.fPrev :: (Z43.md a.fKeys ++ (Z43.md a.fHeirs ++ (a.fWait :: (Z43.md a.fJudge ++ [bif a.fFrozen then 1 else 0])))) := by
 unfold md
 cases a.fFrozen <;> simp only [cond_true, cond_false, List.append_assoc, List.cons_append, List.nil_append]
end Z47
namespace Z48
def F (x0 : Int) (x1 : List (List L)) : Ans := (bif (lim (((1 : Int) + (x1.length : Int)) * 8)) then (bif (lim (((([[L.int x0]] ++ x1).length : Int) + 1) * 8)) then (call (Z45.R (([[L.int x0]] ++ x1) ++ [[L.int x0]])) fun v1 => ret (v1 : Int)) else none) else none)
def pats : List Pat := [.rd (.int .i64), .rd (.sl 3)]
def res : RP := .one (.rd (.int .i64))
def md (a0 : Int) (a1 : List Int) : Int := ((Z45.md (([a0] ++ a1) ++ [a0])) : Int)
def gd (a0 : Int) (a1 : List Int) : Prop := (SmL (2 ^ 40) (fun y : Int => True) a1)
def acc (ls : List L) : Int × List (List L) := ((ls.headD .hole).toInt, ((dropT 1 ls).headD .hole).toSl)
def R : (Int × List (List L)) → Option Int := RR (p2 gd) (u2 md)
theorem R_eq {a0} {a1} (h : gd a0 a1) : R (a0, (a1.map iRow)) = some (md a0 a1) := RR_eq (a := (a0, a1)) h
def con : Con := CN pats res acc R
theorem okF (a0 : Int) (a1 : List Int) (hg : gd a0 a1) : F a0 (a1.map iRow) = ret ((md a0 a1) : Int) := by
  unfold gd at hg
  have H1 := hg
  unfold F md
  try simp only [S0]
  refine yes_ret (by
      have := (H1).1
      refine lim_t ?_
      try simp (disch := omega) only [LN, wi]
      first | omega | (simp; done) | (simp; omega)) ?_
  refine yes_ret (by
      have := (H1).1
      refine lim_t ?_
      try simp (disch := omega) only [LN, wi]
      first | omega | (simp; done) | (simp; omega)) ?_
  refine call_to (Z45.md (([a0] ++ a1) ++ [a0])) ?_ ?_
  · have R_ := Z45.R_eq (a0 := (([a0] ++ a1) ++ [a0])) ⟨(by
        have := (H1).1
        try simp (disch := omega) only [LN, wi]
        first | omega | (simp; done) | (simp; omega)), fun _ _ => trivial⟩
    first | exact R_ | (simp only [MP, S0] at R_ ⊢; first | exact R_ | (rw [← R_]; rfl))
  all_goals first | rfl | (simp only [S0, MP]; first | done | rfl)
theorem valid_ : Valid Tryz.prog Ev 332 con := VV (live := fun _ => []) (nt := 13) (run := fun _ x => F x.1 x.2) mix tab_ok (.cons Z45.valid_ .nil) Tryz.func332 (by kernel_rfl) (fun _ _ => by kernel_rfl) (fun _ a _ _ hg => ⟨0, okF a.1 a.2 hg⟩)
end Z48
namespace Z49
def F (x0 : Int) (x1 : List (List L)) : Ans := (bif (lim (((1 : Int) + (x1.length : Int)) * 8)) then (call (Z48.R (x0, ([[L.int 223]] ++ x1))) fun v1 => ret (v1 : Int)) else none)
def pats : List Pat := [.rd (.int .i64), .rd (.sl 3)]
def res : RP := .one (.rd (.int .i64))
def md (a0 : Int) (a1 : List Int) : Int := ((Z48.md a0 ([223] ++ a1)) : Int)
def gd (a0 : Int) (a1 : List Int) : Prop := (SmL (2 ^ 39) (fun y : Int => True) a1)
def acc (ls : List L) : Int × List (List L) := ((ls.headD .hole).toInt, ((dropT 1 ls).headD .hole).toSl)
def R : (Int × List (List L)) → Option Int := RR (p2 gd) (u2 md)
theorem R_eq {a0} {a1} (h : gd a0 a1) : R (a0, (a1.map iRow)) = some (md a0 a1) := RR_eq (a := (a0, a1)) h
def con : Con := CN pats res acc R
theorem okF (a0 : Int) (a1 : List Int) (hg : gd a0 a1) : F a0 (a1.map iRow) = ret ((md a0 a1) : Int) := by
  unfold gd at hg
  have H1 := hg
  unfold F md
  try simp only [S0]
  refine yes_ret (by
      have := (H1).1
      refine lim_t ?_
      try simp (disch := omega) only [LN, wi]
      first | omega | (simp; done) | (simp; omega)) ?_
  refine call_to (Z48.md a0 ([223] ++ a1)) ?_ ?_
  · have R_ := Z48.R_eq (a0 := a0) (a1 := ([223] ++ a1)) ⟨(by
        have := (H1).1
        try simp (disch := omega) only [LN, wi]
        first | omega | (simp; done) | (simp; omega)), fun _ _ => trivial⟩
    first | exact R_ | (simp only [MP, S0] at R_ ⊢; first | exact R_ | (rw [← R_]; rfl))
  all_goals first | rfl | (simp only [S0, MP]; first | done | rfl)
theorem valid_ : Valid Tryz.prog Ev 320 con := VV (live := fun _ => []) (nt := 10) (run := fun _ x => F x.1 x.2) mix tab_ok (.cons Z48.valid_ .nil) Tryz.func320 (by kernel_rfl) (fun _ _ => by kernel_rfl) (fun _ a _ _ hg => ⟨0, okF a.1 a.2 hg⟩)
end Z49
namespace Z50
def F (x0 : MSig) (x1 : List (List L)) : Ans := (call (Z39.R (x0.fKey, 1, 99)) fun v1 => (bif v1 then (call (Z49.R (x0.fKey, x1)) fun v2 => ret ((x0.fTag == v2) : Bool)) else ret (false : Bool)))
def pats : List Pat := [.agg [.int .i64, .int .i64], .rd (.sl 3)]
def res : RP := .one (.rd (.bool))
def md (a0 : MSig) (a1 : List Int) : Bool := (bif (Z39.md a0.fKey 1 99) then ((a0.fTag == (Z49.md a0.fKey a1)) : Bool) else (false : Bool))
def gd (a0 : MSig) (a1 : List Int) : Prop := (SmL (2 ^ 38) (fun y : Int => True) a1)
def acc (ls : List L) : MSig × List (List L) := ((MSig.dec ls), ((dropT 2 ls).headD .hole).toSl)
def R : (MSig × List (List L)) → Option Bool := RR (p2 gd) (u2 md)
theorem R_eq {a0} {a1} (h : gd a0 a1) : R (a0, (a1.map iRow)) = some (md a0 a1) := RR_eq (a := (a0, a1)) h
def con : Con := CN pats res acc R
theorem okF (a0 : MSig) (a1 : List Int) (hg : gd a0 a1) : F a0 (a1.map iRow) = ret ((md a0 a1) : Bool) := by
 unfold gd at hg
 have H1 := hg
 unfold F md
 try simp only [S0]
 refine call_to (Z39.md a0.fKey 1 99) (Z39.R_eq (a0 := a0.fKey) (a1 := 1) (a2 := 99) trivial) ?_
 refine bif_out ret (fun c1 => ?_) (fun _ => rfl)
 refine call_to (Z49.md a0.fKey a1) (Z49.R_eq (a0 := a0.fKey) (a1 := a1) (H1.mono (by decide) (fun x hx => trivial))) ?_
 all_goals first | rfl | (simp only [S0, MP]; first | done | rfl)
theorem valid_ : Valid Tryz.prog Ev 299 con := VV (live := fun _ => []) (nt := 17) (run := fun _ x => F x.1 x.2) mix tab_ok (.cons Z39.valid_ (.cons Z49.valid_ .nil)) Tryz.func299 (by kernel_rfl) (fun _ _ => by kernel_rfl) (fun _ a _ _ hg => ⟨0, okF a.1 a.2 hg⟩)
end Z50
namespace Z51
inductive Pt where
 | p0 (a : List (List L)) (b : List (List L)) (c : Int) (d : Int) (e : RKeys)
 | p1 (a : List (List L)) (b : List (List L)) (c : Int) (d : Int) (e : Int) (f : RKeys)
def pid : Pt → Nat
 | .p0 .. => 3
 | .p1 .. => 6
def pvs : Pt → List V
 | .p0 a b c d e => [.sl none 3 a, .sl none 184 b, .bptr 0 0, .int .i64 c, .int .i64 d]
 | .p1 a b c d e f => [.sl none 3 a, .sl none 184 b, .bptr 0 0, .int .i64 c, .int .i64 d, .int .i64 e]
def phs : Pt → List Root
 | .p0 a b c d e => [.box [.sl none 3 e.fList, .int .i64 e.fNeed]]
 | .p1 a b c d e f => [.box [.sl none 3 f.fList, .int .i64 f.fNeed]]
def step (J : Pt → Ans) : Pt → Ans
 | .p0 a b c d e => (bif (decide (d < (e.fList.length : Int))) then J (.p1 a b c d 0 e) else ret (c : Int))
 | .p1 a b c d e f => (bif (decide (e < (b.length : Int))) then (bif (decide ((0 : Int) ≤ e)) then (bif (decide (e < (b.length : Int))) then (bif (decide ((0 : Int) ≤ d)) then (bif (decide (d < (f.fList.length : Int))) then (bif ((MSig.at b (Int.toNat e)).fKey == (iAt f.fList (Int.toNat d))) then (bif (decide ((0 : Int) ≤ e)) then (bif (decide (e < (b.length : Int))) then (call (Z50.R ((MSig.at b (Int.toNat e)), a)) fun v1 => (bif v1 then J (.p0 a b (IntKind.i64.wrap (c + 1)) (IntKind.i64.wrap (d + 1)) f) else J (.p1 a b c d (IntKind.i64.wrap (e + 1)) f))) else none) else none) else J (.p1 a b c d (IntKind.i64.wrap (e + 1)) f)) else none) else none) else none) else none) else J (.p0 a b c (IntKind.i64.wrap (d + 1)) f))
def start (J : Pt → Ans) (x0 : RKeys) (x1 : List (List L)) (x2 : List (List L)) : Ans := J (.p0 x1 x2 0 0 x0)
def live : Nat → Live := fun i => match i with | 3 => [(1, none), (2, none), (3, none), (7, none), (8, none)] | 6 => [(1, none), (2, none), (3, none), (7, none), (8, none), (9, none)] | _ => []
def pats : List Pat := [.agg [.sl 3, .int .i64], .rd (.sl 3), .rd (.sl 184)]
def res : RP := .one (.rd (.int .i64))
abbrev E : Env := { T := assoc Tab, G := conG [(299, Z50.con)], nt := 45 }
theorem step_eq (I : Heads) (p : Pt) : enterC E live I (pid p) (bodyOf Tryz.f270) (stOf (live (pid p)) (pvs p) (phs p)) (doneK E Tryz.f270 res) = step (fun q => I (pid q) (pvs q) (phs q)) p := by
 cases p <;> kernel_rfl
theorem start_eq (I : Heads) (ls : List L) : runC E live I (bodyOf Tryz.f270) (initS pats ls) (doneK E Tryz.f270 res) = start (fun q => I (pid q) (pvs q) (phs q)) (RKeys.dec ls) ((dropT 2 ls).headD .hole).toSl ((dropT 3 ls).headD .hole).toSl := by kernel_rfl
theorem run_eq (n : Nat) (ls : List L) : runF E live Tryz.f270 res n (initS pats ls) = start (iter step n) (RKeys.dec ls) ((dropT 2 ls).headD .hole).toSl ((dropT 3 ls).headD .hole).toSl := runF_iter (id := pid) (vs := pvs) (hs := phs) (step := step) (start := fun J => start J (RKeys.dec ls) ((dropT 2 ls).headD .hole).toSl ((dropT 3 ls).headD .hole).toSl) step_eq (fun I => start_eq I ls) n
def md (a0 : MKeys) (a1 : List Int) (a2 : List MSig) : Int := (eachM (S := Int) (β := Int) (fun (y1 : Int) (s3 : Int) => (eachM (S := Unit) (β := (Int ⊕ Int)) (fun (y5 : MSig) (s7 : Unit) => (bif (y5.fKey == y1) then (bif (Z50.md y5 a1) then (.inr (.inl (IntKind.i64.wrap (s3 + 1)))) else (.inl ())) else (.inl ()))) (fun (s7 : Unit) => (.inl s3)) a2 ())) (fun (s3 : Int) => (s3 : Int)) a0.fList 0)
def gd (a0 : MKeys) (a1 : List Int) (a2 : List MSig) : Prop := (MKeys.Sm (2 ^ 21) a0) ∧ (SmL (2 ^ 38) (fun y : Int => True) a1) ∧ (SmL (2 ^ 21) (fun y : MSig => MSig.Sm (2 ^ 21) y) a2)
def acc (ls : List L) : RKeys × List (List L) × List (List L) := ((RKeys.dec ls), ((dropT 2 ls).headD .hole).toSl, ((dropT 3 ls).headD .hole).toSl)
def R : (RKeys × List (List L) × List (List L)) → Option Int := RR (p3 gd) (u3 md)
theorem R_eq {a0} {a1} {a2} (h : gd a0 a1 a2) : R ((MKeys.r a0), (a1.map iRow), (a2.map MSig.row)) = some (md a0 a1 a2) := RR_eq (a := (a0, a1, a2)) h
def con : Con := CN pats res acc R
theorem okF (a0 : MKeys) (a1 : List Int) (a2 : List MSig) (hg : gd a0 a1 a2) : ∃ n, start (iter step n) (MKeys.r a0) (a1.map iRow) (a2.map MSig.row) = ret ((md a0 a1 a2) : Int) := by
  unfold gd at hg
  obtain ⟨H0, H1, H2⟩ := hg
  unfold start md
  try simp only [S0, MKeys.rs, MSig.rs]
  have Bh2 : a0.fList.length ≤ maxLen := (by
      have := (H0).1
      try simp only [maxLen] at *
      omega)
  refine ex_eq (out := ret) (loopM_eachM (z := 0)) ?_
  refine ex_pt (p := Pt.p0 (a1.map iRow) (a2.map MSig.row) 0 0 (MKeys.r a0)) (by first | rfl | (simp only [S0, MKeys.rs, MSig.rs, MP]; done) | (simp only [MP]; rfl)) ?_
  refine loopM_ex (pt := fun (i1 : Nat) (s3 : Int) => Pt.p0 (a1.map iRow) (a2.map MSig.row) s3 (i1 : Int) (MKeys.r a0)) (s := (0 : Int)) (out := ret) (fun _ _ => True) (fun i1 s3 h2 hih2 K4 hK4 rK4 => ?_) (fun s3 hih2 => ?_) trivial
  · simp only [step, S0, MKeys.rs, MSig.rs]
    have bb_ := Bh2
    simp only [maxLen] at bb_
    have := (H0).1
    refine ex_yes (by apply decide_eq_true; omega) ?_
    have Bh6 : a2.length ≤ maxLen := (by
        have := (H2).1
        try simp only [maxLen] at *
        omega)
    refine ex_eq (out := K4) (loopM_eachM (z := MSig.zero)) ?_
    refine ex_pt (p := Pt.p1 (a1.map iRow) (a2.map MSig.row) s3 (i1 : Int) 0 (MKeys.r a0)) (by first | rfl | (simp only [S0, MKeys.rs, MSig.rs, MP]; done) | (simp only [MP]; rfl)) ?_
    refine loopM_ex (pt := fun (i5 : Nat) (s7 : Unit) => Pt.p1 (a1.map iRow) (a2.map MSig.row) s3 (i1 : Int) (i5 : Int) (MKeys.r a0)) (s := (() : Unit)) (out := K4) (fun _ _ => True) (fun i5 s7 h6 hih6 K8 hK8 rK8 => ?_) (fun s7 hih6 => ?_) trivial
    · simp only [step, S0, MKeys.rs, MSig.rs]
      have bb_ := Bh6
      simp only [maxLen] at bb_
      have := (H2).1
      refine ex_yes (by apply decide_eq_true; omega) ?_
      refine ex_yes zle_dec ?_
      refine ex_yes (lt_dec h6) ?_
      refine ex_yes (by
          refine decide_eq_true ?_
          try simp (disch := omega) only [LN, wi]
          first | omega | (simp; done) | (simp; omega)) ?_
      refine ex_yes (by
          have := (H0).1
          refine decide_eq_true ?_
          try simp (disch := omega) only [LN, wi]
          first | omega | (simp; done) | (simp; omega)) ?_
      refine ex_bif K8 (fun c9 => ?_) (fun c9 => ?_)
      · refine ex_yes zle_dec ?_
        refine ex_yes (lt_dec h6) ?_
        refine ex_call_to (Z50.md (a2.getD i5 MSig.zero) a1) (Z50.R_eq (a0 := (a2.getD i5 MSig.zero)) (a1 := a1) H1) ?_
        refine ex_bif K8 (fun c10 => ?_) (fun c10 => ?_)
        · rw [rK8]
          rw [wrap_succ h2 Bh2]
          first | exact hK4 _ trivial | (simp only [S0, MKeys.rs, MSig.rs]; exact hK4 _ trivial) | (simp only [MP]; exact hK4 _ trivial)
        · rw [wrap_succ h6 Bh6]
          first | exact hK8 _ trivial | (simp only [S0, MKeys.rs, MSig.rs]; exact hK8 _ trivial) | (simp only [MP]; exact hK8 _ trivial)
      · rw [wrap_succ h6 Bh6]
        first | exact hK8 _ trivial | (simp only [S0, MKeys.rs, MSig.rs]; exact hK8 _ trivial) | (simp only [MP]; exact hK8 _ trivial)
    · simp only [step, S0, MKeys.rs, MSig.rs]
      have := (H2).1
      refine ex_no (by apply decide_eq_false; omega) ?_
      rw [wrap_succ h2 Bh2]
      first | exact hK4 _ trivial | (simp only [S0, MKeys.rs, MSig.rs]; exact hK4 _ trivial) | (simp only [MP]; exact hK4 _ trivial)
  · simp only [step, S0, MKeys.rs, MSig.rs]
    have := (H0).1
    refine ex_no (by apply decide_eq_false; omega) ?_
    refine ⟨0, ?_⟩
    all_goals first | rfl | (simp only [S0, MKeys.rs, MSig.rs, MP]; first | done | rfl)
theorem valid_ : Valid Tryz.prog Ev 270 con := VV (run := fun n x => start (iter step n) x.1 x.2.1 x.2.2) mix tab_ok (.cons Z50.valid_ .nil) Tryz.func270 (by kernel_rfl) run_eq (fun _ a _ _ hg => okF a.1 a.2.1 a.2.2 hg)
end Z51
namespace Z52
def F (x0 : RKeys) (x1 : List (List L)) (x2 : List (List L)) : Ans := (call (Z40.R x0) fun v1 => (bif v1 then (call (Z51.R (x0, x1, x2)) fun v2 => ret ((decide (v2 ≥ x0.fNeed)) : Bool)) else ret (false : Bool)))
def pats : List Pat := [.agg [.sl 3, .int .i64], .rd (.sl 3), .rd (.sl 184)]
def res : RP := .one (.rd (.bool))
def md (a0 : MKeys) (a1 : List Int) (a2 : List MSig) : Bool := (bif (Z40.md a0) then ((decide ((Z51.md a0 a1 a2) ≥ a0.fNeed)) : Bool) else (false : Bool))
def gd (a0 : MKeys) (a1 : List Int) (a2 : List MSig) : Prop := (MKeys.Sm (2 ^ 21) a0) ∧ (SmL (2 ^ 38) (fun y : Int => True) a1) ∧ (SmL (2 ^ 21) (fun y : MSig => MSig.Sm (2 ^ 21) y) a2)
def acc (ls : List L) : RKeys × List (List L) × List (List L) := ((RKeys.dec ls), ((dropT 2 ls).headD .hole).toSl, ((dropT 3 ls).headD .hole).toSl)
def R : (RKeys × List (List L) × List (List L)) → Option Bool := RR (p3 gd) (u3 md)
theorem R_eq {a0} {a1} {a2} (h : gd a0 a1 a2) : R ((MKeys.r a0), (a1.map iRow), (a2.map MSig.row)) = some (md a0 a1 a2) := RR_eq (a := (a0, a1, a2)) h
def con : Con := CN pats res acc R
theorem okF (a0 : MKeys) (a1 : List Int) (a2 : List MSig) (hg : gd a0 a1 a2) : F (MKeys.r a0) (a1.map iRow) (a2.map MSig.row) = ret ((md a0 a1 a2) : Bool) := by
 unfold gd at hg
 obtain ⟨H0, H1, H2⟩ := hg
 unfold F md
 try simp only [S0, MKeys.rs]
 refine call_to (Z40.md a0) (Z40.R_eq (a0 := a0) H0) ?_
 refine bif_out ret (fun c1 => ?_) (fun _ => rfl)
 refine call_to (Z51.md a0 a1 a2) (Z51.R_eq (a0 := a0) (a1 := a1) (a2 := a2) ⟨H0, H1, H2⟩) ?_
 all_goals first | rfl | (simp only [S0, MKeys.rs, MP]; first | done | rfl)
theorem valid_ : Valid Tryz.prog Ev 240 con := VV (live := fun _ => []) (nt := 18) (run := fun _ x => F x.1 x.2.1 x.2.2) mix tab_ok (.cons Z40.valid_ (.cons Z51.valid_ .nil)) Tryz.func240 (by kernel_rfl) (fun _ _ => by kernel_rfl) (fun _ a _ _ hg => ⟨0, okF a.1 a.2.1 a.2.2 hg⟩)
end Z52
namespace Z53
def F (x0 : RSigned) : Ans := (call (Z42.R x0.fHead) fun v1 => (bif v1 then (bif (x0.fHead.fEpoch == 0) then (bif (x0.fHead.fKind == 1) then (bif (!x0.fHead.fFrozen) then (call (Z46.R (x0.fHead.fKeys, x0.fHead.fPrev)) fun v2 => (bif (x0.fHead.fZone == v2) then (call (Z47.R x0.fHead) fun v3 => (call (Z52.R (x0.fHead.fKeys, v3, x0.fSigs)) fun v4 => ret (v4 : Bool))) else ret (false : Bool))) else ret (false : Bool)) else ret (false : Bool)) else ret (false : Bool)) else ret (false : Bool)))
def pats : List Pat := [.agg [.int .i64, .int .i64, .int .i64, .int .i64, .int .i64, .int .i64, .int .i64, .int .i64, .sl 3, .int .i64, .sl 3, .int .i64, .int .i64, .sl 3, .int .i64, .bool, .sl 184]]
def res : RP := .one (.rd (.bool))
def md (a0 : MSigned) : Bool := (bif (Z42.md a0.fHead) then (bif (a0.fHead.fEpoch == 0) then (bif (a0.fHead.fKind == 1) then (bif (!a0.fHead.fFrozen) then (bif (a0.fHead.fZone == (Z46.md a0.fHead.fKeys a0.fHead.fPrev)) then ((Z52.md a0.fHead.fKeys (Z47.md a0.fHead) a0.fSigs) : Bool) else (false : Bool)) else (false : Bool)) else (false : Bool)) else (false : Bool)) else (false : Bool))
def gd (a0 : MSigned) : Prop := (MSigned.Sm (2 ^ 21) a0)
def acc (ls : List L) : RSigned := (RSigned.dec ls)
def R : RSigned → Option Bool := RR gd md
theorem R_eq {a0} (h : gd a0) : R (MSigned.r a0) = some (md a0) := RR_eq (a := a0) h
def con : Con := CN pats res acc R
theorem okF (a0 : MSigned) (hg : gd a0) : F (MSigned.r a0) = ret ((md a0) : Bool) := by
 unfold gd at hg
 have H0 := hg
 unfold F md
 try simp only [S0, MHead.rs, MSigned.rs]
 refine call_to (Z42.md a0.fHead) (Z42.R_eq (a0 := a0.fHead) H0.1) ?_
 refine bif_out ret (fun c1 => ?_) (fun _ => rfl)
 try have tc1 := Z42.tr (by simpa using c1)
 refine bif_out ret (fun c2 => ?_) (fun _ => rfl)
 have dc2 := c2
 try simp only [DC] at dc2
 refine bif_out ret (fun c3 => ?_) (fun _ => rfl)
 have dc3 := c3
 try simp only [DC] at dc3
 refine bif_out ret (fun c4 => ?_) (fun _ => rfl)
 have dc4 := c4
 try simp only [DC] at dc4
 refine call_to (Z46.md a0.fHead.fKeys a0.fHead.fPrev) (Z46.R_eq (a0 := a0.fHead.fKeys) (a1 := a0.fHead.fPrev) H0.1.1) ?_
 refine bif_out ret (fun c5 => ?_) (fun _ => rfl)
 have dc5 := c5
 try simp only [DC] at dc5
 refine call_to ((Z47.md a0.fHead).map iRow) (Z47.R_eq (a0 := a0.fHead) H0.1) ?_
 try simp only [S0, MHead.rs, MSigned.rs]
 refine call_to (Z52.md a0.fHead.fKeys (Z47.md a0.fHead) a0.fSigs) (Z52.R_eq (a0 := a0.fHead.fKeys) (a1 := (Z47.md a0.fHead)) (a2 := a0.fSigs) ⟨H0.1.1, ⟨(by
   have := Z47.len a0.fHead
   have := (H0.1.1).1
   have := (H0.1.2.1).1
   have := (H0.1.2.2).1
   try simp (disch := omega) only [LN, wi]
   first | omega | (simp; done) | (simp; omega)), fun _ _ => trivial⟩, H0.2⟩) ?_
 all_goals first | rfl | (simp only [S0, MHead.rs, MSigned.rs, MP]; first | done | rfl)
theorem valid_ : Valid Tryz.prog Ev 212 con := VV (live := fun _ => []) (nt := 42) (run := fun _ x => F x) mix tab_ok (.cons Z42.valid_ (.cons Z46.valid_ (.cons Z47.valid_ (.cons Z52.valid_ .nil)))) Tryz.func212 (by kernel_rfl) (fun _ _ => by kernel_rfl) (fun _ a _ _ hg => ⟨0, okF a hg⟩)
end Z53
namespace Z54
def F (x0 : RHead) : Ans := (call (Z47.R x0) fun v1 => (bif (lim (((1 : Int) + (v1.length : Int)) * 8)) then (call (Z45.R ([[L.int 233]] ++ v1)) fun v2 => ret (v2 : Int)) else none))
def pats : List Pat := [.agg [.int .i64, .int .i64, .int .i64, .int .i64, .int .i64, .int .i64, .int .i64, .int .i64, .sl 3, .int .i64, .sl 3, .int .i64, .int .i64, .sl 3, .int .i64, .bool]]
def res : RP := .one (.rd (.int .i64))
def md (a0 : MHead) : Int := ((Z45.md ([233] ++ (Z47.md a0))) : Int)
def gd (a0 : MHead) : Prop := (MHead.Sm (2 ^ 21) a0)
def acc (ls : List L) : RHead := (RHead.dec ls)
def R : RHead → Option Int := RR gd md
theorem R_eq {a0} (h : gd a0) : R (MHead.r a0) = some (md a0) := RR_eq (a := a0) h
def con : Con := CN pats res acc R
theorem okF (a0 : MHead) (hg : gd a0) : F (MHead.r a0) = ret ((md a0) : Int) := by
  unfold gd at hg
  have H0 := hg
  unfold F md
  try simp only [S0]
  refine call_to ((Z47.md a0).map iRow) (Z47.R_eq (a0 := a0) H0) ?_
  try simp only [S0]
  refine yes_ret (by
      have := Z47.len a0
      have := (H0.1).1
      have := (H0.2.1).1
      have := (H0.2.2).1
      refine lim_t ?_
      try simp (disch := omega) only [LN, wi]
      first | omega | (simp; done) | (simp; omega)) ?_
  refine call_to (Z45.md ([233] ++ (Z47.md a0))) ?_ ?_
  · have R_ := Z45.R_eq (a0 := ([233] ++ (Z47.md a0))) ⟨(by
        have := Z47.len a0
        have := (H0.1).1
        have := (H0.2.1).1
        have := (H0.2.2).1
        try simp (disch := omega) only [LN, wi]
        first | omega | (simp; done) | (simp; omega)), fun _ _ => trivial⟩
    first | exact R_ | (simp only [MP, S0] at R_ ⊢; first | exact R_ | (rw [← R_]; rfl))
  all_goals first | rfl | (simp only [S0, MP]; first | done | rfl)
theorem valid_ : Valid Tryz.prog Ev 271 con := VV (live := fun _ => []) (nt := 8) (run := fun _ x => F x) mix tab_ok (.cons Z47.valid_ (.cons Z45.valid_ .nil)) Tryz.func271 (by kernel_rfl) (fun _ _ => by kernel_rfl) (fun _ a _ _ hg => ⟨0, okF a hg⟩)
end Z54
namespace Z55
def F (x0 : RHead) (x1 : RHead) : Ans := (bif x0.fFrozen then ret (4 : Int) else (bif x1.fFrozen then ret (6 : Int) else ret (1 : Int)))
def pats : List Pat := [.agg [.int .i64, .int .i64, .int .i64, .int .i64, .int .i64, .int .i64, .int .i64, .int .i64, .sl 3, .int .i64, .sl 3, .int .i64, .int .i64, .sl 3, .int .i64, .bool], .agg [.int .i64, .int .i64, .int .i64, .int .i64, .int .i64, .int .i64, .int .i64, .int .i64, .sl 3, .int .i64, .sl 3, .int .i64, .int .i64, .sl 3, .int .i64, .bool]]
def res : RP := .one (.rd (.int .i64))
def md (a0 : MHead) (a1 : MHead) : Int := (bif a0.fFrozen then (4 : Int) else (bif a1.fFrozen then (6 : Int) else (1 : Int)))
def gd (a0 : MHead) (a1 : MHead) : Prop := True
def acc (ls : List L) : RHead × RHead := ((RHead.dec ls), (RHead.dec (dropT 16 ls)))
def R : (RHead × RHead) → Option Int := RR (p2 gd) (u2 md)
theorem R_eq {a0} {a1} (h : gd a0 a1) : R ((MHead.r a0), (MHead.r a1)) = some (md a0 a1) := RR_eq (a := (a0, a1)) h
def con : Con := CN pats res acc R
theorem okF (a0 : MHead) (a1 : MHead) (hg : gd a0 a1) : F (MHead.r a0) (MHead.r a1) = ret ((md a0 a1) : Int) := by
 unfold F md
 try simp only [S0, MHead.rs]
 refine bif_out ret (fun _ => rfl) (fun c1 => ?_)
 refine bif_out ret (fun _ => rfl) (fun _ => rfl)
theorem valid_ : Valid Tryz.prog Ev 272 con := VV (live := fun _ => []) (nt := 11) (run := fun _ x => F x.1 x.2) mix tab_ok .nil Tryz.func272 (by kernel_rfl) (fun _ _ => by kernel_rfl) (fun _ a _ _ hg => ⟨0, okF a.1 a.2 hg⟩)
end Z55
namespace Z56
inductive Pt where
 | p0 (a : List (List L)) (b : List (List L)) (c : Int)
def pid : Pt → Nat
 | .p0 .. => 4
def pvs : Pt → List V
 | .p0 a b c => [.sl none 3 a, .sl none 3 b, .int .i64 c]
def phs : Pt → List Root
 | .p0 a b c => []
def step (J : Pt → Ans) : Pt → Ans
 | .p0 a b c => (bif (decide (c < (a.length : Int))) then (bif (decide ((0 : Int) ≤ c)) then (bif (decide (c < (a.length : Int))) then (bif (decide ((0 : Int) ≤ c)) then (bif (decide (c < (b.length : Int))) then (bif ((iAt a (Int.toNat c)) != (iAt b (Int.toNat c))) then ret (false : Bool) else J (.p0 a b (IntKind.i64.wrap (c + 1)))) else none) else none) else none) else none) else ret (true : Bool))
def start (J : Pt → Ans) (x0 : List (List L)) (x1 : List (List L)) : Ans := (bif ((x0.length : Int) != (x1.length : Int)) then ret (false : Bool) else J (.p0 x0 x1 0))
def live : Nat → Live := fun i => match i with | 4 => [(0, none), (1, none), (5, none)] | _ => []
def pats : List Pat := [.rd (.sl 3), .rd (.sl 3)]
def res : RP := .one (.rd (.bool))
abbrev E : Env := { T := assoc Tab, G := conG [], nt := 26 }
theorem step_eq (I : Heads) (p : Pt) : enterC E live I (pid p) (bodyOf Tryz.f189) (stOf (live (pid p)) (pvs p) (phs p)) (doneK E Tryz.f189 res) = step (fun q => I (pid q) (pvs q) (phs q)) p := by
 cases p <;> kernel_rfl
theorem start_eq (I : Heads) (ls : List L) : runC E live I (bodyOf Tryz.f189) (initS pats ls) (doneK E Tryz.f189 res) = start (fun q => I (pid q) (pvs q) (phs q)) (ls.headD .hole).toSl ((dropT 1 ls).headD .hole).toSl := by kernel_rfl
theorem run_eq (n : Nat) (ls : List L) : runF E live Tryz.f189 res n (initS pats ls) = start (iter step n) (ls.headD .hole).toSl ((dropT 1 ls).headD .hole).toSl := runF_iter (id := pid) (vs := pvs) (hs := phs) (step := step) (start := fun J => start J (ls.headD .hole).toSl ((dropT 1 ls).headD .hole).toSl) step_eq (fun I => start_eq I ls) n
def md (a0 : List Int) (a1 : List Int) : Bool := (bif ((a0.length : Int) != (a1.length : Int)) then (false : Bool) else (loopM (S := Unit) (β := Bool) (fun (i2 : Nat) (s4 : Unit) => (bif ((a0.getD i2 0) != (a1.getD i2 0)) then (.inr (false : Bool)) else (.inl ()))) (fun (s4 : Unit) => (true : Bool)) a0.length 0 ()))
def gd (a0 : List Int) (a1 : List Int) : Prop := (SmL (2 ^ 38) (fun y : Int => True) a0) ∧ (SmL (2 ^ 38) (fun y : Int => True) a1)
def acc (ls : List L) : List (List L) × List (List L) := ((ls.headD .hole).toSl, ((dropT 1 ls).headD .hole).toSl)
def R : (List (List L) × List (List L)) → Option Bool := RR (p2 gd) (u2 md)
theorem R_eq {a0} {a1} (h : gd a0 a1) : R ((a0.map iRow), (a1.map iRow)) = some (md a0 a1) := RR_eq (a := (a0, a1)) h
def con : Con := CN pats res acc R
theorem okF (a0 : List Int) (a1 : List Int) (hg : gd a0 a1) : ∃ n, start (iter step n) (a0.map iRow) (a1.map iRow) = ret ((md a0 a1) : Bool) := by
  unfold gd at hg
  obtain ⟨H0, H1⟩ := hg
  unfold start md
  try simp only [S0]
  refine ex_bif ret (fun _ => ⟨0, rfl⟩) (fun c1 => ?_)
  have dc1 := c1
  try simp only [DC] at dc1
  have Bh3 : a0.length ≤ maxLen := (by
      have := (H0).1
      try simp only [maxLen] at *
      omega)
  refine ex_pt (p := Pt.p0 (a0.map iRow) (a1.map iRow) 0) (by first | rfl | (simp only [S0, MP]; done) | (simp only [MP]; rfl)) ?_
  refine loopM_ok (pt := fun (i2 : Nat) (s4 : Unit) => Pt.p0 (a0.map iRow) (a1.map iRow) (i2 : Int)) (s := (() : Unit)) (out := ret) (fun _ _ => True) (fun J i2 s4 h3 hih3 => ?_) (fun s4 hih3 => ?_) trivial
  · simp only [step, S0]
    have bb_ := Bh3
    simp only [maxLen] at bb_
    have := (H0).1
    refine Rnd.yes (by apply decide_eq_true; omega) ?_
    refine Rnd.yes zle_dec ?_
    refine Rnd.yes (lt_dec h3) ?_
    refine Rnd.yes zle_dec ?_
    refine Rnd.yes (by
        have := (H1).1
        refine decide_eq_true ?_
        try simp (disch := omega) only [LN, wi]
        first | omega | (simp; done) | (simp; omega)) ?_
    refine Rnd.bif (fun _ => Rnd.inr rfl) (fun c5 => ?_)
    refine Rnd.inl trivial ?_
    rw [wrap_succ h3 Bh3]
    all_goals first | rfl | (simp only [S0, MP]; first | done | rfl)
  · simp only [step, S0]
    have := (H0).1
    refine ex_no (by apply decide_eq_false; omega) ?_
    refine ⟨0, ?_⟩
    all_goals first | rfl | (simp only [S0, MP]; first | done | rfl)
theorem valid_ : Valid Tryz.prog Ev 189 con := VV (run := fun n x => start (iter step n) x.1 x.2) mix tab_ok .nil Tryz.func189 (by kernel_rfl) run_eq (fun _ a _ _ hg => okF a.1 a.2 hg)
theorem md_eq (a0 : List Int) (a1 : List Int) : md a0 a1 = eqB a0 a1 := by
 unfold md
 refine loop_eqB (0) (fun i s h h2 => ?_) (fun s => rfl)
 simp only [bne, int_beq, bool_beq, ba_beq]
 cases eqB _ _ <;> rfl
end Z56
namespace Z57
def F (x0 : RKeys) (x1 : RKeys) : Ans := (bif (x0.fNeed == x1.fNeed) then (call (Z56.R (x0.fList, x1.fList)) fun v1 => ret (v1 : Bool)) else ret (false : Bool))
def pats : List Pat := [.agg [.sl 3, .int .i64], .agg [.sl 3, .int .i64]]
def res : RP := .one (.rd (.bool))
def md (a0 : MKeys) (a1 : MKeys) : Bool := (bif (a0.fNeed == a1.fNeed) then ((Z56.md a0.fList a1.fList) : Bool) else (false : Bool))
def gd (a0 : MKeys) (a1 : MKeys) : Prop := (MKeys.Sm (2 ^ 21) a0) ∧ (MKeys.Sm (2 ^ 21) a1)
def acc (ls : List L) : RKeys × RKeys := ((RKeys.dec ls), (RKeys.dec (dropT 2 ls)))
def R : (RKeys × RKeys) → Option Bool := RR (p2 gd) (u2 md)
theorem R_eq {a0} {a1} (h : gd a0 a1) : R ((MKeys.r a0), (MKeys.r a1)) = some (md a0 a1) := RR_eq (a := (a0, a1)) h
def con : Con := CN pats res acc R
theorem okF (a0 : MKeys) (a1 : MKeys) (hg : gd a0 a1) : F (MKeys.r a0) (MKeys.r a1) = ret ((md a0 a1) : Bool) := by
 unfold gd at hg
 obtain ⟨H0, H1⟩ := hg
 unfold F md
 try simp only [S0, MKeys.rs]
 refine bif_out ret (fun c1 => ?_) (fun _ => rfl)
 refine call_to (Z56.md a0.fList a1.fList) (Z56.R_eq (a0 := a0.fList) (a1 := a1.fList) ⟨(H0.mono (by decide) (fun x hx => trivial)), (H1.mono (by decide) (fun x hx => trivial))⟩) ?_
 all_goals first | rfl | (simp only [S0, MKeys.rs, MP]; first | done | rfl)
theorem valid_ : Valid Tryz.prog Ev 300 con := VV (live := fun _ => []) (nt := 17) (run := fun _ x => F x.1 x.2) mix tab_ok (.cons Z56.valid_ .nil) Tryz.func300 (by kernel_rfl) (fun _ _ => by kernel_rfl) (fun _ a _ _ hg => ⟨0, okF a.1 a.2 hg⟩)
theorem md_eq (a0 : MKeys) (a1 : MKeys) : md a0 a1 = eqB a0 a1 := by
 unfold md
 cases a0; cases a1
 rw [Bool.eq_iff_iff]
 simp [eqB_iff, ba_beq, MKeys.mk.injEq, Z56.md_eq]
 try (constructor <;> (intro h; simp_all))
end Z57
namespace Z58
def F (x0 : RHead) (x1 : RHead) : Ans := (bif (x0.fCount == x1.fCount) then ret ((x0.fRoot == x1.fRoot) : Bool) else ret (false : Bool))
def pats : List Pat := [.agg [.int .i64, .int .i64, .int .i64, .int .i64, .int .i64, .int .i64, .int .i64, .int .i64, .sl 3, .int .i64, .sl 3, .int .i64, .int .i64, .sl 3, .int .i64, .bool], .agg [.int .i64, .int .i64, .int .i64, .int .i64, .int .i64, .int .i64, .int .i64, .int .i64, .sl 3, .int .i64, .sl 3, .int .i64, .int .i64, .sl 3, .int .i64, .bool]]
def res : RP := .one (.rd (.bool))
def md (a0 : MHead) (a1 : MHead) : Bool := (bif (a0.fCount == a1.fCount) then ((a0.fRoot == a1.fRoot) : Bool) else (false : Bool))
def gd (a0 : MHead) (a1 : MHead) : Prop := True
def acc (ls : List L) : RHead × RHead := ((RHead.dec ls), (RHead.dec (dropT 16 ls)))
def R : (RHead × RHead) → Option Bool := RR (p2 gd) (u2 md)
theorem R_eq {a0} {a1} (h : gd a0 a1) : R ((MHead.r a0), (MHead.r a1)) = some (md a0 a1) := RR_eq (a := (a0, a1)) h
def con : Con := CN pats res acc R
theorem okF (a0 : MHead) (a1 : MHead) (hg : gd a0 a1) : F (MHead.r a0) (MHead.r a1) = ret ((md a0 a1) : Bool) := by
 unfold F md
 try simp only [S0, MHead.rs]
 refine bif_out ret (fun c1 => ?_) (fun _ => rfl)
 all_goals first | rfl | (simp only [S0, MHead.rs, MP]; first | done | rfl)
theorem valid_ : Valid Tryz.prog Ev 301 con := VV (live := fun _ => []) (nt := 17) (run := fun _ x => F x.1 x.2) mix tab_ok .nil Tryz.func301 (by kernel_rfl) (fun _ _ => by kernel_rfl) (fun _ a _ _ hg => ⟨0, okF a.1 a.2 hg⟩)
end Z58
namespace Z59
def F (x0 : RHead) (x1 : RHead) : Ans := (bif x0.fFrozen then ret (4 : Int) else (call (Z41.R x0.fHeirs) fun v1 => (bif v1 then ret (5 : Int) else (bif (decide (x1.fTime < (IntKind.i64.wrap (x0.fUntil + x0.fWait)))) then ret (5 : Int) else (bif x1.fFrozen then ret (6 : Int) else (call (Z57.R (x1.fKeys, x0.fHeirs)) fun v2 => (bif (!v2) then ret (6 : Int) else (call (Z58.R (x1, x0)) fun v3 => (bif (!v3) then ret (6 : Int) else ret (1 : Int))))))))))
def pats : List Pat := [.agg [.int .i64, .int .i64, .int .i64, .int .i64, .int .i64, .int .i64, .int .i64, .int .i64, .sl 3, .int .i64, .sl 3, .int .i64, .int .i64, .sl 3, .int .i64, .bool], .agg [.int .i64, .int .i64, .int .i64, .int .i64, .int .i64, .int .i64, .int .i64, .int .i64, .sl 3, .int .i64, .sl 3, .int .i64, .int .i64, .sl 3, .int .i64, .bool]]
def res : RP := .one (.rd (.int .i64))
def md (a0 : MHead) (a1 : MHead) : Int := (bif a0.fFrozen then (4 : Int) else (bif (Z41.md a0.fHeirs) then (5 : Int) else (bif (decide (a1.fTime < (IntKind.i64.wrap (a0.fUntil + a0.fWait)))) then (5 : Int) else (bif a1.fFrozen then (6 : Int) else (bif (!(Z57.md a1.fKeys a0.fHeirs)) then (6 : Int) else (bif (!(Z58.md a1 a0)) then (6 : Int) else (1 : Int)))))))
def gd (a0 : MHead) (a1 : MHead) : Prop := (MHead.Sm (2 ^ 21) a0) ∧ (MHead.Sm (2 ^ 21) a1)
def acc (ls : List L) : RHead × RHead := ((RHead.dec ls), (RHead.dec (dropT 16 ls)))
def R : (RHead × RHead) → Option Int := RR (p2 gd) (u2 md)
theorem R_eq {a0} {a1} (h : gd a0 a1) : R ((MHead.r a0), (MHead.r a1)) = some (md a0 a1) := RR_eq (a := (a0, a1)) h
def con : Con := CN pats res acc R
theorem okF (a0 : MHead) (a1 : MHead) (hg : gd a0 a1) : F (MHead.r a0) (MHead.r a1) = ret ((md a0 a1) : Int) := by
 unfold gd at hg
 obtain ⟨H0, H1⟩ := hg
 unfold F md
 try simp only [S0, MHead.rs]
 refine bif_out ret (fun _ => rfl) (fun c1 => ?_)
 refine call_to (Z41.md a0.fHeirs) (Z41.R_eq (a0 := a0.fHeirs) trivial) ?_
 refine bif_out ret (fun _ => rfl) (fun c2 => ?_)
 refine bif_out ret (fun _ => rfl) (fun c3 => ?_)
 refine bif_out ret (fun _ => rfl) (fun c4 => ?_)
 refine call_to (Z57.md a1.fKeys a0.fHeirs) (Z57.R_eq (a0 := a1.fKeys) (a1 := a0.fHeirs) ⟨H1.1, H0.2.1⟩) ?_
 refine bif_out ret (fun _ => rfl) (fun c5 => ?_)
 refine call_to (Z58.md a1 a0) (Z58.R_eq (a0 := a1) (a1 := a0) trivial) ?_
 refine bif_out ret (fun _ => rfl) (fun _ => rfl)
theorem valid_ : Valid Tryz.prog Ev 273 con := VV (live := fun _ => []) (nt := 39) (run := fun _ x => F x.1 x.2) mix tab_ok (.cons Z41.valid_ (.cons Z57.valid_ (.cons Z58.valid_ .nil))) Tryz.func273 (by kernel_rfl) (fun _ _ => by kernel_rfl) (fun _ a _ _ hg => ⟨0, okF a.1 a.2 hg⟩)
end Z59
namespace Z60
def F (x0 : RHead) (x1 : RHead) : Ans := (call (Z41.R x0.fJudge) fun v1 => (bif v1 then ret (5 : Int) else (bif (x1.fFrozen == x0.fFrozen) then ret (6 : Int) else (call (Z58.R (x1, x0)) fun v2 => (bif (!v2) then ret (6 : Int) else (call (Z57.R (x1.fJudge, x0.fJudge)) fun v3 => (bif (!v3) then ret (6 : Int) else (call (Z57.R (x1.fHeirs, x0.fHeirs)) fun v4 => (bif (!v4) then ret (6 : Int) else (bif (x1.fWait != x0.fWait) then ret (6 : Int) else (bif x1.fFrozen then (call (Z57.R (x1.fKeys, x0.fKeys)) fun v5 => (bif (!v5) then ret (6 : Int) else ret (1 : Int))) else ret (1 : Int))))))))))))
def pats : List Pat := [.agg [.int .i64, .int .i64, .int .i64, .int .i64, .int .i64, .int .i64, .int .i64, .int .i64, .sl 3, .int .i64, .sl 3, .int .i64, .int .i64, .sl 3, .int .i64, .bool], .agg [.int .i64, .int .i64, .int .i64, .int .i64, .int .i64, .int .i64, .int .i64, .int .i64, .sl 3, .int .i64, .sl 3, .int .i64, .int .i64, .sl 3, .int .i64, .bool]]
def res : RP := .one (.rd (.int .i64))
def md (a0 : MHead) (a1 : MHead) : Int := (bif (Z41.md a0.fJudge) then (5 : Int) else (bif (a1.fFrozen == a0.fFrozen) then (6 : Int) else (bif (!(Z58.md a1 a0)) then (6 : Int) else (bif (!(Z57.md a1.fJudge a0.fJudge)) then (6 : Int) else (bif (!(Z57.md a1.fHeirs a0.fHeirs)) then (6 : Int) else (bif (a1.fWait != a0.fWait) then (6 : Int) else (bif a1.fFrozen then (bif (!(Z57.md a1.fKeys a0.fKeys)) then (6 : Int) else (1 : Int)) else (1 : Int))))))))
def gd (a0 : MHead) (a1 : MHead) : Prop := (MHead.Sm (2 ^ 21) a0) ∧ (MHead.Sm (2 ^ 21) a1)
def acc (ls : List L) : RHead × RHead := ((RHead.dec ls), (RHead.dec (dropT 16 ls)))
def R : (RHead × RHead) → Option Int := RR (p2 gd) (u2 md)
theorem R_eq {a0} {a1} (h : gd a0 a1) : R ((MHead.r a0), (MHead.r a1)) = some (md a0 a1) := RR_eq (a := (a0, a1)) h
def con : Con := CN pats res acc R
theorem okF (a0 : MHead) (a1 : MHead) (hg : gd a0 a1) : F (MHead.r a0) (MHead.r a1) = ret ((md a0 a1) : Int) := by
 unfold gd at hg
 obtain ⟨H0, H1⟩ := hg
 unfold F md
 try simp only [S0, MHead.rs]
 refine call_to (Z41.md a0.fJudge) (Z41.R_eq (a0 := a0.fJudge) trivial) ?_
 refine bif_out ret (fun _ => rfl) (fun c1 => ?_)
 refine bif_out ret (fun _ => rfl) (fun c2 => ?_)
 refine call_to (Z58.md a1 a0) (Z58.R_eq (a0 := a1) (a1 := a0) trivial) ?_
 refine bif_out ret (fun _ => rfl) (fun c3 => ?_)
 refine call_to (Z57.md a1.fJudge a0.fJudge) (Z57.R_eq (a0 := a1.fJudge) (a1 := a0.fJudge) ⟨H1.2.2, H0.2.2⟩) ?_
 refine bif_out ret (fun _ => rfl) (fun c4 => ?_)
 refine call_to (Z57.md a1.fHeirs a0.fHeirs) (Z57.R_eq (a0 := a1.fHeirs) (a1 := a0.fHeirs) ⟨H1.2.1, H0.2.1⟩) ?_
 refine bif_out ret (fun _ => rfl) (fun c5 => ?_)
 refine bif_out ret (fun _ => rfl) (fun c6 => ?_)
 refine bif_out ret (fun c7 => ?_) (fun _ => rfl)
 refine call_to (Z57.md a1.fKeys a0.fKeys) (Z57.R_eq (a0 := a1.fKeys) (a1 := a0.fKeys) ⟨H1.1, H0.1⟩) ?_
 refine bif_out ret (fun _ => rfl) (fun _ => rfl)
theorem valid_ : Valid Tryz.prog Ev 274 con := VV (live := fun _ => []) (nt := 55) (run := fun _ x => F x.1 x.2) mix tab_ok (.cons Z41.valid_ (.cons Z58.valid_ (.cons Z57.valid_ .nil))) Tryz.func274 (by kernel_rfl) (fun _ _ => by kernel_rfl) (fun _ a _ _ hg => ⟨0, okF a.1 a.2 hg⟩)
end Z60
namespace Z61
def F (x0 : RHead) (x1 : RSigned) : Ans := (call (Z42.R x0) fun v1 => (bif (!v1) then ret (2 : Int) else (call (Z42.R x1.fHead) fun v2 => (bif (!v2) then ret (2 : Int) else (bif (x1.fHead.fZone != x0.fZone) then ret (3 : Int) else (bif (x1.fHead.fEpoch != (IntKind.i64.wrap (x0.fEpoch + 1))) then ret (3 : Int) else (call (Z54.R x0) fun v3 => (bif (x1.fHead.fPrev != v3) then ret (3 : Int) else (bif (decide (x1.fHead.fTime < x0.fTime)) then ret (3 : Int) else (call (Z55.R (x0, x1.fHead)) fun v4 => (bif (x1.fHead.fKind == 2) then (call (Z59.R (x0, x1.fHead)) fun v5 => (bif (v5 == 1) then (call (Z47.R x1.fHead) fun v6 => (call (Z52.R (x0.fHeirs, v6, x1.fSigs)) fun v7 => (bif (!v7) then ret (7 : Int) else ret (v5 : Int)))) else ret (v5 : Int))) else (bif (x1.fHead.fKind == 3) then (call (Z60.R (x0, x1.fHead)) fun v8 => (bif (v8 == 1) then (call (Z47.R x1.fHead) fun v9 => (call (Z52.R (x0.fJudge, v9, x1.fSigs)) fun v10 => (bif (!v10) then ret (7 : Int) else ret (v8 : Int)))) else ret (v8 : Int))) else (bif (v4 == 1) then (call (Z47.R x1.fHead) fun v11 => (call (Z52.R (x0.fKeys, v11, x1.fSigs)) fun v12 => (bif (!v12) then ret (7 : Int) else ret (v4 : Int)))) else ret (v4 : Int))))))))))))))
def pats : List Pat := [.agg [.int .i64, .int .i64, .int .i64, .int .i64, .int .i64, .int .i64, .int .i64, .int .i64, .sl 3, .int .i64, .sl 3, .int .i64, .int .i64, .sl 3, .int .i64, .bool], .agg [.int .i64, .int .i64, .int .i64, .int .i64, .int .i64, .int .i64, .int .i64, .int .i64, .sl 3, .int .i64, .sl 3, .int .i64, .int .i64, .sl 3, .int .i64, .bool, .sl 184]]
def res : RP := .one (.rd (.int .i64))
def md (a0 : MHead) (a1 : MSigned) : Int := (bif (!(Z42.md a0)) then (2 : Int) else (bif (!(Z42.md a1.fHead)) then (2 : Int) else (bif (a1.fHead.fZone != a0.fZone) then (3 : Int) else (bif (a1.fHead.fEpoch != (IntKind.i64.wrap (a0.fEpoch + 1))) then (3 : Int) else (bif (a1.fHead.fPrev != (Z54.md a0)) then (3 : Int) else (bif (decide (a1.fHead.fTime < a0.fTime)) then (3 : Int) else (bif (a1.fHead.fKind == 2) then (bif ((Z59.md a0 a1.fHead) == 1) then (bif (!(Z52.md a0.fHeirs (Z47.md a1.fHead) a1.fSigs)) then (7 : Int) else ((Z59.md a0 a1.fHead) : Int)) else ((Z59.md a0 a1.fHead) : Int)) else (bif (a1.fHead.fKind == 3) then (bif ((Z60.md a0 a1.fHead) == 1) then (bif (!(Z52.md a0.fJudge (Z47.md a1.fHead) a1.fSigs)) then (7 : Int) else ((Z60.md a0 a1.fHead) : Int)) else ((Z60.md a0 a1.fHead) : Int)) else (bif ((Z55.md a0 a1.fHead) == 1) then (bif (!(Z52.md a0.fKeys (Z47.md a1.fHead) a1.fSigs)) then (7 : Int) else ((Z55.md a0 a1.fHead) : Int)) else ((Z55.md a0 a1.fHead) : Int))))))))))
def gd (a0 : MHead) (a1 : MSigned) : Prop := (MHead.Sm (2 ^ 21) a0) ∧ (MSigned.Sm (2 ^ 21) a1)
def acc (ls : List L) : RHead × RSigned := ((RHead.dec ls), (RSigned.dec (dropT 16 ls)))
def R : (RHead × RSigned) → Option Int := RR (p2 gd) (u2 md)
theorem R_eq {a0} {a1} (h : gd a0 a1) : R ((MHead.r a0), (MSigned.r a1)) = some (md a0 a1) := RR_eq (a := (a0, a1)) h
def con : Con := CN pats res acc R
theorem okF (a0 : MHead) (a1 : MSigned) (hg : gd a0 a1) : F (MHead.r a0) (MSigned.r a1) = ret ((md a0 a1) : Int) := by
  unfold gd at hg
  obtain ⟨H0, H1⟩ := hg
  unfold F md
  try simp only [S0, MHead.rs, MSigned.rs]
  refine call_to (Z42.md a0) (Z42.R_eq (a0 := a0) H0) ?_
  refine bif_out ret (fun _ => rfl) (fun c1 => ?_)
  have dc1 := c1
  try simp only [DC] at dc1
  try have tc1 := Z42.tr (by simpa using c1)
  refine call_to (Z42.md a1.fHead) (Z42.R_eq (a0 := a1.fHead) H1.1) ?_
  refine bif_out ret (fun _ => rfl) (fun c2 => ?_)
  have dc2 := c2
  try simp only [DC] at dc2
  try have tc2 := Z42.tr (by simpa using c2)
  refine bif_out ret (fun _ => rfl) (fun c3 => ?_)
  have dc3 := c3
  try simp only [DC] at dc3
  refine bif_out ret (fun _ => rfl) (fun c4 => ?_)
  have dc4 := c4
  try simp only [DC] at dc4
  refine call_to (Z54.md a0) (Z54.R_eq (a0 := a0) H0) ?_
  refine bif_out ret (fun _ => rfl) (fun c5 => ?_)
  have dc5 := c5
  try simp only [DC] at dc5
  refine bif_out ret (fun _ => rfl) (fun c6 => ?_)
  have dc6 := c6
  try simp only [DC] at dc6
  refine call_to (Z55.md a0 a1.fHead) (Z55.R_eq (a0 := a0) (a1 := a1.fHead) trivial) ?_
  refine bif_out ret (fun c7 => ?_) (fun c7 => ?_)
  · have dc7 := c7
    try simp only [DC] at dc7
    refine call_to (Z59.md a0 a1.fHead) (Z59.R_eq (a0 := a0) (a1 := a1.fHead) ⟨H0, H1.1⟩) ?_
    refine bif_out ret (fun c8 => ?_) (fun c8 => ?_)
    · have dc8 := c8
      try simp only [DC] at dc8
      refine call_to ((Z47.md a1.fHead).map iRow) (Z47.R_eq (a0 := a1.fHead) H1.1) ?_
      try simp only [S0, MHead.rs, MSigned.rs]
      refine call_to (Z52.md a0.fHeirs (Z47.md a1.fHead) a1.fSigs) (Z52.R_eq (a0 := a0.fHeirs) (a1 := (Z47.md a1.fHead)) (a2 := a1.fSigs) ⟨H0.2.1, ⟨(by
          have := Z47.len a1.fHead
          have := (H1.1.1).1
          have := (H1.1.2.1).1
          have := (H1.1.2.2).1
          try simp (disch := omega) only [LN, wi]
          first | omega | (simp; done) | (simp; omega)), fun _ _ => trivial⟩, H1.2⟩) ?_
      refine bif_out ret (fun _ => rfl) (fun c9 => ?_)
      all_goals first | rfl | (simp only [S0, MHead.rs, MSigned.rs, MP]; first | done | rfl)
    · all_goals first | rfl | (simp only [S0, MHead.rs, MSigned.rs, MP]; first | done | rfl)
  · have dc7 := c7
    try simp only [DC] at dc7
    refine bif_out ret (fun c10 => ?_) (fun c10 => ?_)
    · have dc10 := c10
      try simp only [DC] at dc10
      refine call_to (Z60.md a0 a1.fHead) (Z60.R_eq (a0 := a0) (a1 := a1.fHead) ⟨H0, H1.1⟩) ?_
      refine bif_out ret (fun c11 => ?_) (fun c11 => ?_)
      · have dc11 := c11
        try simp only [DC] at dc11
        refine call_to ((Z47.md a1.fHead).map iRow) (Z47.R_eq (a0 := a1.fHead) H1.1) ?_
        try simp only [S0, MHead.rs, MSigned.rs]
        refine call_to (Z52.md a0.fJudge (Z47.md a1.fHead) a1.fSigs) (Z52.R_eq (a0 := a0.fJudge) (a1 := (Z47.md a1.fHead)) (a2 := a1.fSigs) ⟨H0.2.2, ⟨(by
            have := Z47.len a1.fHead
            have := (H1.1.1).1
            have := (H1.1.2.1).1
            have := (H1.1.2.2).1
            try simp (disch := omega) only [LN, wi]
            first | omega | (simp; done) | (simp; omega)), fun _ _ => trivial⟩, H1.2⟩) ?_
        refine bif_out ret (fun _ => rfl) (fun c12 => ?_)
        all_goals first | rfl | (simp only [S0, MHead.rs, MSigned.rs, MP]; first | done | rfl)
      · all_goals first | rfl | (simp only [S0, MHead.rs, MSigned.rs, MP]; first | done | rfl)
    · have dc10 := c10
      try simp only [DC] at dc10
      refine bif_out ret (fun c13 => ?_) (fun c13 => ?_)
      · have dc13 := c13
        try simp only [DC] at dc13
        refine call_to ((Z47.md a1.fHead).map iRow) (Z47.R_eq (a0 := a1.fHead) H1.1) ?_
        try simp only [S0, MHead.rs, MSigned.rs]
        refine call_to (Z52.md a0.fKeys (Z47.md a1.fHead) a1.fSigs) (Z52.R_eq (a0 := a0.fKeys) (a1 := (Z47.md a1.fHead)) (a2 := a1.fSigs) ⟨H0.1, ⟨(by
            have := Z47.len a1.fHead
            have := (H1.1.1).1
            have := (H1.1.2.1).1
            have := (H1.1.2.2).1
            try simp (disch := omega) only [LN, wi]
            first | omega | (simp; done) | (simp; omega)), fun _ _ => trivial⟩, H1.2⟩) ?_
        refine bif_out ret (fun _ => rfl) (fun c14 => ?_)
        all_goals first | rfl | (simp only [S0, MHead.rs, MSigned.rs, MP]; first | done | rfl)
      · all_goals first | rfl | (simp only [S0, MHead.rs, MSigned.rs, MP]; first | done | rfl)
theorem valid_ : Valid Tryz.prog Ev 241 con := VV (live := fun _ => []) (nt := 78) (run := fun _ x => F x.1 x.2) mix tab_ok (.cons Z42.valid_ (.cons Z54.valid_ (.cons Z55.valid_ (.cons Z59.valid_ (.cons Z47.valid_ (.cons Z52.valid_ (.cons Z60.valid_ .nil))))))) Tryz.func241 (by kernel_rfl) (fun _ _ => by kernel_rfl) (fun _ a _ _ hg => ⟨0, okF a.1 a.2 hg⟩)
end Z61
namespace Z62
def F (x0 : RHead) (x1 : RSigned) : Ans := (call (Z61.R (x0, x1)) fun v1 => ret ((v1 == 1) : Bool))
def pats : List Pat := [.agg [.int .i64, .int .i64, .int .i64, .int .i64, .int .i64, .int .i64, .int .i64, .int .i64, .sl 3, .int .i64, .sl 3, .int .i64, .int .i64, .sl 3, .int .i64, .bool], .agg [.int .i64, .int .i64, .int .i64, .int .i64, .int .i64, .int .i64, .int .i64, .int .i64, .sl 3, .int .i64, .sl 3, .int .i64, .int .i64, .sl 3, .int .i64, .bool, .sl 184]]
def res : RP := .one (.rd (.bool))
def md (a0 : MHead) (a1 : MSigned) : Bool := (((Z61.md a0 a1) == 1) : Bool)
def gd (a0 : MHead) (a1 : MSigned) : Prop := (MHead.Sm (2 ^ 21) a0) ∧ (MSigned.Sm (2 ^ 21) a1)
def acc (ls : List L) : RHead × RSigned := ((RHead.dec ls), (RSigned.dec (dropT 16 ls)))
def R : (RHead × RSigned) → Option Bool := RR (p2 gd) (u2 md)
theorem R_eq {a0} {a1} (h : gd a0 a1) : R ((MHead.r a0), (MSigned.r a1)) = some (md a0 a1) := RR_eq (a := (a0, a1)) h
def con : Con := CN pats res acc R
theorem okF (a0 : MHead) (a1 : MSigned) (hg : gd a0 a1) : F (MHead.r a0) (MSigned.r a1) = ret ((md a0 a1) : Bool) := by
 unfold gd at hg
 obtain ⟨H0, H1⟩ := hg
 unfold F md
 try simp only [S0]
 refine call_to (Z61.md a0 a1) (Z61.R_eq (a0 := a0) (a1 := a1) ⟨H0, H1⟩) ?_
 all_goals first | rfl | (simp only [S0, MP]; first | done | rfl)
theorem valid_ : Valid Tryz.prog Ev 213 con := VV (live := fun _ => []) (nt := 9) (run := fun _ x => F x.1 x.2) mix tab_ok (.cons Z61.valid_ .nil) Tryz.func213 (by kernel_rfl) (fun _ _ => by kernel_rfl) (fun _ a _ _ hg => ⟨0, okF a.1 a.2 hg⟩)
end Z62
namespace Z63
inductive Pt where
 | p0 (a : List (List L)) (b : Int)
def pid : Pt → Nat
 | .p0 .. => 2
def pvs : Pt → List V
 | .p0 a b => [.sl none 122 a, .int .i64 b]
def phs : Pt → List Root
 | .p0 a b => []
def step (J : Pt → Ans) : Pt → Ans
 | .p0 a b => (bif (decide (b < (a.length : Int))) then (bif (b == 0) then (bif (decide ((0 : Int) < (a.length : Int))) then (call (Z53.R (RSigned.at a 0)) fun v1 => (bif (!v1) then ret (b : Int) else (bif (decide (b > 0)) then (bif (decide ((0 : Int) ≤ (IntKind.i64.wrap (b - 1)))) then (bif (decide ((IntKind.i64.wrap (b - 1)) < (a.length : Int))) then (bif (decide ((0 : Int) ≤ b)) then (bif (decide (b < (a.length : Int))) then (call (Z62.R ((RSigned.at a (Int.toNat (IntKind.i64.wrap (b - 1)))).fHead, (RSigned.at a (Int.toNat b)))) fun v2 => (bif (!v2) then ret (b : Int) else J (.p0 a (IntKind.i64.wrap (b + 1))))) else none) else none) else none) else none) else J (.p0 a (IntKind.i64.wrap (b + 1)))))) else none) else (bif (decide (b > 0)) then (bif (decide ((0 : Int) ≤ (IntKind.i64.wrap (b - 1)))) then (bif (decide ((IntKind.i64.wrap (b - 1)) < (a.length : Int))) then (bif (decide ((0 : Int) ≤ b)) then (bif (decide (b < (a.length : Int))) then (call (Z62.R ((RSigned.at a (Int.toNat (IntKind.i64.wrap (b - 1)))).fHead, (RSigned.at a (Int.toNat b)))) fun v3 => (bif (!v3) then ret (b : Int) else J (.p0 a (IntKind.i64.wrap (b + 1))))) else none) else none) else none) else none) else J (.p0 a (IntKind.i64.wrap (b + 1))))) else ret ((-1) : Int))
def start (J : Pt → Ans) (x0 : List (List L)) : Ans := J (.p0 x0 0)
def live : Nat → Live := fun i => match i with | 2 => [(0, none), (3, none)] | _ => []
def pats : List Pat := [.rd (.sl 122)]
def res : RP := .one (.rd (.int .i64))
abbrev E : Env := { T := assoc Tab, G := conG [(212, Z53.con), (213, Z62.con)], nt := 38 }
theorem step_eq (I : Heads) (p : Pt) : enterC E live I (pid p) (bodyOf Tryz.f183) (stOf (live (pid p)) (pvs p) (phs p)) (doneK E Tryz.f183 res) = step (fun q => I (pid q) (pvs q) (phs q)) p := by
 cases p <;> kernel_rfl
theorem start_eq (I : Heads) (ls : List L) : runC E live I (bodyOf Tryz.f183) (initS pats ls) (doneK E Tryz.f183 res) = start (fun q => I (pid q) (pvs q) (phs q)) (ls.headD .hole).toSl := by kernel_rfl
theorem run_eq (n : Nat) (ls : List L) : runF E live Tryz.f183 res n (initS pats ls) = start (iter step n) (ls.headD .hole).toSl := runF_iter (id := pid) (vs := pvs) (hs := phs) (step := step) (start := fun J => start J (ls.headD .hole).toSl) step_eq (fun I => start_eq I ls) n
def md (a0 : List MSigned) : Int := (eachI (S := Unit) (β := Int) (fun (i1 : Nat) (y1 : MSigned) (s3 : Unit) => (bif ((i1 : Int) == 0) then (bif (!(Z53.md (a0.getD 0 MSigned.zero))) then (.inr ((i1 : Int) : Int)) else (bif (decide ((i1 : Int) > 0)) then (bif (!(Z62.md ((a0.getD (Int.toNat (IntKind.i64.wrap ((i1 : Int) - 1))) MSigned.zero).fHead) y1)) then (.inr ((i1 : Int) : Int)) else (.inl ())) else (.inl ()))) else (bif (decide ((i1 : Int) > 0)) then (bif (!(Z62.md ((a0.getD (Int.toNat (IntKind.i64.wrap ((i1 : Int) - 1))) MSigned.zero).fHead) y1)) then (.inr ((i1 : Int) : Int)) else (.inl ())) else (.inl ())))) (fun (s3 : Unit) => ((-1) : Int)) 0 a0 ())
def gd (a0 : List MSigned) : Prop := (SmL (2 ^ 21) (fun y : MSigned => MSigned.Sm (2 ^ 21) y) a0)
def acc (ls : List L) : List (List L) := (ls.headD .hole).toSl
def R : (List (List L)) → Option Int := RR gd md
theorem R_eq {a0} (h : gd a0) : R (a0.map MSigned.row) = some (md a0) := RR_eq (a := a0) h
def con : Con := CN pats res acc R
theorem okF (a0 : List MSigned) (hg : gd a0) : ∃ n, start (iter step n) (a0.map MSigned.row) = ret ((md a0) : Int) := by
  unfold gd at hg
  have H0 := hg
  unfold start md
  try simp only [S0, MSigned.rs]
  have Bh2 : a0.length ≤ maxLen := (by
      have := (H0).1
      try simp only [maxLen] at *
      omega)
  refine ex_eq (out := ret) (loopM_eachI (z := MSigned.zero)) ?_
  refine ex_pt (p := Pt.p0 (a0.map MSigned.row) 0) (by first | rfl | (simp only [S0, MSigned.rs, MP]; done) | (simp only [MP]; rfl)) ?_
  refine loopM_ok (pt := fun (i1 : Nat) (s3 : Unit) => Pt.p0 (a0.map MSigned.row) (i1 : Int)) (s := (() : Unit)) (out := ret) (fun _ _ => True) (fun J i1 s3 h2 hih2 => ?_) (fun s3 hih2 => ?_) trivial
  · simp only [step, S0, MSigned.rs]
    have bb_ := Bh2
    simp only [maxLen] at bb_
    have := (H0).1
    refine Rnd.yes (by apply decide_eq_true; omega) ?_
    refine Rnd.bif (fun c4 => ?_) (fun c4 => ?_)
    · have dc4 := c4
      try simp only [DC] at dc4
      refine Rnd.yes (by
          have := (H0).1
          refine decide_eq_true ?_
          try simp (disch := omega) only [LN, wi]
          first | omega | (simp; done) | (simp; omega)) ?_
      refine Rnd.call_to (Z53.md (a0.getD 0 MSigned.zero)) (Z53.R_eq (a0 := (a0.getD 0 MSigned.zero)) (SmL.getD (z := MSigned.zero) H0 (by first | assumption | omega | (simp (disch := omega) only [wi]; omega) | (simp; omega)))) ?_
      refine Rnd.bif (fun c5 => ?_) (fun c5 => ?_)
      · refine Rnd.inr ?_
        all_goals first | rfl | (simp only [S0, MSigned.rs, MP]; first | done | rfl)
      · have dc5 := c5
        try simp only [DC] at dc5
        refine Rnd.bif (fun c6 => ?_) (fun c6 => ?_)
        · have dc6 := c6
          try simp only [DC] at dc6
          refine Rnd.yes (by
              refine decide_eq_true ?_
              try simp (disch := omega) only [LN, wi]
              first | omega | (simp; done) | (simp; omega)) ?_
          refine Rnd.yes (by
              have := (H0).1
              refine decide_eq_true ?_
              try simp (disch := omega) only [LN, wi]
              first | omega | (simp; done) | (simp; omega)) ?_
          refine Rnd.yes zle_dec ?_
          refine Rnd.yes (lt_dec h2) ?_
          refine Rnd.call_to (Z62.md ((a0.getD (Int.toNat (IntKind.i64.wrap ((i1 : Int) - 1))) MSigned.zero).fHead) (a0.getD i1 MSigned.zero)) (Z62.R_eq (a0 := (a0.getD (Int.toNat (IntKind.i64.wrap ((i1 : Int) - 1))) MSigned.zero).fHead) (a1 := (a0.getD i1 MSigned.zero)) ⟨(SmL.getD (z := MSigned.zero) H0 (by first | assumption | omega | (simp (disch := omega) only [wi]; omega) | (simp; omega))).1, (SmL.getD (z := MSigned.zero) H0 h2)⟩) ?_
          refine Rnd.bif (fun c7 => ?_) (fun c7 => ?_)
          · refine Rnd.inr ?_
            all_goals first | rfl | (simp only [S0, MSigned.rs, MP]; first | done | rfl)
          · refine Rnd.inl trivial ?_
            rw [wrap_succ h2 Bh2]
            all_goals first | rfl | (simp only [S0, MSigned.rs, MP]; first | done | rfl)
        · refine Rnd.inl trivial ?_
          rw [wrap_succ h2 Bh2]
          all_goals first | rfl | (simp only [S0, MSigned.rs, MP]; first | done | rfl)
    · have dc4 := c4
      try simp only [DC] at dc4
      refine Rnd.bif (fun c8 => ?_) (fun c8 => ?_)
      · have dc8 := c8
        try simp only [DC] at dc8
        refine Rnd.yes (by
            refine decide_eq_true ?_
            try simp (disch := omega) only [LN, wi]
            first | omega | (simp; done) | (simp; omega)) ?_
        refine Rnd.yes (by
            have := (H0).1
            refine decide_eq_true ?_
            try simp (disch := omega) only [LN, wi]
            first | omega | (simp; done) | (simp; omega)) ?_
        refine Rnd.yes zle_dec ?_
        refine Rnd.yes (lt_dec h2) ?_
        refine Rnd.call_to (Z62.md ((a0.getD (Int.toNat (IntKind.i64.wrap ((i1 : Int) - 1))) MSigned.zero).fHead) (a0.getD i1 MSigned.zero)) (Z62.R_eq (a0 := (a0.getD (Int.toNat (IntKind.i64.wrap ((i1 : Int) - 1))) MSigned.zero).fHead) (a1 := (a0.getD i1 MSigned.zero)) ⟨(SmL.getD (z := MSigned.zero) H0 (by first | assumption | omega | (simp (disch := omega) only [wi]; omega) | (simp; omega))).1, (SmL.getD (z := MSigned.zero) H0 h2)⟩) ?_
        refine Rnd.bif (fun c9 => ?_) (fun c9 => ?_)
        · refine Rnd.inr ?_
          all_goals first | rfl | (simp only [S0, MSigned.rs, MP]; first | done | rfl)
        · refine Rnd.inl trivial ?_
          rw [wrap_succ h2 Bh2]
          all_goals first | rfl | (simp only [S0, MSigned.rs, MP]; first | done | rfl)
      · refine Rnd.inl trivial ?_
        rw [wrap_succ h2 Bh2]
        all_goals first | rfl | (simp only [S0, MSigned.rs, MP]; first | done | rfl)
  · simp only [step, S0, MSigned.rs]
    have := (H0).1
    refine ex_no (by apply decide_eq_false; omega) ?_
    refine ⟨0, ?_⟩
    all_goals first | rfl | (simp only [S0, MSigned.rs, MP]; first | done | rfl)
theorem valid_ : Valid Tryz.prog Ev 183 con := VV (run := fun n x => start (iter step n) x) mix tab_ok (.cons Z53.valid_ (.cons Z62.valid_ .nil)) Tryz.func183 (by kernel_rfl) run_eq (fun _ a _ _ hg => okF a hg)
end Z63
namespace Z64
def F (x0 : List (List L)) : Ans := (call (Z39.R ((x0.length : Int), 1, 12)) fun v1 => (bif v1 then (call (Z63.R x0) fun v2 => ret ((decide (v2 < 0)) : Bool)) else ret (false : Bool)))
def pats : List Pat := [.rd (.sl 122)]
def res : RP := .one (.rd (.bool))
def md (a0 : List MSigned) : Bool := (bif (Z39.md (a0.length : Int) 1 12) then ((decide ((Z63.md a0) < 0)) : Bool) else (false : Bool))
def gd (a0 : List MSigned) : Prop := (SmL (2 ^ 21) (fun y : MSigned => MSigned.Sm (2 ^ 21) y) a0)
def acc (ls : List L) : List (List L) := (ls.headD .hole).toSl
def R : (List (List L)) → Option Bool := RR gd md
theorem R_eq {a0} (h : gd a0) : R (a0.map MSigned.row) = some (md a0) := RR_eq (a := a0) h
def con : Con := CN pats res acc R
theorem okF (a0 : List MSigned) (hg : gd a0) : F (a0.map MSigned.row) = ret ((md a0) : Bool) := by
 unfold gd at hg
 have H0 := hg
 unfold F md
 try simp only [S0]
 refine call_to (Z39.md (a0.length : Int) 1 12) (Z39.R_eq (a0 := (a0.length : Int)) (a1 := 1) (a2 := 12) trivial) ?_
 refine bif_out ret (fun c1 => ?_) (fun _ => rfl)
 refine call_to (Z63.md a0) (Z63.R_eq (a0 := a0) H0) ?_
 all_goals first | rfl | (simp only [S0, MP]; first | done | rfl)
theorem valid_ : Valid Tryz.prog Ev 129 con := VV (live := fun _ => []) (nt := 11) (run := fun _ x => F x) mix tab_ok (.cons Z39.valid_ (.cons Z63.valid_ .nil)) Tryz.func129 (by kernel_rfl) (fun _ _ => by kernel_rfl) (fun _ a _ _ hg => ⟨0, okF a hg⟩)
theorem tr {a0 : List MSigned} (h : md a0 = true) : 1 ≤ a0.length ∧ a0.length ≤ 12 := by simp [md, Z39.md] at h; omega
theorem heads {l : List MSigned} (h : md l = true) : ∀ i, i < l.length → Z42.md (l.getD i MSigned.zero).fHead = true := by
  intro i hi
  have hl := tr h
  have h1 : Z63.md l < 0 := by
    unfold md at h
    cases hc : Z39.md (l.length : Int) 1 12 <;> rw [hc] at h
    · cases h
    · simpa using h
  unfold Z63.md at h1
  have h2 := eachI_neg (z := MSigned.zero) (by
    intro i x s b h
    revert h
    simp only [Bool.cond_eq_ite]
    repeat' split
    all_goals (intro h; first | (cases h; rfl) | cases h)) h1 i hi
  by_cases h0 : i = 0
  · subst h0
    cases hf : Z53.md (l.getD 0 MSigned.zero)
    · rw [hf] at h2; cases h2
    · unfold Z53.md at hf
      cases hh : Z42.md (l.getD 0 MSigned.zero).fHead
      · rw [hh] at hf; cases hf
      · rfl
  · have e : ((i : Int) == 0) = false := beq_eq_false_iff_ne.2 (by omega)
    have e2 : decide ((i : Int) > 0) = true := by simpa using by omega
    simp only [e, e2, cond_false, cond_true] at h2
    cases hf : Z62.md ((l.getD (Int.toNat (IntKind.i64.wrap ((i : Int) - 1))) MSigned.zero).fHead) (l.getD i MSigned.zero)
    · rw [hf] at h2; cases h2
    · unfold Z62.md Z61.md at hf
      cases hh : Z42.md (l.getD i MSigned.zero).fHead
      · rw [hh] at hf
        cases hp : Z42.md ((l.getD (Int.toNat (IntKind.i64.wrap ((i : Int) - 1))) MSigned.zero).fHead) <;> rw [hp] at hf <;> cases hf
      · rfl
end Z64
namespace Z65
def F (x0 : List (List L)) : Ans := (call (Z64.R x0) fun v1 => (bif (!v1) then ret (((⟨0, 0, 0, 0, 0, 0, 0, 0, (⟨[], 0⟩ : RKeys), (⟨[], 0⟩ : RKeys), 0, (⟨[], 0⟩ : RKeys), false⟩ : RHead), false) : RHead × Bool) else (bif (decide ((0 : Int) ≤ (IntKind.i64.wrap ((x0.length : Int) - 1)))) then (bif (decide ((IntKind.i64.wrap ((x0.length : Int) - 1)) < (x0.length : Int))) then (call (Z30.R ((RSigned.at x0 (Int.toNat (IntKind.i64.wrap ((x0.length : Int) - 1)))).fHead)) fun v2 => ret ((v2, true) : RHead × Bool)) else none) else none)))
def pats : List Pat := [.rd (.sl 122)]
def res : RP := .tup [(true, [.rd (.int .i64), .rd (.int .i64), .rd (.int .i64), .rd (.int .i64), .rd (.int .i64), .rd (.int .i64), .rd (.int .i64), .rd (.int .i64), .fr 3, .rd (.int .i64), .fr 3, .rd (.int .i64), .rd (.int .i64), .fr 3, .rd (.int .i64), .rd (.bool)]), (false, [.rd (.bool)])]
def md (a0 : List MSigned) : MHead × Bool := (bif (!(Z64.md a0)) then ((⟨0, 0, 0, 0, 0, 0, 0, 0, (⟨[], 0⟩ : MKeys), (⟨[], 0⟩ : MKeys), 0, (⟨[], 0⟩ : MKeys), false⟩ : MHead), false) else (((a0.getD (Int.toNat (IntKind.i64.wrap ((a0.length : Int) - 1))) MSigned.zero).fHead), true))
def gd (a0 : List MSigned) : Prop := (SmL (2 ^ 21) (fun y : MSigned => MSigned.Sm (2 ^ 21) y) a0)
def acc (ls : List L) : List (List L) := (ls.headD .hole).toSl
def R : (List (List L)) → Option (RHead × Bool) := RR gd md
theorem R_eq {a0} (h : gd a0) : R (a0.map MSigned.row) = some ((MHead.r (md a0).1), (md a0).2) := RR_eq (a := a0) h
def con : Con := CN pats res acc R
theorem okF (a0 : List MSigned) (hg : gd a0) : F (a0.map MSigned.row) = ret (((MHead.r (md a0).1), (md a0).2) : RHead × Bool) := by
  unfold gd at hg
  have H0 := hg
  unfold F md
  try simp only [S0, MSigned.rs]
  refine call_to (Z64.md a0) (Z64.R_eq (a0 := a0) H0) ?_
  refine bif_out (fun b : MHead × Bool => ret (((MHead.r b.1), b.2) : RHead × Bool)) (fun c1 => ?_) (fun c1 => ?_)
  · all_goals first | rfl | (simp only [S0, MSigned.rs]; done) | (simp only [MP]; rfl) | (simp only [S0, MSigned.rs, MP]; first | done | rfl)
  · have dc1 := c1
    try simp only [DC] at dc1
    try have tc1 := Z64.tr (by simpa using c1)
    refine yes_ret (by
        have := (H0).1
        refine decide_eq_true ?_
        try simp (disch := omega) only [LN, wi]
        first | omega | (simp; done) | (simp; omega)) ?_
    refine yes_ret (by
        have := (H0).1
        refine decide_eq_true ?_
        try simp (disch := omega) only [LN, wi]
        first | omega | (simp; done) | (simp; omega)) ?_
    refine call_to (MHead.r ((a0.getD (Int.toNat (IntKind.i64.wrap ((a0.length : Int) - 1))) MSigned.zero).fHead)) ?_ ?_
    · have R_ := Z30.R_eq (a0 := (a0.getD (Int.toNat (IntKind.i64.wrap ((a0.length : Int) - 1))) MSigned.zero).fHead) (SmL.getD (z := MSigned.zero) H0 (by first | assumption | omega | (simp (disch := omega) only [wi]; omega) | (simp; omega))).1
      simp only [Z30.md] at R_
      first | exact R_ | (simp only [MP, S0, MSigned.rs] at R_ ⊢; first | exact R_ | (rw [← R_]; rfl))
    try simp only [S0, MSigned.rs]
    all_goals first | rfl | (simp only [S0, MSigned.rs]; done) | (simp only [MP]; rfl) | (simp only [S0, MSigned.rs, MP]; first | done | rfl)
theorem valid_ : Valid Tryz.prog Ev 153 con := VV (live := fun _ => []) (nt := 16) (run := fun _ x => F x) mix tab_ok (.cons Z64.valid_ (.cons Z30.valid_ .nil)) Tryz.func153 (by kernel_rfl) (fun _ _ => by kernel_rfl) (fun _ a _ _ hg => ⟨0, okF a hg⟩)
theorem head {l : List MSigned} (h : (md l).2 = true) : Z64.md l = true ∧ (md l).1 = (l.getD (l.length - 1) MSigned.zero).fHead ∧ Z42.md (md l).1 = true := by
  unfold md at h ⊢
  cases hc : Z64.md l
  · rw [hc] at h; cases h
  · have hl := Z64.tr hc
    have hw : Int.toNat (IntKind.i64.wrap ((l.length : Int) - 1)) = l.length - 1 := by
      rw [Go.IntWalk.i64_in _ (by omega)]; omega
    simp only [Bool.not_true, cond_false, hw]
    exact ⟨trivial, trivial, Z64.heads hc _ (by omega)⟩
end Z65
namespace Z66
def F (x0 : RHead) (x1 : Int) : Ans := (call (Z39.R (x1, x0.fTime, x0.fUntil)) fun v1 => ret (v1 : Bool))
def pats : List Pat := [.agg [.int .i64, .int .i64, .int .i64, .int .i64, .int .i64, .int .i64, .int .i64, .int .i64, .sl 3, .int .i64, .sl 3, .int .i64, .int .i64, .sl 3, .int .i64, .bool], .rd (.int .i64)]
def res : RP := .one (.rd (.bool))
def md (a0 : MHead) (a1 : Int) : Bool := ((Z39.md a1 a0.fTime a0.fUntil) : Bool)
def gd (a0 : MHead) (a1 : Int) : Prop := True
def acc (ls : List L) : RHead × Int := ((RHead.dec ls), ((dropT 16 ls).headD .hole).toInt)
def R : (RHead × Int) → Option Bool := RR (p2 gd) (u2 md)
theorem R_eq {a0} {a1} (h : gd a0 a1) : R ((MHead.r a0), a1) = some (md a0 a1) := RR_eq (a := (a0, a1)) h
def con : Con := CN pats res acc R
theorem okF (a0 : MHead) (a1 : Int) (hg : gd a0 a1) : F (MHead.r a0) a1 = ret ((md a0 a1) : Bool) := by
 unfold F md
 try simp only [S0, MHead.rs]
 refine call_to (Z39.md a1 a0.fTime a0.fUntil) (Z39.R_eq (a0 := a1) (a1 := a0.fTime) (a2 := a0.fUntil) trivial) ?_
 all_goals first | rfl | (simp only [S0, MHead.rs, MP]; first | done | rfl)
theorem valid_ : Valid Tryz.prog Ev 154 con := VV (live := fun _ => []) (nt := 11) (run := fun _ x => F x.1 x.2) mix tab_ok (.cons Z39.valid_ .nil) Tryz.func154 (by kernel_rfl) (fun _ _ => by kernel_rfl) (fun _ a _ _ hg => ⟨0, okF a.1 a.2 hg⟩)
end Z66
namespace Z67
inductive Pt where
 | p0 (a : List (List L)) (b : Int) (c : List (List L))
def pid : Pt → Nat
 | .p0 .. => 3
def pvs : Pt → List V
 | .p0 a b c => [.sl none 5 a, .own 0, .int .i64 b]
def phs : Pt → List Root
 | .p0 a b c => [.row 3 c]
def step (J : Pt → Ans) : Pt → Ans
 | .p0 a b c => (bif (decide (b < (a.length : Int))) then (bif (decide ((0 : Int) ≤ b)) then (bif (decide (b < (a.length : Int))) then (bif (lim (((c.length : Int) + 1) * 8)) then J (.p0 a (IntKind.i64.wrap (b + 1)) (c ++ [[L.int (IntKind.i64.wrap (iAt a (Int.toNat b)))]])) else none) else none) else none) else ret (c : List (List L)))
def start (J : Pt → Ans) (x0 : List (List L)) : Ans := J (.p0 x0 0 [[L.int (x0.length : Int)]])
def live : Nat → Live := fun i => match i with | 3 => [(0, none), (3, none), (4, none)] | _ => []
def pats : List Pat := [.rd (.sl 5)]
def res : RP := .one (.fr 3)
abbrev E : Env := { T := assoc Tab, G := conG [], nt := 23 }
theorem step_eq (I : Heads) (p : Pt) : enterC E live I (pid p) (bodyOf Tryz.f307) (stOf (live (pid p)) (pvs p) (phs p)) (doneK E Tryz.f307 res) = step (fun q => I (pid q) (pvs q) (phs q)) p := by
 cases p <;> kernel_rfl
theorem start_eq (I : Heads) (ls : List L) : runC E live I (bodyOf Tryz.f307) (initS pats ls) (doneK E Tryz.f307 res) = start (fun q => I (pid q) (pvs q) (phs q)) (ls.headD .hole).toSl := by kernel_rfl
theorem run_eq (n : Nat) (ls : List L) : runF E live Tryz.f307 res n (initS pats ls) = start (iter step n) (ls.headD .hole).toSl := runF_iter (id := pid) (vs := pvs) (hs := phs) (step := step) (start := fun J => start J (ls.headD .hole).toSl) step_eq (fun I => start_eq I ls) n
def md (a0 : List Int) : List Int := ([(a0.length : Int)] ++ a0.map (fun (y1 : Int) => (IntKind.i64.wrap y1)))
def gd (a0 : List Int) : Prop := (SmL (2 ^ 38) (fun y : Int => True) a0)
def acc (ls : List L) : List (List L) := (ls.headD .hole).toSl
def R : (List (List L)) → Option (List (List L)) := RR gd md
theorem R_eq {a0} (h : gd a0) : R (a0.map iRow) = some ((md a0).map iRow) := RR_eq (a := a0) h
def con : Con := CN pats res acc R
theorem okF (a0 : List Int) (hg : gd a0) : ∃ n, start (iter step n) (a0.map iRow) = ret (((md a0).map iRow) : List (List L)) := by
  unfold gd at hg
  have H0 := hg
  unfold start md
  try simp only [S0]
  have Bh2 : a0.length ≤ maxLen := (by
      have := (H0).1
      try simp only [maxLen] at *
      omega)
  refine ex_eq (out := (fun b : List Int => ret ((b.map iRow) : List (List L)))) (loopM_map (g := fun (y1 : Int) => (IntKind.i64.wrap y1)) (z := 0) (t := fun (s3 : List Int) => s3) (s := [(a0.length : Int)])) ?_
  refine ex_pt (p := Pt.p0 (a0.map iRow) 0 ([(a0.length : Int)].map iRow)) (by first | rfl | (simp only [S0, MP]; done) | (simp only [MP]; rfl)) ?_
  refine loopM_ok (pt := fun (i1 : Nat) (s3 : List Int) => Pt.p0 (a0.map iRow) (i1 : Int) (s3.map iRow)) (s := ([(a0.length : Int)] : List Int)) (out := (fun b : List Int => ret ((b.map iRow) : List (List L)))) (fun (i1 : Nat) (s3 : List Int) => s3.length ≤ [(a0.length : Int)].length + 1 * i1) (fun J i1 s3 h2 hih2 => ?_) (fun s3 hih2 => ?_) (by simp)
  · simp only [step, S0]
    have gr_ := hih2
    try simp only [LN] at gr_
    have := (H0).1
    have bb_ := Bh2
    simp only [maxLen] at bb_
    have := (H0).1
    refine Rnd.yes (by apply decide_eq_true; omega) ?_
    refine Rnd.yes zle_dec ?_
    refine Rnd.yes (lt_dec h2) ?_
    refine Rnd.yes (by
        refine lim_t ?_
        try simp (disch := omega) only [LN, wi]
        first | omega | (simp; done) | (simp; omega)) ?_
    refine Rnd.inl (by
        have g_ := hih2
        try simp only [LN] at g_ ⊢
        first | omega | (simp; done) | (simp; omega)) ?_
    rw [wrap_succ h2 Bh2]
    all_goals first | rfl | (simp only [S0]; done) | (simp only [MP]; rfl) | (simp only [S0, MP]; first | done | rfl)
  · simp only [step, S0]
    have gr_ := hih2
    try simp only [LN] at gr_
    have := (H0).1
    have := (H0).1
    refine ex_no (by apply decide_eq_false; omega) ?_
    refine ⟨0, ?_⟩
    all_goals first | rfl | (simp only [S0]; done) | (simp only [MP]; rfl) | (simp only [S0, MP]; first | done | rfl)
theorem valid_ : Valid Tryz.prog Ev 307 con := VV (run := fun n x => start (iter step n) x) mix tab_ok .nil Tryz.func307 (by kernel_rfl) run_eq (fun _ a _ _ hg => okF a hg)
theorem len (a0 : List Int) : (md a0).length = 1 + a0.length := by simp [md]; omega
end Z67
namespace Z68
def F (x0 : ByteArray) : Ans := (bif (decide ((x0.size : Int) ≤ 140737488355328)) then (call (Z67.R (bytesL x0)) fun v1 => ret (v1 : List (List L))) else none)
def pats : List Pat := [.rd (.str)]
def res : RP := .one (.fr 3)
def md (a0 : ByteArray) : List Int := (Z67.md (bytesI a0))
def gd (a0 : ByteArray) : Prop := (a0.size ≤ (2 ^ 21))
def acc (ls : List L) : ByteArray := (ls.headD .hole).toStr
def R : ByteArray → Option (List (List L)) := RR gd md
theorem R_eq {a0} (h : gd a0) : R a0 = some ((md a0).map iRow) := RR_eq (a := a0) h
def con : Con := CN pats res acc R
theorem okF (a0 : ByteArray) (hg : gd a0) : F a0 = ret (((md a0).map iRow) : List (List L)) := by
  unfold gd at hg
  have H0 := hg
  unfold F md
  try simp only [S0]
  refine yes_ret (by
      have := H0
      refine decide_eq_true ?_
      try simp (disch := omega) only [LN, wi]
      first | omega | (simp; done) | (simp; omega)) ?_
  refine call_to ((Z67.md (bytesI a0)).map iRow) ?_ ?_
  · have R_ := Z67.R_eq (a0 := (bytesI a0)) ⟨(by
        have := bytesI_length a0
        have := H0
        try simp (disch := omega) only [LN, wi]
        first | omega | (simp; done) | (simp; omega)), fun _ _ => trivial⟩
    first | exact R_ | (simp only [MP, S0] at R_ ⊢; first | exact R_ | (rw [← R_]; rfl))
  try simp only [S0]
  all_goals first | rfl | (simp only [S0]; done) | (simp only [MP]; rfl) | (simp only [S0, MP]; first | done | rfl)
theorem valid_ : Valid Tryz.prog Ev 286 con := VV (live := fun _ => []) (nt := 6) (run := fun _ x => F x) mix tab_ok (.cons Z67.valid_ .nil) Tryz.func286 (by kernel_rfl) (fun _ _ => by kernel_rfl) (fun _ a _ _ hg => ⟨0, okF a hg⟩)
theorem len (a0 : ByteArray) : (md a0).length = 1 + a0.size := by simp [md, Z67.len, bytesI_length]
end Z68
namespace Z69
inductive Pt where
 | p0 (a : Int) (b : REntry) (c : List (List L))
def pid : Pt → Nat
 | .p0 .. => 3
def pvs : Pt → List V
 | .p0 a b c => [.bptr 0 0, .own 1, .int .i64 a]
def phs : Pt → List Root
 | .p0 a b c => [.box [.str b.fLabel, .int .i64 b.fKind, .int .i64 b.fValue, .sl none 9 b.fPath], .row 3 c]
def step (J : Pt → Ans) : Pt → Ans
 | .p0 a b c => (bif (decide (a < (b.fPath.length : Int))) then (bif (decide ((0 : Int) ≤ a)) then (bif (decide (a < (b.fPath.length : Int))) then (call (Z68.R (sAt b.fPath (Int.toNat a))) fun v1 => (bif (lim (((c.length : Int) + (v1.length : Int)) * 8)) then J (.p0 (IntKind.i64.wrap (a + 1)) b (c ++ v1)) else none)) else none) else none) else ret (c : List (List L)))
def start (J : Pt → Ans) (x0 : REntry) : Ans := (call (Z68.R x0.fLabel) fun v1 => (bif (lim (((v1.length : Int) + 3) * 8)) then J (.p0 0 x0 (v1 ++ [[L.int x0.fKind], [L.int x0.fValue], [L.int (x0.fPath.length : Int)]])) else none))
def live : Nat → Live := fun i => match i with | 3 => [(1, none), (3, none), (4, none)] | _ => []
def pats : List Pat := [.agg [.str, .int .i64, .int .i64, .sl 9]]
def res : RP := .one (.fr 3)
abbrev E : Env := { T := assoc Tab, G := conG [(286, Z68.con)], nt := 33 }
theorem step_eq (I : Heads) (p : Pt) : enterC E live I (pid p) (bodyOf Tryz.f249) (stOf (live (pid p)) (pvs p) (phs p)) (doneK E Tryz.f249 res) = step (fun q => I (pid q) (pvs q) (phs q)) p := by
 cases p <;> kernel_rfl
theorem start_eq (I : Heads) (ls : List L) : runC E live I (bodyOf Tryz.f249) (initS pats ls) (doneK E Tryz.f249 res) = start (fun q => I (pid q) (pvs q) (phs q)) (REntry.dec ls) := by kernel_rfl
theorem run_eq (n : Nat) (ls : List L) : runF E live Tryz.f249 res n (initS pats ls) = start (iter step n) (REntry.dec ls) := runF_iter (id := pid) (vs := pvs) (hs := phs) (step := step) (start := fun J => start J (REntry.dec ls)) step_eq (fun I => start_eq I ls) n
def md (a0 : MEntry) : List Int := (((Z68.md a0.fLabel) ++ [a0.fKind, a0.fValue, (a0.fPath.length : Int)]) ++ a0.fPath.flatMap (fun (y1 : ByteArray) => (Z68.md y1)))
def gd (a0 : MEntry) : Prop := (MEntry.Sm (2 ^ 21) a0)
def acc (ls : List L) : REntry := (REntry.dec ls)
def R : REntry → Option (List (List L)) := RR gd md
theorem R_eq {a0} (h : gd a0) : R (MEntry.r a0) = some ((md a0).map iRow) := RR_eq (a := a0) h
def con : Con := CN pats res acc R
theorem okF (a0 : MEntry) (hg : gd a0) : ∃ n, start (iter step n) (MEntry.r a0) = ret (((md a0).map iRow) : List (List L)) := by
  unfold gd at hg
  have H0 := hg
  unfold start md
  try simp only [S0, MEntry.rs]
  refine ex_call_to ((Z68.md a0.fLabel).map iRow) (Z68.R_eq (a0 := a0.fLabel) H0.1) ?_
  try simp only [S0, MEntry.rs]
  refine ex_yes (by
      have := Z68.len a0.fLabel
      have := H0.1
      refine lim_t ?_
      try simp (disch := omega) only [LN, wi]
      first | omega | (simp; done) | (simp; omega)) ?_
  have Bh2 : a0.fPath.length ≤ maxLen := (by
      have := (H0.2).1
      try simp only [maxLen] at *
      omega)
  refine ex_eq (out := (fun b : List Int => ret ((b.map iRow) : List (List L)))) (loopM_flat (g := fun (y1 : ByteArray) => (Z68.md y1)) (z := ⟨#[]⟩) (t := fun (s3 : List Int) => s3) (s := ((Z68.md a0.fLabel) ++ [a0.fKind, a0.fValue, (a0.fPath.length : Int)]))) ?_
  refine ex_pt (p := Pt.p0 0 (MEntry.r a0) (((Z68.md a0.fLabel) ++ [a0.fKind, a0.fValue, (a0.fPath.length : Int)]).map iRow)) (by first | rfl | (simp only [S0, MEntry.rs, MP]; done) | (simp only [MP]; rfl)) ?_
  refine loopM_ok (pt := fun (i1 : Nat) (s3 : List Int) => Pt.p0 (i1 : Int) (MEntry.r a0) (s3.map iRow)) (s := (((Z68.md a0.fLabel) ++ [a0.fKind, a0.fValue, (a0.fPath.length : Int)]) : List Int)) (out := (fun b : List Int => ret ((b.map iRow) : List (List L)))) (fun (i1 : Nat) (s3 : List Int) => s3.length ≤ 4 + a0.fLabel.size + i1 * (2 ^ 21 + 1)) (fun J i1 s3 h2 hih2 => ?_) (fun s3 hih2 => ?_) (by
      have := (H0.2).1
      have := Z68.len a0.fLabel
      have := H0.1
      try simp only [LN]
      try simp
      try omega)
  · simp only [step, S0, MEntry.rs]
    have gr_ := hih2
    try simp only [LN] at gr_
    have := H0.1
    have bb_ := Bh2
    simp only [maxLen] at bb_
    have := (H0.2).1
    refine Rnd.yes (by apply decide_eq_true; omega) ?_
    refine Rnd.yes zle_dec ?_
    refine Rnd.yes (lt_dec h2) ?_
    refine Rnd.call_to ((Z68.md (a0.fPath.getD i1 ⟨#[]⟩)).map iRow) (Z68.R_eq (a0 := (a0.fPath.getD i1 ⟨#[]⟩)) (SmL.getD (z := ⟨#[]⟩) H0.2 h2)) ?_
    try simp only [S0, MEntry.rs]
    refine Rnd.yes (by
        have := Z68.len (a0.fPath.getD i1 ⟨#[]⟩)
        have := (SmL.getD (z := ⟨#[]⟩) H0.2 h2)
        refine lim_t ?_
        try simp (disch := omega) only [LN, wi]
        first | omega | (simp; done) | (simp; omega)) ?_
    refine Rnd.inl (by
        have := Z68.len (a0.fPath.getD i1 ⟨#[]⟩)
        have := (SmL.getD (z := ⟨#[]⟩) H0.2 h2)
        have g_ := hih2
        try simp only [LN] at g_ ⊢
        first | omega | (simp; done) | (simp; omega)) ?_
    rw [wrap_succ h2 Bh2]
    all_goals first | rfl | (simp only [S0, MEntry.rs]; done) | (simp only [MP]; rfl) | (simp only [S0, MEntry.rs, MP]; first | done | rfl)
  · simp only [step, S0, MEntry.rs]
    have gr_ := hih2
    try simp only [LN] at gr_
    have := H0.1
    have := (H0.2).1
    refine ex_no (by apply decide_eq_false; omega) ?_
    refine ⟨0, ?_⟩
    all_goals first | rfl | (simp only [S0, MEntry.rs]; done) | (simp only [MP]; rfl) | (simp only [S0, MEntry.rs, MP]; first | done | rfl)
theorem valid_ : Valid Tryz.prog Ev 249 con := VV (run := fun n x => start (iter step n) x) mix tab_ok (.cons Z68.valid_ .nil) Tryz.func249 (by kernel_rfl) run_eq (fun _ a _ _ hg => okF a hg)
theorem sm0 {a0 : MEntry} (hg : gd a0) : SmL (2 ^ 43 - 1) (fun y : Int => True) (md a0) := by
 unfold gd at hg
 refine ⟨?_, fun _ _ => trivial⟩
 unfold md
 have h1 := flatMap_len (xs := a0.fPath) (g := fun y => Z68.md y) (n := 2 ^ 21 + 1) (fun x hx => by rw [Z68.len]; have := hg.2.2 x hx; omega)
 have h2 := hg.1
 have h3 := hg.2.1
 have h4 := Z68.len a0.fLabel
 simp only [List.length_append, List.length_cons, List.length_nil]
 omega
end Z69
namespace Z70
def F (x0 : REntry) : Ans := (call (Z69.R x0) fun v1 => (bif (lim (((1 : Int) + (v1.length : Int)) * 8)) then (call (Z45.R ([[L.int 227]] ++ v1)) fun v2 => ret (v2 : Int)) else none))
def pats : List Pat := [.agg [.str, .int .i64, .int .i64, .sl 9]]
def res : RP := .one (.rd (.int .i64))
def md (a0 : MEntry) : Int := ((Z45.md ([227] ++ (Z69.md a0))) : Int)
def gd (a0 : MEntry) : Prop := (MEntry.Sm (2 ^ 21) a0)
def acc (ls : List L) : REntry := (REntry.dec ls)
def R : REntry → Option Int := RR gd md
theorem R_eq {a0} (h : gd a0) : R (MEntry.r a0) = some (md a0) := RR_eq (a := a0) h
def con : Con := CN pats res acc R
theorem okF (a0 : MEntry) (hg : gd a0) : F (MEntry.r a0) = ret ((md a0) : Int) := by
  unfold gd at hg
  have H0 := hg
  unfold F md
  try simp only [S0]
  refine call_to ((Z69.md a0).map iRow) (Z69.R_eq (a0 := a0) H0) ?_
  try simp only [S0]
  refine yes_ret (by
      have := ((Z69.sm0 (a0 := a0) H0)).1
      refine lim_t ?_
      try simp (disch := omega) only [LN, wi]
      first | omega | (simp; done) | (simp; omega)) ?_
  refine call_to (Z45.md ([227] ++ (Z69.md a0))) ?_ ?_
  · have R_ := Z45.R_eq (a0 := ([227] ++ (Z69.md a0))) ⟨(by
        have := ((Z69.sm0 (a0 := a0) H0)).1
        try simp (disch := omega) only [LN, wi]
        first | omega | (simp; done) | (simp; omega)), fun _ _ => trivial⟩
    first | exact R_ | (simp only [MP, S0] at R_ ⊢; first | exact R_ | (rw [← R_]; rfl))
  all_goals first | rfl | (simp only [S0, MP]; first | done | rfl)
theorem valid_ : Valid Tryz.prog Ev 221 con := VV (live := fun _ => []) (nt := 8) (run := fun _ x => F x) mix tab_ok (.cons Z69.valid_ (.cons Z45.valid_ .nil)) Tryz.func221 (by kernel_rfl) (fun _ _ => by kernel_rfl) (fun _ a _ _ hg => ⟨0, okF a hg⟩)
end Z70
namespace Z71
def F (x0 : Int) (x1 : Int) : Ans := (call (Z45.R [[L.int 229], [L.int x0], [L.int x1]]) fun v1 => ret (v1 : Int))
def pats : List Pat := [.rd (.int .i64), .rd (.int .i64)]
def res : RP := .one (.rd (.int .i64))
def md (a0 : Int) (a1 : Int) : Int := ((Z45.md [229, a0, a1]) : Int)
def gd (a0 : Int) (a1 : Int) : Prop := True
def acc (ls : List L) : Int × Int := ((ls.headD .hole).toInt, ((dropT 1 ls).headD .hole).toInt)
def R : (Int × Int) → Option Int := RR (p2 gd) (u2 md)
theorem R_eq {a0} {a1} (h : gd a0 a1) : R (a0, a1) = some (md a0 a1) := RR_eq (a := (a0, a1)) h
def con : Con := CN pats res acc R
theorem okF (a0 : Int) (a1 : Int) (hg : gd a0 a1) : F a0 a1 = ret ((md a0 a1) : Int) := by
  unfold F md
  try simp only [S0]
  refine call_to (Z45.md [229, a0, a1]) ?_ ?_
  · have R_ := Z45.R_eq (a0 := [229, a0, a1]) ⟨(by
        try simp (disch := omega) only [LN, wi]
        first | omega | (simp; done) | (simp; omega)), fun _ _ => trivial⟩
    first | exact R_ | (simp only [MP, S0] at R_ ⊢; first | exact R_ | (rw [← R_]; rfl))
  all_goals first | rfl | (simp only [S0, MP]; first | done | rfl)
theorem valid_ : Valid Tryz.prog Ev 247 con := VV (live := fun _ => []) (nt := 9) (run := fun _ x => F x.1 x.2) mix tab_ok (.cons Z45.valid_ .nil) Tryz.func247 (by kernel_rfl) (fun _ _ => by kernel_rfl) (fun _ a _ _ hg => ⟨0, okF a.1 a.2 hg⟩)
end Z71
namespace Z72
inductive Pt where
 | p0 (a : Int) (b : Int) (c : Int) (d : List (List L)) (e : Int)
def pid : Pt → Nat
 | .p0 .. => 4
def pvs : Pt → List V
 | .p0 a b c d e => [.int .i64 a, .int .i64 b, .int .i64 c, .sl none 3 d, .int .i64 e]
def phs : Pt → List Root
 | .p0 a b c d e => []
def step (J : Pt → Ans) : Pt → Ans
 | .p0 a b c d e => (bif (decide (c > 1)) then (bif ((Int.tmod b 2) == 1) then (bif (decide (e ≥ (d.length : Int))) then ret ((0, false) : Int × Bool) else (bif ((Int.tmod b 2) == 1) then (bif (decide ((0 : Int) ≤ e)) then (bif (decide (e < (d.length : Int))) then (call (Z71.R ((iAt d (Int.toNat e)), a)) fun v1 => J (.p0 v1 (IntKind.i64.wrap (Int.tdiv b 2)) (IntKind.i64.wrap (Int.tdiv (IntKind.i64.wrap (c + 1)) 2)) d (IntKind.i64.wrap (e + 1)))) else none) else none) else (bif (decide ((0 : Int) ≤ e)) then (bif (decide (e < (d.length : Int))) then (call (Z71.R (a, (iAt d (Int.toNat e)))) fun v2 => J (.p0 v2 (IntKind.i64.wrap (Int.tdiv b 2)) (IntKind.i64.wrap (Int.tdiv (IntKind.i64.wrap (c + 1)) 2)) d (IntKind.i64.wrap (e + 1)))) else none) else none))) else (bif (decide ((IntKind.i64.wrap (b + 1)) < c)) then (bif (decide (e ≥ (d.length : Int))) then ret ((0, false) : Int × Bool) else (bif ((Int.tmod b 2) == 1) then (bif (decide ((0 : Int) ≤ e)) then (bif (decide (e < (d.length : Int))) then (call (Z71.R ((iAt d (Int.toNat e)), a)) fun v3 => J (.p0 v3 (IntKind.i64.wrap (Int.tdiv b 2)) (IntKind.i64.wrap (Int.tdiv (IntKind.i64.wrap (c + 1)) 2)) d (IntKind.i64.wrap (e + 1)))) else none) else none) else (bif (decide ((0 : Int) ≤ e)) then (bif (decide (e < (d.length : Int))) then (call (Z71.R (a, (iAt d (Int.toNat e)))) fun v4 => J (.p0 v4 (IntKind.i64.wrap (Int.tdiv b 2)) (IntKind.i64.wrap (Int.tdiv (IntKind.i64.wrap (c + 1)) 2)) d (IntKind.i64.wrap (e + 1)))) else none) else none))) else J (.p0 a (IntKind.i64.wrap (Int.tdiv b 2)) (IntKind.i64.wrap (Int.tdiv (IntKind.i64.wrap (c + 1)) 2)) d e))) else (bif (e != (d.length : Int)) then ret ((0, false) : Int × Bool) else ret ((a, true) : Int × Bool)))
def start (J : Pt → Ans) (x0 : Int) (x1 : Int) (x2 : Int) (x3 : List (List L)) : Ans := (call (Z39.R (x2, 1, 12)) fun v1 => (bif (!v1) then ret ((0, false) : Int × Bool) else (call (Z39.R (x1, 0, (IntKind.i64.wrap (x2 - 1)))) fun v2 => (bif (!v2) then ret ((0, false) : Int × Bool) else J (.p0 x0 x1 x2 x3 0)))))
def live : Nat → Live := fun i => match i with | 4 => [(0, none), (1, none), (2, none), (3, none), (10, none)] | _ => []
def pats : List Pat := [.rd (.int .i64), .rd (.int .i64), .rd (.int .i64), .rd (.sl 3)]
def res : RP := .tup [(false, [.rd (.int .i64)]), (false, [.rd (.bool)])]
abbrev E : Env := { T := assoc Tab, G := conG [(120, Z39.con), (247, Z71.con)], nt := 63 }
theorem step_eq (I : Heads) (p : Pt) : enterC E live I (pid p) (bodyOf Tryz.f220) (stOf (live (pid p)) (pvs p) (phs p)) (doneK E Tryz.f220 res) = step (fun q => I (pid q) (pvs q) (phs q)) p := by
 cases p <;> kernel_rfl
theorem start_eq (I : Heads) (ls : List L) : runC E live I (bodyOf Tryz.f220) (initS pats ls) (doneK E Tryz.f220 res) = start (fun q => I (pid q) (pvs q) (phs q)) (ls.headD .hole).toInt ((dropT 1 ls).headD .hole).toInt ((dropT 2 ls).headD .hole).toInt ((dropT 3 ls).headD .hole).toSl := by kernel_rfl
theorem run_eq (n : Nat) (ls : List L) : runF E live Tryz.f220 res n (initS pats ls) = start (iter step n) (ls.headD .hole).toInt ((dropT 1 ls).headD .hole).toInt ((dropT 2 ls).headD .hole).toInt ((dropT 3 ls).headD .hole).toSl := runF_iter (id := pid) (vs := pvs) (hs := phs) (step := step) (start := fun J => start J (ls.headD .hole).toInt ((dropT 1 ls).headD .hole).toInt ((dropT 2 ls).headD .hole).toInt ((dropT 3 ls).headD .hole).toSl) step_eq (fun I => start_eq I ls) n
def tf : Nat → Int → Int → Int → List Int → Int × Bool
 | 0, _, _, _, _ => (0, false)
 | k + 1, leaf, i, n, path =>
  if n > 1 then
   if i % 2 = 1 ∨ i + 1 < n then
    match path with
    | [] => (0, false)
    | p :: ps => tf k (if i % 2 = 1 then Z71.md p leaf else Z71.md leaf p) (i / 2) ((n + 1) / 2) ps
   else tf k leaf (i / 2) ((n + 1) / 2) path
  else if path.isEmpty then (leaf, true) else (0, false)
def md (a0 : Int) (a1 : Int) (a2 : Int) (a3 : List Int) : Int × Bool := (bif !(Z39.md a2 1 12) then (0, false) else bif !(Z39.md a1 0 (IntKind.i64.wrap (a2 - 1))) then (0, false) else tf 5 a0 a1 a2 a3)
def gd (a0 : Int) (a1 : Int) (a2 : Int) (a3 : List Int) : Prop := SmL (2 ^ 38) (fun y : Int => True) a3
def acc (ls : List L) : Int × Int × Int × List (List L) := ((ls.headD .hole).toInt, ((dropT 1 ls).headD .hole).toInt, ((dropT 2 ls).headD .hole).toInt, ((dropT 3 ls).headD .hole).toSl)
def R : (Int × Int × Int × List (List L)) → Option (Int × Bool) := RR (p4 gd) (u4 md)
theorem R_eq {a0} {a1} {a2} {a3} (h : gd a0 a1 a2 a3) : R (a0, a1, a2, (a3.map iRow)) = some ((md a0 a1 a2 a3).1, (md a0 a1 a2 a3).2) := RR_eq (a := (a0, a1, a2, a3)) h
def con : Con := CN pats res acc R
theorem okF (a0 : Int) (a1 : Int) (a2 : Int) (a3 : List Int) (hg : gd a0 a1 a2 a3) : ∃ n, start (iter step n) a0 a1 a2 (a3.map iRow) = ret (((md a0 a1 a2 a3).1, (md a0 a1 a2 a3).2) : Int × Bool) := by
  have tm : ∀ b : Int, 0 ≤ b → b ≤ 11 → Int.tmod b 2 = b % 2 := fun b h1 h2 => Int.tmod_eq_emod_of_nonneg h1
  have td : ∀ b : Int, 0 ≤ b → b ≤ 13 → IntKind.i64.wrap (Int.tdiv b 2) = b / 2 := fun b h1 h2 => by
    rw [Int.tdiv_eq_ediv_of_nonneg h1, Go.IntWalk.i64_in _ (by omega)]
  have t1 : ∀ b : Int, 0 ≤ b → b ≤ 13 → IntKind.i64.wrap (b + 1) = b + 1 := fun b h1 h2 => Go.IntWalk.i64_in _ (by omega)
  obtain ⟨H3, _⟩ := hg
  have key : ∀ (k : Nat) (leaf i n : Int) (u : Nat), 0 ≤ i → i < n → n ≤ 12 → n ≤ 2 ^ k → u ≤ a3.length → ∃ m, iter step m (Pt.p0 leaf i n (a3.map iRow) (u : Int)) = ret ((tf (k + 1) leaf i n (a3.drop u)).1, (tf (k + 1) leaf i n (a3.drop u)).2) := by
    intro k
    induction k with
    | zero =>
      intro leaf i n u h1 h2 h3 h4 h5
      refine ⟨1, ?_⟩
      show step (iter step 0) (Pt.p0 _ _ _ _ _) = _
      have hn : n = 1 := by omega
      subst hn
      simp only [step, List.length_map]
      refine no_ret (by decide) ?_
      unfold tf
      rw [if_neg (by omega)]
      by_cases hu : u = a3.length
      · rw [List.drop_eq_nil_of_le (by omega), show ((u : Int) != (a3.length : Int)) = false from bne_eq_false_iff_eq.2 (by omega)]; rfl
      · have hne : (a3.drop u).isEmpty = false := by
          rw [List.drop_eq_getElem_cons (by omega)]; rfl
        rw [hne, show ((u : Int) != (a3.length : Int)) = true from bne_iff_ne.2 (by omega)]; rfl
    | succ k ih =>
      intro leaf i n u h1 h2 h3 h4 h5
      have hk : n ≤ 2 * 2 ^ k := by rw [Int.pow_succ] at h4; omega
      unfold tf
      by_cases hn : n > 1
      · have e1 := tm i h1 (by omega)
        have e2 := td i h1 (by omega)
        have e3 := t1 n (by omega) (by omega)
        have e4 := td (n + 1) (by omega) (by omega)
        have e5 := t1 i h1 (by omega)
        rw [if_pos hn]
        by_cases hc : i % 2 = 1 ∨ i + 1 < n
        · rw [if_pos hc]
          by_cases hu : u = a3.length
          · refine ⟨1, ?_⟩
            show step (iter step 0) (Pt.p0 _ _ _ _ _) = _
            rw [List.drop_eq_nil_of_le (by omega)]
            simp only [step, List.length_map, e1, e5]
            refine yes_ret (decide_eq_true (by omega)) ?_
            by_cases hm : i % 2 = 1
            · rw [hm]
              exact yes_ret rfl (yes_ret (decide_eq_true (by omega)) rfl)
            · refine no_ret (beq_eq_false_iff_ne.2 hm) (yes_ret (decide_eq_true (by omega)) (yes_ret (decide_eq_true (by omega)) rfl))
          · have hlt : u < a3.length := by omega
            rw [List.drop_eq_getElem_cons hlt]
            obtain ⟨m, hm⟩ := ih (if i % 2 = 1 then Z71.md a3[u] leaf else Z71.md leaf a3[u]) (i / 2) ((n + 1) / 2) (u + 1) (by omega) (by omega) (by omega) (by omega) (by omega)
            refine ⟨m + 1, ?_⟩
            show step (iter step m) (Pt.p0 _ _ _ _ _) = _
            have w : IntKind.i64.wrap ((u : Int) + 1) = ((u + 1 : Nat) : Int) := by rw [Go.IntWalk.i64_in _ (by omega)]; omega
            simp only [step, List.length_map, e1, e2, e3, e4, e5, w, toNat_nat, iAt_getD, getD_lt hlt]
            refine yes_ret (decide_eq_true (by omega)) ?_
            by_cases hp : i % 2 = 1
            · rw [if_pos hp] at hm
              rw [hp]
              refine yes_ret rfl (no_ret (decide_eq_false (by omega)) (yes_ret rfl (yes_ret (decide_eq_true (by omega)) (yes_ret (decide_eq_true (by omega)) (call_to _ (Z71.R_eq trivial) ?_)))))
              rw [if_pos rfl]
              exact hm
            · rw [if_neg hp] at hm
              have hb : (i % 2 == 1) = false := beq_eq_false_iff_ne.2 hp
              rw [hb]
              refine no_ret rfl (yes_ret (decide_eq_true (by omega)) (no_ret (decide_eq_false (by omega)) (no_ret rfl (yes_ret (decide_eq_true (by omega)) (yes_ret (decide_eq_true (by omega)) (call_to _ (Z71.R_eq trivial) ?_))))))
              rw [if_neg hp]
              exact hm
        · rw [if_neg hc]
          obtain ⟨m, hm⟩ := ih leaf (i / 2) ((n + 1) / 2) u (by omega) (by omega) (by omega) (by omega) h5
          refine ⟨m + 1, ?_⟩
          show step (iter step m) (Pt.p0 _ _ _ _ _) = _
          simp only [step, List.length_map, e1, e2, e3, e4, e5]
          have hb : (i % 2 == 1) = false := beq_eq_false_iff_ne.2 (by omega)
          rw [hb]
          exact yes_ret (decide_eq_true (by omega)) (no_ret rfl (no_ret (decide_eq_false (by omega)) hm))
      · refine ⟨1, ?_⟩
        show step (iter step 0) (Pt.p0 _ _ _ _ _) = _
        have hn1 : n = 1 := by omega
        subst hn1
        simp only [step, List.length_map]
        refine no_ret (by decide) ?_
        rw [if_neg (by omega)]
        by_cases hu : u = a3.length
        · rw [List.drop_eq_nil_of_le (by omega), show ((u : Int) != (a3.length : Int)) = false from bne_eq_false_iff_eq.2 (by omega)]; rfl
        · have hne : (a3.drop u).isEmpty = false := by
            rw [List.drop_eq_getElem_cons (by omega)]; rfl
          rw [hne, show ((u : Int) != (a3.length : Int)) = true from bne_iff_ne.2 (by omega)]; rfl
  unfold start md
  refine ex_call_to (Z39.md a2 1 12) (Z39.R_eq trivial) ?_
  cases hc : Z39.md a2 1 12
  · exact ⟨0, rfl⟩
  simp only [Bool.not_true, cond_false]
  refine ex_call_to (Z39.md a1 0 (IntKind.i64.wrap (a2 - 1))) (Z39.R_eq trivial) ?_
  cases hd : Z39.md a1 0 (IntKind.i64.wrap (a2 - 1))
  · exact ⟨0, rfl⟩
  have i1 : 1 ≤ a2 ∧ a2 ≤ 12 := by simpa [Z39.md] using hc
  rw [Go.IntWalk.i64_in _ (by omega)] at hd
  have i2 : 0 ≤ a1 ∧ a1 ≤ a2 - 1 := by simpa [Z39.md] using hd
  exact key 4 a0 a1 a2 0 (by omega) (by omega) (by omega) (by omega) (by omega)
theorem valid_ : Valid Tryz.prog Ev 220 con := VV (run := fun n x => start (iter step n) x.1 x.2.1 x.2.2.1 x.2.2.2) mix tab_ok (.cons Z39.valid_ (.cons Z71.valid_ .nil)) Tryz.func220 (by kernel_rfl) run_eq (fun _ a _ _ hg => okF a.1 a.2.1 a.2.2.1 a.2.2.2 hg)
end Z72
namespace Z73
inductive Pt where
 | p0 (a : ByteArray) (b : Int)
def pid : Pt → Nat
 | .p0 .. => 4
def pvs : Pt → List V
 | .p0 a b => [.str a, .int .i64 b]
def phs : Pt → List Root
 | .p0 a b => []
def step (J : Pt → Ans) : Pt → Ans
 | .p0 a b => (bif (decide (b < (a.size : Int))) then (bif (decide ((0 : Int) ≤ b)) then (bif (decide (b < (a.size : Int))) then (bif (decide ((chAt a (Int.toNat b)) < 97)) then (bif (decide ((0 : Int) ≤ b)) then (bif (decide (b < (a.size : Int))) then (bif (decide ((chAt a (Int.toNat b)) < 48)) then (bif (decide ((0 : Int) ≤ b)) then (bif (decide (b < (a.size : Int))) then (bif ((chAt a (Int.toNat b)) != 45) then ret (false : Bool) else J (.p0 a (IntKind.i64.wrap (b + 1)))) else none) else none) else (bif (decide ((0 : Int) ≤ b)) then (bif (decide (b < (a.size : Int))) then (bif (decide ((chAt a (Int.toNat b)) > 57)) then (bif (decide ((0 : Int) ≤ b)) then (bif (decide (b < (a.size : Int))) then (bif ((chAt a (Int.toNat b)) != 45) then ret (false : Bool) else J (.p0 a (IntKind.i64.wrap (b + 1)))) else none) else none) else J (.p0 a (IntKind.i64.wrap (b + 1)))) else none) else none)) else none) else none) else (bif (decide ((0 : Int) ≤ b)) then (bif (decide (b < (a.size : Int))) then (bif (decide ((chAt a (Int.toNat b)) > 122)) then (bif (decide ((0 : Int) ≤ b)) then (bif (decide (b < (a.size : Int))) then (bif (decide ((chAt a (Int.toNat b)) < 48)) then (bif (decide ((0 : Int) ≤ b)) then (bif (decide (b < (a.size : Int))) then (bif ((chAt a (Int.toNat b)) != 45) then ret (false : Bool) else J (.p0 a (IntKind.i64.wrap (b + 1)))) else none) else none) else (bif (decide ((0 : Int) ≤ b)) then (bif (decide (b < (a.size : Int))) then (bif (decide ((chAt a (Int.toNat b)) > 57)) then (bif (decide ((0 : Int) ≤ b)) then (bif (decide (b < (a.size : Int))) then (bif ((chAt a (Int.toNat b)) != 45) then ret (false : Bool) else J (.p0 a (IntKind.i64.wrap (b + 1)))) else none) else none) else J (.p0 a (IntKind.i64.wrap (b + 1)))) else none) else none)) else none) else none) else J (.p0 a (IntKind.i64.wrap (b + 1)))) else none) else none)) else none) else none) else ret (true : Bool))
def start (J : Pt → Ans) (x0 : ByteArray) : Ans := (call (Z39.R ((x0.size : Int), 1, 8)) fun v1 => (bif (!v1) then ret (false : Bool) else (bif (decide ((0 : Int) < (x0.size : Int))) then (bif ((chAt x0 0) == 45) then ret (false : Bool) else (bif (decide ((0 : Int) ≤ (IntKind.i64.wrap ((x0.size : Int) - 1)))) then (bif (decide ((IntKind.i64.wrap ((x0.size : Int) - 1)) < (x0.size : Int))) then (bif ((chAt x0 (Int.toNat (IntKind.i64.wrap ((x0.size : Int) - 1)))) == 45) then ret (false : Bool) else J (.p0 x0 0)) else none) else none)) else none)))
def live : Nat → Live := fun i => match i with | 4 => [(0, none), (3, none)] | _ => []
def pats : List Pat := [.rd (.str)]
def res : RP := .one (.rd (.bool))
abbrev E : Env := { T := assoc Tab, G := conG [(120, Z39.con)], nt := 55 }
theorem step_eq (I : Heads) (p : Pt) : enterC E live I (pid p) (bodyOf Tryz.f118) (stOf (live (pid p)) (pvs p) (phs p)) (doneK E Tryz.f118 res) = step (fun q => I (pid q) (pvs q) (phs q)) p := by
 cases p <;> kernel_rfl
theorem start_eq (I : Heads) (ls : List L) : runC E live I (bodyOf Tryz.f118) (initS pats ls) (doneK E Tryz.f118 res) = start (fun q => I (pid q) (pvs q) (phs q)) (ls.headD .hole).toStr := by kernel_rfl
theorem run_eq (n : Nat) (ls : List L) : runF E live Tryz.f118 res n (initS pats ls) = start (iter step n) (ls.headD .hole).toStr := runF_iter (id := pid) (vs := pvs) (hs := phs) (step := step) (start := fun J => start J (ls.headD .hole).toStr) step_eq (fun I => start_eq I ls) n
def md (a0 : ByteArray) : Bool := (bif (!(Z39.md (a0.size : Int) 1 8)) then (false : Bool) else (bif ((chAt a0 0) == 45) then (false : Bool) else (bif ((chAt a0 (Int.toNat (IntKind.i64.wrap ((a0.size : Int) - 1)))) == 45) then (false : Bool) else (loopM (S := Unit) (β := Bool) (fun (i4 : Nat) (s6 : Unit) => (bif (decide ((chAt a0 i4) < 97)) then (bif (decide ((chAt a0 i4) < 48)) then (bif ((chAt a0 i4) != 45) then (.inr (false : Bool)) else (.inl ())) else (bif (decide ((chAt a0 i4) > 57)) then (bif ((chAt a0 i4) != 45) then (.inr (false : Bool)) else (.inl ())) else (.inl ()))) else (bif (decide ((chAt a0 i4) > 122)) then (bif (decide ((chAt a0 i4) < 48)) then (bif ((chAt a0 i4) != 45) then (.inr (false : Bool)) else (.inl ())) else (bif (decide ((chAt a0 i4) > 57)) then (bif ((chAt a0 i4) != 45) then (.inr (false : Bool)) else (.inl ())) else (.inl ()))) else (.inl ())))) (fun (s6 : Unit) => (true : Bool)) a0.size 0 ()))))
def gd (a0 : ByteArray) : Prop := (a0.size ≤ (2 ^ 21))
def acc (ls : List L) : ByteArray := (ls.headD .hole).toStr
def R : ByteArray → Option Bool := RR gd md
theorem R_eq {a0} (h : gd a0) : R a0 = some (md a0) := RR_eq (a := a0) h
def con : Con := CN pats res acc R
theorem okF (a0 : ByteArray) (hg : gd a0) : ∃ n, start (iter step n) a0 = ret ((md a0) : Bool) := by
  unfold gd at hg
  have H0 := hg
  unfold start md
  try simp only [S0]
  refine ex_call_to (Z39.md (a0.size : Int) 1 8) (Z39.R_eq (a0 := (a0.size : Int)) (a1 := 1) (a2 := 8) trivial) ?_
  refine ex_bif ret (fun _ => ⟨0, rfl⟩) (fun c1 => ?_)
  have dc1 := c1
  try simp only [DC] at dc1
  have Dc1 := c1
  try simp [Z39.md] at Dc1
  refine ex_yes (by
      have := H0
      refine decide_eq_true ?_
      try simp (disch := omega) only [LN, wi]
      first | omega | (simp; done) | (simp; omega)) ?_
  refine ex_bif ret (fun _ => ⟨0, rfl⟩) (fun c2 => ?_)
  have dc2 := c2
  try simp only [DC] at dc2
  refine ex_yes (by
      have := H0
      refine decide_eq_true ?_
      try simp (disch := omega) only [LN, wi]
      first | omega | (simp; done) | (simp; omega)) ?_
  refine ex_yes (by
      have := H0
      refine decide_eq_true ?_
      try simp (disch := omega) only [LN, wi]
      first | omega | (simp; done) | (simp; omega)) ?_
  refine ex_bif ret (fun _ => ⟨0, rfl⟩) (fun c3 => ?_)
  have dc3 := c3
  try simp only [DC] at dc3
  have Bh5 : a0.size ≤ maxLen := (by
      have := H0
      try simp only [maxLen] at *
      omega)
  refine ex_pt (p := Pt.p0 a0 0) (by first | rfl | (simp only [S0, MP]; done) | (simp only [MP]; rfl)) ?_
  refine loopM_ok (pt := fun (i4 : Nat) (s6 : Unit) => Pt.p0 a0 (i4 : Int)) (s := (() : Unit)) (out := ret) (fun _ _ => True) (fun J i4 s6 h5 hih5 => ?_) (fun s6 hih5 => ?_) trivial
  · simp only [step, S0]
    have bb_ := Bh5
    simp only [maxLen] at bb_
    have := H0
    refine Rnd.yes (by apply decide_eq_true; omega) ?_
    refine Rnd.yes zle_dec ?_
    refine Rnd.yes (lt_dec h5) ?_
    refine Rnd.bif (fun c7 => ?_) (fun c7 => ?_)
    · refine Rnd.yes zle_dec ?_
      refine Rnd.yes (lt_dec h5) ?_
      refine Rnd.bif (fun c8 => ?_) (fun c8 => ?_)
      · refine Rnd.yes zle_dec ?_
        refine Rnd.yes (lt_dec h5) ?_
        refine Rnd.bif (fun _ => Rnd.inr rfl) (fun c9 => ?_)
        refine Rnd.inl trivial ?_
        rw [wrap_succ h5 Bh5]
        all_goals first | rfl | (simp only [S0, MP]; first | done | rfl)
      · refine Rnd.yes zle_dec ?_
        refine Rnd.yes (lt_dec h5) ?_
        refine Rnd.bif (fun c10 => ?_) (fun c10 => ?_)
        · refine Rnd.yes zle_dec ?_
          refine Rnd.yes (lt_dec h5) ?_
          refine Rnd.bif (fun _ => Rnd.inr rfl) (fun c11 => ?_)
          refine Rnd.inl trivial ?_
          rw [wrap_succ h5 Bh5]
          all_goals first | rfl | (simp only [S0, MP]; first | done | rfl)
        · refine Rnd.inl trivial ?_
          rw [wrap_succ h5 Bh5]
          all_goals first | rfl | (simp only [S0, MP]; first | done | rfl)
    · refine Rnd.yes zle_dec ?_
      refine Rnd.yes (lt_dec h5) ?_
      refine Rnd.bif (fun c12 => ?_) (fun c12 => ?_)
      · refine Rnd.yes zle_dec ?_
        refine Rnd.yes (lt_dec h5) ?_
        refine Rnd.bif (fun c13 => ?_) (fun c13 => ?_)
        · refine Rnd.yes zle_dec ?_
          refine Rnd.yes (lt_dec h5) ?_
          refine Rnd.bif (fun _ => Rnd.inr rfl) (fun c14 => ?_)
          refine Rnd.inl trivial ?_
          rw [wrap_succ h5 Bh5]
          all_goals first | rfl | (simp only [S0, MP]; first | done | rfl)
        · refine Rnd.yes zle_dec ?_
          refine Rnd.yes (lt_dec h5) ?_
          refine Rnd.bif (fun c15 => ?_) (fun c15 => ?_)
          · refine Rnd.yes zle_dec ?_
            refine Rnd.yes (lt_dec h5) ?_
            refine Rnd.bif (fun _ => Rnd.inr rfl) (fun c16 => ?_)
            refine Rnd.inl trivial ?_
            rw [wrap_succ h5 Bh5]
            all_goals first | rfl | (simp only [S0, MP]; first | done | rfl)
          · refine Rnd.inl trivial ?_
            rw [wrap_succ h5 Bh5]
            all_goals first | rfl | (simp only [S0, MP]; first | done | rfl)
      · refine Rnd.inl trivial ?_
        rw [wrap_succ h5 Bh5]
        all_goals first | rfl | (simp only [S0, MP]; first | done | rfl)
  · simp only [step, S0]
    have := H0
    refine ex_no (by apply decide_eq_false; omega) ?_
    refine ⟨0, ?_⟩
    all_goals first | rfl | (simp only [S0, MP]; first | done | rfl)
theorem valid_ : Valid Tryz.prog Ev 118 con := VV (run := fun n x => start (iter step n) x) mix tab_ok (.cons Z39.valid_ .nil) Tryz.func118 (by kernel_rfl) run_eq (fun _ a _ _ hg => okF a hg)
end Z73
namespace Z74
inductive Pt where
 | p0 (a : List (List L)) (b : Int)
def pid : Pt → Nat
 | .p0 .. => 2
def pvs : Pt → List V
 | .p0 a b => [.sl none 9 a, .int .i64 b]
def phs : Pt → List Root
 | .p0 a b => []
def step (J : Pt → Ans) : Pt → Ans
 | .p0 a b => (bif (decide (b < (a.length : Int))) then (bif (decide ((0 : Int) ≤ b)) then (bif (decide (b < (a.length : Int))) then (call (Z73.R (sAt a (Int.toNat b))) fun v1 => (bif (!v1) then ret (false : Bool) else J (.p0 a (IntKind.i64.wrap (b + 1))))) else none) else none) else (call (Z39.R ((a.length : Int), 1, 4)) fun v2 => ret (v2 : Bool)))
def start (J : Pt → Ans) (x0 : List (List L)) : Ans := J (.p0 x0 0)
def live : Nat → Live := fun i => match i with | 2 => [(0, none), (3, none)] | _ => []
def pats : List Pat := [.rd (.sl 9)]
def res : RP := .one (.rd (.bool))
abbrev E : Env := { T := assoc Tab, G := conG [(118, Z73.con), (120, Z39.con)], nt := 19 }
theorem step_eq (I : Heads) (p : Pt) : enterC E live I (pid p) (bodyOf Tryz.f250) (stOf (live (pid p)) (pvs p) (phs p)) (doneK E Tryz.f250 res) = step (fun q => I (pid q) (pvs q) (phs q)) p := by
 cases p <;> kernel_rfl
theorem start_eq (I : Heads) (ls : List L) : runC E live I (bodyOf Tryz.f250) (initS pats ls) (doneK E Tryz.f250 res) = start (fun q => I (pid q) (pvs q) (phs q)) (ls.headD .hole).toSl := by kernel_rfl
theorem run_eq (n : Nat) (ls : List L) : runF E live Tryz.f250 res n (initS pats ls) = start (iter step n) (ls.headD .hole).toSl := runF_iter (id := pid) (vs := pvs) (hs := phs) (step := step) (start := fun J => start J (ls.headD .hole).toSl) step_eq (fun I => start_eq I ls) n
def md (a0 : List ByteArray) : Bool := (eachM (S := Unit) (β := Bool) (fun (y1 : ByteArray) (s3 : Unit) => (bif (!(Z73.md y1)) then (.inr (false : Bool)) else (.inl ()))) (fun (s3 : Unit) => ((Z39.md (a0.length : Int) 1 4) : Bool)) a0 ())
def gd (a0 : List ByteArray) : Prop := (SmL (2 ^ 21) (fun y : ByteArray => y.size ≤ (2 ^ 21)) a0)
def acc (ls : List L) : List (List L) := (ls.headD .hole).toSl
def R : (List (List L)) → Option Bool := RR gd md
theorem R_eq {a0} (h : gd a0) : R (a0.map sRow) = some (md a0) := RR_eq (a := a0) h
def con : Con := CN pats res acc R
theorem okF (a0 : List ByteArray) (hg : gd a0) : ∃ n, start (iter step n) (a0.map sRow) = ret ((md a0) : Bool) := by
  unfold gd at hg
  have H0 := hg
  unfold start md
  try simp only [S0]
  have Bh2 : a0.length ≤ maxLen := (by
      have := (H0).1
      try simp only [maxLen] at *
      omega)
  refine ex_eq (out := ret) (loopM_eachM (z := ⟨#[]⟩)) ?_
  refine ex_pt (p := Pt.p0 (a0.map sRow) 0) (by first | rfl | (simp only [S0, MP]; done) | (simp only [MP]; rfl)) ?_
  refine loopM_ok (pt := fun (i1 : Nat) (s3 : Unit) => Pt.p0 (a0.map sRow) (i1 : Int)) (s := (() : Unit)) (out := ret) (fun _ _ => True) (fun J i1 s3 h2 hih2 => ?_) (fun s3 hih2 => ?_) trivial
  · simp only [step, S0]
    have bb_ := Bh2
    simp only [maxLen] at bb_
    have := (H0).1
    refine Rnd.yes (by apply decide_eq_true; omega) ?_
    refine Rnd.yes zle_dec ?_
    refine Rnd.yes (lt_dec h2) ?_
    refine Rnd.call_to (Z73.md (a0.getD i1 ⟨#[]⟩)) (Z73.R_eq (a0 := (a0.getD i1 ⟨#[]⟩)) (SmL.getD (z := ⟨#[]⟩) H0 h2)) ?_
    refine Rnd.bif (fun _ => Rnd.inr rfl) (fun c4 => ?_)
    refine Rnd.inl trivial ?_
    rw [wrap_succ h2 Bh2]
    all_goals first | rfl | (simp only [S0, MP]; first | done | rfl)
  · simp only [step, S0]
    have := (H0).1
    refine ex_no (by apply decide_eq_false; omega) ?_
    refine ex_call_to (Z39.md (a0.length : Int) 1 4) (Z39.R_eq (a0 := (a0.length : Int)) (a1 := 1) (a2 := 4) trivial) ?_
    refine ⟨0, ?_⟩
    all_goals first | rfl | (simp only [S0, MP]; first | done | rfl)
theorem valid_ : Valid Tryz.prog Ev 250 con := VV (run := fun n x => start (iter step n) x) mix tab_ok (.cons Z73.valid_ (.cons Z39.valid_ .nil)) Tryz.func250 (by kernel_rfl) run_eq (fun _ a _ _ hg => okF a hg)
end Z74
namespace Z75
def F (x0 : REntry) : Ans := (bif (x0.fKind == 1) then (call (Z73.R x0.fLabel) fun v1 => (bif v1 then (call (Z39.R (x0.fValue, 0, 999999)) fun v2 => (bif v2 then ret (((x0.fPath.length : Int) == 0) : Bool) else ret (false : Bool))) else ret (false : Bool))) else (bif (x0.fKind == 2) then (call (Z73.R x0.fLabel) fun v3 => (bif v3 then (call (Z39.R (x0.fValue, 0, 2147483646)) fun v4 => (bif v4 then ret (((x0.fPath.length : Int) == 0) : Bool) else ret (false : Bool))) else ret (false : Bool))) else (bif (x0.fKind == 3) then (call (Z73.R x0.fLabel) fun v5 => (bif v5 then (call (Z39.R (x0.fValue, 0, 2147483646)) fun v6 => (bif v6 then (call (Z74.R x0.fPath) fun v7 => ret (v7 : Bool)) else ret (false : Bool))) else ret (false : Bool))) else ret (false : Bool))))
def pats : List Pat := [.agg [.str, .int .i64, .int .i64, .sl 9]]
def res : RP := .one (.rd (.bool))
def md (a0 : MEntry) : Bool := (bif (a0.fKind == 1) then (bif (Z73.md a0.fLabel) then (bif (Z39.md a0.fValue 0 999999) then (((a0.fPath.length : Int) == 0) : Bool) else (false : Bool)) else (false : Bool)) else (bif (a0.fKind == 2) then (bif (Z73.md a0.fLabel) then (bif (Z39.md a0.fValue 0 2147483646) then (((a0.fPath.length : Int) == 0) : Bool) else (false : Bool)) else (false : Bool)) else (bif (a0.fKind == 3) then (bif (Z73.md a0.fLabel) then (bif (Z39.md a0.fValue 0 2147483646) then ((Z74.md a0.fPath) : Bool) else (false : Bool)) else (false : Bool)) else (false : Bool))))
def gd (a0 : MEntry) : Prop := (MEntry.Sm (2 ^ 21) a0)
def acc (ls : List L) : REntry := (REntry.dec ls)
def R : REntry → Option Bool := RR gd md
theorem R_eq {a0} (h : gd a0) : R (MEntry.r a0) = some (md a0) := RR_eq (a := a0) h
def con : Con := CN pats res acc R
theorem okF (a0 : MEntry) (hg : gd a0) : F (MEntry.r a0) = ret ((md a0) : Bool) := by
  unfold gd at hg
  have H0 := hg
  unfold F md
  try simp only [S0, MEntry.rs]
  refine bif_out ret (fun c1 => ?_) (fun c1 => ?_)
  · refine call_to (Z73.md a0.fLabel) (Z73.R_eq (a0 := a0.fLabel) H0.1) ?_
    refine bif_out ret (fun c2 => ?_) (fun _ => rfl)
    refine call_to (Z39.md a0.fValue 0 999999) (Z39.R_eq (a0 := a0.fValue) (a1 := 0) (a2 := 999999) trivial) ?_
    refine bif_out ret (fun c3 => ?_) (fun _ => rfl)
    all_goals first | rfl | (simp only [S0, MEntry.rs, MP]; first | done | rfl)
  · refine bif_out ret (fun c4 => ?_) (fun c4 => ?_)
    · refine call_to (Z73.md a0.fLabel) (Z73.R_eq (a0 := a0.fLabel) H0.1) ?_
      refine bif_out ret (fun c5 => ?_) (fun _ => rfl)
      refine call_to (Z39.md a0.fValue 0 2147483646) (Z39.R_eq (a0 := a0.fValue) (a1 := 0) (a2 := 2147483646) trivial) ?_
      refine bif_out ret (fun c6 => ?_) (fun _ => rfl)
      all_goals first | rfl | (simp only [S0, MEntry.rs, MP]; first | done | rfl)
    · refine bif_out ret (fun c7 => ?_) (fun _ => rfl)
      refine call_to (Z73.md a0.fLabel) (Z73.R_eq (a0 := a0.fLabel) H0.1) ?_
      refine bif_out ret (fun c8 => ?_) (fun _ => rfl)
      refine call_to (Z39.md a0.fValue 0 2147483646) (Z39.R_eq (a0 := a0.fValue) (a1 := 0) (a2 := 2147483646) trivial) ?_
      refine bif_out ret (fun c9 => ?_) (fun _ => rfl)
      refine call_to (Z74.md a0.fPath) (Z74.R_eq (a0 := a0.fPath) H0.2) ?_
      all_goals first | rfl | (simp only [S0, MEntry.rs, MP]; first | done | rfl)
theorem valid_ : Valid Tryz.prog Ev 222 con := VV (live := fun _ => []) (nt := 52) (run := fun _ x => F x) mix tab_ok (.cons Z73.valid_ (.cons Z39.valid_ (.cons Z74.valid_ .nil))) Tryz.func222 (by kernel_rfl) (fun _ _ => by kernel_rfl) (fun _ a _ _ hg => ⟨0, okF a hg⟩)
end Z75
namespace Z76
def F (x0 : Int) (x1 : Int) : Ans := (call (Z45.R [[L.int 231], [L.int x0], [L.int x1]]) fun v1 => ret (v1 : Int))
def pats : List Pat := [.rd (.int .i64), .rd (.int .i64)]
def res : RP := .one (.rd (.int .i64))
def md (a0 : Int) (a1 : Int) : Int := ((Z45.md [231, a0, a1]) : Int)
def gd (a0 : Int) (a1 : Int) : Prop := True
def acc (ls : List L) : Int × Int := ((ls.headD .hole).toInt, ((dropT 1 ls).headD .hole).toInt)
def R : (Int × Int) → Option Int := RR (p2 gd) (u2 md)
theorem R_eq {a0} {a1} (h : gd a0 a1) : R (a0, a1) = some (md a0 a1) := RR_eq (a := (a0, a1)) h
def con : Con := CN pats res acc R
theorem okF (a0 : Int) (a1 : Int) (hg : gd a0 a1) : F a0 a1 = ret ((md a0 a1) : Int) := by
  unfold F md
  try simp only [S0]
  refine call_to (Z45.md [231, a0, a1]) ?_ ?_
  · have R_ := Z45.R_eq (a0 := [231, a0, a1]) ⟨(by
        try simp (disch := omega) only [LN, wi]
        first | omega | (simp; done) | (simp; omega)), fun _ _ => trivial⟩
    first | exact R_ | (simp only [MP, S0] at R_ ⊢; first | exact R_ | (rw [← R_]; rfl))
  all_goals first | rfl | (simp only [S0, MP]; first | done | rfl)
theorem valid_ : Valid Tryz.prog Ev 223 con := VV (live := fun _ => []) (nt := 9) (run := fun _ x => F x.1 x.2) mix tab_ok (.cons Z45.valid_ .nil) Tryz.func223 (by kernel_rfl) (fun _ _ => by kernel_rfl) (fun _ a _ _ hg => ⟨0, okF a.1 a.2 hg⟩)
end Z76
namespace Z77
def F (x0 : Int) (x1 : Int) (x2 : REntry) (x3 : RProof) : Ans := (call (Z70.R x2) fun v1 => (call (Z72.R (v1, x3.fAt, x1, x3.fPath)) fun v2 => (call (Z75.R x2) fun v3 => (bif v3 then (bif v2.2 then (call (Z76.R (x1, v2.1)) fun v4 => ret ((v4 == x0) : Bool)) else ret (false : Bool)) else ret (false : Bool)))))
def pats : List Pat := [.rd (.int .i64), .rd (.int .i64), .agg [.str, .int .i64, .int .i64, .sl 9], .agg [.int .i64, .sl 3]]
def res : RP := .one (.rd (.bool))
def md (a0 : Int) (a1 : Int) (a2 : MEntry) (a3 : MProof) : Bool := (bif (Z75.md a2) then (bif (Z72.md (Z70.md a2) a3.fAt a1 a3.fPath).2 then (((Z76.md a1 ((Z72.md (Z70.md a2) a3.fAt a1 a3.fPath).1)) == a0) : Bool) else (false : Bool)) else (false : Bool))
def gd (a0 : Int) (a1 : Int) (a2 : MEntry) (a3 : MProof) : Prop := (MEntry.Sm (2 ^ 21) a2) ∧ (MProof.Sm (2 ^ 21) a3)
def acc (ls : List L) : Int × Int × REntry × RProof := ((ls.headD .hole).toInt, ((dropT 1 ls).headD .hole).toInt, (REntry.dec (dropT 2 ls)), (RProof.dec (dropT 6 ls)))
def R : (Int × Int × REntry × RProof) → Option Bool := RR (p4 gd) (u4 md)
theorem R_eq {a0} {a1} {a2} {a3} (h : gd a0 a1 a2 a3) : R (a0, a1, (MEntry.r a2), (MProof.r a3)) = some (md a0 a1 a2 a3) := RR_eq (a := (a0, a1, a2, a3)) h
def con : Con := CN pats res acc R
theorem okF (a0 : Int) (a1 : Int) (a2 : MEntry) (a3 : MProof) (hg : gd a0 a1 a2 a3) : F a0 a1 (MEntry.r a2) (MProof.r a3) = ret ((md a0 a1 a2 a3) : Bool) := by
 unfold gd at hg
 obtain ⟨H2, H3⟩ := hg
 unfold F md
 try simp only [S0, MEntry.rs, MProof.rs]
 refine call_to (Z70.md a2) (Z70.R_eq (a0 := a2) H2) ?_
 refine call_to ((Z72.md (Z70.md a2) a3.fAt a1 a3.fPath).1, (Z72.md (Z70.md a2) a3.fAt a1 a3.fPath).2) (Z72.R_eq (a0 := (Z70.md a2)) (a1 := a3.fAt) (a2 := a1) (a3 := a3.fPath) (H3.mono (by decide) (fun x hx => trivial))) ?_
 refine call_to (Z75.md a2) (Z75.R_eq (a0 := a2) H2) ?_
 refine bif_out ret (fun c1 => ?_) (fun _ => rfl)
 refine bif_out ret (fun c2 => ?_) (fun _ => rfl)
 refine call_to (Z76.md a1 ((Z72.md (Z70.md a2) a3.fAt a1 a3.fPath).1)) (Z76.R_eq (a0 := a1) (a1 := (Z72.md (Z70.md a2) a3.fAt a1 a3.fPath).1) trivial) ?_
 all_goals first | rfl | (simp only [S0, MEntry.rs, MProof.rs, MP]; first | done | rfl)
theorem valid_ : Valid Tryz.prog Ev 195 con := VV (live := fun _ => []) (nt := 34) (run := fun _ x => F x.1 x.2.1 x.2.2.1 x.2.2.2) mix tab_ok (.cons Z70.valid_ (.cons Z72.valid_ (.cons Z75.valid_ (.cons Z76.valid_ .nil)))) Tryz.func195 (by kernel_rfl) (fun _ _ => by kernel_rfl) (fun _ a _ _ hg => ⟨0, okF a.1 a.2.1 a.2.2.1 a.2.2.2 hg⟩)
end Z77
namespace Z78
inductive Pt where
 | p0 (a : List (List L)) (b : List (List L)) (c : Int)
def pid : Pt → Nat
 | .p0 .. => 4
def pvs : Pt → List V
 | .p0 a b c => [.sl none 9 a, .sl none 9 b, .int .i64 c]
def phs : Pt → List Root
 | .p0 a b c => []
def step (J : Pt → Ans) : Pt → Ans
 | .p0 a b c => (bif (decide (c < (a.length : Int))) then (bif (decide ((0 : Int) ≤ c)) then (bif (decide (c < (a.length : Int))) then (bif (decide ((0 : Int) ≤ c)) then (bif (decide (c < (b.length : Int))) then (bif (!((sAt a (Int.toNat c)) == (sAt b (Int.toNat c)))) then ret (false : Bool) else J (.p0 a b (IntKind.i64.wrap (c + 1)))) else none) else none) else none) else none) else ret (true : Bool))
def start (J : Pt → Ans) (x0 : List (List L)) (x1 : List (List L)) : Ans := (bif ((x0.length : Int) != (x1.length : Int)) then ret (false : Bool) else J (.p0 x0 x1 0))
def live : Nat → Live := fun i => match i with | 4 => [(0, none), (1, none), (5, none)] | _ => []
def pats : List Pat := [.rd (.sl 9), .rd (.sl 9)]
def res : RP := .one (.rd (.bool))
abbrev E : Env := { T := assoc Tab, G := conG [], nt := 26 }
theorem step_eq (I : Heads) (p : Pt) : enterC E live I (pid p) (bodyOf Tryz.f251) (stOf (live (pid p)) (pvs p) (phs p)) (doneK E Tryz.f251 res) = step (fun q => I (pid q) (pvs q) (phs q)) p := by
 cases p <;> kernel_rfl
theorem start_eq (I : Heads) (ls : List L) : runC E live I (bodyOf Tryz.f251) (initS pats ls) (doneK E Tryz.f251 res) = start (fun q => I (pid q) (pvs q) (phs q)) (ls.headD .hole).toSl ((dropT 1 ls).headD .hole).toSl := by kernel_rfl
theorem run_eq (n : Nat) (ls : List L) : runF E live Tryz.f251 res n (initS pats ls) = start (iter step n) (ls.headD .hole).toSl ((dropT 1 ls).headD .hole).toSl := runF_iter (id := pid) (vs := pvs) (hs := phs) (step := step) (start := fun J => start J (ls.headD .hole).toSl ((dropT 1 ls).headD .hole).toSl) step_eq (fun I => start_eq I ls) n
def md (a0 : List ByteArray) (a1 : List ByteArray) : Bool := (bif ((a0.length : Int) != (a1.length : Int)) then (false : Bool) else (loopM (S := Unit) (β := Bool) (fun (i2 : Nat) (s4 : Unit) => (bif (!((a0.getD i2 ⟨#[]⟩) == (a1.getD i2 ⟨#[]⟩))) then (.inr (false : Bool)) else (.inl ()))) (fun (s4 : Unit) => (true : Bool)) a0.length 0 ()))
def gd (a0 : List ByteArray) (a1 : List ByteArray) : Prop := (SmL (2 ^ 21) (fun y : ByteArray => y.size ≤ (2 ^ 21)) a0) ∧ (SmL (2 ^ 21) (fun y : ByteArray => y.size ≤ (2 ^ 21)) a1)
def acc (ls : List L) : List (List L) × List (List L) := ((ls.headD .hole).toSl, ((dropT 1 ls).headD .hole).toSl)
def R : (List (List L) × List (List L)) → Option Bool := RR (p2 gd) (u2 md)
theorem R_eq {a0} {a1} (h : gd a0 a1) : R ((a0.map sRow), (a1.map sRow)) = some (md a0 a1) := RR_eq (a := (a0, a1)) h
def con : Con := CN pats res acc R
theorem okF (a0 : List ByteArray) (a1 : List ByteArray) (hg : gd a0 a1) : ∃ n, start (iter step n) (a0.map sRow) (a1.map sRow) = ret ((md a0 a1) : Bool) := by
  unfold gd at hg
  obtain ⟨H0, H1⟩ := hg
  unfold start md
  try simp only [S0]
  refine ex_bif ret (fun _ => ⟨0, rfl⟩) (fun c1 => ?_)
  have dc1 := c1
  try simp only [DC] at dc1
  have Bh3 : a0.length ≤ maxLen := (by
      have := (H0).1
      try simp only [maxLen] at *
      omega)
  refine ex_pt (p := Pt.p0 (a0.map sRow) (a1.map sRow) 0) (by first | rfl | (simp only [S0, MP]; done) | (simp only [MP]; rfl)) ?_
  refine loopM_ok (pt := fun (i2 : Nat) (s4 : Unit) => Pt.p0 (a0.map sRow) (a1.map sRow) (i2 : Int)) (s := (() : Unit)) (out := ret) (fun _ _ => True) (fun J i2 s4 h3 hih3 => ?_) (fun s4 hih3 => ?_) trivial
  · simp only [step, S0]
    have bb_ := Bh3
    simp only [maxLen] at bb_
    have := (H0).1
    refine Rnd.yes (by apply decide_eq_true; omega) ?_
    refine Rnd.yes zle_dec ?_
    refine Rnd.yes (lt_dec h3) ?_
    refine Rnd.yes zle_dec ?_
    refine Rnd.yes (by
        have := (H1).1
        refine decide_eq_true ?_
        try simp (disch := omega) only [LN, wi]
        first | omega | (simp; done) | (simp; omega)) ?_
    refine Rnd.bif (fun _ => Rnd.inr rfl) (fun c5 => ?_)
    refine Rnd.inl trivial ?_
    rw [wrap_succ h3 Bh3]
    all_goals first | rfl | (simp only [S0, MP]; first | done | rfl)
  · simp only [step, S0]
    have := (H0).1
    refine ex_no (by apply decide_eq_false; omega) ?_
    refine ⟨0, ?_⟩
    all_goals first | rfl | (simp only [S0, MP]; first | done | rfl)
theorem valid_ : Valid Tryz.prog Ev 251 con := VV (run := fun n x => start (iter step n) x.1 x.2) mix tab_ok .nil Tryz.func251 (by kernel_rfl) run_eq (fun _ a _ _ hg => okF a.1 a.2 hg)
theorem md_eq (a0 : List ByteArray) (a1 : List ByteArray) : md a0 a1 = eqB a0 a1 := by
 unfold md
 refine loop_eqB (⟨#[]⟩) (fun i s h h2 => ?_) (fun s => rfl)
 simp only [bne, int_beq, bool_beq, ba_beq]
 cases eqB _ _ <;> rfl
end Z78
namespace Z79
def F (x0 : REntry) (x1 : REntry) : Ans := (bif (x0.fLabel == x1.fLabel) then (bif (x0.fKind == x1.fKind) then (bif (x0.fValue == x1.fValue) then (call (Z78.R (x0.fPath, x1.fPath)) fun v1 => ret (v1 : Bool)) else ret (false : Bool)) else ret (false : Bool)) else ret (false : Bool))
def pats : List Pat := [.agg [.str, .int .i64, .int .i64, .sl 9], .agg [.str, .int .i64, .int .i64, .sl 9]]
def res : RP := .one (.rd (.bool))
def md (a0 : MEntry) (a1 : MEntry) : Bool := (bif (a0.fLabel == a1.fLabel) then (bif (a0.fKind == a1.fKind) then (bif (a0.fValue == a1.fValue) then ((Z78.md a0.fPath a1.fPath) : Bool) else (false : Bool)) else (false : Bool)) else (false : Bool))
def gd (a0 : MEntry) (a1 : MEntry) : Prop := (MEntry.Sm (2 ^ 21) a0) ∧ (MEntry.Sm (2 ^ 21) a1)
def acc (ls : List L) : REntry × REntry := ((REntry.dec ls), (REntry.dec (dropT 4 ls)))
def R : (REntry × REntry) → Option Bool := RR (p2 gd) (u2 md)
theorem R_eq {a0} {a1} (h : gd a0 a1) : R ((MEntry.r a0), (MEntry.r a1)) = some (md a0 a1) := RR_eq (a := (a0, a1)) h
def con : Con := CN pats res acc R
theorem okF (a0 : MEntry) (a1 : MEntry) (hg : gd a0 a1) : F (MEntry.r a0) (MEntry.r a1) = ret ((md a0 a1) : Bool) := by
 unfold gd at hg
 obtain ⟨H0, H1⟩ := hg
 unfold F md
 try simp only [S0, MEntry.rs]
 refine bif_out ret (fun c1 => ?_) (fun _ => rfl)
 refine bif_out ret (fun c2 => ?_) (fun _ => rfl)
 refine bif_out ret (fun c3 => ?_) (fun _ => rfl)
 refine call_to (Z78.md a0.fPath a1.fPath) (Z78.R_eq (a0 := a0.fPath) (a1 := a1.fPath) ⟨H0.2, H1.2⟩) ?_
 all_goals first | rfl | (simp only [S0, MEntry.rs, MP]; first | done | rfl)
theorem valid_ : Valid Tryz.prog Ev 224 con := VV (live := fun _ => []) (nt := 31) (run := fun _ x => F x.1 x.2) mix tab_ok (.cons Z78.valid_ .nil) Tryz.func224 (by kernel_rfl) (fun _ _ => by kernel_rfl) (fun _ a _ _ hg => ⟨0, okF a.1 a.2 hg⟩)
theorem md_eq (a0 : MEntry) (a1 : MEntry) : md a0 a1 = eqB a0 a1 := by
 unfold md
 cases a0; cases a1
 rw [Bool.eq_iff_iff]
 simp [eqB_iff, ba_beq, MEntry.mk.injEq, Z78.md_eq]
 try (constructor <;> (intro h; simp_all))
end Z79
namespace Z80
def F (x0 : RProof) (x1 : RProof) : Ans := (bif (x0.fAt == x1.fAt) then (call (Z56.R (x0.fPath, x1.fPath)) fun v1 => ret (v1 : Bool)) else ret (false : Bool))
def pats : List Pat := [.agg [.int .i64, .sl 3], .agg [.int .i64, .sl 3]]
def res : RP := .one (.rd (.bool))
def md (a0 : MProof) (a1 : MProof) : Bool := (bif (a0.fAt == a1.fAt) then ((Z56.md a0.fPath a1.fPath) : Bool) else (false : Bool))
def gd (a0 : MProof) (a1 : MProof) : Prop := (MProof.Sm (2 ^ 21) a0) ∧ (MProof.Sm (2 ^ 21) a1)
def acc (ls : List L) : RProof × RProof := ((RProof.dec ls), (RProof.dec (dropT 2 ls)))
def R : (RProof × RProof) → Option Bool := RR (p2 gd) (u2 md)
theorem R_eq {a0} {a1} (h : gd a0 a1) : R ((MProof.r a0), (MProof.r a1)) = some (md a0 a1) := RR_eq (a := (a0, a1)) h
def con : Con := CN pats res acc R
theorem okF (a0 : MProof) (a1 : MProof) (hg : gd a0 a1) : F (MProof.r a0) (MProof.r a1) = ret ((md a0 a1) : Bool) := by
 unfold gd at hg
 obtain ⟨H0, H1⟩ := hg
 unfold F md
 try simp only [S0, MProof.rs]
 refine bif_out ret (fun c1 => ?_) (fun _ => rfl)
 refine call_to (Z56.md a0.fPath a1.fPath) (Z56.R_eq (a0 := a0.fPath) (a1 := a1.fPath) ⟨(H0.mono (by decide) (fun x hx => trivial)), (H1.mono (by decide) (fun x hx => trivial))⟩) ?_
 all_goals first | rfl | (simp only [S0, MProof.rs, MP]; first | done | rfl)
theorem valid_ : Valid Tryz.prog Ev 225 con := VV (live := fun _ => []) (nt := 17) (run := fun _ x => F x.1 x.2) mix tab_ok (.cons Z56.valid_ .nil) Tryz.func225 (by kernel_rfl) (fun _ _ => by kernel_rfl) (fun _ a _ _ hg => ⟨0, okF a.1 a.2 hg⟩)
theorem md_eq (a0 : MProof) (a1 : MProof) : md a0 a1 = eqB a0 a1 := by
 unfold md
 cases a0; cases a1
 rw [Bool.eq_iff_iff]
 simp [eqB_iff, ba_beq, MProof.mk.injEq, Z56.md_eq]
 try (constructor <;> (intro h; simp_all))
end Z80
namespace Z81
def F (x0 : RGap) (x1 : RGap) : Ans := (bif (x0.fAt == x1.fAt) then (call (Z79.R (x0.fBefore, x1.fBefore)) fun v1 => (bif v1 then (call (Z79.R (x0.fAfter, x1.fAfter)) fun v2 => (bif v2 then (call (Z80.R (x0.fLeft, x1.fLeft)) fun v3 => (bif v3 then (call (Z80.R (x0.fRight, x1.fRight)) fun v4 => ret (v4 : Bool)) else ret (false : Bool))) else ret (false : Bool))) else ret (false : Bool))) else ret (false : Bool))
def pats : List Pat := [.agg [.int .i64, .str, .int .i64, .int .i64, .sl 9, .str, .int .i64, .int .i64, .sl 9, .int .i64, .sl 3, .int .i64, .sl 3], .agg [.int .i64, .str, .int .i64, .int .i64, .sl 9, .str, .int .i64, .int .i64, .sl 9, .int .i64, .sl 3, .int .i64, .sl 3]]
def res : RP := .one (.rd (.bool))
def md (a0 : MGap) (a1 : MGap) : Bool := (bif (a0.fAt == a1.fAt) then (bif (Z79.md a0.fBefore a1.fBefore) then (bif (Z79.md a0.fAfter a1.fAfter) then (bif (Z80.md a0.fLeft a1.fLeft) then ((Z80.md a0.fRight a1.fRight) : Bool) else (false : Bool)) else (false : Bool)) else (false : Bool)) else (false : Bool))
def gd (a0 : MGap) (a1 : MGap) : Prop := (MGap.Sm (2 ^ 21) a0) ∧ (MGap.Sm (2 ^ 21) a1)
def acc (ls : List L) : RGap × RGap := ((RGap.dec ls), (RGap.dec (dropT 13 ls)))
def R : (RGap × RGap) → Option Bool := RR (p2 gd) (u2 md)
theorem R_eq {a0} {a1} (h : gd a0 a1) : R ((MGap.r a0), (MGap.r a1)) = some (md a0 a1) := RR_eq (a := (a0, a1)) h
def con : Con := CN pats res acc R
theorem okF (a0 : MGap) (a1 : MGap) (hg : gd a0 a1) : F (MGap.r a0) (MGap.r a1) = ret ((md a0 a1) : Bool) := by
 unfold gd at hg
 obtain ⟨H0, H1⟩ := hg
 unfold F md
 try simp only [S0, MProof.rs, MGap.rs]
 refine bif_out ret (fun c1 => ?_) (fun _ => rfl)
 refine call_to (Z79.md a0.fBefore a1.fBefore) (Z79.R_eq (a0 := a0.fBefore) (a1 := a1.fBefore) ⟨H0.1, H1.1⟩) ?_
 refine bif_out ret (fun c2 => ?_) (fun _ => rfl)
 refine call_to (Z79.md a0.fAfter a1.fAfter) (Z79.R_eq (a0 := a0.fAfter) (a1 := a1.fAfter) ⟨H0.2.1, H1.2.1⟩) ?_
 refine bif_out ret (fun c3 => ?_) (fun _ => rfl)
 refine call_to (Z80.md a0.fLeft a1.fLeft) (Z80.R_eq (a0 := a0.fLeft) (a1 := a1.fLeft) ⟨H0.2.2.1, H1.2.2.1⟩) ?_
 refine bif_out ret (fun c4 => ?_) (fun _ => rfl)
 refine call_to (Z80.md a0.fRight a1.fRight) (Z80.R_eq (a0 := a0.fRight) (a1 := a1.fRight) ⟨H0.2.2.2, H1.2.2.2⟩) ?_
 all_goals first | rfl | (simp only [S0, MProof.rs, MGap.rs, MP]; first | done | rfl)
theorem valid_ : Valid Tryz.prog Ev 196 con := VV (live := fun _ => []) (nt := 38) (run := fun _ x => F x.1 x.2) mix tab_ok (.cons Z79.valid_ (.cons Z80.valid_ .nil)) Tryz.func196 (by kernel_rfl) (fun _ _ => by kernel_rfl) (fun _ a _ _ hg => ⟨0, okF a.1 a.2 hg⟩)
theorem md_eq (a0 : MGap) (a1 : MGap) : md a0 a1 = eqB a0 a1 := by
 unfold md
 cases a0; cases a1
 rw [Bool.eq_iff_iff]
 simp [eqB_iff, ba_beq, MGap.mk.injEq, Z79.md_eq, Z80.md_eq]
 try (constructor <;> (intro h; simp_all))
end Z81
namespace Z82
inductive Pt where
 | p0 (a : List (List L)) (b : Int) (c : List (List L))
def pid : Pt → Nat
 | .p0 .. => 3
def pvs : Pt → List V
 | .p0 a b c => [.sl none 83 a, .own 0, .int .i64 b]
def phs : Pt → List Root
 | .p0 a b c => [.row 3 c]
def step (J : Pt → Ans) : Pt → Ans
 | .p0 a b c => (bif (decide (b < (a.length : Int))) then (bif (decide ((0 : Int) ≤ b)) then (bif (decide (b < (a.length : Int))) then (call (Z70.R (REntry.at a (Int.toNat b))) fun v1 => (bif (lim (((c.length : Int) + 1) * 8)) then J (.p0 a (IntKind.i64.wrap (b + 1)) (c ++ [[L.int v1]])) else none)) else none) else none) else ret (c : List (List L)))
def start (J : Pt → Ans) (x0 : List (List L)) : Ans := J (.p0 x0 0 [])
def live : Nat → Live := fun i => match i with | 3 => [(0, none), (3, some 3), (4, none)] | _ => []
def pats : List Pat := [.rd (.sl 83)]
def res : RP := .one (.fr 3)
abbrev E : Env := { T := assoc Tab, G := conG [(221, Z70.con)], nt := 21 }
theorem step_eq (I : Heads) (p : Pt) : enterC E live I (pid p) (bodyOf Tryz.f253) (stOf (live (pid p)) (pvs p) (phs p)) (doneK E Tryz.f253 res) = step (fun q => I (pid q) (pvs q) (phs q)) p := by
 cases p <;> kernel_rfl
theorem start_eq (I : Heads) (ls : List L) : runC E live I (bodyOf Tryz.f253) (initS pats ls) (doneK E Tryz.f253 res) = start (fun q => I (pid q) (pvs q) (phs q)) (ls.headD .hole).toSl := by kernel_rfl
theorem run_eq (n : Nat) (ls : List L) : runF E live Tryz.f253 res n (initS pats ls) = start (iter step n) (ls.headD .hole).toSl := runF_iter (id := pid) (vs := pvs) (hs := phs) (step := step) (start := fun J => start J (ls.headD .hole).toSl) step_eq (fun I => start_eq I ls) n
def md (a0 : List MEntry) : List Int := (a0.map (fun (y1 : MEntry) => (Z70.md y1)))
def gd (a0 : List MEntry) : Prop := (SmL (2 ^ 21) (fun y : MEntry => MEntry.Sm (2 ^ 21) y) a0)
def acc (ls : List L) : List (List L) := (ls.headD .hole).toSl
def R : (List (List L)) → Option (List (List L)) := RR gd md
theorem R_eq {a0} (h : gd a0) : R (a0.map MEntry.row) = some ((md a0).map iRow) := RR_eq (a := a0) h
def con : Con := CN pats res acc R
theorem okF (a0 : List MEntry) (hg : gd a0) : ∃ n, start (iter step n) (a0.map MEntry.row) = ret (((md a0).map iRow) : List (List L)) := by
  unfold gd at hg
  have H0 := hg
  unfold start md
  try simp only [S0, MEntry.rs]
  have Bh2 : a0.length ≤ maxLen := (by
      have := (H0).1
      try simp only [maxLen] at *
      omega)
  refine ex_eq (out := (fun b : List Int => ret ((b.map iRow) : List (List L)))) (loopM_map0 (g := fun (y1 : MEntry) => (Z70.md y1)) (z := MEntry.zero) (t := fun (s3 : List Int) => s3)) ?_
  refine ex_pt (p := Pt.p0 (a0.map MEntry.row) 0 ([].map iRow)) (by first | rfl | (simp only [S0, MEntry.rs, MP]; done) | (simp only [MP]; rfl)) ?_
  refine loopM_ok (pt := fun (i1 : Nat) (s3 : List Int) => Pt.p0 (a0.map MEntry.row) (i1 : Int) (s3.map iRow)) (s := ([] : List Int)) (out := (fun b : List Int => ret ((b.map iRow) : List (List L)))) (fun (i1 : Nat) (s3 : List Int) => s3.length ≤ ([] : List Int).length + 1 * i1) (fun J i1 s3 h2 hih2 => ?_) (fun s3 hih2 => ?_) (by simp)
  · simp only [step, S0, MEntry.rs]
    have gr_ := hih2
    try simp only [LN] at gr_
    have bb_ := Bh2
    simp only [maxLen] at bb_
    have := (H0).1
    refine Rnd.yes (by apply decide_eq_true; omega) ?_
    refine Rnd.yes zle_dec ?_
    refine Rnd.yes (lt_dec h2) ?_
    refine Rnd.call_to (Z70.md (a0.getD i1 MEntry.zero)) (Z70.R_eq (a0 := (a0.getD i1 MEntry.zero)) (SmL.getD (z := MEntry.zero) H0 h2)) ?_
    refine Rnd.yes (by
        refine lim_t ?_
        try simp (disch := omega) only [LN, wi]
        first | omega | (simp; done) | (simp; omega)) ?_
    refine Rnd.inl (by
        have g_ := hih2
        try simp only [LN] at g_ ⊢
        first | omega | (simp; done) | (simp; omega)) ?_
    rw [wrap_succ h2 Bh2]
    all_goals first | rfl | (simp only [S0, MEntry.rs]; done) | (simp only [MP]; rfl) | (simp only [S0, MEntry.rs, MP]; first | done | rfl)
  · simp only [step, S0, MEntry.rs]
    have gr_ := hih2
    try simp only [LN] at gr_
    have := (H0).1
    refine ex_no (by apply decide_eq_false; omega) ?_
    refine ⟨0, ?_⟩
    all_goals first | rfl | (simp only [S0, MEntry.rs]; done) | (simp only [MP]; rfl) | (simp only [S0, MEntry.rs, MP]; first | done | rfl)
theorem valid_ : Valid Tryz.prog Ev 253 con := VV (run := fun n x => start (iter step n) x) mix tab_ok (.cons Z70.valid_ .nil) Tryz.func253 (by kernel_rfl) run_eq (fun _ a _ _ hg => okF a hg)
theorem len (a0 : List MEntry) : (md a0).length = a0.length := by simp [md]
end Z82
namespace Z83
inductive Pt where
 | p0 (a : List (List L)) (b : Int) (c : List (List L))
def pid : Pt → Nat
 | .p0 .. => 3
def pvs : Pt → List V
 | .p0 a b c => [.sl none 3 a, .own 0, .int .i64 b]
def phs : Pt → List Root
 | .p0 a b c => [.row 3 c]
def step (J : Pt → Ans) : Pt → Ans
 | .p0 a b c => (bif (decide (b < (a.length : Int))) then (bif (decide ((IntKind.i64.wrap (b + 1)) < (a.length : Int))) then (bif (decide ((0 : Int) ≤ b)) then (bif (decide (b < (a.length : Int))) then (bif (decide ((0 : Int) ≤ (IntKind.i64.wrap (b + 1)))) then (bif (decide ((IntKind.i64.wrap (b + 1)) < (a.length : Int))) then (call (Z71.R ((iAt a (Int.toNat b)), (iAt a (Int.toNat (IntKind.i64.wrap (b + 1)))))) fun v1 => (bif (lim (((c.length : Int) + 1) * 8)) then J (.p0 a (IntKind.i64.wrap (b + 2)) (c ++ [[L.int v1]])) else none)) else none) else none) else none) else none) else (bif (decide ((0 : Int) ≤ b)) then (bif (decide (b < (a.length : Int))) then (bif (lim (((c.length : Int) + 1) * 8)) then J (.p0 a (IntKind.i64.wrap (b + 2)) (c ++ [[L.int (iAt a (Int.toNat b))]])) else none) else none) else none)) else ret (c : List (List L)))
def start (J : Pt → Ans) (x0 : List (List L)) : Ans := J (.p0 x0 0 [])
def live : Nat → Live := fun i => match i with | 3 => [(0, none), (3, some 3), (4, none)] | _ => []
def pats : List Pat := [.rd (.sl 3)]
def res : RP := .one (.fr 3)
abbrev E : Env := { T := assoc Tab, G := conG [(247, Z71.con)], nt := 38 }
theorem step_eq (I : Heads) (p : Pt) : enterC E live I (pid p) (bodyOf Tryz.f287) (stOf (live (pid p)) (pvs p) (phs p)) (doneK E Tryz.f287 res) = step (fun q => I (pid q) (pvs q) (phs q)) p := by
 cases p <;> kernel_rfl
theorem start_eq (I : Heads) (ls : List L) : runC E live I (bodyOf Tryz.f287) (initS pats ls) (doneK E Tryz.f287 res) = start (fun q => I (pid q) (pvs q) (phs q)) (ls.headD .hole).toSl := by kernel_rfl
theorem run_eq (n : Nat) (ls : List L) : runF E live Tryz.f287 res n (initS pats ls) = start (iter step n) (ls.headD .hole).toSl := runF_iter (id := pid) (vs := pvs) (hs := phs) (step := step) (start := fun J => start J (ls.headD .hole).toSl) step_eq (fun I => start_eq I ls) n
def up : List Int → List Int
 | [] => []
 | [a] => [a]
 | a :: b :: r => Z71.md a b :: up r
theorem up_length : ∀ l : List Int, (up l).length = (l.length + 1) / 2
 | [] => by simp [up]
 | [_] => by simp [up]
 | _ :: _ :: r => by
  have := up_length r
  simp only [up, List.length_cons]
  omega
def md (a0 : List Int) : List Int := up a0
def gd (a0 : List Int) : Prop := SmL (2 ^ 38) (fun y : Int => True) a0
def acc (ls : List L) : List (List L) := (ls.headD .hole).toSl
def R : (List (List L)) → Option (List (List L)) := RR gd md
theorem R_eq {a0} (h : gd a0) : R (a0.map iRow) = some ((md a0).map iRow) := RR_eq (a := a0) h
def con : Con := CN pats res acc R
theorem okF (a0 : List Int) (hg : gd a0) : ∃ n, start (iter step n) (a0.map iRow) = ret (((md a0).map iRow) : List (List L)) := by
  obtain ⟨H1, _⟩ := hg
  have key : ∀ (k i : Nat) (c : List Int), i + k = a0.length → c.length ≤ i → ∃ n, iter step n (Pt.p0 (a0.map iRow) (i : Int) (c.map iRow)) = ret ((c ++ up (a0.drop i)).map iRow : List (List L)) := by
    intro k
    induction k using Nat.strongRecOn with
    | _ k ih =>
    intro i c hi hc
    match k, hi, ih with
    | 0, hi, _ =>
      refine ⟨1, ?_⟩
      show step (iter step 0) (Pt.p0 _ _ _) = _
      simp only [step, List.length_map]
      refine no_ret (decide_eq_false (by omega)) ?_
      rw [List.drop_eq_nil_of_le (by omega)]
      simp only [up, List.append_nil]
    | 1, hi, ih =>
      obtain ⟨n, hn⟩ := ih 0 (by omega) (i + 1) (c ++ [a0.getD i 0]) (by omega) (by simp; omega)
      have h2 : ∃ n, iter step n (Pt.p0 (a0.map iRow) (IntKind.i64.wrap ((i : Int) + 2)) ((c ++ [a0.getD i 0]).map iRow)) = ret ((c ++ [a0.getD i 0]).map iRow : List (List L)) := by
        refine ⟨1, ?_⟩
        show step (iter step 0) (Pt.p0 _ _ _) = _
        simp only [step, List.length_map]
        refine no_ret (decide_eq_false ?_) rfl
        rw [Go.IntWalk.i64_in _ (by omega)]; omega
      obtain ⟨n, hn⟩ := h2
      refine ⟨n + 1, ?_⟩
      show step (iter step n) (Pt.p0 _ _ _) = _
      simp only [step, List.length_map, toNat_nat, iAt_getD]
      refine yes_ret (decide_eq_true (by omega)) (no_ret (decide_eq_false ?_) (yes_ret (decide_eq_true (by omega)) (yes_ret (decide_eq_true (by omega)) (yes_ret (lim_t (by omega)) ?_))))
      · rw [Go.IntWalk.i64_in _ (by omega)]; omega
      · rw [List.map_append] at hn
        refine Eq.trans hn ?_
        rw [List.drop_eq_getElem_cons (by omega), List.drop_eq_nil_of_le (by omega), getD_lt (by omega : i < a0.length)]
        simp only [up, List.map_append]
    | k + 2, hi, ih =>
      obtain ⟨n, hn⟩ := ih k (by omega) (i + 2) (c ++ [Z71.md (a0.getD i 0) (a0.getD (i + 1) 0)]) (by omega) (by simp; omega)
      refine ⟨n + 1, ?_⟩
      show step (iter step n) (Pt.p0 _ _ _) = _
      have w1 : IntKind.i64.wrap ((i : Int) + 1) = ((i + 1 : Nat) : Int) := by rw [Go.IntWalk.i64_in _ (by omega)]; omega
      have w2 : IntKind.i64.wrap ((i : Int) + 2) = ((i + 2 : Nat) : Int) := by rw [Go.IntWalk.i64_in _ (by omega)]; omega
      simp only [step, List.length_map, w1, w2, toNat_nat, iAt_getD]
      refine yes_ret (decide_eq_true (by omega)) (yes_ret (decide_eq_true (by omega)) (yes_ret (decide_eq_true (by omega)) (yes_ret (decide_eq_true (by omega)) (yes_ret (decide_eq_true (by omega)) (yes_ret (decide_eq_true (by omega)) ?_)))))
      refine call_to (Z71.md (a0.getD i 0) (a0.getD (i + 1) 0)) (Z71.R_eq trivial) (yes_ret (lim_t (by omega)) ?_)
      rw [List.map_append] at hn
      refine Eq.trans hn ?_
      rw [List.drop_eq_getElem_cons (by omega : i < a0.length), List.drop_eq_getElem_cons (by omega : i + 1 < a0.length), getD_lt (by omega : i < a0.length), getD_lt (by omega : i + 1 < a0.length)]
      simp only [up, List.append_assoc, List.cons_append, List.nil_append]
  have := key a0.length 0 [] (by omega) (by simp)
  unfold start md
  simpa using this
theorem valid_ : Valid Tryz.prog Ev 287 con := VV (run := fun n x => start (iter step n) x) mix tab_ok (.cons Z71.valid_ .nil) Tryz.func287 (by kernel_rfl) run_eq (fun _ a _ _ hg => okF a hg)
end Z83
namespace Z84
inductive Pt where
 | p0 (a : List (List L))
 | p1 (a : List (List L))
def pid : Pt → Nat
 | .p0 .. => 4
 | .p1 .. => 4
def pvs : Pt → List V
 | .p0 a => [.sl none 3 a]
 | .p1 a => [.own 0]
def phs : Pt → List Root
 | .p0 a => []
 | .p1 a => [.row 3 a]
def step (J : Pt → Ans) : Pt → Ans
 | .p0 a => (bif (decide ((a.length : Int) > 1)) then (call (Z83.R a) fun v1 => J (.p1 v1)) else (bif (decide ((0 : Int) < (a.length : Int))) then ret ((iAt a 0) : Int) else none))
 | .p1 a => (bif (decide ((a.length : Int) > 1)) then (call (Z83.R a) fun v1 => J (.p1 v1)) else (bif (decide ((0 : Int) < (a.length : Int))) then ret ((iAt a 0) : Int) else none))
def start (J : Pt → Ans) (x0 : List (List L)) : Ans := (bif ((x0.length : Int) == 0) then (call (Z45.R [[L.int 229]]) fun v1 => ret (v1 : Int)) else J (.p0 x0))
def live : Nat → Live := fun i => match i with | 4 => [(3, none)] | _ => []
def pats : List Pat := [.rd (.sl 3)]
def res : RP := .one (.rd (.int .i64))
abbrev E : Env := { T := assoc Tab, G := conG [(248, Z45.con), (287, Z83.con)], nt := 18 }
theorem step_eq (I : Heads) (p : Pt) : enterC E live I (pid p) (bodyOf Tryz.f252) (stOf (live (pid p)) (pvs p) (phs p)) (doneK E Tryz.f252 res) = step (fun q => I (pid q) (pvs q) (phs q)) p := by
 cases p <;> kernel_rfl
theorem start_eq (I : Heads) (ls : List L) : runC E live I (bodyOf Tryz.f252) (initS pats ls) (doneK E Tryz.f252 res) = start (fun q => I (pid q) (pvs q) (phs q)) (ls.headD .hole).toSl := by kernel_rfl
theorem run_eq (n : Nat) (ls : List L) : runF E live Tryz.f252 res n (initS pats ls) = start (iter step n) (ls.headD .hole).toSl := runF_iter (id := pid) (vs := pvs) (hs := phs) (step := step) (start := fun J => start J (ls.headD .hole).toSl) step_eq (fun I => start_eq I ls) n
def top : Nat → List Int → Int
 | 0, l => l.getD 0 0
 | k + 1, l => if l.length > 1 then top k (Z83.up l) else l.getD 0 0
def md (a0 : List Int) : Int := (if a0.length = 0 then Z45.md [229] else top a0.length a0)
def gd (a0 : List Int) : Prop := SmL (2 ^ 38) (fun y : Int => True) a0
def acc (ls : List L) : List (List L) := (ls.headD .hole).toSl
def R : (List (List L)) → Option Int := RR gd md
theorem R_eq {a0} (h : gd a0) : R (a0.map iRow) = some (md a0) := RR_eq (a := a0) h
def con : Con := CN pats res acc R
theorem okF (a0 : List Int) (hg : gd a0) : ∃ n, start (iter step n) (a0.map iRow) = ret ((md a0) : Int) := by
  have one : ∀ (l : List Int) (r : Int) (n : Nat), SmL (2 ^ 38) (fun y : Int => True) l → 0 < l.length → (if l.length > 1 then iter step n (Pt.p1 ((Z83.up l).map iRow)) = ret r else ret (l.getD 0 0 : Int) = ret r) → step (iter step n) (Pt.p0 (l.map iRow)) = ret r ∧ step (iter step n) (Pt.p1 (l.map iRow)) = ret r := by
    intro l r n hl hp h
    simp only [step, List.length_map, iAt_getD]
    by_cases h1 : l.length > 1
    · rw [if_pos h1] at h
      have hx : ∀ y : Ans, (bif decide ((l.length : Int) > 1) then call (Z83.R (l.map iRow)) (fun v1 => iter step n (Pt.p1 v1)) else y) = ret r := fun y =>
        yes_ret (decide_eq_true (by omega)) (call_to ((Z83.up l).map iRow) (Z83.R_eq hl) h)
      exact ⟨hx _, hx _⟩
    · rw [if_neg h1] at h
      have hx : ∀ y : Ans, (bif decide ((l.length : Int) > 1) then y else (bif decide ((0 : Int) < (l.length : Int)) then ret (l.getD 0 0 : Int) else none)) = ret r := fun y =>
        no_ret (decide_eq_false (by omega)) (yes_ret (decide_eq_true (by omega)) h)
      exact ⟨hx _, hx _⟩
  have key : ∀ (k : Nat) (l : List Int), SmL (2 ^ 38) (fun y : Int => True) l → 0 < l.length → l.length ≤ k + 1 → ∃ n, step (iter step n) (Pt.p0 (l.map iRow)) = ret (top k l) ∧ step (iter step n) (Pt.p1 (l.map iRow)) = ret (top k l) := by
    intro k
    induction k with
    | zero =>
      intro l hl hp hk
      exact ⟨0, one l _ 0 hl hp (by rw [if_neg (by omega)]; rfl)⟩
    | succ k ih =>
      intro l hl hp hk
      by_cases h1 : l.length > 1
      · have hu := Z83.up_length l
        have hl1 := hl.1
        obtain ⟨n, _, hn⟩ := ih (Z83.up l) ⟨by omega, fun _ _ => trivial⟩ (by omega) (by omega)
        refine ⟨n + 1, one l _ (n + 1) hl hp ?_⟩
        rw [if_pos h1]
        refine Eq.trans hn ?_
        unfold top
        rw [if_pos h1]
        cases k <;> rfl
      · refine ⟨0, one l _ 0 hl hp ?_⟩
        rw [if_neg h1]
        unfold top
        rw [if_neg h1]
  unfold md
  unfold start
  simp only [List.length_map]
  by_cases h0 : a0.length = 0
  · have e : ((a0.length : Int) == 0) = true := by simpa using List.length_eq_zero_iff.1 h0
    refine ⟨0, ?_⟩
    rw [e]
    refine call_to (Z45.md [229]) (Z45.R_eq (a0 := [229]) ⟨by decide, fun _ _ => trivial⟩) ?_
    rw [if_pos h0]
  · have e : ((a0.length : Int) == 0) = false := beq_eq_false_iff_ne.2 (by omega)
    obtain ⟨n, hn, _⟩ := key a0.length a0 hg (by omega) (by omega)
    refine ⟨n + 1, ?_⟩
    rw [e, if_neg h0]
    exact hn
theorem valid_ : Valid Tryz.prog Ev 252 con := VV (run := fun n x => start (iter step n) x) mix tab_ok (.cons Z45.valid_ (.cons Z83.valid_ .nil)) Tryz.func252 (by kernel_rfl) run_eq (fun _ a _ _ hg => okF a hg)
end Z84
namespace Z85
def F (x0 : List (List L)) : Ans := (call (Z82.R x0) fun v1 => (call (Z84.R v1) fun v2 => (call (Z76.R ((x0.length : Int), v2)) fun v3 => ret (v3 : Int))))
def pats : List Pat := [.rd (.sl 83)]
def res : RP := .one (.rd (.int .i64))
def md (a0 : List MEntry) : Int := ((Z76.md (a0.length : Int) (Z84.md (Z82.md a0))) : Int)
def gd (a0 : List MEntry) : Prop := (SmL (2 ^ 21) (fun y : MEntry => MEntry.Sm (2 ^ 21) y) a0)
def acc (ls : List L) : List (List L) := (ls.headD .hole).toSl
def R : (List (List L)) → Option Int := RR gd md
theorem R_eq {a0} (h : gd a0) : R (a0.map MEntry.row) = some (md a0) := RR_eq (a := a0) h
def con : Con := CN pats res acc R
theorem okF (a0 : List MEntry) (hg : gd a0) : F (a0.map MEntry.row) = ret ((md a0) : Int) := by
 unfold gd at hg
 have H0 := hg
 unfold F md
 try simp only [S0]
 refine call_to ((Z82.md a0).map iRow) (Z82.R_eq (a0 := a0) H0) ?_
 try simp only [S0]
 refine call_to (Z84.md (Z82.md a0)) (Z84.R_eq (a0 := (Z82.md a0)) ⟨(by
   have := Z82.len a0
   have := (H0).1
   try simp (disch := omega) only [LN, wi]
   first | omega | (simp; done) | (simp; omega)), fun _ _ => trivial⟩) ?_
 refine call_to (Z76.md (a0.length : Int) (Z84.md (Z82.md a0))) (Z76.R_eq (a0 := (a0.length : Int)) (a1 := (Z84.md (Z82.md a0))) trivial) ?_
 all_goals first | rfl | (simp only [S0, MP]; first | done | rfl)
theorem valid_ : Valid Tryz.prog Ev 226 con := VV (live := fun _ => []) (nt := 9) (run := fun _ x => F x) mix tab_ok (.cons Z82.valid_ (.cons Z84.valid_ (.cons Z76.valid_ .nil))) Tryz.func226 (by kernel_rfl) (fun _ _ => by kernel_rfl) (fun _ a _ _ hg => ⟨0, okF a hg⟩)
end Z85
namespace Z86
def F (x0 : REntry) (x1 : RProof) : Ans := (call (Z79.R (x0, (⟨(⟨#[]⟩ : ByteArray), 0, 0, []⟩ : REntry))) fun v1 => (bif v1 then (call (Z80.R (x1, (⟨0, []⟩ : RProof))) fun v2 => ret (v2 : Bool)) else ret (false : Bool)))
def pats : List Pat := [.agg [.str, .int .i64, .int .i64, .sl 9], .agg [.int .i64, .sl 3]]
def res : RP := .one (.rd (.bool))
def md (a0 : MEntry) (a1 : MProof) : Bool := (bif (Z79.md a0 (⟨((⟨#[]⟩ : ByteArray) : ByteArray), 0, 0, []⟩ : MEntry)) then ((Z80.md a1 (⟨0, []⟩ : MProof)) : Bool) else (false : Bool))
def gd (a0 : MEntry) (a1 : MProof) : Prop := (MEntry.Sm (2 ^ 21) a0) ∧ (MProof.Sm (2 ^ 21) a1)
def acc (ls : List L) : REntry × RProof := ((REntry.dec ls), (RProof.dec (dropT 4 ls)))
def R : (REntry × RProof) → Option Bool := RR (p2 gd) (u2 md)
theorem R_eq {a0} {a1} (h : gd a0 a1) : R ((MEntry.r a0), (MProof.r a1)) = some (md a0 a1) := RR_eq (a := (a0, a1)) h
def con : Con := CN pats res acc R
theorem okF (a0 : MEntry) (a1 : MProof) (hg : gd a0 a1) : F (MEntry.r a0) (MProof.r a1) = ret ((md a0 a1) : Bool) := by
 unfold gd at hg
 obtain ⟨H0, H1⟩ := hg
 unfold F md
 try simp only [S0]
 refine call_to (Z79.md a0 (⟨((⟨#[]⟩ : ByteArray) : ByteArray), 0, 0, []⟩ : MEntry)) (Z79.R_eq (a0 := a0) (a1 := (⟨((⟨#[]⟩ : ByteArray) : ByteArray), 0, 0, []⟩ : MEntry)) ⟨H0, ⟨(by decide), SmL.nil⟩⟩) ?_
 refine bif_out ret (fun c1 => ?_) (fun _ => rfl)
 refine call_to (Z80.md a1 (⟨0, []⟩ : MProof)) (Z80.R_eq (a0 := a1) (a1 := (⟨0, []⟩ : MProof)) ⟨H1, SmL.nil⟩) ?_
 all_goals first | rfl | (simp only [S0, MP]; first | done | rfl)
theorem valid_ : Valid Tryz.prog Ev 198 con := VV (live := fun _ => []) (nt := 13) (run := fun _ x => F x.1 x.2) mix tab_ok (.cons Z79.valid_ (.cons Z80.valid_ .nil)) Tryz.func198 (by kernel_rfl) (fun _ _ => by kernel_rfl) (fun _ a _ _ hg => ⟨0, okF a.1 a.2 hg⟩)
end Z86
namespace Z87
def F (x0 : ByteArray) (x1 : ByteArray) : Ans := (bif (Op.bytesLess x0.toList x1.toList) then ret ((-1) : Int) else (bif (!((Op.bytesLess x0.toList x1.toList) || (x0.toList == x1.toList))) then ret (1 : Int) else ret (0 : Int)))
def pats : List Pat := [.rd (.str), .rd (.str)]
def res : RP := .one (.rd (.int .i64))
def md (a0 : ByteArray) (a1 : ByteArray) : Int := (bif (Op.bytesLess a0.toList a1.toList) then ((-1) : Int) else (bif (!((Op.bytesLess a0.toList a1.toList) || (a0.toList == a1.toList))) then (1 : Int) else (0 : Int)))
def gd (a0 : ByteArray) (a1 : ByteArray) : Prop := True
def acc (ls : List L) : ByteArray × ByteArray := ((ls.headD .hole).toStr, ((dropT 1 ls).headD .hole).toStr)
def R : (ByteArray × ByteArray) → Option Int := RR (p2 gd) (u2 md)
theorem R_eq {a0} {a1} (h : gd a0 a1) : R (a0, a1) = some (md a0 a1) := RR_eq (a := (a0, a1)) h
def con : Con := CN pats res acc R
theorem okF (a0 : ByteArray) (a1 : ByteArray) (hg : gd a0 a1) : F a0 a1 = ret ((md a0 a1) : Int) := by
 unfold F md
 try simp only [S0]
 refine bif_out ret (fun _ => rfl) (fun c1 => ?_)
 refine bif_out ret (fun _ => rfl) (fun _ => rfl)
theorem valid_ : Valid Tryz.prog Ev 47 con := VV (live := fun _ => []) (nt := 13) (run := fun _ x => F x.1 x.2) mix tab_ok .nil Tryz.func47 (by kernel_rfl) (fun _ _ => by kernel_rfl) (fun _ a _ _ hg => ⟨0, okF a.1 a.2 hg⟩)
theorem vals (a b : ByteArray) : md a b = -1 ∨ md a b = 0 ∨ md a b = 1 := by
  unfold md
  cases Op.bytesLess a.toList b.toList
  · cases (!(false || (a.toList == b.toList))) <;> simp
  · simp
theorem lt (a b : ByteArray) : decide (md a b < 0) = (md a b == -1) := by
 rcases vals a b with h | h | h <;> rw [h] <;> rfl
theorem gt (a b : ByteArray) : decide (md a b > 0) = (md a b == 1) := by
 rcases vals a b with h | h | h <;> rw [h] <;> rfl
end Z87
end Go.DM
end
