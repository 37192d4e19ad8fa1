/- What the functions compute that the law reaches, and that the law returns true. Conditions: none. -/
import Derived.Test.YtfghhicdmjiaaaaTy
import Derived.Test.YtfghhicdmjiaaaaProg
import Derived.Lib.AppendZerosOnto
import Derived.Lib.Bytealg
import Derived.Laws.Externs
import Derived.Lib.Walk
import Derived.Lib.Hide
import Derived.Lib.Strings
set_option linter.all false
namespace Go.DM
open Go.Proofs
def Tab : List (Nat × TI) := [
  (2, ⟨[.int .i64], false, [], 8, false⟩),
  (3, ⟨[.int .i64], false, [], 8, false⟩),
  (4, ⟨[.bool], false, [], 1, false⟩),
  (5, ⟨[.int .u8], false, [], 1, false⟩),
  (6, ⟨[.int .u8], false, [], 1, false⟩),
  (7, ⟨[.int .i64, .int .i64, .bool, .int .u8], true, [(0, 2), (1, 3), (2, 4), (3, 6)], 24, false⟩),
  (8, ⟨[.int .i64, .int .i64, .bool, .int .u8], true, [(0, 2), (1, 3), (2, 4), (3, 6)], 24, false⟩),
  (9, ⟨[.str], false, [], 16, false⟩),
  (10, ⟨[.str], false, [], 16, false⟩),
  (11, ⟨[.str], false, [], 16, false⟩),
  (12, ⟨[.int .u64], false, [], 8, false⟩),
  (13, ⟨[.str, .int .u64], true, [(0, 9), (1, 12)], 24, false⟩),
  (14, ⟨[.str, .int .u64], true, [(0, 9), (1, 12)], 24, false⟩),
  (21, ⟨[.int .i32], false, [], 4, false⟩),
  (22, ⟨[.sl 82], false, [], 24, false⟩),
  (25, ⟨[.sl 84], false, [], 24, false⟩),
  (29, ⟨[.sl 91], false, [], 24, false⟩),
  (31, ⟨[.sl 95], false, [], 24, false⟩),
  (38, ⟨[.sl 102], false, [], 24, false⟩),
  (39, ⟨[.sl 9], false, [], 24, false⟩),
  (40, ⟨[.str, .int .i64, .int .i64, .sl 9], true, [(0, 9), (1, 3), (2, 3), (3, 39)], 56, false⟩),
  (41, ⟨[.str, .int .i64, .int .i64, .sl 9], true, [(0, 9), (1, 3), (2, 3), (3, 39)], 56, false⟩),
  (45, ⟨[.sl 106], false, [], 24, false⟩),
  (50, ⟨[.str, .int .i64, .int .i64, .sl 9], true, [(0, 9), (1, 3), (2, 3), (3, 39)], 56, false⟩),
  (58, ⟨[.sl 118], false, [], 24, false⟩),
  (61, ⟨[.sl 124], false, [], 24, false⟩),
  (65, ⟨[.sl 116], false, [], 24, false⟩),
  (70, ⟨[.sl 50], false, [], 24, false⟩),
  (74, ⟨[.int .i64, .str, .int .i64, .int .i64, .sl 9, .sl 50], true, [(0, 3), (1, 50), (5, 70)], 88, false⟩),
  (75, ⟨[.int .i64, .str, .int .i64, .int .i64, .sl 9, .sl 50], true, [(0, 3), (1, 50), (5, 70)], 88, false⟩),
  (81, ⟨[.str, .int .i64], true, [(0, 9), (1, 3)], 24, false⟩),
  (82, ⟨[.str, .int .i64], true, [(0, 9), (1, 3)], 24, true⟩),
  (84, ⟨[.str, .int .i64], true, [(0, 9), (1, 3)], 24, true⟩),
  (91, ⟨[.str, .int .i64], true, [(0, 9), (1, 3)], 24, true⟩),
  (95, ⟨[.str, .int .i64], true, [(0, 9), (1, 3)], 24, true⟩),
  (101, ⟨[.sl 9, .str, .int .i64, .int .i64, .sl 9], true, [(0, 39), (1, 41)], 80, false⟩),
  (102, ⟨[.sl 9, .str, .int .i64, .int .i64, .sl 9], true, [(0, 39), (1, 41)], 80, false⟩),
  (105, ⟨[.sl 9, .str, .int .i64, .int .i64, .sl 9], true, [(0, 39), (1, 50)], 80, false⟩),
  (106, ⟨[.sl 9, .str, .int .i64, .int .i64, .sl 9], true, [(0, 39), (1, 50)], 80, false⟩),
  (112, ⟨[.sl 172], false, [], 24, false⟩),
  (113, ⟨[.sl 181], false, [], 24, false⟩),
  (114, ⟨[.sl 172, .sl 181], true, [(0, 112), (1, 113)], 48, false⟩),
  (115, ⟨[.sl 172, .sl 181], true, [(0, 112), (1, 113)], 48, false⟩),
  (116, ⟨[.sl 3], false, [], 24, false⟩),
  (117, ⟨[.sl 172, .sl 181, .int .i64, .str, .int .i64, .int .i64, .sl 9, .sl 3, .int .i64], true, [(0, 115), (2, 3), (3, 41), (7, 116), (8, 3)], 144, false⟩),
  (118, ⟨[.sl 172, .sl 181, .int .i64, .str, .int .i64, .int .i64, .sl 9, .sl 3, .int .i64], true, [(0, 115), (2, 3), (3, 41), (7, 116), (8, 3)], 144, false⟩),
  (119, ⟨[.sl 149], false, [], 24, false⟩),
  (120, ⟨[.sl 158], false, [], 24, false⟩),
  (121, ⟨[.sl 149, .sl 158], true, [(0, 119), (1, 120)], 48, false⟩),
  (122, ⟨[.sl 149, .sl 158], true, [(0, 119), (1, 120)], 48, false⟩),
  (123, ⟨[.sl 149, .sl 158, .int .i64, .str, .int .i64, .int .i64, .sl 9, .sl 3, .int .i64], true, [(0, 122), (2, 3), (3, 50), (7, 116), (8, 3)], 144, false⟩),
  (124, ⟨[.sl 149, .sl 158, .int .i64, .str, .int .i64, .int .i64, .sl 9, .sl 3, .int .i64], true, [(0, 122), (2, 3), (3, 50), (7, 116), (8, 3)], 144, false⟩),
  (139, ⟨[.sl 5], false, [], 24, false⟩),
  (149, ⟨[.sl 156], false, [], 24, false⟩),
  (150, ⟨[.sl 3, .int .i64], true, [(0, 116), (1, 3)], 32, false⟩),
  (151, ⟨[.sl 3, .int .i64], true, [(0, 116), (1, 3)], 32, false⟩),
  (152, ⟨[.int .i64, .int .i64, .int .i64, .int .i64, .int .i64, .int .i64, .int .i64, .int .i64, .sl 3, .int .i64, .sl 3, .int .i64, .int .i64, .sl 3, .int .i64, .bool], true, [(0, 3), (1, 3), (2, 3), (3, 3), (4, 3), (5, 3), (6, 3), (7, 3), (8, 151), (10, 151), (12, 3), (13, 151), (15, 4)], 176, false⟩),
  (153, ⟨[.int .i64, .int .i64, .int .i64, .int .i64, .int .i64, .int .i64, .int .i64, .int .i64, .sl 3, .int .i64, .sl 3, .int .i64, .int .i64, .sl 3, .int .i64, .bool], true, [(0, 3), (1, 3), (2, 3), (3, 3), (4, 3), (5, 3), (6, 3), (7, 3), (8, 151), (10, 151), (12, 3), (13, 151), (15, 4)], 176, false⟩),
  (154, ⟨[.sl 169], false, [], 24, false⟩),
  (155, ⟨[.int .i64, .int .i64, .int .i64, .int .i64, .int .i64, .int .i64, .int .i64, .int .i64, .sl 3, .int .i64, .sl 3, .int .i64, .int .i64, .sl 3, .int .i64, .bool, .sl 169], true, [(0, 153), (16, 154)], 200, false⟩),
  (156, ⟨[.int .i64, .int .i64, .int .i64, .int .i64, .int .i64, .int .i64, .int .i64, .int .i64, .sl 3, .int .i64, .sl 3, .int .i64, .int .i64, .sl 3, .int .i64, .bool, .sl 169], true, [(0, 153), (16, 154)], 200, false⟩),
  (157, ⟨[.int .i64, .int .i64, .int .i64, .int .i64, .int .i64, .int .i64, .int .i64, .int .i64, .sl 3, .int .i64, .sl 3, .int .i64, .int .i64, .sl 3, .int .i64, .bool, .sl 169, .int .i64, .int .i64, .int .i64, .int .i64, .int .i64, .int .i64, .int .i64, .int .i64, .sl 3, .int .i64, .sl 3, .int .i64, .int .i64, .sl 3, .int .i64, .bool, .sl 169, .int .i64, .int .i64, .int .i64, .int .i64, .int .i64, .int .i64, .int .i64, .int .i64, .sl 3, .int .i64, .sl 3, .int .i64, .int .i64, .sl 3, .int .i64, .bool, .sl 169], true, [(0, 156), (17, 156), (34, 156)], 600, false⟩),
  (158, ⟨[.int .i64, .int .i64, .int .i64, .int .i64, .int .i64, .int .i64, .int .i64, .int .i64, .sl 3, .int .i64, .sl 3, .int .i64, .int .i64, .sl 3, .int .i64, .bool, .sl 169, .int .i64, .int .i64, .int .i64, .int .i64, .int .i64, .int .i64, .int .i64, .int .i64, .sl 3, .int .i64, .sl 3, .int .i64, .int .i64, .sl 3, .int .i64, .bool, .sl 169, .int .i64, .int .i64, .int .i64, .int .i64, .int .i64, .int .i64, .int .i64, .int .i64, .sl 3, .int .i64, .sl 3, .int .i64, .int .i64, .sl 3, .int .i64, .bool, .sl 169], true, [(0, 156), (17, 156), (34, 156)], 600, false⟩),
  (168, ⟨[.int .i64, .int .i64], true, [(0, 3), (1, 3)], 16, false⟩),
  (169, ⟨[.int .i64, .int .i64], true, [(0, 3), (1, 3)], 16, true⟩),
  (172, ⟨[.sl 179], false, [], 24, false⟩),
  (174, ⟨[.sl 3, .int .i64], true, [(0, 116), (1, 3)], 32, false⟩),
  (175, ⟨[.int .i64, .int .i64, .int .i64, .int .i64, .int .i64, .int .i64, .int .i64, .int .i64, .sl 3, .int .i64, .sl 3, .int .i64, .int .i64, .sl 3, .int .i64, .bool], true, [(0, 3), (1, 3), (2, 3), (3, 3), (4, 3), (5, 3), (6, 3), (7, 3), (8, 174), (10, 174), (12, 3), (13, 174), (15, 4)], 176, false⟩),
  (176, ⟨[.int .i64, .int .i64, .int .i64, .int .i64, .int .i64, .int .i64, .int .i64, .int .i64, .sl 3, .int .i64, .sl 3, .int .i64, .int .i64, .sl 3, .int .i64, .bool], true, [(0, 3), (1, 3), (2, 3), (3, 3), (4, 3), (5, 3), (6, 3), (7, 3), (8, 174), (10, 174), (12, 3), (13, 174), (15, 4)], 176, false⟩),
  (177, ⟨[.sl 198], false, [], 24, false⟩),
  (178, ⟨[.int .i64, .int .i64, .int .i64, .int .i64, .int .i64, .int .i64, .int .i64, .int .i64, .sl 3, .int .i64, .sl 3, .int .i64, .int .i64, .sl 3, .int .i64, .bool, .sl 198], true, [(0, 176), (16, 177)], 200, false⟩),
  (179, ⟨[.int .i64, .int .i64, .int .i64, .int .i64, .int .i64, .int .i64, .int .i64, .int .i64, .sl 3, .int .i64, .sl 3, .int .i64, .int .i64, .sl 3, .int .i64, .bool, .sl 198], true, [(0, 176), (16, 177)], 200, false⟩),
  (180, ⟨[.int .i64, .int .i64, .int .i64, .int .i64, .int .i64, .int .i64, .int .i64, .int .i64, .sl 3, .int .i64, .sl 3, .int .i64, .int .i64, .sl 3, .int .i64, .bool, .sl 198, .int .i64, .int .i64, .int .i64, .int .i64, .int .i64, .int .i64, .int .i64, .int .i64, .sl 3, .int .i64, .sl 3, .int .i64, .int .i64, .sl 3, .int .i64, .bool, .sl 198, .int .i64, .int .i64, .int .i64, .int .i64, .int .i64, .int .i64, .int .i64, .int .i64, .sl 3, .int .i64, .sl 3, .int .i64, .int .i64, .sl 3, .int .i64, .bool, .sl 198], true, [(0, 179), (17, 179), (34, 179)], 600, false⟩),
  (181, ⟨[.int .i64, .int .i64, .int .i64, .int .i64, .int .i64, .int .i64, .int .i64, .int .i64, .sl 3, .int .i64, .sl 3, .int .i64, .int .i64, .sl 3, .int .i64, .bool, .sl 198, .int .i64, .int .i64, .int .i64, .int .i64, .int .i64, .int .i64, .int .i64, .int .i64, .sl 3, .int .i64, .sl 3, .int .i64, .int .i64, .sl 3, .int .i64, .bool, .sl 198, .int .i64, .int .i64, .int .i64, .int .i64, .int .i64, .int .i64, .int .i64, .int .i64, .sl 3, .int .i64, .sl 3, .int .i64, .int .i64, .sl 3, .int .i64, .bool, .sl 198], true, [(0, 179), (17, 179), (34, 179)], 600, false⟩),
  (198, ⟨[.int .i64, .int .i64], true, [(0, 3), (1, 3)], 16, true⟩),
  (208, ⟨[.int .u32], false, [], 4, false⟩),
  (209, ⟨[.int .u8], false, [], 1, false⟩),
  (210, ⟨[.int .u8], false, [], 1, false⟩),
  (213, ⟨[.int .i32], false, [], 4, false⟩),
  (214, ⟨[.int .i32], false, [], 4, false⟩)]
noncomputable abbrev Ev : Env := Env0 Tab
theorem tab_ok : tableB Try.prog Tab = true := by kernel_rfl
theorem mix : Try.prog.follows .mixedOrders = true := by kernel_rfl
/-! laws.szIntS -/
namespace laws_szIntS
noncomputable def F (x0 : List (List L)) (x1 : Int) : Ans := (bif (decide ((IntKind.i64.wrap (x1 - (x0.length : Int))) < 0)) then ret ((-1) : Int) else ret ((IntKind.i64.wrap (x1 - (x0.length : Int))) : Int))
def pats : List Pat := [.rd (.sl 3), .rd (.int .i64)]
def res : RP := .one (.rd (.int .i64))
noncomputable abbrev E : Env := { T := assoc Tab, G := conG [], nt := 12 }
set_option maxRecDepth 100000
theorem run_eq (n : Nat) (ls : List L) : runF E (fun _ => []) Try.f123 res n (initS pats ls) = F (ls.headD .hole).toSl ((dropT 1 ls).headD .hole).toInt := by kernel_rfl
noncomputable def md (a0 : List Int) (a1 : Int) : Int := szM (szL (fun y : Int => 0) a0) a1
def gd (a0 : List Int) (a1 : Int) : Prop := (SmL maxLen (fun y : Int => True) a0) ∧ 0 ≤ a1 ∧ a1 ≤ 1048576
def acc (ls : List L) : List (List L) × Int := ((ls.headD .hole).toSl, ((dropT 1 ls).headD .hole).toInt)
noncomputable def R : (List (List L) × Int) → Option Int := RR (p2 gd) (u2 md)
theorem R_eq {a0} {a1} (h : gd a0 a1) : R ((a0.map iRow), a1) = some (md a0 a1) := RR_eq (a := (a0, a1)) h
noncomputable def con : Con := CN pats res acc R
theorem okF (a0 : List Int) (a1 : Int) (hg : gd a0 a1) : F (a0.map iRow) a1 = ret ((md a0 a1) : Int) := by
  obtain ⟨hs, g0, g1⟩ := hg
  unfold F md
  rw [List.length_map, sz_wrap g0 g1 hs.1]
  have e : szL (fun y : Int => 0) a0 = a0.length := by
    unfold szL
    have : (a0.map (fun y : Int => 0)).sum = 0 := sum_zero (fun _ => rfl) a0
    omega
  rw [e]
  by_cases hc : a1 < ((a0.length : Nat) : Int)
  · rw [szM_neg hc, decide_eq_true (by omega)]; rfl
  · rw [szM_pos hc, decide_eq_false (by omega)]; rfl
theorem valid_ : Valid Try.prog Ev 123 con := VV (run := fun _ x => F x.1 x.2) mix tab_ok .nil Try.func123 (by kernel_rfl) run_eq (fun _ a _ _ hg => ⟨0, okF a.1 a.2 hg⟩)
end laws_szIntS
/-! laws.szKeys -/
namespace laws_szKeys
noncomputable def F (x0 : RKeys) (x1 : Int) : Ans := (call (laws_szIntS.R (x0.fList, x1)) fun v1 => (bif (decide (v1 < 0)) then ret ((-1) : Int) else ret (v1 : Int)))
def pats : List Pat := [.agg [.sl 3, .int .i64], .rd (.int .i64)]
def res : RP := .one (.rd (.int .i64))
noncomputable abbrev E : Env := { T := assoc Tab, G := conG [(123, laws_szIntS.con)], nt := 12 }
set_option maxRecDepth 100000
theorem run_eq (n : Nat) (ls : List L) : runF E (fun _ => []) Try.f159 res n (initS pats ls) = F (RKeys.dec ls) ((dropT 2 ls).headD .hole).toInt := by kernel_rfl
noncomputable def md (a0 : MKeys) (a1 : Int) : Int := szM (MKeys.size a0) a1
def gd (a0 : MKeys) (a1 : Int) : Prop := (MKeys.Sm maxLen a0) ∧ 0 ≤ a1 ∧ a1 ≤ 1048576
def acc (ls : List L) : RKeys × Int := ((RKeys.dec ls), ((dropT 2 ls).headD .hole).toInt)
noncomputable def R : (RKeys × Int) → Option Int := RR (p2 gd) (u2 md)
theorem R_eq {a0} {a1} (h : gd a0 a1) : R ((MKeys.r a0), a1) = some (md a0 a1) := RR_eq (a := (a0, a1)) h
noncomputable def con : Con := CN pats res acc R
theorem okF (a0 : MKeys) (a1 : Int) (hg : gd a0 a1) : F (MKeys.r a0) a1 = ret ((md a0 a1) : Int) := by
  obtain ⟨hs, g0, g1⟩ := hg
  unfold md
  show (call (laws_szIntS.R ((a0.fList.map iRow), a1)) fun v1 => (bif (decide (v1 < 0)) then ret ((-1) : Int) else ret (v1 : Int))) = _
  rw [call_eq (laws_szIntS.R_eq (a1 := a1) ⟨hs, by omega, by omega⟩)]
  unfold laws_szIntS.md
  by_cases c0 : a1 < ((szL (fun y : Int => 0) a0.fList : Nat) : Int)
  · rw [szM_neg c0]; rw [show szM (MKeys.size a0) a1 = -1 from szM_neg (by unfold MKeys.size; omega)]; try rfl
  rw [szM_pos c0, dec_neg (by omega), cond_false]
  rw [show szM (MKeys.size a0) a1 = a1 - ((szL (fun y : Int => 0) a0.fList : Nat) : Int) from by rw [szM_pos (by unfold MKeys.size; omega)]; unfold MKeys.size; omega]
theorem valid_ : Valid Try.prog Ev 159 con := VV (run := fun _ x => F x.1 x.2) mix tab_ok (.cons laws_szIntS.valid_ .nil) Try.func159 (by kernel_rfl) run_eq (fun _ a _ _ hg => ⟨0, okF a.1 a.2 hg⟩)
end laws_szKeys
/-! laws.szHead -/
namespace laws_szHead
noncomputable def F (x0 : RHead) (x1 : Int) : Ans := (call (laws_szKeys.R (x0.fKeys, x1)) fun v1 => (bif (decide (v1 < 0)) then ret ((-1) : Int) else (call (laws_szKeys.R (x0.fHeirs, v1)) fun v2 => (bif (decide (v2 < 0)) then ret ((-1) : Int) else (call (laws_szKeys.R (x0.fJudge, v2)) fun v3 => (bif (decide (v3 < 0)) then ret ((-1) : Int) else ret (v3 : Int)))))))
def pats : List Pat := [.agg [.int .i64, .int .i64, .int .i64, .int .i64, .int .i64, .int .i64, .int .i64, .int .i64, .sl 3, .int .i64, .sl 3, .int .i64, .int .i64, .sl 3, .int .i64, .bool], .rd (.int .i64)]
def res : RP := .one (.rd (.int .i64))
noncomputable abbrev E : Env := { T := assoc Tab, G := conG [(159, laws_szKeys.con)], nt := 24 }
set_option maxRecDepth 100000
theorem run_eq (n : Nat) (ls : List L) : runF E (fun _ => []) Try.f153 res n (initS pats ls) = F (RHead.dec ls) ((dropT 16 ls).headD .hole).toInt := by kernel_rfl
noncomputable def md (a0 : MHead) (a1 : Int) : Int := szM (MHead.size a0) a1
def gd (a0 : MHead) (a1 : Int) : Prop := (MHead.Sm maxLen a0) ∧ 0 ≤ a1 ∧ a1 ≤ 1048576
def acc (ls : List L) : RHead × Int := ((RHead.dec ls), ((dropT 16 ls).headD .hole).toInt)
noncomputable def R : (RHead × Int) → Option Int := RR (p2 gd) (u2 md)
theorem R_eq {a0} {a1} (h : gd a0 a1) : R ((MHead.r a0), a1) = some (md a0 a1) := RR_eq (a := (a0, a1)) h
noncomputable def con : Con := CN pats res acc R
theorem okF (a0 : MHead) (a1 : Int) (hg : gd a0 a1) : F (MHead.r a0) a1 = ret ((md a0 a1) : Int) := by
  obtain ⟨hs, g0, g1⟩ := hg
  unfold md
  show (call (laws_szKeys.R ((MKeys.r a0.fKeys), a1)) fun v1 => (bif (decide (v1 < 0)) then ret ((-1) : Int) else (call (laws_szKeys.R ((MKeys.r a0.fHeirs), v1)) fun v2 => (bif (decide (v2 < 0)) then ret ((-1) : Int) else (call (laws_szKeys.R ((MKeys.r a0.fJudge), v2)) fun v3 => (bif (decide (v3 < 0)) then ret ((-1) : Int) else ret (v3 : Int))))))) = _
  rw [call_eq (laws_szKeys.R_eq (a1 := a1) ⟨hs.1, by omega, by omega⟩)]
  unfold laws_szKeys.md
  by_cases c0 : a1 < ((MKeys.size a0.fKeys : Nat) : Int)
  · rw [szM_neg c0]; rw [show szM (MHead.size a0) a1 = -1 from szM_neg (by unfold MHead.size; omega)]; try rfl
  rw [szM_pos c0, dec_neg (by omega), cond_false]
  rw [call_eq (laws_szKeys.R_eq (a1 := (a1 - ((MKeys.size a0.fKeys : Nat) : Int))) ⟨hs.2.1, by omega, by omega⟩)]
  unfold laws_szKeys.md
  by_cases c1 : (a1 - ((MKeys.size a0.fKeys : Nat) : Int)) < ((MKeys.size a0.fHeirs : Nat) : Int)
  · rw [szM_neg c1]; rw [show szM (MHead.size a0) a1 = -1 from szM_neg (by unfold MHead.size; omega)]; try rfl
  rw [szM_pos c1, dec_neg (by omega), cond_false]
  rw [call_eq (laws_szKeys.R_eq (a1 := (a1 - ((MKeys.size a0.fKeys : Nat) : Int) - ((MKeys.size a0.fHeirs : Nat) : Int))) ⟨hs.2.2, by omega, by omega⟩)]
  unfold laws_szKeys.md
  by_cases c2 : (a1 - ((MKeys.size a0.fKeys : Nat) : Int) - ((MKeys.size a0.fHeirs : Nat) : Int)) < ((MKeys.size a0.fJudge : Nat) : Int)
  · rw [szM_neg c2]; rw [show szM (MHead.size a0) a1 = -1 from szM_neg (by unfold MHead.size; omega)]; try rfl
  rw [szM_pos c2, dec_neg (by omega), cond_false]
  rw [show szM (MHead.size a0) a1 = a1 - ((MKeys.size a0.fKeys : Nat) : Int) - ((MKeys.size a0.fHeirs : Nat) : Int) - ((MKeys.size a0.fJudge : Nat) : Int) from by rw [szM_pos (by unfold MHead.size; omega)]; unfold MHead.size; omega]
theorem valid_ : Valid Try.prog Ev 153 con := VV (run := fun _ x => F x.1 x.2) mix tab_ok (.cons laws_szKeys.valid_ .nil) Try.func153 (by kernel_rfl) run_eq (fun _ a _ _ hg => ⟨0, okF a.1 a.2 hg⟩)
end laws_szHead
/-! laws.szSigS -/
namespace laws_szSigS
noncomputable def F (x0 : List (List L)) (x1 : Int) : Ans := (bif (decide ((IntKind.i64.wrap (x1 - (x0.length : Int))) < 0)) then ret ((-1) : Int) else ret ((IntKind.i64.wrap (x1 - (x0.length : Int))) : Int))
def pats : List Pat := [.rd (.sl 198), .rd (.int .i64)]
def res : RP := .one (.rd (.int .i64))
noncomputable abbrev E : Env := { T := assoc Tab, G := conG [], nt := 12 }
set_option maxRecDepth 100000
theorem run_eq (n : Nat) (ls : List L) : runF E (fun _ => []) Try.f154 res n (initS pats ls) = F (ls.headD .hole).toSl ((dropT 1 ls).headD .hole).toInt := by kernel_rfl
noncomputable def md (a0 : List MSig) (a1 : Int) : Int := szM (szL (fun y : MSig => MSig.size y) a0) a1
def gd (a0 : List MSig) (a1 : Int) : Prop := (SmL maxLen (fun y : MSig => MSig.Sm maxLen y) a0) ∧ 0 ≤ a1 ∧ a1 ≤ 1048576
def acc (ls : List L) : List (List L) × Int := ((ls.headD .hole).toSl, ((dropT 1 ls).headD .hole).toInt)
noncomputable def R : (List (List L) × Int) → Option Int := RR (p2 gd) (u2 md)
theorem R_eq {a0} {a1} (h : gd a0 a1) : R ((a0.map MSig.row), a1) = some (md a0 a1) := RR_eq (a := (a0, a1)) h
noncomputable def con : Con := CN pats res acc R
theorem okF (a0 : List MSig) (a1 : Int) (hg : gd a0 a1) : F (a0.map MSig.row) a1 = ret ((md a0 a1) : Int) := by
  obtain ⟨hs, g0, g1⟩ := hg
  unfold F md
  rw [List.length_map, sz_wrap g0 g1 hs.1]
  have e : szL (fun y : MSig => MSig.size y) a0 = a0.length := by
    unfold szL
    have : (a0.map (fun y : MSig => MSig.size y)).sum = 0 := sum_zero (fun _ => rfl) a0
    omega
  rw [e]
  by_cases hc : a1 < ((a0.length : Nat) : Int)
  · rw [szM_neg hc, decide_eq_true (by omega)]; rfl
  · rw [szM_pos hc, decide_eq_false (by omega)]; rfl
theorem valid_ : Valid Try.prog Ev 154 con := VV (run := fun _ x => F x.1 x.2) mix tab_ok .nil Try.func154 (by kernel_rfl) run_eq (fun _ a _ _ hg => ⟨0, okF a.1 a.2 hg⟩)
end laws_szSigS
/-! laws.szSigned -/
namespace laws_szSigned
noncomputable def F (x0 : RSigned) (x1 : Int) : Ans := (call (laws_szHead.R (x0.fHead, x1)) fun v1 => (bif (decide (v1 < 0)) then ret ((-1) : Int) else (call (laws_szSigS.R (x0.fSigs, v1)) fun v2 => (bif (decide (v2 < 0)) then ret ((-1) : Int) else ret (v2 : Int)))))
def pats : List Pat := [.agg [.int .i64, .int .i64, .int .i64, .int .i64, .int .i64, .int .i64, .int .i64, .int .i64, .sl 3, .int .i64, .sl 3, .int .i64, .int .i64, .sl 3, .int .i64, .bool, .sl 198], .rd (.int .i64)]
def res : RP := .one (.rd (.int .i64))
noncomputable abbrev E : Env := { T := assoc Tab, G := conG [(153, laws_szHead.con), (154, laws_szSigS.con)], nt := 18 }
set_option maxRecDepth 100000
theorem run_eq (n : Nat) (ls : List L) : runF E (fun _ => []) Try.f150 res n (initS pats ls) = F (RSigned.dec ls) ((dropT 17 ls).headD .hole).toInt := by kernel_rfl
noncomputable def md (a0 : MSigned) (a1 : Int) : Int := szM (MSigned.size a0) a1
def gd (a0 : MSigned) (a1 : Int) : Prop := (MSigned.Sm maxLen a0) ∧ 0 ≤ a1 ∧ a1 ≤ 1048576
def acc (ls : List L) : RSigned × Int := ((RSigned.dec ls), ((dropT 17 ls).headD .hole).toInt)
noncomputable def R : (RSigned × Int) → Option Int := RR (p2 gd) (u2 md)
theorem R_eq {a0} {a1} (h : gd a0 a1) : R ((MSigned.r a0), a1) = some (md a0 a1) := RR_eq (a := (a0, a1)) h
noncomputable def con : Con := CN pats res acc R
theorem okF (a0 : MSigned) (a1 : Int) (hg : gd a0 a1) : F (MSigned.r a0) a1 = ret ((md a0 a1) : Int) := by
  obtain ⟨hs, g0, g1⟩ := hg
  unfold md
  show (call (laws_szHead.R ((MHead.r a0.fHead), a1)) fun v1 => (bif (decide (v1 < 0)) then ret ((-1) : Int) else (call (laws_szSigS.R ((a0.fSigs.map MSig.row), v1)) fun v2 => (bif (decide (v2 < 0)) then ret ((-1) : Int) else ret (v2 : Int))))) = _
  rw [call_eq (laws_szHead.R_eq (a1 := a1) ⟨hs.1, by omega, by omega⟩)]
  unfold laws_szHead.md
  by_cases c0 : a1 < ((MHead.size a0.fHead : Nat) : Int)
  · rw [szM_neg c0]; rw [show szM (MSigned.size a0) a1 = -1 from szM_neg (by unfold MSigned.size; omega)]; try rfl
  rw [szM_pos c0, dec_neg (by omega), cond_false]
  rw [call_eq (laws_szSigS.R_eq (a1 := (a1 - ((MHead.size a0.fHead : Nat) : Int))) ⟨hs.2, by omega, by omega⟩)]
  unfold laws_szSigS.md
  by_cases c1 : (a1 - ((MHead.size a0.fHead : Nat) : Int)) < ((szL (fun y : MSig => MSig.size y) a0.fSigs : Nat) : Int)
  · rw [szM_neg c1]; rw [show szM (MSigned.size a0) a1 = -1 from szM_neg (by unfold MSigned.size; omega)]; try rfl
  rw [szM_pos c1, dec_neg (by omega), cond_false]
  rw [show szM (MSigned.size a0) a1 = a1 - ((MHead.size a0.fHead : Nat) : Int) - ((szL (fun y : MSig => MSig.size y) a0.fSigs : Nat) : Int) from by rw [szM_pos (by unfold MSigned.size; omega)]; unfold MSigned.size; omega]
theorem valid_ : Valid Try.prog Ev 150 con := VV (run := fun _ x => F x.1 x.2) mix tab_ok (.cons laws_szHead.valid_ (.cons laws_szSigS.valid_ .nil)) Try.func150 (by kernel_rfl) run_eq (fun _ a _ _ hg => ⟨0, okF a.1 a.2 hg⟩)
end laws_szSigned
/-! laws.szSignedS -/
namespace laws_szSignedS
inductive Pt where
  | p0 (a : List (List L)) (b : Int) (c : Int)
def pid : Pt → Nat
  | .p0 .. => 5
def pvs : Pt → List V
  | .p0 a b c => [.sl none 179 a, .int .i64 b, .int .i64 c]
def phs : Pt → List Root
  | .p0 a b c => []
noncomputable def step (J : Pt → Ans) : Pt → Ans
  | .p0 a b c => (bif (decide (c < (a.length : Int))) then (bif (decide ((0 : Int) ≤ c)) then (bif (decide (c < (a.length : Int))) then (call (laws_szSigned.R ((RSigned.at a (Int.toNat c)), b)) fun v1 => (bif (decide (v1 < 0)) then ret ((-1) : Int) else J (.p0 a v1 (IntKind.i64.wrap (c + 1))))) else none) else none) else ret (b : Int))
noncomputable def start (J : Pt → Ans) (x0 : List (List L)) (x1 : Int) : Ans := (bif (decide ((IntKind.i64.wrap (x1 - (x0.length : Int))) < 0)) then ret ((-1) : Int) else J (.p0 x0 (IntKind.i64.wrap (x1 - (x0.length : Int))) 0))
def live : Nat → Live := fun i => match i with | 5 => [(0, none), (1, none), (5, none)] | _ => []
def pats : List Pat := [.rd (.sl 179), .rd (.int .i64)]
def res : RP := .one (.rd (.int .i64))
noncomputable abbrev E : Env := { T := assoc Tab, G := conG [(150, laws_szSigned.con)], nt := 27 }
set_option maxRecDepth 100000
theorem step_eq (I : Heads) (p : Pt) : enterC E live I (pid p) (bodyOf Try.f143) (stOf (live (pid p)) (pvs p) (phs p)) (doneK E Try.f143 res) = step (fun q => I (pid q) (pvs q) (phs q)) p := by
  cases p <;> kernel_rfl
theorem start_eq (I : Heads) (ls : List L) : runC E live I (bodyOf Try.f143) (initS pats ls) (doneK E Try.f143 res) = start (fun q => I (pid q) (pvs q) (phs q)) (ls.headD .hole).toSl ((dropT 1 ls).headD .hole).toInt := by kernel_rfl
theorem run_eq (n : Nat) (ls : List L) : runF E live Try.f143 res n (initS pats ls) = start (iter step n) (ls.headD .hole).toSl ((dropT 1 ls).headD .hole).toInt := runF_iter (id := pid) (vs := pvs) (hs := phs) (step := step) (start := fun J => start J (ls.headD .hole).toSl ((dropT 1 ls).headD .hole).toInt) step_eq (fun I => start_eq I ls) n
noncomputable def md (a0 : List MSigned) (a1 : Int) : Int := szM (szL (fun y : MSigned => MSigned.size y) a0) a1
def gd (a0 : List MSigned) (a1 : Int) : Prop := (SmL maxLen (fun y : MSigned => MSigned.Sm maxLen y) a0) ∧ 0 ≤ a1 ∧ a1 ≤ 1048576
def acc (ls : List L) : List (List L) × Int := ((ls.headD .hole).toSl, ((dropT 1 ls).headD .hole).toInt)
noncomputable def R : (List (List L) × Int) → Option Int := RR (p2 gd) (u2 md)
theorem R_eq {a0} {a1} (h : gd a0 a1) : R ((a0.map MSigned.row), a1) = some (md a0 a1) := RR_eq (a := (a0, a1)) h
noncomputable def con : Con := CN pats res acc R
theorem okF (a0 : List MSigned) (a1 : Int) (hg : gd a0 a1) : ∃ n, start (iter step n) (a0.map MSigned.row) a1 = ret ((md a0 a1) : Int) := by
  obtain ⟨hs, g0, g1⟩ := hg
  unfold start md
  simp only [List.length_map]
  refine sz_list (pt := fun left i => Pt.p0 (a0.map MSigned.row) left (i : Int)) (f := fun y : MSigned => MSigned.size y) hs.1 (fun J i h left p0 p1 => ?_) (fun J left => ?_) g0 g1
  · simp only [step, List.length_map, lt_dec h, zle_dec, cond_true, toNat_nat, MSigned.at_row h]
    rw [call_eq (laws_szSigned.R_eq ⟨hs.get h, p0, p1⟩), wrap_succ h hs.1]
    unfold laws_szSigned.md
    by_cases hc : left < ((MSigned.size (a0[i]) : Nat) : Int)
    · rw [szM_neg hc, if_pos hc]; rfl
    · rw [szM_pos hc, if_neg hc, dec_neg (by omega)]; rfl
  · simp only [step, List.length_map, nlt_dec, cond_false]
theorem valid_ : Valid Try.prog Ev 143 con := VV (run := fun n x => start (iter step n) x.1 x.2) mix tab_ok (.cons laws_szSigned.valid_ .nil) Try.func143 (by kernel_rfl) run_eq (fun _ a _ _ hg => okF a.1 a.2 hg)
end laws_szSignedS
/-! laws.szSignedSS -/
namespace laws_szSignedSS
inductive Pt where
  | p0 (a : List (List L)) (b : Int) (c : Int)
def pid : Pt → Nat
  | .p0 .. => 5
def pvs : Pt → List V
  | .p0 a b c => [.sl none 172 a, .int .i64 b, .int .i64 c]
def phs : Pt → List Root
  | .p0 a b c => []
noncomputable def step (J : Pt → Ans) : Pt → Ans
  | .p0 a b c => (bif (decide (c < (a.length : Int))) then (bif (decide ((0 : Int) ≤ c)) then (bif (decide (c < (a.length : Int))) then (call (laws_szSignedS.R ((lAt a (Int.toNat c)), b)) fun v1 => (bif (decide (v1 < 0)) then ret ((-1) : Int) else J (.p0 a v1 (IntKind.i64.wrap (c + 1))))) else none) else none) else ret (b : Int))
noncomputable def start (J : Pt → Ans) (x0 : List (List L)) (x1 : Int) : Ans := (bif (decide ((IntKind.i64.wrap (x1 - (x0.length : Int))) < 0)) then ret ((-1) : Int) else J (.p0 x0 (IntKind.i64.wrap (x1 - (x0.length : Int))) 0))
def live : Nat → Live := fun i => match i with | 5 => [(0, none), (1, none), (5, none)] | _ => []
def pats : List Pat := [.rd (.sl 172), .rd (.int .i64)]
def res : RP := .one (.rd (.int .i64))
noncomputable abbrev E : Env := { T := assoc Tab, G := conG [(143, laws_szSignedS.con)], nt := 27 }
set_option maxRecDepth 100000
theorem step_eq (I : Heads) (p : Pt) : enterC E live I (pid p) (bodyOf Try.f135) (stOf (live (pid p)) (pvs p) (phs p)) (doneK E Try.f135 res) = step (fun q => I (pid q) (pvs q) (phs q)) p := by
  cases p <;> kernel_rfl
theorem start_eq (I : Heads) (ls : List L) : runC E live I (bodyOf Try.f135) (initS pats ls) (doneK E Try.f135 res) = start (fun q => I (pid q) (pvs q) (phs q)) (ls.headD .hole).toSl ((dropT 1 ls).headD .hole).toInt := by kernel_rfl
theorem run_eq (n : Nat) (ls : List L) : runF E live Try.f135 res n (initS pats ls) = start (iter step n) (ls.headD .hole).toSl ((dropT 1 ls).headD .hole).toInt := runF_iter (id := pid) (vs := pvs) (hs := phs) (step := step) (start := fun J => start J (ls.headD .hole).toSl ((dropT 1 ls).headD .hole).toInt) step_eq (fun I => start_eq I ls) n
noncomputable def md (a0 : List (List MSigned)) (a1 : Int) : Int := szM (szL (fun y : List MSigned => szL (fun y : MSigned => MSigned.size y) y) a0) a1
def gd (a0 : List (List MSigned)) (a1 : Int) : Prop := (SmL maxLen (fun y : List MSigned => SmL maxLen (fun y : MSigned => MSigned.Sm maxLen y) y) a0) ∧ 0 ≤ a1 ∧ a1 ≤ 1048576
def acc (ls : List L) : List (List L) × Int := ((ls.headD .hole).toSl, ((dropT 1 ls).headD .hole).toInt)
noncomputable def R : (List (List L) × Int) → Option Int := RR (p2 gd) (u2 md)
theorem R_eq {a0} {a1} (h : gd a0 a1) : R ((a0.map (lRow MSigned.row)), a1) = some (md a0 a1) := RR_eq (a := (a0, a1)) h
noncomputable def con : Con := CN pats res acc R
theorem okF (a0 : List (List MSigned)) (a1 : Int) (hg : gd a0 a1) : ∃ n, start (iter step n) (a0.map (lRow MSigned.row)) a1 = ret ((md a0 a1) : Int) := by
  obtain ⟨hs, g0, g1⟩ := hg
  unfold start md
  simp only [List.length_map]
  refine sz_list (pt := fun left i => Pt.p0 (a0.map (lRow MSigned.row)) left (i : Int)) (f := fun y : List MSigned => szL (fun y : MSigned => MSigned.size y) y) hs.1 (fun J i h left p0 p1 => ?_) (fun J left => ?_) g0 g1
  · simp only [step, List.length_map, lt_dec h, zle_dec, cond_true, toNat_nat, lAt_row h]
    rw [call_eq (laws_szSignedS.R_eq ⟨hs.get h, p0, p1⟩), wrap_succ h hs.1]
    unfold laws_szSignedS.md
    by_cases hc : left < ((szL (fun y : MSigned => MSigned.size y) (a0[i]) : Nat) : Int)
    · rw [szM_neg hc, if_pos hc]; rfl
    · rw [szM_pos hc, if_neg hc, dec_neg (by omega)]; rfl
  · simp only [step, List.length_map, nlt_dec, cond_false]
theorem valid_ : Valid Try.prog Ev 135 con := VV (run := fun n x => start (iter step n) x.1 x.2) mix tab_ok (.cons laws_szSignedS.valid_ .nil) Try.func135 (by kernel_rfl) run_eq (fun _ a _ _ hg => okF a.1 a.2 hg)
end laws_szSignedSS
/-! laws.szFork -/
namespace laws_szFork
noncomputable def F (x0 : RFork) (x1 : Int) : Ans := (call (laws_szSigned.R (x0.fBefore, x1)) fun v1 => (bif (decide (v1 < 0)) then ret ((-1) : Int) else (call (laws_szSigned.R (x0.fA, v1)) fun v2 => (bif (decide (v2 < 0)) then ret ((-1) : Int) else (call (laws_szSigned.R (x0.fB, v2)) fun v3 => (bif (decide (v3 < 0)) then ret ((-1) : Int) else ret (v3 : Int)))))))
def pats : List Pat := [.agg [.int .i64, .int .i64, .int .i64, .int .i64, .int .i64, .int .i64, .int .i64, .int .i64, .sl 3, .int .i64, .sl 3, .int .i64, .int .i64, .sl 3, .int .i64, .bool, .sl 198, .int .i64, .int .i64, .int .i64, .int .i64, .int .i64, .int .i64, .int .i64, .int .i64, .sl 3, .int .i64, .sl 3, .int .i64, .int .i64, .sl 3, .int .i64, .bool, .sl 198, .int .i64, .int .i64, .int .i64, .int .i64, .int .i64, .int .i64, .int .i64, .int .i64, .sl 3, .int .i64, .sl 3, .int .i64, .int .i64, .sl 3, .int .i64, .bool, .sl 198], .rd (.int .i64)]
def res : RP := .one (.rd (.int .i64))
noncomputable abbrev E : Env := { T := assoc Tab, G := conG [(150, laws_szSigned.con)], nt := 24 }
set_option maxRecDepth 100000
theorem run_eq (n : Nat) (ls : List L) : runF E (fun _ => []) Try.f144 res n (initS pats ls) = F (RFork.dec ls) ((dropT 51 ls).headD .hole).toInt := by kernel_rfl
noncomputable def md (a0 : MFork) (a1 : Int) : Int := szM (MFork.size a0) a1
def gd (a0 : MFork) (a1 : Int) : Prop := (MFork.Sm maxLen a0) ∧ 0 ≤ a1 ∧ a1 ≤ 1048576
def acc (ls : List L) : RFork × Int := ((RFork.dec ls), ((dropT 51 ls).headD .hole).toInt)
noncomputable def R : (RFork × Int) → Option Int := RR (p2 gd) (u2 md)
theorem R_eq {a0} {a1} (h : gd a0 a1) : R ((MFork.r a0), a1) = some (md a0 a1) := RR_eq (a := (a0, a1)) h
noncomputable def con : Con := CN pats res acc R
theorem okF (a0 : MFork) (a1 : Int) (hg : gd a0 a1) : F (MFork.r a0) a1 = ret ((md a0 a1) : Int) := by
  obtain ⟨hs, g0, g1⟩ := hg
  unfold md
  show (call (laws_szSigned.R ((MSigned.r a0.fBefore), a1)) fun v1 => (bif (decide (v1 < 0)) then ret ((-1) : Int) else (call (laws_szSigned.R ((MSigned.r a0.fA), v1)) fun v2 => (bif (decide (v2 < 0)) then ret ((-1) : Int) else (call (laws_szSigned.R ((MSigned.r a0.fB), v2)) fun v3 => (bif (decide (v3 < 0)) then ret ((-1) : Int) else ret (v3 : Int))))))) = _
  rw [call_eq (laws_szSigned.R_eq (a1 := a1) ⟨hs.1, by omega, by omega⟩)]
  unfold laws_szSigned.md
  by_cases c0 : a1 < ((MSigned.size a0.fBefore : Nat) : Int)
  · rw [szM_neg c0]; rw [show szM (MFork.size a0) a1 = -1 from szM_neg (by unfold MFork.size; omega)]; try rfl
  rw [szM_pos c0, dec_neg (by omega), cond_false]
  rw [call_eq (laws_szSigned.R_eq (a1 := (a1 - ((MSigned.size a0.fBefore : Nat) : Int))) ⟨hs.2.1, by omega, by omega⟩)]
  unfold laws_szSigned.md
  by_cases c1 : (a1 - ((MSigned.size a0.fBefore : Nat) : Int)) < ((MSigned.size a0.fA : Nat) : Int)
  · rw [szM_neg c1]; rw [show szM (MFork.size a0) a1 = -1 from szM_neg (by unfold MFork.size; omega)]; try rfl
  rw [szM_pos c1, dec_neg (by omega), cond_false]
  rw [call_eq (laws_szSigned.R_eq (a1 := (a1 - ((MSigned.size a0.fBefore : Nat) : Int) - ((MSigned.size a0.fA : Nat) : Int))) ⟨hs.2.2, by omega, by omega⟩)]
  unfold laws_szSigned.md
  by_cases c2 : (a1 - ((MSigned.size a0.fBefore : Nat) : Int) - ((MSigned.size a0.fA : Nat) : Int)) < ((MSigned.size a0.fB : Nat) : Int)
  · rw [szM_neg c2]; rw [show szM (MFork.size a0) a1 = -1 from szM_neg (by unfold MFork.size; omega)]; try rfl
  rw [szM_pos c2, dec_neg (by omega), cond_false]
  rw [show szM (MFork.size a0) a1 = a1 - ((MSigned.size a0.fBefore : Nat) : Int) - ((MSigned.size a0.fA : Nat) : Int) - ((MSigned.size a0.fB : Nat) : Int) from by rw [szM_pos (by unfold MFork.size; omega)]; unfold MFork.size; omega]
theorem valid_ : Valid Try.prog Ev 144 con := VV (run := fun _ x => F x.1 x.2) mix tab_ok (.cons laws_szSigned.valid_ .nil) Try.func144 (by kernel_rfl) run_eq (fun _ a _ _ hg => ⟨0, okF a.1 a.2 hg⟩)
end laws_szFork
/-! laws.szForkS -/
namespace laws_szForkS
inductive Pt where
  | p0 (a : List (List L)) (b : Int) (c : Int)
def pid : Pt → Nat
  | .p0 .. => 5
def pvs : Pt → List V
  | .p0 a b c => [.sl none 181 a, .int .i64 b, .int .i64 c]
def phs : Pt → List Root
  | .p0 a b c => []
noncomputable def step (J : Pt → Ans) : Pt → Ans
  | .p0 a b c => (bif (decide (c < (a.length : Int))) then (bif (decide ((0 : Int) ≤ c)) then (bif (decide (c < (a.length : Int))) then (call (laws_szFork.R ((RFork.at a (Int.toNat c)), b)) fun v1 => (bif (decide (v1 < 0)) then ret ((-1) : Int) else J (.p0 a v1 (IntKind.i64.wrap (c + 1))))) else none) else none) else ret (b : Int))
noncomputable def start (J : Pt → Ans) (x0 : List (List L)) (x1 : Int) : Ans := (bif (decide ((IntKind.i64.wrap (x1 - (x0.length : Int))) < 0)) then ret ((-1) : Int) else J (.p0 x0 (IntKind.i64.wrap (x1 - (x0.length : Int))) 0))
def live : Nat → Live := fun i => match i with | 5 => [(0, none), (1, none), (5, none)] | _ => []
def pats : List Pat := [.rd (.sl 181), .rd (.int .i64)]
def res : RP := .one (.rd (.int .i64))
noncomputable abbrev E : Env := { T := assoc Tab, G := conG [(144, laws_szFork.con)], nt := 27 }
set_option maxRecDepth 100000
theorem step_eq (I : Heads) (p : Pt) : enterC E live I (pid p) (bodyOf Try.f136) (stOf (live (pid p)) (pvs p) (phs p)) (doneK E Try.f136 res) = step (fun q => I (pid q) (pvs q) (phs q)) p := by
  cases p <;> kernel_rfl
theorem start_eq (I : Heads) (ls : List L) : runC E live I (bodyOf Try.f136) (initS pats ls) (doneK E Try.f136 res) = start (fun q => I (pid q) (pvs q) (phs q)) (ls.headD .hole).toSl ((dropT 1 ls).headD .hole).toInt := by kernel_rfl
theorem run_eq (n : Nat) (ls : List L) : runF E live Try.f136 res n (initS pats ls) = start (iter step n) (ls.headD .hole).toSl ((dropT 1 ls).headD .hole).toInt := runF_iter (id := pid) (vs := pvs) (hs := phs) (step := step) (start := fun J => start J (ls.headD .hole).toSl ((dropT 1 ls).headD .hole).toInt) step_eq (fun I => start_eq I ls) n
noncomputable def md (a0 : List MFork) (a1 : Int) : Int := szM (szL (fun y : MFork => MFork.size y) a0) a1
def gd (a0 : List MFork) (a1 : Int) : Prop := (SmL maxLen (fun y : MFork => MFork.Sm maxLen y) a0) ∧ 0 ≤ a1 ∧ a1 ≤ 1048576
def acc (ls : List L) : List (List L) × Int := ((ls.headD .hole).toSl, ((dropT 1 ls).headD .hole).toInt)
noncomputable def R : (List (List L) × Int) → Option Int := RR (p2 gd) (u2 md)
theorem R_eq {a0} {a1} (h : gd a0 a1) : R ((a0.map MFork.row), a1) = some (md a0 a1) := RR_eq (a := (a0, a1)) h
noncomputable def con : Con := CN pats res acc R
theorem okF (a0 : List MFork) (a1 : Int) (hg : gd a0 a1) : ∃ n, start (iter step n) (a0.map MFork.row) a1 = ret ((md a0 a1) : Int) := by
  obtain ⟨hs, g0, g1⟩ := hg
  unfold start md
  simp only [List.length_map]
  refine sz_list (pt := fun left i => Pt.p0 (a0.map MFork.row) left (i : Int)) (f := fun y : MFork => MFork.size y) hs.1 (fun J i h left p0 p1 => ?_) (fun J left => ?_) g0 g1
  · simp only [step, List.length_map, lt_dec h, zle_dec, cond_true, toNat_nat, MFork.at_row h]
    rw [call_eq (laws_szFork.R_eq ⟨hs.get h, p0, p1⟩), wrap_succ h hs.1]
    unfold laws_szFork.md
    by_cases hc : left < ((MFork.size (a0[i]) : Nat) : Int)
    · rw [szM_neg hc, if_pos hc]; rfl
    · rw [szM_pos hc, if_neg hc, dec_neg (by omega)]; rfl
  · simp only [step, List.length_map, nlt_dec, cond_false]
theorem valid_ : Valid Try.prog Ev 136 con := VV (run := fun n x => start (iter step n) x.1 x.2) mix tab_ok (.cons laws_szFork.valid_ .nil) Try.func136 (by kernel_rfl) run_eq (fun _ a _ _ hg => okF a.1 a.2 hg)
end laws_szForkS
/-! laws.szKnown -/
namespace laws_szKnown
noncomputable def F (x0 : RKnown) (x1 : Int) : Ans := (call (laws_szSignedSS.R (x0.fChains, x1)) fun v1 => (bif (decide (v1 < 0)) then ret ((-1) : Int) else (call (laws_szForkS.R (x0.fForks, v1)) fun v2 => (bif (decide (v2 < 0)) then ret ((-1) : Int) else ret (v2 : Int)))))
def pats : List Pat := [.agg [.sl 172, .sl 181], .rd (.int .i64)]
def res : RP := .one (.rd (.int .i64))
noncomputable abbrev E : Env := { T := assoc Tab, G := conG [(135, laws_szSignedSS.con), (136, laws_szForkS.con)], nt := 18 }
set_option maxRecDepth 100000
theorem run_eq (n : Nat) (ls : List L) : runF E (fun _ => []) Try.f122 res n (initS pats ls) = F (RKnown.dec ls) ((dropT 2 ls).headD .hole).toInt := by kernel_rfl
noncomputable def md (a0 : MKnown) (a1 : Int) : Int := szM (MKnown.size a0) a1
def gd (a0 : MKnown) (a1 : Int) : Prop := (MKnown.Sm maxLen a0) ∧ 0 ≤ a1 ∧ a1 ≤ 1048576
def acc (ls : List L) : RKnown × Int := ((RKnown.dec ls), ((dropT 2 ls).headD .hole).toInt)
noncomputable def R : (RKnown × Int) → Option Int := RR (p2 gd) (u2 md)
theorem R_eq {a0} {a1} (h : gd a0 a1) : R ((MKnown.r a0), a1) = some (md a0 a1) := RR_eq (a := (a0, a1)) h
noncomputable def con : Con := CN pats res acc R
theorem okF (a0 : MKnown) (a1 : Int) (hg : gd a0 a1) : F (MKnown.r a0) a1 = ret ((md a0 a1) : Int) := by
  obtain ⟨hs, g0, g1⟩ := hg
  unfold md
  show (call (laws_szSignedSS.R ((a0.fChains.map (lRow MSigned.row)), a1)) fun v1 => (bif (decide (v1 < 0)) then ret ((-1) : Int) else (call (laws_szForkS.R ((a0.fForks.map MFork.row), v1)) fun v2 => (bif (decide (v2 < 0)) then ret ((-1) : Int) else ret (v2 : Int))))) = _
  rw [call_eq (laws_szSignedSS.R_eq (a1 := a1) ⟨hs.1, by omega, by omega⟩)]
  unfold laws_szSignedSS.md
  by_cases c0 : a1 < ((szL (fun y : List MSigned => szL (fun y : MSigned => MSigned.size y) y) a0.fChains : Nat) : Int)
  · rw [szM_neg c0]; rw [show szM (MKnown.size a0) a1 = -1 from szM_neg (by unfold MKnown.size; omega)]; try rfl
  rw [szM_pos c0, dec_neg (by omega), cond_false]
  rw [call_eq (laws_szForkS.R_eq (a1 := (a1 - ((szL (fun y : List MSigned => szL (fun y : MSigned => MSigned.size y) y) a0.fChains : Nat) : Int))) ⟨hs.2, by omega, by omega⟩)]
  unfold laws_szForkS.md
  by_cases c1 : (a1 - ((szL (fun y : List MSigned => szL (fun y : MSigned => MSigned.size y) y) a0.fChains : Nat) : Int)) < ((szL (fun y : MFork => MFork.size y) a0.fForks : Nat) : Int)
  · rw [szM_neg c1]; rw [show szM (MKnown.size a0) a1 = -1 from szM_neg (by unfold MKnown.size; omega)]; try rfl
  rw [szM_pos c1, dec_neg (by omega), cond_false]
  rw [show szM (MKnown.size a0) a1 = a1 - ((szL (fun y : List MSigned => szL (fun y : MSigned => MSigned.size y) y) a0.fChains : Nat) : Int) - ((szL (fun y : MFork => MFork.size y) a0.fForks : Nat) : Int) from by rw [szM_pos (by unfold MKnown.size; omega)]; unfold MKnown.size; omega]
theorem valid_ : Valid Try.prog Ev 122 con := VV (run := fun _ x => F x.1 x.2) mix tab_ok (.cons laws_szSignedSS.valid_ (.cons laws_szForkS.valid_ .nil)) Try.func122 (by kernel_rfl) run_eq (fun _ a _ _ hg => ⟨0, okF a.1 a.2 hg⟩)
end laws_szKnown
/-! laws.szStringS -/
namespace laws_szStringS
inductive Pt where
  | p0 (a : List (List L)) (b : Int) (c : Int)
def pid : Pt → Nat
  | .p0 .. => 5
def pvs : Pt → List V
  | .p0 a b c => [.sl none 9 a, .int .i64 b, .int .i64 c]
def phs : Pt → List Root
  | .p0 a b c => []
noncomputable def step (J : Pt → Ans) : Pt → Ans
  | .p0 a b c => (bif (decide (c < (a.length : Int))) then (bif (decide ((0 : Int) ≤ c)) then (bif (decide (c < (a.length : Int))) then (bif (decide ((IntKind.i64.wrap (b - ((sAt a (Int.toNat c)).size : Int))) < 0)) then ret ((-1) : Int) else J (.p0 a (IntKind.i64.wrap (b - ((sAt a (Int.toNat c)).size : Int))) (IntKind.i64.wrap (c + 1)))) else none) else none) else ret (b : Int))
noncomputable def start (J : Pt → Ans) (x0 : List (List L)) (x1 : Int) : Ans := (bif (decide ((IntKind.i64.wrap (x1 - (x0.length : Int))) < 0)) then ret ((-1) : Int) else J (.p0 x0 (IntKind.i64.wrap (x1 - (x0.length : Int))) 0))
def live : Nat → Live := fun i => match i with | 5 => [(0, none), (1, none), (5, none)] | _ => []
def pats : List Pat := [.rd (.sl 9), .rd (.int .i64)]
def res : RP := .one (.rd (.int .i64))
noncomputable abbrev E : Env := { T := assoc Tab, G := conG [], nt := 28 }
set_option maxRecDepth 100000
theorem step_eq (I : Heads) (p : Pt) : enterC E live I (pid p) (bodyOf Try.f23) (stOf (live (pid p)) (pvs p) (phs p)) (doneK E Try.f23 res) = step (fun q => I (pid q) (pvs q) (phs q)) p := by
  cases p <;> kernel_rfl
theorem start_eq (I : Heads) (ls : List L) : runC E live I (bodyOf Try.f23) (initS pats ls) (doneK E Try.f23 res) = start (fun q => I (pid q) (pvs q) (phs q)) (ls.headD .hole).toSl ((dropT 1 ls).headD .hole).toInt := by kernel_rfl
theorem run_eq (n : Nat) (ls : List L) : runF E live Try.f23 res n (initS pats ls) = start (iter step n) (ls.headD .hole).toSl ((dropT 1 ls).headD .hole).toInt := runF_iter (id := pid) (vs := pvs) (hs := phs) (step := step) (start := fun J => start J (ls.headD .hole).toSl ((dropT 1 ls).headD .hole).toInt) step_eq (fun I => start_eq I ls) n
noncomputable def md (a0 : List ByteArray) (a1 : Int) : Int := szM (szL (fun y : ByteArray => y.size) a0) a1
def gd (a0 : List ByteArray) (a1 : Int) : Prop := (SmL maxLen (fun y : ByteArray => y.size ≤ maxLen) a0) ∧ 0 ≤ a1 ∧ a1 ≤ 1048576
def acc (ls : List L) : List (List L) × Int := ((ls.headD .hole).toSl, ((dropT 1 ls).headD .hole).toInt)
noncomputable def R : (List (List L) × Int) → Option Int := RR (p2 gd) (u2 md)
theorem R_eq {a0} {a1} (h : gd a0 a1) : R ((a0.map sRow), a1) = some (md a0 a1) := RR_eq (a := (a0, a1)) h
noncomputable def con : Con := CN pats res acc R
theorem okF (a0 : List ByteArray) (a1 : Int) (hg : gd a0 a1) : ∃ n, start (iter step n) (a0.map sRow) a1 = ret ((md a0 a1) : Int) := by
  obtain ⟨hs, g0, g1⟩ := hg
  unfold start md
  simp only [List.length_map]
  refine sz_list (pt := fun left i => Pt.p0 (a0.map sRow) left (i : Int)) (f := fun y : ByteArray => y.size) hs.1 (fun J i h left p0 p1 => ?_) (fun J left => ?_) g0 g1
  · simp only [step, List.length_map, lt_dec h, zle_dec, cond_true, toNat_nat, sAt_row h]
    rw [sz_wrap p0 p1 (hs.get h), wrap_succ h hs.1]
    by_cases hc : left - ((a0[i].size : Nat) : Int) < 0
    · rw [decide_eq_true hc, if_pos (by omega)]; rfl
    · rw [decide_eq_false hc, if_neg (by omega)]; rfl
  · simp only [step, List.length_map, nlt_dec, cond_false]
theorem valid_ : Valid Try.prog Ev 23 con := VV (run := fun n x => start (iter step n) x.1 x.2) mix tab_ok .nil Try.func23 (by kernel_rfl) run_eq (fun _ a _ _ hg => okF a.1 a.2 hg)
end laws_szStringS
/-! laws.szEntry -/
namespace laws_szEntry
noncomputable def F (x0 : REntry) (x1 : Int) : Ans := (bif (decide ((IntKind.i64.wrap (x1 - (x0.fLabel.size : Int))) < 0)) then ret ((-1) : Int) else (call (laws_szStringS.R (x0.fPath, (IntKind.i64.wrap (x1 - (x0.fLabel.size : Int))))) fun v1 => (bif (decide (v1 < 0)) then ret ((-1) : Int) else ret (v1 : Int))))
def pats : List Pat := [.agg [.str, .int .i64, .int .i64, .sl 9], .rd (.int .i64)]
def res : RP := .one (.rd (.int .i64))
noncomputable abbrev E : Env := { T := assoc Tab, G := conG [(23, laws_szStringS.con)], nt := 19 }
set_option maxRecDepth 100000
theorem run_eq (n : Nat) (ls : List L) : runF E (fun _ => []) Try.f24 res n (initS pats ls) = F (REntry.dec ls) ((dropT 4 ls).headD .hole).toInt := by kernel_rfl
noncomputable def md (a0 : MEntry) (a1 : Int) : Int := szM (MEntry.size a0) a1
def gd (a0 : MEntry) (a1 : Int) : Prop := (MEntry.Sm maxLen a0) ∧ 0 ≤ a1 ∧ a1 ≤ 1048576
def acc (ls : List L) : REntry × Int := ((REntry.dec ls), ((dropT 4 ls).headD .hole).toInt)
noncomputable def R : (REntry × Int) → Option Int := RR (p2 gd) (u2 md)
theorem R_eq {a0} {a1} (h : gd a0 a1) : R ((MEntry.r a0), a1) = some (md a0 a1) := RR_eq (a := (a0, a1)) h
noncomputable def con : Con := CN pats res acc R
theorem okF (a0 : MEntry) (a1 : Int) (hg : gd a0 a1) : F (MEntry.r a0) a1 = ret ((md a0 a1) : Int) := by
  obtain ⟨hs, g0, g1⟩ := hg
  unfold md
  show (bif (decide ((IntKind.i64.wrap (a1 - (a0.fLabel.size : Int))) < 0)) then ret ((-1) : Int) else (call (laws_szStringS.R ((a0.fPath.map sRow), (IntKind.i64.wrap (a1 - (a0.fLabel.size : Int))))) fun v1 => (bif (decide (v1 < 0)) then ret ((-1) : Int) else ret (v1 : Int)))) = _
  rw [sz_wrap (left := a1) (s := a0.fLabel.size) (by omega) (by omega) hs.1]
  by_cases c0 : a1 - ((a0.fLabel.size : Nat) : Int) < 0
  · rw [decide_eq_true c0, cond_true]; rw [show szM (MEntry.size a0) a1 = -1 from szM_neg (by unfold MEntry.size; omega)]; try rfl
  rw [decide_eq_false c0, cond_false]
  rw [call_eq (laws_szStringS.R_eq (a1 := (a1 - ((a0.fLabel.size : Nat) : Int))) ⟨hs.2, by omega, by omega⟩)]
  unfold laws_szStringS.md
  by_cases c1 : (a1 - ((a0.fLabel.size : Nat) : Int)) < ((szL (fun y : ByteArray => y.size) a0.fPath : Nat) : Int)
  · rw [szM_neg c1]; rw [show szM (MEntry.size a0) a1 = -1 from szM_neg (by unfold MEntry.size; omega)]; try rfl
  rw [szM_pos c1, dec_neg (by omega), cond_false]
  rw [show szM (MEntry.size a0) a1 = a1 - ((a0.fLabel.size : Nat) : Int) - ((szL (fun y : ByteArray => y.size) a0.fPath : Nat) : Int) from by rw [szM_pos (by unfold MEntry.size; omega)]; unfold MEntry.size; omega]
theorem valid_ : Valid Try.prog Ev 24 con := VV (run := fun _ x => F x.1 x.2) mix tab_ok (.cons laws_szStringS.valid_ .nil) Try.func24 (by kernel_rfl) run_eq (fun _ a _ _ hg => ⟨0, okF a.1 a.2 hg⟩)
end laws_szEntry
/-! laws.szTrace -/
namespace laws_szTrace
noncomputable def F (x0 : RTrace) (x1 : Int) : Ans := (call (laws_szKnown.R (x0.fKnown, x1)) fun v1 => (bif (decide (v1 < 0)) then ret ((-1) : Int) else (call (laws_szEntry.R (x0.fEntry, v1)) fun v2 => (bif (decide (v2 < 0)) then ret ((-1) : Int) else (call (laws_szIntS.R (x0.fZones, v2)) fun v3 => (bif (decide (v3 < 0)) then ret ((-1) : Int) else ret (v3 : Int)))))))
def pats : List Pat := [.agg [.sl 172, .sl 181, .int .i64, .str, .int .i64, .int .i64, .sl 9, .sl 3, .int .i64], .rd (.int .i64)]
def res : RP := .one (.rd (.int .i64))
noncomputable abbrev E : Env := { T := assoc Tab, G := conG [(122, laws_szKnown.con), (24, laws_szEntry.con), (123, laws_szIntS.con)], nt := 24 }
set_option maxRecDepth 100000
theorem run_eq (n : Nat) (ls : List L) : runF E (fun _ => []) Try.f90 res n (initS pats ls) = F (RTrace.dec ls) ((dropT 9 ls).headD .hole).toInt := by kernel_rfl
noncomputable def md (a0 : MTrace) (a1 : Int) : Int := szM (MTrace.size a0) a1
def gd (a0 : MTrace) (a1 : Int) : Prop := (MTrace.Sm maxLen a0) ∧ 0 ≤ a1 ∧ a1 ≤ 1048576
def acc (ls : List L) : RTrace × Int := ((RTrace.dec ls), ((dropT 9 ls).headD .hole).toInt)
noncomputable def R : (RTrace × Int) → Option Int := RR (p2 gd) (u2 md)
theorem R_eq {a0} {a1} (h : gd a0 a1) : R ((MTrace.r a0), a1) = some (md a0 a1) := RR_eq (a := (a0, a1)) h
noncomputable def con : Con := CN pats res acc R
theorem okF (a0 : MTrace) (a1 : Int) (hg : gd a0 a1) : F (MTrace.r a0) a1 = ret ((md a0 a1) : Int) := by
  obtain ⟨hs, g0, g1⟩ := hg
  unfold md
  show (call (laws_szKnown.R ((MKnown.r a0.fKnown), a1)) fun v1 => (bif (decide (v1 < 0)) then ret ((-1) : Int) else (call (laws_szEntry.R ((MEntry.r a0.fEntry), v1)) fun v2 => (bif (decide (v2 < 0)) then ret ((-1) : Int) else (call (laws_szIntS.R ((a0.fZones.map iRow), v2)) fun v3 => (bif (decide (v3 < 0)) then ret ((-1) : Int) else ret (v3 : Int))))))) = _
  rw [call_eq (laws_szKnown.R_eq (a1 := a1) ⟨hs.1, by omega, by omega⟩)]
  unfold laws_szKnown.md
  by_cases c0 : a1 < ((MKnown.size a0.fKnown : Nat) : Int)
  · rw [szM_neg c0]; rw [show szM (MTrace.size a0) a1 = -1 from szM_neg (by unfold MTrace.size; omega)]; try rfl
  rw [szM_pos c0, dec_neg (by omega), cond_false]
  rw [call_eq (laws_szEntry.R_eq (a1 := (a1 - ((MKnown.size a0.fKnown : Nat) : Int))) ⟨hs.2.1, by omega, by omega⟩)]
  unfold laws_szEntry.md
  by_cases c1 : (a1 - ((MKnown.size a0.fKnown : Nat) : Int)) < ((MEntry.size a0.fEntry : Nat) : Int)
  · rw [szM_neg c1]; rw [show szM (MTrace.size a0) a1 = -1 from szM_neg (by unfold MTrace.size; omega)]; try rfl
  rw [szM_pos c1, dec_neg (by omega), cond_false]
  rw [call_eq (laws_szIntS.R_eq (a1 := (a1 - ((MKnown.size a0.fKnown : Nat) : Int) - ((MEntry.size a0.fEntry : Nat) : Int))) ⟨hs.2.2, by omega, by omega⟩)]
  unfold laws_szIntS.md
  by_cases c2 : (a1 - ((MKnown.size a0.fKnown : Nat) : Int) - ((MEntry.size a0.fEntry : Nat) : Int)) < ((szL (fun y : Int => 0) a0.fZones : Nat) : Int)
  · rw [szM_neg c2]; rw [show szM (MTrace.size a0) a1 = -1 from szM_neg (by unfold MTrace.size; omega)]; try rfl
  rw [szM_pos c2, dec_neg (by omega), cond_false]
  rw [show szM (MTrace.size a0) a1 = a1 - ((MKnown.size a0.fKnown : Nat) : Int) - ((MEntry.size a0.fEntry : Nat) : Int) - ((szL (fun y : Int => 0) a0.fZones : Nat) : Int) from by rw [szM_pos (by unfold MTrace.size; omega)]; unfold MTrace.size; omega]
theorem valid_ : Valid Try.prog Ev 90 con := VV (run := fun _ x => F x.1 x.2) mix tab_ok (.cons laws_szKnown.valid_ (.cons laws_szEntry.valid_ (.cons laws_szIntS.valid_ .nil))) Try.func90 (by kernel_rfl) run_eq (fun _ a _ _ hg => ⟨0, okF a.1 a.2 hg⟩)
end laws_szTrace
/-! laws.szTraceS -/
namespace laws_szTraceS
inductive Pt where
  | p0 (a : List (List L)) (b : Int) (c : Int)
def pid : Pt → Nat
  | .p0 .. => 5
def pvs : Pt → List V
  | .p0 a b c => [.sl none 118 a, .int .i64 b, .int .i64 c]
def phs : Pt → List Root
  | .p0 a b c => []
noncomputable def step (J : Pt → Ans) : Pt → Ans
  | .p0 a b c => (bif (decide (c < (a.length : Int))) then (bif (decide ((0 : Int) ≤ c)) then (bif (decide (c < (a.length : Int))) then (call (laws_szTrace.R ((RTrace.at a (Int.toNat c)), b)) fun v1 => (bif (decide (v1 < 0)) then ret ((-1) : Int) else J (.p0 a v1 (IntKind.i64.wrap (c + 1))))) else none) else none) else ret (b : Int))
noncomputable def start (J : Pt → Ans) (x0 : List (List L)) (x1 : Int) : Ans := (bif (decide ((IntKind.i64.wrap (x1 - (x0.length : Int))) < 0)) then ret ((-1) : Int) else J (.p0 x0 (IntKind.i64.wrap (x1 - (x0.length : Int))) 0))
def live : Nat → Live := fun i => match i with | 5 => [(0, none), (1, none), (5, none)] | _ => []
def pats : List Pat := [.rd (.sl 118), .rd (.int .i64)]
def res : RP := .one (.rd (.int .i64))
noncomputable abbrev E : Env := { T := assoc Tab, G := conG [(90, laws_szTrace.con)], nt := 27 }
set_option maxRecDepth 100000
theorem step_eq (I : Heads) (p : Pt) : enterC E live I (pid p) (bodyOf Try.f37) (stOf (live (pid p)) (pvs p) (phs p)) (doneK E Try.f37 res) = step (fun q => I (pid q) (pvs q) (phs q)) p := by
  cases p <;> kernel_rfl
theorem start_eq (I : Heads) (ls : List L) : runC E live I (bodyOf Try.f37) (initS pats ls) (doneK E Try.f37 res) = start (fun q => I (pid q) (pvs q) (phs q)) (ls.headD .hole).toSl ((dropT 1 ls).headD .hole).toInt := by kernel_rfl
theorem run_eq (n : Nat) (ls : List L) : runF E live Try.f37 res n (initS pats ls) = start (iter step n) (ls.headD .hole).toSl ((dropT 1 ls).headD .hole).toInt := runF_iter (id := pid) (vs := pvs) (hs := phs) (step := step) (start := fun J => start J (ls.headD .hole).toSl ((dropT 1 ls).headD .hole).toInt) step_eq (fun I => start_eq I ls) n
noncomputable def md (a0 : List MTrace) (a1 : Int) : Int := szM (szL (fun y : MTrace => MTrace.size y) a0) a1
def gd (a0 : List MTrace) (a1 : Int) : Prop := (SmL maxLen (fun y : MTrace => MTrace.Sm maxLen y) a0) ∧ 0 ≤ a1 ∧ a1 ≤ 1048576
def acc (ls : List L) : List (List L) × Int := ((ls.headD .hole).toSl, ((dropT 1 ls).headD .hole).toInt)
noncomputable def R : (List (List L) × Int) → Option Int := RR (p2 gd) (u2 md)
theorem R_eq {a0} {a1} (h : gd a0 a1) : R ((a0.map MTrace.row), a1) = some (md a0 a1) := RR_eq (a := (a0, a1)) h
noncomputable def con : Con := CN pats res acc R
theorem okF (a0 : List MTrace) (a1 : Int) (hg : gd a0 a1) : ∃ n, start (iter step n) (a0.map MTrace.row) a1 = ret ((md a0 a1) : Int) := by
  obtain ⟨hs, g0, g1⟩ := hg
  unfold start md
  simp only [List.length_map]
  refine sz_list (pt := fun left i => Pt.p0 (a0.map MTrace.row) left (i : Int)) (f := fun y : MTrace => MTrace.size y) hs.1 (fun J i h left p0 p1 => ?_) (fun J left => ?_) g0 g1
  · simp only [step, List.length_map, lt_dec h, zle_dec, cond_true, toNat_nat, MTrace.at_row h]
    rw [call_eq (laws_szTrace.R_eq ⟨hs.get h, p0, p1⟩), wrap_succ h hs.1]
    unfold laws_szTrace.md
    by_cases hc : left < ((MTrace.size (a0[i]) : Nat) : Int)
    · rw [szM_neg hc, if_pos hc]; rfl
    · rw [szM_pos hc, if_neg hc, dec_neg (by omega)]; rfl
  · simp only [step, List.length_map, nlt_dec, cond_false]
theorem valid_ : Valid Try.prog Ev 37 con := VV (run := fun n x => start (iter step n) x.1 x.2) mix tab_ok (.cons laws_szTrace.valid_ .nil) Try.func37 (by kernel_rfl) run_eq (fun _ a _ _ hg => okF a.1 a.2 hg)
end laws_szTraceS
/-! laws.toIntS -/
namespace laws_toIntS
inductive Pt where
  | p0 (a : List (List L)) (b : Int) (c : List (List L))
def pid : Pt → Nat
  | .p0 .. => 3
def pvs : Pt → List V
  | .p0 a b c => [.sl none 3 a, .own 0, .int .i64 b]
def phs : Pt → List Root
  | .p0 a b c => [.row 3 c]
noncomputable def step (J : Pt → Ans) : Pt → Ans
  | .p0 a b c => (bif (decide (b < (a.length : Int))) then (bif (decide ((0 : Int) ≤ b)) then (bif (decide (b < (a.length : Int))) then (bif (decide ((0 : Int) ≤ b)) then (bif (decide (b < (c.length : Int))) then J (.p0 a (IntKind.i64.wrap (b + 1)) (List.set c (Int.toNat b) [L.int (iAt a (Int.toNat b))])) else none) else none) else none) else none) else ret (c : List (List L)))
noncomputable def start (J : Pt → Ans) (x0 : List (List L)) : Ans := (bif (decide ((0 : Int) ≤ (x0.length : Int))) then (bif (decide ((x0.length : Int) ≤ (x0.length : Int))) then (bif (decide ((x0.length : Int) * 8 ≤ 140737488355328)) then J (.p0 x0 0 (List.replicate (Int.toNat (x0.length : Int)) [L.int 0])) else none) else none) else none)
def live : Nat → Live := fun i => match i with | 3 => [(0, none), (3, none), (4, none)] | _ => []
def pats : List Pat := [.rd (.sl 3)]
def res : RP := .one (.fr 3)
noncomputable abbrev E : Env := { T := assoc Tab, G := conG [], nt := 22 }
set_option maxRecDepth 100000
theorem step_eq (I : Heads) (p : Pt) : enterC E live I (pid p) (bodyOf Try.f125) (stOf (live (pid p)) (pvs p) (phs p)) (doneK E Try.f125 res) = step (fun q => I (pid q) (pvs q) (phs q)) p := by
  cases p <;> kernel_rfl
theorem start_eq (I : Heads) (ls : List L) : runC E live I (bodyOf Try.f125) (initS pats ls) (doneK E Try.f125 res) = start (fun q => I (pid q) (pvs q) (phs q)) (ls.headD .hole).toSl := by kernel_rfl
theorem run_eq (n : Nat) (ls : List L) : runF E live Try.f125 res n (initS pats ls) = start (iter step n) (ls.headD .hole).toSl := runF_iter (id := pid) (vs := pvs) (hs := phs) (step := step) (start := fun J => start J (ls.headD .hole).toSl) step_eq (fun I => start_eq I ls) n
noncomputable def md (a0 : List Int) : List Int := a0
def gd (a0 : List Int) : Prop := SmL (2 ^ 36) (fun y : Int => True) a0
def acc (ls : List L) : List (List L) := (ls.headD .hole).toSl
noncomputable def R : (List (List L)) → Option (List (List L)) := RR gd md
theorem R_eq {a0} (h : gd a0) : R (a0.map iRow) = some ((md a0).map iRow) := RR_eq (a := a0) h
noncomputable def con : Con := CN pats res acc R
theorem okF (a0 : List Int) (hg : gd a0) : ∃ n, start (iter step n) (a0.map iRow) = ret (((md a0).map iRow) : List (List L)) := by
  unfold start md
  simp only [List.length_map]
  refine to_list (b := 8) (pt := fun i c => Pt.p0 (a0.map iRow) (i : Int) c) (by have := hg.1; simp at this; omega) (fun J i h c hc => ?_) (fun J c => ?_)
  · simp only [step, List.length_map, lt_dec h, zle_dec, cond_true, toNat_nat, iAt_row h, hc]
    rw [wrap_succ (n := a0.length) h (by have := hg.1; simp only [maxLen]; simp at this; omega)]
    rfl
  · simp only [step, List.length_map, nlt_dec, cond_false]
theorem valid_ : Valid Try.prog Ev 125 con := VV (run := fun n x => start (iter step n) x) mix tab_ok .nil Try.func125 (by kernel_rfl) run_eq (fun _ a _ _ hg => okF a hg)
end laws_toIntS
/-! laws.toKeys -/
namespace laws_toKeys
noncomputable def F (x0 : RKeys) : Ans := (call (laws_toIntS.R x0.fList) fun v1 => ret ((⟨v1, x0.fNeed⟩ : RKeys) : RKeys))
def pats : List Pat := [.agg [.sl 3, .int .i64]]
def res : RP := .agg [.fr 3, .rd (.int .i64)]
noncomputable abbrev E : Env := { T := assoc Tab, G := conG [(125, laws_toIntS.con)], nt := 12 }
set_option maxRecDepth 100000
theorem run_eq (n : Nat) (ls : List L) : runF E (fun _ => []) Try.f160 res n (initS pats ls) = F (RKeys.dec ls) := by kernel_rfl
noncomputable def md (a0 : MKeys) : MKeys := a0
def gd (a0 : MKeys) : Prop := MKeys.Sm (2 ^ 36) a0
def acc (ls : List L) : RKeys := (RKeys.dec ls)
noncomputable def R : RKeys → Option RKeys := RR gd md
theorem R_eq {a0} (h : gd a0) : R (MKeys.r a0) = some (MKeys.r (md a0)) := RR_eq (a := a0) h
noncomputable def con : Con := CN pats res acc R
theorem okF (a0 : MKeys) (hg : gd a0) : F (MKeys.r a0) = ret ((MKeys.r (md a0)) : RKeys) := by
  unfold md
  show (call (laws_toIntS.R (a0.fList.map iRow)) fun v1 => ret ((⟨v1, a0.fNeed⟩ : RKeys) : RKeys)) = _
  rw [call_eq (laws_toIntS.R_eq hg)]
  rfl
theorem valid_ : Valid Try.prog Ev 160 con := VV (run := fun _ x => F x) mix tab_ok (.cons laws_toIntS.valid_ .nil) Try.func160 (by kernel_rfl) run_eq (fun _ a _ _ hg => ⟨0, okF a hg⟩)
end laws_toKeys
/-! laws.toHead -/
namespace laws_toHead
noncomputable def F (x0 : RHead) : Ans := (call (laws_toKeys.R x0.fKeys) fun v1 => (call (laws_toKeys.R x0.fHeirs) fun v2 => (call (laws_toKeys.R x0.fJudge) fun v3 => ret ((⟨x0.fZone, x0.fEpoch, x0.fKind, x0.fTime, x0.fUntil, x0.fCount, x0.fRoot, x0.fPrev, v1, v2, x0.fWait, v3, x0.fFrozen⟩ : RHead) : RHead))))
def pats : List Pat := [.agg [.int .i64, .int .i64, .int .i64, .int .i64, .int .i64, .int .i64, .int .i64, .int .i64, .sl 3, .int .i64, .sl 3, .int .i64, .int .i64, .sl 3, .int .i64, .bool]]
def res : RP := .agg [.rd (.int .i64), .rd (.int .i64), .rd (.int .i64), .rd (.int .i64), .rd (.int .i64), .rd (.int .i64), .rd (.int .i64), .rd (.int .i64), .fr 3, .rd (.int .i64), .fr 3, .rd (.int .i64), .rd (.int .i64), .fr 3, .rd (.int .i64), .rd (.bool)]
noncomputable abbrev E : Env := { T := assoc Tab, G := conG [(160, laws_toKeys.con)], nt := 47 }
set_option maxRecDepth 100000
theorem run_eq (n : Nat) (ls : List L) : runF E (fun _ => []) Try.f155 res n (initS pats ls) = F (RHead.dec ls) := by kernel_rfl
noncomputable def md (a0 : MHead) : MHead := a0
def gd (a0 : MHead) : Prop := MHead.Sm (2 ^ 36) a0
def acc (ls : List L) : RHead := (RHead.dec ls)
noncomputable def R : RHead → Option RHead := RR gd md
theorem R_eq {a0} (h : gd a0) : R (MHead.r a0) = some (MHead.r (md a0)) := RR_eq (a := a0) h
noncomputable def con : Con := CN pats res acc R
theorem okF (a0 : MHead) (hg : gd a0) : F (MHead.r a0) = ret ((MHead.r (md a0)) : RHead) := by
  unfold md
  show (call (laws_toKeys.R (MKeys.r a0.fKeys)) fun v1 => (call (laws_toKeys.R (MKeys.r a0.fHeirs)) fun v2 => (call (laws_toKeys.R (MKeys.r a0.fJudge)) fun v3 => ret ((⟨a0.fZone, a0.fEpoch, a0.fKind, a0.fTime, a0.fUntil, a0.fCount, a0.fRoot, a0.fPrev, v1, v2, a0.fWait, v3, a0.fFrozen⟩ : RHead) : RHead)))) = _
  rw [call_eq (laws_toKeys.R_eq hg.1)]
  rw [call_eq (laws_toKeys.R_eq hg.2.1)]
  rw [call_eq (laws_toKeys.R_eq hg.2.2)]
  rfl
theorem valid_ : Valid Try.prog Ev 155 con := VV (run := fun _ x => F x) mix tab_ok (.cons laws_toKeys.valid_ .nil) Try.func155 (by kernel_rfl) run_eq (fun _ a _ _ hg => ⟨0, okF a hg⟩)
end laws_toHead
/-! laws.toSig -/
namespace laws_toSig
noncomputable def F (x0 : MSig) : Ans := ret (x0 : MSig)
def pats : List Pat := [.agg [.int .i64, .int .i64]]
def res : RP := .agg [.rd (.int .i64), .rd (.int .i64)]
noncomputable abbrev E : Env := { T := assoc Tab, G := conG [], nt := 11 }
set_option maxRecDepth 100000
theorem run_eq (n : Nat) (ls : List L) : runF E (fun _ => []) Try.f161 res n (initS pats ls) = F (MSig.dec ls) := by kernel_rfl
noncomputable def md (a0 : MSig) : MSig := a0
def gd (a0 : MSig) : Prop := MSig.Sm (2 ^ 36) a0
def acc (ls : List L) : MSig := (MSig.dec ls)
noncomputable def R : MSig → Option MSig := RR gd md
theorem R_eq {a0} (h : gd a0) : R a0 = some (md a0) := RR_eq (a := a0) h
noncomputable def con : Con := CN pats res acc R
theorem okF (a0 : MSig) (hg : gd a0) : F a0 = ret ((md a0) : MSig) := by
  rfl
theorem valid_ : Valid Try.prog Ev 161 con := VV (run := fun _ x => F x) mix tab_ok .nil Try.func161 (by kernel_rfl) run_eq (fun _ a _ _ hg => ⟨0, okF a hg⟩)
end laws_toSig
/-! laws.toSigS -/
namespace laws_toSigS
inductive Pt where
  | p0 (a : List (List L)) (b : Int) (c : List (List L))
def pid : Pt → Nat
  | .p0 .. => 3
def pvs : Pt → List V
  | .p0 a b c => [.sl none 198 a, .own 0, .int .i64 b]
def phs : Pt → List Root
  | .p0 a b c => [.row 169 c]
noncomputable def step (J : Pt → Ans) : Pt → Ans
  | .p0 a b c => (bif (decide (b < (a.length : Int))) then (bif (decide ((0 : Int) ≤ b)) then (bif (decide (b < (a.length : Int))) then (call (laws_toSig.R (MSig.at a (Int.toNat b))) fun v1 => (bif (decide ((0 : Int) ≤ b)) then (bif (decide (b < (c.length : Int))) then J (.p0 a (IntKind.i64.wrap (b + 1)) (List.set c (Int.toNat b) (MSig.enc v1))) else none) else none)) else none) else none) else ret (c : List (List L)))
noncomputable def start (J : Pt → Ans) (x0 : List (List L)) : Ans := (bif (decide ((0 : Int) ≤ (x0.length : Int))) then (bif (decide ((x0.length : Int) ≤ (x0.length : Int))) then (bif (decide ((x0.length : Int) * 16 ≤ 140737488355328)) then J (.p0 x0 0 (List.replicate (Int.toNat (x0.length : Int)) [L.int 0, L.int 0])) else none) else none) else none)
def live : Nat → Live := fun i => match i with | 3 => [(0, none), (3, none), (4, none)] | _ => []
def pats : List Pat := [.rd (.sl 198)]
def res : RP := .one (.fr 169)
noncomputable abbrev E : Env := { T := assoc Tab, G := conG [(161, laws_toSig.con)], nt := 23 }
set_option maxRecDepth 100000
theorem step_eq (I : Heads) (p : Pt) : enterC E live I (pid p) (bodyOf Try.f156) (stOf (live (pid p)) (pvs p) (phs p)) (doneK E Try.f156 res) = step (fun q => I (pid q) (pvs q) (phs q)) p := by
  cases p <;> kernel_rfl
theorem start_eq (I : Heads) (ls : List L) : runC E live I (bodyOf Try.f156) (initS pats ls) (doneK E Try.f156 res) = start (fun q => I (pid q) (pvs q) (phs q)) (ls.headD .hole).toSl := by kernel_rfl
theorem run_eq (n : Nat) (ls : List L) : runF E live Try.f156 res n (initS pats ls) = start (iter step n) (ls.headD .hole).toSl := runF_iter (id := pid) (vs := pvs) (hs := phs) (step := step) (start := fun J => start J (ls.headD .hole).toSl) step_eq (fun I => start_eq I ls) n
noncomputable def md (a0 : List MSig) : List MSig := a0
def gd (a0 : List MSig) : Prop := SmL (2 ^ 36) (fun y : MSig => MSig.Sm (2 ^ 36) y) a0
def acc (ls : List L) : List (List L) := (ls.headD .hole).toSl
noncomputable def R : (List (List L)) → Option (List (List L)) := RR gd md
theorem R_eq {a0} (h : gd a0) : R (a0.map MSig.row) = some ((md a0).map MSig.row) := RR_eq (a := a0) h
noncomputable def con : Con := CN pats res acc R
theorem okF (a0 : List MSig) (hg : gd a0) : ∃ n, start (iter step n) (a0.map MSig.row) = ret (((md a0).map MSig.row) : List (List L)) := by
  unfold start md
  simp only [List.length_map]
  refine to_list (b := 16) (pt := fun i c => Pt.p0 (a0.map MSig.row) (i : Int) c) (by have := hg.1; simp at this; omega) (fun J i h c hc => ?_) (fun J c => ?_)
  · simp only [step, List.length_map, lt_dec h, zle_dec, cond_true, toNat_nat, MSig.at_row h, hc]
    rw [call_eq (laws_toSig.R_eq (hg.get h))]
    try simp only [hc, lt_dec h, cond_true]
    rw [wrap_succ (n := a0.length) h (by have := hg.1; simp only [maxLen]; simp at this; omega)]
    rfl
  · simp only [step, List.length_map, nlt_dec, cond_false]
theorem valid_ : Valid Try.prog Ev 156 con := VV (run := fun n x => start (iter step n) x) mix tab_ok (.cons laws_toSig.valid_ .nil) Try.func156 (by kernel_rfl) run_eq (fun _ a _ _ hg => okF a hg)
end laws_toSigS
/-! laws.toSigned -/
namespace laws_toSigned
noncomputable def F (x0 : RSigned) : Ans := (call (laws_toHead.R x0.fHead) fun v1 => (call (laws_toSigS.R x0.fSigs) fun v2 => ret ((⟨v1, v2⟩ : RSigned) : RSigned)))
def pats : List Pat := [.agg [.int .i64, .int .i64, .int .i64, .int .i64, .int .i64, .int .i64, .int .i64, .int .i64, .sl 3, .int .i64, .sl 3, .int .i64, .int .i64, .sl 3, .int .i64, .bool, .sl 198]]
def res : RP := .agg [.rd (.int .i64), .rd (.int .i64), .rd (.int .i64), .rd (.int .i64), .rd (.int .i64), .rd (.int .i64), .rd (.int .i64), .rd (.int .i64), .fr 3, .rd (.int .i64), .fr 3, .rd (.int .i64), .rd (.int .i64), .fr 3, .rd (.int .i64), .rd (.bool), .fr 169]
noncomputable abbrev E : Env := { T := assoc Tab, G := conG [(155, laws_toHead.con), (156, laws_toSigS.con)], nt := 13 }
set_option maxRecDepth 100000
theorem run_eq (n : Nat) (ls : List L) : runF E (fun _ => []) Try.f151 res n (initS pats ls) = F (RSigned.dec ls) := by kernel_rfl
noncomputable def md (a0 : MSigned) : MSigned := a0
def gd (a0 : MSigned) : Prop := MSigned.Sm (2 ^ 36) a0
def acc (ls : List L) : RSigned := (RSigned.dec ls)
noncomputable def R : RSigned → Option RSigned := RR gd md
theorem R_eq {a0} (h : gd a0) : R (MSigned.r a0) = some (MSigned.r (md a0)) := RR_eq (a := a0) h
noncomputable def con : Con := CN pats res acc R
theorem okF (a0 : MSigned) (hg : gd a0) : F (MSigned.r a0) = ret ((MSigned.r (md a0)) : RSigned) := by
  unfold md
  show (call (laws_toHead.R (MHead.r a0.fHead)) fun v1 => (call (laws_toSigS.R (a0.fSigs.map MSig.row)) fun v2 => ret ((⟨v1, v2⟩ : RSigned) : RSigned))) = _
  rw [call_eq (laws_toHead.R_eq hg.1)]
  rw [call_eq (laws_toSigS.R_eq hg.2)]
  rfl
theorem valid_ : Valid Try.prog Ev 151 con := VV (run := fun _ x => F x) mix tab_ok (.cons laws_toHead.valid_ (.cons laws_toSigS.valid_ .nil)) Try.func151 (by kernel_rfl) run_eq (fun _ a _ _ hg => ⟨0, okF a hg⟩)
end laws_toSigned
/-! laws.toSignedS -/
namespace laws_toSignedS
inductive Pt where
  | p0 (a : List (List L)) (b : Int) (c : List (List L))
def pid : Pt → Nat
  | .p0 .. => 3
def pvs : Pt → List V
  | .p0 a b c => [.sl none 179 a, .own 0, .int .i64 b]
def phs : Pt → List Root
  | .p0 a b c => [.row 156 c]
noncomputable def step (J : Pt → Ans) : Pt → Ans
  | .p0 a b c => (bif (decide (b < (a.length : Int))) then (bif (decide ((0 : Int) ≤ b)) then (bif (decide (b < (a.length : Int))) then (call (laws_toSigned.R (RSigned.at a (Int.toNat b))) fun v1 => (bif (decide ((0 : Int) ≤ b)) then (bif (decide (b < (c.length : Int))) then J (.p0 a (IntKind.i64.wrap (b + 1)) (List.set c (Int.toNat b) (RSigned.enc v1))) else none) else none)) else none) else none) else ret (c : List (List L)))
noncomputable def start (J : Pt → Ans) (x0 : List (List L)) : Ans := (bif (decide ((0 : Int) ≤ (x0.length : Int))) then (bif (decide ((x0.length : Int) ≤ (x0.length : Int))) then (bif (decide ((x0.length : Int) * 200 ≤ 140737488355328)) then J (.p0 x0 0 (List.replicate (Int.toNat (x0.length : Int)) [L.int 0, L.int 0, L.int 0, L.int 0, L.int 0, L.int 0, L.int 0, L.int 0, L.sl [], L.int 0, L.sl [], L.int 0, L.int 0, L.sl [], L.int 0, L.bool false, L.sl []])) else none) else none) else none)
def live : Nat → Live := fun i => match i with | 3 => [(0, none), (3, none), (4, none)] | _ => []
def pats : List Pat := [.rd (.sl 179)]
def res : RP := .one (.fr 156)
noncomputable abbrev E : Env := { T := assoc Tab, G := conG [(151, laws_toSigned.con)], nt := 23 }
set_option maxRecDepth 100000
theorem step_eq (I : Heads) (p : Pt) : enterC E live I (pid p) (bodyOf Try.f145) (stOf (live (pid p)) (pvs p) (phs p)) (doneK E Try.f145 res) = step (fun q => I (pid q) (pvs q) (phs q)) p := by
  cases p <;> kernel_rfl
theorem start_eq (I : Heads) (ls : List L) : runC E live I (bodyOf Try.f145) (initS pats ls) (doneK E Try.f145 res) = start (fun q => I (pid q) (pvs q) (phs q)) (ls.headD .hole).toSl := by kernel_rfl
theorem run_eq (n : Nat) (ls : List L) : runF E live Try.f145 res n (initS pats ls) = start (iter step n) (ls.headD .hole).toSl := runF_iter (id := pid) (vs := pvs) (hs := phs) (step := step) (start := fun J => start J (ls.headD .hole).toSl) step_eq (fun I => start_eq I ls) n
noncomputable def md (a0 : List MSigned) : List MSigned := a0
def gd (a0 : List MSigned) : Prop := SmL (2 ^ 36) (fun y : MSigned => MSigned.Sm (2 ^ 36) y) a0
def acc (ls : List L) : List (List L) := (ls.headD .hole).toSl
noncomputable def R : (List (List L)) → Option (List (List L)) := RR gd md
theorem R_eq {a0} (h : gd a0) : R (a0.map MSigned.row) = some ((md a0).map MSigned.row) := RR_eq (a := a0) h
noncomputable def con : Con := CN pats res acc R
theorem okF (a0 : List MSigned) (hg : gd a0) : ∃ n, start (iter step n) (a0.map MSigned.row) = ret (((md a0).map MSigned.row) : List (List L)) := by
  unfold start md
  simp only [List.length_map]
  refine to_list (b := 200) (pt := fun i c => Pt.p0 (a0.map MSigned.row) (i : Int) c) (by have := hg.1; simp at this; omega) (fun J i h c hc => ?_) (fun J c => ?_)
  · simp only [step, List.length_map, lt_dec h, zle_dec, cond_true, toNat_nat, MSigned.at_row h, hc]
    rw [call_eq (laws_toSigned.R_eq (hg.get h))]
    try simp only [hc, lt_dec h, cond_true]
    rw [wrap_succ (n := a0.length) h (by have := hg.1; simp only [maxLen]; simp at this; omega)]
    rfl
  · simp only [step, List.length_map, nlt_dec, cond_false]
theorem valid_ : Valid Try.prog Ev 145 con := VV (run := fun n x => start (iter step n) x) mix tab_ok (.cons laws_toSigned.valid_ .nil) Try.func145 (by kernel_rfl) run_eq (fun _ a _ _ hg => okF a hg)
end laws_toSignedS
/-! laws.toSignedSS -/
namespace laws_toSignedSS
inductive Pt where
  | p0 (a : List (List L)) (b : Int) (c : List (List L))
def pid : Pt → Nat
  | .p0 .. => 3
def pvs : Pt → List V
  | .p0 a b c => [.sl none 172 a, .own 0, .int .i64 b]
def phs : Pt → List Root
  | .p0 a b c => [.row 149 c]
noncomputable def step (J : Pt → Ans) : Pt → Ans
  | .p0 a b c => (bif (decide (b < (a.length : Int))) then (bif (decide ((0 : Int) ≤ b)) then (bif (decide (b < (a.length : Int))) then (call (laws_toSignedS.R (lAt a (Int.toNat b))) fun v1 => (bif (decide ((0 : Int) ≤ b)) then (bif (decide (b < (c.length : Int))) then J (.p0 a (IntKind.i64.wrap (b + 1)) (List.set c (Int.toNat b) [L.sl v1])) else none) else none)) else none) else none) else ret (c : List (List L)))
noncomputable def start (J : Pt → Ans) (x0 : List (List L)) : Ans := (bif (decide ((0 : Int) ≤ (x0.length : Int))) then (bif (decide ((x0.length : Int) ≤ (x0.length : Int))) then (bif (decide ((x0.length : Int) * 24 ≤ 140737488355328)) then J (.p0 x0 0 (List.replicate (Int.toNat (x0.length : Int)) [L.sl []])) else none) else none) else none)
def live : Nat → Live := fun i => match i with | 3 => [(0, none), (3, none), (4, none)] | _ => []
def pats : List Pat := [.rd (.sl 172)]
def res : RP := .one (.fr 149)
noncomputable abbrev E : Env := { T := assoc Tab, G := conG [(145, laws_toSignedS.con)], nt := 23 }
set_option maxRecDepth 100000
theorem step_eq (I : Heads) (p : Pt) : enterC E live I (pid p) (bodyOf Try.f137) (stOf (live (pid p)) (pvs p) (phs p)) (doneK E Try.f137 res) = step (fun q => I (pid q) (pvs q) (phs q)) p := by
  cases p <;> kernel_rfl
theorem start_eq (I : Heads) (ls : List L) : runC E live I (bodyOf Try.f137) (initS pats ls) (doneK E Try.f137 res) = start (fun q => I (pid q) (pvs q) (phs q)) (ls.headD .hole).toSl := by kernel_rfl
theorem run_eq (n : Nat) (ls : List L) : runF E live Try.f137 res n (initS pats ls) = start (iter step n) (ls.headD .hole).toSl := runF_iter (id := pid) (vs := pvs) (hs := phs) (step := step) (start := fun J => start J (ls.headD .hole).toSl) step_eq (fun I => start_eq I ls) n
noncomputable def md (a0 : List (List MSigned)) : List (List MSigned) := a0
def gd (a0 : List (List MSigned)) : Prop := SmL (2 ^ 36) (fun y : List MSigned => SmL (2 ^ 36) (fun y : MSigned => MSigned.Sm (2 ^ 36) y) y) a0
def acc (ls : List L) : List (List L) := (ls.headD .hole).toSl
noncomputable def R : (List (List L)) → Option (List (List L)) := RR gd md
theorem R_eq {a0} (h : gd a0) : R (a0.map (lRow MSigned.row)) = some ((md a0).map (lRow MSigned.row)) := RR_eq (a := a0) h
noncomputable def con : Con := CN pats res acc R
theorem okF (a0 : List (List MSigned)) (hg : gd a0) : ∃ n, start (iter step n) (a0.map (lRow MSigned.row)) = ret (((md a0).map (lRow MSigned.row)) : List (List L)) := by
  unfold start md
  simp only [List.length_map]
  refine to_list (b := 24) (pt := fun i c => Pt.p0 (a0.map (lRow MSigned.row)) (i : Int) c) (by have := hg.1; simp at this; omega) (fun J i h c hc => ?_) (fun J c => ?_)
  · simp only [step, List.length_map, lt_dec h, zle_dec, cond_true, toNat_nat, lAt_row h, hc]
    rw [call_eq (laws_toSignedS.R_eq (hg.get h))]
    try simp only [hc, lt_dec h, cond_true]
    rw [wrap_succ (n := a0.length) h (by have := hg.1; simp only [maxLen]; simp at this; omega)]
    rfl
  · simp only [step, List.length_map, nlt_dec, cond_false]
theorem valid_ : Valid Try.prog Ev 137 con := VV (run := fun n x => start (iter step n) x) mix tab_ok (.cons laws_toSignedS.valid_ .nil) Try.func137 (by kernel_rfl) run_eq (fun _ a _ _ hg => okF a hg)
end laws_toSignedSS
/-! laws.toFork -/
namespace laws_toFork
noncomputable def F (x0 : RFork) : Ans := (call (laws_toSigned.R x0.fBefore) fun v1 => (call (laws_toSigned.R x0.fA) fun v2 => (call (laws_toSigned.R x0.fB) fun v3 => ret ((⟨v1, v2, v3⟩ : RFork) : RFork))))
def pats : List Pat := [.agg [.int .i64, .int .i64, .int .i64, .int .i64, .int .i64, .int .i64, .int .i64, .int .i64, .sl 3, .int .i64, .sl 3, .int .i64, .int .i64, .sl 3, .int .i64, .bool, .sl 198, .int .i64, .int .i64, .int .i64, .int .i64, .int .i64, .int .i64, .int .i64, .int .i64, .sl 3, .int .i64, .sl 3, .int .i64, .int .i64, .sl 3, .int .i64, .bool, .sl 198, .int .i64, .int .i64, .int .i64, .int .i64, .int .i64, .int .i64, .int .i64, .int .i64, .sl 3, .int .i64, .sl 3, .int .i64, .int .i64, .sl 3, .int .i64, .bool, .sl 198]]
def res : RP := .agg [.rd (.int .i64), .rd (.int .i64), .rd (.int .i64), .rd (.int .i64), .rd (.int .i64), .rd (.int .i64), .rd (.int .i64), .rd (.int .i64), .fr 3, .rd (.int .i64), .fr 3, .rd (.int .i64), .rd (.int .i64), .fr 3, .rd (.int .i64), .rd (.bool), .fr 169, .rd (.int .i64), .rd (.int .i64), .rd (.int .i64), .rd (.int .i64), .rd (.int .i64), .rd (.int .i64), .rd (.int .i64), .rd (.int .i64), .fr 3, .rd (.int .i64), .fr 3, .rd (.int .i64), .rd (.int .i64), .fr 3, .rd (.int .i64), .rd (.bool), .fr 169, .rd (.int .i64), .rd (.int .i64), .rd (.int .i64), .rd (.int .i64), .rd (.int .i64), .rd (.int .i64), .rd (.int .i64), .rd (.int .i64), .fr 3, .rd (.int .i64), .fr 3, .rd (.int .i64), .rd (.int .i64), .fr 3, .rd (.int .i64), .rd (.bool), .fr 169]
noncomputable abbrev E : Env := { T := assoc Tab, G := conG [(151, laws_toSigned.con)], nt := 17 }
set_option maxRecDepth 100000
theorem run_eq (n : Nat) (ls : List L) : runF E (fun _ => []) Try.f146 res n (initS pats ls) = F (RFork.dec ls) := by kernel_rfl
noncomputable def md (a0 : MFork) : MFork := a0
def gd (a0 : MFork) : Prop := MFork.Sm (2 ^ 36) a0
def acc (ls : List L) : RFork := (RFork.dec ls)
noncomputable def R : RFork → Option RFork := RR gd md
theorem R_eq {a0} (h : gd a0) : R (MFork.r a0) = some (MFork.r (md a0)) := RR_eq (a := a0) h
noncomputable def con : Con := CN pats res acc R
theorem okF (a0 : MFork) (hg : gd a0) : F (MFork.r a0) = ret ((MFork.r (md a0)) : RFork) := by
  unfold md
  show (call (laws_toSigned.R (MSigned.r a0.fBefore)) fun v1 => (call (laws_toSigned.R (MSigned.r a0.fA)) fun v2 => (call (laws_toSigned.R (MSigned.r a0.fB)) fun v3 => ret ((⟨v1, v2, v3⟩ : RFork) : RFork)))) = _
  rw [call_eq (laws_toSigned.R_eq hg.1)]
  rw [call_eq (laws_toSigned.R_eq hg.2.1)]
  rw [call_eq (laws_toSigned.R_eq hg.2.2)]
  rfl
theorem valid_ : Valid Try.prog Ev 146 con := VV (run := fun _ x => F x) mix tab_ok (.cons laws_toSigned.valid_ .nil) Try.func146 (by kernel_rfl) run_eq (fun _ a _ _ hg => ⟨0, okF a hg⟩)
end laws_toFork
/-! laws.toForkS -/
namespace laws_toForkS
inductive Pt where
  | p0 (a : List (List L)) (b : Int) (c : List (List L))
def pid : Pt → Nat
  | .p0 .. => 3
def pvs : Pt → List V
  | .p0 a b c => [.sl none 181 a, .own 0, .int .i64 b]
def phs : Pt → List Root
  | .p0 a b c => [.row 158 c]
noncomputable def step (J : Pt → Ans) : Pt → Ans
  | .p0 a b c => (bif (decide (b < (a.length : Int))) then (bif (decide ((0 : Int) ≤ b)) then (bif (decide (b < (a.length : Int))) then (call (laws_toFork.R (RFork.at a (Int.toNat b))) fun v1 => (bif (decide ((0 : Int) ≤ b)) then (bif (decide (b < (c.length : Int))) then J (.p0 a (IntKind.i64.wrap (b + 1)) (List.set c (Int.toNat b) (RFork.enc v1))) else none) else none)) else none) else none) else ret (c : List (List L)))
noncomputable def start (J : Pt → Ans) (x0 : List (List L)) : Ans := (bif (decide ((0 : Int) ≤ (x0.length : Int))) then (bif (decide ((x0.length : Int) ≤ (x0.length : Int))) then (bif (decide ((x0.length : Int) * 600 ≤ 140737488355328)) then J (.p0 x0 0 (List.replicate (Int.toNat (x0.length : Int)) [L.int 0, L.int 0, L.int 0, L.int 0, L.int 0, L.int 0, L.int 0, L.int 0, L.sl [], L.int 0, L.sl [], L.int 0, L.int 0, L.sl [], L.int 0, L.bool false, L.sl [], L.int 0, L.int 0, L.int 0, L.int 0, L.int 0, L.int 0, L.int 0, L.int 0, L.sl [], L.int 0, L.sl [], L.int 0, L.int 0, L.sl [], L.int 0, L.bool false, L.sl [], L.int 0, L.int 0, L.int 0, L.int 0, L.int 0, L.int 0, L.int 0, L.int 0, L.sl [], L.int 0, L.sl [], L.int 0, L.int 0, L.sl [], L.int 0, L.bool false, L.sl []])) else none) else none) else none)
def live : Nat → Live := fun i => match i with | 3 => [(0, none), (3, none), (4, none)] | _ => []
def pats : List Pat := [.rd (.sl 181)]
def res : RP := .one (.fr 158)
noncomputable abbrev E : Env := { T := assoc Tab, G := conG [(146, laws_toFork.con)], nt := 23 }
set_option maxRecDepth 100000
theorem step_eq (I : Heads) (p : Pt) : enterC E live I (pid p) (bodyOf Try.f138) (stOf (live (pid p)) (pvs p) (phs p)) (doneK E Try.f138 res) = step (fun q => I (pid q) (pvs q) (phs q)) p := by
  cases p <;> kernel_rfl
theorem start_eq (I : Heads) (ls : List L) : runC E live I (bodyOf Try.f138) (initS pats ls) (doneK E Try.f138 res) = start (fun q => I (pid q) (pvs q) (phs q)) (ls.headD .hole).toSl := by kernel_rfl
theorem run_eq (n : Nat) (ls : List L) : runF E live Try.f138 res n (initS pats ls) = start (iter step n) (ls.headD .hole).toSl := runF_iter (id := pid) (vs := pvs) (hs := phs) (step := step) (start := fun J => start J (ls.headD .hole).toSl) step_eq (fun I => start_eq I ls) n
noncomputable def md (a0 : List MFork) : List MFork := a0
def gd (a0 : List MFork) : Prop := SmL (2 ^ 36) (fun y : MFork => MFork.Sm (2 ^ 36) y) a0
def acc (ls : List L) : List (List L) := (ls.headD .hole).toSl
noncomputable def R : (List (List L)) → Option (List (List L)) := RR gd md
theorem R_eq {a0} (h : gd a0) : R (a0.map MFork.row) = some ((md a0).map MFork.row) := RR_eq (a := a0) h
noncomputable def con : Con := CN pats res acc R
theorem okF (a0 : List MFork) (hg : gd a0) : ∃ n, start (iter step n) (a0.map MFork.row) = ret (((md a0).map MFork.row) : List (List L)) := by
  unfold start md
  simp only [List.length_map]
  refine to_list (b := 600) (pt := fun i c => Pt.p0 (a0.map MFork.row) (i : Int) c) (by have := hg.1; simp at this; omega) (fun J i h c hc => ?_) (fun J c => ?_)
  · simp only [step, List.length_map, lt_dec h, zle_dec, cond_true, toNat_nat, MFork.at_row h, hc]
    rw [call_eq (laws_toFork.R_eq (hg.get h))]
    try simp only [hc, lt_dec h, cond_true]
    rw [wrap_succ (n := a0.length) h (by have := hg.1; simp only [maxLen]; simp at this; omega)]
    rfl
  · simp only [step, List.length_map, nlt_dec, cond_false]
theorem valid_ : Valid Try.prog Ev 138 con := VV (run := fun n x => start (iter step n) x) mix tab_ok (.cons laws_toFork.valid_ .nil) Try.func138 (by kernel_rfl) run_eq (fun _ a _ _ hg => okF a hg)
end laws_toForkS
/-! laws.toKnown -/
namespace laws_toKnown
noncomputable def F (x0 : RKnown) : Ans := (call (laws_toSignedSS.R x0.fChains) fun v1 => (call (laws_toForkS.R x0.fForks) fun v2 => ret ((⟨v1, v2⟩ : RKnown) : RKnown)))
def pats : List Pat := [.agg [.sl 172, .sl 181]]
def res : RP := .agg [.fr 149, .fr 158]
noncomputable abbrev E : Env := { T := assoc Tab, G := conG [(137, laws_toSignedSS.con), (138, laws_toForkS.con)], nt := 13 }
set_option maxRecDepth 100000
theorem run_eq (n : Nat) (ls : List L) : runF E (fun _ => []) Try.f124 res n (initS pats ls) = F (RKnown.dec ls) := by kernel_rfl
noncomputable def md (a0 : MKnown) : MKnown := a0
def gd (a0 : MKnown) : Prop := MKnown.Sm (2 ^ 36) a0
def acc (ls : List L) : RKnown := (RKnown.dec ls)
noncomputable def R : RKnown → Option RKnown := RR gd md
theorem R_eq {a0} (h : gd a0) : R (MKnown.r a0) = some (MKnown.r (md a0)) := RR_eq (a := a0) h
noncomputable def con : Con := CN pats res acc R
theorem okF (a0 : MKnown) (hg : gd a0) : F (MKnown.r a0) = ret ((MKnown.r (md a0)) : RKnown) := by
  unfold md
  show (call (laws_toSignedSS.R (a0.fChains.map (lRow MSigned.row))) fun v1 => (call (laws_toForkS.R (a0.fForks.map MFork.row)) fun v2 => ret ((⟨v1, v2⟩ : RKnown) : RKnown))) = _
  rw [call_eq (laws_toSignedSS.R_eq hg.1)]
  rw [call_eq (laws_toForkS.R_eq hg.2)]
  rfl
theorem valid_ : Valid Try.prog Ev 124 con := VV (run := fun _ x => F x) mix tab_ok (.cons laws_toSignedSS.valid_ (.cons laws_toForkS.valid_ .nil)) Try.func124 (by kernel_rfl) run_eq (fun _ a _ _ hg => ⟨0, okF a hg⟩)
end laws_toKnown
/-! laws.toStringS -/
namespace laws_toStringS
inductive Pt where
  | p0 (a : List (List L)) (b : Int) (c : List (List L))
def pid : Pt → Nat
  | .p0 .. => 3
def pvs : Pt → List V
  | .p0 a b c => [.sl none 9 a, .own 0, .int .i64 b]
def phs : Pt → List Root
  | .p0 a b c => [.row 9 c]
noncomputable def step (J : Pt → Ans) : Pt → Ans
  | .p0 a b c => (bif (decide (b < (a.length : Int))) then (bif (decide ((0 : Int) ≤ b)) then (bif (decide (b < (a.length : Int))) then (bif (decide ((0 : Int) ≤ b)) then (bif (decide (b < (c.length : Int))) then J (.p0 a (IntKind.i64.wrap (b + 1)) (List.set c (Int.toNat b) [L.str (sAt a (Int.toNat b))])) else none) else none) else none) else none) else ret (c : List (List L)))
noncomputable def start (J : Pt → Ans) (x0 : List (List L)) : Ans := (bif (decide ((0 : Int) ≤ (x0.length : Int))) then (bif (decide ((x0.length : Int) ≤ (x0.length : Int))) then (bif (decide ((x0.length : Int) * 16 ≤ 140737488355328)) then J (.p0 x0 0 (List.replicate (Int.toNat (x0.length : Int)) [L.str ⟨#[]⟩])) else none) else none) else none)
def live : Nat → Live := fun i => match i with | 3 => [(0, none), (3, none), (4, none)] | _ => []
def pats : List Pat := [.rd (.sl 9)]
def res : RP := .one (.fr 9)
noncomputable abbrev E : Env := { T := assoc Tab, G := conG [], nt := 22 }
set_option maxRecDepth 100000
theorem step_eq (I : Heads) (p : Pt) : enterC E live I (pid p) (bodyOf Try.f27) (stOf (live (pid p)) (pvs p) (phs p)) (doneK E Try.f27 res) = step (fun q => I (pid q) (pvs q) (phs q)) p := by
  cases p <;> kernel_rfl
theorem start_eq (I : Heads) (ls : List L) : runC E live I (bodyOf Try.f27) (initS pats ls) (doneK E Try.f27 res) = start (fun q => I (pid q) (pvs q) (phs q)) (ls.headD .hole).toSl := by kernel_rfl
theorem run_eq (n : Nat) (ls : List L) : runF E live Try.f27 res n (initS pats ls) = start (iter step n) (ls.headD .hole).toSl := runF_iter (id := pid) (vs := pvs) (hs := phs) (step := step) (start := fun J => start J (ls.headD .hole).toSl) step_eq (fun I => start_eq I ls) n
noncomputable def md (a0 : List ByteArray) : List ByteArray := a0
def gd (a0 : List ByteArray) : Prop := SmL (2 ^ 36) (fun y : ByteArray => y.size ≤ (2 ^ 36)) a0
def acc (ls : List L) : List (List L) := (ls.headD .hole).toSl
noncomputable def R : (List (List L)) → Option (List (List L)) := RR gd md
theorem R_eq {a0} (h : gd a0) : R (a0.map sRow) = some ((md a0).map sRow) := RR_eq (a := a0) h
noncomputable def con : Con := CN pats res acc R
theorem okF (a0 : List ByteArray) (hg : gd a0) : ∃ n, start (iter step n) (a0.map sRow) = ret (((md a0).map sRow) : List (List L)) := by
  unfold start md
  simp only [List.length_map]
  refine to_list (b := 16) (pt := fun i c => Pt.p0 (a0.map sRow) (i : Int) c) (by have := hg.1; simp at this; omega) (fun J i h c hc => ?_) (fun J c => ?_)
  · simp only [step, List.length_map, lt_dec h, zle_dec, cond_true, toNat_nat, sAt_row h, hc]
    rw [wrap_succ (n := a0.length) h (by have := hg.1; simp only [maxLen]; simp at this; omega)]
    rfl
  · simp only [step, List.length_map, nlt_dec, cond_false]
theorem valid_ : Valid Try.prog Ev 27 con := VV (run := fun n x => start (iter step n) x) mix tab_ok .nil Try.func27 (by kernel_rfl) run_eq (fun _ a _ _ hg => okF a hg)
end laws_toStringS
/-! laws.toEntry -/
namespace laws_toEntry
noncomputable def F (x0 : REntry) : Ans := (call (laws_toStringS.R x0.fPath) fun v1 => ret ((⟨x0.fLabel, x0.fKind, x0.fValue, v1⟩ : REntry) : REntry))
def pats : List Pat := [.agg [.str, .int .i64, .int .i64, .sl 9]]
def res : RP := .agg [.rd (.str), .rd (.int .i64), .rd (.int .i64), .fr 9]
noncomputable abbrev E : Env := { T := assoc Tab, G := conG [(27, laws_toStringS.con)], nt := 18 }
set_option maxRecDepth 100000
theorem run_eq (n : Nat) (ls : List L) : runF E (fun _ => []) Try.f28 res n (initS pats ls) = F (REntry.dec ls) := by kernel_rfl
noncomputable def md (a0 : MEntry) : MEntry := a0
def gd (a0 : MEntry) : Prop := MEntry.Sm (2 ^ 36) a0
def acc (ls : List L) : REntry := (REntry.dec ls)
noncomputable def R : REntry → Option REntry := RR gd md
theorem R_eq {a0} (h : gd a0) : R (MEntry.r a0) = some (MEntry.r (md a0)) := RR_eq (a := a0) h
noncomputable def con : Con := CN pats res acc R
theorem okF (a0 : MEntry) (hg : gd a0) : F (MEntry.r a0) = ret ((MEntry.r (md a0)) : REntry) := by
  unfold md
  show (call (laws_toStringS.R (a0.fPath.map sRow)) fun v1 => ret ((⟨a0.fLabel, a0.fKind, a0.fValue, v1⟩ : REntry) : REntry)) = _
  rw [call_eq (laws_toStringS.R_eq hg.2)]
  rfl
theorem valid_ : Valid Try.prog Ev 28 con := VV (run := fun _ x => F x) mix tab_ok (.cons laws_toStringS.valid_ .nil) Try.func28 (by kernel_rfl) run_eq (fun _ a _ _ hg => ⟨0, okF a hg⟩)
end laws_toEntry
/-! laws.toTrace -/
namespace laws_toTrace
noncomputable def F (x0 : RTrace) : Ans := (call (laws_toKnown.R x0.fKnown) fun v1 => (call (laws_toEntry.R x0.fEntry) fun v2 => (call (laws_toIntS.R x0.fZones) fun v3 => ret ((⟨v1, x0.fCode, v2, v3, x0.fMoves⟩ : RTrace) : RTrace))))
def pats : List Pat := [.agg [.sl 172, .sl 181, .int .i64, .str, .int .i64, .int .i64, .sl 9, .sl 3, .int .i64]]
def res : RP := .agg [.fr 149, .fr 158, .rd (.int .i64), .rd (.str), .rd (.int .i64), .rd (.int .i64), .fr 9, .fr 3, .rd (.int .i64)]
noncomputable abbrev E : Env := { T := assoc Tab, G := conG [(124, laws_toKnown.con), (28, laws_toEntry.con), (125, laws_toIntS.con)], nt := 23 }
set_option maxRecDepth 100000
theorem run_eq (n : Nat) (ls : List L) : runF E (fun _ => []) Try.f91 res n (initS pats ls) = F (RTrace.dec ls) := by kernel_rfl
noncomputable def md (a0 : MTrace) : MTrace := a0
def gd (a0 : MTrace) : Prop := MTrace.Sm (2 ^ 36) a0
def acc (ls : List L) : RTrace := (RTrace.dec ls)
noncomputable def R : RTrace → Option RTrace := RR gd md
theorem R_eq {a0} (h : gd a0) : R (MTrace.r a0) = some (MTrace.r (md a0)) := RR_eq (a := a0) h
noncomputable def con : Con := CN pats res acc R
theorem okF (a0 : MTrace) (hg : gd a0) : F (MTrace.r a0) = ret ((MTrace.r (md a0)) : RTrace) := by
  unfold md
  show (call (laws_toKnown.R (MKnown.r a0.fKnown)) fun v1 => (call (laws_toEntry.R (MEntry.r a0.fEntry)) fun v2 => (call (laws_toIntS.R (a0.fZones.map iRow)) fun v3 => ret ((⟨v1, a0.fCode, v2, v3, a0.fMoves⟩ : RTrace) : RTrace)))) = _
  rw [call_eq (laws_toKnown.R_eq hg.1)]
  rw [call_eq (laws_toEntry.R_eq hg.2.1)]
  rw [call_eq (laws_toIntS.R_eq hg.2.2)]
  rfl
theorem valid_ : Valid Try.prog Ev 91 con := VV (run := fun _ x => F x) mix tab_ok (.cons laws_toKnown.valid_ (.cons laws_toEntry.valid_ (.cons laws_toIntS.valid_ .nil))) Try.func91 (by kernel_rfl) run_eq (fun _ a _ _ hg => ⟨0, okF a hg⟩)
end laws_toTrace
/-! laws.toTraceS -/
namespace laws_toTraceS
inductive Pt where
  | p0 (a : List (List L)) (b : Int) (c : List (List L))
def pid : Pt → Nat
  | .p0 .. => 3
def pvs : Pt → List V
  | .p0 a b c => [.sl none 118 a, .own 0, .int .i64 b]
def phs : Pt → List Root
  | .p0 a b c => [.row 124 c]
noncomputable def step (J : Pt → Ans) : Pt → Ans
  | .p0 a b c => (bif (decide (b < (a.length : Int))) then (bif (decide ((0 : Int) ≤ b)) then (bif (decide (b < (a.length : Int))) then (call (laws_toTrace.R (RTrace.at a (Int.toNat b))) fun v1 => (bif (decide ((0 : Int) ≤ b)) then (bif (decide (b < (c.length : Int))) then J (.p0 a (IntKind.i64.wrap (b + 1)) (List.set c (Int.toNat b) (RTrace.enc v1))) else none) else none)) else none) else none) else ret (c : List (List L)))
noncomputable def start (J : Pt → Ans) (x0 : List (List L)) : Ans := (bif (decide ((0 : Int) ≤ (x0.length : Int))) then (bif (decide ((x0.length : Int) ≤ (x0.length : Int))) then (bif (decide ((x0.length : Int) * 144 ≤ 140737488355328)) then J (.p0 x0 0 (List.replicate (Int.toNat (x0.length : Int)) [L.sl [], L.sl [], L.int 0, L.str ⟨#[]⟩, L.int 0, L.int 0, L.sl [], L.sl [], L.int 0])) else none) else none) else none)
def live : Nat → Live := fun i => match i with | 3 => [(0, none), (3, none), (4, none)] | _ => []
def pats : List Pat := [.rd (.sl 118)]
def res : RP := .one (.fr 124)
noncomputable abbrev E : Env := { T := assoc Tab, G := conG [(91, laws_toTrace.con)], nt := 23 }
set_option maxRecDepth 100000
theorem step_eq (I : Heads) (p : Pt) : enterC E live I (pid p) (bodyOf Try.f39) (stOf (live (pid p)) (pvs p) (phs p)) (doneK E Try.f39 res) = step (fun q => I (pid q) (pvs q) (phs q)) p := by
  cases p <;> kernel_rfl
theorem start_eq (I : Heads) (ls : List L) : runC E live I (bodyOf Try.f39) (initS pats ls) (doneK E Try.f39 res) = start (fun q => I (pid q) (pvs q) (phs q)) (ls.headD .hole).toSl := by kernel_rfl
theorem run_eq (n : Nat) (ls : List L) : runF E live Try.f39 res n (initS pats ls) = start (iter step n) (ls.headD .hole).toSl := runF_iter (id := pid) (vs := pvs) (hs := phs) (step := step) (start := fun J => start J (ls.headD .hole).toSl) step_eq (fun I => start_eq I ls) n
noncomputable def md (a0 : List MTrace) : List MTrace := a0
def gd (a0 : List MTrace) : Prop := SmL (2 ^ 36) (fun y : MTrace => MTrace.Sm (2 ^ 36) y) a0
def acc (ls : List L) : List (List L) := (ls.headD .hole).toSl
noncomputable def R : (List (List L)) → Option (List (List L)) := RR gd md
theorem R_eq {a0} (h : gd a0) : R (a0.map MTrace.row) = some ((md a0).map MTrace.row) := RR_eq (a := a0) h
noncomputable def con : Con := CN pats res acc R
theorem okF (a0 : List MTrace) (hg : gd a0) : ∃ n, start (iter step n) (a0.map MTrace.row) = ret (((md a0).map MTrace.row) : List (List L)) := by
  unfold start md
  simp only [List.length_map]
  refine to_list (b := 144) (pt := fun i c => Pt.p0 (a0.map MTrace.row) (i : Int) c) (by have := hg.1; simp at this; omega) (fun J i h c hc => ?_) (fun J c => ?_)
  · simp only [step, List.length_map, lt_dec h, zle_dec, cond_true, toNat_nat, MTrace.at_row h, hc]
    rw [call_eq (laws_toTrace.R_eq (hg.get h))]
    try simp only [hc, lt_dec h, cond_true]
    rw [wrap_succ (n := a0.length) h (by have := hg.1; simp only [maxLen]; simp at this; omega)]
    rfl
  · simp only [step, List.length_map, nlt_dec, cond_false]
theorem valid_ : Valid Try.prog Ev 39 con := VV (run := fun n x => start (iter step n) x) mix tab_ok (.cons laws_toTrace.valid_ .nil) Try.func39 (by kernel_rfl) run_eq (fun _ a _ _ hg => okF a hg)
end laws_toTraceS
/-! spec.IsSilent -/
namespace spec_IsSilent
noncomputable def F (x0 : RTrace) : Ans := (bif (x0.fCode == 3) then ret (true : Bool) else (bif (x0.fCode == 5) then ret (true : Bool) else ret ((x0.fCode == 6) : Bool)))
def pats : List Pat := [.agg [.sl 149, .sl 158, .int .i64, .str, .int .i64, .int .i64, .sl 9, .sl 3, .int .i64]]
def res : RP := .one (.rd (.bool))
noncomputable abbrev E : Env := { T := assoc Tab, G := conG [], nt := 16 }
set_option maxRecDepth 100000
theorem run_eq (n : Nat) (ls : List L) : runF E (fun _ => []) Try.f93 res n (initS pats ls) = F (RTrace.dec ls) := by kernel_rfl
noncomputable def md (a0 : MTrace) : Bool := (bif (a0.fCode == 3) then (true : Bool) else (bif (a0.fCode == 5) then (true : Bool) else ((a0.fCode == 6) : Bool)))
def gd (a0 : MTrace) : Prop := True
def acc (ls : List L) : RTrace := (RTrace.dec ls)
noncomputable def R : RTrace → Option Bool := RR gd md
theorem R_eq {a0} (h : gd a0) : R (MTrace.r a0) = some (md a0) := RR_eq (a := a0) h
noncomputable def con : Con := CN pats res acc R
theorem okF (a0 : MTrace) (hg : gd a0) : F (MTrace.r a0) = ret ((md a0) : Bool) := by
  unfold F md
  try simp only [S0, MTrace.rs]
  refine bif_out ret (fun _ => rfl) (fun c1 => ?_)
  refine bif_out ret (fun _ => rfl) (fun c2 => ?_)
  all_goals first | rfl | (simp only [S0, MTrace.rs, MP]; first | done | rfl)
theorem valid_ : Valid Try.prog Ev 93 con := VV (run := fun _ x => F x) mix tab_ok .nil Try.func93 (by kernel_rfl) run_eq (fun _ a _ _ hg => ⟨0, okF a hg⟩)
end spec_IsSilent
/-! spec.SamePath -/
namespace spec_SamePath
inductive Pt where
  | p0 (a : List (List L)) (b : List (List L)) (c : Int)
def pid : Pt → Nat
  | .p0 .. => 4
def pvs : Pt → List V
  | .p0 a b c => [.sl none 9 a, .sl none 9 b, .int .i64 c]
def phs : Pt → List Root
  | .p0 a b c => []
noncomputable def step (J : Pt → Ans) : Pt → Ans
  | .p0 a b c => (bif (decide (c < (a.length : Int))) then (bif (decide ((0 : Int) ≤ c)) then (bif (decide (c < (a.length : Int))) then (bif (decide ((0 : Int) ≤ c)) then (bif (decide (c < (b.length : Int))) then (bif (!((sAt a (Int.toNat c)) == (sAt b (Int.toNat c)))) then ret (false : Bool) else J (.p0 a b (IntKind.i64.wrap (c + 1)))) else none) else none) else none) else none) else ret (true : Bool))
noncomputable def start (J : Pt → Ans) (x0 : List (List L)) (x1 : List (List L)) : Ans := (bif ((x0.length : Int) != (x1.length : Int)) then ret (false : Bool) else J (.p0 x0 x1 0))
def live : Nat → Live := fun i => match i with | 4 => [(0, none), (1, none), (5, none)] | _ => []
def pats : List Pat := [.rd (.sl 9), .rd (.sl 9)]
def res : RP := .one (.rd (.bool))
noncomputable abbrev E : Env := { T := assoc Tab, G := conG [], nt := 26 }
set_option maxRecDepth 100000
theorem step_eq (I : Heads) (p : Pt) : enterC E live I (pid p) (bodyOf Try.f114) (stOf (live (pid p)) (pvs p) (phs p)) (doneK E Try.f114 res) = step (fun q => I (pid q) (pvs q) (phs q)) p := by
  cases p <;> kernel_rfl
theorem start_eq (I : Heads) (ls : List L) : runC E live I (bodyOf Try.f114) (initS pats ls) (doneK E Try.f114 res) = start (fun q => I (pid q) (pvs q) (phs q)) (ls.headD .hole).toSl ((dropT 1 ls).headD .hole).toSl := by kernel_rfl
theorem run_eq (n : Nat) (ls : List L) : runF E live Try.f114 res n (initS pats ls) = start (iter step n) (ls.headD .hole).toSl ((dropT 1 ls).headD .hole).toSl := runF_iter (id := pid) (vs := pvs) (hs := phs) (step := step) (start := fun J => start J (ls.headD .hole).toSl ((dropT 1 ls).headD .hole).toSl) step_eq (fun I => start_eq I ls) n
noncomputable def md (a0 : List ByteArray) (a1 : List ByteArray) : Bool := (bif ((a0.length : Int) != (a1.length : Int)) then (false : Bool) else (loopM (S := Unit) (β := Bool) (fun (i2 : Nat) (s4 : Unit) => (bif (!((a0.getD i2 ⟨#[]⟩) == (a1.getD i2 ⟨#[]⟩))) then (.inr (false : Bool)) else (.inl ()))) (fun (s4 : Unit) => (true : Bool)) a0.length 0 ()))
def gd (a0 : List ByteArray) (a1 : List ByteArray) : Prop := (SmL (2 ^ 21) (fun y : ByteArray => y.size ≤ (2 ^ 21)) a0) ∧ (SmL (2 ^ 21) (fun y : ByteArray => y.size ≤ (2 ^ 21)) a1)
def acc (ls : List L) : List (List L) × List (List L) := ((ls.headD .hole).toSl, ((dropT 1 ls).headD .hole).toSl)
noncomputable def R : (List (List L) × List (List L)) → Option Bool := RR (p2 gd) (u2 md)
theorem R_eq {a0} {a1} (h : gd a0 a1) : R ((a0.map sRow), (a1.map sRow)) = some (md a0 a1) := RR_eq (a := (a0, a1)) h
noncomputable def con : Con := CN pats res acc R
theorem okF (a0 : List ByteArray) (a1 : List ByteArray) (hg : gd a0 a1) : ∃ n, start (iter step n) (a0.map sRow) (a1.map sRow) = ret ((md a0 a1) : Bool) := by
  unfold gd at hg
  obtain ⟨H0, H1⟩ := hg
  unfold start md
  try simp only [S0]
  refine ex_bif ret (fun _ => ⟨0, rfl⟩) (fun c1 => ?_)
  have dc1 := c1
  try simp only [DC] at dc1
  have Bh3 : a0.length ≤ maxLen := (by
      have := (H0).1
      try simp only [maxLen] at *
      omega)
  refine ex_pt (p := Pt.p0 (a0.map sRow) (a1.map sRow) 0) (by first | rfl | (simp only [S0, MP]; done) | (simp only [MP]; rfl)) ?_
  refine loopM_ok (pt := fun (i2 : Nat) (s4 : Unit) => Pt.p0 (a0.map sRow) (a1.map sRow) (i2 : Int)) (s := (() : Unit)) (out := ret) (fun _ _ => True) (fun J i2 s4 h3 hih3 => ?_) (fun s4 hih3 => ?_) trivial
  · simp only [step, S0]
    have bb_ := Bh3
    simp only [maxLen] at bb_
    have := (H0).1
    refine Rnd.yes (by apply decide_eq_true; omega) ?_
    refine Rnd.yes zle_dec ?_
    refine Rnd.yes (lt_dec h3) ?_
    refine Rnd.yes zle_dec ?_
    refine Rnd.yes (by
        have := (H1).1
        refine decide_eq_true ?_
        try simp (disch := omega) only [LN, wi]
        first | omega | (simp; done) | (simp; omega)) ?_
    refine Rnd.bif (fun _ => Rnd.inr rfl) (fun c5 => ?_)
    refine Rnd.inl trivial ?_
    rw [wrap_succ h3 Bh3]
    all_goals first | rfl | (simp only [S0, MP]; first | done | rfl)
  · simp only [step, S0]
    have := (H0).1
    refine ex_no (by apply decide_eq_false; omega) ?_
    refine ⟨0, ?_⟩
    all_goals first | rfl | (simp only [S0, MP]; first | done | rfl)
theorem valid_ : Valid Try.prog Ev 114 con := VV (run := fun n x => start (iter step n) x.1 x.2) mix tab_ok .nil Try.func114 (by kernel_rfl) run_eq (fun _ a _ _ hg => okF a.1 a.2 hg)
theorem md_eq (a0 : List ByteArray) (a1 : List ByteArray) : md a0 a1 = eqB a0 a1 := by
  unfold md
  refine loop_eqB (⟨#[]⟩) (fun i s h h2 => ?_) (fun s => rfl)
  simp only [bne, int_beq, bool_beq, ba_beq]
  cases eqB _ _ <;> rfl
end spec_SamePath
/-! spec.EqualEntries -/
namespace spec_EqualEntries
noncomputable def F (x0 : REntry) (x1 : REntry) : Ans := (bif (x0.fLabel == x1.fLabel) then (bif (x0.fKind == x1.fKind) then (bif (x0.fValue == x1.fValue) then (call (spec_SamePath.R (x0.fPath, x1.fPath)) fun v1 => ret (v1 : Bool)) else ret (false : Bool)) else ret (false : Bool)) else ret (false : Bool))
def pats : List Pat := [.agg [.str, .int .i64, .int .i64, .sl 9], .agg [.str, .int .i64, .int .i64, .sl 9]]
def res : RP := .one (.rd (.bool))
noncomputable abbrev E : Env := { T := assoc Tab, G := conG [(114, spec_SamePath.con)], nt := 31 }
set_option maxRecDepth 100000
theorem run_eq (n : Nat) (ls : List L) : runF E (fun _ => []) Try.f127 res n (initS pats ls) = F (REntry.dec ls) (REntry.dec (dropT 4 ls)) := by kernel_rfl
noncomputable def md (a0 : MEntry) (a1 : MEntry) : Bool := (bif (a0.fLabel == a1.fLabel) then (bif (a0.fKind == a1.fKind) then (bif (a0.fValue == a1.fValue) then ((spec_SamePath.md a0.fPath a1.fPath) : Bool) else (false : Bool)) else (false : Bool)) else (false : Bool))
def gd (a0 : MEntry) (a1 : MEntry) : Prop := (MEntry.Sm (2 ^ 21) a0) ∧ (MEntry.Sm (2 ^ 21) a1)
def acc (ls : List L) : REntry × REntry := ((REntry.dec ls), (REntry.dec (dropT 4 ls)))
noncomputable def R : (REntry × REntry) → Option Bool := RR (p2 gd) (u2 md)
theorem R_eq {a0} {a1} (h : gd a0 a1) : R ((MEntry.r a0), (MEntry.r a1)) = some (md a0 a1) := RR_eq (a := (a0, a1)) h
noncomputable def con : Con := CN pats res acc R
theorem okF (a0 : MEntry) (a1 : MEntry) (hg : gd a0 a1) : F (MEntry.r a0) (MEntry.r a1) = ret ((md a0 a1) : Bool) := by
  unfold gd at hg
  obtain ⟨H0, H1⟩ := hg
  unfold F md
  try simp only [S0, MEntry.rs]
  refine bif_out ret (fun c1 => ?_) (fun _ => rfl)
  refine bif_out ret (fun c2 => ?_) (fun _ => rfl)
  refine bif_out ret (fun c3 => ?_) (fun _ => rfl)
  refine call_to (spec_SamePath.md a0.fPath a1.fPath) (spec_SamePath.R_eq (a0 := a0.fPath) (a1 := a1.fPath) ⟨H0.2, H1.2⟩) ?_
  all_goals first | rfl | (simp only [S0, MEntry.rs, MP]; first | done | rfl)
theorem valid_ : Valid Try.prog Ev 127 con := VV (run := fun _ x => F x.1 x.2) mix tab_ok (.cons spec_SamePath.valid_ .nil) Try.func127 (by kernel_rfl) run_eq (fun _ a _ _ hg => ⟨0, okF a.1 a.2 hg⟩)
theorem md_eq (a0 : MEntry) (a1 : MEntry) : md a0 a1 = eqB a0 a1 := by
  unfold md
  cases a0; cases a1
  rw [Bool.eq_iff_iff]
  simp [eqB_iff, ba_beq, MEntry.mk.injEq, spec_SamePath.md_eq]
  try (constructor <;> (intro h; simp_all))
end spec_EqualEntries
/-! spec.SameResult -/
namespace spec_SameResult
noncomputable def F (x0 : RTrace) (x1 : RTrace) : Ans := (bif (x0.fCode == x1.fCode) then (call (spec_EqualEntries.R (x0.fEntry, x1.fEntry)) fun v1 => ret (v1 : Bool)) else ret (false : Bool))
def pats : List Pat := [.agg [.sl 149, .sl 158, .int .i64, .str, .int .i64, .int .i64, .sl 9, .sl 3, .int .i64], .agg [.sl 149, .sl 158, .int .i64, .str, .int .i64, .int .i64, .sl 9, .sl 3, .int .i64]]
def res : RP := .one (.rd (.bool))
noncomputable abbrev E : Env := { T := assoc Tab, G := conG [(127, spec_EqualEntries.con)], nt := 17 }
set_option maxRecDepth 100000
theorem run_eq (n : Nat) (ls : List L) : runF E (fun _ => []) Try.f94 res n (initS pats ls) = F (RTrace.dec ls) (RTrace.dec (dropT 9 ls)) := by kernel_rfl
noncomputable def md (a0 : MTrace) (a1 : MTrace) : Bool := (bif (a0.fCode == a1.fCode) then ((spec_EqualEntries.md a0.fEntry a1.fEntry) : Bool) else (false : Bool))
def gd (a0 : MTrace) (a1 : MTrace) : Prop := (MTrace.Sm (2 ^ 21) a0) ∧ (MTrace.Sm (2 ^ 21) a1)
def acc (ls : List L) : RTrace × RTrace := ((RTrace.dec ls), (RTrace.dec (dropT 9 ls)))
noncomputable def R : (RTrace × RTrace) → Option Bool := RR (p2 gd) (u2 md)
theorem R_eq {a0} {a1} (h : gd a0 a1) : R ((MTrace.r a0), (MTrace.r a1)) = some (md a0 a1) := RR_eq (a := (a0, a1)) h
noncomputable def con : Con := CN pats res acc R
theorem okF (a0 : MTrace) (a1 : MTrace) (hg : gd a0 a1) : F (MTrace.r a0) (MTrace.r a1) = ret ((md a0 a1) : Bool) := by
  unfold gd at hg
  obtain ⟨H0, H1⟩ := hg
  unfold F md
  try simp only [S0, MTrace.rs]
  refine bif_out ret (fun c1 => ?_) (fun _ => rfl)
  refine call_to (spec_EqualEntries.md a0.fEntry a1.fEntry) (spec_EqualEntries.R_eq (a0 := a0.fEntry) (a1 := a1.fEntry) ⟨H0.2.1, H1.2.1⟩) ?_
  all_goals first | rfl | (simp only [S0, MTrace.rs, MP]; first | done | rfl)
theorem valid_ : Valid Try.prog Ev 94 con := VV (run := fun _ x => F x.1 x.2) mix tab_ok (.cons spec_EqualEntries.valid_ .nil) Try.func94 (by kernel_rfl) run_eq (fun _ a _ _ hg => ⟨0, okF a.1 a.2 hg⟩)
end spec_SameResult
/-! spec.GroupsOf -/
namespace spec_GroupsOf
inductive Pt where
  | p0 (a : List (List L)) (b : Int) (c : List (List L))
  | p1 (a : List (List L)) (b : Int) (c : Int) (d : Int) (e : List (List L))
def pid : Pt → Nat
  | .p0 .. => 3
  | .p1 .. => 8
def pvs : Pt → List V
  | .p0 a b c => [.sl none 124 a, .own 0, .int .i64 b]
  | .p1 a b c d e => [.sl none 124 a, .own 0, .int .i64 b, .int .i64 c, .int .i64 d]
def phs : Pt → List Root
  | .p0 a b c => [.row 116 c]
  | .p1 a b c d e => [.row 116 e]
noncomputable def step (J : Pt → Ans) : Pt → Ans
  | .p0 a b c => (bif (decide (b < (a.length : Int))) then (bif (decide ((0 : Int) ≤ b)) then (bif (decide (b < (a.length : Int))) then (call (spec_IsSilent.R (RTrace.at a (Int.toNat b))) fun v1 => (bif v1 then J (.p0 a (IntKind.i64.wrap (b + 1)) c) else J (.p1 a b (-1) 0 c))) else none) else none) else ret (c : List (List L)))
  | .p1 a b c d e => (bif (decide (d < (e.length : Int))) then (bif (decide ((0 : Int) ≤ d)) then (bif (decide (d < (e.length : Int))) then (bif (decide ((0 : Int) < ((lAt e (Int.toNat d)).length : Int))) then (bif (decide ((0 : Int) ≤ (iAt (lAt e (Int.toNat d)) 0))) then (bif (decide ((iAt (lAt e (Int.toNat d)) 0) < (a.length : Int))) then (bif (decide ((0 : Int) ≤ b)) then (bif (decide (b < (a.length : Int))) then (call (spec_SameResult.R ((RTrace.at a (Int.toNat (iAt (lAt e (Int.toNat d)) 0))), (RTrace.at a (Int.toNat b)))) fun v1 => (bif v1 then J (.p1 a b d (IntKind.i64.wrap (d + 1)) e) else J (.p1 a b c (IntKind.i64.wrap (d + 1)) e))) else none) else none) else none) else none) else none) else none) else none) else (bif (decide (c < 0)) then (bif (lim (((e.length : Int) + 1) * 24)) then J (.p0 a (IntKind.i64.wrap (b + 1)) (e ++ [[L.sl [[L.int b]]]])) else none) else (bif (decide ((0 : Int) ≤ c)) then (bif (decide (c < (e.length : Int))) then (bif (lim ((((lAt e (Int.toNat c)).length : Int) + 1) * 8)) then (bif (decide ((0 : Int) ≤ c)) then (bif (decide (c < (e.length : Int))) then (bif (Nat.beq (Int.toNat c) (Int.toNat c) && true) then J (.p0 a (IntKind.i64.wrap (b + 1)) (List.set e (Int.toNat c) [L.sl ((lAt e (Int.toNat c)) ++ [[L.int b]])])) else none) else none) else none) else none) else none) else none)))
noncomputable def start (J : Pt → Ans) (x0 : List (List L)) : Ans := J (.p0 x0 0 [])
def live : Nat → Live := fun i => match i with | 3 => [(0, none), (3, some 116), (4, none)] | 8 => [(0, none), (3, some 116), (4, none), (5, none), (6, none)] | _ => []
def pats : List Pat := [.rd (.sl 124)]
def res : RP := .one (.fr 116)
noncomputable abbrev E : Env := { T := assoc Tab, G := conG [(93, spec_IsSilent.con), (94, spec_SameResult.con)], nt := 58, M := conM [], mt := true }
set_option maxRecDepth 100000
theorem step_eq (I : Heads) (p : Pt) : enterC E live I (pid p) (bodyOf Try.f42) (stOf (live (pid p)) (pvs p) (phs p)) (doneK E Try.f42 res) = step (fun q => I (pid q) (pvs q) (phs q)) p := by
  cases p <;> kernel_rfl
theorem start_eq (I : Heads) (ls : List L) : runC E live I (bodyOf Try.f42) (initS pats ls) (doneK E Try.f42 res) = start (fun q => I (pid q) (pvs q) (phs q)) (ls.headD .hole).toSl := by kernel_rfl
theorem run_eq (n : Nat) (ls : List L) : runF E live Try.f42 res n (initS pats ls) = start (iter step n) (ls.headD .hole).toSl := runF_iter (id := pid) (vs := pvs) (hs := phs) (step := step) (start := fun J => start J (ls.headD .hole).toSl) step_eq (fun I => start_eq I ls) n
noncomputable def hd (xs : List MTrace) (g : List Int) : MTrace := xs.getD (Int.toNat (g.getD 0 0)) MTrace.zero
noncomputable def put (xs : List MTrace) (i : Nat) (t : MTrace) : List (List Int) → List (List Int)
  | [] => [[(i : Int)]]
  | g :: gs => bif spec_SameResult.md (hd xs g) t then (g ++ [(i : Int)]) :: gs else g :: put xs i t gs
noncomputable def grp (xs : List MTrace) : Nat → List (List Int)
  | 0 => []
  | k + 1 => bif spec_IsSilent.md (xs.getD k MTrace.zero) then grp xs k else put xs k (xs.getD k MTrace.zero) (grp xs k)
theorem same_iff {a b : MTrace} : spec_SameResult.md a b = true ↔ a.fCode = b.fCode ∧ a.fEntry = b.fEntry := by
  unfold spec_SameResult.md
  rw [spec_EqualEntries.md_eq]
  by_cases h : a.fCode = b.fCode
  · rw [show (a.fCode == b.fCode) = true from beq_iff_eq.2 h, cond_true, eqB_iff]
    exact ⟨fun h2 => ⟨h, h2⟩, fun h2 => h2.2⟩
  · rw [show (a.fCode == b.fCode) = false from beq_eq_false_iff_ne.2 h, cond_false]
    exact ⟨fun h2 => (nomatch h2), fun h2 => (h h2.1).elim⟩
theorem same_trans {a b t : MTrace} (h : spec_SameResult.md a t = true) (h2 : spec_SameResult.md b t = true) : spec_SameResult.md a b = true :=
  same_iff.2 ⟨(same_iff.1 h).1.trans (same_iff.1 h2).1.symm, (same_iff.1 h).2.trans (same_iff.1 h2).2.symm⟩
theorem put_at (xs : List MTrace) (i : Nat) (t : MTrace) : ∀ out : List (List Int), ∃ n, n ≤ out.length ∧ (∀ j, j < n → spec_SameResult.md (hd xs (out.getD j [])) t = false) ∧
    ((n < out.length ∧ spec_SameResult.md (hd xs (out.getD n [])) t = true ∧ put xs i t out = out.set n (out.getD n [] ++ [(i : Int)])) ∨ (n = out.length ∧ put xs i t out = out ++ [[(i : Int)]]))
  | [] => ⟨0, Nat.le_refl _, fun j hj => by omega, .inr ⟨rfl, rfl⟩⟩
  | g :: gs => by
    cases h : spec_SameResult.md (hd xs g) t
    · obtain ⟨n, h1, h2, h3⟩ := put_at xs i t gs
      refine ⟨n + 1, by simpa using h1, fun j hj => ?_, ?_⟩
      · cases j with
        | zero => exact h
        | succ j => exact h2 j (by omega)
      · rcases h3 with ⟨a, b, c⟩ | ⟨a, c⟩
        · exact .inl ⟨by simpa using a, b, by simp [put, h, c]⟩
        · exact .inr ⟨by simpa using a, by simp [put, h, c]⟩
    · exact ⟨0, Nat.zero_le _, fun j hj => by omega, .inl ⟨by simp, h, by simp [put, h]⟩⟩
/-- The groups: they hold something, their first ones are traces, and no two have the same result. -/
def Inv (xs : List MTrace) (k : Nat) (out : List (List Int)) : Prop :=
  out.length ≤ k ∧ (∀ g ∈ out, 1 ≤ g.length ∧ g.length ≤ k ∧ 0 ≤ g.getD 0 0 ∧ g.getD 0 0 < (xs.length : Int)) ∧
  ∀ i j, i < j → j < out.length → spec_SameResult.md (hd xs (out.getD i [])) (hd xs (out.getD j [])) = false
theorem head_app {g : List Int} {v : Int} (h : 1 ≤ g.length) : (g ++ [v]).getD 0 0 = g.getD 0 0 := by
  cases g with
  | nil => simp at h
  | cons a g => rfl
theorem put_inv {xs : List MTrace} {k : Nat} {out : List (List Int)} (h : Inv xs k out) (hk : k < xs.length) : Inv xs (k + 1) (put xs k (xs.getD k MTrace.zero) out) := by
  obtain ⟨h1, h2, h3⟩ := h
  obtain ⟨n, hn, hlt, hcase⟩ := put_at xs k (xs.getD k MTrace.zero) out
  rcases hcase with ⟨hnl, hsame, hput⟩ | ⟨rfl, hput⟩
  · rw [hput]
    obtain ⟨p1, p2, p3, p4⟩ := h2 (out.getD n []) (by rw [getD_lt hnl]; exact List.getElem_mem _)
    have hset : ∀ i, i < out.length → hd xs ((out.set n (out.getD n [] ++ [(k : Int)])).getD i []) = hd xs (out.getD i []) := by
      intro i hi
      by_cases hin : n = i
      · subst hin
        have : (out.set n (out.getD n [] ++ [(k : Int)])).getD n [] = out.getD n [] ++ [(k : Int)] := by simp [List.getD_eq_getElem?_getD, hi]
        rw [this]; unfold hd; rw [head_app p1]
      · have : (out.set n (out.getD n [] ++ [(k : Int)])).getD i [] = out.getD i [] := by simp [List.getD_eq_getElem?_getD, List.getElem?_set, hin]
        rw [this]
    refine ⟨by rw [List.length_set]; omega, fun g hg => ?_, fun i j hij hj => ?_⟩
    · rcases List.mem_or_eq_of_mem_set hg with hg | rfl
      · obtain ⟨q1, q2, q3, q4⟩ := h2 g hg
        exact ⟨q1, by omega, q3, q4⟩
      · rw [head_app p1, List.length_append]
        exact ⟨by omega, by simp only [List.length_singleton]; omega, p3, p4⟩
    · rw [List.length_set] at hj
      rw [hset i (by omega), hset j hj]
      exact h3 i j hij hj
  · rw [hput]
    refine ⟨by simp; omega, fun g hg => ?_, fun i j hij hj => ?_⟩
    · rcases List.mem_append.1 hg with hg | hg
      · obtain ⟨q1, q2, q3, q4⟩ := h2 g hg
        exact ⟨q1, by omega, q3, q4⟩
      · rw [List.mem_singleton.1 hg]
        exact ⟨by simp, by simp, by simp, by simp; omega⟩
    · rw [List.length_append, List.length_singleton] at hj
      have hi : (out ++ [[(k : Int)]]).getD i [] = out.getD i [] := by
        simp only [List.getD_eq_getElem?_getD]; rw [List.getElem?_append_left (by omega)]
      rw [hi]
      by_cases hjl : j < out.length
      · have hj2 : (out ++ [[(k : Int)]]).getD j [] = out.getD j [] := by
          simp only [List.getD_eq_getElem?_getD]; rw [List.getElem?_append_left hjl]
        rw [hj2]; exact h3 i j hij hjl
      · obtain rfl : j = out.length := by omega
        have hj2 : (out ++ [[(k : Int)]]).getD out.length [] = [(k : Int)] := by simp [List.getD_eq_getElem?_getD]
        rw [hj2]
        exact hlt i hij
theorem Inv.mono {xs : List MTrace} {k l : Nat} {out : List (List Int)} (h : Inv xs k out) (hk : k ≤ l) : Inv xs l out :=
  ⟨Nat.le_trans h.1 hk, fun g hg => let ⟨a, b, c⟩ := h.2.1 g hg; ⟨a, Nat.le_trans b hk, c⟩, h.2.2⟩
theorem grp_inv (xs : List MTrace) : ∀ k : Nat, k ≤ xs.length → Inv xs k (grp xs k)
  | 0, _ => ⟨Nat.le_refl _, fun _ h => (nomatch h), fun i j _ h => by simp [grp] at h⟩
  | k + 1, hk => by
    have ih := grp_inv xs k (by omega)
    unfold grp
    cases spec_IsSilent.md (xs.getD k MTrace.zero)
    · exact put_inv ih (by omega)
    · exact ih.mono (Nat.le_succ k)
noncomputable def md (a0 : List MTrace) : List (List Int) := grp a0 a0.length
def gd (a0 : List MTrace) : Prop := SmL (2 ^ 21) (fun y : MTrace => MTrace.Sm (2 ^ 21) y) a0
def acc (ls : List L) : List (List L) := (ls.headD .hole).toSl
noncomputable def R : (List (List L)) → Option (List (List L)) := RR gd md
theorem R_eq {a0} (h : gd a0) : R (a0.map MTrace.row) = some ((md a0).map (lRow iRow)) := RR_eq (a := a0) h
noncomputable def con : Con := CN pats res acc R
theorem okF (a0 : List MTrace) (hg : gd a0) : ∃ n, start (iter step n) (a0.map MTrace.row) = ret (((md a0).map (lRow iRow)) : List (List L)) := by
  unfold gd at hg
  have hl := hg.1
  have inner : ∀ (k : Nat) (out : List (List Int)) (X : Ans), k < a0.length → Inv a0 k out → (∃ m, iter step m (Pt.p0 (a0.map MTrace.row) ((k + 1 : Nat) : Int) ((put a0 k (a0.getD k MTrace.zero) out).map (lRow iRow))) = X) →
      ∃ m, iter step m (Pt.p1 (a0.map MTrace.row) (k : Int) (-1) 0 (out.map (lRow iRow))) = X := by
    intro k out X hk hI hX
    have hol := hI.1
    have hs : ∀ (J : Pt → Ans) (c : Int) (j : Nat), j < out.length → step J (Pt.p1 (a0.map MTrace.row) (k : Int) c (j : Int) (out.map (lRow iRow))) =
        (bif spec_SameResult.md (hd a0 (out.getD j [])) (a0.getD k MTrace.zero) then J (Pt.p1 (a0.map MTrace.row) (k : Int) (j : Int) ((j + 1 : Nat) : Int) (out.map (lRow iRow))) else J (Pt.p1 (a0.map MTrace.row) (k : Int) c ((j + 1 : Nat) : Int) (out.map (lRow iRow)))) := by
      intro J c j hj
      obtain ⟨p1, p2, p3, p4⟩ := hI.2.1 (out.getD j []) (by rw [getD_lt hj]; exact List.getElem_mem _)
      have q1 : (j : Int) < (out.length : Int) := by omega
      have q2 : (0 : Int) ≤ (j : Int) := by omega
      have q3 : (0 : Int) < ((out.getD j []).length : Int) := by omega
      have q6 : (0 : Int) ≤ (k : Int) := by omega
      have q7 : (k : Int) < (a0.length : Int) := by omega
      simp only [step, S0, MTrace.rs, q1, q2, q3, p3, p4, q6, q7, decide_true, cond_true]
      rw [call_eq (spec_SameResult.R_eq ⟨SmL.getD hg (by omega), SmL.getD hg (by omega)⟩), wi _ (by omega)]
      rfl
    obtain ⟨n, hn, hlt, hcase⟩ := put_at a0 k (a0.getD k MTrace.zero) out
    have hend : ∀ (J : Pt → Ans) (c : Int), step J (Pt.p1 (a0.map MTrace.row) (k : Int) c (out.length : Int) (out.map (lRow iRow))) =
        (bif decide (c < 0) then J (Pt.p0 (a0.map MTrace.row) ((k + 1 : Nat) : Int) ((out ++ [[(k : Int)]]).map (lRow iRow))) else (bif decide ((0 : Int) ≤ c) then (bif decide (c < (out.length : Int)) then (bif lim ((((out.getD (Int.toNat c) []).length : Int) + 1) * 8) then (bif decide ((0 : Int) ≤ c) then (bif decide (c < (out.length : Int)) then (bif (Nat.beq (Int.toNat c) (Int.toNat c) && true) then J (Pt.p0 (a0.map MTrace.row) ((k + 1 : Nat) : Int) ((out.set (Int.toNat c) (out.getD (Int.toNat c) [] ++ [(k : Int)])).map (lRow iRow))) else none) else none) else none) else none) else none) else none)) := by
      intro J c
      simp only [step, S0, MTrace.rs]
      rw [decide_eq_false (show ¬ (out.length : Int) < (out.length : Int) by omega), cond_false, lim_t (by omega), cond_true, wi _ (by omega)]
      simp only [MP]
      rfl
    rcases hcase with ⟨hnl, hsame, hput⟩ | ⟨rfl, hput⟩
    · -- a group is there
      rw [hput] at hX
      obtain ⟨m, hm⟩ := hX
      obtain ⟨p1, p2, p3, p4⟩ := hI.2.1 (out.getD n []) (by rw [getD_lt hnl]; exact List.getElem_mem _)
      have late : ∀ d j, j + d = out.length → n < j → ∃ m, iter step m (Pt.p1 (a0.map MTrace.row) (k : Int) (n : Int) (j : Int) (out.map (lRow iRow))) = X := by
        intro d
        induction d with
        | zero =>
          intro j hj _
          obtain rfl : j = out.length := by omega
          refine ⟨m + 1, (hend _ _).trans ?_⟩
          have e : Int.toNat (n : Int) = n := by omega
          rw [decide_eq_false (by omega), cond_false, decide_eq_true (by omega), cond_true, decide_eq_true (by omega), cond_true, e, lim_t (by omega), cond_true, cond_true, cond_true, beq_t, cond_true]
          exact hm
        | succ d ih =>
          intro j hj hnj
          obtain ⟨m2, hm2⟩ := ih (j + 1) (by omega) (by omega)
          refine ⟨m2 + 1, (hs _ _ j (by omega)).trans ?_⟩
          have : spec_SameResult.md (hd a0 (out.getD j [])) (a0.getD k MTrace.zero) = false := by
            cases hc : spec_SameResult.md (hd a0 (out.getD j [])) (a0.getD k MTrace.zero) with
            | false => rfl
            | true =>
              have h1 := hI.2.2 n j hnj (by omega)
              rw [same_trans hsame hc] at h1
              cases h1
          rw [this, cond_false]
          exact hm2
      have early : ∀ d j, j + d = n → ∃ m, iter step m (Pt.p1 (a0.map MTrace.row) (k : Int) (-1) (j : Int) (out.map (lRow iRow))) = X := by
        intro d
        induction d with
        | zero =>
          intro j hj
          obtain rfl : j = n := by omega
          obtain ⟨m2, hm2⟩ := late (out.length - (j + 1)) (j + 1) (by omega) (by omega)
          refine ⟨m2 + 1, (hs _ _ j hnl).trans ?_⟩
          rw [hsame, cond_true]
          exact hm2
        | succ d ih =>
          intro j hj
          obtain ⟨m2, hm2⟩ := ih (j + 1) (by omega)
          refine ⟨m2 + 1, (hs _ _ j (by omega)).trans ?_⟩
          rw [hlt j (by omega), cond_false]
          exact hm2
      exact early n 0 (by omega)
    · -- a new one
      rw [hput] at hX
      obtain ⟨m, hm⟩ := hX
      have early : ∀ d j, j + d = out.length → ∃ m, iter step m (Pt.p1 (a0.map MTrace.row) (k : Int) (-1) (j : Int) (out.map (lRow iRow))) = X := by
        intro d
        induction d with
        | zero =>
          intro j hj
          obtain rfl : j = out.length := by omega
          refine ⟨m + 1, (hend _ _).trans ?_⟩
          rw [decide_eq_true (by omega), cond_true]
          exact hm
        | succ d ih =>
          intro j hj
          obtain ⟨m2, hm2⟩ := ih (j + 1) (by omega)
          refine ⟨m2 + 1, (hs _ _ j (by omega)).trans ?_⟩
          rw [hlt j (by omega), cond_false]
          exact hm2
      exact early out.length 0 (by omega)
  have outer : ∀ d k, k + d = a0.length → ∃ m, iter step m (Pt.p0 (a0.map MTrace.row) (k : Int) ((grp a0 k).map (lRow iRow))) = ret ((grp a0 a0.length).map (lRow iRow) : List (List L)) := by
    intro d
    induction d with
    | zero =>
      intro k hk
      obtain rfl : k = a0.length := by omega
      refine ⟨1, ?_⟩
      show step (iter step 0) _ = _
      simp only [step, S0]
      exact no_ret (decide_eq_false (by omega)) rfl
    | succ d ih =>
      intro k hk
      have hX := ih (k + 1) (by omega)
      have hI := grp_inv a0 k (by omega)
      have hst : ∀ J : Pt → Ans, step J (Pt.p0 (a0.map MTrace.row) (k : Int) ((grp a0 k).map (lRow iRow))) = (bif spec_IsSilent.md (a0.getD k MTrace.zero) then J (Pt.p0 (a0.map MTrace.row) ((k + 1 : Nat) : Int) ((grp a0 k).map (lRow iRow))) else J (Pt.p1 (a0.map MTrace.row) (k : Int) (-1) 0 ((grp a0 k).map (lRow iRow)))) := by
        intro J
        have q6 : (0 : Int) ≤ (k : Int) := by omega
        have q7 : (k : Int) < (a0.length : Int) := by omega
        simp only [step, S0, MTrace.rs, q6, q7, decide_true, cond_true]
        rw [call_eq (spec_IsSilent.R_eq trivial), wi _ (by omega)]
        rfl
      have eg : grp a0 (k + 1) = (bif spec_IsSilent.md (a0.getD k MTrace.zero) then grp a0 k else put a0 k (a0.getD k MTrace.zero) (grp a0 k)) := rfl
      rw [eg] at hX
      cases hs : spec_IsSilent.md (a0.getD k MTrace.zero)
      · rw [hs, cond_false] at hX
        obtain ⟨m, hm⟩ := inner k (grp a0 k) _ (by omega) hI hX
        refine ⟨m + 1, (hst _).trans ?_⟩
        rw [hs, cond_false]; exact hm
      · rw [hs, cond_true] at hX
        obtain ⟨m, hm⟩ := hX
        refine ⟨m + 1, (hst _).trans ?_⟩
        rw [hs, cond_true]; exact hm
  unfold start md
  exact outer a0.length 0 (by omega)
theorem valid_ : Valid Try.prog Ev 42 con := VT (run := fun n x => start (iter step n) x) mix tab_ok (.cons spec_IsSilent.valid_ (.cons spec_SameResult.valid_ .nil)) .nil Try.func42 (by kernel_rfl) run_eq (fun _ a _ _ hg => okF a hg)
end spec_GroupsOf
/-! spec.l5Copy -/
namespace spec_l5Copy
noncomputable def F (x0 : List (List L)) : Ans := (bif (lim ((x0.length : Int) * 16)) then ret (x0 : List (List L)) else none)
def pats : List Pat := [.rd (.sl 9)]
def res : RP := .one (.fr 9)
noncomputable abbrev E : Env := { T := assoc Tab, G := conG [], nt := 6 }
set_option maxRecDepth 100000
theorem run_eq (n : Nat) (ls : List L) : runF E (fun _ => []) Try.f78 res n (initS pats ls) = F (ls.headD .hole).toSl := by kernel_rfl
noncomputable def md (a0 : List ByteArray) : List ByteArray := a0
def gd (a0 : List ByteArray) : Prop := (SmL (2 ^ 21) (fun y : ByteArray => y.size ≤ (2 ^ 21)) a0)
def acc (ls : List L) : List (List L) := (ls.headD .hole).toSl
noncomputable def R : (List (List L)) → Option (List (List L)) := RR gd md
theorem R_eq {a0} (h : gd a0) : R (a0.map sRow) = some ((md a0).map sRow) := RR_eq (a := a0) h
noncomputable def con : Con := CN pats res acc R
theorem okF (a0 : List ByteArray) (hg : gd a0) : F (a0.map sRow) = ret (((md a0).map sRow) : List (List L)) := by
  unfold gd at hg
  have H0 := hg
  unfold F md
  try simp only [S0]
  refine yes_ret (by
      have := (H0).1
      refine lim_t ?_
      try simp (disch := omega) only [LN, wi]
      first | omega | (simp; done) | (simp; omega)) ?_
  all_goals first | rfl | (simp only [S0]; done) | (simp only [MP]; rfl) | (simp only [S0, MP]; first | done | rfl)
theorem valid_ : Valid Try.prog Ev 78 con := VV (run := fun _ x => F x) mix tab_ok .nil Try.func78 (by kernel_rfl) run_eq (fun _ a _ _ hg => ⟨0, okF a hg⟩)
end spec_l5Copy
/-! spec.l8Copy -/
namespace spec_l8Copy
noncomputable def F (x0 : REntry) : Ans := (call (spec_l5Copy.R x0.fPath) fun v1 => ret ((⟨x0.fLabel, x0.fKind, x0.fValue, v1⟩ : REntry) : REntry))
def pats : List Pat := [.agg [.str, .int .i64, .int .i64, .sl 9]]
def res : RP := .agg [.rd (.str), .rd (.int .i64), .rd (.int .i64), .fr 9]
noncomputable abbrev E : Env := { T := assoc Tab, G := conG [(78, spec_l5Copy.con)], nt := 13 }
set_option maxRecDepth 100000
theorem run_eq (n : Nat) (ls : List L) : runF E (fun _ => []) Try.f79 res n (initS pats ls) = F (REntry.dec ls) := by kernel_rfl
noncomputable def md (a0 : MEntry) : MEntry := a0
def gd (a0 : MEntry) : Prop := (MEntry.Sm (2 ^ 21) a0)
def acc (ls : List L) : REntry := (REntry.dec ls)
noncomputable def R : REntry → Option REntry := RR gd md
theorem R_eq {a0} (h : gd a0) : R (MEntry.r a0) = some (MEntry.r (md a0)) := RR_eq (a := a0) h
noncomputable def con : Con := CN pats res acc R
theorem okF (a0 : MEntry) (hg : gd a0) : F (MEntry.r a0) = ret ((MEntry.r (md a0)) : REntry) := by
  unfold gd at hg
  have H0 := hg
  unfold F md
  try simp only [S0, MEntry.rs]
  refine call_to (a0.fPath.map sRow) ?_ ?_
  · have R_ := spec_l5Copy.R_eq (a0 := a0.fPath) H0.2
    simp only [spec_l5Copy.md] at R_
    first | exact R_ | (simp only [MP, S0, MEntry.rs] at R_ ⊢; first | exact R_ | (rw [← R_]; rfl))
  try simp only [S0, MEntry.rs]
  all_goals first | rfl | (simp only [S0, MEntry.rs]; done) | (simp only [MP]; rfl) | (simp only [S0, MEntry.rs, MP]; first | done | rfl)
theorem valid_ : Valid Try.prog Ev 79 con := VV (run := fun _ x => F x) mix tab_ok (.cons spec_l5Copy.valid_ .nil) Try.func79 (by kernel_rfl) run_eq (fun _ a _ _ hg => ⟨0, okF a hg⟩)
end spec_l8Copy
/-! spec.Disputed -/
namespace spec_Disputed
inductive Pt where
  | p0 (a : List (List L)) (b : Int) (c : List (List L)) (d : List (List L))
def pid : Pt → Nat
  | .p0 .. => 4
def pvs : Pt → List V
  | .p0 a b c d => [.sl none 124 a, .own 0, .own 1, .int .i64 b]
def phs : Pt → List Root
  | .p0 a b c d => [.row 50 c, .row 116 d]
noncomputable def step (J : Pt → Ans) : Pt → Ans
  | .p0 a b c d => (bif (decide (b < (d.length : Int))) then (bif (decide ((d.length : Int) > 1)) then (bif (decide ((0 : Int) ≤ b)) then (bif (decide (b < (d.length : Int))) then (bif (decide ((0 : Int) < ((lAt d (Int.toNat b)).length : Int))) then (bif (decide ((0 : Int) ≤ (iAt (lAt d (Int.toNat b)) 0))) then (bif (decide ((iAt (lAt d (Int.toNat b)) 0) < (a.length : Int))) then (bif ((RTrace.at a (Int.toNat (iAt (lAt d (Int.toNat b)) 0))).fCode == 1) then (call (spec_l8Copy.R ((RTrace.at a (Int.toNat (iAt (lAt d (Int.toNat b)) 0))).fEntry)) fun v1 => (bif (lim (((c.length : Int) + 1) * 56)) then J (.p0 a (IntKind.i64.wrap (b + 1)) (c ++ [(REntry.enc v1)]) d) else none)) else J (.p0 a (IntKind.i64.wrap (b + 1)) c d)) else none) else none) else none) else none) else none) else ret (c : List (List L))) else ret (c : List (List L)))
noncomputable def start (J : Pt → Ans) (x0 : List (List L)) : Ans := (call (spec_GroupsOf.R x0) fun v1 => J (.p0 x0 0 [] v1))
def live : Nat → Live := fun i => match i with | 4 => [(0, none), (3, some 50), (4, none), (5, none)] | _ => []
def pats : List Pat := [.rd (.sl 124)]
def res : RP := .one (.fr 50)
noncomputable abbrev E : Env := { T := assoc Tab, G := conG [(42, spec_GroupsOf.con), (79, spec_l8Copy.con)], nt := 40 }
set_option maxRecDepth 100000
theorem step_eq (I : Heads) (p : Pt) : enterC E live I (pid p) (bodyOf Try.f48) (stOf (live (pid p)) (pvs p) (phs p)) (doneK E Try.f48 res) = step (fun q => I (pid q) (pvs q) (phs q)) p := by
  cases p <;> kernel_rfl
theorem start_eq (I : Heads) (ls : List L) : runC E live I (bodyOf Try.f48) (initS pats ls) (doneK E Try.f48 res) = start (fun q => I (pid q) (pvs q) (phs q)) (ls.headD .hole).toSl := by kernel_rfl
theorem run_eq (n : Nat) (ls : List L) : runF E live Try.f48 res n (initS pats ls) = start (iter step n) (ls.headD .hole).toSl := runF_iter (id := pid) (vs := pvs) (hs := phs) (step := step) (start := fun J => start J (ls.headD .hole).toSl) step_eq (fun I => start_eq I ls) n
noncomputable def dis (xs : List MTrace) (g : List Int) : List MEntry := bif (spec_GroupsOf.hd xs g).fCode == 1 then [(spec_GroupsOf.hd xs g).fEntry] else []
theorem dis_len (xs : List MTrace) (g : List Int) : (dis xs g).length ≤ 1 := by
  unfold dis
  cases ((spec_GroupsOf.hd xs g).fCode == 1)
  · exact Nat.zero_le _
  · exact Nat.le_refl _
theorem dis_sz (xs : List MTrace) (g : List Int) (n : Nat) (h : szL MTrace.size xs ≤ n) (hg : 0 ≤ g.getD 0 0 ∧ g.getD 0 0 < (xs.length : Int)) : szL MEntry.size (dis xs g) ≤ n + 1 := by
  unfold dis
  cases ((spec_GroupsOf.hd xs g).fCode == 1)
  · exact Nat.zero_le _
  · have h2 := szL_getD (f := MTrace.size) (xs := xs) (i := Int.toNat (g.getD 0 0)) (z := MTrace.zero) (by omega)
    have h3 : MEntry.size (xs.getD (Int.toNat (g.getD 0 0)) MTrace.zero).fEntry ≤ MTrace.size (xs.getD (Int.toNat (g.getD 0 0)) MTrace.zero) := by
      generalize xs.getD (Int.toNat (g.getD 0 0)) MTrace.zero = t
      unfold MTrace.size
      omega
    simp only [cond_true, szL, List.length_cons, List.length_nil, List.map_cons, List.map_nil, List.sum_cons, List.sum_nil]
    unfold spec_GroupsOf.hd
    omega
theorem flat_sz {α β : Type} {f : β → Nat} {g : α → List β} {n : Nat} : ∀ {xs : List α}, (∀ x ∈ xs, szL f (g x) ≤ n) → szL f (xs.flatMap g) ≤ xs.length * n
  | [], _ => by simp [szL]
  | x :: xs, h => by
    have h1 := h x (by simp)
    have h2 := flat_sz (xs := xs) fun y hy => h y (by simp [hy])
    simp only [szL] at h1 h2 ⊢
    simp only [List.flatMap_cons, List.length_append, List.map_append, List.sum_append, List.length_cons, Nat.add_mul]
    omega
noncomputable def md (a0 : List MTrace) : List MEntry := (bif decide ((spec_GroupsOf.md a0).length > 1) then (spec_GroupsOf.md a0).flatMap (dis a0) else [])
def gd (a0 : List MTrace) : Prop := SmL (2 ^ 21) (fun y : MTrace => MTrace.Sm (2 ^ 21) y) a0
def acc (ls : List L) : List (List L) := (ls.headD .hole).toSl
noncomputable def R : (List (List L)) → Option (List (List L)) := RR gd md
theorem R_eq {a0} (h : gd a0) : R (a0.map MTrace.row) = some ((md a0).map MEntry.row) := RR_eq (a := a0) h
noncomputable def con : Con := CN pats res acc R
theorem okF (a0 : List MTrace) (hg : gd a0) : ∃ n, start (iter step n) (a0.map MTrace.row) = ret (((md a0).map MEntry.row) : List (List L)) := by
  unfold gd at hg
  have hl := hg.1
  have hI := spec_GroupsOf.grp_inv a0 a0.length (Nat.le_refl _)
  have key : ∀ (G : List (List Int)), spec_GroupsOf.Inv a0 a0.length G → 1 < G.length → ∀ d k (c : List MEntry), k + d = G.length → c.length ≤ k → ∃ m, iter step m (Pt.p0 (a0.map MTrace.row) (k : Int) (c.map MEntry.row) (G.map (lRow iRow))) = ret ((c ++ (G.drop k).flatMap (dis a0)).map MEntry.row : List (List L)) := by
    intro G hG h1 d
    have hGl := hG.1
    induction d with
    | zero =>
      intro k c hk hc
      obtain rfl : k = G.length := by omega
      refine ⟨1, ?_⟩
      show step (iter step 0) _ = _
      simp only [step, S0]
      refine no_ret (decide_eq_false (by omega)) ?_
      rw [List.drop_eq_nil_of_le (Nat.le_refl _), List.flatMap_nil, List.append_nil]
    | succ d ih =>
      intro k c hk hc
      have hlt : k < G.length := by omega
      obtain ⟨p1, p2, p3, p4⟩ := hG.2.1 (G.getD k []) (by rw [getD_lt hlt]; exact List.getElem_mem _)
      have q1 : (k : Int) < (G.length : Int) := by omega
      have q2 : (0 : Int) ≤ (k : Int) := by omega
      have q3 : (0 : Int) < ((G.getD k []).length : Int) := by omega
      have q4 : (G.length : Int) > 1 := by omega
      have q5 : lim (((c.length : Int) + 1) * 56) = true := lim_t (by omega)
      have hdr : (G.drop k).flatMap (dis a0) = dis a0 (G.getD k []) ++ (G.drop (k + 1)).flatMap (dis a0) := by
        rw [List.drop_eq_getElem_cons hlt, List.flatMap_cons, getD_lt hlt]
      have hst : ∀ J : Pt → Ans, step J (Pt.p0 (a0.map MTrace.row) (k : Int) (c.map MEntry.row) (G.map (lRow iRow))) = J (Pt.p0 (a0.map MTrace.row) ((k + 1 : Nat) : Int) ((c ++ dis a0 (G.getD k [])).map MEntry.row) (G.map (lRow iRow))) := by
        intro J
        unfold dis spec_GroupsOf.hd
        simp only [step, S0, MTrace.rs, q1, q2, q3, q4, q5, p3, p4, decide_true, cond_true]
        rw [wi _ (by omega)]
        cases ((a0.getD (Int.toNat ((G.getD k []).getD 0 0)) MTrace.zero).fCode == 1)
        · simp only [cond_false, List.append_nil]
          rfl
        · simp only [cond_true]
          rw [call_eq (spec_l8Copy.R_eq (a0 := (a0.getD (Int.toNat ((G.getD k []).getD 0 0)) MTrace.zero).fEntry) (SmL.getD (z := MTrace.zero) hg (by omega)).2.1)]
          simp only [MP]
          rfl
      obtain ⟨m, hm⟩ := ih (k + 1) (c ++ dis a0 (G.getD k [])) (by omega) (by have := dis_len a0 (G.getD k []); rw [List.length_append]; omega)
      refine ⟨m + 1, (hst _).trans ?_⟩
      rw [hdr, ← List.append_assoc]
      exact hm
  unfold start md
  refine ex_call_to ((spec_GroupsOf.md a0).map (lRow iRow)) (spec_GroupsOf.R_eq hg) ?_
  by_cases h1 : (spec_GroupsOf.md a0).length > 1
  · obtain ⟨m, hm⟩ := key (spec_GroupsOf.md a0) hI h1 (spec_GroupsOf.md a0).length 0 [] (by omega) (Nat.le_refl _)
    refine ⟨m, ?_⟩
    rw [decide_eq_true h1, cond_true]
    exact hm
  · refine ⟨1, ?_⟩
    rw [decide_eq_false h1, cond_false]
    show step (iter step 0) _ = _
    simp only [step, S0]
    by_cases h0 : (0 : Int) < ((spec_GroupsOf.md a0).length : Int)
    · rw [decide_eq_true h0, cond_true, decide_eq_false (by omega), cond_false]; rfl
    · rw [decide_eq_false h0, cond_false]; rfl
theorem valid_ : Valid Try.prog Ev 48 con := VV (run := fun n x => start (iter step n) x) mix tab_ok (.cons spec_GroupsOf.valid_ (.cons spec_l8Copy.valid_ .nil)) Try.func48 (by kernel_rfl) run_eq (fun _ a _ _ hg => okF a hg)
end spec_Disputed
/-! impl.IsSilent -/
namespace impl_IsSilent
noncomputable def F (x0 : RTrace) : Ans := (bif (x0.fCode == 3) then ret (true : Bool) else (bif (x0.fCode == 5) then ret (true : Bool) else ret ((x0.fCode == 6) : Bool)))
def pats : List Pat := [.agg [.sl 149, .sl 158, .int .i64, .str, .int .i64, .int .i64, .sl 9, .sl 3, .int .i64]]
def res : RP := .one (.rd (.bool))
noncomputable abbrev E : Env := { T := assoc Tab, G := conG [], nt := 16 }
set_option maxRecDepth 100000
theorem run_eq (n : Nat) (ls : List L) : runF E (fun _ => []) Try.f95 res n (initS pats ls) = F (RTrace.dec ls) := by kernel_rfl
noncomputable def md (a0 : MTrace) : Bool := (bif (a0.fCode == 3) then (true : Bool) else (bif (a0.fCode == 5) then (true : Bool) else ((a0.fCode == 6) : Bool)))
def gd (a0 : MTrace) : Prop := True
def acc (ls : List L) : RTrace := (RTrace.dec ls)
noncomputable def R : RTrace → Option Bool := RR gd md
theorem R_eq {a0} (h : gd a0) : R (MTrace.r a0) = some (md a0) := RR_eq (a := a0) h
noncomputable def con : Con := CN pats res acc R
theorem okF (a0 : MTrace) (hg : gd a0) : F (MTrace.r a0) = ret ((md a0) : Bool) := by
  unfold F md
  try simp only [S0, MTrace.rs]
  refine bif_out ret (fun _ => rfl) (fun c1 => ?_)
  refine bif_out ret (fun _ => rfl) (fun c2 => ?_)
  all_goals first | rfl | (simp only [S0, MTrace.rs, MP]; first | done | rfl)
theorem valid_ : Valid Try.prog Ev 95 con := VV (run := fun _ x => F x) mix tab_ok .nil Try.func95 (by kernel_rfl) run_eq (fun _ a _ _ hg => ⟨0, okF a hg⟩)
theorem br (a0 : MTrace) : md a0 = spec_IsSilent.md a0 := by
  unfold md spec_IsSilent.md
  first
  | (simp only [id]; done)
  | (simp only [id]; rfl)
  | rfl
end impl_IsSilent
/-! slices.Equal[[]string,string] -/
namespace slices_Equal_Sstring_string
inductive Pt where
  | p0 (a : List (List L)) (b : List (List L)) (c : Int) (d : Int)
def pid : Pt → Nat
  | .p0 .. => 4
def pvs : Pt → List V
  | .p0 a b c d => [.sl none 9 a, .sl none 9 b, .int .i64 c, .int .i64 d]
def phs : Pt → List Root
  | .p0 a b c d => []
noncomputable def step (J : Pt → Ans) : Pt → Ans
  | .p0 a b c d => (bif (decide (d < c)) then (bif (decide ((0 : Int) ≤ d)) then (bif (decide (d < (a.length : Int))) then (bif (decide ((0 : Int) ≤ d)) then (bif (decide (d < (b.length : Int))) then (bif (!((sAt a (Int.toNat d)) == (sAt b (Int.toNat d)))) then ret (false : Bool) else J (.p0 a b c (IntKind.i64.wrap (d + 1)))) else none) else none) else none) else none) else ret (true : Bool))
noncomputable def start (J : Pt → Ans) (x0 : List (List L)) (x1 : List (List L)) : Ans := (bif ((x0.length : Int) != (x1.length : Int)) then ret (false : Bool) else J (.p0 x0 x1 (x0.length : Int) 0))
def live : Nat → Live := fun i => match i with | 4 => [(0, none), (1, none), (12, none), (13, none)] | _ => []
def pats : List Pat := [.rd (.sl 9), .rd (.sl 9)]
def res : RP := .one (.rd (.bool))
noncomputable abbrev E : Env := { T := assoc Tab, G := conG [], nt := 26 }
set_option maxRecDepth 100000
theorem step_eq (I : Heads) (p : Pt) : enterC E live I (pid p) (bodyOf Try.f131) (stOf (live (pid p)) (pvs p) (phs p)) (doneK E Try.f131 res) = step (fun q => I (pid q) (pvs q) (phs q)) p := by
  cases p <;> kernel_rfl
theorem start_eq (I : Heads) (ls : List L) : runC E live I (bodyOf Try.f131) (initS pats ls) (doneK E Try.f131 res) = start (fun q => I (pid q) (pvs q) (phs q)) (ls.headD .hole).toSl ((dropT 1 ls).headD .hole).toSl := by kernel_rfl
theorem run_eq (n : Nat) (ls : List L) : runF E live Try.f131 res n (initS pats ls) = start (iter step n) (ls.headD .hole).toSl ((dropT 1 ls).headD .hole).toSl := runF_iter (id := pid) (vs := pvs) (hs := phs) (step := step) (start := fun J => start J (ls.headD .hole).toSl ((dropT 1 ls).headD .hole).toSl) step_eq (fun I => start_eq I ls) n
noncomputable def md (a0 : List ByteArray) (a1 : List ByteArray) : Bool := (bif ((a0.length : Int) != (a1.length : Int)) then (false : Bool) else (loopM (S := Unit) (β := Bool) (fun (i2 : Nat) (s4 : Unit) => (bif (!((a0.getD i2 ⟨#[]⟩) == (a1.getD i2 ⟨#[]⟩))) then (.inr (false : Bool)) else (.inl ()))) (fun (s4 : Unit) => (true : Bool)) a0.length 0 ()))
def gd (a0 : List ByteArray) (a1 : List ByteArray) : Prop := (SmL (2 ^ 21) (fun y : ByteArray => y.size ≤ (2 ^ 21)) a0) ∧ (SmL (2 ^ 21) (fun y : ByteArray => y.size ≤ (2 ^ 21)) a1)
def acc (ls : List L) : List (List L) × List (List L) := ((ls.headD .hole).toSl, ((dropT 1 ls).headD .hole).toSl)
noncomputable def R : (List (List L) × List (List L)) → Option Bool := RR (p2 gd) (u2 md)
theorem R_eq {a0} {a1} (h : gd a0 a1) : R ((a0.map sRow), (a1.map sRow)) = some (md a0 a1) := RR_eq (a := (a0, a1)) h
noncomputable def con : Con := CN pats res acc R
theorem okF (a0 : List ByteArray) (a1 : List ByteArray) (hg : gd a0 a1) : ∃ n, start (iter step n) (a0.map sRow) (a1.map sRow) = ret ((md a0 a1) : Bool) := by
  unfold gd at hg
  obtain ⟨H0, H1⟩ := hg
  unfold start md
  try simp only [S0]
  refine ex_bif ret (fun _ => ⟨0, rfl⟩) (fun c1 => ?_)
  have dc1 := c1
  try simp only [DC] at dc1
  have Bh3 : a0.length ≤ maxLen := (by
      have := (H0).1
      try simp only [maxLen] at *
      omega)
  refine ex_pt (p := Pt.p0 (a0.map sRow) (a1.map sRow) (a0.length : Int) 0) (by first | rfl | (simp only [S0, MP]; done) | (simp only [MP]; rfl)) ?_
  refine loopM_ok (pt := fun (i2 : Nat) (s4 : Unit) => Pt.p0 (a0.map sRow) (a1.map sRow) (a0.length : Int) (i2 : Int)) (s := (() : Unit)) (out := ret) (fun _ _ => True) (fun J i2 s4 h3 hih3 => ?_) (fun s4 hih3 => ?_) trivial
  · simp only [step, S0]
    have bb_ := Bh3
    simp only [maxLen] at bb_
    have := (H0).1
    refine Rnd.yes (by apply decide_eq_true; omega) ?_
    refine Rnd.yes zle_dec ?_
    refine Rnd.yes (lt_dec h3) ?_
    refine Rnd.yes zle_dec ?_
    refine Rnd.yes (by
        have := (H1).1
        refine decide_eq_true ?_
        try simp (disch := omega) only [LN, wi]
        first | omega | (simp; done) | (simp; omega)) ?_
    refine Rnd.bif (fun _ => Rnd.inr rfl) (fun c5 => ?_)
    refine Rnd.inl trivial ?_
    rw [wrap_succ h3 Bh3]
    all_goals first | rfl | (simp only [S0, MP]; first | done | rfl)
  · simp only [step, S0]
    have := (H0).1
    refine ex_no (by apply decide_eq_false; omega) ?_
    refine ⟨0, ?_⟩
    all_goals first | rfl | (simp only [S0, MP]; first | done | rfl)
theorem valid_ : Valid Try.prog Ev 131 con := VV (run := fun n x => start (iter step n) x.1 x.2) mix tab_ok .nil Try.func131 (by kernel_rfl) run_eq (fun _ a _ _ hg => okF a.1 a.2 hg)
theorem md_eq (a0 : List ByteArray) (a1 : List ByteArray) : md a0 a1 = eqB a0 a1 := by
  unfold md
  refine loop_eqB (⟨#[]⟩) (fun i s h h2 => ?_) (fun s => rfl)
  simp only [bne, int_beq, bool_beq, ba_beq]
  cases eqB _ _ <;> rfl
end slices_Equal_Sstring_string
/-! impl.EqualEntries -/
namespace impl_EqualEntries
noncomputable def F (x0 : REntry) (x1 : REntry) : Ans := (bif (x0.fLabel == x1.fLabel) then (bif (x0.fKind == x1.fKind) then (bif (x0.fValue == x1.fValue) then (call (slices_Equal_Sstring_string.R (x0.fPath, x1.fPath)) fun v1 => ret (v1 : Bool)) else ret (false : Bool)) else ret (false : Bool)) else ret (false : Bool))
def pats : List Pat := [.agg [.str, .int .i64, .int .i64, .sl 9], .agg [.str, .int .i64, .int .i64, .sl 9]]
def res : RP := .one (.rd (.bool))
noncomputable abbrev E : Env := { T := assoc Tab, G := conG [(131, slices_Equal_Sstring_string.con)], nt := 31 }
set_option maxRecDepth 100000
theorem run_eq (n : Nat) (ls : List L) : runF E (fun _ => []) Try.f107 res n (initS pats ls) = F (REntry.dec ls) (REntry.dec (dropT 4 ls)) := by kernel_rfl
noncomputable def md (a0 : MEntry) (a1 : MEntry) : Bool := (bif (a0.fLabel == a1.fLabel) then (bif (a0.fKind == a1.fKind) then (bif (a0.fValue == a1.fValue) then ((slices_Equal_Sstring_string.md a0.fPath a1.fPath) : Bool) else (false : Bool)) else (false : Bool)) else (false : Bool))
def gd (a0 : MEntry) (a1 : MEntry) : Prop := (MEntry.Sm (2 ^ 21) a0) ∧ (MEntry.Sm (2 ^ 21) a1)
def acc (ls : List L) : REntry × REntry := ((REntry.dec ls), (REntry.dec (dropT 4 ls)))
noncomputable def R : (REntry × REntry) → Option Bool := RR (p2 gd) (u2 md)
theorem R_eq {a0} {a1} (h : gd a0 a1) : R ((MEntry.r a0), (MEntry.r a1)) = some (md a0 a1) := RR_eq (a := (a0, a1)) h
noncomputable def con : Con := CN pats res acc R
theorem okF (a0 : MEntry) (a1 : MEntry) (hg : gd a0 a1) : F (MEntry.r a0) (MEntry.r a1) = ret ((md a0 a1) : Bool) := by
  unfold gd at hg
  obtain ⟨H0, H1⟩ := hg
  unfold F md
  try simp only [S0, MEntry.rs]
  refine bif_out ret (fun c1 => ?_) (fun _ => rfl)
  refine bif_out ret (fun c2 => ?_) (fun _ => rfl)
  refine bif_out ret (fun c3 => ?_) (fun _ => rfl)
  refine call_to (slices_Equal_Sstring_string.md a0.fPath a1.fPath) (slices_Equal_Sstring_string.R_eq (a0 := a0.fPath) (a1 := a1.fPath) ⟨H0.2, H1.2⟩) ?_
  all_goals first | rfl | (simp only [S0, MEntry.rs, MP]; first | done | rfl)
theorem valid_ : Valid Try.prog Ev 107 con := VV (run := fun _ x => F x.1 x.2) mix tab_ok (.cons slices_Equal_Sstring_string.valid_ .nil) Try.func107 (by kernel_rfl) run_eq (fun _ a _ _ hg => ⟨0, okF a.1 a.2 hg⟩)
theorem md_eq (a0 : MEntry) (a1 : MEntry) : md a0 a1 = eqB a0 a1 := by
  unfold md
  cases a0; cases a1
  rw [Bool.eq_iff_iff]
  simp [eqB_iff, ba_beq, MEntry.mk.injEq, slices_Equal_Sstring_string.md_eq]
  try (constructor <;> (intro h; simp_all))
end impl_EqualEntries
/-! impl.SameResult -/
namespace impl_SameResult
noncomputable def F (x0 : RTrace) (x1 : RTrace) : Ans := (bif (x0.fCode == x1.fCode) then (call (impl_EqualEntries.R (x0.fEntry, x1.fEntry)) fun v1 => ret (v1 : Bool)) else ret (false : Bool))
def pats : List Pat := [.agg [.sl 149, .sl 158, .int .i64, .str, .int .i64, .int .i64, .sl 9, .sl 3, .int .i64], .agg [.sl 149, .sl 158, .int .i64, .str, .int .i64, .int .i64, .sl 9, .sl 3, .int .i64]]
def res : RP := .one (.rd (.bool))
noncomputable abbrev E : Env := { T := assoc Tab, G := conG [(107, impl_EqualEntries.con)], nt := 17 }
set_option maxRecDepth 100000
theorem run_eq (n : Nat) (ls : List L) : runF E (fun _ => []) Try.f96 res n (initS pats ls) = F (RTrace.dec ls) (RTrace.dec (dropT 9 ls)) := by kernel_rfl
noncomputable def md (a0 : MTrace) (a1 : MTrace) : Bool := (bif (a0.fCode == a1.fCode) then ((impl_EqualEntries.md a0.fEntry a1.fEntry) : Bool) else (false : Bool))
def gd (a0 : MTrace) (a1 : MTrace) : Prop := (MTrace.Sm (2 ^ 21) a0) ∧ (MTrace.Sm (2 ^ 21) a1)
def acc (ls : List L) : RTrace × RTrace := ((RTrace.dec ls), (RTrace.dec (dropT 9 ls)))
noncomputable def R : (RTrace × RTrace) → Option Bool := RR (p2 gd) (u2 md)
theorem R_eq {a0} {a1} (h : gd a0 a1) : R ((MTrace.r a0), (MTrace.r a1)) = some (md a0 a1) := RR_eq (a := (a0, a1)) h
noncomputable def con : Con := CN pats res acc R
theorem okF (a0 : MTrace) (a1 : MTrace) (hg : gd a0 a1) : F (MTrace.r a0) (MTrace.r a1) = ret ((md a0 a1) : Bool) := by
  unfold gd at hg
  obtain ⟨H0, H1⟩ := hg
  unfold F md
  try simp only [S0, MTrace.rs]
  refine bif_out ret (fun c1 => ?_) (fun _ => rfl)
  refine call_to (impl_EqualEntries.md a0.fEntry a1.fEntry) (impl_EqualEntries.R_eq (a0 := a0.fEntry) (a1 := a1.fEntry) ⟨H0.2.1, H1.2.1⟩) ?_
  all_goals first | rfl | (simp only [S0, MTrace.rs, MP]; first | done | rfl)
theorem valid_ : Valid Try.prog Ev 96 con := VV (run := fun _ x => F x.1 x.2) mix tab_ok (.cons impl_EqualEntries.valid_ .nil) Try.func96 (by kernel_rfl) run_eq (fun _ a _ _ hg => ⟨0, okF a.1 a.2 hg⟩)
theorem br (a0 : MTrace) (a1 : MTrace) : md a0 a1 = spec_SameResult.md a0 a1 := by
  unfold md spec_SameResult.md
  first
  | (simp only [impl_EqualEntries.md_eq, spec_EqualEntries.md_eq]; done)
  | (simp only [impl_EqualEntries.md_eq, spec_EqualEntries.md_eq]; rfl)
  | rfl
end impl_SameResult
/-! impl.GroupsOf -/
namespace impl_GroupsOf
inductive Pt where
  | p0 (a : List (List L)) (b : List (List L)) (c : Int) (d : Int) (e : List (List L))
  | p1 (a : List (List L)) (b : Int) (c : List (List L)) (d : Int) (e : Int) (f : Int) (g : Int) (h : List (List L)) (i : RTrace)
def pid : Pt → Nat
  | .p0 .. => 3
  | .p1 .. => 7
def pvs : Pt → List V
  | .p0 a b c d e => [.sl none 124 a, .own 0, .sl none 124 b, .int .i64 c, .int .i64 d]
  | .p1 a b c d e f g h i => [.sl none 124 a, .own 0, .int .i64 b, .bptr 1 0, .sl none 124 c, .int .i64 d, .int .i64 e, .int .i64 f, .int .i64 g]
def phs : Pt → List Root
  | .p0 a b c d e => [.row 116 e]
  | .p1 a b c d e f g h i => [.row 116 h, .box [.sl none 149 i.fKnown.fChains, .sl none 158 i.fKnown.fForks, .int .i64 i.fCode, .str i.fEntry.fLabel, .int .i64 i.fEntry.fKind, .int .i64 i.fEntry.fValue, .sl none 9 i.fEntry.fPath, .sl none 3 i.fZones, .int .i64 i.fMoves]]
noncomputable def step (J : Pt → Ans) : Pt → Ans
  | .p0 a b c d e => (bif (decide (d < c)) then (bif (decide ((0 : Int) ≤ d)) then (bif (decide (d < (b.length : Int))) then (call (impl_IsSilent.R (RTrace.at b (Int.toNat d))) fun v1 => (bif v1 then J (.p0 a b c (IntKind.i64.wrap (d + 1)) e) else J (.p1 a d b c d (e.length : Int) 0 e (RTrace.at b (Int.toNat d))))) else none) else none) else ret (e : List (List L)))
  | .p1 a b c d e f g h i => (bif (decide (g < f)) then (bif (decide ((0 : Int) ≤ g)) then (bif (decide (g < (h.length : Int))) then (bif (decide ((0 : Int) < ((lAt h (Int.toNat g)).length : Int))) then (bif (decide ((0 : Int) ≤ (iAt (lAt h (Int.toNat g)) 0))) then (bif (decide ((iAt (lAt h (Int.toNat g)) 0) < (a.length : Int))) then (call (impl_SameResult.R ((RTrace.at a (Int.toNat (iAt (lAt h (Int.toNat g)) 0))), i)) fun v1 => (bif v1 then (bif (decide ((0 : Int) ≤ g)) then (bif (decide (g < (h.length : Int))) then (bif (lim ((((lAt h (Int.toNat g)).length : Int) + 1) * 8)) then (bif (decide ((0 : Int) ≤ g)) then (bif (decide (g < (h.length : Int))) then (bif (Nat.beq (Int.toNat g) (Int.toNat g) && true) then J (.p0 a c d (IntKind.i64.wrap (e + 1)) (List.set h (Int.toNat g) [L.sl ((lAt h (Int.toNat g)) ++ [[L.int b]])])) else none) else none) else none) else none) else none) else none) else J (.p1 a b c d e f (IntKind.i64.wrap (g + 1)) h i))) else none) else none) else none) else none) else none) else (bif (lim (((h.length : Int) + 1) * 24)) then J (.p0 a c d (IntKind.i64.wrap (e + 1)) (h ++ [[L.sl [[L.int b]]]])) else none))
noncomputable def start (J : Pt → Ans) (x0 : List (List L)) : Ans := J (.p0 x0 x0 (x0.length : Int) 0 [])
def live : Nat → Live := fun i => match i with | 3 => [(0, none), (3, some 116), (8, none), (9, none), (10, none)] | 7 => [(0, none), (3, some 116), (4, none), (5, none), (8, none), (9, none), (10, none), (18, none), (19, none)] | _ => []
def pats : List Pat := [.rd (.sl 124)]
def res : RP := .one (.fr 116)
noncomputable abbrev E : Env := { T := assoc Tab, G := conG [(95, impl_IsSilent.con), (96, impl_SameResult.con)], nt := 51, M := conM [], mt := true }
set_option maxRecDepth 100000
theorem step_eq (I : Heads) (p : Pt) : enterC E live I (pid p) (bodyOf Try.f43) (stOf (live (pid p)) (pvs p) (phs p)) (doneK E Try.f43 res) = step (fun q => I (pid q) (pvs q) (phs q)) p := by
  cases p <;> kernel_rfl
theorem start_eq (I : Heads) (ls : List L) : runC E live I (bodyOf Try.f43) (initS pats ls) (doneK E Try.f43 res) = start (fun q => I (pid q) (pvs q) (phs q)) (ls.headD .hole).toSl := by kernel_rfl
theorem run_eq (n : Nat) (ls : List L) : runF E live Try.f43 res n (initS pats ls) = start (iter step n) (ls.headD .hole).toSl := runF_iter (id := pid) (vs := pvs) (hs := phs) (step := step) (start := fun J => start J (ls.headD .hole).toSl) step_eq (fun I => start_eq I ls) n
noncomputable def md (a0 : List MTrace) : List (List Int) := spec_GroupsOf.grp a0 a0.length
def gd (a0 : List MTrace) : Prop := SmL (2 ^ 21) (fun y : MTrace => MTrace.Sm (2 ^ 21) y) a0
def acc (ls : List L) : List (List L) := (ls.headD .hole).toSl
noncomputable def R : (List (List L)) → Option (List (List L)) := RR gd md
theorem R_eq {a0} (h : gd a0) : R (a0.map MTrace.row) = some ((md a0).map (lRow iRow)) := RR_eq (a := a0) h
noncomputable def con : Con := CN pats res acc R
theorem okF (a0 : List MTrace) (hg : gd a0) : ∃ n, start (iter step n) (a0.map MTrace.row) = ret (((md a0).map (lRow iRow)) : List (List L)) := by
  unfold gd at hg
  have hl := hg.1
  have inner : ∀ (k : Nat) (out : List (List Int)) (X : Ans), k < a0.length → spec_GroupsOf.Inv a0 k out → (∃ m, iter step m (Pt.p0 (a0.map MTrace.row) (a0.map MTrace.row) (a0.length : Int) ((k + 1 : Nat) : Int) ((spec_GroupsOf.put a0 k (a0.getD k MTrace.zero) out).map (lRow iRow))) = X) →
      ∃ m, iter step m (Pt.p1 (a0.map MTrace.row) (k : Int) (a0.map MTrace.row) (a0.length : Int) (k : Int) (out.length : Int) 0 (out.map (lRow iRow)) (MTrace.r (a0.getD k MTrace.zero))) = X := by
    intro k out X hk hI hX
    have hol := hI.1
    have hs : ∀ (J : Pt → Ans) (j : Nat), j < out.length → step J (Pt.p1 (a0.map MTrace.row) (k : Int) (a0.map MTrace.row) (a0.length : Int) (k : Int) (out.length : Int) (j : Int) (out.map (lRow iRow)) (MTrace.r (a0.getD k MTrace.zero))) =
        (bif spec_SameResult.md (spec_GroupsOf.hd a0 (out.getD j [])) (a0.getD k MTrace.zero) then J (Pt.p0 (a0.map MTrace.row) (a0.map MTrace.row) (a0.length : Int) ((k + 1 : Nat) : Int) ((out.set j (out.getD j [] ++ [(k : Int)])).map (lRow iRow))) else J (Pt.p1 (a0.map MTrace.row) (k : Int) (a0.map MTrace.row) (a0.length : Int) (k : Int) (out.length : Int) ((j + 1 : Nat) : Int) (out.map (lRow iRow)) (MTrace.r (a0.getD k MTrace.zero)))) := by
      intro J j hj
      obtain ⟨p1, p2, p3, p4⟩ := hI.2.1 (out.getD j []) (by rw [getD_lt hj]; exact List.getElem_mem _)
      have q1 : (j : Int) < (out.length : Int) := by omega
      have q2 : (0 : Int) ≤ (j : Int) := by omega
      have q3 : (0 : Int) < ((out.getD j []).length : Int) := by omega
      have q8 : lim ((((out.getD j []).length : Int) + 1) * 8) = true := lim_t (by omega)
      have hr : impl_SameResult.R (MTrace.r (spec_GroupsOf.hd a0 (out.getD j [])), MTrace.r (a0.getD k MTrace.zero)) = some (spec_SameResult.md (spec_GroupsOf.hd a0 (out.getD j [])) (a0.getD k MTrace.zero)) := by
        unfold spec_GroupsOf.hd
        rw [impl_SameResult.R_eq ⟨SmL.getD hg (by omega), SmL.getD hg (by omega)⟩, impl_SameResult.br]
      unfold spec_GroupsOf.hd at hr ⊢
      simp only [step, S0, MTrace.rs, q1, q2, q3, p3, p4, q8, beq_t, decide_true, cond_true]
      rw [call_eq hr, wi _ (by omega), wi _ (by omega)]
      simp only [MP]
      rfl
    obtain ⟨n, hn, hlt, hcase⟩ := spec_GroupsOf.put_at a0 k (a0.getD k MTrace.zero) out
    have hend : ∀ (J : Pt → Ans), step J (Pt.p1 (a0.map MTrace.row) (k : Int) (a0.map MTrace.row) (a0.length : Int) (k : Int) (out.length : Int) (out.length : Int) (out.map (lRow iRow)) (MTrace.r (a0.getD k MTrace.zero))) =
        J (Pt.p0 (a0.map MTrace.row) (a0.map MTrace.row) (a0.length : Int) ((k + 1 : Nat) : Int) ((out ++ [[(k : Int)]]).map (lRow iRow))) := by
      intro J
      simp only [step, S0, MTrace.rs]
      rw [decide_eq_false (show ¬ (out.length : Int) < (out.length : Int) by omega), cond_false, lim_t (by omega), cond_true, wi _ (by omega)]
      simp only [MP]
      rfl
    obtain ⟨m, hm⟩ := hX
    have early : ∀ d j, j + d = n → ∃ m, iter step m (Pt.p1 (a0.map MTrace.row) (k : Int) (a0.map MTrace.row) (a0.length : Int) (k : Int) (out.length : Int) (j : Int) (out.map (lRow iRow)) (MTrace.r (a0.getD k MTrace.zero))) = X := by
      intro d
      induction d with
      | zero =>
        intro j hj
        obtain rfl : j = n := by omega
        rcases hcase with ⟨hnl, hsame, hput⟩ | ⟨rfl, hput⟩
        · refine ⟨m + 1, (hs _ j hnl).trans ?_⟩
          rw [hsame, cond_true, ← hput]
          exact hm
        · refine ⟨m + 1, (hend _).trans ?_⟩
          rw [← hput]
          exact hm
      | succ d ih =>
        intro j hj
        obtain ⟨m2, hm2⟩ := ih (j + 1) (by omega)
        refine ⟨m2 + 1, (hs _ j (by omega)).trans ?_⟩
        rw [hlt j (by omega), cond_false]
        exact hm2
    exact early n 0 (by omega)
  have outer : ∀ d k, k + d = a0.length → ∃ m, iter step m (Pt.p0 (a0.map MTrace.row) (a0.map MTrace.row) (a0.length : Int) (k : Int) ((spec_GroupsOf.grp a0 k).map (lRow iRow))) = ret ((spec_GroupsOf.grp a0 a0.length).map (lRow iRow) : List (List L)) := by
    intro d
    induction d with
    | zero =>
      intro k hk
      obtain rfl : k = a0.length := by omega
      refine ⟨1, ?_⟩
      show step (iter step 0) _ = _
      simp only [step, S0]
      exact no_ret (decide_eq_false (by omega)) rfl
    | succ d ih =>
      intro k hk
      have hX := ih (k + 1) (by omega)
      have hI := spec_GroupsOf.grp_inv a0 k (by omega)
      have hst : ∀ J : Pt → Ans, step J (Pt.p0 (a0.map MTrace.row) (a0.map MTrace.row) (a0.length : Int) (k : Int) ((spec_GroupsOf.grp a0 k).map (lRow iRow))) = (bif spec_IsSilent.md (a0.getD k MTrace.zero) then J (Pt.p0 (a0.map MTrace.row) (a0.map MTrace.row) (a0.length : Int) ((k + 1 : Nat) : Int) ((spec_GroupsOf.grp a0 k).map (lRow iRow))) else J (Pt.p1 (a0.map MTrace.row) (k : Int) (a0.map MTrace.row) (a0.length : Int) (k : Int) ((spec_GroupsOf.grp a0 k).length : Int) 0 ((spec_GroupsOf.grp a0 k).map (lRow iRow)) (MTrace.r (a0.getD k MTrace.zero)))) := by
        intro J
        have q6 : (0 : Int) ≤ (k : Int) := by omega
        have q7 : (k : Int) < (a0.length : Int) := by omega
        have hr : impl_IsSilent.R (MTrace.r (a0.getD k MTrace.zero)) = some (spec_IsSilent.md (a0.getD k MTrace.zero)) := by
          rw [impl_IsSilent.R_eq trivial, impl_IsSilent.br]
        simp only [step, S0, MTrace.rs, q6, q7, decide_true, cond_true]
        rw [call_eq hr, wi _ (by omega)]
        rfl
      have eg : spec_GroupsOf.grp a0 (k + 1) = (bif spec_IsSilent.md (a0.getD k MTrace.zero) then spec_GroupsOf.grp a0 k else spec_GroupsOf.put a0 k (a0.getD k MTrace.zero) (spec_GroupsOf.grp a0 k)) := rfl
      rw [eg] at hX
      cases hs : spec_IsSilent.md (a0.getD k MTrace.zero)
      · rw [hs, cond_false] at hX
        obtain ⟨m, hm⟩ := inner k (spec_GroupsOf.grp a0 k) _ (by omega) hI hX
        refine ⟨m + 1, (hst _).trans ?_⟩
        rw [hs, cond_false]; exact hm
      · rw [hs, cond_true] at hX
        obtain ⟨m, hm⟩ := hX
        refine ⟨m + 1, (hst _).trans ?_⟩
        rw [hs, cond_true]; exact hm
  unfold start md
  simp only [S0]
  exact outer a0.length 0 (by omega)
theorem valid_ : Valid Try.prog Ev 43 con := VT (run := fun n x => start (iter step n) x) mix tab_ok (.cons impl_IsSilent.valid_ (.cons impl_SameResult.valid_ .nil)) .nil Try.func43 (by kernel_rfl) run_eq (fun _ a _ _ hg => okF a hg)
theorem br (a0 : List MTrace) : md a0 = spec_GroupsOf.md a0 := by
  unfold md spec_GroupsOf.md
  first
  | (simp only [impl_IsSilent.br, impl_SameResult.br]; done)
  | (simp only [impl_IsSilent.br, impl_SameResult.br]; rfl)
  | rfl
end impl_GroupsOf
/-! slices.Clone[[]string,string] -/
namespace slices_Clone_Sstring_string
noncomputable def F (x0 : List (List L)) : Ans := (bif x0.isEmpty then (either (ret ([] : List (List L))) ((bif (lim ((x0.length : Int) * 16)) then ret (x0 : List (List L)) else none))) else (bif (lim ((x0.length : Int) * 16)) then ret (x0 : List (List L)) else none))
def pats : List Pat := [.rd (.sl 9)]
def res : RP := .one (.fr 9)
noncomputable abbrev E : Env := { T := assoc Tab, G := conG [], nt := 8 }
set_option maxRecDepth 100000
theorem run_eq (n : Nat) (ls : List L) : runF E (fun _ => []) Try.f84 res n (initS pats ls) = F (ls.headD .hole).toSl := by kernel_rfl
noncomputable def md (a0 : List ByteArray) : List ByteArray := a0
def gd (a0 : List ByteArray) : Prop := SmL (2 ^ 21) (fun y : ByteArray => y.size ≤ (2 ^ 21)) a0
def acc (ls : List L) : List (List L) := (ls.headD .hole).toSl
noncomputable def R : (List (List L)) → Option (List (List L)) := RR gd md
theorem R_eq {a0} (h : gd a0) : R (a0.map sRow) = some ((md a0).map sRow) := RR_eq (a := a0) h
noncomputable def con : Con := CN pats res acc R
theorem okF (a0 : List ByteArray) (hg : gd a0) : F (a0.map sRow) = ret (((md a0).map sRow) : List (List L)) := by
  have H0 := hg.1
  unfold F md
  have hl : lim (((a0.map sRow).length : Int) * 16) = true := lim_t (by simp only [List.length_map]; omega)
  simp only [hl, cond_true]
  cases a0 with
  | nil => exact either_same
  | cons x xs => rfl
theorem valid_ : Valid Try.prog Ev 84 con := VV (run := fun _ x => F x) mix tab_ok .nil Try.func84 (by kernel_rfl) run_eq (fun _ a _ _ hg => ⟨0, okF a hg⟩)
end slices_Clone_Sstring_string
/-! impl.copyEntry -/
namespace impl_copyEntry
noncomputable def F (x0 : REntry) : Ans := (call (slices_Clone_Sstring_string.R x0.fPath) fun v1 => ret ((⟨x0.fLabel, x0.fKind, x0.fValue, v1⟩ : REntry) : REntry))
def pats : List Pat := [.agg [.str, .int .i64, .int .i64, .sl 9]]
def res : RP := .agg [.rd (.str), .rd (.int .i64), .rd (.int .i64), .fr 9]
noncomputable abbrev E : Env := { T := assoc Tab, G := conG [(84, slices_Clone_Sstring_string.con)], nt := 8 }
set_option maxRecDepth 100000
theorem run_eq (n : Nat) (ls : List L) : runF E (fun _ => []) Try.f85 res n (initS pats ls) = F (REntry.dec ls) := by kernel_rfl
noncomputable def md (a0 : MEntry) : MEntry := a0
def gd (a0 : MEntry) : Prop := (MEntry.Sm (2 ^ 21) a0)
def acc (ls : List L) : REntry := (REntry.dec ls)
noncomputable def R : REntry → Option REntry := RR gd md
theorem R_eq {a0} (h : gd a0) : R (MEntry.r a0) = some (MEntry.r (md a0)) := RR_eq (a := a0) h
noncomputable def con : Con := CN pats res acc R
theorem okF (a0 : MEntry) (hg : gd a0) : F (MEntry.r a0) = ret ((MEntry.r (md a0)) : REntry) := by
  unfold gd at hg
  have H0 := hg
  unfold F md
  try simp only [S0, MEntry.rs]
  refine call_to (a0.fPath.map sRow) ?_ ?_
  · have R_ := slices_Clone_Sstring_string.R_eq (a0 := a0.fPath) H0.2
    simp only [slices_Clone_Sstring_string.md] at R_
    first | exact R_ | (simp only [MP, S0, MEntry.rs] at R_ ⊢; first | exact R_ | (rw [← R_]; rfl))
  try simp only [S0, MEntry.rs]
  all_goals first | rfl | (simp only [S0, MEntry.rs]; done) | (simp only [MP]; rfl) | (simp only [S0, MEntry.rs, MP]; first | done | rfl)
theorem valid_ : Valid Try.prog Ev 85 con := VV (run := fun _ x => F x) mix tab_ok (.cons slices_Clone_Sstring_string.valid_ .nil) Try.func85 (by kernel_rfl) run_eq (fun _ a _ _ hg => ⟨0, okF a hg⟩)
end impl_copyEntry
/-! impl.Disputed -/
namespace impl_Disputed
inductive Pt where
  | p0 (a : List (List L)) (b : Int) (c : Int) (d : List (List L)) (e : List (List L))
def pid : Pt → Nat
  | .p0 .. => 6
def pvs : Pt → List V
  | .p0 a b c d e => [.sl none 124 a, .own 0, .own 1, .int .i64 b, .int .i64 c]
def phs : Pt → List Root
  | .p0 a b c d e => [.row 50 d, .row 116 e]
noncomputable def step (J : Pt → Ans) : Pt → Ans
  | .p0 a b c d e => (bif (decide (c < b)) then (bif (decide ((0 : Int) ≤ c)) then (bif (decide (c < (e.length : Int))) then (bif (decide ((0 : Int) < ((lAt e (Int.toNat c)).length : Int))) then (bif (decide ((0 : Int) ≤ (iAt (lAt e (Int.toNat c)) 0))) then (bif (decide ((iAt (lAt e (Int.toNat c)) 0) < (a.length : Int))) then (bif ((RTrace.at a (Int.toNat (iAt (lAt e (Int.toNat c)) 0))).fCode == 1) then (call (impl_copyEntry.R ((RTrace.at a (Int.toNat (iAt (lAt e (Int.toNat c)) 0))).fEntry)) fun v1 => (bif (lim (((d.length : Int) + 1) * 56)) then J (.p0 a b (IntKind.i64.wrap (c + 1)) (d ++ [(REntry.enc v1)]) e) else none)) else J (.p0 a b (IntKind.i64.wrap (c + 1)) d e)) else none) else none) else none) else none) else none) else ret (d : List (List L)))
noncomputable def start (J : Pt → Ans) (x0 : List (List L)) : Ans := (call (impl_GroupsOf.R x0) fun v1 => (bif (decide ((v1.length : Int) < 2)) then ret ([] : List (List L)) else J (.p0 x0 (v1.length : Int) 0 [] v1)))
def live : Nat → Live := fun i => match i with | 6 => [(0, none), (4, some 50), (15, none), (16, none), (17, none)] | _ => []
def pats : List Pat := [.rd (.sl 124)]
def res : RP := .one (.fr 50)
noncomputable abbrev E : Env := { T := assoc Tab, G := conG [(43, impl_GroupsOf.con), (85, impl_copyEntry.con)], nt := 38 }
set_option maxRecDepth 100000
theorem step_eq (I : Heads) (p : Pt) : enterC E live I (pid p) (bodyOf Try.f49) (stOf (live (pid p)) (pvs p) (phs p)) (doneK E Try.f49 res) = step (fun q => I (pid q) (pvs q) (phs q)) p := by
  cases p <;> kernel_rfl
theorem start_eq (I : Heads) (ls : List L) : runC E live I (bodyOf Try.f49) (initS pats ls) (doneK E Try.f49 res) = start (fun q => I (pid q) (pvs q) (phs q)) (ls.headD .hole).toSl := by kernel_rfl
theorem run_eq (n : Nat) (ls : List L) : runF E live Try.f49 res n (initS pats ls) = start (iter step n) (ls.headD .hole).toSl := runF_iter (id := pid) (vs := pvs) (hs := phs) (step := step) (start := fun J => start J (ls.headD .hole).toSl) step_eq (fun I => start_eq I ls) n
noncomputable def md (a0 : List MTrace) : List MEntry := (bif decide ((spec_GroupsOf.md a0).length > 1) then (spec_GroupsOf.md a0).flatMap (spec_Disputed.dis a0) else [])
def gd (a0 : List MTrace) : Prop := SmL (2 ^ 21) (fun y : MTrace => MTrace.Sm (2 ^ 21) y) a0
def acc (ls : List L) : List (List L) := (ls.headD .hole).toSl
noncomputable def R : (List (List L)) → Option (List (List L)) := RR gd md
theorem R_eq {a0} (h : gd a0) : R (a0.map MTrace.row) = some ((md a0).map MEntry.row) := RR_eq (a := a0) h
noncomputable def con : Con := CN pats res acc R
theorem okF (a0 : List MTrace) (hg : gd a0) : ∃ n, start (iter step n) (a0.map MTrace.row) = ret (((md a0).map MEntry.row) : List (List L)) := by
  unfold gd at hg
  have hl := hg.1
  have hI := spec_GroupsOf.grp_inv a0 a0.length (Nat.le_refl _)
  have key : ∀ (G : List (List Int)), spec_GroupsOf.Inv a0 a0.length G → 1 < G.length → ∀ d k (c : List MEntry), k + d = G.length → c.length ≤ k → ∃ m, iter step m (Pt.p0 (a0.map MTrace.row) (G.length : Int) (k : Int) (c.map MEntry.row) (G.map (lRow iRow))) = ret ((c ++ (G.drop k).flatMap (spec_Disputed.dis a0)).map MEntry.row : List (List L)) := by
    intro G hG h1 d
    have hGl := hG.1
    induction d with
    | zero =>
      intro k c hk hc
      obtain rfl : k = G.length := by omega
      refine ⟨1, ?_⟩
      show step (iter step 0) _ = _
      simp only [step, S0]
      refine no_ret (decide_eq_false (by omega)) ?_
      rw [List.drop_eq_nil_of_le (Nat.le_refl _), List.flatMap_nil, List.append_nil]
    | succ d ih =>
      intro k c hk hc
      have hlt : k < G.length := by omega
      obtain ⟨p1, p2, p3, p4⟩ := hG.2.1 (G.getD k []) (by rw [getD_lt hlt]; exact List.getElem_mem _)
      have q1 : (k : Int) < (G.length : Int) := by omega
      have q2 : (0 : Int) ≤ (k : Int) := by omega
      have q3 : (0 : Int) < ((G.getD k []).length : Int) := by omega
      have q5 : lim (((c.length : Int) + 1) * 56) = true := lim_t (by omega)
      have hdr : (G.drop k).flatMap (spec_Disputed.dis a0) = spec_Disputed.dis a0 (G.getD k []) ++ (G.drop (k + 1)).flatMap (spec_Disputed.dis a0) := by
        rw [List.drop_eq_getElem_cons hlt, List.flatMap_cons, getD_lt hlt]
      have hst : ∀ J : Pt → Ans, step J (Pt.p0 (a0.map MTrace.row) (G.length : Int) (k : Int) (c.map MEntry.row) (G.map (lRow iRow))) = J (Pt.p0 (a0.map MTrace.row) (G.length : Int) ((k + 1 : Nat) : Int) ((c ++ spec_Disputed.dis a0 (G.getD k [])).map MEntry.row) (G.map (lRow iRow))) := by
        intro J
        unfold spec_Disputed.dis spec_GroupsOf.hd
        simp only [step, S0, MTrace.rs, q1, q2, q3, q5, p3, p4, decide_true, cond_true]
        rw [wi _ (by omega)]
        cases ((a0.getD (Int.toNat ((G.getD k []).getD 0 0)) MTrace.zero).fCode == 1)
        · simp only [cond_false, List.append_nil]
          rfl
        · simp only [cond_true]
          rw [call_eq (impl_copyEntry.R_eq (a0 := (a0.getD (Int.toNat ((G.getD k []).getD 0 0)) MTrace.zero).fEntry) (SmL.getD (z := MTrace.zero) hg (by omega)).2.1)]
          simp only [MP]
          rfl
      obtain ⟨m, hm⟩ := ih (k + 1) (c ++ spec_Disputed.dis a0 (G.getD k [])) (by omega) (by have := spec_Disputed.dis_len a0 (G.getD k []); rw [List.length_append]; omega)
      refine ⟨m + 1, (hst _).trans ?_⟩
      rw [hdr, ← List.append_assoc]
      exact hm
  have hr := impl_GroupsOf.R_eq (a0 := a0) hg
  rw [impl_GroupsOf.br] at hr
  unfold start md
  refine ex_call_to ((spec_GroupsOf.md a0).map (lRow iRow)) hr ?_
  by_cases h1 : (spec_GroupsOf.md a0).length > 1
  · obtain ⟨m, hm⟩ := key (spec_GroupsOf.md a0) hI h1 (spec_GroupsOf.md a0).length 0 [] (by omega) (Nat.le_refl _)
    refine ⟨m, ?_⟩
    rw [decide_eq_true h1, cond_true]
    simp only [S0]
    rw [decide_eq_false (by omega), cond_false]
    exact hm
  · refine ⟨0, ?_⟩
    rw [decide_eq_false h1, cond_false]
    simp only [S0]
    rw [decide_eq_true (by omega), cond_true]
    rfl
theorem valid_ : Valid Try.prog Ev 49 con := VV (run := fun n x => start (iter step n) x) mix tab_ok (.cons impl_GroupsOf.valid_ (.cons impl_copyEntry.valid_ .nil)) Try.func49 (by kernel_rfl) run_eq (fun _ a _ _ hg => okF a hg)
theorem br (a0 : List MTrace) : md a0 = spec_Disputed.md a0 := by
  unfold md spec_Disputed.md
  first
  | (simp only [impl_GroupsOf.br]; done)
  | (simp only [impl_GroupsOf.br]; rfl)
  | rfl
end impl_Disputed
/-! laws.eqStringS -/
namespace laws_eqStringS
inductive Pt where
  | p0 (a : List (List L)) (b : List (List L)) (c : Int)
def pid : Pt → Nat
  | .p0 .. => 4
def pvs : Pt → List V
  | .p0 a b c => [.sl none 9 a, .sl none 9 b, .int .i64 c]
def phs : Pt → List Root
  | .p0 a b c => []
noncomputable def step (J : Pt → Ans) : Pt → Ans
  | .p0 a b c => (bif (decide (c < (a.length : Int))) then (bif (decide ((0 : Int) ≤ c)) then (bif (decide (c < (a.length : Int))) then (bif (decide ((0 : Int) ≤ c)) then (bif (decide (c < (b.length : Int))) then (bif (!((sAt a (Int.toNat c)) == (sAt b (Int.toNat c)))) then ret (false : Bool) else J (.p0 a b (IntKind.i64.wrap (c + 1)))) else none) else none) else none) else none) else ret (true : Bool))
noncomputable def start (J : Pt → Ans) (x0 : List (List L)) (x1 : List (List L)) : Ans := (bif ((x0.length : Int) != (x1.length : Int)) then ret (false : Bool) else J (.p0 x0 x1 0))
def live : Nat → Live := fun i => match i with | 4 => [(0, none), (1, none), (5, none)] | _ => []
def pats : List Pat := [.rd (.sl 9), .rd (.sl 9)]
def res : RP := .one (.rd (.bool))
noncomputable abbrev E : Env := { T := assoc Tab, G := conG [], nt := 26 }
set_option maxRecDepth 100000
theorem step_eq (I : Heads) (p : Pt) : enterC E live I (pid p) (bodyOf Try.f31) (stOf (live (pid p)) (pvs p) (phs p)) (doneK E Try.f31 res) = step (fun q => I (pid q) (pvs q) (phs q)) p := by
  cases p <;> kernel_rfl
theorem start_eq (I : Heads) (ls : List L) : runC E live I (bodyOf Try.f31) (initS pats ls) (doneK E Try.f31 res) = start (fun q => I (pid q) (pvs q) (phs q)) (ls.headD .hole).toSl ((dropT 1 ls).headD .hole).toSl := by kernel_rfl
theorem run_eq (n : Nat) (ls : List L) : runF E live Try.f31 res n (initS pats ls) = start (iter step n) (ls.headD .hole).toSl ((dropT 1 ls).headD .hole).toSl := runF_iter (id := pid) (vs := pvs) (hs := phs) (step := step) (start := fun J => start J (ls.headD .hole).toSl ((dropT 1 ls).headD .hole).toSl) step_eq (fun I => start_eq I ls) n
noncomputable def md (a0 : List ByteArray) (a1 : List ByteArray) : Bool := eqB a0 a1
def gd (a0 : List ByteArray) (a1 : List ByteArray) : Prop := True
def acc (ls : List L) : List (List L) × List (List L) := ((ls.headD .hole).toSl, ((dropT 1 ls).headD .hole).toSl)
noncomputable def R : (List (List L) × List (List L)) → Option Bool := RR (p2 gd) (u2 md)
theorem R_eq {a0} {a1} (h : gd a0 a1) : R ((a0.map sRow), (a1.map sRow)) = some (md a0 a1) := RR_eq (a := (a0, a1)) h
noncomputable def con : Con := CN pats res acc R
theorem okF (a0 : List ByteArray) (a1 : List ByteArray) (hg : gd a0 a1) (h0 : a0.length ≤ maxLen) (h1 : a1.length ≤ maxLen) : ∃ n, start (iter step n) (a0.map sRow) (a1.map sRow) = ret ((md a0 a1) : Bool) := by
  unfold start md
  simp only [List.length_map]
  refine eq_list (pt := fun i => Pt.p0 (a0.map sRow) (a1.map sRow) (i : Int)) (fun hl J i h h2 => ?_) (fun J => ?_)
  · simp only [step, List.length_map, lt_dec h, lt_dec h2, zle_dec, cond_true, toNat_nat, sAt_row h, sAt_row h2]
    rw [wrap_succ h h0]
    simp only [bne, int_beq, bool_beq, ba_beq]
    cases eqB a0[i] a1[i] <;> rfl
  · simp only [step, List.length_map, nlt_dec, cond_false]
theorem valid_ : Valid Try.prog Ev 31 con := VV (run := fun n x => start (iter step n) x.1 x.2) mix tab_ok .nil Try.func31 (by kernel_rfl) run_eq (fun ls a hl e hg => okF a.1 a.2 hg (by have h : (ls.headD .hole).toSl.length ≤ maxLen := hl.1.len; have e : a.1.map sRow = (ls.headD .hole).toSl := (congrArg (fun x => x.1) e.symm); rw [← e] at h; simpa using h) (by have h : ((dropT 1 ls).headD .hole).toSl.length ≤ maxLen := hl.2.1.len; have e : a.2.map sRow = ((dropT 1 ls).headD .hole).toSl := (congrArg (fun x => x.2) e.symm); rw [← e] at h; simpa using h))
end laws_eqStringS
/-! laws.eqEntry -/
namespace laws_eqEntry
noncomputable def F (x0 : REntry) (x1 : REntry) : Ans := (bif (!(x0.fLabel == x1.fLabel)) then ret (false : Bool) else (bif (x0.fKind != x1.fKind) then ret (false : Bool) else (bif (x0.fValue != x1.fValue) then ret (false : Bool) else (call (laws_eqStringS.R (x0.fPath, x1.fPath)) fun v1 => (bif (!v1) then ret (false : Bool) else ret (true : Bool))))))
def pats : List Pat := [.agg [.str, .int .i64, .int .i64, .sl 9], .agg [.str, .int .i64, .int .i64, .sl 9]]
def res : RP := .one (.rd (.bool))
noncomputable abbrev E : Env := { T := assoc Tab, G := conG [(31, laws_eqStringS.con)], nt := 26 }
set_option maxRecDepth 100000
theorem run_eq (n : Nat) (ls : List L) : runF E (fun _ => []) Try.f32 res n (initS pats ls) = F (REntry.dec ls) (REntry.dec (dropT 4 ls)) := by kernel_rfl
noncomputable def md (a0 : MEntry) (a1 : MEntry) : Bool := eqB a0 a1
def gd (a0 : MEntry) (a1 : MEntry) : Prop := True
def acc (ls : List L) : REntry × REntry := ((REntry.dec ls), (REntry.dec (dropT 4 ls)))
noncomputable def R : (REntry × REntry) → Option Bool := RR (p2 gd) (u2 md)
theorem R_eq {a0} {a1} (h : gd a0 a1) : R ((MEntry.r a0), (MEntry.r a1)) = some (md a0 a1) := RR_eq (a := (a0, a1)) h
noncomputable def con : Con := CN pats res acc R
theorem okF (a0 : MEntry) (a1 : MEntry) (hg : gd a0 a1) : F (MEntry.r a0) (MEntry.r a1) = ret ((md a0 a1) : Bool) := by
  unfold md
  show (bif (!(a0.fLabel == a1.fLabel)) then ret (false : Bool) else (bif (a0.fKind != a1.fKind) then ret (false : Bool) else (bif (a0.fValue != a1.fValue) then ret (false : Bool) else (call (laws_eqStringS.R ((a0.fPath.map sRow), (a1.fPath.map sRow))) fun v1 => (bif (!v1) then ret (false : Bool) else ret (true : Bool)))))) = _
  simp only [call_eq (laws_eqStringS.R_eq (a0 := a0.fPath) (a1 := a1.fPath) trivial), laws_eqStringS.md]
  try simp only [bne, int_beq, bool_beq, ba_beq]
  have e : eqB a0 a1 = (eqB a0.fLabel a1.fLabel && (eqB a0.fKind a1.fKind && (eqB a0.fValue a1.fValue && (eqB a0.fPath a1.fPath && true)))) := by
    cases a0; cases a1
    rw [Bool.eq_iff_iff]
    simp only [eqB_iff, Bool.and_eq_true, MEntry.mk.injEq, and_true]
  rw [e]
  refine and_step fun _ => ?_
  refine and_step fun _ => ?_
  refine and_step fun _ => ?_
  refine and_step fun _ => ?_
  rfl
theorem valid_ : Valid Try.prog Ev 32 con := VV (run := fun _ x => F x.1 x.2) mix tab_ok (.cons laws_eqStringS.valid_ .nil) Try.func32 (by kernel_rfl) run_eq (fun _ a _ _ hg => ⟨0, okF a.1 a.2 hg⟩)
end laws_eqEntry
/-! laws.eqEntryS -/
namespace laws_eqEntryS
inductive Pt where
  | p0 (a : List (List L)) (b : List (List L)) (c : Int)
def pid : Pt → Nat
  | .p0 .. => 4
def pvs : Pt → List V
  | .p0 a b c => [.sl none 50 a, .sl none 50 b, .int .i64 c]
def phs : Pt → List Root
  | .p0 a b c => []
noncomputable def step (J : Pt → Ans) : Pt → Ans
  | .p0 a b c => (bif (decide (c < (a.length : Int))) then (bif (decide ((0 : Int) ≤ c)) then (bif (decide (c < (a.length : Int))) then (bif (decide ((0 : Int) ≤ c)) then (bif (decide (c < (b.length : Int))) then (call (laws_eqEntry.R ((REntry.at a (Int.toNat c)), (REntry.at b (Int.toNat c)))) fun v1 => (bif (!v1) then ret (false : Bool) else J (.p0 a b (IntKind.i64.wrap (c + 1))))) else none) else none) else none) else none) else ret (true : Bool))
noncomputable def start (J : Pt → Ans) (x0 : List (List L)) (x1 : List (List L)) : Ans := (bif ((x0.length : Int) != (x1.length : Int)) then ret (false : Bool) else J (.p0 x0 x1 0))
def live : Nat → Live := fun i => match i with | 4 => [(0, none), (1, none), (5, none)] | _ => []
def pats : List Pat := [.rd (.sl 50), .rd (.sl 50)]
def res : RP := .one (.rd (.bool))
noncomputable abbrev E : Env := { T := assoc Tab, G := conG [(32, laws_eqEntry.con)], nt := 27 }
set_option maxRecDepth 100000
theorem step_eq (I : Heads) (p : Pt) : enterC E live I (pid p) (bodyOf Try.f50) (stOf (live (pid p)) (pvs p) (phs p)) (doneK E Try.f50 res) = step (fun q => I (pid q) (pvs q) (phs q)) p := by
  cases p <;> kernel_rfl
theorem start_eq (I : Heads) (ls : List L) : runC E live I (bodyOf Try.f50) (initS pats ls) (doneK E Try.f50 res) = start (fun q => I (pid q) (pvs q) (phs q)) (ls.headD .hole).toSl ((dropT 1 ls).headD .hole).toSl := by kernel_rfl
theorem run_eq (n : Nat) (ls : List L) : runF E live Try.f50 res n (initS pats ls) = start (iter step n) (ls.headD .hole).toSl ((dropT 1 ls).headD .hole).toSl := runF_iter (id := pid) (vs := pvs) (hs := phs) (step := step) (start := fun J => start J (ls.headD .hole).toSl ((dropT 1 ls).headD .hole).toSl) step_eq (fun I => start_eq I ls) n
noncomputable def md (a0 : List MEntry) (a1 : List MEntry) : Bool := eqB a0 a1
def gd (a0 : List MEntry) (a1 : List MEntry) : Prop := True
def acc (ls : List L) : List (List L) × List (List L) := ((ls.headD .hole).toSl, ((dropT 1 ls).headD .hole).toSl)
noncomputable def R : (List (List L) × List (List L)) → Option Bool := RR (p2 gd) (u2 md)
theorem R_eq {a0} {a1} (h : gd a0 a1) : R ((a0.map MEntry.row), (a1.map MEntry.row)) = some (md a0 a1) := RR_eq (a := (a0, a1)) h
noncomputable def con : Con := CN pats res acc R
theorem okF (a0 : List MEntry) (a1 : List MEntry) (hg : gd a0 a1) (h0 : a0.length ≤ maxLen) (h1 : a1.length ≤ maxLen) : ∃ n, start (iter step n) (a0.map MEntry.row) (a1.map MEntry.row) = ret ((md a0 a1) : Bool) := by
  unfold start md
  simp only [List.length_map]
  refine eq_list (pt := fun i => Pt.p0 (a0.map MEntry.row) (a1.map MEntry.row) (i : Int)) (fun hl J i h h2 => ?_) (fun J => ?_)
  · simp only [step, List.length_map, lt_dec h, lt_dec h2, zle_dec, cond_true, toNat_nat, MEntry.at_row h, MEntry.at_row h2]
    rw [wrap_succ h h0]
    rw [call_eq (laws_eqEntry.R_eq (a0 := a0[i]) (a1 := a1[i]) trivial), laws_eqEntry.md]
    cases eqB a0[i] a1[i] <;> rfl
  · simp only [step, List.length_map, nlt_dec, cond_false]
theorem valid_ : Valid Try.prog Ev 50 con := VV (run := fun n x => start (iter step n) x.1 x.2) mix tab_ok (.cons laws_eqEntry.valid_ .nil) Try.func50 (by kernel_rfl) run_eq (fun ls a hl e hg => okF a.1 a.2 hg (by have h : (ls.headD .hole).toSl.length ≤ maxLen := hl.1.len; have e : a.1.map MEntry.row = (ls.headD .hole).toSl := (congrArg (fun x => x.1) e.symm); rw [← e] at h; simpa using h) (by have h : ((dropT 1 ls).headD .hole).toSl.length ≤ maxLen := hl.2.1.len; have e : a.2.map MEntry.row = ((dropT 1 ls).headD .hole).toSl := (congrArg (fun x => x.2) e.symm); rw [← e] at h; simpa using h))
end laws_eqEntryS
/-! laws.eqIntS -/
namespace laws_eqIntS
inductive Pt where
  | p0 (a : List (List L)) (b : List (List L)) (c : Int)
def pid : Pt → Nat
  | .p0 .. => 4
def pvs : Pt → List V
  | .p0 a b c => [.sl none 3 a, .sl none 3 b, .int .i64 c]
def phs : Pt → List Root
  | .p0 a b c => []
noncomputable def step (J : Pt → Ans) : Pt → Ans
  | .p0 a b c => (bif (decide (c < (a.length : Int))) then (bif (decide ((0 : Int) ≤ c)) then (bif (decide (c < (a.length : Int))) then (bif (decide ((0 : Int) ≤ c)) then (bif (decide (c < (b.length : Int))) then (bif ((iAt a (Int.toNat c)) != (iAt b (Int.toNat c))) then ret (false : Bool) else J (.p0 a b (IntKind.i64.wrap (c + 1)))) else none) else none) else none) else none) else ret (true : Bool))
noncomputable def start (J : Pt → Ans) (x0 : List (List L)) (x1 : List (List L)) : Ans := (bif ((x0.length : Int) != (x1.length : Int)) then ret (false : Bool) else J (.p0 x0 x1 0))
def live : Nat → Live := fun i => match i with | 4 => [(0, none), (1, none), (5, none)] | _ => []
def pats : List Pat := [.rd (.sl 3), .rd (.sl 3)]
def res : RP := .one (.rd (.bool))
noncomputable abbrev E : Env := { T := assoc Tab, G := conG [], nt := 26 }
set_option maxRecDepth 100000
theorem step_eq (I : Heads) (p : Pt) : enterC E live I (pid p) (bodyOf Try.f97) (stOf (live (pid p)) (pvs p) (phs p)) (doneK E Try.f97 res) = step (fun q => I (pid q) (pvs q) (phs q)) p := by
  cases p <;> kernel_rfl
theorem start_eq (I : Heads) (ls : List L) : runC E live I (bodyOf Try.f97) (initS pats ls) (doneK E Try.f97 res) = start (fun q => I (pid q) (pvs q) (phs q)) (ls.headD .hole).toSl ((dropT 1 ls).headD .hole).toSl := by kernel_rfl
theorem run_eq (n : Nat) (ls : List L) : runF E live Try.f97 res n (initS pats ls) = start (iter step n) (ls.headD .hole).toSl ((dropT 1 ls).headD .hole).toSl := runF_iter (id := pid) (vs := pvs) (hs := phs) (step := step) (start := fun J => start J (ls.headD .hole).toSl ((dropT 1 ls).headD .hole).toSl) step_eq (fun I => start_eq I ls) n
noncomputable def md (a0 : List Int) (a1 : List Int) : Bool := eqB a0 a1
def gd (a0 : List Int) (a1 : List Int) : Prop := True
def acc (ls : List L) : List (List L) × List (List L) := ((ls.headD .hole).toSl, ((dropT 1 ls).headD .hole).toSl)
noncomputable def R : (List (List L) × List (List L)) → Option Bool := RR (p2 gd) (u2 md)
theorem R_eq {a0} {a1} (h : gd a0 a1) : R ((a0.map iRow), (a1.map iRow)) = some (md a0 a1) := RR_eq (a := (a0, a1)) h
noncomputable def con : Con := CN pats res acc R
theorem okF (a0 : List Int) (a1 : List Int) (hg : gd a0 a1) (h0 : a0.length ≤ maxLen) (h1 : a1.length ≤ maxLen) : ∃ n, start (iter step n) (a0.map iRow) (a1.map iRow) = ret ((md a0 a1) : Bool) := by
  unfold start md
  simp only [List.length_map]
  refine eq_list (pt := fun i => Pt.p0 (a0.map iRow) (a1.map iRow) (i : Int)) (fun hl J i h h2 => ?_) (fun J => ?_)
  · simp only [step, List.length_map, lt_dec h, lt_dec h2, zle_dec, cond_true, toNat_nat, iAt_row h, iAt_row h2]
    rw [wrap_succ h h0]
    simp only [bne, int_beq, bool_beq, ba_beq]
    cases eqB a0[i] a1[i] <;> rfl
  · simp only [step, List.length_map, nlt_dec, cond_false]
theorem valid_ : Valid Try.prog Ev 97 con := VV (run := fun n x => start (iter step n) x.1 x.2) mix tab_ok .nil Try.func97 (by kernel_rfl) run_eq (fun ls a hl e hg => okF a.1 a.2 hg (by have h : (ls.headD .hole).toSl.length ≤ maxLen := hl.1.len; have e : a.1.map iRow = (ls.headD .hole).toSl := (congrArg (fun x => x.1) e.symm); rw [← e] at h; simpa using h) (by have h : ((dropT 1 ls).headD .hole).toSl.length ≤ maxLen := hl.2.1.len; have e : a.2.map iRow = ((dropT 1 ls).headD .hole).toSl := (congrArg (fun x => x.2) e.symm); rw [← e] at h; simpa using h))
end laws_eqIntS
/-! laws.eqKeys -/
namespace laws_eqKeys
noncomputable def F (x0 : RKeys) (x1 : RKeys) : Ans := (call (laws_eqIntS.R (x0.fList, x1.fList)) fun v1 => (bif (!v1) then ret (false : Bool) else (bif (x0.fNeed != x1.fNeed) then ret (false : Bool) else ret (true : Bool))))
def pats : List Pat := [.agg [.sl 3, .int .i64], .agg [.sl 3, .int .i64]]
def res : RP := .one (.rd (.bool))
noncomputable abbrev E : Env := { T := assoc Tab, G := conG [(97, laws_eqIntS.con)], nt := 16 }
set_option maxRecDepth 100000
theorem run_eq (n : Nat) (ls : List L) : runF E (fun _ => []) Try.f162 res n (initS pats ls) = F (RKeys.dec ls) (RKeys.dec (dropT 2 ls)) := by kernel_rfl
noncomputable def md (a0 : MKeys) (a1 : MKeys) : Bool := eqB a0 a1
def gd (a0 : MKeys) (a1 : MKeys) : Prop := True
def acc (ls : List L) : RKeys × RKeys := ((RKeys.dec ls), (RKeys.dec (dropT 2 ls)))
noncomputable def R : (RKeys × RKeys) → Option Bool := RR (p2 gd) (u2 md)
theorem R_eq {a0} {a1} (h : gd a0 a1) : R ((MKeys.r a0), (MKeys.r a1)) = some (md a0 a1) := RR_eq (a := (a0, a1)) h
noncomputable def con : Con := CN pats res acc R
theorem okF (a0 : MKeys) (a1 : MKeys) (hg : gd a0 a1) : F (MKeys.r a0) (MKeys.r a1) = ret ((md a0 a1) : Bool) := by
  unfold md
  show (call (laws_eqIntS.R ((a0.fList.map iRow), (a1.fList.map iRow))) fun v1 => (bif (!v1) then ret (false : Bool) else (bif (a0.fNeed != a1.fNeed) then ret (false : Bool) else ret (true : Bool)))) = _
  simp only [call_eq (laws_eqIntS.R_eq (a0 := a0.fList) (a1 := a1.fList) trivial), laws_eqIntS.md]
  try simp only [bne, int_beq, bool_beq, ba_beq]
  have e : eqB a0 a1 = (eqB a0.fList a1.fList && (eqB a0.fNeed a1.fNeed && true)) := by
    cases a0; cases a1
    rw [Bool.eq_iff_iff]
    simp only [eqB_iff, Bool.and_eq_true, MKeys.mk.injEq, and_true]
  rw [e]
  refine and_step fun _ => ?_
  refine and_step fun _ => ?_
  rfl
theorem valid_ : Valid Try.prog Ev 162 con := VV (run := fun _ x => F x.1 x.2) mix tab_ok (.cons laws_eqIntS.valid_ .nil) Try.func162 (by kernel_rfl) run_eq (fun _ a _ _ hg => ⟨0, okF a.1 a.2 hg⟩)
end laws_eqKeys
/-! laws.eqHead -/
namespace laws_eqHead
noncomputable def F (x0 : RHead) (x1 : RHead) : Ans := (bif (x0.fZone != x1.fZone) then ret (false : Bool) else (bif (x0.fEpoch != x1.fEpoch) then ret (false : Bool) else (bif (x0.fKind != x1.fKind) then ret (false : Bool) else (bif (x0.fTime != x1.fTime) then ret (false : Bool) else (bif (x0.fUntil != x1.fUntil) then ret (false : Bool) else (bif (x0.fCount != x1.fCount) then ret (false : Bool) else (bif (x0.fRoot != x1.fRoot) then ret (false : Bool) else (bif (x0.fPrev != x1.fPrev) then ret (false : Bool) else (call (laws_eqKeys.R (x0.fKeys, x1.fKeys)) fun v1 => (bif (!v1) then ret (false : Bool) else (call (laws_eqKeys.R (x0.fHeirs, x1.fHeirs)) fun v2 => (bif (!v2) then ret (false : Bool) else (bif (x0.fWait != x1.fWait) then ret (false : Bool) else (call (laws_eqKeys.R (x0.fJudge, x1.fJudge)) fun v3 => (bif (!v3) then ret (false : Bool) else (bif (!(x0.fFrozen == x1.fFrozen)) then ret (false : Bool) else ret (true : Bool)))))))))))))))))
def pats : List Pat := [.agg [.int .i64, .int .i64, .int .i64, .int .i64, .int .i64, .int .i64, .int .i64, .int .i64, .sl 3, .int .i64, .sl 3, .int .i64, .int .i64, .sl 3, .int .i64, .bool], .agg [.int .i64, .int .i64, .int .i64, .int .i64, .int .i64, .int .i64, .int .i64, .int .i64, .sl 3, .int .i64, .sl 3, .int .i64, .int .i64, .sl 3, .int .i64, .bool]]
def res : RP := .one (.rd (.bool))
noncomputable abbrev E : Env := { T := assoc Tab, G := conG [(162, laws_eqKeys.con)], nt := 73 }
set_option maxRecDepth 100000
theorem run_eq (n : Nat) (ls : List L) : runF E (fun _ => []) Try.f157 res n (initS pats ls) = F (RHead.dec ls) (RHead.dec (dropT 16 ls)) := by kernel_rfl
noncomputable def md (a0 : MHead) (a1 : MHead) : Bool := eqB a0 a1
def gd (a0 : MHead) (a1 : MHead) : Prop := True
def acc (ls : List L) : RHead × RHead := ((RHead.dec ls), (RHead.dec (dropT 16 ls)))
noncomputable def R : (RHead × RHead) → Option Bool := RR (p2 gd) (u2 md)
theorem R_eq {a0} {a1} (h : gd a0 a1) : R ((MHead.r a0), (MHead.r a1)) = some (md a0 a1) := RR_eq (a := (a0, a1)) h
noncomputable def con : Con := CN pats res acc R
theorem okF (a0 : MHead) (a1 : MHead) (hg : gd a0 a1) : F (MHead.r a0) (MHead.r a1) = ret ((md a0 a1) : Bool) := by
  unfold md
  show (bif (a0.fZone != a1.fZone) then ret (false : Bool) else (bif (a0.fEpoch != a1.fEpoch) then ret (false : Bool) else (bif (a0.fKind != a1.fKind) then ret (false : Bool) else (bif (a0.fTime != a1.fTime) then ret (false : Bool) else (bif (a0.fUntil != a1.fUntil) then ret (false : Bool) else (bif (a0.fCount != a1.fCount) then ret (false : Bool) else (bif (a0.fRoot != a1.fRoot) then ret (false : Bool) else (bif (a0.fPrev != a1.fPrev) then ret (false : Bool) else (call (laws_eqKeys.R ((MKeys.r a0.fKeys), (MKeys.r a1.fKeys))) fun v1 => (bif (!v1) then ret (false : Bool) else (call (laws_eqKeys.R ((MKeys.r a0.fHeirs), (MKeys.r a1.fHeirs))) fun v2 => (bif (!v2) then ret (false : Bool) else (bif (a0.fWait != a1.fWait) then ret (false : Bool) else (call (laws_eqKeys.R ((MKeys.r a0.fJudge), (MKeys.r a1.fJudge))) fun v3 => (bif (!v3) then ret (false : Bool) else (bif (!(a0.fFrozen == a1.fFrozen)) then ret (false : Bool) else ret (true : Bool))))))))))))))))) = _
  simp only [call_eq (laws_eqKeys.R_eq (a0 := a0.fKeys) (a1 := a1.fKeys) trivial), laws_eqKeys.md]
  simp only [call_eq (laws_eqKeys.R_eq (a0 := a0.fHeirs) (a1 := a1.fHeirs) trivial), laws_eqKeys.md]
  simp only [call_eq (laws_eqKeys.R_eq (a0 := a0.fJudge) (a1 := a1.fJudge) trivial), laws_eqKeys.md]
  try simp only [bne, int_beq, bool_beq, ba_beq]
  have e : eqB a0 a1 = (eqB a0.fZone a1.fZone && (eqB a0.fEpoch a1.fEpoch && (eqB a0.fKind a1.fKind && (eqB a0.fTime a1.fTime && (eqB a0.fUntil a1.fUntil && (eqB a0.fCount a1.fCount && (eqB a0.fRoot a1.fRoot && (eqB a0.fPrev a1.fPrev && (eqB a0.fKeys a1.fKeys && (eqB a0.fHeirs a1.fHeirs && (eqB a0.fWait a1.fWait && (eqB a0.fJudge a1.fJudge && (eqB a0.fFrozen a1.fFrozen && true))))))))))))) := by
    cases a0; cases a1
    rw [Bool.eq_iff_iff]
    simp only [eqB_iff, Bool.and_eq_true, MHead.mk.injEq, and_true]
  rw [e]
  refine and_step fun _ => ?_
  refine and_step fun _ => ?_
  refine and_step fun _ => ?_
  refine and_step fun _ => ?_
  refine and_step fun _ => ?_
  refine and_step fun _ => ?_
  refine and_step fun _ => ?_
  refine and_step fun _ => ?_
  refine and_step fun _ => ?_
  refine and_step fun _ => ?_
  refine and_step fun _ => ?_
  refine and_step fun _ => ?_
  refine and_step fun _ => ?_
  rfl
theorem valid_ : Valid Try.prog Ev 157 con := VV (run := fun _ x => F x.1 x.2) mix tab_ok (.cons laws_eqKeys.valid_ .nil) Try.func157 (by kernel_rfl) run_eq (fun _ a _ _ hg => ⟨0, okF a.1 a.2 hg⟩)
end laws_eqHead
/-! laws.eqSig -/
namespace laws_eqSig
noncomputable def F (x0 : MSig) (x1 : MSig) : Ans := (bif (x0.fKey != x1.fKey) then ret (false : Bool) else (bif (x0.fTag != x1.fTag) then ret (false : Bool) else ret (true : Bool)))
def pats : List Pat := [.agg [.int .i64, .int .i64], .agg [.int .i64, .int .i64]]
def res : RP := .one (.rd (.bool))
noncomputable abbrev E : Env := { T := assoc Tab, G := conG [], nt := 15 }
set_option maxRecDepth 100000
theorem run_eq (n : Nat) (ls : List L) : runF E (fun _ => []) Try.f163 res n (initS pats ls) = F (MSig.dec ls) (MSig.dec (dropT 2 ls)) := by kernel_rfl
noncomputable def md (a0 : MSig) (a1 : MSig) : Bool := eqB a0 a1
def gd (a0 : MSig) (a1 : MSig) : Prop := True
def acc (ls : List L) : MSig × MSig := ((MSig.dec ls), (MSig.dec (dropT 2 ls)))
noncomputable def R : (MSig × MSig) → Option Bool := RR (p2 gd) (u2 md)
theorem R_eq {a0} {a1} (h : gd a0 a1) : R (a0, a1) = some (md a0 a1) := RR_eq (a := (a0, a1)) h
noncomputable def con : Con := CN pats res acc R
theorem okF (a0 : MSig) (a1 : MSig) (hg : gd a0 a1) : F a0 a1 = ret ((md a0 a1) : Bool) := by
  unfold md
  show (bif (a0.fKey != a1.fKey) then ret (false : Bool) else (bif (a0.fTag != a1.fTag) then ret (false : Bool) else ret (true : Bool))) = _
  try simp only [bne, int_beq, bool_beq, ba_beq]
  have e : eqB a0 a1 = (eqB a0.fKey a1.fKey && (eqB a0.fTag a1.fTag && true)) := by
    cases a0; cases a1
    rw [Bool.eq_iff_iff]
    simp only [eqB_iff, Bool.and_eq_true, MSig.mk.injEq, and_true]
  rw [e]
  refine and_step fun _ => ?_
  refine and_step fun _ => ?_
  rfl
theorem valid_ : Valid Try.prog Ev 163 con := VV (run := fun _ x => F x.1 x.2) mix tab_ok .nil Try.func163 (by kernel_rfl) run_eq (fun _ a _ _ hg => ⟨0, okF a.1 a.2 hg⟩)
end laws_eqSig
/-! laws.eqSigS -/
namespace laws_eqSigS
inductive Pt where
  | p0 (a : List (List L)) (b : List (List L)) (c : Int)
def pid : Pt → Nat
  | .p0 .. => 4
def pvs : Pt → List V
  | .p0 a b c => [.sl none 169 a, .sl none 169 b, .int .i64 c]
def phs : Pt → List Root
  | .p0 a b c => []
noncomputable def step (J : Pt → Ans) : Pt → Ans
  | .p0 a b c => (bif (decide (c < (a.length : Int))) then (bif (decide ((0 : Int) ≤ c)) then (bif (decide (c < (a.length : Int))) then (bif (decide ((0 : Int) ≤ c)) then (bif (decide (c < (b.length : Int))) then (call (laws_eqSig.R ((MSig.at a (Int.toNat c)), (MSig.at b (Int.toNat c)))) fun v1 => (bif (!v1) then ret (false : Bool) else J (.p0 a b (IntKind.i64.wrap (c + 1))))) else none) else none) else none) else none) else ret (true : Bool))
noncomputable def start (J : Pt → Ans) (x0 : List (List L)) (x1 : List (List L)) : Ans := (bif ((x0.length : Int) != (x1.length : Int)) then ret (false : Bool) else J (.p0 x0 x1 0))
def live : Nat → Live := fun i => match i with | 4 => [(0, none), (1, none), (5, none)] | _ => []
def pats : List Pat := [.rd (.sl 169), .rd (.sl 169)]
def res : RP := .one (.rd (.bool))
noncomputable abbrev E : Env := { T := assoc Tab, G := conG [(163, laws_eqSig.con)], nt := 27 }
set_option maxRecDepth 100000
theorem step_eq (I : Heads) (p : Pt) : enterC E live I (pid p) (bodyOf Try.f158) (stOf (live (pid p)) (pvs p) (phs p)) (doneK E Try.f158 res) = step (fun q => I (pid q) (pvs q) (phs q)) p := by
  cases p <;> kernel_rfl
theorem start_eq (I : Heads) (ls : List L) : runC E live I (bodyOf Try.f158) (initS pats ls) (doneK E Try.f158 res) = start (fun q => I (pid q) (pvs q) (phs q)) (ls.headD .hole).toSl ((dropT 1 ls).headD .hole).toSl := by kernel_rfl
theorem run_eq (n : Nat) (ls : List L) : runF E live Try.f158 res n (initS pats ls) = start (iter step n) (ls.headD .hole).toSl ((dropT 1 ls).headD .hole).toSl := runF_iter (id := pid) (vs := pvs) (hs := phs) (step := step) (start := fun J => start J (ls.headD .hole).toSl ((dropT 1 ls).headD .hole).toSl) step_eq (fun I => start_eq I ls) n
noncomputable def md (a0 : List MSig) (a1 : List MSig) : Bool := eqB a0 a1
def gd (a0 : List MSig) (a1 : List MSig) : Prop := True
def acc (ls : List L) : List (List L) × List (List L) := ((ls.headD .hole).toSl, ((dropT 1 ls).headD .hole).toSl)
noncomputable def R : (List (List L) × List (List L)) → Option Bool := RR (p2 gd) (u2 md)
theorem R_eq {a0} {a1} (h : gd a0 a1) : R ((a0.map MSig.row), (a1.map MSig.row)) = some (md a0 a1) := RR_eq (a := (a0, a1)) h
noncomputable def con : Con := CN pats res acc R
theorem okF (a0 : List MSig) (a1 : List MSig) (hg : gd a0 a1) (h0 : a0.length ≤ maxLen) (h1 : a1.length ≤ maxLen) : ∃ n, start (iter step n) (a0.map MSig.row) (a1.map MSig.row) = ret ((md a0 a1) : Bool) := by
  unfold start md
  simp only [List.length_map]
  refine eq_list (pt := fun i => Pt.p0 (a0.map MSig.row) (a1.map MSig.row) (i : Int)) (fun hl J i h h2 => ?_) (fun J => ?_)
  · simp only [step, List.length_map, lt_dec h, lt_dec h2, zle_dec, cond_true, toNat_nat, MSig.at_row h, MSig.at_row h2]
    rw [wrap_succ h h0]
    rw [call_eq (laws_eqSig.R_eq (a0 := a0[i]) (a1 := a1[i]) trivial), laws_eqSig.md]
    cases eqB a0[i] a1[i] <;> rfl
  · simp only [step, List.length_map, nlt_dec, cond_false]
theorem valid_ : Valid Try.prog Ev 158 con := VV (run := fun n x => start (iter step n) x.1 x.2) mix tab_ok (.cons laws_eqSig.valid_ .nil) Try.func158 (by kernel_rfl) run_eq (fun ls a hl e hg => okF a.1 a.2 hg (by have h : (ls.headD .hole).toSl.length ≤ maxLen := hl.1.len; have e : a.1.map MSig.row = (ls.headD .hole).toSl := (congrArg (fun x => x.1) e.symm); rw [← e] at h; simpa using h) (by have h : ((dropT 1 ls).headD .hole).toSl.length ≤ maxLen := hl.2.1.len; have e : a.2.map MSig.row = ((dropT 1 ls).headD .hole).toSl := (congrArg (fun x => x.2) e.symm); rw [← e] at h; simpa using h))
end laws_eqSigS
/-! laws.eqSigned -/
namespace laws_eqSigned
noncomputable def F (x0 : RSigned) (x1 : RSigned) : Ans := (call (laws_eqHead.R (x0.fHead, x1.fHead)) fun v1 => (bif (!v1) then ret (false : Bool) else (call (laws_eqSigS.R (x0.fSigs, x1.fSigs)) fun v2 => (bif (!v2) then ret (false : Bool) else ret (true : Bool)))))
def pats : List Pat := [.agg [.int .i64, .int .i64, .int .i64, .int .i64, .int .i64, .int .i64, .int .i64, .int .i64, .sl 3, .int .i64, .sl 3, .int .i64, .int .i64, .sl 3, .int .i64, .bool, .sl 169], .agg [.int .i64, .int .i64, .int .i64, .int .i64, .int .i64, .int .i64, .int .i64, .int .i64, .sl 3, .int .i64, .sl 3, .int .i64, .int .i64, .sl 3, .int .i64, .bool, .sl 169]]
def res : RP := .one (.rd (.bool))
noncomputable abbrev E : Env := { T := assoc Tab, G := conG [(157, laws_eqHead.con), (158, laws_eqSigS.con)], nt := 17 }
set_option maxRecDepth 100000
theorem run_eq (n : Nat) (ls : List L) : runF E (fun _ => []) Try.f152 res n (initS pats ls) = F (RSigned.dec ls) (RSigned.dec (dropT 17 ls)) := by kernel_rfl
noncomputable def md (a0 : MSigned) (a1 : MSigned) : Bool := eqB a0 a1
def gd (a0 : MSigned) (a1 : MSigned) : Prop := True
def acc (ls : List L) : RSigned × RSigned := ((RSigned.dec ls), (RSigned.dec (dropT 17 ls)))
noncomputable def R : (RSigned × RSigned) → Option Bool := RR (p2 gd) (u2 md)
theorem R_eq {a0} {a1} (h : gd a0 a1) : R ((MSigned.r a0), (MSigned.r a1)) = some (md a0 a1) := RR_eq (a := (a0, a1)) h
noncomputable def con : Con := CN pats res acc R
theorem okF (a0 : MSigned) (a1 : MSigned) (hg : gd a0 a1) : F (MSigned.r a0) (MSigned.r a1) = ret ((md a0 a1) : Bool) := by
  unfold md
  show (call (laws_eqHead.R ((MHead.r a0.fHead), (MHead.r a1.fHead))) fun v1 => (bif (!v1) then ret (false : Bool) else (call (laws_eqSigS.R ((a0.fSigs.map MSig.row), (a1.fSigs.map MSig.row))) fun v2 => (bif (!v2) then ret (false : Bool) else ret (true : Bool))))) = _
  simp only [call_eq (laws_eqHead.R_eq (a0 := a0.fHead) (a1 := a1.fHead) trivial), laws_eqHead.md]
  simp only [call_eq (laws_eqSigS.R_eq (a0 := a0.fSigs) (a1 := a1.fSigs) trivial), laws_eqSigS.md]
  try simp only [bne, int_beq, bool_beq, ba_beq]
  have e : eqB a0 a1 = (eqB a0.fHead a1.fHead && (eqB a0.fSigs a1.fSigs && true)) := by
    cases a0; cases a1
    rw [Bool.eq_iff_iff]
    simp only [eqB_iff, Bool.and_eq_true, MSigned.mk.injEq, and_true]
  rw [e]
  refine and_step fun _ => ?_
  refine and_step fun _ => ?_
  rfl
theorem valid_ : Valid Try.prog Ev 152 con := VV (run := fun _ x => F x.1 x.2) mix tab_ok (.cons laws_eqHead.valid_ (.cons laws_eqSigS.valid_ .nil)) Try.func152 (by kernel_rfl) run_eq (fun _ a _ _ hg => ⟨0, okF a.1 a.2 hg⟩)
end laws_eqSigned
/-! laws.eqSignedS -/
namespace laws_eqSignedS
inductive Pt where
  | p0 (a : List (List L)) (b : List (List L)) (c : Int)
def pid : Pt → Nat
  | .p0 .. => 4
def pvs : Pt → List V
  | .p0 a b c => [.sl none 156 a, .sl none 156 b, .int .i64 c]
def phs : Pt → List Root
  | .p0 a b c => []
noncomputable def step (J : Pt → Ans) : Pt → Ans
  | .p0 a b c => (bif (decide (c < (a.length : Int))) then (bif (decide ((0 : Int) ≤ c)) then (bif (decide (c < (a.length : Int))) then (bif (decide ((0 : Int) ≤ c)) then (bif (decide (c < (b.length : Int))) then (call (laws_eqSigned.R ((RSigned.at a (Int.toNat c)), (RSigned.at b (Int.toNat c)))) fun v1 => (bif (!v1) then ret (false : Bool) else J (.p0 a b (IntKind.i64.wrap (c + 1))))) else none) else none) else none) else none) else ret (true : Bool))
noncomputable def start (J : Pt → Ans) (x0 : List (List L)) (x1 : List (List L)) : Ans := (bif ((x0.length : Int) != (x1.length : Int)) then ret (false : Bool) else J (.p0 x0 x1 0))
def live : Nat → Live := fun i => match i with | 4 => [(0, none), (1, none), (5, none)] | _ => []
def pats : List Pat := [.rd (.sl 156), .rd (.sl 156)]
def res : RP := .one (.rd (.bool))
noncomputable abbrev E : Env := { T := assoc Tab, G := conG [(152, laws_eqSigned.con)], nt := 27 }
set_option maxRecDepth 100000
theorem step_eq (I : Heads) (p : Pt) : enterC E live I (pid p) (bodyOf Try.f147) (stOf (live (pid p)) (pvs p) (phs p)) (doneK E Try.f147 res) = step (fun q => I (pid q) (pvs q) (phs q)) p := by
  cases p <;> kernel_rfl
theorem start_eq (I : Heads) (ls : List L) : runC E live I (bodyOf Try.f147) (initS pats ls) (doneK E Try.f147 res) = start (fun q => I (pid q) (pvs q) (phs q)) (ls.headD .hole).toSl ((dropT 1 ls).headD .hole).toSl := by kernel_rfl
theorem run_eq (n : Nat) (ls : List L) : runF E live Try.f147 res n (initS pats ls) = start (iter step n) (ls.headD .hole).toSl ((dropT 1 ls).headD .hole).toSl := runF_iter (id := pid) (vs := pvs) (hs := phs) (step := step) (start := fun J => start J (ls.headD .hole).toSl ((dropT 1 ls).headD .hole).toSl) step_eq (fun I => start_eq I ls) n
noncomputable def md (a0 : List MSigned) (a1 : List MSigned) : Bool := eqB a0 a1
def gd (a0 : List MSigned) (a1 : List MSigned) : Prop := True
def acc (ls : List L) : List (List L) × List (List L) := ((ls.headD .hole).toSl, ((dropT 1 ls).headD .hole).toSl)
noncomputable def R : (List (List L) × List (List L)) → Option Bool := RR (p2 gd) (u2 md)
theorem R_eq {a0} {a1} (h : gd a0 a1) : R ((a0.map MSigned.row), (a1.map MSigned.row)) = some (md a0 a1) := RR_eq (a := (a0, a1)) h
noncomputable def con : Con := CN pats res acc R
theorem okF (a0 : List MSigned) (a1 : List MSigned) (hg : gd a0 a1) (h0 : a0.length ≤ maxLen) (h1 : a1.length ≤ maxLen) : ∃ n, start (iter step n) (a0.map MSigned.row) (a1.map MSigned.row) = ret ((md a0 a1) : Bool) := by
  unfold start md
  simp only [List.length_map]
  refine eq_list (pt := fun i => Pt.p0 (a0.map MSigned.row) (a1.map MSigned.row) (i : Int)) (fun hl J i h h2 => ?_) (fun J => ?_)
  · simp only [step, List.length_map, lt_dec h, lt_dec h2, zle_dec, cond_true, toNat_nat, MSigned.at_row h, MSigned.at_row h2]
    rw [wrap_succ h h0]
    rw [call_eq (laws_eqSigned.R_eq (a0 := a0[i]) (a1 := a1[i]) trivial), laws_eqSigned.md]
    cases eqB a0[i] a1[i] <;> rfl
  · simp only [step, List.length_map, nlt_dec, cond_false]
theorem valid_ : Valid Try.prog Ev 147 con := VV (run := fun n x => start (iter step n) x.1 x.2) mix tab_ok (.cons laws_eqSigned.valid_ .nil) Try.func147 (by kernel_rfl) run_eq (fun ls a hl e hg => okF a.1 a.2 hg (by have h : (ls.headD .hole).toSl.length ≤ maxLen := hl.1.len; have e : a.1.map MSigned.row = (ls.headD .hole).toSl := (congrArg (fun x => x.1) e.symm); rw [← e] at h; simpa using h) (by have h : ((dropT 1 ls).headD .hole).toSl.length ≤ maxLen := hl.2.1.len; have e : a.2.map MSigned.row = ((dropT 1 ls).headD .hole).toSl := (congrArg (fun x => x.2) e.symm); rw [← e] at h; simpa using h))
end laws_eqSignedS
/-! laws.eqSignedSS -/
namespace laws_eqSignedSS
inductive Pt where
  | p0 (a : List (List L)) (b : List (List L)) (c : Int)
def pid : Pt → Nat
  | .p0 .. => 4
def pvs : Pt → List V
  | .p0 a b c => [.sl none 149 a, .sl none 149 b, .int .i64 c]
def phs : Pt → List Root
  | .p0 a b c => []
noncomputable def step (J : Pt → Ans) : Pt → Ans
  | .p0 a b c => (bif (decide (c < (a.length : Int))) then (bif (decide ((0 : Int) ≤ c)) then (bif (decide (c < (a.length : Int))) then (bif (decide ((0 : Int) ≤ c)) then (bif (decide (c < (b.length : Int))) then (call (laws_eqSignedS.R ((lAt a (Int.toNat c)), (lAt b (Int.toNat c)))) fun v1 => (bif (!v1) then ret (false : Bool) else J (.p0 a b (IntKind.i64.wrap (c + 1))))) else none) else none) else none) else none) else ret (true : Bool))
noncomputable def start (J : Pt → Ans) (x0 : List (List L)) (x1 : List (List L)) : Ans := (bif ((x0.length : Int) != (x1.length : Int)) then ret (false : Bool) else J (.p0 x0 x1 0))
def live : Nat → Live := fun i => match i with | 4 => [(0, none), (1, none), (5, none)] | _ => []
def pats : List Pat := [.rd (.sl 149), .rd (.sl 149)]
def res : RP := .one (.rd (.bool))
noncomputable abbrev E : Env := { T := assoc Tab, G := conG [(147, laws_eqSignedS.con)], nt := 27 }
set_option maxRecDepth 100000
theorem step_eq (I : Heads) (p : Pt) : enterC E live I (pid p) (bodyOf Try.f139) (stOf (live (pid p)) (pvs p) (phs p)) (doneK E Try.f139 res) = step (fun q => I (pid q) (pvs q) (phs q)) p := by
  cases p <;> kernel_rfl
theorem start_eq (I : Heads) (ls : List L) : runC E live I (bodyOf Try.f139) (initS pats ls) (doneK E Try.f139 res) = start (fun q => I (pid q) (pvs q) (phs q)) (ls.headD .hole).toSl ((dropT 1 ls).headD .hole).toSl := by kernel_rfl
theorem run_eq (n : Nat) (ls : List L) : runF E live Try.f139 res n (initS pats ls) = start (iter step n) (ls.headD .hole).toSl ((dropT 1 ls).headD .hole).toSl := runF_iter (id := pid) (vs := pvs) (hs := phs) (step := step) (start := fun J => start J (ls.headD .hole).toSl ((dropT 1 ls).headD .hole).toSl) step_eq (fun I => start_eq I ls) n
noncomputable def md (a0 : List (List MSigned)) (a1 : List (List MSigned)) : Bool := eqB a0 a1
def gd (a0 : List (List MSigned)) (a1 : List (List MSigned)) : Prop := True
def acc (ls : List L) : List (List L) × List (List L) := ((ls.headD .hole).toSl, ((dropT 1 ls).headD .hole).toSl)
noncomputable def R : (List (List L) × List (List L)) → Option Bool := RR (p2 gd) (u2 md)
theorem R_eq {a0} {a1} (h : gd a0 a1) : R ((a0.map (lRow MSigned.row)), (a1.map (lRow MSigned.row))) = some (md a0 a1) := RR_eq (a := (a0, a1)) h
noncomputable def con : Con := CN pats res acc R
theorem okF (a0 : List (List MSigned)) (a1 : List (List MSigned)) (hg : gd a0 a1) (h0 : a0.length ≤ maxLen) (h1 : a1.length ≤ maxLen) : ∃ n, start (iter step n) (a0.map (lRow MSigned.row)) (a1.map (lRow MSigned.row)) = ret ((md a0 a1) : Bool) := by
  unfold start md
  simp only [List.length_map]
  refine eq_list (pt := fun i => Pt.p0 (a0.map (lRow MSigned.row)) (a1.map (lRow MSigned.row)) (i : Int)) (fun hl J i h h2 => ?_) (fun J => ?_)
  · simp only [step, List.length_map, lt_dec h, lt_dec h2, zle_dec, cond_true, toNat_nat, lAt_row h, lAt_row h2]
    rw [wrap_succ h h0]
    rw [call_eq (laws_eqSignedS.R_eq (a0 := a0[i]) (a1 := a1[i]) trivial), laws_eqSignedS.md]
    cases eqB a0[i] a1[i] <;> rfl
  · simp only [step, List.length_map, nlt_dec, cond_false]
theorem valid_ : Valid Try.prog Ev 139 con := VV (run := fun n x => start (iter step n) x.1 x.2) mix tab_ok (.cons laws_eqSignedS.valid_ .nil) Try.func139 (by kernel_rfl) run_eq (fun ls a hl e hg => okF a.1 a.2 hg (by have h : (ls.headD .hole).toSl.length ≤ maxLen := hl.1.len; have e : a.1.map (lRow MSigned.row) = (ls.headD .hole).toSl := (congrArg (fun x => x.1) e.symm); rw [← e] at h; simpa using h) (by have h : ((dropT 1 ls).headD .hole).toSl.length ≤ maxLen := hl.2.1.len; have e : a.2.map (lRow MSigned.row) = ((dropT 1 ls).headD .hole).toSl := (congrArg (fun x => x.2) e.symm); rw [← e] at h; simpa using h))
end laws_eqSignedSS
/-! laws.eqFork -/
namespace laws_eqFork
noncomputable def F (x0 : RFork) (x1 : RFork) : Ans := (call (laws_eqSigned.R (x0.fBefore, x1.fBefore)) fun v1 => (bif (!v1) then ret (false : Bool) else (call (laws_eqSigned.R (x0.fA, x1.fA)) fun v2 => (bif (!v2) then ret (false : Bool) else (call (laws_eqSigned.R (x0.fB, x1.fB)) fun v3 => (bif (!v3) then ret (false : Bool) else ret (true : Bool)))))))
def pats : List Pat := [.agg [.int .i64, .int .i64, .int .i64, .int .i64, .int .i64, .int .i64, .int .i64, .int .i64, .sl 3, .int .i64, .sl 3, .int .i64, .int .i64, .sl 3, .int .i64, .bool, .sl 169, .int .i64, .int .i64, .int .i64, .int .i64, .int .i64, .int .i64, .int .i64, .int .i64, .sl 3, .int .i64, .sl 3, .int .i64, .int .i64, .sl 3, .int .i64, .bool, .sl 169, .int .i64, .int .i64, .int .i64, .int .i64, .int .i64, .int .i64, .int .i64, .int .i64, .sl 3, .int .i64, .sl 3, .int .i64, .int .i64, .sl 3, .int .i64, .bool, .sl 169], .agg [.int .i64, .int .i64, .int .i64, .int .i64, .int .i64, .int .i64, .int .i64, .int .i64, .sl 3, .int .i64, .sl 3, .int .i64, .int .i64, .sl 3, .int .i64, .bool, .sl 169, .int .i64, .int .i64, .int .i64, .int .i64, .int .i64, .int .i64, .int .i64, .int .i64, .sl 3, .int .i64, .sl 3, .int .i64, .int .i64, .sl 3, .int .i64, .bool, .sl 169, .int .i64, .int .i64, .int .i64, .int .i64, .int .i64, .int .i64, .int .i64, .int .i64, .sl 3, .int .i64, .sl 3, .int .i64, .int .i64, .sl 3, .int .i64, .bool, .sl 169]]
def res : RP := .one (.rd (.bool))
noncomputable abbrev E : Env := { T := assoc Tab, G := conG [(152, laws_eqSigned.con)], nt := 23 }
set_option maxRecDepth 100000
theorem run_eq (n : Nat) (ls : List L) : runF E (fun _ => []) Try.f148 res n (initS pats ls) = F (RFork.dec ls) (RFork.dec (dropT 51 ls)) := by kernel_rfl
noncomputable def md (a0 : MFork) (a1 : MFork) : Bool := eqB a0 a1
def gd (a0 : MFork) (a1 : MFork) : Prop := True
def acc (ls : List L) : RFork × RFork := ((RFork.dec ls), (RFork.dec (dropT 51 ls)))
noncomputable def R : (RFork × RFork) → Option Bool := RR (p2 gd) (u2 md)
theorem R_eq {a0} {a1} (h : gd a0 a1) : R ((MFork.r a0), (MFork.r a1)) = some (md a0 a1) := RR_eq (a := (a0, a1)) h
noncomputable def con : Con := CN pats res acc R
theorem okF (a0 : MFork) (a1 : MFork) (hg : gd a0 a1) : F (MFork.r a0) (MFork.r a1) = ret ((md a0 a1) : Bool) := by
  unfold md
  show (call (laws_eqSigned.R ((MSigned.r a0.fBefore), (MSigned.r a1.fBefore))) fun v1 => (bif (!v1) then ret (false : Bool) else (call (laws_eqSigned.R ((MSigned.r a0.fA), (MSigned.r a1.fA))) fun v2 => (bif (!v2) then ret (false : Bool) else (call (laws_eqSigned.R ((MSigned.r a0.fB), (MSigned.r a1.fB))) fun v3 => (bif (!v3) then ret (false : Bool) else ret (true : Bool))))))) = _
  simp only [call_eq (laws_eqSigned.R_eq (a0 := a0.fBefore) (a1 := a1.fBefore) trivial), laws_eqSigned.md]
  simp only [call_eq (laws_eqSigned.R_eq (a0 := a0.fA) (a1 := a1.fA) trivial), laws_eqSigned.md]
  simp only [call_eq (laws_eqSigned.R_eq (a0 := a0.fB) (a1 := a1.fB) trivial), laws_eqSigned.md]
  try simp only [bne, int_beq, bool_beq, ba_beq]
  have e : eqB a0 a1 = (eqB a0.fBefore a1.fBefore && (eqB a0.fA a1.fA && (eqB a0.fB a1.fB && true))) := by
    cases a0; cases a1
    rw [Bool.eq_iff_iff]
    simp only [eqB_iff, Bool.and_eq_true, MFork.mk.injEq, and_true]
  rw [e]
  refine and_step fun _ => ?_
  refine and_step fun _ => ?_
  refine and_step fun _ => ?_
  rfl
theorem valid_ : Valid Try.prog Ev 148 con := VV (run := fun _ x => F x.1 x.2) mix tab_ok (.cons laws_eqSigned.valid_ .nil) Try.func148 (by kernel_rfl) run_eq (fun _ a _ _ hg => ⟨0, okF a.1 a.2 hg⟩)
end laws_eqFork
/-! laws.eqForkS -/
namespace laws_eqForkS
inductive Pt where
  | p0 (a : List (List L)) (b : List (List L)) (c : Int)
def pid : Pt → Nat
  | .p0 .. => 4
def pvs : Pt → List V
  | .p0 a b c => [.sl none 158 a, .sl none 158 b, .int .i64 c]
def phs : Pt → List Root
  | .p0 a b c => []
noncomputable def step (J : Pt → Ans) : Pt → Ans
  | .p0 a b c => (bif (decide (c < (a.length : Int))) then (bif (decide ((0 : Int) ≤ c)) then (bif (decide (c < (a.length : Int))) then (bif (decide ((0 : Int) ≤ c)) then (bif (decide (c < (b.length : Int))) then (call (laws_eqFork.R ((RFork.at a (Int.toNat c)), (RFork.at b (Int.toNat c)))) fun v1 => (bif (!v1) then ret (false : Bool) else J (.p0 a b (IntKind.i64.wrap (c + 1))))) else none) else none) else none) else none) else ret (true : Bool))
noncomputable def start (J : Pt → Ans) (x0 : List (List L)) (x1 : List (List L)) : Ans := (bif ((x0.length : Int) != (x1.length : Int)) then ret (false : Bool) else J (.p0 x0 x1 0))
def live : Nat → Live := fun i => match i with | 4 => [(0, none), (1, none), (5, none)] | _ => []
def pats : List Pat := [.rd (.sl 158), .rd (.sl 158)]
def res : RP := .one (.rd (.bool))
noncomputable abbrev E : Env := { T := assoc Tab, G := conG [(148, laws_eqFork.con)], nt := 27 }
set_option maxRecDepth 100000
theorem step_eq (I : Heads) (p : Pt) : enterC E live I (pid p) (bodyOf Try.f140) (stOf (live (pid p)) (pvs p) (phs p)) (doneK E Try.f140 res) = step (fun q => I (pid q) (pvs q) (phs q)) p := by
  cases p <;> kernel_rfl
theorem start_eq (I : Heads) (ls : List L) : runC E live I (bodyOf Try.f140) (initS pats ls) (doneK E Try.f140 res) = start (fun q => I (pid q) (pvs q) (phs q)) (ls.headD .hole).toSl ((dropT 1 ls).headD .hole).toSl := by kernel_rfl
theorem run_eq (n : Nat) (ls : List L) : runF E live Try.f140 res n (initS pats ls) = start (iter step n) (ls.headD .hole).toSl ((dropT 1 ls).headD .hole).toSl := runF_iter (id := pid) (vs := pvs) (hs := phs) (step := step) (start := fun J => start J (ls.headD .hole).toSl ((dropT 1 ls).headD .hole).toSl) step_eq (fun I => start_eq I ls) n
noncomputable def md (a0 : List MFork) (a1 : List MFork) : Bool := eqB a0 a1
def gd (a0 : List MFork) (a1 : List MFork) : Prop := True
def acc (ls : List L) : List (List L) × List (List L) := ((ls.headD .hole).toSl, ((dropT 1 ls).headD .hole).toSl)
noncomputable def R : (List (List L) × List (List L)) → Option Bool := RR (p2 gd) (u2 md)
theorem R_eq {a0} {a1} (h : gd a0 a1) : R ((a0.map MFork.row), (a1.map MFork.row)) = some (md a0 a1) := RR_eq (a := (a0, a1)) h
noncomputable def con : Con := CN pats res acc R
theorem okF (a0 : List MFork) (a1 : List MFork) (hg : gd a0 a1) (h0 : a0.length ≤ maxLen) (h1 : a1.length ≤ maxLen) : ∃ n, start (iter step n) (a0.map MFork.row) (a1.map MFork.row) = ret ((md a0 a1) : Bool) := by
  unfold start md
  simp only [List.length_map]
  refine eq_list (pt := fun i => Pt.p0 (a0.map MFork.row) (a1.map MFork.row) (i : Int)) (fun hl J i h h2 => ?_) (fun J => ?_)
  · simp only [step, List.length_map, lt_dec h, lt_dec h2, zle_dec, cond_true, toNat_nat, MFork.at_row h, MFork.at_row h2]
    rw [wrap_succ h h0]
    rw [call_eq (laws_eqFork.R_eq (a0 := a0[i]) (a1 := a1[i]) trivial), laws_eqFork.md]
    cases eqB a0[i] a1[i] <;> rfl
  · simp only [step, List.length_map, nlt_dec, cond_false]
theorem valid_ : Valid Try.prog Ev 140 con := VV (run := fun n x => start (iter step n) x.1 x.2) mix tab_ok (.cons laws_eqFork.valid_ .nil) Try.func140 (by kernel_rfl) run_eq (fun ls a hl e hg => okF a.1 a.2 hg (by have h : (ls.headD .hole).toSl.length ≤ maxLen := hl.1.len; have e : a.1.map MFork.row = (ls.headD .hole).toSl := (congrArg (fun x => x.1) e.symm); rw [← e] at h; simpa using h) (by have h : ((dropT 1 ls).headD .hole).toSl.length ≤ maxLen := hl.2.1.len; have e : a.2.map MFork.row = ((dropT 1 ls).headD .hole).toSl := (congrArg (fun x => x.2) e.symm); rw [← e] at h; simpa using h))
end laws_eqForkS
/-! laws.eqKnown -/
namespace laws_eqKnown
noncomputable def F (x0 : RKnown) (x1 : RKnown) : Ans := (call (laws_eqSignedSS.R (x0.fChains, x1.fChains)) fun v1 => (bif (!v1) then ret (false : Bool) else (call (laws_eqForkS.R (x0.fForks, x1.fForks)) fun v2 => (bif (!v2) then ret (false : Bool) else ret (true : Bool)))))
def pats : List Pat := [.agg [.sl 149, .sl 158], .agg [.sl 149, .sl 158]]
def res : RP := .one (.rd (.bool))
noncomputable abbrev E : Env := { T := assoc Tab, G := conG [(139, laws_eqSignedSS.con), (140, laws_eqForkS.con)], nt := 17 }
set_option maxRecDepth 100000
theorem run_eq (n : Nat) (ls : List L) : runF E (fun _ => []) Try.f126 res n (initS pats ls) = F (RKnown.dec ls) (RKnown.dec (dropT 2 ls)) := by kernel_rfl
noncomputable def md (a0 : MKnown) (a1 : MKnown) : Bool := eqB a0 a1
def gd (a0 : MKnown) (a1 : MKnown) : Prop := True
def acc (ls : List L) : RKnown × RKnown := ((RKnown.dec ls), (RKnown.dec (dropT 2 ls)))
noncomputable def R : (RKnown × RKnown) → Option Bool := RR (p2 gd) (u2 md)
theorem R_eq {a0} {a1} (h : gd a0 a1) : R ((MKnown.r a0), (MKnown.r a1)) = some (md a0 a1) := RR_eq (a := (a0, a1)) h
noncomputable def con : Con := CN pats res acc R
theorem okF (a0 : MKnown) (a1 : MKnown) (hg : gd a0 a1) : F (MKnown.r a0) (MKnown.r a1) = ret ((md a0 a1) : Bool) := by
  unfold md
  show (call (laws_eqSignedSS.R ((a0.fChains.map (lRow MSigned.row)), (a1.fChains.map (lRow MSigned.row)))) fun v1 => (bif (!v1) then ret (false : Bool) else (call (laws_eqForkS.R ((a0.fForks.map MFork.row), (a1.fForks.map MFork.row))) fun v2 => (bif (!v2) then ret (false : Bool) else ret (true : Bool))))) = _
  simp only [call_eq (laws_eqSignedSS.R_eq (a0 := a0.fChains) (a1 := a1.fChains) trivial), laws_eqSignedSS.md]
  simp only [call_eq (laws_eqForkS.R_eq (a0 := a0.fForks) (a1 := a1.fForks) trivial), laws_eqForkS.md]
  try simp only [bne, int_beq, bool_beq, ba_beq]
  have e : eqB a0 a1 = (eqB a0.fChains a1.fChains && (eqB a0.fForks a1.fForks && true)) := by
    cases a0; cases a1
    rw [Bool.eq_iff_iff]
    simp only [eqB_iff, Bool.and_eq_true, MKnown.mk.injEq, and_true]
  rw [e]
  refine and_step fun _ => ?_
  refine and_step fun _ => ?_
  rfl
theorem valid_ : Valid Try.prog Ev 126 con := VV (run := fun _ x => F x.1 x.2) mix tab_ok (.cons laws_eqSignedSS.valid_ (.cons laws_eqForkS.valid_ .nil)) Try.func126 (by kernel_rfl) run_eq (fun _ a _ _ hg => ⟨0, okF a.1 a.2 hg⟩)
end laws_eqKnown
/-! laws.eqTrace -/
namespace laws_eqTrace
noncomputable def F (x0 : RTrace) (x1 : RTrace) : Ans := (call (laws_eqKnown.R (x0.fKnown, x1.fKnown)) fun v1 => (bif (!v1) then ret (false : Bool) else (bif (x0.fCode != x1.fCode) then ret (false : Bool) else (call (laws_eqEntry.R (x0.fEntry, x1.fEntry)) fun v2 => (bif (!v2) then ret (false : Bool) else (call (laws_eqIntS.R (x0.fZones, x1.fZones)) fun v3 => (bif (!v3) then ret (false : Bool) else (bif (x0.fMoves != x1.fMoves) then ret (false : Bool) else ret (true : Bool)))))))))
def pats : List Pat := [.agg [.sl 149, .sl 158, .int .i64, .str, .int .i64, .int .i64, .sl 9, .sl 3, .int .i64], .agg [.sl 149, .sl 158, .int .i64, .str, .int .i64, .int .i64, .sl 9, .sl 3, .int .i64]]
def res : RP := .one (.rd (.bool))
noncomputable abbrev E : Env := { T := assoc Tab, G := conG [(126, laws_eqKnown.con), (32, laws_eqEntry.con), (97, laws_eqIntS.con)], nt := 33 }
set_option maxRecDepth 100000
theorem run_eq (n : Nat) (ls : List L) : runF E (fun _ => []) Try.f92 res n (initS pats ls) = F (RTrace.dec ls) (RTrace.dec (dropT 9 ls)) := by kernel_rfl
noncomputable def md (a0 : MTrace) (a1 : MTrace) : Bool := eqB a0 a1
def gd (a0 : MTrace) (a1 : MTrace) : Prop := True
def acc (ls : List L) : RTrace × RTrace := ((RTrace.dec ls), (RTrace.dec (dropT 9 ls)))
noncomputable def R : (RTrace × RTrace) → Option Bool := RR (p2 gd) (u2 md)
theorem R_eq {a0} {a1} (h : gd a0 a1) : R ((MTrace.r a0), (MTrace.r a1)) = some (md a0 a1) := RR_eq (a := (a0, a1)) h
noncomputable def con : Con := CN pats res acc R
theorem okF (a0 : MTrace) (a1 : MTrace) (hg : gd a0 a1) : F (MTrace.r a0) (MTrace.r a1) = ret ((md a0 a1) : Bool) := by
  unfold md
  show (call (laws_eqKnown.R ((MKnown.r a0.fKnown), (MKnown.r a1.fKnown))) fun v1 => (bif (!v1) then ret (false : Bool) else (bif (a0.fCode != a1.fCode) then ret (false : Bool) else (call (laws_eqEntry.R ((MEntry.r a0.fEntry), (MEntry.r a1.fEntry))) fun v2 => (bif (!v2) then ret (false : Bool) else (call (laws_eqIntS.R ((a0.fZones.map iRow), (a1.fZones.map iRow))) fun v3 => (bif (!v3) then ret (false : Bool) else (bif (a0.fMoves != a1.fMoves) then ret (false : Bool) else ret (true : Bool))))))))) = _
  simp only [call_eq (laws_eqKnown.R_eq (a0 := a0.fKnown) (a1 := a1.fKnown) trivial), laws_eqKnown.md]
  simp only [call_eq (laws_eqEntry.R_eq (a0 := a0.fEntry) (a1 := a1.fEntry) trivial), laws_eqEntry.md]
  simp only [call_eq (laws_eqIntS.R_eq (a0 := a0.fZones) (a1 := a1.fZones) trivial), laws_eqIntS.md]
  try simp only [bne, int_beq, bool_beq, ba_beq]
  have e : eqB a0 a1 = (eqB a0.fKnown a1.fKnown && (eqB a0.fCode a1.fCode && (eqB a0.fEntry a1.fEntry && (eqB a0.fZones a1.fZones && (eqB a0.fMoves a1.fMoves && true))))) := by
    cases a0; cases a1
    rw [Bool.eq_iff_iff]
    simp only [eqB_iff, Bool.and_eq_true, MTrace.mk.injEq, and_true]
  rw [e]
  refine and_step fun _ => ?_
  refine and_step fun _ => ?_
  refine and_step fun _ => ?_
  refine and_step fun _ => ?_
  refine and_step fun _ => ?_
  rfl
theorem valid_ : Valid Try.prog Ev 92 con := VV (run := fun _ x => F x.1 x.2) mix tab_ok (.cons laws_eqKnown.valid_ (.cons laws_eqEntry.valid_ (.cons laws_eqIntS.valid_ .nil))) Try.func92 (by kernel_rfl) run_eq (fun _ a _ _ hg => ⟨0, okF a.1 a.2 hg⟩)
end laws_eqTrace
/-! laws.eqTraceS -/
namespace laws_eqTraceS
inductive Pt where
  | p0 (a : List (List L)) (b : List (List L)) (c : Int)
def pid : Pt → Nat
  | .p0 .. => 4
def pvs : Pt → List V
  | .p0 a b c => [.sl none 124 a, .sl none 124 b, .int .i64 c]
def phs : Pt → List Root
  | .p0 a b c => []
noncomputable def step (J : Pt → Ans) : Pt → Ans
  | .p0 a b c => (bif (decide (c < (a.length : Int))) then (bif (decide ((0 : Int) ≤ c)) then (bif (decide (c < (a.length : Int))) then (bif (decide ((0 : Int) ≤ c)) then (bif (decide (c < (b.length : Int))) then (call (laws_eqTrace.R ((RTrace.at a (Int.toNat c)), (RTrace.at b (Int.toNat c)))) fun v1 => (bif (!v1) then ret (false : Bool) else J (.p0 a b (IntKind.i64.wrap (c + 1))))) else none) else none) else none) else none) else ret (true : Bool))
noncomputable def start (J : Pt → Ans) (x0 : List (List L)) (x1 : List (List L)) : Ans := (bif ((x0.length : Int) != (x1.length : Int)) then ret (false : Bool) else J (.p0 x0 x1 0))
def live : Nat → Live := fun i => match i with | 4 => [(0, none), (1, none), (5, none)] | _ => []
def pats : List Pat := [.rd (.sl 124), .rd (.sl 124)]
def res : RP := .one (.rd (.bool))
noncomputable abbrev E : Env := { T := assoc Tab, G := conG [(92, laws_eqTrace.con)], nt := 27 }
set_option maxRecDepth 100000
theorem step_eq (I : Heads) (p : Pt) : enterC E live I (pid p) (bodyOf Try.f41) (stOf (live (pid p)) (pvs p) (phs p)) (doneK E Try.f41 res) = step (fun q => I (pid q) (pvs q) (phs q)) p := by
  cases p <;> kernel_rfl
theorem start_eq (I : Heads) (ls : List L) : runC E live I (bodyOf Try.f41) (initS pats ls) (doneK E Try.f41 res) = start (fun q => I (pid q) (pvs q) (phs q)) (ls.headD .hole).toSl ((dropT 1 ls).headD .hole).toSl := by kernel_rfl
theorem run_eq (n : Nat) (ls : List L) : runF E live Try.f41 res n (initS pats ls) = start (iter step n) (ls.headD .hole).toSl ((dropT 1 ls).headD .hole).toSl := runF_iter (id := pid) (vs := pvs) (hs := phs) (step := step) (start := fun J => start J (ls.headD .hole).toSl ((dropT 1 ls).headD .hole).toSl) step_eq (fun I => start_eq I ls) n
noncomputable def md (a0 : List MTrace) (a1 : List MTrace) : Bool := eqB a0 a1
def gd (a0 : List MTrace) (a1 : List MTrace) : Prop := True
def acc (ls : List L) : List (List L) × List (List L) := ((ls.headD .hole).toSl, ((dropT 1 ls).headD .hole).toSl)
noncomputable def R : (List (List L) × List (List L)) → Option Bool := RR (p2 gd) (u2 md)
theorem R_eq {a0} {a1} (h : gd a0 a1) : R ((a0.map MTrace.row), (a1.map MTrace.row)) = some (md a0 a1) := RR_eq (a := (a0, a1)) h
noncomputable def con : Con := CN pats res acc R
theorem okF (a0 : List MTrace) (a1 : List MTrace) (hg : gd a0 a1) (h0 : a0.length ≤ maxLen) (h1 : a1.length ≤ maxLen) : ∃ n, start (iter step n) (a0.map MTrace.row) (a1.map MTrace.row) = ret ((md a0 a1) : Bool) := by
  unfold start md
  simp only [List.length_map]
  refine eq_list (pt := fun i => Pt.p0 (a0.map MTrace.row) (a1.map MTrace.row) (i : Int)) (fun hl J i h h2 => ?_) (fun J => ?_)
  · simp only [step, List.length_map, lt_dec h, lt_dec h2, zle_dec, cond_true, toNat_nat, MTrace.at_row h, MTrace.at_row h2]
    rw [wrap_succ h h0]
    rw [call_eq (laws_eqTrace.R_eq (a0 := a0[i]) (a1 := a1[i]) trivial), laws_eqTrace.md]
    cases eqB a0[i] a1[i] <;> rfl
  · simp only [step, List.length_map, nlt_dec, cond_false]
theorem valid_ : Valid Try.prog Ev 41 con := VV (run := fun n x => start (iter step n) x.1 x.2) mix tab_ok (.cons laws_eqTrace.valid_ .nil) Try.func41 (by kernel_rfl) run_eq (fun ls a hl e hg => okF a.1 a.2 hg (by have h : (ls.headD .hole).toSl.length ≤ maxLen := hl.1.len; have e : a.1.map MTrace.row = (ls.headD .hole).toSl := (congrArg (fun x => x.1) e.symm); rw [← e] at h; simpa using h) (by have h : ((dropT 1 ls).headD .hole).toSl.length ≤ maxLen := hl.2.1.len; have e : a.2.map MTrace.row = ((dropT 1 ls).headD .hole).toSl := (congrArg (fun x => x.2) e.symm); rw [← e] at h; simpa using h))
end laws_eqTraceS
/-! laws.markIntS -/
namespace laws_markIntS
set_option maxRecDepth 100000
set_option maxHeartbeats 8000000
inductive Pt where
  | p0 (a : Int) (b : Int) (c : List (List L))
def pid : Pt → Nat
  | .p0 .. => 2
def pvs : Pt → List V
  | .p0 a b c => [.own 0, .int .i64 a, .int .i64 b]
def phs : Pt → List Root
  | .p0 a b c => [.row 3 c]
noncomputable def step (J : Pt → Ans) : Pt → Ans
  | .p0 a b c => (bif (decide (b < (c.length : Int))) then (bif (decide ((0 : Int) ≤ b)) then (bif (decide (b < (c.length : Int))) then J (.p0 (IntKind.i64.wrap (a + 1)) (IntKind.i64.wrap (b + 1)) (List.set c (Int.toNat b) [L.int a])) else none) else none) else ret ((a, c) : Int × List (List L)))
noncomputable def start (J : Pt → Ans) (x0 : List (List L)) (x1 : Int) : Ans := J (.p0 x1 0 x0)
def live : Nat → Live := fun i => match i with | 2 => [(0, none), (1, none), (5, none)] | _ => []
def pats : List (Bool × List K) := [(false, [.sl 3]), (false, [.int .i64])]
def res : RP := .chg [3]
noncomputable abbrev E : Env := { T := assoc Tab, G := conG [], nt := 19, M := conM [], np := 1, mt := true }
set_option maxRecDepth 100000
theorem step_eq (I : Heads) (p : Pt) : enterC E live I (pid p) (bodyOf Try.f100) (stOf (live (pid p)) (pvs p) (phs p)) (doneK E Try.f100 res) = step (fun q => I (pid q) (pvs q) (phs q)) p := by
  cases p <;> kernel_rfl
theorem start_eq (I : Heads) (ls : List L) : runC E live I (bodyOf Try.f100) (initM pats ls) (doneK E Try.f100 res) = start (fun q => I (pid q) (pvs q) (phs q)) (ls.headD .hole).toSl ((dropT 1 ls).headD .hole).toInt := by kernel_rfl
theorem run_eq (n : Nat) (ls : List L) : runF E live Try.f100 res n (initM pats ls) = start (iter step n) (ls.headD .hole).toSl ((dropT 1 ls).headD .hole).toInt := runF_iter (id := pid) (vs := pvs) (hs := phs) (step := step) (start := fun J => start J (ls.headD .hole).toSl ((dropT 1 ls).headD .hole).toInt) step_eq (fun I => start_eq I ls) n
noncomputable def el (x : Int) (k : Int) : Int × Int := ((IntKind.i64.wrap (k + 1)), (k))
theorem el_I (x : Int) (k : Int) (hk : I64 k) : I64 (el x k).1 := (wrap_I64 _)
noncomputable def cnt (x : Int) : Nat := 1
noncomputable def sum (a : List Int) : Nat := (a.map cnt).sum
noncomputable def md (a0 : List Int) (a1 : Int) : Int × List Int := accM el a0 a1
def gd (a0 : List Int) (a1 : Int) : Prop := I64 a1
def acc (ls : List L) : List (List L) × Int := ((ls.headD .hole).toSl, ((dropT 1 ls).headD .hole).toInt)
noncomputable def R : (List (List L) × Int) → Option (Int × List (List L)) := RR (p2 gd) (u2 md)
theorem R_eq {a0} {a1} (h : gd a0 a1) : R ((a0.map iRow), a1) = some ((md a0 a1).1, ((md a0 a1).2.map iRow)) := RR_eq (a := (a0, a1)) h
noncomputable def con : MCon := MN pats acc R
theorem okF (a0 : List Int) (a1 : Int) (hg : gd a0 a1) (h0 : a0.length ≤ maxLen) : ∃ n, start (iter step n) (a0.map iRow) a1 = ret (((md a0 a1).1, ((md a0 a1).2.map iRow)) : Int × List (List L)) := by
  unfold gd at hg
  show ∃ n, iter step n (Pt.p0 a1 0 (a0.map iRow)) = _
  unfold md
  refine mark_loop (el := el) (xs := a0) 0 I64 el_I (pt := fun i k c => Pt.p0 k (i : Int) (c.map iRow)) (out := fun b => ret (b.1, b.2.map iRow)) (fun J i k c hi hc hk => ?_) (fun J k c hc => ?_) hg
  · have hm : c.length ≤ maxLen := hc ▸ h0
    simp only [step, S0]
    refine yes_ret (lt_dec hi) ?_
    refine yes_ret zle_dec ?_
    refine yes_ret (lt_dec hi) ?_
    rw [wrap_succ hi hm]
    exact congrArg (fun q => J (Pt.p0 (el (c.getD i 0) k).1 ((i + 1 : Nat) : Int) q)) (List.map_set (f := iRow) (l := c) (i := i) (a := (el (c.getD i 0) k).2)).symm
  · simp only [step, S0]
    refine no_ret (by apply decide_eq_false; omega) ?_
    rfl
theorem valid_ : MValid Try.prog Ev 100 con := MV (run := fun n x => start (iter step n) x.1 x.2) mix tab_ok .nil .nil Try.func100 (by kernel_rfl) run_eq (fun ls a hl e hg => okF a.1 a.2 hg (by have h : (ls.headD .hole).toSl.length ≤ maxLen := (hl _ _ (.head _)).len; have e : a.1.map iRow = (ls.headD .hole).toSl := (congrArg (fun x => x.1) e.symm); rw [← e] at h; simpa using h))
theorem i64 {a0 : List Int} {a1 : Int} (h : I64 a1) : I64 (md a0 a1).1 := accM_I el_I h
theorem elk (x : Int) (k : Int) (h0 : 0 ≤ k) (hb : k + (cnt x : Int) ≤ 4611686018427387904) : (el x k).1 = k + cnt x := by
  simp only [cnt, Int.natCast_add] at hb ⊢
  simp (disch := omega) only [el, wi]
  all_goals first | done | omega
theorem kk (a0 : List Int) (a1 : Int) (h0 : 0 ≤ a1) (hb : a1 + (sum a0 : Int) ≤ 4611686018427387904) : (md a0 a1).1 = a1 + sum a0 := accM_sum elk a0 a1 h0 hb
theorem sz (a : List Int) : sum a ≤ 60 * (szL (fun y : Int => 0) a) := sum_le (fun x => by
    try simp only [cnt] at *
    omega) a
end laws_markIntS
/-! laws.markSigS -/
namespace laws_markSigS
set_option maxRecDepth 100000
set_option maxHeartbeats 8000000
inductive Pt where
  | p0 (a : Int) (b : Int) (c : List (List L))
def pid : Pt → Nat
  | .p0 .. => 2
def pvs : Pt → List V
  | .p0 a b c => [.own 0, .int .i64 a, .int .i64 b]
def phs : Pt → List Root
  | .p0 a b c => [.row 169 c]
noncomputable def step (J : Pt → Ans) : Pt → Ans
  | .p0 a b c => (bif (decide (b < (c.length : Int))) then (bif (decide ((0 : Int) ≤ b)) then (bif (decide (b < (c.length : Int))) then (bif (decide ((0 : Int) ≤ b)) then (bif (decide (b < (c.length : Int))) then (bif (Nat.beq (Int.toNat b) (Int.toNat b) && true) then J (.p0 (IntKind.i64.wrap ((IntKind.i64.wrap (a + 1)) + 1)) (IntKind.i64.wrap (b + 1)) (List.set c (Int.toNat b) (MSig.enc (⟨a, (IntKind.i64.wrap (a + 1))⟩ : MSig)))) else none) else none) else none) else none) else none) else ret ((a, c) : Int × List (List L)))
noncomputable def start (J : Pt → Ans) (x0 : List (List L)) (x1 : Int) : Ans := J (.p0 x1 0 x0)
def live : Nat → Live := fun i => match i with | 2 => [(0, none), (1, none), (5, none)] | _ => []
def pats : List (Bool × List K) := [(false, [.sl 169]), (false, [.int .i64])]
def res : RP := .chg [169]
noncomputable abbrev E : Env := { T := assoc Tab, G := conG [], nt := 27, M := conM [], np := 1, mt := true }
set_option maxRecDepth 100000
theorem step_eq (I : Heads) (p : Pt) : enterC E live I (pid p) (bodyOf Try.f129) (stOf (live (pid p)) (pvs p) (phs p)) (doneK E Try.f129 res) = step (fun q => I (pid q) (pvs q) (phs q)) p := by
  cases p <;> kernel_rfl
theorem start_eq (I : Heads) (ls : List L) : runC E live I (bodyOf Try.f129) (initM pats ls) (doneK E Try.f129 res) = start (fun q => I (pid q) (pvs q) (phs q)) (ls.headD .hole).toSl ((dropT 1 ls).headD .hole).toInt := by kernel_rfl
theorem run_eq (n : Nat) (ls : List L) : runF E live Try.f129 res n (initM pats ls) = start (iter step n) (ls.headD .hole).toSl ((dropT 1 ls).headD .hole).toInt := runF_iter (id := pid) (vs := pvs) (hs := phs) (step := step) (start := fun J => start J (ls.headD .hole).toSl ((dropT 1 ls).headD .hole).toInt) step_eq (fun I => start_eq I ls) n
noncomputable def el (x : MSig) (k : Int) : Int × MSig := ((IntKind.i64.wrap ((IntKind.i64.wrap (k + 1)) + 1)), (⟨k, (IntKind.i64.wrap (k + 1))⟩ : MSig))
theorem el_I (x : MSig) (k : Int) (hk : I64 k) : I64 (el x k).1 := (wrap_I64 _)
noncomputable def cnt (x : MSig) : Nat := 2
noncomputable def sum (a : List MSig) : Nat := (a.map cnt).sum
noncomputable def md (a0 : List MSig) (a1 : Int) : Int × List MSig := accM el a0 a1
def gd (a0 : List MSig) (a1 : Int) : Prop := I64 a1
def acc (ls : List L) : List (List L) × Int := ((ls.headD .hole).toSl, ((dropT 1 ls).headD .hole).toInt)
noncomputable def R : (List (List L) × Int) → Option (Int × List (List L)) := RR (p2 gd) (u2 md)
theorem R_eq {a0} {a1} (h : gd a0 a1) : R ((a0.map MSig.row), a1) = some ((md a0 a1).1, ((md a0 a1).2.map MSig.row)) := RR_eq (a := (a0, a1)) h
noncomputable def con : MCon := MN pats acc R
theorem okF (a0 : List MSig) (a1 : Int) (hg : gd a0 a1) (h0 : a0.length ≤ maxLen) : ∃ n, start (iter step n) (a0.map MSig.row) a1 = ret (((md a0 a1).1, ((md a0 a1).2.map MSig.row)) : Int × List (List L)) := by
  unfold gd at hg
  show ∃ n, iter step n (Pt.p0 a1 0 (a0.map MSig.row)) = _
  unfold md
  refine mark_loop (el := el) (xs := a0) MSig.zero I64 el_I (pt := fun i k c => Pt.p0 k (i : Int) (c.map MSig.row)) (out := fun b => ret (b.1, b.2.map MSig.row)) (fun J i k c hi hc hk => ?_) (fun J k c hc => ?_) hg
  · have hm : c.length ≤ maxLen := hc ▸ h0
    simp only [step, S0]
    refine yes_ret (lt_dec hi) ?_
    refine yes_ret zle_dec ?_
    refine yes_ret (lt_dec hi) ?_
    refine yes_ret zle_dec ?_
    refine yes_ret (lt_dec hi) ?_
    refine yes_ret (beq_t _) ?_
    rw [wrap_succ hi hm]
    exact congrArg (fun q => J (Pt.p0 (el (c.getD i MSig.zero) k).1 ((i + 1 : Nat) : Int) q)) (List.map_set (f := MSig.row) (l := c) (i := i) (a := (el (c.getD i MSig.zero) k).2)).symm
  · simp only [step, S0]
    refine no_ret (by apply decide_eq_false; omega) ?_
    rfl
theorem valid_ : MValid Try.prog Ev 129 con := MV (run := fun n x => start (iter step n) x.1 x.2) mix tab_ok .nil .nil Try.func129 (by kernel_rfl) run_eq (fun ls a hl e hg => okF a.1 a.2 hg (by have h : (ls.headD .hole).toSl.length ≤ maxLen := (hl _ _ (.head _)).len; have e : a.1.map MSig.row = (ls.headD .hole).toSl := (congrArg (fun x => x.1) e.symm); rw [← e] at h; simpa using h))
theorem i64 {a0 : List MSig} {a1 : Int} (h : I64 a1) : I64 (md a0 a1).1 := accM_I el_I h
theorem elk (x : MSig) (k : Int) (h0 : 0 ≤ k) (hb : k + (cnt x : Int) ≤ 4611686018427387904) : (el x k).1 = k + cnt x := by
  simp only [cnt, Int.natCast_add] at hb ⊢
  simp (disch := omega) only [el, wi]
  all_goals first | done | omega
theorem kk (a0 : List MSig) (a1 : Int) (h0 : 0 ≤ a1) (hb : a1 + (sum a0 : Int) ≤ 4611686018427387904) : (md a0 a1).1 = a1 + sum a0 := accM_sum elk a0 a1 h0 hb
theorem sz (a : List MSig) : sum a ≤ 60 * (szL (fun y : MSig => MSig.size y) a) := sum_le (fun x => by
    try simp only [cnt, MSig.size] at *
    omega) a
end laws_markSigS
/-! laws.markSignedS -/
namespace laws_markSignedS
set_option maxRecDepth 100000
set_option maxHeartbeats 8000000
inductive Pt where
  | p0 (a : Int) (b : Int) (c : List (List L))
def pid : Pt → Nat
  | .p0 .. => 2
def pvs : Pt → List V
  | .p0 a b c => [.own 0, .int .i64 a, .int .i64 b]
def phs : Pt → List Root
  | .p0 a b c => [.row 156 c]
noncomputable def step (J : Pt → Ans) : Pt → Ans
  | .p0 a b c => (bif (decide (b < (c.length : Int))) then (bif (decide ((0 : Int) ≤ b)) then (bif (decide (b < (c.length : Int))) then (bif (decide ((0 : Int) ≤ b)) then (bif (decide (b < (c.length : Int))) then (bif (Nat.beq (Int.toNat b) (Int.toNat b) && true) then (bif (decide ((0 : Int) ≤ b)) then (bif (decide (b < (c.length : Int))) then (bif (Nat.beq (Int.toNat b) (Int.toNat b) && true) then (bif (decide ((0 : Int) ≤ b)) then (bif (decide (b < (c.length : Int))) then (bif (Nat.beq (Int.toNat b) (Int.toNat b) && true) then (bif (decide ((0 : Int) ≤ b)) then (bif (decide (b < (c.length : Int))) then (bif (Nat.beq (Int.toNat b) (Int.toNat b) && true) then (bif (decide ((0 : Int) ≤ b)) then (bif (decide (b < (c.length : Int))) then (bif (Nat.beq (Int.toNat b) (Int.toNat b) && true) then (bif (decide ((0 : Int) ≤ b)) then (bif (decide (b < (c.length : Int))) then (bif (Nat.beq (Int.toNat b) (Int.toNat b) && true) then (bif (decide ((0 : Int) ≤ b)) then (bif (decide (b < (c.length : Int))) then (bif (Nat.beq (Int.toNat b) (Int.toNat b) && true) then (bif (decide ((0 : Int) ≤ b)) then (bif (decide (b < (c.length : Int))) then (bif (Nat.beq (Int.toNat b) (Int.toNat b) && true) then (bif (Nat.beq (Int.toNat b) (Int.toNat b) && true) then (call (laws_markIntS.R ((RSigned.at c (Int.toNat b)).fHead.fKeys.fList, (IntKind.i64.wrap ((IntKind.i64.wrap ((IntKind.i64.wrap ((IntKind.i64.wrap ((IntKind.i64.wrap ((IntKind.i64.wrap ((IntKind.i64.wrap ((IntKind.i64.wrap (a + 1)) + 1)) + 1)) + 1)) + 1)) + 1)) + 1)) + 1)))) fun v1 => (bif (decide ((0 : Int) ≤ b)) then (bif (decide (b < (c.length : Int))) then (bif (Nat.beq (Int.toNat b) (Int.toNat b) && true) then (bif (decide ((0 : Int) ≤ b)) then (bif (decide (b < (c.length : Int))) then (bif (Nat.beq (Int.toNat b) (Int.toNat b) && true) then (bif (Nat.beq (Int.toNat b) (Int.toNat b) && true) then (call (laws_markIntS.R ((RSigned.at c (Int.toNat b)).fHead.fHeirs.fList, (IntKind.i64.wrap (v1.1 + 1)))) fun v2 => (bif (decide ((0 : Int) ≤ b)) then (bif (decide (b < (c.length : Int))) then (bif (Nat.beq (Int.toNat b) (Int.toNat b) && true) then (bif (decide ((0 : Int) ≤ b)) then (bif (decide (b < (c.length : Int))) then (bif (Nat.beq (Int.toNat b) (Int.toNat b) && true) then (bif (decide ((0 : Int) ≤ b)) then (bif (decide (b < (c.length : Int))) then (bif (Nat.beq (Int.toNat b) (Int.toNat b) && true) then (bif (Nat.beq (Int.toNat b) (Int.toNat b) && true) then (call (laws_markIntS.R ((RSigned.at c (Int.toNat b)).fHead.fJudge.fList, (IntKind.i64.wrap ((IntKind.i64.wrap (v2.1 + 1)) + 1)))) fun v3 => (bif (decide ((0 : Int) ≤ b)) then (bif (decide (b < (c.length : Int))) then (bif (Nat.beq (Int.toNat b) (Int.toNat b) && true) then (bif (decide ((0 : Int) ≤ b)) then (bif (decide (b < (c.length : Int))) then (bif (Nat.beq (Int.toNat b) (Int.toNat b) && true) then (bif (decide ((0 : Int) ≤ b)) then (bif (decide (b < (c.length : Int))) then (bif (Nat.beq (Int.toNat b) (Int.toNat b) && true) then (bif (Nat.beq (Int.toNat b) (Int.toNat b) && true) then (call (laws_markSigS.R ((RSigned.at c (Int.toNat b)).fSigs, (IntKind.i64.wrap ((IntKind.i64.wrap (v3.1 + 1)) + 1)))) fun v4 => J (.p0 v4.1 (IntKind.i64.wrap (b + 1)) (List.set c (Int.toNat b) (RSigned.enc (⟨(⟨a, (IntKind.i64.wrap (a + 1)), (IntKind.i64.wrap ((IntKind.i64.wrap (a + 1)) + 1)), (IntKind.i64.wrap ((IntKind.i64.wrap ((IntKind.i64.wrap (a + 1)) + 1)) + 1)), (IntKind.i64.wrap ((IntKind.i64.wrap ((IntKind.i64.wrap ((IntKind.i64.wrap (a + 1)) + 1)) + 1)) + 1)), (IntKind.i64.wrap ((IntKind.i64.wrap ((IntKind.i64.wrap ((IntKind.i64.wrap ((IntKind.i64.wrap (a + 1)) + 1)) + 1)) + 1)) + 1)), (IntKind.i64.wrap ((IntKind.i64.wrap ((IntKind.i64.wrap ((IntKind.i64.wrap ((IntKind.i64.wrap ((IntKind.i64.wrap (a + 1)) + 1)) + 1)) + 1)) + 1)) + 1)), (IntKind.i64.wrap ((IntKind.i64.wrap ((IntKind.i64.wrap ((IntKind.i64.wrap ((IntKind.i64.wrap ((IntKind.i64.wrap ((IntKind.i64.wrap (a + 1)) + 1)) + 1)) + 1)) + 1)) + 1)) + 1)), (⟨v1.2, v1.1⟩ : RKeys), (⟨v2.2, v2.1⟩ : RKeys), (IntKind.i64.wrap (v2.1 + 1)), (⟨v3.2, v3.1⟩ : RKeys), ((Int.tmod (IntKind.i64.wrap (v3.1 + 1)) 3) == 0)⟩ : RHead), v4.2⟩ : RSigned))))) else none) else none) else none) else none) else none) else none) else none) else none) else none) else none)) else none) else none) else none) else none) else none) else none) else none) else none) else none) else none)) else none) else none) else none) else none) else none) else none) else none)) else none) else none) else none) else none) else none) else none) else none) else none) else none) else none) else none) else none) else none) else none) else none) else none) else none) else none) else none) else none) else none) else none) else none) else none) else none) else none) else none) else ret ((a, c) : Int × List (List L)))
noncomputable def start (J : Pt → Ans) (x0 : List (List L)) (x1 : Int) : Ans := J (.p0 x1 0 x0)
def live : Nat → Live := fun i => match i with | 2 => [(0, none), (1, none), (5, none)] | _ => []
def pats : List (Bool × List K) := [(false, [.sl 156]), (false, [.int .i64])]
def res : RP := .chg [156]
noncomputable abbrev E : Env := { T := assoc Tab, G := conG [], nt := 156, M := conM [(100, laws_markIntS.con), (129, laws_markSigS.con)], np := 1, mt := true }
set_option maxRecDepth 100000
theorem step_eq (I : Heads) (p : Pt) : enterC E live I (pid p) (bodyOf Try.f128) (stOf (live (pid p)) (pvs p) (phs p)) (doneK E Try.f128 res) = step (fun q => I (pid q) (pvs q) (phs q)) p := by
  cases p <;> kernel_rfl
theorem start_eq (I : Heads) (ls : List L) : runC E live I (bodyOf Try.f128) (initM pats ls) (doneK E Try.f128 res) = start (fun q => I (pid q) (pvs q) (phs q)) (ls.headD .hole).toSl ((dropT 1 ls).headD .hole).toInt := by kernel_rfl
theorem run_eq (n : Nat) (ls : List L) : runF E live Try.f128 res n (initM pats ls) = start (iter step n) (ls.headD .hole).toSl ((dropT 1 ls).headD .hole).toInt := runF_iter (id := pid) (vs := pvs) (hs := phs) (step := step) (start := fun J => start J (ls.headD .hole).toSl ((dropT 1 ls).headD .hole).toInt) step_eq (fun I => start_eq I ls) n
noncomputable def e1 (x : MSigned) (k : Int) := laws_markIntS.md (((x.fHead).fKeys).fList) (IntKind.i64.wrap ((IntKind.i64.wrap ((IntKind.i64.wrap ((IntKind.i64.wrap ((IntKind.i64.wrap ((IntKind.i64.wrap ((IntKind.i64.wrap ((IntKind.i64.wrap (k + 1)) + 1)) + 1)) + 1)) + 1)) + 1)) + 1)) + 1))
noncomputable def e2 (x : MSigned) (k : Int) := laws_markIntS.md (((x.fHead).fHeirs).fList) (IntKind.i64.wrap ((e1 x k).1 + 1))
noncomputable def e3 (x : MSigned) (k : Int) := laws_markIntS.md (((x.fHead).fJudge).fList) (IntKind.i64.wrap ((IntKind.i64.wrap ((e2 x k).1 + 1)) + 1))
noncomputable def e4 (x : MSigned) (k : Int) := laws_markSigS.md x.fSigs (IntKind.i64.wrap ((IntKind.i64.wrap ((e3 x k).1 + 1)) + 1))
noncomputable def el (x : MSigned) (k : Int) : Int × MSigned := ((e4 x k).1, (⟨(⟨k, (IntKind.i64.wrap (k + 1)), (IntKind.i64.wrap ((IntKind.i64.wrap (k + 1)) + 1)), (IntKind.i64.wrap ((IntKind.i64.wrap ((IntKind.i64.wrap (k + 1)) + 1)) + 1)), (IntKind.i64.wrap ((IntKind.i64.wrap ((IntKind.i64.wrap ((IntKind.i64.wrap (k + 1)) + 1)) + 1)) + 1)), (IntKind.i64.wrap ((IntKind.i64.wrap ((IntKind.i64.wrap ((IntKind.i64.wrap ((IntKind.i64.wrap (k + 1)) + 1)) + 1)) + 1)) + 1)), (IntKind.i64.wrap ((IntKind.i64.wrap ((IntKind.i64.wrap ((IntKind.i64.wrap ((IntKind.i64.wrap ((IntKind.i64.wrap (k + 1)) + 1)) + 1)) + 1)) + 1)) + 1)), (IntKind.i64.wrap ((IntKind.i64.wrap ((IntKind.i64.wrap ((IntKind.i64.wrap ((IntKind.i64.wrap ((IntKind.i64.wrap ((IntKind.i64.wrap (k + 1)) + 1)) + 1)) + 1)) + 1)) + 1)) + 1)), (⟨(e1 x k).2, (e1 x k).1⟩ : MKeys), (⟨(e2 x k).2, (e2 x k).1⟩ : MKeys), (IntKind.i64.wrap ((e2 x k).1 + 1)), (⟨(e3 x k).2, (e3 x k).1⟩ : MKeys), ((Int.tmod (IntKind.i64.wrap ((e3 x k).1 + 1)) 3) == 0)⟩ : MHead), (e4 x k).2⟩ : MSigned))
theorem el_I (x : MSigned) (k : Int) (hk : I64 k) : I64 (el x k).1 := (laws_markSigS.i64 (wrap_I64 _))
noncomputable def cnt (x : MSigned) : Nat := 13 + laws_markIntS.sum (((x.fHead).fKeys).fList) + laws_markIntS.sum (((x.fHead).fHeirs).fList) + laws_markIntS.sum (((x.fHead).fJudge).fList) + laws_markSigS.sum x.fSigs
noncomputable def sum (a : List MSigned) : Nat := (a.map cnt).sum
noncomputable def md (a0 : List MSigned) (a1 : Int) : Int × List MSigned := accM el a0 a1
def gd (a0 : List MSigned) (a1 : Int) : Prop := I64 a1
def acc (ls : List L) : List (List L) × Int := ((ls.headD .hole).toSl, ((dropT 1 ls).headD .hole).toInt)
noncomputable def R : (List (List L) × Int) → Option (Int × List (List L)) := RR (p2 gd) (u2 md)
theorem R_eq {a0} {a1} (h : gd a0 a1) : R ((a0.map MSigned.row), a1) = some ((md a0 a1).1, ((md a0 a1).2.map MSigned.row)) := RR_eq (a := (a0, a1)) h
noncomputable def con : MCon := MN pats acc R
theorem okF (a0 : List MSigned) (a1 : Int) (hg : gd a0 a1) (h0 : a0.length ≤ maxLen) : ∃ n, start (iter step n) (a0.map MSigned.row) a1 = ret (((md a0 a1).1, ((md a0 a1).2.map MSigned.row)) : Int × List (List L)) := by
  unfold gd at hg
  show ∃ n, iter step n (Pt.p0 a1 0 (a0.map MSigned.row)) = _
  unfold md
  refine mark_loop (el := el) (xs := a0) MSigned.zero I64 el_I (pt := fun i k c => Pt.p0 k (i : Int) (c.map MSigned.row)) (out := fun b => ret (b.1, b.2.map MSigned.row)) (fun J i k c hi hc hk => ?_) (fun J k c hc => ?_) hg
  · have hm : c.length ≤ maxLen := hc ▸ h0
    simp only [step, S0, MKeys.rs, MHead.rs, MSigned.rs]
    refine yes_ret (lt_dec hi) ?_
    refine yes_ret zle_dec ?_
    refine yes_ret (lt_dec hi) ?_
    refine yes_ret zle_dec ?_
    refine yes_ret (lt_dec hi) ?_
    refine yes_ret (beq_t _) ?_
    refine yes_ret zle_dec ?_
    refine yes_ret (lt_dec hi) ?_
    refine yes_ret (beq_t _) ?_
    refine yes_ret zle_dec ?_
    refine yes_ret (lt_dec hi) ?_
    refine yes_ret (beq_t _) ?_
    refine yes_ret zle_dec ?_
    refine yes_ret (lt_dec hi) ?_
    refine yes_ret (beq_t _) ?_
    refine yes_ret zle_dec ?_
    refine yes_ret (lt_dec hi) ?_
    refine yes_ret (beq_t _) ?_
    refine yes_ret zle_dec ?_
    refine yes_ret (lt_dec hi) ?_
    refine yes_ret (beq_t _) ?_
    refine yes_ret zle_dec ?_
    refine yes_ret (lt_dec hi) ?_
    refine yes_ret (beq_t _) ?_
    refine yes_ret zle_dec ?_
    refine yes_ret (lt_dec hi) ?_
    refine yes_ret (beq_t _) ?_
    refine yes_ret (beq_t _) ?_
    refine call_to ((e1 (c.getD i MSigned.zero) k).1, ((e1 (c.getD i MSigned.zero) k).2.map iRow)) (laws_markIntS.R_eq (a0 := (((c.getD i MSigned.zero).fHead).fKeys).fList) (a1 := IntKind.i64.wrap ((IntKind.i64.wrap ((IntKind.i64.wrap ((IntKind.i64.wrap ((IntKind.i64.wrap ((IntKind.i64.wrap ((IntKind.i64.wrap ((IntKind.i64.wrap (k + 1)) + 1)) + 1)) + 1)) + 1)) + 1)) + 1)) + 1)) (wrap_I64 _)) ?_
    refine yes_ret zle_dec ?_
    refine yes_ret (lt_dec hi) ?_
    refine yes_ret (beq_t _) ?_
    refine yes_ret zle_dec ?_
    refine yes_ret (lt_dec hi) ?_
    refine yes_ret (beq_t _) ?_
    refine yes_ret (beq_t _) ?_
    refine call_to ((e2 (c.getD i MSigned.zero) k).1, ((e2 (c.getD i MSigned.zero) k).2.map iRow)) (laws_markIntS.R_eq (a0 := (((c.getD i MSigned.zero).fHead).fHeirs).fList) (a1 := IntKind.i64.wrap ((e1 (c.getD i MSigned.zero) k).1 + 1)) (wrap_I64 _)) ?_
    refine yes_ret zle_dec ?_
    refine yes_ret (lt_dec hi) ?_
    refine yes_ret (beq_t _) ?_
    refine yes_ret zle_dec ?_
    refine yes_ret (lt_dec hi) ?_
    refine yes_ret (beq_t _) ?_
    refine yes_ret zle_dec ?_
    refine yes_ret (lt_dec hi) ?_
    refine yes_ret (beq_t _) ?_
    refine yes_ret (beq_t _) ?_
    refine call_to ((e3 (c.getD i MSigned.zero) k).1, ((e3 (c.getD i MSigned.zero) k).2.map iRow)) (laws_markIntS.R_eq (a0 := (((c.getD i MSigned.zero).fHead).fJudge).fList) (a1 := IntKind.i64.wrap ((IntKind.i64.wrap ((e2 (c.getD i MSigned.zero) k).1 + 1)) + 1)) (wrap_I64 _)) ?_
    refine yes_ret zle_dec ?_
    refine yes_ret (lt_dec hi) ?_
    refine yes_ret (beq_t _) ?_
    refine yes_ret zle_dec ?_
    refine yes_ret (lt_dec hi) ?_
    refine yes_ret (beq_t _) ?_
    refine yes_ret zle_dec ?_
    refine yes_ret (lt_dec hi) ?_
    refine yes_ret (beq_t _) ?_
    refine yes_ret (beq_t _) ?_
    refine call_to ((e4 (c.getD i MSigned.zero) k).1, ((e4 (c.getD i MSigned.zero) k).2.map MSig.row)) (laws_markSigS.R_eq (a0 := (c.getD i MSigned.zero).fSigs) (a1 := IntKind.i64.wrap ((IntKind.i64.wrap ((e3 (c.getD i MSigned.zero) k).1 + 1)) + 1)) (wrap_I64 _)) ?_
    rw [wrap_succ hi hm]
    exact congrArg (fun q => J (Pt.p0 (el (c.getD i MSigned.zero) k).1 ((i + 1 : Nat) : Int) q)) (List.map_set (f := MSigned.row) (l := c) (i := i) (a := (el (c.getD i MSigned.zero) k).2)).symm
  · simp only [step, S0, MKeys.rs, MHead.rs, MSigned.rs]
    refine no_ret (by apply decide_eq_false; omega) ?_
    rfl
theorem valid_ : MValid Try.prog Ev 128 con := MV (run := fun n x => start (iter step n) x.1 x.2) mix tab_ok .nil (.cons laws_markIntS.valid_ (.cons laws_markSigS.valid_ .nil)) Try.func128 (by kernel_rfl) run_eq (fun ls a hl e hg => okF a.1 a.2 hg (by have h : (ls.headD .hole).toSl.length ≤ maxLen := (hl _ _ (.head _)).len; have e : a.1.map MSigned.row = (ls.headD .hole).toSl := (congrArg (fun x => x.1) e.symm); rw [← e] at h; simpa using h))
theorem i64 {a0 : List MSigned} {a1 : Int} (h : I64 a1) : I64 (md a0 a1).1 := accM_I el_I h
theorem elk (x : MSigned) (k : Int) (h0 : 0 ≤ k) (hb : k + (cnt x : Int) ≤ 4611686018427387904) : (el x k).1 = k + cnt x := by
  simp only [cnt, Int.natCast_add] at hb ⊢
  simp (disch := omega) only [el, e1, e2, e3, e4, wi, laws_markIntS.kk, laws_markSigS.kk]
  all_goals first | done | omega
theorem kk (a0 : List MSigned) (a1 : Int) (h0 : 0 ≤ a1) (hb : a1 + (sum a0 : Int) ≤ 4611686018427387904) : (md a0 a1).1 = a1 + sum a0 := accM_sum elk a0 a1 h0 hb
theorem sz (a : List MSigned) : sum a ≤ 60 * (szL (fun y : MSigned => MSigned.size y) a) := sum_le (fun x => by
    have := laws_markIntS.sz (((x.fHead).fKeys).fList)
    have := laws_markIntS.sz (((x.fHead).fHeirs).fList)
    have := laws_markIntS.sz (((x.fHead).fJudge).fList)
    have := laws_markSigS.sz x.fSigs
    try simp only [cnt, MSigned.size, MHead.size, MKeys.size] at *
    omega) a
end laws_markSignedS
/-! laws.markSignedSS -/
namespace laws_markSignedSS
set_option maxRecDepth 100000
set_option maxHeartbeats 8000000
inductive Pt where
  | p0 (a : Int) (b : Int) (c : List (List L))
def pid : Pt → Nat
  | .p0 .. => 2
def pvs : Pt → List V
  | .p0 a b c => [.own 0, .int .i64 a, .int .i64 b]
def phs : Pt → List Root
  | .p0 a b c => [.row 149 c]
noncomputable def step (J : Pt → Ans) : Pt → Ans
  | .p0 a b c => (bif (decide (b < (c.length : Int))) then (bif (decide ((0 : Int) ≤ b)) then (bif (decide (b < (c.length : Int))) then (call (laws_markSignedS.R ((lAt c (Int.toNat b)), a)) fun v1 => J (.p0 v1.1 (IntKind.i64.wrap (b + 1)) (List.set c (Int.toNat b) [L.sl v1.2]))) else none) else none) else ret ((a, c) : Int × List (List L)))
noncomputable def start (J : Pt → Ans) (x0 : List (List L)) (x1 : Int) : Ans := J (.p0 x1 0 x0)
def live : Nat → Live := fun i => match i with | 2 => [(0, none), (1, none), (5, none)] | _ => []
def pats : List (Bool × List K) := [(false, [.sl 149]), (false, [.int .i64])]
def res : RP := .chg [149]
noncomputable abbrev E : Env := { T := assoc Tab, G := conG [], nt := 19, M := conM [(128, laws_markSignedS.con)], np := 1, mt := true }
set_option maxRecDepth 100000
theorem step_eq (I : Heads) (p : Pt) : enterC E live I (pid p) (bodyOf Try.f98) (stOf (live (pid p)) (pvs p) (phs p)) (doneK E Try.f98 res) = step (fun q => I (pid q) (pvs q) (phs q)) p := by
  cases p <;> kernel_rfl
theorem start_eq (I : Heads) (ls : List L) : runC E live I (bodyOf Try.f98) (initM pats ls) (doneK E Try.f98 res) = start (fun q => I (pid q) (pvs q) (phs q)) (ls.headD .hole).toSl ((dropT 1 ls).headD .hole).toInt := by kernel_rfl
theorem run_eq (n : Nat) (ls : List L) : runF E live Try.f98 res n (initM pats ls) = start (iter step n) (ls.headD .hole).toSl ((dropT 1 ls).headD .hole).toInt := runF_iter (id := pid) (vs := pvs) (hs := phs) (step := step) (start := fun J => start J (ls.headD .hole).toSl ((dropT 1 ls).headD .hole).toInt) step_eq (fun I => start_eq I ls) n
noncomputable def e1 (x : List MSigned) (k : Int) := laws_markSignedS.md x k
noncomputable def el (x : List MSigned) (k : Int) : Int × (List MSigned) := ((e1 x k).1, ((e1 x k).2))
theorem el_I (x : List MSigned) (k : Int) (hk : I64 k) : I64 (el x k).1 := (laws_markSignedS.i64 hk)
noncomputable def cnt (x : List MSigned) : Nat := 0 + laws_markSignedS.sum x
noncomputable def sum (a : List (List MSigned)) : Nat := (a.map cnt).sum
noncomputable def md (a0 : List (List MSigned)) (a1 : Int) : Int × List (List MSigned) := accM el a0 a1
def gd (a0 : List (List MSigned)) (a1 : Int) : Prop := I64 a1
def acc (ls : List L) : List (List L) × Int := ((ls.headD .hole).toSl, ((dropT 1 ls).headD .hole).toInt)
noncomputable def R : (List (List L) × Int) → Option (Int × List (List L)) := RR (p2 gd) (u2 md)
theorem R_eq {a0} {a1} (h : gd a0 a1) : R ((a0.map (lRow MSigned.row)), a1) = some ((md a0 a1).1, ((md a0 a1).2.map (lRow MSigned.row))) := RR_eq (a := (a0, a1)) h
noncomputable def con : MCon := MN pats acc R
theorem okF (a0 : List (List MSigned)) (a1 : Int) (hg : gd a0 a1) (h0 : a0.length ≤ maxLen) : ∃ n, start (iter step n) (a0.map (lRow MSigned.row)) a1 = ret (((md a0 a1).1, ((md a0 a1).2.map (lRow MSigned.row))) : Int × List (List L)) := by
  unfold gd at hg
  show ∃ n, iter step n (Pt.p0 a1 0 (a0.map (lRow MSigned.row))) = _
  unfold md
  refine mark_loop (el := el) (xs := a0) [] I64 el_I (pt := fun i k c => Pt.p0 k (i : Int) (c.map (lRow MSigned.row))) (out := fun b => ret (b.1, b.2.map (lRow MSigned.row))) (fun J i k c hi hc hk => ?_) (fun J k c hc => ?_) hg
  · have hm : c.length ≤ maxLen := hc ▸ h0
    simp only [step, S0]
    refine yes_ret (lt_dec hi) ?_
    refine yes_ret zle_dec ?_
    refine yes_ret (lt_dec hi) ?_
    refine call_to ((e1 (c.getD i []) k).1, ((e1 (c.getD i []) k).2.map MSigned.row)) (laws_markSignedS.R_eq (a0 := c.getD i []) (a1 := k) hk) ?_
    rw [wrap_succ hi hm]
    exact congrArg (fun q => J (Pt.p0 (el (c.getD i []) k).1 ((i + 1 : Nat) : Int) q)) (List.map_set (f := (lRow MSigned.row)) (l := c) (i := i) (a := (el (c.getD i []) k).2)).symm
  · simp only [step, S0]
    refine no_ret (by apply decide_eq_false; omega) ?_
    rfl
theorem valid_ : MValid Try.prog Ev 98 con := MV (run := fun n x => start (iter step n) x.1 x.2) mix tab_ok .nil (.cons laws_markSignedS.valid_ .nil) Try.func98 (by kernel_rfl) run_eq (fun ls a hl e hg => okF a.1 a.2 hg (by have h : (ls.headD .hole).toSl.length ≤ maxLen := (hl _ _ (.head _)).len; have e : a.1.map (lRow MSigned.row) = (ls.headD .hole).toSl := (congrArg (fun x => x.1) e.symm); rw [← e] at h; simpa using h))
theorem i64 {a0 : List (List MSigned)} {a1 : Int} (h : I64 a1) : I64 (md a0 a1).1 := accM_I el_I h
theorem elk (x : List MSigned) (k : Int) (h0 : 0 ≤ k) (hb : k + (cnt x : Int) ≤ 4611686018427387904) : (el x k).1 = k + cnt x := by
  simp only [cnt, Int.natCast_add] at hb ⊢
  simp (disch := omega) only [el, e1, wi, laws_markSignedS.kk]
  all_goals first | done | omega
theorem kk (a0 : List (List MSigned)) (a1 : Int) (h0 : 0 ≤ a1) (hb : a1 + (sum a0 : Int) ≤ 4611686018427387904) : (md a0 a1).1 = a1 + sum a0 := accM_sum elk a0 a1 h0 hb
theorem sz (a : List (List MSigned)) : sum a ≤ 60 * (szL (fun y : List MSigned => szL (fun y : MSigned => MSigned.size y) y) a) := sum_le (fun x => by
    have := laws_markSignedS.sz x
    try simp only [cnt] at *
    omega) a
end laws_markSignedSS
end Go.DM
