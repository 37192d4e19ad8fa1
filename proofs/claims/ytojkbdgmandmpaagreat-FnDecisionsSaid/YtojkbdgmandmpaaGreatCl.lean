/- Facts of the whole program, closed by the kernel. Conditions: none. -/
import Derived.Test.YtojkbdgmandmpaaGreatRows
import Derived.JoinedOf
import Derived.ProofKit
import Derived.WalkKit
import Derived.ClosedOfChecked
set_option linter.all false
set_option maxRecDepth 100000
namespace Go.Proofs.YtojkbdgmandmpaaGreat.DM.Closed
open Go.ClosedOfChecked
theorem and2 {a b : Bool} (h : a = true) (g : b = true) : (a && b) = true := by rw [h, g]; rfl
def c (l : List Nat) : List Char := l.map Char.ofNat
def J : List (List Char) → List Char
  | [] => []
  | [w] => w
  | w :: ws => w ++ Char.ofNat 32 :: J ws
def p : List Char := c [108,111,111,112,46,101,120,97,109,112,108,101,47,103,48,48,53,56,56,47,108,97,119,115,46,70,110]
def W : List (List Char) := [c [99,117,116], c [97,116], p ++ c [79,119,110,101,114,115], p ++ c [68,101,99,105,115,105,111,110,115]]
def I : List Char := J ([c [104,97,114,110,101,115,115], c [48,98,52,48,48,48,102,97,99,49,50,50,102,54,57,52,48,50,101,102,99,102,54,50,53,51,99,102,53,49,51,100,97,52,50,99,97,57,48,101,57,51,54,101,56,99,97,49,100,102,102,53,55,49,54,52,51,101,97,102,57,100,97,100]] ++ W)
theorem io : Tryz.prog.initOrder = String.ofList I := by kernel_rfl
theorem ws : behindMainWord (wordsSigns Tryz.prog.initOrder.toList) = W := by rw [io, String.toList_ofList]; kernel_rfl
theorem later : Tryz.prog.laysLater = false := by unfold Program.laysLater; rw [← Array.any_toList]; kernel_rfl
theorem all : AllSpec Tryz.prog := allSpec_of Tryz.wellFormed (by kernel_rfl)
theorem laid : (laidOutB Tryz.prog) = true := laidOutB_of all (by rw [← Array.all_toList, ← Array.all_toList]; kernel_rfl)
theorem maps : (mapsRowed Tryz.prog) = true := mapsRowed_of all
theorem stops : ((Tryz.prog.stops == [])) = true := by kernel_rfl
theorem stopKnobs : ((Tryz.prog.stopKnobs == [])) = true := by kernel_rfl
theorem heard : (Tryz.prog.stopsHeard) = true := by unfold Program.stopsHeard; rw [← Array.all_toList]; kernel_rfl
theorem enter : (Tryz.prog.mayEnter) = true := by unfold Program.mayEnter; rw [ws, later]; kernel_rfl
theorem plain : ((Rows.fnOwnersRow.plainKeys == Tryz.prog.plainKeys)) = true := by rw [plainKeys_of all (by kernel_rfl)]; kernel_rfl
theorem lifted : ((Rows.fnOwnersRow.lifted == Tryz.prog.liftsFinal)) = true := by unfold Program.liftsFinal Program.headLifts; rw [ws]; kernel_rfl
theorem make_ : ((Tryz.prog.make == some Rows.fnOwnersRow.make)) = true := by unfold Program.make Program.headLifts; rw [ws]; kernel_rfl
end Go.Proofs.YtojkbdgmandmpaaGreat.DM.Closed
