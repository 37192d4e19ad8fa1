/- Facts of the whole program, closed by the kernel. Conditions: none. -/
import Derived.Test.YtcepeleohipibaaGreatRows
import Derived.JoinedOf
import Derived.ProofKit
import Derived.WalkKit
import Derived.ClosedOfChecked
set_option linter.all false
set_option maxRecDepth 100000
namespace Go.Proofs.YtcepeleohipibaaGreat.DM.Closed
open Go.ClosedOfChecked
theorem and2 {a b : Bool} (h : a = true) (g : b = true) : (a && b) = true := by rw [h, g]; rfl
def c (l : List Nat) : List Char := l.map Char.ofNat
def J : List (List Char) → List Char
  | [] => []
  | [w] => w
  | w :: ws => w ++ Char.ofNat 32 :: J ws
def p : List Char := c [108,111,111,112,46,101,120,97,109,112,108,101,47,103,48,48,53,56,56,47,108,97,119,115,46,70,110]
def W : List (List Char) := [c [99,117,116], c [97,116], p ++ c [69,120,97,99,116,80,117,116,80,101,116], p ++ c [75,110,111,119,110], p ++ c [67,97,99,104,101,115], p ++ c [76,111,111,107,85,112,115], p ++ c [69,120,97,99,116,68,114,111,112,83,116,97,108,101], p ++ c [82,101,115,111,108,118,101,100], p ++ c [82,111,111,116,115], p ++ c [79,102,102,108,105,110,101], p ++ c [87,97,108,107,115], p ++ c [80,101,116,115]]
def I : List Char := J ([c [104,97,114,110,101,115,115], c [53,56,49,48,54,99,102,51,100,98,102,50,57,97,54,53,99,56,51,52,52,102,99,48,101,99,49,52,99,100,54,54,48,55,50,54,55,101,54,97,102,54,53,50,98,52,99,102,51,57,51,48,52,56,57,50,100,54,53,102,101,48,54,98]] ++ W)
theorem io : Tryz.prog.initOrder = String.ofList I := by kernel_rfl
theorem ws : behindMainWord (wordsSigns Tryz.prog.initOrder.toList) = W := by rw [io, String.toList_ofList]; kernel_rfl
theorem later : Tryz.prog.laysLater = false := by unfold Program.laysLater; rw [← Array.any_toList]; kernel_rfl
theorem all : AllSpec Tryz.prog := allSpec_of Tryz.wellFormed (by kernel_rfl)
theorem laid : (laidOutB Tryz.prog) = true := laidOutB_of all (by rw [← Array.all_toList, ← Array.all_toList]; kernel_rfl)
theorem maps : (mapsRowed Tryz.prog) = true := mapsRowed_of all
theorem stops : ((Tryz.prog.stops == [])) = true := by kernel_rfl
theorem stopKnobs : ((Tryz.prog.stopKnobs == [])) = true := by kernel_rfl
theorem heard : (Tryz.prog.stopsHeard) = true := by unfold Program.stopsHeard; rw [← Array.all_toList]; kernel_rfl
theorem enter : (Tryz.prog.mayEnter) = true := by unfold Program.mayEnter; rw [ws, later]; kernel_rfl
theorem plain : ((Rows.fnExactPutPetRow.plainKeys == Tryz.prog.plainKeys)) = true := by rw [plainKeys_of all (by kernel_rfl)]; kernel_rfl
theorem lifted : ((Rows.fnExactPutPetRow.lifted == Tryz.prog.liftsFinal)) = true := by unfold Program.liftsFinal Program.headLifts; rw [ws]; kernel_rfl
theorem make_ : ((Tryz.prog.make == some Rows.fnExactPutPetRow.make)) = true := by unfold Program.make Program.headLifts; rw [ws]; kernel_rfl
end Go.Proofs.YtcepeleohipibaaGreat.DM.Closed
