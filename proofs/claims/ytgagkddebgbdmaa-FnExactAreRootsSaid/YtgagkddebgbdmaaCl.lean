/- Facts of the whole program, closed by the kernel. Conditions: none. -/
import Derived.Test.YtgagkddebgbdmaaRows
import Derived.JoinedOf
import Derived.ProofKit
import Derived.WalkKit
import Derived.ClosedOfChecked
set_option linter.all false
set_option maxRecDepth 100000
namespace Go.Proofs.Ytgagkddebgbdmaa.DM.Closed
open Go.ClosedOfChecked
theorem and2 {a b : Bool} (h : a = true) (g : b = true) : (a && b) = true := by rw [h, g]; rfl
def c (l : List Nat) : List Char := l.map Char.ofNat
def J : List (List Char) → List Char
  | [] => []
  | [w] => w
  | w :: ws => w ++ Char.ofNat 32 :: J ws
def p : List Char := c [108,111,111,112,46,101,120,97,109,112,108,101,47,103,48,48,53,56,56,47,108,97,119,115,46,70,110,69,120,97,99,116]
def W : List (List Char) := [c [99,117,116], c [97,116], p ++ c [65,114,101,82,111,111,116,115], p ++ c [68,114,111,112,80,101,116]]
def I : List Char := J ([c [104,97,114,110,101,115,115], c [54,56,100,100,53,54,54,54,57,99,55,100,97,49,98,97,101,55,56,98,50,50,53,48,101,101,48,53,97,98,51,54,97,55,49,97,51,51,97,97,97,97,56,99,48,49,99,48,54,55,53,56,50,98,51,48,102,99,52,54,56,97,49,55]] ++ W)
theorem io : Try.prog.initOrder = String.ofList I := by kernel_rfl
theorem ws : behindMainWord (wordsSigns Try.prog.initOrder.toList) = W := by rw [io, String.toList_ofList]; kernel_rfl
theorem later : Try.prog.laysLater = false := by unfold Program.laysLater; rw [← Array.any_toList]; kernel_rfl
theorem all : AllSpec Try.prog := allSpec_of Try.wellFormed (by kernel_rfl)
theorem laid : (laidOutB Try.prog) = true := laidOutB_of all (by rw [← Array.all_toList, ← Array.all_toList]; kernel_rfl)
theorem maps : (mapsRowed Try.prog) = true := mapsRowed_of all
theorem stops : ((Try.prog.stops == [])) = true := by kernel_rfl
theorem stopKnobs : ((Try.prog.stopKnobs == [])) = true := by kernel_rfl
theorem heard : (Try.prog.stopsHeard) = true := by unfold Program.stopsHeard; rw [← Array.all_toList]; kernel_rfl
theorem enter : (Try.prog.mayEnter) = true := by unfold Program.mayEnter; rw [ws, later]; kernel_rfl
theorem plain : ((Rows.fnExactAreRootsRow.plainKeys == Try.prog.plainKeys)) = true := by rw [plainKeys_of all (by kernel_rfl)]; kernel_rfl
theorem lifted : ((Rows.fnExactAreRootsRow.lifted == Try.prog.liftsFinal)) = true := by unfold Program.liftsFinal Program.headLifts; rw [ws]; kernel_rfl
theorem make_ : ((Try.prog.make == some Rows.fnExactAreRootsRow.make)) = true := by unfold Program.make Program.headLifts; rw [ws]; kernel_rfl
end Go.Proofs.Ytgagkddebgbdmaa.DM.Closed
