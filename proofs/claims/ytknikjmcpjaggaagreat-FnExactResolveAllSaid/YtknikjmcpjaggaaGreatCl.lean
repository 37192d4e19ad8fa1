/- Facts of the whole program, closed by the kernel. Conditions: none. -/
import Derived.Test.YtknikjmcpjaggaaGreatRows
import Derived.JoinedOf
import Derived.ProofKit
import Derived.WalkKit
import Derived.ClosedOfChecked
set_option linter.all false
set_option maxRecDepth 100000
namespace Go.Proofs.YtknikjmcpjaggaaGreat.DM.Closed
open Go.ClosedOfChecked
theorem and2 {a b : Bool} (h : a = true) (g : b = true) : (a && b) = true := by rw [h, g]; rfl
def J : List (List Char) → List Char
  | [] => []
  | [w] => w
  | w :: ws => w ++ Char.ofNat 32 :: J ws
def p : List Char := ['l','o','o','p','.','e','x','a','m','p','l','e','/','g','0','0','5','8','8','/','l','a','w','s','.','F','n']
def W : List (List Char) := [['c','u','t'], ['a','t'], p ++ ['E','x','a','c','t','R','e','s','o','l','v','e','A','l','l'], p ++ ['E','x','a','c','t','R','e','s','o','l','v','e','O','f','f','l','i','n','e'], p ++ ['E','x','a','c','t','P','u','t','P','e','t'], p ++ ['E','x','a','c','t','R','e','s','o','l','v','e','F','r','o','m'], p ++ ['O','w','n','e','r','s'], p ++ ['K','n','o','w','n'], p ++ ['C','a','c','h','e','s'], p ++ ['D','e','c','i','s','i','o','n','s'], p ++ ['L','o','o','k','U','p','s'], p ++ ['E','x','a','c','t','D','r','o','p','S','t','a','l','e'], p ++ ['R','e','s','o','l','v','e','d'], p ++ ['R','o','o','t','s'], p ++ ['O','f','f','l','i','n','e'], p ++ ['W','a','l','k','s'], p ++ ['E','x','a','c','t','C','a','n','R','e','s','o','l','v','e'], p ++ ['P','e','t','s'], p ++ ['E','x','a','c','t','R','e','s','o','l','v','e'], p ++ ['E','x','a','c','t','R','e','s','o','l','v','e','P','e','t']]
def I : List Char := J ([['h','a','r','n','e','s','s'], ['f','1','d','c','7','b','9','d','7','1','6','1','3','9','f','3','3','a','4','5','0','3','b','c','6','c','7','4','f','5','2','f','7','c','3','2','1','5','8','6','d','b','6','9','6','4','d','0','4','e','2','0','4','8','5','a','4','d','2','a','2','7','2','8']] ++ W)
theorem io : Tryz.prog.initOrder = String.ofList I := by kernel_rfl
theorem ws : behindMainWord (wordsSigns Tryz.prog.initOrder.toList) = W := by rw [io, String.toList_ofList]; kernel_rfl
theorem later : Tryz.prog.laysLater = false := by unfold Program.laysLater; rw [← Array.any_toList]; kernel_rfl
theorem all : AllSpec Tryz.prog := allSpec_of Tryz.wellFormed (by kernel_rfl)
theorem laid : (laidOutB Tryz.prog) = true := laidOutB_of all (by rw [← Array.all_toList, ← Array.all_toList]; kernel_rfl)
theorem maps : (mapsRowed Tryz.prog) = true := mapsRowed_of all
theorem stops : ((Tryz.prog.stops == [])) = true := by kernel_rfl
theorem stopKnobs : ((Tryz.prog.stopKnobs == [])) = true := by kernel_rfl
theorem heard : (Tryz.prog.stopsHeard) = true := by unfold Program.stopsHeard; rw [← Array.all_toList]; kernel_rfl
theorem enter : (Tryz.prog.mayEnter) = true := by unfold Program.mayEnter; rw [ws, later]; kernel_rfl
theorem plain : ((Rows.fnExactResolveAllRow.plainKeys == Tryz.prog.plainKeys)) = true := by rw [plainKeys_of all (by kernel_rfl)]; kernel_rfl
theorem lifted : ((Rows.fnExactResolveAllRow.lifted == Tryz.prog.liftsFinal)) = true := by unfold Program.liftsFinal Program.headLifts; rw [ws]; kernel_rfl
theorem make_ : ((Tryz.prog.make == some Rows.fnExactResolveAllRow.make)) = true := by unfold Program.make Program.headLifts; rw [ws]; kernel_rfl
end Go.Proofs.YtknikjmcpjaggaaGreat.DM.Closed
