/- Facts of the whole program, closed by the kernel. Conditions: none. -/
import Derived.Test.YtfghhicdmjiaaaaRows
import Derived.JoinedOf
import Derived.ProofKit
import Derived.WalkKit
set_option linter.all false
namespace Go.Proofs.Ytfghhicdmjiaaaa.DM.Closed
theorem and2 {a b : Bool} (h : a = true) (g : b = true) : (a && b) = true := by rw [h, g]; rfl
theorem laid : (laidOutB Try.prog) = true := by kernel_rfl
theorem maps : (mapsRowed Try.prog) = true := by kernel_rfl
theorem stops : ((Try.prog.stops == [])) = true := by kernel_rfl
theorem stopKnobs : ((Try.prog.stopKnobs == [])) = true := by kernel_rfl
theorem heard : (Try.prog.stopsHeard) = true := by kernel_rfl
theorem enter : (Try.prog.mayEnter) = true := by kernel_rfl
theorem plain : ((Rows.fnExactAreRootsRow.plainKeys == Try.prog.plainKeys)) = true := by kernel_rfl
theorem lifted : ((Rows.fnExactAreRootsRow.lifted == Try.prog.liftsFinal)) = true := by kernel_rfl
theorem make_ : ((Try.prog.make == some Rows.fnExactAreRootsRow.make)) = true := by kernel_rfl
end Go.Proofs.Ytfghhicdmjiaaaa.DM.Closed
