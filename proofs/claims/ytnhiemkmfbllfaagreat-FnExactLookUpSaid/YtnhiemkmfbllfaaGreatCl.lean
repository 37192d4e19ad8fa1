/- Facts of the whole program, closed by the kernel. Conditions: none. -/
import Derived.Test.YtnhiemkmfbllfaaGreatRows
import Derived.JoinedOf
import Derived.ProofKit
import Derived.WalkKit
set_option linter.all false
namespace Go.Proofs.YtnhiemkmfbllfaaGreat.DM.Closed
theorem and2 {a b : Bool} (h : a = true) (g : b = true) : (a && b) = true := by rw [h, g]; rfl
theorem laid : (laidOutB Tryz.prog) = true := by kernel_rfl
theorem maps : (mapsRowed Tryz.prog) = true := by kernel_rfl
theorem stops : ((Tryz.prog.stops == [])) = true := by kernel_rfl
theorem stopKnobs : ((Tryz.prog.stopKnobs == [])) = true := by kernel_rfl
theorem heard : (Tryz.prog.stopsHeard) = true := by kernel_rfl
theorem enter : (Tryz.prog.mayEnter) = true := by kernel_rfl
theorem plain : ((Rows.fnExactLookUpRow.plainKeys == Tryz.prog.plainKeys)) = true := by kernel_rfl
theorem lifted : ((Rows.fnExactLookUpRow.lifted == Tryz.prog.liftsFinal)) = true := by kernel_rfl
theorem make_ : ((Tryz.prog.make == some Rows.fnExactLookUpRow.make)) = true := by kernel_rfl
end Go.Proofs.YtnhiemkmfbllfaaGreat.DM.Closed
