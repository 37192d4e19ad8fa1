/- The program's DecisionName returns what the reference's DecisionName returns, for every whole number; no condition. -/
import Derived.Test.YtdlcaendoaadbaaPFnExactDecisionNamex1
namespace Go.Proofs.Ytdlcaendoaadbaa.Pure
open Go.RowKit Go.Proofs.Ytdlcaendoaadbaa.PFnExactDecisionName Go.Proofs.YtdlcaendoaadbaaW.PrintWords Go.Proofs.YtdlcaendoaadbaaW.PrintLast

theorem FnExactDecisionName : laws_FnExactDecisionName.Pure := by
  intro a h
  by_cases h1 : a < 1
  · simp [laws_FnExactDecisionName.f, spec_DecisionName.f, impl_DecisionName.f, impl_nameOf.f, spec_l1In.f, impl_InRange.f, Int.not_le.mpr h1]
  · by_cases h5 : 5 < a
    · have e1 : (1 : Int) ≤ a := by omega
      simp [laws_FnExactDecisionName.f, spec_DecisionName.f, impl_DecisionName.f, impl_nameOf.f, spec_l1In.f, impl_InRange.f, Int.not_le.mpr h5, e1]
    · have hc : a = 1 ∨ a = 2 ∨ a = 3 ∨ a = 4 ∨ a = 5 := by omega
      rcases hc with rfl | rfl | rfl | rfl | rfl <;>
        simp [laws_FnExactDecisionName.f, spec_DecisionName.f, impl_DecisionName.f, impl_nameOf.f, spec_l1In.f, impl_InRange.f, rdOf, wrap64]

end Go.Proofs.Ytdlcaendoaadbaa.Pure
