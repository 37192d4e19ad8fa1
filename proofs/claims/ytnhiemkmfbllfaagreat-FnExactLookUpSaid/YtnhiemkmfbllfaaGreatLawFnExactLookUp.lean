/- The law FnExactLookUp holds of the program, for all arguments. Conditions: none. -/
import Derived.Test.YtnhiemkmfbllfaaGreatRows
import Derived.Test.YtnhiemkmfbllfaaGreatCl
import Derived.Test.YtnhiemkmfbllfaaGreatLookUpFnC
import Derived.WalkKit
import Derived.ProofKit
import Derived.OpenShut
import Derived.ShutString
import Derived.ChangeOld
import Derived.Below
import Derived.SizedLaws
import Derived.ChangeMaps5
namespace Go.Proofs.YtnhiemkmfbllfaaGreat.fnExactLookUp
open Go.ChangeShapes Go.WideShapes Go.ChangeAt Go.RowKit Go.DM
open Go.ChangeMaps (open_string shut_string)
set_option linter.all false
theorem own : ownKnob Tryz.prog.godebug = none := by kernel_rfl
theorem laid : laidOutB Tryz.prog = true := DM.Closed.laid
theorem reads : ([25, 26, 3, 9, 3].all fun t => Tryz.prog.readableRec t && decide (t < Tryz.prog.types.size)) = true := by kernel_rfl
theorem known : ([25, 26, 3, 9, 3].all fun t => (Ev.T t).isSome) = true := by kernel_rfl
theorem lawcon : rB Ev.T [25, 26, 3, 9, 3] Z246.aK.km = Z246.aK := by kernel_rfl
set_option maxRecDepth 100000 in
theorem lifted (os : Os) (started : os.Started) (H : Type) (enc : TypeId × Value → H) :
    ReturnsInHanded {} Tryz.checked os 3 .any (Rows.fnExactLookUpSpec.pre6 enc Tryz.prog Tryz.f3 Rows.fnExactLookUpRow.domain false) (Rows.fnExactLookUpSpec.post enc Tryz.prog Tryz.f3 false true false false) := by
  refine returnsInHanded_of_change_sized (C := Tryz.checked) own started (by kernel_rfl) Tryz.func3
    (ChangeSpec.witness6 (enc := enc) (C := Tryz.checked) false ⟨#[], #[.agg #[.slice none 0 0, .slice none 0 0], .slice none 0 0, .int .i64 0, .string ⟨#[]⟩, .int .i64 0], []⟩ 8 (by kernel_rfl) (by kernel_rfl) (by kernel_rfl) (by kernel_rfl)) ?_
  intro W base args ds gs before hval0 hW hcnd hsz0 _
  have hval : ∀ (j : Nat) t v, Tryz.f3.params[j]? = some t → args[j]? = some v → Value.okWide Tryz.prog W .any base t v := hval0
  have hW' := hW
  obtain ⟨p, q, hA0, hV, rfl, hfz, hnd⟩ := hW
  have hA : DataW.TrodAll enc Tryz.prog W 0 (fun _ => true) true Tryz.f3.params.toList args.toList ds p := hA0
  rw [Tryz.params3] at hA hval
  obtain ⟨rfl, rfl⟩ := trodVars_none hV
  obtain ⟨ls, hwf, hF⟩ := oP (E := Ev) (sL au) (fun t ht => by have := known; rw [List.all_eq_true] at this; exact this t ht) hA
    (fun j t v h h' => hval j t v (by simpa using h) (by simpa using h'))
  have hVl : Valid Tryz.prog Ev 3 (rB Ev.T [25, 26, 3, 9, 3] Z246.aK.km) := by rw [lawcon]; exact Z246.ab
  have hcall := sW hVl (Z246.holds ls hwf) hF
  rw [show args.toList.toArray = args from by simp] at hcall
  refine hcall.mono fun e W' ⟨he, bel⟩ => ?_
  subst he
  have hlen := lP hA
  match ds, hlen, hA with
  | [d0, d1, d2, d3, d4], _, hA =>
    exact ⟨_, rfl, _, _, _, [], _, [], hW', trodAll_mk1 (shut_bool Tryz.underlying4 _), (by rw [Tryz.params3]; exact jX laid bel reads hA), rfl, bel.frame _, fun h => by cases h⟩
theorem k0 : (Rows.fnExactLookUpRow.wf (OpenSpec.ofChange Rows.fnExactLookUpSpec)) = true := by kernel_rfl
theorem k3 : (Tryz.f3.params.all (Tryz.prog.readableRec ·)) = true := by kernel_rfl
theorem k4 : (namedTie Tryz.prog Rows.fnExactLookUpRow.named Rows.fnExactLookUpSpec.vars) = true := by kernel_rfl
theorem k5 : ((Rows.fnExactLookUpRow.stops == [])) = true := by kernel_rfl
theorem k7 : ((Rows.fnExactLookUpRow.knobs == [])) = true := by kernel_rfl
theorem k9 : ((Rows.fnExactLookUpRow.inPlace == Tryz.prog.inPlace 3)) = true := by kernel_rfl
theorem k10 : ((Rows.fnExactLookUpRow.unfollowed == Tryz.prog.unfollowed 3)) = true := by kernel_rfl
theorem k11 : ((Rows.fnExactLookUpRow.recurses == Tryz.prog.recurses 3)) = true := by kernel_rfl
theorem k12 : ((Rows.fnExactLookUpRow.named == Tryz.prog.varsNamed 3)) = true := by kernel_rfl
theorem nL : ((Rows.fnExactLookUpRow.maps == (Tryz.f3.params.toList ++ Rows.fnExactLookUpSpec.plain.varTypes Tryz.prog).any (Tryz.prog.mapsRec ·))) = true := by kernel_rfl
theorem nX : ((Rows.fnExactLookUpRow.ifaces == (Tryz.f3.params.toList ++ Rows.fnExactLookUpSpec.plain.varTypes Tryz.prog).any (Tryz.prog.ifacesRec ·))) = true := by kernel_rfl
theorem k15 : ((Rows.fnExactLookUpRow.mapsOut == Tryz.prog.mapsAmong Tryz.f3.resultTypes.toList)) = true := by kernel_rfl
theorem k16 : ((Rows.fnExactLookUpRow.loops == (Tryz.f3.params.toList ++ Rows.fnExactLookUpSpec.plain.varTypes Tryz.prog).any (Tryz.prog.loopsFrom ·))) = true := by kernel_rfl
theorem k17 : ((Rows.fnExactLookUpRow.wideKeys == (Tryz.f3.params.toList ++ Rows.fnExactLookUpSpec.plain.varTypes Tryz.prog ++ Tryz.f3.resultTypes.toList).any (Tryz.prog.wideKeysFrom ·))) = true := by kernel_rfl
theorem k18 : (Rows.fnExactLookUpSpec.vars.all (Tryz.prog.varReadable ·)) = true := by kernel_rfl
theorem k19 : (Tryz.f3.resultTypes.all (fun t => Tryz.prog.readableRec t && decide (t < Tryz.prog.types.size))) = true := by kernel_rfl
theorem k20 : ((Rows.fnExactLookUpRow.ifacesOut == Tryz.f3.resultTypes.toList.any (Tryz.prog.ifacesRec ·))) = true := by kernel_rfl
theorem k21 : ((Rows.fnExactLookUpRow.loopsOut == Tryz.f3.resultTypes.toList.any (Tryz.prog.loopsFrom ·))) = true := by kernel_rfl
theorem k23 : (Rows.fnExactLookUpRow.shortTexts.isNone) = true := by kernel_rfl
theorem k29 : ((Rows.fnExactLookUpRow.pinned == Rows.fnExactLookUpRow.pinnedBy)) = true := by kernel_rfl
theorem k30 : ((Rows.fnExactLookUpRow.veiled == (Tryz.f3.params.toList ++ Rows.fnExactLookUpSpec.plain.varTypes Tryz.prog ++ Tryz.f3.resultTypes.toList).any (Tryz.prog.veiledRec ·))) = true := by kernel_rfl
theorem xv : (Rows.fnExactLookUpRow.veiledFits Tryz.prog Tryz.f3.params.toList (Tryz.f3.params.toList ++ Rows.fnExactLookUpSpec.plain.varTypes Tryz.prog ++ Tryz.f3.resultTypes.toList)) = true := by kernel_rfl
theorem closed : joinedFacts Tryz.prog 3 Tryz.f3 Rows.fnExactLookUpSpec Rows.fnExactLookUpRow = true := by
  unfold joinedFacts
  exact (DM.Closed.and2 (DM.Closed.and2 (DM.Closed.and2 (DM.Closed.and2 (DM.Closed.and2 (DM.Closed.and2 (DM.Closed.and2 (DM.Closed.and2 (DM.Closed.and2 (DM.Closed.and2 (DM.Closed.and2 (DM.Closed.and2 (DM.Closed.and2 (DM.Closed.and2 (DM.Closed.and2 (DM.Closed.and2 (DM.Closed.and2 (DM.Closed.and2 (DM.Closed.and2 (DM.Closed.and2 (DM.Closed.and2 (DM.Closed.and2 (DM.Closed.and2 (DM.Closed.and2 (DM.Closed.and2 (DM.Closed.and2 (DM.Closed.and2 (DM.Closed.and2 (DM.Closed.and2 (DM.Closed.and2 (DM.Closed.and2 k0 DM.Closed.laid) DM.Closed.maps) k3) k4) k5) DM.Closed.stops) k7) DM.Closed.stopKnobs) k9) k10) k11) k12) nL) nX) k15) k16) k17) k18) k19) k20) k21) DM.Closed.plain) k23) DM.Closed.heard) DM.Closed.enter) DM.Closed.lifted) DM.Closed.make_) (by kernel_rfl)) k29) k30) xv)
theorem named_ : Tryz.pinned.checked.prog.funcNamed Rows.fnExactLookUpRow.func = some 3 := by kernel_rfl
theorem over : Rows.fnExactLookUpRow.holds Tryz.pinned (OpenSpec.ofChange Rows.fnExactLookUpSpec) :=
  OpenClaim.holds_of_wide 3 Tryz.f3 rfl rfl rfl rfl rfl rfl rfl ⟨rfl, rfl, rfl, rfl, rfl⟩ rfl rfl rfl rfl rfl named_ Tryz.func3 closed
    (of_decide_eq_true (by kernel_rfl)) (by unfold Func.isWrapper; first | (rw [if_pos (by decide +kernel)]; kernel_rfl) | (rw [if_neg (by decide +kernel)]; exact ⟨rfl, rfl⟩))
    (fun os started H enc _ => lifted os started H enc)
theorem proved : Rows.FnExactLookUpSaid := over
end Go.Proofs.YtnhiemkmfbllfaaGreat.fnExactLookUp
namespace Go.Proofs.YtnhiemkmfbllfaaGreat
/-- The row, under a short name, for the claim. -/
theorem fnExactLookUp_holds : Rows.FnExactLookUpSaid := fnExactLookUp.proved
end Go.Proofs.YtnhiemkmfbllfaaGreat
