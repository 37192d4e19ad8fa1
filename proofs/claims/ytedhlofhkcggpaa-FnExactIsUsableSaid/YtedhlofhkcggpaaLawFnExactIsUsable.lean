/- The law FnExactIsUsable holds of the program, for all arguments. Conditions: none. -/
import Derived.Test.YtedhlofhkcggpaaRows
import Derived.Test.YtedhlofhkcggpaaCl
import Derived.Test.YtedhlofhkcggpaaFnIsUsable
import Derived.WalkKit
import Derived.ProofKit
import Derived.OpenShut
import Derived.ShutString
import Derived.ChangeOld
import Derived.Below
import Derived.SizedLaws
import Derived.ChangeMaps5
namespace Go.Proofs.Ytedhlofhkcggpaa.fnExactIsUsable
open Go.ChangeShapes Go.WideShapes Go.ChangeAt Go.RowKit Go.DM
open Go.ChangeMaps (open_string shut_string)
set_option linter.all false
theorem own : ownKnob Try.prog.godebug = none := by kernel_rfl
theorem laid : laidOutB Try.prog = true := DM.Closed.laid
theorem reads : ([41].all fun t => Try.prog.readableRec t && decide (t < Try.prog.types.size)) = true := by kernel_rfl
theorem known : ([41].all fun t => (Ev.T t).isSome) = true := by kernel_rfl
theorem lawcon : lawCon Ev.T [41] laws_FnExactIsUsable.con.sem = laws_FnExactIsUsable.con := by kernel_rfl
set_option maxRecDepth 100000 in
theorem lifted (os : Os) (started : os.Started) (H : Type) (enc : TypeId × Value → H) :
    ReturnsInHanded {} Try.checked os 5 .any (Rows.fnExactIsUsableSpec.pre6 enc Try.prog Try.f5 Rows.fnExactIsUsableRow.domain false) (Rows.fnExactIsUsableSpec.post enc Try.prog Try.f5 false true false false) := by
  refine returnsInHanded_of_change_sized (C := Try.checked) own started (by kernel_rfl) Try.func5
    (ChangeSpec.witness6 (enc := enc) (C := Try.checked) false ⟨#[], #[.agg #[.int .i64 0, .string ⟨#[]⟩, .int .i64 0, .int .i64 0, .slice none 0 0, .slice none 0 0]], []⟩ 8 (by kernel_rfl) (by kernel_rfl) (by kernel_rfl) (by kernel_rfl)) ?_
  intro W base args ds gs before hval0 hW hcnd hsz0 _
  have hval : ∀ (j : Nat) t v, Try.f5.params[j]? = some t → args[j]? = some v → Value.okWide Try.prog W .any base t v := hval0
  have hW' := hW
  obtain ⟨p, q, hA0, hV, rfl, hfz, hnd⟩ := hW
  have hA : DataW.TrodAll enc Try.prog W 0 (fun _ => true) true Try.f5.params.toList args.toList ds p := hA0
  rw [Try.params5] at hA hval
  obtain ⟨rfl, rfl⟩ := trodVars_none hV
  obtain ⟨ls, hwf, hF⟩ := args_read (E := Ev) (table_tyB tab_ok) (fun t ht => by have := known; rw [List.all_eq_true] at this; exact this t ht) hA
    (fun j t v h h' => hval j t v (by simpa using h) (by simpa using h'))
  have hVl : Valid Try.prog Ev 5 (lawCon Ev.T [41] laws_FnExactIsUsable.con.sem) := by rw [lawcon]; exact laws_FnExactIsUsable.valid_
  have hcall := law_calls hVl (laws_FnExactIsUsable.holds ls hwf) hF
  rw [show args.toList.toArray = args from by simp] at hcall
  refine hcall.mono fun e W' ⟨he, bel⟩ => ?_
  subst he
  have hlen := trodAll_len hA
  match ds, hlen, hA with
  | [d0], _, hA =>
    exact ⟨_, rfl, _, _, _, [], _, [], hW', trodAll_mk1 (shut_bool Try.underlying4 _), (by rw [Try.params5]; exact trodAll_stays laid bel reads hA), rfl, bel.frame _, fun h => by cases h⟩
theorem k0 : (Rows.fnExactIsUsableRow.wf (OpenSpec.ofChange Rows.fnExactIsUsableSpec)) = true := by kernel_rfl
theorem k3 : (Try.f5.params.all (Try.prog.readableRec ·)) = true := by kernel_rfl
theorem k4 : (namedTie Try.prog Rows.fnExactIsUsableRow.named Rows.fnExactIsUsableSpec.vars) = true := by kernel_rfl
theorem k5 : ((Rows.fnExactIsUsableRow.stops == [])) = true := by kernel_rfl
theorem k7 : ((Rows.fnExactIsUsableRow.knobs == [])) = true := by kernel_rfl
theorem k9 : ((Rows.fnExactIsUsableRow.inPlace == Try.prog.inPlace 5)) = true := by kernel_rfl
theorem k10 : ((Rows.fnExactIsUsableRow.unfollowed == Try.prog.unfollowed 5)) = true := by kernel_rfl
theorem k11 : ((Rows.fnExactIsUsableRow.recurses == Try.prog.recurses 5)) = true := by kernel_rfl
theorem k12 : ((Rows.fnExactIsUsableRow.named == Try.prog.varsNamed 5)) = true := by kernel_rfl
theorem k13 : ((Rows.fnExactIsUsableRow.maps == (Try.f5.params.toList ++ Rows.fnExactIsUsableSpec.plain.varTypes Try.prog).any (Try.prog.mapsRec ·))) = true := by kernel_rfl
theorem k14 : ((Rows.fnExactIsUsableRow.ifaces == (Try.f5.params.toList ++ Rows.fnExactIsUsableSpec.plain.varTypes Try.prog).any (Try.prog.ifacesRec ·))) = true := by kernel_rfl
theorem k15 : ((Rows.fnExactIsUsableRow.mapsOut == Try.prog.mapsAmong Try.f5.resultTypes.toList)) = true := by kernel_rfl
theorem k16 : ((Rows.fnExactIsUsableRow.loops == (Try.f5.params.toList ++ Rows.fnExactIsUsableSpec.plain.varTypes Try.prog).any (Try.prog.loopsFrom ·))) = true := by kernel_rfl
theorem k17 : ((Rows.fnExactIsUsableRow.wideKeys == (Try.f5.params.toList ++ Rows.fnExactIsUsableSpec.plain.varTypes Try.prog ++ Try.f5.resultTypes.toList).any (Try.prog.wideKeysFrom ·))) = true := by kernel_rfl
theorem k18 : (Rows.fnExactIsUsableSpec.vars.all (Try.prog.varReadable ·)) = true := by kernel_rfl
theorem k19 : (Try.f5.resultTypes.all (fun t => Try.prog.readableRec t && decide (t < Try.prog.types.size))) = true := by kernel_rfl
theorem k20 : ((Rows.fnExactIsUsableRow.ifacesOut == Try.f5.resultTypes.toList.any (Try.prog.ifacesRec ·))) = true := by kernel_rfl
theorem k21 : ((Rows.fnExactIsUsableRow.loopsOut == Try.f5.resultTypes.toList.any (Try.prog.loopsFrom ·))) = true := by kernel_rfl
theorem k23 : (Rows.fnExactIsUsableRow.shortTexts.isNone) = true := by kernel_rfl
theorem k29 : ((Rows.fnExactIsUsableRow.pinned == Rows.fnExactIsUsableRow.pinnedBy)) = true := by kernel_rfl
theorem k30 : ((Rows.fnExactIsUsableRow.veiled == (Try.f5.params.toList ++ Rows.fnExactIsUsableSpec.plain.varTypes Try.prog ++ Try.f5.resultTypes.toList).any (Try.prog.veiledRec ·))) = true := by kernel_rfl
theorem k31 : (Rows.fnExactIsUsableRow.veiledFits Try.prog Try.f5.params.toList (Try.f5.params.toList ++ Rows.fnExactIsUsableSpec.plain.varTypes Try.prog ++ Try.f5.resultTypes.toList)) = true := by kernel_rfl
theorem closed : joinedFacts Try.prog 5 Try.f5 Rows.fnExactIsUsableSpec Rows.fnExactIsUsableRow = true := by
  unfold joinedFacts
  exact (DM.Closed.and2 (DM.Closed.and2 (DM.Closed.and2 (DM.Closed.and2 (DM.Closed.and2 (DM.Closed.and2 (DM.Closed.and2 (DM.Closed.and2 (DM.Closed.and2 (DM.Closed.and2 (DM.Closed.and2 (DM.Closed.and2 (DM.Closed.and2 (DM.Closed.and2 (DM.Closed.and2 (DM.Closed.and2 (DM.Closed.and2 (DM.Closed.and2 (DM.Closed.and2 (DM.Closed.and2 (DM.Closed.and2 (DM.Closed.and2 (DM.Closed.and2 (DM.Closed.and2 (DM.Closed.and2 (DM.Closed.and2 (DM.Closed.and2 (DM.Closed.and2 (DM.Closed.and2 (DM.Closed.and2 (DM.Closed.and2 k0 DM.Closed.laid) DM.Closed.maps) k3) k4) k5) DM.Closed.stops) k7) DM.Closed.stopKnobs) k9) k10) k11) k12) k13) k14) k15) k16) k17) k18) k19) k20) k21) DM.Closed.plain) k23) DM.Closed.heard) DM.Closed.enter) DM.Closed.lifted) DM.Closed.make_) (by kernel_rfl)) k29) k30) k31)
theorem named_ : Try.pinned.checked.prog.funcNamed Rows.fnExactIsUsableRow.func = some 5 := by kernel_rfl
theorem over : Rows.fnExactIsUsableRow.holds Try.pinned (OpenSpec.ofChange Rows.fnExactIsUsableSpec) :=
  OpenClaim.holds_of_wide 5 Try.f5 rfl rfl rfl rfl rfl rfl rfl ⟨rfl, rfl, rfl, rfl, rfl⟩ rfl rfl rfl rfl rfl named_ Try.func5 closed
    (of_decide_eq_true (by kernel_rfl)) (by unfold Func.isWrapper; first | (rw [if_pos (by decide +kernel)]; kernel_rfl) | (rw [if_neg (by decide +kernel)]; exact ⟨rfl, rfl⟩))
    (fun os started H enc _ => lifted os started H enc)
theorem proved : Rows.FnExactIsUsableSaid := over
end Go.Proofs.Ytedhlofhkcggpaa.fnExactIsUsable
namespace Go.Proofs.Ytedhlofhkcggpaa
/-- The row, under a short name, for the claim. -/
theorem fnExactIsUsable_holds : Rows.FnExactIsUsableSaid := fnExactIsUsable.proved
end Go.Proofs.Ytedhlofhkcggpaa
