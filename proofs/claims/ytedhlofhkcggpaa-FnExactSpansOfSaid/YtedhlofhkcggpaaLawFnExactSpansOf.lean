/- The law FnExactSpansOf holds of the program, for all arguments. Conditions: none. -/
import Derived.Test.YtedhlofhkcggpaaRows
import Derived.Test.YtedhlofhkcggpaaCl
import Derived.Test.YtedhlofhkcggpaaFnSpansOfB
import Derived.WalkKit
import Derived.ProofKit
import Derived.OpenShut
import Derived.ShutString
import Derived.ChangeOld
import Derived.Below
import Derived.SizedLaws
import Derived.ChangeMaps5
namespace Go.Proofs.Ytedhlofhkcggpaa.fnExactSpansOf
open Go.ChangeShapes Go.WideShapes Go.ChangeAt Go.RowKit Go.DM
open Go.ChangeMaps (open_string shut_string)
set_option linter.all false
theorem own : ownKnob Try.prog.godebug = none := by kernel_rfl
theorem laid : laidOutB Try.prog = true := DM.Closed.laid
theorem reads : ([92].all fun t => Try.prog.readableRec t && decide (t < Try.prog.types.size)) = true := by kernel_rfl
theorem known : ([92].all fun t => (Ev.T t).isSome) = true := by kernel_rfl
theorem lawcon : lawCon Ev.T [92] laws_FnExactSpansOf.con.sem = laws_FnExactSpansOf.con := by kernel_rfl
set_option maxRecDepth 100000 in
theorem lifted (os : Os) (started : os.Started) (H : Type) (enc : TypeId × Value → H) :
    ReturnsInHanded {} Try.checked os 10 .any (Rows.fnExactSpansOfSpec.pre6 enc Try.prog Try.f10 Rows.fnExactSpansOfRow.domain false) (Rows.fnExactSpansOfSpec.post enc Try.prog Try.f10 false true false false) := by
  refine returnsInHanded_of_change_sized (C := Try.checked) own started (by kernel_rfl) Try.func10
    (ChangeSpec.witness6 (enc := enc) (C := Try.checked) false ⟨#[], #[.slice none 0 0], []⟩ 8 (by kernel_rfl) (by kernel_rfl) (by kernel_rfl) (by kernel_rfl)) ?_
  intro W base args ds gs before hval0 hW hcnd hsz0 _
  have hval : ∀ (j : Nat) t v, Try.f10.params[j]? = some t → args[j]? = some v → Value.okWide Try.prog W .any base t v := hval0
  have hW' := hW
  obtain ⟨p, q, hA0, hV, rfl, hfz, hnd⟩ := hW
  have hA : DataW.TrodAll enc Try.prog W 0 (fun _ => true) true Try.f10.params.toList args.toList ds p := hA0
  rw [Try.params10] at hA hval
  obtain ⟨rfl, rfl⟩ := trodVars_none hV
  obtain ⟨ls, hwf, hF⟩ := args_read (E := Ev) (table_tyB tab_ok) (fun t ht => by have := known; rw [List.all_eq_true] at this; exact this t ht) hA
    (fun j t v h h' => hval j t v (by simpa using h) (by simpa using h'))
  have hVl : Valid Try.prog Ev 10 (lawCon Ev.T [92] laws_FnExactSpansOf.con.sem) := by rw [lawcon]; exact laws_FnExactSpansOf.valid_
  have hcall := law_calls hVl (laws_FnExactSpansOf.holds ls hwf) hF
  rw [show args.toList.toArray = args from by simp] at hcall
  refine hcall.mono fun e W' ⟨he, bel⟩ => ?_
  subst he
  have hlen := trodAll_len hA
  match ds, hlen, hA with
  | [d0], _, hA =>
    exact ⟨_, rfl, _, _, _, [], _, [], hW', trodAll_mk1 (shut_bool Try.underlying4 _), (by rw [Try.params10]; exact trodAll_stays laid bel reads hA), rfl, bel.frame _, fun h => by cases h⟩
theorem k0 : (Rows.fnExactSpansOfRow.wf (OpenSpec.ofChange Rows.fnExactSpansOfSpec)) = true := by kernel_rfl
theorem k3 : (Try.f10.params.all (Try.prog.readableRec ·)) = true := by kernel_rfl
theorem k4 : (namedTie Try.prog Rows.fnExactSpansOfRow.named Rows.fnExactSpansOfSpec.vars) = true := by kernel_rfl
theorem k5 : ((Rows.fnExactSpansOfRow.stops == [])) = true := by kernel_rfl
theorem k7 : ((Rows.fnExactSpansOfRow.knobs == [])) = true := by kernel_rfl
theorem k9 : ((Rows.fnExactSpansOfRow.inPlace == Try.prog.inPlace 10)) = true := by kernel_rfl
theorem k10 : ((Rows.fnExactSpansOfRow.unfollowed == Try.prog.unfollowed 10)) = true := by kernel_rfl
theorem k11 : ((Rows.fnExactSpansOfRow.recurses == Try.prog.recurses 10)) = true := by kernel_rfl
theorem k12 : ((Rows.fnExactSpansOfRow.named == Try.prog.varsNamed 10)) = true := by kernel_rfl
theorem k13 : ((Rows.fnExactSpansOfRow.maps == (Try.f10.params.toList ++ Rows.fnExactSpansOfSpec.plain.varTypes Try.prog).any (Try.prog.mapsRec ·))) = true := by kernel_rfl
theorem k14 : ((Rows.fnExactSpansOfRow.ifaces == (Try.f10.params.toList ++ Rows.fnExactSpansOfSpec.plain.varTypes Try.prog).any (Try.prog.ifacesRec ·))) = true := by kernel_rfl
theorem k15 : ((Rows.fnExactSpansOfRow.mapsOut == Try.prog.mapsAmong Try.f10.resultTypes.toList)) = true := by kernel_rfl
theorem k16 : ((Rows.fnExactSpansOfRow.loops == (Try.f10.params.toList ++ Rows.fnExactSpansOfSpec.plain.varTypes Try.prog).any (Try.prog.loopsFrom ·))) = true := by kernel_rfl
theorem k17 : ((Rows.fnExactSpansOfRow.wideKeys == (Try.f10.params.toList ++ Rows.fnExactSpansOfSpec.plain.varTypes Try.prog ++ Try.f10.resultTypes.toList).any (Try.prog.wideKeysFrom ·))) = true := by kernel_rfl
theorem k18 : (Rows.fnExactSpansOfSpec.vars.all (Try.prog.varReadable ·)) = true := by kernel_rfl
theorem k19 : (Try.f10.resultTypes.all (fun t => Try.prog.readableRec t && decide (t < Try.prog.types.size))) = true := by kernel_rfl
theorem k20 : ((Rows.fnExactSpansOfRow.ifacesOut == Try.f10.resultTypes.toList.any (Try.prog.ifacesRec ·))) = true := by kernel_rfl
theorem k21 : ((Rows.fnExactSpansOfRow.loopsOut == Try.f10.resultTypes.toList.any (Try.prog.loopsFrom ·))) = true := by kernel_rfl
theorem k23 : (Rows.fnExactSpansOfRow.shortTexts.isNone) = true := by kernel_rfl
theorem k29 : ((Rows.fnExactSpansOfRow.pinned == Rows.fnExactSpansOfRow.pinnedBy)) = true := by kernel_rfl
theorem k30 : ((Rows.fnExactSpansOfRow.veiled == (Try.f10.params.toList ++ Rows.fnExactSpansOfSpec.plain.varTypes Try.prog ++ Try.f10.resultTypes.toList).any (Try.prog.veiledRec ·))) = true := by kernel_rfl
theorem k31 : (Rows.fnExactSpansOfRow.veiledFits Try.prog Try.f10.params.toList (Try.f10.params.toList ++ Rows.fnExactSpansOfSpec.plain.varTypes Try.prog ++ Try.f10.resultTypes.toList)) = true := by kernel_rfl
theorem closed : joinedFacts Try.prog 10 Try.f10 Rows.fnExactSpansOfSpec Rows.fnExactSpansOfRow = true := by
  unfold joinedFacts
  exact (DM.Closed.and2 (DM.Closed.and2 (DM.Closed.and2 (DM.Closed.and2 (DM.Closed.and2 (DM.Closed.and2 (DM.Closed.and2 (DM.Closed.and2 (DM.Closed.and2 (DM.Closed.and2 (DM.Closed.and2 (DM.Closed.and2 (DM.Closed.and2 (DM.Closed.and2 (DM.Closed.and2 (DM.Closed.and2 (DM.Closed.and2 (DM.Closed.and2 (DM.Closed.and2 (DM.Closed.and2 (DM.Closed.and2 (DM.Closed.and2 (DM.Closed.and2 (DM.Closed.and2 (DM.Closed.and2 (DM.Closed.and2 (DM.Closed.and2 (DM.Closed.and2 (DM.Closed.and2 (DM.Closed.and2 (DM.Closed.and2 k0 DM.Closed.laid) DM.Closed.maps) k3) k4) k5) DM.Closed.stops) k7) DM.Closed.stopKnobs) k9) k10) k11) k12) k13) k14) k15) k16) k17) k18) k19) k20) k21) DM.Closed.plain) k23) DM.Closed.heard) DM.Closed.enter) DM.Closed.lifted) DM.Closed.make_) (by kernel_rfl)) k29) k30) k31)
theorem named_ : Try.pinned.checked.prog.funcNamed Rows.fnExactSpansOfRow.func = some 10 := by kernel_rfl
theorem over : Rows.fnExactSpansOfRow.holds Try.pinned (OpenSpec.ofChange Rows.fnExactSpansOfSpec) :=
  OpenClaim.holds_of_wide 10 Try.f10 rfl rfl rfl rfl rfl rfl rfl ⟨rfl, rfl, rfl, rfl, rfl⟩ rfl rfl rfl rfl rfl named_ Try.func10 closed
    (of_decide_eq_true (by kernel_rfl)) (by unfold Func.isWrapper; first | (rw [if_pos (by decide +kernel)]; kernel_rfl) | (rw [if_neg (by decide +kernel)]; exact ⟨rfl, rfl⟩))
    (fun os started H enc _ => lifted os started H enc)
theorem proved : Rows.FnExactSpansOfSaid := over
end Go.Proofs.Ytedhlofhkcggpaa.fnExactSpansOf
namespace Go.Proofs.Ytedhlofhkcggpaa
/-- The row, under a short name, for the claim. -/
theorem fnExactSpansOf_holds : Rows.FnExactSpansOfSaid := fnExactSpansOf.proved
end Go.Proofs.Ytedhlofhkcggpaa
