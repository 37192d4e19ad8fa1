/- The law FnExactEqualTraces holds of the program, for all arguments. Conditions: none. -/
import Derived.Test.YtnnmfhhlebbmiaaRows
import Derived.Test.YtnnmfhhlebbmiaaCl
import Derived.Test.YtnnmfhhlebbmiaaFnEqualTracesB
import Derived.WalkKit
import Derived.ProofKit
import Derived.OpenShut
import Derived.ShutString
import Derived.ChangeOld
import Derived.Below
import Derived.SizedLaws
import Derived.ChangeMaps5
namespace Go.Proofs.Ytnnmfhhlebbmiaa.fnExactEqualTraces
open Go.ChangeShapes Go.WideShapes Go.ChangeAt Go.RowKit Go.DM
open Go.ChangeMaps (open_string shut_string)
set_option linter.all false
theorem own : ownKnob Try.prog.godebug = none := by kernel_rfl
theorem laid : laidOutB Try.prog = true := DM.Closed.laid
theorem reads : ([56, 56].all fun t => Try.prog.readableRec t && decide (t < Try.prog.types.size)) = true := by kernel_rfl
theorem known : ([56, 56].all fun t => (Ev.T t).isSome) = true := by kernel_rfl
theorem lawcon : lawCon Ev.T [56, 56] laws_FnExactEqualTraces.con.sem = laws_FnExactEqualTraces.con := by kernel_rfl
set_option maxRecDepth 100000 in
theorem lifted (os : Os) (started : os.Started) (H : Type) (enc : TypeId × Value → H) :
    ReturnsInHanded {} Try.checked os 13 .any (Rows.fnExactEqualTracesSpec.pre6 enc Try.prog Try.f13 Rows.fnExactEqualTracesRow.domain false) (Rows.fnExactEqualTracesSpec.post enc Try.prog Try.f13 false true false false) := by
  refine returnsInHanded_of_change_sized (C := Try.checked) own started (by kernel_rfl) Try.func13
    (ChangeSpec.witness6 (enc := enc) (C := Try.checked) false ⟨#[], #[.agg #[.slice none 0 0, .slice none 0 0, .int .i64 0, .string ⟨#[]⟩, .int .i64 0, .int .i64 0, .slice none 0 0, .slice none 0 0, .int .i64 0], .agg #[.slice none 0 0, .slice none 0 0, .int .i64 0, .string ⟨#[]⟩, .int .i64 0, .int .i64 0, .slice none 0 0, .slice none 0 0, .int .i64 0]], []⟩ 8 (by kernel_rfl) (by kernel_rfl) (by kernel_rfl) (by kernel_rfl)) ?_
  intro W base args ds gs before hval0 hW hcnd hsz0 _
  have hval : ∀ (j : Nat) t v, Try.f13.params[j]? = some t → args[j]? = some v → Value.okWide Try.prog W .any base t v := hval0
  have hW' := hW
  obtain ⟨p, q, hA0, hV, rfl, hfz, hnd⟩ := hW
  have hA : DataW.TrodAll enc Try.prog W 0 (fun _ => true) true Try.f13.params.toList args.toList ds p := hA0
  rw [Try.params13] at hA hval
  obtain ⟨rfl, rfl⟩ := trodVars_none hV
  obtain ⟨ls, hwf, hF⟩ := args_read (E := Ev) (table_tyB tab_ok) (fun t ht => by have := known; rw [List.all_eq_true] at this; exact this t ht) hA
    (fun j t v h h' => hval j t v (by simpa using h) (by simpa using h'))
  have hVl : Valid Try.prog Ev 13 (lawCon Ev.T [56, 56] laws_FnExactEqualTraces.con.sem) := by rw [lawcon]; exact laws_FnExactEqualTraces.valid_
  have hcall := law_calls hVl (laws_FnExactEqualTraces.holds ls hwf) hF
  rw [show args.toList.toArray = args from by simp] at hcall
  refine hcall.mono fun e W' ⟨he, bel⟩ => ?_
  subst he
  have hlen := trodAll_len hA
  match ds, hlen, hA with
  | [d0, d1], _, hA =>
    exact ⟨_, rfl, _, _, _, [], _, [], hW', trodAll_mk1 (shut_bool Try.underlying4 _), (by rw [Try.params13]; exact trodAll_stays laid bel reads hA), rfl, bel.frame _, fun h => by cases h⟩
theorem k0 : (Rows.fnExactEqualTracesRow.wf (OpenSpec.ofChange Rows.fnExactEqualTracesSpec)) = true := by kernel_rfl
theorem k3 : (Try.f13.params.all (Try.prog.readableRec ·)) = true := by kernel_rfl
theorem k4 : (namedTie Try.prog Rows.fnExactEqualTracesRow.named Rows.fnExactEqualTracesSpec.vars) = true := by kernel_rfl
theorem k5 : ((Rows.fnExactEqualTracesRow.stops == [])) = true := by kernel_rfl
theorem k7 : ((Rows.fnExactEqualTracesRow.knobs == [])) = true := by kernel_rfl
theorem k9 : ((Rows.fnExactEqualTracesRow.inPlace == Try.prog.inPlace 13)) = true := by kernel_rfl
theorem k10 : ((Rows.fnExactEqualTracesRow.unfollowed == Try.prog.unfollowed 13)) = true := by kernel_rfl
theorem k11 : ((Rows.fnExactEqualTracesRow.recurses == Try.prog.recurses 13)) = true := by kernel_rfl
theorem k12 : ((Rows.fnExactEqualTracesRow.named == Try.prog.varsNamed 13)) = true := by kernel_rfl
theorem k13 : ((Rows.fnExactEqualTracesRow.maps == (Try.f13.params.toList ++ Rows.fnExactEqualTracesSpec.plain.varTypes Try.prog).any (Try.prog.mapsRec ·))) = true := by kernel_rfl
theorem k14 : ((Rows.fnExactEqualTracesRow.ifaces == (Try.f13.params.toList ++ Rows.fnExactEqualTracesSpec.plain.varTypes Try.prog).any (Try.prog.ifacesRec ·))) = true := by kernel_rfl
theorem k15 : ((Rows.fnExactEqualTracesRow.mapsOut == Try.prog.mapsAmong Try.f13.resultTypes.toList)) = true := by kernel_rfl
theorem k16 : ((Rows.fnExactEqualTracesRow.loops == (Try.f13.params.toList ++ Rows.fnExactEqualTracesSpec.plain.varTypes Try.prog).any (Try.prog.loopsFrom ·))) = true := by kernel_rfl
theorem k17 : ((Rows.fnExactEqualTracesRow.wideKeys == (Try.f13.params.toList ++ Rows.fnExactEqualTracesSpec.plain.varTypes Try.prog ++ Try.f13.resultTypes.toList).any (Try.prog.wideKeysFrom ·))) = true := by kernel_rfl
theorem k18 : (Rows.fnExactEqualTracesSpec.vars.all (Try.prog.varReadable ·)) = true := by kernel_rfl
theorem k19 : (Try.f13.resultTypes.all (fun t => Try.prog.readableRec t && decide (t < Try.prog.types.size))) = true := by kernel_rfl
theorem k20 : ((Rows.fnExactEqualTracesRow.ifacesOut == Try.f13.resultTypes.toList.any (Try.prog.ifacesRec ·))) = true := by kernel_rfl
theorem k21 : ((Rows.fnExactEqualTracesRow.loopsOut == Try.f13.resultTypes.toList.any (Try.prog.loopsFrom ·))) = true := by kernel_rfl
theorem k23 : (Rows.fnExactEqualTracesRow.shortTexts.isNone) = true := by kernel_rfl
theorem k29 : ((Rows.fnExactEqualTracesRow.pinned == Rows.fnExactEqualTracesRow.pinnedBy)) = true := by kernel_rfl
theorem k30 : ((Rows.fnExactEqualTracesRow.veiled == (Try.f13.params.toList ++ Rows.fnExactEqualTracesSpec.plain.varTypes Try.prog ++ Try.f13.resultTypes.toList).any (Try.prog.veiledRec ·))) = true := by kernel_rfl
theorem k31 : (Rows.fnExactEqualTracesRow.veiledFits Try.prog Try.f13.params.toList (Try.f13.params.toList ++ Rows.fnExactEqualTracesSpec.plain.varTypes Try.prog ++ Try.f13.resultTypes.toList)) = true := by kernel_rfl
theorem closed : joinedFacts Try.prog 13 Try.f13 Rows.fnExactEqualTracesSpec Rows.fnExactEqualTracesRow = true := by
  unfold joinedFacts
  exact (DM.Closed.and2 (DM.Closed.and2 (DM.Closed.and2 (DM.Closed.and2 (DM.Closed.and2 (DM.Closed.and2 (DM.Closed.and2 (DM.Closed.and2 (DM.Closed.and2 (DM.Closed.and2 (DM.Closed.and2 (DM.Closed.and2 (DM.Closed.and2 (DM.Closed.and2 (DM.Closed.and2 (DM.Closed.and2 (DM.Closed.and2 (DM.Closed.and2 (DM.Closed.and2 (DM.Closed.and2 (DM.Closed.and2 (DM.Closed.and2 (DM.Closed.and2 (DM.Closed.and2 (DM.Closed.and2 (DM.Closed.and2 (DM.Closed.and2 (DM.Closed.and2 (DM.Closed.and2 (DM.Closed.and2 (DM.Closed.and2 k0 DM.Closed.laid) DM.Closed.maps) k3) k4) k5) DM.Closed.stops) k7) DM.Closed.stopKnobs) k9) k10) k11) k12) k13) k14) k15) k16) k17) k18) k19) k20) k21) DM.Closed.plain) k23) DM.Closed.heard) DM.Closed.enter) DM.Closed.lifted) DM.Closed.make_) (by kernel_rfl)) k29) k30) k31)
theorem named_ : Try.pinned.checked.prog.funcNamed Rows.fnExactEqualTracesRow.func = some 13 := by kernel_rfl
theorem over : Rows.fnExactEqualTracesRow.holds Try.pinned (OpenSpec.ofChange Rows.fnExactEqualTracesSpec) :=
  OpenClaim.holds_of_wide 13 Try.f13 rfl rfl rfl rfl rfl rfl rfl ⟨rfl, rfl, rfl, rfl, rfl⟩ rfl rfl rfl rfl rfl named_ Try.func13 closed
    (of_decide_eq_true (by kernel_rfl)) (by unfold Func.isWrapper; first | (rw [if_pos (by decide +kernel)]; kernel_rfl) | (rw [if_neg (by decide +kernel)]; exact ⟨rfl, rfl⟩))
    (fun os started H enc _ => lifted os started H enc)
theorem proved : Rows.FnExactEqualTracesSaid := over
end Go.Proofs.Ytnnmfhhlebbmiaa.fnExactEqualTraces
namespace Go.Proofs.Ytnnmfhhlebbmiaa
/-- The row, under a short name, for the claim. -/
theorem fnExactEqualTraces_holds : Rows.FnExactEqualTracesSaid := fnExactEqualTraces.proved
end Go.Proofs.Ytnnmfhhlebbmiaa
