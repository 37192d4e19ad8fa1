/- The law FnExactKeepAnswer holds of the program, for all arguments. Conditions: none. -/
import Derived.Test.YtfghhicdmjiaaaaGreatRows
import Derived.Test.YtfghhicdmjiaaaaGreatCl
import Derived.Test.YtfghhicdmjiaaaaGreatKeepAnswerFnC
import Derived.WalkKit
import Derived.ProofKit
import Derived.OpenShut
import Derived.ShutString
import Derived.ChangeOld
import Derived.Below
import Derived.SizedLaws
import Derived.ChangeMaps5
namespace Go.Proofs.YtfghhicdmjiaaaaGreat.fnExactKeepAnswer
open Go.ChangeShapes Go.WideShapes Go.ChangeAt Go.RowKit Go.DM
open Go.ChangeMaps (open_string shut_string)
set_option linter.all false
theorem own : ownKnob Tryz.prog.godebug = none := by kernel_rfl
theorem laid : laidOutB Tryz.prog = true := DM.Closed.laid
theorem reads : ([62, 3, 9, 80, 3].all fun t => Tryz.prog.readableRec t && decide (t < Tryz.prog.types.size)) = true := by kernel_rfl
theorem known : ([62, 3, 9, 80, 3].all fun t => (Ev.T t).isSome) = true := by kernel_rfl
theorem lawcon : lawCon Ev.T [62, 3, 9, 80, 3] Z217.con.sem = Z217.con := by kernel_rfl
set_option maxRecDepth 100000 in
theorem lifted (os : Os) (started : os.Started) (H : Type) (enc : TypeId × Value → H) :
    ReturnsInHanded {} Tryz.checked os 7 .any (Rows.fnExactKeepAnswerSpec.pre6 enc Tryz.prog Tryz.f7 Rows.fnExactKeepAnswerRow.domain false) (Rows.fnExactKeepAnswerSpec.post enc Tryz.prog Tryz.f7 false true false false) := by
  refine returnsInHanded_of_change_sized (C := Tryz.checked) own started (by kernel_rfl) Tryz.func7
    (ChangeSpec.witness6 (enc := enc) (C := Tryz.checked) false ⟨#[], #[.agg #[.slice none 0 0], .int .i64 0, .string ⟨#[]⟩, .agg #[.slice none 0 0, .bool false, .string ⟨#[]⟩, .int .i64 0, .int .i64 0, .slice none 0 0, .int .i64 0, .slice none 0 0, .int .i64 0, .string ⟨#[]⟩, .int .i64 0, .int .i64 0, .slice none 0 0, .string ⟨#[]⟩, .int .i64 0, .int .i64 0, .slice none 0 0, .int .i64 0, .slice none 0 0, .int .i64 0, .slice none 0 0], .int .i64 0], []⟩ 8 (by kernel_rfl) (by kernel_rfl) (by kernel_rfl) (by kernel_rfl)) ?_
  intro W base args ds gs before hval0 hW hcnd hsz0 _
  have hval : ∀ (j : Nat) t v, Tryz.f7.params[j]? = some t → args[j]? = some v → Value.okWide Tryz.prog W .any base t v := hval0
  have hW' := hW
  obtain ⟨p, q, hA0, hV, rfl, hfz, hnd⟩ := hW
  have hA : DataW.TrodAll enc Tryz.prog W 0 (fun _ => true) true Tryz.f7.params.toList args.toList ds p := hA0
  rw [Tryz.params7] at hA hval
  obtain ⟨rfl, rfl⟩ := trodVars_none hV
  obtain ⟨ls, hwf, hF⟩ := args_read (E := Ev) (table_tyB tab_ok) (fun t ht => by have := known; rw [List.all_eq_true] at this; exact this t ht) hA
    (fun j t v h h' => hval j t v (by simpa using h) (by simpa using h'))
  have hVl : Valid Tryz.prog Ev 7 (lawCon Ev.T [62, 3, 9, 80, 3] Z217.con.sem) := by rw [lawcon]; exact Z217.valid_
  have hcall := law_calls hVl (Z217.holds ls hwf) hF
  rw [show args.toList.toArray = args from by simp] at hcall
  refine hcall.mono fun e W' ⟨he, bel⟩ => ?_
  subst he
  have hlen := trodAll_len hA
  match ds, hlen, hA with
  | [d0, d1, d2, d3, d4], _, hA =>
    exact ⟨_, rfl, _, _, _, [], _, [], hW', trodAll_mk1 (shut_bool Tryz.underlying4 _), (by rw [Tryz.params7]; exact trodAll_stays laid bel reads hA), rfl, bel.frame _, fun h => by cases h⟩
theorem k0 : (Rows.fnExactKeepAnswerRow.wf (OpenSpec.ofChange Rows.fnExactKeepAnswerSpec)) = true := by kernel_rfl
theorem k3 : (Tryz.f7.params.all (Tryz.prog.readableRec ·)) = true := by kernel_rfl
theorem k4 : (namedTie Tryz.prog Rows.fnExactKeepAnswerRow.named Rows.fnExactKeepAnswerSpec.vars) = true := by kernel_rfl
theorem k5 : ((Rows.fnExactKeepAnswerRow.stops == [])) = true := by kernel_rfl
theorem k7 : ((Rows.fnExactKeepAnswerRow.knobs == [])) = true := by kernel_rfl
theorem k9 : ((Rows.fnExactKeepAnswerRow.inPlace == Tryz.prog.inPlace 7)) = true := by kernel_rfl
theorem k10 : ((Rows.fnExactKeepAnswerRow.unfollowed == Tryz.prog.unfollowed 7)) = true := by kernel_rfl
theorem k11 : ((Rows.fnExactKeepAnswerRow.recurses == Tryz.prog.recurses 7)) = true := by kernel_rfl
theorem k12 : ((Rows.fnExactKeepAnswerRow.named == Tryz.prog.varsNamed 7)) = true := by kernel_rfl
theorem k13 : ((Rows.fnExactKeepAnswerRow.maps == (Tryz.f7.params.toList ++ Rows.fnExactKeepAnswerSpec.plain.varTypes Tryz.prog).any (Tryz.prog.mapsRec ·))) = true := by kernel_rfl
theorem k14 : ((Rows.fnExactKeepAnswerRow.ifaces == (Tryz.f7.params.toList ++ Rows.fnExactKeepAnswerSpec.plain.varTypes Tryz.prog).any (Tryz.prog.ifacesRec ·))) = true := by kernel_rfl
theorem k15 : ((Rows.fnExactKeepAnswerRow.mapsOut == Tryz.prog.mapsAmong Tryz.f7.resultTypes.toList)) = true := by kernel_rfl
theorem k16 : ((Rows.fnExactKeepAnswerRow.loops == (Tryz.f7.params.toList ++ Rows.fnExactKeepAnswerSpec.plain.varTypes Tryz.prog).any (Tryz.prog.loopsFrom ·))) = true := by kernel_rfl
theorem k17 : ((Rows.fnExactKeepAnswerRow.wideKeys == (Tryz.f7.params.toList ++ Rows.fnExactKeepAnswerSpec.plain.varTypes Tryz.prog ++ Tryz.f7.resultTypes.toList).any (Tryz.prog.wideKeysFrom ·))) = true := by kernel_rfl
theorem k18 : (Rows.fnExactKeepAnswerSpec.vars.all (Tryz.prog.varReadable ·)) = true := by kernel_rfl
theorem k19 : (Tryz.f7.resultTypes.all (fun t => Tryz.prog.readableRec t && decide (t < Tryz.prog.types.size))) = true := by kernel_rfl
theorem k20 : ((Rows.fnExactKeepAnswerRow.ifacesOut == Tryz.f7.resultTypes.toList.any (Tryz.prog.ifacesRec ·))) = true := by kernel_rfl
theorem k21 : ((Rows.fnExactKeepAnswerRow.loopsOut == Tryz.f7.resultTypes.toList.any (Tryz.prog.loopsFrom ·))) = true := by kernel_rfl
theorem k23 : (Rows.fnExactKeepAnswerRow.shortTexts.isNone) = true := by kernel_rfl
theorem k29 : ((Rows.fnExactKeepAnswerRow.pinned == Rows.fnExactKeepAnswerRow.pinnedBy)) = true := by kernel_rfl
theorem k30 : ((Rows.fnExactKeepAnswerRow.veiled == (Tryz.f7.params.toList ++ Rows.fnExactKeepAnswerSpec.plain.varTypes Tryz.prog ++ Tryz.f7.resultTypes.toList).any (Tryz.prog.veiledRec ·))) = true := by kernel_rfl
theorem k31 : (Rows.fnExactKeepAnswerRow.veiledFits Tryz.prog Tryz.f7.params.toList (Tryz.f7.params.toList ++ Rows.fnExactKeepAnswerSpec.plain.varTypes Tryz.prog ++ Tryz.f7.resultTypes.toList)) = true := by kernel_rfl
theorem closed : joinedFacts Tryz.prog 7 Tryz.f7 Rows.fnExactKeepAnswerSpec Rows.fnExactKeepAnswerRow = true := by
  unfold joinedFacts
  exact (DM.Closed.and2 (DM.Closed.and2 (DM.Closed.and2 (DM.Closed.and2 (DM.Closed.and2 (DM.Closed.and2 (DM.Closed.and2 (DM.Closed.and2 (DM.Closed.and2 (DM.Closed.and2 (DM.Closed.and2 (DM.Closed.and2 (DM.Closed.and2 (DM.Closed.and2 (DM.Closed.and2 (DM.Closed.and2 (DM.Closed.and2 (DM.Closed.and2 (DM.Closed.and2 (DM.Closed.and2 (DM.Closed.and2 (DM.Closed.and2 (DM.Closed.and2 (DM.Closed.and2 (DM.Closed.and2 (DM.Closed.and2 (DM.Closed.and2 (DM.Closed.and2 (DM.Closed.and2 (DM.Closed.and2 (DM.Closed.and2 k0 DM.Closed.laid) DM.Closed.maps) k3) k4) k5) DM.Closed.stops) k7) DM.Closed.stopKnobs) k9) k10) k11) k12) k13) k14) k15) k16) k17) k18) k19) k20) k21) DM.Closed.plain) k23) DM.Closed.heard) DM.Closed.enter) DM.Closed.lifted) DM.Closed.make_) (by kernel_rfl)) k29) k30) k31)
theorem named_ : Tryz.pinned.checked.prog.funcNamed Rows.fnExactKeepAnswerRow.func = some 7 := by kernel_rfl
theorem over : Rows.fnExactKeepAnswerRow.holds Tryz.pinned (OpenSpec.ofChange Rows.fnExactKeepAnswerSpec) :=
  OpenClaim.holds_of_wide 7 Tryz.f7 rfl rfl rfl rfl rfl rfl rfl ⟨rfl, rfl, rfl, rfl, rfl⟩ rfl rfl rfl rfl rfl named_ Tryz.func7 closed
    (of_decide_eq_true (by kernel_rfl)) (by unfold Func.isWrapper; first | (rw [if_pos (by decide +kernel)]; kernel_rfl) | (rw [if_neg (by decide +kernel)]; exact ⟨rfl, rfl⟩))
    (fun os started H enc _ => lifted os started H enc)
theorem proved : Rows.FnExactKeepAnswerSaid := over
end Go.Proofs.YtfghhicdmjiaaaaGreat.fnExactKeepAnswer
namespace Go.Proofs.YtfghhicdmjiaaaaGreat
/-- The row, under a short name, for the claim. -/
theorem fnExactKeepAnswer_holds : Rows.FnExactKeepAnswerSaid := fnExactKeepAnswer.proved
end Go.Proofs.YtfghhicdmjiaaaaGreat
