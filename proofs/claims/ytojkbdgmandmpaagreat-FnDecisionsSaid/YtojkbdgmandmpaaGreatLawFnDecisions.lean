/- The law FnDecisions holds of the program, for all arguments. Conditions: none. -/
import Derived.Test.YtojkbdgmandmpaaGreatRows
import Derived.Test.YtojkbdgmandmpaaGreatCl
import Derived.Test.YtojkbdgmandmpaaGreatLDecisionsFnC
import Derived.WalkKit
import Derived.ProofKit
import Derived.OpenShut
import Derived.ShutString
import Derived.ChangeOld
import Derived.Below
import Derived.SizedLaws
import Derived.ChangeMaps5
namespace Go.Proofs.YtojkbdgmandmpaaGreat.fnDecisions
open Go.ChangeShapes Go.WideShapes Go.ChangeAt Go.RowKit Go.DM
open Go.ChangeMaps (open_string shut_string)
set_option linter.all false
theorem own:ownKnob Tryz.prog.godebug=none:=by kernel_rfl
theorem laid:laidOutB Tryz.prog=true:=DM.Closed.laid
theorem reads:([22].all fun t=>Tryz.prog.readableRec t&&decide (t<Tryz.prog.types.size))=true:=by kernel_rfl
theorem known:([22].all fun t=>(Ev.T t).isSome)=true:=by kernel_rfl
theorem lawcon:yq Ev.T [22] Z179.aV.sem=Z179.aV:=by kernel_rfl
set_option maxRecDepth 100000 in
theorem lifted (os:Os)(started:os.Started)(H:Type)(enc:TypeId×Value→H) :
  ReturnsInHanded {} Tryz.checked os 4 .any (Rows.fnDecisionsSpec.pre6 enc Tryz.prog Tryz.f4 Rows.fnDecisionsRow.domain false) (Rows.fnDecisionsSpec.post enc Tryz.prog Tryz.f4 false true false false):=by
 refine returnsInHanded_of_change_sized (C:=Tryz.checked) own started (by kernel_rfl) Tryz.func4
  (ChangeSpec.witness6 (enc:=enc) (C:=Tryz.checked) false ⟨#[],#[.slice none 0 0],[]⟩ 8 (by kernel_rfl) (by kernel_rfl) (by kernel_rfl) (by kernel_rfl)) ?_
 intro W base args ds gs before hval0 hW hcnd hsz0 _
 have hval:∀(j:Nat) t v,Tryz.f4.params[j]?=some t→args[j]?=some v→Value.okWide Tryz.prog W .any base t v:=hval0
 have hW':=hW
 obtain ⟨p,q,hA0,hV,rfl,hfz,hnd⟩:=hW
 have hA:DataW.TrodAll enc Tryz.prog W 0 (fun _=>true) true Tryz.f4.params.toList args.toList ds p:=hA0
 rw [Tryz.params4] at hA hval
 obtain ⟨rfl,rfl⟩:=trodVars_none hV
 obtain ⟨ls,hwf,hF⟩:=tM (E:=Ev) (zx aJ) (fun t ht=>by have:=known;rw [List.all_eq_true] at this;exact this t ht) hA
  (fun j t v h h'=>hval j t v (by simpa using h) (by simpa using h'))
 have hVl:Valid Tryz.prog Ev 4 (yq Ev.T [22] Z179.aV.sem):=by rw [lawcon];exact Z179.ah
 have hcall:=zE hVl (Z179.holds ls hwf) hF
 rw [show args.toList.toArray=args from by simp] at hcall
 refine hcall.mono fun e W' ⟨he,bel⟩=>?_
 subst he
 have hlen:=qK hA
 match ds,hlen,hA with
 | [d0],_,hA=>
  exact ⟨_,rfl,_,_,_,[],_,[],hW',trodAll_mk1 (shut_bool Tryz.underlying4 _),(by rw [Tryz.params4];exact nG laid bel reads hA),rfl,bel.frame _,fun h=>by cases h⟩
open DM.Closed
abbrev RW:=Rows.fnDecisionsRow
abbrev SP:=Rows.fnDecisionsSpec
theorem k0:(RW.wf (OpenSpec.ofChange SP))=true:=by kernel_rfl
theorem k3:(Tryz.f4.params.all (Tryz.prog.readableRec ·))=true:=by kernel_rfl
theorem k4:(namedTie Tryz.prog RW.named SP.vars)=true:=by kernel_rfl
theorem k5:((RW.stops==[]))=true:=by kernel_rfl
theorem k7:((RW.knobs==[]))=true:=by kernel_rfl
theorem k9:((RW.inPlace==Tryz.prog.inPlace 4))=true:=by kernel_rfl
theorem k10:((RW.unfollowed==Tryz.prog.unfollowed 4))=true:=by kernel_rfl
theorem k11:((RW.recurses==Tryz.prog.recurses 4))=true:=by kernel_rfl
theorem k12:((RW.named==Tryz.prog.varsNamed 4))=true:=by kernel_rfl
theorem tB:((RW.maps==(Tryz.f4.params.toList++SP.plain.varTypes Tryz.prog).any (Tryz.prog.mapsRec ·)))=true:=by kernel_rfl
theorem tF:((RW.ifaces==(Tryz.f4.params.toList++SP.plain.varTypes Tryz.prog).any (Tryz.prog.ifacesRec ·)))=true:=by kernel_rfl
theorem k15:((RW.mapsOut==Tryz.prog.mapsAmong Tryz.f4.resultTypes.toList))=true:=by kernel_rfl
theorem k16:((RW.loops==(Tryz.f4.params.toList++SP.plain.varTypes Tryz.prog).any (Tryz.prog.loopsFrom ·)))=true:=by kernel_rfl
theorem k17:((RW.wideKeys==(Tryz.f4.params.toList++SP.plain.varTypes Tryz.prog++Tryz.f4.resultTypes.toList).any (Tryz.prog.wideKeysFrom ·)))=true:=by kernel_rfl
theorem k18:(SP.vars.all (Tryz.prog.varReadable ·))=true:=by kernel_rfl
theorem k19:(Tryz.f4.resultTypes.all (fun t=>Tryz.prog.readableRec t&&decide (t<Tryz.prog.types.size)))=true:=by kernel_rfl
theorem k20:((RW.ifacesOut==Tryz.f4.resultTypes.toList.any (Tryz.prog.ifacesRec ·)))=true:=by kernel_rfl
theorem k21:((RW.loopsOut==Tryz.f4.resultTypes.toList.any (Tryz.prog.loopsFrom ·)))=true:=by kernel_rfl
theorem k23:(RW.shortTexts.isNone)=true:=by kernel_rfl
theorem k29:((RW.pinned==RW.pinnedBy))=true:=by kernel_rfl
theorem ED:((RW.veiled==(Tryz.f4.params.toList++SP.plain.varTypes Tryz.prog++Tryz.f4.resultTypes.toList).any (Tryz.prog.veiledRec ·)))=true:=by kernel_rfl
theorem xz:(RW.veiledFits Tryz.prog Tryz.f4.params.toList (Tryz.f4.params.toList++SP.plain.varTypes Tryz.prog++Tryz.f4.resultTypes.toList))=true:=by kernel_rfl
theorem closed:joinedFacts Tryz.prog 4 Tryz.f4 SP RW=true:=by
 unfold joinedFacts
 exact (and2 (and2 (and2 (and2 (and2 (and2 (and2 (and2 (and2 (and2 (and2 (and2 (and2 (and2 (and2 (and2 (and2 (and2 (and2 (and2 (and2 (and2 (and2 (and2 (and2 (and2 (and2 (and2 (and2 (and2 (and2 k0 laid) maps) k3) k4) k5) stops) k7) stopKnobs) k9) k10) k11) k12) tB) tF) k15) k16) k17) k18) k19) k20) k21) plain) k23) heard) enter) DM.Closed.lifted) make_) (by kernel_rfl)) k29) ED) xz)
theorem named_:Tryz.pinned.checked.prog.funcNamed RW.func=some 4:=by kernel_rfl
theorem over:RW.holds Tryz.pinned (OpenSpec.ofChange SP):=
 OpenClaim.holds_of_wide 4 Tryz.f4 rfl rfl rfl rfl rfl rfl rfl ⟨rfl,rfl,rfl,rfl,rfl⟩ rfl rfl rfl rfl rfl named_ Tryz.func4 closed
  (of_decide_eq_true (by kernel_rfl)) (by unfold Func.isWrapper;first | (rw [if_pos (by decide +kernel)];kernel_rfl) | (rw [if_neg (by decide +kernel)];exact ⟨rfl,rfl⟩))
  (fun os started H enc _=>lifted os started H enc)
theorem proved:Rows.FnDecisionsSaid:=over
end Go.Proofs.YtojkbdgmandmpaaGreat.fnDecisions
namespace Go.Proofs.YtojkbdgmandmpaaGreat
theorem fnDecisions_holds:Rows.FnDecisionsSaid:=fnDecisions.proved
end Go.Proofs.YtojkbdgmandmpaaGreat
