/- The law FnExactAreRoots holds of the program, for all arguments. Conditions: none. -/
import Derived.Test.YtgagkddebgbdmaaRows
import Derived.Test.YtgagkddebgbdmaaCl
import Derived.Test.YtgagkddebgbdmaaAreRootsFn
import Derived.WalkKit
import Derived.ProofKit
import Derived.OpenShut
import Derived.ShutString
import Derived.ChangeOld
import Derived.Below
import Derived.SizedLaws
import Derived.ChangeMaps5
namespace Go.Proofs.Ytgagkddebgbdmaa.fnExactAreRoots
open Go.ChangeShapes Go.WideShapes Go.ChangeAt Go.RowKit Go.DM
open Go.ChangeMaps (open_string shut_string)
set_option linter.all false
theorem own:ownKnob Try.prog.godebug=none:=by kernel_rfl
theorem laid:laidOutB Try.prog=true:=DM.Closed.laid
theorem reads:([22].all fun t=>Try.prog.readableRec t&&decide (t<Try.prog.types.size))=true:=by kernel_rfl
theorem known:([22].all fun t=>(Ev.T t).isSome)=true:=by kernel_rfl
theorem lawcon:oK Ev.T [22] Z13.cj.sem=Z13.cj:=by kernel_rfl
set_option maxRecDepth 100000 in
theorem lifted (os:Os)(started:os.Started)(H:Type)(enc:TypeId×Value→H) :
  ReturnsInHanded {} Try.checked os 3 .any (Rows.fnExactAreRootsSpec.pre6 enc Try.prog Try.f3 Rows.fnExactAreRootsRow.domain false) (Rows.fnExactAreRootsSpec.post enc Try.prog Try.f3 false true false false):=by
 refine returnsInHanded_of_change_sized (C:=Try.checked) own started (by kernel_rfl) Try.func3
  (ChangeSpec.witness6 (enc:=enc) (C:=Try.checked) false ⟨#[],#[.slice none 0 0],[]⟩ 8 (by kernel_rfl) (by kernel_rfl) (by kernel_rfl) (by kernel_rfl)) ?_
 intro W base args ds gs before hval0 hW hcnd hsz0 _
 have hval:∀(j:Nat) t v,Try.f3.params[j]?=some t→args[j]?=some v→Value.okWide Try.prog W .any base t v:=hval0
 have hW':=hW
 obtain ⟨p,q,hA0,hV,rfl,hfz,hnd⟩:=hW
 have hA:DataW.TrodAll enc Try.prog W 0 (fun _=>true) true Try.f3.params.toList args.toList ds p:=hA0
 rw [Try.params3] at hA hval
 obtain ⟨rfl,rfl⟩:=trodVars_none hV
 obtain ⟨ls,hwf,hF⟩:=kW (E:=Ev) (qg cB) (fun t ht=>by have:=known;rw [List.all_eq_true] at this;exact this t ht) hA
  (fun j t v h h'=>hval j t v (by simpa using h) (by simpa using h'))
 have hVl:Valid Try.prog Ev 3 (oK Ev.T [22] Z13.cj.sem):=by rw [lawcon];exact Z13.aP
 have hcall:=qn hVl (Z13.holds ls hwf) hF
 rw [show args.toList.toArray=args from by simp] at hcall
 refine hcall.mono fun e W' ⟨he,bel⟩=>?_
 subst he
 have hlen:=iT hA
 match ds,hlen,hA with
 | [d0],_,hA=>
  exact ⟨_,rfl,_,_,_,[],_,[],hW',trodAll_mk1 (shut_bool Try.underlying4 _),(by rw [Try.params3];exact fZ laid bel reads hA),rfl,bel.frame _,fun h=>by cases h⟩
open DM.Closed
abbrev RW:=Rows.fnExactAreRootsRow
abbrev SP:=Rows.fnExactAreRootsSpec
theorem k0:(RW.wf (OpenSpec.ofChange SP))=true:=by kernel_rfl
theorem k3:(Try.f3.params.all (Try.prog.readableRec ·))=true:=by kernel_rfl
theorem k4:(namedTie Try.prog RW.named SP.vars)=true:=by kernel_rfl
theorem k5:((RW.stops==[]))=true:=by kernel_rfl
theorem k7:((RW.knobs==[]))=true:=by kernel_rfl
theorem k9:((RW.inPlace==Try.prog.inPlace 3))=true:=by kernel_rfl
theorem k10:((RW.unfollowed==Try.prog.unfollowed 3))=true:=by kernel_rfl
theorem k11:((RW.recurses==Try.prog.recurses 3))=true:=by kernel_rfl
theorem k12:((RW.named==Try.prog.varsNamed 3))=true:=by kernel_rfl
theorem kA:((RW.maps==(Try.f3.params.toList++SP.plain.varTypes Try.prog).any (Try.prog.mapsRec ·)))=true:=by kernel_rfl
theorem kf:((RW.ifaces==(Try.f3.params.toList++SP.plain.varTypes Try.prog).any (Try.prog.ifacesRec ·)))=true:=by kernel_rfl
theorem k15:((RW.mapsOut==Try.prog.mapsAmong Try.f3.resultTypes.toList))=true:=by kernel_rfl
theorem k16:((RW.loops==(Try.f3.params.toList++SP.plain.varTypes Try.prog).any (Try.prog.loopsFrom ·)))=true:=by kernel_rfl
theorem k17:((RW.wideKeys==(Try.f3.params.toList++SP.plain.varTypes Try.prog++Try.f3.resultTypes.toList).any (Try.prog.wideKeysFrom ·)))=true:=by kernel_rfl
theorem k18:(SP.vars.all (Try.prog.varReadable ·))=true:=by kernel_rfl
theorem k19:(Try.f3.resultTypes.all (fun t=>Try.prog.readableRec t&&decide (t<Try.prog.types.size)))=true:=by kernel_rfl
theorem k20:((RW.ifacesOut==Try.f3.resultTypes.toList.any (Try.prog.ifacesRec ·)))=true:=by kernel_rfl
theorem k21:((RW.loopsOut==Try.f3.resultTypes.toList.any (Try.prog.loopsFrom ·)))=true:=by kernel_rfl
theorem k23:(RW.shortTexts.isNone)=true:=by kernel_rfl
theorem k29:((RW.pinned==RW.pinnedBy))=true:=by kernel_rfl
theorem k30:((RW.veiled==(Try.f3.params.toList++SP.plain.varTypes Try.prog++Try.f3.resultTypes.toList).any (Try.prog.veiledRec ·)))=true:=by kernel_rfl
theorem k31:(RW.veiledFits Try.prog Try.f3.params.toList (Try.f3.params.toList++SP.plain.varTypes Try.prog++Try.f3.resultTypes.toList))=true:=by kernel_rfl
theorem closed:joinedFacts Try.prog 3 Try.f3 SP RW=true:=by
 unfold joinedFacts
 exact (and2 (and2 (and2 (and2 (and2 (and2 (and2 (and2 (and2 (and2 (and2 (and2 (and2 (and2 (and2 (and2 (and2 (and2 (and2 (and2 (and2 (and2 (and2 (and2 (and2 (and2 (and2 (and2 (and2 (and2 (and2 k0 laid) maps) k3) k4) k5) stops) k7) stopKnobs) k9) k10) k11) k12) kA) kf) k15) k16) k17) k18) k19) k20) k21) plain) k23) heard) enter) DM.Closed.lifted) make_) (by kernel_rfl)) k29) k30) k31)
theorem named_:Try.pinned.checked.prog.funcNamed RW.func=some 3:=by kernel_rfl
theorem over:RW.holds Try.pinned (OpenSpec.ofChange SP):=
 OpenClaim.holds_of_wide 3 Try.f3 rfl rfl rfl rfl rfl rfl rfl ⟨rfl,rfl,rfl,rfl,rfl⟩ rfl rfl rfl rfl rfl named_ Try.func3 closed
  (of_decide_eq_true (by kernel_rfl)) (by unfold Func.isWrapper;first | (rw [if_pos (by decide +kernel)];kernel_rfl) | (rw [if_neg (by decide +kernel)];exact ⟨rfl,rfl⟩))
  (fun os started H enc _=>lifted os started H enc)
theorem proved:Rows.FnExactAreRootsSaid:=over
end Go.Proofs.Ytgagkddebgbdmaa.fnExactAreRoots
namespace Go.Proofs.Ytgagkddebgbdmaa
theorem fnExactAreRoots_holds:Rows.FnExactAreRootsSaid:=fnExactAreRoots.proved
end Go.Proofs.Ytgagkddebgbdmaa
