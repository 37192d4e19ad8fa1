/- The law FnResolved holds of the program, for all arguments. Conditions: none. -/
import Derived.Test.YtcepeleohipibaaGreatRows
import Derived.Test.YtcepeleohipibaaGreatCl
import Derived.Test.YtcepeleohipibaaGreatLResolvedFnC
import Derived.WalkKit
import Derived.ProofKit
import Derived.OpenShut
import Derived.ShutString
import Derived.ChangeOld
import Derived.Below
import Derived.SizedLaws
import Derived.ChangeMaps5
namespace Go.Proofs.YtcepeleohipibaaGreat.fnResolved
open Go.ChangeShapes Go.WideShapes Go.ChangeAt Go.RowKit Go.DM
open Go.ChangeMaps (open_string shut_string)
set_option linter.all false
theorem own:ownKnob Tryz.prog.godebug=none:=by kernel_rfl
theorem laid:laidOutB Tryz.prog=true:=DM.Closed.laid
theorem reads:([31].all fun t=>Tryz.prog.readableRec t&&decide (t<Tryz.prog.types.size))=true:=by kernel_rfl
theorem known:([31].all fun t=>(Ev.T t).isSome)=true:=by kernel_rfl
theorem lawcon:yG Ev.T [31] Z264.aM.sem=Z264.aM:=by kernel_rfl
set_option maxRecDepth 100000 in
theorem lifted (os:Os)(started:os.Started)(H:Type)(enc:TypeId×Value→H) :
  ReturnsInHanded {} Tryz.checked os 8 .any (Rows.fnResolvedSpec.pre6 enc Tryz.prog Tryz.f8 Rows.fnResolvedRow.domain false) (Rows.fnResolvedSpec.post enc Tryz.prog Tryz.f8 false true false false):=by
 refine returnsInHanded_of_change_sized (C:=Tryz.checked) own started (by kernel_rfl) Tryz.func8
  (ChangeSpec.witness6 (enc:=enc) (C:=Tryz.checked) false ⟨#[],#[.slice none 0 0],[]⟩ 8 (by kernel_rfl) (by kernel_rfl) (by kernel_rfl) (by kernel_rfl)) ?_
 intro W base args ds gs before hval0 hW hcnd hsz0 _
 have hval:∀(j:Nat) t v,Tryz.f8.params[j]?=some t→args[j]?=some v→Value.okWide Tryz.prog W .any base t v:=hval0
 have hW':=hW
 obtain ⟨p,q,hA0,hV,rfl,hfz,hnd⟩:=hW
 have hA:DataW.TrodAll enc Tryz.prog W 0 (fun _=>true) true Tryz.f8.params.toList args.toList ds p:=hA0
 rw [Tryz.params8] at hA hval
 obtain ⟨rfl,rfl⟩:=trodVars_none hV
 obtain ⟨ls,hwf,hF⟩:=uu (E:=Ev) (zC az) (fun t ht=>by have:=known;rw [List.all_eq_true] at this;exact this t ht) hA
  (fun j t v h h'=>hval j t v (by simpa using h) (by simpa using h'))
 have hVl:Valid Tryz.prog Ev 8 (yG Ev.T [31] Z264.aM.sem):=by rw [lawcon];exact Z264.af
 have hcall:=Ag hVl (Z264.holds ls hwf) hF
 rw [show args.toList.toArray=args from by simp] at hcall
 refine hcall.mono fun e W' ⟨he,bel⟩=>?_
 subst he
 have hlen:=rz hA
 match ds,hlen,hA with
 | [d0],_,hA=>
  exact ⟨_,rfl,_,_,_,[],_,[],hW',trodAll_mk1 (shut_bool Tryz.underlying4 _),(by rw [Tryz.params8];exact ot laid bel reads hA),rfl,bel.frame _,fun h=>by cases h⟩
open DM.Closed
abbrev RW:=Rows.fnResolvedRow
abbrev SP:=Rows.fnResolvedSpec
theorem k0:(RW.wf (OpenSpec.ofChange SP))=true:=by kernel_rfl
theorem k3:(Tryz.f8.params.all (Tryz.prog.readableRec ·))=true:=by kernel_rfl
theorem k4:(namedTie Tryz.prog RW.named SP.vars)=true:=by kernel_rfl
theorem k5:((RW.stops==[]))=true:=by kernel_rfl
theorem k7:((RW.knobs==[]))=true:=by kernel_rfl
theorem k9:((RW.inPlace==Tryz.prog.inPlace 8))=true:=by kernel_rfl
theorem k10:((RW.unfollowed==Tryz.prog.unfollowed 8))=true:=by kernel_rfl
theorem k11:((RW.recurses==Tryz.prog.recurses 8))=true:=by kernel_rfl
theorem k12:((RW.named==Tryz.prog.varsNamed 8))=true:=by kernel_rfl
theorem tX:((RW.maps==(Tryz.f8.params.toList++SP.plain.varTypes Tryz.prog).any (Tryz.prog.mapsRec ·)))=true:=by kernel_rfl
theorem tU:((RW.ifaces==(Tryz.f8.params.toList++SP.plain.varTypes Tryz.prog).any (Tryz.prog.ifacesRec ·)))=true:=by kernel_rfl
theorem k15:((RW.mapsOut==Tryz.prog.mapsAmong Tryz.f8.resultTypes.toList))=true:=by kernel_rfl
theorem k16:((RW.loops==(Tryz.f8.params.toList++SP.plain.varTypes Tryz.prog).any (Tryz.prog.loopsFrom ·)))=true:=by kernel_rfl
theorem k17:((RW.wideKeys==(Tryz.f8.params.toList++SP.plain.varTypes Tryz.prog++Tryz.f8.resultTypes.toList).any (Tryz.prog.wideKeysFrom ·)))=true:=by kernel_rfl
theorem k18:(SP.vars.all (Tryz.prog.varReadable ·))=true:=by kernel_rfl
theorem k19:(Tryz.f8.resultTypes.all (fun t=>Tryz.prog.readableRec t&&decide (t<Tryz.prog.types.size)))=true:=by kernel_rfl
theorem k20:((RW.ifacesOut==Tryz.f8.resultTypes.toList.any (Tryz.prog.ifacesRec ·)))=true:=by kernel_rfl
theorem k21:((RW.loopsOut==Tryz.f8.resultTypes.toList.any (Tryz.prog.loopsFrom ·)))=true:=by kernel_rfl
theorem k23:(RW.shortTexts.isNone)=true:=by kernel_rfl
theorem k29:((RW.pinned==RW.pinnedBy))=true:=by kernel_rfl
theorem k30:((RW.veiled==(Tryz.f8.params.toList++SP.plain.varTypes Tryz.prog++Tryz.f8.resultTypes.toList).any (Tryz.prog.veiledRec ·)))=true:=by kernel_rfl
theorem k31:(RW.veiledFits Tryz.prog Tryz.f8.params.toList (Tryz.f8.params.toList++SP.plain.varTypes Tryz.prog++Tryz.f8.resultTypes.toList))=true:=by kernel_rfl
theorem closed:joinedFacts Tryz.prog 8 Tryz.f8 SP RW=true:=by
 unfold joinedFacts
 exact (and2 (and2 (and2 (and2 (and2 (and2 (and2 (and2 (and2 (and2 (and2 (and2 (and2 (and2 (and2 (and2 (and2 (and2 (and2 (and2 (and2 (and2 (and2 (and2 (and2 (and2 (and2 (and2 (and2 (and2 (and2 k0 laid) maps) k3) k4) k5) stops) k7) stopKnobs) k9) k10) k11) k12) tX) tU) k15) k16) k17) k18) k19) k20) k21) plain) k23) heard) enter) DM.Closed.lifted) make_) (by kernel_rfl)) k29) k30) k31)
theorem named_:Tryz.pinned.checked.prog.funcNamed RW.func=some 8:=by kernel_rfl
theorem over:RW.holds Tryz.pinned (OpenSpec.ofChange SP):=
 OpenClaim.holds_of_wide 8 Tryz.f8 rfl rfl rfl rfl rfl rfl rfl ⟨rfl,rfl,rfl,rfl,rfl⟩ rfl rfl rfl rfl rfl named_ Tryz.func8 closed
  (of_decide_eq_true (by kernel_rfl)) (by unfold Func.isWrapper;first | (rw [if_pos (by decide +kernel)];kernel_rfl) | (rw [if_neg (by decide +kernel)];exact ⟨rfl,rfl⟩))
  (fun os started H enc _=>lifted os started H enc)
theorem proved:Rows.FnResolvedSaid:=over
end Go.Proofs.YtcepeleohipibaaGreat.fnResolved
namespace Go.Proofs.YtcepeleohipibaaGreat
theorem fnResolved_holds:Rows.FnResolvedSaid:=fnResolved.proved
end Go.Proofs.YtcepeleohipibaaGreat
