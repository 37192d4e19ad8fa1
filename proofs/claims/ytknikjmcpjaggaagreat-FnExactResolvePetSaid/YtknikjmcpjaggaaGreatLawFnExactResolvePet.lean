/- The law FnExactResolvePet holds of the program, for all arguments. Conditions: none. -/
import Derived.Test.YtknikjmcpjaggaaGreatRows
import Derived.Test.YtknikjmcpjaggaaGreatCl
import Derived.Test.YtknikjmcpjaggaaGreatResolvePetFnD
import Derived.WalkKit
import Derived.ProofKit
import Derived.OpenShut
import Derived.ShutString
import Derived.ChangeOld
import Derived.Below
import Derived.SizedLaws
import Derived.ChangeMaps5
namespace Go.Proofs.YtknikjmcpjaggaaGreat.fnExactResolvePet
open Go.ChangeShapes Go.WideShapes Go.ChangeAt Go.RowKit Go.DM
open Go.ChangeMaps (open_string shut_string)
set_option linter.all false
theorem own:ownKnob Tryz.prog.godebug=none:=by kernel_rfl
theorem laid:laidOutB Tryz.prog=true:=DM.Closed.laid
theorem reads:([25,26,75,9,28,3].all fun t=>Tryz.prog.readableRec t&&decide (t<Tryz.prog.types.size))=true:=by kernel_rfl
theorem known:([25,26,75,9,28,3].all fun t=>(Ev.T t).isSome)=true:=by kernel_rfl
theorem lawcon:vB Ev.T [25,26,75,9,28,3] Z303.aW.sem=Z303.aW:=by kernel_rfl
set_option maxRecDepth 100000 in
theorem lifted (os:Os)(started:os.Started)(H:Type)(enc:TypeId×Value→H) :
  ReturnsInHanded {} Tryz.checked os 20 .any (Rows.fnExactResolvePetSpec.pre6 enc Tryz.prog Tryz.f20 Rows.fnExactResolvePetRow.domain false) (Rows.fnExactResolvePetSpec.post enc Tryz.prog Tryz.f20 false true false false):=by
 refine returnsInHanded_of_change_sized (C:=Tryz.checked) own started (by kernel_rfl) Tryz.func20
  (ChangeSpec.witness6 (enc:=enc) (C:=Tryz.checked) false ⟨#[],#[.agg #[.slice none 0 0,.slice none 0 0],.slice none 0 0,.slice none 0 0,.string ⟨#[]⟩,.slice none 0 0,.int .i64 0],[]⟩ 8 (by kernel_rfl) (by kernel_rfl) (by kernel_rfl) (by kernel_rfl)) ?_
 intro W base args ds gs before hval0 hW hcnd hsz0 _
 have hval:∀(j:Nat) t v,Tryz.f20.params[j]?=some t→args[j]?=some v→Value.okWide Tryz.prog W .any base t v:=hval0
 have hW':=hW
 obtain ⟨p,q,hA0,hV,rfl,hfz,hnd⟩:=hW
 have hA:DataW.TrodAll enc Tryz.prog W 0 (fun _=>true) true Tryz.f20.params.toList args.toList ds p:=hA0
 rw [Tryz.params20] at hA hval
 obtain ⟨rfl,rfl⟩:=trodVars_none hV
 obtain ⟨ls,hwf,hF⟩:=rW (E:=Ev) (xm aF) (fun t ht=>by have:=known;rw [List.all_eq_true] at this;exact this t ht) hA
  (fun j t v h h'=>hval j t v (by simpa using h) (by simpa using h'))
 have hVl:Valid Tryz.prog Ev 20 (vB Ev.T [25,26,75,9,28,3] Z303.aW.sem):=by rw [lawcon];exact Z303.af
 have hcall:=xp hVl (Z303.holds ls hwf) hF
 rw [show args.toList.toArray=args from by simp] at hcall
 refine hcall.mono fun e W' ⟨he,bel⟩=>?_
 subst he
 have hlen:=pg hA
 match ds,hlen,hA with
 | [d0,d1,d2,d3,d4,d5],_,hA=>
  exact ⟨_,rfl,_,_,_,[],_,[],hW',trodAll_mk1 (shut_bool Tryz.underlying4 _),(by rw [Tryz.params20];exact mA laid bel reads hA),rfl,bel.frame _,fun h=>by cases h⟩
theorem k0:(Rows.fnExactResolvePetRow.wf (OpenSpec.ofChange Rows.fnExactResolvePetSpec))=true:=by kernel_rfl
theorem k3:(Tryz.f20.params.all (Tryz.prog.readableRec ·))=true:=by kernel_rfl
theorem k4:(namedTie Tryz.prog Rows.fnExactResolvePetRow.named Rows.fnExactResolvePetSpec.vars)=true:=by kernel_rfl
theorem k5:((Rows.fnExactResolvePetRow.stops==[]))=true:=by kernel_rfl
theorem k7:((Rows.fnExactResolvePetRow.knobs==[]))=true:=by kernel_rfl
theorem k9:((Rows.fnExactResolvePetRow.inPlace==Tryz.prog.inPlace 20))=true:=by kernel_rfl
theorem k10:((Rows.fnExactResolvePetRow.unfollowed==Tryz.prog.unfollowed 20))=true:=by kernel_rfl
theorem k11:((Rows.fnExactResolvePetRow.recurses==Tryz.prog.recurses 20))=true:=by kernel_rfl
theorem k12:((Rows.fnExactResolvePetRow.named==Tryz.prog.varsNamed 20))=true:=by kernel_rfl
theorem k13:((Rows.fnExactResolvePetRow.maps==(Tryz.f20.params.toList++Rows.fnExactResolvePetSpec.plain.varTypes Tryz.prog).any (Tryz.prog.mapsRec ·)))=true:=by kernel_rfl
theorem k14:((Rows.fnExactResolvePetRow.ifaces==(Tryz.f20.params.toList++Rows.fnExactResolvePetSpec.plain.varTypes Tryz.prog).any (Tryz.prog.ifacesRec ·)))=true:=by kernel_rfl
theorem k15:((Rows.fnExactResolvePetRow.mapsOut==Tryz.prog.mapsAmong Tryz.f20.resultTypes.toList))=true:=by kernel_rfl
theorem k16:((Rows.fnExactResolvePetRow.loops==(Tryz.f20.params.toList++Rows.fnExactResolvePetSpec.plain.varTypes Tryz.prog).any (Tryz.prog.loopsFrom ·)))=true:=by kernel_rfl
theorem k17:((Rows.fnExactResolvePetRow.wideKeys==(Tryz.f20.params.toList++Rows.fnExactResolvePetSpec.plain.varTypes Tryz.prog++Tryz.f20.resultTypes.toList).any (Tryz.prog.wideKeysFrom ·)))=true:=by kernel_rfl
theorem k18:(Rows.fnExactResolvePetSpec.vars.all (Tryz.prog.varReadable ·))=true:=by kernel_rfl
theorem k19:(Tryz.f20.resultTypes.all (fun t=>Tryz.prog.readableRec t&&decide (t<Tryz.prog.types.size)))=true:=by kernel_rfl
theorem k20:((Rows.fnExactResolvePetRow.ifacesOut==Tryz.f20.resultTypes.toList.any (Tryz.prog.ifacesRec ·)))=true:=by kernel_rfl
theorem k21:((Rows.fnExactResolvePetRow.loopsOut==Tryz.f20.resultTypes.toList.any (Tryz.prog.loopsFrom ·)))=true:=by kernel_rfl
theorem k23:(Rows.fnExactResolvePetRow.shortTexts.isNone)=true:=by kernel_rfl
theorem k29:((Rows.fnExactResolvePetRow.pinned==Rows.fnExactResolvePetRow.pinnedBy))=true:=by kernel_rfl
theorem k30:((Rows.fnExactResolvePetRow.veiled==(Tryz.f20.params.toList++Rows.fnExactResolvePetSpec.plain.varTypes Tryz.prog++Tryz.f20.resultTypes.toList).any (Tryz.prog.veiledRec ·)))=true:=by kernel_rfl
theorem k31:(Rows.fnExactResolvePetRow.veiledFits Tryz.prog Tryz.f20.params.toList (Tryz.f20.params.toList++Rows.fnExactResolvePetSpec.plain.varTypes Tryz.prog++Tryz.f20.resultTypes.toList))=true:=by kernel_rfl
theorem closed:joinedFacts Tryz.prog 20 Tryz.f20 Rows.fnExactResolvePetSpec Rows.fnExactResolvePetRow=true:=by
 unfold joinedFacts
 exact (DM.Closed.and2 (DM.Closed.and2 (DM.Closed.and2 (DM.Closed.and2 (DM.Closed.and2 (DM.Closed.and2 (DM.Closed.and2 (DM.Closed.and2 (DM.Closed.and2 (DM.Closed.and2 (DM.Closed.and2 (DM.Closed.and2 (DM.Closed.and2 (DM.Closed.and2 (DM.Closed.and2 (DM.Closed.and2 (DM.Closed.and2 (DM.Closed.and2 (DM.Closed.and2 (DM.Closed.and2 (DM.Closed.and2 (DM.Closed.and2 (DM.Closed.and2 (DM.Closed.and2 (DM.Closed.and2 (DM.Closed.and2 (DM.Closed.and2 (DM.Closed.and2 (DM.Closed.and2 (DM.Closed.and2 (DM.Closed.and2 k0 DM.Closed.laid) DM.Closed.maps) k3) k4) k5) DM.Closed.stops) k7) DM.Closed.stopKnobs) k9) k10) k11) k12) k13) k14) k15) k16) k17) k18) k19) k20) k21) DM.Closed.plain) k23) DM.Closed.heard) DM.Closed.enter) DM.Closed.lifted) DM.Closed.make_) (by kernel_rfl)) k29) k30) k31)
theorem named_:Tryz.pinned.checked.prog.funcNamed Rows.fnExactResolvePetRow.func=some 20:=by kernel_rfl
theorem over:Rows.fnExactResolvePetRow.holds Tryz.pinned (OpenSpec.ofChange Rows.fnExactResolvePetSpec):=
 OpenClaim.holds_of_wide 20 Tryz.f20 rfl rfl rfl rfl rfl rfl rfl ⟨rfl,rfl,rfl,rfl,rfl⟩ rfl rfl rfl rfl rfl named_ Tryz.func20 closed
  (of_decide_eq_true (by kernel_rfl)) (by unfold Func.isWrapper;first | (rw [if_pos (by decide +kernel)];kernel_rfl) | (rw [if_neg (by decide +kernel)];exact ⟨rfl,rfl⟩))
  (fun os started H enc _=>lifted os started H enc)
theorem proved:Rows.FnExactResolvePetSaid:=over
end Go.Proofs.YtknikjmcpjaggaaGreat.fnExactResolvePet
namespace Go.Proofs.YtknikjmcpjaggaaGreat
/-- The row, under a short name, for the claim. -/
theorem fnExactResolvePet_holds:Rows.FnExactResolvePetSaid:=fnExactResolvePet.proved
end Go.Proofs.YtknikjmcpjaggaaGreat
