/- What the functions compute that the law reaches, and that the law returns true. Conditions: none. -/
import Derived.Test.YtnnmfhhlebbmiaaTy
import Derived.Test.YtnnmfhhlebbmiaaFnIsTakenBackA
import Derived.Test.YtnnmfhhlebbmiaaProg
import Derived.Lib.AppendZerosOnto
import Derived.Lib.Bytealg
import Derived.Laws.Externs
import Derived.Lib.Walk
import Derived.Lib.Hide
import Derived.Lib.Strings
set_option linter.all false
namespace Go.DM
open Go.Proofs
/-! impl.judgeCode -/
namespace impl_judgeCode
noncomputable def F (x0 : RHead) (x1 : RSigned) : Ans := (call (impl_SameContents.R (x1.fHead, x0)) fun v1 => (bif v1 then (call (impl_EqualKeys.R (x1.fHead.fJudge, x0.fJudge)) fun v2 => (bif v2 then (call (impl_EqualKeys.R (x1.fHead.fHeirs, x0.fHeirs)) fun v3 => (bif v3 then (call (impl_NoKeys.R x0.fJudge) fun v4 => (bif v4 then ret (5 : Int) else (bif (x1.fHead.fFrozen == x0.fFrozen) then ret (6 : Int) else (bif (!(x1.fHead.fWait == x0.fWait)) then ret (6 : Int) else (bif x1.fHead.fFrozen then (call (impl_EqualKeys.R (x1.fHead.fKeys, x0.fKeys)) fun v5 => (bif (!v5) then ret (6 : Int) else (call (impl_Signed_isSignedBy.R (x1, x0.fJudge)) fun v6 => (bif (!v6) then ret (7 : Int) else ret (1 : Int))))) else (call (impl_Signed_isSignedBy.R (x1, x0.fJudge)) fun v7 => (bif (!v7) then ret (7 : Int) else ret (1 : Int)))))))) else (call (impl_NoKeys.R x0.fJudge) fun v8 => (bif v8 then ret (5 : Int) else (bif (x1.fHead.fFrozen == x0.fFrozen) then ret (6 : Int) else ret (6 : Int)))))) else (call (impl_NoKeys.R x0.fJudge) fun v9 => (bif v9 then ret (5 : Int) else (bif (x1.fHead.fFrozen == x0.fFrozen) then ret (6 : Int) else ret (6 : Int)))))) else (call (impl_NoKeys.R x0.fJudge) fun v10 => (bif v10 then ret (5 : Int) else (bif (x1.fHead.fFrozen == x0.fFrozen) then ret (6 : Int) else ret (6 : Int))))))
def pats : List Pat := [.agg [.int .i64, .int .i64, .int .i64, .int .i64, .int .i64, .int .i64, .int .i64, .int .i64, .sl 3, .int .i64, .sl 3, .int .i64, .int .i64, .sl 3, .int .i64, .bool], .agg [.int .i64, .int .i64, .int .i64, .int .i64, .int .i64, .int .i64, .int .i64, .int .i64, .sl 3, .int .i64, .sl 3, .int .i64, .int .i64, .sl 3, .int .i64, .bool, .sl 216]]
def res : RP := .one (.rd (.int .i64))
noncomputable abbrev E : Env := ⟨assoc Tab, conG [(239, impl_SameContents.con), (150, impl_EqualKeys.con), (215, impl_NoKeys.con), (195, impl_Signed_isSignedBy.con)], 65⟩
set_option maxRecDepth 100000
theorem run_eq (n : Nat) (ls : List L) : runF E (fun _ => []) Try.f223 res n (initS pats ls) = F (RHead.dec ls) (RSigned.dec (dropT 16 ls)) := by kernel_rfl
noncomputable def md (a0 : MHead) (a1 : MSigned) : Int := (bif (impl_SameContents.md a1.fHead a0) then (bif (impl_EqualKeys.md a1.fHead.fJudge a0.fJudge) then (bif (impl_EqualKeys.md a1.fHead.fHeirs a0.fHeirs) then (bif (impl_NoKeys.md a0.fJudge) then (5 : Int) else (bif (a1.fHead.fFrozen == a0.fFrozen) then (6 : Int) else (bif (!(a1.fHead.fWait == a0.fWait)) then (6 : Int) else (bif a1.fHead.fFrozen then (bif (!(impl_EqualKeys.md a1.fHead.fKeys a0.fKeys)) then (6 : Int) else (bif (!(impl_Signed_isSignedBy.md a1 a0.fJudge)) then (7 : Int) else (1 : Int))) else (bif (!(impl_Signed_isSignedBy.md a1 a0.fJudge)) then (7 : Int) else (1 : Int)))))) else (bif (impl_NoKeys.md a0.fJudge) then (5 : Int) else (bif (a1.fHead.fFrozen == a0.fFrozen) then (6 : Int) else (6 : Int)))) else (bif (impl_NoKeys.md a0.fJudge) then (5 : Int) else (bif (a1.fHead.fFrozen == a0.fFrozen) then (6 : Int) else (6 : Int)))) else (bif (impl_NoKeys.md a0.fJudge) then (5 : Int) else (bif (a1.fHead.fFrozen == a0.fFrozen) then (6 : Int) else (6 : Int))))
def gd (a0 : MHead) (a1 : MSigned) : Prop := (MHead.Sm (2 ^ 21) a0) ∧ (MSigned.Sm (2 ^ 21) a1)
def acc (ls : List L) : RHead × RSigned := ((RHead.dec ls), (RSigned.dec (dropT 16 ls)))
noncomputable def R : (RHead × RSigned) → Option Int := RR (p2 gd) (u2 md)
theorem R_eq {a0} {a1} (h : gd a0 a1) : R ((MHead.r a0), (MSigned.r a1)) = some (md a0 a1) := RR_eq (a := (a0, a1)) h
noncomputable def con : Con := CN pats res acc R
theorem okF (a0 : MHead) (a1 : MSigned) (hg : gd a0 a1) : F (MHead.r a0) (MSigned.r a1) = ret ((md a0 a1) : Int) := by
  unfold gd at hg
  obtain ⟨H0, H1⟩ := hg
  unfold F md
  try simp only [S0, MHead.rs, MSigned.rs]
  refine call_to (impl_SameContents.md a1.fHead a0) (impl_SameContents.R_eq (a0 := a1.fHead) (a1 := a0) trivial) ?_
  refine bif_out ret (fun c1 => ?_) (fun c1 => ?_)
  · refine call_to (impl_EqualKeys.md a1.fHead.fJudge a0.fJudge) (impl_EqualKeys.R_eq (a0 := a1.fHead.fJudge) (a1 := a0.fJudge) ⟨H1.1.2.2, H0.2.2⟩) ?_
    refine bif_out ret (fun c2 => ?_) (fun c2 => ?_)
    · refine call_to (impl_EqualKeys.md a1.fHead.fHeirs a0.fHeirs) (impl_EqualKeys.R_eq (a0 := a1.fHead.fHeirs) (a1 := a0.fHeirs) ⟨H1.1.2.1, H0.2.1⟩) ?_
      refine bif_out ret (fun c3 => ?_) (fun c3 => ?_)
      · refine call_to (impl_NoKeys.md a0.fJudge) (impl_NoKeys.R_eq (a0 := a0.fJudge) trivial) ?_
        refine bif_out ret (fun _ => rfl) (fun c4 => ?_)
        refine bif_out ret (fun _ => rfl) (fun c5 => ?_)
        refine bif_out ret (fun _ => rfl) (fun c6 => ?_)
        refine bif_out ret (fun c7 => ?_) (fun c7 => ?_)
        · refine call_to (impl_EqualKeys.md a1.fHead.fKeys a0.fKeys) (impl_EqualKeys.R_eq (a0 := a1.fHead.fKeys) (a1 := a0.fKeys) ⟨H1.1.1, H0.1⟩) ?_
          refine bif_out ret (fun _ => rfl) (fun c8 => ?_)
          refine call_to (impl_Signed_isSignedBy.md a1 a0.fJudge) (impl_Signed_isSignedBy.R_eq (a0 := a1) (a1 := a0.fJudge) ⟨H1, H0.2.2⟩) ?_
          refine bif_out ret (fun _ => rfl) (fun _ => rfl)
        · refine call_to (impl_Signed_isSignedBy.md a1 a0.fJudge) (impl_Signed_isSignedBy.R_eq (a0 := a1) (a1 := a0.fJudge) ⟨H1, H0.2.2⟩) ?_
          refine bif_out ret (fun _ => rfl) (fun _ => rfl)
      · refine call_to (impl_NoKeys.md a0.fJudge) (impl_NoKeys.R_eq (a0 := a0.fJudge) trivial) ?_
        refine bif_out ret (fun _ => rfl) (fun c11 => ?_)
        refine bif_out ret (fun _ => rfl) (fun _ => rfl)
    · refine call_to (impl_NoKeys.md a0.fJudge) (impl_NoKeys.R_eq (a0 := a0.fJudge) trivial) ?_
      refine bif_out ret (fun _ => rfl) (fun c13 => ?_)
      refine bif_out ret (fun _ => rfl) (fun _ => rfl)
  · refine call_to (impl_NoKeys.md a0.fJudge) (impl_NoKeys.R_eq (a0 := a0.fJudge) trivial) ?_
    refine bif_out ret (fun _ => rfl) (fun c15 => ?_)
    refine bif_out ret (fun _ => rfl) (fun _ => rfl)
theorem valid_ : Valid Try.prog Ev 223 con := VV (run := fun _ x => F x.1 x.2) mix tab_ok (.cons impl_SameContents.valid_ (.cons impl_EqualKeys.valid_ (.cons impl_NoKeys.valid_ (.cons impl_Signed_isSignedBy.valid_ .nil)))) Try.func223 (by kernel_rfl) run_eq (fun _ a _ _ hg => ⟨0, okF a.1 a.2 hg⟩)
end impl_judgeCode
/-! impl.NextCode -/
namespace impl_NextCode
noncomputable def F (x0 : RHead) (x1 : RSigned) : Ans := (call (impl_IsHead.R x0) fun v1 => (bif (!v1) then ret (2 : Int) else (call (impl_IsHead.R x1.fHead) fun v2 => (bif (!v2) then ret (2 : Int) else (call (impl_isNext.R (x0, x1.fHead)) fun v3 => (bif (!v3) then ret (3 : Int) else (bif (x1.fHead.fKind == 1) then (call (impl_ownerCode.R (x0, x1)) fun v4 => ret (v4 : Int)) else (bif (x1.fHead.fKind == 2) then (call (impl_heirCode.R (x0, x1)) fun v5 => ret (v5 : Int)) else (call (impl_judgeCode.R (x0, x1)) fun v6 => ret (v6 : Int))))))))))
def pats : List Pat := [.agg [.int .i64, .int .i64, .int .i64, .int .i64, .int .i64, .int .i64, .int .i64, .int .i64, .sl 3, .int .i64, .sl 3, .int .i64, .int .i64, .sl 3, .int .i64, .bool], .agg [.int .i64, .int .i64, .int .i64, .int .i64, .int .i64, .int .i64, .int .i64, .int .i64, .sl 3, .int .i64, .sl 3, .int .i64, .int .i64, .sl 3, .int .i64, .bool, .sl 216]]
def res : RP := .one (.rd (.int .i64))
noncomputable abbrev E : Env := ⟨assoc Tab, conG [(193, impl_IsHead.con), (220, impl_isNext.con), (221, impl_ownerCode.con), (222, impl_heirCode.con), (223, impl_judgeCode.con)], 40⟩
set_option maxRecDepth 100000
theorem run_eq (n : Nat) (ls : List L) : runF E (fun _ => []) Try.f196 res n (initS pats ls) = F (RHead.dec ls) (RSigned.dec (dropT 16 ls)) := by kernel_rfl
noncomputable def md (a0 : MHead) (a1 : MSigned) : Int := (bif (!(impl_IsHead.md a0)) then (2 : Int) else (bif (!(impl_IsHead.md a1.fHead)) then (2 : Int) else (bif (!(impl_isNext.md a0 a1.fHead)) then (3 : Int) else (bif (a1.fHead.fKind == 1) then ((impl_ownerCode.md a0 a1) : Int) else (bif (a1.fHead.fKind == 2) then ((impl_heirCode.md a0 a1) : Int) else ((impl_judgeCode.md a0 a1) : Int))))))
def gd (a0 : MHead) (a1 : MSigned) : Prop := (MHead.Sm (2 ^ 21) a0) ∧ (MSigned.Sm (2 ^ 21) a1)
def acc (ls : List L) : RHead × RSigned := ((RHead.dec ls), (RSigned.dec (dropT 16 ls)))
noncomputable def R : (RHead × RSigned) → Option Int := RR (p2 gd) (u2 md)
theorem R_eq {a0} {a1} (h : gd a0 a1) : R ((MHead.r a0), (MSigned.r a1)) = some (md a0 a1) := RR_eq (a := (a0, a1)) h
noncomputable def con : Con := CN pats res acc R
theorem okF (a0 : MHead) (a1 : MSigned) (hg : gd a0 a1) : F (MHead.r a0) (MSigned.r a1) = ret ((md a0 a1) : Int) := by
  unfold gd at hg
  obtain ⟨H0, H1⟩ := hg
  unfold F md
  try simp only [S0, MHead.rs, MSigned.rs]
  refine call_to (impl_IsHead.md a0) (impl_IsHead.R_eq (a0 := a0) H0) ?_
  refine bif_out ret (fun _ => rfl) (fun c1 => ?_)
  refine call_to (impl_IsHead.md a1.fHead) (impl_IsHead.R_eq (a0 := a1.fHead) H1.1) ?_
  refine bif_out ret (fun _ => rfl) (fun c2 => ?_)
  refine call_to (impl_isNext.md a0 a1.fHead) (impl_isNext.R_eq (a0 := a0) (a1 := a1.fHead) H0) ?_
  refine bif_out ret (fun _ => rfl) (fun c3 => ?_)
  refine bif_out ret (fun c4 => ?_) (fun c4 => ?_)
  · refine call_to (impl_ownerCode.md a0 a1) (impl_ownerCode.R_eq (a0 := a0) (a1 := a1) ⟨H0, H1⟩) ?_
    all_goals first | rfl | (simp only [S0, MHead.rs, MSigned.rs, MP]; first | done | rfl)
  · refine bif_out ret (fun c5 => ?_) (fun c5 => ?_)
    · refine call_to (impl_heirCode.md a0 a1) (impl_heirCode.R_eq (a0 := a0) (a1 := a1) ⟨H0, H1⟩) ?_
      all_goals first | rfl | (simp only [S0, MHead.rs, MSigned.rs, MP]; first | done | rfl)
    · refine call_to (impl_judgeCode.md a0 a1) (impl_judgeCode.R_eq (a0 := a0) (a1 := a1) ⟨H0, H1⟩) ?_
      all_goals first | rfl | (simp only [S0, MHead.rs, MSigned.rs, MP]; first | done | rfl)
theorem valid_ : Valid Try.prog Ev 196 con := VV (run := fun _ x => F x.1 x.2) mix tab_ok (.cons impl_IsHead.valid_ (.cons impl_isNext.valid_ (.cons impl_ownerCode.valid_ (.cons impl_heirCode.valid_ (.cons impl_judgeCode.valid_ .nil))))) Try.func196 (by kernel_rfl) run_eq (fun _ a _ _ hg => ⟨0, okF a.1 a.2 hg⟩)
theorem br (a0 : MHead) (a1 : MSigned) : md a0 a1 = spec_NextCode.md a0 a1 := by
  unfold md spec_NextCode.md impl_isNext.md impl_ownerCode.md impl_heirCode.md impl_judgeCode.md impl_Signed_isSignedBy.md spec_l15Owner.md spec_l15Heir.md spec_l15Judge.md
  simp only [impl_IsHead.br, impl_HeadDigest.br, impl_IsSigned.br, impl_HeadInts.br, impl_NoKeys.br, impl_EqualKeys.md_eq, spec_EqualKeys.md_eq, impl_SameContents.br, bne]
  cases spec_IsHead.md a0
  · rfl
  cases h2 : spec_IsHead.md a1.fHead
  · rfl
  obtain ⟨⟨k1, k2⟩, _⟩ := spec_IsHead.tr h2
  have ht : decide (a1.fHead.fTime < a0.fTime) = !decide (a1.fHead.fTime ≥ a0.fTime) := by
    rw [Bool.eq_iff_iff]; simp
  rw [ht]
  cases a1.fHead.fZone == a0.fZone
  · rfl
  cases a1.fHead.fEpoch == IntKind.i64.wrap (a0.fEpoch + 1)
  · rfl
  cases a1.fHead.fPrev == spec_HeadDigest.md a0
  · rfl
  cases decide (a1.fHead.fTime ≥ a0.fTime)
  · rfl
  have hk : a1.fHead.fKind = 1 ∨ a1.fHead.fKind = 2 ∨ a1.fHead.fKind = 3 := by omega
  generalize spec_IsSigned.md a0.fKeys (spec_HeadInts.md a1.fHead) a1.fSigs = s1
  generalize spec_IsSigned.md a0.fHeirs (spec_HeadInts.md a1.fHead) a1.fSigs = s2
  generalize spec_IsSigned.md a0.fJudge (spec_HeadInts.md a1.fHead) a1.fSigs = s3
  generalize spec_NoKeys.md a0.fHeirs = n1
  generalize spec_NoKeys.md a0.fJudge = n2
  generalize decide (a1.fHead.fTime < IntKind.i64.wrap (a0.fUntil + a0.fWait)) = d1
  generalize eqB a1.fHead.fKeys a0.fHeirs = e1
  generalize eqB a1.fHead.fJudge a0.fJudge = e2
  generalize eqB a1.fHead.fHeirs a0.fHeirs = e3
  generalize eqB a1.fHead.fKeys a0.fKeys = e4
  generalize spec_SameContents.md a1.fHead a0 = c1
  generalize (a1.fHead.fWait == a0.fWait) = w1
  generalize a1.fHead.fFrozen = f1
  generalize a0.fFrozen = f0
  rcases hk with hk | hk | hk <;> rw [hk]
  · cases f0 <;> cases f1 <;> cases s1 <;> rfl
  · cases f0 <;> cases n1 <;> cases d1 <;> cases f1 <;> cases e1 <;> cases c1 <;> cases s2 <;> rfl
  · cases n2
    · cases f1 <;> cases f0 <;> cases c1 <;> cases e2 <;> cases e3 <;> cases w1 <;> cases e4 <;> cases s3 <;> rfl
    · cases c1 <;> cases e2 <;> cases e3 <;> rfl
end impl_NextCode
/-! impl.MayFollow -/
namespace impl_MayFollow
noncomputable def F (x0 : RHead) (x1 : RSigned) : Ans := (call (impl_NextCode.R (x0, x1)) fun v1 => ret ((v1 == 1) : Bool))
def pats : List Pat := [.agg [.int .i64, .int .i64, .int .i64, .int .i64, .int .i64, .int .i64, .int .i64, .int .i64, .sl 3, .int .i64, .sl 3, .int .i64, .int .i64, .sl 3, .int .i64, .bool], .agg [.int .i64, .int .i64, .int .i64, .int .i64, .int .i64, .int .i64, .int .i64, .int .i64, .sl 3, .int .i64, .sl 3, .int .i64, .int .i64, .sl 3, .int .i64, .bool, .sl 216]]
def res : RP := .one (.rd (.bool))
noncomputable abbrev E : Env := ⟨assoc Tab, conG [(196, impl_NextCode.con)], 9⟩
set_option maxRecDepth 100000
theorem run_eq (n : Nat) (ls : List L) : runF E (fun _ => []) Try.f183 res n (initS pats ls) = F (RHead.dec ls) (RSigned.dec (dropT 16 ls)) := by kernel_rfl
noncomputable def md (a0 : MHead) (a1 : MSigned) : Bool := (((impl_NextCode.md a0 a1) == 1) : Bool)
def gd (a0 : MHead) (a1 : MSigned) : Prop := (MHead.Sm (2 ^ 21) a0) ∧ (MSigned.Sm (2 ^ 21) a1)
def acc (ls : List L) : RHead × RSigned := ((RHead.dec ls), (RSigned.dec (dropT 16 ls)))
noncomputable def R : (RHead × RSigned) → Option Bool := RR (p2 gd) (u2 md)
theorem R_eq {a0} {a1} (h : gd a0 a1) : R ((MHead.r a0), (MSigned.r a1)) = some (md a0 a1) := RR_eq (a := (a0, a1)) h
noncomputable def con : Con := CN pats res acc R
theorem okF (a0 : MHead) (a1 : MSigned) (hg : gd a0 a1) : F (MHead.r a0) (MSigned.r a1) = ret ((md a0 a1) : Bool) := by
  unfold gd at hg
  obtain ⟨H0, H1⟩ := hg
  unfold F md
  try simp only [S0]
  refine call_to (impl_NextCode.md a0 a1) (impl_NextCode.R_eq (a0 := a0) (a1 := a1) ⟨H0, H1⟩) ?_
  all_goals first | rfl | (simp only [S0, MP]; first | done | rfl)
theorem valid_ : Valid Try.prog Ev 183 con := VV (run := fun _ x => F x.1 x.2) mix tab_ok (.cons impl_NextCode.valid_ .nil) Try.func183 (by kernel_rfl) run_eq (fun _ a _ _ hg => ⟨0, okF a.1 a.2 hg⟩)
theorem br (a0 : MHead) (a1 : MSigned) : md a0 a1 = spec_MayFollow.md a0 a1 := by
  unfold md spec_MayFollow.md
  first
  | (simp only [impl_NextCode.br]; done)
  | (simp only [impl_NextCode.br]; rfl)
  | rfl
end impl_MayFollow
/-! impl.FirstWrong -/
namespace impl_FirstWrong
inductive Pt where
  | p0 (a : List (List L)) (b : List (List L)) (c : Int) (d : Int)
def pid : Pt → Nat
  | .p0 .. => 2
def pvs : Pt → List V
  | .p0 a b c d => [.sl none 119 a, .sl none 119 b, .int .i64 c, .int .i64 d]
def phs : Pt → List Root
  | .p0 a b c d => []
noncomputable def step (J : Pt → Ans) : Pt → Ans
  | .p0 a b c d => (bif (decide (d < c)) then (bif (decide ((0 : Int) ≤ d)) then (bif (decide (d < (b.length : Int))) then (bif (d == 0) then (call (impl_IsFirst.R (RSigned.at b (Int.toNat d))) fun v1 => (bif (!v1) then ret (d : Int) else (bif (decide (d > 0)) then (bif (decide ((0 : Int) ≤ (IntKind.i64.wrap (d - 1)))) then (bif (decide ((IntKind.i64.wrap (d - 1)) < (a.length : Int))) then (call (impl_MayFollow.R ((RSigned.at a (Int.toNat (IntKind.i64.wrap (d - 1)))).fHead, (RSigned.at b (Int.toNat d)))) fun v2 => (bif (!v2) then ret (d : Int) else J (.p0 a b c (IntKind.i64.wrap (d + 1))))) else none) else none) else J (.p0 a b c (IntKind.i64.wrap (d + 1)))))) else (bif (decide (d > 0)) then (bif (decide ((0 : Int) ≤ (IntKind.i64.wrap (d - 1)))) then (bif (decide ((IntKind.i64.wrap (d - 1)) < (a.length : Int))) then (call (impl_MayFollow.R ((RSigned.at a (Int.toNat (IntKind.i64.wrap (d - 1)))).fHead, (RSigned.at b (Int.toNat d)))) fun v3 => (bif (!v3) then ret (d : Int) else J (.p0 a b c (IntKind.i64.wrap (d + 1))))) else none) else none) else J (.p0 a b c (IntKind.i64.wrap (d + 1))))) else none) else none) else ret ((-1) : Int))
noncomputable def start (J : Pt → Ans) (x0 : List (List L)) : Ans := J (.p0 x0 x0 (x0.length : Int) 0)
def live : Nat → Live := fun i => match i with | 2 => [(0, none), (5, none), (6, none), (7, none)] | _ => []
def pats : List Pat := [.rd (.sl 119)]
def res : RP := .one (.rd (.int .i64))
noncomputable abbrev E : Env := ⟨assoc Tab, conG [(182, impl_IsFirst.con), (183, impl_MayFollow.con)], 36⟩
set_option maxRecDepth 100000
theorem step_eq (I : Heads) (p : Pt) : enterC E live I (pid p) (bodyOf Try.f154) (stOf (live (pid p)) (pvs p) (phs p)) (doneK E Try.f154 res) = step (fun q => I (pid q) (pvs q) (phs q)) p := by
  cases p <;> kernel_rfl
theorem start_eq (I : Heads) (ls : List L) : runC E live I (bodyOf Try.f154) (initS pats ls) (doneK E Try.f154 res) = start (fun q => I (pid q) (pvs q) (phs q)) (ls.headD .hole).toSl := by kernel_rfl
theorem run_eq (n : Nat) (ls : List L) : runF E live Try.f154 res n (initS pats ls) = start (iter step n) (ls.headD .hole).toSl := runF_iter (id := pid) (vs := pvs) (hs := phs) (step := step) (start := fun J => start J (ls.headD .hole).toSl) step_eq (fun I => start_eq I ls) n
noncomputable def md (a0 : List MSigned) : Int := (eachI (S := Unit) (β := Int) (fun (i1 : Nat) (y1 : MSigned) (s3 : Unit) => (bif ((i1 : Int) == 0) then (bif (!(impl_IsFirst.md y1)) then (.inr ((i1 : Int) : Int)) else (bif (decide ((i1 : Int) > 0)) then (bif (!(impl_MayFollow.md ((a0.getD (Int.toNat (IntKind.i64.wrap ((i1 : Int) - 1))) MSigned.zero).fHead) y1)) then (.inr ((i1 : Int) : Int)) else (.inl ())) else (.inl ()))) else (bif (decide ((i1 : Int) > 0)) then (bif (!(impl_MayFollow.md ((a0.getD (Int.toNat (IntKind.i64.wrap ((i1 : Int) - 1))) MSigned.zero).fHead) y1)) then (.inr ((i1 : Int) : Int)) else (.inl ())) else (.inl ())))) (fun (s3 : Unit) => ((-1) : Int)) 0 a0 ())
def gd (a0 : List MSigned) : Prop := (SmL (2 ^ 21) (fun y : MSigned => MSigned.Sm (2 ^ 21) y) a0)
def acc (ls : List L) : List (List L) := (ls.headD .hole).toSl
noncomputable def R : (List (List L)) → Option Int := RR gd md
theorem R_eq {a0} (h : gd a0) : R (a0.map MSigned.row) = some (md a0) := RR_eq (a := a0) h
noncomputable def con : Con := CN pats res acc R
theorem okF (a0 : List MSigned) (hg : gd a0) : ∃ n, start (iter step n) (a0.map MSigned.row) = ret ((md a0) : Int) := by
  unfold gd at hg
  have H0 := hg
  unfold start md
  try simp only [S0, MSigned.rs]
  have Bh2 : a0.length ≤ maxLen := (by
      have := (H0).1
      try simp only [maxLen] at *
      omega)
  refine ex_eq (out := ret) (loopM_eachI (z := MSigned.zero)) ?_
  refine ex_pt (p := Pt.p0 (a0.map MSigned.row) (a0.map MSigned.row) (a0.length : Int) 0) (by first | rfl | (simp only [S0, MSigned.rs, MP]; done) | (simp only [MP]; rfl)) ?_
  refine loopM_ok (pt := fun (i1 : Nat) (s3 : Unit) => Pt.p0 (a0.map MSigned.row) (a0.map MSigned.row) (a0.length : Int) (i1 : Int)) (s := (() : Unit)) (out := ret) (fun _ _ => True) (fun J i1 s3 h2 hih2 => ?_) (fun s3 hih2 => ?_) trivial
  · simp only [step, S0, MSigned.rs]
    have bb_ := Bh2
    simp only [maxLen] at bb_
    have := (H0).1
    refine Rnd.yes (by apply decide_eq_true; omega) ?_
    refine Rnd.yes zle_dec ?_
    refine Rnd.yes (lt_dec h2) ?_
    refine Rnd.bif (fun c4 => ?_) (fun c4 => ?_)
    · have dc4 := c4
      try simp only [DC] at dc4
      refine Rnd.call_to (impl_IsFirst.md (a0.getD i1 MSigned.zero)) (impl_IsFirst.R_eq (a0 := (a0.getD i1 MSigned.zero)) (SmL.getD (z := MSigned.zero) H0 h2)) ?_
      refine Rnd.bif (fun c5 => ?_) (fun c5 => ?_)
      · refine Rnd.inr ?_
        all_goals first | rfl | (simp only [S0, MSigned.rs, MP]; first | done | rfl)
      · have dc5 := c5
        try simp only [DC] at dc5
        refine Rnd.bif (fun c6 => ?_) (fun c6 => ?_)
        · have dc6 := c6
          try simp only [DC] at dc6
          refine Rnd.yes (by
              refine decide_eq_true ?_
              try simp (disch := omega) only [LN, wi]
              first | omega | (simp; done) | (simp; omega)) ?_
          refine Rnd.yes (by
              have := (H0).1
              refine decide_eq_true ?_
              try simp (disch := omega) only [LN, wi]
              first | omega | (simp; done) | (simp; omega)) ?_
          refine Rnd.call_to (impl_MayFollow.md ((a0.getD (Int.toNat (IntKind.i64.wrap ((i1 : Int) - 1))) MSigned.zero).fHead) (a0.getD i1 MSigned.zero)) (impl_MayFollow.R_eq (a0 := (a0.getD (Int.toNat (IntKind.i64.wrap ((i1 : Int) - 1))) MSigned.zero).fHead) (a1 := (a0.getD i1 MSigned.zero)) ⟨(SmL.getD (z := MSigned.zero) H0 (by first | assumption | omega | (simp (disch := omega) only [wi]; omega) | (simp; omega))).1, (SmL.getD (z := MSigned.zero) H0 h2)⟩) ?_
          refine Rnd.bif (fun c7 => ?_) (fun c7 => ?_)
          · refine Rnd.inr ?_
            all_goals first | rfl | (simp only [S0, MSigned.rs, MP]; first | done | rfl)
          · refine Rnd.inl trivial ?_
            rw [wrap_succ h2 Bh2]
            all_goals first | rfl | (simp only [S0, MSigned.rs, MP]; first | done | rfl)
        · refine Rnd.inl trivial ?_
          rw [wrap_succ h2 Bh2]
          all_goals first | rfl | (simp only [S0, MSigned.rs, MP]; first | done | rfl)
    · have dc4 := c4
      try simp only [DC] at dc4
      refine Rnd.bif (fun c8 => ?_) (fun c8 => ?_)
      · have dc8 := c8
        try simp only [DC] at dc8
        refine Rnd.yes (by
            refine decide_eq_true ?_
            try simp (disch := omega) only [LN, wi]
            first | omega | (simp; done) | (simp; omega)) ?_
        refine Rnd.yes (by
            have := (H0).1
            refine decide_eq_true ?_
            try simp (disch := omega) only [LN, wi]
            first | omega | (simp; done) | (simp; omega)) ?_
        refine Rnd.call_to (impl_MayFollow.md ((a0.getD (Int.toNat (IntKind.i64.wrap ((i1 : Int) - 1))) MSigned.zero).fHead) (a0.getD i1 MSigned.zero)) (impl_MayFollow.R_eq (a0 := (a0.getD (Int.toNat (IntKind.i64.wrap ((i1 : Int) - 1))) MSigned.zero).fHead) (a1 := (a0.getD i1 MSigned.zero)) ⟨(SmL.getD (z := MSigned.zero) H0 (by first | assumption | omega | (simp (disch := omega) only [wi]; omega) | (simp; omega))).1, (SmL.getD (z := MSigned.zero) H0 h2)⟩) ?_
        refine Rnd.bif (fun c9 => ?_) (fun c9 => ?_)
        · refine Rnd.inr ?_
          all_goals first | rfl | (simp only [S0, MSigned.rs, MP]; first | done | rfl)
        · refine Rnd.inl trivial ?_
          rw [wrap_succ h2 Bh2]
          all_goals first | rfl | (simp only [S0, MSigned.rs, MP]; first | done | rfl)
      · refine Rnd.inl trivial ?_
        rw [wrap_succ h2 Bh2]
        all_goals first | rfl | (simp only [S0, MSigned.rs, MP]; first | done | rfl)
  · simp only [step, S0, MSigned.rs]
    have := (H0).1
    refine ex_no (by apply decide_eq_false; omega) ?_
    refine ⟨0, ?_⟩
    all_goals first | rfl | (simp only [S0, MSigned.rs, MP]; first | done | rfl)
theorem valid_ : Valid Try.prog Ev 154 con := VV (run := fun n x => start (iter step n) x) mix tab_ok (.cons impl_IsFirst.valid_ (.cons impl_MayFollow.valid_ .nil)) Try.func154 (by kernel_rfl) run_eq (fun _ a _ _ hg => okF a hg)
theorem br (a0 : List MSigned) : md a0 = spec_FirstWrong.md a0 := by
  unfold md spec_FirstWrong.md
  rw [← loopM_eachI (z := MSigned.zero), ← loopM_eachI (z := MSigned.zero)]
  refine loopM_congr (fun _ _ => True) (fun i s hi _ => ⟨?_, fun _ _ => trivial⟩) (fun _ _ => rfl) trivial
  simp only [impl_IsFirst.br, impl_MayFollow.br]
  by_cases h0 : i = 0
  · subst h0; rfl
  · have e : ((i : Int) == 0) = false := beq_eq_false_iff_ne.2 (by omega)
    simp only [e, cond_false]
end impl_FirstWrong
/-! impl.IsChain -/
namespace impl_IsChain
noncomputable def F (x0 : List (List L)) : Ans := (call (impl_InRange.R ((x0.length : Int), 1, 12)) fun v1 => (bif v1 then (call (impl_FirstWrong.R x0) fun v2 => ret ((decide (v2 < 0)) : Bool)) else ret (false : Bool)))
def pats : List Pat := [.rd (.sl 119)]
def res : RP := .one (.rd (.bool))
noncomputable abbrev E : Env := ⟨assoc Tab, conG [(134, impl_InRange.con), (154, impl_FirstWrong.con)], 11⟩
set_option maxRecDepth 100000
theorem run_eq (n : Nat) (ls : List L) : runF E (fun _ => []) Try.f102 res n (initS pats ls) = F (ls.headD .hole).toSl := by kernel_rfl
noncomputable def md (a0 : List MSigned) : Bool := (bif (impl_InRange.md (a0.length : Int) 1 12) then ((decide ((impl_FirstWrong.md a0) < 0)) : Bool) else (false : Bool))
def gd (a0 : List MSigned) : Prop := (SmL (2 ^ 21) (fun y : MSigned => MSigned.Sm (2 ^ 21) y) a0)
def acc (ls : List L) : List (List L) := (ls.headD .hole).toSl
noncomputable def R : (List (List L)) → Option Bool := RR gd md
theorem R_eq {a0} (h : gd a0) : R (a0.map MSigned.row) = some (md a0) := RR_eq (a := a0) h
noncomputable def con : Con := CN pats res acc R
theorem okF (a0 : List MSigned) (hg : gd a0) : F (a0.map MSigned.row) = ret ((md a0) : Bool) := by
  unfold gd at hg
  have H0 := hg
  unfold F md
  try simp only [S0]
  refine call_to (impl_InRange.md (a0.length : Int) 1 12) (impl_InRange.R_eq (a0 := (a0.length : Int)) (a1 := 1) (a2 := 12) trivial) ?_
  refine bif_out ret (fun c1 => ?_) (fun _ => rfl)
  refine call_to (impl_FirstWrong.md a0) (impl_FirstWrong.R_eq (a0 := a0) H0) ?_
  all_goals first | rfl | (simp only [S0, MP]; first | done | rfl)
theorem valid_ : Valid Try.prog Ev 102 con := VV (run := fun _ x => F x) mix tab_ok (.cons impl_InRange.valid_ (.cons impl_FirstWrong.valid_ .nil)) Try.func102 (by kernel_rfl) run_eq (fun _ a _ _ hg => ⟨0, okF a hg⟩)
theorem tr {a0 : List MSigned} (h : md a0 = true) : 1 ≤ a0.length ∧ a0.length ≤ 12 := by simp [md, impl_InRange.md] at h; omega
theorem br (a0 : List MSigned) : md a0 = spec_IsChain.md a0 := by
  unfold md spec_IsChain.md
  first
  | (simp only [impl_InRange.br, impl_FirstWrong.br]; done)
  | (simp only [impl_InRange.br, impl_FirstWrong.br]; rfl)
  | rfl
end impl_IsChain
/-! impl.last -/
namespace impl_last
noncomputable def F (x0 : List (List L)) : Ans := (bif (decide ((0 : Int) ≤ (IntKind.i64.wrap ((x0.length : Int) - 1)))) then (bif (decide ((IntKind.i64.wrap ((x0.length : Int) - 1)) < (x0.length : Int))) then ret ((RSigned.at x0 (Int.toNat (IntKind.i64.wrap ((x0.length : Int) - 1)))).fHead : RHead) else none) else none)
def pats : List Pat := [.rd (.sl 119)]
def res : RP := .agg [.rd (.int .i64), .rd (.int .i64), .rd (.int .i64), .rd (.int .i64), .rd (.int .i64), .rd (.int .i64), .rd (.int .i64), .rd (.int .i64), .rd (.sl 3), .rd (.int .i64), .rd (.sl 3), .rd (.int .i64), .rd (.int .i64), .rd (.sl 3), .rd (.int .i64), .rd (.bool)]
noncomputable abbrev E : Env := ⟨assoc Tab, conG [], 10⟩
set_option maxRecDepth 100000
theorem run_eq (n : Nat) (ls : List L) : runF E (fun _ => []) Try.f104 res n (initS pats ls) = F (ls.headD .hole).toSl := by kernel_rfl
noncomputable def md (a0 : List MSigned) : MHead := (a0.getD (Int.toNat (IntKind.i64.wrap ((a0.length : Int) - 1))) MSigned.zero).fHead
def gd (a0 : List MSigned) : Prop := (SmL (2 ^ 21) (fun y : MSigned => MSigned.Sm (2 ^ 21) y) a0) ∧ (1 ≤ a0.length)
def acc (ls : List L) : List (List L) := (ls.headD .hole).toSl
noncomputable def R : (List (List L)) → Option RHead := RR gd md
theorem R_eq {a0} (h : gd a0) : R (a0.map MSigned.row) = some (MHead.r (md a0)) := RR_eq (a := a0) h
noncomputable def con : Con := CN pats res acc R
theorem okF (a0 : List MSigned) (hg : gd a0) : F (a0.map MSigned.row) = ret ((MHead.r (md a0)) : RHead) := by
  unfold gd at hg
  obtain ⟨H0, HX⟩ := hg
  unfold F md
  try simp only [S0, MSigned.rs]
  refine yes_ret (by
      have := (H0).1
      refine decide_eq_true ?_
      try simp (disch := omega) only [LN, wi]
      first | omega | (simp; done) | (simp; omega)) ?_
  refine yes_ret (by
      have := (H0).1
      refine decide_eq_true ?_
      try simp (disch := omega) only [LN, wi]
      first | omega | (simp; done) | (simp; omega)) ?_
  all_goals first | rfl | (simp only [S0, MSigned.rs]; done) | (simp only [MP]; rfl) | (simp only [S0, MSigned.rs, MP]; first | done | rfl)
theorem valid_ : Valid Try.prog Ev 104 con := VV (run := fun _ x => F x) mix tab_ok .nil Try.func104 (by kernel_rfl) run_eq (fun _ a _ _ hg => ⟨0, okF a hg⟩)
theorem sm0 {a0 : List MSigned} (hg : gd a0) : MHead.Sm (2 ^ 21) (md a0) := by
  unfold gd at hg; unfold md
  have h1 := hg.1.1
  have h2 := hg.2
  exact (SmL.getD hg.1 (by simp (disch := omega) only [Go.IntWalk.i64_in]; omega)).1
end impl_last
/-! slices.Index[[]int,int] -/
namespace slices_Index_Sint_int
inductive Pt where
  | p0 (a : List (List L)) (b : Int) (c : Int) (d : Int)
def pid : Pt → Nat
  | .p0 .. => 2
def pvs : Pt → List V
  | .p0 a b c d => [.sl none 3 a, .int .i64 b, .int .i64 c, .int .i64 d]
def phs : Pt → List Root
  | .p0 a b c d => []
noncomputable def step (J : Pt → Ans) : Pt → Ans
  | .p0 a b c d => (bif (decide (d < c)) then (bif (decide ((0 : Int) ≤ d)) then (bif (decide (d < (a.length : Int))) then (bif (b == (iAt a (Int.toNat d))) then ret (d : Int) else J (.p0 a b c (IntKind.i64.wrap (d + 1)))) else none) else none) else ret ((-1) : Int))
noncomputable def start (J : Pt → Ans) (x0 : List (List L)) (x1 : Int) : Ans := J (.p0 x0 x1 (x0.length : Int) 0)
def live : Nat → Live := fun i => match i with | 2 => [(0, none), (1, none), (7, none), (8, none)] | _ => []
def pats : List Pat := [.rd (.sl 3), .rd (.int .i64)]
def res : RP := .one (.rd (.int .i64))
noncomputable abbrev E : Env := ⟨assoc Tab, conG [], 19⟩
set_option maxRecDepth 100000
theorem step_eq (I : Heads) (p : Pt) : enterC E live I (pid p) (bodyOf Try.f184) (stOf (live (pid p)) (pvs p) (phs p)) (doneK E Try.f184 res) = step (fun q => I (pid q) (pvs q) (phs q)) p := by
  cases p <;> kernel_rfl
theorem start_eq (I : Heads) (ls : List L) : runC E live I (bodyOf Try.f184) (initS pats ls) (doneK E Try.f184 res) = start (fun q => I (pid q) (pvs q) (phs q)) (ls.headD .hole).toSl ((dropT 1 ls).headD .hole).toInt := by kernel_rfl
theorem run_eq (n : Nat) (ls : List L) : runF E live Try.f184 res n (initS pats ls) = start (iter step n) (ls.headD .hole).toSl ((dropT 1 ls).headD .hole).toInt := runF_iter (id := pid) (vs := pvs) (hs := phs) (step := step) (start := fun J => start J (ls.headD .hole).toSl ((dropT 1 ls).headD .hole).toInt) step_eq (fun I => start_eq I ls) n
noncomputable def md (a0 : List Int) (a1 : Int) : Int := (eachI (S := Unit) (β := Int) (fun (i1 : Nat) (y1 : Int) (s3 : Unit) => (bif (a1 == y1) then (.inr ((i1 : Int) : Int)) else (.inl ()))) (fun (s3 : Unit) => ((-1) : Int)) 0 a0 ())
def gd (a0 : List Int) (a1 : Int) : Prop := (SmL (2 ^ 38) (fun y : Int => True) a0)
def acc (ls : List L) : List (List L) × Int := ((ls.headD .hole).toSl, ((dropT 1 ls).headD .hole).toInt)
noncomputable def R : (List (List L) × Int) → Option Int := RR (p2 gd) (u2 md)
theorem R_eq {a0} {a1} (h : gd a0 a1) : R ((a0.map iRow), a1) = some (md a0 a1) := RR_eq (a := (a0, a1)) h
noncomputable def con : Con := CN pats res acc R
theorem okF (a0 : List Int) (a1 : Int) (hg : gd a0 a1) : ∃ n, start (iter step n) (a0.map iRow) a1 = ret ((md a0 a1) : Int) := by
  unfold gd at hg
  have H0 := hg
  unfold start md
  try simp only [S0]
  have Bh2 : a0.length ≤ maxLen := (by
      have := (H0).1
      try simp only [maxLen] at *
      omega)
  refine ex_eq (out := ret) (loopM_eachI (z := 0)) ?_
  refine ex_pt (p := Pt.p0 (a0.map iRow) a1 (a0.length : Int) 0) (by first | rfl | (simp only [S0, MP]; done) | (simp only [MP]; rfl)) ?_
  refine loopM_ok (pt := fun (i1 : Nat) (s3 : Unit) => Pt.p0 (a0.map iRow) a1 (a0.length : Int) (i1 : Int)) (s := (() : Unit)) (out := ret) (fun _ _ => True) (fun J i1 s3 h2 hih2 => ?_) (fun s3 hih2 => ?_) trivial
  · simp only [step, S0]
    have bb_ := Bh2
    simp only [maxLen] at bb_
    have := (H0).1
    refine Rnd.yes (by apply decide_eq_true; omega) ?_
    refine Rnd.yes zle_dec ?_
    refine Rnd.yes (lt_dec h2) ?_
    refine Rnd.bif (fun c4 => ?_) (fun c4 => ?_)
    · refine Rnd.inr ?_
      all_goals first | rfl | (simp only [S0, MP]; first | done | rfl)
    · refine Rnd.inl trivial ?_
      rw [wrap_succ h2 Bh2]
      all_goals first | rfl | (simp only [S0, MP]; first | done | rfl)
  · simp only [step, S0]
    have := (H0).1
    refine ex_no (by apply decide_eq_false; omega) ?_
    refine ⟨0, ?_⟩
    all_goals first | rfl | (simp only [S0, MP]; first | done | rfl)
theorem valid_ : Valid Try.prog Ev 184 con := VV (run := fun n x => start (iter step n) x.1 x.2) mix tab_ok .nil Try.func184 (by kernel_rfl) run_eq (fun _ a _ _ hg => okF a.1 a.2 hg)
end slices_Index_Sint_int
/-! slices.Contains[[]int,int] -/
namespace slices_Contains_Sint_int
noncomputable def F (x0 : List (List L)) (x1 : Int) : Ans := (call (slices_Index_Sint_int.R (x0, x1)) fun v1 => ret ((decide (v1 ≥ 0)) : Bool))
def pats : List Pat := [.rd (.sl 3), .rd (.int .i64)]
def res : RP := .one (.rd (.bool))
noncomputable abbrev E : Env := ⟨assoc Tab, conG [(184, slices_Index_Sint_int.con)], 9⟩
set_option maxRecDepth 100000
theorem run_eq (n : Nat) (ls : List L) : runF E (fun _ => []) Try.f155 res n (initS pats ls) = F (ls.headD .hole).toSl ((dropT 1 ls).headD .hole).toInt := by kernel_rfl
noncomputable def md (a0 : List Int) (a1 : Int) : Bool := ((decide ((slices_Index_Sint_int.md a0 a1) ≥ 0)) : Bool)
def gd (a0 : List Int) (a1 : Int) : Prop := (SmL (2 ^ 38) (fun y : Int => True) a0)
def acc (ls : List L) : List (List L) × Int := ((ls.headD .hole).toSl, ((dropT 1 ls).headD .hole).toInt)
noncomputable def R : (List (List L) × Int) → Option Bool := RR (p2 gd) (u2 md)
theorem R_eq {a0} {a1} (h : gd a0 a1) : R ((a0.map iRow), a1) = some (md a0 a1) := RR_eq (a := (a0, a1)) h
noncomputable def con : Con := CN pats res acc R
theorem okF (a0 : List Int) (a1 : Int) (hg : gd a0 a1) : F (a0.map iRow) a1 = ret ((md a0 a1) : Bool) := by
  unfold gd at hg
  have H0 := hg
  unfold F md
  try simp only [S0]
  refine call_to (slices_Index_Sint_int.md a0 a1) (slices_Index_Sint_int.R_eq (a0 := a0) (a1 := a1) H0) ?_
  all_goals first | rfl | (simp only [S0, MP]; first | done | rfl)
theorem valid_ : Valid Try.prog Ev 155 con := VV (run := fun _ x => F x.1 x.2) mix tab_ok (.cons slices_Index_Sint_int.valid_ .nil) Try.func155 (by kernel_rfl) run_eq (fun _ a _ _ hg => ⟨0, okF a.1 a.2 hg⟩)
theorem any_eq (a0 : List Int) (a1 : Int) : md a0 a1 = a0.any (fun y => y == a1) := by
  unfold md slices_Index_Sint_int.md
  rw [eachI_find' (p := fun y => y == a1) (fun i x s => by rw [show (a1 == x) = (x == a1) from by rw [Bool.eq_iff_iff, beq_iff_eq, beq_iff_eq]; exact eq_comm])]
  exact findI_ge
end slices_Contains_Sint_int
/-! impl.HasKey -/
namespace impl_HasKey
noncomputable def F (x0 : RKeys) (x1 : Int) : Ans := (call (slices_Contains_Sint_int.R (x0.fList, x1)) fun v1 => ret (v1 : Bool))
def pats : List Pat := [.agg [.sl 3, .int .i64], .rd (.int .i64)]
def res : RP := .one (.rd (.bool))
noncomputable abbrev E : Env := ⟨assoc Tab, conG [(155, slices_Contains_Sint_int.con)], 9⟩
set_option maxRecDepth 100000
theorem run_eq (n : Nat) (ls : List L) : runF E (fun _ => []) Try.f103 res n (initS pats ls) = F (RKeys.dec ls) ((dropT 2 ls).headD .hole).toInt := by kernel_rfl
noncomputable def md (a0 : MKeys) (a1 : Int) : Bool := ((slices_Contains_Sint_int.md a0.fList a1) : Bool)
def gd (a0 : MKeys) (a1 : Int) : Prop := (MKeys.Sm (2 ^ 21) a0)
def acc (ls : List L) : RKeys × Int := ((RKeys.dec ls), ((dropT 2 ls).headD .hole).toInt)
noncomputable def R : (RKeys × Int) → Option Bool := RR (p2 gd) (u2 md)
theorem R_eq {a0} {a1} (h : gd a0 a1) : R ((MKeys.r a0), a1) = some (md a0 a1) := RR_eq (a := (a0, a1)) h
noncomputable def con : Con := CN pats res acc R
theorem okF (a0 : MKeys) (a1 : Int) (hg : gd a0 a1) : F (MKeys.r a0) a1 = ret ((md a0 a1) : Bool) := by
  unfold gd at hg
  have H0 := hg
  unfold F md
  try simp only [S0, MKeys.rs]
  refine call_to (slices_Contains_Sint_int.md a0.fList a1) (slices_Contains_Sint_int.R_eq (a0 := a0.fList) (a1 := a1) (H0.mono (by decide) (fun x hx => trivial))) ?_
  all_goals first | rfl | (simp only [S0, MKeys.rs, MP]; first | done | rfl)
theorem valid_ : Valid Try.prog Ev 103 con := VV (run := fun _ x => F x.1 x.2) mix tab_ok (.cons slices_Contains_Sint_int.valid_ .nil) Try.func103 (by kernel_rfl) run_eq (fun _ a _ _ hg => ⟨0, okF a.1 a.2 hg⟩)
theorem br (a0 : MKeys) (a1 : Int) : md a0 a1 = spec_HasKey.md a0 a1 := by
  unfold md spec_HasKey.md spec_l6Has.md
  rw [slices_Contains_Sint_int.any_eq]
  refine Eq.trans ?_ (eachM_any (p := fun y => y == a1) (b := true) (c := false)).symm
  cases a0.fList.any (fun y => y == a1) <;> rfl
end impl_HasKey
/-! impl.IsTakenBack$1 -/
namespace impl_IsTakenBack_1
noncomputable def F (x0 : RSigned) (x1 : List L) : Ans := (call (impl_HasKey.R (x0.fHead.fKeys, (iDec x1))) fun v1 => ret (v1 : Bool))
def pats : List Pat := [.agg [.int .i64, .int .i64, .int .i64, .int .i64, .int .i64, .int .i64, .int .i64, .int .i64, .sl 3, .int .i64, .sl 3, .int .i64, .int .i64, .sl 3, .int .i64, .bool, .sl 216], .ptr [.int .i64]]
def res : RP := .one (.rd (.bool))
noncomputable abbrev E : Env := ⟨assoc Tab, conG [(103, impl_HasKey.con)], 9⟩
set_option maxRecDepth 100000
theorem run_eq (n : Nat) (ls : List L) : runF E (fun _ => []) Try.f106 res n (initS pats ls) = F (RSigned.dec ls) (padL 1 (dropT 17 ls)) := by kernel_rfl
noncomputable def md (a0 : MSigned) (a1 : Int) : Bool := ((impl_HasKey.md a0.fHead.fKeys a1) : Bool)
def gd (a0 : MSigned) (a1 : Int) : Prop := (MSigned.Sm (2 ^ 21) a0)
def acc (ls : List L) : RSigned × Int := ((RSigned.dec ls), (iDec (padL 1 (dropT 17 ls))))
noncomputable def R : (RSigned × Int) → Option Bool := RR (p2 gd) (u2 md)
theorem R_eq {a0} {a1} (h : gd a0 a1) : R ((MSigned.r a0), a1) = some (md a0 a1) := RR_eq (a := (a0, a1)) h
noncomputable def con : Con := CN pats res acc R
theorem okF (a0 : MSigned) (a1 : Int) (p1 : List L) (e1 : a1 = (iDec p1)) (hg : gd a0 a1) : F (MSigned.r a0) p1 = ret ((md a0 a1) : Bool) := by
  unfold gd at hg
  have H0 := hg
  unfold F md
  try simp only [S0, MHead.rs, MSigned.rs, ← e1]
  refine call_to (impl_HasKey.md a0.fHead.fKeys a1) (impl_HasKey.R_eq (a0 := a0.fHead.fKeys) (a1 := a1) H0.1.1) ?_
  all_goals first | rfl | (simp only [S0, MHead.rs, MSigned.rs, ← e1, MP]; first | done | rfl)
theorem okV (ls : List L) (a : MSigned × Int) (e : acc ls = Im.im a) (hg : (p2 gd) a) : ∃ n : Nat, F (RSigned.dec ls) (padL 1 (dropT 17 ls)) = ret (Im.im ((u2 md) a)) := by
  have e0 : (MSigned.r a.1) = (RSigned.dec ls) := (congrArg (fun x => x.1) e.symm)
  have hn := okF a.1 a.2 (padL 1 (dropT 17 ls)) (congrArg (fun x => x.2) e.symm) hg
  refine ⟨0, ?_⟩
  rw [← e0]
  exact hn
theorem valid_ : Valid Try.prog Ev 106 con := VP (accr := fun ls => ((RSigned.dec ls), (padL 1 (dropT 17 ls)))) (run := fun _ x => F x.1 x.2) mix tab_ok (.cons impl_HasKey.valid_ .nil) Try.func106 (by kernel_rfl) run_eq (fun ls a _ e hg => okV ls a e hg)
end impl_IsTakenBack_1
/-! slices.IndexFunc[[]impl.Signed,impl.Signed] -/
namespace slices_IndexFunc_Simpl_Signed_impl_Signed__impl_IsTakenBack_1
inductive Pt where
  | p0 (a : List (List L)) (b : List L) (c : Int) (d : Int)
def pid : Pt → Nat
  | .p0 .. => 2
def pvs : Pt → List V
  | .p0 a b c d => [.sl none 119 a, .fn 106 [.cptr none [.int .i64] b 0], .int .i64 c, .int .i64 d]
def phs : Pt → List Root
  | .p0 a b c d => []
noncomputable def step (J : Pt → Ans) : Pt → Ans
  | .p0 a b c d => (bif (decide (d < c)) then (bif (decide ((0 : Int) ≤ d)) then (bif (decide (d < (a.length : Int))) then (call (impl_IsTakenBack_1.R ((RSigned.at a (Int.toNat d)), (iDec b))) fun v1 => (bif v1 then ret (d : Int) else J (.p0 a b c (IntKind.i64.wrap (d + 1))))) else none) else none) else ret ((-1) : Int))
noncomputable def start (J : Pt → Ans) (x0 : List (List L)) (x1 : List L) : Ans := J (.p0 x0 x1 (x0.length : Int) 0)
def live : Nat → Live := fun i => match i with | 2 => [(0, none), (1, none), (7, none), (8, none)] | _ => []
def pats : List Pat := [.rd (.sl 119), .fn 106 [[.int .i64]]]
def res : RP := .one (.rd (.int .i64))
noncomputable abbrev E : Env := ⟨assoc Tab, conG [(106, impl_IsTakenBack_1.con)], 19⟩
set_option maxRecDepth 100000
theorem step_eq (I : Heads) (p : Pt) : enterC E live I (pid p) (bodyOf Try.f156) (stOf (live (pid p)) (pvs p) (phs p)) (doneK E Try.f156 res) = step (fun q => I (pid q) (pvs q) (phs q)) p := by
  cases p <;> kernel_rfl
theorem start_eq (I : Heads) (ls : List L) : runC E live I (bodyOf Try.f156) (initS pats ls) (doneK E Try.f156 res) = start (fun q => I (pid q) (pvs q) (phs q)) (ls.headD .hole).toSl (padL 1 (dropT 1 ls)) := by kernel_rfl
theorem run_eq (n : Nat) (ls : List L) : runF E live Try.f156 res n (initS pats ls) = start (iter step n) (ls.headD .hole).toSl (padL 1 (dropT 1 ls)) := runF_iter (id := pid) (vs := pvs) (hs := phs) (step := step) (start := fun J => start J (ls.headD .hole).toSl (padL 1 (dropT 1 ls))) step_eq (fun I => start_eq I ls) n
noncomputable def md (a0 : List MSigned) (a1 : Int) : Int := (eachI (S := Unit) (β := Int) (fun (i1 : Nat) (y1 : MSigned) (s3 : Unit) => (bif (impl_IsTakenBack_1.md y1 a1) then (.inr ((i1 : Int) : Int)) else (.inl ()))) (fun (s3 : Unit) => ((-1) : Int)) 0 a0 ())
def gd (a0 : List MSigned) (a1 : Int) : Prop := (SmL (2 ^ 21) (fun y : MSigned => MSigned.Sm (2 ^ 21) y) a0)
def acc (ls : List L) : List (List L) × Int := ((ls.headD .hole).toSl, (iDec (padL 1 (dropT 1 ls))))
noncomputable def R : (List (List L) × Int) → Option Int := RR (p2 gd) (u2 md)
theorem R_eq {a0} {a1} (h : gd a0 a1) : R ((a0.map MSigned.row), a1) = some (md a0 a1) := RR_eq (a := (a0, a1)) h
noncomputable def con : Con := CN pats res acc R
theorem okF (a0 : List MSigned) (a1 : Int) (p1 : List L) (e1 : a1 = (iDec p1)) (hg : gd a0 a1) : ∃ n, start (iter step n) (a0.map MSigned.row) p1 = ret ((md a0 a1) : Int) := by
  unfold gd at hg
  have H0 := hg
  unfold start md
  try simp only [S0, MSigned.rs, ← e1]
  have Bh2 : a0.length ≤ maxLen := (by
      have := (H0).1
      try simp only [maxLen] at *
      omega)
  refine ex_eq (out := ret) (loopM_eachI (z := MSigned.zero)) ?_
  refine ex_pt (p := Pt.p0 (a0.map MSigned.row) p1 (a0.length : Int) 0) (by first | rfl | (simp only [S0, MSigned.rs, ← e1, MP]; done) | (simp only [MP]; rfl)) ?_
  refine loopM_ok (pt := fun (i1 : Nat) (s3 : Unit) => Pt.p0 (a0.map MSigned.row) p1 (a0.length : Int) (i1 : Int)) (s := (() : Unit)) (out := ret) (fun _ _ => True) (fun J i1 s3 h2 hih2 => ?_) (fun s3 hih2 => ?_) trivial
  · simp only [step, S0, MSigned.rs, ← e1]
    have bb_ := Bh2
    simp only [maxLen] at bb_
    have := (H0).1
    refine Rnd.yes (by apply decide_eq_true; omega) ?_
    refine Rnd.yes zle_dec ?_
    refine Rnd.yes (lt_dec h2) ?_
    refine Rnd.call_to (impl_IsTakenBack_1.md (a0.getD i1 MSigned.zero) a1) (impl_IsTakenBack_1.R_eq (a0 := (a0.getD i1 MSigned.zero)) (a1 := a1) (SmL.getD (z := MSigned.zero) H0 h2)) ?_
    refine Rnd.bif (fun c4 => ?_) (fun c4 => ?_)
    · refine Rnd.inr ?_
      all_goals first | rfl | (simp only [S0, MSigned.rs, ← e1, MP]; first | done | rfl)
    · refine Rnd.inl trivial ?_
      rw [wrap_succ h2 Bh2]
      all_goals first | rfl | (simp only [S0, MSigned.rs, ← e1, MP]; first | done | rfl)
  · simp only [step, S0, MSigned.rs, ← e1]
    have := (H0).1
    refine ex_no (by apply decide_eq_false; omega) ?_
    refine ⟨0, ?_⟩
    all_goals first | rfl | (simp only [S0, MSigned.rs, ← e1, MP]; first | done | rfl)
theorem okV (ls : List L) (a : List MSigned × Int) (e : acc ls = Im.im a) (hg : (p2 gd) a) : ∃ n : Nat, start (iter step n) ((ls.headD .hole).toSl) (padL 1 (dropT 1 ls)) = ret (Im.im ((u2 md) a)) := by
  have e0 : (a.1.map MSigned.row) = (ls.headD .hole).toSl := (congrArg (fun x => x.1) e.symm)
  obtain ⟨n, hn⟩ := okF a.1 a.2 (padL 1 (dropT 1 ls)) (congrArg (fun x => x.2) e.symm) hg
  refine ⟨n, ?_⟩
  rw [← e0]
  exact hn
theorem valid_ : Valid Try.prog Ev 156 con := VP (accr := fun ls => ((ls.headD .hole).toSl, (padL 1 (dropT 1 ls)))) (run := fun n x => start (iter step n) x.1 x.2) mix tab_ok (.cons impl_IsTakenBack_1.valid_ .nil) Try.func156 (by kernel_rfl) run_eq (fun ls a _ e hg => okV ls a e hg)
theorem fa (a0 : List MSigned) (a1 : Int) : -1 ≤ md a0 a1 ∧ md a0 a1 < (a0.length : Int) := by
  unfold md
  refine eachI_fa0 ?_ _ _
  all_goals
    intro i x s b h
    revert h
    simp only [Bool.cond_eq_ite]
    repeat' split
    all_goals (intro h; first | (cases h; rfl) | cases h)
theorem idx_eq (a0 : List MSigned) (a1 : Int) : md a0 a1 = findI (fun y => impl_IsTakenBack_1.md y a1) 0 a0 := by
  unfold md
  exact eachI_find
end slices_IndexFunc_Simpl_Signed_impl_Signed__impl_IsTakenBack_1
/-! slices.ContainsFunc[[]impl.Signed,impl.Signed] -/
namespace slices_ContainsFunc_Simpl_Signed_impl_Signed__impl_IsTakenBack_1
noncomputable def F (x0 : List (List L)) (x1 : List L) : Ans := (call (slices_IndexFunc_Simpl_Signed_impl_Signed__impl_IsTakenBack_1.R (x0, (iDec x1))) fun v1 => ret ((decide (v1 ≥ 0)) : Bool))
def pats : List Pat := [.rd (.sl 119), .fn 106 [[.int .i64]]]
def res : RP := .one (.rd (.bool))
noncomputable abbrev E : Env := ⟨assoc Tab, conG [(156, slices_IndexFunc_Simpl_Signed_impl_Signed__impl_IsTakenBack_1.con)], 9⟩
set_option maxRecDepth 100000
theorem run_eq (n : Nat) (ls : List L) : runF E (fun _ => []) Try.f105 res n (initS pats ls) = F (ls.headD .hole).toSl (padL 1 (dropT 1 ls)) := by kernel_rfl
noncomputable def md (a0 : List MSigned) (a1 : Int) : Bool := ((decide ((slices_IndexFunc_Simpl_Signed_impl_Signed__impl_IsTakenBack_1.md a0 a1) ≥ 0)) : Bool)
def gd (a0 : List MSigned) (a1 : Int) : Prop := (SmL (2 ^ 21) (fun y : MSigned => MSigned.Sm (2 ^ 21) y) a0)
def acc (ls : List L) : List (List L) × Int := ((ls.headD .hole).toSl, (iDec (padL 1 (dropT 1 ls))))
noncomputable def R : (List (List L) × Int) → Option Bool := RR (p2 gd) (u2 md)
theorem R_eq {a0} {a1} (h : gd a0 a1) : R ((a0.map MSigned.row), a1) = some (md a0 a1) := RR_eq (a := (a0, a1)) h
noncomputable def con : Con := CN pats res acc R
theorem okF (a0 : List MSigned) (a1 : Int) (p1 : List L) (e1 : a1 = (iDec p1)) (hg : gd a0 a1) : F (a0.map MSigned.row) p1 = ret ((md a0 a1) : Bool) := by
  unfold gd at hg
  have H0 := hg
  unfold F md
  try simp only [S0, ← e1]
  refine call_to (slices_IndexFunc_Simpl_Signed_impl_Signed__impl_IsTakenBack_1.md a0 a1) (slices_IndexFunc_Simpl_Signed_impl_Signed__impl_IsTakenBack_1.R_eq (a0 := a0) (a1 := a1) H0) ?_
  have fv1_ := slices_IndexFunc_Simpl_Signed_impl_Signed__impl_IsTakenBack_1.fa a0 a1
  all_goals first | rfl | (simp only [S0, ← e1, MP]; first | done | rfl)
theorem okV (ls : List L) (a : List MSigned × Int) (e : acc ls = Im.im a) (hg : (p2 gd) a) : ∃ n : Nat, F ((ls.headD .hole).toSl) (padL 1 (dropT 1 ls)) = ret (Im.im ((u2 md) a)) := by
  have e0 : (a.1.map MSigned.row) = (ls.headD .hole).toSl := (congrArg (fun x => x.1) e.symm)
  have hn := okF a.1 a.2 (padL 1 (dropT 1 ls)) (congrArg (fun x => x.2) e.symm) hg
  refine ⟨0, ?_⟩
  rw [← e0]
  exact hn
theorem valid_ : Valid Try.prog Ev 105 con := VP (accr := fun ls => ((ls.headD .hole).toSl, (padL 1 (dropT 1 ls)))) (run := fun _ x => F x.1 x.2) mix tab_ok (.cons slices_IndexFunc_Simpl_Signed_impl_Signed__impl_IsTakenBack_1.valid_ .nil) Try.func105 (by kernel_rfl) run_eq (fun ls a _ e hg => okV ls a e hg)
theorem any_eq (a0 : List MSigned) (a1 : Int) : md a0 a1 = a0.any (fun y => impl_IsTakenBack_1.md y a1) := by
  unfold md
  rw [slices_IndexFunc_Simpl_Signed_impl_Signed__impl_IsTakenBack_1.idx_eq]
  exact findI_ge
end slices_ContainsFunc_Simpl_Signed_impl_Signed__impl_IsTakenBack_1
/-! impl.IsTakenBack -/
namespace impl_IsTakenBack
noncomputable def F (x0 : List (List L)) (x1 : Int) : Ans := (call (impl_IsChain.R x0) fun v1 => (bif v1 then (call (impl_last.R x0) fun v2 => (call (impl_HasKey.R (v2.fKeys, x1)) fun v3 => (bif (!v3) then (call (slices_ContainsFunc_Simpl_Signed_impl_Signed__impl_IsTakenBack_1.R (x0, x1)) fun v4 => ret (v4 : Bool)) else ret (false : Bool)))) else ret (false : Bool)))
def pats : List Pat := [.rd (.sl 119), .rd (.int .i64)]
def res : RP := .one (.rd (.bool))
noncomputable abbrev E : Env := ⟨assoc Tab, conG [(102, impl_IsChain.con), (104, impl_last.con), (103, impl_HasKey.con), (105, slices_ContainsFunc_Simpl_Signed_impl_Signed__impl_IsTakenBack_1.con)], 20⟩
set_option maxRecDepth 100000
theorem run_eq (n : Nat) (ls : List L) : runF E (fun _ => []) Try.f51 res n (initS pats ls) = F (ls.headD .hole).toSl ((dropT 1 ls).headD .hole).toInt := by kernel_rfl
noncomputable def md (a0 : List MSigned) (a1 : Int) : Bool := (bif (impl_IsChain.md a0) then (bif (!(impl_HasKey.md ((impl_last.md a0).fKeys) a1)) then ((slices_ContainsFunc_Simpl_Signed_impl_Signed__impl_IsTakenBack_1.md a0 a1) : Bool) else (false : Bool)) else (false : Bool))
def gd (a0 : List MSigned) (a1 : Int) : Prop := (SmL (2 ^ 21) (fun y : MSigned => MSigned.Sm (2 ^ 21) y) a0)
def acc (ls : List L) : List (List L) × Int := ((ls.headD .hole).toSl, ((dropT 1 ls).headD .hole).toInt)
noncomputable def R : (List (List L) × Int) → Option Bool := RR (p2 gd) (u2 md)
theorem R_eq {a0} {a1} (h : gd a0 a1) : R ((a0.map MSigned.row), a1) = some (md a0 a1) := RR_eq (a := (a0, a1)) h
noncomputable def con : Con := CN pats res acc R
theorem okF (a0 : List MSigned) (a1 : Int) (hg : gd a0 a1) : F (a0.map MSigned.row) a1 = ret ((md a0 a1) : Bool) := by
  unfold gd at hg
  have H0 := hg
  unfold F md
  try simp only [S0, MHead.rs]
  refine call_to (impl_IsChain.md a0) (impl_IsChain.R_eq (a0 := a0) H0) ?_
  refine bif_out ret (fun c1 => ?_) (fun _ => rfl)
  try have tc1 := impl_IsChain.tr (by simpa using c1)
  refine call_to (MHead.r (impl_last.md a0)) (impl_last.R_eq (a0 := a0) ⟨H0, (by
      have := (H0).1
      first | assumption | omega | (simp; done) | (simp; omega))⟩) ?_
  try simp only [S0, MHead.rs]
  refine call_to (impl_HasKey.md ((impl_last.md a0).fKeys) a1) (impl_HasKey.R_eq (a0 := (impl_last.md a0).fKeys) (a1 := a1) (impl_last.sm0 (a0 := a0) ⟨H0, (by
      have := (H0).1
      first | assumption | omega | (simp; done) | (simp; omega))⟩).1) ?_
  refine bif_out ret (fun c2 => ?_) (fun _ => rfl)
  refine call_to (slices_ContainsFunc_Simpl_Signed_impl_Signed__impl_IsTakenBack_1.md a0 a1) (slices_ContainsFunc_Simpl_Signed_impl_Signed__impl_IsTakenBack_1.R_eq (a0 := a0) (a1 := a1) H0) ?_
  all_goals first | rfl | (simp only [S0, MHead.rs, MP]; first | done | rfl)
theorem valid_ : Valid Try.prog Ev 51 con := VV (run := fun _ x => F x.1 x.2) mix tab_ok (.cons impl_IsChain.valid_ (.cons impl_last.valid_ (.cons impl_HasKey.valid_ (.cons slices_ContainsFunc_Simpl_Signed_impl_Signed__impl_IsTakenBack_1.valid_ .nil)))) Try.func51 (by kernel_rfl) run_eq (fun _ a _ _ hg => ⟨0, okF a.1 a.2 hg⟩)
theorem br (a0 : List MSigned) (a1 : Int) : md a0 a1 = spec_IsTakenBack.md a0 a1 := by
  unfold md spec_IsTakenBack.md spec_LastHead.md impl_last.md
  simp only [impl_IsChain.br, impl_HasKey.br]
  rw [slices_ContainsFunc_Simpl_Signed_impl_Signed__impl_IsTakenBack_1.any_eq]
  cases spec_IsChain.md a0
  · rfl
  · simp only [cond_true, Bool.not_true, cond_false]
    refine Eq.trans ?_ (congrArg (fun x => bif spec_HasKey.md _ a1 then false else x) (eachM_any (p := fun (y : MSigned) => spec_HasKey.md y.fHead.fKeys a1) (b := true) (c := false)).symm)
    simp only [impl_IsTakenBack_1.md, impl_HasKey.br]
    cases spec_HasKey.md (a0.getD (Int.toNat (IntKind.i64.wrap ((a0.length : Int) - 1))) MSigned.zero).fHead.fKeys a1 <;> cases a0.any (fun y => spec_HasKey.md y.fHead.fKeys a1) <;> rfl
end impl_IsTakenBack
/-! laws.eqIntS -/
namespace laws_eqIntS
inductive Pt where
  | p0 (a : List (List L)) (b : List (List L)) (c : Int)
def pid : Pt → Nat
  | .p0 .. => 4
def pvs : Pt → List V
  | .p0 a b c => [.sl none 3 a, .sl none 3 b, .int .i64 c]
def phs : Pt → List Root
  | .p0 a b c => []
noncomputable def step (J : Pt → Ans) : Pt → Ans
  | .p0 a b c => (bif (decide (c < (a.length : Int))) then (bif (decide ((0 : Int) ≤ c)) then (bif (decide (c < (a.length : Int))) then (bif (decide ((0 : Int) ≤ c)) then (bif (decide (c < (b.length : Int))) then (bif ((iAt a (Int.toNat c)) != (iAt b (Int.toNat c))) then ret (false : Bool) else J (.p0 a b (IntKind.i64.wrap (c + 1)))) else none) else none) else none) else none) else ret (true : Bool))
noncomputable def start (J : Pt → Ans) (x0 : List (List L)) (x1 : List (List L)) : Ans := (bif ((x0.length : Int) != (x1.length : Int)) then ret (false : Bool) else J (.p0 x0 x1 0))
def live : Nat → Live := fun i => match i with | 4 => [(0, none), (1, none), (5, none)] | _ => []
def pats : List Pat := [.rd (.sl 3), .rd (.sl 3)]
def res : RP := .one (.rd (.bool))
noncomputable abbrev E : Env := ⟨assoc Tab, conG [], 26⟩
set_option maxRecDepth 100000
theorem step_eq (I : Heads) (p : Pt) : enterC E live I (pid p) (bodyOf Try.f94) (stOf (live (pid p)) (pvs p) (phs p)) (doneK E Try.f94 res) = step (fun q => I (pid q) (pvs q) (phs q)) p := by
  cases p <;> kernel_rfl
theorem start_eq (I : Heads) (ls : List L) : runC E live I (bodyOf Try.f94) (initS pats ls) (doneK E Try.f94 res) = start (fun q => I (pid q) (pvs q) (phs q)) (ls.headD .hole).toSl ((dropT 1 ls).headD .hole).toSl := by kernel_rfl
theorem run_eq (n : Nat) (ls : List L) : runF E live Try.f94 res n (initS pats ls) = start (iter step n) (ls.headD .hole).toSl ((dropT 1 ls).headD .hole).toSl := runF_iter (id := pid) (vs := pvs) (hs := phs) (step := step) (start := fun J => start J (ls.headD .hole).toSl ((dropT 1 ls).headD .hole).toSl) step_eq (fun I => start_eq I ls) n
noncomputable def md (a0 : List Int) (a1 : List Int) : Bool := eqB a0 a1
def gd (a0 : List Int) (a1 : List Int) : Prop := True
def acc (ls : List L) : List (List L) × List (List L) := ((ls.headD .hole).toSl, ((dropT 1 ls).headD .hole).toSl)
noncomputable def R : (List (List L) × List (List L)) → Option Bool := RR (p2 gd) (u2 md)
theorem R_eq {a0} {a1} (h : gd a0 a1) : R ((a0.map iRow), (a1.map iRow)) = some (md a0 a1) := RR_eq (a := (a0, a1)) h
noncomputable def con : Con := CN pats res acc R
theorem okF (a0 : List Int) (a1 : List Int) (hg : gd a0 a1) (h0 : a0.length ≤ maxLen) (h1 : a1.length ≤ maxLen) : ∃ n, start (iter step n) (a0.map iRow) (a1.map iRow) = ret ((md a0 a1) : Bool) := by
  unfold start md
  simp only [List.length_map]
  refine eq_list (pt := fun i => Pt.p0 (a0.map iRow) (a1.map iRow) (i : Int)) (fun hl J i h h2 => ?_) (fun J => ?_)
  · simp only [step, List.length_map, lt_dec h, lt_dec h2, zle_dec, cond_true, toNat_nat, iAt_row h, iAt_row h2]
    rw [wrap_succ h h0]
    simp only [bne, int_beq, bool_beq, ba_beq]
    cases eqB a0[i] a1[i] <;> rfl
  · simp only [step, List.length_map, nlt_dec, cond_false]
theorem valid_ : Valid Try.prog Ev 94 con := VV (run := fun n x => start (iter step n) x.1 x.2) mix tab_ok .nil Try.func94 (by kernel_rfl) run_eq (fun ls a hl e hg => okF a.1 a.2 hg (by have h : (ls.headD .hole).toSl.length ≤ maxLen := hl.1.len; have e : a.1.map iRow = (ls.headD .hole).toSl := (congrArg (fun x => x.1) e.symm); rw [← e] at h; simpa using h) (by have h : ((dropT 1 ls).headD .hole).toSl.length ≤ maxLen := hl.2.1.len; have e : a.2.map iRow = ((dropT 1 ls).headD .hole).toSl := (congrArg (fun x => x.2) e.symm); rw [← e] at h; simpa using h))
end laws_eqIntS
/-! laws.eqKeys -/
namespace laws_eqKeys
noncomputable def F (x0 : RKeys) (x1 : RKeys) : Ans := (call (laws_eqIntS.R (x0.fList, x1.fList)) fun v1 => (bif (!v1) then ret (false : Bool) else (bif (x0.fNeed != x1.fNeed) then ret (false : Bool) else ret (true : Bool))))
def pats : List Pat := [.agg [.sl 3, .int .i64], .agg [.sl 3, .int .i64]]
def res : RP := .one (.rd (.bool))
noncomputable abbrev E : Env := ⟨assoc Tab, conG [(94, laws_eqIntS.con)], 16⟩
set_option maxRecDepth 100000
theorem run_eq (n : Nat) (ls : List L) : runF E (fun _ => []) Try.f174 res n (initS pats ls) = F (RKeys.dec ls) (RKeys.dec (dropT 2 ls)) := by kernel_rfl
noncomputable def md (a0 : MKeys) (a1 : MKeys) : Bool := eqB a0 a1
def gd (a0 : MKeys) (a1 : MKeys) : Prop := True
def acc (ls : List L) : RKeys × RKeys := ((RKeys.dec ls), (RKeys.dec (dropT 2 ls)))
noncomputable def R : (RKeys × RKeys) → Option Bool := RR (p2 gd) (u2 md)
theorem R_eq {a0} {a1} (h : gd a0 a1) : R ((MKeys.r a0), (MKeys.r a1)) = some (md a0 a1) := RR_eq (a := (a0, a1)) h
noncomputable def con : Con := CN pats res acc R
theorem okF (a0 : MKeys) (a1 : MKeys) (hg : gd a0 a1) : F (MKeys.r a0) (MKeys.r a1) = ret ((md a0 a1) : Bool) := by
  unfold md
  show (call (laws_eqIntS.R ((a0.fList.map iRow), (a1.fList.map iRow))) fun v1 => (bif (!v1) then ret (false : Bool) else (bif (a0.fNeed != a1.fNeed) then ret (false : Bool) else ret (true : Bool)))) = _
  simp only [call_eq (laws_eqIntS.R_eq (a0 := a0.fList) (a1 := a1.fList) trivial), laws_eqIntS.md]
  try simp only [bne, int_beq, bool_beq, ba_beq]
  have e : eqB a0 a1 = (eqB a0.fList a1.fList && (eqB a0.fNeed a1.fNeed && true)) := by
    cases a0; cases a1
    rw [Bool.eq_iff_iff]
    simp only [eqB_iff, Bool.and_eq_true, MKeys.mk.injEq, and_true]
  rw [e]
  refine and_step fun _ => ?_
  refine and_step fun _ => ?_
  rfl
theorem valid_ : Valid Try.prog Ev 174 con := VV (run := fun _ x => F x.1 x.2) mix tab_ok (.cons laws_eqIntS.valid_ .nil) Try.func174 (by kernel_rfl) run_eq (fun _ a _ _ hg => ⟨0, okF a.1 a.2 hg⟩)
end laws_eqKeys
/-! laws.eqHead -/
namespace laws_eqHead
noncomputable def F (x0 : RHead) (x1 : RHead) : Ans := (bif (x0.fZone != x1.fZone) then ret (false : Bool) else (bif (x0.fEpoch != x1.fEpoch) then ret (false : Bool) else (bif (x0.fKind != x1.fKind) then ret (false : Bool) else (bif (x0.fTime != x1.fTime) then ret (false : Bool) else (bif (x0.fUntil != x1.fUntil) then ret (false : Bool) else (bif (x0.fCount != x1.fCount) then ret (false : Bool) else (bif (x0.fRoot != x1.fRoot) then ret (false : Bool) else (bif (x0.fPrev != x1.fPrev) then ret (false : Bool) else (call (laws_eqKeys.R (x0.fKeys, x1.fKeys)) fun v1 => (bif (!v1) then ret (false : Bool) else (call (laws_eqKeys.R (x0.fHeirs, x1.fHeirs)) fun v2 => (bif (!v2) then ret (false : Bool) else (bif (x0.fWait != x1.fWait) then ret (false : Bool) else (call (laws_eqKeys.R (x0.fJudge, x1.fJudge)) fun v3 => (bif (!v3) then ret (false : Bool) else (bif (!(x0.fFrozen == x1.fFrozen)) then ret (false : Bool) else ret (true : Bool)))))))))))))))))
def pats : List Pat := [.agg [.int .i64, .int .i64, .int .i64, .int .i64, .int .i64, .int .i64, .int .i64, .int .i64, .sl 3, .int .i64, .sl 3, .int .i64, .int .i64, .sl 3, .int .i64, .bool], .agg [.int .i64, .int .i64, .int .i64, .int .i64, .int .i64, .int .i64, .int .i64, .int .i64, .sl 3, .int .i64, .sl 3, .int .i64, .int .i64, .sl 3, .int .i64, .bool]]
def res : RP := .one (.rd (.bool))
noncomputable abbrev E : Env := ⟨assoc Tab, conG [(174, laws_eqKeys.con)], 73⟩
set_option maxRecDepth 100000
theorem run_eq (n : Nat) (ls : List L) : runF E (fun _ => []) Try.f130 res n (initS pats ls) = F (RHead.dec ls) (RHead.dec (dropT 16 ls)) := by kernel_rfl
noncomputable def md (a0 : MHead) (a1 : MHead) : Bool := eqB a0 a1
def gd (a0 : MHead) (a1 : MHead) : Prop := True
def acc (ls : List L) : RHead × RHead := ((RHead.dec ls), (RHead.dec (dropT 16 ls)))
noncomputable def R : (RHead × RHead) → Option Bool := RR (p2 gd) (u2 md)
theorem R_eq {a0} {a1} (h : gd a0 a1) : R ((MHead.r a0), (MHead.r a1)) = some (md a0 a1) := RR_eq (a := (a0, a1)) h
noncomputable def con : Con := CN pats res acc R
theorem okF (a0 : MHead) (a1 : MHead) (hg : gd a0 a1) : F (MHead.r a0) (MHead.r a1) = ret ((md a0 a1) : Bool) := by
  unfold md
  show (bif (a0.fZone != a1.fZone) then ret (false : Bool) else (bif (a0.fEpoch != a1.fEpoch) then ret (false : Bool) else (bif (a0.fKind != a1.fKind) then ret (false : Bool) else (bif (a0.fTime != a1.fTime) then ret (false : Bool) else (bif (a0.fUntil != a1.fUntil) then ret (false : Bool) else (bif (a0.fCount != a1.fCount) then ret (false : Bool) else (bif (a0.fRoot != a1.fRoot) then ret (false : Bool) else (bif (a0.fPrev != a1.fPrev) then ret (false : Bool) else (call (laws_eqKeys.R ((MKeys.r a0.fKeys), (MKeys.r a1.fKeys))) fun v1 => (bif (!v1) then ret (false : Bool) else (call (laws_eqKeys.R ((MKeys.r a0.fHeirs), (MKeys.r a1.fHeirs))) fun v2 => (bif (!v2) then ret (false : Bool) else (bif (a0.fWait != a1.fWait) then ret (false : Bool) else (call (laws_eqKeys.R ((MKeys.r a0.fJudge), (MKeys.r a1.fJudge))) fun v3 => (bif (!v3) then ret (false : Bool) else (bif (!(a0.fFrozen == a1.fFrozen)) then ret (false : Bool) else ret (true : Bool))))))))))))))))) = _
  simp only [call_eq (laws_eqKeys.R_eq (a0 := a0.fKeys) (a1 := a1.fKeys) trivial), laws_eqKeys.md]
  simp only [call_eq (laws_eqKeys.R_eq (a0 := a0.fHeirs) (a1 := a1.fHeirs) trivial), laws_eqKeys.md]
  simp only [call_eq (laws_eqKeys.R_eq (a0 := a0.fJudge) (a1 := a1.fJudge) trivial), laws_eqKeys.md]
  try simp only [bne, int_beq, bool_beq, ba_beq]
  have e : eqB a0 a1 = (eqB a0.fZone a1.fZone && (eqB a0.fEpoch a1.fEpoch && (eqB a0.fKind a1.fKind && (eqB a0.fTime a1.fTime && (eqB a0.fUntil a1.fUntil && (eqB a0.fCount a1.fCount && (eqB a0.fRoot a1.fRoot && (eqB a0.fPrev a1.fPrev && (eqB a0.fKeys a1.fKeys && (eqB a0.fHeirs a1.fHeirs && (eqB a0.fWait a1.fWait && (eqB a0.fJudge a1.fJudge && (eqB a0.fFrozen a1.fFrozen && true))))))))))))) := by
    cases a0; cases a1
    rw [Bool.eq_iff_iff]
    simp only [eqB_iff, Bool.and_eq_true, MHead.mk.injEq, and_true]
  rw [e]
  refine and_step fun _ => ?_
  refine and_step fun _ => ?_
  refine and_step fun _ => ?_
  refine and_step fun _ => ?_
  refine and_step fun _ => ?_
  refine and_step fun _ => ?_
  refine and_step fun _ => ?_
  refine and_step fun _ => ?_
  refine and_step fun _ => ?_
  refine and_step fun _ => ?_
  refine and_step fun _ => ?_
  refine and_step fun _ => ?_
  refine and_step fun _ => ?_
  rfl
theorem valid_ : Valid Try.prog Ev 130 con := VV (run := fun _ x => F x.1 x.2) mix tab_ok (.cons laws_eqKeys.valid_ .nil) Try.func130 (by kernel_rfl) run_eq (fun _ a _ _ hg => ⟨0, okF a.1 a.2 hg⟩)
end laws_eqHead
/-! laws.eqSig -/
namespace laws_eqSig
noncomputable def F (x0 : MSig) (x1 : MSig) : Ans := (bif (x0.fKey != x1.fKey) then ret (false : Bool) else (bif (x0.fTag != x1.fTag) then ret (false : Bool) else ret (true : Bool)))
def pats : List Pat := [.agg [.int .i64, .int .i64], .agg [.int .i64, .int .i64]]
def res : RP := .one (.rd (.bool))
noncomputable abbrev E : Env := ⟨assoc Tab, conG [], 15⟩
set_option maxRecDepth 100000
theorem run_eq (n : Nat) (ls : List L) : runF E (fun _ => []) Try.f175 res n (initS pats ls) = F (MSig.dec ls) (MSig.dec (dropT 2 ls)) := by kernel_rfl
noncomputable def md (a0 : MSig) (a1 : MSig) : Bool := eqB a0 a1
def gd (a0 : MSig) (a1 : MSig) : Prop := True
def acc (ls : List L) : MSig × MSig := ((MSig.dec ls), (MSig.dec (dropT 2 ls)))
noncomputable def R : (MSig × MSig) → Option Bool := RR (p2 gd) (u2 md)
theorem R_eq {a0} {a1} (h : gd a0 a1) : R (a0, a1) = some (md a0 a1) := RR_eq (a := (a0, a1)) h
noncomputable def con : Con := CN pats res acc R
theorem okF (a0 : MSig) (a1 : MSig) (hg : gd a0 a1) : F a0 a1 = ret ((md a0 a1) : Bool) := by
  unfold md
  show (bif (a0.fKey != a1.fKey) then ret (false : Bool) else (bif (a0.fTag != a1.fTag) then ret (false : Bool) else ret (true : Bool))) = _
  try simp only [bne, int_beq, bool_beq, ba_beq]
  have e : eqB a0 a1 = (eqB a0.fKey a1.fKey && (eqB a0.fTag a1.fTag && true)) := by
    cases a0; cases a1
    rw [Bool.eq_iff_iff]
    simp only [eqB_iff, Bool.and_eq_true, MSig.mk.injEq, and_true]
  rw [e]
  refine and_step fun _ => ?_
  refine and_step fun _ => ?_
  rfl
theorem valid_ : Valid Try.prog Ev 175 con := VV (run := fun _ x => F x.1 x.2) mix tab_ok .nil Try.func175 (by kernel_rfl) run_eq (fun _ a _ _ hg => ⟨0, okF a.1 a.2 hg⟩)
end laws_eqSig
/-! laws.eqSigS -/
namespace laws_eqSigS
inductive Pt where
  | p0 (a : List (List L)) (b : List (List L)) (c : Int)
def pid : Pt → Nat
  | .p0 .. => 4
def pvs : Pt → List V
  | .p0 a b c => [.sl none 216 a, .sl none 216 b, .int .i64 c]
def phs : Pt → List Root
  | .p0 a b c => []
noncomputable def step (J : Pt → Ans) : Pt → Ans
  | .p0 a b c => (bif (decide (c < (a.length : Int))) then (bif (decide ((0 : Int) ≤ c)) then (bif (decide (c < (a.length : Int))) then (bif (decide ((0 : Int) ≤ c)) then (bif (decide (c < (b.length : Int))) then (call (laws_eqSig.R ((MSig.at a (Int.toNat c)), (MSig.at b (Int.toNat c)))) fun v1 => (bif (!v1) then ret (false : Bool) else J (.p0 a b (IntKind.i64.wrap (c + 1))))) else none) else none) else none) else none) else ret (true : Bool))
noncomputable def start (J : Pt → Ans) (x0 : List (List L)) (x1 : List (List L)) : Ans := (bif ((x0.length : Int) != (x1.length : Int)) then ret (false : Bool) else J (.p0 x0 x1 0))
def live : Nat → Live := fun i => match i with | 4 => [(0, none), (1, none), (5, none)] | _ => []
def pats : List Pat := [.rd (.sl 216), .rd (.sl 216)]
def res : RP := .one (.rd (.bool))
noncomputable abbrev E : Env := ⟨assoc Tab, conG [(175, laws_eqSig.con)], 27⟩
set_option maxRecDepth 100000
theorem step_eq (I : Heads) (p : Pt) : enterC E live I (pid p) (bodyOf Try.f131) (stOf (live (pid p)) (pvs p) (phs p)) (doneK E Try.f131 res) = step (fun q => I (pid q) (pvs q) (phs q)) p := by
  cases p <;> kernel_rfl
theorem start_eq (I : Heads) (ls : List L) : runC E live I (bodyOf Try.f131) (initS pats ls) (doneK E Try.f131 res) = start (fun q => I (pid q) (pvs q) (phs q)) (ls.headD .hole).toSl ((dropT 1 ls).headD .hole).toSl := by kernel_rfl
theorem run_eq (n : Nat) (ls : List L) : runF E live Try.f131 res n (initS pats ls) = start (iter step n) (ls.headD .hole).toSl ((dropT 1 ls).headD .hole).toSl := runF_iter (id := pid) (vs := pvs) (hs := phs) (step := step) (start := fun J => start J (ls.headD .hole).toSl ((dropT 1 ls).headD .hole).toSl) step_eq (fun I => start_eq I ls) n
noncomputable def md (a0 : List MSig) (a1 : List MSig) : Bool := eqB a0 a1
def gd (a0 : List MSig) (a1 : List MSig) : Prop := True
def acc (ls : List L) : List (List L) × List (List L) := ((ls.headD .hole).toSl, ((dropT 1 ls).headD .hole).toSl)
noncomputable def R : (List (List L) × List (List L)) → Option Bool := RR (p2 gd) (u2 md)
theorem R_eq {a0} {a1} (h : gd a0 a1) : R ((a0.map MSig.row), (a1.map MSig.row)) = some (md a0 a1) := RR_eq (a := (a0, a1)) h
noncomputable def con : Con := CN pats res acc R
theorem okF (a0 : List MSig) (a1 : List MSig) (hg : gd a0 a1) (h0 : a0.length ≤ maxLen) (h1 : a1.length ≤ maxLen) : ∃ n, start (iter step n) (a0.map MSig.row) (a1.map MSig.row) = ret ((md a0 a1) : Bool) := by
  unfold start md
  simp only [List.length_map]
  refine eq_list (pt := fun i => Pt.p0 (a0.map MSig.row) (a1.map MSig.row) (i : Int)) (fun hl J i h h2 => ?_) (fun J => ?_)
  · simp only [step, List.length_map, lt_dec h, lt_dec h2, zle_dec, cond_true, toNat_nat, MSig.at_row h, MSig.at_row h2]
    rw [wrap_succ h h0]
    rw [call_eq (laws_eqSig.R_eq (a0 := a0[i]) (a1 := a1[i]) trivial), laws_eqSig.md]
    cases eqB a0[i] a1[i] <;> rfl
  · simp only [step, List.length_map, nlt_dec, cond_false]
theorem valid_ : Valid Try.prog Ev 131 con := VV (run := fun n x => start (iter step n) x.1 x.2) mix tab_ok (.cons laws_eqSig.valid_ .nil) Try.func131 (by kernel_rfl) run_eq (fun ls a hl e hg => okF a.1 a.2 hg (by have h : (ls.headD .hole).toSl.length ≤ maxLen := hl.1.len; have e : a.1.map MSig.row = (ls.headD .hole).toSl := (congrArg (fun x => x.1) e.symm); rw [← e] at h; simpa using h) (by have h : ((dropT 1 ls).headD .hole).toSl.length ≤ maxLen := hl.2.1.len; have e : a.2.map MSig.row = ((dropT 1 ls).headD .hole).toSl := (congrArg (fun x => x.2) e.symm); rw [← e] at h; simpa using h))
end laws_eqSigS
/-! laws.eqSigned -/
namespace laws_eqSigned
noncomputable def F (x0 : RSigned) (x1 : RSigned) : Ans := (call (laws_eqHead.R (x0.fHead, x1.fHead)) fun v1 => (bif (!v1) then ret (false : Bool) else (call (laws_eqSigS.R (x0.fSigs, x1.fSigs)) fun v2 => (bif (!v2) then ret (false : Bool) else ret (true : Bool)))))
def pats : List Pat := [.agg [.int .i64, .int .i64, .int .i64, .int .i64, .int .i64, .int .i64, .int .i64, .int .i64, .sl 3, .int .i64, .sl 3, .int .i64, .int .i64, .sl 3, .int .i64, .bool, .sl 216], .agg [.int .i64, .int .i64, .int .i64, .int .i64, .int .i64, .int .i64, .int .i64, .int .i64, .sl 3, .int .i64, .sl 3, .int .i64, .int .i64, .sl 3, .int .i64, .bool, .sl 216]]
def res : RP := .one (.rd (.bool))
noncomputable abbrev E : Env := ⟨assoc Tab, conG [(130, laws_eqHead.con), (131, laws_eqSigS.con)], 17⟩
set_option maxRecDepth 100000
theorem run_eq (n : Nat) (ls : List L) : runF E (fun _ => []) Try.f79 res n (initS pats ls) = F (RSigned.dec ls) (RSigned.dec (dropT 17 ls)) := by kernel_rfl
noncomputable def md (a0 : MSigned) (a1 : MSigned) : Bool := eqB a0 a1
def gd (a0 : MSigned) (a1 : MSigned) : Prop := True
def acc (ls : List L) : RSigned × RSigned := ((RSigned.dec ls), (RSigned.dec (dropT 17 ls)))
noncomputable def R : (RSigned × RSigned) → Option Bool := RR (p2 gd) (u2 md)
theorem R_eq {a0} {a1} (h : gd a0 a1) : R ((MSigned.r a0), (MSigned.r a1)) = some (md a0 a1) := RR_eq (a := (a0, a1)) h
noncomputable def con : Con := CN pats res acc R
theorem okF (a0 : MSigned) (a1 : MSigned) (hg : gd a0 a1) : F (MSigned.r a0) (MSigned.r a1) = ret ((md a0 a1) : Bool) := by
  unfold md
  show (call (laws_eqHead.R ((MHead.r a0.fHead), (MHead.r a1.fHead))) fun v1 => (bif (!v1) then ret (false : Bool) else (call (laws_eqSigS.R ((a0.fSigs.map MSig.row), (a1.fSigs.map MSig.row))) fun v2 => (bif (!v2) then ret (false : Bool) else ret (true : Bool))))) = _
  simp only [call_eq (laws_eqHead.R_eq (a0 := a0.fHead) (a1 := a1.fHead) trivial), laws_eqHead.md]
  simp only [call_eq (laws_eqSigS.R_eq (a0 := a0.fSigs) (a1 := a1.fSigs) trivial), laws_eqSigS.md]
  try simp only [bne, int_beq, bool_beq, ba_beq]
  have e : eqB a0 a1 = (eqB a0.fHead a1.fHead && (eqB a0.fSigs a1.fSigs && true)) := by
    cases a0; cases a1
    rw [Bool.eq_iff_iff]
    simp only [eqB_iff, Bool.and_eq_true, MSigned.mk.injEq, and_true]
  rw [e]
  refine and_step fun _ => ?_
  refine and_step fun _ => ?_
  rfl
theorem valid_ : Valid Try.prog Ev 79 con := VV (run := fun _ x => F x.1 x.2) mix tab_ok (.cons laws_eqHead.valid_ (.cons laws_eqSigS.valid_ .nil)) Try.func79 (by kernel_rfl) run_eq (fun _ a _ _ hg => ⟨0, okF a.1 a.2 hg⟩)
end laws_eqSigned
/-! laws.eqSignedS -/
namespace laws_eqSignedS
inductive Pt where
  | p0 (a : List (List L)) (b : List (List L)) (c : Int)
def pid : Pt → Nat
  | .p0 .. => 4
def pvs : Pt → List V
  | .p0 a b c => [.sl none 119 a, .sl none 119 b, .int .i64 c]
def phs : Pt → List Root
  | .p0 a b c => []
noncomputable def step (J : Pt → Ans) : Pt → Ans
  | .p0 a b c => (bif (decide (c < (a.length : Int))) then (bif (decide ((0 : Int) ≤ c)) then (bif (decide (c < (a.length : Int))) then (bif (decide ((0 : Int) ≤ c)) then (bif (decide (c < (b.length : Int))) then (call (laws_eqSigned.R ((RSigned.at a (Int.toNat c)), (RSigned.at b (Int.toNat c)))) fun v1 => (bif (!v1) then ret (false : Bool) else J (.p0 a b (IntKind.i64.wrap (c + 1))))) else none) else none) else none) else none) else ret (true : Bool))
noncomputable def start (J : Pt → Ans) (x0 : List (List L)) (x1 : List (List L)) : Ans := (bif ((x0.length : Int) != (x1.length : Int)) then ret (false : Bool) else J (.p0 x0 x1 0))
def live : Nat → Live := fun i => match i with | 4 => [(0, none), (1, none), (5, none)] | _ => []
def pats : List Pat := [.rd (.sl 119), .rd (.sl 119)]
def res : RP := .one (.rd (.bool))
noncomputable abbrev E : Env := ⟨assoc Tab, conG [(79, laws_eqSigned.con)], 27⟩
set_option maxRecDepth 100000
theorem step_eq (I : Heads) (p : Pt) : enterC E live I (pid p) (bodyOf Try.f26) (stOf (live (pid p)) (pvs p) (phs p)) (doneK E Try.f26 res) = step (fun q => I (pid q) (pvs q) (phs q)) p := by
  cases p <;> kernel_rfl
theorem start_eq (I : Heads) (ls : List L) : runC E live I (bodyOf Try.f26) (initS pats ls) (doneK E Try.f26 res) = start (fun q => I (pid q) (pvs q) (phs q)) (ls.headD .hole).toSl ((dropT 1 ls).headD .hole).toSl := by kernel_rfl
theorem run_eq (n : Nat) (ls : List L) : runF E live Try.f26 res n (initS pats ls) = start (iter step n) (ls.headD .hole).toSl ((dropT 1 ls).headD .hole).toSl := runF_iter (id := pid) (vs := pvs) (hs := phs) (step := step) (start := fun J => start J (ls.headD .hole).toSl ((dropT 1 ls).headD .hole).toSl) step_eq (fun I => start_eq I ls) n
noncomputable def md (a0 : List MSigned) (a1 : List MSigned) : Bool := eqB a0 a1
def gd (a0 : List MSigned) (a1 : List MSigned) : Prop := True
def acc (ls : List L) : List (List L) × List (List L) := ((ls.headD .hole).toSl, ((dropT 1 ls).headD .hole).toSl)
noncomputable def R : (List (List L) × List (List L)) → Option Bool := RR (p2 gd) (u2 md)
theorem R_eq {a0} {a1} (h : gd a0 a1) : R ((a0.map MSigned.row), (a1.map MSigned.row)) = some (md a0 a1) := RR_eq (a := (a0, a1)) h
noncomputable def con : Con := CN pats res acc R
theorem okF (a0 : List MSigned) (a1 : List MSigned) (hg : gd a0 a1) (h0 : a0.length ≤ maxLen) (h1 : a1.length ≤ maxLen) : ∃ n, start (iter step n) (a0.map MSigned.row) (a1.map MSigned.row) = ret ((md a0 a1) : Bool) := by
  unfold start md
  simp only [List.length_map]
  refine eq_list (pt := fun i => Pt.p0 (a0.map MSigned.row) (a1.map MSigned.row) (i : Int)) (fun hl J i h h2 => ?_) (fun J => ?_)
  · simp only [step, List.length_map, lt_dec h, lt_dec h2, zle_dec, cond_true, toNat_nat, MSigned.at_row h, MSigned.at_row h2]
    rw [wrap_succ h h0]
    rw [call_eq (laws_eqSigned.R_eq (a0 := a0[i]) (a1 := a1[i]) trivial), laws_eqSigned.md]
    cases eqB a0[i] a1[i] <;> rfl
  · simp only [step, List.length_map, nlt_dec, cond_false]
theorem valid_ : Valid Try.prog Ev 26 con := VV (run := fun n x => start (iter step n) x.1 x.2) mix tab_ok (.cons laws_eqSigned.valid_ .nil) Try.func26 (by kernel_rfl) run_eq (fun ls a hl e hg => okF a.1 a.2 hg (by have h : (ls.headD .hole).toSl.length ≤ maxLen := hl.1.len; have e : a.1.map MSigned.row = (ls.headD .hole).toSl := (congrArg (fun x => x.1) e.symm); rw [← e] at h; simpa using h) (by have h : ((dropT 1 ls).headD .hole).toSl.length ≤ maxLen := hl.2.1.len; have e : a.2.map MSigned.row = ((dropT 1 ls).headD .hole).toSl := (congrArg (fun x => x.2) e.symm); rw [← e] at h; simpa using h))
end laws_eqSignedS
/-! laws.FnExactIsTakenBack -/
namespace laws_FnExactIsTakenBack
noncomputable def F (x0 : List (List L)) (x1 : Int) : Ans := (call (laws_szSignedS.R (x0, 1048576)) fun v1 => (bif (decide (v1 < 0)) then ret (true : Bool) else (call (laws_toSignedS.R x0) fun v2 => (call (spec_IsTakenBack.R (v2, x1)) fun v3 => (call (laws_toSignedS.R x0) fun v4 => (call (impl_IsTakenBack.R (v4, x1)) fun v5 => (bif (!(v5 == v3)) then ret (false : Bool) else (call (laws_toSignedS.R x0) fun v6 => (call (laws_eqSignedS.R (v4, v6)) fun v7 => (bif (!v7) then ret (false : Bool) else ret (true : Bool)))))))))))
def pats : List Pat := [.rd (.sl 113), .rd (.int .i64)]
def res : RP := .one (.rd (.bool))
noncomputable abbrev E : Env := ⟨assoc Tab, conG [(22, laws_szSignedS.con), (24, laws_toSignedS.con), (50, spec_IsTakenBack.con), (51, impl_IsTakenBack.con), (26, laws_eqSignedS.con)], 31⟩
set_option maxRecDepth 100000
theorem run_eq (n : Nat) (ls : List L) : runF E (fun _ => []) Try.f12 res n (initS pats ls) = F (ls.headD .hole).toSl ((dropT 1 ls).headD .hole).toInt := by kernel_rfl
noncomputable def md (a0 : List MSigned) (a1 : Int) : Bool := true
def gd (a0 : List MSigned) (a1 : Int) : Prop := (SmL maxLen (fun y : MSigned => MSigned.Sm maxLen y) a0)
def acc (ls : List L) : List (List L) × Int := ((ls.headD .hole).toSl, ((dropT 1 ls).headD .hole).toInt)
noncomputable def R : (List (List L) × Int) → Option Bool := RR (p2 gd) (u2 md)
theorem R_eq {a0} {a1} (h : gd a0 a1) : R ((a0.map MSigned.row), a1) = some (md a0 a1) := RR_eq (a := (a0, a1)) h
noncomputable def con : Con := CN pats res acc R
theorem okF (a0 : List MSigned) (a1 : Int) (hg : gd a0 a1) : F (a0.map MSigned.row) a1 = ret ((md a0 a1) : Bool) := by
  unfold md
  show (call (laws_szSignedS.R ((a0.map MSigned.row), 1048576)) fun v1 => (bif (decide (v1 < 0)) then ret (true : Bool) else (call (laws_toSignedS.R (a0.map MSigned.row)) fun v2 => (call (spec_IsTakenBack.R (v2, a1)) fun v3 => (call (laws_toSignedS.R (a0.map MSigned.row)) fun v4 => (call (impl_IsTakenBack.R (v4, a1)) fun v5 => (bif (!(v5 == v3)) then ret (false : Bool) else (call (laws_toSignedS.R (a0.map MSigned.row)) fun v6 => (call (laws_eqSignedS.R (v4, v6)) fun v7 => (bif (!v7) then ret (false : Bool) else ret (true : Bool))))))))))) = _
  rw [call_eq (laws_szSignedS.R_eq (a1 := (1048576 : Int)) ⟨hg, by omega, by omega⟩)]
  unfold laws_szSignedS.md
  by_cases c0 : (1048576 : Int) < (((szL (fun y : MSigned => MSigned.size y) a0) : Nat) : Int)
  · rw [szM_neg c0]; rfl
  rw [szM_pos c0, dec_neg (by omega)]
  simp only [cond_false]
  have s0 : SmL (2 ^ 20) (fun y : MSigned => MSigned.Sm (2 ^ 20) y) a0 := (szL_sm (f := fun y : MSigned => MSigned.size y) (by omega) (fun x hx => (MSigned.Sm_of hx)))
  rw [call_eq (laws_toSignedS.R_eq (a0 := a0) (s0.mono (by decide) (fun x hx => (MSigned.Sm_mono (by decide) hx))))]
  simp only [laws_toSignedS.md]
  rw [call_eq (spec_IsTakenBack.R_eq (a0 := a0) (a1 := a1) (by
    have := And.intro trivial trivial
    unfold spec_IsTakenBack.gd
    first | exact (s0.mono (by decide) (fun x hx => (MSigned.Sm_mono (by decide) hx))) | refine ⟨(s0.mono (by decide) (fun x hx => (MSigned.Sm_mono (by decide) hx)))⟩))]
  rw [call_eq (laws_toSignedS.R_eq (a0 := a0) (s0.mono (by decide) (fun x hx => (MSigned.Sm_mono (by decide) hx))))]
  simp only [laws_toSignedS.md]
  rw [call_eq (impl_IsTakenBack.R_eq (a0 := a0) (a1 := a1) (by
    have := And.intro trivial trivial
    unfold impl_IsTakenBack.gd
    first | exact (s0.mono (by decide) (fun x hx => (MSigned.Sm_mono (by decide) hx))) | refine ⟨(s0.mono (by decide) (fun x hx => (MSigned.Sm_mono (by decide) hx)))⟩))]
  try simp only [impl_IsTakenBack.br, bne_self_eq_false, beq_self_eq_true, ba_refl, Bool.not_true, cond_false]
  rw [call_eq (laws_toSignedS.R_eq (a0 := a0) (s0.mono (by decide) (fun x hx => (MSigned.Sm_mono (by decide) hx))))]
  simp only [laws_toSignedS.md]
  rw [call_eq (laws_eqSignedS.R_eq (a0 := a0) (a1 := a0) trivial)]
  simp only [laws_eqSignedS.md, eqB_refl, Bool.not_true, cond_false]
theorem valid_ : Valid Try.prog Ev 12 con := VV (run := fun _ x => F x.1 x.2) mix tab_ok (.cons laws_szSignedS.valid_ (.cons laws_toSignedS.valid_ (.cons spec_IsTakenBack.valid_ (.cons impl_IsTakenBack.valid_ (.cons laws_eqSignedS.valid_ .nil))))) Try.func12 (by kernel_rfl) run_eq (fun _ a _ _ hg => ⟨0, okF a.1 a.2 hg⟩)
theorem MKeys_wf108 (r : List L) (h : WfAll Ev.cells [.sl 3, .int .i64] r) : ∃ x : MKeys, MKeys.row x = r ∧ MKeys.Sm maxLen x := by
  obtain ⟨l0, t0, rfl, g0, h1⟩ := h.uncons
  obtain ⟨x0, rfl, s0⟩ := wf_list (show Ev.cells 3 = [.int .i64] from by kernel_rfl) wf_irow g0
  obtain ⟨l1, t1, rfl, g1, h2⟩ := h1.uncons
  obtain ⟨x1, rfl⟩ := wf_int g1
  obtain rfl := h2.isnil
  exact ⟨⟨x0, x1⟩, rfl, s0⟩
theorem MHead_wf110 (r : List L) (h : WfAll Ev.cells [.int .i64, .int .i64, .int .i64, .int .i64, .int .i64, .int .i64, .int .i64, .int .i64, .sl 3, .int .i64, .sl 3, .int .i64, .int .i64, .sl 3, .int .i64, .bool] r) : ∃ x : MHead, MHead.row x = r ∧ MHead.Sm maxLen x := by
  obtain ⟨l0, t0, rfl, g0, h1⟩ := h.uncons
  obtain ⟨x0, rfl⟩ := wf_int g0
  obtain ⟨l1, t1, rfl, g1, h2⟩ := h1.uncons
  obtain ⟨x1, rfl⟩ := wf_int g1
  obtain ⟨l2, t2, rfl, g2, h3⟩ := h2.uncons
  obtain ⟨x2, rfl⟩ := wf_int g2
  obtain ⟨l3, t3, rfl, g3, h4⟩ := h3.uncons
  obtain ⟨x3, rfl⟩ := wf_int g3
  obtain ⟨l4, t4, rfl, g4, h5⟩ := h4.uncons
  obtain ⟨x4, rfl⟩ := wf_int g4
  obtain ⟨l5, t5, rfl, g5, h6⟩ := h5.uncons
  obtain ⟨x5, rfl⟩ := wf_int g5
  obtain ⟨l6, t6, rfl, g6, h7⟩ := h6.uncons
  obtain ⟨x6, rfl⟩ := wf_int g6
  obtain ⟨l7, t7, rfl, g7, h8⟩ := h7.uncons
  obtain ⟨x7, rfl⟩ := wf_int g7
  obtain ⟨r8, t8, rfl, g8, h9⟩ := WfAll.unapp (a := [.sl 3, .int .i64]) (b := [.sl 3, .int .i64, .int .i64, .sl 3, .int .i64, .bool]) h8
  obtain ⟨x8, rfl, s8⟩ := MKeys_wf108 _ g8
  obtain ⟨r9, t9, rfl, g9, h10⟩ := WfAll.unapp (a := [.sl 3, .int .i64]) (b := [.int .i64, .sl 3, .int .i64, .bool]) h9
  obtain ⟨x9, rfl, s9⟩ := MKeys_wf108 _ g9
  obtain ⟨l10, t10, rfl, g10, h11⟩ := h10.uncons
  obtain ⟨x10, rfl⟩ := wf_int g10
  obtain ⟨r11, t11, rfl, g11, h12⟩ := WfAll.unapp (a := [.sl 3, .int .i64]) (b := [.bool]) h11
  obtain ⟨x11, rfl, s11⟩ := MKeys_wf108 _ g11
  obtain ⟨l12, t12, rfl, g12, h13⟩ := h12.uncons
  obtain ⟨x12, rfl⟩ := wf_bool g12
  obtain rfl := h13.isnil
  exact ⟨⟨x0, x1, x2, x3, x4, x5, x6, x7, x8, x9, x10, x11, x12⟩, rfl, ⟨s8, s9, s11⟩⟩
theorem MSig_wf218 (r : List L) (h : WfAll Ev.cells [.int .i64, .int .i64] r) : ∃ x : MSig, MSig.row x = r ∧ MSig.Sm maxLen x := by
  obtain ⟨l0, t0, rfl, g0, h1⟩ := h.uncons
  obtain ⟨x0, rfl⟩ := wf_int g0
  obtain ⟨l1, t1, rfl, g1, h2⟩ := h1.uncons
  obtain ⟨x1, rfl⟩ := wf_int g1
  obtain rfl := h2.isnil
  exact ⟨⟨x0, x1⟩, rfl, trivial⟩
theorem MSigned_wf113 (r : List L) (h : WfAll Ev.cells [.int .i64, .int .i64, .int .i64, .int .i64, .int .i64, .int .i64, .int .i64, .int .i64, .sl 3, .int .i64, .sl 3, .int .i64, .int .i64, .sl 3, .int .i64, .bool, .sl 218] r) : ∃ x : MSigned, MSigned.row x = r ∧ MSigned.Sm maxLen x := by
  obtain ⟨r0, t0, rfl, g0, h1⟩ := WfAll.unapp (a := [.int .i64, .int .i64, .int .i64, .int .i64, .int .i64, .int .i64, .int .i64, .int .i64, .sl 3, .int .i64, .sl 3, .int .i64, .int .i64, .sl 3, .int .i64, .bool]) (b := [.sl 218]) h
  obtain ⟨x0, rfl, s0⟩ := MHead_wf110 _ g0
  obtain ⟨l1, t1, rfl, g1, h2⟩ := h1.uncons
  obtain ⟨x1, rfl, s1⟩ := wf_list (show Ev.cells 218 = [.int .i64, .int .i64] from by kernel_rfl) MSig_wf218 g1
  obtain rfl := h2.isnil
  exact ⟨⟨x0, x1⟩, rfl, ⟨s0, s1⟩⟩
theorem holds (ls : List L) (h : WfAll Ev.cells ([36, 3].flatMap Ev.cells) ls) : con.sem ls = some [.bool true] := by
  have hk : [36, 3].flatMap Ev.cells = [.sl 113, .int .i64] := by kernel_rfl
  rw [hk] at h
  obtain ⟨l0, t0, rfl, g0, h1⟩ := h.uncons
  obtain ⟨x0, rfl, s0⟩ := wf_list (show Ev.cells 113 = [.int .i64, .int .i64, .int .i64, .int .i64, .int .i64, .int .i64, .int .i64, .int .i64, .sl 3, .int .i64, .sl 3, .int .i64, .int .i64, .sl 3, .int .i64, .bool, .sl 218] from by kernel_rfl) MSigned_wf113 g0
  obtain ⟨l1, t1, rfl, g1, h2⟩ := h1.uncons
  obtain ⟨x1, rfl⟩ := wf_int g1
  obtain rfl := h2.isnil
  show (R ((x0.map MSigned.row), x1)).map RT.enc = _
  rw [R_eq s0]
  rfl
end laws_FnExactIsTakenBack
end Go.DM
