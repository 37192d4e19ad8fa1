/-
  No cell of these rows narrows 'for every input' (looked for: loops, veiled, ifaces, maps, wideKeys, modest, calm, conditions, laid).
  DERIVED. THE GIVEN ROWS OF THIS SEAT. 14 by the template 'for every input the law returns true; each argument reads behind the call as it read before'; 0 by the template 'total and deterministic' (their statements: YtnnmfhhlebbmiaaTotals.lean).
  GIVEN WITH THE SEED: the statements are not yours to turn. If you find one false, say at which input.
  Laid BY PROGRAM, IN A SANDBOX (cutbox-rows.mjs): the forced cells as the released guide's own fill.sh prints them over the translation 294753f8bf6b7558… (all of the seat's roots in one cut). By AI agents, Wed Nov 11 2026. No macro, syntax, notation, axiom, sorry.
-/
import Derived.Test.YtnnmfhhlebbmiaaChecked
import GoSem.Claim
import GoSem.ClaimJoined
import GoSem.ClaimMapViews
import Derived.JoinedTies
import Derived.KernelRfl
namespace Go.Proofs.Ytnnmfhhlebbmiaa
/- THE CELL 'sum', in the pinned program and in every row, IS THE sha256 OF THE DUMP (.gsa) THAT YtnnmfhhlebbmiaaProg.lean LOADS. Nothing in Lean hashes anything: it is a label: what it is worth is what the hold of that sum in a sandbox is worth. -/
noncomputable def Try.pinned : Pinned := { name := "ytnnmfhhlebbmiaa", sum := "294753f8bf6b75583c90c09a366028203e9117c6e3f473a1f59061479df2bab8", checked := Try.checked }
namespace Rows
def none {H : Type} : Left H := { results := [], args := [] }

/-- 'laws.FnExactEqualDecisions': WHATEVER THE INPUT: true; the input reads as it did. -/
def fnExactEqualDecisionsSpec : ChangeSpec := { name := "fnExactEqualDecisions", fn := fun _ => fun
  | [d1, d2] => { results := [.lit (.bool true)], args := [d1, d2] }
  | _ => none }
def fnExactEqualDecisionsRow : OpenClaim := { program := "ytnnmfhhlebbmiaa", sum := "294753f8bf6b75583c90c09a366028203e9117c6e3f473a1f59061479df2bab8", func := "loop.example/g00588/laws.FnExactEqualDecisions", spec := "fnExactEqualDecisions", unfollowed := true, recurses := true, apart := false }
def FnExactEqualDecisionsSaid : Prop := fnExactEqualDecisionsRow.holds Try.pinned (OpenSpec.ofChange fnExactEqualDecisionsSpec)

/-- ITS FALSE NEIGHBOUR: 'it returns false'. Refute it at one input. -/
def fnExactEqualDecisionsWrong : ChangeSpec := { name := "fnExactEqualDecisions", fn := fun _ => fun
  | [d1, d2] => { results := [.lit (.bool false)], args := [d1, d2] }
  | _ => none }
def FnExactEqualDecisionsWrongFalsely : Prop := fnExactEqualDecisionsRow.holds Try.pinned (OpenSpec.ofChange fnExactEqualDecisionsWrong)

/-- 'laws.FnExactCountKind': WHATEVER THE INPUT: true; the input reads as it did. -/
def fnExactCountKindSpec : ChangeSpec := { name := "fnExactCountKind", fn := fun _ => fun
  | [d1, d2] => { results := [.lit (.bool true)], args := [d1, d2] }
  | _ => none }
def fnExactCountKindRow : OpenClaim := { program := "ytnnmfhhlebbmiaa", sum := "294753f8bf6b75583c90c09a366028203e9117c6e3f473a1f59061479df2bab8", func := "loop.example/g00588/laws.FnExactCountKind", spec := "fnExactCountKind", apart := false }
def FnExactCountKindSaid : Prop := fnExactCountKindRow.holds Try.pinned (OpenSpec.ofChange fnExactCountKindSpec)

/-- ITS FALSE NEIGHBOUR: 'it returns false'. Refute it at one input. -/
def fnExactCountKindWrong : ChangeSpec := { name := "fnExactCountKind", fn := fun _ => fun
  | [d1, d2] => { results := [.lit (.bool false)], args := [d1, d2] }
  | _ => none }
def FnExactCountKindWrongFalsely : Prop := fnExactCountKindRow.holds Try.pinned (OpenSpec.ofChange fnExactCountKindWrong)

/-- 'laws.FnExactAreChoices': WHATEVER THE INPUT: true; the input reads as it did. -/
def fnExactAreChoicesSpec : ChangeSpec := { name := "fnExactAreChoices", fn := fun _ => fun
  | [d] => { results := [.lit (.bool true)], args := [d] }
  | _ => none }
def fnExactAreChoicesRow : OpenClaim := { program := "ytnnmfhhlebbmiaa", sum := "294753f8bf6b75583c90c09a366028203e9117c6e3f473a1f59061479df2bab8", func := "loop.example/g00588/laws.FnExactAreChoices", spec := "fnExactAreChoices", unfollowed := true, recurses := true, apart := false }
def FnExactAreChoicesSaid : Prop := fnExactAreChoicesRow.holds Try.pinned (OpenSpec.ofChange fnExactAreChoicesSpec)

/-- ITS FALSE NEIGHBOUR: 'it returns false'. Refute it at one input. -/
def fnExactAreChoicesWrong : ChangeSpec := { name := "fnExactAreChoices", fn := fun _ => fun
  | [d] => { results := [.lit (.bool false)], args := [d] }
  | _ => none }
def FnExactAreChoicesWrongFalsely : Prop := fnExactAreChoicesRow.holds Try.pinned (OpenSpec.ofChange fnExactAreChoicesWrong)

/-- 'laws.FnExactStepsOf': WHATEVER THE INPUT: true; the input reads as it did. -/
def fnExactStepsOfSpec : ChangeSpec := { name := "fnExactStepsOf", fn := fun _ => fun
  | [d] => { results := [.lit (.bool true)], args := [d] }
  | _ => none }
def fnExactStepsOfRow : OpenClaim := { program := "ytnnmfhhlebbmiaa", sum := "294753f8bf6b75583c90c09a366028203e9117c6e3f473a1f59061479df2bab8", func := "loop.example/g00588/laws.FnExactStepsOf", spec := "fnExactStepsOf", apart := false }
def FnExactStepsOfSaid : Prop := fnExactStepsOfRow.holds Try.pinned (OpenSpec.ofChange fnExactStepsOfSpec)

/-- ITS FALSE NEIGHBOUR: 'it returns false'. Refute it at one input. -/
def fnExactStepsOfWrong : ChangeSpec := { name := "fnExactStepsOf", fn := fun _ => fun
  | [d] => { results := [.lit (.bool false)], args := [d] }
  | _ => none }
def FnExactStepsOfWrongFalsely : Prop := fnExactStepsOfRow.holds Try.pinned (OpenSpec.ofChange fnExactStepsOfWrong)

/-- 'laws.FnExactIsSilent': WHATEVER THE INPUT: true; the input reads as it did. -/
def fnExactIsSilentSpec : ChangeSpec := { name := "fnExactIsSilent", fn := fun _ => fun
  | [d] => { results := [.lit (.bool true)], args := [d] }
  | _ => none }
def fnExactIsSilentRow : OpenClaim := { program := "ytnnmfhhlebbmiaa", sum := "294753f8bf6b75583c90c09a366028203e9117c6e3f473a1f59061479df2bab8", func := "loop.example/g00588/laws.FnExactIsSilent", spec := "fnExactIsSilent", apart := false }
def FnExactIsSilentSaid : Prop := fnExactIsSilentRow.holds Try.pinned (OpenSpec.ofChange fnExactIsSilentSpec)

/-- ITS FALSE NEIGHBOUR: 'it returns false'. Refute it at one input. -/
def fnExactIsSilentWrong : ChangeSpec := { name := "fnExactIsSilent", fn := fun _ => fun
  | [d] => { results := [.lit (.bool false)], args := [d] }
  | _ => none }
def FnExactIsSilentWrongFalsely : Prop := fnExactIsSilentRow.holds Try.pinned (OpenSpec.ofChange fnExactIsSilentWrong)

/-- 'laws.FnExactValueAt': WHATEVER THE INPUT: true; the input reads as it did. -/
def fnExactValueAtSpec : ChangeSpec := { name := "fnExactValueAt", fn := fun _ => fun
  | [d] => { results := [.lit (.bool true)], args := [d] }
  | _ => none }
def fnExactValueAtRow : OpenClaim := { program := "ytnnmfhhlebbmiaa", sum := "294753f8bf6b75583c90c09a366028203e9117c6e3f473a1f59061479df2bab8", func := "loop.example/g00588/laws.FnExactValueAt", spec := "fnExactValueAt", apart := false }
def FnExactValueAtSaid : Prop := fnExactValueAtRow.holds Try.pinned (OpenSpec.ofChange fnExactValueAtSpec)

/-- ITS FALSE NEIGHBOUR: 'it returns false'. Refute it at one input. -/
def fnExactValueAtWrong : ChangeSpec := { name := "fnExactValueAt", fn := fun _ => fun
  | [d] => { results := [.lit (.bool false)], args := [d] }
  | _ => none }
def FnExactValueAtWrongFalsely : Prop := fnExactValueAtRow.holds Try.pinned (OpenSpec.ofChange fnExactValueAtWrong)

/-- 'laws.FnExactSameResult': WHATEVER THE INPUT: true; the input reads as it did. -/
def fnExactSameResultSpec : ChangeSpec := { name := "fnExactSameResult", fn := fun _ => fun
  | [d1, d2] => { results := [.lit (.bool true)], args := [d1, d2] }
  | _ => none }
def fnExactSameResultRow : OpenClaim := { program := "ytnnmfhhlebbmiaa", sum := "294753f8bf6b75583c90c09a366028203e9117c6e3f473a1f59061479df2bab8", func := "loop.example/g00588/laws.FnExactSameResult", spec := "fnExactSameResult", apart := false }
def FnExactSameResultSaid : Prop := fnExactSameResultRow.holds Try.pinned (OpenSpec.ofChange fnExactSameResultSpec)

/-- ITS FALSE NEIGHBOUR: 'it returns false'. Refute it at one input. -/
def fnExactSameResultWrong : ChangeSpec := { name := "fnExactSameResult", fn := fun _ => fun
  | [d1, d2] => { results := [.lit (.bool false)], args := [d1, d2] }
  | _ => none }
def FnExactSameResultWrongFalsely : Prop := fnExactSameResultRow.holds Try.pinned (OpenSpec.ofChange fnExactSameResultWrong)

/-- 'laws.FnExactDoAgree': WHATEVER THE INPUT: true; the input reads as it did. -/
def fnExactDoAgreeSpec : ChangeSpec := { name := "fnExactDoAgree", fn := fun _ => fun
  | [d] => { results := [.lit (.bool true)], args := [d] }
  | _ => none }
def fnExactDoAgreeRow : OpenClaim := { program := "ytnnmfhhlebbmiaa", sum := "294753f8bf6b75583c90c09a366028203e9117c6e3f473a1f59061479df2bab8", func := "loop.example/g00588/laws.FnExactDoAgree", spec := "fnExactDoAgree", apart := false }
def FnExactDoAgreeSaid : Prop := fnExactDoAgreeRow.holds Try.pinned (OpenSpec.ofChange fnExactDoAgreeSpec)

/-- ITS FALSE NEIGHBOUR: 'it returns false'. Refute it at one input. -/
def fnExactDoAgreeWrong : ChangeSpec := { name := "fnExactDoAgree", fn := fun _ => fun
  | [d] => { results := [.lit (.bool false)], args := [d] }
  | _ => none }
def FnExactDoAgreeWrongFalsely : Prop := fnExactDoAgreeRow.holds Try.pinned (OpenSpec.ofChange fnExactDoAgreeWrong)

/-- 'laws.FnExactCountTransfers': WHATEVER THE INPUT: true; the input reads as it did. -/
def fnExactCountTransfersSpec : ChangeSpec := { name := "fnExactCountTransfers", fn := fun _ => fun
  | [d] => { results := [.lit (.bool true)], args := [d] }
  | _ => none }
def fnExactCountTransfersRow : OpenClaim := { program := "ytnnmfhhlebbmiaa", sum := "294753f8bf6b75583c90c09a366028203e9117c6e3f473a1f59061479df2bab8", func := "loop.example/g00588/laws.FnExactCountTransfers", spec := "fnExactCountTransfers", unfollowed := true, recurses := true, apart := false }
def FnExactCountTransfersSaid : Prop := fnExactCountTransfersRow.holds Try.pinned (OpenSpec.ofChange fnExactCountTransfersSpec)

/-- ITS FALSE NEIGHBOUR: 'it returns false'. Refute it at one input. -/
def fnExactCountTransfersWrong : ChangeSpec := { name := "fnExactCountTransfers", fn := fun _ => fun
  | [d] => { results := [.lit (.bool false)], args := [d] }
  | _ => none }
def FnExactCountTransfersWrongFalsely : Prop := fnExactCountTransfersRow.holds Try.pinned (OpenSpec.ofChange fnExactCountTransfersWrong)

/-- 'laws.FnExactIsTakenBack': WHATEVER THE INPUT: true; the input reads as it did. -/
def fnExactIsTakenBackSpec : ChangeSpec := { name := "fnExactIsTakenBack", fn := fun _ => fun
  | [d1, d2] => { results := [.lit (.bool true)], args := [d1, d2] }
  | _ => none }
def fnExactIsTakenBackRow : OpenClaim := { program := "ytnnmfhhlebbmiaa", sum := "294753f8bf6b75583c90c09a366028203e9117c6e3f473a1f59061479df2bab8", func := "loop.example/g00588/laws.FnExactIsTakenBack", spec := "fnExactIsTakenBack", unfollowed := true, recurses := true, apart := false }
def FnExactIsTakenBackSaid : Prop := fnExactIsTakenBackRow.holds Try.pinned (OpenSpec.ofChange fnExactIsTakenBackSpec)

/-- ITS FALSE NEIGHBOUR: 'it returns false'. Refute it at one input. -/
def fnExactIsTakenBackWrong : ChangeSpec := { name := "fnExactIsTakenBack", fn := fun _ => fun
  | [d1, d2] => { results := [.lit (.bool false)], args := [d1, d2] }
  | _ => none }
def FnExactIsTakenBackWrongFalsely : Prop := fnExactIsTakenBackRow.holds Try.pinned (OpenSpec.ofChange fnExactIsTakenBackWrong)

/-- 'laws.FnExactEqualTraces': WHATEVER THE INPUT: true; the input reads as it did. -/
def fnExactEqualTracesSpec : ChangeSpec := { name := "fnExactEqualTraces", fn := fun _ => fun
  | [d1, d2] => { results := [.lit (.bool true)], args := [d1, d2] }
  | _ => none }
def fnExactEqualTracesRow : OpenClaim := { program := "ytnnmfhhlebbmiaa", sum := "294753f8bf6b75583c90c09a366028203e9117c6e3f473a1f59061479df2bab8", func := "loop.example/g00588/laws.FnExactEqualTraces", spec := "fnExactEqualTraces", unfollowed := true, recurses := true, apart := false }
def FnExactEqualTracesSaid : Prop := fnExactEqualTracesRow.holds Try.pinned (OpenSpec.ofChange fnExactEqualTracesSpec)

/-- ITS FALSE NEIGHBOUR: 'it returns false'. Refute it at one input. -/
def fnExactEqualTracesWrong : ChangeSpec := { name := "fnExactEqualTraces", fn := fun _ => fun
  | [d1, d2] => { results := [.lit (.bool false)], args := [d1, d2] }
  | _ => none }
def FnExactEqualTracesWrongFalsely : Prop := fnExactEqualTracesRow.holds Try.pinned (OpenSpec.ofChange fnExactEqualTracesWrong)

/-- 'laws.FnExactSilentSince': WHATEVER THE INPUT: true; the input reads as it did. -/
def fnExactSilentSinceSpec : ChangeSpec := { name := "fnExactSilentSince", fn := fun _ => fun
  | [d1, d2] => { results := [.lit (.bool true)], args := [d1, d2] }
  | _ => none }
def fnExactSilentSinceRow : OpenClaim := { program := "ytnnmfhhlebbmiaa", sum := "294753f8bf6b75583c90c09a366028203e9117c6e3f473a1f59061479df2bab8", func := "loop.example/g00588/laws.FnExactSilentSince", spec := "fnExactSilentSince", unfollowed := true, recurses := true, apart := false }
def FnExactSilentSinceSaid : Prop := fnExactSilentSinceRow.holds Try.pinned (OpenSpec.ofChange fnExactSilentSinceSpec)

/-- ITS FALSE NEIGHBOUR: 'it returns false'. Refute it at one input. -/
def fnExactSilentSinceWrong : ChangeSpec := { name := "fnExactSilentSince", fn := fun _ => fun
  | [d1, d2] => { results := [.lit (.bool false)], args := [d1, d2] }
  | _ => none }
def FnExactSilentSinceWrongFalsely : Prop := fnExactSilentSinceRow.holds Try.pinned (OpenSpec.ofChange fnExactSilentSinceWrong)

/-- 'laws.FnExactEqualCaches': WHATEVER THE INPUT: true; the input reads as it did. -/
def fnExactEqualCachesSpec : ChangeSpec := { name := "fnExactEqualCaches", fn := fun _ => fun
  | [d1, d2] => { results := [.lit (.bool true)], args := [d1, d2] }
  | _ => none }
def fnExactEqualCachesRow : OpenClaim := { program := "ytnnmfhhlebbmiaa", sum := "294753f8bf6b75583c90c09a366028203e9117c6e3f473a1f59061479df2bab8", func := "loop.example/g00588/laws.FnExactEqualCaches", spec := "fnExactEqualCaches", unfollowed := true, recurses := true, apart := false }
def FnExactEqualCachesSaid : Prop := fnExactEqualCachesRow.holds Try.pinned (OpenSpec.ofChange fnExactEqualCachesSpec)

/-- ITS FALSE NEIGHBOUR: 'it returns false'. Refute it at one input. -/
def fnExactEqualCachesWrong : ChangeSpec := { name := "fnExactEqualCaches", fn := fun _ => fun
  | [d1, d2] => { results := [.lit (.bool false)], args := [d1, d2] }
  | _ => none }
def FnExactEqualCachesWrongFalsely : Prop := fnExactEqualCachesRow.holds Try.pinned (OpenSpec.ofChange fnExactEqualCachesWrong)

/-- 'laws.FnExactEqualBundles': WHATEVER THE INPUT: true; the input reads as it did. -/
def fnExactEqualBundlesSpec : ChangeSpec := { name := "fnExactEqualBundles", fn := fun _ => fun
  | [d1, d2] => { results := [.lit (.bool true)], args := [d1, d2] }
  | _ => none }
def fnExactEqualBundlesRow : OpenClaim := { program := "ytnnmfhhlebbmiaa", sum := "294753f8bf6b75583c90c09a366028203e9117c6e3f473a1f59061479df2bab8", func := "loop.example/g00588/laws.FnExactEqualBundles", spec := "fnExactEqualBundles", unfollowed := true, recurses := true, apart := false }
def FnExactEqualBundlesSaid : Prop := fnExactEqualBundlesRow.holds Try.pinned (OpenSpec.ofChange fnExactEqualBundlesSpec)

/-- ITS FALSE NEIGHBOUR: 'it returns false'. Refute it at one input. -/
def fnExactEqualBundlesWrong : ChangeSpec := { name := "fnExactEqualBundles", fn := fun _ => fun
  | [d1, d2] => { results := [.lit (.bool false)], args := [d1, d2] }
  | _ => none }
def FnExactEqualBundlesWrongFalsely : Prop := fnExactEqualBundlesRow.holds Try.pinned (OpenSpec.ofChange fnExactEqualBundlesWrong)

/- THE SECOND FORM. 'bulk': how many values and letters a reading holds, each counted each time it is reached (what is shared counts as often as it is met; a slice's spare places count too). A statement '..UptoSaid' is the law's where the arguments, and the package variables that the reading takes, are together of bulk at most 1048576: NARROWER than '..Said'. Prove '..Said' where nothing that the law and all that it calls make is longer than what came in: it says more and counts as full. Else prove '..UptoSaid'. A law counts once. -/
mutual
def uptoBulk {H : Type} : DataW H → Nat
  | .lit (.string bytes) => bytes.length + 1
  | .lit _ => 1
  | .nil => 1
  | .ptr d => uptoBulk d + 1
  | .slice elems spare => uptoBulkAll elems + uptoBulkAll spare + 1
  | .agg parts => uptoBulkAll parts + 1
  | .iface _ d => uptoBulk d + 1
  | .map entries => uptoBulkEntries entries + 1
  | .held _ => 1
def uptoBulkAll {H : Type} : List (DataW H) → Nat
  | [] => 0
  | d :: r => uptoBulk d + uptoBulkAll r
def uptoBulkEntries {H : Type} : List (Lit × DataW H) → Nat
  | [] => 0
  | x :: r => uptoBulkEntry x + uptoBulkEntries r
def uptoBulkEntry {H : Type} : Lit × DataW H → Nat
  | (.string bytes, d) => bytes.length + uptoBulk d + 1
  | (_, d) => uptoBulk d + 1
 end
def uptoSmall : (H : Type) → List (DataW H) → Bool := fun _ ds => decide (uptoBulkAll ds ≤ 1048576)
def OpenSpec.upto (s : _root_.Go.ChangeSpec) : _root_.Go.OpenSpec := { _root_.Go.OpenSpec.ofChange s with cond := some uptoSmall }

/-- 'laws.FnExactEqualDecisions', WHERE WHAT IT READS IS OF BULK AT MOST 1048576: true; the input reads as it did. -/
def fnExactEqualDecisionsUptoRow : OpenClaim := { program := "ytnnmfhhlebbmiaa", sum := "294753f8bf6b75583c90c09a366028203e9117c6e3f473a1f59061479df2bab8", func := "loop.example/g00588/laws.FnExactEqualDecisions", spec := "fnExactEqualDecisions", unfollowed := true, recurses := true, apart := false, narrowed := true }
def FnExactEqualDecisionsUptoSaid : Prop := fnExactEqualDecisionsUptoRow.holds Try.pinned (OpenSpec.upto fnExactEqualDecisionsSpec)

/-- 'laws.FnExactCountKind', WHERE WHAT IT READS IS OF BULK AT MOST 1048576: true; the input reads as it did. -/
def fnExactCountKindUptoRow : OpenClaim := { program := "ytnnmfhhlebbmiaa", sum := "294753f8bf6b75583c90c09a366028203e9117c6e3f473a1f59061479df2bab8", func := "loop.example/g00588/laws.FnExactCountKind", spec := "fnExactCountKind", apart := false, narrowed := true }
def FnExactCountKindUptoSaid : Prop := fnExactCountKindUptoRow.holds Try.pinned (OpenSpec.upto fnExactCountKindSpec)

/-- 'laws.FnExactAreChoices', WHERE WHAT IT READS IS OF BULK AT MOST 1048576: true; the input reads as it did. -/
def fnExactAreChoicesUptoRow : OpenClaim := { program := "ytnnmfhhlebbmiaa", sum := "294753f8bf6b75583c90c09a366028203e9117c6e3f473a1f59061479df2bab8", func := "loop.example/g00588/laws.FnExactAreChoices", spec := "fnExactAreChoices", unfollowed := true, recurses := true, apart := false, narrowed := true }
def FnExactAreChoicesUptoSaid : Prop := fnExactAreChoicesUptoRow.holds Try.pinned (OpenSpec.upto fnExactAreChoicesSpec)

/-- 'laws.FnExactStepsOf', WHERE WHAT IT READS IS OF BULK AT MOST 1048576: true; the input reads as it did. -/
def fnExactStepsOfUptoRow : OpenClaim := { program := "ytnnmfhhlebbmiaa", sum := "294753f8bf6b75583c90c09a366028203e9117c6e3f473a1f59061479df2bab8", func := "loop.example/g00588/laws.FnExactStepsOf", spec := "fnExactStepsOf", apart := false, narrowed := true }
def FnExactStepsOfUptoSaid : Prop := fnExactStepsOfUptoRow.holds Try.pinned (OpenSpec.upto fnExactStepsOfSpec)

/-- 'laws.FnExactIsSilent', WHERE WHAT IT READS IS OF BULK AT MOST 1048576: true; the input reads as it did. -/
def fnExactIsSilentUptoRow : OpenClaim := { program := "ytnnmfhhlebbmiaa", sum := "294753f8bf6b75583c90c09a366028203e9117c6e3f473a1f59061479df2bab8", func := "loop.example/g00588/laws.FnExactIsSilent", spec := "fnExactIsSilent", apart := false, narrowed := true }
def FnExactIsSilentUptoSaid : Prop := fnExactIsSilentUptoRow.holds Try.pinned (OpenSpec.upto fnExactIsSilentSpec)

/-- 'laws.FnExactValueAt', WHERE WHAT IT READS IS OF BULK AT MOST 1048576: true; the input reads as it did. -/
def fnExactValueAtUptoRow : OpenClaim := { program := "ytnnmfhhlebbmiaa", sum := "294753f8bf6b75583c90c09a366028203e9117c6e3f473a1f59061479df2bab8", func := "loop.example/g00588/laws.FnExactValueAt", spec := "fnExactValueAt", apart := false, narrowed := true }
def FnExactValueAtUptoSaid : Prop := fnExactValueAtUptoRow.holds Try.pinned (OpenSpec.upto fnExactValueAtSpec)

/-- 'laws.FnExactSameResult', WHERE WHAT IT READS IS OF BULK AT MOST 1048576: true; the input reads as it did. -/
def fnExactSameResultUptoRow : OpenClaim := { program := "ytnnmfhhlebbmiaa", sum := "294753f8bf6b75583c90c09a366028203e9117c6e3f473a1f59061479df2bab8", func := "loop.example/g00588/laws.FnExactSameResult", spec := "fnExactSameResult", apart := false, narrowed := true }
def FnExactSameResultUptoSaid : Prop := fnExactSameResultUptoRow.holds Try.pinned (OpenSpec.upto fnExactSameResultSpec)

/-- 'laws.FnExactDoAgree', WHERE WHAT IT READS IS OF BULK AT MOST 1048576: true; the input reads as it did. -/
def fnExactDoAgreeUptoRow : OpenClaim := { program := "ytnnmfhhlebbmiaa", sum := "294753f8bf6b75583c90c09a366028203e9117c6e3f473a1f59061479df2bab8", func := "loop.example/g00588/laws.FnExactDoAgree", spec := "fnExactDoAgree", apart := false, narrowed := true }
def FnExactDoAgreeUptoSaid : Prop := fnExactDoAgreeUptoRow.holds Try.pinned (OpenSpec.upto fnExactDoAgreeSpec)

/-- 'laws.FnExactCountTransfers', WHERE WHAT IT READS IS OF BULK AT MOST 1048576: true; the input reads as it did. -/
def fnExactCountTransfersUptoRow : OpenClaim := { program := "ytnnmfhhlebbmiaa", sum := "294753f8bf6b75583c90c09a366028203e9117c6e3f473a1f59061479df2bab8", func := "loop.example/g00588/laws.FnExactCountTransfers", spec := "fnExactCountTransfers", unfollowed := true, recurses := true, apart := false, narrowed := true }
def FnExactCountTransfersUptoSaid : Prop := fnExactCountTransfersUptoRow.holds Try.pinned (OpenSpec.upto fnExactCountTransfersSpec)

/-- 'laws.FnExactIsTakenBack', WHERE WHAT IT READS IS OF BULK AT MOST 1048576: true; the input reads as it did. -/
def fnExactIsTakenBackUptoRow : OpenClaim := { program := "ytnnmfhhlebbmiaa", sum := "294753f8bf6b75583c90c09a366028203e9117c6e3f473a1f59061479df2bab8", func := "loop.example/g00588/laws.FnExactIsTakenBack", spec := "fnExactIsTakenBack", unfollowed := true, recurses := true, apart := false, narrowed := true }
def FnExactIsTakenBackUptoSaid : Prop := fnExactIsTakenBackUptoRow.holds Try.pinned (OpenSpec.upto fnExactIsTakenBackSpec)

/-- 'laws.FnExactEqualTraces', WHERE WHAT IT READS IS OF BULK AT MOST 1048576: true; the input reads as it did. -/
def fnExactEqualTracesUptoRow : OpenClaim := { program := "ytnnmfhhlebbmiaa", sum := "294753f8bf6b75583c90c09a366028203e9117c6e3f473a1f59061479df2bab8", func := "loop.example/g00588/laws.FnExactEqualTraces", spec := "fnExactEqualTraces", unfollowed := true, recurses := true, apart := false, narrowed := true }
def FnExactEqualTracesUptoSaid : Prop := fnExactEqualTracesUptoRow.holds Try.pinned (OpenSpec.upto fnExactEqualTracesSpec)

/-- 'laws.FnExactSilentSince', WHERE WHAT IT READS IS OF BULK AT MOST 1048576: true; the input reads as it did. -/
def fnExactSilentSinceUptoRow : OpenClaim := { program := "ytnnmfhhlebbmiaa", sum := "294753f8bf6b75583c90c09a366028203e9117c6e3f473a1f59061479df2bab8", func := "loop.example/g00588/laws.FnExactSilentSince", spec := "fnExactSilentSince", unfollowed := true, recurses := true, apart := false, narrowed := true }
def FnExactSilentSinceUptoSaid : Prop := fnExactSilentSinceUptoRow.holds Try.pinned (OpenSpec.upto fnExactSilentSinceSpec)

/-- 'laws.FnExactEqualCaches', WHERE WHAT IT READS IS OF BULK AT MOST 1048576: true; the input reads as it did. -/
def fnExactEqualCachesUptoRow : OpenClaim := { program := "ytnnmfhhlebbmiaa", sum := "294753f8bf6b75583c90c09a366028203e9117c6e3f473a1f59061479df2bab8", func := "loop.example/g00588/laws.FnExactEqualCaches", spec := "fnExactEqualCaches", unfollowed := true, recurses := true, apart := false, narrowed := true }
def FnExactEqualCachesUptoSaid : Prop := fnExactEqualCachesUptoRow.holds Try.pinned (OpenSpec.upto fnExactEqualCachesSpec)

/-- 'laws.FnExactEqualBundles', WHERE WHAT IT READS IS OF BULK AT MOST 1048576: true; the input reads as it did. -/
def fnExactEqualBundlesUptoRow : OpenClaim := { program := "ytnnmfhhlebbmiaa", sum := "294753f8bf6b75583c90c09a366028203e9117c6e3f473a1f59061479df2bab8", func := "loop.example/g00588/laws.FnExactEqualBundles", spec := "fnExactEqualBundles", unfollowed := true, recurses := true, apart := false, narrowed := true }
def FnExactEqualBundlesUptoSaid : Prop := fnExactEqualBundlesUptoRow.holds Try.pinned (OpenSpec.upto fnExactEqualBundlesSpec)

end Rows
end Go.Proofs.Ytnnmfhhlebbmiaa
