/-
  No cell of these rows narrows 'for every input' (looked for: loops, veiled, ifaces, maps, wideKeys, modest, calm, conditions, laid).
  DERIVED. THE GIVEN ROWS OF THIS SEAT. 7 by the template 'for every input the law returns true; each argument reads behind the call as it read before'; 0 by the template 'total and deterministic' (their statements: YtnnmfhhlebbmiaaGreatTotals.lean).
  GIVEN WITH THE SEED: the statements are not yours to turn. If you find one false, say at which input.
  Laid BY PROGRAM, IN A SANDBOX (cutbox-rows.mjs): the forced cells as the released guide's own fill.sh prints them over the translation a3b84ae3bd3fb2dd… (all of the seat's roots in one cut). By AI agents, Wed Nov 11 2026. No macro, syntax, notation, axiom, sorry.
-/
import Derived.Test.YtnnmfhhlebbmiaaGreatChecked
import GoSem.Claim
import GoSem.ClaimJoined
import GoSem.ClaimMapViews
import Derived.JoinedTies
import Derived.KernelRfl
namespace Go.Proofs.YtnnmfhhlebbmiaaGreat
/- THE CELL 'sum', in the pinned program and in every row, IS THE sha256 OF THE DUMP (.gsa) THAT YtnnmfhhlebbmiaaGreatProg.lean LOADS. Nothing in Lean hashes anything: it is a label: what it is worth is what the hold of that sum in a sandbox is worth. -/
noncomputable def Tryz.pinned : Pinned := { name := "ytnnmfhhlebbmiaagreat", sum := "a3b84ae3bd3fb2dd6300d21d5dd95d7cce032d6f058f3d19af0322abb4220bfe", checked := Tryz.checked }
namespace Rows
def none {H : Type} : Left H := { results := [], args := [] }

/-- 'laws.FnExactIsKnown': WHATEVER THE INPUT: true; the input reads as it did. -/
def fnExactIsKnownSpec : ChangeSpec := { name := "fnExactIsKnown", fn := fun _ => fun
  | [d] => { results := [.lit (.bool true)], args := [d] }
  | _ => none }
def fnExactIsKnownRow : OpenClaim := { program := "ytnnmfhhlebbmiaagreat", sum := "a3b84ae3bd3fb2dd6300d21d5dd95d7cce032d6f058f3d19af0322abb4220bfe", func := "loop.example/g00588/laws.FnExactIsKnown", spec := "fnExactIsKnown", unfollowed := true, recurses := true, apart := false }
def FnExactIsKnownSaid : Prop := fnExactIsKnownRow.holds Tryz.pinned (OpenSpec.ofChange fnExactIsKnownSpec)

/-- ITS FALSE NEIGHBOUR: 'it returns false'. Refute it at one input. -/
def fnExactIsKnownWrong : ChangeSpec := { name := "fnExactIsKnown", fn := fun _ => fun
  | [d] => { results := [.lit (.bool false)], args := [d] }
  | _ => none }
def FnExactIsKnownWrongFalsely : Prop := fnExactIsKnownRow.holds Tryz.pinned (OpenSpec.ofChange fnExactIsKnownWrong)

/-- 'laws.FnExactMeet': WHATEVER THE INPUT: true; the input reads as it did. -/
def fnExactMeetSpec : ChangeSpec := { name := "fnExactMeet", fn := fun _ => fun
  | [d1, d2] => { results := [.lit (.bool true)], args := [d1, d2] }
  | _ => none }
def fnExactMeetRow : OpenClaim := { program := "ytnnmfhhlebbmiaagreat", sum := "a3b84ae3bd3fb2dd6300d21d5dd95d7cce032d6f058f3d19af0322abb4220bfe", func := "loop.example/g00588/laws.FnExactMeet", spec := "fnExactMeet", unfollowed := true, recurses := true, apart := false }
def FnExactMeetSaid : Prop := fnExactMeetRow.holds Tryz.pinned (OpenSpec.ofChange fnExactMeetSpec)

/-- ITS FALSE NEIGHBOUR: 'it returns false'. Refute it at one input. -/
def fnExactMeetWrong : ChangeSpec := { name := "fnExactMeet", fn := fun _ => fun
  | [d1, d2] => { results := [.lit (.bool false)], args := [d1, d2] }
  | _ => none }
def FnExactMeetWrongFalsely : Prop := fnExactMeetRow.holds Tryz.pinned (OpenSpec.ofChange fnExactMeetWrong)

/-- 'laws.FnExactEqualWalks': WHATEVER THE INPUT: true; the input reads as it did. -/
def fnExactEqualWalksSpec : ChangeSpec := { name := "fnExactEqualWalks", fn := fun _ => fun
  | [d1, d2] => { results := [.lit (.bool true)], args := [d1, d2] }
  | _ => none }
def fnExactEqualWalksRow : OpenClaim := { program := "ytnnmfhhlebbmiaagreat", sum := "a3b84ae3bd3fb2dd6300d21d5dd95d7cce032d6f058f3d19af0322abb4220bfe", func := "loop.example/g00588/laws.FnExactEqualWalks", spec := "fnExactEqualWalks", unfollowed := true, recurses := true, apart := false }
def FnExactEqualWalksSaid : Prop := fnExactEqualWalksRow.holds Tryz.pinned (OpenSpec.ofChange fnExactEqualWalksSpec)

/-- ITS FALSE NEIGHBOUR: 'it returns false'. Refute it at one input. -/
def fnExactEqualWalksWrong : ChangeSpec := { name := "fnExactEqualWalks", fn := fun _ => fun
  | [d1, d2] => { results := [.lit (.bool false)], args := [d1, d2] }
  | _ => none }
def FnExactEqualWalksWrongFalsely : Prop := fnExactEqualWalksRow.holds Tryz.pinned (OpenSpec.ofChange fnExactEqualWalksWrong)

/-- 'laws.FnExactLongestUntil': WHATEVER THE INPUT: true; the input reads as it did. -/
def fnExactLongestUntilSpec : ChangeSpec := { name := "fnExactLongestUntil", fn := fun _ => fun
  | [d] => { results := [.lit (.bool true)], args := [d] }
  | _ => none }
def fnExactLongestUntilRow : OpenClaim := { program := "ytnnmfhhlebbmiaagreat", sum := "a3b84ae3bd3fb2dd6300d21d5dd95d7cce032d6f058f3d19af0322abb4220bfe", func := "loop.example/g00588/laws.FnExactLongestUntil", spec := "fnExactLongestUntil", unfollowed := true, recurses := true, apart := false }
def FnExactLongestUntilSaid : Prop := fnExactLongestUntilRow.holds Tryz.pinned (OpenSpec.ofChange fnExactLongestUntilSpec)

/-- ITS FALSE NEIGHBOUR: 'it returns false'. Refute it at one input. -/
def fnExactLongestUntilWrong : ChangeSpec := { name := "fnExactLongestUntil", fn := fun _ => fun
  | [d] => { results := [.lit (.bool false)], args := [d] }
  | _ => none }
def FnExactLongestUntilWrongFalsely : Prop := fnExactLongestUntilRow.holds Tryz.pinned (OpenSpec.ofChange fnExactLongestUntilWrong)

/-- 'laws.FnExactLastsUntil': WHATEVER THE INPUT: true; the input reads as it did. -/
def fnExactLastsUntilSpec : ChangeSpec := { name := "fnExactLastsUntil", fn := fun _ => fun
  | [d] => { results := [.lit (.bool true)], args := [d] }
  | _ => none }
def fnExactLastsUntilRow : OpenClaim := { program := "ytnnmfhhlebbmiaagreat", sum := "a3b84ae3bd3fb2dd6300d21d5dd95d7cce032d6f058f3d19af0322abb4220bfe", func := "loop.example/g00588/laws.FnExactLastsUntil", spec := "fnExactLastsUntil", unfollowed := true, recurses := true, apart := false }
def FnExactLastsUntilSaid : Prop := fnExactLastsUntilRow.holds Tryz.pinned (OpenSpec.ofChange fnExactLastsUntilSpec)

/-- ITS FALSE NEIGHBOUR: 'it returns false'. Refute it at one input. -/
def fnExactLastsUntilWrong : ChangeSpec := { name := "fnExactLastsUntil", fn := fun _ => fun
  | [d] => { results := [.lit (.bool false)], args := [d] }
  | _ => none }
def FnExactLastsUntilWrongFalsely : Prop := fnExactLastsUntilRow.holds Tryz.pinned (OpenSpec.ofChange fnExactLastsUntilWrong)

/-- 'laws.FnExactAgeOf': WHATEVER THE INPUT: true; the input reads as it did. -/
def fnExactAgeOfSpec : ChangeSpec := { name := "fnExactAgeOf", fn := fun _ => fun
  | [d1, d2, d3, d4] => { results := [.lit (.bool true)], args := [d1, d2, d3, d4] }
  | _ => none }
def fnExactAgeOfRow : OpenClaim := { program := "ytnnmfhhlebbmiaagreat", sum := "a3b84ae3bd3fb2dd6300d21d5dd95d7cce032d6f058f3d19af0322abb4220bfe", func := "loop.example/g00588/laws.FnExactAgeOf", spec := "fnExactAgeOf", unfollowed := true, recurses := true, apart := false }
def FnExactAgeOfSaid : Prop := fnExactAgeOfRow.holds Tryz.pinned (OpenSpec.ofChange fnExactAgeOfSpec)

/-- ITS FALSE NEIGHBOUR: 'it returns false'. Refute it at one input. -/
def fnExactAgeOfWrong : ChangeSpec := { name := "fnExactAgeOf", fn := fun _ => fun
  | [d1, d2, d3, d4] => { results := [.lit (.bool false)], args := [d1, d2, d3, d4] }
  | _ => none }
def FnExactAgeOfWrongFalsely : Prop := fnExactAgeOfRow.holds Tryz.pinned (OpenSpec.ofChange fnExactAgeOfWrong)

/-- 'laws.FnExactIsCache': WHATEVER THE INPUT: true; the input reads as it did. -/
def fnExactIsCacheSpec : ChangeSpec := { name := "fnExactIsCache", fn := fun _ => fun
  | [d] => { results := [.lit (.bool true)], args := [d] }
  | _ => none }
def fnExactIsCacheRow : OpenClaim := { program := "ytnnmfhhlebbmiaagreat", sum := "a3b84ae3bd3fb2dd6300d21d5dd95d7cce032d6f058f3d19af0322abb4220bfe", func := "loop.example/g00588/laws.FnExactIsCache", spec := "fnExactIsCache", inPlace := ["internal/bytealg.abigen_runtime_cmpstring"], unfollowed := true, recurses := true, apart := false }
def FnExactIsCacheSaid : Prop := fnExactIsCacheRow.holds Tryz.pinned (OpenSpec.ofChange fnExactIsCacheSpec)

/-- ITS FALSE NEIGHBOUR: 'it returns false'. Refute it at one input. -/
def fnExactIsCacheWrong : ChangeSpec := { name := "fnExactIsCache", fn := fun _ => fun
  | [d] => { results := [.lit (.bool false)], args := [d] }
  | _ => none }
def FnExactIsCacheWrongFalsely : Prop := fnExactIsCacheRow.holds Tryz.pinned (OpenSpec.ofChange fnExactIsCacheWrong)

/- THE SECOND FORM. 'bulk': how many values and letters a reading holds, each counted each time it is reached (what is shared counts as often as it is met; a slice's spare places count too). A statement '..UptoSaid' is the law's where the arguments, and the package variables that the reading takes, are together of bulk at most 1048576: NARROWER than '..Said'. Prove '..Said' where nothing that the law and all that it calls make is longer than what came in: it says more and counts as full. Else prove '..UptoSaid'. A law counts once. -/
mutual
def uptoBulk {H : Type} : DataW H → Nat
  | .lit (.string bytes) => bytes.length + 1
  | .lit _ => 1
  | .nil => 1
  | .ptr d => uptoBulk d + 1
  | .slice elems spare => uptoBulkAll elems + uptoBulkAll spare + 1
  | .agg parts => uptoBulkAll parts + 1
  | .iface _ d => uptoBulk d + 1
  | .map entries => uptoBulkEntries entries + 1
  | .held _ => 1
def uptoBulkAll {H : Type} : List (DataW H) → Nat
  | [] => 0
  | d :: r => uptoBulk d + uptoBulkAll r
def uptoBulkEntries {H : Type} : List (Lit × DataW H) → Nat
  | [] => 0
  | x :: r => uptoBulkEntry x + uptoBulkEntries r
def uptoBulkEntry {H : Type} : Lit × DataW H → Nat
  | (.string bytes, d) => bytes.length + uptoBulk d + 1
  | (_, d) => uptoBulk d + 1
 end
def uptoSmall : (H : Type) → List (DataW H) → Bool := fun _ ds => decide (uptoBulkAll ds ≤ 1048576)
def OpenSpec.upto (s : _root_.Go.ChangeSpec) : _root_.Go.OpenSpec := { _root_.Go.OpenSpec.ofChange s with cond := some uptoSmall }

/-- 'laws.FnExactIsKnown', WHERE WHAT IT READS IS OF BULK AT MOST 1048576: true; the input reads as it did. -/
def fnExactIsKnownUptoRow : OpenClaim := { program := "ytnnmfhhlebbmiaagreat", sum := "a3b84ae3bd3fb2dd6300d21d5dd95d7cce032d6f058f3d19af0322abb4220bfe", func := "loop.example/g00588/laws.FnExactIsKnown", spec := "fnExactIsKnown", unfollowed := true, recurses := true, apart := false, narrowed := true }
def FnExactIsKnownUptoSaid : Prop := fnExactIsKnownUptoRow.holds Tryz.pinned (OpenSpec.upto fnExactIsKnownSpec)

/-- 'laws.FnExactMeet', WHERE WHAT IT READS IS OF BULK AT MOST 1048576: true; the input reads as it did. -/
def fnExactMeetUptoRow : OpenClaim := { program := "ytnnmfhhlebbmiaagreat", sum := "a3b84ae3bd3fb2dd6300d21d5dd95d7cce032d6f058f3d19af0322abb4220bfe", func := "loop.example/g00588/laws.FnExactMeet", spec := "fnExactMeet", unfollowed := true, recurses := true, apart := false, narrowed := true }
def FnExactMeetUptoSaid : Prop := fnExactMeetUptoRow.holds Tryz.pinned (OpenSpec.upto fnExactMeetSpec)

/-- 'laws.FnExactEqualWalks', WHERE WHAT IT READS IS OF BULK AT MOST 1048576: true; the input reads as it did. -/
def fnExactEqualWalksUptoRow : OpenClaim := { program := "ytnnmfhhlebbmiaagreat", sum := "a3b84ae3bd3fb2dd6300d21d5dd95d7cce032d6f058f3d19af0322abb4220bfe", func := "loop.example/g00588/laws.FnExactEqualWalks", spec := "fnExactEqualWalks", unfollowed := true, recurses := true, apart := false, narrowed := true }
def FnExactEqualWalksUptoSaid : Prop := fnExactEqualWalksUptoRow.holds Tryz.pinned (OpenSpec.upto fnExactEqualWalksSpec)

/-- 'laws.FnExactLongestUntil', WHERE WHAT IT READS IS OF BULK AT MOST 1048576: true; the input reads as it did. -/
def fnExactLongestUntilUptoRow : OpenClaim := { program := "ytnnmfhhlebbmiaagreat", sum := "a3b84ae3bd3fb2dd6300d21d5dd95d7cce032d6f058f3d19af0322abb4220bfe", func := "loop.example/g00588/laws.FnExactLongestUntil", spec := "fnExactLongestUntil", unfollowed := true, recurses := true, apart := false, narrowed := true }
def FnExactLongestUntilUptoSaid : Prop := fnExactLongestUntilUptoRow.holds Tryz.pinned (OpenSpec.upto fnExactLongestUntilSpec)

/-- 'laws.FnExactLastsUntil', WHERE WHAT IT READS IS OF BULK AT MOST 1048576: true; the input reads as it did. -/
def fnExactLastsUntilUptoRow : OpenClaim := { program := "ytnnmfhhlebbmiaagreat", sum := "a3b84ae3bd3fb2dd6300d21d5dd95d7cce032d6f058f3d19af0322abb4220bfe", func := "loop.example/g00588/laws.FnExactLastsUntil", spec := "fnExactLastsUntil", unfollowed := true, recurses := true, apart := false, narrowed := true }
def FnExactLastsUntilUptoSaid : Prop := fnExactLastsUntilUptoRow.holds Tryz.pinned (OpenSpec.upto fnExactLastsUntilSpec)

/-- 'laws.FnExactAgeOf', WHERE WHAT IT READS IS OF BULK AT MOST 1048576: true; the input reads as it did. -/
def fnExactAgeOfUptoRow : OpenClaim := { program := "ytnnmfhhlebbmiaagreat", sum := "a3b84ae3bd3fb2dd6300d21d5dd95d7cce032d6f058f3d19af0322abb4220bfe", func := "loop.example/g00588/laws.FnExactAgeOf", spec := "fnExactAgeOf", unfollowed := true, recurses := true, apart := false, narrowed := true }
def FnExactAgeOfUptoSaid : Prop := fnExactAgeOfUptoRow.holds Tryz.pinned (OpenSpec.upto fnExactAgeOfSpec)

/-- 'laws.FnExactIsCache', WHERE WHAT IT READS IS OF BULK AT MOST 1048576: true; the input reads as it did. -/
def fnExactIsCacheUptoRow : OpenClaim := { program := "ytnnmfhhlebbmiaagreat", sum := "a3b84ae3bd3fb2dd6300d21d5dd95d7cce032d6f058f3d19af0322abb4220bfe", func := "loop.example/g00588/laws.FnExactIsCache", spec := "fnExactIsCache", inPlace := ["internal/bytealg.abigen_runtime_cmpstring"], unfollowed := true, recurses := true, apart := false, narrowed := true }
def FnExactIsCacheUptoSaid : Prop := fnExactIsCacheUptoRow.holds Tryz.pinned (OpenSpec.upto fnExactIsCacheSpec)

end Rows
end Go.Proofs.YtnnmfhhlebbmiaaGreat
