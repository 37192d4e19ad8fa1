/-
  No cell of these rows narrows 'for every input' (looked for: loops, veiled, ifaces, maps, wideKeys, modest, calm, conditions, laid).
  DERIVED. THE GIVEN ROWS OF THIS SEAT. 7 by the template 'for every input the law returns true; each argument reads behind the call as it read before'; 0 by the template 'total and deterministic' (their statements: YtfghhicdmjiaaaaTotals.lean).
  GIVEN WITH THE SEED: the statements are not yours to turn. If you find one false, say at which input.
  Laid BY PROGRAM, IN A SANDBOX (cutbox-rows.mjs): the forced cells as the released guide's own fill.sh prints them over the translation 1f752f1d12074cb7… (all of the seat's roots in one cut). By AI agents, Wed Nov 11 2026. No macro, syntax, notation, axiom, sorry.
-/
import Derived.Test.YtfghhicdmjiaaaaChecked
import GoSem.Claim
import GoSem.ClaimJoined
import GoSem.ClaimMapViews
import Derived.JoinedTies
import Derived.KernelRfl
namespace Go.Proofs.Ytfghhicdmjiaaaa
/- THE CELL 'sum', in the pinned program and in every row, IS THE sha256 OF THE DUMP (.gsa) THAT YtfghhicdmjiaaaaProg.lean LOADS. Nothing in Lean hashes anything: it is a label: what it is worth is what the hold of that sum in a sandbox is worth. -/
noncomputable def Try.pinned : Pinned := { name := "ytfghhicdmjiaaaa", sum := "1f752f1d12074cb702c5cf1917fe3e6706bbc1d0dbc207f690c043d73b6c4052", checked := Try.checked }
namespace Rows
def none {H : Type} : Left H := { results := [], args := [] }

/-- 'laws.FnExactAreRoots': WHATEVER THE INPUT: true; the input reads as it did. -/
def fnExactAreRootsSpec : ChangeSpec := { name := "fnExactAreRoots", fn := fun _ => fun
  | [d] => { results := [.lit (.bool true)], args := [d] }
  | _ => none }
def fnExactAreRootsRow : OpenClaim := { program := "ytfghhicdmjiaaaa", sum := "1f752f1d12074cb702c5cf1917fe3e6706bbc1d0dbc207f690c043d73b6c4052", func := "loop.example/g00588/laws.FnExactAreRoots", spec := "fnExactAreRoots", apart := false }
def FnExactAreRootsSaid : Prop := fnExactAreRootsRow.holds Try.pinned (OpenSpec.ofChange fnExactAreRootsSpec)

/-- ITS FALSE NEIGHBOUR: 'it returns false'. Refute it at one input. -/
def fnExactAreRootsWrong : ChangeSpec := { name := "fnExactAreRoots", fn := fun _ => fun
  | [d] => { results := [.lit (.bool false)], args := [d] }
  | _ => none }
def FnExactAreRootsWrongFalsely : Prop := fnExactAreRootsRow.holds Try.pinned (OpenSpec.ofChange fnExactAreRootsWrong)

/-- 'laws.FnExactDropPet': WHATEVER THE INPUT: true; the input reads as it did. -/
def fnExactDropPetSpec : ChangeSpec := { name := "fnExactDropPet", fn := fun _ => fun
  | [d1, d2] => { results := [.lit (.bool true)], args := [d1, d2] }
  | _ => none }
def fnExactDropPetRow : OpenClaim := { program := "ytfghhicdmjiaaaa", sum := "1f752f1d12074cb702c5cf1917fe3e6706bbc1d0dbc207f690c043d73b6c4052", func := "loop.example/g00588/laws.FnExactDropPet", spec := "fnExactDropPet", inPlace := ["internal/bytealg.abigen_runtime_cmpstring"], unfollowed := true, recurses := true, apart := false }
def FnExactDropPetSaid : Prop := fnExactDropPetRow.holds Try.pinned (OpenSpec.ofChange fnExactDropPetSpec)

/-- ITS FALSE NEIGHBOUR: 'it returns false'. Refute it at one input. -/
def fnExactDropPetWrong : ChangeSpec := { name := "fnExactDropPet", fn := fun _ => fun
  | [d1, d2] => { results := [.lit (.bool false)], args := [d1, d2] }
  | _ => none }
def FnExactDropPetWrongFalsely : Prop := fnExactDropPetRow.holds Try.pinned (OpenSpec.ofChange fnExactDropPetWrong)

/-- 'laws.FnExactPutChoice': WHATEVER THE INPUT: true; the input reads as it did. -/
def fnExactPutChoiceSpec : ChangeSpec := { name := "fnExactPutChoice", fn := fun _ => fun
  | [d1, d2, d3] => { results := [.lit (.bool true)], args := [d1, d2, d3] }
  | _ => none }
def fnExactPutChoiceRow : OpenClaim := { program := "ytfghhicdmjiaaaa", sum := "1f752f1d12074cb702c5cf1917fe3e6706bbc1d0dbc207f690c043d73b6c4052", func := "loop.example/g00588/laws.FnExactPutChoice", spec := "fnExactPutChoice", unfollowed := true, recurses := true, apart := false }
def FnExactPutChoiceSaid : Prop := fnExactPutChoiceRow.holds Try.pinned (OpenSpec.ofChange fnExactPutChoiceSpec)

/-- ITS FALSE NEIGHBOUR: 'it returns false'. Refute it at one input. -/
def fnExactPutChoiceWrong : ChangeSpec := { name := "fnExactPutChoice", fn := fun _ => fun
  | [d1, d2, d3] => { results := [.lit (.bool false)], args := [d1, d2, d3] }
  | _ => none }
def FnExactPutChoiceWrongFalsely : Prop := fnExactPutChoiceRow.holds Try.pinned (OpenSpec.ofChange fnExactPutChoiceWrong)

/-- 'laws.FnExactDoAgree': WHATEVER THE INPUT: true; the input reads as it did. -/
def fnExactDoAgreeSpec : ChangeSpec := { name := "fnExactDoAgree", fn := fun _ => fun
  | [d] => { results := [.lit (.bool true)], args := [d] }
  | _ => none }
def fnExactDoAgreeRow : OpenClaim := { program := "ytfghhicdmjiaaaa", sum := "1f752f1d12074cb702c5cf1917fe3e6706bbc1d0dbc207f690c043d73b6c4052", func := "loop.example/g00588/laws.FnExactDoAgree", spec := "fnExactDoAgree", apart := false }
def FnExactDoAgreeSaid : Prop := fnExactDoAgreeRow.holds Try.pinned (OpenSpec.ofChange fnExactDoAgreeSpec)

/-- ITS FALSE NEIGHBOUR: 'it returns false'. Refute it at one input. -/
def fnExactDoAgreeWrong : ChangeSpec := { name := "fnExactDoAgree", fn := fun _ => fun
  | [d] => { results := [.lit (.bool false)], args := [d] }
  | _ => none }
def FnExactDoAgreeWrongFalsely : Prop := fnExactDoAgreeRow.holds Try.pinned (OpenSpec.ofChange fnExactDoAgreeWrong)

/-- 'laws.FnExactGroupsOf': WHATEVER THE INPUT: true; the input reads as it did. -/
def fnExactGroupsOfSpec : ChangeSpec := { name := "fnExactGroupsOf", fn := fun _ => fun
  | [d] => { results := [.lit (.bool true)], args := [d] }
  | _ => none }
def fnExactGroupsOfRow : OpenClaim := { program := "ytfghhicdmjiaaaa", sum := "1f752f1d12074cb702c5cf1917fe3e6706bbc1d0dbc207f690c043d73b6c4052", func := "loop.example/g00588/laws.FnExactGroupsOf", spec := "fnExactGroupsOf", apart := false }
def FnExactGroupsOfSaid : Prop := fnExactGroupsOfRow.holds Try.pinned (OpenSpec.ofChange fnExactGroupsOfSpec)

/-- ITS FALSE NEIGHBOUR: 'it returns false'. Refute it at one input. -/
def fnExactGroupsOfWrong : ChangeSpec := { name := "fnExactGroupsOf", fn := fun _ => fun
  | [d] => { results := [.lit (.bool false)], args := [d] }
  | _ => none }
def FnExactGroupsOfWrongFalsely : Prop := fnExactGroupsOfRow.holds Try.pinned (OpenSpec.ofChange fnExactGroupsOfWrong)

/-- 'laws.FnExactDisputed': WHATEVER THE INPUT: true; the input reads as it did. -/
def fnExactDisputedSpec : ChangeSpec := { name := "fnExactDisputed", fn := fun _ => fun
  | [d] => { results := [.lit (.bool true)], args := [d] }
  | _ => none }
def fnExactDisputedRow : OpenClaim := { program := "ytfghhicdmjiaaaa", sum := "1f752f1d12074cb702c5cf1917fe3e6706bbc1d0dbc207f690c043d73b6c4052", func := "loop.example/g00588/laws.FnExactDisputed", spec := "fnExactDisputed", apart := false }
def FnExactDisputedSaid : Prop := fnExactDisputedRow.holds Try.pinned (OpenSpec.ofChange fnExactDisputedSpec)

/-- ITS FALSE NEIGHBOUR: 'it returns false'. Refute it at one input. -/
def fnExactDisputedWrong : ChangeSpec := { name := "fnExactDisputed", fn := fun _ => fun
  | [d] => { results := [.lit (.bool false)], args := [d] }
  | _ => none }
def FnExactDisputedWrongFalsely : Prop := fnExactDisputedRow.holds Try.pinned (OpenSpec.ofChange fnExactDisputedWrong)

/-- 'laws.FnExactDecide': WHATEVER THE INPUT: true; the input reads as it did. -/
def fnExactDecideSpec : ChangeSpec := { name := "fnExactDecide", fn := fun _ => fun
  | [d1, d2, d3] => { results := [.lit (.bool true)], args := [d1, d2, d3] }
  | _ => none }
def fnExactDecideRow : OpenClaim := { program := "ytfghhicdmjiaaaa", sum := "1f752f1d12074cb702c5cf1917fe3e6706bbc1d0dbc207f690c043d73b6c4052", func := "loop.example/g00588/laws.FnExactDecide", spec := "fnExactDecide", unfollowed := true, recurses := true, apart := false }
def FnExactDecideSaid : Prop := fnExactDecideRow.holds Try.pinned (OpenSpec.ofChange fnExactDecideSpec)

/-- ITS FALSE NEIGHBOUR: 'it returns false'. Refute it at one input. -/
def fnExactDecideWrong : ChangeSpec := { name := "fnExactDecide", fn := fun _ => fun
  | [d1, d2, d3] => { results := [.lit (.bool false)], args := [d1, d2, d3] }
  | _ => none }
def FnExactDecideWrongFalsely : Prop := fnExactDecideRow.holds Try.pinned (OpenSpec.ofChange fnExactDecideWrong)

/- THE SECOND FORM. 'bulk': how many values and letters a reading holds, each counted each time it is reached (what is shared counts as often as it is met; a slice's spare places count too). A statement '..UptoSaid' is the law's where the arguments, and the package variables that the reading takes, are together of bulk at most 1048576: NARROWER than '..Said'. Prove '..Said' where nothing that the law and all that it calls make is longer than what came in: it says more and counts as full. Else prove '..UptoSaid'. A law counts once. -/
mutual
def uptoBulk {H : Type} : DataW H → Nat
  | .lit (.string bytes) => bytes.length + 1
  | .lit _ => 1
  | .nil => 1
  | .ptr d => uptoBulk d + 1
  | .slice elems spare => uptoBulkAll elems + uptoBulkAll spare + 1
  | .agg parts => uptoBulkAll parts + 1
  | .iface _ d => uptoBulk d + 1
  | .map entries => uptoBulkEntries entries + 1
  | .held _ => 1
def uptoBulkAll {H : Type} : List (DataW H) → Nat
  | [] => 0
  | d :: r => uptoBulk d + uptoBulkAll r
def uptoBulkEntries {H : Type} : List (Lit × DataW H) → Nat
  | [] => 0
  | x :: r => uptoBulkEntry x + uptoBulkEntries r
def uptoBulkEntry {H : Type} : Lit × DataW H → Nat
  | (.string bytes, d) => bytes.length + uptoBulk d + 1
  | (_, d) => uptoBulk d + 1
 end
def uptoSmall : (H : Type) → List (DataW H) → Bool := fun _ ds => decide (uptoBulkAll ds ≤ 1048576)
def OpenSpec.upto (s : _root_.Go.ChangeSpec) : _root_.Go.OpenSpec := { _root_.Go.OpenSpec.ofChange s with cond := some uptoSmall }

/-- 'laws.FnExactAreRoots', WHERE WHAT IT READS IS OF BULK AT MOST 1048576: true; the input reads as it did. -/
def fnExactAreRootsUptoRow : OpenClaim := { program := "ytfghhicdmjiaaaa", sum := "1f752f1d12074cb702c5cf1917fe3e6706bbc1d0dbc207f690c043d73b6c4052", func := "loop.example/g00588/laws.FnExactAreRoots", spec := "fnExactAreRoots", apart := false, narrowed := true }
def FnExactAreRootsUptoSaid : Prop := fnExactAreRootsUptoRow.holds Try.pinned (OpenSpec.upto fnExactAreRootsSpec)

/-- 'laws.FnExactDropPet', WHERE WHAT IT READS IS OF BULK AT MOST 1048576: true; the input reads as it did. -/
def fnExactDropPetUptoRow : OpenClaim := { program := "ytfghhicdmjiaaaa", sum := "1f752f1d12074cb702c5cf1917fe3e6706bbc1d0dbc207f690c043d73b6c4052", func := "loop.example/g00588/laws.FnExactDropPet", spec := "fnExactDropPet", inPlace := ["internal/bytealg.abigen_runtime_cmpstring"], unfollowed := true, recurses := true, apart := false, narrowed := true }
def FnExactDropPetUptoSaid : Prop := fnExactDropPetUptoRow.holds Try.pinned (OpenSpec.upto fnExactDropPetSpec)

/-- 'laws.FnExactPutChoice', WHERE WHAT IT READS IS OF BULK AT MOST 1048576: true; the input reads as it did. -/
def fnExactPutChoiceUptoRow : OpenClaim := { program := "ytfghhicdmjiaaaa", sum := "1f752f1d12074cb702c5cf1917fe3e6706bbc1d0dbc207f690c043d73b6c4052", func := "loop.example/g00588/laws.FnExactPutChoice", spec := "fnExactPutChoice", unfollowed := true, recurses := true, apart := false, narrowed := true }
def FnExactPutChoiceUptoSaid : Prop := fnExactPutChoiceUptoRow.holds Try.pinned (OpenSpec.upto fnExactPutChoiceSpec)

/-- 'laws.FnExactDoAgree', WHERE WHAT IT READS IS OF BULK AT MOST 1048576: true; the input reads as it did. -/
def fnExactDoAgreeUptoRow : OpenClaim := { program := "ytfghhicdmjiaaaa", sum := "1f752f1d12074cb702c5cf1917fe3e6706bbc1d0dbc207f690c043d73b6c4052", func := "loop.example/g00588/laws.FnExactDoAgree", spec := "fnExactDoAgree", apart := false, narrowed := true }
def FnExactDoAgreeUptoSaid : Prop := fnExactDoAgreeUptoRow.holds Try.pinned (OpenSpec.upto fnExactDoAgreeSpec)

/-- 'laws.FnExactGroupsOf', WHERE WHAT IT READS IS OF BULK AT MOST 1048576: true; the input reads as it did. -/
def fnExactGroupsOfUptoRow : OpenClaim := { program := "ytfghhicdmjiaaaa", sum := "1f752f1d12074cb702c5cf1917fe3e6706bbc1d0dbc207f690c043d73b6c4052", func := "loop.example/g00588/laws.FnExactGroupsOf", spec := "fnExactGroupsOf", apart := false, narrowed := true }
def FnExactGroupsOfUptoSaid : Prop := fnExactGroupsOfUptoRow.holds Try.pinned (OpenSpec.upto fnExactGroupsOfSpec)

/-- 'laws.FnExactDisputed', WHERE WHAT IT READS IS OF BULK AT MOST 1048576: true; the input reads as it did. -/
def fnExactDisputedUptoRow : OpenClaim := { program := "ytfghhicdmjiaaaa", sum := "1f752f1d12074cb702c5cf1917fe3e6706bbc1d0dbc207f690c043d73b6c4052", func := "loop.example/g00588/laws.FnExactDisputed", spec := "fnExactDisputed", apart := false, narrowed := true }
def FnExactDisputedUptoSaid : Prop := fnExactDisputedUptoRow.holds Try.pinned (OpenSpec.upto fnExactDisputedSpec)

/-- 'laws.FnExactDecide', WHERE WHAT IT READS IS OF BULK AT MOST 1048576: true; the input reads as it did. -/
def fnExactDecideUptoRow : OpenClaim := { program := "ytfghhicdmjiaaaa", sum := "1f752f1d12074cb702c5cf1917fe3e6706bbc1d0dbc207f690c043d73b6c4052", func := "loop.example/g00588/laws.FnExactDecide", spec := "fnExactDecide", unfollowed := true, recurses := true, apart := false, narrowed := true }
def FnExactDecideUptoSaid : Prop := fnExactDecideUptoRow.holds Try.pinned (OpenSpec.upto fnExactDecideSpec)

end Rows
end Go.Proofs.Ytfghhicdmjiaaaa
