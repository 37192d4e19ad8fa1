/-
  No cell of these rows narrows 'for every input' (looked for: loops, veiled, ifaces, maps, wideKeys, modest, calm, conditions, laid).
  DERIVED. THE GIVEN ROWS OF THIS SEAT. 6 by the template 'for every input the law returns true; each argument reads behind the call as it read before'; 0 by the template 'total and deterministic' (their statements: YtdlcaendoaadbaaTotals.lean).
  GIVEN WITH THE SEED: the statements are not yours to turn. If you find one false, say at which input.
  Laid BY PROGRAM, IN A SANDBOX (cutbox-rows.mjs): the forced cells as the released guide's own fill.sh prints them over the translation d97f659fc15978b3… (all of the seat's roots in one cut). By AI agents, Wed Nov 11 2026. No macro, syntax, notation, axiom, sorry.
-/
import Derived.Test.YtdlcaendoaadbaaChecked
import GoSem.Claim
import GoSem.ClaimJoined
import GoSem.ClaimMapViews
import Derived.JoinedTies
import Derived.KernelRfl
namespace Go.Proofs.Ytdlcaendoaadbaa
/- THE CELL 'sum', in the pinned program and in every row, IS THE sha256 OF THE DUMP (.gsa) THAT YtdlcaendoaadbaaProg.lean LOADS. Nothing in Lean hashes anything: it is a label: what it is worth is what the hold of that sum in a sandbox is worth. -/
noncomputable def Try.pinned : Pinned := { name := "ytdlcaendoaadbaa", sum := "d97f659fc15978b32b0e256b543b15f9601433ff24fd9bcd7b2944076991489f", checked := Try.checked }
namespace Rows
def none {H : Type} : Left H := { results := [], args := [] }

/-- 'laws.FnExactDecisionName': WHATEVER THE INPUT: true; the input reads as it did. -/
def fnExactDecisionNameSpec : ChangeSpec := { name := "fnExactDecisionName", fn := fun _ => fun
  | [d] => { results := [.lit (.bool true)], args := [d] }
  | _ => none }
def fnExactDecisionNameRow : OpenClaim := { program := "ytdlcaendoaadbaa", sum := "d97f659fc15978b32b0e256b543b15f9601433ff24fd9bcd7b2944076991489f", func := "loop.example/g00588/laws.FnExactDecisionName", spec := "fnExactDecisionName", apart := false }
def FnExactDecisionNameSaid : Prop := fnExactDecisionNameRow.holds Try.pinned (OpenSpec.ofChange fnExactDecisionNameSpec)

/-- ITS FALSE NEIGHBOUR: 'it returns false'. Refute it at one input. -/
def fnExactDecisionNameWrong : ChangeSpec := { name := "fnExactDecisionName", fn := fun _ => fun
  | [d] => { results := [.lit (.bool false)], args := [d] }
  | _ => none }
def FnExactDecisionNameWrongFalsely : Prop := fnExactDecisionNameRow.holds Try.pinned (OpenSpec.ofChange fnExactDecisionNameWrong)

/-- 'laws.FnExactPetOf': WHATEVER THE INPUT: true; the input reads as it did. -/
def fnExactPetOfSpec : ChangeSpec := { name := "fnExactPetOf", fn := fun _ => fun
  | [d1, d2] => { results := [.lit (.bool true)], args := [d1, d2] }
  | _ => none }
def fnExactPetOfRow : OpenClaim := { program := "ytdlcaendoaadbaa", sum := "d97f659fc15978b32b0e256b543b15f9601433ff24fd9bcd7b2944076991489f", func := "loop.example/g00588/laws.FnExactPetOf", spec := "fnExactPetOf", apart := false }
def FnExactPetOfSaid : Prop := fnExactPetOfRow.holds Try.pinned (OpenSpec.ofChange fnExactPetOfSpec)

/-- ITS FALSE NEIGHBOUR: 'it returns false'. Refute it at one input. -/
def fnExactPetOfWrong : ChangeSpec := { name := "fnExactPetOf", fn := fun _ => fun
  | [d1, d2] => { results := [.lit (.bool false)], args := [d1, d2] }
  | _ => none }
def FnExactPetOfWrongFalsely : Prop := fnExactPetOfRow.holds Try.pinned (OpenSpec.ofChange fnExactPetOfWrong)

/-- 'laws.FnExactFindPet': WHATEVER THE INPUT: true; the input reads as it did. -/
def fnExactFindPetSpec : ChangeSpec := { name := "fnExactFindPet", fn := fun _ => fun
  | [d1, d2] => { results := [.lit (.bool true)], args := [d1, d2] }
  | _ => none }
def fnExactFindPetRow : OpenClaim := { program := "ytdlcaendoaadbaa", sum := "d97f659fc15978b32b0e256b543b15f9601433ff24fd9bcd7b2944076991489f", func := "loop.example/g00588/laws.FnExactFindPet", spec := "fnExactFindPet", unfollowed := true, recurses := true, apart := false }
def FnExactFindPetSaid : Prop := fnExactFindPetRow.holds Try.pinned (OpenSpec.ofChange fnExactFindPetSpec)

/-- ITS FALSE NEIGHBOUR: 'it returns false'. Refute it at one input. -/
def fnExactFindPetWrong : ChangeSpec := { name := "fnExactFindPet", fn := fun _ => fun
  | [d1, d2] => { results := [.lit (.bool false)], args := [d1, d2] }
  | _ => none }
def FnExactFindPetWrongFalsely : Prop := fnExactFindPetRow.holds Try.pinned (OpenSpec.ofChange fnExactFindPetWrong)

/-- 'laws.FnExactAreRoots': WHATEVER THE INPUT: true; the input reads as it did. -/
def fnExactAreRootsSpec : ChangeSpec := { name := "fnExactAreRoots", fn := fun _ => fun
  | [d] => { results := [.lit (.bool true)], args := [d] }
  | _ => none }
def fnExactAreRootsRow : OpenClaim := { program := "ytdlcaendoaadbaa", sum := "d97f659fc15978b32b0e256b543b15f9601433ff24fd9bcd7b2944076991489f", func := "loop.example/g00588/laws.FnExactAreRoots", spec := "fnExactAreRoots", apart := false }
def FnExactAreRootsSaid : Prop := fnExactAreRootsRow.holds Try.pinned (OpenSpec.ofChange fnExactAreRootsSpec)

/-- ITS FALSE NEIGHBOUR: 'it returns false'. Refute it at one input. -/
def fnExactAreRootsWrong : ChangeSpec := { name := "fnExactAreRoots", fn := fun _ => fun
  | [d] => { results := [.lit (.bool false)], args := [d] }
  | _ => none }
def FnExactAreRootsWrongFalsely : Prop := fnExactAreRootsRow.holds Try.pinned (OpenSpec.ofChange fnExactAreRootsWrong)

/-- 'laws.FnExactAreNames': WHATEVER THE INPUT: true; the input reads as it did. -/
def fnExactAreNamesSpec : ChangeSpec := { name := "fnExactAreNames", fn := fun _ => fun
  | [d] => { results := [.lit (.bool true)], args := [d] }
  | _ => none }
def fnExactAreNamesRow : OpenClaim := { program := "ytdlcaendoaadbaa", sum := "d97f659fc15978b32b0e256b543b15f9601433ff24fd9bcd7b2944076991489f", func := "loop.example/g00588/laws.FnExactAreNames", spec := "fnExactAreNames", inPlace := ["internal/bytealg.abigen_runtime_cmpstring"], apart := false }
def FnExactAreNamesSaid : Prop := fnExactAreNamesRow.holds Try.pinned (OpenSpec.ofChange fnExactAreNamesSpec)

/-- ITS FALSE NEIGHBOUR: 'it returns false'. Refute it at one input. -/
def fnExactAreNamesWrong : ChangeSpec := { name := "fnExactAreNames", fn := fun _ => fun
  | [d] => { results := [.lit (.bool false)], args := [d] }
  | _ => none }
def FnExactAreNamesWrongFalsely : Prop := fnExactAreNamesRow.holds Try.pinned (OpenSpec.ofChange fnExactAreNamesWrong)

/-- 'laws.FnExactIsUsable': WHATEVER THE INPUT: true; the input reads as it did. -/
def fnExactIsUsableSpec : ChangeSpec := { name := "fnExactIsUsable", fn := fun _ => fun
  | [d] => { results := [.lit (.bool true)], args := [d] }
  | _ => none }
def fnExactIsUsableRow : OpenClaim := { program := "ytdlcaendoaadbaa", sum := "d97f659fc15978b32b0e256b543b15f9601433ff24fd9bcd7b2944076991489f", func := "loop.example/g00588/laws.FnExactIsUsable", spec := "fnExactIsUsable", apart := false }
def FnExactIsUsableSaid : Prop := fnExactIsUsableRow.holds Try.pinned (OpenSpec.ofChange fnExactIsUsableSpec)

/-- ITS FALSE NEIGHBOUR: 'it returns false'. Refute it at one input. -/
def fnExactIsUsableWrong : ChangeSpec := { name := "fnExactIsUsable", fn := fun _ => fun
  | [d] => { results := [.lit (.bool false)], args := [d] }
  | _ => none }
def FnExactIsUsableWrongFalsely : Prop := fnExactIsUsableRow.holds Try.pinned (OpenSpec.ofChange fnExactIsUsableWrong)

/- THE SECOND FORM. 'bulk': how many values and letters a reading holds, each counted each time it is reached (what is shared counts as often as it is met; a slice's spare places count too). A statement '..UptoSaid' is the law's where the arguments, and the package variables that the reading takes, are together of bulk at most 1048576: NARROWER than '..Said'. Prove '..Said' where nothing that the law and all that it calls make is longer than what came in: it says more and counts as full. Else prove '..UptoSaid'. A law counts once. -/
mutual
def uptoBulk {H : Type} : DataW H → Nat
  | .lit (.string bytes) => bytes.length + 1
  | .lit _ => 1
  | .nil => 1
  | .ptr d => uptoBulk d + 1
  | .slice elems spare => uptoBulkAll elems + uptoBulkAll spare + 1
  | .agg parts => uptoBulkAll parts + 1
  | .iface _ d => uptoBulk d + 1
  | .map entries => uptoBulkEntries entries + 1
  | .held _ => 1
def uptoBulkAll {H : Type} : List (DataW H) → Nat
  | [] => 0
  | d :: r => uptoBulk d + uptoBulkAll r
def uptoBulkEntries {H : Type} : List (Lit × DataW H) → Nat
  | [] => 0
  | x :: r => uptoBulkEntry x + uptoBulkEntries r
def uptoBulkEntry {H : Type} : Lit × DataW H → Nat
  | (.string bytes, d) => bytes.length + uptoBulk d + 1
  | (_, d) => uptoBulk d + 1
 end
def uptoSmall : (H : Type) → List (DataW H) → Bool := fun _ ds => decide (uptoBulkAll ds ≤ 1048576)
def OpenSpec.upto (s : _root_.Go.ChangeSpec) : _root_.Go.OpenSpec := { _root_.Go.OpenSpec.ofChange s with cond := some uptoSmall }

/-- 'laws.FnExactDecisionName', WHERE WHAT IT READS IS OF BULK AT MOST 1048576: true; the input reads as it did. -/
def fnExactDecisionNameUptoRow : OpenClaim := { program := "ytdlcaendoaadbaa", sum := "d97f659fc15978b32b0e256b543b15f9601433ff24fd9bcd7b2944076991489f", func := "loop.example/g00588/laws.FnExactDecisionName", spec := "fnExactDecisionName", apart := false, narrowed := true }
def FnExactDecisionNameUptoSaid : Prop := fnExactDecisionNameUptoRow.holds Try.pinned (OpenSpec.upto fnExactDecisionNameSpec)

/-- 'laws.FnExactPetOf', WHERE WHAT IT READS IS OF BULK AT MOST 1048576: true; the input reads as it did. -/
def fnExactPetOfUptoRow : OpenClaim := { program := "ytdlcaendoaadbaa", sum := "d97f659fc15978b32b0e256b543b15f9601433ff24fd9bcd7b2944076991489f", func := "loop.example/g00588/laws.FnExactPetOf", spec := "fnExactPetOf", apart := false, narrowed := true }
def FnExactPetOfUptoSaid : Prop := fnExactPetOfUptoRow.holds Try.pinned (OpenSpec.upto fnExactPetOfSpec)

/-- 'laws.FnExactFindPet', WHERE WHAT IT READS IS OF BULK AT MOST 1048576: true; the input reads as it did. -/
def fnExactFindPetUptoRow : OpenClaim := { program := "ytdlcaendoaadbaa", sum := "d97f659fc15978b32b0e256b543b15f9601433ff24fd9bcd7b2944076991489f", func := "loop.example/g00588/laws.FnExactFindPet", spec := "fnExactFindPet", unfollowed := true, recurses := true, apart := false, narrowed := true }
def FnExactFindPetUptoSaid : Prop := fnExactFindPetUptoRow.holds Try.pinned (OpenSpec.upto fnExactFindPetSpec)

/-- 'laws.FnExactAreRoots', WHERE WHAT IT READS IS OF BULK AT MOST 1048576: true; the input reads as it did. -/
def fnExactAreRootsUptoRow : OpenClaim := { program := "ytdlcaendoaadbaa", sum := "d97f659fc15978b32b0e256b543b15f9601433ff24fd9bcd7b2944076991489f", func := "loop.example/g00588/laws.FnExactAreRoots", spec := "fnExactAreRoots", apart := false, narrowed := true }
def FnExactAreRootsUptoSaid : Prop := fnExactAreRootsUptoRow.holds Try.pinned (OpenSpec.upto fnExactAreRootsSpec)

/-- 'laws.FnExactAreNames', WHERE WHAT IT READS IS OF BULK AT MOST 1048576: true; the input reads as it did. -/
def fnExactAreNamesUptoRow : OpenClaim := { program := "ytdlcaendoaadbaa", sum := "d97f659fc15978b32b0e256b543b15f9601433ff24fd9bcd7b2944076991489f", func := "loop.example/g00588/laws.FnExactAreNames", spec := "fnExactAreNames", inPlace := ["internal/bytealg.abigen_runtime_cmpstring"], apart := false, narrowed := true }
def FnExactAreNamesUptoSaid : Prop := fnExactAreNamesUptoRow.holds Try.pinned (OpenSpec.upto fnExactAreNamesSpec)

/-- 'laws.FnExactIsUsable', WHERE WHAT IT READS IS OF BULK AT MOST 1048576: true; the input reads as it did. -/
def fnExactIsUsableUptoRow : OpenClaim := { program := "ytdlcaendoaadbaa", sum := "d97f659fc15978b32b0e256b543b15f9601433ff24fd9bcd7b2944076991489f", func := "loop.example/g00588/laws.FnExactIsUsable", spec := "fnExactIsUsable", apart := false, narrowed := true }
def FnExactIsUsableUptoSaid : Prop := fnExactIsUsableUptoRow.holds Try.pinned (OpenSpec.upto fnExactIsUsableSpec)

end Rows
end Go.Proofs.Ytdlcaendoaadbaa
