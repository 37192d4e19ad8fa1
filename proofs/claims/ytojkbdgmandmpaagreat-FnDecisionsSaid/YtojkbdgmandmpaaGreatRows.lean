/-
  No cell of these rows narrows 'for every input' (looked for: loops, veiled, ifaces, maps, wideKeys, modest, calm, conditions, laid).
  DERIVED. THE GIVEN ROWS OF THIS SEAT. 2 by the template 'for every input the law returns true; each argument reads behind the call as it read before'; 0 by the template 'total and deterministic' (their statements: YtojkbdgmandmpaaGreatTotals.lean).
  GIVEN WITH THE SEED: the statements are not yours to turn. If you find one false, say at which input.
  Laid BY PROGRAM, IN A SANDBOX (cutbox-rows.mjs): the forced cells as the released guide's own fill.sh prints them over the translation c111db077482ea74… (all of the seat's roots in one cut). By AI agents, Wed Nov 11 2026. No macro, syntax, notation, axiom, sorry.
-/
import Derived.Test.YtojkbdgmandmpaaGreatChecked
import GoSem.Claim
import GoSem.ClaimJoined
import GoSem.ClaimMapViews
import Derived.JoinedTies
import Derived.KernelRfl
namespace Go.Proofs.YtojkbdgmandmpaaGreat
/- THE CELL 'sum', in the pinned program and in every row, IS THE sha256 OF THE DUMP (.gsa) THAT YtojkbdgmandmpaaGreatProg.lean LOADS. Nothing in Lean hashes anything: it is a label: what it is worth is what the hold of that sum in a sandbox is worth. -/
noncomputable def Tryz.pinned : Pinned := { name := "ytojkbdgmandmpaagreat", sum := "c111db077482ea745206cc2d0b0176423809c55a64ca7a0f9ba3dcac01f8152a", checked := Tryz.checked }
namespace Rows
def none {H : Type} : Left H := { results := [], args := [] }

/-- 'laws.FnOwners': WHATEVER THE INPUT: true; the input reads as it did. -/
def fnOwnersSpec : ChangeSpec := { name := "fnOwners", fn := fun _ => fun
  | [d] => { results := [.lit (.bool true)], args := [d] }
  | _ => none }
def fnOwnersRow : OpenClaim := { program := "ytojkbdgmandmpaagreat", sum := "c111db077482ea745206cc2d0b0176423809c55a64ca7a0f9ba3dcac01f8152a", func := "loop.example/g00588/laws.FnOwners", spec := "fnOwners", unfollowed := true, recurses := true, apart := false }
def FnOwnersSaid : Prop := fnOwnersRow.holds Tryz.pinned (OpenSpec.ofChange fnOwnersSpec)

/-- ITS FALSE NEIGHBOUR: 'it returns false'. Refute it at one input. -/
def fnOwnersWrong : ChangeSpec := { name := "fnOwners", fn := fun _ => fun
  | [d] => { results := [.lit (.bool false)], args := [d] }
  | _ => none }
def FnOwnersWrongFalsely : Prop := fnOwnersRow.holds Tryz.pinned (OpenSpec.ofChange fnOwnersWrong)

/-- 'laws.FnDecisions': WHATEVER THE INPUT: true; the input reads as it did. -/
def fnDecisionsSpec : ChangeSpec := { name := "fnDecisions", fn := fun _ => fun
  | [d] => { results := [.lit (.bool true)], args := [d] }
  | _ => none }
def fnDecisionsRow : OpenClaim := { program := "ytojkbdgmandmpaagreat", sum := "c111db077482ea745206cc2d0b0176423809c55a64ca7a0f9ba3dcac01f8152a", func := "loop.example/g00588/laws.FnDecisions", spec := "fnDecisions", unfollowed := true, recurses := true, apart := false }
def FnDecisionsSaid : Prop := fnDecisionsRow.holds Tryz.pinned (OpenSpec.ofChange fnDecisionsSpec)

/-- ITS FALSE NEIGHBOUR: 'it returns false'. Refute it at one input. -/
def fnDecisionsWrong : ChangeSpec := { name := "fnDecisions", fn := fun _ => fun
  | [d] => { results := [.lit (.bool false)], args := [d] }
  | _ => none }
def FnDecisionsWrongFalsely : Prop := fnDecisionsRow.holds Tryz.pinned (OpenSpec.ofChange fnDecisionsWrong)

/- THE SECOND FORM. 'bulk': how many values and letters a reading holds, each counted each time it is reached (what is shared counts as often as it is met; a slice's spare places count too). A statement '..UptoSaid' is the law's where the arguments, and the package variables that the reading takes, are together of bulk at most 1048576: NARROWER than '..Said'. Prove '..Said' where nothing that the law and all that it calls make is longer than what came in: it says more and counts as full. Else prove '..UptoSaid'. A law counts once. -/
mutual
def uptoBulk {H : Type} : DataW H → Nat
  | .lit (.string bytes) => bytes.length + 1
  | .lit _ => 1
  | .nil => 1
  | .ptr d => uptoBulk d + 1
  | .slice elems spare => uptoBulkAll elems + uptoBulkAll spare + 1
  | .agg parts => uptoBulkAll parts + 1
  | .iface _ d => uptoBulk d + 1
  | .map entries => uptoBulkEntries entries + 1
  | .held _ => 1
def uptoBulkAll {H : Type} : List (DataW H) → Nat
  | [] => 0
  | d :: r => uptoBulk d + uptoBulkAll r
def uptoBulkEntries {H : Type} : List (Lit × DataW H) → Nat
  | [] => 0
  | x :: r => uptoBulkEntry x + uptoBulkEntries r
def uptoBulkEntry {H : Type} : Lit × DataW H → Nat
  | (.string bytes, d) => bytes.length + uptoBulk d + 1
  | (_, d) => uptoBulk d + 1
 end
def uptoSmall : (H : Type) → List (DataW H) → Bool := fun _ ds => decide (uptoBulkAll ds ≤ 1048576)
def OpenSpec.upto (s : _root_.Go.ChangeSpec) : _root_.Go.OpenSpec := { _root_.Go.OpenSpec.ofChange s with cond := some uptoSmall }

/-- 'laws.FnOwners', WHERE WHAT IT READS IS OF BULK AT MOST 1048576: true; the input reads as it did. -/
def fnOwnersUptoRow : OpenClaim := { program := "ytojkbdgmandmpaagreat", sum := "c111db077482ea745206cc2d0b0176423809c55a64ca7a0f9ba3dcac01f8152a", func := "loop.example/g00588/laws.FnOwners", spec := "fnOwners", unfollowed := true, recurses := true, apart := false, narrowed := true }
def FnOwnersUptoSaid : Prop := fnOwnersUptoRow.holds Tryz.pinned (OpenSpec.upto fnOwnersSpec)

/-- 'laws.FnDecisions', WHERE WHAT IT READS IS OF BULK AT MOST 1048576: true; the input reads as it did. -/
def fnDecisionsUptoRow : OpenClaim := { program := "ytojkbdgmandmpaagreat", sum := "c111db077482ea745206cc2d0b0176423809c55a64ca7a0f9ba3dcac01f8152a", func := "loop.example/g00588/laws.FnDecisions", spec := "fnDecisions", unfollowed := true, recurses := true, apart := false, narrowed := true }
def FnDecisionsUptoSaid : Prop := fnDecisionsUptoRow.holds Tryz.pinned (OpenSpec.upto fnDecisionsSpec)

end Rows
end Go.Proofs.YtojkbdgmandmpaaGreat
