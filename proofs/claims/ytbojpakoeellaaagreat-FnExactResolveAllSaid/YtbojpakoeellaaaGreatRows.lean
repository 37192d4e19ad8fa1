/-
  No cell of these rows narrows 'for every input' (looked for: loops, veiled, ifaces, maps, wideKeys, modest, calm, conditions, laid).
  DERIVED. THE GIVEN ROWS OF THIS SEAT. 3 by the template 'for every input the law returns true; each argument reads behind the call as it read before'; 0 by the template 'total and deterministic' (their statements: YtbojpakoeellaaaGreatTotals.lean).
  GIVEN WITH THE SEED: the statements are not yours to turn. If you find one false, say at which input.
  Laid BY PROGRAM, IN A SANDBOX (cutbox-rows.mjs): the forced cells as the released guide's own fill.sh prints them over the translation c34baaed332f1f5c… (all of the seat's roots in one cut). By AI agents, Wed Nov 11 2026. No macro, syntax, notation, axiom, sorry.
-/
import Derived.Test.YtbojpakoeellaaaGreatChecked
import GoSem.Claim
import GoSem.ClaimJoined
import GoSem.ClaimMapViews
import Derived.JoinedTies
import Derived.KernelRfl
namespace Go.Proofs.YtbojpakoeellaaaGreat
/- THE CELL 'sum', in the pinned program and in every row, IS THE sha256 OF THE DUMP (.gsa) THAT YtbojpakoeellaaaGreatProg.lean LOADS. Nothing in Lean hashes anything: it is a label: what it is worth is what the hold of that sum in a sandbox is worth. -/
noncomputable def Tryz.pinned : Pinned := { name := "ytbojpakoeellaaagreat", sum := "c34baaed332f1f5c6f891b0bcc22e832dc9f29d0dff2cb1fc66d7d88d9cdb582", checked := Tryz.checked }
namespace Rows
def none {H : Type} : Left H := { results := [], args := [] }

/-- 'laws.FnExactResolveAll': WHATEVER THE INPUT: true; the input reads as it did. -/
def fnExactResolveAllSpec : ChangeSpec := { name := "fnExactResolveAll", fn := fun _ => fun
  | [d1, d2, d3, d4, d5] => { results := [.lit (.bool true)], args := [d1, d2, d3, d4, d5] }
  | _ => none }
def fnExactResolveAllRow : OpenClaim := { program := "ytbojpakoeellaaagreat", sum := "c34baaed332f1f5c6f891b0bcc22e832dc9f29d0dff2cb1fc66d7d88d9cdb582", func := "loop.example/g00588/laws.FnExactResolveAll", spec := "fnExactResolveAll", inPlace := ["internal/bytealg.abigen_runtime_cmpstring"], unfollowed := true, recurses := true, apart := false }
def FnExactResolveAllSaid : Prop := fnExactResolveAllRow.holds Tryz.pinned (OpenSpec.ofChange fnExactResolveAllSpec)

/-- ITS FALSE NEIGHBOUR: 'it returns false'. Refute it at one input. -/
def fnExactResolveAllWrong : ChangeSpec := { name := "fnExactResolveAll", fn := fun _ => fun
  | [d1, d2, d3, d4, d5] => { results := [.lit (.bool false)], args := [d1, d2, d3, d4, d5] }
  | _ => none }
def FnExactResolveAllWrongFalsely : Prop := fnExactResolveAllRow.holds Tryz.pinned (OpenSpec.ofChange fnExactResolveAllWrong)

/-- 'laws.FnExactResolve': WHATEVER THE INPUT: true; the input reads as it did. -/
def fnExactResolveSpec : ChangeSpec := { name := "fnExactResolve", fn := fun _ => fun
  | [d1, d2, d3, d4, d5] => { results := [.lit (.bool true)], args := [d1, d2, d3, d4, d5] }
  | _ => none }
def fnExactResolveRow : OpenClaim := { program := "ytbojpakoeellaaagreat", sum := "c34baaed332f1f5c6f891b0bcc22e832dc9f29d0dff2cb1fc66d7d88d9cdb582", func := "loop.example/g00588/laws.FnExactResolve", spec := "fnExactResolve", inPlace := ["internal/bytealg.abigen_runtime_cmpstring"], unfollowed := true, recurses := true, apart := false }
def FnExactResolveSaid : Prop := fnExactResolveRow.holds Tryz.pinned (OpenSpec.ofChange fnExactResolveSpec)

/-- ITS FALSE NEIGHBOUR: 'it returns false'. Refute it at one input. -/
def fnExactResolveWrong : ChangeSpec := { name := "fnExactResolve", fn := fun _ => fun
  | [d1, d2, d3, d4, d5] => { results := [.lit (.bool false)], args := [d1, d2, d3, d4, d5] }
  | _ => none }
def FnExactResolveWrongFalsely : Prop := fnExactResolveRow.holds Tryz.pinned (OpenSpec.ofChange fnExactResolveWrong)

/-- 'laws.FnExactResolvePet': WHATEVER THE INPUT: true; the input reads as it did. -/
def fnExactResolvePetSpec : ChangeSpec := { name := "fnExactResolvePet", fn := fun _ => fun
  | [d1, d2, d3, d4, d5, d6] => { results := [.lit (.bool true)], args := [d1, d2, d3, d4, d5, d6] }
  | _ => none }
def fnExactResolvePetRow : OpenClaim := { program := "ytbojpakoeellaaagreat", sum := "c34baaed332f1f5c6f891b0bcc22e832dc9f29d0dff2cb1fc66d7d88d9cdb582", func := "loop.example/g00588/laws.FnExactResolvePet", spec := "fnExactResolvePet", inPlace := ["internal/bytealg.abigen_runtime_cmpstring"], unfollowed := true, recurses := true, apart := false }
def FnExactResolvePetSaid : Prop := fnExactResolvePetRow.holds Tryz.pinned (OpenSpec.ofChange fnExactResolvePetSpec)

/-- ITS FALSE NEIGHBOUR: 'it returns false'. Refute it at one input. -/
def fnExactResolvePetWrong : ChangeSpec := { name := "fnExactResolvePet", fn := fun _ => fun
  | [d1, d2, d3, d4, d5, d6] => { results := [.lit (.bool false)], args := [d1, d2, d3, d4, d5, d6] }
  | _ => none }
def FnExactResolvePetWrongFalsely : Prop := fnExactResolvePetRow.holds Tryz.pinned (OpenSpec.ofChange fnExactResolvePetWrong)

/- THE SECOND FORM. 'bulk': how many values and letters a reading holds, each counted each time it is reached (what is shared counts as often as it is met; a slice's spare places count too). A statement '..UptoSaid' is the law's where the arguments, and the package variables that the reading takes, are together of bulk at most 1048576: NARROWER than '..Said'. Prove '..Said' where nothing that the law and all that it calls make is longer than what came in: it says more and counts as full. Else prove '..UptoSaid'. A law counts once. -/
mutual
def uptoBulk {H : Type} : DataW H → Nat
  | .lit (.string bytes) => bytes.length + 1
  | .lit _ => 1
  | .nil => 1
  | .ptr d => uptoBulk d + 1
  | .slice elems spare => uptoBulkAll elems + uptoBulkAll spare + 1
  | .agg parts => uptoBulkAll parts + 1
  | .iface _ d => uptoBulk d + 1
  | .map entries => uptoBulkEntries entries + 1
  | .held _ => 1
def uptoBulkAll {H : Type} : List (DataW H) → Nat
  | [] => 0
  | d :: r => uptoBulk d + uptoBulkAll r
def uptoBulkEntries {H : Type} : List (Lit × DataW H) → Nat
  | [] => 0
  | x :: r => uptoBulkEntry x + uptoBulkEntries r
def uptoBulkEntry {H : Type} : Lit × DataW H → Nat
  | (.string bytes, d) => bytes.length + uptoBulk d + 1
  | (_, d) => uptoBulk d + 1
 end
def uptoSmall : (H : Type) → List (DataW H) → Bool := fun _ ds => decide (uptoBulkAll ds ≤ 1048576)
def OpenSpec.upto (s : _root_.Go.ChangeSpec) : _root_.Go.OpenSpec := { _root_.Go.OpenSpec.ofChange s with cond := some uptoSmall }

/-- 'laws.FnExactResolveAll', WHERE WHAT IT READS IS OF BULK AT MOST 1048576: true; the input reads as it did. -/
def fnExactResolveAllUptoRow : OpenClaim := { program := "ytbojpakoeellaaagreat", sum := "c34baaed332f1f5c6f891b0bcc22e832dc9f29d0dff2cb1fc66d7d88d9cdb582", func := "loop.example/g00588/laws.FnExactResolveAll", spec := "fnExactResolveAll", inPlace := ["internal/bytealg.abigen_runtime_cmpstring"], unfollowed := true, recurses := true, apart := false, narrowed := true }
def FnExactResolveAllUptoSaid : Prop := fnExactResolveAllUptoRow.holds Tryz.pinned (OpenSpec.upto fnExactResolveAllSpec)

/-- 'laws.FnExactResolve', WHERE WHAT IT READS IS OF BULK AT MOST 1048576: true; the input reads as it did. -/
def fnExactResolveUptoRow : OpenClaim := { program := "ytbojpakoeellaaagreat", sum := "c34baaed332f1f5c6f891b0bcc22e832dc9f29d0dff2cb1fc66d7d88d9cdb582", func := "loop.example/g00588/laws.FnExactResolve", spec := "fnExactResolve", inPlace := ["internal/bytealg.abigen_runtime_cmpstring"], unfollowed := true, recurses := true, apart := false, narrowed := true }
def FnExactResolveUptoSaid : Prop := fnExactResolveUptoRow.holds Tryz.pinned (OpenSpec.upto fnExactResolveSpec)

/-- 'laws.FnExactResolvePet', WHERE WHAT IT READS IS OF BULK AT MOST 1048576: true; the input reads as it did. -/
def fnExactResolvePetUptoRow : OpenClaim := { program := "ytbojpakoeellaaagreat", sum := "c34baaed332f1f5c6f891b0bcc22e832dc9f29d0dff2cb1fc66d7d88d9cdb582", func := "loop.example/g00588/laws.FnExactResolvePet", spec := "fnExactResolvePet", inPlace := ["internal/bytealg.abigen_runtime_cmpstring"], unfollowed := true, recurses := true, apart := false, narrowed := true }
def FnExactResolvePetUptoSaid : Prop := fnExactResolvePetUptoRow.holds Tryz.pinned (OpenSpec.upto fnExactResolvePetSpec)

end Rows
end Go.Proofs.YtbojpakoeellaaaGreat
