/-
  No cell of these rows narrows 'for every input' (looked for: loops, veiled, ifaces, maps, wideKeys, modest, calm, conditions, laid).
  DERIVED. THE GIVEN ROWS OF THIS SEAT. 7 by the template 'for every input the law returns true; each argument reads behind the call as it read before'; 0 by the template 'total and deterministic' (their statements: YtnhiemkmfbllfaaGreatTotals.lean).
  GIVEN WITH THE SEED: the statements are not yours to turn. If you find one false, say at which input.
  Laid BY PROGRAM, IN A SANDBOX (cutbox-rows.mjs): the forced cells as the released guide's own fill.sh prints them over the translation 221dee3b35cc7d2c… (all of the seat's roots in one cut). By AI agents, Wed Nov 11 2026. No macro, syntax, notation, axiom, sorry.
-/
import Derived.Test.YtnhiemkmfbllfaaGreatChecked
import GoSem.Claim
import GoSem.ClaimJoined
import GoSem.ClaimMapViews
import Derived.JoinedTies
import Derived.KernelRfl
namespace Go.Proofs.YtnhiemkmfbllfaaGreat
/- THE CELL 'sum', in the pinned program and in every row, IS THE sha256 OF THE DUMP (.gsa) THAT YtnhiemkmfbllfaaGreatProg.lean LOADS. Nothing in Lean hashes anything: it is a label: what it is worth is what the hold of that sum in a sandbox is worth. -/
noncomputable def Tryz.pinned : Pinned := { name := "ytnhiemkmfbllfaagreat", sum := "221dee3b35cc7d2ca0c2c0711888f5499c4eee0b6ebc42e8c71fbb44d90c31d9", checked := Tryz.checked }
namespace Rows
def none {H : Type} : Left H := { results := [], args := [] }

/-- 'laws.FnExactLookUp': WHATEVER THE INPUT: true; the input reads as it did. -/
def fnExactLookUpSpec : ChangeSpec := { name := "fnExactLookUp", fn := fun _ => fun
  | [d1, d2, d3, d4, d5] => { results := [.lit (.bool true)], args := [d1, d2, d3, d4, d5] }
  | _ => none }
def fnExactLookUpRow : OpenClaim := { program := "ytnhiemkmfbllfaagreat", sum := "221dee3b35cc7d2ca0c2c0711888f5499c4eee0b6ebc42e8c71fbb44d90c31d9", func := "loop.example/g00588/laws.FnExactLookUp", spec := "fnExactLookUp", inPlace := ["internal/bytealg.abigen_runtime_cmpstring"], unfollowed := true, recurses := true, apart := false }
def FnExactLookUpSaid : Prop := fnExactLookUpRow.holds Tryz.pinned (OpenSpec.ofChange fnExactLookUpSpec)

/-- ITS FALSE NEIGHBOUR: 'it returns false'. Refute it at one input. -/
def fnExactLookUpWrong : ChangeSpec := { name := "fnExactLookUp", fn := fun _ => fun
  | [d1, d2, d3, d4, d5] => { results := [.lit (.bool false)], args := [d1, d2, d3, d4, d5] }
  | _ => none }
def FnExactLookUpWrongFalsely : Prop := fnExactLookUpRow.holds Tryz.pinned (OpenSpec.ofChange fnExactLookUpWrong)

/-- 'laws.FnExactResolve': WHATEVER THE INPUT: true; the input reads as it did. -/
def fnExactResolveSpec : ChangeSpec := { name := "fnExactResolve", fn := fun _ => fun
  | [d1, d2, d3, d4, d5] => { results := [.lit (.bool true)], args := [d1, d2, d3, d4, d5] }
  | _ => none }
def fnExactResolveRow : OpenClaim := { program := "ytnhiemkmfbllfaagreat", sum := "221dee3b35cc7d2ca0c2c0711888f5499c4eee0b6ebc42e8c71fbb44d90c31d9", func := "loop.example/g00588/laws.FnExactResolve", spec := "fnExactResolve", inPlace := ["internal/bytealg.abigen_runtime_cmpstring"], unfollowed := true, recurses := true, apart := false }
def FnExactResolveSaid : Prop := fnExactResolveRow.holds Tryz.pinned (OpenSpec.ofChange fnExactResolveSpec)

/-- ITS FALSE NEIGHBOUR: 'it returns false'. Refute it at one input. -/
def fnExactResolveWrong : ChangeSpec := { name := "fnExactResolve", fn := fun _ => fun
  | [d1, d2, d3, d4, d5] => { results := [.lit (.bool false)], args := [d1, d2, d3, d4, d5] }
  | _ => none }
def FnExactResolveWrongFalsely : Prop := fnExactResolveRow.holds Tryz.pinned (OpenSpec.ofChange fnExactResolveWrong)

/-- 'laws.FnExactResolvePet': WHATEVER THE INPUT: true; the input reads as it did. -/
def fnExactResolvePetSpec : ChangeSpec := { name := "fnExactResolvePet", fn := fun _ => fun
  | [d1, d2, d3, d4, d5, d6] => { results := [.lit (.bool true)], args := [d1, d2, d3, d4, d5, d6] }
  | _ => none }
def fnExactResolvePetRow : OpenClaim := { program := "ytnhiemkmfbllfaagreat", sum := "221dee3b35cc7d2ca0c2c0711888f5499c4eee0b6ebc42e8c71fbb44d90c31d9", func := "loop.example/g00588/laws.FnExactResolvePet", spec := "fnExactResolvePet", inPlace := ["internal/bytealg.abigen_runtime_cmpstring"], unfollowed := true, recurses := true, apart := false }
def FnExactResolvePetSaid : Prop := fnExactResolvePetRow.holds Tryz.pinned (OpenSpec.ofChange fnExactResolvePetSpec)

/-- ITS FALSE NEIGHBOUR: 'it returns false'. Refute it at one input. -/
def fnExactResolvePetWrong : ChangeSpec := { name := "fnExactResolvePet", fn := fun _ => fun
  | [d1, d2, d3, d4, d5, d6] => { results := [.lit (.bool false)], args := [d1, d2, d3, d4, d5, d6] }
  | _ => none }
def FnExactResolvePetWrongFalsely : Prop := fnExactResolvePetRow.holds Tryz.pinned (OpenSpec.ofChange fnExactResolvePetWrong)

/-- 'laws.FnExactResolveAll': WHATEVER THE INPUT: true; the input reads as it did. -/
def fnExactResolveAllSpec : ChangeSpec := { name := "fnExactResolveAll", fn := fun _ => fun
  | [d1, d2, d3, d4, d5] => { results := [.lit (.bool true)], args := [d1, d2, d3, d4, d5] }
  | _ => none }
def fnExactResolveAllRow : OpenClaim := { program := "ytnhiemkmfbllfaagreat", sum := "221dee3b35cc7d2ca0c2c0711888f5499c4eee0b6ebc42e8c71fbb44d90c31d9", func := "loop.example/g00588/laws.FnExactResolveAll", spec := "fnExactResolveAll", inPlace := ["internal/bytealg.abigen_runtime_cmpstring"], unfollowed := true, recurses := true, apart := false }
def FnExactResolveAllSaid : Prop := fnExactResolveAllRow.holds Tryz.pinned (OpenSpec.ofChange fnExactResolveAllSpec)

/-- ITS FALSE NEIGHBOUR: 'it returns false'. Refute it at one input. -/
def fnExactResolveAllWrong : ChangeSpec := { name := "fnExactResolveAll", fn := fun _ => fun
  | [d1, d2, d3, d4, d5] => { results := [.lit (.bool false)], args := [d1, d2, d3, d4, d5] }
  | _ => none }
def FnExactResolveAllWrongFalsely : Prop := fnExactResolveAllRow.holds Tryz.pinned (OpenSpec.ofChange fnExactResolveAllWrong)

/-- 'laws.FnExactResolveOffline': WHATEVER THE INPUT: true; the input reads as it did. -/
def fnExactResolveOfflineSpec : ChangeSpec := { name := "fnExactResolveOffline", fn := fun _ => fun
  | [d1, d2, d3, d4, d5] => { results := [.lit (.bool true)], args := [d1, d2, d3, d4, d5] }
  | _ => none }
def fnExactResolveOfflineRow : OpenClaim := { program := "ytnhiemkmfbllfaagreat", sum := "221dee3b35cc7d2ca0c2c0711888f5499c4eee0b6ebc42e8c71fbb44d90c31d9", func := "loop.example/g00588/laws.FnExactResolveOffline", spec := "fnExactResolveOffline", inPlace := ["internal/bytealg.abigen_runtime_cmpstring"], unfollowed := true, recurses := true, apart := false }
def FnExactResolveOfflineSaid : Prop := fnExactResolveOfflineRow.holds Tryz.pinned (OpenSpec.ofChange fnExactResolveOfflineSpec)

/-- ITS FALSE NEIGHBOUR: 'it returns false'. Refute it at one input. -/
def fnExactResolveOfflineWrong : ChangeSpec := { name := "fnExactResolveOffline", fn := fun _ => fun
  | [d1, d2, d3, d4, d5] => { results := [.lit (.bool false)], args := [d1, d2, d3, d4, d5] }
  | _ => none }
def FnExactResolveOfflineWrongFalsely : Prop := fnExactResolveOfflineRow.holds Tryz.pinned (OpenSpec.ofChange fnExactResolveOfflineWrong)

/-- 'laws.FnExactResolveFrom': WHATEVER THE INPUT: true; the input reads as it did. -/
def fnExactResolveFromSpec : ChangeSpec := { name := "fnExactResolveFrom", fn := fun _ => fun
  | [d1, d2, d3, d4, d5, d6] => { results := [.lit (.bool true)], args := [d1, d2, d3, d4, d5, d6] }
  | _ => none }
def fnExactResolveFromRow : OpenClaim := { program := "ytnhiemkmfbllfaagreat", sum := "221dee3b35cc7d2ca0c2c0711888f5499c4eee0b6ebc42e8c71fbb44d90c31d9", func := "loop.example/g00588/laws.FnExactResolveFrom", spec := "fnExactResolveFrom", inPlace := ["internal/bytealg.abigen_runtime_cmpstring"], unfollowed := true, recurses := true, apart := false }
def FnExactResolveFromSaid : Prop := fnExactResolveFromRow.holds Tryz.pinned (OpenSpec.ofChange fnExactResolveFromSpec)

/-- ITS FALSE NEIGHBOUR: 'it returns false'. Refute it at one input. -/
def fnExactResolveFromWrong : ChangeSpec := { name := "fnExactResolveFrom", fn := fun _ => fun
  | [d1, d2, d3, d4, d5, d6] => { results := [.lit (.bool false)], args := [d1, d2, d3, d4, d5, d6] }
  | _ => none }
def FnExactResolveFromWrongFalsely : Prop := fnExactResolveFromRow.holds Tryz.pinned (OpenSpec.ofChange fnExactResolveFromWrong)

/-- 'laws.FnExactCanResolve': WHATEVER THE INPUT: true; the input reads as it did. -/
def fnExactCanResolveSpec : ChangeSpec := { name := "fnExactCanResolve", fn := fun _ => fun
  | [d1, d2, d3, d4, d5] => { results := [.lit (.bool true)], args := [d1, d2, d3, d4, d5] }
  | _ => none }
def fnExactCanResolveRow : OpenClaim := { program := "ytnhiemkmfbllfaagreat", sum := "221dee3b35cc7d2ca0c2c0711888f5499c4eee0b6ebc42e8c71fbb44d90c31d9", func := "loop.example/g00588/laws.FnExactCanResolve", spec := "fnExactCanResolve", inPlace := ["internal/bytealg.abigen_runtime_cmpstring"], unfollowed := true, recurses := true, apart := false }
def FnExactCanResolveSaid : Prop := fnExactCanResolveRow.holds Tryz.pinned (OpenSpec.ofChange fnExactCanResolveSpec)

/-- ITS FALSE NEIGHBOUR: 'it returns false'. Refute it at one input. -/
def fnExactCanResolveWrong : ChangeSpec := { name := "fnExactCanResolve", fn := fun _ => fun
  | [d1, d2, d3, d4, d5] => { results := [.lit (.bool false)], args := [d1, d2, d3, d4, d5] }
  | _ => none }
def FnExactCanResolveWrongFalsely : Prop := fnExactCanResolveRow.holds Tryz.pinned (OpenSpec.ofChange fnExactCanResolveWrong)

/- THE SECOND FORM. 'bulk': how many values and letters a reading holds, each counted each time it is reached (what is shared counts as often as it is met; a slice's spare places count too). A statement '..UptoSaid' is the law's where the arguments, and the package variables that the reading takes, are together of bulk at most 1048576: NARROWER than '..Said'. Prove '..Said' where nothing that the law and all that it calls make is longer than what came in: it says more and counts as full. Else prove '..UptoSaid'. A law counts once. -/
mutual
def uptoBulk {H : Type} : DataW H → Nat
  | .lit (.string bytes) => bytes.length + 1
  | .lit _ => 1
  | .nil => 1
  | .ptr d => uptoBulk d + 1
  | .slice elems spare => uptoBulkAll elems + uptoBulkAll spare + 1
  | .agg parts => uptoBulkAll parts + 1
  | .iface _ d => uptoBulk d + 1
  | .map entries => uptoBulkEntries entries + 1
  | .held _ => 1
def uptoBulkAll {H : Type} : List (DataW H) → Nat
  | [] => 0
  | d :: r => uptoBulk d + uptoBulkAll r
def uptoBulkEntries {H : Type} : List (Lit × DataW H) → Nat
  | [] => 0
  | x :: r => uptoBulkEntry x + uptoBulkEntries r
def uptoBulkEntry {H : Type} : Lit × DataW H → Nat
  | (.string bytes, d) => bytes.length + uptoBulk d + 1
  | (_, d) => uptoBulk d + 1
 end
def uptoSmall : (H : Type) → List (DataW H) → Bool := fun _ ds => decide (uptoBulkAll ds ≤ 1048576)
def OpenSpec.upto (s : _root_.Go.ChangeSpec) : _root_.Go.OpenSpec := { _root_.Go.OpenSpec.ofChange s with cond := some uptoSmall }

/-- 'laws.FnExactLookUp', WHERE WHAT IT READS IS OF BULK AT MOST 1048576: true; the input reads as it did. -/
def fnExactLookUpUptoRow : OpenClaim := { program := "ytnhiemkmfbllfaagreat", sum := "221dee3b35cc7d2ca0c2c0711888f5499c4eee0b6ebc42e8c71fbb44d90c31d9", func := "loop.example/g00588/laws.FnExactLookUp", spec := "fnExactLookUp", inPlace := ["internal/bytealg.abigen_runtime_cmpstring"], unfollowed := true, recurses := true, apart := false, narrowed := true }
def FnExactLookUpUptoSaid : Prop := fnExactLookUpUptoRow.holds Tryz.pinned (OpenSpec.upto fnExactLookUpSpec)

/-- 'laws.FnExactResolve', WHERE WHAT IT READS IS OF BULK AT MOST 1048576: true; the input reads as it did. -/
def fnExactResolveUptoRow : OpenClaim := { program := "ytnhiemkmfbllfaagreat", sum := "221dee3b35cc7d2ca0c2c0711888f5499c4eee0b6ebc42e8c71fbb44d90c31d9", func := "loop.example/g00588/laws.FnExactResolve", spec := "fnExactResolve", inPlace := ["internal/bytealg.abigen_runtime_cmpstring"], unfollowed := true, recurses := true, apart := false, narrowed := true }
def FnExactResolveUptoSaid : Prop := fnExactResolveUptoRow.holds Tryz.pinned (OpenSpec.upto fnExactResolveSpec)

/-- 'laws.FnExactResolvePet', WHERE WHAT IT READS IS OF BULK AT MOST 1048576: true; the input reads as it did. -/
def fnExactResolvePetUptoRow : OpenClaim := { program := "ytnhiemkmfbllfaagreat", sum := "221dee3b35cc7d2ca0c2c0711888f5499c4eee0b6ebc42e8c71fbb44d90c31d9", func := "loop.example/g00588/laws.FnExactResolvePet", spec := "fnExactResolvePet", inPlace := ["internal/bytealg.abigen_runtime_cmpstring"], unfollowed := true, recurses := true, apart := false, narrowed := true }
def FnExactResolvePetUptoSaid : Prop := fnExactResolvePetUptoRow.holds Tryz.pinned (OpenSpec.upto fnExactResolvePetSpec)

/-- 'laws.FnExactResolveAll', WHERE WHAT IT READS IS OF BULK AT MOST 1048576: true; the input reads as it did. -/
def fnExactResolveAllUptoRow : OpenClaim := { program := "ytnhiemkmfbllfaagreat", sum := "221dee3b35cc7d2ca0c2c0711888f5499c4eee0b6ebc42e8c71fbb44d90c31d9", func := "loop.example/g00588/laws.FnExactResolveAll", spec := "fnExactResolveAll", inPlace := ["internal/bytealg.abigen_runtime_cmpstring"], unfollowed := true, recurses := true, apart := false, narrowed := true }
def FnExactResolveAllUptoSaid : Prop := fnExactResolveAllUptoRow.holds Tryz.pinned (OpenSpec.upto fnExactResolveAllSpec)

/-- 'laws.FnExactResolveOffline', WHERE WHAT IT READS IS OF BULK AT MOST 1048576: true; the input reads as it did. -/
def fnExactResolveOfflineUptoRow : OpenClaim := { program := "ytnhiemkmfbllfaagreat", sum := "221dee3b35cc7d2ca0c2c0711888f5499c4eee0b6ebc42e8c71fbb44d90c31d9", func := "loop.example/g00588/laws.FnExactResolveOffline", spec := "fnExactResolveOffline", inPlace := ["internal/bytealg.abigen_runtime_cmpstring"], unfollowed := true, recurses := true, apart := false, narrowed := true }
def FnExactResolveOfflineUptoSaid : Prop := fnExactResolveOfflineUptoRow.holds Tryz.pinned (OpenSpec.upto fnExactResolveOfflineSpec)

/-- 'laws.FnExactResolveFrom', WHERE WHAT IT READS IS OF BULK AT MOST 1048576: true; the input reads as it did. -/
def fnExactResolveFromUptoRow : OpenClaim := { program := "ytnhiemkmfbllfaagreat", sum := "221dee3b35cc7d2ca0c2c0711888f5499c4eee0b6ebc42e8c71fbb44d90c31d9", func := "loop.example/g00588/laws.FnExactResolveFrom", spec := "fnExactResolveFrom", inPlace := ["internal/bytealg.abigen_runtime_cmpstring"], unfollowed := true, recurses := true, apart := false, narrowed := true }
def FnExactResolveFromUptoSaid : Prop := fnExactResolveFromUptoRow.holds Tryz.pinned (OpenSpec.upto fnExactResolveFromSpec)

/-- 'laws.FnExactCanResolve', WHERE WHAT IT READS IS OF BULK AT MOST 1048576: true; the input reads as it did. -/
def fnExactCanResolveUptoRow : OpenClaim := { program := "ytnhiemkmfbllfaagreat", sum := "221dee3b35cc7d2ca0c2c0711888f5499c4eee0b6ebc42e8c71fbb44d90c31d9", func := "loop.example/g00588/laws.FnExactCanResolve", spec := "fnExactCanResolve", inPlace := ["internal/bytealg.abigen_runtime_cmpstring"], unfollowed := true, recurses := true, apart := false, narrowed := true }
def FnExactCanResolveUptoSaid : Prop := fnExactCanResolveUptoRow.holds Tryz.pinned (OpenSpec.upto fnExactCanResolveSpec)

end Rows
end Go.Proofs.YtnhiemkmfbllfaaGreat
