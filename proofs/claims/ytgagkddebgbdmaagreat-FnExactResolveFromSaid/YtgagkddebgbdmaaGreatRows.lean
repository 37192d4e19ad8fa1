/-
  No cell of these rows narrows 'for every input' (looked for: loops, veiled, ifaces, maps, wideKeys, modest, calm, conditions, laid).
  DERIVED. THE GIVEN ROWS OF THIS SEAT. 5 by the template 'for every input the law returns true; each argument reads behind the call as it read before'; 0 by the template 'total and deterministic' (their statements: YtgagkddebgbdmaaGreatTotals.lean).
  GIVEN WITH THE SEED: the statements are not yours to turn. If you find one false, say at which input.
  Laid BY PROGRAM, IN A SANDBOX (cutbox-rows.mjs): the forced cells as the released guide's own fill.sh prints them over the translation 60641bd222906fc0… (all of the seat's roots in one cut). By AI agents, Wed Nov 11 2026. No macro, syntax, notation, axiom, sorry.
-/
import Derived.Test.YtgagkddebgbdmaaGreatChecked
import GoSem.Claim
import GoSem.ClaimJoined
import GoSem.ClaimMapViews
import Derived.JoinedTies
import Derived.KernelRfl
namespace Go.Proofs.YtgagkddebgbdmaaGreat
/- THE CELL 'sum', in the pinned program and in every row, IS THE sha256 OF THE DUMP (.gsa) THAT YtgagkddebgbdmaaGreatProg.lean LOADS. Nothing in Lean hashes anything: it is a label: what it is worth is what the hold of that sum in a sandbox is worth. -/
noncomputable def Tryz.pinned : Pinned := { name := "ytgagkddebgbdmaagreat", sum := "60641bd222906fc054a68e502edb06b44d125da7cd455b2c615a49125ce56119", checked := Tryz.checked }
namespace Rows
def none {H : Type} : Left H := { results := [], args := [] }

/-- 'laws.FnExactResolveOffline': WHATEVER THE INPUT: true; the input reads as it did. -/
def fnExactResolveOfflineSpec : ChangeSpec := { name := "fnExactResolveOffline", fn := fun _ => fun
  | [d1, d2, d3, d4, d5] => { results := [.lit (.bool true)], args := [d1, d2, d3, d4, d5] }
  | _ => none }
def fnExactResolveOfflineRow : OpenClaim := { program := "ytgagkddebgbdmaagreat", sum := "60641bd222906fc054a68e502edb06b44d125da7cd455b2c615a49125ce56119", func := "loop.example/g00588/laws.FnExactResolveOffline", spec := "fnExactResolveOffline", inPlace := ["internal/bytealg.abigen_runtime_cmpstring"], unfollowed := true, recurses := true, apart := false }
def FnExactResolveOfflineSaid : Prop := fnExactResolveOfflineRow.holds Tryz.pinned (OpenSpec.ofChange fnExactResolveOfflineSpec)

/-- ITS FALSE NEIGHBOUR: 'it returns false'. Refute it at one input. -/
def fnExactResolveOfflineWrong : ChangeSpec := { name := "fnExactResolveOffline", fn := fun _ => fun
  | [d1, d2, d3, d4, d5] => { results := [.lit (.bool false)], args := [d1, d2, d3, d4, d5] }
  | _ => none }
def FnExactResolveOfflineWrongFalsely : Prop := fnExactResolveOfflineRow.holds Tryz.pinned (OpenSpec.ofChange fnExactResolveOfflineWrong)

/-- 'laws.FnExactPutPet': WHATEVER THE INPUT: true; the input reads as it did. -/
def fnExactPutPetSpec : ChangeSpec := { name := "fnExactPutPet", fn := fun _ => fun
  | [d1, d2, d3] => { results := [.lit (.bool true)], args := [d1, d2, d3] }
  | _ => none }
def fnExactPutPetRow : OpenClaim := { program := "ytgagkddebgbdmaagreat", sum := "60641bd222906fc054a68e502edb06b44d125da7cd455b2c615a49125ce56119", func := "loop.example/g00588/laws.FnExactPutPet", spec := "fnExactPutPet", inPlace := ["internal/bytealg.abigen_runtime_cmpstring", "sync/atomic.LoadUint32", "(*internal/sync.Mutex).Lock", "internal/race.Disable", "sync/atomic.CompareAndSwapInt32", "internal/race.Enable", "internal/race.Acquire", "(*internal/sync.Mutex).lockSlow", "internal/sync.runtime_canSpin", "internal/sync.runtime_doSpin", "internal/sync.throw", "internal/sync.runtime_nanotime", "internal/sync.runtime_SemacquireMutex", "sync/atomic.AddInt32", "(*internal/sync.Mutex).Unlock", "internal/race.ReleaseMerge", "(*internal/sync.Mutex).unlockSlow", "internal/sync.fatal", "internal/sync.runtime_Semrelease", "sync/atomic.StoreUint32", "slices.overlaps[loop.example/g00588/impl.Pet]"], unfollowed := true, recurses := true, apart := false }
def FnExactPutPetSaid : Prop := fnExactPutPetRow.holds Tryz.pinned (OpenSpec.ofChange fnExactPutPetSpec)

/-- ITS FALSE NEIGHBOUR: 'it returns false'. Refute it at one input. -/
def fnExactPutPetWrong : ChangeSpec := { name := "fnExactPutPet", fn := fun _ => fun
  | [d1, d2, d3] => { results := [.lit (.bool false)], args := [d1, d2, d3] }
  | _ => none }
def FnExactPutPetWrongFalsely : Prop := fnExactPutPetRow.holds Tryz.pinned (OpenSpec.ofChange fnExactPutPetWrong)

/-- 'laws.FnExactResolveFrom': WHATEVER THE INPUT: true; the input reads as it did. -/
def fnExactResolveFromSpec : ChangeSpec := { name := "fnExactResolveFrom", fn := fun _ => fun
  | [d1, d2, d3, d4, d5, d6] => { results := [.lit (.bool true)], args := [d1, d2, d3, d4, d5, d6] }
  | _ => none }
def fnExactResolveFromRow : OpenClaim := { program := "ytgagkddebgbdmaagreat", sum := "60641bd222906fc054a68e502edb06b44d125da7cd455b2c615a49125ce56119", func := "loop.example/g00588/laws.FnExactResolveFrom", spec := "fnExactResolveFrom", inPlace := ["internal/bytealg.abigen_runtime_cmpstring"], unfollowed := true, recurses := true, apart := false }
def FnExactResolveFromSaid : Prop := fnExactResolveFromRow.holds Tryz.pinned (OpenSpec.ofChange fnExactResolveFromSpec)

/-- ITS FALSE NEIGHBOUR: 'it returns false'. Refute it at one input. -/
def fnExactResolveFromWrong : ChangeSpec := { name := "fnExactResolveFrom", fn := fun _ => fun
  | [d1, d2, d3, d4, d5, d6] => { results := [.lit (.bool false)], args := [d1, d2, d3, d4, d5, d6] }
  | _ => none }
def FnExactResolveFromWrongFalsely : Prop := fnExactResolveFromRow.holds Tryz.pinned (OpenSpec.ofChange fnExactResolveFromWrong)

/-- 'laws.FnExactDropStale': WHATEVER THE INPUT: true; the input reads as it did. -/
def fnExactDropStaleSpec : ChangeSpec := { name := "fnExactDropStale", fn := fun _ => fun
  | [d1, d2] => { results := [.lit (.bool true)], args := [d1, d2] }
  | _ => none }
def fnExactDropStaleRow : OpenClaim := { program := "ytgagkddebgbdmaagreat", sum := "60641bd222906fc054a68e502edb06b44d125da7cd455b2c615a49125ce56119", func := "loop.example/g00588/laws.FnExactDropStale", spec := "fnExactDropStale", inPlace := ["internal/bytealg.abigen_runtime_cmpstring"], unfollowed := true, recurses := true, apart := false }
def FnExactDropStaleSaid : Prop := fnExactDropStaleRow.holds Tryz.pinned (OpenSpec.ofChange fnExactDropStaleSpec)

/-- ITS FALSE NEIGHBOUR: 'it returns false'. Refute it at one input. -/
def fnExactDropStaleWrong : ChangeSpec := { name := "fnExactDropStale", fn := fun _ => fun
  | [d1, d2] => { results := [.lit (.bool false)], args := [d1, d2] }
  | _ => none }
def FnExactDropStaleWrongFalsely : Prop := fnExactDropStaleRow.holds Tryz.pinned (OpenSpec.ofChange fnExactDropStaleWrong)

/-- 'laws.FnExactCanResolve': WHATEVER THE INPUT: true; the input reads as it did. -/
def fnExactCanResolveSpec : ChangeSpec := { name := "fnExactCanResolve", fn := fun _ => fun
  | [d1, d2, d3, d4, d5] => { results := [.lit (.bool true)], args := [d1, d2, d3, d4, d5] }
  | _ => none }
def fnExactCanResolveRow : OpenClaim := { program := "ytgagkddebgbdmaagreat", sum := "60641bd222906fc054a68e502edb06b44d125da7cd455b2c615a49125ce56119", func := "loop.example/g00588/laws.FnExactCanResolve", spec := "fnExactCanResolve", inPlace := ["internal/bytealg.abigen_runtime_cmpstring"], unfollowed := true, recurses := true, apart := false }
def FnExactCanResolveSaid : Prop := fnExactCanResolveRow.holds Tryz.pinned (OpenSpec.ofChange fnExactCanResolveSpec)

/-- ITS FALSE NEIGHBOUR: 'it returns false'. Refute it at one input. -/
def fnExactCanResolveWrong : ChangeSpec := { name := "fnExactCanResolve", fn := fun _ => fun
  | [d1, d2, d3, d4, d5] => { results := [.lit (.bool false)], args := [d1, d2, d3, d4, d5] }
  | _ => none }
def FnExactCanResolveWrongFalsely : Prop := fnExactCanResolveRow.holds Tryz.pinned (OpenSpec.ofChange fnExactCanResolveWrong)

/- THE SECOND FORM. 'bulk': how many values and letters a reading holds, each counted each time it is reached (what is shared counts as often as it is met; a slice's spare places count too). A statement '..UptoSaid' is the law's where the arguments, and the package variables that the reading takes, are together of bulk at most 1048576: NARROWER than '..Said'. Prove '..Said' where nothing that the law and all that it calls make is longer than what came in: it says more and counts as full. Else prove '..UptoSaid'. A law counts once. -/
mutual
def uptoBulk {H : Type} : DataW H → Nat
  | .lit (.string bytes) => bytes.length + 1
  | .lit _ => 1
  | .nil => 1
  | .ptr d => uptoBulk d + 1
  | .slice elems spare => uptoBulkAll elems + uptoBulkAll spare + 1
  | .agg parts => uptoBulkAll parts + 1
  | .iface _ d => uptoBulk d + 1
  | .map entries => uptoBulkEntries entries + 1
  | .held _ => 1
def uptoBulkAll {H : Type} : List (DataW H) → Nat
  | [] => 0
  | d :: r => uptoBulk d + uptoBulkAll r
def uptoBulkEntries {H : Type} : List (Lit × DataW H) → Nat
  | [] => 0
  | x :: r => uptoBulkEntry x + uptoBulkEntries r
def uptoBulkEntry {H : Type} : Lit × DataW H → Nat
  | (.string bytes, d) => bytes.length + uptoBulk d + 1
  | (_, d) => uptoBulk d + 1
 end
def uptoSmall : (H : Type) → List (DataW H) → Bool := fun _ ds => decide (uptoBulkAll ds ≤ 1048576)
def OpenSpec.upto (s : _root_.Go.ChangeSpec) : _root_.Go.OpenSpec := { _root_.Go.OpenSpec.ofChange s with cond := some uptoSmall }

/-- 'laws.FnExactResolveOffline', WHERE WHAT IT READS IS OF BULK AT MOST 1048576: true; the input reads as it did. -/
def fnExactResolveOfflineUptoRow : OpenClaim := { program := "ytgagkddebgbdmaagreat", sum := "60641bd222906fc054a68e502edb06b44d125da7cd455b2c615a49125ce56119", func := "loop.example/g00588/laws.FnExactResolveOffline", spec := "fnExactResolveOffline", inPlace := ["internal/bytealg.abigen_runtime_cmpstring"], unfollowed := true, recurses := true, apart := false, narrowed := true }
def FnExactResolveOfflineUptoSaid : Prop := fnExactResolveOfflineUptoRow.holds Tryz.pinned (OpenSpec.upto fnExactResolveOfflineSpec)

/-- 'laws.FnExactPutPet', WHERE WHAT IT READS IS OF BULK AT MOST 1048576: true; the input reads as it did. -/
def fnExactPutPetUptoRow : OpenClaim := { program := "ytgagkddebgbdmaagreat", sum := "60641bd222906fc054a68e502edb06b44d125da7cd455b2c615a49125ce56119", func := "loop.example/g00588/laws.FnExactPutPet", spec := "fnExactPutPet", inPlace := ["internal/bytealg.abigen_runtime_cmpstring", "sync/atomic.LoadUint32", "(*internal/sync.Mutex).Lock", "internal/race.Disable", "sync/atomic.CompareAndSwapInt32", "internal/race.Enable", "internal/race.Acquire", "(*internal/sync.Mutex).lockSlow", "internal/sync.runtime_canSpin", "internal/sync.runtime_doSpin", "internal/sync.throw", "internal/sync.runtime_nanotime", "internal/sync.runtime_SemacquireMutex", "sync/atomic.AddInt32", "(*internal/sync.Mutex).Unlock", "internal/race.ReleaseMerge", "(*internal/sync.Mutex).unlockSlow", "internal/sync.fatal", "internal/sync.runtime_Semrelease", "sync/atomic.StoreUint32", "slices.overlaps[loop.example/g00588/impl.Pet]"], unfollowed := true, recurses := true, apart := false, narrowed := true }
def FnExactPutPetUptoSaid : Prop := fnExactPutPetUptoRow.holds Tryz.pinned (OpenSpec.upto fnExactPutPetSpec)

/-- 'laws.FnExactResolveFrom', WHERE WHAT IT READS IS OF BULK AT MOST 1048576: true; the input reads as it did. -/
def fnExactResolveFromUptoRow : OpenClaim := { program := "ytgagkddebgbdmaagreat", sum := "60641bd222906fc054a68e502edb06b44d125da7cd455b2c615a49125ce56119", func := "loop.example/g00588/laws.FnExactResolveFrom", spec := "fnExactResolveFrom", inPlace := ["internal/bytealg.abigen_runtime_cmpstring"], unfollowed := true, recurses := true, apart := false, narrowed := true }
def FnExactResolveFromUptoSaid : Prop := fnExactResolveFromUptoRow.holds Tryz.pinned (OpenSpec.upto fnExactResolveFromSpec)

/-- 'laws.FnExactDropStale', WHERE WHAT IT READS IS OF BULK AT MOST 1048576: true; the input reads as it did. -/
def fnExactDropStaleUptoRow : OpenClaim := { program := "ytgagkddebgbdmaagreat", sum := "60641bd222906fc054a68e502edb06b44d125da7cd455b2c615a49125ce56119", func := "loop.example/g00588/laws.FnExactDropStale", spec := "fnExactDropStale", inPlace := ["internal/bytealg.abigen_runtime_cmpstring"], unfollowed := true, recurses := true, apart := false, narrowed := true }
def FnExactDropStaleUptoSaid : Prop := fnExactDropStaleUptoRow.holds Tryz.pinned (OpenSpec.upto fnExactDropStaleSpec)

/-- 'laws.FnExactCanResolve', WHERE WHAT IT READS IS OF BULK AT MOST 1048576: true; the input reads as it did. -/
def fnExactCanResolveUptoRow : OpenClaim := { program := "ytgagkddebgbdmaagreat", sum := "60641bd222906fc054a68e502edb06b44d125da7cd455b2c615a49125ce56119", func := "loop.example/g00588/laws.FnExactCanResolve", spec := "fnExactCanResolve", inPlace := ["internal/bytealg.abigen_runtime_cmpstring"], unfollowed := true, recurses := true, apart := false, narrowed := true }
def FnExactCanResolveUptoSaid : Prop := fnExactCanResolveUptoRow.holds Tryz.pinned (OpenSpec.upto fnExactCanResolveSpec)

end Rows
end Go.Proofs.YtgagkddebgbdmaaGreat
