/-
  No cell of these rows narrows 'for every input' (looked for: loops, veiled, ifaces, maps, wideKeys, modest, calm, conditions, laid).
  DERIVED. THE GIVEN ROWS OF THIS SEAT. 10 by the template 'for every input the law returns true; each argument reads behind the call as it read before'; 0 by the template 'total and deterministic' (their statements: YtcepeleohipibaaGreatTotals.lean).
  GIVEN WITH THE SEED: the statements are not yours to turn. If you find one false, say at which input.
  Laid BY PROGRAM, IN A SANDBOX (cutbox-rows.mjs): the forced cells as the released guide's own fill.sh prints them over the translation 07202f78c6591e2a… (all of the seat's roots in one cut). By AI agents, Wed Nov 11 2026. No macro, syntax, notation, axiom, sorry.
-/
import Derived.Test.YtcepeleohipibaaGreatChecked
import GoSem.Claim
import GoSem.ClaimJoined
import GoSem.ClaimMapViews
import Derived.JoinedTies
import Derived.KernelRfl
namespace Go.Proofs.YtcepeleohipibaaGreat
/- THE CELL 'sum', in the pinned program and in every row, IS THE sha256 OF THE DUMP (.gsa) THAT YtcepeleohipibaaGreatProg.lean LOADS. Nothing in Lean hashes anything: it is a label: what it is worth is what the hold of that sum in a sandbox is worth. -/
noncomputable def Tryz.pinned : Pinned := { name := "ytcepeleohipibaagreat", sum := "07202f78c6591e2ac031063f6a9552b79d228a191c3a6358b5adeb1fedbaff4a", checked := Tryz.checked }
namespace Rows
def none {H : Type} : Left H := { results := [], args := [] }

/-- 'laws.FnExactPutPet': WHATEVER THE INPUT: true; the input reads as it did. -/
def fnExactPutPetSpec : ChangeSpec := { name := "fnExactPutPet", fn := fun _ => fun
  | [d1, d2, d3] => { results := [.lit (.bool true)], args := [d1, d2, d3] }
  | _ => none }
def fnExactPutPetRow : OpenClaim := { program := "ytcepeleohipibaagreat", sum := "07202f78c6591e2ac031063f6a9552b79d228a191c3a6358b5adeb1fedbaff4a", func := "loop.example/g00588/laws.FnExactPutPet", spec := "fnExactPutPet", inPlace := ["internal/bytealg.abigen_runtime_cmpstring", "sync/atomic.LoadUint32", "(*internal/sync.Mutex).Lock", "internal/race.Disable", "sync/atomic.CompareAndSwapInt32", "internal/race.Enable", "internal/race.Acquire", "(*internal/sync.Mutex).lockSlow", "internal/sync.runtime_canSpin", "internal/sync.runtime_doSpin", "internal/sync.throw", "internal/sync.runtime_nanotime", "internal/sync.runtime_SemacquireMutex", "sync/atomic.AddInt32", "(*internal/sync.Mutex).Unlock", "internal/race.ReleaseMerge", "(*internal/sync.Mutex).unlockSlow", "internal/sync.fatal", "internal/sync.runtime_Semrelease", "sync/atomic.StoreUint32", "slices.overlaps[loop.example/g00588/impl.Pet]"], unfollowed := true, recurses := true, apart := false }
def FnExactPutPetSaid : Prop := fnExactPutPetRow.holds Tryz.pinned (OpenSpec.ofChange fnExactPutPetSpec)

/-- ITS FALSE NEIGHBOUR: 'it returns false'. Refute it at one input. -/
def fnExactPutPetWrong : ChangeSpec := { name := "fnExactPutPet", fn := fun _ => fun
  | [d1, d2, d3] => { results := [.lit (.bool false)], args := [d1, d2, d3] }
  | _ => none }
def FnExactPutPetWrongFalsely : Prop := fnExactPutPetRow.holds Tryz.pinned (OpenSpec.ofChange fnExactPutPetWrong)

/-- 'laws.FnKnown': WHATEVER THE INPUT: true; the input reads as it did. -/
def fnKnownSpec : ChangeSpec := { name := "fnKnown", fn := fun _ => fun
  | [d] => { results := [.lit (.bool true)], args := [d] }
  | _ => none }
def fnKnownRow : OpenClaim := { program := "ytcepeleohipibaagreat", sum := "07202f78c6591e2ac031063f6a9552b79d228a191c3a6358b5adeb1fedbaff4a", func := "loop.example/g00588/laws.FnKnown", spec := "fnKnown", unfollowed := true, recurses := true, apart := false }
def FnKnownSaid : Prop := fnKnownRow.holds Tryz.pinned (OpenSpec.ofChange fnKnownSpec)

/-- ITS FALSE NEIGHBOUR: 'it returns false'. Refute it at one input. -/
def fnKnownWrong : ChangeSpec := { name := "fnKnown", fn := fun _ => fun
  | [d] => { results := [.lit (.bool false)], args := [d] }
  | _ => none }
def FnKnownWrongFalsely : Prop := fnKnownRow.holds Tryz.pinned (OpenSpec.ofChange fnKnownWrong)

/-- 'laws.FnCaches': WHATEVER THE INPUT: true; the input reads as it did. -/
def fnCachesSpec : ChangeSpec := { name := "fnCaches", fn := fun _ => fun
  | [d] => { results := [.lit (.bool true)], args := [d] }
  | _ => none }
def fnCachesRow : OpenClaim := { program := "ytcepeleohipibaagreat", sum := "07202f78c6591e2ac031063f6a9552b79d228a191c3a6358b5adeb1fedbaff4a", func := "loop.example/g00588/laws.FnCaches", spec := "fnCaches", inPlace := ["internal/bytealg.abigen_runtime_cmpstring"], unfollowed := true, recurses := true, apart := false }
def FnCachesSaid : Prop := fnCachesRow.holds Tryz.pinned (OpenSpec.ofChange fnCachesSpec)

/-- ITS FALSE NEIGHBOUR: 'it returns false'. Refute it at one input. -/
def fnCachesWrong : ChangeSpec := { name := "fnCaches", fn := fun _ => fun
  | [d] => { results := [.lit (.bool false)], args := [d] }
  | _ => none }
def FnCachesWrongFalsely : Prop := fnCachesRow.holds Tryz.pinned (OpenSpec.ofChange fnCachesWrong)

/-- 'laws.FnLookUps': WHATEVER THE INPUT: true; the input reads as it did. -/
def fnLookUpsSpec : ChangeSpec := { name := "fnLookUps", fn := fun _ => fun
  | [d] => { results := [.lit (.bool true)], args := [d] }
  | _ => none }
def fnLookUpsRow : OpenClaim := { program := "ytcepeleohipibaagreat", sum := "07202f78c6591e2ac031063f6a9552b79d228a191c3a6358b5adeb1fedbaff4a", func := "loop.example/g00588/laws.FnLookUps", spec := "fnLookUps", inPlace := ["internal/bytealg.abigen_runtime_cmpstring"], unfollowed := true, recurses := true, apart := false }
def FnLookUpsSaid : Prop := fnLookUpsRow.holds Tryz.pinned (OpenSpec.ofChange fnLookUpsSpec)

/-- ITS FALSE NEIGHBOUR: 'it returns false'. Refute it at one input. -/
def fnLookUpsWrong : ChangeSpec := { name := "fnLookUps", fn := fun _ => fun
  | [d] => { results := [.lit (.bool false)], args := [d] }
  | _ => none }
def FnLookUpsWrongFalsely : Prop := fnLookUpsRow.holds Tryz.pinned (OpenSpec.ofChange fnLookUpsWrong)

/-- 'laws.FnExactDropStale': WHATEVER THE INPUT: true; the input reads as it did. -/
def fnExactDropStaleSpec : ChangeSpec := { name := "fnExactDropStale", fn := fun _ => fun
  | [d1, d2] => { results := [.lit (.bool true)], args := [d1, d2] }
  | _ => none }
def fnExactDropStaleRow : OpenClaim := { program := "ytcepeleohipibaagreat", sum := "07202f78c6591e2ac031063f6a9552b79d228a191c3a6358b5adeb1fedbaff4a", func := "loop.example/g00588/laws.FnExactDropStale", spec := "fnExactDropStale", inPlace := ["internal/bytealg.abigen_runtime_cmpstring"], unfollowed := true, recurses := true, apart := false }
def FnExactDropStaleSaid : Prop := fnExactDropStaleRow.holds Tryz.pinned (OpenSpec.ofChange fnExactDropStaleSpec)

/-- ITS FALSE NEIGHBOUR: 'it returns false'. Refute it at one input. -/
def fnExactDropStaleWrong : ChangeSpec := { name := "fnExactDropStale", fn := fun _ => fun
  | [d1, d2] => { results := [.lit (.bool false)], args := [d1, d2] }
  | _ => none }
def FnExactDropStaleWrongFalsely : Prop := fnExactDropStaleRow.holds Tryz.pinned (OpenSpec.ofChange fnExactDropStaleWrong)

/-- 'laws.FnResolved': WHATEVER THE INPUT: true; the input reads as it did. -/
def fnResolvedSpec : ChangeSpec := { name := "fnResolved", fn := fun _ => fun
  | [d] => { results := [.lit (.bool true)], args := [d] }
  | _ => none }
def fnResolvedRow : OpenClaim := { program := "ytcepeleohipibaagreat", sum := "07202f78c6591e2ac031063f6a9552b79d228a191c3a6358b5adeb1fedbaff4a", func := "loop.example/g00588/laws.FnResolved", spec := "fnResolved", inPlace := ["internal/bytealg.abigen_runtime_cmpstring"], unfollowed := true, recurses := true, apart := false }
def FnResolvedSaid : Prop := fnResolvedRow.holds Tryz.pinned (OpenSpec.ofChange fnResolvedSpec)

/-- ITS FALSE NEIGHBOUR: 'it returns false'. Refute it at one input. -/
def fnResolvedWrong : ChangeSpec := { name := "fnResolved", fn := fun _ => fun
  | [d] => { results := [.lit (.bool false)], args := [d] }
  | _ => none }
def FnResolvedWrongFalsely : Prop := fnResolvedRow.holds Tryz.pinned (OpenSpec.ofChange fnResolvedWrong)

/-- 'laws.FnRoots': WHATEVER THE INPUT: true; the input reads as it did. -/
def fnRootsSpec : ChangeSpec := { name := "fnRoots", fn := fun _ => fun
  | [d] => { results := [.lit (.bool true)], args := [d] }
  | _ => none }
def fnRootsRow : OpenClaim := { program := "ytcepeleohipibaagreat", sum := "07202f78c6591e2ac031063f6a9552b79d228a191c3a6358b5adeb1fedbaff4a", func := "loop.example/g00588/laws.FnRoots", spec := "fnRoots", inPlace := ["internal/bytealg.abigen_runtime_cmpstring"], unfollowed := true, recurses := true, apart := false }
def FnRootsSaid : Prop := fnRootsRow.holds Tryz.pinned (OpenSpec.ofChange fnRootsSpec)

/-- ITS FALSE NEIGHBOUR: 'it returns false'. Refute it at one input. -/
def fnRootsWrong : ChangeSpec := { name := "fnRoots", fn := fun _ => fun
  | [d] => { results := [.lit (.bool false)], args := [d] }
  | _ => none }
def FnRootsWrongFalsely : Prop := fnRootsRow.holds Tryz.pinned (OpenSpec.ofChange fnRootsWrong)

/-- 'laws.FnOffline': WHATEVER THE INPUT: true; the input reads as it did. -/
def fnOfflineSpec : ChangeSpec := { name := "fnOffline", fn := fun _ => fun
  | [d] => { results := [.lit (.bool true)], args := [d] }
  | _ => none }
def fnOfflineRow : OpenClaim := { program := "ytcepeleohipibaagreat", sum := "07202f78c6591e2ac031063f6a9552b79d228a191c3a6358b5adeb1fedbaff4a", func := "loop.example/g00588/laws.FnOffline", spec := "fnOffline", inPlace := ["internal/bytealg.abigen_runtime_cmpstring"], unfollowed := true, recurses := true, apart := false }
def FnOfflineSaid : Prop := fnOfflineRow.holds Tryz.pinned (OpenSpec.ofChange fnOfflineSpec)

/-- ITS FALSE NEIGHBOUR: 'it returns false'. Refute it at one input. -/
def fnOfflineWrong : ChangeSpec := { name := "fnOffline", fn := fun _ => fun
  | [d] => { results := [.lit (.bool false)], args := [d] }
  | _ => none }
def FnOfflineWrongFalsely : Prop := fnOfflineRow.holds Tryz.pinned (OpenSpec.ofChange fnOfflineWrong)

/-- 'laws.FnWalks': WHATEVER THE INPUT: true; the input reads as it did. -/
def fnWalksSpec : ChangeSpec := { name := "fnWalks", fn := fun _ => fun
  | [d] => { results := [.lit (.bool true)], args := [d] }
  | _ => none }
def fnWalksRow : OpenClaim := { program := "ytcepeleohipibaagreat", sum := "07202f78c6591e2ac031063f6a9552b79d228a191c3a6358b5adeb1fedbaff4a", func := "loop.example/g00588/laws.FnWalks", spec := "fnWalks", inPlace := ["internal/bytealg.abigen_runtime_cmpstring"], unfollowed := true, recurses := true, apart := false }
def FnWalksSaid : Prop := fnWalksRow.holds Tryz.pinned (OpenSpec.ofChange fnWalksSpec)

/-- ITS FALSE NEIGHBOUR: 'it returns false'. Refute it at one input. -/
def fnWalksWrong : ChangeSpec := { name := "fnWalks", fn := fun _ => fun
  | [d] => { results := [.lit (.bool false)], args := [d] }
  | _ => none }
def FnWalksWrongFalsely : Prop := fnWalksRow.holds Tryz.pinned (OpenSpec.ofChange fnWalksWrong)

/-- 'laws.FnPets': WHATEVER THE INPUT: true; the input reads as it did. -/
def fnPetsSpec : ChangeSpec := { name := "fnPets", fn := fun _ => fun
  | [d] => { results := [.lit (.bool true)], args := [d] }
  | _ => none }
def fnPetsRow : OpenClaim := { program := "ytcepeleohipibaagreat", sum := "07202f78c6591e2ac031063f6a9552b79d228a191c3a6358b5adeb1fedbaff4a", func := "loop.example/g00588/laws.FnPets", spec := "fnPets", inPlace := ["internal/bytealg.abigen_runtime_cmpstring", "sync/atomic.LoadUint32", "(*internal/sync.Mutex).Lock", "internal/race.Disable", "sync/atomic.CompareAndSwapInt32", "internal/race.Enable", "internal/race.Acquire", "(*internal/sync.Mutex).lockSlow", "internal/sync.runtime_canSpin", "internal/sync.runtime_doSpin", "internal/sync.throw", "internal/sync.runtime_nanotime", "internal/sync.runtime_SemacquireMutex", "sync/atomic.AddInt32", "(*internal/sync.Mutex).Unlock", "internal/race.ReleaseMerge", "(*internal/sync.Mutex).unlockSlow", "internal/sync.fatal", "internal/sync.runtime_Semrelease", "sync/atomic.StoreUint32", "slices.overlaps[loop.example/g00588/impl.Pet]"], unfollowed := true, recurses := true, apart := false }
def FnPetsSaid : Prop := fnPetsRow.holds Tryz.pinned (OpenSpec.ofChange fnPetsSpec)

/-- ITS FALSE NEIGHBOUR: 'it returns false'. Refute it at one input. -/
def fnPetsWrong : ChangeSpec := { name := "fnPets", fn := fun _ => fun
  | [d] => { results := [.lit (.bool false)], args := [d] }
  | _ => none }
def FnPetsWrongFalsely : Prop := fnPetsRow.holds Tryz.pinned (OpenSpec.ofChange fnPetsWrong)

/- THE SECOND FORM. 'bulk': how many values and letters a reading holds, each counted each time it is reached (what is shared counts as often as it is met; a slice's spare places count too). A statement '..UptoSaid' is the law's where the arguments, and the package variables that the reading takes, are together of bulk at most 1048576: NARROWER than '..Said'. Prove '..Said' where nothing that the law and all that it calls make is longer than what came in: it says more and counts as full. Else prove '..UptoSaid'. A law counts once. -/
mutual
def uptoBulk {H : Type} : DataW H → Nat
  | .lit (.string bytes) => bytes.length + 1
  | .lit _ => 1
  | .nil => 1
  | .ptr d => uptoBulk d + 1
  | .slice elems spare => uptoBulkAll elems + uptoBulkAll spare + 1
  | .agg parts => uptoBulkAll parts + 1
  | .iface _ d => uptoBulk d + 1
  | .map entries => uptoBulkEntries entries + 1
  | .held _ => 1
def uptoBulkAll {H : Type} : List (DataW H) → Nat
  | [] => 0
  | d :: r => uptoBulk d + uptoBulkAll r
def uptoBulkEntries {H : Type} : List (Lit × DataW H) → Nat
  | [] => 0
  | x :: r => uptoBulkEntry x + uptoBulkEntries r
def uptoBulkEntry {H : Type} : Lit × DataW H → Nat
  | (.string bytes, d) => bytes.length + uptoBulk d + 1
  | (_, d) => uptoBulk d + 1
 end
def uptoSmall : (H : Type) → List (DataW H) → Bool := fun _ ds => decide (uptoBulkAll ds ≤ 1048576)
def OpenSpec.upto (s : _root_.Go.ChangeSpec) : _root_.Go.OpenSpec := { _root_.Go.OpenSpec.ofChange s with cond := some uptoSmall }

/-- 'laws.FnExactPutPet', WHERE WHAT IT READS IS OF BULK AT MOST 1048576: true; the input reads as it did. -/
def fnExactPutPetUptoRow : OpenClaim := { program := "ytcepeleohipibaagreat", sum := "07202f78c6591e2ac031063f6a9552b79d228a191c3a6358b5adeb1fedbaff4a", func := "loop.example/g00588/laws.FnExactPutPet", spec := "fnExactPutPet", inPlace := ["internal/bytealg.abigen_runtime_cmpstring", "sync/atomic.LoadUint32", "(*internal/sync.Mutex).Lock", "internal/race.Disable", "sync/atomic.CompareAndSwapInt32", "internal/race.Enable", "internal/race.Acquire", "(*internal/sync.Mutex).lockSlow", "internal/sync.runtime_canSpin", "internal/sync.runtime_doSpin", "internal/sync.throw", "internal/sync.runtime_nanotime", "internal/sync.runtime_SemacquireMutex", "sync/atomic.AddInt32", "(*internal/sync.Mutex).Unlock", "internal/race.ReleaseMerge", "(*internal/sync.Mutex).unlockSlow", "internal/sync.fatal", "internal/sync.runtime_Semrelease", "sync/atomic.StoreUint32", "slices.overlaps[loop.example/g00588/impl.Pet]"], unfollowed := true, recurses := true, apart := false, narrowed := true }
def FnExactPutPetUptoSaid : Prop := fnExactPutPetUptoRow.holds Tryz.pinned (OpenSpec.upto fnExactPutPetSpec)

/-- 'laws.FnKnown', WHERE WHAT IT READS IS OF BULK AT MOST 1048576: true; the input reads as it did. -/
def fnKnownUptoRow : OpenClaim := { program := "ytcepeleohipibaagreat", sum := "07202f78c6591e2ac031063f6a9552b79d228a191c3a6358b5adeb1fedbaff4a", func := "loop.example/g00588/laws.FnKnown", spec := "fnKnown", unfollowed := true, recurses := true, apart := false, narrowed := true }
def FnKnownUptoSaid : Prop := fnKnownUptoRow.holds Tryz.pinned (OpenSpec.upto fnKnownSpec)

/-- 'laws.FnCaches', WHERE WHAT IT READS IS OF BULK AT MOST 1048576: true; the input reads as it did. -/
def fnCachesUptoRow : OpenClaim := { program := "ytcepeleohipibaagreat", sum := "07202f78c6591e2ac031063f6a9552b79d228a191c3a6358b5adeb1fedbaff4a", func := "loop.example/g00588/laws.FnCaches", spec := "fnCaches", inPlace := ["internal/bytealg.abigen_runtime_cmpstring"], unfollowed := true, recurses := true, apart := false, narrowed := true }
def FnCachesUptoSaid : Prop := fnCachesUptoRow.holds Tryz.pinned (OpenSpec.upto fnCachesSpec)

/-- 'laws.FnLookUps', WHERE WHAT IT READS IS OF BULK AT MOST 1048576: true; the input reads as it did. -/
def fnLookUpsUptoRow : OpenClaim := { program := "ytcepeleohipibaagreat", sum := "07202f78c6591e2ac031063f6a9552b79d228a191c3a6358b5adeb1fedbaff4a", func := "loop.example/g00588/laws.FnLookUps", spec := "fnLookUps", inPlace := ["internal/bytealg.abigen_runtime_cmpstring"], unfollowed := true, recurses := true, apart := false, narrowed := true }
def FnLookUpsUptoSaid : Prop := fnLookUpsUptoRow.holds Tryz.pinned (OpenSpec.upto fnLookUpsSpec)

/-- 'laws.FnExactDropStale', WHERE WHAT IT READS IS OF BULK AT MOST 1048576: true; the input reads as it did. -/
def fnExactDropStaleUptoRow : OpenClaim := { program := "ytcepeleohipibaagreat", sum := "07202f78c6591e2ac031063f6a9552b79d228a191c3a6358b5adeb1fedbaff4a", func := "loop.example/g00588/laws.FnExactDropStale", spec := "fnExactDropStale", inPlace := ["internal/bytealg.abigen_runtime_cmpstring"], unfollowed := true, recurses := true, apart := false, narrowed := true }
def FnExactDropStaleUptoSaid : Prop := fnExactDropStaleUptoRow.holds Tryz.pinned (OpenSpec.upto fnExactDropStaleSpec)

/-- 'laws.FnResolved', WHERE WHAT IT READS IS OF BULK AT MOST 1048576: true; the input reads as it did. -/
def fnResolvedUptoRow : OpenClaim := { program := "ytcepeleohipibaagreat", sum := "07202f78c6591e2ac031063f6a9552b79d228a191c3a6358b5adeb1fedbaff4a", func := "loop.example/g00588/laws.FnResolved", spec := "fnResolved", inPlace := ["internal/bytealg.abigen_runtime_cmpstring"], unfollowed := true, recurses := true, apart := false, narrowed := true }
def FnResolvedUptoSaid : Prop := fnResolvedUptoRow.holds Tryz.pinned (OpenSpec.upto fnResolvedSpec)

/-- 'laws.FnRoots', WHERE WHAT IT READS IS OF BULK AT MOST 1048576: true; the input reads as it did. -/
def fnRootsUptoRow : OpenClaim := { program := "ytcepeleohipibaagreat", sum := "07202f78c6591e2ac031063f6a9552b79d228a191c3a6358b5adeb1fedbaff4a", func := "loop.example/g00588/laws.FnRoots", spec := "fnRoots", inPlace := ["internal/bytealg.abigen_runtime_cmpstring"], unfollowed := true, recurses := true, apart := false, narrowed := true }
def FnRootsUptoSaid : Prop := fnRootsUptoRow.holds Tryz.pinned (OpenSpec.upto fnRootsSpec)

/-- 'laws.FnOffline', WHERE WHAT IT READS IS OF BULK AT MOST 1048576: true; the input reads as it did. -/
def fnOfflineUptoRow : OpenClaim := { program := "ytcepeleohipibaagreat", sum := "07202f78c6591e2ac031063f6a9552b79d228a191c3a6358b5adeb1fedbaff4a", func := "loop.example/g00588/laws.FnOffline", spec := "fnOffline", inPlace := ["internal/bytealg.abigen_runtime_cmpstring"], unfollowed := true, recurses := true, apart := false, narrowed := true }
def FnOfflineUptoSaid : Prop := fnOfflineUptoRow.holds Tryz.pinned (OpenSpec.upto fnOfflineSpec)

/-- 'laws.FnWalks', WHERE WHAT IT READS IS OF BULK AT MOST 1048576: true; the input reads as it did. -/
def fnWalksUptoRow : OpenClaim := { program := "ytcepeleohipibaagreat", sum := "07202f78c6591e2ac031063f6a9552b79d228a191c3a6358b5adeb1fedbaff4a", func := "loop.example/g00588/laws.FnWalks", spec := "fnWalks", inPlace := ["internal/bytealg.abigen_runtime_cmpstring"], unfollowed := true, recurses := true, apart := false, narrowed := true }
def FnWalksUptoSaid : Prop := fnWalksUptoRow.holds Tryz.pinned (OpenSpec.upto fnWalksSpec)

/-- 'laws.FnPets', WHERE WHAT IT READS IS OF BULK AT MOST 1048576: true; the input reads as it did. -/
def fnPetsUptoRow : OpenClaim := { program := "ytcepeleohipibaagreat", sum := "07202f78c6591e2ac031063f6a9552b79d228a191c3a6358b5adeb1fedbaff4a", func := "loop.example/g00588/laws.FnPets", spec := "fnPets", inPlace := ["internal/bytealg.abigen_runtime_cmpstring", "sync/atomic.LoadUint32", "(*internal/sync.Mutex).Lock", "internal/race.Disable", "sync/atomic.CompareAndSwapInt32", "internal/race.Enable", "internal/race.Acquire", "(*internal/sync.Mutex).lockSlow", "internal/sync.runtime_canSpin", "internal/sync.runtime_doSpin", "internal/sync.throw", "internal/sync.runtime_nanotime", "internal/sync.runtime_SemacquireMutex", "sync/atomic.AddInt32", "(*internal/sync.Mutex).Unlock", "internal/race.ReleaseMerge", "(*internal/sync.Mutex).unlockSlow", "internal/sync.fatal", "internal/sync.runtime_Semrelease", "sync/atomic.StoreUint32", "slices.overlaps[loop.example/g00588/impl.Pet]"], unfollowed := true, recurses := true, apart := false, narrowed := true }
def FnPetsUptoSaid : Prop := fnPetsUptoRow.holds Tryz.pinned (OpenSpec.upto fnPetsSpec)

end Rows
end Go.Proofs.YtcepeleohipibaaGreat
