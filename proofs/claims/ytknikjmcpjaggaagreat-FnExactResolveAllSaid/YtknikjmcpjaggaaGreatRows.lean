/-
  No cell of these rows narrows 'for every input' (looked for: loops, veiled, ifaces, maps, wideKeys, modest, calm, conditions, laid).
  DERIVED. THE GIVEN ROWS OF THIS SEAT. 18 by the template 'for every input the law returns true; each argument reads behind the call as it read before'; 0 by the template 'total and deterministic' (their statements: YtknikjmcpjaggaaGreatTotals.lean).
  GIVEN WITH THE SEED: the statements are not yours to turn. If you find one false, say at which input.
  Laid BY PROGRAM, IN A SANDBOX (cutbox-rows.mjs): the forced cells as the released guide's own fill.sh prints them over the translation baa5f33d8f036aec… (all of the seat's roots in one cut). By AI agents, Wed Nov 11 2026. No macro, syntax, notation, axiom, sorry.
-/
import Derived.Test.YtknikjmcpjaggaaGreatChecked
import GoSem.Claim
import GoSem.ClaimJoined
import GoSem.ClaimMapViews
import Derived.JoinedTies
import Derived.KernelRfl
namespace Go.Proofs.YtknikjmcpjaggaaGreat
/- THE CELL 'sum', in the pinned program and in every row, IS THE sha256 OF THE DUMP (.gsa) THAT YtknikjmcpjaggaaGreatProg.lean LOADS. Nothing in Lean hashes anything: it is a label: what it is worth is what the hold of that sum in a sandbox is worth. -/
noncomputable def Tryz.pinned : Pinned := { name := "ytknikjmcpjaggaagreat", sum := "baa5f33d8f036aecde8939799dbeb7e0bcb045c71563e018e5dc553d036c81ee", checked := Tryz.checked }
namespace Rows
def none {H : Type} : Left H := { results := [], args := [] }

/-- 'laws.FnExactResolveAll': WHATEVER THE INPUT: true; the input reads as it did. -/
def fnExactResolveAllSpec : ChangeSpec := { name := "fnExactResolveAll", fn := fun _ => fun
  | [d1, d2, d3, d4, d5] => { results := [.lit (.bool true)], args := [d1, d2, d3, d4, d5] }
  | _ => none }
def fnExactResolveAllRow : OpenClaim := { program := "ytknikjmcpjaggaagreat", sum := "baa5f33d8f036aecde8939799dbeb7e0bcb045c71563e018e5dc553d036c81ee", func := "loop.example/g00588/laws.FnExactResolveAll", spec := "fnExactResolveAll", inPlace := ["internal/bytealg.abigen_runtime_cmpstring"], unfollowed := true, recurses := true, apart := false }
def FnExactResolveAllSaid : Prop := fnExactResolveAllRow.holds Tryz.pinned (OpenSpec.ofChange fnExactResolveAllSpec)

/-- ITS FALSE NEIGHBOUR: 'it returns false'. Refute it at one input. -/
def fnExactResolveAllWrong : ChangeSpec := { name := "fnExactResolveAll", fn := fun _ => fun
  | [d1, d2, d3, d4, d5] => { results := [.lit (.bool false)], args := [d1, d2, d3, d4, d5] }
  | _ => none }
def FnExactResolveAllWrongFalsely : Prop := fnExactResolveAllRow.holds Tryz.pinned (OpenSpec.ofChange fnExactResolveAllWrong)

/-- 'laws.FnExactResolveOffline': WHATEVER THE INPUT: true; the input reads as it did. -/
def fnExactResolveOfflineSpec : ChangeSpec := { name := "fnExactResolveOffline", fn := fun _ => fun
  | [d1, d2, d3, d4, d5] => { results := [.lit (.bool true)], args := [d1, d2, d3, d4, d5] }
  | _ => none }
def fnExactResolveOfflineRow : OpenClaim := { program := "ytknikjmcpjaggaagreat", sum := "baa5f33d8f036aecde8939799dbeb7e0bcb045c71563e018e5dc553d036c81ee", func := "loop.example/g00588/laws.FnExactResolveOffline", spec := "fnExactResolveOffline", inPlace := ["internal/bytealg.abigen_runtime_cmpstring"], unfollowed := true, recurses := true, apart := false }
def FnExactResolveOfflineSaid : Prop := fnExactResolveOfflineRow.holds Tryz.pinned (OpenSpec.ofChange fnExactResolveOfflineSpec)

/-- ITS FALSE NEIGHBOUR: 'it returns false'. Refute it at one input. -/
def fnExactResolveOfflineWrong : ChangeSpec := { name := "fnExactResolveOffline", fn := fun _ => fun
  | [d1, d2, d3, d4, d5] => { results := [.lit (.bool false)], args := [d1, d2, d3, d4, d5] }
  | _ => none }
def FnExactResolveOfflineWrongFalsely : Prop := fnExactResolveOfflineRow.holds Tryz.pinned (OpenSpec.ofChange fnExactResolveOfflineWrong)

/-- 'laws.FnExactPutPet': WHATEVER THE INPUT: true; the input reads as it did. -/
def fnExactPutPetSpec : ChangeSpec := { name := "fnExactPutPet", fn := fun _ => fun
  | [d1, d2, d3] => { results := [.lit (.bool true)], args := [d1, d2, d3] }
  | _ => none }
def fnExactPutPetRow : OpenClaim := { program := "ytknikjmcpjaggaagreat", sum := "baa5f33d8f036aecde8939799dbeb7e0bcb045c71563e018e5dc553d036c81ee", func := "loop.example/g00588/laws.FnExactPutPet", spec := "fnExactPutPet", inPlace := ["internal/bytealg.abigen_runtime_cmpstring", "sync/atomic.LoadUint32", "(*internal/sync.Mutex).Lock", "internal/race.Disable", "sync/atomic.CompareAndSwapInt32", "internal/race.Enable", "internal/race.Acquire", "(*internal/sync.Mutex).lockSlow", "internal/sync.runtime_canSpin", "internal/sync.runtime_doSpin", "internal/sync.throw", "internal/sync.runtime_nanotime", "internal/sync.runtime_SemacquireMutex", "sync/atomic.AddInt32", "(*internal/sync.Mutex).Unlock", "internal/race.ReleaseMerge", "(*internal/sync.Mutex).unlockSlow", "internal/sync.fatal", "internal/sync.runtime_Semrelease", "sync/atomic.StoreUint32", "slices.overlaps[loop.example/g00588/impl.Pet]"], unfollowed := true, recurses := true, apart := false }
def FnExactPutPetSaid : Prop := fnExactPutPetRow.holds Tryz.pinned (OpenSpec.ofChange fnExactPutPetSpec)

/-- ITS FALSE NEIGHBOUR: 'it returns false'. Refute it at one input. -/
def fnExactPutPetWrong : ChangeSpec := { name := "fnExactPutPet", fn := fun _ => fun
  | [d1, d2, d3] => { results := [.lit (.bool false)], args := [d1, d2, d3] }
  | _ => none }
def FnExactPutPetWrongFalsely : Prop := fnExactPutPetRow.holds Tryz.pinned (OpenSpec.ofChange fnExactPutPetWrong)

/-- 'laws.FnExactResolveFrom': WHATEVER THE INPUT: true; the input reads as it did. -/
def fnExactResolveFromSpec : ChangeSpec := { name := "fnExactResolveFrom", fn := fun _ => fun
  | [d1, d2, d3, d4, d5, d6] => { results := [.lit (.bool true)], args := [d1, d2, d3, d4, d5, d6] }
  | _ => none }
def fnExactResolveFromRow : OpenClaim := { program := "ytknikjmcpjaggaagreat", sum := "baa5f33d8f036aecde8939799dbeb7e0bcb045c71563e018e5dc553d036c81ee", func := "loop.example/g00588/laws.FnExactResolveFrom", spec := "fnExactResolveFrom", inPlace := ["internal/bytealg.abigen_runtime_cmpstring"], unfollowed := true, recurses := true, apart := false }
def FnExactResolveFromSaid : Prop := fnExactResolveFromRow.holds Tryz.pinned (OpenSpec.ofChange fnExactResolveFromSpec)

/-- ITS FALSE NEIGHBOUR: 'it returns false'. Refute it at one input. -/
def fnExactResolveFromWrong : ChangeSpec := { name := "fnExactResolveFrom", fn := fun _ => fun
  | [d1, d2, d3, d4, d5, d6] => { results := [.lit (.bool false)], args := [d1, d2, d3, d4, d5, d6] }
  | _ => none }
def FnExactResolveFromWrongFalsely : Prop := fnExactResolveFromRow.holds Tryz.pinned (OpenSpec.ofChange fnExactResolveFromWrong)

/-- 'laws.FnOwners': WHATEVER THE INPUT: true; the input reads as it did. -/
def fnOwnersSpec : ChangeSpec := { name := "fnOwners", fn := fun _ => fun
  | [d] => { results := [.lit (.bool true)], args := [d] }
  | _ => none }
def fnOwnersRow : OpenClaim := { program := "ytknikjmcpjaggaagreat", sum := "baa5f33d8f036aecde8939799dbeb7e0bcb045c71563e018e5dc553d036c81ee", func := "loop.example/g00588/laws.FnOwners", spec := "fnOwners", unfollowed := true, recurses := true, apart := false }
def FnOwnersSaid : Prop := fnOwnersRow.holds Tryz.pinned (OpenSpec.ofChange fnOwnersSpec)

/-- ITS FALSE NEIGHBOUR: 'it returns false'. Refute it at one input. -/
def fnOwnersWrong : ChangeSpec := { name := "fnOwners", fn := fun _ => fun
  | [d] => { results := [.lit (.bool false)], args := [d] }
  | _ => none }
def FnOwnersWrongFalsely : Prop := fnOwnersRow.holds Tryz.pinned (OpenSpec.ofChange fnOwnersWrong)

/-- 'laws.FnKnown': WHATEVER THE INPUT: true; the input reads as it did. -/
def fnKnownSpec : ChangeSpec := { name := "fnKnown", fn := fun _ => fun
  | [d] => { results := [.lit (.bool true)], args := [d] }
  | _ => none }
def fnKnownRow : OpenClaim := { program := "ytknikjmcpjaggaagreat", sum := "baa5f33d8f036aecde8939799dbeb7e0bcb045c71563e018e5dc553d036c81ee", func := "loop.example/g00588/laws.FnKnown", spec := "fnKnown", unfollowed := true, recurses := true, apart := false }
def FnKnownSaid : Prop := fnKnownRow.holds Tryz.pinned (OpenSpec.ofChange fnKnownSpec)

/-- ITS FALSE NEIGHBOUR: 'it returns false'. Refute it at one input. -/
def fnKnownWrong : ChangeSpec := { name := "fnKnown", fn := fun _ => fun
  | [d] => { results := [.lit (.bool false)], args := [d] }
  | _ => none }
def FnKnownWrongFalsely : Prop := fnKnownRow.holds Tryz.pinned (OpenSpec.ofChange fnKnownWrong)

/-- 'laws.FnCaches': WHATEVER THE INPUT: true; the input reads as it did. -/
def fnCachesSpec : ChangeSpec := { name := "fnCaches", fn := fun _ => fun
  | [d] => { results := [.lit (.bool true)], args := [d] }
  | _ => none }
def fnCachesRow : OpenClaim := { program := "ytknikjmcpjaggaagreat", sum := "baa5f33d8f036aecde8939799dbeb7e0bcb045c71563e018e5dc553d036c81ee", func := "loop.example/g00588/laws.FnCaches", spec := "fnCaches", inPlace := ["internal/bytealg.abigen_runtime_cmpstring"], unfollowed := true, recurses := true, apart := false }
def FnCachesSaid : Prop := fnCachesRow.holds Tryz.pinned (OpenSpec.ofChange fnCachesSpec)

/-- ITS FALSE NEIGHBOUR: 'it returns false'. Refute it at one input. -/
def fnCachesWrong : ChangeSpec := { name := "fnCaches", fn := fun _ => fun
  | [d] => { results := [.lit (.bool false)], args := [d] }
  | _ => none }
def FnCachesWrongFalsely : Prop := fnCachesRow.holds Tryz.pinned (OpenSpec.ofChange fnCachesWrong)

/-- 'laws.FnDecisions': WHATEVER THE INPUT: true; the input reads as it did. -/
def fnDecisionsSpec : ChangeSpec := { name := "fnDecisions", fn := fun _ => fun
  | [d] => { results := [.lit (.bool true)], args := [d] }
  | _ => none }
def fnDecisionsRow : OpenClaim := { program := "ytknikjmcpjaggaagreat", sum := "baa5f33d8f036aecde8939799dbeb7e0bcb045c71563e018e5dc553d036c81ee", func := "loop.example/g00588/laws.FnDecisions", spec := "fnDecisions", unfollowed := true, recurses := true, apart := false }
def FnDecisionsSaid : Prop := fnDecisionsRow.holds Tryz.pinned (OpenSpec.ofChange fnDecisionsSpec)

/-- ITS FALSE NEIGHBOUR: 'it returns false'. Refute it at one input. -/
def fnDecisionsWrong : ChangeSpec := { name := "fnDecisions", fn := fun _ => fun
  | [d] => { results := [.lit (.bool false)], args := [d] }
  | _ => none }
def FnDecisionsWrongFalsely : Prop := fnDecisionsRow.holds Tryz.pinned (OpenSpec.ofChange fnDecisionsWrong)

/-- 'laws.FnLookUps': WHATEVER THE INPUT: true; the input reads as it did. -/
def fnLookUpsSpec : ChangeSpec := { name := "fnLookUps", fn := fun _ => fun
  | [d] => { results := [.lit (.bool true)], args := [d] }
  | _ => none }
def fnLookUpsRow : OpenClaim := { program := "ytknikjmcpjaggaagreat", sum := "baa5f33d8f036aecde8939799dbeb7e0bcb045c71563e018e5dc553d036c81ee", func := "loop.example/g00588/laws.FnLookUps", spec := "fnLookUps", inPlace := ["internal/bytealg.abigen_runtime_cmpstring"], unfollowed := true, recurses := true, apart := false }
def FnLookUpsSaid : Prop := fnLookUpsRow.holds Tryz.pinned (OpenSpec.ofChange fnLookUpsSpec)

/-- ITS FALSE NEIGHBOUR: 'it returns false'. Refute it at one input. -/
def fnLookUpsWrong : ChangeSpec := { name := "fnLookUps", fn := fun _ => fun
  | [d] => { results := [.lit (.bool false)], args := [d] }
  | _ => none }
def FnLookUpsWrongFalsely : Prop := fnLookUpsRow.holds Tryz.pinned (OpenSpec.ofChange fnLookUpsWrong)

/-- 'laws.FnExactDropStale': WHATEVER THE INPUT: true; the input reads as it did. -/
def fnExactDropStaleSpec : ChangeSpec := { name := "fnExactDropStale", fn := fun _ => fun
  | [d1, d2] => { results := [.lit (.bool true)], args := [d1, d2] }
  | _ => none }
def fnExactDropStaleRow : OpenClaim := { program := "ytknikjmcpjaggaagreat", sum := "baa5f33d8f036aecde8939799dbeb7e0bcb045c71563e018e5dc553d036c81ee", func := "loop.example/g00588/laws.FnExactDropStale", spec := "fnExactDropStale", inPlace := ["internal/bytealg.abigen_runtime_cmpstring"], unfollowed := true, recurses := true, apart := false }
def FnExactDropStaleSaid : Prop := fnExactDropStaleRow.holds Tryz.pinned (OpenSpec.ofChange fnExactDropStaleSpec)

/-- ITS FALSE NEIGHBOUR: 'it returns false'. Refute it at one input. -/
def fnExactDropStaleWrong : ChangeSpec := { name := "fnExactDropStale", fn := fun _ => fun
  | [d1, d2] => { results := [.lit (.bool false)], args := [d1, d2] }
  | _ => none }
def FnExactDropStaleWrongFalsely : Prop := fnExactDropStaleRow.holds Tryz.pinned (OpenSpec.ofChange fnExactDropStaleWrong)

/-- 'laws.FnResolved': WHATEVER THE INPUT: true; the input reads as it did. -/
def fnResolvedSpec : ChangeSpec := { name := "fnResolved", fn := fun _ => fun
  | [d] => { results := [.lit (.bool true)], args := [d] }
  | _ => none }
def fnResolvedRow : OpenClaim := { program := "ytknikjmcpjaggaagreat", sum := "baa5f33d8f036aecde8939799dbeb7e0bcb045c71563e018e5dc553d036c81ee", func := "loop.example/g00588/laws.FnResolved", spec := "fnResolved", inPlace := ["internal/bytealg.abigen_runtime_cmpstring"], unfollowed := true, recurses := true, apart := false }
def FnResolvedSaid : Prop := fnResolvedRow.holds Tryz.pinned (OpenSpec.ofChange fnResolvedSpec)

/-- ITS FALSE NEIGHBOUR: 'it returns false'. Refute it at one input. -/
def fnResolvedWrong : ChangeSpec := { name := "fnResolved", fn := fun _ => fun
  | [d] => { results := [.lit (.bool false)], args := [d] }
  | _ => none }
def FnResolvedWrongFalsely : Prop := fnResolvedRow.holds Tryz.pinned (OpenSpec.ofChange fnResolvedWrong)

/-- 'laws.FnRoots': WHATEVER THE INPUT: true; the input reads as it did. -/
def fnRootsSpec : ChangeSpec := { name := "fnRoots", fn := fun _ => fun
  | [d] => { results := [.lit (.bool true)], args := [d] }
  | _ => none }
def fnRootsRow : OpenClaim := { program := "ytknikjmcpjaggaagreat", sum := "baa5f33d8f036aecde8939799dbeb7e0bcb045c71563e018e5dc553d036c81ee", func := "loop.example/g00588/laws.FnRoots", spec := "fnRoots", inPlace := ["internal/bytealg.abigen_runtime_cmpstring"], unfollowed := true, recurses := true, apart := false }
def FnRootsSaid : Prop := fnRootsRow.holds Tryz.pinned (OpenSpec.ofChange fnRootsSpec)

/-- ITS FALSE NEIGHBOUR: 'it returns false'. Refute it at one input. -/
def fnRootsWrong : ChangeSpec := { name := "fnRoots", fn := fun _ => fun
  | [d] => { results := [.lit (.bool false)], args := [d] }
  | _ => none }
def FnRootsWrongFalsely : Prop := fnRootsRow.holds Tryz.pinned (OpenSpec.ofChange fnRootsWrong)

/-- 'laws.FnOffline': WHATEVER THE INPUT: true; the input reads as it did. -/
def fnOfflineSpec : ChangeSpec := { name := "fnOffline", fn := fun _ => fun
  | [d] => { results := [.lit (.bool true)], args := [d] }
  | _ => none }
def fnOfflineRow : OpenClaim := { program := "ytknikjmcpjaggaagreat", sum := "baa5f33d8f036aecde8939799dbeb7e0bcb045c71563e018e5dc553d036c81ee", func := "loop.example/g00588/laws.FnOffline", spec := "fnOffline", inPlace := ["internal/bytealg.abigen_runtime_cmpstring"], unfollowed := true, recurses := true, apart := false }
def FnOfflineSaid : Prop := fnOfflineRow.holds Tryz.pinned (OpenSpec.ofChange fnOfflineSpec)

/-- ITS FALSE NEIGHBOUR: 'it returns false'. Refute it at one input. -/
def fnOfflineWrong : ChangeSpec := { name := "fnOffline", fn := fun _ => fun
  | [d] => { results := [.lit (.bool false)], args := [d] }
  | _ => none }
def FnOfflineWrongFalsely : Prop := fnOfflineRow.holds Tryz.pinned (OpenSpec.ofChange fnOfflineWrong)

/-- 'laws.FnWalks': WHATEVER THE INPUT: true; the input reads as it did. -/
def fnWalksSpec : ChangeSpec := { name := "fnWalks", fn := fun _ => fun
  | [d] => { results := [.lit (.bool true)], args := [d] }
  | _ => none }
def fnWalksRow : OpenClaim := { program := "ytknikjmcpjaggaagreat", sum := "baa5f33d8f036aecde8939799dbeb7e0bcb045c71563e018e5dc553d036c81ee", func := "loop.example/g00588/laws.FnWalks", spec := "fnWalks", inPlace := ["internal/bytealg.abigen_runtime_cmpstring"], unfollowed := true, recurses := true, apart := false }
def FnWalksSaid : Prop := fnWalksRow.holds Tryz.pinned (OpenSpec.ofChange fnWalksSpec)

/-- ITS FALSE NEIGHBOUR: 'it returns false'. Refute it at one input. -/
def fnWalksWrong : ChangeSpec := { name := "fnWalks", fn := fun _ => fun
  | [d] => { results := [.lit (.bool false)], args := [d] }
  | _ => none }
def FnWalksWrongFalsely : Prop := fnWalksRow.holds Tryz.pinned (OpenSpec.ofChange fnWalksWrong)

/-- 'laws.FnExactCanResolve': WHATEVER THE INPUT: true; the input reads as it did. -/
def fnExactCanResolveSpec : ChangeSpec := { name := "fnExactCanResolve", fn := fun _ => fun
  | [d1, d2, d3, d4, d5] => { results := [.lit (.bool true)], args := [d1, d2, d3, d4, d5] }
  | _ => none }
def fnExactCanResolveRow : OpenClaim := { program := "ytknikjmcpjaggaagreat", sum := "baa5f33d8f036aecde8939799dbeb7e0bcb045c71563e018e5dc553d036c81ee", func := "loop.example/g00588/laws.FnExactCanResolve", spec := "fnExactCanResolve", inPlace := ["internal/bytealg.abigen_runtime_cmpstring"], unfollowed := true, recurses := true, apart := false }
def FnExactCanResolveSaid : Prop := fnExactCanResolveRow.holds Tryz.pinned (OpenSpec.ofChange fnExactCanResolveSpec)

/-- ITS FALSE NEIGHBOUR: 'it returns false'. Refute it at one input. -/
def fnExactCanResolveWrong : ChangeSpec := { name := "fnExactCanResolve", fn := fun _ => fun
  | [d1, d2, d3, d4, d5] => { results := [.lit (.bool false)], args := [d1, d2, d3, d4, d5] }
  | _ => none }
def FnExactCanResolveWrongFalsely : Prop := fnExactCanResolveRow.holds Tryz.pinned (OpenSpec.ofChange fnExactCanResolveWrong)

/-- 'laws.FnPets': WHATEVER THE INPUT: true; the input reads as it did. -/
def fnPetsSpec : ChangeSpec := { name := "fnPets", fn := fun _ => fun
  | [d] => { results := [.lit (.bool true)], args := [d] }
  | _ => none }
def fnPetsRow : OpenClaim := { program := "ytknikjmcpjaggaagreat", sum := "baa5f33d8f036aecde8939799dbeb7e0bcb045c71563e018e5dc553d036c81ee", func := "loop.example/g00588/laws.FnPets", spec := "fnPets", inPlace := ["internal/bytealg.abigen_runtime_cmpstring", "sync/atomic.LoadUint32", "(*internal/sync.Mutex).Lock", "internal/race.Disable", "sync/atomic.CompareAndSwapInt32", "internal/race.Enable", "internal/race.Acquire", "(*internal/sync.Mutex).lockSlow", "internal/sync.runtime_canSpin", "internal/sync.runtime_doSpin", "internal/sync.throw", "internal/sync.runtime_nanotime", "internal/sync.runtime_SemacquireMutex", "sync/atomic.AddInt32", "(*internal/sync.Mutex).Unlock", "internal/race.ReleaseMerge", "(*internal/sync.Mutex).unlockSlow", "internal/sync.fatal", "internal/sync.runtime_Semrelease", "sync/atomic.StoreUint32", "slices.overlaps[loop.example/g00588/impl.Pet]"], unfollowed := true, recurses := true, apart := false }
def FnPetsSaid : Prop := fnPetsRow.holds Tryz.pinned (OpenSpec.ofChange fnPetsSpec)

/-- ITS FALSE NEIGHBOUR: 'it returns false'. Refute it at one input. -/
def fnPetsWrong : ChangeSpec := { name := "fnPets", fn := fun _ => fun
  | [d] => { results := [.lit (.bool false)], args := [d] }
  | _ => none }
def FnPetsWrongFalsely : Prop := fnPetsRow.holds Tryz.pinned (OpenSpec.ofChange fnPetsWrong)

/-- 'laws.FnExactResolve': WHATEVER THE INPUT: true; the input reads as it did. -/
def fnExactResolveSpec : ChangeSpec := { name := "fnExactResolve", fn := fun _ => fun
  | [d1, d2, d3, d4, d5] => { results := [.lit (.bool true)], args := [d1, d2, d3, d4, d5] }
  | _ => none }
def fnExactResolveRow : OpenClaim := { program := "ytknikjmcpjaggaagreat", sum := "baa5f33d8f036aecde8939799dbeb7e0bcb045c71563e018e5dc553d036c81ee", func := "loop.example/g00588/laws.FnExactResolve", spec := "fnExactResolve", inPlace := ["internal/bytealg.abigen_runtime_cmpstring"], unfollowed := true, recurses := true, apart := false }
def FnExactResolveSaid : Prop := fnExactResolveRow.holds Tryz.pinned (OpenSpec.ofChange fnExactResolveSpec)

/-- ITS FALSE NEIGHBOUR: 'it returns false'. Refute it at one input. -/
def fnExactResolveWrong : ChangeSpec := { name := "fnExactResolve", fn := fun _ => fun
  | [d1, d2, d3, d4, d5] => { results := [.lit (.bool false)], args := [d1, d2, d3, d4, d5] }
  | _ => none }
def FnExactResolveWrongFalsely : Prop := fnExactResolveRow.holds Tryz.pinned (OpenSpec.ofChange fnExactResolveWrong)

/-- 'laws.FnExactResolvePet': WHATEVER THE INPUT: true; the input reads as it did. -/
def fnExactResolvePetSpec : ChangeSpec := { name := "fnExactResolvePet", fn := fun _ => fun
  | [d1, d2, d3, d4, d5, d6] => { results := [.lit (.bool true)], args := [d1, d2, d3, d4, d5, d6] }
  | _ => none }
def fnExactResolvePetRow : OpenClaim := { program := "ytknikjmcpjaggaagreat", sum := "baa5f33d8f036aecde8939799dbeb7e0bcb045c71563e018e5dc553d036c81ee", func := "loop.example/g00588/laws.FnExactResolvePet", spec := "fnExactResolvePet", inPlace := ["internal/bytealg.abigen_runtime_cmpstring"], unfollowed := true, recurses := true, apart := false }
def FnExactResolvePetSaid : Prop := fnExactResolvePetRow.holds Tryz.pinned (OpenSpec.ofChange fnExactResolvePetSpec)

/-- ITS FALSE NEIGHBOUR: 'it returns false'. Refute it at one input. -/
def fnExactResolvePetWrong : ChangeSpec := { name := "fnExactResolvePet", fn := fun _ => fun
  | [d1, d2, d3, d4, d5, d6] => { results := [.lit (.bool false)], args := [d1, d2, d3, d4, d5, d6] }
  | _ => none }
def FnExactResolvePetWrongFalsely : Prop := fnExactResolvePetRow.holds Tryz.pinned (OpenSpec.ofChange fnExactResolvePetWrong)

/- THE SECOND FORM. 'bulk': how many values and letters a reading holds, each counted each time it is reached (what is shared counts as often as it is met; a slice's spare places count too). A statement '..UptoSaid' is the law's where the arguments, and the package variables that the reading takes, are together of bulk at most 1048576: NARROWER than '..Said'. Prove '..Said' where nothing that the law and all that it calls make is longer than what came in: it says more and counts as full. Else prove '..UptoSaid'. A law counts once. -/
mutual
def uptoBulk {H : Type} : DataW H → Nat
  | .lit (.string bytes) => bytes.length + 1
  | .lit _ => 1
  | .nil => 1
  | .ptr d => uptoBulk d + 1
  | .slice elems spare => uptoBulkAll elems + uptoBulkAll spare + 1
  | .agg parts => uptoBulkAll parts + 1
  | .iface _ d => uptoBulk d + 1
  | .map entries => uptoBulkEntries entries + 1
  | .held _ => 1
def uptoBulkAll {H : Type} : List (DataW H) → Nat
  | [] => 0
  | d :: r => uptoBulk d + uptoBulkAll r
def uptoBulkEntries {H : Type} : List (Lit × DataW H) → Nat
  | [] => 0
  | x :: r => uptoBulkEntry x + uptoBulkEntries r
def uptoBulkEntry {H : Type} : Lit × DataW H → Nat
  | (.string bytes, d) => bytes.length + uptoBulk d + 1
  | (_, d) => uptoBulk d + 1
 end
def uptoSmall : (H : Type) → List (DataW H) → Bool := fun _ ds => decide (uptoBulkAll ds ≤ 1048576)
def OpenSpec.upto (s : _root_.Go.ChangeSpec) : _root_.Go.OpenSpec := { _root_.Go.OpenSpec.ofChange s with cond := some uptoSmall }

/-- 'laws.FnExactResolveAll', WHERE WHAT IT READS IS OF BULK AT MOST 1048576: true; the input reads as it did. -/
def fnExactResolveAllUptoRow : OpenClaim := { program := "ytknikjmcpjaggaagreat", sum := "baa5f33d8f036aecde8939799dbeb7e0bcb045c71563e018e5dc553d036c81ee", func := "loop.example/g00588/laws.FnExactResolveAll", spec := "fnExactResolveAll", inPlace := ["internal/bytealg.abigen_runtime_cmpstring"], unfollowed := true, recurses := true, apart := false, narrowed := true }
def FnExactResolveAllUptoSaid : Prop := fnExactResolveAllUptoRow.holds Tryz.pinned (OpenSpec.upto fnExactResolveAllSpec)

/-- 'laws.FnExactResolveOffline', WHERE WHAT IT READS IS OF BULK AT MOST 1048576: true; the input reads as it did. -/
def fnExactResolveOfflineUptoRow : OpenClaim := { program := "ytknikjmcpjaggaagreat", sum := "baa5f33d8f036aecde8939799dbeb7e0bcb045c71563e018e5dc553d036c81ee", func := "loop.example/g00588/laws.FnExactResolveOffline", spec := "fnExactResolveOffline", inPlace := ["internal/bytealg.abigen_runtime_cmpstring"], unfollowed := true, recurses := true, apart := false, narrowed := true }
def FnExactResolveOfflineUptoSaid : Prop := fnExactResolveOfflineUptoRow.holds Tryz.pinned (OpenSpec.upto fnExactResolveOfflineSpec)

/-- 'laws.FnExactPutPet', WHERE WHAT IT READS IS OF BULK AT MOST 1048576: true; the input reads as it did. -/
def fnExactPutPetUptoRow : OpenClaim := { program := "ytknikjmcpjaggaagreat", sum := "baa5f33d8f036aecde8939799dbeb7e0bcb045c71563e018e5dc553d036c81ee", func := "loop.example/g00588/laws.FnExactPutPet", spec := "fnExactPutPet", inPlace := ["internal/bytealg.abigen_runtime_cmpstring", "sync/atomic.LoadUint32", "(*internal/sync.Mutex).Lock", "internal/race.Disable", "sync/atomic.CompareAndSwapInt32", "internal/race.Enable", "internal/race.Acquire", "(*internal/sync.Mutex).lockSlow", "internal/sync.runtime_canSpin", "internal/sync.runtime_doSpin", "internal/sync.throw", "internal/sync.runtime_nanotime", "internal/sync.runtime_SemacquireMutex", "sync/atomic.AddInt32", "(*internal/sync.Mutex).Unlock", "internal/race.ReleaseMerge", "(*internal/sync.Mutex).unlockSlow", "internal/sync.fatal", "internal/sync.runtime_Semrelease", "sync/atomic.StoreUint32", "slices.overlaps[loop.example/g00588/impl.Pet]"], unfollowed := true, recurses := true, apart := false, narrowed := true }
def FnExactPutPetUptoSaid : Prop := fnExactPutPetUptoRow.holds Tryz.pinned (OpenSpec.upto fnExactPutPetSpec)

/-- 'laws.FnExactResolveFrom', WHERE WHAT IT READS IS OF BULK AT MOST 1048576: true; the input reads as it did. -/
def fnExactResolveFromUptoRow : OpenClaim := { program := "ytknikjmcpjaggaagreat", sum := "baa5f33d8f036aecde8939799dbeb7e0bcb045c71563e018e5dc553d036c81ee", func := "loop.example/g00588/laws.FnExactResolveFrom", spec := "fnExactResolveFrom", inPlace := ["internal/bytealg.abigen_runtime_cmpstring"], unfollowed := true, recurses := true, apart := false, narrowed := true }
def FnExactResolveFromUptoSaid : Prop := fnExactResolveFromUptoRow.holds Tryz.pinned (OpenSpec.upto fnExactResolveFromSpec)

/-- 'laws.FnOwners', WHERE WHAT IT READS IS OF BULK AT MOST 1048576: true; the input reads as it did. -/
def fnOwnersUptoRow : OpenClaim := { program := "ytknikjmcpjaggaagreat", sum := "baa5f33d8f036aecde8939799dbeb7e0bcb045c71563e018e5dc553d036c81ee", func := "loop.example/g00588/laws.FnOwners", spec := "fnOwners", unfollowed := true, recurses := true, apart := false, narrowed := true }
def FnOwnersUptoSaid : Prop := fnOwnersUptoRow.holds Tryz.pinned (OpenSpec.upto fnOwnersSpec)

/-- 'laws.FnKnown', WHERE WHAT IT READS IS OF BULK AT MOST 1048576: true; the input reads as it did. -/
def fnKnownUptoRow : OpenClaim := { program := "ytknikjmcpjaggaagreat", sum := "baa5f33d8f036aecde8939799dbeb7e0bcb045c71563e018e5dc553d036c81ee", func := "loop.example/g00588/laws.FnKnown", spec := "fnKnown", unfollowed := true, recurses := true, apart := false, narrowed := true }
def FnKnownUptoSaid : Prop := fnKnownUptoRow.holds Tryz.pinned (OpenSpec.upto fnKnownSpec)

/-- 'laws.FnCaches', WHERE WHAT IT READS IS OF BULK AT MOST 1048576: true; the input reads as it did. -/
def fnCachesUptoRow : OpenClaim := { program := "ytknikjmcpjaggaagreat", sum := "baa5f33d8f036aecde8939799dbeb7e0bcb045c71563e018e5dc553d036c81ee", func := "loop.example/g00588/laws.FnCaches", spec := "fnCaches", inPlace := ["internal/bytealg.abigen_runtime_cmpstring"], unfollowed := true, recurses := true, apart := false, narrowed := true }
def FnCachesUptoSaid : Prop := fnCachesUptoRow.holds Tryz.pinned (OpenSpec.upto fnCachesSpec)

/-- 'laws.FnDecisions', WHERE WHAT IT READS IS OF BULK AT MOST 1048576: true; the input reads as it did. -/
def fnDecisionsUptoRow : OpenClaim := { program := "ytknikjmcpjaggaagreat", sum := "baa5f33d8f036aecde8939799dbeb7e0bcb045c71563e018e5dc553d036c81ee", func := "loop.example/g00588/laws.FnDecisions", spec := "fnDecisions", unfollowed := true, recurses := true, apart := false, narrowed := true }
def FnDecisionsUptoSaid : Prop := fnDecisionsUptoRow.holds Tryz.pinned (OpenSpec.upto fnDecisionsSpec)

/-- 'laws.FnLookUps', WHERE WHAT IT READS IS OF BULK AT MOST 1048576: true; the input reads as it did. -/
def fnLookUpsUptoRow : OpenClaim := { program := "ytknikjmcpjaggaagreat", sum := "baa5f33d8f036aecde8939799dbeb7e0bcb045c71563e018e5dc553d036c81ee", func := "loop.example/g00588/laws.FnLookUps", spec := "fnLookUps", inPlace := ["internal/bytealg.abigen_runtime_cmpstring"], unfollowed := true, recurses := true, apart := false, narrowed := true }
def FnLookUpsUptoSaid : Prop := fnLookUpsUptoRow.holds Tryz.pinned (OpenSpec.upto fnLookUpsSpec)

/-- 'laws.FnExactDropStale', WHERE WHAT IT READS IS OF BULK AT MOST 1048576: true; the input reads as it did. -/
def fnExactDropStaleUptoRow : OpenClaim := { program := "ytknikjmcpjaggaagreat", sum := "baa5f33d8f036aecde8939799dbeb7e0bcb045c71563e018e5dc553d036c81ee", func := "loop.example/g00588/laws.FnExactDropStale", spec := "fnExactDropStale", inPlace := ["internal/bytealg.abigen_runtime_cmpstring"], unfollowed := true, recurses := true, apart := false, narrowed := true }
def FnExactDropStaleUptoSaid : Prop := fnExactDropStaleUptoRow.holds Tryz.pinned (OpenSpec.upto fnExactDropStaleSpec)

/-- 'laws.FnResolved', WHERE WHAT IT READS IS OF BULK AT MOST 1048576: true; the input reads as it did. -/
def fnResolvedUptoRow : OpenClaim := { program := "ytknikjmcpjaggaagreat", sum := "baa5f33d8f036aecde8939799dbeb7e0bcb045c71563e018e5dc553d036c81ee", func := "loop.example/g00588/laws.FnResolved", spec := "fnResolved", inPlace := ["internal/bytealg.abigen_runtime_cmpstring"], unfollowed := true, recurses := true, apart := false, narrowed := true }
def FnResolvedUptoSaid : Prop := fnResolvedUptoRow.holds Tryz.pinned (OpenSpec.upto fnResolvedSpec)

/-- 'laws.FnRoots', WHERE WHAT IT READS IS OF BULK AT MOST 1048576: true; the input reads as it did. -/
def fnRootsUptoRow : OpenClaim := { program := "ytknikjmcpjaggaagreat", sum := "baa5f33d8f036aecde8939799dbeb7e0bcb045c71563e018e5dc553d036c81ee", func := "loop.example/g00588/laws.FnRoots", spec := "fnRoots", inPlace := ["internal/bytealg.abigen_runtime_cmpstring"], unfollowed := true, recurses := true, apart := false, narrowed := true }
def FnRootsUptoSaid : Prop := fnRootsUptoRow.holds Tryz.pinned (OpenSpec.upto fnRootsSpec)

/-- 'laws.FnOffline', WHERE WHAT IT READS IS OF BULK AT MOST 1048576: true; the input reads as it did. -/
def fnOfflineUptoRow : OpenClaim := { program := "ytknikjmcpjaggaagreat", sum := "baa5f33d8f036aecde8939799dbeb7e0bcb045c71563e018e5dc553d036c81ee", func := "loop.example/g00588/laws.FnOffline", spec := "fnOffline", inPlace := ["internal/bytealg.abigen_runtime_cmpstring"], unfollowed := true, recurses := true, apart := false, narrowed := true }
def FnOfflineUptoSaid : Prop := fnOfflineUptoRow.holds Tryz.pinned (OpenSpec.upto fnOfflineSpec)

/-- 'laws.FnWalks', WHERE WHAT IT READS IS OF BULK AT MOST 1048576: true; the input reads as it did. -/
def fnWalksUptoRow : OpenClaim := { program := "ytknikjmcpjaggaagreat", sum := "baa5f33d8f036aecde8939799dbeb7e0bcb045c71563e018e5dc553d036c81ee", func := "loop.example/g00588/laws.FnWalks", spec := "fnWalks", inPlace := ["internal/bytealg.abigen_runtime_cmpstring"], unfollowed := true, recurses := true, apart := false, narrowed := true }
def FnWalksUptoSaid : Prop := fnWalksUptoRow.holds Tryz.pinned (OpenSpec.upto fnWalksSpec)

/-- 'laws.FnExactCanResolve', WHERE WHAT IT READS IS OF BULK AT MOST 1048576: true; the input reads as it did. -/
def fnExactCanResolveUptoRow : OpenClaim := { program := "ytknikjmcpjaggaagreat", sum := "baa5f33d8f036aecde8939799dbeb7e0bcb045c71563e018e5dc553d036c81ee", func := "loop.example/g00588/laws.FnExactCanResolve", spec := "fnExactCanResolve", inPlace := ["internal/bytealg.abigen_runtime_cmpstring"], unfollowed := true, recurses := true, apart := false, narrowed := true }
def FnExactCanResolveUptoSaid : Prop := fnExactCanResolveUptoRow.holds Tryz.pinned (OpenSpec.upto fnExactCanResolveSpec)

/-- 'laws.FnPets', WHERE WHAT IT READS IS OF BULK AT MOST 1048576: true; the input reads as it did. -/
def fnPetsUptoRow : OpenClaim := { program := "ytknikjmcpjaggaagreat", sum := "baa5f33d8f036aecde8939799dbeb7e0bcb045c71563e018e5dc553d036c81ee", func := "loop.example/g00588/laws.FnPets", spec := "fnPets", inPlace := ["internal/bytealg.abigen_runtime_cmpstring", "sync/atomic.LoadUint32", "(*internal/sync.Mutex).Lock", "internal/race.Disable", "sync/atomic.CompareAndSwapInt32", "internal/race.Enable", "internal/race.Acquire", "(*internal/sync.Mutex).lockSlow", "internal/sync.runtime_canSpin", "internal/sync.runtime_doSpin", "internal/sync.throw", "internal/sync.runtime_nanotime", "internal/sync.runtime_SemacquireMutex", "sync/atomic.AddInt32", "(*internal/sync.Mutex).Unlock", "internal/race.ReleaseMerge", "(*internal/sync.Mutex).unlockSlow", "internal/sync.fatal", "internal/sync.runtime_Semrelease", "sync/atomic.StoreUint32", "slices.overlaps[loop.example/g00588/impl.Pet]"], unfollowed := true, recurses := true, apart := false, narrowed := true }
def FnPetsUptoSaid : Prop := fnPetsUptoRow.holds Tryz.pinned (OpenSpec.upto fnPetsSpec)

/-- 'laws.FnExactResolve', WHERE WHAT IT READS IS OF BULK AT MOST 1048576: true; the input reads as it did. -/
def fnExactResolveUptoRow : OpenClaim := { program := "ytknikjmcpjaggaagreat", sum := "baa5f33d8f036aecde8939799dbeb7e0bcb045c71563e018e5dc553d036c81ee", func := "loop.example/g00588/laws.FnExactResolve", spec := "fnExactResolve", inPlace := ["internal/bytealg.abigen_runtime_cmpstring"], unfollowed := true, recurses := true, apart := false, narrowed := true }
def FnExactResolveUptoSaid : Prop := fnExactResolveUptoRow.holds Tryz.pinned (OpenSpec.upto fnExactResolveSpec)

/-- 'laws.FnExactResolvePet', WHERE WHAT IT READS IS OF BULK AT MOST 1048576: true; the input reads as it did. -/
def fnExactResolvePetUptoRow : OpenClaim := { program := "ytknikjmcpjaggaagreat", sum := "baa5f33d8f036aecde8939799dbeb7e0bcb045c71563e018e5dc553d036c81ee", func := "loop.example/g00588/laws.FnExactResolvePet", spec := "fnExactResolvePet", inPlace := ["internal/bytealg.abigen_runtime_cmpstring"], unfollowed := true, recurses := true, apart := false, narrowed := true }
def FnExactResolvePetUptoSaid : Prop := fnExactResolvePetUptoRow.holds Tryz.pinned (OpenSpec.upto fnExactResolvePetSpec)

end Rows
end Go.Proofs.YtknikjmcpjaggaaGreat
