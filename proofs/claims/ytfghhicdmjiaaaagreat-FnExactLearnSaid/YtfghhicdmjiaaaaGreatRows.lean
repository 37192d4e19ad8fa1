/-
  No cell of these rows narrows 'for every input' (looked for: loops, veiled, ifaces, maps, wideKeys, modest, calm, conditions, laid).
  DERIVED. THE GIVEN ROWS OF THIS SEAT. 5 by the template 'for every input the law returns true; each argument reads behind the call as it read before'; 0 by the template 'total and deterministic' (their statements: YtfghhicdmjiaaaaGreatTotals.lean).
  GIVEN WITH THE SEED: the statements are not yours to turn. If you find one false, say at which input.
  Laid BY PROGRAM, IN A SANDBOX (cutbox-rows.mjs): the forced cells as the released guide's own fill.sh prints them over the translation 9f07492c0ca388b9… (all of the seat's roots in one cut). By AI agents, Wed Nov 11 2026. No macro, syntax, notation, axiom, sorry.
-/
import Derived.Test.YtfghhicdmjiaaaaGreatChecked
import GoSem.Claim
import GoSem.ClaimJoined
import GoSem.ClaimMapViews
import Derived.JoinedTies
import Derived.KernelRfl
namespace Go.Proofs.YtfghhicdmjiaaaaGreat
/- THE CELL 'sum', in the pinned program and in every row, IS THE sha256 OF THE DUMP (.gsa) THAT YtfghhicdmjiaaaaGreatProg.lean LOADS. Nothing in Lean hashes anything: it is a label: what it is worth is what the hold of that sum in a sandbox is worth. -/
noncomputable def Tryz.pinned : Pinned := { name := "ytfghhicdmjiaaaagreat", sum := "9f07492c0ca388b9b0bf525eedce8c95b1281dd18855e34e83108239b33f517e", checked := Tryz.checked }
namespace Rows
def none {H : Type} : Left H := { results := [], args := [] }

/-- 'laws.FnExactPutPet': WHATEVER THE INPUT: true; the input reads as it did. -/
def fnExactPutPetSpec : ChangeSpec := { name := "fnExactPutPet", fn := fun _ => fun
  | [d1, d2, d3] => { results := [.lit (.bool true)], args := [d1, d2, d3] }
  | _ => none }
def fnExactPutPetRow : OpenClaim := { program := "ytfghhicdmjiaaaagreat", sum := "9f07492c0ca388b9b0bf525eedce8c95b1281dd18855e34e83108239b33f517e", func := "loop.example/g00588/laws.FnExactPutPet", spec := "fnExactPutPet", inPlace := ["internal/bytealg.abigen_runtime_cmpstring", "sync/atomic.LoadUint32", "(*internal/sync.Mutex).Lock", "internal/race.Disable", "sync/atomic.CompareAndSwapInt32", "internal/race.Enable", "internal/race.Acquire", "(*internal/sync.Mutex).lockSlow", "internal/sync.runtime_canSpin", "internal/sync.runtime_doSpin", "internal/sync.throw", "internal/sync.runtime_nanotime", "internal/sync.runtime_SemacquireMutex", "sync/atomic.AddInt32", "(*internal/sync.Mutex).Unlock", "internal/race.ReleaseMerge", "(*internal/sync.Mutex).unlockSlow", "internal/sync.fatal", "internal/sync.runtime_Semrelease", "sync/atomic.StoreUint32", "slices.overlaps[loop.example/g00588/impl.Pet]"], unfollowed := true, recurses := true, apart := false }
def FnExactPutPetSaid : Prop := fnExactPutPetRow.holds Tryz.pinned (OpenSpec.ofChange fnExactPutPetSpec)

/-- ITS FALSE NEIGHBOUR: 'it returns false'. Refute it at one input. -/
def fnExactPutPetWrong : ChangeSpec := { name := "fnExactPutPet", fn := fun _ => fun
  | [d1, d2, d3] => { results := [.lit (.bool false)], args := [d1, d2, d3] }
  | _ => none }
def FnExactPutPetWrongFalsely : Prop := fnExactPutPetRow.holds Tryz.pinned (OpenSpec.ofChange fnExactPutPetWrong)

/-- 'laws.FnExactOwnersWhen': WHATEVER THE INPUT: true; the input reads as it did. -/
def fnExactOwnersWhenSpec : ChangeSpec := { name := "fnExactOwnersWhen", fn := fun _ => fun
  | [d1, d2] => { results := [.lit (.bool true)], args := [d1, d2] }
  | _ => none }
def fnExactOwnersWhenRow : OpenClaim := { program := "ytfghhicdmjiaaaagreat", sum := "9f07492c0ca388b9b0bf525eedce8c95b1281dd18855e34e83108239b33f517e", func := "loop.example/g00588/laws.FnExactOwnersWhen", spec := "fnExactOwnersWhen", unfollowed := true, recurses := true, apart := false }
def FnExactOwnersWhenSaid : Prop := fnExactOwnersWhenRow.holds Tryz.pinned (OpenSpec.ofChange fnExactOwnersWhenSpec)

/-- ITS FALSE NEIGHBOUR: 'it returns false'. Refute it at one input. -/
def fnExactOwnersWhenWrong : ChangeSpec := { name := "fnExactOwnersWhen", fn := fun _ => fun
  | [d1, d2] => { results := [.lit (.bool false)], args := [d1, d2] }
  | _ => none }
def FnExactOwnersWhenWrongFalsely : Prop := fnExactOwnersWhenRow.holds Tryz.pinned (OpenSpec.ofChange fnExactOwnersWhenWrong)

/-- 'laws.FnExactLearn': WHATEVER THE INPUT: true; the input reads as it did. -/
def fnExactLearnSpec : ChangeSpec := { name := "fnExactLearn", fn := fun _ => fun
  | [d1, d2] => { results := [.lit (.bool true)], args := [d1, d2] }
  | _ => none }
def fnExactLearnRow : OpenClaim := { program := "ytfghhicdmjiaaaagreat", sum := "9f07492c0ca388b9b0bf525eedce8c95b1281dd18855e34e83108239b33f517e", func := "loop.example/g00588/laws.FnExactLearn", spec := "fnExactLearn", unfollowed := true, recurses := true, apart := false }
def FnExactLearnSaid : Prop := fnExactLearnRow.holds Tryz.pinned (OpenSpec.ofChange fnExactLearnSpec)

/-- ITS FALSE NEIGHBOUR: 'it returns false'. Refute it at one input. -/
def fnExactLearnWrong : ChangeSpec := { name := "fnExactLearn", fn := fun _ => fun
  | [d1, d2] => { results := [.lit (.bool false)], args := [d1, d2] }
  | _ => none }
def FnExactLearnWrongFalsely : Prop := fnExactLearnRow.holds Tryz.pinned (OpenSpec.ofChange fnExactLearnWrong)

/-- 'laws.FnExactDropStale': WHATEVER THE INPUT: true; the input reads as it did. -/
def fnExactDropStaleSpec : ChangeSpec := { name := "fnExactDropStale", fn := fun _ => fun
  | [d1, d2] => { results := [.lit (.bool true)], args := [d1, d2] }
  | _ => none }
def fnExactDropStaleRow : OpenClaim := { program := "ytfghhicdmjiaaaagreat", sum := "9f07492c0ca388b9b0bf525eedce8c95b1281dd18855e34e83108239b33f517e", func := "loop.example/g00588/laws.FnExactDropStale", spec := "fnExactDropStale", inPlace := ["internal/bytealg.abigen_runtime_cmpstring"], unfollowed := true, recurses := true, apart := false }
def FnExactDropStaleSaid : Prop := fnExactDropStaleRow.holds Tryz.pinned (OpenSpec.ofChange fnExactDropStaleSpec)

/-- ITS FALSE NEIGHBOUR: 'it returns false'. Refute it at one input. -/
def fnExactDropStaleWrong : ChangeSpec := { name := "fnExactDropStale", fn := fun _ => fun
  | [d1, d2] => { results := [.lit (.bool false)], args := [d1, d2] }
  | _ => none }
def FnExactDropStaleWrongFalsely : Prop := fnExactDropStaleRow.holds Tryz.pinned (OpenSpec.ofChange fnExactDropStaleWrong)

/-- 'laws.FnExactKeepAnswer': WHATEVER THE INPUT: true; the input reads as it did. -/
def fnExactKeepAnswerSpec : ChangeSpec := { name := "fnExactKeepAnswer", fn := fun _ => fun
  | [d1, d2, d3, d4, d5] => { results := [.lit (.bool true)], args := [d1, d2, d3, d4, d5] }
  | _ => none }
def fnExactKeepAnswerRow : OpenClaim := { program := "ytfghhicdmjiaaaagreat", sum := "9f07492c0ca388b9b0bf525eedce8c95b1281dd18855e34e83108239b33f517e", func := "loop.example/g00588/laws.FnExactKeepAnswer", spec := "fnExactKeepAnswer", inPlace := ["internal/bytealg.abigen_runtime_cmpstring"], unfollowed := true, recurses := true, apart := false }
def FnExactKeepAnswerSaid : Prop := fnExactKeepAnswerRow.holds Tryz.pinned (OpenSpec.ofChange fnExactKeepAnswerSpec)

/-- ITS FALSE NEIGHBOUR: 'it returns false'. Refute it at one input. -/
def fnExactKeepAnswerWrong : ChangeSpec := { name := "fnExactKeepAnswer", fn := fun _ => fun
  | [d1, d2, d3, d4, d5] => { results := [.lit (.bool false)], args := [d1, d2, d3, d4, d5] }
  | _ => none }
def FnExactKeepAnswerWrongFalsely : Prop := fnExactKeepAnswerRow.holds Tryz.pinned (OpenSpec.ofChange fnExactKeepAnswerWrong)

/- THE SECOND FORM. 'bulk': how many values and letters a reading holds, each counted each time it is reached (what is shared counts as often as it is met; a slice's spare places count too). A statement '..UptoSaid' is the law's where the arguments, and the package variables that the reading takes, are together of bulk at most 1048576: NARROWER than '..Said'. Prove '..Said' where nothing that the law and all that it calls make is longer than what came in: it says more and counts as full. Else prove '..UptoSaid'. A law counts once. -/
mutual
def uptoBulk {H : Type} : DataW H → Nat
  | .lit (.string bytes) => bytes.length + 1
  | .lit _ => 1
  | .nil => 1
  | .ptr d => uptoBulk d + 1
  | .slice elems spare => uptoBulkAll elems + uptoBulkAll spare + 1
  | .agg parts => uptoBulkAll parts + 1
  | .iface _ d => uptoBulk d + 1
  | .map entries => uptoBulkEntries entries + 1
  | .held _ => 1
def uptoBulkAll {H : Type} : List (DataW H) → Nat
  | [] => 0
  | d :: r => uptoBulk d + uptoBulkAll r
def uptoBulkEntries {H : Type} : List (Lit × DataW H) → Nat
  | [] => 0
  | x :: r => uptoBulkEntry x + uptoBulkEntries r
def uptoBulkEntry {H : Type} : Lit × DataW H → Nat
  | (.string bytes, d) => bytes.length + uptoBulk d + 1
  | (_, d) => uptoBulk d + 1
 end
def uptoSmall : (H : Type) → List (DataW H) → Bool := fun _ ds => decide (uptoBulkAll ds ≤ 1048576)
def OpenSpec.upto (s : _root_.Go.ChangeSpec) : _root_.Go.OpenSpec := { _root_.Go.OpenSpec.ofChange s with cond := some uptoSmall }

/-- 'laws.FnExactPutPet', WHERE WHAT IT READS IS OF BULK AT MOST 1048576: true; the input reads as it did. -/
def fnExactPutPetUptoRow : OpenClaim := { program := "ytfghhicdmjiaaaagreat", sum := "9f07492c0ca388b9b0bf525eedce8c95b1281dd18855e34e83108239b33f517e", func := "loop.example/g00588/laws.FnExactPutPet", spec := "fnExactPutPet", inPlace := ["internal/bytealg.abigen_runtime_cmpstring", "sync/atomic.LoadUint32", "(*internal/sync.Mutex).Lock", "internal/race.Disable", "sync/atomic.CompareAndSwapInt32", "internal/race.Enable", "internal/race.Acquire", "(*internal/sync.Mutex).lockSlow", "internal/sync.runtime_canSpin", "internal/sync.runtime_doSpin", "internal/sync.throw", "internal/sync.runtime_nanotime", "internal/sync.runtime_SemacquireMutex", "sync/atomic.AddInt32", "(*internal/sync.Mutex).Unlock", "internal/race.ReleaseMerge", "(*internal/sync.Mutex).unlockSlow", "internal/sync.fatal", "internal/sync.runtime_Semrelease", "sync/atomic.StoreUint32", "slices.overlaps[loop.example/g00588/impl.Pet]"], unfollowed := true, recurses := true, apart := false, narrowed := true }
def FnExactPutPetUptoSaid : Prop := fnExactPutPetUptoRow.holds Tryz.pinned (OpenSpec.upto fnExactPutPetSpec)

/-- 'laws.FnExactOwnersWhen', WHERE WHAT IT READS IS OF BULK AT MOST 1048576: true; the input reads as it did. -/
def fnExactOwnersWhenUptoRow : OpenClaim := { program := "ytfghhicdmjiaaaagreat", sum := "9f07492c0ca388b9b0bf525eedce8c95b1281dd18855e34e83108239b33f517e", func := "loop.example/g00588/laws.FnExactOwnersWhen", spec := "fnExactOwnersWhen", unfollowed := true, recurses := true, apart := false, narrowed := true }
def FnExactOwnersWhenUptoSaid : Prop := fnExactOwnersWhenUptoRow.holds Tryz.pinned (OpenSpec.upto fnExactOwnersWhenSpec)

/-- 'laws.FnExactLearn', WHERE WHAT IT READS IS OF BULK AT MOST 1048576: true; the input reads as it did. -/
def fnExactLearnUptoRow : OpenClaim := { program := "ytfghhicdmjiaaaagreat", sum := "9f07492c0ca388b9b0bf525eedce8c95b1281dd18855e34e83108239b33f517e", func := "loop.example/g00588/laws.FnExactLearn", spec := "fnExactLearn", unfollowed := true, recurses := true, apart := false, narrowed := true }
def FnExactLearnUptoSaid : Prop := fnExactLearnUptoRow.holds Tryz.pinned (OpenSpec.upto fnExactLearnSpec)

/-- 'laws.FnExactDropStale', WHERE WHAT IT READS IS OF BULK AT MOST 1048576: true; the input reads as it did. -/
def fnExactDropStaleUptoRow : OpenClaim := { program := "ytfghhicdmjiaaaagreat", sum := "9f07492c0ca388b9b0bf525eedce8c95b1281dd18855e34e83108239b33f517e", func := "loop.example/g00588/laws.FnExactDropStale", spec := "fnExactDropStale", inPlace := ["internal/bytealg.abigen_runtime_cmpstring"], unfollowed := true, recurses := true, apart := false, narrowed := true }
def FnExactDropStaleUptoSaid : Prop := fnExactDropStaleUptoRow.holds Tryz.pinned (OpenSpec.upto fnExactDropStaleSpec)

/-- 'laws.FnExactKeepAnswer', WHERE WHAT IT READS IS OF BULK AT MOST 1048576: true; the input reads as it did. -/
def fnExactKeepAnswerUptoRow : OpenClaim := { program := "ytfghhicdmjiaaaagreat", sum := "9f07492c0ca388b9b0bf525eedce8c95b1281dd18855e34e83108239b33f517e", func := "loop.example/g00588/laws.FnExactKeepAnswer", spec := "fnExactKeepAnswer", inPlace := ["internal/bytealg.abigen_runtime_cmpstring"], unfollowed := true, recurses := true, apart := false, narrowed := true }
def FnExactKeepAnswerUptoSaid : Prop := fnExactKeepAnswerUptoRow.holds Tryz.pinned (OpenSpec.upto fnExactKeepAnswerSpec)

end Rows
end Go.Proofs.YtfghhicdmjiaaaaGreat
