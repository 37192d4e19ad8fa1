/- The structures of the program, as mathematical records. Conditions: none. -/
import Derived.Test.YtfghhicdmjiaaaaDecideDd
set_option linter.all false
noncomputable section
namespace Go.DM
structure REntry where
 fLabel : ByteArray
 fKind : Int
 fValue : Int
 fPath : List (List L)
structure MEntry where
 fLabel : ByteArray
 fKind : Int
 fValue : Int
 fPath : List ByteArray
def REntry.enc (x : REntry) : List L := [.str x.fLabel, .int x.fKind, .int x.fValue, .sl x.fPath]
def REntry.dec (r : List L) : REntry := ⟨((dropT 0 r).headD .hole).toStr, ((dropT 1 r).headD .hole).toInt, ((dropT 2 r).headD .hole).toInt, ((dropT 3 r).headD .hole).toSl⟩
instance : RT REntry := ⟨REntry.enc, REntry.dec, 4, fun _ _ => rfl, fun _ _ => rfl⟩
def REntry.at (xs : List (List L)) (i : Nat) : REntry := REntry.dec (List.getD xs i [])
def MEntry.r (x : MEntry) : REntry := ⟨x.fLabel, x.fKind, x.fValue, (x.fPath.map sRow)⟩
def MEntry.row (x : MEntry) : List L := REntry.enc x.r
def MEntry.zero : MEntry := ⟨⟨#[]⟩, 0, 0, []⟩
theorem MEntry.r_inj {a b : MEntry} (h : a.r = b.r) : a = b := by
 cases a; cases b
 simp only [MEntry.r, REntry.mk.injEq] at h
 obtain ⟨h0, h1, h2, h3⟩ := h
 simp only [MEntry.mk.injEq]
 exact ⟨h0, h1, h2, (map_inj sRow_inj h3)⟩
theorem MEntry.row_inj {a b : MEntry} (h : MEntry.row a = MEntry.row b) : a = b := MEntry.r_inj (congrArg REntry.dec h)
theorem MEntry.at_row {xs : List MEntry} {i : Nat} (h : i < xs.length) : REntry.at (xs.map MEntry.row) i = (xs[i]).r := by unfold REntry.at; rw [getD_map h]; rfl
theorem MEntry.at_getD {xs : List MEntry} {i : Nat} : REntry.at (xs.map MEntry.row) i = (xs.getD i MEntry.zero).r := row_getD (r := fun x => MEntry.r x) (fun _ => rfl) rfl
theorem MEntry.r_fLabel (x : MEntry) : (MEntry.r x).fLabel = x.fLabel := Eq.trans rfl rfl
theorem MEntry.r_fKind (x : MEntry) : (MEntry.r x).fKind = x.fKind := Eq.trans rfl rfl
theorem MEntry.r_fValue (x : MEntry) : (MEntry.r x).fValue = x.fValue := Eq.trans rfl rfl
theorem MEntry.r_fPath (x : MEntry) : (MEntry.r x).fPath = (x.fPath.map sRow) := Eq.trans rfl rfl
instance : Row MEntry := ⟨MEntry.row, MEntry.row_inj⟩
instance : Im MEntry REntry := ⟨MEntry.r, MEntry.r_inj⟩
theorem MEntry.rs : (∀ (xs : List MEntry) (i : Nat), REntry.at (xs.map MEntry.row) i = (xs.getD i MEntry.zero).r) ∧ (∀ x : MEntry, (MEntry.r x).fLabel = x.fLabel) ∧ (∀ x : MEntry, (MEntry.r x).fKind = x.fKind) ∧ (∀ x : MEntry, (MEntry.r x).fValue = x.fValue) ∧ (∀ x : MEntry, (MEntry.r x).fPath = (x.fPath.map sRow)) := ⟨fun _ _ => MEntry.at_getD, MEntry.r_fLabel, MEntry.r_fKind, MEntry.r_fValue, MEntry.r_fPath⟩
def MEntry.Sm (n : Nat) (x : MEntry) : Prop := (x.fLabel).size ≤ n ∧ SmL n (fun y : ByteArray => (y).size ≤ n) x.fPath
def MEntry.size (x : MEntry) : Nat := (x.fLabel).size + szL (fun y : ByteArray => (y).size) x.fPath
theorem MEntry.Sm_mono {n m : Nat} (hn : n ≤ m) {x : MEntry} (h : MEntry.Sm n x) : MEntry.Sm m x := ⟨Nat.le_trans h.1 hn, h.2.mono hn (fun x hx => Nat.le_trans hx hn)⟩
theorem MEntry.Sm_of {n : Nat} {x : MEntry} (h : x.size ≤ n) : MEntry.Sm n x := by
 unfold MEntry.size at h
 have g0 : (x.fLabel).size ≤ n := by omega
 have g1 : szL (fun y : ByteArray => (y).size) x.fPath ≤ n := by omega
 exact ⟨g0, szL_sm g1 (fun x hx => hx)⟩
structure RDecision where
 fCode : Int
 fEntry : REntry
 fOthers : List (List L)
structure MDecision where
 fCode : Int
 fEntry : MEntry
 fOthers : List MEntry
def RDecision.enc (x : RDecision) : List L := [.int x.fCode, .str x.fEntry.fLabel, .int x.fEntry.fKind, .int x.fEntry.fValue, .sl x.fEntry.fPath, .sl x.fOthers]
def RDecision.dec (r : List L) : RDecision := ⟨((dropT 0 r).headD .hole).toInt, ⟨((dropT 1 r).headD .hole).toStr, ((dropT 2 r).headD .hole).toInt, ((dropT 3 r).headD .hole).toInt, ((dropT 4 r).headD .hole).toSl⟩, ((dropT 5 r).headD .hole).toSl⟩
instance : RT RDecision := ⟨RDecision.enc, RDecision.dec, 6, fun _ _ => rfl, fun _ _ => rfl⟩
def RDecision.at (xs : List (List L)) (i : Nat) : RDecision := RDecision.dec (List.getD xs i [])
def MDecision.r (x : MDecision) : RDecision := ⟨x.fCode, (MEntry.r x.fEntry), (x.fOthers.map MEntry.row)⟩
def MDecision.row (x : MDecision) : List L := RDecision.enc x.r
def MDecision.zero : MDecision := ⟨0, MEntry.zero, []⟩
theorem MDecision.r_inj {a b : MDecision} (h : a.r = b.r) : a = b := by
 cases a; cases b
 simp only [MDecision.r, RDecision.mk.injEq] at h
 obtain ⟨h0, h1, h2⟩ := h
 simp only [MDecision.mk.injEq]
 exact ⟨h0, (MEntry.r_inj h1), (map_inj MEntry.row_inj h2)⟩
theorem MDecision.row_inj {a b : MDecision} (h : MDecision.row a = MDecision.row b) : a = b := MDecision.r_inj (congrArg RDecision.dec h)
theorem MDecision.at_row {xs : List MDecision} {i : Nat} (h : i < xs.length) : RDecision.at (xs.map MDecision.row) i = (xs[i]).r := by unfold RDecision.at; rw [getD_map h]; rfl
theorem MDecision.at_getD {xs : List MDecision} {i : Nat} : RDecision.at (xs.map MDecision.row) i = (xs.getD i MDecision.zero).r := row_getD (r := fun x => MDecision.r x) (fun _ => rfl) rfl
theorem MDecision.r_fCode (x : MDecision) : (MDecision.r x).fCode = x.fCode := Eq.trans rfl rfl
theorem MDecision.r_fEntry (x : MDecision) : (MDecision.r x).fEntry = (MEntry.r x.fEntry) := Eq.trans rfl rfl
theorem MDecision.r_fOthers (x : MDecision) : (MDecision.r x).fOthers = (x.fOthers.map MEntry.row) := Eq.trans rfl rfl
instance : Row MDecision := ⟨MDecision.row, MDecision.row_inj⟩
instance : Im MDecision RDecision := ⟨MDecision.r, MDecision.r_inj⟩
theorem MDecision.rs : (∀ (xs : List MDecision) (i : Nat), RDecision.at (xs.map MDecision.row) i = (xs.getD i MDecision.zero).r) ∧ (∀ x : MDecision, (MDecision.r x).fCode = x.fCode) ∧ (∀ x : MDecision, (MDecision.r x).fEntry = (MEntry.r x.fEntry)) ∧ (∀ x : MDecision, (MDecision.r x).fOthers = (x.fOthers.map MEntry.row)) := ⟨fun _ _ => MDecision.at_getD, MDecision.r_fCode, MDecision.r_fEntry, MDecision.r_fOthers⟩
def MDecision.Sm (n : Nat) (x : MDecision) : Prop := MEntry.Sm n x.fEntry ∧ SmL n (fun y : MEntry => MEntry.Sm n y) x.fOthers
def MDecision.size (x : MDecision) : Nat := MEntry.size x.fEntry + szL (fun y : MEntry => MEntry.size y) x.fOthers
theorem MDecision.Sm_mono {n m : Nat} (hn : n ≤ m) {x : MDecision} (h : MDecision.Sm n x) : MDecision.Sm m x := ⟨MEntry.Sm_mono hn h.1, h.2.mono hn (fun x hx => MEntry.Sm_mono hn hx)⟩
theorem MDecision.Sm_of {n : Nat} {x : MDecision} (h : x.size ≤ n) : MDecision.Sm n x := by
 unfold MDecision.size at h
 have g0 : MEntry.size x.fEntry ≤ n := by omega
 have g1 : szL (fun y : MEntry => MEntry.size y) x.fOthers ≤ n := by omega
 exact ⟨MEntry.Sm_of g0, szL_sm g1 (fun x hx => MEntry.Sm_of hx)⟩
structure MRoot where
 fName : ByteArray
 fZone : Int
def MRoot.enc (x : MRoot) : List L := [.str x.fName, .int x.fZone]
def MRoot.dec (r : List L) : MRoot := ⟨((dropT 0 r).headD .hole).toStr, ((dropT 1 r).headD .hole).toInt⟩
instance : RT MRoot := ⟨MRoot.enc, MRoot.dec, 2, fun _ _ => rfl, fun _ _ => rfl⟩
def MRoot.at (xs : List (List L)) (i : Nat) : MRoot := MRoot.dec (List.getD xs i [])
def MRoot.row (x : MRoot) : List L := MRoot.enc x
def MRoot.zero : MRoot := ⟨⟨#[]⟩, 0⟩
theorem MRoot.row_inj {a b : MRoot} (h : MRoot.row a = MRoot.row b) : a = b := congrArg MRoot.dec h
theorem MRoot.at_row {xs : List MRoot} {i : Nat} (h : i < xs.length) : MRoot.at (xs.map MRoot.row) i = xs[i] := by unfold MRoot.at; rw [getD_map h]; rfl
theorem MRoot.at_getD {xs : List MRoot} {i : Nat} : MRoot.at (xs.map MRoot.row) i = xs.getD i MRoot.zero := row_getD (r := fun x => x) (fun _ => rfl) rfl
instance : Row MRoot := ⟨MRoot.row, MRoot.row_inj⟩
instance : Im MRoot MRoot := ⟨fun x => x, fun h => h⟩
theorem MRoot.rs : (∀ (xs : List MRoot) (i : Nat), MRoot.at (xs.map MRoot.row) i = xs.getD i MRoot.zero) := fun _ _ => MRoot.at_getD
def MRoot.Sm (n : Nat) (x : MRoot) : Prop := (x.fName).size ≤ n
def MRoot.size (x : MRoot) : Nat := (x.fName).size
theorem MRoot.Sm_mono {n m : Nat} (hn : n ≤ m) {x : MRoot} (h : MRoot.Sm n x) : MRoot.Sm m x := Nat.le_trans h hn
theorem MRoot.Sm_of {n : Nat} {x : MRoot} (h : x.size ≤ n) : MRoot.Sm n x := by
 unfold MRoot.size at h
 have g0 : (x.fName).size ≤ n := by omega
 exact g0
structure MPet where
 fName : ByteArray
 fZone : Int
def MPet.enc (x : MPet) : List L := [.str x.fName, .int x.fZone]
def MPet.dec (r : List L) : MPet := ⟨((dropT 0 r).headD .hole).toStr, ((dropT 1 r).headD .hole).toInt⟩
instance : RT MPet := ⟨MPet.enc, MPet.dec, 2, fun _ _ => rfl, fun _ _ => rfl⟩
def MPet.at (xs : List (List L)) (i : Nat) : MPet := MPet.dec (List.getD xs i [])
def MPet.row (x : MPet) : List L := MPet.enc x
def MPet.zero : MPet := ⟨⟨#[]⟩, 0⟩
theorem MPet.row_inj {a b : MPet} (h : MPet.row a = MPet.row b) : a = b := congrArg MPet.dec h
theorem MPet.at_row {xs : List MPet} {i : Nat} (h : i < xs.length) : MPet.at (xs.map MPet.row) i = xs[i] := by unfold MPet.at; rw [getD_map h]; rfl
theorem MPet.at_getD {xs : List MPet} {i : Nat} : MPet.at (xs.map MPet.row) i = xs.getD i MPet.zero := row_getD (r := fun x => x) (fun _ => rfl) rfl
instance : Row MPet := ⟨MPet.row, MPet.row_inj⟩
instance : Im MPet MPet := ⟨fun x => x, fun h => h⟩
theorem MPet.rs : (∀ (xs : List MPet) (i : Nat), MPet.at (xs.map MPet.row) i = xs.getD i MPet.zero) := fun _ _ => MPet.at_getD
def MPet.Sm (n : Nat) (x : MPet) : Prop := (x.fName).size ≤ n
def MPet.size (x : MPet) : Nat := (x.fName).size
theorem MPet.Sm_mono {n m : Nat} (hn : n ≤ m) {x : MPet} (h : MPet.Sm n x) : MPet.Sm m x := Nat.le_trans h hn
theorem MPet.Sm_of {n : Nat} {x : MPet} (h : x.size ≤ n) : MPet.Sm n x := by
 unfold MPet.size at h
 have g0 : (x.fName).size ≤ n := by omega
 exact g0
structure RChoice where
 fPath : List (List L)
 fEntry : REntry
structure MChoice where
 fPath : List ByteArray
 fEntry : MEntry
def RChoice.enc (x : RChoice) : List L := [.sl x.fPath, .str x.fEntry.fLabel, .int x.fEntry.fKind, .int x.fEntry.fValue, .sl x.fEntry.fPath]
def RChoice.dec (r : List L) : RChoice := ⟨((dropT 0 r).headD .hole).toSl, ⟨((dropT 1 r).headD .hole).toStr, ((dropT 2 r).headD .hole).toInt, ((dropT 3 r).headD .hole).toInt, ((dropT 4 r).headD .hole).toSl⟩⟩
instance : RT RChoice := ⟨RChoice.enc, RChoice.dec, 5, fun _ _ => rfl, fun _ _ => rfl⟩
def RChoice.at (xs : List (List L)) (i : Nat) : RChoice := RChoice.dec (List.getD xs i [])
def MChoice.r (x : MChoice) : RChoice := ⟨(x.fPath.map sRow), (MEntry.r x.fEntry)⟩
def MChoice.row (x : MChoice) : List L := RChoice.enc x.r
def MChoice.zero : MChoice := ⟨[], MEntry.zero⟩
theorem MChoice.r_inj {a b : MChoice} (h : a.r = b.r) : a = b := by
 cases a; cases b
 simp only [MChoice.r, RChoice.mk.injEq] at h
 obtain ⟨h0, h1⟩ := h
 simp only [MChoice.mk.injEq]
 exact ⟨(map_inj sRow_inj h0), (MEntry.r_inj h1)⟩
theorem MChoice.row_inj {a b : MChoice} (h : MChoice.row a = MChoice.row b) : a = b := MChoice.r_inj (congrArg RChoice.dec h)
theorem MChoice.at_row {xs : List MChoice} {i : Nat} (h : i < xs.length) : RChoice.at (xs.map MChoice.row) i = (xs[i]).r := by unfold RChoice.at; rw [getD_map h]; rfl
theorem MChoice.at_getD {xs : List MChoice} {i : Nat} : RChoice.at (xs.map MChoice.row) i = (xs.getD i MChoice.zero).r := row_getD (r := fun x => MChoice.r x) (fun _ => rfl) rfl
theorem MChoice.r_fPath (x : MChoice) : (MChoice.r x).fPath = (x.fPath.map sRow) := Eq.trans rfl rfl
theorem MChoice.r_fEntry (x : MChoice) : (MChoice.r x).fEntry = (MEntry.r x.fEntry) := Eq.trans rfl rfl
instance : Row MChoice := ⟨MChoice.row, MChoice.row_inj⟩
instance : Im MChoice RChoice := ⟨MChoice.r, MChoice.r_inj⟩
theorem MChoice.rs : (∀ (xs : List MChoice) (i : Nat), RChoice.at (xs.map MChoice.row) i = (xs.getD i MChoice.zero).r) ∧ (∀ x : MChoice, (MChoice.r x).fPath = (x.fPath.map sRow)) ∧ (∀ x : MChoice, (MChoice.r x).fEntry = (MEntry.r x.fEntry)) := ⟨fun _ _ => MChoice.at_getD, MChoice.r_fPath, MChoice.r_fEntry⟩
def MChoice.Sm (n : Nat) (x : MChoice) : Prop := SmL n (fun y : ByteArray => (y).size ≤ n) x.fPath ∧ MEntry.Sm n x.fEntry
def MChoice.size (x : MChoice) : Nat := szL (fun y : ByteArray => (y).size) x.fPath + MEntry.size x.fEntry
theorem MChoice.Sm_mono {n m : Nat} (hn : n ≤ m) {x : MChoice} (h : MChoice.Sm n x) : MChoice.Sm m x := ⟨h.1.mono hn (fun x hx => Nat.le_trans hx hn), MEntry.Sm_mono hn h.2⟩
theorem MChoice.Sm_of {n : Nat} {x : MChoice} (h : x.size ≤ n) : MChoice.Sm n x := by
 unfold MChoice.size at h
 have g0 : szL (fun y : ByteArray => (y).size) x.fPath ≤ n := by omega
 have g1 : MEntry.size x.fEntry ≤ n := by omega
 exact ⟨szL_sm g0 (fun x hx => hx), MEntry.Sm_of g1⟩
structure RKeys where
 fList : List (List L)
 fNeed : Int
structure MKeys where
 fList : List Int
 fNeed : Int
def RKeys.enc (x : RKeys) : List L := [.sl x.fList, .int x.fNeed]
def RKeys.dec (r : List L) : RKeys := ⟨((dropT 0 r).headD .hole).toSl, ((dropT 1 r).headD .hole).toInt⟩
instance : RT RKeys := ⟨RKeys.enc, RKeys.dec, 2, fun _ _ => rfl, fun _ _ => rfl⟩
def RKeys.at (xs : List (List L)) (i : Nat) : RKeys := RKeys.dec (List.getD xs i [])
def MKeys.r (x : MKeys) : RKeys := ⟨(x.fList.map iRow), x.fNeed⟩
def MKeys.row (x : MKeys) : List L := RKeys.enc x.r
def MKeys.zero : MKeys := ⟨[], 0⟩
theorem MKeys.r_inj {a b : MKeys} (h : a.r = b.r) : a = b := by
 cases a; cases b
 simp only [MKeys.r, RKeys.mk.injEq] at h
 obtain ⟨h0, h1⟩ := h
 simp only [MKeys.mk.injEq]
 exact ⟨(map_inj iRow_inj h0), h1⟩
theorem MKeys.row_inj {a b : MKeys} (h : MKeys.row a = MKeys.row b) : a = b := MKeys.r_inj (congrArg RKeys.dec h)
theorem MKeys.at_row {xs : List MKeys} {i : Nat} (h : i < xs.length) : RKeys.at (xs.map MKeys.row) i = (xs[i]).r := by unfold RKeys.at; rw [getD_map h]; rfl
theorem MKeys.at_getD {xs : List MKeys} {i : Nat} : RKeys.at (xs.map MKeys.row) i = (xs.getD i MKeys.zero).r := row_getD (r := fun x => MKeys.r x) (fun _ => rfl) rfl
theorem MKeys.r_fList (x : MKeys) : (MKeys.r x).fList = (x.fList.map iRow) := Eq.trans rfl rfl
theorem MKeys.r_fNeed (x : MKeys) : (MKeys.r x).fNeed = x.fNeed := Eq.trans rfl rfl
instance : Row MKeys := ⟨MKeys.row, MKeys.row_inj⟩
instance : Im MKeys RKeys := ⟨MKeys.r, MKeys.r_inj⟩
theorem MKeys.rs : (∀ (xs : List MKeys) (i : Nat), RKeys.at (xs.map MKeys.row) i = (xs.getD i MKeys.zero).r) ∧ (∀ x : MKeys, (MKeys.r x).fList = (x.fList.map iRow)) ∧ (∀ x : MKeys, (MKeys.r x).fNeed = x.fNeed) := ⟨fun _ _ => MKeys.at_getD, MKeys.r_fList, MKeys.r_fNeed⟩
def MKeys.Sm (n : Nat) (x : MKeys) : Prop := SmL n (fun y : Int => True) x.fList
def MKeys.size (x : MKeys) : Nat := szL (fun y : Int => 0) x.fList
theorem MKeys.Sm_mono {n m : Nat} (hn : n ≤ m) {x : MKeys} (h : MKeys.Sm n x) : MKeys.Sm m x := h.mono hn (fun x hx => trivial)
theorem MKeys.Sm_of {n : Nat} {x : MKeys} (h : x.size ≤ n) : MKeys.Sm n x := by
 unfold MKeys.size at h
 have g0 : szL (fun y : Int => 0) x.fList ≤ n := by omega
 exact szL_sm g0 (fun x hx => trivial)
structure RHead where
 fZone : Int
 fEpoch : Int
 fKind : Int
 fTime : Int
 fUntil : Int
 fCount : Int
 fRoot : Int
 fPrev : Int
 fKeys : RKeys
 fHeirs : RKeys
 fWait : Int
 fJudge : RKeys
 fFrozen : Bool
structure MHead where
 fZone : Int
 fEpoch : Int
 fKind : Int
 fTime : Int
 fUntil : Int
 fCount : Int
 fRoot : Int
 fPrev : Int
 fKeys : MKeys
 fHeirs : MKeys
 fWait : Int
 fJudge : MKeys
 fFrozen : Bool
def RHead.enc (x : RHead) : List L := [.int x.fZone, .int x.fEpoch, .int x.fKind, .int x.fTime, .int x.fUntil, .int x.fCount, .int x.fRoot, .int x.fPrev, .sl x.fKeys.fList, .int x.fKeys.fNeed, .sl x.fHeirs.fList, .int x.fHeirs.fNeed, .int x.fWait, .sl x.fJudge.fList, .int x.fJudge.fNeed, .bool x.fFrozen]
def RHead.dec (r : List L) : RHead := ⟨((dropT 0 r).headD .hole).toInt, ((dropT 1 r).headD .hole).toInt, ((dropT 2 r).headD .hole).toInt, ((dropT 3 r).headD .hole).toInt, ((dropT 4 r).headD .hole).toInt, ((dropT 5 r).headD .hole).toInt, ((dropT 6 r).headD .hole).toInt, ((dropT 7 r).headD .hole).toInt, ⟨((dropT 8 r).headD .hole).toSl, ((dropT 9 r).headD .hole).toInt⟩, ⟨((dropT 10 r).headD .hole).toSl, ((dropT 11 r).headD .hole).toInt⟩, ((dropT 12 r).headD .hole).toInt, ⟨((dropT 13 r).headD .hole).toSl, ((dropT 14 r).headD .hole).toInt⟩, ((dropT 15 r).headD .hole).toBool⟩
instance : RT RHead := ⟨RHead.enc, RHead.dec, 16, fun _ _ => rfl, fun _ _ => rfl⟩
def RHead.at (xs : List (List L)) (i : Nat) : RHead := RHead.dec (List.getD xs i [])
def MHead.r (x : MHead) : RHead := ⟨x.fZone, x.fEpoch, x.fKind, x.fTime, x.fUntil, x.fCount, x.fRoot, x.fPrev, (MKeys.r x.fKeys), (MKeys.r x.fHeirs), x.fWait, (MKeys.r x.fJudge), x.fFrozen⟩
def MHead.row (x : MHead) : List L := RHead.enc x.r
def MHead.zero : MHead := ⟨0, 0, 0, 0, 0, 0, 0, 0, MKeys.zero, MKeys.zero, 0, MKeys.zero, false⟩
theorem MHead.r_inj {a b : MHead} (h : a.r = b.r) : a = b := by
 cases a; cases b
 simp only [MHead.r, RHead.mk.injEq] at h
 obtain ⟨h0, h1, h2, h3, h4, h5, h6, h7, h8, h9, h10, h11, h12⟩ := h
 simp only [MHead.mk.injEq]
 exact ⟨h0, h1, h2, h3, h4, h5, h6, h7, (MKeys.r_inj h8), (MKeys.r_inj h9), h10, (MKeys.r_inj h11), h12⟩
theorem MHead.row_inj {a b : MHead} (h : MHead.row a = MHead.row b) : a = b := MHead.r_inj (congrArg RHead.dec h)
theorem MHead.at_row {xs : List MHead} {i : Nat} (h : i < xs.length) : RHead.at (xs.map MHead.row) i = (xs[i]).r := by unfold RHead.at; rw [getD_map h]; rfl
theorem MHead.at_getD {xs : List MHead} {i : Nat} : RHead.at (xs.map MHead.row) i = (xs.getD i MHead.zero).r := row_getD (r := fun x => MHead.r x) (fun _ => rfl) rfl
theorem MHead.r_fZone (x : MHead) : (MHead.r x).fZone = x.fZone := Eq.trans rfl rfl
theorem MHead.r_fEpoch (x : MHead) : (MHead.r x).fEpoch = x.fEpoch := Eq.trans rfl rfl
theorem MHead.r_fKind (x : MHead) : (MHead.r x).fKind = x.fKind := Eq.trans rfl rfl
theorem MHead.r_fTime (x : MHead) : (MHead.r x).fTime = x.fTime := Eq.trans rfl rfl
theorem MHead.r_fUntil (x : MHead) : (MHead.r x).fUntil = x.fUntil := Eq.trans rfl rfl
theorem MHead.r_fCount (x : MHead) : (MHead.r x).fCount = x.fCount := Eq.trans rfl rfl
theorem MHead.r_fRoot (x : MHead) : (MHead.r x).fRoot = x.fRoot := Eq.trans rfl rfl
theorem MHead.r_fPrev (x : MHead) : (MHead.r x).fPrev = x.fPrev := Eq.trans rfl rfl
theorem MHead.r_fKeys (x : MHead) : (MHead.r x).fKeys = (MKeys.r x.fKeys) := Eq.trans rfl rfl
theorem MHead.r_fHeirs (x : MHead) : (MHead.r x).fHeirs = (MKeys.r x.fHeirs) := Eq.trans rfl rfl
theorem MHead.r_fWait (x : MHead) : (MHead.r x).fWait = x.fWait := Eq.trans rfl rfl
theorem MHead.r_fJudge (x : MHead) : (MHead.r x).fJudge = (MKeys.r x.fJudge) := Eq.trans rfl rfl
theorem MHead.r_fFrozen (x : MHead) : (MHead.r x).fFrozen = x.fFrozen := Eq.trans rfl rfl
instance : Row MHead := ⟨MHead.row, MHead.row_inj⟩
instance : Im MHead RHead := ⟨MHead.r, MHead.r_inj⟩
theorem MHead.rs : (∀ (xs : List MHead) (i : Nat), RHead.at (xs.map MHead.row) i = (xs.getD i MHead.zero).r) ∧ (∀ x : MHead, (MHead.r x).fZone = x.fZone) ∧ (∀ x : MHead, (MHead.r x).fEpoch = x.fEpoch) ∧ (∀ x : MHead, (MHead.r x).fKind = x.fKind) ∧ (∀ x : MHead, (MHead.r x).fTime = x.fTime) ∧ (∀ x : MHead, (MHead.r x).fUntil = x.fUntil) ∧ (∀ x : MHead, (MHead.r x).fCount = x.fCount) ∧ (∀ x : MHead, (MHead.r x).fRoot = x.fRoot) ∧ (∀ x : MHead, (MHead.r x).fPrev = x.fPrev) ∧ (∀ x : MHead, (MHead.r x).fKeys = (MKeys.r x.fKeys)) ∧ (∀ x : MHead, (MHead.r x).fHeirs = (MKeys.r x.fHeirs)) ∧ (∀ x : MHead, (MHead.r x).fWait = x.fWait) ∧ (∀ x : MHead, (MHead.r x).fJudge = (MKeys.r x.fJudge)) ∧ (∀ x : MHead, (MHead.r x).fFrozen = x.fFrozen) := ⟨fun _ _ => MHead.at_getD, MHead.r_fZone, MHead.r_fEpoch, MHead.r_fKind, MHead.r_fTime, MHead.r_fUntil, MHead.r_fCount, MHead.r_fRoot, MHead.r_fPrev, MHead.r_fKeys, MHead.r_fHeirs, MHead.r_fWait, MHead.r_fJudge, MHead.r_fFrozen⟩
def MHead.Sm (n : Nat) (x : MHead) : Prop := MKeys.Sm n x.fKeys ∧ MKeys.Sm n x.fHeirs ∧ MKeys.Sm n x.fJudge
def MHead.size (x : MHead) : Nat := MKeys.size x.fKeys + MKeys.size x.fHeirs + MKeys.size x.fJudge
theorem MHead.Sm_mono {n m : Nat} (hn : n ≤ m) {x : MHead} (h : MHead.Sm n x) : MHead.Sm m x := ⟨MKeys.Sm_mono hn h.1, MKeys.Sm_mono hn h.2.1, MKeys.Sm_mono hn h.2.2⟩
theorem MHead.Sm_of {n : Nat} {x : MHead} (h : x.size ≤ n) : MHead.Sm n x := by
 unfold MHead.size at h
 have g0 : MKeys.size x.fKeys ≤ n := by omega
 have g1 : MKeys.size x.fHeirs ≤ n := by omega
 have g2 : MKeys.size x.fJudge ≤ n := by omega
 exact ⟨MKeys.Sm_of g0, MKeys.Sm_of g1, MKeys.Sm_of g2⟩
structure MSig where
 fKey : Int
 fTag : Int
def MSig.enc (x : MSig) : List L := [.int x.fKey, .int x.fTag]
def MSig.dec (r : List L) : MSig := ⟨((dropT 0 r).headD .hole).toInt, ((dropT 1 r).headD .hole).toInt⟩
instance : RT MSig := ⟨MSig.enc, MSig.dec, 2, fun _ _ => rfl, fun _ _ => rfl⟩
def MSig.at (xs : List (List L)) (i : Nat) : MSig := MSig.dec (List.getD xs i [])
def MSig.row (x : MSig) : List L := MSig.enc x
def MSig.zero : MSig := ⟨0, 0⟩
theorem MSig.row_inj {a b : MSig} (h : MSig.row a = MSig.row b) : a = b := congrArg MSig.dec h
theorem MSig.at_row {xs : List MSig} {i : Nat} (h : i < xs.length) : MSig.at (xs.map MSig.row) i = xs[i] := by unfold MSig.at; rw [getD_map h]; rfl
theorem MSig.at_getD {xs : List MSig} {i : Nat} : MSig.at (xs.map MSig.row) i = xs.getD i MSig.zero := row_getD (r := fun x => x) (fun _ => rfl) rfl
instance : Row MSig := ⟨MSig.row, MSig.row_inj⟩
instance : Im MSig MSig := ⟨fun x => x, fun h => h⟩
theorem MSig.rs : (∀ (xs : List MSig) (i : Nat), MSig.at (xs.map MSig.row) i = xs.getD i MSig.zero) := fun _ _ => MSig.at_getD
def MSig.Sm (n : Nat) (x : MSig) : Prop := True
def MSig.size (x : MSig) : Nat := 0
theorem MSig.Sm_mono {n m : Nat} (_ : n ≤ m) {x : MSig} (_ : MSig.Sm n x) : MSig.Sm m x := trivial
theorem MSig.Sm_of {n : Nat} {x : MSig} (_ : x.size ≤ n) : MSig.Sm n x := trivial
structure RSigned where
 fHead : RHead
 fSigs : List (List L)
structure MSigned where
 fHead : MHead
 fSigs : List MSig
def RSigned.enc (x : RSigned) : List L := [.int x.fHead.fZone, .int x.fHead.fEpoch, .int x.fHead.fKind, .int x.fHead.fTime, .int x.fHead.fUntil, .int x.fHead.fCount, .int x.fHead.fRoot, .int x.fHead.fPrev, .sl x.fHead.fKeys.fList, .int x.fHead.fKeys.fNeed, .sl x.fHead.fHeirs.fList, .int x.fHead.fHeirs.fNeed, .int x.fHead.fWait, .sl x.fHead.fJudge.fList, .int x.fHead.fJudge.fNeed, .bool x.fHead.fFrozen, .sl x.fSigs]
def RSigned.dec (r : List L) : RSigned := ⟨⟨((dropT 0 r).headD .hole).toInt, ((dropT 1 r).headD .hole).toInt, ((dropT 2 r).headD .hole).toInt, ((dropT 3 r).headD .hole).toInt, ((dropT 4 r).headD .hole).toInt, ((dropT 5 r).headD .hole).toInt, ((dropT 6 r).headD .hole).toInt, ((dropT 7 r).headD .hole).toInt, ⟨((dropT 8 r).headD .hole).toSl, ((dropT 9 r).headD .hole).toInt⟩, ⟨((dropT 10 r).headD .hole).toSl, ((dropT 11 r).headD .hole).toInt⟩, ((dropT 12 r).headD .hole).toInt, ⟨((dropT 13 r).headD .hole).toSl, ((dropT 14 r).headD .hole).toInt⟩, ((dropT 15 r).headD .hole).toBool⟩, ((dropT 16 r).headD .hole).toSl⟩
instance : RT RSigned := ⟨RSigned.enc, RSigned.dec, 17, fun _ _ => rfl, fun _ _ => rfl⟩
def RSigned.at (xs : List (List L)) (i : Nat) : RSigned := RSigned.dec (List.getD xs i [])
def MSigned.r (x : MSigned) : RSigned := ⟨(MHead.r x.fHead), (x.fSigs.map MSig.row)⟩
def MSigned.row (x : MSigned) : List L := RSigned.enc x.r
def MSigned.zero : MSigned := ⟨MHead.zero, []⟩
theorem MSigned.r_inj {a b : MSigned} (h : a.r = b.r) : a = b := by
 cases a; cases b
 simp only [MSigned.r, RSigned.mk.injEq] at h
 obtain ⟨h0, h1⟩ := h
 simp only [MSigned.mk.injEq]
 exact ⟨(MHead.r_inj h0), (map_inj MSig.row_inj h1)⟩
theorem MSigned.row_inj {a b : MSigned} (h : MSigned.row a = MSigned.row b) : a = b := MSigned.r_inj (congrArg RSigned.dec h)
theorem MSigned.at_row {xs : List MSigned} {i : Nat} (h : i < xs.length) : RSigned.at (xs.map MSigned.row) i = (xs[i]).r := by unfold RSigned.at; rw [getD_map h]; rfl
theorem MSigned.at_getD {xs : List MSigned} {i : Nat} : RSigned.at (xs.map MSigned.row) i = (xs.getD i MSigned.zero).r := row_getD (r := fun x => MSigned.r x) (fun _ => rfl) rfl
theorem MSigned.r_fHead (x : MSigned) : (MSigned.r x).fHead = (MHead.r x.fHead) := Eq.trans rfl rfl
theorem MSigned.r_fSigs (x : MSigned) : (MSigned.r x).fSigs = (x.fSigs.map MSig.row) := Eq.trans rfl rfl
instance : Row MSigned := ⟨MSigned.row, MSigned.row_inj⟩
instance : Im MSigned RSigned := ⟨MSigned.r, MSigned.r_inj⟩
theorem MSigned.rs : (∀ (xs : List MSigned) (i : Nat), RSigned.at (xs.map MSigned.row) i = (xs.getD i MSigned.zero).r) ∧ (∀ x : MSigned, (MSigned.r x).fHead = (MHead.r x.fHead)) ∧ (∀ x : MSigned, (MSigned.r x).fSigs = (x.fSigs.map MSig.row)) := ⟨fun _ _ => MSigned.at_getD, MSigned.r_fHead, MSigned.r_fSigs⟩
def MSigned.Sm (n : Nat) (x : MSigned) : Prop := MHead.Sm n x.fHead ∧ SmL n (fun y : MSig => MSig.Sm n y) x.fSigs
def MSigned.size (x : MSigned) : Nat := MHead.size x.fHead + szL (fun y : MSig => MSig.size y) x.fSigs
theorem MSigned.Sm_mono {n m : Nat} (hn : n ≤ m) {x : MSigned} (h : MSigned.Sm n x) : MSigned.Sm m x := ⟨MHead.Sm_mono hn h.1, h.2.mono hn (fun x hx => MSig.Sm_mono hn hx)⟩
theorem MSigned.Sm_of {n : Nat} {x : MSigned} (h : x.size ≤ n) : MSigned.Sm n x := by
 unfold MSigned.size at h
 have g0 : MHead.size x.fHead ≤ n := by omega
 have g1 : szL (fun y : MSig => MSig.size y) x.fSigs ≤ n := by omega
 exact ⟨MHead.Sm_of g0, szL_sm g1 (fun x hx => MSig.Sm_of hx)⟩
structure RFork where
 fBefore : RSigned
 fA : RSigned
 fB : RSigned
structure MFork where
 fBefore : MSigned
 fA : MSigned
 fB : MSigned
def RFork.enc (x : RFork) : List L := [.int x.fBefore.fHead.fZone, .int x.fBefore.fHead.fEpoch, .int x.fBefore.fHead.fKind, .int x.fBefore.fHead.fTime, .int x.fBefore.fHead.fUntil, .int x.fBefore.fHead.fCount, .int x.fBefore.fHead.fRoot, .int x.fBefore.fHead.fPrev, .sl x.fBefore.fHead.fKeys.fList, .int x.fBefore.fHead.fKeys.fNeed, .sl x.fBefore.fHead.fHeirs.fList, .int x.fBefore.fHead.fHeirs.fNeed, .int x.fBefore.fHead.fWait, .sl x.fBefore.fHead.fJudge.fList, .int x.fBefore.fHead.fJudge.fNeed, .bool x.fBefore.fHead.fFrozen, .sl x.fBefore.fSigs, .int x.fA.fHead.fZone, .int x.fA.fHead.fEpoch, .int x.fA.fHead.fKind, .int x.fA.fHead.fTime, .int x.fA.fHead.fUntil, .int x.fA.fHead.fCount, .int x.fA.fHead.fRoot, .int x.fA.fHead.fPrev, .sl x.fA.fHead.fKeys.fList, .int x.fA.fHead.fKeys.fNeed, .sl x.fA.fHead.fHeirs.fList, .int x.fA.fHead.fHeirs.fNeed, .int x.fA.fHead.fWait, .sl x.fA.fHead.fJudge.fList, .int x.fA.fHead.fJudge.fNeed, .bool x.fA.fHead.fFrozen, .sl x.fA.fSigs, .int x.fB.fHead.fZone, .int x.fB.fHead.fEpoch, .int x.fB.fHead.fKind, .int x.fB.fHead.fTime, .int x.fB.fHead.fUntil, .int x.fB.fHead.fCount, .int x.fB.fHead.fRoot, .int x.fB.fHead.fPrev, .sl x.fB.fHead.fKeys.fList, .int x.fB.fHead.fKeys.fNeed, .sl x.fB.fHead.fHeirs.fList, .int x.fB.fHead.fHeirs.fNeed, .int x.fB.fHead.fWait, .sl x.fB.fHead.fJudge.fList, .int x.fB.fHead.fJudge.fNeed, .bool x.fB.fHead.fFrozen, .sl x.fB.fSigs]
def RFork.dec (r : List L) : RFork := ⟨⟨⟨((dropT 0 r).headD .hole).toInt, ((dropT 1 r).headD .hole).toInt, ((dropT 2 r).headD .hole).toInt, ((dropT 3 r).headD .hole).toInt, ((dropT 4 r).headD .hole).toInt, ((dropT 5 r).headD .hole).toInt, ((dropT 6 r).headD .hole).toInt, ((dropT 7 r).headD .hole).toInt, ⟨((dropT 8 r).headD .hole).toSl, ((dropT 9 r).headD .hole).toInt⟩, ⟨((dropT 10 r).headD .hole).toSl, ((dropT 11 r).headD .hole).toInt⟩, ((dropT 12 r).headD .hole).toInt, ⟨((dropT 13 r).headD .hole).toSl, ((dropT 14 r).headD .hole).toInt⟩, ((dropT 15 r).headD .hole).toBool⟩, ((dropT 16 r).headD .hole).toSl⟩, ⟨⟨((dropT 17 r).headD .hole).toInt, ((dropT 18 r).headD .hole).toInt, ((dropT 19 r).headD .hole).toInt, ((dropT 20 r).headD .hole).toInt, ((dropT 21 r).headD .hole).toInt, ((dropT 22 r).headD .hole).toInt, ((dropT 23 r).headD .hole).toInt, ((dropT 24 r).headD .hole).toInt, ⟨((dropT 25 r).headD .hole).toSl, ((dropT 26 r).headD .hole).toInt⟩, ⟨((dropT 27 r).headD .hole).toSl, ((dropT 28 r).headD .hole).toInt⟩, ((dropT 29 r).headD .hole).toInt, ⟨((dropT 30 r).headD .hole).toSl, ((dropT 31 r).headD .hole).toInt⟩, ((dropT 32 r).headD .hole).toBool⟩, ((dropT 33 r).headD .hole).toSl⟩, ⟨⟨((dropT 34 r).headD .hole).toInt, ((dropT 35 r).headD .hole).toInt, ((dropT 36 r).headD .hole).toInt, ((dropT 37 r).headD .hole).toInt, ((dropT 38 r).headD .hole).toInt, ((dropT 39 r).headD .hole).toInt, ((dropT 40 r).headD .hole).toInt, ((dropT 41 r).headD .hole).toInt, ⟨((dropT 42 r).headD .hole).toSl, ((dropT 43 r).headD .hole).toInt⟩, ⟨((dropT 44 r).headD .hole).toSl, ((dropT 45 r).headD .hole).toInt⟩, ((dropT 46 r).headD .hole).toInt, ⟨((dropT 47 r).headD .hole).toSl, ((dropT 48 r).headD .hole).toInt⟩, ((dropT 49 r).headD .hole).toBool⟩, ((dropT 50 r).headD .hole).toSl⟩⟩
instance : RT RFork := ⟨RFork.enc, RFork.dec, 51, fun _ _ => rfl, fun _ _ => rfl⟩
def RFork.at (xs : List (List L)) (i : Nat) : RFork := RFork.dec (List.getD xs i [])
def MFork.r (x : MFork) : RFork := ⟨(MSigned.r x.fBefore), (MSigned.r x.fA), (MSigned.r x.fB)⟩
def MFork.row (x : MFork) : List L := RFork.enc x.r
def MFork.zero : MFork := ⟨MSigned.zero, MSigned.zero, MSigned.zero⟩
theorem MFork.r_inj {a b : MFork} (h : a.r = b.r) : a = b := by
 cases a; cases b
 simp only [MFork.r, RFork.mk.injEq] at h
 obtain ⟨h0, h1, h2⟩ := h
 simp only [MFork.mk.injEq]
 exact ⟨(MSigned.r_inj h0), (MSigned.r_inj h1), (MSigned.r_inj h2)⟩
theorem MFork.row_inj {a b : MFork} (h : MFork.row a = MFork.row b) : a = b := MFork.r_inj (congrArg RFork.dec h)
theorem MFork.at_row {xs : List MFork} {i : Nat} (h : i < xs.length) : RFork.at (xs.map MFork.row) i = (xs[i]).r := by unfold RFork.at; rw [getD_map h]; rfl
theorem MFork.at_getD {xs : List MFork} {i : Nat} : RFork.at (xs.map MFork.row) i = (xs.getD i MFork.zero).r := row_getD (r := fun x => MFork.r x) (fun _ => rfl) rfl
theorem MFork.r_fBefore (x : MFork) : (MFork.r x).fBefore = (MSigned.r x.fBefore) := Eq.trans rfl rfl
theorem MFork.r_fA (x : MFork) : (MFork.r x).fA = (MSigned.r x.fA) := Eq.trans rfl rfl
theorem MFork.r_fB (x : MFork) : (MFork.r x).fB = (MSigned.r x.fB) := Eq.trans rfl rfl
instance : Row MFork := ⟨MFork.row, MFork.row_inj⟩
instance : Im MFork RFork := ⟨MFork.r, MFork.r_inj⟩
theorem MFork.rs : (∀ (xs : List MFork) (i : Nat), RFork.at (xs.map MFork.row) i = (xs.getD i MFork.zero).r) ∧ (∀ x : MFork, (MFork.r x).fBefore = (MSigned.r x.fBefore)) ∧ (∀ x : MFork, (MFork.r x).fA = (MSigned.r x.fA)) ∧ (∀ x : MFork, (MFork.r x).fB = (MSigned.r x.fB)) := ⟨fun _ _ => MFork.at_getD, MFork.r_fBefore, MFork.r_fA, MFork.r_fB⟩
def MFork.Sm (n : Nat) (x : MFork) : Prop := MSigned.Sm n x.fBefore ∧ MSigned.Sm n x.fA ∧ MSigned.Sm n x.fB
def MFork.size (x : MFork) : Nat := MSigned.size x.fBefore + MSigned.size x.fA + MSigned.size x.fB
theorem MFork.Sm_mono {n m : Nat} (hn : n ≤ m) {x : MFork} (h : MFork.Sm n x) : MFork.Sm m x := ⟨MSigned.Sm_mono hn h.1, MSigned.Sm_mono hn h.2.1, MSigned.Sm_mono hn h.2.2⟩
theorem MFork.Sm_of {n : Nat} {x : MFork} (h : x.size ≤ n) : MFork.Sm n x := by
 unfold MFork.size at h
 have g0 : MSigned.size x.fBefore ≤ n := by omega
 have g1 : MSigned.size x.fA ≤ n := by omega
 have g2 : MSigned.size x.fB ≤ n := by omega
 exact ⟨MSigned.Sm_of g0, MSigned.Sm_of g1, MSigned.Sm_of g2⟩
structure RKnown where
 fChains : List (List L)
 fForks : List (List L)
structure MKnown where
 fChains : List (List MSigned)
 fForks : List MFork
def RKnown.enc (x : RKnown) : List L := [.sl x.fChains, .sl x.fForks]
def RKnown.dec (r : List L) : RKnown := ⟨((dropT 0 r).headD .hole).toSl, ((dropT 1 r).headD .hole).toSl⟩
instance : RT RKnown := ⟨RKnown.enc, RKnown.dec, 2, fun _ _ => rfl, fun _ _ => rfl⟩
def RKnown.at (xs : List (List L)) (i : Nat) : RKnown := RKnown.dec (List.getD xs i [])
def MKnown.r (x : MKnown) : RKnown := ⟨(x.fChains.map (lRow MSigned.row)), (x.fForks.map MFork.row)⟩
def MKnown.row (x : MKnown) : List L := RKnown.enc x.r
def MKnown.zero : MKnown := ⟨[], []⟩
theorem MKnown.r_inj {a b : MKnown} (h : a.r = b.r) : a = b := by
 cases a; cases b
 simp only [MKnown.r, RKnown.mk.injEq] at h
 obtain ⟨h0, h1⟩ := h
 simp only [MKnown.mk.injEq]
 exact ⟨(map_inj (lRow_inj MSigned.row_inj) h0), (map_inj MFork.row_inj h1)⟩
theorem MKnown.row_inj {a b : MKnown} (h : MKnown.row a = MKnown.row b) : a = b := MKnown.r_inj (congrArg RKnown.dec h)
theorem MKnown.at_row {xs : List MKnown} {i : Nat} (h : i < xs.length) : RKnown.at (xs.map MKnown.row) i = (xs[i]).r := by unfold RKnown.at; rw [getD_map h]; rfl
theorem MKnown.at_getD {xs : List MKnown} {i : Nat} : RKnown.at (xs.map MKnown.row) i = (xs.getD i MKnown.zero).r := row_getD (r := fun x => MKnown.r x) (fun _ => rfl) rfl
theorem MKnown.r_fChains (x : MKnown) : (MKnown.r x).fChains = (x.fChains.map (lRow MSigned.row)) := Eq.trans rfl rfl
theorem MKnown.r_fForks (x : MKnown) : (MKnown.r x).fForks = (x.fForks.map MFork.row) := Eq.trans rfl rfl
instance : Row MKnown := ⟨MKnown.row, MKnown.row_inj⟩
instance : Im MKnown RKnown := ⟨MKnown.r, MKnown.r_inj⟩
theorem MKnown.rs : (∀ (xs : List MKnown) (i : Nat), RKnown.at (xs.map MKnown.row) i = (xs.getD i MKnown.zero).r) ∧ (∀ x : MKnown, (MKnown.r x).fChains = (x.fChains.map (lRow MSigned.row))) ∧ (∀ x : MKnown, (MKnown.r x).fForks = (x.fForks.map MFork.row)) := ⟨fun _ _ => MKnown.at_getD, MKnown.r_fChains, MKnown.r_fForks⟩
def MKnown.Sm (n : Nat) (x : MKnown) : Prop := SmL n (fun y : List MSigned => SmL n (fun y : MSigned => MSigned.Sm n y) y) x.fChains ∧ SmL n (fun y : MFork => MFork.Sm n y) x.fForks
def MKnown.size (x : MKnown) : Nat := szL (fun y : List MSigned => szL (fun y : MSigned => MSigned.size y) y) x.fChains + szL (fun y : MFork => MFork.size y) x.fForks
theorem MKnown.Sm_mono {n m : Nat} (hn : n ≤ m) {x : MKnown} (h : MKnown.Sm n x) : MKnown.Sm m x := ⟨h.1.mono hn (fun x hx => hx.mono hn (fun x hx => MSigned.Sm_mono hn hx)), h.2.mono hn (fun x hx => MFork.Sm_mono hn hx)⟩
theorem MKnown.Sm_of {n : Nat} {x : MKnown} (h : x.size ≤ n) : MKnown.Sm n x := by
 unfold MKnown.size at h
 have g0 : szL (fun y : List MSigned => szL (fun y : MSigned => MSigned.size y) y) x.fChains ≤ n := by omega
 have g1 : szL (fun y : MFork => MFork.size y) x.fForks ≤ n := by omega
 exact ⟨szL_sm g0 (fun x hx => szL_sm hx (fun x hx => MSigned.Sm_of hx)), szL_sm g1 (fun x hx => MFork.Sm_of hx)⟩
structure RTrace where
 fKnown : RKnown
 fCode : Int
 fEntry : REntry
 fZones : List (List L)
 fMoves : Int
structure MTrace where
 fKnown : MKnown
 fCode : Int
 fEntry : MEntry
 fZones : List Int
 fMoves : Int
def RTrace.enc (x : RTrace) : List L := [.sl x.fKnown.fChains, .sl x.fKnown.fForks, .int x.fCode, .str x.fEntry.fLabel, .int x.fEntry.fKind, .int x.fEntry.fValue, .sl x.fEntry.fPath, .sl x.fZones, .int x.fMoves]
def RTrace.dec (r : List L) : RTrace := ⟨⟨((dropT 0 r).headD .hole).toSl, ((dropT 1 r).headD .hole).toSl⟩, ((dropT 2 r).headD .hole).toInt, ⟨((dropT 3 r).headD .hole).toStr, ((dropT 4 r).headD .hole).toInt, ((dropT 5 r).headD .hole).toInt, ((dropT 6 r).headD .hole).toSl⟩, ((dropT 7 r).headD .hole).toSl, ((dropT 8 r).headD .hole).toInt⟩
instance : RT RTrace := ⟨RTrace.enc, RTrace.dec, 9, fun _ _ => rfl, fun _ _ => rfl⟩
def RTrace.at (xs : List (List L)) (i : Nat) : RTrace := RTrace.dec (List.getD xs i [])
def MTrace.r (x : MTrace) : RTrace := ⟨(MKnown.r x.fKnown), x.fCode, (MEntry.r x.fEntry), (x.fZones.map iRow), x.fMoves⟩
def MTrace.row (x : MTrace) : List L := RTrace.enc x.r
def MTrace.zero : MTrace := ⟨MKnown.zero, 0, MEntry.zero, [], 0⟩
theorem MTrace.r_inj {a b : MTrace} (h : a.r = b.r) : a = b := by
 cases a; cases b
 simp only [MTrace.r, RTrace.mk.injEq] at h
 obtain ⟨h0, h1, h2, h3, h4⟩ := h
 simp only [MTrace.mk.injEq]
 exact ⟨(MKnown.r_inj h0), h1, (MEntry.r_inj h2), (map_inj iRow_inj h3), h4⟩
theorem MTrace.row_inj {a b : MTrace} (h : MTrace.row a = MTrace.row b) : a = b := MTrace.r_inj (congrArg RTrace.dec h)
theorem MTrace.at_row {xs : List MTrace} {i : Nat} (h : i < xs.length) : RTrace.at (xs.map MTrace.row) i = (xs[i]).r := by unfold RTrace.at; rw [getD_map h]; rfl
theorem MTrace.at_getD {xs : List MTrace} {i : Nat} : RTrace.at (xs.map MTrace.row) i = (xs.getD i MTrace.zero).r := row_getD (r := fun x => MTrace.r x) (fun _ => rfl) rfl
theorem MTrace.r_fKnown (x : MTrace) : (MTrace.r x).fKnown = (MKnown.r x.fKnown) := Eq.trans rfl rfl
theorem MTrace.r_fCode (x : MTrace) : (MTrace.r x).fCode = x.fCode := Eq.trans rfl rfl
theorem MTrace.r_fEntry (x : MTrace) : (MTrace.r x).fEntry = (MEntry.r x.fEntry) := Eq.trans rfl rfl
theorem MTrace.r_fZones (x : MTrace) : (MTrace.r x).fZones = (x.fZones.map iRow) := Eq.trans rfl rfl
theorem MTrace.r_fMoves (x : MTrace) : (MTrace.r x).fMoves = x.fMoves := Eq.trans rfl rfl
instance : Row MTrace := ⟨MTrace.row, MTrace.row_inj⟩
instance : Im MTrace RTrace := ⟨MTrace.r, MTrace.r_inj⟩
theorem MTrace.rs : (∀ (xs : List MTrace) (i : Nat), RTrace.at (xs.map MTrace.row) i = (xs.getD i MTrace.zero).r) ∧ (∀ x : MTrace, (MTrace.r x).fKnown = (MKnown.r x.fKnown)) ∧ (∀ x : MTrace, (MTrace.r x).fCode = x.fCode) ∧ (∀ x : MTrace, (MTrace.r x).fEntry = (MEntry.r x.fEntry)) ∧ (∀ x : MTrace, (MTrace.r x).fZones = (x.fZones.map iRow)) ∧ (∀ x : MTrace, (MTrace.r x).fMoves = x.fMoves) := ⟨fun _ _ => MTrace.at_getD, MTrace.r_fKnown, MTrace.r_fCode, MTrace.r_fEntry, MTrace.r_fZones, MTrace.r_fMoves⟩
def MTrace.Sm (n : Nat) (x : MTrace) : Prop := MKnown.Sm n x.fKnown ∧ MEntry.Sm n x.fEntry ∧ SmL n (fun y : Int => True) x.fZones
def MTrace.size (x : MTrace) : Nat := MKnown.size x.fKnown + MEntry.size x.fEntry + szL (fun y : Int => 0) x.fZones
theorem MTrace.Sm_mono {n m : Nat} (hn : n ≤ m) {x : MTrace} (h : MTrace.Sm n x) : MTrace.Sm m x := ⟨MKnown.Sm_mono hn h.1, MEntry.Sm_mono hn h.2.1, h.2.2.mono hn (fun x hx => trivial)⟩
theorem MTrace.Sm_of {n : Nat} {x : MTrace} (h : x.size ≤ n) : MTrace.Sm n x := by
 unfold MTrace.size at h
 have g0 : MKnown.size x.fKnown ≤ n := by omega
 have g1 : MEntry.size x.fEntry ≤ n := by omega
 have g2 : szL (fun y : Int => 0) x.fZones ≤ n := by omega
 exact ⟨MKnown.Sm_of g0, MEntry.Sm_of g1, szL_sm g2 (fun x hx => trivial)⟩
end Go.DM

end
