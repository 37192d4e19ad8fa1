/- What the functions compute that the law reaches, and that the law returns true. Conditions: none. -/
import Derived.Test.YtedhlofhkcggpaaTy
import Derived.Test.YtedhlofhkcggpaaFnFromCacheA
import Derived.Test.YtedhlofhkcggpaaProg
import Derived.Lib.AppendZerosOnto
import Derived.Lib.Bytealg
import Derived.Laws.Externs
import Derived.Lib.Walk
import Derived.Lib.Hide
import Derived.Lib.Strings
set_option linter.all false
namespace Go.DM
open Go.Proofs
/-! laws.markGap -/
namespace laws_markGap
set_option maxRecDepth 100000
set_option maxHeartbeats 8000000
noncomputable def F (x0 : RGap) (x1 : Int) : Ans := (call (laws_markEntry.R (x0.fBefore, x1)) fun v1 => (call (laws_markEntry.R (x0.fAfter, v1.1)) fun v2 => (call (laws_markProof.R (x0.fLeft, v2.1)) fun v3 => (call (laws_markProof.R (x0.fRight, v3.1)) fun v4 => ret ((v4.1, v1.2, v2.2, v3.2, v4.2) : Int × List (List L) × List (List L) × List (List L) × List (List L))))))
def pats : List (Bool × List K) := [(true, [.int .i64, .str, .int .i64, .int .i64, .sl 9, .str, .int .i64, .int .i64, .sl 9, .int .i64, .sl 3, .int .i64, .sl 3]), (false, [.int .i64])]
def res : RP := .chg [9, 9, 3, 3]
noncomputable abbrev E : Env := { T := assoc Tab, G := conG [], nt := 22, M := conM [(45, laws_markEntry.con), (177, laws_markProof.con)], np := 4, mt := true }
set_option maxRecDepth 100000
theorem run_eq (n : Nat) (ls : List L) : runF E (fun _ => []) Try.f178 res n (initM pats ls) = F (RGap.dec ls) ((dropT 13 ls).headD .hole).toInt := by kernel_rfl
noncomputable def e1 (x : MGap) (k : Int) := laws_markEntry.md x.fBefore k
noncomputable def e2 (x : MGap) (k : Int) := laws_markEntry.md x.fAfter ((e1 x k).1)
noncomputable def e3 (x : MGap) (k : Int) := laws_markProof.md x.fLeft ((e2 x k).1)
noncomputable def e4 (x : MGap) (k : Int) := laws_markProof.md x.fRight ((e3 x k).1)
noncomputable def sum (x : MGap) : Nat := 0 + laws_markEntry.sum x.fBefore + laws_markEntry.sum x.fAfter + laws_markProof.sum x.fLeft + laws_markProof.sum x.fRight
noncomputable def md (a0 : MGap) (a1 : Int) : Int × List ByteArray × List ByteArray × List Int × List Int := ((e4 a0 a1).1, (e1 a0 a1).2, (e2 a0 a1).2, (e3 a0 a1).2, (e4 a0 a1).2)
def gd (a0 : MGap) (a1 : Int) : Prop := I64 a1
def acc (ls : List L) : RGap × Int := ((RGap.dec ls), ((dropT 13 ls).headD .hole).toInt)
noncomputable def R : (RGap × Int) → Option (Int × List (List L) × List (List L) × List (List L) × List (List L)) := RR (p2 gd) (u2 md)
theorem R_eq {a0} {a1} (h : gd a0 a1) : R ((MGap.r a0), a1) = some ((md a0 a1).1, ((md a0 a1).2.1.map sRow), ((md a0 a1).2.2.1.map sRow), ((md a0 a1).2.2.2.1.map iRow), ((md a0 a1).2.2.2.2.map iRow)) := RR_eq (a := (a0, a1)) h
noncomputable def con : MCon := MN pats acc R
theorem okF (a0 : MGap) (a1 : Int) (hg : gd a0 a1) : F (MGap.r a0) a1 = ret (((md a0 a1).1, ((md a0 a1).2.1.map sRow), ((md a0 a1).2.2.1.map sRow), ((md a0 a1).2.2.2.1.map iRow), ((md a0 a1).2.2.2.2.map iRow)) : Int × List (List L) × List (List L) × List (List L) × List (List L)) := by
  unfold gd at hg
  simp only [F, S0, MGap.rs]
  unfold md
  refine call_to ((e1 a0 a1).1, ((e1 a0 a1).2.map sRow)) (laws_markEntry.R_eq (a0 := a0.fBefore) (a1 := a1) hg) ?_
  refine call_to ((e2 a0 a1).1, ((e2 a0 a1).2.map sRow)) (laws_markEntry.R_eq (a0 := a0.fAfter) (a1 := (e1 a0 a1).1) (laws_markEntry.i64 hg)) ?_
  refine call_to ((e3 a0 a1).1, ((e3 a0 a1).2.map iRow)) (laws_markProof.R_eq (a0 := a0.fLeft) (a1 := (e2 a0 a1).1) (laws_markEntry.i64 (laws_markEntry.i64 hg))) ?_
  refine call_to ((e4 a0 a1).1, ((e4 a0 a1).2.map iRow)) (laws_markProof.R_eq (a0 := a0.fRight) (a1 := (e3 a0 a1).1) (laws_markProof.i64 (laws_markEntry.i64 (laws_markEntry.i64 hg)))) ?_
  first | rfl | (simp only [S0, MGap.rs]; rfl)
theorem valid_ : MValid Try.prog Ev 178 con := MV (run := fun _ x => F x.1 x.2) mix tab_ok .nil (.cons laws_markEntry.valid_ (.cons laws_markProof.valid_ .nil)) Try.func178 (by kernel_rfl) run_eq (fun _ a _ _ hg => ⟨0, okF a.1 a.2 hg⟩)
theorem i64 {a0 : MGap} {a1 : Int} (hk : I64 a1) : I64 (md a0 a1).1 := (laws_markProof.i64 (laws_markProof.i64 (laws_markEntry.i64 (laws_markEntry.i64 hk))))
theorem kk (x : MGap) (k : Int) (h0 : 0 ≤ k) (hb : k + (sum x : Int) ≤ 4611686018427387904) : (md x k).1 = k + sum x := by
  simp only [sum, Int.natCast_add] at hb ⊢
  simp (disch := omega) only [md, e1, e2, e3, e4, wi, laws_markEntry.kk, laws_markProof.kk]
  all_goals first | done | omega
theorem sz (x : MGap) : sum x ≤ 60 * MGap.size x := by
    have := laws_markEntry.sz x.fBefore
    have := laws_markEntry.sz x.fAfter
    have := laws_markProof.sz x.fLeft
    have := laws_markProof.sz x.fRight
    try simp only [sum, MGap.size, MEntry.size, MProof.size] at *
    omega
noncomputable def upd (x : MGap) (k : Int) : MGap := (⟨x.fAt, (⟨x.fBefore.fLabel, x.fBefore.fKind, x.fBefore.fValue, (md x k).2.1⟩ : MEntry), (⟨x.fAfter.fLabel, x.fAfter.fKind, x.fAfter.fValue, (md x k).2.2.1⟩ : MEntry), (⟨x.fLeft.fAt, (md x k).2.2.2.1⟩ : MProof), (⟨x.fRight.fAt, (md x k).2.2.2.2⟩ : MProof)⟩ : MGap)
end laws_markGap
/-! laws.markAnswer -/
namespace laws_markAnswer
set_option maxRecDepth 100000
set_option maxHeartbeats 8000000
noncomputable def F (x0 : RAnswer) (x1 : Int) : Ans := (call (laws_markSignedS.R (x0.fChain, x1)) fun v1 => (call (laws_markEntry.R (x0.fEntry, v1.1)) fun v2 => (call (laws_markProof.R (x0.fProof, v2.1)) fun v3 => (call (laws_markGap.R (x0.fGap, v3.1)) fun v4 => ret ((v4.1, v1.2, v2.2, v3.2, v4.2.1, v4.2.2.1, v4.2.2.2.1, v4.2.2.2.2) : Int × List (List L) × List (List L) × List (List L) × List (List L) × List (List L) × List (List L) × List (List L))))))
def pats : List (Bool × List K) := [(true, [.sl 184, .bool, .str, .int .i64, .int .i64, .sl 9, .int .i64, .sl 3, .int .i64, .str, .int .i64, .int .i64, .sl 9, .str, .int .i64, .int .i64, .sl 9, .int .i64, .sl 3, .int .i64, .sl 3]), (false, [.int .i64])]
def res : RP := .chg [184, 9, 3, 9, 9, 3, 3]
noncomputable abbrev E : Env := { T := assoc Tab, G := conG [], nt := 22, M := conM [(59, laws_markSignedS.con), (45, laws_markEntry.con), (177, laws_markProof.con), (178, laws_markGap.con)], np := 7, mt := true }
set_option maxRecDepth 100000
theorem run_eq (n : Nat) (ls : List L) : runF E (fun _ => []) Try.f93 res n (initM pats ls) = F (RAnswer.dec ls) ((dropT 21 ls).headD .hole).toInt := by kernel_rfl
noncomputable def e1 (x : MAnswer) (k : Int) := laws_markSignedS.md x.fChain k
noncomputable def e2 (x : MAnswer) (k : Int) := laws_markEntry.md x.fEntry ((e1 x k).1)
noncomputable def e3 (x : MAnswer) (k : Int) := laws_markProof.md x.fProof ((e2 x k).1)
noncomputable def e4 (x : MAnswer) (k : Int) := laws_markGap.md x.fGap ((e3 x k).1)
noncomputable def sum (x : MAnswer) : Nat := 0 + laws_markSignedS.sum x.fChain + laws_markEntry.sum x.fEntry + laws_markProof.sum x.fProof + laws_markGap.sum x.fGap
noncomputable def md (a0 : MAnswer) (a1 : Int) : Int × List MSigned × List ByteArray × List Int × List ByteArray × List ByteArray × List Int × List Int := ((e4 a0 a1).1, (e1 a0 a1).2, (e2 a0 a1).2, (e3 a0 a1).2, (e4 a0 a1).2.1, (e4 a0 a1).2.2.1, (e4 a0 a1).2.2.2.1, (e4 a0 a1).2.2.2.2)
def gd (a0 : MAnswer) (a1 : Int) : Prop := I64 a1
def acc (ls : List L) : RAnswer × Int := ((RAnswer.dec ls), ((dropT 21 ls).headD .hole).toInt)
noncomputable def R : (RAnswer × Int) → Option (Int × List (List L) × List (List L) × List (List L) × List (List L) × List (List L) × List (List L) × List (List L)) := RR (p2 gd) (u2 md)
theorem R_eq {a0} {a1} (h : gd a0 a1) : R ((MAnswer.r a0), a1) = some ((md a0 a1).1, ((md a0 a1).2.1.map MSigned.row), ((md a0 a1).2.2.1.map sRow), ((md a0 a1).2.2.2.1.map iRow), ((md a0 a1).2.2.2.2.1.map sRow), ((md a0 a1).2.2.2.2.2.1.map sRow), ((md a0 a1).2.2.2.2.2.2.1.map iRow), ((md a0 a1).2.2.2.2.2.2.2.map iRow)) := RR_eq (a := (a0, a1)) h
noncomputable def con : MCon := MN pats acc R
theorem okF (a0 : MAnswer) (a1 : Int) (hg : gd a0 a1) : F (MAnswer.r a0) a1 = ret (((md a0 a1).1, ((md a0 a1).2.1.map MSigned.row), ((md a0 a1).2.2.1.map sRow), ((md a0 a1).2.2.2.1.map iRow), ((md a0 a1).2.2.2.2.1.map sRow), ((md a0 a1).2.2.2.2.2.1.map sRow), ((md a0 a1).2.2.2.2.2.2.1.map iRow), ((md a0 a1).2.2.2.2.2.2.2.map iRow)) : Int × List (List L) × List (List L) × List (List L) × List (List L) × List (List L) × List (List L) × List (List L)) := by
  unfold gd at hg
  simp only [F, S0, MAnswer.rs]
  unfold md
  refine call_to ((e1 a0 a1).1, ((e1 a0 a1).2.map MSigned.row)) (laws_markSignedS.R_eq (a0 := a0.fChain) (a1 := a1) hg) ?_
  refine call_to ((e2 a0 a1).1, ((e2 a0 a1).2.map sRow)) (laws_markEntry.R_eq (a0 := a0.fEntry) (a1 := (e1 a0 a1).1) (laws_markSignedS.i64 hg)) ?_
  refine call_to ((e3 a0 a1).1, ((e3 a0 a1).2.map iRow)) (laws_markProof.R_eq (a0 := a0.fProof) (a1 := (e2 a0 a1).1) (laws_markEntry.i64 (laws_markSignedS.i64 hg))) ?_
  refine call_to ((e4 a0 a1).1, ((e4 a0 a1).2.1.map sRow), ((e4 a0 a1).2.2.1.map sRow), ((e4 a0 a1).2.2.2.1.map iRow), ((e4 a0 a1).2.2.2.2.map iRow)) (laws_markGap.R_eq (a0 := a0.fGap) (a1 := (e3 a0 a1).1) (laws_markProof.i64 (laws_markEntry.i64 (laws_markSignedS.i64 hg)))) ?_
  first | rfl | (simp only [S0, MAnswer.rs]; rfl)
theorem valid_ : MValid Try.prog Ev 93 con := MV (run := fun _ x => F x.1 x.2) mix tab_ok .nil (.cons laws_markSignedS.valid_ (.cons laws_markEntry.valid_ (.cons laws_markProof.valid_ (.cons laws_markGap.valid_ .nil)))) Try.func93 (by kernel_rfl) run_eq (fun _ a _ _ hg => ⟨0, okF a.1 a.2 hg⟩)
theorem i64 {a0 : MAnswer} {a1 : Int} (hk : I64 a1) : I64 (md a0 a1).1 := (laws_markGap.i64 (laws_markProof.i64 (laws_markEntry.i64 (laws_markSignedS.i64 hk))))
theorem kk (x : MAnswer) (k : Int) (h0 : 0 ≤ k) (hb : k + (sum x : Int) ≤ 4611686018427387904) : (md x k).1 = k + sum x := by
  simp only [sum, Int.natCast_add] at hb ⊢
  simp (disch := omega) only [md, e1, e2, e3, e4, wi, laws_markSignedS.kk, laws_markEntry.kk, laws_markProof.kk, laws_markGap.kk]
  all_goals first | done | omega
theorem sz (x : MAnswer) : sum x ≤ 60 * MAnswer.size x := by
    have := laws_markSignedS.sz x.fChain
    have := laws_markEntry.sz x.fEntry
    have := laws_markProof.sz x.fProof
    have := laws_markGap.sz x.fGap
    try simp only [sum, MAnswer.size, MEntry.size, MProof.size, MGap.size] at *
    omega
noncomputable def upd (x : MAnswer) (k : Int) : MAnswer := (⟨(md x k).2.1, x.fFound, (⟨x.fEntry.fLabel, x.fEntry.fKind, x.fEntry.fValue, (md x k).2.2.1⟩ : MEntry), (⟨x.fProof.fAt, (md x k).2.2.2.1⟩ : MProof), (⟨x.fGap.fAt, (⟨x.fGap.fBefore.fLabel, x.fGap.fBefore.fKind, x.fGap.fBefore.fValue, (md x k).2.2.2.2.1⟩ : MEntry), (⟨x.fGap.fAfter.fLabel, x.fGap.fAfter.fKind, x.fGap.fAfter.fValue, (md x k).2.2.2.2.2.1⟩ : MEntry), (⟨x.fGap.fLeft.fAt, (md x k).2.2.2.2.2.2.1⟩ : MProof), (⟨x.fGap.fRight.fAt, (md x k).2.2.2.2.2.2.2⟩ : MProof)⟩ : MGap)⟩ : MAnswer)
end laws_markAnswer
/-! laws.heldIntS -/
namespace laws_heldIntS
set_option maxRecDepth 100000
set_option maxHeartbeats 8000000
inductive Pt where
  | p0 (a : List (List L)) (b : Int) (c : Int)
def pid : Pt → Nat
  | .p0 .. => 2
def pvs : Pt → List V
  | .p0 a b c => [.sl none 3 a, .int .i64 b, .int .i64 c]
def phs : Pt → List Root
  | .p0 a b c => []
noncomputable def step (J : Pt → Ans) : Pt → Ans
  | .p0 a b c => (bif (decide (c < (a.length : Int))) then (bif (decide ((0 : Int) ≤ c)) then (bif (decide (c < (a.length : Int))) then (bif ((iAt a (Int.toNat c)) != b) then ret ((-1) : Int) else J (.p0 a (IntKind.i64.wrap (b + 1)) (IntKind.i64.wrap (c + 1)))) else none) else none) else ret (b : Int))
noncomputable def start (J : Pt → Ans) (x0 : List (List L)) (x1 : Int) : Ans := J (.p0 x0 x1 0)
def live : Nat → Live := fun i => match i with | 2 => [(0, none), (1, none), (5, none)] | _ => []
def pats : List Pat := [.rd (.sl 3), .rd (.int .i64)]
def res : RP := .one (.rd (.int .i64))
noncomputable abbrev E : Env := { T := assoc Tab, G := conG [], nt := 21 }
set_option maxRecDepth 100000
theorem step_eq (I : Heads) (p : Pt) : enterC E live I (pid p) (bodyOf Try.f144) (stOf (live (pid p)) (pvs p) (phs p)) (doneK E Try.f144 res) = step (fun q => I (pid q) (pvs q) (phs q)) p := by
  cases p <;> kernel_rfl
theorem start_eq (I : Heads) (ls : List L) : runC E live I (bodyOf Try.f144) (initS pats ls) (doneK E Try.f144 res) = start (fun q => I (pid q) (pvs q) (phs q)) (ls.headD .hole).toSl ((dropT 1 ls).headD .hole).toInt := by kernel_rfl
theorem run_eq (n : Nat) (ls : List L) : runF E live Try.f144 res n (initS pats ls) = start (iter step n) (ls.headD .hole).toSl ((dropT 1 ls).headD .hole).toInt := runF_iter (id := pid) (vs := pvs) (hs := phs) (step := step) (start := fun J => start J (ls.headD .hole).toSl ((dropT 1 ls).headD .hole).toInt) step_eq (fun I => start_eq I ls) n
noncomputable def f (x : Int) (k : Int) : Option Int := (bif (x != k) then none else (some (IntKind.i64.wrap (k + 1))))
theorem f_I (x : Int) (k k2 : Int) (hk : I64 k) (h : f x k = some k2) : I64 k2 := by
  unfold f at h
  have h := bif_some h
  injection h with h
  subst h
  exact (wrap_I64 _)
noncomputable def md (a0 : List Int) (a1 : Int) : Int := heldM f a0 a1
def gd (a0 : List Int) (a1 : Int) : Prop := I64 a1
def acc (ls : List L) : List (List L) × Int := ((ls.headD .hole).toSl, ((dropT 1 ls).headD .hole).toInt)
noncomputable def R : (List (List L) × Int) → Option Int := RR (p2 gd) (u2 md)
theorem R_eq {a0} {a1} (h : gd a0 a1) : R ((a0.map iRow), a1) = some (md a0 a1) := RR_eq (a := (a0, a1)) h
noncomputable def con : Con := CN pats res acc R
theorem okF (a0 : List Int) (a1 : Int) (hg : gd a0 a1) (h0 : a0.length ≤ maxLen) : ∃ n, start (iter step n) (a0.map iRow) a1 = ret ((md a0 a1) : Int) := by
  unfold gd at hg
  show ∃ n, iter step n (Pt.p0 (a0.map iRow) a1 0) = _
  unfold md
  refine held_loop (f := f) (xs := a0) 0 I64 f_I (pt := fun i k => Pt.p0 (a0.map iRow) k (i : Int)) (fun J i k hi hk => ?_) (fun J k => ?_) hg
  · simp only [step, S0]
    refine yes_ret (lt_dec hi) ?_
    refine yes_ret zle_dec ?_
    refine yes_ret (lt_dec hi) ?_
    refine held_bif rfl ?_
    rw [wrap_succ hi h0]
    rfl
  · simp only [step, S0]
    refine no_ret (by apply decide_eq_false; omega) ?_
    rfl
theorem valid_ : Valid Try.prog Ev 144 con := VV (run := fun n x => start (iter step n) x.1 x.2) mix tab_ok .nil Try.func144 (by kernel_rfl) run_eq (fun ls a hl e hg => okF a.1 a.2 hg (by have h : (ls.headD .hole).toSl.length ≤ maxLen := hl.1.len; have e : a.1.map iRow = (ls.headD .hole).toSl := (congrArg (fun x => x.1) e.symm); rw [← e] at h; simpa using h))
theorem i64 {a0 : List Int} {a1 : Int} (h : I64 a1) : I64 (md a0 a1) := heldM_I f_I I64_neg h
theorem elh (x : Int) (k : Int) (h0 : 0 ≤ k) (hb : k + (laws_markIntS.cnt x : Int) ≤ 4611686018427387904) : f (laws_markIntS.el x k).2 k = some (k + laws_markIntS.cnt x) := by
  simp only [laws_markIntS.cnt, Int.natCast_add] at hb ⊢
  simp (disch := omega) only [laws_markIntS.el, f, wi, bne_self_eq_false, beq_self_eq_true, ba_refl, Bool.not_true, cond_false, dec_neg]
  all_goals first | done | omega | (congr 1 <;> omega)
theorem mk (a0 : List Int) (a1 : Int) (h0 : 0 ≤ a1) (hb : a1 + (laws_markIntS.sum a0 : Int) ≤ 4611686018427387904) : md (laws_markIntS.md a0 a1).2 a1 = a1 + laws_markIntS.sum a0 := held_mark laws_markIntS.elk elh a0 a1 h0 hb
end laws_heldIntS
/-! laws.heldSigS -/
namespace laws_heldSigS
set_option maxRecDepth 100000
set_option maxHeartbeats 8000000
inductive Pt where
  | p0 (a : List (List L)) (b : Int) (c : Int)
def pid : Pt → Nat
  | .p0 .. => 2
def pvs : Pt → List V
  | .p0 a b c => [.sl none 248 a, .int .i64 b, .int .i64 c]
def phs : Pt → List Root
  | .p0 a b c => []
noncomputable def step (J : Pt → Ans) : Pt → Ans
  | .p0 a b c => (bif (decide (c < (a.length : Int))) then (bif (decide ((0 : Int) ≤ c)) then (bif (decide (c < (a.length : Int))) then (bif ((MSig.at a (Int.toNat c)).fKey != b) then ret ((-1) : Int) else (bif (decide ((0 : Int) ≤ c)) then (bif (decide (c < (a.length : Int))) then (bif ((MSig.at a (Int.toNat c)).fTag != (IntKind.i64.wrap (b + 1))) then ret ((-1) : Int) else J (.p0 a (IntKind.i64.wrap ((IntKind.i64.wrap (b + 1)) + 1)) (IntKind.i64.wrap (c + 1)))) else none) else none)) else none) else none) else ret (b : Int))
noncomputable def start (J : Pt → Ans) (x0 : List (List L)) (x1 : Int) : Ans := J (.p0 x0 x1 0)
def live : Nat → Live := fun i => match i with | 2 => [(0, none), (1, none), (5, none)] | _ => []
def pats : List Pat := [.rd (.sl 248), .rd (.int .i64)]
def res : RP := .one (.rd (.int .i64))
noncomputable abbrev E : Env := { T := assoc Tab, G := conG [], nt := 31 }
set_option maxRecDepth 100000
theorem step_eq (I : Heads) (p : Pt) : enterC E live I (pid p) (bodyOf Try.f145) (stOf (live (pid p)) (pvs p) (phs p)) (doneK E Try.f145 res) = step (fun q => I (pid q) (pvs q) (phs q)) p := by
  cases p <;> kernel_rfl
theorem start_eq (I : Heads) (ls : List L) : runC E live I (bodyOf Try.f145) (initS pats ls) (doneK E Try.f145 res) = start (fun q => I (pid q) (pvs q) (phs q)) (ls.headD .hole).toSl ((dropT 1 ls).headD .hole).toInt := by kernel_rfl
theorem run_eq (n : Nat) (ls : List L) : runF E live Try.f145 res n (initS pats ls) = start (iter step n) (ls.headD .hole).toSl ((dropT 1 ls).headD .hole).toInt := runF_iter (id := pid) (vs := pvs) (hs := phs) (step := step) (start := fun J => start J (ls.headD .hole).toSl ((dropT 1 ls).headD .hole).toInt) step_eq (fun I => start_eq I ls) n
noncomputable def f (x : MSig) (k : Int) : Option Int := (bif (x.fKey != k) then none else (bif (x.fTag != (IntKind.i64.wrap (k + 1))) then none else (some (IntKind.i64.wrap ((IntKind.i64.wrap (k + 1)) + 1)))))
theorem f_I (x : MSig) (k k2 : Int) (hk : I64 k) (h : f x k = some k2) : I64 k2 := by
  unfold f at h
  have h := bif_some h
  have h := bif_some h
  injection h with h
  subst h
  exact (wrap_I64 _)
noncomputable def md (a0 : List MSig) (a1 : Int) : Int := heldM f a0 a1
def gd (a0 : List MSig) (a1 : Int) : Prop := I64 a1
def acc (ls : List L) : List (List L) × Int := ((ls.headD .hole).toSl, ((dropT 1 ls).headD .hole).toInt)
noncomputable def R : (List (List L) × Int) → Option Int := RR (p2 gd) (u2 md)
theorem R_eq {a0} {a1} (h : gd a0 a1) : R ((a0.map MSig.row), a1) = some (md a0 a1) := RR_eq (a := (a0, a1)) h
noncomputable def con : Con := CN pats res acc R
theorem okF (a0 : List MSig) (a1 : Int) (hg : gd a0 a1) (h0 : a0.length ≤ maxLen) : ∃ n, start (iter step n) (a0.map MSig.row) a1 = ret ((md a0 a1) : Int) := by
  unfold gd at hg
  show ∃ n, iter step n (Pt.p0 (a0.map MSig.row) a1 0) = _
  unfold md
  refine held_loop (f := f) (xs := a0) MSig.zero I64 f_I (pt := fun i k => Pt.p0 (a0.map MSig.row) k (i : Int)) (fun J i k hi hk => ?_) (fun J k => ?_) hg
  · simp only [step, S0, MSig.rs]
    refine yes_ret (lt_dec hi) ?_
    refine yes_ret zle_dec ?_
    refine yes_ret (lt_dec hi) ?_
    refine held_bif rfl ?_
    refine yes_ret zle_dec ?_
    refine yes_ret (lt_dec hi) ?_
    refine held_bif rfl ?_
    rw [wrap_succ hi h0]
    rfl
  · simp only [step, S0, MSig.rs]
    refine no_ret (by apply decide_eq_false; omega) ?_
    rfl
theorem valid_ : Valid Try.prog Ev 145 con := VV (run := fun n x => start (iter step n) x.1 x.2) mix tab_ok .nil Try.func145 (by kernel_rfl) run_eq (fun ls a hl e hg => okF a.1 a.2 hg (by have h : (ls.headD .hole).toSl.length ≤ maxLen := hl.1.len; have e : a.1.map MSig.row = (ls.headD .hole).toSl := (congrArg (fun x => x.1) e.symm); rw [← e] at h; simpa using h))
theorem i64 {a0 : List MSig} {a1 : Int} (h : I64 a1) : I64 (md a0 a1) := heldM_I f_I I64_neg h
theorem elh (x : MSig) (k : Int) (h0 : 0 ≤ k) (hb : k + (laws_markSigS.cnt x : Int) ≤ 4611686018427387904) : f (laws_markSigS.el x k).2 k = some (k + laws_markSigS.cnt x) := by
  simp only [laws_markSigS.cnt, Int.natCast_add] at hb ⊢
  simp (disch := omega) only [laws_markSigS.el, f, wi, bne_self_eq_false, beq_self_eq_true, ba_refl, Bool.not_true, cond_false, dec_neg]
  all_goals first | done | omega | (congr 1 <;> omega)
theorem mk (a0 : List MSig) (a1 : Int) (h0 : 0 ≤ a1) (hb : a1 + (laws_markSigS.sum a0 : Int) ≤ 4611686018427387904) : md (laws_markSigS.md a0 a1).2 a1 = a1 + laws_markSigS.sum a0 := held_mark laws_markSigS.elk elh a0 a1 h0 hb
end laws_heldSigS
/-! laws.heldSignedS -/
namespace laws_heldSignedS
set_option maxRecDepth 100000
set_option maxHeartbeats 8000000
inductive Pt where
  | p0 (a : List (List L)) (b : Int) (c : Int)
def pid : Pt → Nat
  | .p0 .. => 2
def pvs : Pt → List V
  | .p0 a b c => [.sl none 184 a, .int .i64 b, .int .i64 c]
def phs : Pt → List Root
  | .p0 a b c => []
noncomputable def step (J : Pt → Ans) : Pt → Ans
  | .p0 a b c => (bif (decide (c < (a.length : Int))) then (bif (decide ((0 : Int) ≤ c)) then (bif (decide (c < (a.length : Int))) then (bif ((RSigned.at a (Int.toNat c)).fHead.fZone != b) then ret ((-1) : Int) else (bif (decide ((0 : Int) ≤ c)) then (bif (decide (c < (a.length : Int))) then (bif ((RSigned.at a (Int.toNat c)).fHead.fEpoch != (IntKind.i64.wrap (b + 1))) then ret ((-1) : Int) else (bif (decide ((0 : Int) ≤ c)) then (bif (decide (c < (a.length : Int))) then (bif ((RSigned.at a (Int.toNat c)).fHead.fKind != (IntKind.i64.wrap ((IntKind.i64.wrap (b + 1)) + 1))) then ret ((-1) : Int) else (bif (decide ((0 : Int) ≤ c)) then (bif (decide (c < (a.length : Int))) then (bif ((RSigned.at a (Int.toNat c)).fHead.fTime != (IntKind.i64.wrap ((IntKind.i64.wrap ((IntKind.i64.wrap (b + 1)) + 1)) + 1))) then ret ((-1) : Int) else (bif (decide ((0 : Int) ≤ c)) then (bif (decide (c < (a.length : Int))) then (bif ((RSigned.at a (Int.toNat c)).fHead.fUntil != (IntKind.i64.wrap ((IntKind.i64.wrap ((IntKind.i64.wrap ((IntKind.i64.wrap (b + 1)) + 1)) + 1)) + 1))) then ret ((-1) : Int) else (bif (decide ((0 : Int) ≤ c)) then (bif (decide (c < (a.length : Int))) then (bif ((RSigned.at a (Int.toNat c)).fHead.fCount != (IntKind.i64.wrap ((IntKind.i64.wrap ((IntKind.i64.wrap ((IntKind.i64.wrap ((IntKind.i64.wrap (b + 1)) + 1)) + 1)) + 1)) + 1))) then ret ((-1) : Int) else (bif (decide ((0 : Int) ≤ c)) then (bif (decide (c < (a.length : Int))) then (bif ((RSigned.at a (Int.toNat c)).fHead.fRoot != (IntKind.i64.wrap ((IntKind.i64.wrap ((IntKind.i64.wrap ((IntKind.i64.wrap ((IntKind.i64.wrap ((IntKind.i64.wrap (b + 1)) + 1)) + 1)) + 1)) + 1)) + 1))) then ret ((-1) : Int) else (bif (decide ((0 : Int) ≤ c)) then (bif (decide (c < (a.length : Int))) then (bif ((RSigned.at a (Int.toNat c)).fHead.fPrev != (IntKind.i64.wrap ((IntKind.i64.wrap ((IntKind.i64.wrap ((IntKind.i64.wrap ((IntKind.i64.wrap ((IntKind.i64.wrap ((IntKind.i64.wrap (b + 1)) + 1)) + 1)) + 1)) + 1)) + 1)) + 1))) then ret ((-1) : Int) else (bif (decide ((0 : Int) ≤ c)) then (bif (decide (c < (a.length : Int))) then (call (laws_heldIntS.R ((RSigned.at a (Int.toNat c)).fHead.fKeys.fList, (IntKind.i64.wrap ((IntKind.i64.wrap ((IntKind.i64.wrap ((IntKind.i64.wrap ((IntKind.i64.wrap ((IntKind.i64.wrap ((IntKind.i64.wrap ((IntKind.i64.wrap (b + 1)) + 1)) + 1)) + 1)) + 1)) + 1)) + 1)) + 1)))) fun v1 => (bif (decide (v1 < 0)) then ret ((-1) : Int) else (bif (decide ((0 : Int) ≤ c)) then (bif (decide (c < (a.length : Int))) then (bif ((RSigned.at a (Int.toNat c)).fHead.fKeys.fNeed != v1) then ret ((-1) : Int) else (bif (decide ((0 : Int) ≤ c)) then (bif (decide (c < (a.length : Int))) then (call (laws_heldIntS.R ((RSigned.at a (Int.toNat c)).fHead.fHeirs.fList, (IntKind.i64.wrap (v1 + 1)))) fun v2 => (bif (decide (v2 < 0)) then ret ((-1) : Int) else (bif (decide ((0 : Int) ≤ c)) then (bif (decide (c < (a.length : Int))) then (bif ((RSigned.at a (Int.toNat c)).fHead.fHeirs.fNeed != v2) then ret ((-1) : Int) else (bif (decide ((0 : Int) ≤ c)) then (bif (decide (c < (a.length : Int))) then (bif ((RSigned.at a (Int.toNat c)).fHead.fWait != (IntKind.i64.wrap (v2 + 1))) then ret ((-1) : Int) else (bif (decide ((0 : Int) ≤ c)) then (bif (decide (c < (a.length : Int))) then (call (laws_heldIntS.R ((RSigned.at a (Int.toNat c)).fHead.fJudge.fList, (IntKind.i64.wrap ((IntKind.i64.wrap (v2 + 1)) + 1)))) fun v3 => (bif (decide (v3 < 0)) then ret ((-1) : Int) else (bif (decide ((0 : Int) ≤ c)) then (bif (decide (c < (a.length : Int))) then (bif ((RSigned.at a (Int.toNat c)).fHead.fJudge.fNeed != v3) then ret ((-1) : Int) else (bif (decide ((0 : Int) ≤ c)) then (bif (decide (c < (a.length : Int))) then (bif (!((RSigned.at a (Int.toNat c)).fHead.fFrozen == ((Int.tmod (IntKind.i64.wrap (v3 + 1)) 3) == 0))) then ret ((-1) : Int) else (bif (decide ((0 : Int) ≤ c)) then (bif (decide (c < (a.length : Int))) then (call (laws_heldSigS.R ((RSigned.at a (Int.toNat c)).fSigs, (IntKind.i64.wrap ((IntKind.i64.wrap (v3 + 1)) + 1)))) fun v4 => (bif (decide (v4 < 0)) then ret ((-1) : Int) else J (.p0 a v4 (IntKind.i64.wrap (c + 1))))) else none) else none)) else none) else none)) else none) else none))) else none) else none)) else none) else none)) else none) else none))) else none) else none)) else none) else none))) else none) else none)) else none) else none)) else none) else none)) else none) else none)) else none) else none)) else none) else none)) else none) else none)) else none) else none)) else none) else none) else ret (b : Int))
noncomputable def start (J : Pt → Ans) (x0 : List (List L)) (x1 : Int) : Ans := J (.p0 x0 x1 0)
def live : Nat → Live := fun i => match i with | 2 => [(0, none), (1, none), (5, none)] | _ => []
def pats : List Pat := [.rd (.sl 184), .rd (.int .i64)]
def res : RP := .one (.rd (.int .i64))
noncomputable abbrev E : Env := { T := assoc Tab, G := conG [(144, laws_heldIntS.con), (145, laws_heldSigS.con)], nt := 190 }
set_option maxRecDepth 100000
theorem step_eq (I : Heads) (p : Pt) : enterC E live I (pid p) (bodyOf Try.f60) (stOf (live (pid p)) (pvs p) (phs p)) (doneK E Try.f60 res) = step (fun q => I (pid q) (pvs q) (phs q)) p := by
  cases p <;> kernel_rfl
theorem start_eq (I : Heads) (ls : List L) : runC E live I (bodyOf Try.f60) (initS pats ls) (doneK E Try.f60 res) = start (fun q => I (pid q) (pvs q) (phs q)) (ls.headD .hole).toSl ((dropT 1 ls).headD .hole).toInt := by kernel_rfl
theorem run_eq (n : Nat) (ls : List L) : runF E live Try.f60 res n (initS pats ls) = start (iter step n) (ls.headD .hole).toSl ((dropT 1 ls).headD .hole).toInt := runF_iter (id := pid) (vs := pvs) (hs := phs) (step := step) (start := fun J => start J (ls.headD .hole).toSl ((dropT 1 ls).headD .hole).toInt) step_eq (fun I => start_eq I ls) n
noncomputable def e1 (x : MSigned) (k : Int) := laws_heldIntS.md (((x.fHead).fKeys).fList) (IntKind.i64.wrap ((IntKind.i64.wrap ((IntKind.i64.wrap ((IntKind.i64.wrap ((IntKind.i64.wrap ((IntKind.i64.wrap ((IntKind.i64.wrap ((IntKind.i64.wrap (k + 1)) + 1)) + 1)) + 1)) + 1)) + 1)) + 1)) + 1))
noncomputable def e2 (x : MSigned) (k : Int) := laws_heldIntS.md (((x.fHead).fHeirs).fList) (IntKind.i64.wrap ((e1 x k) + 1))
noncomputable def e3 (x : MSigned) (k : Int) := laws_heldIntS.md (((x.fHead).fJudge).fList) (IntKind.i64.wrap ((IntKind.i64.wrap ((e2 x k) + 1)) + 1))
noncomputable def e4 (x : MSigned) (k : Int) := laws_heldSigS.md x.fSigs (IntKind.i64.wrap ((IntKind.i64.wrap ((e3 x k) + 1)) + 1))
noncomputable def f (x : MSigned) (k : Int) : Option Int := (bif ((x.fHead).fZone != k) then none else (bif ((x.fHead).fEpoch != (IntKind.i64.wrap (k + 1))) then none else (bif ((x.fHead).fKind != (IntKind.i64.wrap ((IntKind.i64.wrap (k + 1)) + 1))) then none else (bif ((x.fHead).fTime != (IntKind.i64.wrap ((IntKind.i64.wrap ((IntKind.i64.wrap (k + 1)) + 1)) + 1))) then none else (bif ((x.fHead).fUntil != (IntKind.i64.wrap ((IntKind.i64.wrap ((IntKind.i64.wrap ((IntKind.i64.wrap (k + 1)) + 1)) + 1)) + 1))) then none else (bif ((x.fHead).fCount != (IntKind.i64.wrap ((IntKind.i64.wrap ((IntKind.i64.wrap ((IntKind.i64.wrap ((IntKind.i64.wrap (k + 1)) + 1)) + 1)) + 1)) + 1))) then none else (bif ((x.fHead).fRoot != (IntKind.i64.wrap ((IntKind.i64.wrap ((IntKind.i64.wrap ((IntKind.i64.wrap ((IntKind.i64.wrap ((IntKind.i64.wrap (k + 1)) + 1)) + 1)) + 1)) + 1)) + 1))) then none else (bif ((x.fHead).fPrev != (IntKind.i64.wrap ((IntKind.i64.wrap ((IntKind.i64.wrap ((IntKind.i64.wrap ((IntKind.i64.wrap ((IntKind.i64.wrap ((IntKind.i64.wrap (k + 1)) + 1)) + 1)) + 1)) + 1)) + 1)) + 1))) then none else (bif (decide ((e1 x k) < 0)) then none else (bif (((x.fHead).fKeys).fNeed != (e1 x k)) then none else (bif (decide ((e2 x k) < 0)) then none else (bif (((x.fHead).fHeirs).fNeed != (e2 x k)) then none else (bif ((x.fHead).fWait != (IntKind.i64.wrap ((e2 x k) + 1))) then none else (bif (decide ((e3 x k) < 0)) then none else (bif (((x.fHead).fJudge).fNeed != (e3 x k)) then none else (bif (!((x.fHead).fFrozen == ((Int.tmod (IntKind.i64.wrap ((e3 x k) + 1)) 3) == 0))) then none else (bif (decide ((e4 x k) < 0)) then none else (some (e4 x k)))))))))))))))))))
theorem f_I (x : MSigned) (k k2 : Int) (hk : I64 k) (h : f x k = some k2) : I64 k2 := by
  unfold f at h
  have h := bif_some h
  have h := bif_some h
  have h := bif_some h
  have h := bif_some h
  have h := bif_some h
  have h := bif_some h
  have h := bif_some h
  have h := bif_some h
  have h := bif_some h
  have h := bif_some h
  have h := bif_some h
  have h := bif_some h
  have h := bif_some h
  have h := bif_some h
  have h := bif_some h
  have h := bif_some h
  have h := bif_some h
  injection h with h
  subst h
  exact (laws_heldSigS.i64 (wrap_I64 _))
noncomputable def md (a0 : List MSigned) (a1 : Int) : Int := heldM f a0 a1
def gd (a0 : List MSigned) (a1 : Int) : Prop := I64 a1
def acc (ls : List L) : List (List L) × Int := ((ls.headD .hole).toSl, ((dropT 1 ls).headD .hole).toInt)
noncomputable def R : (List (List L) × Int) → Option Int := RR (p2 gd) (u2 md)
theorem R_eq {a0} {a1} (h : gd a0 a1) : R ((a0.map MSigned.row), a1) = some (md a0 a1) := RR_eq (a := (a0, a1)) h
noncomputable def con : Con := CN pats res acc R
theorem okF (a0 : List MSigned) (a1 : Int) (hg : gd a0 a1) (h0 : a0.length ≤ maxLen) : ∃ n, start (iter step n) (a0.map MSigned.row) a1 = ret ((md a0 a1) : Int) := by
  unfold gd at hg
  show ∃ n, iter step n (Pt.p0 (a0.map MSigned.row) a1 0) = _
  unfold md
  refine held_loop (f := f) (xs := a0) MSigned.zero I64 f_I (pt := fun i k => Pt.p0 (a0.map MSigned.row) k (i : Int)) (fun J i k hi hk => ?_) (fun J k => ?_) hg
  · simp only [step, S0, MKeys.rs, MHead.rs, MSigned.rs]
    refine yes_ret (lt_dec hi) ?_
    refine yes_ret zle_dec ?_
    refine yes_ret (lt_dec hi) ?_
    refine held_bif rfl ?_
    refine yes_ret zle_dec ?_
    refine yes_ret (lt_dec hi) ?_
    refine held_bif rfl ?_
    refine yes_ret zle_dec ?_
    refine yes_ret (lt_dec hi) ?_
    refine held_bif rfl ?_
    refine yes_ret zle_dec ?_
    refine yes_ret (lt_dec hi) ?_
    refine held_bif rfl ?_
    refine yes_ret zle_dec ?_
    refine yes_ret (lt_dec hi) ?_
    refine held_bif rfl ?_
    refine yes_ret zle_dec ?_
    refine yes_ret (lt_dec hi) ?_
    refine held_bif rfl ?_
    refine yes_ret zle_dec ?_
    refine yes_ret (lt_dec hi) ?_
    refine held_bif rfl ?_
    refine yes_ret zle_dec ?_
    refine yes_ret (lt_dec hi) ?_
    refine held_bif rfl ?_
    refine yes_ret zle_dec ?_
    refine yes_ret (lt_dec hi) ?_
    refine call_to (e1 (a0.getD i MSigned.zero) k) (laws_heldIntS.R_eq (a0 := (((a0.getD i MSigned.zero).fHead).fKeys).fList) (a1 := IntKind.i64.wrap ((IntKind.i64.wrap ((IntKind.i64.wrap ((IntKind.i64.wrap ((IntKind.i64.wrap ((IntKind.i64.wrap ((IntKind.i64.wrap ((IntKind.i64.wrap (k + 1)) + 1)) + 1)) + 1)) + 1)) + 1)) + 1)) + 1)) (wrap_I64 _)) ?_
    refine held_bif rfl ?_
    refine yes_ret zle_dec ?_
    refine yes_ret (lt_dec hi) ?_
    refine held_bif rfl ?_
    refine yes_ret zle_dec ?_
    refine yes_ret (lt_dec hi) ?_
    refine call_to (e2 (a0.getD i MSigned.zero) k) (laws_heldIntS.R_eq (a0 := (((a0.getD i MSigned.zero).fHead).fHeirs).fList) (a1 := IntKind.i64.wrap ((e1 (a0.getD i MSigned.zero) k) + 1)) (wrap_I64 _)) ?_
    refine held_bif rfl ?_
    refine yes_ret zle_dec ?_
    refine yes_ret (lt_dec hi) ?_
    refine held_bif rfl ?_
    refine yes_ret zle_dec ?_
    refine yes_ret (lt_dec hi) ?_
    refine held_bif rfl ?_
    refine yes_ret zle_dec ?_
    refine yes_ret (lt_dec hi) ?_
    refine call_to (e3 (a0.getD i MSigned.zero) k) (laws_heldIntS.R_eq (a0 := (((a0.getD i MSigned.zero).fHead).fJudge).fList) (a1 := IntKind.i64.wrap ((IntKind.i64.wrap ((e2 (a0.getD i MSigned.zero) k) + 1)) + 1)) (wrap_I64 _)) ?_
    refine held_bif rfl ?_
    refine yes_ret zle_dec ?_
    refine yes_ret (lt_dec hi) ?_
    refine held_bif rfl ?_
    refine yes_ret zle_dec ?_
    refine yes_ret (lt_dec hi) ?_
    refine held_bif rfl ?_
    refine yes_ret zle_dec ?_
    refine yes_ret (lt_dec hi) ?_
    refine call_to (e4 (a0.getD i MSigned.zero) k) (laws_heldSigS.R_eq (a0 := (a0.getD i MSigned.zero).fSigs) (a1 := IntKind.i64.wrap ((IntKind.i64.wrap ((e3 (a0.getD i MSigned.zero) k) + 1)) + 1)) (wrap_I64 _)) ?_
    refine held_bif rfl ?_
    rw [wrap_succ hi h0]
    rfl
  · simp only [step, S0, MKeys.rs, MHead.rs, MSigned.rs]
    refine no_ret (by apply decide_eq_false; omega) ?_
    rfl
theorem valid_ : Valid Try.prog Ev 60 con := VV (run := fun n x => start (iter step n) x.1 x.2) mix tab_ok (.cons laws_heldIntS.valid_ (.cons laws_heldSigS.valid_ .nil)) Try.func60 (by kernel_rfl) run_eq (fun ls a hl e hg => okF a.1 a.2 hg (by have h : (ls.headD .hole).toSl.length ≤ maxLen := hl.1.len; have e : a.1.map MSigned.row = (ls.headD .hole).toSl := (congrArg (fun x => x.1) e.symm); rw [← e] at h; simpa using h))
theorem i64 {a0 : List MSigned} {a1 : Int} (h : I64 a1) : I64 (md a0 a1) := heldM_I f_I I64_neg h
theorem elh (x : MSigned) (k : Int) (h0 : 0 ≤ k) (hb : k + (laws_markSignedS.cnt x : Int) ≤ 4611686018427387904) : f (laws_markSignedS.el x k).2 k = some (k + laws_markSignedS.cnt x) := by
  simp only [laws_markSignedS.cnt, Int.natCast_add] at hb ⊢
  simp (disch := omega) only [laws_markSignedS.el, f, laws_markSignedS.e1, laws_markSignedS.e2, laws_markSignedS.e3, laws_markSignedS.e4, e1, e2, e3, e4, wi, laws_markIntS.kk, laws_heldIntS.mk, laws_markSigS.kk, laws_heldSigS.mk, bne_self_eq_false, beq_self_eq_true, ba_refl, Bool.not_true, cond_false, dec_neg]
  all_goals first | done | omega | (congr 1 <;> omega)
theorem mk (a0 : List MSigned) (a1 : Int) (h0 : 0 ≤ a1) (hb : a1 + (laws_markSignedS.sum a0 : Int) ≤ 4611686018427387904) : md (laws_markSignedS.md a0 a1).2 a1 = a1 + laws_markSignedS.sum a0 := held_mark laws_markSignedS.elk elh a0 a1 h0 hb
end laws_heldSignedS
/-! laws.heldStringS -/
namespace laws_heldStringS
set_option maxRecDepth 100000
set_option maxHeartbeats 8000000
inductive Pt where
  | p0 (a : List (List L)) (b : Int) (c : Int)
def pid : Pt → Nat
  | .p0 .. => 2
def pvs : Pt → List V
  | .p0 a b c => [.sl none 9 a, .int .i64 b, .int .i64 c]
def phs : Pt → List Root
  | .p0 a b c => []
noncomputable def step (J : Pt → Ans) : Pt → Ans
  | .p0 a b c => (bif (decide (c < (a.length : Int))) then (bif (decide ((0 : Int) ≤ c)) then (bif (decide (c < (a.length : Int))) then (call (laws_markText.R b) fun v1 => (bif (!((sAt a (Int.toNat c)) == v1)) then ret ((-1) : Int) else J (.p0 a (IntKind.i64.wrap (b + 1)) (IntKind.i64.wrap (c + 1))))) else none) else none) else ret (b : Int))
noncomputable def start (J : Pt → Ans) (x0 : List (List L)) (x1 : Int) : Ans := J (.p0 x0 x1 0)
def live : Nat → Live := fun i => match i with | 2 => [(0, none), (1, none), (5, none)] | _ => []
def pats : List Pat := [.rd (.sl 9), .rd (.int .i64)]
def res : RP := .one (.rd (.int .i64))
noncomputable abbrev E : Env := { T := assoc Tab, G := conG [(114, laws_markText.con)], nt := 22 }
set_option maxRecDepth 100000
theorem step_eq (I : Heads) (p : Pt) : enterC E live I (pid p) (bodyOf Try.f122) (stOf (live (pid p)) (pvs p) (phs p)) (doneK E Try.f122 res) = step (fun q => I (pid q) (pvs q) (phs q)) p := by
  cases p <;> kernel_rfl
theorem start_eq (I : Heads) (ls : List L) : runC E live I (bodyOf Try.f122) (initS pats ls) (doneK E Try.f122 res) = start (fun q => I (pid q) (pvs q) (phs q)) (ls.headD .hole).toSl ((dropT 1 ls).headD .hole).toInt := by kernel_rfl
theorem run_eq (n : Nat) (ls : List L) : runF E live Try.f122 res n (initS pats ls) = start (iter step n) (ls.headD .hole).toSl ((dropT 1 ls).headD .hole).toInt := runF_iter (id := pid) (vs := pvs) (hs := phs) (step := step) (start := fun J => start J (ls.headD .hole).toSl ((dropT 1 ls).headD .hole).toInt) step_eq (fun I => start_eq I ls) n
noncomputable def f (x : ByteArray) (k : Int) : Option Int := (bif (!(x == (laws_markText.md k))) then none else (some (IntKind.i64.wrap (k + 1))))
theorem f_I (x : ByteArray) (k k2 : Int) (hk : I64 k) (h : f x k = some k2) : I64 k2 := by
  unfold f at h
  have h := bif_some h
  injection h with h
  subst h
  exact (wrap_I64 _)
noncomputable def md (a0 : List ByteArray) (a1 : Int) : Int := heldM f a0 a1
def gd (a0 : List ByteArray) (a1 : Int) : Prop := I64 a1
def acc (ls : List L) : List (List L) × Int := ((ls.headD .hole).toSl, ((dropT 1 ls).headD .hole).toInt)
noncomputable def R : (List (List L) × Int) → Option Int := RR (p2 gd) (u2 md)
theorem R_eq {a0} {a1} (h : gd a0 a1) : R ((a0.map sRow), a1) = some (md a0 a1) := RR_eq (a := (a0, a1)) h
noncomputable def con : Con := CN pats res acc R
theorem okF (a0 : List ByteArray) (a1 : Int) (hg : gd a0 a1) (h0 : a0.length ≤ maxLen) : ∃ n, start (iter step n) (a0.map sRow) a1 = ret ((md a0 a1) : Int) := by
  unfold gd at hg
  show ∃ n, iter step n (Pt.p0 (a0.map sRow) a1 0) = _
  unfold md
  refine held_loop (f := f) (xs := a0) ⟨#[]⟩ I64 f_I (pt := fun i k => Pt.p0 (a0.map sRow) k (i : Int)) (fun J i k hi hk => ?_) (fun J k => ?_) hg
  · simp only [step, S0]
    refine yes_ret (lt_dec hi) ?_
    refine yes_ret zle_dec ?_
    refine yes_ret (lt_dec hi) ?_
    refine call_to (laws_markText.md k) (laws_markText.R_eq (a0 := k) hk) ?_
    refine held_bif rfl ?_
    rw [wrap_succ hi h0]
    rfl
  · simp only [step, S0]
    refine no_ret (by apply decide_eq_false; omega) ?_
    rfl
theorem valid_ : Valid Try.prog Ev 122 con := VV (run := fun n x => start (iter step n) x.1 x.2) mix tab_ok (.cons laws_markText.valid_ .nil) Try.func122 (by kernel_rfl) run_eq (fun ls a hl e hg => okF a.1 a.2 hg (by have h : (ls.headD .hole).toSl.length ≤ maxLen := hl.1.len; have e : a.1.map sRow = (ls.headD .hole).toSl := (congrArg (fun x => x.1) e.symm); rw [← e] at h; simpa using h))
theorem i64 {a0 : List ByteArray} {a1 : Int} (h : I64 a1) : I64 (md a0 a1) := heldM_I f_I I64_neg h
theorem elh (x : ByteArray) (k : Int) (h0 : 0 ≤ k) (hb : k + (laws_markStringS.cnt x : Int) ≤ 4611686018427387904) : f (laws_markStringS.el x k).2 k = some (k + laws_markStringS.cnt x) := by
  simp only [laws_markStringS.cnt, Int.natCast_add] at hb ⊢
  simp (disch := omega) only [laws_markStringS.el, f, wi, bne_self_eq_false, beq_self_eq_true, ba_refl, Bool.not_true, cond_false, dec_neg]
  all_goals first | done | omega | (congr 1 <;> omega)
theorem mk (a0 : List ByteArray) (a1 : Int) (h0 : 0 ≤ a1) (hb : a1 + (laws_markStringS.sum a0 : Int) ≤ 4611686018427387904) : md (laws_markStringS.md a0 a1).2 a1 = a1 + laws_markStringS.sum a0 := held_mark laws_markStringS.elk elh a0 a1 h0 hb
end laws_heldStringS
/-! laws.heldEntry -/
namespace laws_heldEntry
set_option maxRecDepth 100000
set_option maxHeartbeats 8000000
noncomputable def F (x0 : REntry) (x1 : Int) : Ans := (call (laws_heldStringS.R (x0.fPath, x1)) fun v1 => (bif (decide (v1 < 0)) then ret ((-1) : Int) else ret (v1 : Int)))
def pats : List Pat := [.agg [.str, .int .i64, .int .i64, .sl 9], .rd (.int .i64)]
def res : RP := .one (.rd (.int .i64))
noncomputable abbrev E : Env := { T := assoc Tab, G := conG [(122, laws_heldStringS.con)], nt := 12 }
set_option maxRecDepth 100000
theorem run_eq (n : Nat) (ls : List L) : runF E (fun _ => []) Try.f46 res n (initS pats ls) = F (REntry.dec ls) ((dropT 4 ls).headD .hole).toInt := by kernel_rfl
noncomputable def e1 (x : MEntry) (k : Int) := laws_heldStringS.md x.fPath k
noncomputable def f (x : MEntry) (k : Int) : Option Int := (bif (decide ((e1 x k) < 0)) then none else (some ((e1 x k) : Int)))
noncomputable def md (a0 : MEntry) (a1 : Int) : Int := heldO (f a0 a1)
def gd (a0 : MEntry) (a1 : Int) : Prop := I64 a1
def acc (ls : List L) : REntry × Int := ((REntry.dec ls), ((dropT 4 ls).headD .hole).toInt)
noncomputable def R : (REntry × Int) → Option Int := RR (p2 gd) (u2 md)
theorem R_eq {a0} {a1} (h : gd a0 a1) : R ((MEntry.r a0), a1) = some (md a0 a1) := RR_eq (a := (a0, a1)) h
noncomputable def con : Con := CN pats res acc R
theorem okF (a0 : MEntry) (a1 : Int) (hg : gd a0 a1) : F (MEntry.r a0) a1 = ret ((md a0 a1) : Int) := by
  unfold gd at hg
  simp only [F, S0, MEntry.rs]
  unfold md
  refine call_to (e1 a0 a1) (laws_heldStringS.R_eq (a0 := a0.fPath) (a1 := a1) hg) ?_
  refine held_bif_ret rfl ?_
  first | rfl | (simp only [S0, MEntry.rs]; rfl)
theorem valid_ : Valid Try.prog Ev 46 con := VV (run := fun _ x => F x.1 x.2) mix tab_ok (.cons laws_heldStringS.valid_ .nil) Try.func46 (by kernel_rfl) run_eq (fun _ a _ _ hg => ⟨0, okF a.1 a.2 hg⟩)
theorem i64 {a0 : MEntry} {a1 : Int} (hk : I64 a1) : I64 (md a0 a1) := by
  unfold md
  cases h : f a0 a1 with
  | none => exact I64_neg
  | some k2 =>
    unfold f at h
    have h := bif_some h
    injection h with h
    subst h
    exact (laws_heldStringS.i64 hk)
theorem mk (x : MEntry) (k : Int) (h0 : 0 ≤ k) (hb : k + (laws_markEntry.sum x : Int) ≤ 4611686018427387904) : md (laws_markEntry.upd x k) k = k + laws_markEntry.sum x := by
  simp only [laws_markEntry.sum, Int.natCast_add] at hb ⊢
  simp (disch := omega) only [laws_markEntry.md, laws_markEntry.upd, md, f, heldO, laws_markEntry.e1, e1, wi, laws_markStringS.kk, laws_heldStringS.mk, cond_false, dec_neg]
  all_goals first | done | omega
end laws_heldEntry
/-! laws.heldProof -/
namespace laws_heldProof
set_option maxRecDepth 100000
set_option maxHeartbeats 8000000
noncomputable def F (x0 : RProof) (x1 : Int) : Ans := (call (laws_heldIntS.R (x0.fPath, x1)) fun v1 => (bif (decide (v1 < 0)) then ret ((-1) : Int) else ret (v1 : Int)))
def pats : List Pat := [.agg [.int .i64, .sl 3], .rd (.int .i64)]
def res : RP := .one (.rd (.int .i64))
noncomputable abbrev E : Env := { T := assoc Tab, G := conG [(144, laws_heldIntS.con)], nt := 12 }
set_option maxRecDepth 100000
theorem run_eq (n : Nat) (ls : List L) : runF E (fun _ => []) Try.f179 res n (initS pats ls) = F (RProof.dec ls) ((dropT 2 ls).headD .hole).toInt := by kernel_rfl
noncomputable def e1 (x : MProof) (k : Int) := laws_heldIntS.md x.fPath k
noncomputable def f (x : MProof) (k : Int) : Option Int := (bif (decide ((e1 x k) < 0)) then none else (some ((e1 x k) : Int)))
noncomputable def md (a0 : MProof) (a1 : Int) : Int := heldO (f a0 a1)
def gd (a0 : MProof) (a1 : Int) : Prop := I64 a1
def acc (ls : List L) : RProof × Int := ((RProof.dec ls), ((dropT 2 ls).headD .hole).toInt)
noncomputable def R : (RProof × Int) → Option Int := RR (p2 gd) (u2 md)
theorem R_eq {a0} {a1} (h : gd a0 a1) : R ((MProof.r a0), a1) = some (md a0 a1) := RR_eq (a := (a0, a1)) h
noncomputable def con : Con := CN pats res acc R
theorem okF (a0 : MProof) (a1 : Int) (hg : gd a0 a1) : F (MProof.r a0) a1 = ret ((md a0 a1) : Int) := by
  unfold gd at hg
  simp only [F, S0, MProof.rs]
  unfold md
  refine call_to (e1 a0 a1) (laws_heldIntS.R_eq (a0 := a0.fPath) (a1 := a1) hg) ?_
  refine held_bif_ret rfl ?_
  first | rfl | (simp only [S0, MProof.rs]; rfl)
theorem valid_ : Valid Try.prog Ev 179 con := VV (run := fun _ x => F x.1 x.2) mix tab_ok (.cons laws_heldIntS.valid_ .nil) Try.func179 (by kernel_rfl) run_eq (fun _ a _ _ hg => ⟨0, okF a.1 a.2 hg⟩)
theorem i64 {a0 : MProof} {a1 : Int} (hk : I64 a1) : I64 (md a0 a1) := by
  unfold md
  cases h : f a0 a1 with
  | none => exact I64_neg
  | some k2 =>
    unfold f at h
    have h := bif_some h
    injection h with h
    subst h
    exact (laws_heldIntS.i64 hk)
theorem mk (x : MProof) (k : Int) (h0 : 0 ≤ k) (hb : k + (laws_markProof.sum x : Int) ≤ 4611686018427387904) : md (laws_markProof.upd x k) k = k + laws_markProof.sum x := by
  simp only [laws_markProof.sum, Int.natCast_add] at hb ⊢
  simp (disch := omega) only [laws_markProof.md, laws_markProof.upd, md, f, heldO, laws_markProof.e1, e1, wi, laws_markIntS.kk, laws_heldIntS.mk, cond_false, dec_neg]
  all_goals first | done | omega
end laws_heldProof
/-! laws.heldGap -/
namespace laws_heldGap
set_option maxRecDepth 100000
set_option maxHeartbeats 8000000
noncomputable def F (x0 : RGap) (x1 : Int) : Ans := (call (laws_heldEntry.R (x0.fBefore, x1)) fun v1 => (bif (decide (v1 < 0)) then ret ((-1) : Int) else (call (laws_heldEntry.R (x0.fAfter, v1)) fun v2 => (bif (decide (v2 < 0)) then ret ((-1) : Int) else (call (laws_heldProof.R (x0.fLeft, v2)) fun v3 => (bif (decide (v3 < 0)) then ret ((-1) : Int) else (call (laws_heldProof.R (x0.fRight, v3)) fun v4 => (bif (decide (v4 < 0)) then ret ((-1) : Int) else ret (v4 : Int)))))))))
def pats : List Pat := [.agg [.int .i64, .str, .int .i64, .int .i64, .sl 9, .str, .int .i64, .int .i64, .sl 9, .int .i64, .sl 3, .int .i64, .sl 3], .rd (.int .i64)]
def res : RP := .one (.rd (.int .i64))
noncomputable abbrev E : Env := { T := assoc Tab, G := conG [(46, laws_heldEntry.con), (179, laws_heldProof.con)], nt := 30 }
set_option maxRecDepth 100000
theorem run_eq (n : Nat) (ls : List L) : runF E (fun _ => []) Try.f180 res n (initS pats ls) = F (RGap.dec ls) ((dropT 13 ls).headD .hole).toInt := by kernel_rfl
noncomputable def e1 (x : MGap) (k : Int) := laws_heldEntry.md x.fBefore k
noncomputable def e2 (x : MGap) (k : Int) := laws_heldEntry.md x.fAfter (e1 x k)
noncomputable def e3 (x : MGap) (k : Int) := laws_heldProof.md x.fLeft (e2 x k)
noncomputable def e4 (x : MGap) (k : Int) := laws_heldProof.md x.fRight (e3 x k)
noncomputable def f (x : MGap) (k : Int) : Option Int := (bif (decide ((e1 x k) < 0)) then none else (bif (decide ((e2 x k) < 0)) then none else (bif (decide ((e3 x k) < 0)) then none else (bif (decide ((e4 x k) < 0)) then none else (some ((e4 x k) : Int))))))
noncomputable def md (a0 : MGap) (a1 : Int) : Int := heldO (f a0 a1)
def gd (a0 : MGap) (a1 : Int) : Prop := I64 a1
def acc (ls : List L) : RGap × Int := ((RGap.dec ls), ((dropT 13 ls).headD .hole).toInt)
noncomputable def R : (RGap × Int) → Option Int := RR (p2 gd) (u2 md)
theorem R_eq {a0} {a1} (h : gd a0 a1) : R ((MGap.r a0), a1) = some (md a0 a1) := RR_eq (a := (a0, a1)) h
noncomputable def con : Con := CN pats res acc R
theorem okF (a0 : MGap) (a1 : Int) (hg : gd a0 a1) : F (MGap.r a0) a1 = ret ((md a0 a1) : Int) := by
  unfold gd at hg
  simp only [F, S0, MGap.rs]
  unfold md
  refine call_to (e1 a0 a1) (laws_heldEntry.R_eq (a0 := a0.fBefore) (a1 := a1) hg) ?_
  refine held_bif_ret rfl ?_
  refine call_to (e2 a0 a1) (laws_heldEntry.R_eq (a0 := a0.fAfter) (a1 := e1 a0 a1) (laws_heldEntry.i64 hg)) ?_
  refine held_bif_ret rfl ?_
  refine call_to (e3 a0 a1) (laws_heldProof.R_eq (a0 := a0.fLeft) (a1 := e2 a0 a1) (laws_heldEntry.i64 (laws_heldEntry.i64 hg))) ?_
  refine held_bif_ret rfl ?_
  refine call_to (e4 a0 a1) (laws_heldProof.R_eq (a0 := a0.fRight) (a1 := e3 a0 a1) (laws_heldProof.i64 (laws_heldEntry.i64 (laws_heldEntry.i64 hg)))) ?_
  refine held_bif_ret rfl ?_
  first | rfl | (simp only [S0, MGap.rs]; rfl)
theorem valid_ : Valid Try.prog Ev 180 con := VV (run := fun _ x => F x.1 x.2) mix tab_ok (.cons laws_heldEntry.valid_ (.cons laws_heldProof.valid_ .nil)) Try.func180 (by kernel_rfl) run_eq (fun _ a _ _ hg => ⟨0, okF a.1 a.2 hg⟩)
theorem i64 {a0 : MGap} {a1 : Int} (hk : I64 a1) : I64 (md a0 a1) := by
  unfold md
  cases h : f a0 a1 with
  | none => exact I64_neg
  | some k2 =>
    unfold f at h
    have h := bif_some h
    have h := bif_some h
    have h := bif_some h
    have h := bif_some h
    injection h with h
    subst h
    exact (laws_heldProof.i64 (laws_heldProof.i64 (laws_heldEntry.i64 (laws_heldEntry.i64 hk))))
theorem mk (x : MGap) (k : Int) (h0 : 0 ≤ k) (hb : k + (laws_markGap.sum x : Int) ≤ 4611686018427387904) : md (laws_markGap.upd x k) k = k + laws_markGap.sum x := by
  simp only [laws_markGap.sum, Int.natCast_add] at hb ⊢
  have heldEntry_ := @laws_heldEntry.mk
  simp only [laws_markEntry.upd] at heldEntry_
  have heldProof_ := @laws_heldProof.mk
  simp only [laws_markProof.upd] at heldProof_
  simp (disch := omega) only [laws_markGap.md, laws_markGap.upd, md, f, heldO, laws_markGap.e1, laws_markGap.e2, laws_markGap.e3, laws_markGap.e4, e1, e2, e3, e4, wi, laws_markEntry.kk, heldEntry_, laws_markProof.kk, heldProof_, cond_false, dec_neg]
  all_goals first | done | omega
end laws_heldGap
/-! laws.heldAnswer -/
namespace laws_heldAnswer
set_option maxRecDepth 100000
set_option maxHeartbeats 8000000
noncomputable def F (x0 : RAnswer) (x1 : Int) : Ans := (call (laws_heldSignedS.R (x0.fChain, x1)) fun v1 => (bif (decide (v1 < 0)) then ret ((-1) : Int) else (call (laws_heldEntry.R (x0.fEntry, v1)) fun v2 => (bif (decide (v2 < 0)) then ret ((-1) : Int) else (call (laws_heldProof.R (x0.fProof, v2)) fun v3 => (bif (decide (v3 < 0)) then ret ((-1) : Int) else (call (laws_heldGap.R (x0.fGap, v3)) fun v4 => (bif (decide (v4 < 0)) then ret ((-1) : Int) else ret (v4 : Int)))))))))
def pats : List Pat := [.agg [.sl 184, .bool, .str, .int .i64, .int .i64, .sl 9, .int .i64, .sl 3, .int .i64, .str, .int .i64, .int .i64, .sl 9, .str, .int .i64, .int .i64, .sl 9, .int .i64, .sl 3, .int .i64, .sl 3], .rd (.int .i64)]
def res : RP := .one (.rd (.int .i64))
noncomputable abbrev E : Env := { T := assoc Tab, G := conG [(60, laws_heldSignedS.con), (46, laws_heldEntry.con), (179, laws_heldProof.con), (180, laws_heldGap.con)], nt := 30 }
set_option maxRecDepth 100000
theorem run_eq (n : Nat) (ls : List L) : runF E (fun _ => []) Try.f94 res n (initS pats ls) = F (RAnswer.dec ls) ((dropT 21 ls).headD .hole).toInt := by kernel_rfl
noncomputable def e1 (x : MAnswer) (k : Int) := laws_heldSignedS.md x.fChain k
noncomputable def e2 (x : MAnswer) (k : Int) := laws_heldEntry.md x.fEntry (e1 x k)
noncomputable def e3 (x : MAnswer) (k : Int) := laws_heldProof.md x.fProof (e2 x k)
noncomputable def e4 (x : MAnswer) (k : Int) := laws_heldGap.md x.fGap (e3 x k)
noncomputable def f (x : MAnswer) (k : Int) : Option Int := (bif (decide ((e1 x k) < 0)) then none else (bif (decide ((e2 x k) < 0)) then none else (bif (decide ((e3 x k) < 0)) then none else (bif (decide ((e4 x k) < 0)) then none else (some ((e4 x k) : Int))))))
noncomputable def md (a0 : MAnswer) (a1 : Int) : Int := heldO (f a0 a1)
def gd (a0 : MAnswer) (a1 : Int) : Prop := I64 a1
def acc (ls : List L) : RAnswer × Int := ((RAnswer.dec ls), ((dropT 21 ls).headD .hole).toInt)
noncomputable def R : (RAnswer × Int) → Option Int := RR (p2 gd) (u2 md)
theorem R_eq {a0} {a1} (h : gd a0 a1) : R ((MAnswer.r a0), a1) = some (md a0 a1) := RR_eq (a := (a0, a1)) h
noncomputable def con : Con := CN pats res acc R
theorem okF (a0 : MAnswer) (a1 : Int) (hg : gd a0 a1) : F (MAnswer.r a0) a1 = ret ((md a0 a1) : Int) := by
  unfold gd at hg
  simp only [F, S0, MAnswer.rs]
  unfold md
  refine call_to (e1 a0 a1) (laws_heldSignedS.R_eq (a0 := a0.fChain) (a1 := a1) hg) ?_
  refine held_bif_ret rfl ?_
  refine call_to (e2 a0 a1) (laws_heldEntry.R_eq (a0 := a0.fEntry) (a1 := e1 a0 a1) (laws_heldSignedS.i64 hg)) ?_
  refine held_bif_ret rfl ?_
  refine call_to (e3 a0 a1) (laws_heldProof.R_eq (a0 := a0.fProof) (a1 := e2 a0 a1) (laws_heldEntry.i64 (laws_heldSignedS.i64 hg))) ?_
  refine held_bif_ret rfl ?_
  refine call_to (e4 a0 a1) (laws_heldGap.R_eq (a0 := a0.fGap) (a1 := e3 a0 a1) (laws_heldProof.i64 (laws_heldEntry.i64 (laws_heldSignedS.i64 hg)))) ?_
  refine held_bif_ret rfl ?_
  first | rfl | (simp only [S0, MAnswer.rs]; rfl)
theorem valid_ : Valid Try.prog Ev 94 con := VV (run := fun _ x => F x.1 x.2) mix tab_ok (.cons laws_heldSignedS.valid_ (.cons laws_heldEntry.valid_ (.cons laws_heldProof.valid_ (.cons laws_heldGap.valid_ .nil)))) Try.func94 (by kernel_rfl) run_eq (fun _ a _ _ hg => ⟨0, okF a.1 a.2 hg⟩)
theorem i64 {a0 : MAnswer} {a1 : Int} (hk : I64 a1) : I64 (md a0 a1) := by
  unfold md
  cases h : f a0 a1 with
  | none => exact I64_neg
  | some k2 =>
    unfold f at h
    have h := bif_some h
    have h := bif_some h
    have h := bif_some h
    have h := bif_some h
    injection h with h
    subst h
    exact (laws_heldGap.i64 (laws_heldProof.i64 (laws_heldEntry.i64 (laws_heldSignedS.i64 hk))))
theorem mk (x : MAnswer) (k : Int) (h0 : 0 ≤ k) (hb : k + (laws_markAnswer.sum x : Int) ≤ 4611686018427387904) : md (laws_markAnswer.upd x k) k = k + laws_markAnswer.sum x := by
  simp only [laws_markAnswer.sum, Int.natCast_add] at hb ⊢
  have heldEntry_ := @laws_heldEntry.mk
  simp only [laws_markEntry.upd] at heldEntry_
  have heldProof_ := @laws_heldProof.mk
  simp only [laws_markProof.upd] at heldProof_
  have heldGap_ := @laws_heldGap.mk
  simp only [laws_markGap.upd] at heldGap_
  simp (disch := omega) only [laws_markAnswer.md, laws_markAnswer.upd, md, f, heldO, laws_markAnswer.e1, laws_markAnswer.e2, laws_markAnswer.e3, laws_markAnswer.e4, e1, e2, e3, e4, wi, laws_markSignedS.kk, laws_heldSignedS.mk, laws_markEntry.kk, heldEntry_, laws_markProof.kk, heldProof_, laws_markGap.kk, heldGap_, cond_false, dec_neg]
  all_goals first | done | omega
end laws_heldAnswer
/-! laws.FnExactFromCache -/
namespace laws_FnExactFromCache
noncomputable def F (x0 : RCache) (x1 : Int) (x2 : ByteArray) : Ans := (bif (decide ((x2.size : Int) > 1048576)) then ret (true : Bool) else (call (laws_szCache.R (x0, 1048576)) fun v1 => (bif (decide (v1 < 0)) then ret (true : Bool) else (call (laws_toCache.R x0) fun v2 => (call (spec_FromCache.R (v2, x1, x2)) fun v3 => (call (laws_toCache.R x0) fun v4 => (call (impl_FromCache.R (v4, x1, x2)) fun v5 => (call (laws_eqAnswer.R (v5, v3)) fun v6 => (bif (!v6) then ret (false : Bool) else (call (laws_toCache.R x0) fun v7 => (call (laws_eqCache.R (v4, v7)) fun v8 => (bif (!v8) then ret (false : Bool) else (call (laws_markCache.R (v4, 1)) fun v9 => (bif (decide (v9.1 < 0)) then ret (false : Bool) else (call (laws_eqAnswer.R (v5, v3)) fun v10 => (bif (!v10) then ret (false : Bool) else (call (laws_markAnswer.R (v5, 1)) fun v11 => (call (laws_heldAnswer.R ((⟨v11.2.1, v5.fFound, (⟨v5.fEntry.fLabel, v5.fEntry.fKind, v5.fEntry.fValue, v11.2.2.1⟩ : REntry), (⟨v5.fProof.fAt, v11.2.2.2.1⟩ : RProof), (⟨v5.fGap.fAt, (⟨v5.fGap.fBefore.fLabel, v5.fGap.fBefore.fKind, v5.fGap.fBefore.fValue, v11.2.2.2.2.1⟩ : REntry), (⟨v5.fGap.fAfter.fLabel, v5.fGap.fAfter.fKind, v5.fGap.fAfter.fValue, v11.2.2.2.2.2.1⟩ : REntry), (⟨v5.fGap.fLeft.fAt, v11.2.2.2.2.2.2.1⟩ : RProof), (⟨v5.fGap.fRight.fAt, v11.2.2.2.2.2.2.2⟩ : RProof)⟩ : RGap)⟩ : RAnswer), 1)) fun v12 => (bif (decide (v12 < 0)) then ret (false : Bool) else (bif (v12 != v11.1) then ret (false : Bool) else (call (laws_toCache.R x0) fun v13 => (call (impl_FromCache.R (v13, x1, x2)) fun v14 => (call (laws_eqAnswer.R (v14, v3)) fun v15 => (bif (!v15) then ret (false : Bool) else (call (laws_heldAnswer.R ((⟨v11.2.1, v5.fFound, (⟨v5.fEntry.fLabel, v5.fEntry.fKind, v5.fEntry.fValue, v11.2.2.1⟩ : REntry), (⟨v5.fProof.fAt, v11.2.2.2.1⟩ : RProof), (⟨v5.fGap.fAt, (⟨v5.fGap.fBefore.fLabel, v5.fGap.fBefore.fKind, v5.fGap.fBefore.fValue, v11.2.2.2.2.1⟩ : REntry), (⟨v5.fGap.fAfter.fLabel, v5.fGap.fAfter.fKind, v5.fGap.fAfter.fValue, v11.2.2.2.2.2.1⟩ : REntry), (⟨v5.fGap.fLeft.fAt, v11.2.2.2.2.2.2.1⟩ : RProof), (⟨v5.fGap.fRight.fAt, v11.2.2.2.2.2.2.2⟩ : RProof)⟩ : RGap)⟩ : RAnswer), 1)) fun v16 => (bif (decide (v16 < 0)) then ret (false : Bool) else (bif (v16 != v11.1) then ret (false : Bool) else ret (true : Bool))))))))))))))))))))))))))))
def pats : List Pat := [.agg [.sl 263], .rd (.int .i64), .rd (.str)]
def res : RP := .one (.rd (.bool))
noncomputable abbrev E : Env := { T := assoc Tab, G := conG [(86, laws_szCache.con), (88, laws_toCache.con), (87, spec_FromCache.con), (89, impl_FromCache.con), (90, laws_eqAnswer.con), (91, laws_eqCache.con), (94, laws_heldAnswer.con)], nt := 82, M := conM [(92, laws_markCache.con), (93, laws_markAnswer.con)] }
set_option maxRecDepth 100000
theorem run_eq (n : Nat) (ls : List L) : runF E (fun _ => []) Try.f14 res n (initS pats ls) = F (RCache.dec ls) ((dropT 1 ls).headD .hole).toInt ((dropT 2 ls).headD .hole).toStr := by kernel_rfl
noncomputable def md (a0 : MCache) (a1 : Int) (a2 : ByteArray) : Bool := true
def gd (a0 : MCache) (a1 : Int) (a2 : ByteArray) : Prop := (MCache.Sm maxLen a0) ∧ (a2.size ≤ maxLen)
def acc (ls : List L) : RCache × Int × ByteArray := ((RCache.dec ls), ((dropT 1 ls).headD .hole).toInt, ((dropT 2 ls).headD .hole).toStr)
noncomputable def R : (RCache × Int × ByteArray) → Option Bool := RR (p3 gd) (u3 md)
theorem R_eq {a0} {a1} {a2} (h : gd a0 a1 a2) : R ((MCache.r a0), a1, a2) = some (md a0 a1 a2) := RR_eq (a := (a0, a1, a2)) h
noncomputable def con : Con := CN pats res acc R
theorem okF (a0 : MCache) (a1 : Int) (a2 : ByteArray) (hg : gd a0 a1 a2) : F (MCache.r a0) a1 a2 = ret ((md a0 a1 a2) : Bool) := by
  unfold md
  show (bif (decide ((a2.size : Int) > 1048576)) then ret (true : Bool) else (call (laws_szCache.R ((MCache.r a0), 1048576)) fun v1 => (bif (decide (v1 < 0)) then ret (true : Bool) else (call (laws_toCache.R (MCache.r a0)) fun v2 => (call (spec_FromCache.R (v2, a1, a2)) fun v3 => (call (laws_toCache.R (MCache.r a0)) fun v4 => (call (impl_FromCache.R (v4, a1, a2)) fun v5 => (call (laws_eqAnswer.R (v5, v3)) fun v6 => (bif (!v6) then ret (false : Bool) else (call (laws_toCache.R (MCache.r a0)) fun v7 => (call (laws_eqCache.R (v4, v7)) fun v8 => (bif (!v8) then ret (false : Bool) else (call (laws_markCache.R (v4, 1)) fun v9 => (bif (decide (v9.1 < 0)) then ret (false : Bool) else (call (laws_eqAnswer.R (v5, v3)) fun v10 => (bif (!v10) then ret (false : Bool) else (call (laws_markAnswer.R (v5, 1)) fun v11 => (call (laws_heldAnswer.R ((⟨v11.2.1, v5.fFound, (⟨v5.fEntry.fLabel, v5.fEntry.fKind, v5.fEntry.fValue, v11.2.2.1⟩ : REntry), (⟨v5.fProof.fAt, v11.2.2.2.1⟩ : RProof), (⟨v5.fGap.fAt, (⟨v5.fGap.fBefore.fLabel, v5.fGap.fBefore.fKind, v5.fGap.fBefore.fValue, v11.2.2.2.2.1⟩ : REntry), (⟨v5.fGap.fAfter.fLabel, v5.fGap.fAfter.fKind, v5.fGap.fAfter.fValue, v11.2.2.2.2.2.1⟩ : REntry), (⟨v5.fGap.fLeft.fAt, v11.2.2.2.2.2.2.1⟩ : RProof), (⟨v5.fGap.fRight.fAt, v11.2.2.2.2.2.2.2⟩ : RProof)⟩ : RGap)⟩ : RAnswer), 1)) fun v12 => (bif (decide (v12 < 0)) then ret (false : Bool) else (bif (v12 != v11.1) then ret (false : Bool) else (call (laws_toCache.R (MCache.r a0)) fun v13 => (call (impl_FromCache.R (v13, a1, a2)) fun v14 => (call (laws_eqAnswer.R (v14, v3)) fun v15 => (bif (!v15) then ret (false : Bool) else (call (laws_heldAnswer.R ((⟨v11.2.1, v5.fFound, (⟨v5.fEntry.fLabel, v5.fEntry.fKind, v5.fEntry.fValue, v11.2.2.1⟩ : REntry), (⟨v5.fProof.fAt, v11.2.2.2.1⟩ : RProof), (⟨v5.fGap.fAt, (⟨v5.fGap.fBefore.fLabel, v5.fGap.fBefore.fKind, v5.fGap.fBefore.fValue, v11.2.2.2.2.1⟩ : REntry), (⟨v5.fGap.fAfter.fLabel, v5.fGap.fAfter.fKind, v5.fGap.fAfter.fValue, v11.2.2.2.2.2.1⟩ : REntry), (⟨v5.fGap.fLeft.fAt, v11.2.2.2.2.2.2.1⟩ : RProof), (⟨v5.fGap.fRight.fAt, v11.2.2.2.2.2.2.2⟩ : RProof)⟩ : RGap)⟩ : RAnswer), 1)) fun v16 => (bif (decide (v16 < 0)) then ret (false : Bool) else (bif (v16 != v11.1) then ret (false : Bool) else ret (true : Bool)))))))))))))))))))))))))))) = _
  by_cases q2 : ((a2.size : Int) > 1048576)
  · rw [decide_eq_true q2]; rfl
  rw [decide_eq_false q2, cond_false]
  have s2 : a2.size ≤ 2 ^ 20 := by omega
  rw [call_eq (laws_szCache.R_eq (a1 := (1048576 : Int)) ⟨hg.1, by omega, by omega⟩)]
  unfold laws_szCache.md
  by_cases c0 : (1048576 : Int) < (((MCache.size a0) : Nat) : Int)
  · rw [szM_neg c0]; rfl
  rw [szM_pos c0, dec_neg (by omega)]
  simp only [cond_false]
  have s0 : MCache.Sm (2 ^ 20) a0 := (MCache.Sm_of (by omega))
  refine call_to (MCache.r a0) (laws_toCache.R_eq (a0 := a0) (MCache.Sm_mono (by decide) s0)) ?_
  refine call_to (MAnswer.r (spec_FromCache.md a0 a1 a2)) (spec_FromCache.R_eq (a0 := a0) (a1 := a1) (a2 := a2) (by
    have := And.intro trivial trivial
    unfold spec_FromCache.gd
    first | exact (MCache.Sm_mono (by decide) s0) | refine ⟨(MCache.Sm_mono (by decide) s0), (Nat.le_trans s2 (by decide))⟩)) ?_
  refine call_to (MCache.r a0) (laws_toCache.R_eq (a0 := a0) (MCache.Sm_mono (by decide) s0)) ?_
  have r_ := impl_FromCache.R_eq (a0 := a0) (a1 := a1) (a2 := a2) (by
    have := And.intro trivial trivial
    unfold impl_FromCache.gd
    first | exact (MCache.Sm_mono (by decide) s0) | refine ⟨(MCache.Sm_mono (by decide) s0), (Nat.le_trans s2 (by decide))⟩)
  rw [impl_FromCache.br] at r_
  refine call_to (MAnswer.r (spec_FromCache.md a0 a1 a2)) r_ ?_
  clear r_
  refine call_to _ (laws_eqAnswer.R_eq (a0 := (spec_FromCache.md a0 a1 a2)) (a1 := (spec_FromCache.md a0 a1 a2)) trivial) ?_
  refine no_ret (by first | (simp only [bne_self_eq_false, beq_self_eq_true, ba_refl, eqB_refl, Bool.not_true, laws_eqAnswer.md]; done) | (refine bne_eq_false_iff_eq.2 ?_; omega)) ?_
  refine call_to (MCache.r a0) (laws_toCache.R_eq (a0 := a0) (MCache.Sm_mono (by decide) s0)) ?_
  refine call_to _ (laws_eqCache.R_eq (a0 := a0) (a1 := a0) trivial) ?_
  refine no_ret (by first | (simp only [bne_self_eq_false, beq_self_eq_true, ba_refl, eqB_refl, Bool.not_true, laws_eqAnswer.md, laws_eqCache.md]; done) | (refine bne_eq_false_iff_eq.2 ?_; omega)) ?_
  have u1 := laws_markCache.sz a0
  refine call_to ((laws_markCache.md a0 1).1, ((laws_markCache.md a0 1).2.map MStored.row)) (laws_markCache.R_eq (a0 := a0) (a1 := 1) I64_one) ?_
  have k2 := laws_markCache.kk a0 1 (by omega) (by omega)
  refine no_ret (dec_neg (by omega)) ?_
  refine call_to _ (laws_eqAnswer.R_eq (a0 := (spec_FromCache.md a0 a1 a2)) (a1 := (spec_FromCache.md a0 a1 a2)) trivial) ?_
  refine no_ret (by first | (simp only [bne_self_eq_false, beq_self_eq_true, ba_refl, eqB_refl, Bool.not_true, laws_eqAnswer.md, laws_eqCache.md]; done) | (refine bne_eq_false_iff_eq.2 ?_; omega)) ?_
  have u3 : laws_markAnswer.sum (spec_FromCache.md a0 a1 a2) ≤ 1000000000000000000 := (by
    have hf := spec_l26Find.fa a0 a1 a2
    unfold spec_FromCache.md
    cases hd : decide (spec_l26Find.md a0 a1 a2 < 0)
    · simp only [decide_eq_false_iff_not] at hd
      have h1 := laws_markAnswer.sz (a0.fList.getD (Int.toNat (spec_l26Find.md a0 a1 a2)) MStored.zero).fAnswer
      have h2 := szL_getD (f := fun y : MStored => MStored.size y) (xs := a0.fList) (i := Int.toNat (spec_l26Find.md a0 a1 a2)) (z := MStored.zero) (by omega)
      simp only [cond_false]
      try simp only at h2
      unfold MStored.size at h2
      have c1 := c0
      unfold MCache.size at c1
      try unfold MStored.size at c1
      omega
    · simp only [cond_true]; exact Nat.le_trans (laws_markAnswer.sz _) (by first | decide | simp [MAnswer.size, MEntry.size, MProof.size, MGap.size, szL]))
  refine call_to ((laws_markAnswer.md (spec_FromCache.md a0 a1 a2) 1).1, ((laws_markAnswer.md (spec_FromCache.md a0 a1 a2) 1).2.1.map MSigned.row), ((laws_markAnswer.md (spec_FromCache.md a0 a1 a2) 1).2.2.1.map sRow), ((laws_markAnswer.md (spec_FromCache.md a0 a1 a2) 1).2.2.2.1.map iRow), ((laws_markAnswer.md (spec_FromCache.md a0 a1 a2) 1).2.2.2.2.1.map sRow), ((laws_markAnswer.md (spec_FromCache.md a0 a1 a2) 1).2.2.2.2.2.1.map sRow), ((laws_markAnswer.md (spec_FromCache.md a0 a1 a2) 1).2.2.2.2.2.2.1.map iRow), ((laws_markAnswer.md (spec_FromCache.md a0 a1 a2) 1).2.2.2.2.2.2.2.map iRow)) (laws_markAnswer.R_eq (a0 := (spec_FromCache.md a0 a1 a2)) (a1 := 1) I64_one) ?_
  have k4 := laws_markAnswer.kk (spec_FromCache.md a0 a1 a2) 1 (by omega) (by omega)
  refine call_to (laws_heldAnswer.md (⟨(laws_markAnswer.md (spec_FromCache.md a0 a1 a2) 1).2.1, (spec_FromCache.md a0 a1 a2).fFound, (⟨(spec_FromCache.md a0 a1 a2).fEntry.fLabel, (spec_FromCache.md a0 a1 a2).fEntry.fKind, (spec_FromCache.md a0 a1 a2).fEntry.fValue, (laws_markAnswer.md (spec_FromCache.md a0 a1 a2) 1).2.2.1⟩ : MEntry), (⟨(spec_FromCache.md a0 a1 a2).fProof.fAt, (laws_markAnswer.md (spec_FromCache.md a0 a1 a2) 1).2.2.2.1⟩ : MProof), (⟨(spec_FromCache.md a0 a1 a2).fGap.fAt, (⟨(spec_FromCache.md a0 a1 a2).fGap.fBefore.fLabel, (spec_FromCache.md a0 a1 a2).fGap.fBefore.fKind, (spec_FromCache.md a0 a1 a2).fGap.fBefore.fValue, (laws_markAnswer.md (spec_FromCache.md a0 a1 a2) 1).2.2.2.2.1⟩ : MEntry), (⟨(spec_FromCache.md a0 a1 a2).fGap.fAfter.fLabel, (spec_FromCache.md a0 a1 a2).fGap.fAfter.fKind, (spec_FromCache.md a0 a1 a2).fGap.fAfter.fValue, (laws_markAnswer.md (spec_FromCache.md a0 a1 a2) 1).2.2.2.2.2.1⟩ : MEntry), (⟨(spec_FromCache.md a0 a1 a2).fGap.fLeft.fAt, (laws_markAnswer.md (spec_FromCache.md a0 a1 a2) 1).2.2.2.2.2.2.1⟩ : MProof), (⟨(spec_FromCache.md a0 a1 a2).fGap.fRight.fAt, (laws_markAnswer.md (spec_FromCache.md a0 a1 a2) 1).2.2.2.2.2.2.2⟩ : MProof)⟩ : MGap)⟩ : MAnswer) 1) (laws_heldAnswer.R_eq (a0 := (⟨(laws_markAnswer.md (spec_FromCache.md a0 a1 a2) 1).2.1, (spec_FromCache.md a0 a1 a2).fFound, (⟨(spec_FromCache.md a0 a1 a2).fEntry.fLabel, (spec_FromCache.md a0 a1 a2).fEntry.fKind, (spec_FromCache.md a0 a1 a2).fEntry.fValue, (laws_markAnswer.md (spec_FromCache.md a0 a1 a2) 1).2.2.1⟩ : MEntry), (⟨(spec_FromCache.md a0 a1 a2).fProof.fAt, (laws_markAnswer.md (spec_FromCache.md a0 a1 a2) 1).2.2.2.1⟩ : MProof), (⟨(spec_FromCache.md a0 a1 a2).fGap.fAt, (⟨(spec_FromCache.md a0 a1 a2).fGap.fBefore.fLabel, (spec_FromCache.md a0 a1 a2).fGap.fBefore.fKind, (spec_FromCache.md a0 a1 a2).fGap.fBefore.fValue, (laws_markAnswer.md (spec_FromCache.md a0 a1 a2) 1).2.2.2.2.1⟩ : MEntry), (⟨(spec_FromCache.md a0 a1 a2).fGap.fAfter.fLabel, (spec_FromCache.md a0 a1 a2).fGap.fAfter.fKind, (spec_FromCache.md a0 a1 a2).fGap.fAfter.fValue, (laws_markAnswer.md (spec_FromCache.md a0 a1 a2) 1).2.2.2.2.2.1⟩ : MEntry), (⟨(spec_FromCache.md a0 a1 a2).fGap.fLeft.fAt, (laws_markAnswer.md (spec_FromCache.md a0 a1 a2) 1).2.2.2.2.2.2.1⟩ : MProof), (⟨(spec_FromCache.md a0 a1 a2).fGap.fRight.fAt, (laws_markAnswer.md (spec_FromCache.md a0 a1 a2) 1).2.2.2.2.2.2.2⟩ : MProof)⟩ : MGap)⟩ : MAnswer)) (a1 := 1) I64_one) ?_
  have h5 : (laws_heldAnswer.md (⟨(laws_markAnswer.md (spec_FromCache.md a0 a1 a2) 1).2.1, (spec_FromCache.md a0 a1 a2).fFound, (⟨(spec_FromCache.md a0 a1 a2).fEntry.fLabel, (spec_FromCache.md a0 a1 a2).fEntry.fKind, (spec_FromCache.md a0 a1 a2).fEntry.fValue, (laws_markAnswer.md (spec_FromCache.md a0 a1 a2) 1).2.2.1⟩ : MEntry), (⟨(spec_FromCache.md a0 a1 a2).fProof.fAt, (laws_markAnswer.md (spec_FromCache.md a0 a1 a2) 1).2.2.2.1⟩ : MProof), (⟨(spec_FromCache.md a0 a1 a2).fGap.fAt, (⟨(spec_FromCache.md a0 a1 a2).fGap.fBefore.fLabel, (spec_FromCache.md a0 a1 a2).fGap.fBefore.fKind, (spec_FromCache.md a0 a1 a2).fGap.fBefore.fValue, (laws_markAnswer.md (spec_FromCache.md a0 a1 a2) 1).2.2.2.2.1⟩ : MEntry), (⟨(spec_FromCache.md a0 a1 a2).fGap.fAfter.fLabel, (spec_FromCache.md a0 a1 a2).fGap.fAfter.fKind, (spec_FromCache.md a0 a1 a2).fGap.fAfter.fValue, (laws_markAnswer.md (spec_FromCache.md a0 a1 a2) 1).2.2.2.2.2.1⟩ : MEntry), (⟨(spec_FromCache.md a0 a1 a2).fGap.fLeft.fAt, (laws_markAnswer.md (spec_FromCache.md a0 a1 a2) 1).2.2.2.2.2.2.1⟩ : MProof), (⟨(spec_FromCache.md a0 a1 a2).fGap.fRight.fAt, (laws_markAnswer.md (spec_FromCache.md a0 a1 a2) 1).2.2.2.2.2.2.2⟩ : MProof)⟩ : MGap)⟩ : MAnswer) 1) = 1 + (laws_markAnswer.sum (spec_FromCache.md a0 a1 a2) : Int) := laws_heldAnswer.mk (spec_FromCache.md a0 a1 a2) 1 (by omega) (by omega)
  refine no_ret (dec_neg (by omega)) ?_
  refine no_ret (by first | (simp only [bne_self_eq_false, beq_self_eq_true, ba_refl, eqB_refl, Bool.not_true, laws_eqAnswer.md, laws_eqCache.md]; done) | (refine bne_eq_false_iff_eq.2 ?_; omega)) ?_
  refine call_to (MCache.r a0) (laws_toCache.R_eq (a0 := a0) (MCache.Sm_mono (by decide) s0)) ?_
  have r_ := impl_FromCache.R_eq (a0 := a0) (a1 := a1) (a2 := a2) (by
    have := And.intro trivial trivial
    unfold impl_FromCache.gd
    first | exact (MCache.Sm_mono (by decide) s0) | refine ⟨(MCache.Sm_mono (by decide) s0), (Nat.le_trans s2 (by decide))⟩)
  rw [impl_FromCache.br] at r_
  refine call_to (MAnswer.r (spec_FromCache.md a0 a1 a2)) r_ ?_
  clear r_
  refine call_to _ (laws_eqAnswer.R_eq (a0 := (spec_FromCache.md a0 a1 a2)) (a1 := (spec_FromCache.md a0 a1 a2)) trivial) ?_
  refine no_ret (by first | (simp only [bne_self_eq_false, beq_self_eq_true, ba_refl, eqB_refl, Bool.not_true, laws_eqAnswer.md, laws_eqCache.md]; done) | (refine bne_eq_false_iff_eq.2 ?_; omega)) ?_
  refine call_to (laws_heldAnswer.md (⟨(laws_markAnswer.md (spec_FromCache.md a0 a1 a2) 1).2.1, (spec_FromCache.md a0 a1 a2).fFound, (⟨(spec_FromCache.md a0 a1 a2).fEntry.fLabel, (spec_FromCache.md a0 a1 a2).fEntry.fKind, (spec_FromCache.md a0 a1 a2).fEntry.fValue, (laws_markAnswer.md (spec_FromCache.md a0 a1 a2) 1).2.2.1⟩ : MEntry), (⟨(spec_FromCache.md a0 a1 a2).fProof.fAt, (laws_markAnswer.md (spec_FromCache.md a0 a1 a2) 1).2.2.2.1⟩ : MProof), (⟨(spec_FromCache.md a0 a1 a2).fGap.fAt, (⟨(spec_FromCache.md a0 a1 a2).fGap.fBefore.fLabel, (spec_FromCache.md a0 a1 a2).fGap.fBefore.fKind, (spec_FromCache.md a0 a1 a2).fGap.fBefore.fValue, (laws_markAnswer.md (spec_FromCache.md a0 a1 a2) 1).2.2.2.2.1⟩ : MEntry), (⟨(spec_FromCache.md a0 a1 a2).fGap.fAfter.fLabel, (spec_FromCache.md a0 a1 a2).fGap.fAfter.fKind, (spec_FromCache.md a0 a1 a2).fGap.fAfter.fValue, (laws_markAnswer.md (spec_FromCache.md a0 a1 a2) 1).2.2.2.2.2.1⟩ : MEntry), (⟨(spec_FromCache.md a0 a1 a2).fGap.fLeft.fAt, (laws_markAnswer.md (spec_FromCache.md a0 a1 a2) 1).2.2.2.2.2.2.1⟩ : MProof), (⟨(spec_FromCache.md a0 a1 a2).fGap.fRight.fAt, (laws_markAnswer.md (spec_FromCache.md a0 a1 a2) 1).2.2.2.2.2.2.2⟩ : MProof)⟩ : MGap)⟩ : MAnswer) 1) (laws_heldAnswer.R_eq (a0 := (⟨(laws_markAnswer.md (spec_FromCache.md a0 a1 a2) 1).2.1, (spec_FromCache.md a0 a1 a2).fFound, (⟨(spec_FromCache.md a0 a1 a2).fEntry.fLabel, (spec_FromCache.md a0 a1 a2).fEntry.fKind, (spec_FromCache.md a0 a1 a2).fEntry.fValue, (laws_markAnswer.md (spec_FromCache.md a0 a1 a2) 1).2.2.1⟩ : MEntry), (⟨(spec_FromCache.md a0 a1 a2).fProof.fAt, (laws_markAnswer.md (spec_FromCache.md a0 a1 a2) 1).2.2.2.1⟩ : MProof), (⟨(spec_FromCache.md a0 a1 a2).fGap.fAt, (⟨(spec_FromCache.md a0 a1 a2).fGap.fBefore.fLabel, (spec_FromCache.md a0 a1 a2).fGap.fBefore.fKind, (spec_FromCache.md a0 a1 a2).fGap.fBefore.fValue, (laws_markAnswer.md (spec_FromCache.md a0 a1 a2) 1).2.2.2.2.1⟩ : MEntry), (⟨(spec_FromCache.md a0 a1 a2).fGap.fAfter.fLabel, (spec_FromCache.md a0 a1 a2).fGap.fAfter.fKind, (spec_FromCache.md a0 a1 a2).fGap.fAfter.fValue, (laws_markAnswer.md (spec_FromCache.md a0 a1 a2) 1).2.2.2.2.2.1⟩ : MEntry), (⟨(spec_FromCache.md a0 a1 a2).fGap.fLeft.fAt, (laws_markAnswer.md (spec_FromCache.md a0 a1 a2) 1).2.2.2.2.2.2.1⟩ : MProof), (⟨(spec_FromCache.md a0 a1 a2).fGap.fRight.fAt, (laws_markAnswer.md (spec_FromCache.md a0 a1 a2) 1).2.2.2.2.2.2.2⟩ : MProof)⟩ : MGap)⟩ : MAnswer)) (a1 := 1) I64_one) ?_
  have h6 : (laws_heldAnswer.md (⟨(laws_markAnswer.md (spec_FromCache.md a0 a1 a2) 1).2.1, (spec_FromCache.md a0 a1 a2).fFound, (⟨(spec_FromCache.md a0 a1 a2).fEntry.fLabel, (spec_FromCache.md a0 a1 a2).fEntry.fKind, (spec_FromCache.md a0 a1 a2).fEntry.fValue, (laws_markAnswer.md (spec_FromCache.md a0 a1 a2) 1).2.2.1⟩ : MEntry), (⟨(spec_FromCache.md a0 a1 a2).fProof.fAt, (laws_markAnswer.md (spec_FromCache.md a0 a1 a2) 1).2.2.2.1⟩ : MProof), (⟨(spec_FromCache.md a0 a1 a2).fGap.fAt, (⟨(spec_FromCache.md a0 a1 a2).fGap.fBefore.fLabel, (spec_FromCache.md a0 a1 a2).fGap.fBefore.fKind, (spec_FromCache.md a0 a1 a2).fGap.fBefore.fValue, (laws_markAnswer.md (spec_FromCache.md a0 a1 a2) 1).2.2.2.2.1⟩ : MEntry), (⟨(spec_FromCache.md a0 a1 a2).fGap.fAfter.fLabel, (spec_FromCache.md a0 a1 a2).fGap.fAfter.fKind, (spec_FromCache.md a0 a1 a2).fGap.fAfter.fValue, (laws_markAnswer.md (spec_FromCache.md a0 a1 a2) 1).2.2.2.2.2.1⟩ : MEntry), (⟨(spec_FromCache.md a0 a1 a2).fGap.fLeft.fAt, (laws_markAnswer.md (spec_FromCache.md a0 a1 a2) 1).2.2.2.2.2.2.1⟩ : MProof), (⟨(spec_FromCache.md a0 a1 a2).fGap.fRight.fAt, (laws_markAnswer.md (spec_FromCache.md a0 a1 a2) 1).2.2.2.2.2.2.2⟩ : MProof)⟩ : MGap)⟩ : MAnswer) 1) = 1 + (laws_markAnswer.sum (spec_FromCache.md a0 a1 a2) : Int) := laws_heldAnswer.mk (spec_FromCache.md a0 a1 a2) 1 (by omega) (by omega)
  refine no_ret (dec_neg (by omega)) ?_
  refine no_ret (by first | (simp only [bne_self_eq_false, beq_self_eq_true, ba_refl, eqB_refl, Bool.not_true, laws_eqAnswer.md, laws_eqCache.md]; done) | (refine bne_eq_false_iff_eq.2 ?_; omega)) ?_
  rfl
theorem valid_ : Valid Try.prog Ev 14 con := VS (run := fun _ x => F x.1 x.2.1 x.2.2) mix tab_ok (.cons laws_szCache.valid_ (.cons laws_toCache.valid_ (.cons spec_FromCache.valid_ (.cons impl_FromCache.valid_ (.cons laws_eqAnswer.valid_ (.cons laws_eqCache.valid_ (.cons laws_heldAnswer.valid_ .nil))))))) (.cons laws_markCache.valid_ (.cons laws_markAnswer.valid_ .nil)) Try.func14 (by kernel_rfl) run_eq (fun _ a _ _ hg => ⟨0, okF a.1 a.2.1 a.2.2 hg⟩)
theorem MKeys_wf192 (r : List L) (h : WfAll Ev.cells [.sl 3, .int .i64] r) : ∃ x : MKeys, MKeys.row x = r ∧ MKeys.Sm maxLen x := by
  obtain ⟨l0, t0, rfl, g0, h1⟩ := h.uncons
  obtain ⟨x0, rfl, s0⟩ := wf_list (show Ev.cells 3 = [.int .i64] from by kernel_rfl) wf_irow g0
  obtain ⟨l1, t1, rfl, g1, h2⟩ := h1.uncons
  obtain ⟨x1, rfl⟩ := wf_int g1
  obtain rfl := h2.isnil
  exact ⟨⟨x0, x1⟩, rfl, s0⟩
theorem MHead_wf194 (r : List L) (h : WfAll Ev.cells [.int .i64, .int .i64, .int .i64, .int .i64, .int .i64, .int .i64, .int .i64, .int .i64, .sl 3, .int .i64, .sl 3, .int .i64, .int .i64, .sl 3, .int .i64, .bool] r) : ∃ x : MHead, MHead.row x = r ∧ MHead.Sm maxLen x := by
  obtain ⟨l0, t0, rfl, g0, h1⟩ := h.uncons
  obtain ⟨x0, rfl⟩ := wf_int g0
  obtain ⟨l1, t1, rfl, g1, h2⟩ := h1.uncons
  obtain ⟨x1, rfl⟩ := wf_int g1
  obtain ⟨l2, t2, rfl, g2, h3⟩ := h2.uncons
  obtain ⟨x2, rfl⟩ := wf_int g2
  obtain ⟨l3, t3, rfl, g3, h4⟩ := h3.uncons
  obtain ⟨x3, rfl⟩ := wf_int g3
  obtain ⟨l4, t4, rfl, g4, h5⟩ := h4.uncons
  obtain ⟨x4, rfl⟩ := wf_int g4
  obtain ⟨l5, t5, rfl, g5, h6⟩ := h5.uncons
  obtain ⟨x5, rfl⟩ := wf_int g5
  obtain ⟨l6, t6, rfl, g6, h7⟩ := h6.uncons
  obtain ⟨x6, rfl⟩ := wf_int g6
  obtain ⟨l7, t7, rfl, g7, h8⟩ := h7.uncons
  obtain ⟨x7, rfl⟩ := wf_int g7
  obtain ⟨r8, t8, rfl, g8, h9⟩ := WfAll.unapp (a := [.sl 3, .int .i64]) (b := [.sl 3, .int .i64, .int .i64, .sl 3, .int .i64, .bool]) h8
  obtain ⟨x8, rfl, s8⟩ := MKeys_wf192 _ g8
  obtain ⟨r9, t9, rfl, g9, h10⟩ := WfAll.unapp (a := [.sl 3, .int .i64]) (b := [.int .i64, .sl 3, .int .i64, .bool]) h9
  obtain ⟨x9, rfl, s9⟩ := MKeys_wf192 _ g9
  obtain ⟨l10, t10, rfl, g10, h11⟩ := h10.uncons
  obtain ⟨x10, rfl⟩ := wf_int g10
  obtain ⟨r11, t11, rfl, g11, h12⟩ := WfAll.unapp (a := [.sl 3, .int .i64]) (b := [.bool]) h11
  obtain ⟨x11, rfl, s11⟩ := MKeys_wf192 _ g11
  obtain ⟨l12, t12, rfl, g12, h13⟩ := h12.uncons
  obtain ⟨x12, rfl⟩ := wf_bool g12
  obtain rfl := h13.isnil
  exact ⟨⟨x0, x1, x2, x3, x4, x5, x6, x7, x8, x9, x10, x11, x12⟩, rfl, ⟨s8, s9, s11⟩⟩
theorem MSig_wf279 (r : List L) (h : WfAll Ev.cells [.int .i64, .int .i64] r) : ∃ x : MSig, MSig.row x = r ∧ MSig.Sm maxLen x := by
  obtain ⟨l0, t0, rfl, g0, h1⟩ := h.uncons
  obtain ⟨x0, rfl⟩ := wf_int g0
  obtain ⟨l1, t1, rfl, g1, h2⟩ := h1.uncons
  obtain ⟨x1, rfl⟩ := wf_int g1
  obtain rfl := h2.isnil
  exact ⟨⟨x0, x1⟩, rfl, trivial⟩
theorem MSigned_wf197 (r : List L) (h : WfAll Ev.cells [.int .i64, .int .i64, .int .i64, .int .i64, .int .i64, .int .i64, .int .i64, .int .i64, .sl 3, .int .i64, .sl 3, .int .i64, .int .i64, .sl 3, .int .i64, .bool, .sl 279] r) : ∃ x : MSigned, MSigned.row x = r ∧ MSigned.Sm maxLen x := by
  obtain ⟨r0, t0, rfl, g0, h1⟩ := WfAll.unapp (a := [.int .i64, .int .i64, .int .i64, .int .i64, .int .i64, .int .i64, .int .i64, .int .i64, .sl 3, .int .i64, .sl 3, .int .i64, .int .i64, .sl 3, .int .i64, .bool]) (b := [.sl 279]) h
  obtain ⟨x0, rfl, s0⟩ := MHead_wf194 _ g0
  obtain ⟨l1, t1, rfl, g1, h2⟩ := h1.uncons
  obtain ⟨x1, rfl, s1⟩ := wf_list (show Ev.cells 279 = [.int .i64, .int .i64] from by kernel_rfl) MSig_wf279 g1
  obtain rfl := h2.isnil
  exact ⟨⟨x0, x1⟩, rfl, ⟨s0, s1⟩⟩
theorem MEntry_wf38 (r : List L) (h : WfAll Ev.cells [.str, .int .i64, .int .i64, .sl 9] r) : ∃ x : MEntry, MEntry.row x = r ∧ MEntry.Sm maxLen x := by
  obtain ⟨l0, t0, rfl, g0, h1⟩ := h.uncons
  obtain ⟨x0, rfl, s0⟩ := wf_str g0
  obtain ⟨l1, t1, rfl, g1, h2⟩ := h1.uncons
  obtain ⟨x1, rfl⟩ := wf_int g1
  obtain ⟨l2, t2, rfl, g2, h3⟩ := h2.uncons
  obtain ⟨x2, rfl⟩ := wf_int g2
  obtain ⟨l3, t3, rfl, g3, h4⟩ := h3.uncons
  obtain ⟨x3, rfl, s3⟩ := wf_list (show Ev.cells 9 = [.str] from by kernel_rfl) wf_srow g3
  obtain rfl := h4.isnil
  exact ⟨⟨x0, x1, x2, x3⟩, rfl, ⟨s0, s3⟩⟩
theorem MProof_wf257 (r : List L) (h : WfAll Ev.cells [.int .i64, .sl 3] r) : ∃ x : MProof, MProof.row x = r ∧ MProof.Sm maxLen x := by
  obtain ⟨l0, t0, rfl, g0, h1⟩ := h.uncons
  obtain ⟨x0, rfl⟩ := wf_int g0
  obtain ⟨l1, t1, rfl, g1, h2⟩ := h1.uncons
  obtain ⟨x1, rfl, s1⟩ := wf_list (show Ev.cells 3 = [.int .i64] from by kernel_rfl) wf_irow g1
  obtain rfl := h2.isnil
  exact ⟨⟨x0, x1⟩, rfl, s1⟩
theorem MGap_wf259 (r : List L) (h : WfAll Ev.cells [.int .i64, .str, .int .i64, .int .i64, .sl 9, .str, .int .i64, .int .i64, .sl 9, .int .i64, .sl 3, .int .i64, .sl 3] r) : ∃ x : MGap, MGap.row x = r ∧ MGap.Sm maxLen x := by
  obtain ⟨l0, t0, rfl, g0, h1⟩ := h.uncons
  obtain ⟨x0, rfl⟩ := wf_int g0
  obtain ⟨r1, t1, rfl, g1, h2⟩ := WfAll.unapp (a := [.str, .int .i64, .int .i64, .sl 9]) (b := [.str, .int .i64, .int .i64, .sl 9, .int .i64, .sl 3, .int .i64, .sl 3]) h1
  obtain ⟨x1, rfl, s1⟩ := MEntry_wf38 _ g1
  obtain ⟨r2, t2, rfl, g2, h3⟩ := WfAll.unapp (a := [.str, .int .i64, .int .i64, .sl 9]) (b := [.int .i64, .sl 3, .int .i64, .sl 3]) h2
  obtain ⟨x2, rfl, s2⟩ := MEntry_wf38 _ g2
  obtain ⟨r3, t3, rfl, g3, h4⟩ := WfAll.unapp (a := [.int .i64, .sl 3]) (b := [.int .i64, .sl 3]) h3
  obtain ⟨x3, rfl, s3⟩ := MProof_wf257 _ g3
  obtain ⟨r4, t4, rfl, g4, h5⟩ := WfAll.unapp (a := [.int .i64, .sl 3]) (b := []) h4
  obtain ⟨x4, rfl, s4⟩ := MProof_wf257 _ g4
  obtain rfl := h5.isnil
  exact ⟨⟨x0, x1, x2, x3, x4⟩, rfl, ⟨s1, s2, s3, s4⟩⟩
theorem MAnswer_wf261 (r : List L) (h : WfAll Ev.cells [.sl 197, .bool, .str, .int .i64, .int .i64, .sl 9, .int .i64, .sl 3, .int .i64, .str, .int .i64, .int .i64, .sl 9, .str, .int .i64, .int .i64, .sl 9, .int .i64, .sl 3, .int .i64, .sl 3] r) : ∃ x : MAnswer, MAnswer.row x = r ∧ MAnswer.Sm maxLen x := by
  obtain ⟨l0, t0, rfl, g0, h1⟩ := h.uncons
  obtain ⟨x0, rfl, s0⟩ := wf_list (show Ev.cells 197 = [.int .i64, .int .i64, .int .i64, .int .i64, .int .i64, .int .i64, .int .i64, .int .i64, .sl 3, .int .i64, .sl 3, .int .i64, .int .i64, .sl 3, .int .i64, .bool, .sl 279] from by kernel_rfl) MSigned_wf197 g0
  obtain ⟨l1, t1, rfl, g1, h2⟩ := h1.uncons
  obtain ⟨x1, rfl⟩ := wf_bool g1
  obtain ⟨r2, t2, rfl, g2, h3⟩ := WfAll.unapp (a := [.str, .int .i64, .int .i64, .sl 9]) (b := [.int .i64, .sl 3, .int .i64, .str, .int .i64, .int .i64, .sl 9, .str, .int .i64, .int .i64, .sl 9, .int .i64, .sl 3, .int .i64, .sl 3]) h2
  obtain ⟨x2, rfl, s2⟩ := MEntry_wf38 _ g2
  obtain ⟨r3, t3, rfl, g3, h4⟩ := WfAll.unapp (a := [.int .i64, .sl 3]) (b := [.int .i64, .str, .int .i64, .int .i64, .sl 9, .str, .int .i64, .int .i64, .sl 9, .int .i64, .sl 3, .int .i64, .sl 3]) h3
  obtain ⟨x3, rfl, s3⟩ := MProof_wf257 _ g3
  obtain ⟨r4, t4, rfl, g4, h5⟩ := WfAll.unapp (a := [.int .i64, .str, .int .i64, .int .i64, .sl 9, .str, .int .i64, .int .i64, .sl 9, .int .i64, .sl 3, .int .i64, .sl 3]) (b := []) h4
  obtain ⟨x4, rfl, s4⟩ := MGap_wf259 _ g4
  obtain rfl := h5.isnil
  exact ⟨⟨x0, x1, x2, x3, x4⟩, rfl, ⟨s0, s2, s3, s4⟩⟩
theorem MStored_wf263 (r : List L) (h : WfAll Ev.cells [.int .i64, .str, .sl 197, .bool, .str, .int .i64, .int .i64, .sl 9, .int .i64, .sl 3, .int .i64, .str, .int .i64, .int .i64, .sl 9, .str, .int .i64, .int .i64, .sl 9, .int .i64, .sl 3, .int .i64, .sl 3] r) : ∃ x : MStored, MStored.row x = r ∧ MStored.Sm maxLen x := by
  obtain ⟨l0, t0, rfl, g0, h1⟩ := h.uncons
  obtain ⟨x0, rfl⟩ := wf_int g0
  obtain ⟨l1, t1, rfl, g1, h2⟩ := h1.uncons
  obtain ⟨x1, rfl, s1⟩ := wf_str g1
  obtain ⟨r2, t2, rfl, g2, h3⟩ := WfAll.unapp (a := [.sl 197, .bool, .str, .int .i64, .int .i64, .sl 9, .int .i64, .sl 3, .int .i64, .str, .int .i64, .int .i64, .sl 9, .str, .int .i64, .int .i64, .sl 9, .int .i64, .sl 3, .int .i64, .sl 3]) (b := []) h2
  obtain ⟨x2, rfl, s2⟩ := MAnswer_wf261 _ g2
  obtain rfl := h3.isnil
  exact ⟨⟨x0, x1, x2⟩, rfl, ⟨s1, s2⟩⟩
theorem MCache_wf119 (r : List L) (h : WfAll Ev.cells [.sl 263] r) : ∃ x : MCache, MCache.row x = r ∧ MCache.Sm maxLen x := by
  obtain ⟨l0, t0, rfl, g0, h1⟩ := h.uncons
  obtain ⟨x0, rfl, s0⟩ := wf_list (show Ev.cells 263 = [.int .i64, .str, .sl 197, .bool, .str, .int .i64, .int .i64, .sl 9, .int .i64, .sl 3, .int .i64, .str, .int .i64, .int .i64, .sl 9, .str, .int .i64, .int .i64, .sl 9, .int .i64, .sl 3, .int .i64, .sl 3] from by kernel_rfl) MStored_wf263 g0
  obtain rfl := h1.isnil
  exact ⟨⟨x0⟩, rfl, s0⟩
theorem holds (ls : List L) (h : WfAll Ev.cells ([119, 3, 9].flatMap Ev.cells) ls) : con.sem ls = some [.bool true] := by
  have hk : [119, 3, 9].flatMap Ev.cells = [.sl 263, .int .i64, .str] := by kernel_rfl
  rw [hk] at h
  obtain ⟨r0, t0, rfl, g0, h1⟩ := WfAll.unapp (a := [.sl 263]) (b := [.int .i64, .str]) h
  obtain ⟨x0, rfl, s0⟩ := MCache_wf119 _ g0
  obtain ⟨l1, t1, rfl, g1, h2⟩ := h1.uncons
  obtain ⟨x1, rfl⟩ := wf_int g1
  obtain ⟨l2, t2, rfl, g2, h3⟩ := h2.uncons
  obtain ⟨x2, rfl, s2⟩ := wf_str g2
  obtain rfl := h3.isnil
  show (R ((MCache.r x0), x1, x2)).map RT.enc = _
  rw [R_eq ⟨s0, s2⟩]
  rfl
end laws_FnExactFromCache
end Go.DM
