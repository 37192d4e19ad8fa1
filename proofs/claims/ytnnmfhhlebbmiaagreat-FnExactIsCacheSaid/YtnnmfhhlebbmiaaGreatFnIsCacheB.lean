/- What the functions compute that the law reaches, and that the law returns true. Conditions: none. -/
import Derived.Test.YtnnmfhhlebbmiaaGreatTy
import Derived.Test.YtnnmfhhlebbmiaaGreatFnIsCacheA
import Derived.Test.YtnnmfhhlebbmiaaGreatProg
import Derived.Lib.AppendZerosOnto
import Derived.Lib.Bytealg
import Derived.Laws.Externs
import Derived.Lib.Walk
import Derived.Lib.Hide
import Derived.Lib.Strings
set_option linter.all false
namespace Go.DM
open Go.Proofs
/-! spec.l10Up -/
namespace spec_l10Up
inductive Pt where
  | p0 (a : List (List L)) (b : Int) (c : List (List L))
def pid : Pt → Nat
  | .p0 .. => 3
def pvs : Pt → List V
  | .p0 a b c => [.sl none 3 a, .own 0, .int .i64 b]
def phs : Pt → List Root
  | .p0 a b c => [.row 3 c]
noncomputable def step (J : Pt → Ans) : Pt → Ans
  | .p0 a b c => (bif (decide (b < (a.length : Int))) then (bif (decide ((IntKind.i64.wrap (b + 1)) < (a.length : Int))) then (bif (decide ((0 : Int) ≤ b)) then (bif (decide (b < (a.length : Int))) then (bif (decide ((0 : Int) ≤ (IntKind.i64.wrap (b + 1)))) then (bif (decide ((IntKind.i64.wrap (b + 1)) < (a.length : Int))) then (call (spec_NodeOf.R ((iAt a (Int.toNat b)), (iAt a (Int.toNat (IntKind.i64.wrap (b + 1)))))) fun v1 => (bif (lim (((c.length : Int) + 1) * 8)) then J (.p0 a (IntKind.i64.wrap (b + 2)) (c ++ [[L.int v1]])) else none)) else none) else none) else none) else none) else (bif (decide ((0 : Int) ≤ b)) then (bif (decide (b < (a.length : Int))) then (bif (lim (((c.length : Int) + 1) * 8)) then J (.p0 a (IntKind.i64.wrap (b + 2)) (c ++ [[L.int (iAt a (Int.toNat b))]])) else none) else none) else none)) else ret (c : List (List L)))
noncomputable def start (J : Pt → Ans) (x0 : List (List L)) : Ans := J (.p0 x0 0 [])
def live : Nat → Live := fun i => match i with | 3 => [(0, none), (3, some 3), (4, none)] | _ => []
def pats : List Pat := [.rd (.sl 3)]
def res : RP := .one (.fr 3)
noncomputable abbrev E : Env := ⟨assoc Tab, conG [(247, spec_NodeOf.con)], 38⟩
set_option maxRecDepth 100000
theorem step_eq (I : Heads) (p : Pt) : enterC E live I (pid p) (bodyOf Tryz.f264) (stOf (live (pid p)) (pvs p) (phs p)) (doneK E Tryz.f264 res) = step (fun q => I (pid q) (pvs q) (phs q)) p := by
  cases p <;> kernel_rfl
theorem start_eq (I : Heads) (ls : List L) : runC E live I (bodyOf Tryz.f264) (initS pats ls) (doneK E Tryz.f264 res) = start (fun q => I (pid q) (pvs q) (phs q)) (ls.headD .hole).toSl := by kernel_rfl
theorem run_eq (n : Nat) (ls : List L) : runF E live Tryz.f264 res n (initS pats ls) = start (iter step n) (ls.headD .hole).toSl := runF_iter (id := pid) (vs := pvs) (hs := phs) (step := step) (start := fun J => start J (ls.headD .hole).toSl) step_eq (fun I => start_eq I ls) n
noncomputable def up : List Int → List Int
  | [] => []
  | [a] => [a]
  | a :: b :: r => spec_NodeOf.md a b :: up r
theorem up_length : ∀ l : List Int, (up l).length = (l.length + 1) / 2
  | [] => by simp [up]
  | [_] => by simp [up]
  | _ :: _ :: r => by
    have := up_length r
    simp only [up, List.length_cons]
    omega
noncomputable def md (a0 : List Int) : List Int := up a0
def gd (a0 : List Int) : Prop := SmL (2 ^ 38) (fun y : Int => True) a0
def acc (ls : List L) : List (List L) := (ls.headD .hole).toSl
noncomputable def R : (List (List L)) → Option (List (List L)) := RR gd md
theorem R_eq {a0} (h : gd a0) : R (a0.map iRow) = some ((md a0).map iRow) := RR_eq (a := a0) h
noncomputable def con : Con := CN pats res acc R
theorem okF (a0 : List Int) (hg : gd a0) : ∃ n, start (iter step n) (a0.map iRow) = ret (((md a0).map iRow) : List (List L)) := by
  obtain ⟨H1, _⟩ := hg
  have key : ∀ (k i : Nat) (c : List Int), i + k = a0.length → c.length ≤ i → ∃ n, iter step n (Pt.p0 (a0.map iRow) (i : Int) (c.map iRow)) = ret ((c ++ up (a0.drop i)).map iRow : List (List L)) := by
    intro k
    induction k using Nat.strongRecOn with
    | _ k ih =>
    intro i c hi hc
    match k, hi, ih with
    | 0, hi, _ =>
      refine ⟨1, ?_⟩
      show step (iter step 0) (Pt.p0 _ _ _) = _
      simp only [step, List.length_map]
      refine no_ret (decide_eq_false (by omega)) ?_
      rw [List.drop_eq_nil_of_le (by omega)]
      simp only [up, List.append_nil]
    | 1, hi, ih =>
      obtain ⟨n, hn⟩ := ih 0 (by omega) (i + 1) (c ++ [a0.getD i 0]) (by omega) (by simp; omega)
      have h2 : ∃ n, iter step n (Pt.p0 (a0.map iRow) (IntKind.i64.wrap ((i : Int) + 2)) ((c ++ [a0.getD i 0]).map iRow)) = ret ((c ++ [a0.getD i 0]).map iRow : List (List L)) := by
        refine ⟨1, ?_⟩
        show step (iter step 0) (Pt.p0 _ _ _) = _
        simp only [step, List.length_map]
        refine no_ret (decide_eq_false ?_) rfl
        rw [Go.IntWalk.i64_in _ (by omega)]; omega
      obtain ⟨n, hn⟩ := h2
      refine ⟨n + 1, ?_⟩
      show step (iter step n) (Pt.p0 _ _ _) = _
      simp only [step, List.length_map, toNat_nat, iAt_getD]
      refine yes_ret (decide_eq_true (by omega)) (no_ret (decide_eq_false ?_) (yes_ret (decide_eq_true (by omega)) (yes_ret (decide_eq_true (by omega)) (yes_ret (lim_t (by omega)) ?_))))
      · rw [Go.IntWalk.i64_in _ (by omega)]; omega
      · rw [List.map_append] at hn
        refine Eq.trans hn ?_
        rw [List.drop_eq_getElem_cons (by omega), List.drop_eq_nil_of_le (by omega), getD_lt (by omega : i < a0.length)]
        simp only [up, List.map_append]
    | k + 2, hi, ih =>
      obtain ⟨n, hn⟩ := ih k (by omega) (i + 2) (c ++ [spec_NodeOf.md (a0.getD i 0) (a0.getD (i + 1) 0)]) (by omega) (by simp; omega)
      refine ⟨n + 1, ?_⟩
      show step (iter step n) (Pt.p0 _ _ _) = _
      have w1 : IntKind.i64.wrap ((i : Int) + 1) = ((i + 1 : Nat) : Int) := by rw [Go.IntWalk.i64_in _ (by omega)]; omega
      have w2 : IntKind.i64.wrap ((i : Int) + 2) = ((i + 2 : Nat) : Int) := by rw [Go.IntWalk.i64_in _ (by omega)]; omega
      simp only [step, List.length_map, w1, w2, toNat_nat, iAt_getD]
      refine yes_ret (decide_eq_true (by omega)) (yes_ret (decide_eq_true (by omega)) (yes_ret (decide_eq_true (by omega)) (yes_ret (decide_eq_true (by omega)) (yes_ret (decide_eq_true (by omega)) (yes_ret (decide_eq_true (by omega)) ?_)))))
      refine call_to (spec_NodeOf.md (a0.getD i 0) (a0.getD (i + 1) 0)) (spec_NodeOf.R_eq trivial) (yes_ret (lim_t (by omega)) ?_)
      rw [List.map_append] at hn
      refine Eq.trans hn ?_
      rw [List.drop_eq_getElem_cons (by omega : i < a0.length), List.drop_eq_getElem_cons (by omega : i + 1 < a0.length), getD_lt (by omega : i < a0.length), getD_lt (by omega : i + 1 < a0.length)]
      simp only [up, List.append_assoc, List.cons_append, List.nil_append]
  have := key a0.length 0 [] (by omega) (by simp)
  unfold start md
  simpa using this
theorem valid_ : Valid Tryz.prog Ev 264 con := VV (run := fun n x => start (iter step n) x) mix tab_ok (.cons spec_NodeOf.valid_ .nil) Tryz.func264 (by kernel_rfl) run_eq (fun _ a _ _ hg => okF a hg)
end spec_l10Up
/-! spec.TopOf -/
namespace spec_TopOf
inductive Pt where
  | p0 (a : List (List L))
  | p1 (a : List (List L))
def pid : Pt → Nat
  | .p0 .. => 4
  | .p1 .. => 4
def pvs : Pt → List V
  | .p0 a => [.sl none 3 a]
  | .p1 a => [.own 0]
def phs : Pt → List Root
  | .p0 a => []
  | .p1 a => [.row 3 a]
noncomputable def step (J : Pt → Ans) : Pt → Ans
  | .p0 a => (bif (decide ((a.length : Int) > 1)) then (call (spec_l10Up.R a) fun v1 => J (.p1 v1)) else (bif (decide ((0 : Int) < (a.length : Int))) then ret ((iAt a 0) : Int) else none))
  | .p1 a => (bif (decide ((a.length : Int) > 1)) then (call (spec_l10Up.R a) fun v1 => J (.p1 v1)) else (bif (decide ((0 : Int) < (a.length : Int))) then ret ((iAt a 0) : Int) else none))
noncomputable def start (J : Pt → Ans) (x0 : List (List L)) : Ans := (bif ((x0.length : Int) == 0) then (call (spec_Hash.R [[L.int 229]]) fun v1 => ret (v1 : Int)) else J (.p0 x0))
def live : Nat → Live := fun i => match i with | 4 => [(3, none)] | _ => []
def pats : List Pat := [.rd (.sl 3)]
def res : RP := .one (.rd (.int .i64))
noncomputable abbrev E : Env := ⟨assoc Tab, conG [(186, spec_Hash.con), (264, spec_l10Up.con)], 18⟩
set_option maxRecDepth 100000
theorem step_eq (I : Heads) (p : Pt) : enterC E live I (pid p) (bodyOf Tryz.f250) (stOf (live (pid p)) (pvs p) (phs p)) (doneK E Tryz.f250 res) = step (fun q => I (pid q) (pvs q) (phs q)) p := by
  cases p <;> kernel_rfl
theorem start_eq (I : Heads) (ls : List L) : runC E live I (bodyOf Tryz.f250) (initS pats ls) (doneK E Tryz.f250 res) = start (fun q => I (pid q) (pvs q) (phs q)) (ls.headD .hole).toSl := by kernel_rfl
theorem run_eq (n : Nat) (ls : List L) : runF E live Tryz.f250 res n (initS pats ls) = start (iter step n) (ls.headD .hole).toSl := runF_iter (id := pid) (vs := pvs) (hs := phs) (step := step) (start := fun J => start J (ls.headD .hole).toSl) step_eq (fun I => start_eq I ls) n
noncomputable def top : Nat → List Int → Int
  | 0, l => l.getD 0 0
  | k + 1, l => if l.length > 1 then top k (spec_l10Up.up l) else l.getD 0 0
noncomputable def md (a0 : List Int) : Int := (if a0.length = 0 then spec_Hash.md [229] else top a0.length a0)
def gd (a0 : List Int) : Prop := SmL (2 ^ 38) (fun y : Int => True) a0
def acc (ls : List L) : List (List L) := (ls.headD .hole).toSl
noncomputable def R : (List (List L)) → Option Int := RR gd md
theorem R_eq {a0} (h : gd a0) : R (a0.map iRow) = some (md a0) := RR_eq (a := a0) h
noncomputable def con : Con := CN pats res acc R
theorem okF (a0 : List Int) (hg : gd a0) : ∃ n, start (iter step n) (a0.map iRow) = ret ((md a0) : Int) := by
  have one : ∀ (l : List Int) (r : Int) (n : Nat), SmL (2 ^ 38) (fun y : Int => True) l → 0 < l.length → (if l.length > 1 then iter step n (Pt.p1 ((spec_l10Up.up l).map iRow)) = ret r else ret (l.getD 0 0 : Int) = ret r) → step (iter step n) (Pt.p0 (l.map iRow)) = ret r ∧ step (iter step n) (Pt.p1 (l.map iRow)) = ret r := by
    intro l r n hl hp h
    simp only [step, List.length_map, iAt_getD]
    by_cases h1 : l.length > 1
    · rw [if_pos h1] at h
      have hx : ∀ y : Ans, (bif decide ((l.length : Int) > 1) then call (spec_l10Up.R (l.map iRow)) (fun v1 => iter step n (Pt.p1 v1)) else y) = ret r := fun y =>
        yes_ret (decide_eq_true (by omega)) (call_to ((spec_l10Up.up l).map iRow) (spec_l10Up.R_eq hl) h)
      exact ⟨hx _, hx _⟩
    · rw [if_neg h1] at h
      have hx : ∀ y : Ans, (bif decide ((l.length : Int) > 1) then y else (bif decide ((0 : Int) < (l.length : Int)) then ret (l.getD 0 0 : Int) else none)) = ret r := fun y =>
        no_ret (decide_eq_false (by omega)) (yes_ret (decide_eq_true (by omega)) h)
      exact ⟨hx _, hx _⟩
  have key : ∀ (k : Nat) (l : List Int), SmL (2 ^ 38) (fun y : Int => True) l → 0 < l.length → l.length ≤ k + 1 → ∃ n, step (iter step n) (Pt.p0 (l.map iRow)) = ret (top k l) ∧ step (iter step n) (Pt.p1 (l.map iRow)) = ret (top k l) := by
    intro k
    induction k with
    | zero =>
      intro l hl hp hk
      exact ⟨0, one l _ 0 hl hp (by rw [if_neg (by omega)]; rfl)⟩
    | succ k ih =>
      intro l hl hp hk
      by_cases h1 : l.length > 1
      · have hu := spec_l10Up.up_length l
        have hl1 := hl.1
        obtain ⟨n, _, hn⟩ := ih (spec_l10Up.up l) ⟨by omega, fun _ _ => trivial⟩ (by omega) (by omega)
        refine ⟨n + 1, one l _ (n + 1) hl hp ?_⟩
        rw [if_pos h1]
        refine Eq.trans hn ?_
        unfold top
        rw [if_pos h1]
        cases k <;> rfl
      · refine ⟨0, one l _ 0 hl hp ?_⟩
        rw [if_neg h1]
        unfold top
        rw [if_neg h1]
  unfold md
  unfold start
  simp only [List.length_map]
  by_cases h0 : a0.length = 0
  · have e : ((a0.length : Int) == 0) = true := by simpa using List.length_eq_zero_iff.1 h0
    refine ⟨0, ?_⟩
    rw [e]
    refine call_to (spec_Hash.md [229]) (spec_Hash.R_eq (a0 := [229]) ⟨by decide, fun _ _ => trivial⟩) ?_
    rw [if_pos h0]
  · have e : ((a0.length : Int) == 0) = false := beq_eq_false_iff_ne.2 (by omega)
    obtain ⟨n, hn, _⟩ := key a0.length a0 hg (by omega) (by omega)
    refine ⟨n + 1, ?_⟩
    rw [e, if_neg h0]
    exact hn
theorem valid_ : Valid Tryz.prog Ev 250 con := VV (run := fun n x => start (iter step n) x) mix tab_ok (.cons spec_Hash.valid_ (.cons spec_l10Up.valid_ .nil)) Tryz.func250 (by kernel_rfl) run_eq (fun _ a _ _ hg => okF a hg)
end spec_TopOf
/-! spec.RootOf -/
namespace spec_RootOf
noncomputable def F (x0 : List (List L)) : Ans := (call (spec_LeavesOf.R x0) fun v1 => (call (spec_TopOf.R v1) fun v2 => (call (spec_l10Root.R ((x0.length : Int), v2)) fun v3 => ret (v3 : Int))))
def pats : List Pat := [.rd (.sl 55)]
def res : RP := .one (.rd (.int .i64))
noncomputable abbrev E : Env := ⟨assoc Tab, conG [(251, spec_LeavesOf.con), (250, spec_TopOf.con), (223, spec_l10Root.con)], 9⟩
set_option maxRecDepth 100000
theorem run_eq (n : Nat) (ls : List L) : runF E (fun _ => []) Tryz.f225 res n (initS pats ls) = F (ls.headD .hole).toSl := by kernel_rfl
noncomputable def md (a0 : List MEntry) : Int := ((spec_l10Root.md (a0.length : Int) (spec_TopOf.md (spec_LeavesOf.md a0))) : Int)
def gd (a0 : List MEntry) : Prop := (SmL (2 ^ 21) (fun y : MEntry => MEntry.Sm (2 ^ 21) y) a0)
def acc (ls : List L) : List (List L) := (ls.headD .hole).toSl
noncomputable def R : (List (List L)) → Option Int := RR gd md
theorem R_eq {a0} (h : gd a0) : R (a0.map MEntry.row) = some (md a0) := RR_eq (a := a0) h
noncomputable def con : Con := CN pats res acc R
theorem okF (a0 : List MEntry) (hg : gd a0) : F (a0.map MEntry.row) = ret ((md a0) : Int) := by
  unfold gd at hg
  have H0 := hg
  unfold F md
  try simp only [S0]
  refine call_to ((spec_LeavesOf.md a0).map iRow) (spec_LeavesOf.R_eq (a0 := a0) H0) ?_
  try simp only [S0]
  refine call_to (spec_TopOf.md (spec_LeavesOf.md a0)) (spec_TopOf.R_eq (a0 := (spec_LeavesOf.md a0)) ⟨(by
      have := spec_LeavesOf.len a0
      have := (H0).1
      try simp (disch := omega) only [LN, wi]
      first | omega | (simp; done) | (simp; omega)), fun _ _ => trivial⟩) ?_
  refine call_to (spec_l10Root.md (a0.length : Int) (spec_TopOf.md (spec_LeavesOf.md a0))) (spec_l10Root.R_eq (a0 := (a0.length : Int)) (a1 := (spec_TopOf.md (spec_LeavesOf.md a0))) trivial) ?_
  first | rfl | (simp only [S0, MP]; first | done | rfl)
theorem valid_ : Valid Tryz.prog Ev 225 con := VV (run := fun _ x => F x) mix tab_ok (.cons spec_LeavesOf.valid_ (.cons spec_TopOf.valid_ (.cons spec_l10Root.valid_ .nil))) Tryz.func225 (by kernel_rfl) run_eq (fun _ a _ _ hg => ⟨0, okF a hg⟩)
end spec_RootOf
/-! spec.l12None -/
namespace spec_l12None
noncomputable def F (x0 : REntry) (x1 : RProof) : Ans := (call (spec_EqualEntries.R (x0, (⟨(⟨#[]⟩ : ByteArray), 0, 0, []⟩ : REntry))) fun v1 => (bif v1 then (call (spec_EqualProofs.R (x1, (⟨0, []⟩ : RProof))) fun v2 => ret (v2 : Bool)) else ret (false : Bool)))
def pats : List Pat := [.agg [.str, .int .i64, .int .i64, .sl 9], .agg [.int .i64, .sl 3]]
def res : RP := .one (.rd (.bool))
noncomputable abbrev E : Env := ⟨assoc Tab, conG [(107, spec_EqualEntries.con), (154, spec_EqualProofs.con)], 13⟩
set_option maxRecDepth 100000
theorem run_eq (n : Nat) (ls : List L) : runF E (fun _ => []) Tryz.f178 res n (initS pats ls) = F (REntry.dec ls) (RProof.dec (dropT 4 ls)) := by kernel_rfl
noncomputable def md (a0 : MEntry) (a1 : MProof) : Bool := (bif (spec_EqualEntries.md a0 (⟨((⟨#[]⟩ : ByteArray) : ByteArray), 0, 0, []⟩ : MEntry)) then ((spec_EqualProofs.md a1 (⟨0, []⟩ : MProof)) : Bool) else (false : Bool))
def gd (a0 : MEntry) (a1 : MProof) : Prop := (MEntry.Sm (2 ^ 21) a0) ∧ (MProof.Sm (2 ^ 21) a1)
def acc (ls : List L) : REntry × RProof := ((REntry.dec ls), (RProof.dec (dropT 4 ls)))
noncomputable def R : (REntry × RProof) → Option Bool := RR (p2 gd) (u2 md)
theorem R_eq {a0} {a1} (h : gd a0 a1) : R ((MEntry.r a0), (MProof.r a1)) = some (md a0 a1) := RR_eq (a := (a0, a1)) h
noncomputable def con : Con := CN pats res acc R
theorem okF (a0 : MEntry) (a1 : MProof) (hg : gd a0 a1) : F (MEntry.r a0) (MProof.r a1) = ret ((md a0 a1) : Bool) := by
  unfold gd at hg
  obtain ⟨H0, H1⟩ := hg
  unfold F md
  try simp only [S0]
  refine call_to (spec_EqualEntries.md a0 (⟨((⟨#[]⟩ : ByteArray) : ByteArray), 0, 0, []⟩ : MEntry)) (spec_EqualEntries.R_eq (a0 := a0) (a1 := (⟨((⟨#[]⟩ : ByteArray) : ByteArray), 0, 0, []⟩ : MEntry)) ⟨H0, ⟨(by decide), SmL.nil⟩⟩) ?_
  refine bif_out ret (fun c1 => ?_) (fun _ => rfl)
  refine call_to (spec_EqualProofs.md a1 (⟨0, []⟩ : MProof)) (spec_EqualProofs.R_eq (a0 := a1) (a1 := (⟨0, []⟩ : MProof)) ⟨H1, SmL.nil⟩) ?_
  first | rfl | (simp only [S0, MP]; first | done | rfl)
theorem valid_ : Valid Tryz.prog Ev 178 con := VV (run := fun _ x => F x.1 x.2) mix tab_ok (.cons spec_EqualEntries.valid_ (.cons spec_EqualProofs.valid_ .nil)) Tryz.func178 (by kernel_rfl) run_eq (fun _ a _ _ hg => ⟨0, okF a.1 a.2 hg⟩)
end spec_l12None
/-! spec.CompareLabels -/
namespace spec_CompareLabels
noncomputable def F (x0 : ByteArray) (x1 : ByteArray) : Ans := (bif (Op.bytesLess x0.toList x1.toList) then ret ((-1) : Int) else (bif (!((Op.bytesLess x0.toList x1.toList) || (x0.toList == x1.toList))) then ret (1 : Int) else ret (0 : Int)))
def pats : List Pat := [.rd (.str), .rd (.str)]
def res : RP := .one (.rd (.int .i64))
noncomputable abbrev E : Env := ⟨assoc Tab, conG [], 13⟩
set_option maxRecDepth 100000
theorem run_eq (n : Nat) (ls : List L) : runF E (fun _ => []) Tryz.f226 res n (initS pats ls) = F (ls.headD .hole).toStr ((dropT 1 ls).headD .hole).toStr := by kernel_rfl
noncomputable def md (a0 : ByteArray) (a1 : ByteArray) : Int := (bif (Op.bytesLess a0.toList a1.toList) then ((-1) : Int) else (bif (!((Op.bytesLess a0.toList a1.toList) || (a0.toList == a1.toList))) then (1 : Int) else (0 : Int)))
def gd (a0 : ByteArray) (a1 : ByteArray) : Prop := True
def acc (ls : List L) : ByteArray × ByteArray := ((ls.headD .hole).toStr, ((dropT 1 ls).headD .hole).toStr)
noncomputable def R : (ByteArray × ByteArray) → Option Int := RR (p2 gd) (u2 md)
theorem R_eq {a0} {a1} (h : gd a0 a1) : R (a0, a1) = some (md a0 a1) := RR_eq (a := (a0, a1)) h
noncomputable def con : Con := CN pats res acc R
theorem okF (a0 : ByteArray) (a1 : ByteArray) (hg : gd a0 a1) : F a0 a1 = ret ((md a0 a1) : Int) := by
  unfold F md
  try simp only [S0]
  refine bif_out ret (fun _ => rfl) (fun c1 => ?_)
  refine bif_out ret (fun _ => rfl) (fun _ => rfl)
theorem valid_ : Valid Tryz.prog Ev 226 con := VV (run := fun _ x => F x.1 x.2) mix tab_ok .nil Tryz.func226 (by kernel_rfl) run_eq (fun _ a _ _ hg => ⟨0, okF a.1 a.2 hg⟩)
theorem vals (a b : ByteArray) : md a b = -1 ∨ md a b = 0 ∨ md a b = 1 := by
  unfold md
  cases Op.bytesLess a.toList b.toList
  · cases (!(false || (a.toList == b.toList))) <;> simp
  · simp
theorem lt (a b : ByteArray) : decide (md a b < 0) = (md a b == -1) := by
  rcases vals a b with h | h | h <;> rw [h] <;> rfl
theorem gt (a b : ByteArray) : decide (md a b > 0) = (md a b == 1) := by
  rcases vals a b with h | h | h <;> rw [h] <;> rfl
end spec_CompareLabels
/-! spec.CheckAbsence -/
namespace spec_CheckAbsence
noncomputable def F (x0 : Int) (x1 : Int) (x2 : ByteArray) (x3 : RGap) : Ans := (call (spec_IsLabel.R x2) fun v1 => (bif (!v1) then ret (false : Bool) else (call (spec_l1In.R (x3.fAt, 0, x1)) fun v2 => (bif (!v2) then ret (false : Bool) else (bif (x1 == 0) then (call (spec_RootOf.R []) fun v3 => (bif (x0 != v3) then ret (false : Bool) else (bif (x3.fAt == 0) then (call (spec_l12None.R (x3.fBefore, x3.fLeft)) fun v4 => (bif (!v4) then ret (false : Bool) else (bif (x3.fAt == x1) then (call (spec_l12None.R (x3.fAfter, x3.fRight)) fun v5 => ret (v5 : Bool)) else (call (spec_CheckEntry.R (x0, x1, x3.fAfter, x3.fRight)) fun v6 => (bif v6 then (bif (x3.fRight.fAt == x3.fAt) then (call (spec_CompareLabels.R (x3.fAfter.fLabel, x2)) fun v7 => ret ((v7 == 1) : Bool)) else ret (false : Bool)) else ret (false : Bool)))))) else (call (spec_CheckEntry.R (x0, x1, x3.fBefore, x3.fLeft)) fun v8 => (bif (!v8) then ret (false : Bool) else (bif (x3.fLeft.fAt != (IntKind.i64.wrap (x3.fAt - 1))) then ret (false : Bool) else (call (spec_CompareLabels.R (x3.fBefore.fLabel, x2)) fun v9 => (bif (v9 != (-1)) then ret (false : Bool) else (bif (x3.fAt == x1) then (call (spec_l12None.R (x3.fAfter, x3.fRight)) fun v10 => ret (v10 : Bool)) else (call (spec_CheckEntry.R (x0, x1, x3.fAfter, x3.fRight)) fun v11 => (bif v11 then (bif (x3.fRight.fAt == x3.fAt) then (call (spec_CompareLabels.R (x3.fAfter.fLabel, x2)) fun v12 => ret ((v12 == 1) : Bool)) else ret (false : Bool)) else ret (false : Bool)))))))))))) else (bif (x3.fAt == 0) then (call (spec_l12None.R (x3.fBefore, x3.fLeft)) fun v13 => (bif (!v13) then ret (false : Bool) else (bif (x3.fAt == x1) then (call (spec_l12None.R (x3.fAfter, x3.fRight)) fun v14 => ret (v14 : Bool)) else (call (spec_CheckEntry.R (x0, x1, x3.fAfter, x3.fRight)) fun v15 => (bif v15 then (bif (x3.fRight.fAt == x3.fAt) then (call (spec_CompareLabels.R (x3.fAfter.fLabel, x2)) fun v16 => ret ((v16 == 1) : Bool)) else ret (false : Bool)) else ret (false : Bool)))))) else (call (spec_CheckEntry.R (x0, x1, x3.fBefore, x3.fLeft)) fun v17 => (bif (!v17) then ret (false : Bool) else (bif (x3.fLeft.fAt != (IntKind.i64.wrap (x3.fAt - 1))) then ret (false : Bool) else (call (spec_CompareLabels.R (x3.fBefore.fLabel, x2)) fun v18 => (bif (v18 != (-1)) then ret (false : Bool) else (bif (x3.fAt == x1) then (call (spec_l12None.R (x3.fAfter, x3.fRight)) fun v19 => ret (v19 : Bool)) else (call (spec_CheckEntry.R (x0, x1, x3.fAfter, x3.fRight)) fun v20 => (bif v20 then (bif (x3.fRight.fAt == x3.fAt) then (call (spec_CompareLabels.R (x3.fAfter.fLabel, x2)) fun v21 => ret ((v21 == 1) : Bool)) else ret (false : Bool)) else ret (false : Bool)))))))))))))))
def pats : List Pat := [.rd (.int .i64), .rd (.int .i64), .rd (.str), .agg [.int .i64, .str, .int .i64, .int .i64, .sl 9, .str, .int .i64, .int .i64, .sl 9, .int .i64, .sl 3, .int .i64, .sl 3]]
def res : RP := .one (.rd (.bool))
noncomputable abbrev E : Env := ⟨assoc Tab, conG [(224, spec_IsLabel.con), (81, spec_l1In.con), (225, spec_RootOf.con), (178, spec_l12None.con), (176, spec_CheckEntry.con), (226, spec_CompareLabels.con)], 95⟩
set_option maxRecDepth 100000
theorem run_eq (n : Nat) (ls : List L) : runF E (fun _ => []) Tryz.f177 res n (initS pats ls) = F (ls.headD .hole).toInt ((dropT 1 ls).headD .hole).toInt ((dropT 2 ls).headD .hole).toStr (RGap.dec (dropT 3 ls)) := by kernel_rfl
noncomputable def md (a0 : Int) (a1 : Int) (a2 : ByteArray) (a3 : MGap) : Bool := (bif (!(spec_IsLabel.md a2)) then (false : Bool) else (bif (!(spec_l1In.md a3.fAt 0 a1)) then (false : Bool) else (bif (a1 == 0) then (bif (a0 != (spec_RootOf.md [])) then (false : Bool) else (bif (a3.fAt == 0) then (bif (!(spec_l12None.md a3.fBefore a3.fLeft)) then (false : Bool) else (bif (a3.fAt == a1) then ((spec_l12None.md a3.fAfter a3.fRight) : Bool) else (bif (spec_CheckEntry.md a0 a1 a3.fAfter a3.fRight) then (bif (a3.fRight.fAt == a3.fAt) then (((spec_CompareLabels.md a3.fAfter.fLabel a2) == 1) : Bool) else (false : Bool)) else (false : Bool)))) else (bif (!(spec_CheckEntry.md a0 a1 a3.fBefore a3.fLeft)) then (false : Bool) else (bif (a3.fLeft.fAt != (IntKind.i64.wrap (a3.fAt - 1))) then (false : Bool) else (bif ((spec_CompareLabels.md a3.fBefore.fLabel a2) != (-1)) then (false : Bool) else (bif (a3.fAt == a1) then ((spec_l12None.md a3.fAfter a3.fRight) : Bool) else (bif (spec_CheckEntry.md a0 a1 a3.fAfter a3.fRight) then (bif (a3.fRight.fAt == a3.fAt) then (((spec_CompareLabels.md a3.fAfter.fLabel a2) == 1) : Bool) else (false : Bool)) else (false : Bool)))))))) else (bif (a3.fAt == 0) then (bif (!(spec_l12None.md a3.fBefore a3.fLeft)) then (false : Bool) else (bif (a3.fAt == a1) then ((spec_l12None.md a3.fAfter a3.fRight) : Bool) else (bif (spec_CheckEntry.md a0 a1 a3.fAfter a3.fRight) then (bif (a3.fRight.fAt == a3.fAt) then (((spec_CompareLabels.md a3.fAfter.fLabel a2) == 1) : Bool) else (false : Bool)) else (false : Bool)))) else (bif (!(spec_CheckEntry.md a0 a1 a3.fBefore a3.fLeft)) then (false : Bool) else (bif (a3.fLeft.fAt != (IntKind.i64.wrap (a3.fAt - 1))) then (false : Bool) else (bif ((spec_CompareLabels.md a3.fBefore.fLabel a2) != (-1)) then (false : Bool) else (bif (a3.fAt == a1) then ((spec_l12None.md a3.fAfter a3.fRight) : Bool) else (bif (spec_CheckEntry.md a0 a1 a3.fAfter a3.fRight) then (bif (a3.fRight.fAt == a3.fAt) then (((spec_CompareLabels.md a3.fAfter.fLabel a2) == 1) : Bool) else (false : Bool)) else (false : Bool))))))))))
def gd (a0 : Int) (a1 : Int) (a2 : ByteArray) (a3 : MGap) : Prop := (a2.size ≤ (2 ^ 21)) ∧ (MGap.Sm (2 ^ 21) a3)
def acc (ls : List L) : Int × Int × ByteArray × RGap := ((ls.headD .hole).toInt, ((dropT 1 ls).headD .hole).toInt, ((dropT 2 ls).headD .hole).toStr, (RGap.dec (dropT 3 ls)))
noncomputable def R : (Int × Int × ByteArray × RGap) → Option Bool := RR (p4 gd) (u4 md)
theorem R_eq {a0} {a1} {a2} {a3} (h : gd a0 a1 a2 a3) : R (a0, a1, a2, (MGap.r a3)) = some (md a0 a1 a2 a3) := RR_eq (a := (a0, a1, a2, a3)) h
noncomputable def con : Con := CN pats res acc R
theorem okF (a0 : Int) (a1 : Int) (a2 : ByteArray) (a3 : MGap) (hg : gd a0 a1 a2 a3) : F a0 a1 a2 (MGap.r a3) = ret ((md a0 a1 a2 a3) : Bool) := by
  unfold gd at hg
  obtain ⟨H2, H3⟩ := hg
  unfold F md
  try simp only [S0, MEntry.rs, MProof.rs, MGap.rs]
  refine call_to (spec_IsLabel.md a2) (spec_IsLabel.R_eq (a0 := a2) H2) ?_
  refine bif_out ret (fun _ => rfl) (fun c1 => ?_)
  refine call_to (spec_l1In.md a3.fAt 0 a1) (spec_l1In.R_eq (a0 := a3.fAt) (a1 := 0) (a2 := a1) trivial) ?_
  refine bif_out ret (fun _ => rfl) (fun c2 => ?_)
  refine bif_out ret (fun c3 => ?_) (fun c3 => ?_)
  · refine call_to (spec_RootOf.md []) ?_ ?_
    · have R_ := spec_RootOf.R_eq (a0 := []) SmL.nil
      first | exact R_ | (simp only [MP, S0, MEntry.rs, MProof.rs, MGap.rs] at R_ ⊢; first | exact R_ | (rw [← R_]; rfl))
    refine bif_out ret (fun _ => rfl) (fun c4 => ?_)
    refine bif_out ret (fun c5 => ?_) (fun c5 => ?_)
    · refine call_to (spec_l12None.md a3.fBefore a3.fLeft) (spec_l12None.R_eq (a0 := a3.fBefore) (a1 := a3.fLeft) ⟨H3.1, H3.2.2.1⟩) ?_
      refine bif_out ret (fun _ => rfl) (fun c6 => ?_)
      refine bif_out ret (fun c7 => ?_) (fun c7 => ?_)
      · refine call_to (spec_l12None.md a3.fAfter a3.fRight) (spec_l12None.R_eq (a0 := a3.fAfter) (a1 := a3.fRight) ⟨H3.2.1, H3.2.2.2⟩) ?_
        first | rfl | (simp only [S0, MEntry.rs, MProof.rs, MGap.rs, MP]; first | done | rfl)
      · refine call_to (spec_CheckEntry.md a0 a1 a3.fAfter a3.fRight) (spec_CheckEntry.R_eq (a0 := a0) (a1 := a1) (a2 := a3.fAfter) (a3 := a3.fRight) ⟨H3.2.1, H3.2.2.2⟩) ?_
        refine bif_out ret (fun c8 => ?_) (fun _ => rfl)
        refine bif_out ret (fun c9 => ?_) (fun _ => rfl)
        refine call_to (spec_CompareLabels.md a3.fAfter.fLabel a2) (spec_CompareLabels.R_eq (a0 := a3.fAfter.fLabel) (a1 := a2) trivial) ?_
        first | rfl | (simp only [S0, MEntry.rs, MProof.rs, MGap.rs, MP]; first | done | rfl)
    · refine call_to (spec_CheckEntry.md a0 a1 a3.fBefore a3.fLeft) (spec_CheckEntry.R_eq (a0 := a0) (a1 := a1) (a2 := a3.fBefore) (a3 := a3.fLeft) ⟨H3.1, H3.2.2.1⟩) ?_
      refine bif_out ret (fun _ => rfl) (fun c10 => ?_)
      refine bif_out ret (fun _ => rfl) (fun c11 => ?_)
      refine call_to (spec_CompareLabels.md a3.fBefore.fLabel a2) (spec_CompareLabels.R_eq (a0 := a3.fBefore.fLabel) (a1 := a2) trivial) ?_
      refine bif_out ret (fun _ => rfl) (fun c12 => ?_)
      refine bif_out ret (fun c13 => ?_) (fun c13 => ?_)
      · refine call_to (spec_l12None.md a3.fAfter a3.fRight) (spec_l12None.R_eq (a0 := a3.fAfter) (a1 := a3.fRight) ⟨H3.2.1, H3.2.2.2⟩) ?_
        first | rfl | (simp only [S0, MEntry.rs, MProof.rs, MGap.rs, MP]; first | done | rfl)
      · refine call_to (spec_CheckEntry.md a0 a1 a3.fAfter a3.fRight) (spec_CheckEntry.R_eq (a0 := a0) (a1 := a1) (a2 := a3.fAfter) (a3 := a3.fRight) ⟨H3.2.1, H3.2.2.2⟩) ?_
        refine bif_out ret (fun c14 => ?_) (fun _ => rfl)
        refine bif_out ret (fun c15 => ?_) (fun _ => rfl)
        refine call_to (spec_CompareLabels.md a3.fAfter.fLabel a2) (spec_CompareLabels.R_eq (a0 := a3.fAfter.fLabel) (a1 := a2) trivial) ?_
        first | rfl | (simp only [S0, MEntry.rs, MProof.rs, MGap.rs, MP]; first | done | rfl)
  · refine bif_out ret (fun c16 => ?_) (fun c16 => ?_)
    · refine call_to (spec_l12None.md a3.fBefore a3.fLeft) (spec_l12None.R_eq (a0 := a3.fBefore) (a1 := a3.fLeft) ⟨H3.1, H3.2.2.1⟩) ?_
      refine bif_out ret (fun _ => rfl) (fun c17 => ?_)
      refine bif_out ret (fun c18 => ?_) (fun c18 => ?_)
      · refine call_to (spec_l12None.md a3.fAfter a3.fRight) (spec_l12None.R_eq (a0 := a3.fAfter) (a1 := a3.fRight) ⟨H3.2.1, H3.2.2.2⟩) ?_
        first | rfl | (simp only [S0, MEntry.rs, MProof.rs, MGap.rs, MP]; first | done | rfl)
      · refine call_to (spec_CheckEntry.md a0 a1 a3.fAfter a3.fRight) (spec_CheckEntry.R_eq (a0 := a0) (a1 := a1) (a2 := a3.fAfter) (a3 := a3.fRight) ⟨H3.2.1, H3.2.2.2⟩) ?_
        refine bif_out ret (fun c19 => ?_) (fun _ => rfl)
        refine bif_out ret (fun c20 => ?_) (fun _ => rfl)
        refine call_to (spec_CompareLabels.md a3.fAfter.fLabel a2) (spec_CompareLabels.R_eq (a0 := a3.fAfter.fLabel) (a1 := a2) trivial) ?_
        first | rfl | (simp only [S0, MEntry.rs, MProof.rs, MGap.rs, MP]; first | done | rfl)
    · refine call_to (spec_CheckEntry.md a0 a1 a3.fBefore a3.fLeft) (spec_CheckEntry.R_eq (a0 := a0) (a1 := a1) (a2 := a3.fBefore) (a3 := a3.fLeft) ⟨H3.1, H3.2.2.1⟩) ?_
      refine bif_out ret (fun _ => rfl) (fun c21 => ?_)
      refine bif_out ret (fun _ => rfl) (fun c22 => ?_)
      refine call_to (spec_CompareLabels.md a3.fBefore.fLabel a2) (spec_CompareLabels.R_eq (a0 := a3.fBefore.fLabel) (a1 := a2) trivial) ?_
      refine bif_out ret (fun _ => rfl) (fun c23 => ?_)
      refine bif_out ret (fun c24 => ?_) (fun c24 => ?_)
      · refine call_to (spec_l12None.md a3.fAfter a3.fRight) (spec_l12None.R_eq (a0 := a3.fAfter) (a1 := a3.fRight) ⟨H3.2.1, H3.2.2.2⟩) ?_
        first | rfl | (simp only [S0, MEntry.rs, MProof.rs, MGap.rs, MP]; first | done | rfl)
      · refine call_to (spec_CheckEntry.md a0 a1 a3.fAfter a3.fRight) (spec_CheckEntry.R_eq (a0 := a0) (a1 := a1) (a2 := a3.fAfter) (a3 := a3.fRight) ⟨H3.2.1, H3.2.2.2⟩) ?_
        refine bif_out ret (fun c25 => ?_) (fun _ => rfl)
        refine bif_out ret (fun c26 => ?_) (fun _ => rfl)
        refine call_to (spec_CompareLabels.md a3.fAfter.fLabel a2) (spec_CompareLabels.R_eq (a0 := a3.fAfter.fLabel) (a1 := a2) trivial) ?_
        first | rfl | (simp only [S0, MEntry.rs, MProof.rs, MGap.rs, MP]; first | done | rfl)
theorem valid_ : Valid Tryz.prog Ev 177 con := VV (run := fun _ x => F x.1 x.2.1 x.2.2.1 x.2.2.2) mix tab_ok (.cons spec_IsLabel.valid_ (.cons spec_l1In.valid_ (.cons spec_RootOf.valid_ (.cons spec_l12None.valid_ (.cons spec_CheckEntry.valid_ (.cons spec_CompareLabels.valid_ .nil)))))) Tryz.func177 (by kernel_rfl) run_eq (fun _ a _ _ hg => ⟨0, okF a.1 a.2.1 a.2.2.1 a.2.2.2 hg⟩)
end spec_CheckAbsence
/-! spec.l21Proved -/
namespace spec_l21Proved
noncomputable def F (x0 : RHead) (x1 : ByteArray) (x2 : RAnswer) : Ans := (bif x2.fFound then (bif (x2.fEntry.fLabel == x1) then (call (spec_CheckEntry.R (x0.fRoot, x0.fCount, x2.fEntry, x2.fProof)) fun v1 => (bif v1 then (call (spec_EqualGaps.R (x2.fGap, (⟨0, (⟨(⟨#[]⟩ : ByteArray), 0, 0, []⟩ : REntry), (⟨(⟨#[]⟩ : ByteArray), 0, 0, []⟩ : REntry), (⟨0, []⟩ : RProof), (⟨0, []⟩ : RProof)⟩ : RGap))) fun v2 => ret (v2 : Bool)) else ret (false : Bool))) else ret (false : Bool)) else (call (spec_CheckAbsence.R (x0.fRoot, x0.fCount, x1, x2.fGap)) fun v3 => (bif v3 then (call (spec_l12None.R (x2.fEntry, x2.fProof)) fun v4 => ret (v4 : Bool)) else ret (false : Bool))))
def pats : List Pat := [.agg [.int .i64, .int .i64, .int .i64, .int .i64, .int .i64, .int .i64, .int .i64, .int .i64, .sl 3, .int .i64, .sl 3, .int .i64, .int .i64, .sl 3, .int .i64, .bool], .rd (.str), .agg [.sl 92, .bool, .str, .int .i64, .int .i64, .sl 9, .int .i64, .sl 3, .int .i64, .str, .int .i64, .int .i64, .sl 9, .str, .int .i64, .int .i64, .sl 9, .int .i64, .sl 3, .int .i64, .sl 3]]
def res : RP := .one (.rd (.bool))
noncomputable abbrev E : Env := ⟨assoc Tab, conG [(176, spec_CheckEntry.con), (155, spec_EqualGaps.con), (177, spec_CheckAbsence.con), (178, spec_l12None.con)], 46⟩
set_option maxRecDepth 100000
theorem run_eq (n : Nat) (ls : List L) : runF E (fun _ => []) Tryz.f129 res n (initS pats ls) = F (RHead.dec ls) ((dropT 16 ls).headD .hole).toStr (RAnswer.dec (dropT 17 ls)) := by kernel_rfl
noncomputable def md (a0 : MHead) (a1 : ByteArray) (a2 : MAnswer) : Bool := (bif a2.fFound then (bif (a2.fEntry.fLabel == a1) then (bif (spec_CheckEntry.md a0.fRoot a0.fCount a2.fEntry a2.fProof) then ((spec_EqualGaps.md a2.fGap (⟨0, (⟨((⟨#[]⟩ : ByteArray) : ByteArray), 0, 0, []⟩ : MEntry), (⟨((⟨#[]⟩ : ByteArray) : ByteArray), 0, 0, []⟩ : MEntry), (⟨0, []⟩ : MProof), (⟨0, []⟩ : MProof)⟩ : MGap)) : Bool) else (false : Bool)) else (false : Bool)) else (bif (spec_CheckAbsence.md a0.fRoot a0.fCount a1 a2.fGap) then ((spec_l12None.md a2.fEntry a2.fProof) : Bool) else (false : Bool)))
def gd (a0 : MHead) (a1 : ByteArray) (a2 : MAnswer) : Prop := (a1.size ≤ (2 ^ 21)) ∧ (MAnswer.Sm (2 ^ 21) a2)
def acc (ls : List L) : RHead × ByteArray × RAnswer := ((RHead.dec ls), ((dropT 16 ls).headD .hole).toStr, (RAnswer.dec (dropT 17 ls)))
noncomputable def R : (RHead × ByteArray × RAnswer) → Option Bool := RR (p3 gd) (u3 md)
theorem R_eq {a0} {a1} {a2} (h : gd a0 a1 a2) : R ((MHead.r a0), a1, (MAnswer.r a2)) = some (md a0 a1 a2) := RR_eq (a := (a0, a1, a2)) h
noncomputable def con : Con := CN pats res acc R
theorem okF (a0 : MHead) (a1 : ByteArray) (a2 : MAnswer) (hg : gd a0 a1 a2) : F (MHead.r a0) a1 (MAnswer.r a2) = ret ((md a0 a1 a2) : Bool) := by
  unfold gd at hg
  obtain ⟨H1, H2⟩ := hg
  unfold F md
  try simp only [S0, MHead.rs, MEntry.rs, MAnswer.rs]
  refine bif_out ret (fun c1 => ?_) (fun c1 => ?_)
  · refine bif_out ret (fun c2 => ?_) (fun _ => rfl)
    refine call_to (spec_CheckEntry.md a0.fRoot a0.fCount a2.fEntry a2.fProof) (spec_CheckEntry.R_eq (a0 := a0.fRoot) (a1 := a0.fCount) (a2 := a2.fEntry) (a3 := a2.fProof) ⟨H2.2.1, H2.2.2.1⟩) ?_
    refine bif_out ret (fun c3 => ?_) (fun _ => rfl)
    refine call_to (spec_EqualGaps.md a2.fGap (⟨0, (⟨((⟨#[]⟩ : ByteArray) : ByteArray), 0, 0, []⟩ : MEntry), (⟨((⟨#[]⟩ : ByteArray) : ByteArray), 0, 0, []⟩ : MEntry), (⟨0, []⟩ : MProof), (⟨0, []⟩ : MProof)⟩ : MGap)) (spec_EqualGaps.R_eq (a0 := a2.fGap) (a1 := (⟨0, (⟨((⟨#[]⟩ : ByteArray) : ByteArray), 0, 0, []⟩ : MEntry), (⟨((⟨#[]⟩ : ByteArray) : ByteArray), 0, 0, []⟩ : MEntry), (⟨0, []⟩ : MProof), (⟨0, []⟩ : MProof)⟩ : MGap)) ⟨H2.2.2.2, ⟨⟨(by decide), SmL.nil⟩, ⟨(by decide), SmL.nil⟩, SmL.nil, SmL.nil⟩⟩) ?_
    first | rfl | (simp only [S0, MHead.rs, MEntry.rs, MAnswer.rs, MP]; first | done | rfl)
  · refine call_to (spec_CheckAbsence.md a0.fRoot a0.fCount a1 a2.fGap) (spec_CheckAbsence.R_eq (a0 := a0.fRoot) (a1 := a0.fCount) (a2 := a1) (a3 := a2.fGap) ⟨H1, H2.2.2.2⟩) ?_
    refine bif_out ret (fun c4 => ?_) (fun _ => rfl)
    refine call_to (spec_l12None.md a2.fEntry a2.fProof) (spec_l12None.R_eq (a0 := a2.fEntry) (a1 := a2.fProof) ⟨H2.2.1, H2.2.2.1⟩) ?_
    first | rfl | (simp only [S0, MHead.rs, MEntry.rs, MAnswer.rs, MP]; first | done | rfl)
theorem valid_ : Valid Tryz.prog Ev 129 con := VV (run := fun _ x => F x.1 x.2.1 x.2.2) mix tab_ok (.cons spec_CheckEntry.valid_ (.cons spec_EqualGaps.valid_ (.cons spec_CheckAbsence.valid_ (.cons spec_l12None.valid_ .nil)))) Tryz.func129 (by kernel_rfl) run_eq (fun _ a _ _ hg => ⟨0, okF a.1 a.2.1 a.2.2 hg⟩)
end spec_l21Proved
/-! spec.CheckAnswer -/
namespace spec_CheckAnswer
noncomputable def F (x0 : Int) (x1 : ByteArray) (x2 : RAnswer) (x3 : Int) : Ans := (call (spec_LastHead.R x2.fChain) fun v1 => (bif (!v1.2) then ret (3 : Int) else (bif (v1.1.fZone != x0) then ret (2 : Int) else (call (spec_IsFresh.R (v1.1, x3)) fun v2 => (bif (!v2) then ret (4 : Int) else (bif v1.1.fFrozen then ret (5 : Int) else (call (spec_l21Proved.R (v1.1, x1, x2)) fun v3 => (bif (!v3) then ret (6 : Int) else ret (1 : Int)))))))))
def pats : List Pat := [.rd (.int .i64), .rd (.str), .agg [.sl 92, .bool, .str, .int .i64, .int .i64, .sl 9, .int .i64, .sl 3, .int .i64, .str, .int .i64, .int .i64, .sl 9, .str, .int .i64, .int .i64, .sl 9, .int .i64, .sl 3, .int .i64, .sl 3], .rd (.int .i64)]
def res : RP := .one (.rd (.int .i64))
noncomputable abbrev E : Env := ⟨assoc Tab, conG [(66, spec_LastHead.con), (128, spec_IsFresh.con), (129, spec_l21Proved.con)], 39⟩
set_option maxRecDepth 100000
theorem run_eq (n : Nat) (ls : List L) : runF E (fun _ => []) Tryz.f77 res n (initS pats ls) = F (ls.headD .hole).toInt ((dropT 1 ls).headD .hole).toStr (RAnswer.dec (dropT 2 ls)) ((dropT 23 ls).headD .hole).toInt := by kernel_rfl
noncomputable def md (a0 : Int) (a1 : ByteArray) (a2 : MAnswer) (a3 : Int) : Int := (bif (!(spec_LastHead.md a2.fChain).2) then (3 : Int) else (bif ((spec_LastHead.md a2.fChain).1.fZone != a0) then (2 : Int) else (bif (!(spec_IsFresh.md ((spec_LastHead.md a2.fChain).1) a3)) then (4 : Int) else (bif (spec_LastHead.md a2.fChain).1.fFrozen then (5 : Int) else (bif (!(spec_l21Proved.md ((spec_LastHead.md a2.fChain).1) a1 a2)) then (6 : Int) else (1 : Int))))))
def gd (a0 : Int) (a1 : ByteArray) (a2 : MAnswer) (a3 : Int) : Prop := (a1.size ≤ (2 ^ 21)) ∧ (MAnswer.Sm (2 ^ 21) a2)
def acc (ls : List L) : Int × ByteArray × RAnswer × Int := ((ls.headD .hole).toInt, ((dropT 1 ls).headD .hole).toStr, (RAnswer.dec (dropT 2 ls)), ((dropT 23 ls).headD .hole).toInt)
noncomputable def R : (Int × ByteArray × RAnswer × Int) → Option Int := RR (p4 gd) (u4 md)
theorem R_eq {a0} {a1} {a2} {a3} (h : gd a0 a1 a2 a3) : R (a0, a1, (MAnswer.r a2), a3) = some (md a0 a1 a2 a3) := RR_eq (a := (a0, a1, a2, a3)) h
noncomputable def con : Con := CN pats res acc R
theorem okF (a0 : Int) (a1 : ByteArray) (a2 : MAnswer) (a3 : Int) (hg : gd a0 a1 a2 a3) : F a0 a1 (MAnswer.r a2) a3 = ret ((md a0 a1 a2 a3) : Int) := by
  unfold gd at hg
  obtain ⟨H1, H2⟩ := hg
  unfold F md
  try simp only [S0, MHead.rs, MAnswer.rs]
  refine call_to ((MHead.r (spec_LastHead.md a2.fChain).1), (spec_LastHead.md a2.fChain).2) (spec_LastHead.R_eq (a0 := a2.fChain) H2.1) ?_
  try simp only [S0, MHead.rs, MAnswer.rs]
  refine bif_out ret (fun _ => rfl) (fun c1 => ?_)
  refine bif_out ret (fun _ => rfl) (fun c2 => ?_)
  refine call_to (spec_IsFresh.md ((spec_LastHead.md a2.fChain).1) a3) (spec_IsFresh.R_eq (a0 := (spec_LastHead.md a2.fChain).1) (a1 := a3) trivial) ?_
  refine bif_out ret (fun _ => rfl) (fun c3 => ?_)
  refine bif_out ret (fun _ => rfl) (fun c4 => ?_)
  refine call_to (spec_l21Proved.md ((spec_LastHead.md a2.fChain).1) a1 a2) (spec_l21Proved.R_eq (a0 := (spec_LastHead.md a2.fChain).1) (a1 := a1) (a2 := a2) ⟨H1, H2⟩) ?_
  refine bif_out ret (fun _ => rfl) (fun _ => rfl)
theorem valid_ : Valid Tryz.prog Ev 77 con := VV (run := fun _ x => F x.1 x.2.1 x.2.2.1 x.2.2.2) mix tab_ok (.cons spec_LastHead.valid_ (.cons spec_IsFresh.valid_ (.cons spec_l21Proved.valid_ .nil))) Tryz.func77 (by kernel_rfl) run_eq (fun _ a _ _ hg => ⟨0, okF a.1 a.2.1 a.2.2.1 a.2.2.2 hg⟩)
end spec_CheckAnswer
/-! spec.IsCache -/
namespace spec_IsCache
inductive Pt where
  | p0 (a : Int) (b : RCache)
def pid : Pt → Nat
  | .p0 .. => 2
def pvs : Pt → List V
  | .p0 a b => [.bptr 0 0, .int .i64 a]
def phs : Pt → List Root
  | .p0 a b => [.box [.sl none 124 b.fList]]
noncomputable def step (J : Pt → Ans) : Pt → Ans
  | .p0 a b => (bif (decide (a < (b.fList.length : Int))) then (bif (decide ((0 : Int) ≤ a)) then (bif (decide (a < (b.fList.length : Int))) then (call (spec_LastHead.R ((RStored.at b.fList (Int.toNat a)).fAnswer.fChain)) fun v1 => (call (spec_l26Find.R (b, (RStored.at b.fList (Int.toNat a)).fZone, (RStored.at b.fList (Int.toNat a)).fLabel)) fun v2 => (bif (v2 != a) then ret (false : Bool) else (call (spec_CheckAnswer.R ((RStored.at b.fList (Int.toNat a)).fZone, (RStored.at b.fList (Int.toNat a)).fLabel, (RStored.at b.fList (Int.toNat a)).fAnswer, v1.1.fTime)) fun v3 => (bif (v3 != 1) then ret (false : Bool) else J (.p0 (IntKind.i64.wrap (a + 1)) b)))))) else none) else none) else ret ((decide ((b.fList.length : Int) ≤ 16)) : Bool))
noncomputable def start (J : Pt → Ans) (x0 : RCache) : Ans := J (.p0 0 x0)
def live : Nat → Live := fun i => match i with | 2 => [(1, none), (3, none)] | _ => []
def pats : List Pat := [.agg [.sl 124]]
def res : RP := .one (.rd (.bool))
noncomputable abbrev E : Env := ⟨assoc Tab, conG [(66, spec_LastHead.con), (76, spec_l26Find.con), (77, spec_CheckAnswer.con)], 50⟩
set_option maxRecDepth 100000
theorem step_eq (I : Heads) (p : Pt) : enterC E live I (pid p) (bodyOf Tryz.f37) (stOf (live (pid p)) (pvs p) (phs p)) (doneK E Tryz.f37 res) = step (fun q => I (pid q) (pvs q) (phs q)) p := by
  cases p <;> kernel_rfl
theorem start_eq (I : Heads) (ls : List L) : runC E live I (bodyOf Tryz.f37) (initS pats ls) (doneK E Tryz.f37 res) = start (fun q => I (pid q) (pvs q) (phs q)) (RCache.dec ls) := by kernel_rfl
theorem run_eq (n : Nat) (ls : List L) : runF E live Tryz.f37 res n (initS pats ls) = start (iter step n) (RCache.dec ls) := runF_iter (id := pid) (vs := pvs) (hs := phs) (step := step) (start := fun J => start J (RCache.dec ls)) step_eq (fun I => start_eq I ls) n
noncomputable def md (a0 : MCache) : Bool := (eachI (S := Unit) (β := Bool) (fun (i1 : Nat) (y1 : MStored) (s3 : Unit) => (bif ((spec_l26Find.md a0 (y1.fZone) (y1.fLabel)) != (i1 : Int)) then (.inr (false : Bool)) else (bif ((spec_CheckAnswer.md (y1.fZone) (y1.fLabel) (y1.fAnswer) ((spec_LastHead.md ((y1.fAnswer).fChain)).1.fTime)) != 1) then (.inr (false : Bool)) else (.inl ())))) (fun (s3 : Unit) => ((decide ((a0.fList.length : Int) ≤ 16)) : Bool)) 0 a0.fList ())
def gd (a0 : MCache) : Prop := (MCache.Sm (2 ^ 21) a0)
def acc (ls : List L) : RCache := (RCache.dec ls)
noncomputable def R : RCache → Option Bool := RR gd md
theorem R_eq {a0} (h : gd a0) : R (MCache.r a0) = some (md a0) := RR_eq (a := a0) h
noncomputable def con : Con := CN pats res acc R
theorem okF (a0 : MCache) (hg : gd a0) : ∃ n, start (iter step n) (MCache.r a0) = ret ((md a0) : Bool) := by
  unfold gd at hg
  have H0 := hg
  unfold start md
  try simp only [S0, MKeys.rs, MHead.rs, MEntry.rs, MAnswer.rs, MStored.rs, MCache.rs]
  have Bh2 : a0.fList.length ≤ maxLen := (by
      have := (H0).1
      try simp only [maxLen] at *
      omega)
  refine ex_eq (out := ret) (loopM_eachI (z := MStored.zero)) ?_
  refine ex_pt (p := Pt.p0 0 (MCache.r a0)) (by first | rfl | (simp only [S0, MKeys.rs, MHead.rs, MEntry.rs, MAnswer.rs, MStored.rs, MCache.rs, MP]; done) | (simp only [MP]; rfl)) ?_
  refine loopM_ok (pt := fun (i1 : Nat) (s3 : Unit) => Pt.p0 (i1 : Int) (MCache.r a0)) (s := (() : Unit)) (out := ret) (fun _ _ => True) (fun J i1 s3 h2 hih2 => ?_) (fun s3 hih2 => ?_) trivial
  · simp only [step, S0, MKeys.rs, MHead.rs, MEntry.rs, MAnswer.rs, MStored.rs, MCache.rs]
    have bb_ := Bh2
    simp only [maxLen] at bb_
    have := (H0).1
    refine Rnd.yes (by apply decide_eq_true; omega) ?_
    refine Rnd.yes zle_dec ?_
    refine Rnd.yes (lt_dec h2) ?_
    refine Rnd.call_to ((MHead.r (spec_LastHead.md (((a0.fList.getD i1 MStored.zero).fAnswer).fChain)).1), (spec_LastHead.md (((a0.fList.getD i1 MStored.zero).fAnswer).fChain)).2) (spec_LastHead.R_eq (a0 := ((a0.fList.getD i1 MStored.zero).fAnswer).fChain) (SmL.getD (z := MStored.zero) H0 h2).2.1) ?_
    try simp only [S0, MKeys.rs, MHead.rs, MEntry.rs, MAnswer.rs, MStored.rs, MCache.rs]
    refine Rnd.call_to (spec_l26Find.md a0 ((a0.fList.getD i1 MStored.zero).fZone) ((a0.fList.getD i1 MStored.zero).fLabel)) (spec_l26Find.R_eq (a0 := a0) (a1 := (a0.fList.getD i1 MStored.zero).fZone) (a2 := (a0.fList.getD i1 MStored.zero).fLabel) H0) ?_
    have fv2_ := spec_l26Find.fa a0 ((a0.fList.getD i1 MStored.zero).fZone) ((a0.fList.getD i1 MStored.zero).fLabel)
    refine Rnd.bif (fun _ => Rnd.inr rfl) (fun c4 => ?_)
    refine Rnd.call_to (spec_CheckAnswer.md ((a0.fList.getD i1 MStored.zero).fZone) ((a0.fList.getD i1 MStored.zero).fLabel) ((a0.fList.getD i1 MStored.zero).fAnswer) ((spec_LastHead.md (((a0.fList.getD i1 MStored.zero).fAnswer).fChain)).1.fTime)) (spec_CheckAnswer.R_eq (a0 := (a0.fList.getD i1 MStored.zero).fZone) (a1 := (a0.fList.getD i1 MStored.zero).fLabel) (a2 := (a0.fList.getD i1 MStored.zero).fAnswer) (a3 := (spec_LastHead.md (((a0.fList.getD i1 MStored.zero).fAnswer).fChain)).1.fTime) ⟨(SmL.getD (z := MStored.zero) H0 h2).1, (SmL.getD (z := MStored.zero) H0 h2).2⟩) ?_
    refine Rnd.bif (fun _ => Rnd.inr rfl) (fun c5 => ?_)
    refine Rnd.inl trivial ?_
    rw [wrap_succ h2 Bh2]
    all_goals first | rfl | (simp only [S0, MKeys.rs, MHead.rs, MEntry.rs, MAnswer.rs, MStored.rs, MCache.rs, MP]; first | done | rfl)
  · simp only [step, S0, MKeys.rs, MHead.rs, MEntry.rs, MAnswer.rs, MStored.rs, MCache.rs]
    have := (H0).1
    refine ex_no (by apply decide_eq_false; omega) ?_
    refine ⟨0, ?_⟩
    first | rfl | (simp only [S0, MKeys.rs, MHead.rs, MEntry.rs, MAnswer.rs, MStored.rs, MCache.rs, MP]; first | done | rfl)
theorem valid_ : Valid Tryz.prog Ev 37 con := VV (run := fun n x => start (iter step n) x) mix tab_ok (.cons spec_LastHead.valid_ (.cons spec_l26Find.valid_ (.cons spec_CheckAnswer.valid_ .nil))) Tryz.func37 (by kernel_rfl) run_eq (fun _ a _ _ hg => okF a hg)
end spec_IsCache
/-! impl.InRange -/
namespace impl_InRange
noncomputable def F (x0 : Int) (x1 : Int) (x2 : Int) : Ans := (bif (decide (x1 ≤ x0)) then ret ((decide (x0 ≤ x2)) : Bool) else ret (false : Bool))
def pats : List Pat := [.rd (.int .i64), .rd (.int .i64), .rd (.int .i64)]
def res : RP := .one (.rd (.bool))
noncomputable abbrev E : Env := ⟨assoc Tab, conG [], 15⟩
set_option maxRecDepth 100000
theorem run_eq (n : Nat) (ls : List L) : runF E (fun _ => []) Tryz.f88 res n (initS pats ls) = F (ls.headD .hole).toInt ((dropT 1 ls).headD .hole).toInt ((dropT 2 ls).headD .hole).toInt := by kernel_rfl
noncomputable def md (a0 : Int) (a1 : Int) (a2 : Int) : Bool := (bif (decide (a1 ≤ a0)) then ((decide (a0 ≤ a2)) : Bool) else (false : Bool))
def gd (a0 : Int) (a1 : Int) (a2 : Int) : Prop := True
def acc (ls : List L) : Int × Int × Int := ((ls.headD .hole).toInt, ((dropT 1 ls).headD .hole).toInt, ((dropT 2 ls).headD .hole).toInt)
noncomputable def R : (Int × Int × Int) → Option Bool := RR (p3 gd) (u3 md)
theorem R_eq {a0} {a1} {a2} (h : gd a0 a1 a2) : R (a0, a1, a2) = some (md a0 a1 a2) := RR_eq (a := (a0, a1, a2)) h
noncomputable def con : Con := CN pats res acc R
theorem okF (a0 : Int) (a1 : Int) (a2 : Int) (hg : gd a0 a1 a2) : F a0 a1 a2 = ret ((md a0 a1 a2) : Bool) := by
  unfold F md
  try simp only [S0]
  refine bif_out ret (fun c1 => ?_) (fun _ => rfl)
  first | rfl | (simp only [S0, MP]; first | done | rfl)
theorem valid_ : Valid Tryz.prog Ev 88 con := VV (run := fun _ x => F x.1 x.2.1 x.2.2) mix tab_ok .nil Tryz.func88 (by kernel_rfl) run_eq (fun _ a _ _ hg => ⟨0, okF a.1 a.2.1 a.2.2 hg⟩)
theorem br (a0 : Int) (a1 : Int) (a2 : Int) : md a0 a1 a2 = spec_l1In.md a0 a1 a2 := by
  unfold md spec_l1In.md
  first | rfl | (rw [Bool.eq_iff_iff]; simp)
end impl_InRange
/-! impl.isDigest -/
namespace impl_isDigest
noncomputable def F (x0 : Int) : Ans := (call (impl_InRange.R (x0, 0, 2147483646)) fun v1 => ret (v1 : Bool))
def pats : List Pat := [.rd (.int .i64)]
def res : RP := .one (.rd (.bool))
noncomputable abbrev E : Env := ⟨assoc Tab, conG [(88, impl_InRange.con)], 5⟩
set_option maxRecDepth 100000
theorem run_eq (n : Nat) (ls : List L) : runF E (fun _ => []) Tryz.f195 res n (initS pats ls) = F (ls.headD .hole).toInt := by kernel_rfl
noncomputable def md (a0 : Int) : Bool := ((impl_InRange.md a0 0 2147483646) : Bool)
def gd (a0 : Int) : Prop := True
def acc (ls : List L) : Int := (ls.headD .hole).toInt
noncomputable def R : Int → Option Bool := RR gd md
theorem R_eq {a0} (h : gd a0) : R a0 = some (md a0) := RR_eq (a := a0) h
noncomputable def con : Con := CN pats res acc R
theorem okF (a0 : Int) (hg : gd a0) : F a0 = ret ((md a0) : Bool) := by
  unfold F md
  try simp only [S0]
  refine call_to (impl_InRange.md a0 0 2147483646) (impl_InRange.R_eq (a0 := a0) (a1 := 0) (a2 := 2147483646) trivial) ?_
  first | rfl | (simp only [S0, MP]; first | done | rfl)
theorem valid_ : Valid Tryz.prog Ev 195 con := VV (run := fun _ x => F x) mix tab_ok (.cons impl_InRange.valid_ .nil) Tryz.func195 (by kernel_rfl) run_eq (fun _ a _ _ hg => ⟨0, okF a hg⟩)
end impl_isDigest
/-! impl.isSpan -/
namespace impl_isSpan
noncomputable def F (x0 : RHead) : Ans := (bif (decide (x0.fTime ≥ 0)) then (bif (decide (x0.fTime ≤ x0.fUntil)) then (bif (decide (x0.fUntil ≤ 100000)) then ret ((decide ((IntKind.i64.wrap (x0.fUntil - x0.fTime)) ≤ 200)) : Bool) else ret (false : Bool)) else ret (false : Bool)) else ret (false : Bool))
def pats : List Pat := [.agg [.int .i64, .int .i64, .int .i64, .int .i64, .int .i64, .int .i64, .int .i64, .int .i64, .sl 3, .int .i64, .sl 3, .int .i64, .int .i64, .sl 3, .int .i64, .bool]]
def res : RP := .one (.rd (.bool))
noncomputable abbrev E : Env := ⟨assoc Tab, conG [], 26⟩
set_option maxRecDepth 100000
theorem run_eq (n : Nat) (ls : List L) : runF E (fun _ => []) Tryz.f196 res n (initS pats ls) = F (RHead.dec ls) := by kernel_rfl
noncomputable def md (a0 : MHead) : Bool := (bif (decide (a0.fTime ≥ 0)) then (bif (decide (a0.fTime ≤ a0.fUntil)) then (bif (decide (a0.fUntil ≤ 100000)) then ((decide ((IntKind.i64.wrap (a0.fUntil - a0.fTime)) ≤ 200)) : Bool) else (false : Bool)) else (false : Bool)) else (false : Bool))
def gd (a0 : MHead) : Prop := True
def acc (ls : List L) : RHead := (RHead.dec ls)
noncomputable def R : RHead → Option Bool := RR gd md
theorem R_eq {a0} (h : gd a0) : R (MHead.r a0) = some (md a0) := RR_eq (a := a0) h
noncomputable def con : Con := CN pats res acc R
theorem okF (a0 : MHead) (hg : gd a0) : F (MHead.r a0) = ret ((md a0) : Bool) := by
  unfold F md
  try simp only [S0, MHead.rs]
  refine bif_out ret (fun c1 => ?_) (fun _ => rfl)
  refine bif_out ret (fun c2 => ?_) (fun _ => rfl)
  refine bif_out ret (fun c3 => ?_) (fun _ => rfl)
  first | rfl | (simp only [S0, MHead.rs, MP]; first | done | rfl)
theorem valid_ : Valid Tryz.prog Ev 196 con := VV (run := fun _ x => F x) mix tab_ok .nil Tryz.func196 (by kernel_rfl) run_eq (fun _ a _ _ hg => ⟨0, okF a hg⟩)
end impl_isSpan
/-! impl.ascending -/
namespace impl_ascending
inductive Pt where
  | p0 (a : List (List L)) (b : Int) (c : Int)
def pid : Pt → Nat
  | .p0 .. => 2
def pvs : Pt → List V
  | .p0 a b c => [.sl none 3 a, .int .i64 b, .int .i64 c]
def phs : Pt → List Root
  | .p0 a b c => []
noncomputable def step (J : Pt → Ans) : Pt → Ans
  | .p0 a b c => (bif (decide (c < b)) then (bif (decide (c > 0)) then (bif (decide ((0 : Int) ≤ c)) then (bif (decide (c < (a.length : Int))) then (bif (decide ((0 : Int) ≤ (IntKind.i64.wrap (c - 1)))) then (bif (decide ((IntKind.i64.wrap (c - 1)) < (a.length : Int))) then (bif (decide ((iAt a (Int.toNat c)) ≤ (iAt a (Int.toNat (IntKind.i64.wrap (c - 1)))))) then ret (false : Bool) else J (.p0 a b (IntKind.i64.wrap (c + 1)))) else none) else none) else none) else none) else J (.p0 a b (IntKind.i64.wrap (c + 1)))) else ret (true : Bool))
noncomputable def start (J : Pt → Ans) (x0 : List (List L)) : Ans := J (.p0 x0 (x0.length : Int) 0)
def live : Nat → Live := fun i => match i with | 2 => [(0, none), (5, none), (6, none)] | _ => []
def pats : List Pat := [.rd (.sl 3)]
def res : RP := .one (.rd (.bool))
noncomputable abbrev E : Env := ⟨assoc Tab, conG [], 24⟩
set_option maxRecDepth 100000
theorem step_eq (I : Heads) (p : Pt) : enterC E live I (pid p) (bodyOf Tryz.f240) (stOf (live (pid p)) (pvs p) (phs p)) (doneK E Tryz.f240 res) = step (fun q => I (pid q) (pvs q) (phs q)) p := by
  cases p <;> kernel_rfl
theorem start_eq (I : Heads) (ls : List L) : runC E live I (bodyOf Tryz.f240) (initS pats ls) (doneK E Tryz.f240 res) = start (fun q => I (pid q) (pvs q) (phs q)) (ls.headD .hole).toSl := by kernel_rfl
theorem run_eq (n : Nat) (ls : List L) : runF E live Tryz.f240 res n (initS pats ls) = start (iter step n) (ls.headD .hole).toSl := runF_iter (id := pid) (vs := pvs) (hs := phs) (step := step) (start := fun J => start J (ls.headD .hole).toSl) step_eq (fun I => start_eq I ls) n
noncomputable def md (a0 : List Int) : Bool := (eachI (S := Unit) (β := Bool) (fun (i1 : Nat) (y1 : Int) (s3 : Unit) => (bif (decide ((i1 : Int) > 0)) then (bif (decide (y1 ≤ (a0.getD (Int.toNat (IntKind.i64.wrap ((i1 : Int) - 1))) 0))) then (.inr (false : Bool)) else (.inl ())) else (.inl ()))) (fun (s3 : Unit) => (true : Bool)) 0 a0 ())
def gd (a0 : List Int) : Prop := (SmL (2 ^ 38) (fun y : Int => True) a0)
def acc (ls : List L) : List (List L) := (ls.headD .hole).toSl
noncomputable def R : (List (List L)) → Option Bool := RR gd md
theorem R_eq {a0} (h : gd a0) : R (a0.map iRow) = some (md a0) := RR_eq (a := a0) h
noncomputable def con : Con := CN pats res acc R
theorem okF (a0 : List Int) (hg : gd a0) : ∃ n, start (iter step n) (a0.map iRow) = ret ((md a0) : Bool) := by
  unfold gd at hg
  have H0 := hg
  unfold start md
  try simp only [S0]
  have Bh2 : a0.length ≤ maxLen := (by
      have := (H0).1
      try simp only [maxLen] at *
      omega)
  refine ex_eq (out := ret) (loopM_eachI (z := 0)) ?_
  refine ex_pt (p := Pt.p0 (a0.map iRow) (a0.length : Int) 0) (by first | rfl | (simp only [S0, MP]; done) | (simp only [MP]; rfl)) ?_
  refine loopM_ok (pt := fun (i1 : Nat) (s3 : Unit) => Pt.p0 (a0.map iRow) (a0.length : Int) (i1 : Int)) (s := (() : Unit)) (out := ret) (fun _ _ => True) (fun J i1 s3 h2 hih2 => ?_) (fun s3 hih2 => ?_) trivial
  · simp only [step, S0]
    have bb_ := Bh2
    simp only [maxLen] at bb_
    have := (H0).1
    refine Rnd.yes (by apply decide_eq_true; omega) ?_
    refine Rnd.bif (fun c4 => ?_) (fun c4 => ?_)
    · have dc4 := c4
      try simp only [DC] at dc4
      refine Rnd.yes zle_dec ?_
      refine Rnd.yes (lt_dec h2) ?_
      refine Rnd.yes (by
          refine decide_eq_true ?_
          try simp (disch := omega) only [LN, wi]
          first | omega | (simp; done) | (simp; omega)) ?_
      refine Rnd.yes (by
          have := (H0).1
          refine decide_eq_true ?_
          try simp (disch := omega) only [LN, wi]
          first | omega | (simp; done) | (simp; omega)) ?_
      refine Rnd.bif (fun _ => Rnd.inr rfl) (fun c5 => ?_)
      refine Rnd.inl trivial ?_
      rw [wrap_succ h2 Bh2]
      all_goals first | rfl | (simp only [S0, MP]; first | done | rfl)
    · refine Rnd.inl trivial ?_
      rw [wrap_succ h2 Bh2]
      all_goals first | rfl | (simp only [S0, MP]; first | done | rfl)
  · simp only [step, S0]
    have := (H0).1
    refine ex_no (by apply decide_eq_false; omega) ?_
    refine ⟨0, ?_⟩
    first | rfl | (simp only [S0, MP]; first | done | rfl)
theorem valid_ : Valid Tryz.prog Ev 240 con := VV (run := fun n x => start (iter step n) x) mix tab_ok .nil Tryz.func240 (by kernel_rfl) run_eq (fun _ a _ _ hg => okF a hg)
end impl_ascending
/-! impl.isKey -/
namespace impl_isKey
noncomputable def F (x0 : Int) : Ans := (call (impl_InRange.R (x0, 1, 99)) fun v1 => ret (v1 : Bool))
def pats : List Pat := [.rd (.int .i64)]
def res : RP := .one (.rd (.bool))
noncomputable abbrev E : Env := ⟨assoc Tab, conG [(88, impl_InRange.con)], 5⟩
set_option maxRecDepth 100000
theorem run_eq (n : Nat) (ls : List L) : runF E (fun _ => []) Tryz.f241 res n (initS pats ls) = F (ls.headD .hole).toInt := by kernel_rfl
noncomputable def md (a0 : Int) : Bool := ((impl_InRange.md a0 1 99) : Bool)
def gd (a0 : Int) : Prop := True
def acc (ls : List L) : Int := (ls.headD .hole).toInt
noncomputable def R : Int → Option Bool := RR gd md
theorem R_eq {a0} (h : gd a0) : R a0 = some (md a0) := RR_eq (a := a0) h
noncomputable def con : Con := CN pats res acc R
theorem okF (a0 : Int) (hg : gd a0) : F a0 = ret ((md a0) : Bool) := by
  unfold F md
  try simp only [S0]
  refine call_to (impl_InRange.md a0 1 99) (impl_InRange.R_eq (a0 := a0) (a1 := 1) (a2 := 99) trivial) ?_
  first | rfl | (simp only [S0, MP]; first | done | rfl)
theorem valid_ : Valid Tryz.prog Ev 241 con := VV (run := fun _ x => F x) mix tab_ok (.cons impl_InRange.valid_ .nil) Tryz.func241 (by kernel_rfl) run_eq (fun _ a _ _ hg => ⟨0, okF a hg⟩)
end impl_isKey
/-! impl.IsKeys -/
namespace impl_IsKeys
noncomputable def F (x0 : RKeys) : Ans := (call (impl_InRange.R ((x0.fList.length : Int), 1, 4)) fun v1 => (bif v1 then (call (impl_ascending.R x0.fList) fun v2 => (bif v2 then (bif (decide ((0 : Int) < (x0.fList.length : Int))) then (call (impl_isKey.R (iAt x0.fList 0)) fun v3 => (bif v3 then (bif (decide ((0 : Int) ≤ (IntKind.i64.wrap ((x0.fList.length : Int) - 1)))) then (bif (decide ((IntKind.i64.wrap ((x0.fList.length : Int) - 1)) < (x0.fList.length : Int))) then (call (impl_isKey.R (iAt x0.fList (Int.toNat (IntKind.i64.wrap ((x0.fList.length : Int) - 1))))) fun v4 => (bif v4 then (call (impl_InRange.R (x0.fNeed, 1, (x0.fList.length : Int))) fun v5 => ret (v5 : Bool)) else ret (false : Bool))) else none) else none) else ret (false : Bool))) else none) else ret (false : Bool))) else ret (false : Bool)))
def pats : List Pat := [.agg [.sl 3, .int .i64]]
def res : RP := .one (.rd (.bool))
noncomputable abbrev E : Env := ⟨assoc Tab, conG [(88, impl_InRange.con), (240, impl_ascending.con), (241, impl_isKey.con)], 38⟩
set_option maxRecDepth 100000
theorem run_eq (n : Nat) (ls : List L) : runF E (fun _ => []) Tryz.f197 res n (initS pats ls) = F (RKeys.dec ls) := by kernel_rfl
noncomputable def md (a0 : MKeys) : Bool := (bif (impl_InRange.md (a0.fList.length : Int) 1 4) then (bif (impl_ascending.md a0.fList) then (bif (impl_isKey.md (a0.fList.getD 0 0)) then (bif (impl_isKey.md (a0.fList.getD (Int.toNat (IntKind.i64.wrap ((a0.fList.length : Int) - 1))) 0)) then ((impl_InRange.md a0.fNeed 1 (a0.fList.length : Int)) : Bool) else (false : Bool)) else (false : Bool)) else (false : Bool)) else (false : Bool))
def gd (a0 : MKeys) : Prop := (MKeys.Sm (2 ^ 21) a0)
def acc (ls : List L) : RKeys := (RKeys.dec ls)
noncomputable def R : RKeys → Option Bool := RR gd md
theorem R_eq {a0} (h : gd a0) : R (MKeys.r a0) = some (md a0) := RR_eq (a := a0) h
noncomputable def con : Con := CN pats res acc R
theorem okF (a0 : MKeys) (hg : gd a0) : F (MKeys.r a0) = ret ((md a0) : Bool) := by
  unfold gd at hg
  have H0 := hg
  unfold F md
  try simp only [S0, MKeys.rs]
  refine call_to (impl_InRange.md (a0.fList.length : Int) 1 4) (impl_InRange.R_eq (a0 := (a0.fList.length : Int)) (a1 := 1) (a2 := 4) trivial) ?_
  refine bif_out ret (fun c1 => ?_) (fun _ => rfl)
  have Dc1 := c1
  try simp [impl_InRange.md] at Dc1
  refine call_to (impl_ascending.md a0.fList) (impl_ascending.R_eq (a0 := a0.fList) (H0.mono (by decide) (fun x hx => trivial))) ?_
  refine bif_out ret (fun c2 => ?_) (fun _ => rfl)
  refine yes_ret (by
      have := (H0).1
      refine decide_eq_true ?_
      try simp (disch := omega) only [LN, wi]
      first | omega | (simp; done) | (simp; omega)) ?_
  refine call_to (impl_isKey.md (a0.fList.getD 0 0)) (impl_isKey.R_eq (a0 := (a0.fList.getD 0 0)) trivial) ?_
  refine bif_out ret (fun c3 => ?_) (fun _ => rfl)
  refine yes_ret (by
      have := (H0).1
      refine decide_eq_true ?_
      try simp (disch := omega) only [LN, wi]
      first | omega | (simp; done) | (simp; omega)) ?_
  refine yes_ret (by
      have := (H0).1
      refine decide_eq_true ?_
      try simp (disch := omega) only [LN, wi]
      first | omega | (simp; done) | (simp; omega)) ?_
  refine call_to (impl_isKey.md (a0.fList.getD (Int.toNat (IntKind.i64.wrap ((a0.fList.length : Int) - 1))) 0)) (impl_isKey.R_eq (a0 := (a0.fList.getD (Int.toNat (IntKind.i64.wrap ((a0.fList.length : Int) - 1))) 0)) trivial) ?_
  refine bif_out ret (fun c4 => ?_) (fun _ => rfl)
  refine call_to (impl_InRange.md a0.fNeed 1 (a0.fList.length : Int)) (impl_InRange.R_eq (a0 := a0.fNeed) (a1 := 1) (a2 := (a0.fList.length : Int)) trivial) ?_
  first | rfl | (simp only [S0, MKeys.rs, MP]; first | done | rfl)
theorem valid_ : Valid Tryz.prog Ev 197 con := VV (run := fun _ x => F x) mix tab_ok (.cons impl_InRange.valid_ (.cons impl_ascending.valid_ (.cons impl_isKey.valid_ .nil))) Tryz.func197 (by kernel_rfl) run_eq (fun _ a _ _ hg => ⟨0, okF a hg⟩)
-- uses spec_IsKeys
theorem asc {l : List Int} (h : ∀ i : Nat, i < l.length → 0 < i → l.getD (i - 1) 0 < l.getD i 0) : ∀ (k i : Nat), i + k < l.length → l.getD i 0 ≤ l.getD (i + k) 0
  | 0, i, _ => Int.le_refl _
  | k + 1, i, hi => by
    have h1 := asc h k i (by omega)
    have h2 := h (i + (k + 1)) hi (by omega)
    rw [show i + (k + 1) - 1 = i + k by omega] at h2
    omega
theorem br (a0 : MKeys) : md a0 = spec_IsKeys.md a0 := by
  unfold md spec_IsKeys.md impl_ascending.md
  simp only [impl_InRange.br, impl_isKey.md]
  by_cases hl : 1 ≤ a0.fList.length ∧ a0.fList.length ≤ 4
  · have e1 : spec_l1In.md (a0.fList.length : Int) 1 4 = true := by simp [spec_l1In.md]; omega
    rw [e1]
    have wp : ∀ i : Nat, 0 < i → i ≤ 4 → Int.toNat (IntKind.i64.wrap ((i : Int) - 1)) = i - 1 := fun i h1 h2 => by
      rw [Go.IntWalk.i64_in _ (by omega)]; omega
    rw [wp _ (by omega) (by omega)]
    generalize a0.fNeed = n
    generalize a0.fList = l at *
    have i1 : ∀ x a b : Int, spec_l1In.md x a b = true ↔ a ≤ x ∧ x ≤ b := fun x a b => by simp [spec_l1In.md]
    have i2 : ∀ x a b : Int, spec_l1In.md x a b = false ↔ ¬ (a ≤ x ∧ x ≤ b) := fun x a b => by rw [← i1]; simp
    have w2 : ∀ i : Nat, i < l.length → 0 < i → Int.toNat (IntKind.i64.wrap ((i : Int) - 1)) = i - 1 := fun i h1 h2 => wp i h2 (by omega)
    rw [Bool.eq_iff_iff, ← loopM_eachI (z := 0), ← loopM_eachI (z := 0)]
    have e3 : ∀ a b c d : Bool, (bif true then (bif a then (bif b then (bif c then d else false) else false) else false) else false) = true ↔ a = true ∧ b = true ∧ c = true ∧ d = true := by
      intro a b c d; cases a <;> cases b <;> cases c <;> simp
    have pos : ∀ i : Nat, 0 < i → decide ((i : Int) > 0) = true := fun i h => by simpa using h
    have npos : ∀ i : Nat, ¬ 0 < i → decide ((i : Int) > 0) = false := fun i h => by simpa using h
    rw [e3]
    rw [loopM_true (fun i => 0 < i → l.getD (i - 1) 0 < l.getD i 0) (fun i hi h => ?_) (fun i hi h => ?_), loopM_true (fun i => (1 ≤ l.getD i 0 ∧ l.getD i 0 ≤ 99) ∧ (0 < i → l.getD (i - 1) 0 < l.getD i 0)) (fun i hi h => ?_) (fun i hi h => ?_)]
    · simp only [i1, and_true, cond_true]
      constructor
      · rintro ⟨h1, ⟨h2, h3⟩, ⟨h4, h5⟩, h6⟩
        refine ⟨fun i hi => ⟨⟨?_, ?_⟩, h1 i hi⟩, h6⟩
        · have := asc h1 i 0 (by omega)
          rw [Nat.zero_add] at this; omega
        · have := asc h1 (l.length - 1 - i) i (by omega)
          rw [show i + (l.length - 1 - i) = l.length - 1 by omega] at this; omega
      · rintro ⟨h1, h6⟩
        exact ⟨fun i hi => (h1 i hi).2, (h1 0 (by omega)).1, (h1 (l.length - 1) (by omega)).1, h6⟩
    · have e2 := (i1 (l.getD i 0) 1 99).2 h.1
      rw [e2]
      by_cases h0 : 0 < i
      · have := h.2 h0
        rw [pos i h0, w2 i hi h0, decide_eq_false (by omega)]; rfl
      · rw [npos i h0]; rfl
    · by_cases h1 : 1 ≤ l.getD i 0 ∧ l.getD i 0 ≤ 99
      · have e2 := (i1 (l.getD i 0) 1 99).2 h1
        have h0 : 0 < i := Classical.byContradiction fun hc => h ⟨h1, fun h => (hc h).elim⟩
        have h2 : ¬ l.getD (i - 1) 0 < l.getD i 0 := fun hc => h ⟨h1, fun _ => hc⟩
        rw [e2, pos i h0, w2 i hi h0, decide_eq_true (by omega)]; rfl
      · rw [(i2 _ _ _).2 h1]; rfl
    · by_cases h0 : 0 < i
      · have := h h0
        rw [pos i h0, w2 i hi h0, decide_eq_false (by omega)]; rfl
      · rw [npos i h0]; rfl
    · have h0 : 0 < i := Classical.byContradiction fun hc => h fun h => (hc h).elim
      have h2 : ¬ l.getD (i - 1) 0 < l.getD i 0 := fun hc => h fun _ => hc
      rw [pos i h0, w2 i hi h0, decide_eq_true (by omega)]; rfl
  · have e1 : spec_l1In.md (a0.fList.length : Int) 1 4 = false := by simp [spec_l1In.md]; omega
    rw [e1]
    simp only [cond_false]
    symm
    exact eachI_const (by
      intro i x s b h
      revert h
      simp only [Bool.cond_eq_ite]
      repeat' split
      all_goals (intro h; first | (cases h; rfl) | cases h)) _ _ _
end impl_IsKeys
/-! impl.NoKeys -/
namespace impl_NoKeys
noncomputable def F (x0 : RKeys) : Ans := (bif (x0.fNeed == 0) then ret (((x0.fList.length : Int) == 0) : Bool) else ret (false : Bool))
def pats : List Pat := [.agg [.sl 3, .int .i64]]
def res : RP := .one (.rd (.bool))
noncomputable abbrev E : Env := ⟨assoc Tab, conG [], 12⟩
set_option maxRecDepth 100000
theorem run_eq (n : Nat) (ls : List L) : runF E (fun _ => []) Tryz.f200 res n (initS pats ls) = F (RKeys.dec ls) := by kernel_rfl
noncomputable def md (a0 : MKeys) : Bool := (bif (a0.fNeed == 0) then (((a0.fList.length : Int) == 0) : Bool) else (false : Bool))
def gd (a0 : MKeys) : Prop := True
def acc (ls : List L) : RKeys := (RKeys.dec ls)
noncomputable def R : RKeys → Option Bool := RR gd md
theorem R_eq {a0} (h : gd a0) : R (MKeys.r a0) = some (md a0) := RR_eq (a := a0) h
noncomputable def con : Con := CN pats res acc R
theorem okF (a0 : MKeys) (hg : gd a0) : F (MKeys.r a0) = ret ((md a0) : Bool) := by
  unfold F md
  try simp only [S0, MKeys.rs]
  refine bif_out ret (fun c1 => ?_) (fun _ => rfl)
  first | rfl | (simp only [S0, MKeys.rs, MP]; first | done | rfl)
theorem valid_ : Valid Tryz.prog Ev 200 con := VV (run := fun _ x => F x) mix tab_ok .nil Tryz.func200 (by kernel_rfl) run_eq (fun _ a _ _ hg => ⟨0, okF a hg⟩)
theorem br (a0 : MKeys) : md a0 = spec_NoKeys.md a0 := by
  unfold md spec_NoKeys.md
  first
  | (simp only [id]; done)
  | (simp only [id]; rfl)
  | rfl
end impl_NoKeys
/-! impl.isMaybe -/
namespace impl_isMaybe
noncomputable def F (x0 : RKeys) : Ans := (call (impl_NoKeys.R x0) fun v1 => (bif v1 then ret (true : Bool) else (call (impl_IsKeys.R x0) fun v2 => ret (v2 : Bool))))
def pats : List Pat := [.agg [.sl 3, .int .i64]]
def res : RP := .one (.rd (.bool))
noncomputable abbrev E : Env := ⟨assoc Tab, conG [(200, impl_NoKeys.con), (197, impl_IsKeys.con)], 9⟩
set_option maxRecDepth 100000
theorem run_eq (n : Nat) (ls : List L) : runF E (fun _ => []) Tryz.f198 res n (initS pats ls) = F (RKeys.dec ls) := by kernel_rfl
noncomputable def md (a0 : MKeys) : Bool := (bif (impl_NoKeys.md a0) then (true : Bool) else ((impl_IsKeys.md a0) : Bool))
def gd (a0 : MKeys) : Prop := (MKeys.Sm (2 ^ 21) a0)
def acc (ls : List L) : RKeys := (RKeys.dec ls)
noncomputable def R : RKeys → Option Bool := RR gd md
theorem R_eq {a0} (h : gd a0) : R (MKeys.r a0) = some (md a0) := RR_eq (a := a0) h
noncomputable def con : Con := CN pats res acc R
theorem okF (a0 : MKeys) (hg : gd a0) : F (MKeys.r a0) = ret ((md a0) : Bool) := by
  unfold gd at hg
  have H0 := hg
  unfold F md
  try simp only [S0]
  refine call_to (impl_NoKeys.md a0) (impl_NoKeys.R_eq (a0 := a0) trivial) ?_
  refine bif_out ret (fun _ => rfl) (fun c1 => ?_)
  refine call_to (impl_IsKeys.md a0) (impl_IsKeys.R_eq (a0 := a0) H0) ?_
  first | rfl | (simp only [S0, MP]; first | done | rfl)
theorem valid_ : Valid Tryz.prog Ev 198 con := VV (run := fun _ x => F x) mix tab_ok (.cons impl_NoKeys.valid_ (.cons impl_IsKeys.valid_ .nil)) Tryz.func198 (by kernel_rfl) run_eq (fun _ a _ _ hg => ⟨0, okF a hg⟩)
end impl_isMaybe
/-! impl.isWait -/
namespace impl_isWait
noncomputable def F (x0 : Int) (x1 : RKeys) : Ans := (call (impl_NoKeys.R x1) fun v1 => (bif v1 then ret ((x0 == 0) : Bool) else (call (impl_InRange.R (x0, 1, 500)) fun v2 => ret (v2 : Bool))))
def pats : List Pat := [.rd (.int .i64), .agg [.sl 3, .int .i64]]
def res : RP := .one (.rd (.bool))
noncomputable abbrev E : Env := ⟨assoc Tab, conG [(200, impl_NoKeys.con), (88, impl_InRange.con)], 11⟩
set_option maxRecDepth 100000
theorem run_eq (n : Nat) (ls : List L) : runF E (fun _ => []) Tryz.f199 res n (initS pats ls) = F (ls.headD .hole).toInt (RKeys.dec (dropT 1 ls)) := by kernel_rfl
noncomputable def md (a0 : Int) (a1 : MKeys) : Bool := (bif (impl_NoKeys.md a1) then ((a0 == 0) : Bool) else ((impl_InRange.md a0 1 500) : Bool))
def gd (a0 : Int) (a1 : MKeys) : Prop := True
def acc (ls : List L) : Int × RKeys := ((ls.headD .hole).toInt, (RKeys.dec (dropT 1 ls)))
noncomputable def R : (Int × RKeys) → Option Bool := RR (p2 gd) (u2 md)
theorem R_eq {a0} {a1} (h : gd a0 a1) : R (a0, (MKeys.r a1)) = some (md a0 a1) := RR_eq (a := (a0, a1)) h
noncomputable def con : Con := CN pats res acc R
theorem okF (a0 : Int) (a1 : MKeys) (hg : gd a0 a1) : F a0 (MKeys.r a1) = ret ((md a0 a1) : Bool) := by
  unfold F md
  try simp only [S0]
  refine call_to (impl_NoKeys.md a1) (impl_NoKeys.R_eq (a0 := a1) trivial) ?_
  refine bif_out ret (fun c1 => ?_) (fun c1 => ?_)
  · first | rfl | (simp only [S0, MP]; first | done | rfl)
  · refine call_to (impl_InRange.md a0 1 500) (impl_InRange.R_eq (a0 := a0) (a1 := 1) (a2 := 500) trivial) ?_
    first | rfl | (simp only [S0, MP]; first | done | rfl)
theorem valid_ : Valid Tryz.prog Ev 199 con := VV (run := fun _ x => F x.1 x.2) mix tab_ok (.cons impl_NoKeys.valid_ (.cons impl_InRange.valid_ .nil)) Tryz.func199 (by kernel_rfl) run_eq (fun _ a _ _ hg => ⟨0, okF a.1 a.2 hg⟩)
end impl_isWait
/-! impl.IsHead -/
namespace impl_IsHead
noncomputable def F (x0 : RHead) : Ans := (call (impl_isDigest.R x0.fZone) fun v1 => (bif v1 then (call (impl_isDigest.R x0.fRoot) fun v2 => (bif v2 then (call (impl_isDigest.R x0.fPrev) fun v3 => (bif v3 then (call (impl_InRange.R (x0.fEpoch, 0, 200)) fun v4 => (bif v4 then (call (impl_InRange.R (x0.fKind, 1, 3)) fun v5 => (bif v5 then (call (impl_isSpan.R x0) fun v6 => (bif v6 then (call (impl_InRange.R (x0.fCount, 0, 12)) fun v7 => (bif v7 then (call (impl_IsKeys.R x0.fKeys) fun v8 => (bif v8 then (call (impl_isMaybe.R x0.fHeirs) fun v9 => (bif v9 then (call (impl_isMaybe.R x0.fJudge) fun v10 => (bif v10 then (call (impl_isWait.R (x0.fWait, x0.fHeirs)) fun v11 => (bif v11 then (bif x0.fFrozen then (call (impl_NoKeys.R x0.fJudge) fun v12 => ret ((!v12) : Bool)) else ret (true : Bool)) else ret (false : Bool))) else ret (false : Bool))) else ret (false : Bool))) else ret (false : Bool))) else ret (false : Bool))) else ret (false : Bool))) else ret (false : Bool))) else ret (false : Bool))) else ret (false : Bool))) else ret (false : Bool))) else ret (false : Bool)))
def pats : List Pat := [.agg [.int .i64, .int .i64, .int .i64, .int .i64, .int .i64, .int .i64, .int .i64, .int .i64, .sl 3, .int .i64, .sl 3, .int .i64, .int .i64, .sl 3, .int .i64, .bool]]
def res : RP := .one (.rd (.bool))
noncomputable abbrev E : Env := ⟨assoc Tab, conG [(195, impl_isDigest.con), (88, impl_InRange.con), (196, impl_isSpan.con), (197, impl_IsKeys.con), (198, impl_isMaybe.con), (199, impl_isWait.con), (200, impl_NoKeys.con)], 67⟩
set_option maxRecDepth 100000
theorem run_eq (n : Nat) (ls : List L) : runF E (fun _ => []) Tryz.f142 res n (initS pats ls) = F (RHead.dec ls) := by kernel_rfl
noncomputable def md (a0 : MHead) : Bool := (bif (impl_isDigest.md a0.fZone) then (bif (impl_isDigest.md a0.fRoot) then (bif (impl_isDigest.md a0.fPrev) then (bif (impl_InRange.md a0.fEpoch 0 200) then (bif (impl_InRange.md a0.fKind 1 3) then (bif (impl_isSpan.md a0) then (bif (impl_InRange.md a0.fCount 0 12) then (bif (impl_IsKeys.md a0.fKeys) then (bif (impl_isMaybe.md a0.fHeirs) then (bif (impl_isMaybe.md a0.fJudge) then (bif (impl_isWait.md a0.fWait a0.fHeirs) then (bif a0.fFrozen then ((!(impl_NoKeys.md a0.fJudge)) : Bool) else (true : Bool)) else (false : Bool)) else (false : Bool)) else (false : Bool)) else (false : Bool)) else (false : Bool)) else (false : Bool)) else (false : Bool)) else (false : Bool)) else (false : Bool)) else (false : Bool)) else (false : Bool))
def gd (a0 : MHead) : Prop := (MHead.Sm (2 ^ 21) a0)
def acc (ls : List L) : RHead := (RHead.dec ls)
noncomputable def R : RHead → Option Bool := RR gd md
theorem R_eq {a0} (h : gd a0) : R (MHead.r a0) = some (md a0) := RR_eq (a := a0) h
noncomputable def con : Con := CN pats res acc R
theorem okF (a0 : MHead) (hg : gd a0) : F (MHead.r a0) = ret ((md a0) : Bool) := by
  unfold gd at hg
  have H0 := hg
  unfold F md
  try simp only [S0, MHead.rs]
  refine call_to (impl_isDigest.md a0.fZone) (impl_isDigest.R_eq (a0 := a0.fZone) trivial) ?_
  refine bif_out ret (fun c1 => ?_) (fun _ => rfl)
  refine call_to (impl_isDigest.md a0.fRoot) (impl_isDigest.R_eq (a0 := a0.fRoot) trivial) ?_
  refine bif_out ret (fun c2 => ?_) (fun _ => rfl)
  refine call_to (impl_isDigest.md a0.fPrev) (impl_isDigest.R_eq (a0 := a0.fPrev) trivial) ?_
  refine bif_out ret (fun c3 => ?_) (fun _ => rfl)
  refine call_to (impl_InRange.md a0.fEpoch 0 200) (impl_InRange.R_eq (a0 := a0.fEpoch) (a1 := 0) (a2 := 200) trivial) ?_
  refine bif_out ret (fun c4 => ?_) (fun _ => rfl)
  refine call_to (impl_InRange.md a0.fKind 1 3) (impl_InRange.R_eq (a0 := a0.fKind) (a1 := 1) (a2 := 3) trivial) ?_
  refine bif_out ret (fun c5 => ?_) (fun _ => rfl)
  refine call_to (impl_isSpan.md a0) (impl_isSpan.R_eq (a0 := a0) trivial) ?_
  refine bif_out ret (fun c6 => ?_) (fun _ => rfl)
  refine call_to (impl_InRange.md a0.fCount 0 12) (impl_InRange.R_eq (a0 := a0.fCount) (a1 := 0) (a2 := 12) trivial) ?_
  refine bif_out ret (fun c7 => ?_) (fun _ => rfl)
  refine call_to (impl_IsKeys.md a0.fKeys) (impl_IsKeys.R_eq (a0 := a0.fKeys) H0.1) ?_
  refine bif_out ret (fun c8 => ?_) (fun _ => rfl)
  refine call_to (impl_isMaybe.md a0.fHeirs) (impl_isMaybe.R_eq (a0 := a0.fHeirs) H0.2.1) ?_
  refine bif_out ret (fun c9 => ?_) (fun _ => rfl)
  refine call_to (impl_isMaybe.md a0.fJudge) (impl_isMaybe.R_eq (a0 := a0.fJudge) H0.2.2) ?_
  refine bif_out ret (fun c10 => ?_) (fun _ => rfl)
  refine call_to (impl_isWait.md a0.fWait a0.fHeirs) (impl_isWait.R_eq (a0 := a0.fWait) (a1 := a0.fHeirs) trivial) ?_
  refine bif_out ret (fun c11 => ?_) (fun _ => rfl)
  refine bif_out ret (fun c12 => ?_) (fun _ => rfl)
  refine call_to (impl_NoKeys.md a0.fJudge) (impl_NoKeys.R_eq (a0 := a0.fJudge) trivial) ?_
  first | rfl | (simp only [S0, MHead.rs, MP]; first | done | rfl)
theorem valid_ : Valid Tryz.prog Ev 142 con := VV (run := fun _ x => F x) mix tab_ok (.cons impl_isDigest.valid_ (.cons impl_InRange.valid_ (.cons impl_isSpan.valid_ (.cons impl_IsKeys.valid_ (.cons impl_isMaybe.valid_ (.cons impl_isWait.valid_ (.cons impl_NoKeys.valid_ .nil))))))) Tryz.func142 (by kernel_rfl) run_eq (fun _ a _ _ hg => ⟨0, okF a hg⟩)
theorem br (a0 : MHead) : md a0 = spec_IsHead.md a0 := by
  unfold md spec_IsHead.md
  simp only [impl_IsKeys.br, impl_InRange.br, impl_isDigest.md, impl_isMaybe.md, impl_isWait.md, impl_NoKeys.br]
  have hs : impl_isSpan.md a0 = (spec_l1In.md a0.fTime 0 100000 && (spec_l1In.md a0.fUntil a0.fTime 100000 && !decide ((IntKind.i64.wrap (a0.fUntil - a0.fTime)) > 200))) := by
    rw [Bool.eq_iff_iff]
    simp [impl_isSpan.md, spec_l1In.md]
    omega
  have hk : spec_IsKeys.md a0.fJudge = true → spec_NoKeys.md a0.fJudge = false := fun h => by
    have := spec_IsKeys.tr h
    have e : ((a0.fJudge.fList.length : Int) == 0) = false := beq_eq_false_iff_ne.2 (by omega)
    unfold spec_NoKeys.md
    rw [e]
    cases a0.fJudge.fNeed == 0 <;> rfl
  rw [hs]
  revert hk
  simp only [and_n, and_p, Bool.and_assoc]
  generalize spec_l1In.md a0.fZone 0 2147483646 = b1
  generalize spec_l1In.md a0.fRoot 0 2147483646 = b2
  generalize spec_l1In.md a0.fPrev 0 2147483646 = b3
  generalize spec_l1In.md a0.fEpoch 0 200 = b4
  generalize spec_l1In.md a0.fKind 1 3 = b5
  generalize spec_l1In.md a0.fTime 0 100000 = b6
  generalize spec_l1In.md a0.fUntil a0.fTime 100000 = b7
  generalize decide ((IntKind.i64.wrap (a0.fUntil - a0.fTime)) > 200) = b8
  generalize spec_l1In.md a0.fCount 0 12 = b9
  generalize spec_IsKeys.md a0.fKeys = b10
  generalize spec_IsKeys.md a0.fHeirs = kh
  generalize spec_NoKeys.md a0.fHeirs = nh
  generalize spec_IsKeys.md a0.fJudge = kj
  generalize spec_NoKeys.md a0.fJudge = nj
  generalize spec_l1In.md a0.fWait 1 500 = lw
  have hw : (a0.fWait != 0) = !(a0.fWait == 0) := rfl
  rw [hw]
  generalize (a0.fWait == 0) = w0
  generalize a0.fFrozen = fz
  intro hk
  cases b1; · rfl
  cases b2; · rfl
  cases b3; · rfl
  cases b4; · rfl
  cases b5; · rfl
  cases b6; · rfl
  cases b7; · rfl
  cases b8; rotate_left; · rfl
  cases b9; · rfl
  cases b10; · rfl
  revert hk
  revert kh nh kj nj lw w0 fz
  decide
end impl_IsHead
/-! impl.KeysInts -/
namespace impl_KeysInts
noncomputable def F (x0 : RKeys) : Ans := (bif (lim (((2 : Int) + (x0.fList.length : Int)) * 8)) then ret (([[L.int x0.fNeed], [L.int (x0.fList.length : Int)]] ++ x0.fList) : List (List L)) else none)
def pats : List Pat := [.agg [.sl 3, .int .i64]]
def res : RP := .one (.fr 3)
noncomputable abbrev E : Env := ⟨assoc Tab, conG [], 12⟩
set_option maxRecDepth 100000
theorem run_eq (n : Nat) (ls : List L) : runF E (fun _ => []) Tryz.f193 res n (initS pats ls) = F (RKeys.dec ls) := by kernel_rfl
noncomputable def md (a0 : MKeys) : List Int := ([a0.fNeed, (a0.fList.length : Int)] ++ a0.fList)
def gd (a0 : MKeys) : Prop := (MKeys.Sm (2 ^ 21) a0)
def acc (ls : List L) : RKeys := (RKeys.dec ls)
noncomputable def R : RKeys → Option (List (List L)) := RR gd md
theorem R_eq {a0} (h : gd a0) : R (MKeys.r a0) = some ((md a0).map iRow) := RR_eq (a := a0) h
noncomputable def con : Con := CN pats res acc R
theorem okF (a0 : MKeys) (hg : gd a0) : F (MKeys.r a0) = ret (((md a0).map iRow) : List (List L)) := by
  unfold gd at hg
  have H0 := hg
  unfold F md
  try simp only [S0, MKeys.rs]
  refine yes_ret (by
      have := (H0).1
      refine lim_t ?_
      try simp (disch := omega) only [LN, wi]
      first | omega | (simp; done) | (simp; omega)) ?_
  all_goals first | rfl | (simp only [S0, MKeys.rs]; done) | (simp only [MP]; rfl) | (simp only [S0, MKeys.rs, MP]; first | done | rfl)
theorem valid_ : Valid Tryz.prog Ev 193 con := VV (run := fun _ x => F x) mix tab_ok .nil Tryz.func193 (by kernel_rfl) run_eq (fun _ a _ _ hg => ⟨0, okF a hg⟩)
theorem len (a0 : MKeys) : (md a0).length = 2 + a0.fList.length := by simp [md]; omega
theorem br (a0 : MKeys) : md a0 = spec_KeysInts.md a0 := by
  unfold md spec_KeysInts.md
  first
  | (simp only [id]; done)
  | (simp only [id]; rfl)
  | rfl
end impl_KeysInts
/-! impl.Mod -/
namespace impl_Mod
noncomputable def F (x0 : Int) (x1 : Int) : Ans := (call (impl_InRange.R (x1, 1, 1000000000000)) fun v1 => (bif (!v1) then ret (0 : Int) else (bif (decide (x1 = 0)) then none else (bif (decide (x1 = 0)) then none else ret ((Int.tmod (IntKind.i64.wrap ((Int.tmod x0 x1) + x1)) x1) : Int)))))
def pats : List Pat := [.rd (.int .i64), .rd (.int .i64)]
def res : RP := .one (.rd (.int .i64))
noncomputable abbrev E : Env := ⟨assoc Tab, conG [(88, impl_InRange.con)], 15⟩
set_option maxRecDepth 100000
theorem run_eq (n : Nat) (ls : List L) : runF E (fun _ => []) Tryz.f242 res n (initS pats ls) = F (ls.headD .hole).toInt ((dropT 1 ls).headD .hole).toInt := by kernel_rfl
noncomputable def md (a0 : Int) (a1 : Int) : Int := (bif (!(impl_InRange.md a1 1 1000000000000)) then (0 : Int) else ((Int.tmod (IntKind.i64.wrap ((Int.tmod a0 a1) + a1)) a1) : Int))
def gd (a0 : Int) (a1 : Int) : Prop := True
def acc (ls : List L) : Int × Int := ((ls.headD .hole).toInt, ((dropT 1 ls).headD .hole).toInt)
noncomputable def R : (Int × Int) → Option Int := RR (p2 gd) (u2 md)
theorem R_eq {a0} {a1} (h : gd a0 a1) : R (a0, a1) = some (md a0 a1) := RR_eq (a := (a0, a1)) h
noncomputable def con : Con := CN pats res acc R
theorem okF (a0 : Int) (a1 : Int) (hg : gd a0 a1) : F a0 a1 = ret ((md a0 a1) : Int) := by
  unfold F md
  try simp only [S0]
  refine call_to (impl_InRange.md a1 1 1000000000000) (impl_InRange.R_eq (a0 := a1) (a1 := 1) (a2 := 1000000000000) trivial) ?_
  refine bif_out ret (fun _ => rfl) (fun c1 => ?_)
  have dc1 := c1
  try simp only [DC] at dc1
  have Dc1 := c1
  try simp [impl_InRange.md] at Dc1
  refine no_ret (by
      refine decide_eq_false ?_
      try simp (disch := omega) only [LN, wi]
      first | omega | (simp; done) | (simp; omega)) ?_
  refine no_ret (by
      refine decide_eq_false ?_
      try simp (disch := omega) only [LN, wi]
      first | omega | (simp; done) | (simp; omega)) ?_
  first | rfl | (simp only [S0, MP]; first | done | rfl)
theorem valid_ : Valid Tryz.prog Ev 242 con := VV (run := fun _ x => F x.1 x.2) mix tab_ok (.cons impl_InRange.valid_ .nil) Tryz.func242 (by kernel_rfl) run_eq (fun _ a _ _ hg => ⟨0, okF a.1 a.2 hg⟩)
theorem br (a0 : Int) (a1 : Int) : md a0 a1 = spec_Mod.md a0 a1 := by
  unfold md spec_Mod.md
  first
  | (simp only [impl_InRange.br]; done)
  | (simp only [impl_InRange.br]; rfl)
  | rfl
end impl_Mod
/-! impl.Hash -/
namespace impl_Hash
inductive Pt where
  | p0 (a : Int) (b : List (List L)) (c : Int) (d : Int)
def pid : Pt → Nat
  | .p0 .. => 3
def pvs : Pt → List V
  | .p0 a b c d => [.int .i64 a, .sl none 3 b, .int .i64 c, .int .i64 d]
def phs : Pt → List Root
  | .p0 a b c d => []
noncomputable def step (J : Pt → Ans) : Pt → Ans
  | .p0 a b c d => (bif (decide (d < c)) then (bif (decide ((0 : Int) ≤ d)) then (bif (decide (d < (b.length : Int))) then (call (impl_Mod.R ((iAt b (Int.toNat d)), 2147483647)) fun v1 => J (.p0 (Int.tmod (IntKind.i64.wrap ((IntKind.i64.wrap ((IntKind.i64.wrap (a * 1000003)) + v1)) + 13)) 2147483647) b c (IntKind.i64.wrap (d + 1)))) else none) else none) else ret (a : Int))
noncomputable def start (J : Pt → Ans) (x0 : List (List L)) : Ans := J (.p0 11 x0 (x0.length : Int) 0)
def live : Nat → Live := fun i => match i with | 3 => [(3, none), (6, none), (7, none), (8, none)] | _ => []
def pats : List Pat := [.rd (.sl 3)]
def res : RP := .one (.rd (.int .i64))
noncomputable abbrev E : Env := ⟨assoc Tab, conG [(242, impl_Mod.con)], 21⟩
set_option maxRecDepth 100000
theorem step_eq (I : Heads) (p : Pt) : enterC E live I (pid p) (bodyOf Tryz.f201) (stOf (live (pid p)) (pvs p) (phs p)) (doneK E Tryz.f201 res) = step (fun q => I (pid q) (pvs q) (phs q)) p := by
  cases p <;> kernel_rfl
theorem start_eq (I : Heads) (ls : List L) : runC E live I (bodyOf Tryz.f201) (initS pats ls) (doneK E Tryz.f201 res) = start (fun q => I (pid q) (pvs q) (phs q)) (ls.headD .hole).toSl := by kernel_rfl
theorem run_eq (n : Nat) (ls : List L) : runF E live Tryz.f201 res n (initS pats ls) = start (iter step n) (ls.headD .hole).toSl := runF_iter (id := pid) (vs := pvs) (hs := phs) (step := step) (start := fun J => start J (ls.headD .hole).toSl) step_eq (fun I => start_eq I ls) n
noncomputable def md (a0 : List Int) : Int := (eachM (S := Int) (β := Int) (fun (y1 : Int) (s3 : Int) => (.inl (Int.tmod (IntKind.i64.wrap ((IntKind.i64.wrap ((IntKind.i64.wrap (s3 * 1000003)) + (impl_Mod.md y1 2147483647))) + 13)) 2147483647))) (fun (s3 : Int) => (s3 : Int)) a0 11)
def gd (a0 : List Int) : Prop := (SmL (2 ^ 43) (fun y : Int => True) a0)
def acc (ls : List L) : List (List L) := (ls.headD .hole).toSl
noncomputable def R : (List (List L)) → Option Int := RR gd md
theorem R_eq {a0} (h : gd a0) : R (a0.map iRow) = some (md a0) := RR_eq (a := a0) h
noncomputable def con : Con := CN pats res acc R
theorem okF (a0 : List Int) (hg : gd a0) : ∃ n, start (iter step n) (a0.map iRow) = ret ((md a0) : Int) := by
  unfold gd at hg
  have H0 := hg
  unfold start md
  try simp only [S0]
  have Bh2 : a0.length ≤ maxLen := (by
      have := (H0).1
      try simp only [maxLen] at *
      omega)
  refine ex_eq (out := ret) (loopM_eachM (z := 0)) ?_
  refine ex_pt (p := Pt.p0 11 (a0.map iRow) (a0.length : Int) 0) (by first | rfl | (simp only [S0, MP]; done) | (simp only [MP]; rfl)) ?_
  refine loopM_ok (pt := fun (i1 : Nat) (s3 : Int) => Pt.p0 s3 (a0.map iRow) (a0.length : Int) (i1 : Int)) (s := (11 : Int)) (out := ret) (fun _ _ => True) (fun J i1 s3 h2 hih2 => ?_) (fun s3 hih2 => ?_) trivial
  · simp only [step, S0]
    have bb_ := Bh2
    simp only [maxLen] at bb_
    have := (H0).1
    refine Rnd.yes (by apply decide_eq_true; omega) ?_
    refine Rnd.yes zle_dec ?_
    refine Rnd.yes (lt_dec h2) ?_
    refine Rnd.call_to (impl_Mod.md (a0.getD i1 0) 2147483647) (impl_Mod.R_eq (a0 := (a0.getD i1 0)) (a1 := 2147483647) trivial) ?_
    refine Rnd.inl trivial ?_
    rw [wrap_succ h2 Bh2]
    all_goals first | rfl | (simp only [S0, MP]; first | done | rfl)
  · simp only [step, S0]
    have := (H0).1
    refine ex_no (by apply decide_eq_false; omega) ?_
    refine ⟨0, ?_⟩
    first | rfl | (simp only [S0, MP]; first | done | rfl)
theorem valid_ : Valid Tryz.prog Ev 201 con := VV (run := fun n x => start (iter step n) x) mix tab_ok (.cons impl_Mod.valid_ .nil) Tryz.func201 (by kernel_rfl) run_eq (fun _ a _ _ hg => okF a hg)
theorem br (a0 : List Int) : md a0 = spec_Hash.md a0 := by
  unfold md spec_Hash.md
  first
  | (simp only [impl_Mod.br]; done)
  | (simp only [impl_Mod.br]; rfl)
  | rfl
end impl_Hash
/-! impl.ZoneOf -/
namespace impl_ZoneOf
noncomputable def F (x0 : RKeys) (x1 : Int) : Ans := (call (impl_KeysInts.R x0) fun v1 => (bif (lim (((2 : Int) + (v1.length : Int)) * 8)) then (call (impl_Hash.R ([[L.int 239], [L.int x1]] ++ v1)) fun v2 => ret (v2 : Int)) else none))
def pats : List Pat := [.agg [.sl 3, .int .i64], .rd (.int .i64)]
def res : RP := .one (.rd (.int .i64))
noncomputable abbrev E : Env := ⟨assoc Tab, conG [(193, impl_KeysInts.con), (201, impl_Hash.con)], 11⟩
set_option maxRecDepth 100000
theorem run_eq (n : Nat) (ls : List L) : runF E (fun _ => []) Tryz.f143 res n (initS pats ls) = F (RKeys.dec ls) ((dropT 2 ls).headD .hole).toInt := by kernel_rfl
noncomputable def md (a0 : MKeys) (a1 : Int) : Int := ((impl_Hash.md ([239, a1] ++ (impl_KeysInts.md a0))) : Int)
def gd (a0 : MKeys) (a1 : Int) : Prop := (MKeys.Sm (2 ^ 21) a0)
def acc (ls : List L) : RKeys × Int := ((RKeys.dec ls), ((dropT 2 ls).headD .hole).toInt)
noncomputable def R : (RKeys × Int) → Option Int := RR (p2 gd) (u2 md)
theorem R_eq {a0} {a1} (h : gd a0 a1) : R ((MKeys.r a0), a1) = some (md a0 a1) := RR_eq (a := (a0, a1)) h
noncomputable def con : Con := CN pats res acc R
theorem okF (a0 : MKeys) (a1 : Int) (hg : gd a0 a1) : F (MKeys.r a0) a1 = ret ((md a0 a1) : Int) := by
  unfold gd at hg
  have H0 := hg
  unfold F md
  try simp only [S0]
  refine call_to ((impl_KeysInts.md a0).map iRow) (impl_KeysInts.R_eq (a0 := a0) H0) ?_
  try simp only [S0]
  refine yes_ret (by
      have := impl_KeysInts.len a0
      have := (H0).1
      refine lim_t ?_
      try simp (disch := omega) only [LN, wi]
      first | omega | (simp; done) | (simp; omega)) ?_
  refine call_to (impl_Hash.md ([239, a1] ++ (impl_KeysInts.md a0))) ?_ ?_
  · have R_ := impl_Hash.R_eq (a0 := ([239, a1] ++ (impl_KeysInts.md a0))) ⟨(by
        have := impl_KeysInts.len a0
        have := (H0).1
        try simp (disch := omega) only [LN, wi]
        first | omega | (simp; done) | (simp; omega)), fun _ _ => trivial⟩
    first | exact R_ | (simp only [MP, S0] at R_ ⊢; first | exact R_ | (rw [← R_]; rfl))
  first | rfl | (simp only [S0, MP]; first | done | rfl)
theorem valid_ : Valid Tryz.prog Ev 143 con := VV (run := fun _ x => F x.1 x.2) mix tab_ok (.cons impl_KeysInts.valid_ (.cons impl_Hash.valid_ .nil)) Tryz.func143 (by kernel_rfl) run_eq (fun _ a _ _ hg => ⟨0, okF a.1 a.2 hg⟩)
theorem br (a0 : MKeys) (a1 : Int) : md a0 a1 = spec_ZoneOf.md a0 a1 := by
  unfold md spec_ZoneOf.md
  first
  | (simp only [impl_KeysInts.br, impl_Hash.br]; done)
  | (simp only [impl_KeysInts.br, impl_Hash.br]; rfl)
  | rfl
end impl_ZoneOf
/-! impl.bit -/
namespace impl_bit
noncomputable def F (x0 : Bool) : Ans := (bif x0 then ret (1 : Int) else ret (0 : Int))
def pats : List Pat := [.rd (.bool)]
def res : RP := .one (.rd (.int .i64))
noncomputable abbrev E : Env := ⟨assoc Tab, conG [], 4⟩
set_option maxRecDepth 100000
theorem run_eq (n : Nat) (ls : List L) : runF E (fun _ => []) Tryz.f194 res n (initS pats ls) = F (ls.headD .hole).toBool := by kernel_rfl
noncomputable def md (a0 : Bool) : Int := (bif a0 then (1 : Int) else (0 : Int))
def gd (a0 : Bool) : Prop := True
def acc (ls : List L) : Bool := (ls.headD .hole).toBool
noncomputable def R : Bool → Option Int := RR gd md
theorem R_eq {a0} (h : gd a0) : R a0 = some (md a0) := RR_eq (a := a0) h
noncomputable def con : Con := CN pats res acc R
theorem okF (a0 : Bool) (hg : gd a0) : F a0 = ret ((md a0) : Int) := by
  unfold F md
  try simp only [S0]
  refine bif_out ret (fun _ => rfl) (fun _ => rfl)
theorem valid_ : Valid Tryz.prog Ev 194 con := VV (run := fun _ x => F x) mix tab_ok .nil Tryz.func194 (by kernel_rfl) run_eq (fun _ a _ _ hg => ⟨0, okF a hg⟩)
end impl_bit
namespace slices_Grow_Sint_int
set_option maxHeartbeats 1000000 in
set_option maxRecDepth 100000 in
open Go.RowKit in
theorem calls0 (b : Option Addr) (w : World) : Calls Tryz.prog 239 #[.slice b 0 0, .int .i64 0] w fun e w' => e = .returned (.slice b 0 0) ∧ w' = w := by
  go_enter Tryz.func239, Tryz.ntmps239
  go_wp2
  go_ret
  exact ⟨rfl, rfl⟩
theorem size3 : Tryz.t3.size = 1 := by kernel_rfl
theorem bytes3 : Tryz.t3.bytes = 8 := by kernel_rfl
set_option maxHeartbeats 1000000 in
set_option maxRecDepth 100000 in
open Go.RowKit in
theorem calls1 (b : Option Addr) (n : Nat) (w : World) (h0 : 0 < n) (h1 : n * 8 ≤ 140737488355328) : Calls Tryz.prog 239 #[.slice b 0 0, .int .i64 n] w fun e w' => e = .returned (.slice (some ⟨w.heap.size, 0, none⟩) 0 (grownCap w n 0 3)) ∧ w' = (w.drew.alloc (.cells (Builtin.zeroCells #[.int .i64 0] n ++ Builtin.zeroCells #[.int .i64 0] (grownCap w n 0 3 - n)) 3)) := by
  have hp : (0 : Int) < n := by omega
  have hnn : ¬ ((n : Int) < 0) := by omega
  have hold : (Builtin.firstCells Tryz.t3.size 0 (.slice b 0 0)).run Tryz.prog w.drew = .ok ([] : List Value).toArray w.drew := by
    cases b with
    | none => exact run_firstCells_none _ _ _ _ _
    | some b => exact run_firstCells_some _ _ _ _ _ _ [] (by simp) (fun j v hj => by simp at hj)
  have H := fun ty => Lib.run_append_grow_zeros (P := Tryz.prog) w 45 3 ty 3 Tryz.t3 (.int .i64 0) .i64 .i64 (by kernel_rfl) (by kernel_rfl) (by kernel_rfl) (by kernel_rfl) b 0 0 [] hold n h0 (by rw [size3]; omega) (by omega) (by omega) (by rw [bytes3]; omega) (by
    rw [Nat.zero_add, nextslicecap_zero h0, bytes3]; omega)
  simp only [Nat.zero_add, Array.empty_append] at H
  have H2 := Lib.hid H
  clear H hold
  go_enter Tryz.func239, Tryz.ntmps239
  go_wp2_with (at_builtin; refine Lib.wpList_append_run _ rfl _ _ _ _ rfl _ _ rfl rfl _ _ (H2.out _) ?_)
  go_ret
  exact ⟨rfl, rfl⟩
noncomputable def md (_ : Int) : List Int := []
noncomputable def R (x0 : Int) : Option (List (List L)) := bif decide (0 ≤ x0) && decide (x0 * 8 ≤ 140737488355328) then some [] else none
theorem R_eq {a0 : Int} (h : 0 ≤ a0 ∧ a0 * 8 ≤ 140737488355328) : R a0 = some [] := by simp [R, h.1, h.2]
noncomputable def sem : List L → Option (List L)
  | [y0] => (R y0.toInt).map RT.enc
  | _ => none
noncomputable def con : Con := ⟨[.nil, .rd (.int .i64)], .one (.fr 3), sem⟩
theorem cells3 : Ev.cells 3 = [.int .i64] := by kernel_rfl
theorem valid_ : Valid Tryz.prog Ev 239 con := by
  refine valid_row ⟨Tryz.f239, Tryz.func239, by kernel_rfl, by kernel_rfl⟩ rfl fun ls r w vs Z hs hf => ?_
  simp only [con] at hs
  unfold sem at hs
  split at hs
  · rename_i y
    obtain ⟨v, hv, hq⟩ := map_some hs
    unfold R at hv
    cases hc : (decide (0 ≤ y.toInt) && decide (y.toInt * 8 ≤ 140737488355328)) <;> simp only [hc, cond_true, cond_false] at hv
    · cases hv
    injection hv with hv
    subst hv
    subst hq
    simp only [Bool.and_eq_true, decide_eq_true_eq] at hc
    cases hf with
    | cons h1 ht =>
      cases ht with
      | cons h2 ht =>
        cases ht
        obtain ⟨b, rfl⟩ := (show V0 Ev.cells w (A0 Z w) .nil _ from h1)
        have e2 : _ = Value.int .i64 y.toInt := h2
        subst e2
        obtain ⟨n, hn⟩ : ∃ n : Nat, y.toInt = n := ⟨y.toInt.toNat, by omega⟩
        rw [hn] at hc ⊢
        rcases Nat.eq_zero_or_pos n with h0 | h0
        · subst h0
          exact (calls0 b w).mono fun e w' ⟨h3, h4⟩ => ⟨_, fun _ => False, h3, by rw [h4]; exact Fr.refl _ _, fun b hb => hb.elim, .nil _ _ _ _ rfl⟩
        · refine (calls1 b n w h0 (by omega)).mono fun e w' ⟨h3, h4⟩ => ⟨_, fun b => b = w.heap.size, h3, ?_, fun b hb => ?_, ?_⟩
          · rw [h4]; exact ((Fr.refl w _).drew).alloc _
          · subst hb; rw [h4]; simp
          · have hge := grownCap_ge w n 0 3
            have hle : grownCap w n 0 3 ≤ maxLen := grownCap_le_maxLen w n 0 3 (by simp only [maxLen]; omega)
            rw [h4]
            refine .sl _ 3 0 _ w.heap.size 3 _ _ (fun _ _ => Go.undef) (fun _ _ _ => False) rfl (Nat.zero_le _) hle (heap_alloc_new w.drew _) ?_ rfl (fun _ _ _ h => h.elim) (fun _ _ _ _ _ h => h.elim) (fun i j k hi => by omega) (fun i j k hi => by omega)
            rw [cells3]
            simp only [Array.size_append, size_zeroCells, List.length_singleton]
            simp
            omega
  · cases hs
end slices_Grow_Sint_int
/-! slices.Concat[[]int,int] -/
namespace slices_Concat_Sint_int
inductive Pt where
  | p0 (a : List (List L)) (b : Int) (c : List (List L)) (d : Int) (e : Int)
  | p1 (a : List (List L)) (b : Int) (c : Int) (d : List (List L))
def pid : Pt → Nat
  | .p0 .. => 3
  | .p1 .. => 11
def pvs : Pt → List V
  | .p0 a b c d e => [.sl none 45 a, .int .i64 b, .sl none 45 c, .int .i64 d, .int .i64 e]
  | .p1 a b c d => [.own 0, .sl none 45 a, .int .i64 b, .int .i64 c]
def phs : Pt → List Root
  | .p0 a b c d e => []
  | .p1 a b c d => [.row 3 d]
noncomputable def step (J : Pt → Ans) : Pt → Ans
  | .p0 a b c d e => (bif (decide (e < d)) then (bif (decide ((0 : Int) ≤ e)) then (bif (decide (e < (c.length : Int))) then (bif (decide ((IntKind.i64.wrap (b + ((lAt c (Int.toNat e)).length : Int))) < 0)) then none else J (.p0 a (IntKind.i64.wrap (b + ((lAt c (Int.toNat e)).length : Int))) c d (IntKind.i64.wrap (e + 1)))) else none) else none) else (call (slices_Grow_Sint_int.R b) fun v1 => J (.p1 a (a.length : Int) 0 v1)))
  | .p1 a b c d => (bif (decide (c < b)) then (bif (decide ((0 : Int) ≤ c)) then (bif (decide (c < (a.length : Int))) then (bif (lim (((d.length : Int) + ((lAt a (Int.toNat c)).length : Int)) * 8)) then J (.p1 a b (IntKind.i64.wrap (c + 1)) (d ++ (lAt a (Int.toNat c)))) else none) else none) else none) else ret (d : List (List L)))
noncomputable def start (J : Pt → Ans) (x0 : List (List L)) : Ans := J (.p0 x0 0 x0 (x0.length : Int) 0)
def live : Nat → Live := fun i => match i with | 3 => [(0, none), (3, none), (9, none), (10, none), (11, none)] | 11 => [(6, none), (25, none), (26, none), (27, none)] | _ => []
def pats : List Pat := [.rd (.sl 45)]
def res : RP := .one (.fr 3)
noncomputable abbrev E : Env := ⟨assoc Tab, conG [(239, slices_Grow_Sint_int.con)], 36⟩
set_option maxRecDepth 100000
theorem step_eq (I : Heads) (p : Pt) : enterC E live I (pid p) (bodyOf Tryz.f192) (stOf (live (pid p)) (pvs p) (phs p)) (doneK E Tryz.f192 res) = step (fun q => I (pid q) (pvs q) (phs q)) p := by
  cases p <;> kernel_rfl
theorem start_eq (I : Heads) (ls : List L) : runC E live I (bodyOf Tryz.f192) (initS pats ls) (doneK E Tryz.f192 res) = start (fun q => I (pid q) (pvs q) (phs q)) (ls.headD .hole).toSl := by kernel_rfl
theorem run_eq (n : Nat) (ls : List L) : runF E live Tryz.f192 res n (initS pats ls) = start (iter step n) (ls.headD .hole).toSl := runF_iter (id := pid) (vs := pvs) (hs := phs) (step := step) (start := fun J => start J (ls.headD .hole).toSl) step_eq (fun I => start_eq I ls) n
noncomputable def md (a0 : List (List Int)) : List Int := a0.flatten
def gd (a0 : List (List Int)) : Prop := a0.length ≤ 8 ∧ ∀ x ∈ a0, x.length ≤ 2 ^ 40
def acc (ls : List L) : List (List L) := (ls.headD .hole).toSl
noncomputable def R : (List (List L)) → Option (List (List L)) := RR gd md
theorem R_eq {a0} (h : gd a0) : R (a0.map (lRow iRow)) = some ((md a0).map iRow) := RR_eq (a := a0) h
noncomputable def con : Con := CN pats res acc R
theorem okF (a0 : List (List Int)) (hg : gd a0) : ∃ n, start (iter step n) (a0.map (lRow iRow)) = ret (((md a0).map iRow) : List (List L)) := by
  obtain ⟨hl, hx⟩ := hg
  have hs : ∀ i, i ≤ a0.length → ((a0.take i).map List.length).sum ≤ i * 2 ^ 40 := by
    intro i
    induction i with
    | zero => intro _; simp
    | succ i ih =>
      intro hi
      rw [List.take_succ_eq_append_getElem (by omega)]
      have h1 := hx a0[i] (List.getElem_mem _)
      have h2 := ih (by omega)
      simp only [List.map_append, List.map_cons, List.map_nil, List.sum_append, List.sum_cons, List.sum_nil]
      omega
  have hstep : ∀ i (h : i < a0.length), ((a0.take (i + 1)).map List.length).sum = ((a0.take i).map List.length).sum + a0[i].length := by
    intro i hi
    rw [List.take_succ_eq_append_getElem (by omega)]
    simp only [List.map_append, List.map_cons, List.map_nil, List.sum_append, List.sum_cons, List.sum_nil]
    omega
  have hf : ∀ i, (a0.take i).flatten.length = ((a0.take i).map List.length).sum := fun i => List.length_flatten
  have second : ∀ k i, i + k = a0.length → ∃ n, iter step n (Pt.p1 (a0.map (lRow iRow)) (a0.length : Int) (i : Int) ((a0.take i).flatten.map iRow)) = ret (a0.flatten.map iRow : List (List L)) := by
    intro k
    induction k with
    | zero =>
      intro i hi
      obtain rfl : i = a0.length := by omega
      refine ⟨1, ?_⟩
      show step (iter step 0) (Pt.p1 _ _ _ _) = _
      simp only [step]
      refine no_ret (by simp) ?_
      rw [List.take_length]
    | succ k ih =>
      intro i hi
      obtain ⟨n, hn⟩ := ih (i + 1) (by omega)
      refine ⟨n + 1, ?_⟩
      show step (iter step n) (Pt.p1 _ _ _ _) = _
      have hlt : i < a0.length := by omega
      have b1 := hs (i + 1) (by omega)
      have b2 := hstep i hlt
      simp only [step, List.length_map, toNat_nat, lAt_getD]
      refine yes_ret (by simp; omega) (yes_ret (by simp) (yes_ret (by simp; omega) (yes_ret (lim_t ?_) ?_)))
      · rw [getD_lt hlt, hf]; omega
      · rw [wrap_succ hlt (by simp only [maxLen]; omega), getD_lt hlt, ← List.map_append]
        have e : (a0.take i).flatten ++ a0[i] = (a0.take (i + 1)).flatten := by
          rw [List.take_succ_eq_append_getElem (by omega)]
          simp only [List.flatten_append, List.flatten_cons, List.flatten_nil, List.append_nil]
        rw [e]; exact hn
  have first : ∀ k i, i + k = a0.length → ∃ n, iter step n (Pt.p0 (a0.map (lRow iRow)) ((((a0.take i).map List.length).sum : Nat) : Int) (a0.map (lRow iRow)) (a0.length : Int) (i : Int)) = ret (a0.flatten.map iRow : List (List L)) := by
    intro k
    induction k with
    | zero =>
      intro i hi
      obtain rfl : i = a0.length := by omega
      obtain ⟨n, hn⟩ := second a0.length 0 (by omega)
      refine ⟨n + 1, ?_⟩
      show step (iter step n) (Pt.p0 _ _ _ _ _) = _
      have b1 := hs a0.length (by omega)
      simp only [step]
      refine no_ret (by simp) (call_to [] (slices_Grow_Sint_int.R_eq ⟨by omega, by omega⟩) ?_)
      simpa using hn
    | succ k ih =>
      intro i hi
      obtain ⟨n, hn⟩ := ih (i + 1) (by omega)
      refine ⟨n + 1, ?_⟩
      show step (iter step n) (Pt.p0 _ _ _ _ _) = _
      have hlt : i < a0.length := by omega
      have b1 := hs (i + 1) (by omega)
      have b2 := hstep i hlt
      simp only [step, List.length_map, toNat_nat, lAt_getD, getD_lt hlt]
      have e : IntKind.i64.wrap (((((a0.take i).map List.length).sum : Nat) : Int) + (a0[i].length : Int)) = ((((a0.take (i + 1)).map List.length).sum : Nat) : Int) := by
        rw [Go.IntWalk.i64_in _ (by omega)]; omega
      rw [e]
      refine yes_ret (by simp; omega) (yes_ret (by simp) (yes_ret (by simp; omega) (no_ret (by simp) ?_)))
      rw [wrap_succ hlt (by simp only [maxLen]; omega)]
      exact hn
  unfold md
  obtain ⟨n, hn⟩ := first a0.length 0 (by omega)
  refine ⟨n, ?_⟩
  unfold start
  simpa using hn
theorem valid_ : Valid Tryz.prog Ev 192 con := VV (run := fun n x => start (iter step n) x) mix tab_ok (.cons slices_Grow_Sint_int.valid_ .nil) Tryz.func192 (by kernel_rfl) run_eq (fun _ a _ _ hg => okF a hg)
theorem len (a0 : List (List Int)) : (md a0).length = (a0.map List.length).sum := by simp [md]
end slices_Concat_Sint_int
/-! impl.HeadInts -/
namespace impl_HeadInts
noncomputable def F (x0 : RHead) : Ans := (call (impl_KeysInts.R x0.fKeys) fun v1 => (call (impl_KeysInts.R x0.fHeirs) fun v2 => (call (impl_KeysInts.R x0.fJudge) fun v3 => (call (impl_bit.R x0.fFrozen) fun v4 => (call (slices_Concat_Sint_int.R [[L.sl [[L.int x0.fZone], [L.int x0.fEpoch], [L.int x0.fKind], [L.int x0.fTime], [L.int x0.fUntil], [L.int x0.fCount], [L.int x0.fRoot], [L.int x0.fPrev]]], [L.sl v1], [L.sl v2], [L.sl [[L.int x0.fWait]]], [L.sl v3], [L.sl [[L.int v4]]]]) fun v5 => ret (v5 : List (List L)))))))
def pats : List Pat := [.agg [.int .i64, .int .i64, .int .i64, .int .i64, .int .i64, .int .i64, .int .i64, .int .i64, .sl 3, .int .i64, .sl 3, .int .i64, .int .i64, .sl 3, .int .i64, .bool]]
def res : RP := .one (.fr 3)
noncomputable abbrev E : Env := ⟨assoc Tab, conG [(193, impl_KeysInts.con), (194, impl_bit.con), (192, slices_Concat_Sint_int.con)], 38⟩
set_option maxRecDepth 100000
theorem run_eq (n : Nat) (ls : List L) : runF E (fun _ => []) Tryz.f140 res n (initS pats ls) = F (RHead.dec ls) := by kernel_rfl
noncomputable def md (a0 : MHead) : List Int := (slices_Concat_Sint_int.md [[a0.fZone, a0.fEpoch, a0.fKind, a0.fTime, a0.fUntil, a0.fCount, a0.fRoot, a0.fPrev], (impl_KeysInts.md a0.fKeys), (impl_KeysInts.md a0.fHeirs), [a0.fWait], (impl_KeysInts.md a0.fJudge), [(impl_bit.md a0.fFrozen)]])
def gd (a0 : MHead) : Prop := (MHead.Sm (2 ^ 21) a0)
def acc (ls : List L) : RHead := (RHead.dec ls)
noncomputable def R : RHead → Option (List (List L)) := RR gd md
theorem R_eq {a0} (h : gd a0) : R (MHead.r a0) = some ((md a0).map iRow) := RR_eq (a := a0) h
noncomputable def con : Con := CN pats res acc R
theorem okF (a0 : MHead) (hg : gd a0) : F (MHead.r a0) = ret (((md a0).map iRow) : List (List L)) := by
  unfold gd at hg
  have H0 := hg
  unfold F md
  try simp only [S0, MHead.rs]
  refine call_to ((impl_KeysInts.md a0.fKeys).map iRow) (impl_KeysInts.R_eq (a0 := a0.fKeys) H0.1) ?_
  try simp only [S0, MHead.rs]
  refine call_to ((impl_KeysInts.md a0.fHeirs).map iRow) (impl_KeysInts.R_eq (a0 := a0.fHeirs) H0.2.1) ?_
  try simp only [S0, MHead.rs]
  refine call_to ((impl_KeysInts.md a0.fJudge).map iRow) (impl_KeysInts.R_eq (a0 := a0.fJudge) H0.2.2) ?_
  try simp only [S0, MHead.rs]
  refine call_to (impl_bit.md a0.fFrozen) (impl_bit.R_eq (a0 := a0.fFrozen) trivial) ?_
  refine call_to ((slices_Concat_Sint_int.md [[a0.fZone, a0.fEpoch, a0.fKind, a0.fTime, a0.fUntil, a0.fCount, a0.fRoot, a0.fPrev], (impl_KeysInts.md a0.fKeys), (impl_KeysInts.md a0.fHeirs), [a0.fWait], (impl_KeysInts.md a0.fJudge), [(impl_bit.md a0.fFrozen)]]).map iRow) ?_ ?_
  · have R_ := slices_Concat_Sint_int.R_eq (a0 := [[a0.fZone, a0.fEpoch, a0.fKind, a0.fTime, a0.fUntil, a0.fCount, a0.fRoot, a0.fPrev], (impl_KeysInts.md a0.fKeys), (impl_KeysInts.md a0.fHeirs), [a0.fWait], (impl_KeysInts.md a0.fJudge), [(impl_bit.md a0.fFrozen)]]) ⟨(by simp), (by
        have := impl_KeysInts.len a0.fKeys
        have := (H0.1).1
        have := impl_KeysInts.len a0.fHeirs
        have := (H0.2.1).1
        have := impl_KeysInts.len a0.fJudge
        have := (H0.2.2).1
        intro x_ hx_
        simp only [List.mem_cons, List.not_mem_nil, or_false] at hx_
        rcases hx_ with hx_ | hx_ | hx_ | hx_ | hx_ | hx_
        all_goals (subst hx_; first | omega | (simp only [LN]; omega)))⟩
    first | exact R_ | (simp only [MP, S0, MHead.rs] at R_ ⊢; first | exact R_ | (rw [← R_]; rfl))
  try simp only [S0, MHead.rs]
  all_goals first | rfl | (simp only [S0, MHead.rs]; done) | (simp only [MP]; rfl) | (simp only [S0, MHead.rs, MP]; first | done | rfl)
theorem valid_ : Valid Tryz.prog Ev 140 con := VV (run := fun _ x => F x) mix tab_ok (.cons impl_KeysInts.valid_ (.cons impl_bit.valid_ (.cons slices_Concat_Sint_int.valid_ .nil))) Tryz.func140 (by kernel_rfl) run_eq (fun _ a _ _ hg => ⟨0, okF a hg⟩)
theorem len (a0 : MHead) : (md a0).length = 16 + a0.fKeys.fList.length + a0.fHeirs.fList.length + a0.fJudge.fList.length := by unfold md; simp [slices_Concat_Sint_int.md, impl_KeysInts.len]; omega
theorem br (a0 : MHead) : md a0 = spec_HeadInts.md a0 := by
  rw [spec_HeadInts.md_form]
  unfold md slices_Concat_Sint_int.md
  simp only [impl_KeysInts.br, impl_bit.md, List.flatten_cons, List.flatten_nil, List.cons_append, List.nil_append, List.append_nil]
end impl_HeadInts
/-! impl.KeyedHash -/
namespace impl_KeyedHash
noncomputable def F (x0 : Int) (x1 : List (List L)) : Ans := (call (slices_Concat_Sint_int.R [[L.sl [[L.int x0]]], [L.sl x1], [L.sl [[L.int x0]]]]) fun v1 => (call (impl_Hash.R v1) fun v2 => ret (v2 : Int)))
def pats : List Pat := [.rd (.int .i64), .rd (.sl 3)]
def res : RP := .one (.rd (.int .i64))
noncomputable abbrev E : Env := ⟨assoc Tab, conG [(192, slices_Concat_Sint_int.con), (201, impl_Hash.con)], 13⟩
set_option maxRecDepth 100000
theorem run_eq (n : Nat) (ls : List L) : runF E (fun _ => []) Tryz.f277 res n (initS pats ls) = F (ls.headD .hole).toInt ((dropT 1 ls).headD .hole).toSl := by kernel_rfl
noncomputable def md (a0 : Int) (a1 : List Int) : Int := ((impl_Hash.md (slices_Concat_Sint_int.md [[a0], a1, [a0]])) : Int)
def gd (a0 : Int) (a1 : List Int) : Prop := (SmL (2 ^ 40) (fun y : Int => True) a1)
def acc (ls : List L) : Int × List (List L) := ((ls.headD .hole).toInt, ((dropT 1 ls).headD .hole).toSl)
noncomputable def R : (Int × List (List L)) → Option Int := RR (p2 gd) (u2 md)
theorem R_eq {a0} {a1} (h : gd a0 a1) : R (a0, (a1.map iRow)) = some (md a0 a1) := RR_eq (a := (a0, a1)) h
noncomputable def con : Con := CN pats res acc R
theorem okF (a0 : Int) (a1 : List Int) (hg : gd a0 a1) : F a0 (a1.map iRow) = ret ((md a0 a1) : Int) := by
  unfold gd at hg
  have H1 := hg
  unfold F md
  try simp only [S0]
  refine call_to ((slices_Concat_Sint_int.md [[a0], a1, [a0]]).map iRow) ?_ ?_
  · have R_ := slices_Concat_Sint_int.R_eq (a0 := [[a0], a1, [a0]]) ⟨(by simp), (by
        have := (H1).1
        intro x_ hx_
        simp only [List.mem_cons, List.not_mem_nil, or_false] at hx_
        rcases hx_ with hx_ | hx_ | hx_
        all_goals (subst hx_; first | omega | (simp only [LN]; omega)))⟩
    first | exact R_ | (simp only [MP, S0] at R_ ⊢; first | exact R_ | (rw [← R_]; rfl))
  try simp only [S0]
  refine call_to (impl_Hash.md (slices_Concat_Sint_int.md [[a0], a1, [a0]])) (impl_Hash.R_eq (a0 := (slices_Concat_Sint_int.md [[a0], a1, [a0]])) ⟨(by
      have := slices_Concat_Sint_int.len [[a0], a1, [a0]]
      try simp only [LN] at this
      have := (H1).1
      try simp (disch := omega) only [LN, wi]
      first | omega | (simp; done) | (simp; omega)), fun _ _ => trivial⟩) ?_
  first | rfl | (simp only [S0, MP]; first | done | rfl)
theorem valid_ : Valid Tryz.prog Ev 277 con := VV (run := fun _ x => F x.1 x.2) mix tab_ok (.cons slices_Concat_Sint_int.valid_ (.cons impl_Hash.valid_ .nil)) Tryz.func277 (by kernel_rfl) run_eq (fun _ a _ _ hg => ⟨0, okF a.1 a.2 hg⟩)
theorem br (a0 : Int) (a1 : List Int) : md a0 a1 = spec_KeyedHash.md a0 a1 := by
  unfold md spec_KeyedHash.md
  first
  | (simp only [impl_Hash.br]; done)
  | (simp only [impl_Hash.br]; rfl)
  | rfl
end impl_KeyedHash
/-! impl.TagOf -/
namespace impl_TagOf
noncomputable def F (x0 : Int) (x1 : List (List L)) : Ans := (bif (lim (((1 : Int) + (x1.length : Int)) * 8)) then (call (impl_KeyedHash.R (x0, ([[L.int 223]] ++ x1))) fun v1 => ret (v1 : Int)) else none)
def pats : List Pat := [.rd (.int .i64), .rd (.sl 3)]
def res : RP := .one (.rd (.int .i64))
noncomputable abbrev E : Env := ⟨assoc Tab, conG [(277, impl_KeyedHash.con)], 10⟩
set_option maxRecDepth 100000
theorem run_eq (n : Nat) (ls : List L) : runF E (fun _ => []) Tryz.f272 res n (initS pats ls) = F (ls.headD .hole).toInt ((dropT 1 ls).headD .hole).toSl := by kernel_rfl
noncomputable def md (a0 : Int) (a1 : List Int) : Int := ((impl_KeyedHash.md a0 ([223] ++ a1)) : Int)
def gd (a0 : Int) (a1 : List Int) : Prop := (SmL (2 ^ 39) (fun y : Int => True) a1)
def acc (ls : List L) : Int × List (List L) := ((ls.headD .hole).toInt, ((dropT 1 ls).headD .hole).toSl)
noncomputable def R : (Int × List (List L)) → Option Int := RR (p2 gd) (u2 md)
theorem R_eq {a0} {a1} (h : gd a0 a1) : R (a0, (a1.map iRow)) = some (md a0 a1) := RR_eq (a := (a0, a1)) h
noncomputable def con : Con := CN pats res acc R
theorem okF (a0 : Int) (a1 : List Int) (hg : gd a0 a1) : F a0 (a1.map iRow) = ret ((md a0 a1) : Int) := by
  unfold gd at hg
  have H1 := hg
  unfold F md
  try simp only [S0]
  refine yes_ret (by
      have := (H1).1
      refine lim_t ?_
      try simp (disch := omega) only [LN, wi]
      first | omega | (simp; done) | (simp; omega)) ?_
  refine call_to (impl_KeyedHash.md a0 ([223] ++ a1)) ?_ ?_
  · have R_ := impl_KeyedHash.R_eq (a0 := a0) (a1 := ([223] ++ a1)) ⟨(by
        have := (H1).1
        try simp (disch := omega) only [LN, wi]
        first | omega | (simp; done) | (simp; omega)), fun _ _ => trivial⟩
    first | exact R_ | (simp only [MP, S0] at R_ ⊢; first | exact R_ | (rw [← R_]; rfl))
  first | rfl | (simp only [S0, MP]; first | done | rfl)
theorem valid_ : Valid Tryz.prog Ev 272 con := VV (run := fun _ x => F x.1 x.2) mix tab_ok (.cons impl_KeyedHash.valid_ .nil) Tryz.func272 (by kernel_rfl) run_eq (fun _ a _ _ hg => ⟨0, okF a.1 a.2 hg⟩)
theorem br (a0 : Int) (a1 : List Int) : md a0 a1 = spec_TagOf.md a0 a1 := by
  unfold md spec_TagOf.md
  first
  | (simp only [impl_KeyedHash.br]; done)
  | (simp only [impl_KeyedHash.br]; rfl)
  | rfl
end impl_TagOf
/-! impl.IsSigBy -/
namespace impl_IsSigBy
noncomputable def F (x0 : MSig) (x1 : List (List L)) : Ans := (call (impl_isKey.R x0.fKey) fun v1 => (bif v1 then (call (impl_TagOf.R (x0.fKey, x1)) fun v2 => ret ((x0.fTag == v2) : Bool)) else ret (false : Bool)))
def pats : List Pat := [.agg [.int .i64, .int .i64], .rd (.sl 3)]
def res : RP := .one (.rd (.bool))
noncomputable abbrev E : Env := ⟨assoc Tab, conG [(241, impl_isKey.con), (272, impl_TagOf.con)], 17⟩
set_option maxRecDepth 100000
theorem run_eq (n : Nat) (ls : List L) : runF E (fun _ => []) Tryz.f262 res n (initS pats ls) = F (MSig.dec ls) ((dropT 2 ls).headD .hole).toSl := by kernel_rfl
noncomputable def md (a0 : MSig) (a1 : List Int) : Bool := (bif (impl_isKey.md a0.fKey) then ((a0.fTag == (impl_TagOf.md a0.fKey a1)) : Bool) else (false : Bool))
def gd (a0 : MSig) (a1 : List Int) : Prop := (SmL (2 ^ 38) (fun y : Int => True) a1)
def acc (ls : List L) : MSig × List (List L) := ((MSig.dec ls), ((dropT 2 ls).headD .hole).toSl)
noncomputable def R : (MSig × List (List L)) → Option Bool := RR (p2 gd) (u2 md)
theorem R_eq {a0} {a1} (h : gd a0 a1) : R (a0, (a1.map iRow)) = some (md a0 a1) := RR_eq (a := (a0, a1)) h
noncomputable def con : Con := CN pats res acc R
theorem okF (a0 : MSig) (a1 : List Int) (hg : gd a0 a1) : F a0 (a1.map iRow) = ret ((md a0 a1) : Bool) := by
  unfold gd at hg
  have H1 := hg
  unfold F md
  try simp only [S0]
  refine call_to (impl_isKey.md a0.fKey) (impl_isKey.R_eq (a0 := a0.fKey) trivial) ?_
  refine bif_out ret (fun c1 => ?_) (fun _ => rfl)
  refine call_to (impl_TagOf.md a0.fKey a1) (impl_TagOf.R_eq (a0 := a0.fKey) (a1 := a1) (H1.mono (by decide) (fun x hx => trivial))) ?_
  first | rfl | (simp only [S0, MP]; first | done | rfl)
theorem valid_ : Valid Tryz.prog Ev 262 con := VV (run := fun _ x => F x.1 x.2) mix tab_ok (.cons impl_isKey.valid_ (.cons impl_TagOf.valid_ .nil)) Tryz.func262 (by kernel_rfl) run_eq (fun _ a _ _ hg => ⟨0, okF a.1 a.2 hg⟩)
theorem br (a0 : MSig) (a1 : List Int) : md a0 a1 = spec_IsSigBy.md a0 a1 := by
  unfold md spec_IsSigBy.md
  first
  | (simp only [impl_TagOf.br]; done)
  | (simp only [impl_TagOf.br]; rfl)
  | rfl
end impl_IsSigBy
/-! impl.CountSigs$1 -/
namespace impl_CountSigs_1
noncomputable def F (x0 : MSig) (x1 : List L) (x2 : List L) : Ans := (bif (x0.fKey == (iDec x1)) then (call (impl_IsSigBy.R (x0, (lDec x2))) fun v1 => ret (v1 : Bool)) else ret (false : Bool))
def pats : List Pat := [.agg [.int .i64, .int .i64], .ptr [.int .i64], .ptr [.sl 3]]
def res : RP := .one (.rd (.bool))
noncomputable abbrev E : Env := ⟨assoc Tab, conG [(262, impl_IsSigBy.con)], 14⟩
set_option maxRecDepth 100000
theorem run_eq (n : Nat) (ls : List L) : runF E (fun _ => []) Tryz.f261 res n (initS pats ls) = F (MSig.dec ls) (padL 1 (dropT 2 ls)) (padL 1 (dropT 3 ls)) := by kernel_rfl
noncomputable def md (a0 : MSig) (a1 : Int) (a2 : List Int) : Bool := (bif (a0.fKey == a1) then ((impl_IsSigBy.md a0 a2) : Bool) else (false : Bool))
def gd (a0 : MSig) (a1 : Int) (a2 : List Int) : Prop := (SmL (2 ^ 38) (fun y : Int => True) a2)
def acc (ls : List L) : MSig × Int × List (List L) := ((MSig.dec ls), (iDec (padL 1 (dropT 2 ls))), (lDec (padL 1 (dropT 3 ls))))
noncomputable def R : (MSig × Int × List (List L)) → Option Bool := RR (p3 gd) (u3 md)
theorem R_eq {a0} {a1} {a2} (h : gd a0 a1 a2) : R (a0, a1, (a2.map iRow)) = some (md a0 a1 a2) := RR_eq (a := (a0, a1, a2)) h
noncomputable def con : Con := CN pats res acc R
theorem okF (a0 : MSig) (a1 : Int) (a2 : List Int) (p1 : List L) (p2 : List L) (e1 : a1 = (iDec p1)) (e2 : (a2.map iRow) = (lDec p2)) (hg : gd a0 a1 a2) : F a0 p1 p2 = ret ((md a0 a1 a2) : Bool) := by
  unfold gd at hg
  have H2 := hg
  unfold F md
  try simp only [S0, ← e1, ← e2]
  refine bif_out ret (fun c1 => ?_) (fun _ => rfl)
  refine call_to (impl_IsSigBy.md a0 a2) (impl_IsSigBy.R_eq (a0 := a0) (a1 := a2) H2) ?_
  first | rfl | (simp only [S0, ← e1, ← e2, MP]; first | done | rfl)
theorem okV (ls : List L) (a : MSig × Int × List Int) (e : acc ls = Im.im a) (hg : (p3 gd) a) : ∃ n : Nat, F (MSig.dec ls) (padL 1 (dropT 2 ls)) (padL 1 (dropT 3 ls)) = ret (Im.im ((u3 md) a)) := by
  have e0 : a.1 = (MSig.dec ls) := (congrArg (fun x => x.1) e.symm)
  have hn := okF a.1 a.2.1 a.2.2 (padL 1 (dropT 2 ls)) (padL 1 (dropT 3 ls)) (congrArg (fun x => x.2.1) e.symm) (congrArg (fun x => x.2.2) e.symm) hg
  refine ⟨0, ?_⟩
  rw [← e0]
  exact hn
theorem valid_ : Valid Tryz.prog Ev 261 con := VP (accr := fun ls => ((MSig.dec ls), (padL 1 (dropT 2 ls)), (padL 1 (dropT 3 ls)))) (run := fun _ x => F x.1 x.2.1 x.2.2) mix tab_ok (.cons impl_IsSigBy.valid_ .nil) Tryz.func261 (by kernel_rfl) run_eq (fun ls a _ e hg => okV ls a e hg)
end impl_CountSigs_1
/-! slices.IndexFunc[[]impl.Sig,impl.Sig] -/
namespace slices_IndexFunc_Simpl_Sig_impl_Sig__impl_CountSigs_1
inductive Pt where
  | p0 (a : List (List L)) (b : List L) (c : List L) (d : Int) (e : Int)
def pid : Pt → Nat
  | .p0 .. => 2
def pvs : Pt → List V
  | .p0 a b c d e => [.sl none 179 a, .fn 261 [.cptr none [.int .i64] b 0, .cptr none [.sl 3] c 0], .int .i64 d, .int .i64 e]
def phs : Pt → List Root
  | .p0 a b c d e => []
noncomputable def step (J : Pt → Ans) : Pt → Ans
  | .p0 a b c d e => (bif (decide (e < d)) then (bif (decide ((0 : Int) ≤ e)) then (bif (decide (e < (a.length : Int))) then (call (impl_CountSigs_1.R ((MSig.at a (Int.toNat e)), (iDec b), (lDec c))) fun v1 => (bif v1 then ret (e : Int) else J (.p0 a b c d (IntKind.i64.wrap (e + 1))))) else none) else none) else ret ((-1) : Int))
noncomputable def start (J : Pt → Ans) (x0 : List (List L)) (x1 : List L) (x2 : List L) : Ans := J (.p0 x0 x1 x2 (x0.length : Int) 0)
def live : Nat → Live := fun i => match i with | 2 => [(0, none), (1, none), (7, none), (8, none)] | _ => []
def pats : List Pat := [.rd (.sl 179), .fn 261 [[.int .i64], [.sl 3]]]
def res : RP := .one (.rd (.int .i64))
noncomputable abbrev E : Env := ⟨assoc Tab, conG [(261, impl_CountSigs_1.con)], 19⟩
set_option maxRecDepth 100000
theorem step_eq (I : Heads) (p : Pt) : enterC E live I (pid p) (bodyOf Tryz.f271) (stOf (live (pid p)) (pvs p) (phs p)) (doneK E Tryz.f271 res) = step (fun q => I (pid q) (pvs q) (phs q)) p := by
  cases p <;> kernel_rfl
theorem start_eq (I : Heads) (ls : List L) : runC E live I (bodyOf Tryz.f271) (initS pats ls) (doneK E Tryz.f271 res) = start (fun q => I (pid q) (pvs q) (phs q)) (ls.headD .hole).toSl (padL 1 (dropT 1 ls)) (padL 1 (dropT 2 ls)) := by kernel_rfl
theorem run_eq (n : Nat) (ls : List L) : runF E live Tryz.f271 res n (initS pats ls) = start (iter step n) (ls.headD .hole).toSl (padL 1 (dropT 1 ls)) (padL 1 (dropT 2 ls)) := runF_iter (id := pid) (vs := pvs) (hs := phs) (step := step) (start := fun J => start J (ls.headD .hole).toSl (padL 1 (dropT 1 ls)) (padL 1 (dropT 2 ls))) step_eq (fun I => start_eq I ls) n
noncomputable def md (a0 : List MSig) (a1 : Int) (a2 : List Int) : Int := (eachI (S := Unit) (β := Int) (fun (i1 : Nat) (y1 : MSig) (s3 : Unit) => (bif (impl_CountSigs_1.md y1 a1 a2) then (.inr ((i1 : Int) : Int)) else (.inl ()))) (fun (s3 : Unit) => ((-1) : Int)) 0 a0 ())
def gd (a0 : List MSig) (a1 : Int) (a2 : List Int) : Prop := (SmL (2 ^ 21) (fun y : MSig => MSig.Sm (2 ^ 21) y) a0) ∧ (SmL (2 ^ 38) (fun y : Int => True) a2)
def acc (ls : List L) : List (List L) × Int × List (List L) := ((ls.headD .hole).toSl, (iDec (padL 1 (dropT 1 ls))), (lDec (padL 1 (dropT 2 ls))))
noncomputable def R : (List (List L) × Int × List (List L)) → Option Int := RR (p3 gd) (u3 md)
theorem R_eq {a0} {a1} {a2} (h : gd a0 a1 a2) : R ((a0.map MSig.row), a1, (a2.map iRow)) = some (md a0 a1 a2) := RR_eq (a := (a0, a1, a2)) h
noncomputable def con : Con := CN pats res acc R
theorem okF (a0 : List MSig) (a1 : Int) (a2 : List Int) (p1 : List L) (p2 : List L) (e1 : a1 = (iDec p1)) (e2 : (a2.map iRow) = (lDec p2)) (hg : gd a0 a1 a2) : ∃ n, start (iter step n) (a0.map MSig.row) p1 p2 = ret ((md a0 a1 a2) : Int) := by
  unfold gd at hg
  obtain ⟨H0, H2⟩ := hg
  unfold start md
  try simp only [S0, MSig.rs, ← e1, ← e2]
  have Bh2 : a0.length ≤ maxLen := (by
      have := (H0).1
      try simp only [maxLen] at *
      omega)
  refine ex_eq (out := ret) (loopM_eachI (z := MSig.zero)) ?_
  refine ex_pt (p := Pt.p0 (a0.map MSig.row) p1 p2 (a0.length : Int) 0) (by first | rfl | (simp only [S0, MSig.rs, ← e1, ← e2, MP]; done) | (simp only [MP]; rfl)) ?_
  refine loopM_ok (pt := fun (i1 : Nat) (s3 : Unit) => Pt.p0 (a0.map MSig.row) p1 p2 (a0.length : Int) (i1 : Int)) (s := (() : Unit)) (out := ret) (fun _ _ => True) (fun J i1 s3 h2 hih2 => ?_) (fun s3 hih2 => ?_) trivial
  · simp only [step, S0, MSig.rs, ← e1, ← e2]
    have bb_ := Bh2
    simp only [maxLen] at bb_
    have := (H0).1
    refine Rnd.yes (by apply decide_eq_true; omega) ?_
    refine Rnd.yes zle_dec ?_
    refine Rnd.yes (lt_dec h2) ?_
    refine Rnd.call_to (impl_CountSigs_1.md (a0.getD i1 MSig.zero) a1 a2) (impl_CountSigs_1.R_eq (a0 := (a0.getD i1 MSig.zero)) (a1 := a1) (a2 := a2) H2) ?_
    refine Rnd.bif (fun c4 => ?_) (fun c4 => ?_)
    · refine Rnd.inr ?_
      first | rfl | (simp only [S0, MSig.rs, ← e1, ← e2, MP]; first | done | rfl)
    · refine Rnd.inl trivial ?_
      rw [wrap_succ h2 Bh2]
      all_goals first | rfl | (simp only [S0, MSig.rs, ← e1, ← e2, MP]; first | done | rfl)
  · simp only [step, S0, MSig.rs, ← e1, ← e2]
    have := (H0).1
    refine ex_no (by apply decide_eq_false; omega) ?_
    refine ⟨0, ?_⟩
    first | rfl | (simp only [S0, MSig.rs, ← e1, ← e2, MP]; first | done | rfl)
theorem okV (ls : List L) (a : List MSig × Int × List Int) (e : acc ls = Im.im a) (hg : (p3 gd) a) : ∃ n : Nat, start (iter step n) ((ls.headD .hole).toSl) (padL 1 (dropT 1 ls)) (padL 1 (dropT 2 ls)) = ret (Im.im ((u3 md) a)) := by
  have e0 : (a.1.map MSig.row) = (ls.headD .hole).toSl := (congrArg (fun x => x.1) e.symm)
  obtain ⟨n, hn⟩ := okF a.1 a.2.1 a.2.2 (padL 1 (dropT 1 ls)) (padL 1 (dropT 2 ls)) (congrArg (fun x => x.2.1) e.symm) (congrArg (fun x => x.2.2) e.symm) hg
  refine ⟨n, ?_⟩
  rw [← e0]
  exact hn
theorem valid_ : Valid Tryz.prog Ev 271 con := VP (accr := fun ls => ((ls.headD .hole).toSl, (padL 1 (dropT 1 ls)), (padL 1 (dropT 2 ls)))) (run := fun n x => start (iter step n) x.1 x.2.1 x.2.2) mix tab_ok (.cons impl_CountSigs_1.valid_ .nil) Tryz.func271 (by kernel_rfl) run_eq (fun ls a _ e hg => okV ls a e hg)
theorem fa (a0 : List MSig) (a1 : Int) (a2 : List Int) : -1 ≤ md a0 a1 a2 ∧ md a0 a1 a2 < (a0.length : Int) := by
  unfold md
  refine eachI_fa0 ?_ _ _
  all_goals
    intro i x s b h
    revert h
    simp only [Bool.cond_eq_ite]
    repeat' split
    all_goals (intro h; first | (cases h; rfl) | cases h)
theorem idx_eq (a0 : List MSig) (a1 : Int) (a2 : List Int) : md a0 a1 a2 = findI (fun y => impl_CountSigs_1.md y a1 a2) 0 a0 := by
  unfold md
  exact eachI_find
end slices_IndexFunc_Simpl_Sig_impl_Sig__impl_CountSigs_1
/-! slices.ContainsFunc[[]impl.Sig,impl.Sig] -/
namespace slices_ContainsFunc_Simpl_Sig_impl_Sig__impl_CountSigs_1
noncomputable def F (x0 : List (List L)) (x1 : List L) (x2 : List L) : Ans := (call (slices_IndexFunc_Simpl_Sig_impl_Sig__impl_CountSigs_1.R (x0, (iDec x1), (lDec x2))) fun v1 => ret ((decide (v1 ≥ 0)) : Bool))
def pats : List Pat := [.rd (.sl 179), .fn 261 [[.int .i64], [.sl 3]]]
def res : RP := .one (.rd (.bool))
noncomputable abbrev E : Env := ⟨assoc Tab, conG [(271, slices_IndexFunc_Simpl_Sig_impl_Sig__impl_CountSigs_1.con)], 9⟩
set_option maxRecDepth 100000
theorem run_eq (n : Nat) (ls : List L) : runF E (fun _ => []) Tryz.f260 res n (initS pats ls) = F (ls.headD .hole).toSl (padL 1 (dropT 1 ls)) (padL 1 (dropT 2 ls)) := by kernel_rfl
noncomputable def md (a0 : List MSig) (a1 : Int) (a2 : List Int) : Bool := ((decide ((slices_IndexFunc_Simpl_Sig_impl_Sig__impl_CountSigs_1.md a0 a1 a2) ≥ 0)) : Bool)
def gd (a0 : List MSig) (a1 : Int) (a2 : List Int) : Prop := (SmL (2 ^ 21) (fun y : MSig => MSig.Sm (2 ^ 21) y) a0) ∧ (SmL (2 ^ 38) (fun y : Int => True) a2)
def acc (ls : List L) : List (List L) × Int × List (List L) := ((ls.headD .hole).toSl, (iDec (padL 1 (dropT 1 ls))), (lDec (padL 1 (dropT 2 ls))))
noncomputable def R : (List (List L) × Int × List (List L)) → Option Bool := RR (p3 gd) (u3 md)
theorem R_eq {a0} {a1} {a2} (h : gd a0 a1 a2) : R ((a0.map MSig.row), a1, (a2.map iRow)) = some (md a0 a1 a2) := RR_eq (a := (a0, a1, a2)) h
noncomputable def con : Con := CN pats res acc R
theorem okF (a0 : List MSig) (a1 : Int) (a2 : List Int) (p1 : List L) (p2 : List L) (e1 : a1 = (iDec p1)) (e2 : (a2.map iRow) = (lDec p2)) (hg : gd a0 a1 a2) : F (a0.map MSig.row) p1 p2 = ret ((md a0 a1 a2) : Bool) := by
  unfold gd at hg
  obtain ⟨H0, H2⟩ := hg
  unfold F md
  try simp only [S0, ← e1, ← e2]
  refine call_to (slices_IndexFunc_Simpl_Sig_impl_Sig__impl_CountSigs_1.md a0 a1 a2) (slices_IndexFunc_Simpl_Sig_impl_Sig__impl_CountSigs_1.R_eq (a0 := a0) (a1 := a1) (a2 := a2) ⟨H0, H2⟩) ?_
  have fv1_ := slices_IndexFunc_Simpl_Sig_impl_Sig__impl_CountSigs_1.fa a0 a1 a2
  first | rfl | (simp only [S0, ← e1, ← e2, MP]; first | done | rfl)
theorem okV (ls : List L) (a : List MSig × Int × List Int) (e : acc ls = Im.im a) (hg : (p3 gd) a) : ∃ n : Nat, F ((ls.headD .hole).toSl) (padL 1 (dropT 1 ls)) (padL 1 (dropT 2 ls)) = ret (Im.im ((u3 md) a)) := by
  have e0 : (a.1.map MSig.row) = (ls.headD .hole).toSl := (congrArg (fun x => x.1) e.symm)
  have hn := okF a.1 a.2.1 a.2.2 (padL 1 (dropT 1 ls)) (padL 1 (dropT 2 ls)) (congrArg (fun x => x.2.1) e.symm) (congrArg (fun x => x.2.2) e.symm) hg
  refine ⟨0, ?_⟩
  rw [← e0]
  exact hn
theorem valid_ : Valid Tryz.prog Ev 260 con := VP (accr := fun ls => ((ls.headD .hole).toSl, (padL 1 (dropT 1 ls)), (padL 1 (dropT 2 ls)))) (run := fun _ x => F x.1 x.2.1 x.2.2) mix tab_ok (.cons slices_IndexFunc_Simpl_Sig_impl_Sig__impl_CountSigs_1.valid_ .nil) Tryz.func260 (by kernel_rfl) run_eq (fun ls a _ e hg => okV ls a e hg)
theorem any_eq (a0 : List MSig) (a1 : Int) (a2 : List Int) : md a0 a1 a2 = a0.any (fun y => impl_CountSigs_1.md y a1 a2) := by
  unfold md
  rw [slices_IndexFunc_Simpl_Sig_impl_Sig__impl_CountSigs_1.idx_eq]
  exact findI_ge
end slices_ContainsFunc_Simpl_Sig_impl_Sig__impl_CountSigs_1
/-! impl.CountSigs -/
namespace impl_CountSigs
inductive Pt where
  | p0 (a : List (List L)) (b : Int) (c : List (List L)) (d : Int) (e : Int) (f : List (List L))
def pid : Pt → Nat
  | .p0 .. => 3
def pvs : Pt → List V
  | .p0 a b c d e f => [.sl none 179 a, .bptr 0 0, .int .i64 b, .sl none 3 c, .int .i64 d, .int .i64 e]
def phs : Pt → List Root
  | .p0 a b c d e f => [.box [.sl none 3 f]]
noncomputable def step (J : Pt → Ans) : Pt → Ans
  | .p0 a b c d e f => (bif (decide (e < d)) then (bif (decide ((0 : Int) ≤ e)) then (bif (decide (e < (c.length : Int))) then (call (slices_ContainsFunc_Simpl_Sig_impl_Sig__impl_CountSigs_1.R (a, (iAt c (Int.toNat e)), f)) fun v1 => (bif v1 then J (.p0 a (IntKind.i64.wrap (b + 1)) c d (IntKind.i64.wrap (e + 1)) f) else J (.p0 a b c d (IntKind.i64.wrap (e + 1)) f))) else none) else none) else ret (b : Int))
noncomputable def start (J : Pt → Ans) (x0 : RKeys) (x1 : List (List L)) (x2 : List (List L)) : Ans := J (.p0 x2 0 x0.fList (x0.fList.length : Int) 0 x1)
def live : Nat → Live := fun i => match i with | 3 => [(2, none), (4, none), (7, none), (11, none), (12, none), (13, none)] | _ => []
def pats : List Pat := [.agg [.sl 3, .int .i64], .rd (.sl 3), .rd (.sl 179)]
def res : RP := .one (.rd (.int .i64))
noncomputable abbrev E : Env := ⟨assoc Tab, conG [(260, slices_ContainsFunc_Simpl_Sig_impl_Sig__impl_CountSigs_1.con)], 24⟩
set_option maxRecDepth 100000
theorem step_eq (I : Heads) (p : Pt) : enterC E live I (pid p) (bodyOf Tryz.f243) (stOf (live (pid p)) (pvs p) (phs p)) (doneK E Tryz.f243 res) = step (fun q => I (pid q) (pvs q) (phs q)) p := by
  cases p <;> kernel_rfl
theorem start_eq (I : Heads) (ls : List L) : runC E live I (bodyOf Tryz.f243) (initS pats ls) (doneK E Tryz.f243 res) = start (fun q => I (pid q) (pvs q) (phs q)) (RKeys.dec ls) ((dropT 2 ls).headD .hole).toSl ((dropT 3 ls).headD .hole).toSl := by kernel_rfl
theorem run_eq (n : Nat) (ls : List L) : runF E live Tryz.f243 res n (initS pats ls) = start (iter step n) (RKeys.dec ls) ((dropT 2 ls).headD .hole).toSl ((dropT 3 ls).headD .hole).toSl := runF_iter (id := pid) (vs := pvs) (hs := phs) (step := step) (start := fun J => start J (RKeys.dec ls) ((dropT 2 ls).headD .hole).toSl ((dropT 3 ls).headD .hole).toSl) step_eq (fun I => start_eq I ls) n
noncomputable def md (a0 : MKeys) (a1 : List Int) (a2 : List MSig) : Int := (eachM (S := Int) (β := Int) (fun (y1 : Int) (s3 : Int) => (bif (slices_ContainsFunc_Simpl_Sig_impl_Sig__impl_CountSigs_1.md a2 y1 a1) then (.inl (IntKind.i64.wrap (s3 + 1))) else (.inl s3))) (fun (s3 : Int) => (s3 : Int)) a0.fList 0)
def gd (a0 : MKeys) (a1 : List Int) (a2 : List MSig) : Prop := (MKeys.Sm (2 ^ 21) a0) ∧ (SmL (2 ^ 38) (fun y : Int => True) a1) ∧ (SmL (2 ^ 21) (fun y : MSig => MSig.Sm (2 ^ 21) y) a2)
def acc (ls : List L) : RKeys × List (List L) × List (List L) := ((RKeys.dec ls), ((dropT 2 ls).headD .hole).toSl, ((dropT 3 ls).headD .hole).toSl)
noncomputable def R : (RKeys × List (List L) × List (List L)) → Option Int := RR (p3 gd) (u3 md)
theorem R_eq {a0} {a1} {a2} (h : gd a0 a1 a2) : R ((MKeys.r a0), (a1.map iRow), (a2.map MSig.row)) = some (md a0 a1 a2) := RR_eq (a := (a0, a1, a2)) h
noncomputable def con : Con := CN pats res acc R
theorem okF (a0 : MKeys) (a1 : List Int) (a2 : List MSig) (hg : gd a0 a1 a2) : ∃ n, start (iter step n) (MKeys.r a0) (a1.map iRow) (a2.map MSig.row) = ret ((md a0 a1 a2) : Int) := by
  unfold gd at hg
  obtain ⟨H0, H1, H2⟩ := hg
  unfold start md
  try simp only [S0, MKeys.rs]
  have Bh2 : a0.fList.length ≤ maxLen := (by
      have := (H0).1
      try simp only [maxLen] at *
      omega)
  refine ex_eq (out := ret) (loopM_eachM (z := 0)) ?_
  refine ex_pt (p := Pt.p0 (a2.map MSig.row) 0 (a0.fList.map iRow) (a0.fList.length : Int) 0 (a1.map iRow)) (by first | rfl | (simp only [S0, MKeys.rs, MP]; done) | (simp only [MP]; rfl)) ?_
  refine loopM_ok (pt := fun (i1 : Nat) (s3 : Int) => Pt.p0 (a2.map MSig.row) s3 (a0.fList.map iRow) (a0.fList.length : Int) (i1 : Int) (a1.map iRow)) (s := (0 : Int)) (out := ret) (fun _ _ => True) (fun J i1 s3 h2 hih2 => ?_) (fun s3 hih2 => ?_) trivial
  · simp only [step, S0, MKeys.rs]
    have bb_ := Bh2
    simp only [maxLen] at bb_
    have := (H0).1
    refine Rnd.yes (by apply decide_eq_true; omega) ?_
    refine Rnd.yes zle_dec ?_
    refine Rnd.yes (lt_dec h2) ?_
    refine Rnd.call_to (slices_ContainsFunc_Simpl_Sig_impl_Sig__impl_CountSigs_1.md a2 (a0.fList.getD i1 0) a1) (slices_ContainsFunc_Simpl_Sig_impl_Sig__impl_CountSigs_1.R_eq (a0 := a2) (a1 := (a0.fList.getD i1 0)) (a2 := a1) ⟨H2, H1⟩) ?_
    refine Rnd.bif (fun c4 => ?_) (fun c4 => ?_)
    · refine Rnd.inl trivial ?_
      rw [wrap_succ h2 Bh2]
      all_goals first | rfl | (simp only [S0, MKeys.rs, MP]; first | done | rfl)
    · refine Rnd.inl trivial ?_
      rw [wrap_succ h2 Bh2]
      all_goals first | rfl | (simp only [S0, MKeys.rs, MP]; first | done | rfl)
  · simp only [step, S0, MKeys.rs]
    have := (H0).1
    refine ex_no (by apply decide_eq_false; omega) ?_
    refine ⟨0, ?_⟩
    first | rfl | (simp only [S0, MKeys.rs, MP]; first | done | rfl)
theorem valid_ : Valid Tryz.prog Ev 243 con := VV (run := fun n x => start (iter step n) x.1 x.2.1 x.2.2) mix tab_ok (.cons slices_ContainsFunc_Simpl_Sig_impl_Sig__impl_CountSigs_1.valid_ .nil) Tryz.func243 (by kernel_rfl) run_eq (fun _ a _ _ hg => okF a.1 a.2.1 a.2.2 hg)
theorem br (a0 : MKeys) (a1 : List Int) (a2 : List MSig) : md a0 a1 a2 = spec_CountSigs.md a0 a1 a2 := by
  unfold md spec_CountSigs.md
  refine eachM_congr (fun x _ s => ?_) (fun s => rfl)
  rw [slices_ContainsFunc_Simpl_Sig_impl_Sig__impl_CountSigs_1.any_eq]
  refine Eq.trans ?_ (eachM_any' (β := Int ⊕ Int) (p := fun y => impl_CountSigs_1.md y x a1) (b := Sum.inl (IntKind.i64.wrap (s + 1))) (c := Sum.inl s) (fun y s' => ?_) a2 ()).symm
  · cases a2.any (fun y => impl_CountSigs_1.md y x a1) <;> rfl
  · unfold impl_CountSigs_1.md
    simp only [impl_IsSigBy.br]
    cases y.fKey == x <;> cases spec_IsSigBy.md y a1 <;> rfl
end impl_CountSigs
/-! impl.IsSigned -/
namespace impl_IsSigned
noncomputable def F (x0 : RKeys) (x1 : List (List L)) (x2 : List (List L)) : Ans := (call (impl_IsKeys.R x0) fun v1 => (bif v1 then (call (impl_CountSigs.R (x0, x1, x2)) fun v2 => ret ((decide (v2 ≥ x0.fNeed)) : Bool)) else ret (false : Bool)))
def pats : List Pat := [.agg [.sl 3, .int .i64], .rd (.sl 3), .rd (.sl 179)]
def res : RP := .one (.rd (.bool))
noncomputable abbrev E : Env := ⟨assoc Tab, conG [(197, impl_IsKeys.con), (243, impl_CountSigs.con)], 18⟩
set_option maxRecDepth 100000
theorem run_eq (n : Nat) (ls : List L) : runF E (fun _ => []) Tryz.f202 res n (initS pats ls) = F (RKeys.dec ls) ((dropT 2 ls).headD .hole).toSl ((dropT 3 ls).headD .hole).toSl := by kernel_rfl
noncomputable def md (a0 : MKeys) (a1 : List Int) (a2 : List MSig) : Bool := (bif (impl_IsKeys.md a0) then ((decide ((impl_CountSigs.md a0 a1 a2) ≥ a0.fNeed)) : Bool) else (false : Bool))
def gd (a0 : MKeys) (a1 : List Int) (a2 : List MSig) : Prop := (MKeys.Sm (2 ^ 21) a0) ∧ (SmL (2 ^ 38) (fun y : Int => True) a1) ∧ (SmL (2 ^ 21) (fun y : MSig => MSig.Sm (2 ^ 21) y) a2)
def acc (ls : List L) : RKeys × List (List L) × List (List L) := ((RKeys.dec ls), ((dropT 2 ls).headD .hole).toSl, ((dropT 3 ls).headD .hole).toSl)
noncomputable def R : (RKeys × List (List L) × List (List L)) → Option Bool := RR (p3 gd) (u3 md)
theorem R_eq {a0} {a1} {a2} (h : gd a0 a1 a2) : R ((MKeys.r a0), (a1.map iRow), (a2.map MSig.row)) = some (md a0 a1 a2) := RR_eq (a := (a0, a1, a2)) h
noncomputable def con : Con := CN pats res acc R
theorem okF (a0 : MKeys) (a1 : List Int) (a2 : List MSig) (hg : gd a0 a1 a2) : F (MKeys.r a0) (a1.map iRow) (a2.map MSig.row) = ret ((md a0 a1 a2) : Bool) := by
  unfold gd at hg
  obtain ⟨H0, H1, H2⟩ := hg
  unfold F md
  try simp only [S0, MKeys.rs]
  refine call_to (impl_IsKeys.md a0) (impl_IsKeys.R_eq (a0 := a0) H0) ?_
  refine bif_out ret (fun c1 => ?_) (fun _ => rfl)
  refine call_to (impl_CountSigs.md a0 a1 a2) (impl_CountSigs.R_eq (a0 := a0) (a1 := a1) (a2 := a2) ⟨H0, H1, H2⟩) ?_
  first | rfl | (simp only [S0, MKeys.rs, MP]; first | done | rfl)
theorem valid_ : Valid Tryz.prog Ev 202 con := VV (run := fun _ x => F x.1 x.2.1 x.2.2) mix tab_ok (.cons impl_IsKeys.valid_ (.cons impl_CountSigs.valid_ .nil)) Tryz.func202 (by kernel_rfl) run_eq (fun _ a _ _ hg => ⟨0, okF a.1 a.2.1 a.2.2 hg⟩)
theorem br (a0 : MKeys) (a1 : List Int) (a2 : List MSig) : md a0 a1 a2 = spec_IsSigned.md a0 a1 a2 := by
  unfold md spec_IsSigned.md
  first
  | (simp only [impl_IsKeys.br, impl_CountSigs.br]; done)
  | (simp only [impl_IsKeys.br, impl_CountSigs.br]; rfl)
  | rfl
end impl_IsSigned
/-! (impl.Signed).isSignedBy -/
namespace impl_Signed_isSignedBy
noncomputable def F (x0 : RSigned) (x1 : RKeys) : Ans := (call (impl_HeadInts.R x0.fHead) fun v1 => (call (impl_IsSigned.R (x1, v1, x0.fSigs)) fun v2 => ret (v2 : Bool)))
def pats : List Pat := [.agg [.int .i64, .int .i64, .int .i64, .int .i64, .int .i64, .int .i64, .int .i64, .int .i64, .sl 3, .int .i64, .sl 3, .int .i64, .int .i64, .sl 3, .int .i64, .bool, .sl 179], .agg [.sl 3, .int .i64]]
def res : RP := .one (.rd (.bool))
noncomputable abbrev E : Env := ⟨assoc Tab, conG [(140, impl_HeadInts.con), (202, impl_IsSigned.con)], 12⟩
set_option maxRecDepth 100000
theorem run_eq (n : Nat) (ls : List L) : runF E (fun _ => []) Tryz.f144 res n (initS pats ls) = F (RSigned.dec ls) (RKeys.dec (dropT 17 ls)) := by kernel_rfl
noncomputable def md (a0 : MSigned) (a1 : MKeys) : Bool := ((impl_IsSigned.md a1 (impl_HeadInts.md a0.fHead) a0.fSigs) : Bool)
def gd (a0 : MSigned) (a1 : MKeys) : Prop := (MSigned.Sm (2 ^ 21) a0) ∧ (MKeys.Sm (2 ^ 21) a1)
def acc (ls : List L) : RSigned × RKeys := ((RSigned.dec ls), (RKeys.dec (dropT 17 ls)))
noncomputable def R : (RSigned × RKeys) → Option Bool := RR (p2 gd) (u2 md)
theorem R_eq {a0} {a1} (h : gd a0 a1) : R ((MSigned.r a0), (MKeys.r a1)) = some (md a0 a1) := RR_eq (a := (a0, a1)) h
noncomputable def con : Con := CN pats res acc R
theorem okF (a0 : MSigned) (a1 : MKeys) (hg : gd a0 a1) : F (MSigned.r a0) (MKeys.r a1) = ret ((md a0 a1) : Bool) := by
  unfold gd at hg
  obtain ⟨H0, H1⟩ := hg
  unfold F md
  try simp only [S0, MSigned.rs]
  refine call_to ((impl_HeadInts.md a0.fHead).map iRow) (impl_HeadInts.R_eq (a0 := a0.fHead) H0.1) ?_
  try simp only [S0, MSigned.rs]
  refine call_to (impl_IsSigned.md a1 (impl_HeadInts.md a0.fHead) a0.fSigs) (impl_IsSigned.R_eq (a0 := a1) (a1 := (impl_HeadInts.md a0.fHead)) (a2 := a0.fSigs) ⟨H1, ⟨(by
      have := impl_HeadInts.len a0.fHead
      have := (H0.1.1).1
      have := (H0.1.2.1).1
      have := (H0.1.2.2).1
      try simp (disch := omega) only [LN, wi]
      first | omega | (simp; done) | (simp; omega)), fun _ _ => trivial⟩, H0.2⟩) ?_
  first | rfl | (simp only [S0, MSigned.rs, MP]; first | done | rfl)
theorem valid_ : Valid Tryz.prog Ev 144 con := VV (run := fun _ x => F x.1 x.2) mix tab_ok (.cons impl_HeadInts.valid_ (.cons impl_IsSigned.valid_ .nil)) Tryz.func144 (by kernel_rfl) run_eq (fun _ a _ _ hg => ⟨0, okF a.1 a.2 hg⟩)
end impl_Signed_isSignedBy
/-! impl.IsFirst -/
namespace impl_IsFirst
noncomputable def F (x0 : RSigned) : Ans := (call (impl_IsHead.R x0.fHead) fun v1 => (bif v1 then (bif (x0.fHead.fEpoch == 0) then (bif (x0.fHead.fKind == 1) then (bif (!x0.fHead.fFrozen) then (call (impl_ZoneOf.R (x0.fHead.fKeys, x0.fHead.fPrev)) fun v2 => (bif (x0.fHead.fZone == v2) then (call (impl_Signed_isSignedBy.R (x0, x0.fHead.fKeys)) fun v3 => ret (v3 : Bool)) else ret (false : Bool))) else ret (false : Bool)) else ret (false : Bool)) else ret (false : Bool)) else ret (false : Bool)))
def pats : List Pat := [.agg [.int .i64, .int .i64, .int .i64, .int .i64, .int .i64, .int .i64, .int .i64, .int .i64, .sl 3, .int .i64, .sl 3, .int .i64, .int .i64, .sl 3, .int .i64, .bool, .sl 179]]
def res : RP := .one (.rd (.bool))
noncomputable abbrev E : Env := ⟨assoc Tab, conG [(142, impl_IsHead.con), (143, impl_ZoneOf.con), (144, impl_Signed_isSignedBy.con)], 39⟩
set_option maxRecDepth 100000
theorem run_eq (n : Nat) (ls : List L) : runF E (fun _ => []) Tryz.f95 res n (initS pats ls) = F (RSigned.dec ls) := by kernel_rfl
noncomputable def md (a0 : MSigned) : Bool := (bif (impl_IsHead.md a0.fHead) then (bif (a0.fHead.fEpoch == 0) then (bif (a0.fHead.fKind == 1) then (bif (!a0.fHead.fFrozen) then (bif (a0.fHead.fZone == (impl_ZoneOf.md a0.fHead.fKeys a0.fHead.fPrev)) then ((impl_Signed_isSignedBy.md a0 a0.fHead.fKeys) : Bool) else (false : Bool)) else (false : Bool)) else (false : Bool)) else (false : Bool)) else (false : Bool))
def gd (a0 : MSigned) : Prop := (MSigned.Sm (2 ^ 21) a0)
def acc (ls : List L) : RSigned := (RSigned.dec ls)
noncomputable def R : RSigned → Option Bool := RR gd md
theorem R_eq {a0} (h : gd a0) : R (MSigned.r a0) = some (md a0) := RR_eq (a := a0) h
noncomputable def con : Con := CN pats res acc R
theorem okF (a0 : MSigned) (hg : gd a0) : F (MSigned.r a0) = ret ((md a0) : Bool) := by
  unfold gd at hg
  have H0 := hg
  unfold F md
  try simp only [S0, MHead.rs, MSigned.rs]
  refine call_to (impl_IsHead.md a0.fHead) (impl_IsHead.R_eq (a0 := a0.fHead) H0.1) ?_
  refine bif_out ret (fun c1 => ?_) (fun _ => rfl)
  refine bif_out ret (fun c2 => ?_) (fun _ => rfl)
  refine bif_out ret (fun c3 => ?_) (fun _ => rfl)
  refine bif_out ret (fun c4 => ?_) (fun _ => rfl)
  refine call_to (impl_ZoneOf.md a0.fHead.fKeys a0.fHead.fPrev) (impl_ZoneOf.R_eq (a0 := a0.fHead.fKeys) (a1 := a0.fHead.fPrev) H0.1.1) ?_
  refine bif_out ret (fun c5 => ?_) (fun _ => rfl)
  refine call_to (impl_Signed_isSignedBy.md a0 a0.fHead.fKeys) (impl_Signed_isSignedBy.R_eq (a0 := a0) (a1 := a0.fHead.fKeys) ⟨H0, H0.1.1⟩) ?_
  first | rfl | (simp only [S0, MHead.rs, MSigned.rs, MP]; first | done | rfl)
theorem valid_ : Valid Tryz.prog Ev 95 con := VV (run := fun _ x => F x) mix tab_ok (.cons impl_IsHead.valid_ (.cons impl_ZoneOf.valid_ (.cons impl_Signed_isSignedBy.valid_ .nil))) Tryz.func95 (by kernel_rfl) run_eq (fun _ a _ _ hg => ⟨0, okF a hg⟩)
theorem br (a0 : MSigned) : md a0 = spec_IsFirst.md a0 := by
  unfold md spec_IsFirst.md
  simp only [impl_Signed_isSignedBy.md, impl_IsSigned.br, impl_HeadInts.br, impl_IsHead.br, impl_ZoneOf.br]
end impl_IsFirst
/-! impl.HeadDigest -/
namespace impl_HeadDigest
noncomputable def F (x0 : RHead) : Ans := (call (impl_HeadInts.R x0) fun v1 => (bif (lim (((1 : Int) + (v1.length : Int)) * 8)) then (call (impl_Hash.R ([[L.int 233]] ++ v1)) fun v2 => ret (v2 : Int)) else none))
def pats : List Pat := [.agg [.int .i64, .int .i64, .int .i64, .int .i64, .int .i64, .int .i64, .int .i64, .int .i64, .sl 3, .int .i64, .sl 3, .int .i64, .int .i64, .sl 3, .int .i64, .bool]]
def res : RP := .one (.rd (.int .i64))
noncomputable abbrev E : Env := ⟨assoc Tab, conG [(140, impl_HeadInts.con), (201, impl_Hash.con)], 8⟩
set_option maxRecDepth 100000
theorem run_eq (n : Nat) (ls : List L) : runF E (fun _ => []) Tryz.f244 res n (initS pats ls) = F (RHead.dec ls) := by kernel_rfl
noncomputable def md (a0 : MHead) : Int := ((impl_Hash.md ([233] ++ (impl_HeadInts.md a0))) : Int)
def gd (a0 : MHead) : Prop := (MHead.Sm (2 ^ 21) a0)
def acc (ls : List L) : RHead := (RHead.dec ls)
noncomputable def R : RHead → Option Int := RR gd md
theorem R_eq {a0} (h : gd a0) : R (MHead.r a0) = some (md a0) := RR_eq (a := a0) h
noncomputable def con : Con := CN pats res acc R
theorem okF (a0 : MHead) (hg : gd a0) : F (MHead.r a0) = ret ((md a0) : Int) := by
  unfold gd at hg
  have H0 := hg
  unfold F md
  try simp only [S0]
  refine call_to ((impl_HeadInts.md a0).map iRow) (impl_HeadInts.R_eq (a0 := a0) H0) ?_
  try simp only [S0]
  refine yes_ret (by
      have := impl_HeadInts.len a0
      have := (H0.1).1
      have := (H0.2.1).1
      have := (H0.2.2).1
      refine lim_t ?_
      try simp (disch := omega) only [LN, wi]
      first | omega | (simp; done) | (simp; omega)) ?_
  refine call_to (impl_Hash.md ([233] ++ (impl_HeadInts.md a0))) ?_ ?_
  · have R_ := impl_Hash.R_eq (a0 := ([233] ++ (impl_HeadInts.md a0))) ⟨(by
        have := impl_HeadInts.len a0
        have := (H0.1).1
        have := (H0.2.1).1
        have := (H0.2.2).1
        try simp (disch := omega) only [LN, wi]
        first | omega | (simp; done) | (simp; omega)), fun _ _ => trivial⟩
    first | exact R_ | (simp only [MP, S0] at R_ ⊢; first | exact R_ | (rw [← R_]; rfl))
  first | rfl | (simp only [S0, MP]; first | done | rfl)
theorem valid_ : Valid Tryz.prog Ev 244 con := VV (run := fun _ x => F x) mix tab_ok (.cons impl_HeadInts.valid_ (.cons impl_Hash.valid_ .nil)) Tryz.func244 (by kernel_rfl) run_eq (fun _ a _ _ hg => ⟨0, okF a hg⟩)
theorem br (a0 : MHead) : md a0 = spec_HeadDigest.md a0 := by
  unfold md spec_HeadDigest.md
  first
  | (simp only [impl_HeadInts.br, impl_Hash.br]; done)
  | (simp only [impl_HeadInts.br, impl_Hash.br]; rfl)
  | rfl
end impl_HeadDigest
/-! impl.isNext -/
namespace impl_isNext
noncomputable def F (x0 : RHead) (x1 : RHead) : Ans := (bif (x1.fZone == x0.fZone) then (bif (x1.fEpoch == (IntKind.i64.wrap (x0.fEpoch + 1))) then (call (impl_HeadDigest.R x0) fun v1 => (bif (x1.fPrev == v1) then ret ((decide (x1.fTime ≥ x0.fTime)) : Bool) else ret (false : Bool))) else ret (false : Bool)) else ret (false : Bool))
def pats : List Pat := [.agg [.int .i64, .int .i64, .int .i64, .int .i64, .int .i64, .int .i64, .int .i64, .int .i64, .sl 3, .int .i64, .sl 3, .int .i64, .int .i64, .sl 3, .int .i64, .bool], .agg [.int .i64, .int .i64, .int .i64, .int .i64, .int .i64, .int .i64, .int .i64, .int .i64, .sl 3, .int .i64, .sl 3, .int .i64, .int .i64, .sl 3, .int .i64, .bool]]
def res : RP := .one (.rd (.bool))
noncomputable abbrev E : Env := ⟨assoc Tab, conG [(244, impl_HeadDigest.con)], 32⟩
set_option maxRecDepth 100000
theorem run_eq (n : Nat) (ls : List L) : runF E (fun _ => []) Tryz.f203 res n (initS pats ls) = F (RHead.dec ls) (RHead.dec (dropT 16 ls)) := by kernel_rfl
noncomputable def md (a0 : MHead) (a1 : MHead) : Bool := (bif (a1.fZone == a0.fZone) then (bif (a1.fEpoch == (IntKind.i64.wrap (a0.fEpoch + 1))) then (bif (a1.fPrev == (impl_HeadDigest.md a0)) then ((decide (a1.fTime ≥ a0.fTime)) : Bool) else (false : Bool)) else (false : Bool)) else (false : Bool))
def gd (a0 : MHead) (a1 : MHead) : Prop := (MHead.Sm (2 ^ 21) a0)
def acc (ls : List L) : RHead × RHead := ((RHead.dec ls), (RHead.dec (dropT 16 ls)))
noncomputable def R : (RHead × RHead) → Option Bool := RR (p2 gd) (u2 md)
theorem R_eq {a0} {a1} (h : gd a0 a1) : R ((MHead.r a0), (MHead.r a1)) = some (md a0 a1) := RR_eq (a := (a0, a1)) h
noncomputable def con : Con := CN pats res acc R
theorem okF (a0 : MHead) (a1 : MHead) (hg : gd a0 a1) : F (MHead.r a0) (MHead.r a1) = ret ((md a0 a1) : Bool) := by
  unfold gd at hg
  have H0 := hg
  unfold F md
  try simp only [S0, MHead.rs]
  refine bif_out ret (fun c1 => ?_) (fun _ => rfl)
  refine bif_out ret (fun c2 => ?_) (fun _ => rfl)
  refine call_to (impl_HeadDigest.md a0) (impl_HeadDigest.R_eq (a0 := a0) H0) ?_
  refine bif_out ret (fun c3 => ?_) (fun _ => rfl)
  first | rfl | (simp only [S0, MHead.rs, MP]; first | done | rfl)
theorem valid_ : Valid Tryz.prog Ev 203 con := VV (run := fun _ x => F x.1 x.2) mix tab_ok (.cons impl_HeadDigest.valid_ .nil) Tryz.func203 (by kernel_rfl) run_eq (fun _ a _ _ hg => ⟨0, okF a.1 a.2 hg⟩)
end impl_isNext
/-! impl.ownerCode -/
namespace impl_ownerCode
noncomputable def F (x0 : RHead) (x1 : RSigned) : Ans := (bif x0.fFrozen then ret (4 : Int) else (bif x1.fHead.fFrozen then ret (6 : Int) else (call (impl_Signed_isSignedBy.R (x1, x0.fKeys)) fun v1 => (bif (!v1) then ret (7 : Int) else ret (1 : Int)))))
def pats : List Pat := [.agg [.int .i64, .int .i64, .int .i64, .int .i64, .int .i64, .int .i64, .int .i64, .int .i64, .sl 3, .int .i64, .sl 3, .int .i64, .int .i64, .sl 3, .int .i64, .bool], .agg [.int .i64, .int .i64, .int .i64, .int .i64, .int .i64, .int .i64, .int .i64, .int .i64, .sl 3, .int .i64, .sl 3, .int .i64, .int .i64, .sl 3, .int .i64, .bool, .sl 179]]
def res : RP := .one (.rd (.int .i64))
noncomputable abbrev E : Env := ⟨assoc Tab, conG [(144, impl_Signed_isSignedBy.con)], 18⟩
set_option maxRecDepth 100000
theorem run_eq (n : Nat) (ls : List L) : runF E (fun _ => []) Tryz.f204 res n (initS pats ls) = F (RHead.dec ls) (RSigned.dec (dropT 16 ls)) := by kernel_rfl
noncomputable def md (a0 : MHead) (a1 : MSigned) : Int := (bif a0.fFrozen then (4 : Int) else (bif a1.fHead.fFrozen then (6 : Int) else (bif (!(impl_Signed_isSignedBy.md a1 a0.fKeys)) then (7 : Int) else (1 : Int))))
def gd (a0 : MHead) (a1 : MSigned) : Prop := (MHead.Sm (2 ^ 21) a0) ∧ (MSigned.Sm (2 ^ 21) a1)
def acc (ls : List L) : RHead × RSigned := ((RHead.dec ls), (RSigned.dec (dropT 16 ls)))
noncomputable def R : (RHead × RSigned) → Option Int := RR (p2 gd) (u2 md)
theorem R_eq {a0} {a1} (h : gd a0 a1) : R ((MHead.r a0), (MSigned.r a1)) = some (md a0 a1) := RR_eq (a := (a0, a1)) h
noncomputable def con : Con := CN pats res acc R
theorem okF (a0 : MHead) (a1 : MSigned) (hg : gd a0 a1) : F (MHead.r a0) (MSigned.r a1) = ret ((md a0 a1) : Int) := by
  unfold gd at hg
  obtain ⟨H0, H1⟩ := hg
  unfold F md
  try simp only [S0, MHead.rs, MSigned.rs]
  refine bif_out ret (fun _ => rfl) (fun c1 => ?_)
  refine bif_out ret (fun _ => rfl) (fun c2 => ?_)
  refine call_to (impl_Signed_isSignedBy.md a1 a0.fKeys) (impl_Signed_isSignedBy.R_eq (a0 := a1) (a1 := a0.fKeys) ⟨H1, H0.1⟩) ?_
  refine bif_out ret (fun _ => rfl) (fun _ => rfl)
theorem valid_ : Valid Tryz.prog Ev 204 con := VV (run := fun _ x => F x.1 x.2) mix tab_ok (.cons impl_Signed_isSignedBy.valid_ .nil) Tryz.func204 (by kernel_rfl) run_eq (fun _ a _ _ hg => ⟨0, okF a.1 a.2 hg⟩)
end impl_ownerCode
/-! slices.Equal[[]int,int] -/
namespace slices_Equal_Sint_int
inductive Pt where
  | p0 (a : List (List L)) (b : List (List L)) (c : Int) (d : Int)
def pid : Pt → Nat
  | .p0 .. => 4
def pvs : Pt → List V
  | .p0 a b c d => [.sl none 3 a, .sl none 3 b, .int .i64 c, .int .i64 d]
def phs : Pt → List Root
  | .p0 a b c d => []
noncomputable def step (J : Pt → Ans) : Pt → Ans
  | .p0 a b c d => (bif (decide (d < c)) then (bif (decide ((0 : Int) ≤ d)) then (bif (decide (d < (a.length : Int))) then (bif (decide ((0 : Int) ≤ d)) then (bif (decide (d < (b.length : Int))) then (bif ((iAt a (Int.toNat d)) != (iAt b (Int.toNat d))) then ret (false : Bool) else J (.p0 a b c (IntKind.i64.wrap (d + 1)))) else none) else none) else none) else none) else ret (true : Bool))
noncomputable def start (J : Pt → Ans) (x0 : List (List L)) (x1 : List (List L)) : Ans := (bif ((x0.length : Int) != (x1.length : Int)) then ret (false : Bool) else J (.p0 x0 x1 (x0.length : Int) 0))
def live : Nat → Live := fun i => match i with | 4 => [(0, none), (1, none), (12, none), (13, none)] | _ => []
def pats : List Pat := [.rd (.sl 3), .rd (.sl 3)]
def res : RP := .one (.rd (.bool))
noncomputable abbrev E : Env := ⟨assoc Tab, conG [], 26⟩
set_option maxRecDepth 100000
theorem step_eq (I : Heads) (p : Pt) : enterC E live I (pid p) (bodyOf Tryz.f114) (stOf (live (pid p)) (pvs p) (phs p)) (doneK E Tryz.f114 res) = step (fun q => I (pid q) (pvs q) (phs q)) p := by
  cases p <;> kernel_rfl
theorem start_eq (I : Heads) (ls : List L) : runC E live I (bodyOf Tryz.f114) (initS pats ls) (doneK E Tryz.f114 res) = start (fun q => I (pid q) (pvs q) (phs q)) (ls.headD .hole).toSl ((dropT 1 ls).headD .hole).toSl := by kernel_rfl
theorem run_eq (n : Nat) (ls : List L) : runF E live Tryz.f114 res n (initS pats ls) = start (iter step n) (ls.headD .hole).toSl ((dropT 1 ls).headD .hole).toSl := runF_iter (id := pid) (vs := pvs) (hs := phs) (step := step) (start := fun J => start J (ls.headD .hole).toSl ((dropT 1 ls).headD .hole).toSl) step_eq (fun I => start_eq I ls) n
noncomputable def md (a0 : List Int) (a1 : List Int) : Bool := (bif ((a0.length : Int) != (a1.length : Int)) then (false : Bool) else (loopM (S := Unit) (β := Bool) (fun (i2 : Nat) (s4 : Unit) => (bif ((a0.getD i2 0) != (a1.getD i2 0)) then (.inr (false : Bool)) else (.inl ()))) (fun (s4 : Unit) => (true : Bool)) a0.length 0 ()))
def gd (a0 : List Int) (a1 : List Int) : Prop := (SmL (2 ^ 38) (fun y : Int => True) a0) ∧ (SmL (2 ^ 38) (fun y : Int => True) a1)
def acc (ls : List L) : List (List L) × List (List L) := ((ls.headD .hole).toSl, ((dropT 1 ls).headD .hole).toSl)
noncomputable def R : (List (List L) × List (List L)) → Option Bool := RR (p2 gd) (u2 md)
theorem R_eq {a0} {a1} (h : gd a0 a1) : R ((a0.map iRow), (a1.map iRow)) = some (md a0 a1) := RR_eq (a := (a0, a1)) h
noncomputable def con : Con := CN pats res acc R
theorem okF (a0 : List Int) (a1 : List Int) (hg : gd a0 a1) : ∃ n, start (iter step n) (a0.map iRow) (a1.map iRow) = ret ((md a0 a1) : Bool) := by
  unfold gd at hg
  obtain ⟨H0, H1⟩ := hg
  unfold start md
  try simp only [S0]
  refine ex_bif ret (fun _ => ⟨0, rfl⟩) (fun c1 => ?_)
  have dc1 := c1
  try simp only [DC] at dc1
  have Bh3 : a0.length ≤ maxLen := (by
      have := (H0).1
      try simp only [maxLen] at *
      omega)
  refine ex_pt (p := Pt.p0 (a0.map iRow) (a1.map iRow) (a0.length : Int) 0) (by first | rfl | (simp only [S0, MP]; done) | (simp only [MP]; rfl)) ?_
  refine loopM_ok (pt := fun (i2 : Nat) (s4 : Unit) => Pt.p0 (a0.map iRow) (a1.map iRow) (a0.length : Int) (i2 : Int)) (s := (() : Unit)) (out := ret) (fun _ _ => True) (fun J i2 s4 h3 hih3 => ?_) (fun s4 hih3 => ?_) trivial
  · simp only [step, S0]
    have bb_ := Bh3
    simp only [maxLen] at bb_
    have := (H0).1
    refine Rnd.yes (by apply decide_eq_true; omega) ?_
    refine Rnd.yes zle_dec ?_
    refine Rnd.yes (lt_dec h3) ?_
    refine Rnd.yes zle_dec ?_
    refine Rnd.yes (by
        have := (H1).1
        refine decide_eq_true ?_
        try simp (disch := omega) only [LN, wi]
        first | omega | (simp; done) | (simp; omega)) ?_
    refine Rnd.bif (fun _ => Rnd.inr rfl) (fun c5 => ?_)
    refine Rnd.inl trivial ?_
    rw [wrap_succ h3 Bh3]
    all_goals first | rfl | (simp only [S0, MP]; first | done | rfl)
  · simp only [step, S0]
    have := (H0).1
    refine ex_no (by apply decide_eq_false; omega) ?_
    refine ⟨0, ?_⟩
    first | rfl | (simp only [S0, MP]; first | done | rfl)
theorem valid_ : Valid Tryz.prog Ev 114 con := VV (run := fun n x => start (iter step n) x.1 x.2) mix tab_ok .nil Tryz.func114 (by kernel_rfl) run_eq (fun _ a _ _ hg => okF a.1 a.2 hg)
theorem md_eq (a0 : List Int) (a1 : List Int) : md a0 a1 = eqB a0 a1 := by
  unfold md
  refine loop_eqB (0) (fun i s h h2 => ?_) (fun s => rfl)
  simp only [bne, int_beq, bool_beq, ba_beq]
  cases eqB _ _ <;> rfl
end slices_Equal_Sint_int
/-! impl.EqualKeys -/
namespace impl_EqualKeys
noncomputable def F (x0 : RKeys) (x1 : RKeys) : Ans := (call (slices_Equal_Sint_int.R (x0.fList, x1.fList)) fun v1 => (bif v1 then ret ((x0.fNeed == x1.fNeed) : Bool) else ret (false : Bool)))
def pats : List Pat := [.agg [.sl 3, .int .i64], .agg [.sl 3, .int .i64]]
def res : RP := .one (.rd (.bool))
noncomputable abbrev E : Env := ⟨assoc Tab, conG [(114, slices_Equal_Sint_int.con)], 17⟩
set_option maxRecDepth 100000
theorem run_eq (n : Nat) (ls : List L) : runF E (fun _ => []) Tryz.f139 res n (initS pats ls) = F (RKeys.dec ls) (RKeys.dec (dropT 2 ls)) := by kernel_rfl
noncomputable def md (a0 : MKeys) (a1 : MKeys) : Bool := (bif (slices_Equal_Sint_int.md a0.fList a1.fList) then ((a0.fNeed == a1.fNeed) : Bool) else (false : Bool))
def gd (a0 : MKeys) (a1 : MKeys) : Prop := (MKeys.Sm (2 ^ 21) a0) ∧ (MKeys.Sm (2 ^ 21) a1)
def acc (ls : List L) : RKeys × RKeys := ((RKeys.dec ls), (RKeys.dec (dropT 2 ls)))
noncomputable def R : (RKeys × RKeys) → Option Bool := RR (p2 gd) (u2 md)
theorem R_eq {a0} {a1} (h : gd a0 a1) : R ((MKeys.r a0), (MKeys.r a1)) = some (md a0 a1) := RR_eq (a := (a0, a1)) h
noncomputable def con : Con := CN pats res acc R
theorem okF (a0 : MKeys) (a1 : MKeys) (hg : gd a0 a1) : F (MKeys.r a0) (MKeys.r a1) = ret ((md a0 a1) : Bool) := by
  unfold gd at hg
  obtain ⟨H0, H1⟩ := hg
  unfold F md
  try simp only [S0, MKeys.rs]
  refine call_to (slices_Equal_Sint_int.md a0.fList a1.fList) (slices_Equal_Sint_int.R_eq (a0 := a0.fList) (a1 := a1.fList) ⟨(H0.mono (by decide) (fun x hx => trivial)), (H1.mono (by decide) (fun x hx => trivial))⟩) ?_
  refine bif_out ret (fun c1 => ?_) (fun _ => rfl)
  first | rfl | (simp only [S0, MKeys.rs, MP]; first | done | rfl)
theorem valid_ : Valid Tryz.prog Ev 139 con := VV (run := fun _ x => F x.1 x.2) mix tab_ok (.cons slices_Equal_Sint_int.valid_ .nil) Tryz.func139 (by kernel_rfl) run_eq (fun _ a _ _ hg => ⟨0, okF a.1 a.2 hg⟩)
theorem md_eq (a0 : MKeys) (a1 : MKeys) : md a0 a1 = eqB a0 a1 := by
  unfold md
  cases a0; cases a1
  rw [Bool.eq_iff_iff]
  simp [eqB_iff, ba_beq, MKeys.mk.injEq, slices_Equal_Sint_int.md_eq]
  try (constructor <;> (intro h; simp_all))
end impl_EqualKeys
/-! impl.SameContents -/
namespace impl_SameContents
noncomputable def F (x0 : RHead) (x1 : RHead) : Ans := (bif (x0.fCount == x1.fCount) then ret ((x0.fRoot == x1.fRoot) : Bool) else ret (false : Bool))
def pats : List Pat := [.agg [.int .i64, .int .i64, .int .i64, .int .i64, .int .i64, .int .i64, .int .i64, .int .i64, .sl 3, .int .i64, .sl 3, .int .i64, .int .i64, .sl 3, .int .i64, .bool], .agg [.int .i64, .int .i64, .int .i64, .int .i64, .int .i64, .int .i64, .int .i64, .int .i64, .sl 3, .int .i64, .sl 3, .int .i64, .int .i64, .sl 3, .int .i64, .bool]]
def res : RP := .one (.rd (.bool))
noncomputable abbrev E : Env := ⟨assoc Tab, conG [], 17⟩
set_option maxRecDepth 100000
theorem run_eq (n : Nat) (ls : List L) : runF E (fun _ => []) Tryz.f245 res n (initS pats ls) = F (RHead.dec ls) (RHead.dec (dropT 16 ls)) := by kernel_rfl
noncomputable def md (a0 : MHead) (a1 : MHead) : Bool := (bif (a0.fCount == a1.fCount) then ((a0.fRoot == a1.fRoot) : Bool) else (false : Bool))
def gd (a0 : MHead) (a1 : MHead) : Prop := True
def acc (ls : List L) : RHead × RHead := ((RHead.dec ls), (RHead.dec (dropT 16 ls)))
noncomputable def R : (RHead × RHead) → Option Bool := RR (p2 gd) (u2 md)
theorem R_eq {a0} {a1} (h : gd a0 a1) : R ((MHead.r a0), (MHead.r a1)) = some (md a0 a1) := RR_eq (a := (a0, a1)) h
noncomputable def con : Con := CN pats res acc R
theorem okF (a0 : MHead) (a1 : MHead) (hg : gd a0 a1) : F (MHead.r a0) (MHead.r a1) = ret ((md a0 a1) : Bool) := by
  unfold F md
  try simp only [S0, MHead.rs]
  refine bif_out ret (fun c1 => ?_) (fun _ => rfl)
  first | rfl | (simp only [S0, MHead.rs, MP]; first | done | rfl)
theorem valid_ : Valid Tryz.prog Ev 245 con := VV (run := fun _ x => F x.1 x.2) mix tab_ok .nil Tryz.func245 (by kernel_rfl) run_eq (fun _ a _ _ hg => ⟨0, okF a.1 a.2 hg⟩)
theorem br (a0 : MHead) (a1 : MHead) : md a0 a1 = spec_SameContents.md a0 a1 := by
  unfold md spec_SameContents.md
  first
  | (simp only [id]; done)
  | (simp only [id]; rfl)
  | rfl
end impl_SameContents
/-! impl.heirCode -/
namespace impl_heirCode
noncomputable def F (x0 : RHead) (x1 : RSigned) : Ans := (bif x0.fFrozen then ret (4 : Int) else (call (impl_NoKeys.R x0.fHeirs) fun v1 => (bif v1 then ret (5 : Int) else (bif (decide (x1.fHead.fTime < (IntKind.i64.wrap (x0.fUntil + x0.fWait)))) then ret (5 : Int) else (bif x1.fHead.fFrozen then ret (6 : Int) else (call (impl_EqualKeys.R (x1.fHead.fKeys, x0.fHeirs)) fun v2 => (bif (!v2) then ret (6 : Int) else (call (impl_SameContents.R (x1.fHead, x0)) fun v3 => (bif (!v3) then ret (6 : Int) else (call (impl_Signed_isSignedBy.R (x1, x0.fHeirs)) fun v4 => (bif (!v4) then ret (7 : Int) else ret (1 : Int))))))))))))
def pats : List Pat := [.agg [.int .i64, .int .i64, .int .i64, .int .i64, .int .i64, .int .i64, .int .i64, .int .i64, .sl 3, .int .i64, .sl 3, .int .i64, .int .i64, .sl 3, .int .i64, .bool], .agg [.int .i64, .int .i64, .int .i64, .int .i64, .int .i64, .int .i64, .int .i64, .int .i64, .sl 3, .int .i64, .sl 3, .int .i64, .int .i64, .sl 3, .int .i64, .bool, .sl 179]]
def res : RP := .one (.rd (.int .i64))
noncomputable abbrev E : Env := ⟨assoc Tab, conG [(200, impl_NoKeys.con), (139, impl_EqualKeys.con), (245, impl_SameContents.con), (144, impl_Signed_isSignedBy.con)], 48⟩
set_option maxRecDepth 100000
theorem run_eq (n : Nat) (ls : List L) : runF E (fun _ => []) Tryz.f205 res n (initS pats ls) = F (RHead.dec ls) (RSigned.dec (dropT 16 ls)) := by kernel_rfl
noncomputable def md (a0 : MHead) (a1 : MSigned) : Int := (bif a0.fFrozen then (4 : Int) else (bif (impl_NoKeys.md a0.fHeirs) then (5 : Int) else (bif (decide (a1.fHead.fTime < (IntKind.i64.wrap (a0.fUntil + a0.fWait)))) then (5 : Int) else (bif a1.fHead.fFrozen then (6 : Int) else (bif (!(impl_EqualKeys.md a1.fHead.fKeys a0.fHeirs)) then (6 : Int) else (bif (!(impl_SameContents.md a1.fHead a0)) then (6 : Int) else (bif (!(impl_Signed_isSignedBy.md a1 a0.fHeirs)) then (7 : Int) else (1 : Int))))))))
def gd (a0 : MHead) (a1 : MSigned) : Prop := (MHead.Sm (2 ^ 21) a0) ∧ (MSigned.Sm (2 ^ 21) a1)
def acc (ls : List L) : RHead × RSigned := ((RHead.dec ls), (RSigned.dec (dropT 16 ls)))
noncomputable def R : (RHead × RSigned) → Option Int := RR (p2 gd) (u2 md)
theorem R_eq {a0} {a1} (h : gd a0 a1) : R ((MHead.r a0), (MSigned.r a1)) = some (md a0 a1) := RR_eq (a := (a0, a1)) h
noncomputable def con : Con := CN pats res acc R
theorem okF (a0 : MHead) (a1 : MSigned) (hg : gd a0 a1) : F (MHead.r a0) (MSigned.r a1) = ret ((md a0 a1) : Int) := by
  unfold gd at hg
  obtain ⟨H0, H1⟩ := hg
  unfold F md
  try simp only [S0, MHead.rs, MSigned.rs]
  refine bif_out ret (fun _ => rfl) (fun c1 => ?_)
  refine call_to (impl_NoKeys.md a0.fHeirs) (impl_NoKeys.R_eq (a0 := a0.fHeirs) trivial) ?_
  refine bif_out ret (fun _ => rfl) (fun c2 => ?_)
  refine bif_out ret (fun _ => rfl) (fun c3 => ?_)
  refine bif_out ret (fun _ => rfl) (fun c4 => ?_)
  refine call_to (impl_EqualKeys.md a1.fHead.fKeys a0.fHeirs) (impl_EqualKeys.R_eq (a0 := a1.fHead.fKeys) (a1 := a0.fHeirs) ⟨H1.1.1, H0.2.1⟩) ?_
  refine bif_out ret (fun _ => rfl) (fun c5 => ?_)
  refine call_to (impl_SameContents.md a1.fHead a0) (impl_SameContents.R_eq (a0 := a1.fHead) (a1 := a0) trivial) ?_
  refine bif_out ret (fun _ => rfl) (fun c6 => ?_)
  refine call_to (impl_Signed_isSignedBy.md a1 a0.fHeirs) (impl_Signed_isSignedBy.R_eq (a0 := a1) (a1 := a0.fHeirs) ⟨H1, H0.2.1⟩) ?_
  refine bif_out ret (fun _ => rfl) (fun _ => rfl)
theorem valid_ : Valid Tryz.prog Ev 205 con := VV (run := fun _ x => F x.1 x.2) mix tab_ok (.cons impl_NoKeys.valid_ (.cons impl_EqualKeys.valid_ (.cons impl_SameContents.valid_ (.cons impl_Signed_isSignedBy.valid_ .nil)))) Tryz.func205 (by kernel_rfl) run_eq (fun _ a _ _ hg => ⟨0, okF a.1 a.2 hg⟩)
end impl_heirCode
/-! impl.judgeCode -/
namespace impl_judgeCode
noncomputable def F (x0 : RHead) (x1 : RSigned) : Ans := (call (impl_SameContents.R (x1.fHead, x0)) fun v1 => (bif v1 then (call (impl_EqualKeys.R (x1.fHead.fJudge, x0.fJudge)) fun v2 => (bif v2 then (call (impl_EqualKeys.R (x1.fHead.fHeirs, x0.fHeirs)) fun v3 => (bif v3 then (call (impl_NoKeys.R x0.fJudge) fun v4 => (bif v4 then ret (5 : Int) else (bif (x1.fHead.fFrozen == x0.fFrozen) then ret (6 : Int) else (bif (!(x1.fHead.fWait == x0.fWait)) then ret (6 : Int) else (bif x1.fHead.fFrozen then (call (impl_EqualKeys.R (x1.fHead.fKeys, x0.fKeys)) fun v5 => (bif (!v5) then ret (6 : Int) else (call (impl_Signed_isSignedBy.R (x1, x0.fJudge)) fun v6 => (bif (!v6) then ret (7 : Int) else ret (1 : Int))))) else (call (impl_Signed_isSignedBy.R (x1, x0.fJudge)) fun v7 => (bif (!v7) then ret (7 : Int) else ret (1 : Int)))))))) else (call (impl_NoKeys.R x0.fJudge) fun v8 => (bif v8 then ret (5 : Int) else (bif (x1.fHead.fFrozen == x0.fFrozen) then ret (6 : Int) else ret (6 : Int)))))) else (call (impl_NoKeys.R x0.fJudge) fun v9 => (bif v9 then ret (5 : Int) else (bif (x1.fHead.fFrozen == x0.fFrozen) then ret (6 : Int) else ret (6 : Int)))))) else (call (impl_NoKeys.R x0.fJudge) fun v10 => (bif v10 then ret (5 : Int) else (bif (x1.fHead.fFrozen == x0.fFrozen) then ret (6 : Int) else ret (6 : Int))))))
def pats : List Pat := [.agg [.int .i64, .int .i64, .int .i64, .int .i64, .int .i64, .int .i64, .int .i64, .int .i64, .sl 3, .int .i64, .sl 3, .int .i64, .int .i64, .sl 3, .int .i64, .bool], .agg [.int .i64, .int .i64, .int .i64, .int .i64, .int .i64, .int .i64, .int .i64, .int .i64, .sl 3, .int .i64, .sl 3, .int .i64, .int .i64, .sl 3, .int .i64, .bool, .sl 179]]
def res : RP := .one (.rd (.int .i64))
noncomputable abbrev E : Env := ⟨assoc Tab, conG [(245, impl_SameContents.con), (139, impl_EqualKeys.con), (200, impl_NoKeys.con), (144, impl_Signed_isSignedBy.con)], 65⟩
set_option maxRecDepth 100000
theorem run_eq (n : Nat) (ls : List L) : runF E (fun _ => []) Tryz.f206 res n (initS pats ls) = F (RHead.dec ls) (RSigned.dec (dropT 16 ls)) := by kernel_rfl
noncomputable def md (a0 : MHead) (a1 : MSigned) : Int := (bif (impl_SameContents.md a1.fHead a0) then (bif (impl_EqualKeys.md a1.fHead.fJudge a0.fJudge) then (bif (impl_EqualKeys.md a1.fHead.fHeirs a0.fHeirs) then (bif (impl_NoKeys.md a0.fJudge) then (5 : Int) else (bif (a1.fHead.fFrozen == a0.fFrozen) then (6 : Int) else (bif (!(a1.fHead.fWait == a0.fWait)) then (6 : Int) else (bif a1.fHead.fFrozen then (bif (!(impl_EqualKeys.md a1.fHead.fKeys a0.fKeys)) then (6 : Int) else (bif (!(impl_Signed_isSignedBy.md a1 a0.fJudge)) then (7 : Int) else (1 : Int))) else (bif (!(impl_Signed_isSignedBy.md a1 a0.fJudge)) then (7 : Int) else (1 : Int)))))) else (bif (impl_NoKeys.md a0.fJudge) then (5 : Int) else (bif (a1.fHead.fFrozen == a0.fFrozen) then (6 : Int) else (6 : Int)))) else (bif (impl_NoKeys.md a0.fJudge) then (5 : Int) else (bif (a1.fHead.fFrozen == a0.fFrozen) then (6 : Int) else (6 : Int)))) else (bif (impl_NoKeys.md a0.fJudge) then (5 : Int) else (bif (a1.fHead.fFrozen == a0.fFrozen) then (6 : Int) else (6 : Int))))
def gd (a0 : MHead) (a1 : MSigned) : Prop := (MHead.Sm (2 ^ 21) a0) ∧ (MSigned.Sm (2 ^ 21) a1)
def acc (ls : List L) : RHead × RSigned := ((RHead.dec ls), (RSigned.dec (dropT 16 ls)))
noncomputable def R : (RHead × RSigned) → Option Int := RR (p2 gd) (u2 md)
theorem R_eq {a0} {a1} (h : gd a0 a1) : R ((MHead.r a0), (MSigned.r a1)) = some (md a0 a1) := RR_eq (a := (a0, a1)) h
noncomputable def con : Con := CN pats res acc R
theorem okF (a0 : MHead) (a1 : MSigned) (hg : gd a0 a1) : F (MHead.r a0) (MSigned.r a1) = ret ((md a0 a1) : Int) := by
  unfold gd at hg
  obtain ⟨H0, H1⟩ := hg
  unfold F md
  try simp only [S0, MHead.rs, MSigned.rs]
  refine call_to (impl_SameContents.md a1.fHead a0) (impl_SameContents.R_eq (a0 := a1.fHead) (a1 := a0) trivial) ?_
  refine bif_out ret (fun c1 => ?_) (fun c1 => ?_)
  · refine call_to (impl_EqualKeys.md a1.fHead.fJudge a0.fJudge) (impl_EqualKeys.R_eq (a0 := a1.fHead.fJudge) (a1 := a0.fJudge) ⟨H1.1.2.2, H0.2.2⟩) ?_
    refine bif_out ret (fun c2 => ?_) (fun c2 => ?_)
    · refine call_to (impl_EqualKeys.md a1.fHead.fHeirs a0.fHeirs) (impl_EqualKeys.R_eq (a0 := a1.fHead.fHeirs) (a1 := a0.fHeirs) ⟨H1.1.2.1, H0.2.1⟩) ?_
      refine bif_out ret (fun c3 => ?_) (fun c3 => ?_)
      · refine call_to (impl_NoKeys.md a0.fJudge) (impl_NoKeys.R_eq (a0 := a0.fJudge) trivial) ?_
        refine bif_out ret (fun _ => rfl) (fun c4 => ?_)
        refine bif_out ret (fun _ => rfl) (fun c5 => ?_)
        refine bif_out ret (fun _ => rfl) (fun c6 => ?_)
        refine bif_out ret (fun c7 => ?_) (fun c7 => ?_)
        · refine call_to (impl_EqualKeys.md a1.fHead.fKeys a0.fKeys) (impl_EqualKeys.R_eq (a0 := a1.fHead.fKeys) (a1 := a0.fKeys) ⟨H1.1.1, H0.1⟩) ?_
          refine bif_out ret (fun _ => rfl) (fun c8 => ?_)
          refine call_to (impl_Signed_isSignedBy.md a1 a0.fJudge) (impl_Signed_isSignedBy.R_eq (a0 := a1) (a1 := a0.fJudge) ⟨H1, H0.2.2⟩) ?_
          refine bif_out ret (fun _ => rfl) (fun _ => rfl)
        · refine call_to (impl_Signed_isSignedBy.md a1 a0.fJudge) (impl_Signed_isSignedBy.R_eq (a0 := a1) (a1 := a0.fJudge) ⟨H1, H0.2.2⟩) ?_
          refine bif_out ret (fun _ => rfl) (fun _ => rfl)
      · refine call_to (impl_NoKeys.md a0.fJudge) (impl_NoKeys.R_eq (a0 := a0.fJudge) trivial) ?_
        refine bif_out ret (fun _ => rfl) (fun c11 => ?_)
        refine bif_out ret (fun _ => rfl) (fun _ => rfl)
    · refine call_to (impl_NoKeys.md a0.fJudge) (impl_NoKeys.R_eq (a0 := a0.fJudge) trivial) ?_
      refine bif_out ret (fun _ => rfl) (fun c13 => ?_)
      refine bif_out ret (fun _ => rfl) (fun _ => rfl)
  · refine call_to (impl_NoKeys.md a0.fJudge) (impl_NoKeys.R_eq (a0 := a0.fJudge) trivial) ?_
    refine bif_out ret (fun _ => rfl) (fun c15 => ?_)
    refine bif_out ret (fun _ => rfl) (fun _ => rfl)
theorem valid_ : Valid Tryz.prog Ev 206 con := VV (run := fun _ x => F x.1 x.2) mix tab_ok (.cons impl_SameContents.valid_ (.cons impl_EqualKeys.valid_ (.cons impl_NoKeys.valid_ (.cons impl_Signed_isSignedBy.valid_ .nil)))) Tryz.func206 (by kernel_rfl) run_eq (fun _ a _ _ hg => ⟨0, okF a.1 a.2 hg⟩)
end impl_judgeCode
/-! impl.NextCode -/
namespace impl_NextCode
noncomputable def F (x0 : RHead) (x1 : RSigned) : Ans := (call (impl_IsHead.R x0) fun v1 => (bif (!v1) then ret (2 : Int) else (call (impl_IsHead.R x1.fHead) fun v2 => (bif (!v2) then ret (2 : Int) else (call (impl_isNext.R (x0, x1.fHead)) fun v3 => (bif (!v3) then ret (3 : Int) else (bif (x1.fHead.fKind == 1) then (call (impl_ownerCode.R (x0, x1)) fun v4 => ret (v4 : Int)) else (bif (x1.fHead.fKind == 2) then (call (impl_heirCode.R (x0, x1)) fun v5 => ret (v5 : Int)) else (call (impl_judgeCode.R (x0, x1)) fun v6 => ret (v6 : Int))))))))))
def pats : List Pat := [.agg [.int .i64, .int .i64, .int .i64, .int .i64, .int .i64, .int .i64, .int .i64, .int .i64, .sl 3, .int .i64, .sl 3, .int .i64, .int .i64, .sl 3, .int .i64, .bool], .agg [.int .i64, .int .i64, .int .i64, .int .i64, .int .i64, .int .i64, .int .i64, .int .i64, .sl 3, .int .i64, .sl 3, .int .i64, .int .i64, .sl 3, .int .i64, .bool, .sl 179]]
def res : RP := .one (.rd (.int .i64))
noncomputable abbrev E : Env := ⟨assoc Tab, conG [(142, impl_IsHead.con), (203, impl_isNext.con), (204, impl_ownerCode.con), (205, impl_heirCode.con), (206, impl_judgeCode.con)], 40⟩
set_option maxRecDepth 100000
theorem run_eq (n : Nat) (ls : List L) : runF E (fun _ => []) Tryz.f145 res n (initS pats ls) = F (RHead.dec ls) (RSigned.dec (dropT 16 ls)) := by kernel_rfl
noncomputable def md (a0 : MHead) (a1 : MSigned) : Int := (bif (!(impl_IsHead.md a0)) then (2 : Int) else (bif (!(impl_IsHead.md a1.fHead)) then (2 : Int) else (bif (!(impl_isNext.md a0 a1.fHead)) then (3 : Int) else (bif (a1.fHead.fKind == 1) then ((impl_ownerCode.md a0 a1) : Int) else (bif (a1.fHead.fKind == 2) then ((impl_heirCode.md a0 a1) : Int) else ((impl_judgeCode.md a0 a1) : Int))))))
def gd (a0 : MHead) (a1 : MSigned) : Prop := (MHead.Sm (2 ^ 21) a0) ∧ (MSigned.Sm (2 ^ 21) a1)
def acc (ls : List L) : RHead × RSigned := ((RHead.dec ls), (RSigned.dec (dropT 16 ls)))
noncomputable def R : (RHead × RSigned) → Option Int := RR (p2 gd) (u2 md)
theorem R_eq {a0} {a1} (h : gd a0 a1) : R ((MHead.r a0), (MSigned.r a1)) = some (md a0 a1) := RR_eq (a := (a0, a1)) h
noncomputable def con : Con := CN pats res acc R
theorem okF (a0 : MHead) (a1 : MSigned) (hg : gd a0 a1) : F (MHead.r a0) (MSigned.r a1) = ret ((md a0 a1) : Int) := by
  unfold gd at hg
  obtain ⟨H0, H1⟩ := hg
  unfold F md
  try simp only [S0, MHead.rs, MSigned.rs]
  refine call_to (impl_IsHead.md a0) (impl_IsHead.R_eq (a0 := a0) H0) ?_
  refine bif_out ret (fun _ => rfl) (fun c1 => ?_)
  refine call_to (impl_IsHead.md a1.fHead) (impl_IsHead.R_eq (a0 := a1.fHead) H1.1) ?_
  refine bif_out ret (fun _ => rfl) (fun c2 => ?_)
  refine call_to (impl_isNext.md a0 a1.fHead) (impl_isNext.R_eq (a0 := a0) (a1 := a1.fHead) H0) ?_
  refine bif_out ret (fun _ => rfl) (fun c3 => ?_)
  refine bif_out ret (fun c4 => ?_) (fun c4 => ?_)
  · refine call_to (impl_ownerCode.md a0 a1) (impl_ownerCode.R_eq (a0 := a0) (a1 := a1) ⟨H0, H1⟩) ?_
    first | rfl | (simp only [S0, MHead.rs, MSigned.rs, MP]; first | done | rfl)
  · refine bif_out ret (fun c5 => ?_) (fun c5 => ?_)
    · refine call_to (impl_heirCode.md a0 a1) (impl_heirCode.R_eq (a0 := a0) (a1 := a1) ⟨H0, H1⟩) ?_
      first | rfl | (simp only [S0, MHead.rs, MSigned.rs, MP]; first | done | rfl)
    · refine call_to (impl_judgeCode.md a0 a1) (impl_judgeCode.R_eq (a0 := a0) (a1 := a1) ⟨H0, H1⟩) ?_
      first | rfl | (simp only [S0, MHead.rs, MSigned.rs, MP]; first | done | rfl)
theorem valid_ : Valid Tryz.prog Ev 145 con := VV (run := fun _ x => F x.1 x.2) mix tab_ok (.cons impl_IsHead.valid_ (.cons impl_isNext.valid_ (.cons impl_ownerCode.valid_ (.cons impl_heirCode.valid_ (.cons impl_judgeCode.valid_ .nil))))) Tryz.func145 (by kernel_rfl) run_eq (fun _ a _ _ hg => ⟨0, okF a.1 a.2 hg⟩)
theorem br (a0 : MHead) (a1 : MSigned) : md a0 a1 = spec_NextCode.md a0 a1 := by
  unfold md spec_NextCode.md impl_isNext.md impl_ownerCode.md impl_heirCode.md impl_judgeCode.md impl_Signed_isSignedBy.md spec_l15Owner.md spec_l15Heir.md spec_l15Judge.md
  simp only [impl_IsHead.br, impl_HeadDigest.br, impl_IsSigned.br, impl_HeadInts.br, impl_NoKeys.br, impl_EqualKeys.md_eq, spec_EqualKeys.md_eq, impl_SameContents.br, bne]
  cases spec_IsHead.md a0
  · rfl
  cases h2 : spec_IsHead.md a1.fHead
  · rfl
  obtain ⟨⟨k1, k2⟩, _⟩ := spec_IsHead.tr h2
  have ht : decide (a1.fHead.fTime < a0.fTime) = !decide (a1.fHead.fTime ≥ a0.fTime) := by
    rw [Bool.eq_iff_iff]; simp
  rw [ht]
  cases a1.fHead.fZone == a0.fZone
  · rfl
  cases a1.fHead.fEpoch == IntKind.i64.wrap (a0.fEpoch + 1)
  · rfl
  cases a1.fHead.fPrev == spec_HeadDigest.md a0
  · rfl
  cases decide (a1.fHead.fTime ≥ a0.fTime)
  · rfl
  have hk : a1.fHead.fKind = 1 ∨ a1.fHead.fKind = 2 ∨ a1.fHead.fKind = 3 := by omega
  generalize spec_IsSigned.md a0.fKeys (spec_HeadInts.md a1.fHead) a1.fSigs = s1
  generalize spec_IsSigned.md a0.fHeirs (spec_HeadInts.md a1.fHead) a1.fSigs = s2
  generalize spec_IsSigned.md a0.fJudge (spec_HeadInts.md a1.fHead) a1.fSigs = s3
  generalize spec_NoKeys.md a0.fHeirs = n1
  generalize spec_NoKeys.md a0.fJudge = n2
  generalize decide (a1.fHead.fTime < IntKind.i64.wrap (a0.fUntil + a0.fWait)) = d1
  generalize eqB a1.fHead.fKeys a0.fHeirs = e1
  generalize eqB a1.fHead.fJudge a0.fJudge = e2
  generalize eqB a1.fHead.fHeirs a0.fHeirs = e3
  generalize eqB a1.fHead.fKeys a0.fKeys = e4
  generalize spec_SameContents.md a1.fHead a0 = c1
  generalize (a1.fHead.fWait == a0.fWait) = w1
  generalize a1.fHead.fFrozen = f1
  generalize a0.fFrozen = f0
  rcases hk with hk | hk | hk <;> rw [hk]
  · cases f0 <;> cases f1 <;> cases s1 <;> rfl
  · cases f0 <;> cases n1 <;> cases d1 <;> cases f1 <;> cases e1 <;> cases c1 <;> cases s2 <;> rfl
  · cases n2
    · cases f1 <;> cases f0 <;> cases c1 <;> cases e2 <;> cases e3 <;> cases w1 <;> cases e4 <;> cases s3 <;> rfl
    · cases c1 <;> cases e2 <;> cases e3 <;> rfl
end impl_NextCode
/-! impl.MayFollow -/
namespace impl_MayFollow
noncomputable def F (x0 : RHead) (x1 : RSigned) : Ans := (call (impl_NextCode.R (x0, x1)) fun v1 => ret ((v1 == 1) : Bool))
def pats : List Pat := [.agg [.int .i64, .int .i64, .int .i64, .int .i64, .int .i64, .int .i64, .int .i64, .int .i64, .sl 3, .int .i64, .sl 3, .int .i64, .int .i64, .sl 3, .int .i64, .bool], .agg [.int .i64, .int .i64, .int .i64, .int .i64, .int .i64, .int .i64, .int .i64, .int .i64, .sl 3, .int .i64, .sl 3, .int .i64, .int .i64, .sl 3, .int .i64, .bool, .sl 179]]
def res : RP := .one (.rd (.bool))
noncomputable abbrev E : Env := ⟨assoc Tab, conG [(145, impl_NextCode.con)], 9⟩
set_option maxRecDepth 100000
theorem run_eq (n : Nat) (ls : List L) : runF E (fun _ => []) Tryz.f96 res n (initS pats ls) = F (RHead.dec ls) (RSigned.dec (dropT 16 ls)) := by kernel_rfl
noncomputable def md (a0 : MHead) (a1 : MSigned) : Bool := (((impl_NextCode.md a0 a1) == 1) : Bool)
def gd (a0 : MHead) (a1 : MSigned) : Prop := (MHead.Sm (2 ^ 21) a0) ∧ (MSigned.Sm (2 ^ 21) a1)
def acc (ls : List L) : RHead × RSigned := ((RHead.dec ls), (RSigned.dec (dropT 16 ls)))
noncomputable def R : (RHead × RSigned) → Option Bool := RR (p2 gd) (u2 md)
theorem R_eq {a0} {a1} (h : gd a0 a1) : R ((MHead.r a0), (MSigned.r a1)) = some (md a0 a1) := RR_eq (a := (a0, a1)) h
noncomputable def con : Con := CN pats res acc R
theorem okF (a0 : MHead) (a1 : MSigned) (hg : gd a0 a1) : F (MHead.r a0) (MSigned.r a1) = ret ((md a0 a1) : Bool) := by
  unfold gd at hg
  obtain ⟨H0, H1⟩ := hg
  unfold F md
  try simp only [S0]
  refine call_to (impl_NextCode.md a0 a1) (impl_NextCode.R_eq (a0 := a0) (a1 := a1) ⟨H0, H1⟩) ?_
  first | rfl | (simp only [S0, MP]; first | done | rfl)
theorem valid_ : Valid Tryz.prog Ev 96 con := VV (run := fun _ x => F x.1 x.2) mix tab_ok (.cons impl_NextCode.valid_ .nil) Tryz.func96 (by kernel_rfl) run_eq (fun _ a _ _ hg => ⟨0, okF a.1 a.2 hg⟩)
theorem br (a0 : MHead) (a1 : MSigned) : md a0 a1 = spec_MayFollow.md a0 a1 := by
  unfold md spec_MayFollow.md
  first
  | (simp only [impl_NextCode.br]; done)
  | (simp only [impl_NextCode.br]; rfl)
  | rfl
end impl_MayFollow
/-! impl.FirstWrong -/
namespace impl_FirstWrong
inductive Pt where
  | p0 (a : List (List L)) (b : List (List L)) (c : Int) (d : Int)
def pid : Pt → Nat
  | .p0 .. => 2
def pvs : Pt → List V
  | .p0 a b c d => [.sl none 92 a, .sl none 92 b, .int .i64 c, .int .i64 d]
def phs : Pt → List Root
  | .p0 a b c d => []
noncomputable def step (J : Pt → Ans) : Pt → Ans
  | .p0 a b c d => (bif (decide (d < c)) then (bif (decide ((0 : Int) ≤ d)) then (bif (decide (d < (b.length : Int))) then (bif (d == 0) then (call (impl_IsFirst.R (RSigned.at b (Int.toNat d))) fun v1 => (bif (!v1) then ret (d : Int) else (bif (decide (d > 0)) then (bif (decide ((0 : Int) ≤ (IntKind.i64.wrap (d - 1)))) then (bif (decide ((IntKind.i64.wrap (d - 1)) < (a.length : Int))) then (call (impl_MayFollow.R ((RSigned.at a (Int.toNat (IntKind.i64.wrap (d - 1)))).fHead, (RSigned.at b (Int.toNat d)))) fun v2 => (bif (!v2) then ret (d : Int) else J (.p0 a b c (IntKind.i64.wrap (d + 1))))) else none) else none) else J (.p0 a b c (IntKind.i64.wrap (d + 1)))))) else (bif (decide (d > 0)) then (bif (decide ((0 : Int) ≤ (IntKind.i64.wrap (d - 1)))) then (bif (decide ((IntKind.i64.wrap (d - 1)) < (a.length : Int))) then (call (impl_MayFollow.R ((RSigned.at a (Int.toNat (IntKind.i64.wrap (d - 1)))).fHead, (RSigned.at b (Int.toNat d)))) fun v3 => (bif (!v3) then ret (d : Int) else J (.p0 a b c (IntKind.i64.wrap (d + 1))))) else none) else none) else J (.p0 a b c (IntKind.i64.wrap (d + 1))))) else none) else none) else ret ((-1) : Int))
noncomputable def start (J : Pt → Ans) (x0 : List (List L)) : Ans := J (.p0 x0 x0 (x0.length : Int) 0)
def live : Nat → Live := fun i => match i with | 2 => [(0, none), (5, none), (6, none), (7, none)] | _ => []
def pats : List Pat := [.rd (.sl 92)]
def res : RP := .one (.rd (.int .i64))
noncomputable abbrev E : Env := ⟨assoc Tab, conG [(95, impl_IsFirst.con), (96, impl_MayFollow.con)], 36⟩
set_option maxRecDepth 100000
theorem step_eq (I : Heads) (p : Pt) : enterC E live I (pid p) (bodyOf Tryz.f89) (stOf (live (pid p)) (pvs p) (phs p)) (doneK E Tryz.f89 res) = step (fun q => I (pid q) (pvs q) (phs q)) p := by
  cases p <;> kernel_rfl
theorem start_eq (I : Heads) (ls : List L) : runC E live I (bodyOf Tryz.f89) (initS pats ls) (doneK E Tryz.f89 res) = start (fun q => I (pid q) (pvs q) (phs q)) (ls.headD .hole).toSl := by kernel_rfl
theorem run_eq (n : Nat) (ls : List L) : runF E live Tryz.f89 res n (initS pats ls) = start (iter step n) (ls.headD .hole).toSl := runF_iter (id := pid) (vs := pvs) (hs := phs) (step := step) (start := fun J => start J (ls.headD .hole).toSl) step_eq (fun I => start_eq I ls) n
noncomputable def md (a0 : List MSigned) : Int := (eachI (S := Unit) (β := Int) (fun (i1 : Nat) (y1 : MSigned) (s3 : Unit) => (bif ((i1 : Int) == 0) then (bif (!(impl_IsFirst.md y1)) then (.inr ((i1 : Int) : Int)) else (bif (decide ((i1 : Int) > 0)) then (bif (!(impl_MayFollow.md ((a0.getD (Int.toNat (IntKind.i64.wrap ((i1 : Int) - 1))) MSigned.zero).fHead) y1)) then (.inr ((i1 : Int) : Int)) else (.inl ())) else (.inl ()))) else (bif (decide ((i1 : Int) > 0)) then (bif (!(impl_MayFollow.md ((a0.getD (Int.toNat (IntKind.i64.wrap ((i1 : Int) - 1))) MSigned.zero).fHead) y1)) then (.inr ((i1 : Int) : Int)) else (.inl ())) else (.inl ())))) (fun (s3 : Unit) => ((-1) : Int)) 0 a0 ())
def gd (a0 : List MSigned) : Prop := (SmL (2 ^ 21) (fun y : MSigned => MSigned.Sm (2 ^ 21) y) a0)
def acc (ls : List L) : List (List L) := (ls.headD .hole).toSl
noncomputable def R : (List (List L)) → Option Int := RR gd md
theorem R_eq {a0} (h : gd a0) : R (a0.map MSigned.row) = some (md a0) := RR_eq (a := a0) h
noncomputable def con : Con := CN pats res acc R
theorem okF (a0 : List MSigned) (hg : gd a0) : ∃ n, start (iter step n) (a0.map MSigned.row) = ret ((md a0) : Int) := by
  unfold gd at hg
  have H0 := hg
  unfold start md
  try simp only [S0, MSigned.rs]
  have Bh2 : a0.length ≤ maxLen := (by
      have := (H0).1
      try simp only [maxLen] at *
      omega)
  refine ex_eq (out := ret) (loopM_eachI (z := MSigned.zero)) ?_
  refine ex_pt (p := Pt.p0 (a0.map MSigned.row) (a0.map MSigned.row) (a0.length : Int) 0) (by first | rfl | (simp only [S0, MSigned.rs, MP]; done) | (simp only [MP]; rfl)) ?_
  refine loopM_ok (pt := fun (i1 : Nat) (s3 : Unit) => Pt.p0 (a0.map MSigned.row) (a0.map MSigned.row) (a0.length : Int) (i1 : Int)) (s := (() : Unit)) (out := ret) (fun _ _ => True) (fun J i1 s3 h2 hih2 => ?_) (fun s3 hih2 => ?_) trivial
  · simp only [step, S0, MSigned.rs]
    have bb_ := Bh2
    simp only [maxLen] at bb_
    have := (H0).1
    refine Rnd.yes (by apply decide_eq_true; omega) ?_
    refine Rnd.yes zle_dec ?_
    refine Rnd.yes (lt_dec h2) ?_
    refine Rnd.bif (fun c4 => ?_) (fun c4 => ?_)
    · have dc4 := c4
      try simp only [DC] at dc4
      refine Rnd.call_to (impl_IsFirst.md (a0.getD i1 MSigned.zero)) (impl_IsFirst.R_eq (a0 := (a0.getD i1 MSigned.zero)) (SmL.getD (z := MSigned.zero) H0 h2)) ?_
      refine Rnd.bif (fun c5 => ?_) (fun c5 => ?_)
      · refine Rnd.inr ?_
        first | rfl | (simp only [S0, MSigned.rs, MP]; first | done | rfl)
      · have dc5 := c5
        try simp only [DC] at dc5
        refine Rnd.bif (fun c6 => ?_) (fun c6 => ?_)
        · have dc6 := c6
          try simp only [DC] at dc6
          refine Rnd.yes (by
              refine decide_eq_true ?_
              try simp (disch := omega) only [LN, wi]
              first | omega | (simp; done) | (simp; omega)) ?_
          refine Rnd.yes (by
              have := (H0).1
              refine decide_eq_true ?_
              try simp (disch := omega) only [LN, wi]
              first | omega | (simp; done) | (simp; omega)) ?_
          refine Rnd.call_to (impl_MayFollow.md ((a0.getD (Int.toNat (IntKind.i64.wrap ((i1 : Int) - 1))) MSigned.zero).fHead) (a0.getD i1 MSigned.zero)) (impl_MayFollow.R_eq (a0 := (a0.getD (Int.toNat (IntKind.i64.wrap ((i1 : Int) - 1))) MSigned.zero).fHead) (a1 := (a0.getD i1 MSigned.zero)) ⟨(SmL.getD (z := MSigned.zero) H0 (by first | assumption | omega | (simp (disch := omega) only [wi]; omega) | (simp; omega))).1, (SmL.getD (z := MSigned.zero) H0 h2)⟩) ?_
          refine Rnd.bif (fun c7 => ?_) (fun c7 => ?_)
          · refine Rnd.inr ?_
            first | rfl | (simp only [S0, MSigned.rs, MP]; first | done | rfl)
          · refine Rnd.inl trivial ?_
            rw [wrap_succ h2 Bh2]
            all_goals first | rfl | (simp only [S0, MSigned.rs, MP]; first | done | rfl)
        · refine Rnd.inl trivial ?_
          rw [wrap_succ h2 Bh2]
          all_goals first | rfl | (simp only [S0, MSigned.rs, MP]; first | done | rfl)
    · have dc4 := c4
      try simp only [DC] at dc4
      refine Rnd.bif (fun c8 => ?_) (fun c8 => ?_)
      · have dc8 := c8
        try simp only [DC] at dc8
        refine Rnd.yes (by
            refine decide_eq_true ?_
            try simp (disch := omega) only [LN, wi]
            first | omega | (simp; done) | (simp; omega)) ?_
        refine Rnd.yes (by
            have := (H0).1
            refine decide_eq_true ?_
            try simp (disch := omega) only [LN, wi]
            first | omega | (simp; done) | (simp; omega)) ?_
        refine Rnd.call_to (impl_MayFollow.md ((a0.getD (Int.toNat (IntKind.i64.wrap ((i1 : Int) - 1))) MSigned.zero).fHead) (a0.getD i1 MSigned.zero)) (impl_MayFollow.R_eq (a0 := (a0.getD (Int.toNat (IntKind.i64.wrap ((i1 : Int) - 1))) MSigned.zero).fHead) (a1 := (a0.getD i1 MSigned.zero)) ⟨(SmL.getD (z := MSigned.zero) H0 (by first | assumption | omega | (simp (disch := omega) only [wi]; omega) | (simp; omega))).1, (SmL.getD (z := MSigned.zero) H0 h2)⟩) ?_
        refine Rnd.bif (fun c9 => ?_) (fun c9 => ?_)
        · refine Rnd.inr ?_
          first | rfl | (simp only [S0, MSigned.rs, MP]; first | done | rfl)
        · refine Rnd.inl trivial ?_
          rw [wrap_succ h2 Bh2]
          all_goals first | rfl | (simp only [S0, MSigned.rs, MP]; first | done | rfl)
      · refine Rnd.inl trivial ?_
        rw [wrap_succ h2 Bh2]
        all_goals first | rfl | (simp only [S0, MSigned.rs, MP]; first | done | rfl)
  · simp only [step, S0, MSigned.rs]
    have := (H0).1
    refine ex_no (by apply decide_eq_false; omega) ?_
    refine ⟨0, ?_⟩
    first | rfl | (simp only [S0, MSigned.rs, MP]; first | done | rfl)
theorem valid_ : Valid Tryz.prog Ev 89 con := VV (run := fun n x => start (iter step n) x) mix tab_ok (.cons impl_IsFirst.valid_ (.cons impl_MayFollow.valid_ .nil)) Tryz.func89 (by kernel_rfl) run_eq (fun _ a _ _ hg => okF a hg)
theorem br (a0 : List MSigned) : md a0 = spec_FirstWrong.md a0 := by
  unfold md spec_FirstWrong.md
  rw [← loopM_eachI (z := MSigned.zero), ← loopM_eachI (z := MSigned.zero)]
  refine loopM_congr (fun _ _ => True) (fun i s hi _ => ⟨?_, fun _ _ => trivial⟩) (fun _ _ => rfl) trivial
  simp only [impl_IsFirst.br, impl_MayFollow.br]
  by_cases h0 : i = 0
  · subst h0; rfl
  · have e : ((i : Int) == 0) = false := beq_eq_false_iff_ne.2 (by omega)
    simp only [e, cond_false]
end impl_FirstWrong
/-! impl.IsChain -/
namespace impl_IsChain
noncomputable def F (x0 : List (List L)) : Ans := (call (impl_InRange.R ((x0.length : Int), 1, 12)) fun v1 => (bif v1 then (call (impl_FirstWrong.R x0) fun v2 => ret ((decide (v2 < 0)) : Bool)) else ret (false : Bool)))
def pats : List Pat := [.rd (.sl 92)]
def res : RP := .one (.rd (.bool))
noncomputable abbrev E : Env := ⟨assoc Tab, conG [(88, impl_InRange.con), (89, impl_FirstWrong.con)], 11⟩
set_option maxRecDepth 100000
theorem run_eq (n : Nat) (ls : List L) : runF E (fun _ => []) Tryz.f46 res n (initS pats ls) = F (ls.headD .hole).toSl := by kernel_rfl
noncomputable def md (a0 : List MSigned) : Bool := (bif (impl_InRange.md (a0.length : Int) 1 12) then ((decide ((impl_FirstWrong.md a0) < 0)) : Bool) else (false : Bool))
def gd (a0 : List MSigned) : Prop := (SmL (2 ^ 21) (fun y : MSigned => MSigned.Sm (2 ^ 21) y) a0)
def acc (ls : List L) : List (List L) := (ls.headD .hole).toSl
noncomputable def R : (List (List L)) → Option Bool := RR gd md
theorem R_eq {a0} (h : gd a0) : R (a0.map MSigned.row) = some (md a0) := RR_eq (a := a0) h
noncomputable def con : Con := CN pats res acc R
theorem okF (a0 : List MSigned) (hg : gd a0) : F (a0.map MSigned.row) = ret ((md a0) : Bool) := by
  unfold gd at hg
  have H0 := hg
  unfold F md
  try simp only [S0]
  refine call_to (impl_InRange.md (a0.length : Int) 1 12) (impl_InRange.R_eq (a0 := (a0.length : Int)) (a1 := 1) (a2 := 12) trivial) ?_
  refine bif_out ret (fun c1 => ?_) (fun _ => rfl)
  refine call_to (impl_FirstWrong.md a0) (impl_FirstWrong.R_eq (a0 := a0) H0) ?_
  first | rfl | (simp only [S0, MP]; first | done | rfl)
theorem valid_ : Valid Tryz.prog Ev 46 con := VV (run := fun _ x => F x) mix tab_ok (.cons impl_InRange.valid_ (.cons impl_FirstWrong.valid_ .nil)) Tryz.func46 (by kernel_rfl) run_eq (fun _ a _ _ hg => ⟨0, okF a hg⟩)
theorem tr {a0 : List MSigned} (h : md a0 = true) : 1 ≤ a0.length ∧ a0.length ≤ 12 := by simp [md, impl_InRange.md] at h; omega
theorem br (a0 : List MSigned) : md a0 = spec_IsChain.md a0 := by
  unfold md spec_IsChain.md
  first
  | (simp only [impl_InRange.br, impl_FirstWrong.br]; done)
  | (simp only [impl_InRange.br, impl_FirstWrong.br]; rfl)
  | rfl
end impl_IsChain
/-! impl.last -/
namespace impl_last
noncomputable def F (x0 : List (List L)) : Ans := (bif (decide ((0 : Int) ≤ (IntKind.i64.wrap ((x0.length : Int) - 1)))) then (bif (decide ((IntKind.i64.wrap ((x0.length : Int) - 1)) < (x0.length : Int))) then ret ((RSigned.at x0 (Int.toNat (IntKind.i64.wrap ((x0.length : Int) - 1)))).fHead : RHead) else none) else none)
def pats : List Pat := [.rd (.sl 92)]
def res : RP := .agg [.rd (.int .i64), .rd (.int .i64), .rd (.int .i64), .rd (.int .i64), .rd (.int .i64), .rd (.int .i64), .rd (.int .i64), .rd (.int .i64), .rd (.sl 3), .rd (.int .i64), .rd (.sl 3), .rd (.int .i64), .rd (.int .i64), .rd (.sl 3), .rd (.int .i64), .rd (.bool)]
noncomputable abbrev E : Env := ⟨assoc Tab, conG [], 10⟩
set_option maxRecDepth 100000
theorem run_eq (n : Nat) (ls : List L) : runF E (fun _ => []) Tryz.f124 res n (initS pats ls) = F (ls.headD .hole).toSl := by kernel_rfl
noncomputable def md (a0 : List MSigned) : MHead := (a0.getD (Int.toNat (IntKind.i64.wrap ((a0.length : Int) - 1))) MSigned.zero).fHead
def gd (a0 : List MSigned) : Prop := (SmL (2 ^ 21) (fun y : MSigned => MSigned.Sm (2 ^ 21) y) a0) ∧ (1 ≤ a0.length)
def acc (ls : List L) : List (List L) := (ls.headD .hole).toSl
noncomputable def R : (List (List L)) → Option RHead := RR gd md
theorem R_eq {a0} (h : gd a0) : R (a0.map MSigned.row) = some (MHead.r (md a0)) := RR_eq (a := a0) h
noncomputable def con : Con := CN pats res acc R
theorem okF (a0 : List MSigned) (hg : gd a0) : F (a0.map MSigned.row) = ret ((MHead.r (md a0)) : RHead) := by
  unfold gd at hg
  obtain ⟨H0, HX⟩ := hg
  unfold F md
  try simp only [S0, MSigned.rs]
  refine yes_ret (by
      have := (H0).1
      refine decide_eq_true ?_
      try simp (disch := omega) only [LN, wi]
      first | omega | (simp; done) | (simp; omega)) ?_
  refine yes_ret (by
      have := (H0).1
      refine decide_eq_true ?_
      try simp (disch := omega) only [LN, wi]
      first | omega | (simp; done) | (simp; omega)) ?_
  all_goals first | rfl | (simp only [S0, MSigned.rs]; done) | (simp only [MP]; rfl) | (simp only [S0, MSigned.rs, MP]; first | done | rfl)
theorem valid_ : Valid Tryz.prog Ev 124 con := VV (run := fun _ x => F x) mix tab_ok .nil Tryz.func124 (by kernel_rfl) run_eq (fun _ a _ _ hg => ⟨0, okF a hg⟩)
theorem sm0 {a0 : List MSigned} (hg : gd a0) : MHead.Sm (2 ^ 21) (md a0) := by
  unfold gd at hg; unfold md
  have h1 := hg.1.1
  have h2 := hg.2
  exact (SmL.getD hg.1 (by simp (disch := omega) only [Go.IntWalk.i64_in]; omega)).1
end impl_last
/-! slices.Clone[[]int,int] -/
namespace slices_Clone_Sint_int
noncomputable def F (x0 : List (List L)) : Ans := (bif x0.isEmpty then (either (ret ([] : List (List L))) ((bif (lim ((x0.length : Int) * 8)) then ret (x0 : List (List L)) else none))) else (bif (lim ((x0.length : Int) * 8)) then ret (x0 : List (List L)) else none))
def pats : List Pat := [.rd (.sl 3)]
def res : RP := .one (.fr 3)
noncomputable abbrev E : Env := ⟨assoc Tab, conG [], 8⟩
set_option maxRecDepth 100000
theorem run_eq (n : Nat) (ls : List L) : runF E (fun _ => []) Tryz.f213 res n (initS pats ls) = F (ls.headD .hole).toSl := by kernel_rfl
noncomputable def md (a0 : List Int) : List Int := a0
def gd (a0 : List Int) : Prop := SmL (2 ^ 38) (fun y : Int => True) a0
def acc (ls : List L) : List (List L) := (ls.headD .hole).toSl
noncomputable def R : (List (List L)) → Option (List (List L)) := RR gd md
theorem R_eq {a0} (h : gd a0) : R (a0.map iRow) = some ((md a0).map iRow) := RR_eq (a := a0) h
noncomputable def con : Con := CN pats res acc R
theorem okF (a0 : List Int) (hg : gd a0) : F (a0.map iRow) = ret (((md a0).map iRow) : List (List L)) := by
  have H0 := hg.1
  unfold F md
  have hl : lim (((a0.map iRow).length : Int) * 8) = true := lim_t (by simp only [List.length_map]; omega)
  simp only [hl, cond_true]
  cases a0 with
  | nil => exact either_same
  | cons x xs => rfl
theorem valid_ : Valid Tryz.prog Ev 213 con := VV (run := fun _ x => F x) mix tab_ok .nil Tryz.func213 (by kernel_rfl) run_eq (fun _ a _ _ hg => ⟨0, okF a hg⟩)
end slices_Clone_Sint_int
/-! impl.copyKeys -/
namespace impl_copyKeys
noncomputable def F (x0 : RKeys) : Ans := (call (slices_Clone_Sint_int.R x0.fList) fun v1 => ret ((⟨v1, x0.fNeed⟩ : RKeys) : RKeys))
def pats : List Pat := [.agg [.sl 3, .int .i64]]
def res : RP := .agg [.fr 3, .rd (.int .i64)]
noncomputable abbrev E : Env := ⟨assoc Tab, conG [(213, slices_Clone_Sint_int.con)], 9⟩
set_option maxRecDepth 100000
theorem run_eq (n : Nat) (ls : List L) : runF E (fun _ => []) Tryz.f166 res n (initS pats ls) = F (RKeys.dec ls) := by kernel_rfl
noncomputable def md (a0 : MKeys) : MKeys := a0
def gd (a0 : MKeys) : Prop := (MKeys.Sm (2 ^ 21) a0)
def acc (ls : List L) : RKeys := (RKeys.dec ls)
noncomputable def R : RKeys → Option RKeys := RR gd md
theorem R_eq {a0} (h : gd a0) : R (MKeys.r a0) = some (MKeys.r (md a0)) := RR_eq (a := a0) h
noncomputable def con : Con := CN pats res acc R
theorem okF (a0 : MKeys) (hg : gd a0) : F (MKeys.r a0) = ret ((MKeys.r (md a0)) : RKeys) := by
  unfold gd at hg
  have H0 := hg
  unfold F md
  try simp only [S0, MKeys.rs]
  refine call_to (a0.fList.map iRow) ?_ ?_
  · have R_ := slices_Clone_Sint_int.R_eq (a0 := a0.fList) (H0.mono (by decide) (fun x hx => trivial))
    simp only [slices_Clone_Sint_int.md] at R_
    first | exact R_ | (simp only [MP, S0, MKeys.rs] at R_ ⊢; first | exact R_ | (rw [← R_]; rfl))
  try simp only [S0, MKeys.rs]
  all_goals first | rfl | (simp only [S0, MKeys.rs]; done) | (simp only [MP]; rfl) | (simp only [S0, MKeys.rs, MP]; first | done | rfl)
theorem valid_ : Valid Tryz.prog Ev 166 con := VV (run := fun _ x => F x) mix tab_ok (.cons slices_Clone_Sint_int.valid_ .nil) Tryz.func166 (by kernel_rfl) run_eq (fun _ a _ _ hg => ⟨0, okF a hg⟩)
end impl_copyKeys
/-! impl.copyHead -/
namespace impl_copyHead
noncomputable def F (x0 : RHead) : Ans := (call (impl_copyKeys.R x0.fKeys) fun v1 => (call (impl_copyKeys.R x0.fHeirs) fun v2 => (call (impl_copyKeys.R x0.fJudge) fun v3 => ret ((⟨x0.fZone, x0.fEpoch, x0.fKind, x0.fTime, x0.fUntil, x0.fCount, x0.fRoot, x0.fPrev, v1, v2, x0.fWait, v3, x0.fFrozen⟩ : RHead) : RHead))))
def pats : List Pat := [.agg [.int .i64, .int .i64, .int .i64, .int .i64, .int .i64, .int .i64, .int .i64, .int .i64, .sl 3, .int .i64, .sl 3, .int .i64, .int .i64, .sl 3, .int .i64, .bool]]
def res : RP := .agg [.rd (.int .i64), .rd (.int .i64), .rd (.int .i64), .rd (.int .i64), .rd (.int .i64), .rd (.int .i64), .rd (.int .i64), .rd (.int .i64), .fr 3, .rd (.int .i64), .fr 3, .rd (.int .i64), .rd (.int .i64), .fr 3, .rd (.int .i64), .rd (.bool)]
noncomputable abbrev E : Env := ⟨assoc Tab, conG [(166, impl_copyKeys.con)], 16⟩
set_option maxRecDepth 100000
theorem run_eq (n : Nat) (ls : List L) : runF E (fun _ => []) Tryz.f123 res n (initS pats ls) = F (RHead.dec ls) := by kernel_rfl
noncomputable def md (a0 : MHead) : MHead := a0
def gd (a0 : MHead) : Prop := (MHead.Sm (2 ^ 21) a0)
def acc (ls : List L) : RHead := (RHead.dec ls)
noncomputable def R : RHead → Option RHead := RR gd md
theorem R_eq {a0} (h : gd a0) : R (MHead.r a0) = some (MHead.r (md a0)) := RR_eq (a := a0) h
noncomputable def con : Con := CN pats res acc R
theorem okF (a0 : MHead) (hg : gd a0) : F (MHead.r a0) = ret ((MHead.r (md a0)) : RHead) := by
  unfold gd at hg
  have H0 := hg
  unfold F md
  try simp only [S0, MHead.rs]
  refine call_to (MKeys.r a0.fKeys) ?_ ?_
  · have R_ := impl_copyKeys.R_eq (a0 := a0.fKeys) H0.1
    simp only [impl_copyKeys.md] at R_
    first | exact R_ | (simp only [MP, S0, MHead.rs] at R_ ⊢; first | exact R_ | (rw [← R_]; rfl))
  try simp only [S0, MHead.rs]
  refine call_to (MKeys.r a0.fHeirs) ?_ ?_
  · have R_ := impl_copyKeys.R_eq (a0 := a0.fHeirs) H0.2.1
    simp only [impl_copyKeys.md] at R_
    first | exact R_ | (simp only [MP, S0, MHead.rs] at R_ ⊢; first | exact R_ | (rw [← R_]; rfl))
  try simp only [S0, MHead.rs]
  refine call_to (MKeys.r a0.fJudge) ?_ ?_
  · have R_ := impl_copyKeys.R_eq (a0 := a0.fJudge) H0.2.2
    simp only [impl_copyKeys.md] at R_
    first | exact R_ | (simp only [MP, S0, MHead.rs] at R_ ⊢; first | exact R_ | (rw [← R_]; rfl))
  try simp only [S0, MHead.rs]
  all_goals first | rfl | (simp only [S0, MHead.rs]; done) | (simp only [MP]; rfl) | (simp only [S0, MHead.rs, MP]; first | done | rfl)
theorem valid_ : Valid Tryz.prog Ev 123 con := VV (run := fun _ x => F x) mix tab_ok (.cons impl_copyKeys.valid_ .nil) Tryz.func123 (by kernel_rfl) run_eq (fun _ a _ _ hg => ⟨0, okF a hg⟩)
end impl_copyHead
/-! impl.LastHead -/
namespace impl_LastHead
noncomputable def F (x0 : List (List L)) : Ans := (call (impl_IsChain.R x0) fun v1 => (bif (!v1) then ret (((⟨0, 0, 0, 0, 0, 0, 0, 0, (⟨[], 0⟩ : RKeys), (⟨[], 0⟩ : RKeys), 0, (⟨[], 0⟩ : RKeys), false⟩ : RHead), false) : RHead × Bool) else (call (impl_last.R x0) fun v2 => (call (impl_copyHead.R v2) fun v3 => ret ((v3, true) : RHead × Bool)))))
def pats : List Pat := [.rd (.sl 92)]
def res : RP := .tup [(true, [.rd (.int .i64), .rd (.int .i64), .rd (.int .i64), .rd (.int .i64), .rd (.int .i64), .rd (.int .i64), .rd (.int .i64), .rd (.int .i64), .fr 3, .rd (.int .i64), .fr 3, .rd (.int .i64), .rd (.int .i64), .fr 3, .rd (.int .i64), .rd (.bool)]), (false, [.rd (.bool)])]
noncomputable abbrev E : Env := ⟨assoc Tab, conG [(46, impl_IsChain.con), (124, impl_last.con), (123, impl_copyHead.con)], 11⟩
set_option maxRecDepth 100000
theorem run_eq (n : Nat) (ls : List L) : runF E (fun _ => []) Tryz.f69 res n (initS pats ls) = F (ls.headD .hole).toSl := by kernel_rfl
noncomputable def md (a0 : List MSigned) : MHead × Bool := (bif (!(impl_IsChain.md a0)) then ((⟨0, 0, 0, 0, 0, 0, 0, 0, (⟨[], 0⟩ : MKeys), (⟨[], 0⟩ : MKeys), 0, (⟨[], 0⟩ : MKeys), false⟩ : MHead), false) else ((impl_last.md a0), true))
def gd (a0 : List MSigned) : Prop := (SmL (2 ^ 21) (fun y : MSigned => MSigned.Sm (2 ^ 21) y) a0)
def acc (ls : List L) : List (List L) := (ls.headD .hole).toSl
noncomputable def R : (List (List L)) → Option (RHead × Bool) := RR gd md
theorem R_eq {a0} (h : gd a0) : R (a0.map MSigned.row) = some ((MHead.r (md a0).1), (md a0).2) := RR_eq (a := a0) h
noncomputable def con : Con := CN pats res acc R
theorem okF (a0 : List MSigned) (hg : gd a0) : F (a0.map MSigned.row) = ret (((MHead.r (md a0).1), (md a0).2) : RHead × Bool) := by
  unfold gd at hg
  have H0 := hg
  unfold F md
  try simp only [S0]
  refine call_to (impl_IsChain.md a0) (impl_IsChain.R_eq (a0 := a0) H0) ?_
  refine bif_out (fun b : MHead × Bool => ret (((MHead.r b.1), b.2) : RHead × Bool)) (fun c1 => ?_) (fun c1 => ?_)
  · all_goals first | rfl | (simp only [S0]; done) | (simp only [MP]; rfl) | (simp only [S0, MP]; first | done | rfl)
  · have dc1 := c1
    try simp only [DC] at dc1
    try have tc1 := impl_IsChain.tr (by simpa using c1)
    refine call_to (MHead.r (impl_last.md a0)) (impl_last.R_eq (a0 := a0) ⟨H0, (by
        have := (H0).1
        first | assumption | omega | (simp; done) | (simp; omega))⟩) ?_
    try simp only [S0]
    refine call_to (MHead.r (impl_last.md a0)) ?_ ?_
    · have R_ := impl_copyHead.R_eq (a0 := (impl_last.md a0)) (impl_last.sm0 (a0 := a0) ⟨H0, (by
          have := (H0).1
          first | assumption | omega | (simp; done) | (simp; omega))⟩)
      simp only [impl_copyHead.md] at R_
      first | exact R_ | (simp only [MP, S0] at R_ ⊢; first | exact R_ | (rw [← R_]; rfl))
    try simp only [S0]
    all_goals first | rfl | (simp only [S0]; done) | (simp only [MP]; rfl) | (simp only [S0, MP]; first | done | rfl)
theorem valid_ : Valid Tryz.prog Ev 69 con := VV (run := fun _ x => F x) mix tab_ok (.cons impl_IsChain.valid_ (.cons impl_last.valid_ (.cons impl_copyHead.valid_ .nil))) Tryz.func69 (by kernel_rfl) run_eq (fun _ a _ _ hg => ⟨0, okF a hg⟩)
theorem sm0 {a0 : List MSigned} (hg : gd a0) : MHead.Sm (2 ^ 21) ((md a0).1) := by
  unfold gd at hg; unfold md
  cases h : impl_IsChain.md a0
  · exact ⟨SmL.nil, SmL.nil, SmL.nil⟩
  · have := impl_IsChain.tr h
    exact impl_last.sm0 ⟨hg, this.1⟩
theorem br (a0 : List MSigned) : md a0 = spec_LastHead.md a0 := by
  unfold md spec_LastHead.md
  first
  | (simp only [impl_IsChain.br]; done)
  | (simp only [impl_IsChain.br]; rfl)
  | rfl
end impl_LastHead
/-! (impl.Cache).find$1 -/
namespace impl_Cache_find_1
noncomputable def F (x0 : RStored) (x1 : List L) (x2 : List L) : Ans := (bif (x0.fZone == (iDec x1)) then ret ((x0.fLabel == (sDec x2)) : Bool) else ret (false : Bool))
def pats : List Pat := [.agg [.int .i64, .str, .sl 92, .bool, .str, .int .i64, .int .i64, .sl 9, .int .i64, .sl 3, .int .i64, .str, .int .i64, .int .i64, .sl 9, .str, .int .i64, .int .i64, .sl 9, .int .i64, .sl 3, .int .i64, .sl 3], .ptr [.int .i64], .ptr [.str]]
def res : RP := .one (.rd (.bool))
noncomputable abbrev E : Env := ⟨assoc Tab, conG [], 15⟩
set_option maxRecDepth 100000
theorem run_eq (n : Nat) (ls : List L) : runF E (fun _ => []) Tryz.f131 res n (initS pats ls) = F (RStored.dec ls) (padL 1 (dropT 23 ls)) (padL 1 (dropT 24 ls)) := by kernel_rfl
noncomputable def md (a0 : MStored) (a1 : Int) (a2 : ByteArray) : Bool := (bif (a0.fZone == a1) then ((a0.fLabel == a2) : Bool) else (false : Bool))
def gd (a0 : MStored) (a1 : Int) (a2 : ByteArray) : Prop := True
def acc (ls : List L) : RStored × Int × ByteArray := ((RStored.dec ls), (iDec (padL 1 (dropT 23 ls))), (sDec (padL 1 (dropT 24 ls))))
noncomputable def R : (RStored × Int × ByteArray) → Option Bool := RR (p3 gd) (u3 md)
theorem R_eq {a0} {a1} {a2} (h : gd a0 a1 a2) : R ((MStored.r a0), a1, a2) = some (md a0 a1 a2) := RR_eq (a := (a0, a1, a2)) h
noncomputable def con : Con := CN pats res acc R
theorem okF (a0 : MStored) (a1 : Int) (a2 : ByteArray) (p1 : List L) (p2 : List L) (e1 : a1 = (iDec p1)) (e2 : a2 = (sDec p2)) (hg : gd a0 a1 a2) : F (MStored.r a0) p1 p2 = ret ((md a0 a1 a2) : Bool) := by
  unfold F md
  try simp only [S0, MHead.rs, MEntry.rs, MStored.rs, ← e1, ← e2]
  refine bif_out ret (fun c1 => ?_) (fun _ => rfl)
  first | rfl | (simp only [S0, MHead.rs, MEntry.rs, MStored.rs, ← e1, ← e2, MP]; first | done | rfl)
theorem okV (ls : List L) (a : MStored × Int × ByteArray) (e : acc ls = Im.im a) (hg : (p3 gd) a) : ∃ n : Nat, F (RStored.dec ls) (padL 1 (dropT 23 ls)) (padL 1 (dropT 24 ls)) = ret (Im.im ((u3 md) a)) := by
  have e0 : (MStored.r a.1) = (RStored.dec ls) := (congrArg (fun x => x.1) e.symm)
  have hn := okF a.1 a.2.1 a.2.2 (padL 1 (dropT 23 ls)) (padL 1 (dropT 24 ls)) (congrArg (fun x => x.2.1) e.symm) (congrArg (fun x => x.2.2) e.symm) hg
  refine ⟨0, ?_⟩
  rw [← e0]
  exact hn
theorem valid_ : Valid Tryz.prog Ev 131 con := VP (accr := fun ls => ((RStored.dec ls), (padL 1 (dropT 23 ls)), (padL 1 (dropT 24 ls)))) (run := fun _ x => F x.1 x.2.1 x.2.2) mix tab_ok .nil Tryz.func131 (by kernel_rfl) run_eq (fun ls a _ e hg => okV ls a e hg)
end impl_Cache_find_1
/-! slices.IndexFunc[[]impl.Stored,impl.Stored] -/
namespace slices_IndexFunc_Simpl_Stored_impl_Stored__impl_Cache_find_1
inductive Pt where
  | p0 (a : List (List L)) (b : List L) (c : List L) (d : Int) (e : Int)
def pid : Pt → Nat
  | .p0 .. => 2
def pvs : Pt → List V
  | .p0 a b c d e => [.sl none 124 a, .fn 131 [.cptr none [.int .i64] b 0, .cptr none [.str] c 0], .int .i64 d, .int .i64 e]
def phs : Pt → List Root
  | .p0 a b c d e => []
noncomputable def step (J : Pt → Ans) : Pt → Ans
  | .p0 a b c d e => (bif (decide (e < d)) then (bif (decide ((0 : Int) ≤ e)) then (bif (decide (e < (a.length : Int))) then (call (impl_Cache_find_1.R ((RStored.at a (Int.toNat e)), (iDec b), (sDec c))) fun v1 => (bif v1 then ret (e : Int) else J (.p0 a b c d (IntKind.i64.wrap (e + 1))))) else none) else none) else ret ((-1) : Int))
noncomputable def start (J : Pt → Ans) (x0 : List (List L)) (x1 : List L) (x2 : List L) : Ans := J (.p0 x0 x1 x2 (x0.length : Int) 0)
def live : Nat → Live := fun i => match i with | 2 => [(0, none), (1, none), (7, none), (8, none)] | _ => []
def pats : List Pat := [.rd (.sl 124), .fn 131 [[.int .i64], [.str]]]
def res : RP := .one (.rd (.int .i64))
noncomputable abbrev E : Env := ⟨assoc Tab, conG [(131, impl_Cache_find_1.con)], 19⟩
set_option maxRecDepth 100000
theorem step_eq (I : Heads) (p : Pt) : enterC E live I (pid p) (bodyOf Tryz.f130) (stOf (live (pid p)) (pvs p) (phs p)) (doneK E Tryz.f130 res) = step (fun q => I (pid q) (pvs q) (phs q)) p := by
  cases p <;> kernel_rfl
theorem start_eq (I : Heads) (ls : List L) : runC E live I (bodyOf Tryz.f130) (initS pats ls) (doneK E Tryz.f130 res) = start (fun q => I (pid q) (pvs q) (phs q)) (ls.headD .hole).toSl (padL 1 (dropT 1 ls)) (padL 1 (dropT 2 ls)) := by kernel_rfl
theorem run_eq (n : Nat) (ls : List L) : runF E live Tryz.f130 res n (initS pats ls) = start (iter step n) (ls.headD .hole).toSl (padL 1 (dropT 1 ls)) (padL 1 (dropT 2 ls)) := runF_iter (id := pid) (vs := pvs) (hs := phs) (step := step) (start := fun J => start J (ls.headD .hole).toSl (padL 1 (dropT 1 ls)) (padL 1 (dropT 2 ls))) step_eq (fun I => start_eq I ls) n
noncomputable def md (a0 : List MStored) (a1 : Int) (a2 : ByteArray) : Int := (eachI (S := Unit) (β := Int) (fun (i1 : Nat) (y1 : MStored) (s3 : Unit) => (bif (impl_Cache_find_1.md y1 a1 a2) then (.inr ((i1 : Int) : Int)) else (.inl ()))) (fun (s3 : Unit) => ((-1) : Int)) 0 a0 ())
def gd (a0 : List MStored) (a1 : Int) (a2 : ByteArray) : Prop := (SmL (2 ^ 21) (fun y : MStored => MStored.Sm (2 ^ 21) y) a0)
def acc (ls : List L) : List (List L) × Int × ByteArray := ((ls.headD .hole).toSl, (iDec (padL 1 (dropT 1 ls))), (sDec (padL 1 (dropT 2 ls))))
noncomputable def R : (List (List L) × Int × ByteArray) → Option Int := RR (p3 gd) (u3 md)
theorem R_eq {a0} {a1} {a2} (h : gd a0 a1 a2) : R ((a0.map MStored.row), a1, a2) = some (md a0 a1 a2) := RR_eq (a := (a0, a1, a2)) h
noncomputable def con : Con := CN pats res acc R
theorem okF (a0 : List MStored) (a1 : Int) (a2 : ByteArray) (p1 : List L) (p2 : List L) (e1 : a1 = (iDec p1)) (e2 : a2 = (sDec p2)) (hg : gd a0 a1 a2) : ∃ n, start (iter step n) (a0.map MStored.row) p1 p2 = ret ((md a0 a1 a2) : Int) := by
  unfold gd at hg
  have H0 := hg
  unfold start md
  try simp only [S0, MStored.rs, ← e1, ← e2]
  have Bh2 : a0.length ≤ maxLen := (by
      have := (H0).1
      try simp only [maxLen] at *
      omega)
  refine ex_eq (out := ret) (loopM_eachI (z := MStored.zero)) ?_
  refine ex_pt (p := Pt.p0 (a0.map MStored.row) p1 p2 (a0.length : Int) 0) (by first | rfl | (simp only [S0, MStored.rs, ← e1, ← e2, MP]; done) | (simp only [MP]; rfl)) ?_
  refine loopM_ok (pt := fun (i1 : Nat) (s3 : Unit) => Pt.p0 (a0.map MStored.row) p1 p2 (a0.length : Int) (i1 : Int)) (s := (() : Unit)) (out := ret) (fun _ _ => True) (fun J i1 s3 h2 hih2 => ?_) (fun s3 hih2 => ?_) trivial
  · simp only [step, S0, MStored.rs, ← e1, ← e2]
    have bb_ := Bh2
    simp only [maxLen] at bb_
    have := (H0).1
    refine Rnd.yes (by apply decide_eq_true; omega) ?_
    refine Rnd.yes zle_dec ?_
    refine Rnd.yes (lt_dec h2) ?_
    refine Rnd.call_to (impl_Cache_find_1.md (a0.getD i1 MStored.zero) a1 a2) (impl_Cache_find_1.R_eq (a0 := (a0.getD i1 MStored.zero)) (a1 := a1) (a2 := a2) trivial) ?_
    refine Rnd.bif (fun c4 => ?_) (fun c4 => ?_)
    · refine Rnd.inr ?_
      first | rfl | (simp only [S0, MStored.rs, ← e1, ← e2, MP]; first | done | rfl)
    · refine Rnd.inl trivial ?_
      rw [wrap_succ h2 Bh2]
      all_goals first | rfl | (simp only [S0, MStored.rs, ← e1, ← e2, MP]; first | done | rfl)
  · simp only [step, S0, MStored.rs, ← e1, ← e2]
    have := (H0).1
    refine ex_no (by apply decide_eq_false; omega) ?_
    refine ⟨0, ?_⟩
    first | rfl | (simp only [S0, MStored.rs, ← e1, ← e2, MP]; first | done | rfl)
theorem okV (ls : List L) (a : List MStored × Int × ByteArray) (e : acc ls = Im.im a) (hg : (p3 gd) a) : ∃ n : Nat, start (iter step n) ((ls.headD .hole).toSl) (padL 1 (dropT 1 ls)) (padL 1 (dropT 2 ls)) = ret (Im.im ((u3 md) a)) := by
  have e0 : (a.1.map MStored.row) = (ls.headD .hole).toSl := (congrArg (fun x => x.1) e.symm)
  obtain ⟨n, hn⟩ := okF a.1 a.2.1 a.2.2 (padL 1 (dropT 1 ls)) (padL 1 (dropT 2 ls)) (congrArg (fun x => x.2.1) e.symm) (congrArg (fun x => x.2.2) e.symm) hg
  refine ⟨n, ?_⟩
  rw [← e0]
  exact hn
theorem valid_ : Valid Tryz.prog Ev 130 con := VP (accr := fun ls => ((ls.headD .hole).toSl, (padL 1 (dropT 1 ls)), (padL 1 (dropT 2 ls)))) (run := fun n x => start (iter step n) x.1 x.2.1 x.2.2) mix tab_ok (.cons impl_Cache_find_1.valid_ .nil) Tryz.func130 (by kernel_rfl) run_eq (fun ls a _ e hg => okV ls a e hg)
theorem fa (a0 : List MStored) (a1 : Int) (a2 : ByteArray) : -1 ≤ md a0 a1 a2 ∧ md a0 a1 a2 < (a0.length : Int) := by
  unfold md
  refine eachI_fa0 ?_ _ _
  all_goals
    intro i x s b h
    revert h
    simp only [Bool.cond_eq_ite]
    repeat' split
    all_goals (intro h; first | (cases h; rfl) | cases h)
theorem idx_eq (a0 : List MStored) (a1 : Int) (a2 : ByteArray) : md a0 a1 a2 = findI (fun y => impl_Cache_find_1.md y a1 a2) 0 a0 := by
  unfold md
  exact eachI_find
end slices_IndexFunc_Simpl_Stored_impl_Stored__impl_Cache_find_1
/-! (impl.Cache).find -/
namespace impl_Cache_find
noncomputable def F (x0 : RCache) (x1 : Int) (x2 : ByteArray) : Ans := (call (slices_IndexFunc_Simpl_Stored_impl_Stored__impl_Cache_find_1.R (x0.fList, x1, x2)) fun v1 => ret (v1 : Int))
def pats : List Pat := [.agg [.sl 124], .rd (.int .i64), .rd (.str)]
def res : RP := .one (.rd (.int .i64))
noncomputable abbrev E : Env := ⟨assoc Tab, conG [(130, slices_IndexFunc_Simpl_Stored_impl_Stored__impl_Cache_find_1.con)], 11⟩
set_option maxRecDepth 100000
theorem run_eq (n : Nat) (ls : List L) : runF E (fun _ => []) Tryz.f78 res n (initS pats ls) = F (RCache.dec ls) ((dropT 1 ls).headD .hole).toInt ((dropT 2 ls).headD .hole).toStr := by kernel_rfl
noncomputable def md (a0 : MCache) (a1 : Int) (a2 : ByteArray) : Int := ((slices_IndexFunc_Simpl_Stored_impl_Stored__impl_Cache_find_1.md a0.fList a1 a2) : Int)
def gd (a0 : MCache) (a1 : Int) (a2 : ByteArray) : Prop := (MCache.Sm (2 ^ 21) a0)
def acc (ls : List L) : RCache × Int × ByteArray := ((RCache.dec ls), ((dropT 1 ls).headD .hole).toInt, ((dropT 2 ls).headD .hole).toStr)
noncomputable def R : (RCache × Int × ByteArray) → Option Int := RR (p3 gd) (u3 md)
theorem R_eq {a0} {a1} {a2} (h : gd a0 a1 a2) : R ((MCache.r a0), a1, a2) = some (md a0 a1 a2) := RR_eq (a := (a0, a1, a2)) h
noncomputable def con : Con := CN pats res acc R
theorem okF (a0 : MCache) (a1 : Int) (a2 : ByteArray) (hg : gd a0 a1 a2) : F (MCache.r a0) a1 a2 = ret ((md a0 a1 a2) : Int) := by
  unfold gd at hg
  have H0 := hg
  unfold F md
  try simp only [S0, MKeys.rs, MCache.rs]
  refine call_to (slices_IndexFunc_Simpl_Stored_impl_Stored__impl_Cache_find_1.md a0.fList a1 a2) (slices_IndexFunc_Simpl_Stored_impl_Stored__impl_Cache_find_1.R_eq (a0 := a0.fList) (a1 := a1) (a2 := a2) H0) ?_
  have fv1_ := slices_IndexFunc_Simpl_Stored_impl_Stored__impl_Cache_find_1.fa a0.fList a1 a2
  first | rfl | (simp only [S0, MKeys.rs, MCache.rs, MP]; first | done | rfl)
theorem valid_ : Valid Tryz.prog Ev 78 con := VV (run := fun _ x => F x.1 x.2.1 x.2.2) mix tab_ok (.cons slices_IndexFunc_Simpl_Stored_impl_Stored__impl_Cache_find_1.valid_ .nil) Tryz.func78 (by kernel_rfl) run_eq (fun _ a _ _ hg => ⟨0, okF a.1 a.2.1 a.2.2 hg⟩)
theorem fa (a0 : MCache) (a1 : Int) (a2 : ByteArray) : -1 ≤ md a0 a1 a2 ∧ md a0 a1 a2 < (a0.fList.length : Int) := by unfold md; exact slices_IndexFunc_Simpl_Stored_impl_Stored__impl_Cache_find_1.fa _ _ _
theorem br (a0 : MCache) (a1 : Int) (a2 : ByteArray) : md a0 a1 a2 = spec_l26Find.md a0 a1 a2 := by
  unfold md spec_l26Find.md
  rw [slices_IndexFunc_Simpl_Stored_impl_Stored__impl_Cache_find_1.idx_eq]
  symm
  refine eachI_find' (fun i x s => ?_) _ _ _
  unfold impl_Cache_find_1.md
  cases x.fZone == a1 <;> cases x.fLabel == a2 <;> rfl
end impl_Cache_find
/-! impl.IsFresh -/
namespace impl_IsFresh
noncomputable def F (x0 : RHead) (x1 : Int) : Ans := (call (impl_InRange.R (x1, x0.fTime, x0.fUntil)) fun v1 => ret (v1 : Bool))
def pats : List Pat := [.agg [.int .i64, .int .i64, .int .i64, .int .i64, .int .i64, .int .i64, .int .i64, .int .i64, .sl 3, .int .i64, .sl 3, .int .i64, .int .i64, .sl 3, .int .i64, .bool], .rd (.int .i64)]
def res : RP := .one (.rd (.bool))
noncomputable abbrev E : Env := ⟨assoc Tab, conG [(88, impl_InRange.con)], 11⟩
set_option maxRecDepth 100000
theorem run_eq (n : Nat) (ls : List L) : runF E (fun _ => []) Tryz.f132 res n (initS pats ls) = F (RHead.dec ls) ((dropT 16 ls).headD .hole).toInt := by kernel_rfl
noncomputable def md (a0 : MHead) (a1 : Int) : Bool := ((impl_InRange.md a1 a0.fTime a0.fUntil) : Bool)
def gd (a0 : MHead) (a1 : Int) : Prop := True
def acc (ls : List L) : RHead × Int := ((RHead.dec ls), ((dropT 16 ls).headD .hole).toInt)
noncomputable def R : (RHead × Int) → Option Bool := RR (p2 gd) (u2 md)
theorem R_eq {a0} {a1} (h : gd a0 a1) : R ((MHead.r a0), a1) = some (md a0 a1) := RR_eq (a := (a0, a1)) h
noncomputable def con : Con := CN pats res acc R
theorem okF (a0 : MHead) (a1 : Int) (hg : gd a0 a1) : F (MHead.r a0) a1 = ret ((md a0 a1) : Bool) := by
  unfold F md
  try simp only [S0, MHead.rs]
  refine call_to (impl_InRange.md a1 a0.fTime a0.fUntil) (impl_InRange.R_eq (a0 := a1) (a1 := a0.fTime) (a2 := a0.fUntil) trivial) ?_
  first | rfl | (simp only [S0, MHead.rs, MP]; first | done | rfl)
theorem valid_ : Valid Tryz.prog Ev 132 con := VV (run := fun _ x => F x.1 x.2) mix tab_ok (.cons impl_InRange.valid_ .nil) Tryz.func132 (by kernel_rfl) run_eq (fun _ a _ _ hg => ⟨0, okF a.1 a.2 hg⟩)
theorem br (a0 : MHead) (a1 : Int) : md a0 a1 = spec_IsFresh.md a0 a1 := by
  unfold md spec_IsFresh.md
  first
  | (simp only [impl_InRange.br]; done)
  | (simp only [impl_InRange.br]; rfl)
  | rfl
end impl_IsFresh
/-! impl.BytesToInts -/
namespace impl_BytesToInts
inductive Pt where
  | p0 (a : List (List L)) (b : Int) (c : Int) (d : List (List L))
def pid : Pt → Nat
  | .p0 .. => 3
def pvs : Pt → List V
  | .p0 a b c d => [.own 0, .sl none 5 a, .int .i64 b, .int .i64 c]
def phs : Pt → List Root
  | .p0 a b c d => [.row 3 d]
noncomputable def step (J : Pt → Ans) : Pt → Ans
  | .p0 a b c d => (bif (decide (c < b)) then (bif (decide ((0 : Int) ≤ c)) then (bif (decide (c < (a.length : Int))) then (bif (lim (((d.length : Int) + 1) * 8)) then J (.p0 a b (IntKind.i64.wrap (c + 1)) (d ++ [[L.int (IntKind.i64.wrap (iAt a (Int.toNat c)))]])) else none) else none) else none) else ret (d : List (List L)))
noncomputable def start (J : Pt → Ans) (x0 : List (List L)) : Ans := J (.p0 x0 (x0.length : Int) 0 [[L.int (x0.length : Int)]])
def live : Nat → Live := fun i => match i with | 3 => [(3, none), (9, none), (10, none), (11, none)] | _ => []
def pats : List Pat := [.rd (.sl 5)]
def res : RP := .one (.fr 3)
noncomputable abbrev E : Env := ⟨assoc Tab, conG [], 22⟩
set_option maxRecDepth 100000
theorem step_eq (I : Heads) (p : Pt) : enterC E live I (pid p) (bodyOf Tryz.f274) (stOf (live (pid p)) (pvs p) (phs p)) (doneK E Tryz.f274 res) = step (fun q => I (pid q) (pvs q) (phs q)) p := by
  cases p <;> kernel_rfl
theorem start_eq (I : Heads) (ls : List L) : runC E live I (bodyOf Tryz.f274) (initS pats ls) (doneK E Tryz.f274 res) = start (fun q => I (pid q) (pvs q) (phs q)) (ls.headD .hole).toSl := by kernel_rfl
theorem run_eq (n : Nat) (ls : List L) : runF E live Tryz.f274 res n (initS pats ls) = start (iter step n) (ls.headD .hole).toSl := runF_iter (id := pid) (vs := pvs) (hs := phs) (step := step) (start := fun J => start J (ls.headD .hole).toSl) step_eq (fun I => start_eq I ls) n
noncomputable def md (a0 : List Int) : List Int := ([(a0.length : Int)] ++ a0.map (fun (y1 : Int) => (IntKind.i64.wrap y1)))
def gd (a0 : List Int) : Prop := (SmL (2 ^ 38) (fun y : Int => True) a0)
def acc (ls : List L) : List (List L) := (ls.headD .hole).toSl
noncomputable def R : (List (List L)) → Option (List (List L)) := RR gd md
theorem R_eq {a0} (h : gd a0) : R (a0.map iRow) = some ((md a0).map iRow) := RR_eq (a := a0) h
noncomputable def con : Con := CN pats res acc R
theorem okF (a0 : List Int) (hg : gd a0) : ∃ n, start (iter step n) (a0.map iRow) = ret (((md a0).map iRow) : List (List L)) := by
  unfold gd at hg
  have H0 := hg
  unfold start md
  try simp only [S0]
  have Bh2 : a0.length ≤ maxLen := (by
      have := (H0).1
      try simp only [maxLen] at *
      omega)
  refine ex_eq (out := (fun b : List Int => ret ((b.map iRow) : List (List L)))) (loopM_map (g := fun (y1 : Int) => (IntKind.i64.wrap y1)) (z := 0) (t := fun (s3 : List Int) => s3) (s := [(a0.length : Int)])) ?_
  refine ex_pt (p := Pt.p0 (a0.map iRow) (a0.length : Int) 0 ([(a0.length : Int)].map iRow)) (by first | rfl | (simp only [S0, MP]; done) | (simp only [MP]; rfl)) ?_
  refine loopM_ok (pt := fun (i1 : Nat) (s3 : List Int) => Pt.p0 (a0.map iRow) (a0.length : Int) (i1 : Int) (s3.map iRow)) (s := ([(a0.length : Int)] : List Int)) (out := (fun b : List Int => ret ((b.map iRow) : List (List L)))) (fun (i1 : Nat) (s3 : List Int) => s3.length ≤ [(a0.length : Int)].length + 1 * i1) (fun J i1 s3 h2 hih2 => ?_) (fun s3 hih2 => ?_) (by simp)
  · simp only [step, S0]
    have gr_ := hih2
    try simp only [LN] at gr_
    have := (H0).1
    have bb_ := Bh2
    simp only [maxLen] at bb_
    have := (H0).1
    refine Rnd.yes (by apply decide_eq_true; omega) ?_
    refine Rnd.yes zle_dec ?_
    refine Rnd.yes (lt_dec h2) ?_
    refine Rnd.yes (by
        refine lim_t ?_
        try simp (disch := omega) only [LN, wi]
        first | omega | (simp; done) | (simp; omega)) ?_
    refine Rnd.inl (by
        have g_ := hih2
        try simp only [LN] at g_ ⊢
        first | omega | (simp; done) | (simp; omega)) ?_
    rw [wrap_succ h2 Bh2]
    all_goals first | rfl | (simp only [S0]; done) | (simp only [MP]; rfl) | (simp only [S0, MP]; first | done | rfl)
  · simp only [step, S0]
    have gr_ := hih2
    try simp only [LN] at gr_
    have := (H0).1
    have := (H0).1
    refine ex_no (by apply decide_eq_false; omega) ?_
    refine ⟨0, ?_⟩
    all_goals first | rfl | (simp only [S0]; done) | (simp only [MP]; rfl) | (simp only [S0, MP]; first | done | rfl)
theorem valid_ : Valid Tryz.prog Ev 274 con := VV (run := fun n x => start (iter step n) x) mix tab_ok .nil Tryz.func274 (by kernel_rfl) run_eq (fun _ a _ _ hg => okF a hg)
theorem len (a0 : List Int) : (md a0).length = 1 + a0.length := by simp [md]; omega
theorem br (a0 : List Int) : md a0 = spec_BytesToInts.md a0 := by
  unfold md spec_BytesToInts.md
  first
  | (simp only [id]; done)
  | (simp only [id]; rfl)
  | rfl
end impl_BytesToInts
/-! impl.LabelInts -/
namespace impl_LabelInts
noncomputable def F (x0 : ByteArray) : Ans := (bif (decide ((x0.size : Int) ≤ 140737488355328)) then (call (impl_BytesToInts.R (bytesL x0)) fun v1 => ret (v1 : List (List L))) else none)
def pats : List Pat := [.rd (.str)]
def res : RP := .one (.fr 3)
noncomputable abbrev E : Env := ⟨assoc Tab, conG [(274, impl_BytesToInts.con)], 6⟩
set_option maxRecDepth 100000
theorem run_eq (n : Nat) (ls : List L) : runF E (fun _ => []) Tryz.f265 res n (initS pats ls) = F (ls.headD .hole).toStr := by kernel_rfl
noncomputable def md (a0 : ByteArray) : List Int := (impl_BytesToInts.md (bytesI a0))
def gd (a0 : ByteArray) : Prop := (a0.size ≤ (2 ^ 21))
def acc (ls : List L) : ByteArray := (ls.headD .hole).toStr
noncomputable def R : ByteArray → Option (List (List L)) := RR gd md
theorem R_eq {a0} (h : gd a0) : R a0 = some ((md a0).map iRow) := RR_eq (a := a0) h
noncomputable def con : Con := CN pats res acc R
theorem okF (a0 : ByteArray) (hg : gd a0) : F a0 = ret (((md a0).map iRow) : List (List L)) := by
  unfold gd at hg
  have H0 := hg
  unfold F md
  try simp only [S0]
  refine yes_ret (by
      have := H0
      refine decide_eq_true ?_
      try simp (disch := omega) only [LN, wi]
      first | omega | (simp; done) | (simp; omega)) ?_
  refine call_to ((impl_BytesToInts.md (bytesI a0)).map iRow) ?_ ?_
  · have R_ := impl_BytesToInts.R_eq (a0 := (bytesI a0)) ⟨(by
        have := bytesI_length a0
        have := H0
        try simp (disch := omega) only [LN, wi]
        first | omega | (simp; done) | (simp; omega)), fun _ _ => trivial⟩
    first | exact R_ | (simp only [MP, S0] at R_ ⊢; first | exact R_ | (rw [← R_]; rfl))
  try simp only [S0]
  all_goals first | rfl | (simp only [S0]; done) | (simp only [MP]; rfl) | (simp only [S0, MP]; first | done | rfl)
theorem valid_ : Valid Tryz.prog Ev 265 con := VV (run := fun _ x => F x) mix tab_ok (.cons impl_BytesToInts.valid_ .nil) Tryz.func265 (by kernel_rfl) run_eq (fun _ a _ _ hg => ⟨0, okF a hg⟩)
theorem len (a0 : ByteArray) : (md a0).length = 1 + a0.size := by simp [md, impl_BytesToInts.len, bytesI_length]
theorem br (a0 : ByteArray) : md a0 = spec_LabelInts.md a0 := by
  unfold md spec_LabelInts.md
  first
  | (simp only [impl_BytesToInts.br]; done)
  | (simp only [impl_BytesToInts.br]; rfl)
  | rfl
end impl_LabelInts
/-! impl.EntryInts -/
namespace impl_EntryInts
inductive Pt where
  | p0 (a : List (List L)) (b : Int) (c : Int) (d : List (List L))
def pid : Pt → Nat
  | .p0 .. => 3
def pvs : Pt → List V
  | .p0 a b c d => [.own 0, .sl none 9 a, .int .i64 b, .int .i64 c]
def phs : Pt → List Root
  | .p0 a b c d => [.row 3 d]
noncomputable def step (J : Pt → Ans) : Pt → Ans
  | .p0 a b c d => (bif (decide (c < b)) then (bif (decide ((0 : Int) ≤ c)) then (bif (decide (c < (a.length : Int))) then (call (impl_LabelInts.R (sAt a (Int.toNat c))) fun v1 => (bif (lim (((d.length : Int) + (v1.length : Int)) * 8)) then J (.p0 a b (IntKind.i64.wrap (c + 1)) (d ++ v1)) else none)) else none) else none) else ret (d : List (List L)))
noncomputable def start (J : Pt → Ans) (x0 : REntry) : Ans := (call (impl_LabelInts.R x0.fLabel) fun v1 => (bif (lim (((v1.length : Int) + 3) * 8)) then J (.p0 x0.fPath (x0.fPath.length : Int) 0 (v1 ++ [[L.int x0.fKind], [L.int x0.fValue], [L.int (x0.fPath.length : Int)]])) else none))
def live : Nat → Live := fun i => match i with | 3 => [(3, none), (19, none), (20, none), (21, none)] | _ => []
def pats : List Pat := [.agg [.str, .int .i64, .int .i64, .sl 9]]
def res : RP := .one (.fr 3)
noncomputable abbrev E : Env := ⟨assoc Tab, conG [(265, impl_LabelInts.con)], 31⟩
set_option maxRecDepth 100000
theorem step_eq (I : Heads) (p : Pt) : enterC E live I (pid p) (bodyOf Tryz.f253) (stOf (live (pid p)) (pvs p) (phs p)) (doneK E Tryz.f253 res) = step (fun q => I (pid q) (pvs q) (phs q)) p := by
  cases p <;> kernel_rfl
theorem start_eq (I : Heads) (ls : List L) : runC E live I (bodyOf Tryz.f253) (initS pats ls) (doneK E Tryz.f253 res) = start (fun q => I (pid q) (pvs q) (phs q)) (REntry.dec ls) := by kernel_rfl
theorem run_eq (n : Nat) (ls : List L) : runF E live Tryz.f253 res n (initS pats ls) = start (iter step n) (REntry.dec ls) := runF_iter (id := pid) (vs := pvs) (hs := phs) (step := step) (start := fun J => start J (REntry.dec ls)) step_eq (fun I => start_eq I ls) n
noncomputable def md (a0 : MEntry) : List Int := (((impl_LabelInts.md a0.fLabel) ++ [a0.fKind, a0.fValue, (a0.fPath.length : Int)]) ++ a0.fPath.flatMap (fun (y1 : ByteArray) => (impl_LabelInts.md y1)))
def gd (a0 : MEntry) : Prop := (MEntry.Sm (2 ^ 21) a0)
def acc (ls : List L) : REntry := (REntry.dec ls)
noncomputable def R : REntry → Option (List (List L)) := RR gd md
theorem R_eq {a0} (h : gd a0) : R (MEntry.r a0) = some ((md a0).map iRow) := RR_eq (a := a0) h
noncomputable def con : Con := CN pats res acc R
theorem okF (a0 : MEntry) (hg : gd a0) : ∃ n, start (iter step n) (MEntry.r a0) = ret (((md a0).map iRow) : List (List L)) := by
  unfold gd at hg
  have H0 := hg
  unfold start md
  try simp only [S0, MEntry.rs]
  refine ex_call_to ((impl_LabelInts.md a0.fLabel).map iRow) (impl_LabelInts.R_eq (a0 := a0.fLabel) H0.1) ?_
  try simp only [S0, MEntry.rs]
  refine ex_yes (by
      have := impl_LabelInts.len a0.fLabel
      have := H0.1
      refine lim_t ?_
      try simp (disch := omega) only [LN, wi]
      first | omega | (simp; done) | (simp; omega)) ?_
  have Bh2 : a0.fPath.length ≤ maxLen := (by
      have := (H0.2).1
      try simp only [maxLen] at *
      omega)
  refine ex_eq (out := (fun b : List Int => ret ((b.map iRow) : List (List L)))) (loopM_flat (g := fun (y1 : ByteArray) => (impl_LabelInts.md y1)) (z := ⟨#[]⟩) (t := fun (s3 : List Int) => s3) (s := ((impl_LabelInts.md a0.fLabel) ++ [a0.fKind, a0.fValue, (a0.fPath.length : Int)]))) ?_
  refine ex_pt (p := Pt.p0 (a0.fPath.map sRow) (a0.fPath.length : Int) 0 (((impl_LabelInts.md a0.fLabel) ++ [a0.fKind, a0.fValue, (a0.fPath.length : Int)]).map iRow)) (by first | rfl | (simp only [S0, MEntry.rs, MP]; done) | (simp only [MP]; rfl)) ?_
  refine loopM_ok (pt := fun (i1 : Nat) (s3 : List Int) => Pt.p0 (a0.fPath.map sRow) (a0.fPath.length : Int) (i1 : Int) (s3.map iRow)) (s := (((impl_LabelInts.md a0.fLabel) ++ [a0.fKind, a0.fValue, (a0.fPath.length : Int)]) : List Int)) (out := (fun b : List Int => ret ((b.map iRow) : List (List L)))) (fun (i1 : Nat) (s3 : List Int) => s3.length ≤ 4 + a0.fLabel.size + i1 * (2 ^ 21 + 1)) (fun J i1 s3 h2 hih2 => ?_) (fun s3 hih2 => ?_) (by
      have := (H0.2).1
      have := impl_LabelInts.len a0.fLabel
      have := H0.1
      try simp only [LN]
      try simp
      try omega)
  · simp only [step, S0, MEntry.rs]
    have gr_ := hih2
    try simp only [LN] at gr_
    have := H0.1
    have bb_ := Bh2
    simp only [maxLen] at bb_
    have := (H0.2).1
    refine Rnd.yes (by apply decide_eq_true; omega) ?_
    refine Rnd.yes zle_dec ?_
    refine Rnd.yes (lt_dec h2) ?_
    refine Rnd.call_to ((impl_LabelInts.md (a0.fPath.getD i1 ⟨#[]⟩)).map iRow) (impl_LabelInts.R_eq (a0 := (a0.fPath.getD i1 ⟨#[]⟩)) (SmL.getD (z := ⟨#[]⟩) H0.2 h2)) ?_
    try simp only [S0, MEntry.rs]
    refine Rnd.yes (by
        have := impl_LabelInts.len (a0.fPath.getD i1 ⟨#[]⟩)
        have := (SmL.getD (z := ⟨#[]⟩) H0.2 h2)
        refine lim_t ?_
        try simp (disch := omega) only [LN, wi]
        first | omega | (simp; done) | (simp; omega)) ?_
    refine Rnd.inl (by
        have := impl_LabelInts.len (a0.fPath.getD i1 ⟨#[]⟩)
        have := (SmL.getD (z := ⟨#[]⟩) H0.2 h2)
        have g_ := hih2
        try simp only [LN] at g_ ⊢
        first | omega | (simp; done) | (simp; omega)) ?_
    rw [wrap_succ h2 Bh2]
    all_goals first | rfl | (simp only [S0, MEntry.rs]; done) | (simp only [MP]; rfl) | (simp only [S0, MEntry.rs, MP]; first | done | rfl)
  · simp only [step, S0, MEntry.rs]
    have gr_ := hih2
    try simp only [LN] at gr_
    have := H0.1
    have := (H0.2).1
    refine ex_no (by apply decide_eq_false; omega) ?_
    refine ⟨0, ?_⟩
    all_goals first | rfl | (simp only [S0, MEntry.rs]; done) | (simp only [MP]; rfl) | (simp only [S0, MEntry.rs, MP]; first | done | rfl)
theorem valid_ : Valid Tryz.prog Ev 253 con := VV (run := fun n x => start (iter step n) x) mix tab_ok (.cons impl_LabelInts.valid_ .nil) Tryz.func253 (by kernel_rfl) run_eq (fun _ a _ _ hg => okF a hg)
theorem sm0 {a0 : MEntry} (hg : gd a0) : SmL (2 ^ 43 - 1) (fun y : Int => True) (md a0) := by
  unfold gd at hg
  refine ⟨?_, fun _ _ => trivial⟩
  unfold md
  have h1 := flatMap_len (xs := a0.fPath) (g := fun y => impl_LabelInts.md y) (n := 2 ^ 21 + 1) (fun x hx => by rw [impl_LabelInts.len]; have := hg.2.2 x hx; omega)
  have h2 := hg.1
  have h3 := hg.2.1
  have h4 := impl_LabelInts.len a0.fLabel
  simp only [List.length_append, List.length_cons, List.length_nil]
  omega
theorem br (a0 : MEntry) : md a0 = spec_EntryInts.md a0 := by
  unfold md spec_EntryInts.md
  first
  | (simp only [impl_LabelInts.br]; done)
  | (simp only [impl_LabelInts.br]; rfl)
  | rfl
end impl_EntryInts
/-! impl.LeafOf -/
namespace impl_LeafOf
noncomputable def F (x0 : REntry) : Ans := (call (impl_EntryInts.R x0) fun v1 => (bif (lim (((1 : Int) + (v1.length : Int)) * 8)) then (call (impl_Hash.R ([[L.int 227]] ++ v1)) fun v2 => ret (v2 : Int)) else none))
def pats : List Pat := [.agg [.str, .int .i64, .int .i64, .sl 9]]
def res : RP := .one (.rd (.int .i64))
noncomputable abbrev E : Env := ⟨assoc Tab, conG [(253, impl_EntryInts.con), (201, impl_Hash.con)], 8⟩
set_option maxRecDepth 100000
theorem run_eq (n : Nat) (ls : List L) : runF E (fun _ => []) Tryz.f228 res n (initS pats ls) = F (REntry.dec ls) := by kernel_rfl
noncomputable def md (a0 : MEntry) : Int := ((impl_Hash.md ([227] ++ (impl_EntryInts.md a0))) : Int)
def gd (a0 : MEntry) : Prop := (MEntry.Sm (2 ^ 21) a0)
def acc (ls : List L) : REntry := (REntry.dec ls)
noncomputable def R : REntry → Option Int := RR gd md
theorem R_eq {a0} (h : gd a0) : R (MEntry.r a0) = some (md a0) := RR_eq (a := a0) h
noncomputable def con : Con := CN pats res acc R
theorem okF (a0 : MEntry) (hg : gd a0) : F (MEntry.r a0) = ret ((md a0) : Int) := by
  unfold gd at hg
  have H0 := hg
  unfold F md
  try simp only [S0]
  refine call_to ((impl_EntryInts.md a0).map iRow) (impl_EntryInts.R_eq (a0 := a0) H0) ?_
  try simp only [S0]
  refine yes_ret (by
      have := ((impl_EntryInts.sm0 (a0 := a0) H0)).1
      refine lim_t ?_
      try simp (disch := omega) only [LN, wi]
      first | omega | (simp; done) | (simp; omega)) ?_
  refine call_to (impl_Hash.md ([227] ++ (impl_EntryInts.md a0))) ?_ ?_
  · have R_ := impl_Hash.R_eq (a0 := ([227] ++ (impl_EntryInts.md a0))) ⟨(by
        have := ((impl_EntryInts.sm0 (a0 := a0) H0)).1
        try simp (disch := omega) only [LN, wi]
        first | omega | (simp; done) | (simp; omega)), fun _ _ => trivial⟩
    first | exact R_ | (simp only [MP, S0] at R_ ⊢; first | exact R_ | (rw [← R_]; rfl))
  first | rfl | (simp only [S0, MP]; first | done | rfl)
theorem valid_ : Valid Tryz.prog Ev 228 con := VV (run := fun _ x => F x) mix tab_ok (.cons impl_EntryInts.valid_ (.cons impl_Hash.valid_ .nil)) Tryz.func228 (by kernel_rfl) run_eq (fun _ a _ _ hg => ⟨0, okF a hg⟩)
theorem br (a0 : MEntry) : md a0 = spec_LeafOf.md a0 := by
  unfold md spec_LeafOf.md
  first
  | (simp only [impl_EntryInts.br, impl_Hash.br]; done)
  | (simp only [impl_EntryInts.br, impl_Hash.br]; rfl)
  | rfl
end impl_LeafOf
/-! impl.hash -/
namespace impl_hash
noncomputable def F (x0 : List (List L)) : Ans := (call (impl_Hash.R x0) fun v1 => ret (v1 : Int))
def pats : List Pat := [.rd (.sl 3)]
def res : RP := .one (.rd (.int .i64))
noncomputable abbrev E : Env := ⟨assoc Tab, conG [(201, impl_Hash.con)], 5⟩
set_option maxRecDepth 100000
theorem run_eq (n : Nat) (ls : List L) : runF E (fun _ => []) Tryz.f255 res n (initS pats ls) = F (ls.headD .hole).toSl := by kernel_rfl
noncomputable def md (a0 : List Int) : Int := ((impl_Hash.md a0) : Int)
def gd (a0 : List Int) : Prop := (SmL (2 ^ 42) (fun y : Int => True) a0)
def acc (ls : List L) : List (List L) := (ls.headD .hole).toSl
noncomputable def R : (List (List L)) → Option Int := RR gd md
theorem R_eq {a0} (h : gd a0) : R (a0.map iRow) = some (md a0) := RR_eq (a := a0) h
noncomputable def con : Con := CN pats res acc R
theorem okF (a0 : List Int) (hg : gd a0) : F (a0.map iRow) = ret ((md a0) : Int) := by
  unfold gd at hg
  have H0 := hg
  unfold F md
  try simp only [S0]
  refine call_to (impl_Hash.md a0) (impl_Hash.R_eq (a0 := a0) (H0.mono (by decide) (fun x hx => trivial))) ?_
  first | rfl | (simp only [S0, MP]; first | done | rfl)
theorem valid_ : Valid Tryz.prog Ev 255 con := VV (run := fun _ x => F x) mix tab_ok (.cons impl_Hash.valid_ .nil) Tryz.func255 (by kernel_rfl) run_eq (fun _ a _ _ hg => ⟨0, okF a hg⟩)
theorem br (a0 : List Int) : md a0 = spec_Hash.md a0 := by
  unfold md
  exact impl_Hash.br a0
end impl_hash
/-! impl.NodeOf -/
namespace impl_NodeOf
noncomputable def F (x0 : Int) (x1 : Int) : Ans := (call (impl_hash.R [[L.int 229], [L.int x0], [L.int x1]]) fun v1 => ret (v1 : Int))
def pats : List Pat := [.rd (.int .i64), .rd (.int .i64)]
def res : RP := .one (.rd (.int .i64))
noncomputable abbrev E : Env := ⟨assoc Tab, conG [(255, impl_hash.con)], 9⟩
set_option maxRecDepth 100000
theorem run_eq (n : Nat) (ls : List L) : runF E (fun _ => []) Tryz.f252 res n (initS pats ls) = F (ls.headD .hole).toInt ((dropT 1 ls).headD .hole).toInt := by kernel_rfl
noncomputable def md (a0 : Int) (a1 : Int) : Int := ((impl_hash.md [229, a0, a1]) : Int)
def gd (a0 : Int) (a1 : Int) : Prop := True
def acc (ls : List L) : Int × Int := ((ls.headD .hole).toInt, ((dropT 1 ls).headD .hole).toInt)
noncomputable def R : (Int × Int) → Option Int := RR (p2 gd) (u2 md)
theorem R_eq {a0} {a1} (h : gd a0 a1) : R (a0, a1) = some (md a0 a1) := RR_eq (a := (a0, a1)) h
noncomputable def con : Con := CN pats res acc R
theorem okF (a0 : Int) (a1 : Int) (hg : gd a0 a1) : F a0 a1 = ret ((md a0 a1) : Int) := by
  unfold F md
  try simp only [S0]
  refine call_to (impl_hash.md [229, a0, a1]) ?_ ?_
  · have R_ := impl_hash.R_eq (a0 := [229, a0, a1]) ⟨(by
        try simp (disch := omega) only [LN, wi]
        first | omega | (simp; done) | (simp; omega)), fun _ _ => trivial⟩
    first | exact R_ | (simp only [MP, S0] at R_ ⊢; first | exact R_ | (rw [← R_]; rfl))
  first | rfl | (simp only [S0, MP]; first | done | rfl)
theorem valid_ : Valid Tryz.prog Ev 252 con := VV (run := fun _ x => F x.1 x.2) mix tab_ok (.cons impl_hash.valid_ .nil) Tryz.func252 (by kernel_rfl) run_eq (fun _ a _ _ hg => ⟨0, okF a.1 a.2 hg⟩)
theorem br (a0 : Int) (a1 : Int) : md a0 a1 = spec_NodeOf.md a0 a1 := by
  unfold md spec_NodeOf.md
  first
  | (simp only [impl_hash.br]; done)
  | (simp only [impl_hash.br]; rfl)
  | rfl
end impl_NodeOf
/-! impl.TopFrom -/
namespace impl_TopFrom
inductive Pt where
  | p0 (a : Int) (b : Int) (c : Int) (d : List (List L))
def pid : Pt → Nat
  | .p0 .. => 3
def pvs : Pt → List V
  | .p0 a b c d => [.int .i64 a, .int .i64 b, .int .i64 c, .sl none 3 d]
def phs : Pt → List Root
  | .p0 a b c d => []
noncomputable def step (J : Pt → Ans) : Pt → Ans
  | .p0 a b c d => (bif (decide (c > 1)) then (bif (decide ((xorI .i64 b 1) ≥ c)) then J (.p0 a (IntKind.i64.wrap (Int.tdiv b 2)) (IntKind.i64.wrap (Int.tdiv (IntKind.i64.wrap (c + 1)) 2)) d) else (bif ((d.length : Int) == 0) then ret ((0, false) : Int × Bool) else (bif ((Int.tmod b 2) == 0) then (bif (decide ((0 : Int) < (d.length : Int))) then (call (impl_NodeOf.R (a, (iAt d 0))) fun v1 => (bif (decide ((1 : Int) ≤ (d.length : Int))) then (bif (decide ((d.length : Int) ≤ (d.length : Int))) then J (.p0 v1 (IntKind.i64.wrap (Int.tdiv b 2)) (IntKind.i64.wrap (Int.tdiv (IntKind.i64.wrap (c + 1)) 2)) (List.take (Int.toNat ((d.length : Int) - 1)) (List.drop 1 d))) else none) else none)) else none) else (bif (decide ((0 : Int) < (d.length : Int))) then (call (impl_NodeOf.R ((iAt d 0), a)) fun v2 => (bif (decide ((1 : Int) ≤ (d.length : Int))) then (bif (decide ((d.length : Int) ≤ (d.length : Int))) then J (.p0 v2 (IntKind.i64.wrap (Int.tdiv b 2)) (IntKind.i64.wrap (Int.tdiv (IntKind.i64.wrap (c + 1)) 2)) (List.take (Int.toNat ((d.length : Int) - 1)) (List.drop 1 d))) else none) else none)) else none)))) else (bif (decide ((d.length : Int) > 0)) then ret ((0, false) : Int × Bool) else ret ((a, true) : Int × Bool)))
noncomputable def start (J : Pt → Ans) (x0 : Int) (x1 : Int) (x2 : Int) (x3 : List (List L)) : Ans := (bif (decide (x2 < 1)) then ret ((0, false) : Int × Bool) else (bif (decide (x2 > 12)) then ret ((0, false) : Int × Bool) else (call (impl_InRange.R (x1, 0, (IntKind.i64.wrap (x2 - 1)))) fun v1 => (bif (!v1) then ret ((0, false) : Int × Bool) else J (.p0 x0 x1 x2 x3)))))
def live : Nat → Live := fun i => match i with | 3 => [(0, none), (1, none), (2, none), (3, none)] | _ => []
def pats : List Pat := [.rd (.int .i64), .rd (.int .i64), .rd (.int .i64), .rd (.sl 3)]
def res : RP := .tup [(false, [.rd (.int .i64)]), (false, [.rd (.bool)])]
noncomputable abbrev E : Env := ⟨assoc Tab, conG [(88, impl_InRange.con), (252, impl_NodeOf.con)], 56⟩
set_option maxRecDepth 100000
theorem step_eq (I : Heads) (p : Pt) : enterC E live I (pid p) (bodyOf Tryz.f227) (stOf (live (pid p)) (pvs p) (phs p)) (doneK E Tryz.f227 res) = step (fun q => I (pid q) (pvs q) (phs q)) p := by
  cases p <;> kernel_rfl
theorem start_eq (I : Heads) (ls : List L) : runC E live I (bodyOf Tryz.f227) (initS pats ls) (doneK E Tryz.f227 res) = start (fun q => I (pid q) (pvs q) (phs q)) (ls.headD .hole).toInt ((dropT 1 ls).headD .hole).toInt ((dropT 2 ls).headD .hole).toInt ((dropT 3 ls).headD .hole).toSl := by kernel_rfl
theorem run_eq (n : Nat) (ls : List L) : runF E live Tryz.f227 res n (initS pats ls) = start (iter step n) (ls.headD .hole).toInt ((dropT 1 ls).headD .hole).toInt ((dropT 2 ls).headD .hole).toInt ((dropT 3 ls).headD .hole).toSl := runF_iter (id := pid) (vs := pvs) (hs := phs) (step := step) (start := fun J => start J (ls.headD .hole).toInt ((dropT 1 ls).headD .hole).toInt ((dropT 2 ls).headD .hole).toInt ((dropT 3 ls).headD .hole).toSl) step_eq (fun I => start_eq I ls) n
noncomputable def md (a0 : Int) (a1 : Int) (a2 : Int) (a3 : List Int) : Int × Bool := spec_TopFrom.md a0 a1 a2 a3
def gd (a0 : Int) (a1 : Int) (a2 : Int) (a3 : List Int) : Prop := SmL (2 ^ 38) (fun y : Int => True) a3
def acc (ls : List L) : Int × Int × Int × List (List L) := ((ls.headD .hole).toInt, ((dropT 1 ls).headD .hole).toInt, ((dropT 2 ls).headD .hole).toInt, ((dropT 3 ls).headD .hole).toSl)
noncomputable def R : (Int × Int × Int × List (List L)) → Option (Int × Bool) := RR (p4 gd) (u4 md)
theorem R_eq {a0} {a1} {a2} {a3} (h : gd a0 a1 a2 a3) : R (a0, a1, a2, (a3.map iRow)) = some ((md a0 a1 a2 a3).1, (md a0 a1 a2 a3).2) := RR_eq (a := (a0, a1, a2, a3)) h
noncomputable def con : Con := CN pats res acc R
theorem okF (a0 : Int) (a1 : Int) (a2 : Int) (a3 : List Int) (hg : gd a0 a1 a2 a3) : ∃ n, start (iter step n) a0 a1 a2 (a3.map iRow) = ret (((md a0 a1 a2 a3).1, (md a0 a1 a2 a3).2) : Int × Bool) := by
  have tm : ∀ b : Int, 0 ≤ b → b ≤ 11 → Int.tmod b 2 = b % 2 := fun b h1 h2 => Int.tmod_eq_emod_of_nonneg h1
  have td : ∀ b : Int, 0 ≤ b → b ≤ 13 → IntKind.i64.wrap (Int.tdiv b 2) = b / 2 := fun b h1 h2 => by
    rw [Int.tdiv_eq_ediv_of_nonneg h1, Go.IntWalk.i64_in _ (by omega)]
  have t1 : ∀ b : Int, 0 ≤ b → b ≤ 13 → IntKind.i64.wrap (b + 1) = b + 1 := fun b h1 h2 => Go.IntWalk.i64_in _ (by omega)
  have xr : ∀ b : Int, 0 ≤ b → b ≤ 11 → xorI .i64 b 1 = if b % 2 = 0 then b + 1 else b - 1 := by
    intro b h1 h2
    have : b = 0 ∨ b = 1 ∨ b = 2 ∨ b = 3 ∨ b = 4 ∨ b = 5 ∨ b = 6 ∨ b = 7 ∨ b = 8 ∨ b = 9 ∨ b = 10 ∨ b = 11 := by omega
    rcases this with h | h | h | h | h | h | h | h | h | h | h | h <;> subst h <;> decide
  have key : ∀ (k : Nat) (leaf i n : Int) (p : List Int), p.length ≤ 2 ^ 38 → 0 ≤ i → i < n → n ≤ 12 → n ≤ 2 ^ k → ∃ m, iter step m (Pt.p0 leaf i n (p.map iRow)) = ret ((spec_TopFrom.tf (k + 1) leaf i n p).1, (spec_TopFrom.tf (k + 1) leaf i n p).2) := by
    have fin : ∀ (leaf : Int) (p : List Int) (J : Pt → Ans), step J (Pt.p0 leaf 0 1 (p.map iRow)) = ret ((if p.isEmpty then (leaf, true) else (0, false)).1, (if p.isEmpty then (leaf, true) else (0, false)).2) := by
      intro leaf p J
      simp only [step, List.length_map]
      refine no_ret (by decide) ?_
      cases p with
      | nil => rfl
      | cons x xs => exact yes_ret (decide_eq_true (by simp only [List.length_cons]; omega)) rfl
    intro k
    induction k with
    | zero =>
      intro leaf i n p hp h1 h2 h3 h4
      have hn : n = 1 := by omega
      subst hn
      have hi : i = 0 := by omega
      subst hi
      exact ⟨1, (fin leaf p _).trans rfl⟩
    | succ k ih =>
      intro leaf i n p hp h1 h2 h3 h4
      have hk : n ≤ 2 * 2 ^ k := by rw [Int.pow_succ] at h4; omega
      unfold spec_TopFrom.tf
      by_cases hn : n > 1
      · have e1 := tm i h1 (by omega)
        have e2 := td i h1 (by omega)
        have e3 := t1 n (by omega) (by omega)
        have e4 := td (n + 1) (by omega) (by omega)
        have e6 := xr i h1 (by omega)
        rw [if_pos hn]
        by_cases hc : i % 2 = 1 ∨ i + 1 < n
        · have hx : decide (xorI .i64 i 1 ≥ n) = false := by
            rw [e6]
            split
            · exact decide_eq_false (by omega)
            · exact decide_eq_false (by omega)
          rw [if_pos hc]
          cases p with
          | nil =>
            refine ⟨1, ?_⟩
            show step (iter step 0) (Pt.p0 _ _ _ _) = _
            simp only [step, hx]
            exact yes_ret (decide_eq_true (by omega)) (no_ret rfl (yes_ret rfl rfl))
          | cons x xs =>
            simp only [List.length_cons] at hp
            obtain ⟨m, hm⟩ := ih (if i % 2 = 1 then spec_NodeOf.md x leaf else spec_NodeOf.md leaf x) (i / 2) ((n + 1) / 2) xs (by omega) (by omega) (by omega) (by omega) (by omega)
            refine ⟨m + 1, ?_⟩
            show step (iter step m) (Pt.p0 _ _ _ _) = _
            have ht : List.take (Int.toNat ((xs.length : Int) + 1 - 1)) (List.drop 1 ((x :: xs).map iRow)) = xs.map iRow := by
              simp only [List.map_cons, List.drop_succ_cons, List.drop_zero]
              exact List.take_of_length_le (by simp)
            have hl : (((x :: xs).map iRow).length : Int) = (xs.length : Int) + 1 := by simp
            simp only [step, hx, e1, e2, e3, e4, ht, hl]
            refine yes_ret (decide_eq_true (by omega)) (no_ret rfl (no_ret (beq_eq_false_iff_ne.2 (by omega)) ?_))
            have hat : iAt ((x :: xs).map iRow) 0 = x := rfl
            rw [hat]
            by_cases hp : i % 2 = 1
            · rw [if_pos hp] at hm
              rw [hp]
              refine no_ret rfl (yes_ret (decide_eq_true (by omega)) (call_to (spec_NodeOf.md x leaf) (by have := impl_NodeOf.R_eq (a0 := x) (a1 := leaf) trivial; rw [impl_NodeOf.br] at this; exact this) (yes_ret (decide_eq_true (by omega)) (yes_ret (decide_eq_true (by omega)) ?_))))
              rw [if_pos rfl]
              exact hm
            · rw [if_neg hp] at hm
              have h0 : i % 2 = 0 := by omega
              rw [h0]
              refine yes_ret rfl (yes_ret (decide_eq_true (by omega)) (call_to (spec_NodeOf.md leaf x) (by have := impl_NodeOf.R_eq (a0 := leaf) (a1 := x) trivial; rw [impl_NodeOf.br] at this; exact this) (yes_ret (decide_eq_true (by omega)) (yes_ret (decide_eq_true (by omega)) ?_))))
              rw [if_neg (by omega)]
              exact hm
        · have hx : decide (xorI .i64 i 1 ≥ n) = true := by
            rw [e6, if_pos (by omega)]
            exact decide_eq_true (by omega)
          rw [if_neg hc]
          obtain ⟨m, hm⟩ := ih leaf (i / 2) ((n + 1) / 2) p hp (by omega) (by omega) (by omega) (by omega)
          refine ⟨m + 1, ?_⟩
          show step (iter step m) (Pt.p0 _ _ _ _) = _
          simp only [step, hx, e2, e3, e4]
          exact yes_ret (decide_eq_true (by omega)) (yes_ret rfl hm)
      · have hn1 : n = 1 := by omega
        subst hn1
        have hi : i = 0 := by omega
        subst hi
        refine ⟨1, (fin leaf p _).trans ?_⟩
        rw [if_neg (show ¬ (1 : Int) > 1 by omega)]
  unfold start md spec_TopFrom.md
  obtain ⟨H3, _⟩ := hg
  by_cases c1 : a2 < 1
  · refine ⟨0, yes_ret (decide_eq_true c1) ?_⟩
    rw [show spec_l1In.md a2 1 12 = false from by simp [spec_l1In.md]; omega]; rfl
  refine ex_no (decide_eq_false c1) ?_
  by_cases c2 : a2 > 12
  · refine ⟨0, yes_ret (decide_eq_true c2) ?_⟩
    rw [show spec_l1In.md a2 1 12 = false from by simp [spec_l1In.md]; omega]; rfl
  refine ex_no (decide_eq_false c2) ?_
  rw [show spec_l1In.md a2 1 12 = true from by simp [spec_l1In.md]; omega]
  simp only [Bool.not_true, cond_false]
  refine ex_call_to (spec_l1In.md a1 0 (IntKind.i64.wrap (a2 - 1))) (by have := impl_InRange.R_eq (a0 := a1) (a1 := 0) (a2 := IntKind.i64.wrap (a2 - 1)) trivial; rw [impl_InRange.br] at this; exact this) ?_
  cases hd : spec_l1In.md a1 0 (IntKind.i64.wrap (a2 - 1))
  · exact ⟨0, rfl⟩
  rw [Go.IntWalk.i64_in _ (by omega)] at hd
  have i2 : 0 ≤ a1 ∧ a1 ≤ a2 - 1 := by simpa [spec_l1In.md] using hd
  exact key 4 a0 a1 a2 a3 H3 (by omega) (by omega) (by omega) (by omega)
theorem valid_ : Valid Tryz.prog Ev 227 con := VV (run := fun n x => start (iter step n) x.1 x.2.1 x.2.2.1 x.2.2.2) mix tab_ok (.cons impl_InRange.valid_ (.cons impl_NodeOf.valid_ .nil)) Tryz.func227 (by kernel_rfl) run_eq (fun _ a _ _ hg => okF a.1 a.2.1 a.2.2.1 a.2.2.2 hg)
theorem br (a0 : Int) (a1 : Int) (a2 : Int) (a3 : List Int) : md a0 a1 a2 a3 = spec_TopFrom.md a0 a1 a2 a3 := by
  unfold md spec_TopFrom.md
  first
  | (simp only [impl_InRange.br, impl_NodeOf.br]; done)
  | (simp only [impl_InRange.br, impl_NodeOf.br]; rfl)
  | rfl
end impl_TopFrom
/-! impl.IsLabel -/
namespace impl_IsLabel
inductive Pt where
  | p0 (a : ByteArray) (b : Int) (c : Int)
def pid : Pt → Nat
  | .p0 .. => 2
def pvs : Pt → List V
  | .p0 a b c => [.str a, .int .i64 b, .int .i64 c]
def phs : Pt → List Root
  | .p0 a b c => []
noncomputable def step (J : Pt → Ans) : Pt → Ans
  | .p0 a b c => (bif (decide (c < b)) then (bif (decide ((0 : Int) ≤ c)) then (bif (decide (c < (a.size : Int))) then (bif (decide ((chAt a (Int.toNat c)) ≥ 97)) then (bif (decide ((chAt a (Int.toNat c)) ≤ 122)) then J (.p0 a b (IntKind.i64.wrap (c + 1))) else (bif (decide ((chAt a (Int.toNat c)) ≥ 48)) then (bif (decide ((chAt a (Int.toNat c)) ≤ 57)) then J (.p0 a b (IntKind.i64.wrap (c + 1))) else (bif ((chAt a (Int.toNat c)) == 45) then (bif (decide (c > 0)) then (bif (!(decide (c < (IntKind.i64.wrap ((a.size : Int) - 1))))) then ret (false : Bool) else J (.p0 a b (IntKind.i64.wrap (c + 1)))) else ret (false : Bool)) else ret (false : Bool))) else (bif ((chAt a (Int.toNat c)) == 45) then (bif (decide (c > 0)) then (bif (!(decide (c < (IntKind.i64.wrap ((a.size : Int) - 1))))) then ret (false : Bool) else J (.p0 a b (IntKind.i64.wrap (c + 1)))) else ret (false : Bool)) else ret (false : Bool)))) else (bif (decide ((chAt a (Int.toNat c)) ≥ 48)) then (bif (decide ((chAt a (Int.toNat c)) ≤ 57)) then J (.p0 a b (IntKind.i64.wrap (c + 1))) else (bif ((chAt a (Int.toNat c)) == 45) then (bif (decide (c > 0)) then (bif (!(decide (c < (IntKind.i64.wrap ((a.size : Int) - 1))))) then ret (false : Bool) else J (.p0 a b (IntKind.i64.wrap (c + 1)))) else ret (false : Bool)) else ret (false : Bool))) else (bif ((chAt a (Int.toNat c)) == 45) then (bif (decide (c > 0)) then (bif (!(decide (c < (IntKind.i64.wrap ((a.size : Int) - 1))))) then ret (false : Bool) else J (.p0 a b (IntKind.i64.wrap (c + 1)))) else ret (false : Bool)) else ret (false : Bool)))) else none) else none) else (call (impl_InRange.R ((a.size : Int), 1, 8)) fun v1 => ret (v1 : Bool)))
noncomputable def start (J : Pt → Ans) (x0 : ByteArray) : Ans := J (.p0 x0 (x0.size : Int) 0)
def live : Nat → Live := fun i => match i with | 2 => [(0, none), (6, none), (7, none)] | _ => []
def pats : List Pat := [.rd (.str)]
def res : RP := .one (.rd (.bool))
noncomputable abbrev E : Env := ⟨assoc Tab, conG [(88, impl_InRange.con)], 47⟩
set_option maxRecDepth 100000
theorem step_eq (I : Heads) (p : Pt) : enterC E live I (pid p) (bodyOf Tryz.f231) (stOf (live (pid p)) (pvs p) (phs p)) (doneK E Tryz.f231 res) = step (fun q => I (pid q) (pvs q) (phs q)) p := by
  cases p <;> kernel_rfl
theorem start_eq (I : Heads) (ls : List L) : runC E live I (bodyOf Tryz.f231) (initS pats ls) (doneK E Tryz.f231 res) = start (fun q => I (pid q) (pvs q) (phs q)) (ls.headD .hole).toStr := by kernel_rfl
theorem run_eq (n : Nat) (ls : List L) : runF E live Tryz.f231 res n (initS pats ls) = start (iter step n) (ls.headD .hole).toStr := runF_iter (id := pid) (vs := pvs) (hs := phs) (step := step) (start := fun J => start J (ls.headD .hole).toStr) step_eq (fun I => start_eq I ls) n
noncomputable def md (a0 : ByteArray) : Bool := (loopM (S := Unit) (β := Bool) (fun (i1 : Nat) (s3 : Unit) => (bif (decide ((chAt a0 i1) ≥ 97)) then (bif (decide ((chAt a0 i1) ≤ 122)) then (.inl ()) else (bif (decide ((chAt a0 i1) ≥ 48)) then (bif (decide ((chAt a0 i1) ≤ 57)) then (.inl ()) else (bif ((chAt a0 i1) == 45) then (bif (decide ((i1 : Int) > 0)) then (bif (!(decide ((i1 : Int) < (IntKind.i64.wrap ((a0.size : Int) - 1))))) then (.inr (false : Bool)) else (.inl ())) else (.inr (false : Bool))) else (.inr (false : Bool)))) else (bif ((chAt a0 i1) == 45) then (bif (decide ((i1 : Int) > 0)) then (bif (!(decide ((i1 : Int) < (IntKind.i64.wrap ((a0.size : Int) - 1))))) then (.inr (false : Bool)) else (.inl ())) else (.inr (false : Bool))) else (.inr (false : Bool))))) else (bif (decide ((chAt a0 i1) ≥ 48)) then (bif (decide ((chAt a0 i1) ≤ 57)) then (.inl ()) else (bif ((chAt a0 i1) == 45) then (bif (decide ((i1 : Int) > 0)) then (bif (!(decide ((i1 : Int) < (IntKind.i64.wrap ((a0.size : Int) - 1))))) then (.inr (false : Bool)) else (.inl ())) else (.inr (false : Bool))) else (.inr (false : Bool)))) else (bif ((chAt a0 i1) == 45) then (bif (decide ((i1 : Int) > 0)) then (bif (!(decide ((i1 : Int) < (IntKind.i64.wrap ((a0.size : Int) - 1))))) then (.inr (false : Bool)) else (.inl ())) else (.inr (false : Bool))) else (.inr (false : Bool)))))) (fun (s3 : Unit) => ((impl_InRange.md (a0.size : Int) 1 8) : Bool)) a0.size 0 ())
def gd (a0 : ByteArray) : Prop := (a0.size ≤ (2 ^ 21))
def acc (ls : List L) : ByteArray := (ls.headD .hole).toStr
noncomputable def R : ByteArray → Option Bool := RR gd md
theorem R_eq {a0} (h : gd a0) : R a0 = some (md a0) := RR_eq (a := a0) h
noncomputable def con : Con := CN pats res acc R
theorem okF (a0 : ByteArray) (hg : gd a0) : ∃ n, start (iter step n) a0 = ret ((md a0) : Bool) := by
  unfold gd at hg
  have H0 := hg
  unfold start md
  try simp only [S0]
  have Bh2 : a0.size ≤ maxLen := (by
      have := H0
      try simp only [maxLen] at *
      omega)
  refine ex_pt (p := Pt.p0 a0 (a0.size : Int) 0) (by first | rfl | (simp only [S0, MP]; done) | (simp only [MP]; rfl)) ?_
  refine loopM_ok (pt := fun (i1 : Nat) (s3 : Unit) => Pt.p0 a0 (a0.size : Int) (i1 : Int)) (s := (() : Unit)) (out := ret) (fun _ _ => True) (fun J i1 s3 h2 hih2 => ?_) (fun s3 hih2 => ?_) trivial
  · simp only [step, S0]
    have bb_ := Bh2
    simp only [maxLen] at bb_
    have := H0
    refine Rnd.yes (by apply decide_eq_true; omega) ?_
    refine Rnd.yes zle_dec ?_
    refine Rnd.yes (lt_dec h2) ?_
    refine Rnd.bif (fun c4 => ?_) (fun c4 => ?_)
    · refine Rnd.bif (fun c5 => ?_) (fun c5 => ?_)
      · refine Rnd.inl trivial ?_
        rw [wrap_succ h2 Bh2]
        all_goals first | rfl | (simp only [S0, MP]; first | done | rfl)
      · refine Rnd.bif (fun c6 => ?_) (fun c6 => ?_)
        · refine Rnd.bif (fun c7 => ?_) (fun c7 => ?_)
          · refine Rnd.inl trivial ?_
            rw [wrap_succ h2 Bh2]
            all_goals first | rfl | (simp only [S0, MP]; first | done | rfl)
          · refine Rnd.bif (fun c8 => ?_) (fun _ => Rnd.inr rfl)
            refine Rnd.bif (fun c9 => ?_) (fun _ => Rnd.inr rfl)
            refine Rnd.bif (fun _ => Rnd.inr rfl) (fun c10 => ?_)
            refine Rnd.inl trivial ?_
            rw [wrap_succ h2 Bh2]
            all_goals first | rfl | (simp only [S0, MP]; first | done | rfl)
        · refine Rnd.bif (fun c11 => ?_) (fun _ => Rnd.inr rfl)
          refine Rnd.bif (fun c12 => ?_) (fun _ => Rnd.inr rfl)
          refine Rnd.bif (fun _ => Rnd.inr rfl) (fun c13 => ?_)
          refine Rnd.inl trivial ?_
          rw [wrap_succ h2 Bh2]
          all_goals first | rfl | (simp only [S0, MP]; first | done | rfl)
    · refine Rnd.bif (fun c14 => ?_) (fun c14 => ?_)
      · refine Rnd.bif (fun c15 => ?_) (fun c15 => ?_)
        · refine Rnd.inl trivial ?_
          rw [wrap_succ h2 Bh2]
          all_goals first | rfl | (simp only [S0, MP]; first | done | rfl)
        · refine Rnd.bif (fun c16 => ?_) (fun _ => Rnd.inr rfl)
          refine Rnd.bif (fun c17 => ?_) (fun _ => Rnd.inr rfl)
          refine Rnd.bif (fun _ => Rnd.inr rfl) (fun c18 => ?_)
          refine Rnd.inl trivial ?_
          rw [wrap_succ h2 Bh2]
          all_goals first | rfl | (simp only [S0, MP]; first | done | rfl)
      · refine Rnd.bif (fun c19 => ?_) (fun _ => Rnd.inr rfl)
        refine Rnd.bif (fun c20 => ?_) (fun _ => Rnd.inr rfl)
        refine Rnd.bif (fun _ => Rnd.inr rfl) (fun c21 => ?_)
        refine Rnd.inl trivial ?_
        rw [wrap_succ h2 Bh2]
        all_goals first | rfl | (simp only [S0, MP]; first | done | rfl)
  · simp only [step, S0]
    have := H0
    refine ex_no (by apply decide_eq_false; omega) ?_
    refine ex_call_to (impl_InRange.md (a0.size : Int) 1 8) (impl_InRange.R_eq (a0 := (a0.size : Int)) (a1 := 1) (a2 := 8) trivial) ?_
    refine ⟨0, ?_⟩
    first | rfl | (simp only [S0, MP]; first | done | rfl)
theorem valid_ : Valid Tryz.prog Ev 231 con := VV (run := fun n x => start (iter step n) x) mix tab_ok (.cons impl_InRange.valid_ .nil) Tryz.func231 (by kernel_rfl) run_eq (fun _ a _ _ hg => okF a hg)
theorem br (a0 : ByteArray) : md a0 = spec_IsLabel.md a0 := by
  unfold md spec_IsLabel.md
  by_cases hl : 1 ≤ a0.size ∧ a0.size ≤ 8
  · have e1 : spec_l1In.md (a0.size : Int) 1 8 = true := by simp [spec_l1In.md]; omega
    simp only [impl_InRange.br, e1]
    have ew : IntKind.i64.wrap ((a0.size : Int) - 1) = ((a0.size - 1 : Nat) : Int) := by
      rw [Go.IntWalk.i64_in _ (by omega)]; omega
    simp only [ew, toNat_nat]
    rw [Bool.eq_iff_iff]
    rw [loopM_true (fun i => (97 ≤ chAt a0 i ∧ chAt a0 i ≤ 122) ∨ (48 ≤ chAt a0 i ∧ chAt a0 i ≤ 57) ∨ (chAt a0 i = 45 ∧ 0 < i ∧ i < a0.size - 1)) (fun i hi h => by simp; grind) (fun i hi h => by simp; grind)]
    have e2 := loopM_true (n := a0.size) (f := fun (i4 : Nat) (s6 : Unit) => (bif (decide ((chAt a0 i4) < 97)) then (bif (decide ((chAt a0 i4) < 48)) then (bif ((chAt a0 i4) != 45) then (.inr (false : Bool)) else (.inl ())) else (bif (decide ((chAt a0 i4) > 57)) then (bif ((chAt a0 i4) != 45) then (.inr (false : Bool)) else (.inl ())) else (.inl ()))) else (bif (decide ((chAt a0 i4) > 122)) then (bif (decide ((chAt a0 i4) < 48)) then (bif ((chAt a0 i4) != 45) then (.inr (false : Bool)) else (.inl ())) else (bif (decide ((chAt a0 i4) > 57)) then (bif ((chAt a0 i4) != 45) then (.inr (false : Bool)) else (.inl ())) else (.inl ()))) else (.inl ())))) (t := fun _ => true)
      (fun i => (97 ≤ chAt a0 i ∧ chAt a0 i ≤ 122) ∨ (48 ≤ chAt a0 i ∧ chAt a0 i ≤ 57) ∨ chAt a0 i = 45) (fun i hi h => by simp; grind) (fun i hi h => by simp; grind)
    have e3 : ∀ b c d : Bool, (bif !true then false else bif b then false else bif c then false else d) = true ↔ b = false ∧ c = false ∧ d = true := by intro b c d; cases b <;> cases c <;> simp
    rw [e3, e2]
    simp only [beq_eq_false_iff_ne, ne_eq, and_true]
    constructor
    · intro h
      refine ⟨fun h0 => ?_, fun h0 => ?_, fun i hi => ?_⟩
      · have := h 0 (by omega); omega
      · have := h (a0.size - 1) (by omega); omega
      · have := h i hi; omega
    · intro ⟨h1, h2, h3⟩ i hi
      have := h3 i hi
      by_cases h0 : i = 0
      · subst h0; omega
      · by_cases h9 : i = a0.size - 1
        · subst h9; omega
        · omega
  · have e1 : spec_l1In.md (a0.size : Int) 1 8 = false := by simp [spec_l1In.md]; omega
    simp only [impl_InRange.br, e1]
    refine loopM_const ?_ _ _ _
    intro i s b h
    revert h
    simp only [Bool.cond_eq_ite]
    repeat' split
    all_goals (intro h; first | (cases h; rfl) | cases h)
end impl_IsLabel
/-! impl.IsPath$1 -/
namespace impl_IsPath_1
noncomputable def F (x0 : ByteArray) : Ans := (call (impl_IsLabel.R x0) fun v1 => ret ((!v1) : Bool))
def pats : List Pat := [.rd (.str)]
def res : RP := .one (.rd (.bool))
noncomputable abbrev E : Env := ⟨assoc Tab, conG [(231, impl_IsLabel.con)], 6⟩
set_option maxRecDepth 100000
theorem run_eq (n : Nat) (ls : List L) : runF E (fun _ => []) Tryz.f267 res n (initS pats ls) = F (ls.headD .hole).toStr := by kernel_rfl
noncomputable def md (a0 : ByteArray) : Bool := ((!(impl_IsLabel.md a0)) : Bool)
def gd (a0 : ByteArray) : Prop := (a0.size ≤ (2 ^ 21))
def acc (ls : List L) : ByteArray := (ls.headD .hole).toStr
noncomputable def R : ByteArray → Option Bool := RR gd md
theorem R_eq {a0} (h : gd a0) : R a0 = some (md a0) := RR_eq (a := a0) h
noncomputable def con : Con := CN pats res acc R
theorem okF (a0 : ByteArray) (hg : gd a0) : F a0 = ret ((md a0) : Bool) := by
  unfold gd at hg
  have H0 := hg
  unfold F md
  try simp only [S0]
  refine call_to (impl_IsLabel.md a0) (impl_IsLabel.R_eq (a0 := a0) H0) ?_
  first | rfl | (simp only [S0, MP]; first | done | rfl)
theorem valid_ : Valid Tryz.prog Ev 267 con := VV (run := fun _ x => F x) mix tab_ok (.cons impl_IsLabel.valid_ .nil) Tryz.func267 (by kernel_rfl) run_eq (fun _ a _ _ hg => ⟨0, okF a hg⟩)
end impl_IsPath_1
/-! slices.IndexFunc[[]string,string] -/
namespace slices_IndexFunc_Sstring_string__impl_IsPath_1
inductive Pt where
  | p0 (a : List (List L)) (b : Int) (c : Int)
def pid : Pt → Nat
  | .p0 .. => 2
def pvs : Pt → List V
  | .p0 a b c => [.sl none 9 a, .fn 267 [], .int .i64 b, .int .i64 c]
def phs : Pt → List Root
  | .p0 a b c => []
noncomputable def step (J : Pt → Ans) : Pt → Ans
  | .p0 a b c => (bif (decide (c < b)) then (bif (decide ((0 : Int) ≤ c)) then (bif (decide (c < (a.length : Int))) then (call (impl_IsPath_1.R (sAt a (Int.toNat c))) fun v1 => (bif v1 then ret (c : Int) else J (.p0 a b (IntKind.i64.wrap (c + 1))))) else none) else none) else ret ((-1) : Int))
noncomputable def start (J : Pt → Ans) (x0 : List (List L)) : Ans := J (.p0 x0 (x0.length : Int) 0)
def live : Nat → Live := fun i => match i with | 2 => [(0, none), (1, none), (7, none), (8, none)] | _ => []
def pats : List Pat := [.rd (.sl 9), .fn 267 []]
def res : RP := .one (.rd (.int .i64))
noncomputable abbrev E : Env := ⟨assoc Tab, conG [(267, impl_IsPath_1.con)], 19⟩
set_option maxRecDepth 100000
theorem step_eq (I : Heads) (p : Pt) : enterC E live I (pid p) (bodyOf Tryz.f275) (stOf (live (pid p)) (pvs p) (phs p)) (doneK E Tryz.f275 res) = step (fun q => I (pid q) (pvs q) (phs q)) p := by
  cases p <;> kernel_rfl
theorem start_eq (I : Heads) (ls : List L) : runC E live I (bodyOf Tryz.f275) (initS pats ls) (doneK E Tryz.f275 res) = start (fun q => I (pid q) (pvs q) (phs q)) (ls.headD .hole).toSl := by kernel_rfl
theorem run_eq (n : Nat) (ls : List L) : runF E live Tryz.f275 res n (initS pats ls) = start (iter step n) (ls.headD .hole).toSl := runF_iter (id := pid) (vs := pvs) (hs := phs) (step := step) (start := fun J => start J (ls.headD .hole).toSl) step_eq (fun I => start_eq I ls) n
noncomputable def md (a0 : List ByteArray) : Int := (eachI (S := Unit) (β := Int) (fun (i1 : Nat) (y1 : ByteArray) (s3 : Unit) => (bif (impl_IsPath_1.md y1) then (.inr ((i1 : Int) : Int)) else (.inl ()))) (fun (s3 : Unit) => ((-1) : Int)) 0 a0 ())
def gd (a0 : List ByteArray) : Prop := (SmL (2 ^ 21) (fun y : ByteArray => y.size ≤ (2 ^ 21)) a0)
def acc (ls : List L) : List (List L) := (ls.headD .hole).toSl
noncomputable def R : (List (List L)) → Option Int := RR gd md
theorem R_eq {a0} (h : gd a0) : R (a0.map sRow) = some (md a0) := RR_eq (a := a0) h
noncomputable def con : Con := CN pats res acc R
theorem okF (a0 : List ByteArray) (hg : gd a0) : ∃ n, start (iter step n) (a0.map sRow) = ret ((md a0) : Int) := by
  unfold gd at hg
  have H0 := hg
  unfold start md
  try simp only [S0]
  have Bh2 : a0.length ≤ maxLen := (by
      have := (H0).1
      try simp only [maxLen] at *
      omega)
  refine ex_eq (out := ret) (loopM_eachI (z := ⟨#[]⟩)) ?_
  refine ex_pt (p := Pt.p0 (a0.map sRow) (a0.length : Int) 0) (by first | rfl | (simp only [S0, MP]; done) | (simp only [MP]; rfl)) ?_
  refine loopM_ok (pt := fun (i1 : Nat) (s3 : Unit) => Pt.p0 (a0.map sRow) (a0.length : Int) (i1 : Int)) (s := (() : Unit)) (out := ret) (fun _ _ => True) (fun J i1 s3 h2 hih2 => ?_) (fun s3 hih2 => ?_) trivial
  · simp only [step, S0]
    have bb_ := Bh2
    simp only [maxLen] at bb_
    have := (H0).1
    refine Rnd.yes (by apply decide_eq_true; omega) ?_
    refine Rnd.yes zle_dec ?_
    refine Rnd.yes (lt_dec h2) ?_
    refine Rnd.call_to (impl_IsPath_1.md (a0.getD i1 ⟨#[]⟩)) (impl_IsPath_1.R_eq (a0 := (a0.getD i1 ⟨#[]⟩)) (SmL.getD (z := ⟨#[]⟩) H0 h2)) ?_
    refine Rnd.bif (fun c4 => ?_) (fun c4 => ?_)
    · refine Rnd.inr ?_
      first | rfl | (simp only [S0, MP]; first | done | rfl)
    · refine Rnd.inl trivial ?_
      rw [wrap_succ h2 Bh2]
      all_goals first | rfl | (simp only [S0, MP]; first | done | rfl)
  · simp only [step, S0]
    have := (H0).1
    refine ex_no (by apply decide_eq_false; omega) ?_
    refine ⟨0, ?_⟩
    first | rfl | (simp only [S0, MP]; first | done | rfl)
theorem valid_ : Valid Tryz.prog Ev 275 con := VV (run := fun n x => start (iter step n) x) mix tab_ok (.cons impl_IsPath_1.valid_ .nil) Tryz.func275 (by kernel_rfl) run_eq (fun _ a _ _ hg => okF a hg)
theorem fa (a0 : List ByteArray) : -1 ≤ md a0 ∧ md a0 < (a0.length : Int) := by
  unfold md
  refine eachI_fa0 ?_ _ _
  all_goals
    intro i x s b h
    revert h
    simp only [Bool.cond_eq_ite]
    repeat' split
    all_goals (intro h; first | (cases h; rfl) | cases h)
theorem idx_eq (a0 : List ByteArray) : md a0 = findI (fun y => impl_IsPath_1.md y) 0 a0 := by
  unfold md
  exact eachI_find
end slices_IndexFunc_Sstring_string__impl_IsPath_1
/-! slices.ContainsFunc[[]string,string] -/
namespace slices_ContainsFunc_Sstring_string__impl_IsPath_1
noncomputable def F (x0 : List (List L)) : Ans := (call (slices_IndexFunc_Sstring_string__impl_IsPath_1.R x0) fun v1 => ret ((decide (v1 ≥ 0)) : Bool))
def pats : List Pat := [.rd (.sl 9), .fn 267 []]
def res : RP := .one (.rd (.bool))
noncomputable abbrev E : Env := ⟨assoc Tab, conG [(275, slices_IndexFunc_Sstring_string__impl_IsPath_1.con)], 9⟩
set_option maxRecDepth 100000
theorem run_eq (n : Nat) (ls : List L) : runF E (fun _ => []) Tryz.f266 res n (initS pats ls) = F (ls.headD .hole).toSl := by kernel_rfl
noncomputable def md (a0 : List ByteArray) : Bool := ((decide ((slices_IndexFunc_Sstring_string__impl_IsPath_1.md a0) ≥ 0)) : Bool)
def gd (a0 : List ByteArray) : Prop := (SmL (2 ^ 21) (fun y : ByteArray => y.size ≤ (2 ^ 21)) a0)
def acc (ls : List L) : List (List L) := (ls.headD .hole).toSl
noncomputable def R : (List (List L)) → Option Bool := RR gd md
theorem R_eq {a0} (h : gd a0) : R (a0.map sRow) = some (md a0) := RR_eq (a := a0) h
noncomputable def con : Con := CN pats res acc R
theorem okF (a0 : List ByteArray) (hg : gd a0) : F (a0.map sRow) = ret ((md a0) : Bool) := by
  unfold gd at hg
  have H0 := hg
  unfold F md
  try simp only [S0]
  refine call_to (slices_IndexFunc_Sstring_string__impl_IsPath_1.md a0) (slices_IndexFunc_Sstring_string__impl_IsPath_1.R_eq (a0 := a0) H0) ?_
  have fv1_ := slices_IndexFunc_Sstring_string__impl_IsPath_1.fa a0
  first | rfl | (simp only [S0, MP]; first | done | rfl)
theorem valid_ : Valid Tryz.prog Ev 266 con := VV (run := fun _ x => F x) mix tab_ok (.cons slices_IndexFunc_Sstring_string__impl_IsPath_1.valid_ .nil) Tryz.func266 (by kernel_rfl) run_eq (fun _ a _ _ hg => ⟨0, okF a hg⟩)
theorem any_eq (a0 : List ByteArray) : md a0 = a0.any (fun y => impl_IsPath_1.md y) := by
  unfold md
  rw [slices_IndexFunc_Sstring_string__impl_IsPath_1.idx_eq]
  exact findI_ge
end slices_ContainsFunc_Sstring_string__impl_IsPath_1
/-! impl.IsPath -/
namespace impl_IsPath
noncomputable def F (x0 : List (List L)) : Ans := (call (impl_InRange.R ((x0.length : Int), 1, 4)) fun v1 => (bif v1 then (call (slices_ContainsFunc_Sstring_string__impl_IsPath_1.R x0) fun v2 => ret ((!v2) : Bool)) else ret (false : Bool)))
def pats : List Pat := [.rd (.sl 9)]
def res : RP := .one (.rd (.bool))
noncomputable abbrev E : Env := ⟨assoc Tab, conG [(88, impl_InRange.con), (266, slices_ContainsFunc_Sstring_string__impl_IsPath_1.con)], 11⟩
set_option maxRecDepth 100000
theorem run_eq (n : Nat) (ls : List L) : runF E (fun _ => []) Tryz.f254 res n (initS pats ls) = F (ls.headD .hole).toSl := by kernel_rfl
noncomputable def md (a0 : List ByteArray) : Bool := (bif (impl_InRange.md (a0.length : Int) 1 4) then ((!(slices_ContainsFunc_Sstring_string__impl_IsPath_1.md a0)) : Bool) else (false : Bool))
def gd (a0 : List ByteArray) : Prop := (SmL (2 ^ 21) (fun y : ByteArray => y.size ≤ (2 ^ 21)) a0)
def acc (ls : List L) : List (List L) := (ls.headD .hole).toSl
noncomputable def R : (List (List L)) → Option Bool := RR gd md
theorem R_eq {a0} (h : gd a0) : R (a0.map sRow) = some (md a0) := RR_eq (a := a0) h
noncomputable def con : Con := CN pats res acc R
theorem okF (a0 : List ByteArray) (hg : gd a0) : F (a0.map sRow) = ret ((md a0) : Bool) := by
  unfold gd at hg
  have H0 := hg
  unfold F md
  try simp only [S0]
  refine call_to (impl_InRange.md (a0.length : Int) 1 4) (impl_InRange.R_eq (a0 := (a0.length : Int)) (a1 := 1) (a2 := 4) trivial) ?_
  refine bif_out ret (fun c1 => ?_) (fun _ => rfl)
  refine call_to (slices_ContainsFunc_Sstring_string__impl_IsPath_1.md a0) (slices_ContainsFunc_Sstring_string__impl_IsPath_1.R_eq (a0 := a0) H0) ?_
  first | rfl | (simp only [S0, MP]; first | done | rfl)
theorem valid_ : Valid Tryz.prog Ev 254 con := VV (run := fun _ x => F x) mix tab_ok (.cons impl_InRange.valid_ (.cons slices_ContainsFunc_Sstring_string__impl_IsPath_1.valid_ .nil)) Tryz.func254 (by kernel_rfl) run_eq (fun _ a _ _ hg => ⟨0, okF a hg⟩)
theorem br (a0 : List ByteArray) : md a0 = spec_IsPath.md a0 := by
  unfold md spec_IsPath.md
  rw [slices_ContainsFunc_Sstring_string__impl_IsPath_1.any_eq]
  have e := eachM_any (p := fun y => !(spec_IsLabel.md y)) (b := false) (c := spec_l1In.md (a0.length : Int) 1 4) (xs := a0) (s := ())
  refine Eq.trans ?_ e.symm
  simp only [impl_IsPath_1.md, impl_IsLabel.br, impl_InRange.br]
  cases a0.any (fun y => !(spec_IsLabel.md y)) <;> cases spec_l1In.md (a0.length : Int) 1 4 <;> rfl
end impl_IsPath
/-! impl.IsEntry -/
namespace impl_IsEntry
noncomputable def F (x0 : REntry) : Ans := (call (impl_IsLabel.R x0.fLabel) fun v1 => (bif (!v1) then ret (false : Bool) else (bif (x0.fKind == 1) then (call (impl_InRange.R (x0.fValue, 0, 999999)) fun v2 => (bif v2 then ret (((x0.fPath.length : Int) == 0) : Bool) else ret (false : Bool))) else (bif (x0.fKind == 2) then (call (impl_isDigest.R x0.fValue) fun v3 => (bif v3 then ret (((x0.fPath.length : Int) == 0) : Bool) else ret (false : Bool))) else (bif (x0.fKind == 3) then (call (impl_isDigest.R x0.fValue) fun v4 => (bif v4 then (call (impl_IsPath.R x0.fPath) fun v5 => ret (v5 : Bool)) else ret (false : Bool))) else ret (false : Bool))))))
def pats : List Pat := [.agg [.str, .int .i64, .int .i64, .sl 9]]
def res : RP := .one (.rd (.bool))
noncomputable abbrev E : Env := ⟨assoc Tab, conG [(231, impl_IsLabel.con), (88, impl_InRange.con), (195, impl_isDigest.con), (254, impl_IsPath.con)], 41⟩
set_option maxRecDepth 100000
theorem run_eq (n : Nat) (ls : List L) : runF E (fun _ => []) Tryz.f229 res n (initS pats ls) = F (REntry.dec ls) := by kernel_rfl
noncomputable def md (a0 : MEntry) : Bool := (bif (!(impl_IsLabel.md a0.fLabel)) then (false : Bool) else (bif (a0.fKind == 1) then (bif (impl_InRange.md a0.fValue 0 999999) then (((a0.fPath.length : Int) == 0) : Bool) else (false : Bool)) else (bif (a0.fKind == 2) then (bif (impl_isDigest.md a0.fValue) then (((a0.fPath.length : Int) == 0) : Bool) else (false : Bool)) else (bif (a0.fKind == 3) then (bif (impl_isDigest.md a0.fValue) then ((impl_IsPath.md a0.fPath) : Bool) else (false : Bool)) else (false : Bool)))))
def gd (a0 : MEntry) : Prop := (MEntry.Sm (2 ^ 21) a0)
def acc (ls : List L) : REntry := (REntry.dec ls)
noncomputable def R : REntry → Option Bool := RR gd md
theorem R_eq {a0} (h : gd a0) : R (MEntry.r a0) = some (md a0) := RR_eq (a := a0) h
noncomputable def con : Con := CN pats res acc R
theorem okF (a0 : MEntry) (hg : gd a0) : F (MEntry.r a0) = ret ((md a0) : Bool) := by
  unfold gd at hg
  have H0 := hg
  unfold F md
  try simp only [S0, MEntry.rs]
  refine call_to (impl_IsLabel.md a0.fLabel) (impl_IsLabel.R_eq (a0 := a0.fLabel) H0.1) ?_
  refine bif_out ret (fun _ => rfl) (fun c1 => ?_)
  refine bif_out ret (fun c2 => ?_) (fun c2 => ?_)
  · refine call_to (impl_InRange.md a0.fValue 0 999999) (impl_InRange.R_eq (a0 := a0.fValue) (a1 := 0) (a2 := 999999) trivial) ?_
    refine bif_out ret (fun c3 => ?_) (fun _ => rfl)
    first | rfl | (simp only [S0, MEntry.rs, MP]; first | done | rfl)
  · refine bif_out ret (fun c4 => ?_) (fun c4 => ?_)
    · refine call_to (impl_isDigest.md a0.fValue) (impl_isDigest.R_eq (a0 := a0.fValue) trivial) ?_
      refine bif_out ret (fun c5 => ?_) (fun _ => rfl)
      first | rfl | (simp only [S0, MEntry.rs, MP]; first | done | rfl)
    · refine bif_out ret (fun c6 => ?_) (fun _ => rfl)
      refine call_to (impl_isDigest.md a0.fValue) (impl_isDigest.R_eq (a0 := a0.fValue) trivial) ?_
      refine bif_out ret (fun c7 => ?_) (fun _ => rfl)
      refine call_to (impl_IsPath.md a0.fPath) (impl_IsPath.R_eq (a0 := a0.fPath) H0.2) ?_
      first | rfl | (simp only [S0, MEntry.rs, MP]; first | done | rfl)
theorem valid_ : Valid Tryz.prog Ev 229 con := VV (run := fun _ x => F x) mix tab_ok (.cons impl_IsLabel.valid_ (.cons impl_InRange.valid_ (.cons impl_isDigest.valid_ (.cons impl_IsPath.valid_ .nil)))) Tryz.func229 (by kernel_rfl) run_eq (fun _ a _ _ hg => ⟨0, okF a hg⟩)
theorem br (a0 : MEntry) : md a0 = spec_IsEntry.md a0 := by
  unfold md spec_IsEntry.md
  simp only [impl_IsLabel.br, impl_InRange.br, impl_isDigest.md, impl_IsPath.br]
  cases spec_IsLabel.md a0.fLabel <;> simp
end impl_IsEntry
/-! impl.rootFrom -/
namespace impl_rootFrom
noncomputable def F (x0 : Int) (x1 : Int) : Ans := (call (impl_hash.R [[L.int 231], [L.int x0], [L.int x1]]) fun v1 => ret (v1 : Int))
def pats : List Pat := [.rd (.int .i64), .rd (.int .i64)]
def res : RP := .one (.rd (.int .i64))
noncomputable abbrev E : Env := ⟨assoc Tab, conG [(255, impl_hash.con)], 9⟩
set_option maxRecDepth 100000
theorem run_eq (n : Nat) (ls : List L) : runF E (fun _ => []) Tryz.f230 res n (initS pats ls) = F (ls.headD .hole).toInt ((dropT 1 ls).headD .hole).toInt := by kernel_rfl
noncomputable def md (a0 : Int) (a1 : Int) : Int := ((impl_hash.md [231, a0, a1]) : Int)
def gd (a0 : Int) (a1 : Int) : Prop := True
def acc (ls : List L) : Int × Int := ((ls.headD .hole).toInt, ((dropT 1 ls).headD .hole).toInt)
noncomputable def R : (Int × Int) → Option Int := RR (p2 gd) (u2 md)
theorem R_eq {a0} {a1} (h : gd a0 a1) : R (a0, a1) = some (md a0 a1) := RR_eq (a := (a0, a1)) h
noncomputable def con : Con := CN pats res acc R
theorem okF (a0 : Int) (a1 : Int) (hg : gd a0 a1) : F a0 a1 = ret ((md a0 a1) : Int) := by
  unfold F md
  try simp only [S0]
  refine call_to (impl_hash.md [231, a0, a1]) ?_ ?_
  · have R_ := impl_hash.R_eq (a0 := [231, a0, a1]) ⟨(by
        try simp (disch := omega) only [LN, wi]
        first | omega | (simp; done) | (simp; omega)), fun _ _ => trivial⟩
    first | exact R_ | (simp only [MP, S0] at R_ ⊢; first | exact R_ | (rw [← R_]; rfl))
  first | rfl | (simp only [S0, MP]; first | done | rfl)
theorem valid_ : Valid Tryz.prog Ev 230 con := VV (run := fun _ x => F x.1 x.2) mix tab_ok (.cons impl_hash.valid_ .nil) Tryz.func230 (by kernel_rfl) run_eq (fun _ a _ _ hg => ⟨0, okF a.1 a.2 hg⟩)
theorem br (a0 : Int) (a1 : Int) : md a0 a1 = spec_l10Root.md a0 a1 := by
  unfold md spec_l10Root.md
  first
  | (simp only [impl_hash.br]; done)
  | (simp only [impl_hash.br]; rfl)
  | rfl
end impl_rootFrom
/-! impl.CheckEntry -/
namespace impl_CheckEntry
noncomputable def F (x0 : Int) (x1 : Int) (x2 : REntry) (x3 : RProof) : Ans := (call (impl_LeafOf.R x2) fun v1 => (call (impl_TopFrom.R (v1, x3.fAt, x1, x3.fPath)) fun v2 => (bif v2.2 then (call (impl_IsEntry.R x2) fun v3 => (bif v3 then (call (impl_rootFrom.R (x1, v2.1)) fun v4 => ret ((v4 == x0) : Bool)) else ret (false : Bool))) else ret (false : Bool))))
def pats : List Pat := [.rd (.int .i64), .rd (.int .i64), .agg [.str, .int .i64, .int .i64, .sl 9], .agg [.int .i64, .sl 3]]
def res : RP := .one (.rd (.bool))
noncomputable abbrev E : Env := ⟨assoc Tab, conG [(228, impl_LeafOf.con), (227, impl_TopFrom.con), (229, impl_IsEntry.con), (230, impl_rootFrom.con)], 34⟩
set_option maxRecDepth 100000
theorem run_eq (n : Nat) (ls : List L) : runF E (fun _ => []) Tryz.f179 res n (initS pats ls) = F (ls.headD .hole).toInt ((dropT 1 ls).headD .hole).toInt (REntry.dec (dropT 2 ls)) (RProof.dec (dropT 6 ls)) := by kernel_rfl
noncomputable def md (a0 : Int) (a1 : Int) (a2 : MEntry) (a3 : MProof) : Bool := (bif (impl_TopFrom.md (impl_LeafOf.md a2) a3.fAt a1 a3.fPath).2 then (bif (impl_IsEntry.md a2) then (((impl_rootFrom.md a1 ((impl_TopFrom.md (impl_LeafOf.md a2) a3.fAt a1 a3.fPath).1)) == a0) : Bool) else (false : Bool)) else (false : Bool))
def gd (a0 : Int) (a1 : Int) (a2 : MEntry) (a3 : MProof) : Prop := (MEntry.Sm (2 ^ 21) a2) ∧ (MProof.Sm (2 ^ 21) a3)
def acc (ls : List L) : Int × Int × REntry × RProof := ((ls.headD .hole).toInt, ((dropT 1 ls).headD .hole).toInt, (REntry.dec (dropT 2 ls)), (RProof.dec (dropT 6 ls)))
noncomputable def R : (Int × Int × REntry × RProof) → Option Bool := RR (p4 gd) (u4 md)
theorem R_eq {a0} {a1} {a2} {a3} (h : gd a0 a1 a2 a3) : R (a0, a1, (MEntry.r a2), (MProof.r a3)) = some (md a0 a1 a2 a3) := RR_eq (a := (a0, a1, a2, a3)) h
noncomputable def con : Con := CN pats res acc R
theorem okF (a0 : Int) (a1 : Int) (a2 : MEntry) (a3 : MProof) (hg : gd a0 a1 a2 a3) : F a0 a1 (MEntry.r a2) (MProof.r a3) = ret ((md a0 a1 a2 a3) : Bool) := by
  unfold gd at hg
  obtain ⟨H2, H3⟩ := hg
  unfold F md
  try simp only [S0, MEntry.rs, MProof.rs]
  refine call_to (impl_LeafOf.md a2) (impl_LeafOf.R_eq (a0 := a2) H2) ?_
  refine call_to ((impl_TopFrom.md (impl_LeafOf.md a2) a3.fAt a1 a3.fPath).1, (impl_TopFrom.md (impl_LeafOf.md a2) a3.fAt a1 a3.fPath).2) (impl_TopFrom.R_eq (a0 := (impl_LeafOf.md a2)) (a1 := a3.fAt) (a2 := a1) (a3 := a3.fPath) (H3.mono (by decide) (fun x hx => trivial))) ?_
  refine bif_out ret (fun c1 => ?_) (fun _ => rfl)
  refine call_to (impl_IsEntry.md a2) (impl_IsEntry.R_eq (a0 := a2) H2) ?_
  refine bif_out ret (fun c2 => ?_) (fun _ => rfl)
  refine call_to (impl_rootFrom.md a1 ((impl_TopFrom.md (impl_LeafOf.md a2) a3.fAt a1 a3.fPath).1)) (impl_rootFrom.R_eq (a0 := a1) (a1 := (impl_TopFrom.md (impl_LeafOf.md a2) a3.fAt a1 a3.fPath).1) trivial) ?_
  first | rfl | (simp only [S0, MEntry.rs, MProof.rs, MP]; first | done | rfl)
theorem valid_ : Valid Tryz.prog Ev 179 con := VV (run := fun _ x => F x.1 x.2.1 x.2.2.1 x.2.2.2) mix tab_ok (.cons impl_LeafOf.valid_ (.cons impl_TopFrom.valid_ (.cons impl_IsEntry.valid_ (.cons impl_rootFrom.valid_ .nil)))) Tryz.func179 (by kernel_rfl) run_eq (fun _ a _ _ hg => ⟨0, okF a.1 a.2.1 a.2.2.1 a.2.2.2 hg⟩)
theorem br (a0 : Int) (a1 : Int) (a2 : MEntry) (a3 : MProof) : md a0 a1 a2 a3 = spec_CheckEntry.md a0 a1 a2 a3 := by
  unfold md spec_CheckEntry.md
  simp only [impl_TopFrom.br, impl_LeafOf.br, impl_IsEntry.br, impl_rootFrom.br]
  cases spec_IsEntry.md a2 <;> cases (spec_TopFrom.md (spec_LeafOf.md a2) a3.fAt a1 a3.fPath).2 <;> rfl
end impl_CheckEntry
/-! slices.Equal[[]string,string] -/
namespace slices_Equal_Sstring_string
inductive Pt where
  | p0 (a : List (List L)) (b : List (List L)) (c : Int) (d : Int)
def pid : Pt → Nat
  | .p0 .. => 4
def pvs : Pt → List V
  | .p0 a b c d => [.sl none 9 a, .sl none 9 b, .int .i64 c, .int .i64 d]
def phs : Pt → List Root
  | .p0 a b c d => []
noncomputable def step (J : Pt → Ans) : Pt → Ans
  | .p0 a b c d => (bif (decide (d < c)) then (bif (decide ((0 : Int) ≤ d)) then (bif (decide (d < (a.length : Int))) then (bif (decide ((0 : Int) ≤ d)) then (bif (decide (d < (b.length : Int))) then (bif (!((sAt a (Int.toNat d)) == (sAt b (Int.toNat d)))) then ret (false : Bool) else J (.p0 a b c (IntKind.i64.wrap (d + 1)))) else none) else none) else none) else none) else ret (true : Bool))
noncomputable def start (J : Pt → Ans) (x0 : List (List L)) (x1 : List (List L)) : Ans := (bif ((x0.length : Int) != (x1.length : Int)) then ret (false : Bool) else J (.p0 x0 x1 (x0.length : Int) 0))
def live : Nat → Live := fun i => match i with | 4 => [(0, none), (1, none), (12, none), (13, none)] | _ => []
def pats : List Pat := [.rd (.sl 9), .rd (.sl 9)]
def res : RP := .one (.rd (.bool))
noncomputable abbrev E : Env := ⟨assoc Tab, conG [], 26⟩
set_option maxRecDepth 100000
theorem step_eq (I : Heads) (p : Pt) : enterC E live I (pid p) (bodyOf Tryz.f160) (stOf (live (pid p)) (pvs p) (phs p)) (doneK E Tryz.f160 res) = step (fun q => I (pid q) (pvs q) (phs q)) p := by
  cases p <;> kernel_rfl
theorem start_eq (I : Heads) (ls : List L) : runC E live I (bodyOf Tryz.f160) (initS pats ls) (doneK E Tryz.f160 res) = start (fun q => I (pid q) (pvs q) (phs q)) (ls.headD .hole).toSl ((dropT 1 ls).headD .hole).toSl := by kernel_rfl
theorem run_eq (n : Nat) (ls : List L) : runF E live Tryz.f160 res n (initS pats ls) = start (iter step n) (ls.headD .hole).toSl ((dropT 1 ls).headD .hole).toSl := runF_iter (id := pid) (vs := pvs) (hs := phs) (step := step) (start := fun J => start J (ls.headD .hole).toSl ((dropT 1 ls).headD .hole).toSl) step_eq (fun I => start_eq I ls) n
noncomputable def md (a0 : List ByteArray) (a1 : List ByteArray) : Bool := (bif ((a0.length : Int) != (a1.length : Int)) then (false : Bool) else (loopM (S := Unit) (β := Bool) (fun (i2 : Nat) (s4 : Unit) => (bif (!((a0.getD i2 ⟨#[]⟩) == (a1.getD i2 ⟨#[]⟩))) then (.inr (false : Bool)) else (.inl ()))) (fun (s4 : Unit) => (true : Bool)) a0.length 0 ()))
def gd (a0 : List ByteArray) (a1 : List ByteArray) : Prop := (SmL (2 ^ 21) (fun y : ByteArray => y.size ≤ (2 ^ 21)) a0) ∧ (SmL (2 ^ 21) (fun y : ByteArray => y.size ≤ (2 ^ 21)) a1)
def acc (ls : List L) : List (List L) × List (List L) := ((ls.headD .hole).toSl, ((dropT 1 ls).headD .hole).toSl)
noncomputable def R : (List (List L) × List (List L)) → Option Bool := RR (p2 gd) (u2 md)
theorem R_eq {a0} {a1} (h : gd a0 a1) : R ((a0.map sRow), (a1.map sRow)) = some (md a0 a1) := RR_eq (a := (a0, a1)) h
noncomputable def con : Con := CN pats res acc R
theorem okF (a0 : List ByteArray) (a1 : List ByteArray) (hg : gd a0 a1) : ∃ n, start (iter step n) (a0.map sRow) (a1.map sRow) = ret ((md a0 a1) : Bool) := by
  unfold gd at hg
  obtain ⟨H0, H1⟩ := hg
  unfold start md
  try simp only [S0]
  refine ex_bif ret (fun _ => ⟨0, rfl⟩) (fun c1 => ?_)
  have dc1 := c1
  try simp only [DC] at dc1
  have Bh3 : a0.length ≤ maxLen := (by
      have := (H0).1
      try simp only [maxLen] at *
      omega)
  refine ex_pt (p := Pt.p0 (a0.map sRow) (a1.map sRow) (a0.length : Int) 0) (by first | rfl | (simp only [S0, MP]; done) | (simp only [MP]; rfl)) ?_
  refine loopM_ok (pt := fun (i2 : Nat) (s4 : Unit) => Pt.p0 (a0.map sRow) (a1.map sRow) (a0.length : Int) (i2 : Int)) (s := (() : Unit)) (out := ret) (fun _ _ => True) (fun J i2 s4 h3 hih3 => ?_) (fun s4 hih3 => ?_) trivial
  · simp only [step, S0]
    have bb_ := Bh3
    simp only [maxLen] at bb_
    have := (H0).1
    refine Rnd.yes (by apply decide_eq_true; omega) ?_
    refine Rnd.yes zle_dec ?_
    refine Rnd.yes (lt_dec h3) ?_
    refine Rnd.yes zle_dec ?_
    refine Rnd.yes (by
        have := (H1).1
        refine decide_eq_true ?_
        try simp (disch := omega) only [LN, wi]
        first | omega | (simp; done) | (simp; omega)) ?_
    refine Rnd.bif (fun _ => Rnd.inr rfl) (fun c5 => ?_)
    refine Rnd.inl trivial ?_
    rw [wrap_succ h3 Bh3]
    all_goals first | rfl | (simp only [S0, MP]; first | done | rfl)
  · simp only [step, S0]
    have := (H0).1
    refine ex_no (by apply decide_eq_false; omega) ?_
    refine ⟨0, ?_⟩
    first | rfl | (simp only [S0, MP]; first | done | rfl)
theorem valid_ : Valid Tryz.prog Ev 160 con := VV (run := fun n x => start (iter step n) x.1 x.2) mix tab_ok .nil Tryz.func160 (by kernel_rfl) run_eq (fun _ a _ _ hg => okF a.1 a.2 hg)
theorem md_eq (a0 : List ByteArray) (a1 : List ByteArray) : md a0 a1 = eqB a0 a1 := by
  unfold md
  refine loop_eqB (⟨#[]⟩) (fun i s h h2 => ?_) (fun s => rfl)
  simp only [bne, int_beq, bool_beq, ba_beq]
  cases eqB _ _ <;> rfl
end slices_Equal_Sstring_string
end Go.DM
