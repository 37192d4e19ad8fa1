/- What the functions compute that the law reaches, and that the law returns true. Conditions: none. -/
import Derived.Test.YtfghhicdmjiaaaaGreatLearnTy
import Derived.Test.YtfghhicdmjiaaaaGreatLearnFnA
import Derived.Test.YtfghhicdmjiaaaaGreatProg
import Derived.Lib.AppendZerosOnto
import Derived.Lib.Bytealg
import Derived.Laws.Externs
import Derived.Lib.Walk
import Derived.Lib.Hide
import Derived.Lib.Strings
set_option linter.all false
set_option maxRecDepth 100000
noncomputable section
namespace Go.DM
open Go.Proofs
namespace Z82
set_option maxHeartbeats 1000000 in
set_option maxRecDepth 100000 in
open Go.RowKit in
theorem calls0 (b : Option Addr) (w : World) : Calls Tryz.prog 246 #[.slice b 0 0, .int .i64 0] w fun e w' => e = .returned (.slice b 0 0) ∧ w' = w := by
 go_enter Tryz.func246, Tryz.ntmps246
 go_wp2
 go_ret
 exact ⟨rfl, rfl⟩
theorem size3 : Tryz.t3.size = 1 := by kernel_rfl
theorem bytes3 : Tryz.t3.bytes = 8 := by kernel_rfl
set_option maxHeartbeats 1000000 in
set_option maxRecDepth 100000 in
open Go.RowKit in
theorem calls1 (b : Option Addr) (n : Nat) (w : World) (h0 : 0 < n) (h1 : n * 8 ≤ 140737488355328) : Calls Tryz.prog 246 #[.slice b 0 0, .int .i64 n] w fun e w' => e = .returned (.slice (some ⟨w.heap.size, 0, none⟩) 0 (grownCap w n 0 3)) ∧ w' = (w.drew.alloc (.cells (Builtin.zeroCells #[.int .i64 0] n ++ Builtin.zeroCells #[.int .i64 0] (grownCap w n 0 3 - n)) 3)) := by
 have hp : (0 : Int) < n := by omega
 have hnn : ¬ ((n : Int) < 0) := by omega
 have hold : (Builtin.firstCells Tryz.t3.size 0 (.slice b 0 0)).run Tryz.prog w.drew = .ok ([] : List Value).toArray w.drew := by
  cases b with
  | none => exact run_firstCells_none _ _ _ _ _
  | some b => exact run_firstCells_some _ _ _ _ _ _ [] (by simp) (fun j v hj => by simp at hj)
 have H := fun ty => Lib.run_append_grow_zeros (P := Tryz.prog) w 33 3 ty 3 Tryz.t3 (.int .i64 0) .i64 .i64 (by kernel_rfl) (by kernel_rfl) (by kernel_rfl) (by kernel_rfl) b 0 0 [] hold n h0 (by rw [size3]; omega) (by omega) (by omega) (by rw [bytes3]; omega) (by
  rw [Nat.zero_add, nextslicecap_zero h0, bytes3]; omega)
 simp only [Nat.zero_add, Array.empty_append] at H
 have H2 := Lib.hid H
 clear H hold
 go_enter Tryz.func246, Tryz.ntmps246
 go_wp2_with (at_builtin; refine Lib.wpList_append_run _ rfl _ _ _ _ rfl _ _ rfl rfl _ _ (H2.out _) ?_)
 go_ret
 exact ⟨rfl, rfl⟩
def R (x0 : Int) : Option (List (List L)) := bif decide (0 ≤ x0) && decide (x0 * 8 ≤ 140737488355328) then some [] else none
theorem R_eq {a0 : Int} (h : 0 ≤ a0 ∧ a0 * 8 ≤ 140737488355328) : R a0 = some [] := by simp [R, h.1, h.2]
def sem : List L → Option (List L)
 | [y0] => (R y0.toInt).map RT.enc
 | _ => none
def con : Con := ⟨[.nil, .rd (.int .i64)], .one (.fr 3), sem⟩
theorem cells3 : Ev.cells 3 = [.int .i64] := by kernel_rfl
theorem valid_ : Valid Tryz.prog Ev 246 con := by
  refine valid_row ⟨Tryz.f246, Tryz.func246, by kernel_rfl, by kernel_rfl⟩ rfl fun ls r w vs Z hs hf => ?_
  simp only [con] at hs
  unfold sem at hs
  split at hs
  · rename_i y
    obtain ⟨v, hv, hq⟩ := map_some hs
    unfold R at hv
    cases hc : (decide (0 ≤ y.toInt) && decide (y.toInt * 8 ≤ 140737488355328)) <;> simp only [hc, cond_true, cond_false] at hv
    · cases hv
    injection hv with hv
    subst hv
    subst hq
    simp only [Bool.and_eq_true, decide_eq_true_eq] at hc
    cases hf with
    | cons h1 ht =>
      cases ht with
      | cons h2 ht =>
        cases ht
        obtain ⟨b, rfl⟩ := (show V0 Ev.cells w (A0 Z w) .nil _ from h1)
        have e2 : _ = Value.int .i64 y.toInt := h2
        subst e2
        obtain ⟨n, hn⟩ : ∃ n : Nat, y.toInt = n := ⟨y.toInt.toNat, by omega⟩
        rw [hn] at hc ⊢
        rcases Nat.eq_zero_or_pos n with h0 | h0
        · subst h0
          exact (calls0 b w).mono fun e w' ⟨h3, h4⟩ => ⟨_, fun _ => False, h3, by rw [h4]; exact Fr.refl _ _, fun b hb => hb.elim, .nil _ _ _ _ rfl⟩
        · refine (calls1 b n w h0 (by omega)).mono fun e w' ⟨h3, h4⟩ => ⟨_, fun b => b = w.heap.size, h3, ?_, fun b hb => ?_, ?_⟩
          · rw [h4]; exact ((Fr.refl w _).drew).alloc _
          · subst hb; rw [h4]; simp
          · have hge := grownCap_ge w n 0 3
            have hle : grownCap w n 0 3 ≤ maxLen := grownCap_le_maxLen w n 0 3 (by simp only [maxLen]; omega)
            rw [h4]
            refine .sl _ 3 0 _ w.heap.size 3 _ _ (fun _ _ => Go.undef) (fun _ _ _ => False) rfl (Nat.zero_le _) hle (heap_alloc_new w.drew _) ?_ rfl (fun _ _ _ h => h.elim) (fun _ _ _ _ _ h => h.elim) (fun i j k hi => by omega) (fun i j k hi => by omega)
            rw [cells3]
            simp only [Array.size_append, size_zeroCells, List.length_singleton]
            simp
            omega
  · cases hs
end Z82
namespace Z83
inductive Pt where
 | p0 (a : List (List L)) (b : Int) (c : List (List L)) (d : Int) (e : Int)
 | p1 (a : List (List L)) (b : Int) (c : Int) (d : List (List L))
def pid : Pt → Nat
 | .p0 .. => 3
 | .p1 .. => 11
def pvs : Pt → List V
 | .p0 a b c d e => [.sl none 33 a, .int .i64 b, .sl none 33 c, .int .i64 d, .int .i64 e]
 | .p1 a b c d => [.own 0, .sl none 33 a, .int .i64 b, .int .i64 c]
def phs : Pt → List Root
 | .p0 a b c d e => []
 | .p1 a b c d => [.row 3 d]
def step (J : Pt → Ans) : Pt → Ans
 | .p0 a b c d e => (bif (decide (e < d)) then (bif (decide ((0 : Int) ≤ e)) then (bif (decide (e < (c.length : Int))) then (bif (decide ((IntKind.i64.wrap (b + ((lAt c (Int.toNat e)).length : Int))) < 0)) then none else J (.p0 a (IntKind.i64.wrap (b + ((lAt c (Int.toNat e)).length : Int))) c d (IntKind.i64.wrap (e + 1)))) else none) else none) else (call (Z82.R b) fun v1 => J (.p1 a (a.length : Int) 0 v1)))
 | .p1 a b c d => (bif (decide (c < b)) then (bif (decide ((0 : Int) ≤ c)) then (bif (decide (c < (a.length : Int))) then (bif (lim (((d.length : Int) + ((lAt a (Int.toNat c)).length : Int)) * 8)) then J (.p1 a b (IntKind.i64.wrap (c + 1)) (d ++ (lAt a (Int.toNat c)))) else none) else none) else none) else ret (d : List (List L)))
def start (J : Pt → Ans) (x0 : List (List L)) : Ans := J (.p0 x0 0 x0 (x0.length : Int) 0)
def live : Nat → Live := fun i => match i with | 3 => [(0, none), (3, none), (9, none), (10, none), (11, none)] | 11 => [(6, none), (25, none), (26, none), (27, none)] | _ => []
def pats : List Pat := [.rd (.sl 33)]
def res : RP := .one (.fr 3)
abbrev E : Env := { T := assoc Tab, G := conG [(246, Z82.con)], nt := 36 }
theorem step_eq (I : Heads) (p : Pt) : enterC E live I (pid p) (bodyOf Tryz.f217) (stOf (live (pid p)) (pvs p) (phs p)) (doneK E Tryz.f217 res) = step (fun q => I (pid q) (pvs q) (phs q)) p := by
 cases p <;> kernel_rfl
theorem start_eq (I : Heads) (ls : List L) : runC E live I (bodyOf Tryz.f217) (initS pats ls) (doneK E Tryz.f217 res) = start (fun q => I (pid q) (pvs q) (phs q)) (ls.headD .hole).toSl := by kernel_rfl
theorem run_eq (n : Nat) (ls : List L) : runF E live Tryz.f217 res n (initS pats ls) = start (iter step n) (ls.headD .hole).toSl := runF_iter (id := pid) (vs := pvs) (hs := phs) (step := step) (start := fun J => start J (ls.headD .hole).toSl) step_eq (fun I => start_eq I ls) n
def md (a0 : List (List Int)) : List Int := a0.flatten
def gd (a0 : List (List Int)) : Prop := a0.length ≤ 8 ∧ ∀ x ∈ a0, x.length ≤ 2 ^ 40
def acc (ls : List L) : List (List L) := (ls.headD .hole).toSl
def R : (List (List L)) → Option (List (List L)) := RR gd md
theorem R_eq {a0} (h : gd a0) : R (a0.map (lRow iRow)) = some ((md a0).map iRow) := RR_eq (a := a0) h
def con : Con := CN pats res acc R
theorem okF (a0 : List (List Int)) (hg : gd a0) : ∃ n, start (iter step n) (a0.map (lRow iRow)) = ret (((md a0).map iRow) : List (List L)) := by
  obtain ⟨hl, hx⟩ := hg
  have hs : ∀ i, i ≤ a0.length → ((a0.take i).map List.length).sum ≤ i * 2 ^ 40 := by
    intro i
    induction i with
    | zero => intro _; simp
    | succ i ih =>
      intro hi
      rw [List.take_succ_eq_append_getElem (by omega)]
      have h1 := hx a0[i] (List.getElem_mem _)
      have h2 := ih (by omega)
      simp only [List.map_append, List.map_cons, List.map_nil, List.sum_append, List.sum_cons, List.sum_nil]
      omega
  have hstep : ∀ i (h : i < a0.length), ((a0.take (i + 1)).map List.length).sum = ((a0.take i).map List.length).sum + a0[i].length := by
    intro i hi
    rw [List.take_succ_eq_append_getElem (by omega)]
    simp only [List.map_append, List.map_cons, List.map_nil, List.sum_append, List.sum_cons, List.sum_nil]
    omega
  have hf : ∀ i, (a0.take i).flatten.length = ((a0.take i).map List.length).sum := fun i => List.length_flatten
  have second : ∀ k i, i + k = a0.length → ∃ n, iter step n (Pt.p1 (a0.map (lRow iRow)) (a0.length : Int) (i : Int) ((a0.take i).flatten.map iRow)) = ret (a0.flatten.map iRow : List (List L)) := by
    intro k
    induction k with
    | zero =>
      intro i hi
      obtain rfl : i = a0.length := by omega
      refine ⟨1, ?_⟩
      show step (iter step 0) (Pt.p1 _ _ _ _) = _
      simp only [step]
      refine no_ret (by simp) ?_
      rw [List.take_length]
    | succ k ih =>
      intro i hi
      obtain ⟨n, hn⟩ := ih (i + 1) (by omega)
      refine ⟨n + 1, ?_⟩
      show step (iter step n) (Pt.p1 _ _ _ _) = _
      have hlt : i < a0.length := by omega
      have b1 := hs (i + 1) (by omega)
      have b2 := hstep i hlt
      simp only [step, List.length_map, toNat_nat, lAt_getD]
      refine yes_ret (by simp; omega) (yes_ret (by simp) (yes_ret (by simp; omega) (yes_ret (lim_t ?_) ?_)))
      · rw [getD_lt hlt, hf]; omega
      · rw [wrap_succ hlt (by simp only [maxLen]; omega), getD_lt hlt, ← List.map_append]
        have e : (a0.take i).flatten ++ a0[i] = (a0.take (i + 1)).flatten := by
          rw [List.take_succ_eq_append_getElem (by omega)]
          simp only [List.flatten_append, List.flatten_cons, List.flatten_nil, List.append_nil]
        rw [e]; exact hn
  have first : ∀ k i, i + k = a0.length → ∃ n, iter step n (Pt.p0 (a0.map (lRow iRow)) ((((a0.take i).map List.length).sum : Nat) : Int) (a0.map (lRow iRow)) (a0.length : Int) (i : Int)) = ret (a0.flatten.map iRow : List (List L)) := by
    intro k
    induction k with
    | zero =>
      intro i hi
      obtain rfl : i = a0.length := by omega
      obtain ⟨n, hn⟩ := second a0.length 0 (by omega)
      refine ⟨n + 1, ?_⟩
      show step (iter step n) (Pt.p0 _ _ _ _ _) = _
      have b1 := hs a0.length (by omega)
      simp only [step]
      refine no_ret (by simp) (call_to [] (Z82.R_eq ⟨by omega, by omega⟩) ?_)
      simpa using hn
    | succ k ih =>
      intro i hi
      obtain ⟨n, hn⟩ := ih (i + 1) (by omega)
      refine ⟨n + 1, ?_⟩
      show step (iter step n) (Pt.p0 _ _ _ _ _) = _
      have hlt : i < a0.length := by omega
      have b1 := hs (i + 1) (by omega)
      have b2 := hstep i hlt
      simp only [step, List.length_map, toNat_nat, lAt_getD, getD_lt hlt]
      have e : IntKind.i64.wrap (((((a0.take i).map List.length).sum : Nat) : Int) + (a0[i].length : Int)) = ((((a0.take (i + 1)).map List.length).sum : Nat) : Int) := by
        rw [Go.IntWalk.i64_in _ (by omega)]; omega
      rw [e]
      refine yes_ret (by simp; omega) (yes_ret (by simp) (yes_ret (by simp; omega) (no_ret (by simp) ?_)))
      rw [wrap_succ hlt (by simp only [maxLen]; omega)]
      exact hn
  unfold md
  obtain ⟨n, hn⟩ := first a0.length 0 (by omega)
  refine ⟨n, ?_⟩
  unfold start
  simpa using hn
theorem valid_ : Valid Tryz.prog Ev 217 con := VV (run := fun n x => start (iter step n) x) mix tab_ok (.cons Z82.valid_ .nil) Tryz.func217 (by kernel_rfl) run_eq (fun _ a _ _ hg => okF a hg)
theorem len (a0 : List (List Int)) : (md a0).length = (a0.map List.length).sum := by simp [md]
end Z83
namespace Z84
def F (x0 : RHead) : Ans := (call (Z77.R x0.fKeys) fun v1 => (call (Z77.R x0.fHeirs) fun v2 => (call (Z77.R x0.fJudge) fun v3 => (call (Z81.R x0.fFrozen) fun v4 => (call (Z83.R [[L.sl [[L.int x0.fZone], [L.int x0.fEpoch], [L.int x0.fKind], [L.int x0.fTime], [L.int x0.fUntil], [L.int x0.fCount], [L.int x0.fRoot], [L.int x0.fPrev]]], [L.sl v1], [L.sl v2], [L.sl [[L.int x0.fWait]]], [L.sl v3], [L.sl [[L.int v4]]]]) fun v5 => ret (v5 : List (List L)))))))
def pats : List Pat := [.agg [.int .i64, .int .i64, .int .i64, .int .i64, .int .i64, .int .i64, .int .i64, .int .i64, .sl 3, .int .i64, .sl 3, .int .i64, .int .i64, .sl 3, .int .i64, .bool]]
def res : RP := .one (.fr 3)
def md (a0 : MHead) : List Int := (Z83.md [[a0.fZone, a0.fEpoch, a0.fKind, a0.fTime, a0.fUntil, a0.fCount, a0.fRoot, a0.fPrev], (Z77.md a0.fKeys), (Z77.md a0.fHeirs), [a0.fWait], (Z77.md a0.fJudge), [(Z81.md a0.fFrozen)]])
def gd (a0 : MHead) : Prop := (MHead.Sm (2 ^ 21) a0)
def acc (ls : List L) : RHead := (RHead.dec ls)
def R : RHead → Option (List (List L)) := RR gd md
theorem R_eq {a0} (h : gd a0) : R (MHead.r a0) = some ((md a0).map iRow) := RR_eq (a := a0) h
def con : Con := CN pats res acc R
theorem okF (a0 : MHead) (hg : gd a0) : F (MHead.r a0) = ret (((md a0).map iRow) : List (List L)) := by
  unfold gd at hg
  have H0 := hg
  unfold F md
  try simp only [S0, MHead.rs]
  refine call_to ((Z77.md a0.fKeys).map iRow) (Z77.R_eq (a0 := a0.fKeys) H0.1) ?_
  try simp only [S0, MHead.rs]
  refine call_to ((Z77.md a0.fHeirs).map iRow) (Z77.R_eq (a0 := a0.fHeirs) H0.2.1) ?_
  try simp only [S0, MHead.rs]
  refine call_to ((Z77.md a0.fJudge).map iRow) (Z77.R_eq (a0 := a0.fJudge) H0.2.2) ?_
  try simp only [S0, MHead.rs]
  refine call_to (Z81.md a0.fFrozen) (Z81.R_eq (a0 := a0.fFrozen) trivial) ?_
  refine call_to ((Z83.md [[a0.fZone, a0.fEpoch, a0.fKind, a0.fTime, a0.fUntil, a0.fCount, a0.fRoot, a0.fPrev], (Z77.md a0.fKeys), (Z77.md a0.fHeirs), [a0.fWait], (Z77.md a0.fJudge), [(Z81.md a0.fFrozen)]]).map iRow) ?_ ?_
  · have R_ := Z83.R_eq (a0 := [[a0.fZone, a0.fEpoch, a0.fKind, a0.fTime, a0.fUntil, a0.fCount, a0.fRoot, a0.fPrev], (Z77.md a0.fKeys), (Z77.md a0.fHeirs), [a0.fWait], (Z77.md a0.fJudge), [(Z81.md a0.fFrozen)]]) ⟨(by simp), (by
        have := Z77.len a0.fKeys
        have := (H0.1).1
        have := Z77.len a0.fHeirs
        have := (H0.2.1).1
        have := Z77.len a0.fJudge
        have := (H0.2.2).1
        intro x_ hx_
        simp only [List.mem_cons, List.not_mem_nil, or_false] at hx_
        rcases hx_ with hx_ | hx_ | hx_ | hx_ | hx_ | hx_
        all_goals (subst hx_; first | omega | (simp only [LN]; omega)))⟩
    first | exact R_ | (simp only [MP, S0, MHead.rs] at R_ ⊢; first | exact R_ | (rw [← R_]; rfl))
  try simp only [S0, MHead.rs]
  all_goals first | rfl | (simp only [S0, MHead.rs]; done) | (simp only [MP]; rfl) | (simp only [S0, MHead.rs, MP]; first | done | rfl)
theorem valid_ : Valid Tryz.prog Ev 194 con := VV (live := fun _ => []) (nt := 38) (run := fun _ x => F x) mix tab_ok (.cons Z77.valid_ (.cons Z81.valid_ (.cons Z83.valid_ .nil))) Tryz.func194 (by kernel_rfl) (fun _ _ => by kernel_rfl) (fun _ a _ _ hg => ⟨0, okF a hg⟩)
theorem len (a0 : MHead) : (md a0).length = 16 + a0.fKeys.fList.length + a0.fHeirs.fList.length + a0.fJudge.fList.length := by unfold md; simp [Z83.md, Z77.len]; omega
theorem br (a0 : MHead) : md a0 = Z35.md a0 := by
 rw [Z35.md_form]
 unfold md Z83.md
 simp only [Z77.br, Z81.md, List.flatten_cons, List.flatten_nil, List.cons_append, List.nil_append, List.append_nil]
end Z84
namespace Z85
def F (x0 : Int) (x1 : List (List L)) : Ans := (call (Z83.R [[L.sl [[L.int x0]]], [L.sl x1], [L.sl [[L.int x0]]]]) fun v1 => (call (Z79.R v1) fun v2 => ret (v2 : Int)))
def pats : List Pat := [.rd (.int .i64), .rd (.sl 3)]
def res : RP := .one (.rd (.int .i64))
def md (a0 : Int) (a1 : List Int) : Int := ((Z79.md (Z83.md [[a0], a1, [a0]])) : Int)
def gd (a0 : Int) (a1 : List Int) : Prop := (SmL (2 ^ 40) (fun y : Int => True) a1)
def acc (ls : List L) : Int × List (List L) := ((ls.headD .hole).toInt, ((dropT 1 ls).headD .hole).toSl)
def R : (Int × List (List L)) → Option Int := RR (p2 gd) (u2 md)
theorem R_eq {a0} {a1} (h : gd a0 a1) : R (a0, (a1.map iRow)) = some (md a0 a1) := RR_eq (a := (a0, a1)) h
def con : Con := CN pats res acc R
theorem okF (a0 : Int) (a1 : List Int) (hg : gd a0 a1) : F a0 (a1.map iRow) = ret ((md a0 a1) : Int) := by
  unfold gd at hg
  have H1 := hg
  unfold F md
  try simp only [S0]
  refine call_to ((Z83.md [[a0], a1, [a0]]).map iRow) ?_ ?_
  · have R_ := Z83.R_eq (a0 := [[a0], a1, [a0]]) ⟨(by simp), (by
        have := (H1).1
        intro x_ hx_
        simp only [List.mem_cons, List.not_mem_nil, or_false] at hx_
        rcases hx_ with hx_ | hx_ | hx_
        all_goals (subst hx_; first | omega | (simp only [LN]; omega)))⟩
    first | exact R_ | (simp only [MP, S0] at R_ ⊢; first | exact R_ | (rw [← R_]; rfl))
  try simp only [S0]
  refine call_to (Z79.md (Z83.md [[a0], a1, [a0]])) (Z79.R_eq (a0 := (Z83.md [[a0], a1, [a0]])) ⟨(by
      have := Z83.len [[a0], a1, [a0]]
      try simp only [LN] at this
      have := (H1).1
      try simp (disch := omega) only [LN, wi]
      first | omega | (simp; done) | (simp; omega)), fun _ _ => trivial⟩) ?_
  all_goals first | rfl | (simp only [S0, MP]; first | done | rfl)
theorem valid_ : Valid Tryz.prog Ev 335 con := VV (live := fun _ => []) (nt := 13) (run := fun _ x => F x.1 x.2) mix tab_ok (.cons Z83.valid_ (.cons Z79.valid_ .nil)) Tryz.func335 (by kernel_rfl) (fun _ _ => by kernel_rfl) (fun _ a _ _ hg => ⟨0, okF a.1 a.2 hg⟩)
theorem br (a0 : Int) (a1 : List Int) : md a0 a1 = Z36.md a0 a1 := by
 unfold md Z36.md
 first
 | (simp only [Z79.br]; done)
 | (simp only [Z79.br]; rfl)
 | rfl
end Z85
namespace Z86
def F (x0 : Int) (x1 : List (List L)) : Ans := (bif (lim (((1 : Int) + (x1.length : Int)) * 8)) then (call (Z85.R (x0, ([[L.int 223]] ++ x1))) fun v1 => ret (v1 : Int)) else none)
def pats : List Pat := [.rd (.int .i64), .rd (.sl 3)]
def res : RP := .one (.rd (.int .i64))
def md (a0 : Int) (a1 : List Int) : Int := ((Z85.md a0 ([223] ++ a1)) : Int)
def gd (a0 : Int) (a1 : List Int) : Prop := (SmL (2 ^ 39) (fun y : Int => True) a1)
def acc (ls : List L) : Int × List (List L) := ((ls.headD .hole).toInt, ((dropT 1 ls).headD .hole).toSl)
def R : (Int × List (List L)) → Option Int := RR (p2 gd) (u2 md)
theorem R_eq {a0} {a1} (h : gd a0 a1) : R (a0, (a1.map iRow)) = some (md a0 a1) := RR_eq (a := (a0, a1)) h
def con : Con := CN pats res acc R
theorem okF (a0 : Int) (a1 : List Int) (hg : gd a0 a1) : F a0 (a1.map iRow) = ret ((md a0 a1) : Int) := by
  unfold gd at hg
  have H1 := hg
  unfold F md
  try simp only [S0]
  refine yes_ret (by
      have := (H1).1
      refine lim_t ?_
      try simp (disch := omega) only [LN, wi]
      first | omega | (simp; done) | (simp; omega)) ?_
  refine call_to (Z85.md a0 ([223] ++ a1)) ?_ ?_
  · have R_ := Z85.R_eq (a0 := a0) (a1 := ([223] ++ a1)) ⟨(by
        have := (H1).1
        try simp (disch := omega) only [LN, wi]
        first | omega | (simp; done) | (simp; omega)), fun _ _ => trivial⟩
    first | exact R_ | (simp only [MP, S0] at R_ ⊢; first | exact R_ | (rw [← R_]; rfl))
  all_goals first | rfl | (simp only [S0, MP]; first | done | rfl)
theorem valid_ : Valid Tryz.prog Ev 334 con := VV (live := fun _ => []) (nt := 10) (run := fun _ x => F x.1 x.2) mix tab_ok (.cons Z85.valid_ .nil) Tryz.func334 (by kernel_rfl) (fun _ _ => by kernel_rfl) (fun _ a _ _ hg => ⟨0, okF a.1 a.2 hg⟩)
theorem br (a0 : Int) (a1 : List Int) : md a0 a1 = Z37.md a0 a1 := by
 unfold md Z37.md
 first
 | (simp only [Z85.br]; done)
 | (simp only [Z85.br]; rfl)
 | rfl
end Z86
namespace Z87
def F (x0 : MSig) (x1 : List (List L)) : Ans := (call (Z71.R x0.fKey) fun v1 => (bif v1 then (call (Z86.R (x0.fKey, x1)) fun v2 => ret ((x0.fTag == v2) : Bool)) else ret (false : Bool)))
def pats : List Pat := [.agg [.int .i64, .int .i64], .rd (.sl 3)]
def res : RP := .one (.rd (.bool))
def md (a0 : MSig) (a1 : List Int) : Bool := (bif (Z71.md a0.fKey) then ((a0.fTag == (Z86.md a0.fKey a1)) : Bool) else (false : Bool))
def gd (a0 : MSig) (a1 : List Int) : Prop := (SmL (2 ^ 38) (fun y : Int => True) a1)
def acc (ls : List L) : MSig × List (List L) := ((MSig.dec ls), ((dropT 2 ls).headD .hole).toSl)
def R : (MSig × List (List L)) → Option Bool := RR (p2 gd) (u2 md)
theorem R_eq {a0} {a1} (h : gd a0 a1) : R (a0, (a1.map iRow)) = some (md a0 a1) := RR_eq (a := (a0, a1)) h
def con : Con := CN pats res acc R
theorem okF (a0 : MSig) (a1 : List Int) (hg : gd a0 a1) : F a0 (a1.map iRow) = ret ((md a0 a1) : Bool) := by
 unfold gd at hg
 have H1 := hg
 unfold F md
 try simp only [S0]
 refine call_to (Z71.md a0.fKey) (Z71.R_eq (a0 := a0.fKey) trivial) ?_
 refine bif_out ret (fun c1 => ?_) (fun _ => rfl)
 refine call_to (Z86.md a0.fKey a1) (Z86.R_eq (a0 := a0.fKey) (a1 := a1) (H1.mono (by decide) (fun x hx => trivial))) ?_
 all_goals first | rfl | (simp only [S0, MP]; first | done | rfl)
theorem valid_ : Valid Tryz.prog Ev 323 con := VV (live := fun _ => []) (nt := 17) (run := fun _ x => F x.1 x.2) mix tab_ok (.cons Z71.valid_ (.cons Z86.valid_ .nil)) Tryz.func323 (by kernel_rfl) (fun _ _ => by kernel_rfl) (fun _ a _ _ hg => ⟨0, okF a.1 a.2 hg⟩)
theorem br (a0 : MSig) (a1 : List Int) : md a0 a1 = Z38.md a0 a1 := by
 unfold md Z38.md
 first
 | (simp only [Z86.br]; done)
 | (simp only [Z86.br]; rfl)
 | rfl
end Z87
namespace Z88
def F (x0 : MSig) (x1 : List L) (x2 : List L) : Ans := (bif (x0.fKey == (iDec x1)) then (call (Z87.R (x0, (lDec x2))) fun v1 => ret (v1 : Bool)) else ret (false : Bool))
def pats : List Pat := [.agg [.int .i64, .int .i64], .ptr [.int .i64], .ptr [.sl 3]]
def res : RP := .one (.rd (.bool))
def md (a0 : MSig) (a1 : Int) (a2 : List Int) : Bool := (bif (a0.fKey == a1) then ((Z87.md a0 a2) : Bool) else (false : Bool))
def gd (a0 : MSig) (a1 : Int) (a2 : List Int) : Prop := (SmL (2 ^ 38) (fun y : Int => True) a2)
def acc (ls : List L) : MSig × Int × List (List L) := ((MSig.dec ls), (iDec (padL 1 (dropT 2 ls))), (lDec (padL 1 (dropT 3 ls))))
def R : (MSig × Int × List (List L)) → Option Bool := RR (p3 gd) (u3 md)
theorem R_eq {a0} {a1} {a2} (h : gd a0 a1 a2) : R (a0, a1, (a2.map iRow)) = some (md a0 a1 a2) := RR_eq (a := (a0, a1, a2)) h
def con : Con := CN pats res acc R
theorem okF (a0 : MSig) (a1 : Int) (a2 : List Int) (p1 : List L) (p2 : List L) (e1 : a1 = (iDec p1)) (e2 : (a2.map iRow) = (lDec p2)) (hg : gd a0 a1 a2) : F a0 p1 p2 = ret ((md a0 a1 a2) : Bool) := by
 unfold gd at hg
 have H2 := hg
 unfold F md
 try simp only [S0, ← e1, ← e2]
 refine bif_out ret (fun c1 => ?_) (fun _ => rfl)
 refine call_to (Z87.md a0 a2) (Z87.R_eq (a0 := a0) (a1 := a2) H2) ?_
 all_goals first | rfl | (simp only [S0, ← e1, ← e2, MP]; first | done | rfl)
theorem okV (ls : List L) (a : MSig × Int × List Int) (e : acc ls = Im.im a) (hg : (p3 gd) a) : ∃ n : Nat, F (MSig.dec ls) (padL 1 (dropT 2 ls)) (padL 1 (dropT 3 ls)) = ret (Im.im ((u3 md) a)) := by
 have e0 : a.1 = (MSig.dec ls) := (congrArg (fun x => x.1) e.symm)
 have hn := okF a.1 a.2.1 a.2.2 (padL 1 (dropT 2 ls)) (padL 1 (dropT 3 ls)) (congrArg (fun x => x.2.1) e.symm) (congrArg (fun x => x.2.2) e.symm) hg
 refine ⟨0, ?_⟩
 rw [← e0]
 exact hn
theorem valid_ : Valid Tryz.prog Ev 322 con := VP (live := fun _ => []) (nt := 14) (accr := fun ls => ((MSig.dec ls), (padL 1 (dropT 2 ls)), (padL 1 (dropT 3 ls)))) (run := fun _ x => F x.1 x.2.1 x.2.2) mix tab_ok (.cons Z87.valid_ .nil) Tryz.func322 (by kernel_rfl) (fun _ _ => by kernel_rfl) (fun ls a _ e hg => okV ls a e hg)
end Z88
namespace Z89
inductive Pt where
 | p0 (a : List (List L)) (b : List L) (c : List L) (d : Int) (e : Int)
def pid : Pt → Nat
 | .p0 .. => 2
def pvs : Pt → List V
 | .p0 a b c d e => [.sl none 184 a, .fn 322 [.cptr none [.int .i64] b 0, .cptr none [.sl 3] c 0], .int .i64 d, .int .i64 e]
def phs : Pt → List Root
 | .p0 a b c d e => []
def step (J : Pt → Ans) : Pt → Ans
 | .p0 a b c d e => (bif (decide (e < d)) then (bif (decide ((0 : Int) ≤ e)) then (bif (decide (e < (a.length : Int))) then (call (Z88.R ((MSig.at a (Int.toNat e)), (iDec b), (lDec c))) fun v1 => (bif v1 then ret (e : Int) else J (.p0 a b c d (IntKind.i64.wrap (e + 1))))) else none) else none) else ret ((-1) : Int))
def start (J : Pt → Ans) (x0 : List (List L)) (x1 : List L) (x2 : List L) : Ans := J (.p0 x0 x1 x2 (x0.length : Int) 0)
def live : Nat → Live := fun i => match i with | 2 => [(0, none), (1, none), (7, none), (8, none)] | _ => []
def pats : List Pat := [.rd (.sl 184), .fn 322 [[.int .i64], [.sl 3]]]
def res : RP := .one (.rd (.int .i64))
abbrev E : Env := { T := assoc Tab, G := conG [(322, Z88.con)], nt := 19 }
theorem step_eq (I : Heads) (p : Pt) : enterC E live I (pid p) (bodyOf Tryz.f333) (stOf (live (pid p)) (pvs p) (phs p)) (doneK E Tryz.f333 res) = step (fun q => I (pid q) (pvs q) (phs q)) p := by
 cases p <;> kernel_rfl
theorem start_eq (I : Heads) (ls : List L) : runC E live I (bodyOf Tryz.f333) (initS pats ls) (doneK E Tryz.f333 res) = start (fun q => I (pid q) (pvs q) (phs q)) (ls.headD .hole).toSl (padL 1 (dropT 1 ls)) (padL 1 (dropT 2 ls)) := by kernel_rfl
theorem run_eq (n : Nat) (ls : List L) : runF E live Tryz.f333 res n (initS pats ls) = start (iter step n) (ls.headD .hole).toSl (padL 1 (dropT 1 ls)) (padL 1 (dropT 2 ls)) := runF_iter (id := pid) (vs := pvs) (hs := phs) (step := step) (start := fun J => start J (ls.headD .hole).toSl (padL 1 (dropT 1 ls)) (padL 1 (dropT 2 ls))) step_eq (fun I => start_eq I ls) n
def md (a0 : List MSig) (a1 : Int) (a2 : List Int) : Int := (eachI (S := Unit) (β := Int) (fun (i1 : Nat) (y1 : MSig) (s3 : Unit) => (bif (Z88.md y1 a1 a2) then (.inr ((i1 : Int) : Int)) else (.inl ()))) (fun (s3 : Unit) => ((-1) : Int)) 0 a0 ())
def gd (a0 : List MSig) (a1 : Int) (a2 : List Int) : Prop := (SmL (2 ^ 21) (fun y : MSig => MSig.Sm (2 ^ 21) y) a0) ∧ (SmL (2 ^ 38) (fun y : Int => True) a2)
def acc (ls : List L) : List (List L) × Int × List (List L) := ((ls.headD .hole).toSl, (iDec (padL 1 (dropT 1 ls))), (lDec (padL 1 (dropT 2 ls))))
def R : (List (List L) × Int × List (List L)) → Option Int := RR (p3 gd) (u3 md)
theorem R_eq {a0} {a1} {a2} (h : gd a0 a1 a2) : R ((a0.map MSig.row), a1, (a2.map iRow)) = some (md a0 a1 a2) := RR_eq (a := (a0, a1, a2)) h
def con : Con := CN pats res acc R
theorem okF (a0 : List MSig) (a1 : Int) (a2 : List Int) (p1 : List L) (p2 : List L) (e1 : a1 = (iDec p1)) (e2 : (a2.map iRow) = (lDec p2)) (hg : gd a0 a1 a2) : ∃ n, start (iter step n) (a0.map MSig.row) p1 p2 = ret ((md a0 a1 a2) : Int) := by
  unfold gd at hg
  obtain ⟨H0, H2⟩ := hg
  unfold start md
  try simp only [S0, MSig.rs, ← e1, ← e2]
  have Bh2 : a0.length ≤ maxLen := (by
      have := (H0).1
      try simp only [maxLen] at *
      omega)
  refine ex_eq (out := ret) (loopM_eachI (z := MSig.zero)) ?_
  refine ex_pt (p := Pt.p0 (a0.map MSig.row) p1 p2 (a0.length : Int) 0) (by first | rfl | (simp only [S0, MSig.rs, ← e1, ← e2, MP]; done) | (simp only [MP]; rfl)) ?_
  refine loopM_ok (pt := fun (i1 : Nat) (s3 : Unit) => Pt.p0 (a0.map MSig.row) p1 p2 (a0.length : Int) (i1 : Int)) (s := (() : Unit)) (out := ret) (fun _ _ => True) (fun J i1 s3 h2 hih2 => ?_) (fun s3 hih2 => ?_) trivial
  · simp only [step, S0, MSig.rs, ← e1, ← e2]
    have bb_ := Bh2
    simp only [maxLen] at bb_
    have := (H0).1
    refine Rnd.yes (by apply decide_eq_true; omega) ?_
    refine Rnd.yes zle_dec ?_
    refine Rnd.yes (lt_dec h2) ?_
    refine Rnd.call_to (Z88.md (a0.getD i1 MSig.zero) a1 a2) (Z88.R_eq (a0 := (a0.getD i1 MSig.zero)) (a1 := a1) (a2 := a2) H2) ?_
    refine Rnd.bif (fun c4 => ?_) (fun c4 => ?_)
    · refine Rnd.inr ?_
      all_goals first | rfl | (simp only [S0, MSig.rs, ← e1, ← e2, MP]; first | done | rfl)
    · refine Rnd.inl trivial ?_
      rw [wrap_succ h2 Bh2]
      all_goals first | rfl | (simp only [S0, MSig.rs, ← e1, ← e2, MP]; first | done | rfl)
  · simp only [step, S0, MSig.rs, ← e1, ← e2]
    have := (H0).1
    refine ex_no (by apply decide_eq_false; omega) ?_
    refine ⟨0, ?_⟩
    all_goals first | rfl | (simp only [S0, MSig.rs, ← e1, ← e2, MP]; first | done | rfl)
theorem okV (ls : List L) (a : List MSig × Int × List Int) (e : acc ls = Im.im a) (hg : (p3 gd) a) : ∃ n : Nat, start (iter step n) ((ls.headD .hole).toSl) (padL 1 (dropT 1 ls)) (padL 1 (dropT 2 ls)) = ret (Im.im ((u3 md) a)) := by
 have e0 : (a.1.map MSig.row) = (ls.headD .hole).toSl := (congrArg (fun x => x.1) e.symm)
 obtain ⟨n, hn⟩ := okF a.1 a.2.1 a.2.2 (padL 1 (dropT 1 ls)) (padL 1 (dropT 2 ls)) (congrArg (fun x => x.2.1) e.symm) (congrArg (fun x => x.2.2) e.symm) hg
 refine ⟨n, ?_⟩
 rw [← e0]
 exact hn
theorem valid_ : Valid Tryz.prog Ev 333 con := VP (accr := fun ls => ((ls.headD .hole).toSl, (padL 1 (dropT 1 ls)), (padL 1 (dropT 2 ls)))) (run := fun n x => start (iter step n) x.1 x.2.1 x.2.2) mix tab_ok (.cons Z88.valid_ .nil) Tryz.func333 (by kernel_rfl) run_eq (fun ls a _ e hg => okV ls a e hg)
theorem fa (a0 : List MSig) (a1 : Int) (a2 : List Int) : -1 ≤ md a0 a1 a2 ∧ md a0 a1 a2 < (a0.length : Int) := by
 unfold md
 refine eachI_fa0 ?_ _ _
 all_goals
  intro i x s b h
  revert h
  simp only [Bool.cond_eq_ite]
  repeat' split
  all_goals (intro h; first | (cases h; rfl) | cases h)
theorem idx_eq (a0 : List MSig) (a1 : Int) (a2 : List Int) : md a0 a1 a2 = findI (fun y => Z88.md y a1 a2) 0 a0 := by
 unfold md
 exact eachI_find
end Z89
namespace Z90
def F (x0 : List (List L)) (x1 : List L) (x2 : List L) : Ans := (call (Z89.R (x0, (iDec x1), (lDec x2))) fun v1 => ret ((decide (v1 ≥ 0)) : Bool))
def pats : List Pat := [.rd (.sl 184), .fn 322 [[.int .i64], [.sl 3]]]
def res : RP := .one (.rd (.bool))
def md (a0 : List MSig) (a1 : Int) (a2 : List Int) : Bool := ((decide ((Z89.md a0 a1 a2) ≥ 0)) : Bool)
def gd (a0 : List MSig) (a1 : Int) (a2 : List Int) : Prop := (SmL (2 ^ 21) (fun y : MSig => MSig.Sm (2 ^ 21) y) a0) ∧ (SmL (2 ^ 38) (fun y : Int => True) a2)
def acc (ls : List L) : List (List L) × Int × List (List L) := ((ls.headD .hole).toSl, (iDec (padL 1 (dropT 1 ls))), (lDec (padL 1 (dropT 2 ls))))
def R : (List (List L) × Int × List (List L)) → Option Bool := RR (p3 gd) (u3 md)
theorem R_eq {a0} {a1} {a2} (h : gd a0 a1 a2) : R ((a0.map MSig.row), a1, (a2.map iRow)) = some (md a0 a1 a2) := RR_eq (a := (a0, a1, a2)) h
def con : Con := CN pats res acc R
theorem okF (a0 : List MSig) (a1 : Int) (a2 : List Int) (p1 : List L) (p2 : List L) (e1 : a1 = (iDec p1)) (e2 : (a2.map iRow) = (lDec p2)) (hg : gd a0 a1 a2) : F (a0.map MSig.row) p1 p2 = ret ((md a0 a1 a2) : Bool) := by
 unfold gd at hg
 obtain ⟨H0, H2⟩ := hg
 unfold F md
 try simp only [S0, ← e1, ← e2]
 refine call_to (Z89.md a0 a1 a2) (Z89.R_eq (a0 := a0) (a1 := a1) (a2 := a2) ⟨H0, H2⟩) ?_
 have fv1_ := Z89.fa a0 a1 a2
 all_goals first | rfl | (simp only [S0, ← e1, ← e2, MP]; first | done | rfl)
theorem okV (ls : List L) (a : List MSig × Int × List Int) (e : acc ls = Im.im a) (hg : (p3 gd) a) : ∃ n : Nat, F ((ls.headD .hole).toSl) (padL 1 (dropT 1 ls)) (padL 1 (dropT 2 ls)) = ret (Im.im ((u3 md) a)) := by
 have e0 : (a.1.map MSig.row) = (ls.headD .hole).toSl := (congrArg (fun x => x.1) e.symm)
 have hn := okF a.1 a.2.1 a.2.2 (padL 1 (dropT 1 ls)) (padL 1 (dropT 2 ls)) (congrArg (fun x => x.2.1) e.symm) (congrArg (fun x => x.2.2) e.symm) hg
 refine ⟨0, ?_⟩
 rw [← e0]
 exact hn
theorem valid_ : Valid Tryz.prog Ev 321 con := VP (live := fun _ => []) (nt := 9) (accr := fun ls => ((ls.headD .hole).toSl, (padL 1 (dropT 1 ls)), (padL 1 (dropT 2 ls)))) (run := fun _ x => F x.1 x.2.1 x.2.2) mix tab_ok (.cons Z89.valid_ .nil) Tryz.func321 (by kernel_rfl) (fun _ _ => by kernel_rfl) (fun ls a _ e hg => okV ls a e hg)
theorem any_eq (a0 : List MSig) (a1 : Int) (a2 : List Int) : md a0 a1 a2 = a0.any (fun y => Z88.md y a1 a2) := by
 unfold md
 rw [Z89.idx_eq]
 exact findI_ge
end Z90
namespace Z91
inductive Pt where
 | p0 (a : List (List L)) (b : Int) (c : List (List L)) (d : Int) (e : Int) (f : List (List L))
def pid : Pt → Nat
 | .p0 .. => 3
def pvs : Pt → List V
 | .p0 a b c d e f => [.sl none 184 a, .bptr 0 0, .int .i64 b, .sl none 3 c, .int .i64 d, .int .i64 e]
def phs : Pt → List Root
 | .p0 a b c d e f => [.box [.sl none 3 f]]
def step (J : Pt → Ans) : Pt → Ans
 | .p0 a b c d e f => (bif (decide (e < d)) then (bif (decide ((0 : Int) ≤ e)) then (bif (decide (e < (c.length : Int))) then (call (Z90.R (a, (iAt c (Int.toNat e)), f)) fun v1 => (bif v1 then J (.p0 a (IntKind.i64.wrap (b + 1)) c d (IntKind.i64.wrap (e + 1)) f) else J (.p0 a b c d (IntKind.i64.wrap (e + 1)) f))) else none) else none) else ret (b : Int))
def start (J : Pt → Ans) (x0 : RKeys) (x1 : List (List L)) (x2 : List (List L)) : Ans := J (.p0 x2 0 x0.fList (x0.fList.length : Int) 0 x1)
def live : Nat → Live := fun i => match i with | 3 => [(2, none), (4, none), (7, none), (11, none), (12, none), (13, none)] | _ => []
def pats : List Pat := [.agg [.sl 3, .int .i64], .rd (.sl 3), .rd (.sl 184)]
def res : RP := .one (.rd (.int .i64))
abbrev E : Env := { T := assoc Tab, G := conG [(321, Z90.con)], nt := 24 }
theorem step_eq (I : Heads) (p : Pt) : enterC E live I (pid p) (bodyOf Tryz.f304) (stOf (live (pid p)) (pvs p) (phs p)) (doneK E Tryz.f304 res) = step (fun q => I (pid q) (pvs q) (phs q)) p := by
 cases p <;> kernel_rfl
theorem start_eq (I : Heads) (ls : List L) : runC E live I (bodyOf Tryz.f304) (initS pats ls) (doneK E Tryz.f304 res) = start (fun q => I (pid q) (pvs q) (phs q)) (RKeys.dec ls) ((dropT 2 ls).headD .hole).toSl ((dropT 3 ls).headD .hole).toSl := by kernel_rfl
theorem run_eq (n : Nat) (ls : List L) : runF E live Tryz.f304 res n (initS pats ls) = start (iter step n) (RKeys.dec ls) ((dropT 2 ls).headD .hole).toSl ((dropT 3 ls).headD .hole).toSl := runF_iter (id := pid) (vs := pvs) (hs := phs) (step := step) (start := fun J => start J (RKeys.dec ls) ((dropT 2 ls).headD .hole).toSl ((dropT 3 ls).headD .hole).toSl) step_eq (fun I => start_eq I ls) n
def md (a0 : MKeys) (a1 : List Int) (a2 : List MSig) : Int := (eachM (S := Int) (β := Int) (fun (y1 : Int) (s3 : Int) => (bif (Z90.md a2 y1 a1) then (.inl (IntKind.i64.wrap (s3 + 1))) else (.inl s3))) (fun (s3 : Int) => (s3 : Int)) a0.fList 0)
def gd (a0 : MKeys) (a1 : List Int) (a2 : List MSig) : Prop := (MKeys.Sm (2 ^ 21) a0) ∧ (SmL (2 ^ 38) (fun y : Int => True) a1) ∧ (SmL (2 ^ 21) (fun y : MSig => MSig.Sm (2 ^ 21) y) a2)
def acc (ls : List L) : RKeys × List (List L) × List (List L) := ((RKeys.dec ls), ((dropT 2 ls).headD .hole).toSl, ((dropT 3 ls).headD .hole).toSl)
def R : (RKeys × List (List L) × List (List L)) → Option Int := RR (p3 gd) (u3 md)
theorem R_eq {a0} {a1} {a2} (h : gd a0 a1 a2) : R ((MKeys.r a0), (a1.map iRow), (a2.map MSig.row)) = some (md a0 a1 a2) := RR_eq (a := (a0, a1, a2)) h
def con : Con := CN pats res acc R
theorem okF (a0 : MKeys) (a1 : List Int) (a2 : List MSig) (hg : gd a0 a1 a2) : ∃ n, start (iter step n) (MKeys.r a0) (a1.map iRow) (a2.map MSig.row) = ret ((md a0 a1 a2) : Int) := by
  unfold gd at hg
  obtain ⟨H0, H1, H2⟩ := hg
  unfold start md
  try simp only [S0, MKeys.rs]
  have Bh2 : a0.fList.length ≤ maxLen := (by
      have := (H0).1
      try simp only [maxLen] at *
      omega)
  refine ex_eq (out := ret) (loopM_eachM (z := 0)) ?_
  refine ex_pt (p := Pt.p0 (a2.map MSig.row) 0 (a0.fList.map iRow) (a0.fList.length : Int) 0 (a1.map iRow)) (by first | rfl | (simp only [S0, MKeys.rs, MP]; done) | (simp only [MP]; rfl)) ?_
  refine loopM_ok (pt := fun (i1 : Nat) (s3 : Int) => Pt.p0 (a2.map MSig.row) s3 (a0.fList.map iRow) (a0.fList.length : Int) (i1 : Int) (a1.map iRow)) (s := (0 : Int)) (out := ret) (fun _ _ => True) (fun J i1 s3 h2 hih2 => ?_) (fun s3 hih2 => ?_) trivial
  · simp only [step, S0, MKeys.rs]
    have bb_ := Bh2
    simp only [maxLen] at bb_
    have := (H0).1
    refine Rnd.yes (by apply decide_eq_true; omega) ?_
    refine Rnd.yes zle_dec ?_
    refine Rnd.yes (lt_dec h2) ?_
    refine Rnd.call_to (Z90.md a2 (a0.fList.getD i1 0) a1) (Z90.R_eq (a0 := a2) (a1 := (a0.fList.getD i1 0)) (a2 := a1) ⟨H2, H1⟩) ?_
    refine Rnd.bif (fun c4 => ?_) (fun c4 => ?_)
    · refine Rnd.inl trivial ?_
      rw [wrap_succ h2 Bh2]
      all_goals first | rfl | (simp only [S0, MKeys.rs, MP]; first | done | rfl)
    · refine Rnd.inl trivial ?_
      rw [wrap_succ h2 Bh2]
      all_goals first | rfl | (simp only [S0, MKeys.rs, MP]; first | done | rfl)
  · simp only [step, S0, MKeys.rs]
    have := (H0).1
    refine ex_no (by apply decide_eq_false; omega) ?_
    refine ⟨0, ?_⟩
    all_goals first | rfl | (simp only [S0, MKeys.rs, MP]; first | done | rfl)
theorem valid_ : Valid Tryz.prog Ev 304 con := VV (run := fun n x => start (iter step n) x.1 x.2.1 x.2.2) mix tab_ok (.cons Z90.valid_ .nil) Tryz.func304 (by kernel_rfl) run_eq (fun _ a _ _ hg => okF a.1 a.2.1 a.2.2 hg)
theorem br (a0 : MKeys) (a1 : List Int) (a2 : List MSig) : md a0 a1 a2 = Z39.md a0 a1 a2 := by
  unfold md Z39.md
  refine eachM_congr (fun x _ s => ?_) (fun s => rfl)
  rw [Z90.any_eq]
  refine Eq.trans ?_ (eachM_any' (β := Int ⊕ Int) (p := fun y => Z88.md y x a1) (b := Sum.inl (IntKind.i64.wrap (s + 1))) (c := Sum.inl s) (fun y s' => ?_) a2 ()).symm
  · cases a2.any (fun y => Z88.md y x a1) <;> rfl
  · unfold Z88.md
    simp only [Z87.br]
    cases y.fKey == x <;> cases Z38.md y a1 <;> rfl
end Z91
namespace Z92
def F (x0 : RKeys) (x1 : List (List L)) (x2 : List (List L)) : Ans := (call (Z72.R x0) fun v1 => (bif v1 then (call (Z91.R (x0, x1, x2)) fun v2 => ret ((decide (v2 ≥ x0.fNeed)) : Bool)) else ret (false : Bool)))
def pats : List Pat := [.agg [.sl 3, .int .i64], .rd (.sl 3), .rd (.sl 184)]
def res : RP := .one (.rd (.bool))
def md (a0 : MKeys) (a1 : List Int) (a2 : List MSig) : Bool := (bif (Z72.md a0) then ((decide ((Z91.md a0 a1 a2) ≥ a0.fNeed)) : Bool) else (false : Bool))
def gd (a0 : MKeys) (a1 : List Int) (a2 : List MSig) : Prop := (MKeys.Sm (2 ^ 21) a0) ∧ (SmL (2 ^ 38) (fun y : Int => True) a1) ∧ (SmL (2 ^ 21) (fun y : MSig => MSig.Sm (2 ^ 21) y) a2)
def acc (ls : List L) : RKeys × List (List L) × List (List L) := ((RKeys.dec ls), ((dropT 2 ls).headD .hole).toSl, ((dropT 3 ls).headD .hole).toSl)
def R : (RKeys × List (List L) × List (List L)) → Option Bool := RR (p3 gd) (u3 md)
theorem R_eq {a0} {a1} {a2} (h : gd a0 a1 a2) : R ((MKeys.r a0), (a1.map iRow), (a2.map MSig.row)) = some (md a0 a1 a2) := RR_eq (a := (a0, a1, a2)) h
def con : Con := CN pats res acc R
theorem okF (a0 : MKeys) (a1 : List Int) (a2 : List MSig) (hg : gd a0 a1 a2) : F (MKeys.r a0) (a1.map iRow) (a2.map MSig.row) = ret ((md a0 a1 a2) : Bool) := by
 unfold gd at hg
 obtain ⟨H0, H1, H2⟩ := hg
 unfold F md
 try simp only [S0, MKeys.rs]
 refine call_to (Z72.md a0) (Z72.R_eq (a0 := a0) H0) ?_
 refine bif_out ret (fun c1 => ?_) (fun _ => rfl)
 refine call_to (Z91.md a0 a1 a2) (Z91.R_eq (a0 := a0) (a1 := a1) (a2 := a2) ⟨H0, H1, H2⟩) ?_
 all_goals first | rfl | (simp only [S0, MKeys.rs, MP]; first | done | rfl)
theorem valid_ : Valid Tryz.prog Ev 280 con := VV (live := fun _ => []) (nt := 18) (run := fun _ x => F x.1 x.2.1 x.2.2) mix tab_ok (.cons Z72.valid_ (.cons Z91.valid_ .nil)) Tryz.func280 (by kernel_rfl) (fun _ _ => by kernel_rfl) (fun _ a _ _ hg => ⟨0, okF a.1 a.2.1 a.2.2 hg⟩)
theorem br (a0 : MKeys) (a1 : List Int) (a2 : List MSig) : md a0 a1 a2 = Z40.md a0 a1 a2 := by
 unfold md Z40.md
 first
 | (simp only [Z72.br, Z91.br]; done)
 | (simp only [Z72.br, Z91.br]; rfl)
 | rfl
end Z92
namespace Z93
def F (x0 : RSigned) (x1 : RKeys) : Ans := (call (Z84.R x0.fHead) fun v1 => (call (Z92.R (x1, v1, x0.fSigs)) fun v2 => ret (v2 : Bool)))
def pats : List Pat := [.agg [.int .i64, .int .i64, .int .i64, .int .i64, .int .i64, .int .i64, .int .i64, .int .i64, .sl 3, .int .i64, .sl 3, .int .i64, .int .i64, .sl 3, .int .i64, .bool, .sl 184], .agg [.sl 3, .int .i64]]
def res : RP := .one (.rd (.bool))
def md (a0 : MSigned) (a1 : MKeys) : Bool := ((Z92.md a1 (Z84.md a0.fHead) a0.fSigs) : Bool)
def gd (a0 : MSigned) (a1 : MKeys) : Prop := (MSigned.Sm (2 ^ 21) a0) ∧ (MKeys.Sm (2 ^ 21) a1)
def acc (ls : List L) : RSigned × RKeys := ((RSigned.dec ls), (RKeys.dec (dropT 17 ls)))
def R : (RSigned × RKeys) → Option Bool := RR (p2 gd) (u2 md)
theorem R_eq {a0} {a1} (h : gd a0 a1) : R ((MSigned.r a0), (MKeys.r a1)) = some (md a0 a1) := RR_eq (a := (a0, a1)) h
def con : Con := CN pats res acc R
theorem okF (a0 : MSigned) (a1 : MKeys) (hg : gd a0 a1) : F (MSigned.r a0) (MKeys.r a1) = ret ((md a0 a1) : Bool) := by
 unfold gd at hg
 obtain ⟨H0, H1⟩ := hg
 unfold F md
 try simp only [S0, MSigned.rs]
 refine call_to ((Z84.md a0.fHead).map iRow) (Z84.R_eq (a0 := a0.fHead) H0.1) ?_
 try simp only [S0, MSigned.rs]
 refine call_to (Z92.md a1 (Z84.md a0.fHead) a0.fSigs) (Z92.R_eq (a0 := a1) (a1 := (Z84.md a0.fHead)) (a2 := a0.fSigs) ⟨H1, ⟨(by
   have := Z84.len a0.fHead
   have := (H0.1.1).1
   have := (H0.1.2.1).1
   have := (H0.1.2.2).1
   try simp (disch := omega) only [LN, wi]
   first | omega | (simp; done) | (simp; omega)), fun _ _ => trivial⟩, H0.2⟩) ?_
 all_goals first | rfl | (simp only [S0, MSigned.rs, MP]; first | done | rfl)
theorem valid_ : Valid Tryz.prog Ev 244 con := VV (live := fun _ => []) (nt := 12) (run := fun _ x => F x.1 x.2) mix tab_ok (.cons Z84.valid_ (.cons Z92.valid_ .nil)) Tryz.func244 (by kernel_rfl) (fun _ _ => by kernel_rfl) (fun _ a _ _ hg => ⟨0, okF a.1 a.2 hg⟩)
end Z93
namespace Z94
def F (x0 : RSigned) : Ans := (call (Z76.R x0.fHead) fun v1 => (bif v1 then (bif (x0.fHead.fEpoch == 0) then (bif (x0.fHead.fKind == 1) then (bif (!x0.fHead.fFrozen) then (call (Z80.R (x0.fHead.fKeys, x0.fHead.fPrev)) fun v2 => (bif (x0.fHead.fZone == v2) then (call (Z93.R (x0, x0.fHead.fKeys)) fun v3 => ret (v3 : Bool)) else ret (false : Bool))) else ret (false : Bool)) else ret (false : Bool)) else ret (false : Bool)) else ret (false : Bool)))
def pats : List Pat := [.agg [.int .i64, .int .i64, .int .i64, .int .i64, .int .i64, .int .i64, .int .i64, .int .i64, .sl 3, .int .i64, .sl 3, .int .i64, .int .i64, .sl 3, .int .i64, .bool, .sl 184]]
def res : RP := .one (.rd (.bool))
def md (a0 : MSigned) : Bool := (bif (Z76.md a0.fHead) then (bif (a0.fHead.fEpoch == 0) then (bif (a0.fHead.fKind == 1) then (bif (!a0.fHead.fFrozen) then (bif (a0.fHead.fZone == (Z80.md a0.fHead.fKeys a0.fHead.fPrev)) then ((Z93.md a0 a0.fHead.fKeys) : Bool) else (false : Bool)) else (false : Bool)) else (false : Bool)) else (false : Bool)) else (false : Bool))
def gd (a0 : MSigned) : Prop := (MSigned.Sm (2 ^ 21) a0)
def acc (ls : List L) : RSigned := (RSigned.dec ls)
def R : RSigned → Option Bool := RR gd md
theorem R_eq {a0} (h : gd a0) : R (MSigned.r a0) = some (md a0) := RR_eq (a := a0) h
def con : Con := CN pats res acc R
theorem okF (a0 : MSigned) (hg : gd a0) : F (MSigned.r a0) = ret ((md a0) : Bool) := by
 unfold gd at hg
 have H0 := hg
 unfold F md
 try simp only [S0, MHead.rs, MSigned.rs]
 refine call_to (Z76.md a0.fHead) (Z76.R_eq (a0 := a0.fHead) H0.1) ?_
 refine bif_out ret (fun c1 => ?_) (fun _ => rfl)
 refine bif_out ret (fun c2 => ?_) (fun _ => rfl)
 refine bif_out ret (fun c3 => ?_) (fun _ => rfl)
 refine bif_out ret (fun c4 => ?_) (fun _ => rfl)
 refine call_to (Z80.md a0.fHead.fKeys a0.fHead.fPrev) (Z80.R_eq (a0 := a0.fHead.fKeys) (a1 := a0.fHead.fPrev) H0.1.1) ?_
 refine bif_out ret (fun c5 => ?_) (fun _ => rfl)
 refine call_to (Z93.md a0 a0.fHead.fKeys) (Z93.R_eq (a0 := a0) (a1 := a0.fHead.fKeys) ⟨H0, H0.1.1⟩) ?_
 all_goals first | rfl | (simp only [S0, MHead.rs, MSigned.rs, MP]; first | done | rfl)
theorem valid_ : Valid Tryz.prog Ev 214 con := VV (live := fun _ => []) (nt := 39) (run := fun _ x => F x) mix tab_ok (.cons Z76.valid_ (.cons Z80.valid_ (.cons Z93.valid_ .nil))) Tryz.func214 (by kernel_rfl) (fun _ _ => by kernel_rfl) (fun _ a _ _ hg => ⟨0, okF a hg⟩)
theorem br (a0 : MSigned) : md a0 = Z41.md a0 := by
 unfold md Z41.md
 simp only [Z93.md, Z92.br, Z84.br, Z76.br, Z80.br]
end Z94
namespace Z95
def F (x0 : RHead) : Ans := (call (Z84.R x0) fun v1 => (bif (lim (((1 : Int) + (v1.length : Int)) * 8)) then (call (Z79.R ([[L.int 233]] ++ v1)) fun v2 => ret (v2 : Int)) else none))
def pats : List Pat := [.agg [.int .i64, .int .i64, .int .i64, .int .i64, .int .i64, .int .i64, .int .i64, .int .i64, .sl 3, .int .i64, .sl 3, .int .i64, .int .i64, .sl 3, .int .i64, .bool]]
def res : RP := .one (.rd (.int .i64))
def md (a0 : MHead) : Int := ((Z79.md ([233] ++ (Z84.md a0))) : Int)
def gd (a0 : MHead) : Prop := (MHead.Sm (2 ^ 21) a0)
def acc (ls : List L) : RHead := (RHead.dec ls)
def R : RHead → Option Int := RR gd md
theorem R_eq {a0} (h : gd a0) : R (MHead.r a0) = some (md a0) := RR_eq (a := a0) h
def con : Con := CN pats res acc R
theorem okF (a0 : MHead) (hg : gd a0) : F (MHead.r a0) = ret ((md a0) : Int) := by
  unfold gd at hg
  have H0 := hg
  unfold F md
  try simp only [S0]
  refine call_to ((Z84.md a0).map iRow) (Z84.R_eq (a0 := a0) H0) ?_
  try simp only [S0]
  refine yes_ret (by
      have := Z84.len a0
      have := (H0.1).1
      have := (H0.2.1).1
      have := (H0.2.2).1
      refine lim_t ?_
      try simp (disch := omega) only [LN, wi]
      first | omega | (simp; done) | (simp; omega)) ?_
  refine call_to (Z79.md ([233] ++ (Z84.md a0))) ?_ ?_
  · have R_ := Z79.R_eq (a0 := ([233] ++ (Z84.md a0))) ⟨(by
        have := Z84.len a0
        have := (H0.1).1
        have := (H0.2.1).1
        have := (H0.2.2).1
        try simp (disch := omega) only [LN, wi]
        first | omega | (simp; done) | (simp; omega)), fun _ _ => trivial⟩
    first | exact R_ | (simp only [MP, S0] at R_ ⊢; first | exact R_ | (rw [← R_]; rfl))
  all_goals first | rfl | (simp only [S0, MP]; first | done | rfl)
theorem valid_ : Valid Tryz.prog Ev 305 con := VV (live := fun _ => []) (nt := 8) (run := fun _ x => F x) mix tab_ok (.cons Z84.valid_ (.cons Z79.valid_ .nil)) Tryz.func305 (by kernel_rfl) (fun _ _ => by kernel_rfl) (fun _ a _ _ hg => ⟨0, okF a hg⟩)
theorem br (a0 : MHead) : md a0 = Z42.md a0 := by
 unfold md Z42.md
 first
 | (simp only [Z84.br, Z79.br]; done)
 | (simp only [Z84.br, Z79.br]; rfl)
 | rfl
end Z95
namespace Z96
def F (x0 : RHead) (x1 : RHead) : Ans := (bif (x1.fZone == x0.fZone) then (bif (x1.fEpoch == (IntKind.i64.wrap (x0.fEpoch + 1))) then (call (Z95.R x0) fun v1 => (bif (x1.fPrev == v1) then ret ((decide (x1.fTime ≥ x0.fTime)) : Bool) else ret (false : Bool))) else ret (false : Bool)) else ret (false : Bool))
def pats : List Pat := [.agg [.int .i64, .int .i64, .int .i64, .int .i64, .int .i64, .int .i64, .int .i64, .int .i64, .sl 3, .int .i64, .sl 3, .int .i64, .int .i64, .sl 3, .int .i64, .bool], .agg [.int .i64, .int .i64, .int .i64, .int .i64, .int .i64, .int .i64, .int .i64, .int .i64, .sl 3, .int .i64, .sl 3, .int .i64, .int .i64, .sl 3, .int .i64, .bool]]
def res : RP := .one (.rd (.bool))
def md (a0 : MHead) (a1 : MHead) : Bool := (bif (a1.fZone == a0.fZone) then (bif (a1.fEpoch == (IntKind.i64.wrap (a0.fEpoch + 1))) then (bif (a1.fPrev == (Z95.md a0)) then ((decide (a1.fTime ≥ a0.fTime)) : Bool) else (false : Bool)) else (false : Bool)) else (false : Bool))
def gd (a0 : MHead) (a1 : MHead) : Prop := (MHead.Sm (2 ^ 21) a0)
def acc (ls : List L) : RHead × RHead := ((RHead.dec ls), (RHead.dec (dropT 16 ls)))
def R : (RHead × RHead) → Option Bool := RR (p2 gd) (u2 md)
theorem R_eq {a0} {a1} (h : gd a0 a1) : R ((MHead.r a0), (MHead.r a1)) = some (md a0 a1) := RR_eq (a := (a0, a1)) h
def con : Con := CN pats res acc R
theorem okF (a0 : MHead) (a1 : MHead) (hg : gd a0 a1) : F (MHead.r a0) (MHead.r a1) = ret ((md a0 a1) : Bool) := by
 unfold gd at hg
 have H0 := hg
 unfold F md
 try simp only [S0, MHead.rs]
 refine bif_out ret (fun c1 => ?_) (fun _ => rfl)
 refine bif_out ret (fun c2 => ?_) (fun _ => rfl)
 refine call_to (Z95.md a0) (Z95.R_eq (a0 := a0) H0) ?_
 refine bif_out ret (fun c3 => ?_) (fun _ => rfl)
 all_goals first | rfl | (simp only [S0, MHead.rs, MP]; first | done | rfl)
theorem valid_ : Valid Tryz.prog Ev 281 con := VV (live := fun _ => []) (nt := 32) (run := fun _ x => F x.1 x.2) mix tab_ok (.cons Z95.valid_ .nil) Tryz.func281 (by kernel_rfl) (fun _ _ => by kernel_rfl) (fun _ a _ _ hg => ⟨0, okF a.1 a.2 hg⟩)
end Z96
namespace Z97
def F (x0 : RHead) (x1 : RSigned) : Ans := (bif x0.fFrozen then ret (4 : Int) else (bif x1.fHead.fFrozen then ret (6 : Int) else (call (Z93.R (x1, x0.fKeys)) fun v1 => (bif (!v1) then ret (7 : Int) else ret (1 : Int)))))
def pats : List Pat := [.agg [.int .i64, .int .i64, .int .i64, .int .i64, .int .i64, .int .i64, .int .i64, .int .i64, .sl 3, .int .i64, .sl 3, .int .i64, .int .i64, .sl 3, .int .i64, .bool], .agg [.int .i64, .int .i64, .int .i64, .int .i64, .int .i64, .int .i64, .int .i64, .int .i64, .sl 3, .int .i64, .sl 3, .int .i64, .int .i64, .sl 3, .int .i64, .bool, .sl 184]]
def res : RP := .one (.rd (.int .i64))
def md (a0 : MHead) (a1 : MSigned) : Int := (bif a0.fFrozen then (4 : Int) else (bif a1.fHead.fFrozen then (6 : Int) else (bif (!(Z93.md a1 a0.fKeys)) then (7 : Int) else (1 : Int))))
def gd (a0 : MHead) (a1 : MSigned) : Prop := (MHead.Sm (2 ^ 21) a0) ∧ (MSigned.Sm (2 ^ 21) a1)
def acc (ls : List L) : RHead × RSigned := ((RHead.dec ls), (RSigned.dec (dropT 16 ls)))
def R : (RHead × RSigned) → Option Int := RR (p2 gd) (u2 md)
theorem R_eq {a0} {a1} (h : gd a0 a1) : R ((MHead.r a0), (MSigned.r a1)) = some (md a0 a1) := RR_eq (a := (a0, a1)) h
def con : Con := CN pats res acc R
theorem okF (a0 : MHead) (a1 : MSigned) (hg : gd a0 a1) : F (MHead.r a0) (MSigned.r a1) = ret ((md a0 a1) : Int) := by
 unfold gd at hg
 obtain ⟨H0, H1⟩ := hg
 unfold F md
 try simp only [S0, MHead.rs, MSigned.rs]
 refine bif_out ret (fun _ => rfl) (fun c1 => ?_)
 refine bif_out ret (fun _ => rfl) (fun c2 => ?_)
 refine call_to (Z93.md a1 a0.fKeys) (Z93.R_eq (a0 := a1) (a1 := a0.fKeys) ⟨H1, H0.1⟩) ?_
 refine bif_out ret (fun _ => rfl) (fun _ => rfl)
theorem valid_ : Valid Tryz.prog Ev 282 con := VV (live := fun _ => []) (nt := 18) (run := fun _ x => F x.1 x.2) mix tab_ok (.cons Z93.valid_ .nil) Tryz.func282 (by kernel_rfl) (fun _ _ => by kernel_rfl) (fun _ a _ _ hg => ⟨0, okF a.1 a.2 hg⟩)
end Z97
namespace Z98
inductive Pt where
 | p0 (a : List (List L)) (b : List (List L)) (c : Int) (d : Int)
def pid : Pt → Nat
 | .p0 .. => 4
def pvs : Pt → List V
 | .p0 a b c d => [.sl none 3 a, .sl none 3 b, .int .i64 c, .int .i64 d]
def phs : Pt → List Root
 | .p0 a b c d => []
def step (J : Pt → Ans) : Pt → Ans
 | .p0 a b c d => (bif (decide (d < c)) then (bif (decide ((0 : Int) ≤ d)) then (bif (decide (d < (a.length : Int))) then (bif (decide ((0 : Int) ≤ d)) then (bif (decide (d < (b.length : Int))) then (bif ((iAt a (Int.toNat d)) != (iAt b (Int.toNat d))) then ret (false : Bool) else J (.p0 a b c (IntKind.i64.wrap (d + 1)))) else none) else none) else none) else none) else ret (true : Bool))
def start (J : Pt → Ans) (x0 : List (List L)) (x1 : List (List L)) : Ans := (bif ((x0.length : Int) != (x1.length : Int)) then ret (false : Bool) else J (.p0 x0 x1 (x0.length : Int) 0))
def live : Nat → Live := fun i => match i with | 4 => [(0, none), (1, none), (12, none), (13, none)] | _ => []
def pats : List Pat := [.rd (.sl 3), .rd (.sl 3)]
def res : RP := .one (.rd (.bool))
abbrev E : Env := { T := assoc Tab, G := conG [], nt := 26 }
theorem step_eq (I : Heads) (p : Pt) : enterC E live I (pid p) (bodyOf Tryz.f193) (stOf (live (pid p)) (pvs p) (phs p)) (doneK E Tryz.f193 res) = step (fun q => I (pid q) (pvs q) (phs q)) p := by
 cases p <;> kernel_rfl
theorem start_eq (I : Heads) (ls : List L) : runC E live I (bodyOf Tryz.f193) (initS pats ls) (doneK E Tryz.f193 res) = start (fun q => I (pid q) (pvs q) (phs q)) (ls.headD .hole).toSl ((dropT 1 ls).headD .hole).toSl := by kernel_rfl
theorem run_eq (n : Nat) (ls : List L) : runF E live Tryz.f193 res n (initS pats ls) = start (iter step n) (ls.headD .hole).toSl ((dropT 1 ls).headD .hole).toSl := runF_iter (id := pid) (vs := pvs) (hs := phs) (step := step) (start := fun J => start J (ls.headD .hole).toSl ((dropT 1 ls).headD .hole).toSl) step_eq (fun I => start_eq I ls) n
def md (a0 : List Int) (a1 : List Int) : Bool := (bif ((a0.length : Int) != (a1.length : Int)) then (false : Bool) else (loopM (S := Unit) (β := Bool) (fun (i2 : Nat) (s4 : Unit) => (bif ((a0.getD i2 0) != (a1.getD i2 0)) then (.inr (false : Bool)) else (.inl ()))) (fun (s4 : Unit) => (true : Bool)) a0.length 0 ()))
def gd (a0 : List Int) (a1 : List Int) : Prop := (SmL (2 ^ 38) (fun y : Int => True) a0) ∧ (SmL (2 ^ 38) (fun y : Int => True) a1)
def acc (ls : List L) : List (List L) × List (List L) := ((ls.headD .hole).toSl, ((dropT 1 ls).headD .hole).toSl)
def R : (List (List L) × List (List L)) → Option Bool := RR (p2 gd) (u2 md)
theorem R_eq {a0} {a1} (h : gd a0 a1) : R ((a0.map iRow), (a1.map iRow)) = some (md a0 a1) := RR_eq (a := (a0, a1)) h
def con : Con := CN pats res acc R
theorem okF (a0 : List Int) (a1 : List Int) (hg : gd a0 a1) : ∃ n, start (iter step n) (a0.map iRow) (a1.map iRow) = ret ((md a0 a1) : Bool) := by
  unfold gd at hg
  obtain ⟨H0, H1⟩ := hg
  unfold start md
  try simp only [S0]
  refine ex_bif ret (fun _ => ⟨0, rfl⟩) (fun c1 => ?_)
  have dc1 := c1
  try simp only [DC] at dc1
  have Bh3 : a0.length ≤ maxLen := (by
      have := (H0).1
      try simp only [maxLen] at *
      omega)
  refine ex_pt (p := Pt.p0 (a0.map iRow) (a1.map iRow) (a0.length : Int) 0) (by first | rfl | (simp only [S0, MP]; done) | (simp only [MP]; rfl)) ?_
  refine loopM_ok (pt := fun (i2 : Nat) (s4 : Unit) => Pt.p0 (a0.map iRow) (a1.map iRow) (a0.length : Int) (i2 : Int)) (s := (() : Unit)) (out := ret) (fun _ _ => True) (fun J i2 s4 h3 hih3 => ?_) (fun s4 hih3 => ?_) trivial
  · simp only [step, S0]
    have bb_ := Bh3
    simp only [maxLen] at bb_
    have := (H0).1
    refine Rnd.yes (by apply decide_eq_true; omega) ?_
    refine Rnd.yes zle_dec ?_
    refine Rnd.yes (lt_dec h3) ?_
    refine Rnd.yes zle_dec ?_
    refine Rnd.yes (by
        have := (H1).1
        refine decide_eq_true ?_
        try simp (disch := omega) only [LN, wi]
        first | omega | (simp; done) | (simp; omega)) ?_
    refine Rnd.bif (fun _ => Rnd.inr rfl) (fun c5 => ?_)
    refine Rnd.inl trivial ?_
    rw [wrap_succ h3 Bh3]
    all_goals first | rfl | (simp only [S0, MP]; first | done | rfl)
  · simp only [step, S0]
    have := (H0).1
    refine ex_no (by apply decide_eq_false; omega) ?_
    refine ⟨0, ?_⟩
    all_goals first | rfl | (simp only [S0, MP]; first | done | rfl)
theorem valid_ : Valid Tryz.prog Ev 193 con := VV (run := fun n x => start (iter step n) x.1 x.2) mix tab_ok .nil Tryz.func193 (by kernel_rfl) run_eq (fun _ a _ _ hg => okF a.1 a.2 hg)
theorem md_eq (a0 : List Int) (a1 : List Int) : md a0 a1 = eqB a0 a1 := by
 unfold md
 refine loop_eqB (0) (fun i s h h2 => ?_) (fun s => rfl)
 simp only [bne, int_beq, bool_beq, ba_beq]
 cases eqB _ _ <;> rfl
end Z98
namespace Z99
def F (x0 : RKeys) (x1 : RKeys) : Ans := (call (Z98.R (x0.fList, x1.fList)) fun v1 => (bif v1 then ret ((x0.fNeed == x1.fNeed) : Bool) else ret (false : Bool)))
def pats : List Pat := [.agg [.sl 3, .int .i64], .agg [.sl 3, .int .i64]]
def res : RP := .one (.rd (.bool))
def md (a0 : MKeys) (a1 : MKeys) : Bool := (bif (Z98.md a0.fList a1.fList) then ((a0.fNeed == a1.fNeed) : Bool) else (false : Bool))
def gd (a0 : MKeys) (a1 : MKeys) : Prop := (MKeys.Sm (2 ^ 21) a0) ∧ (MKeys.Sm (2 ^ 21) a1)
def acc (ls : List L) : RKeys × RKeys := ((RKeys.dec ls), (RKeys.dec (dropT 2 ls)))
def R : (RKeys × RKeys) → Option Bool := RR (p2 gd) (u2 md)
theorem R_eq {a0} {a1} (h : gd a0 a1) : R ((MKeys.r a0), (MKeys.r a1)) = some (md a0 a1) := RR_eq (a := (a0, a1)) h
def con : Con := CN pats res acc R
theorem okF (a0 : MKeys) (a1 : MKeys) (hg : gd a0 a1) : F (MKeys.r a0) (MKeys.r a1) = ret ((md a0 a1) : Bool) := by
 unfold gd at hg
 obtain ⟨H0, H1⟩ := hg
 unfold F md
 try simp only [S0, MKeys.rs]
 refine call_to (Z98.md a0.fList a1.fList) (Z98.R_eq (a0 := a0.fList) (a1 := a1.fList) ⟨(H0.mono (by decide) (fun x hx => trivial)), (H1.mono (by decide) (fun x hx => trivial))⟩) ?_
 refine bif_out ret (fun c1 => ?_) (fun _ => rfl)
 all_goals first | rfl | (simp only [S0, MKeys.rs, MP]; first | done | rfl)
theorem valid_ : Valid Tryz.prog Ev 192 con := VV (live := fun _ => []) (nt := 17) (run := fun _ x => F x.1 x.2) mix tab_ok (.cons Z98.valid_ .nil) Tryz.func192 (by kernel_rfl) (fun _ _ => by kernel_rfl) (fun _ a _ _ hg => ⟨0, okF a.1 a.2 hg⟩)
theorem md_eq (a0 : MKeys) (a1 : MKeys) : md a0 a1 = eqB a0 a1 := by
 unfold md
 cases a0; cases a1
 rw [Bool.eq_iff_iff]
 simp [eqB_iff, ba_beq, MKeys.mk.injEq, Z98.md_eq]
 try (constructor <;> (intro h; simp_all))
end Z99
namespace Z100
def F (x0 : RHead) (x1 : RHead) : Ans := (bif (x0.fCount == x1.fCount) then ret ((x0.fRoot == x1.fRoot) : Bool) else ret (false : Bool))
def pats : List Pat := [.agg [.int .i64, .int .i64, .int .i64, .int .i64, .int .i64, .int .i64, .int .i64, .int .i64, .sl 3, .int .i64, .sl 3, .int .i64, .int .i64, .sl 3, .int .i64, .bool], .agg [.int .i64, .int .i64, .int .i64, .int .i64, .int .i64, .int .i64, .int .i64, .int .i64, .sl 3, .int .i64, .sl 3, .int .i64, .int .i64, .sl 3, .int .i64, .bool]]
def res : RP := .one (.rd (.bool))
def md (a0 : MHead) (a1 : MHead) : Bool := (bif (a0.fCount == a1.fCount) then ((a0.fRoot == a1.fRoot) : Bool) else (false : Bool))
def gd (a0 : MHead) (a1 : MHead) : Prop := True
def acc (ls : List L) : RHead × RHead := ((RHead.dec ls), (RHead.dec (dropT 16 ls)))
def R : (RHead × RHead) → Option Bool := RR (p2 gd) (u2 md)
theorem R_eq {a0} {a1} (h : gd a0 a1) : R ((MHead.r a0), (MHead.r a1)) = some (md a0 a1) := RR_eq (a := (a0, a1)) h
def con : Con := CN pats res acc R
theorem okF (a0 : MHead) (a1 : MHead) (hg : gd a0 a1) : F (MHead.r a0) (MHead.r a1) = ret ((md a0 a1) : Bool) := by
 unfold F md
 try simp only [S0, MHead.rs]
 refine bif_out ret (fun c1 => ?_) (fun _ => rfl)
 all_goals first | rfl | (simp only [S0, MHead.rs, MP]; first | done | rfl)
theorem valid_ : Valid Tryz.prog Ev 306 con := VV (live := fun _ => []) (nt := 17) (run := fun _ x => F x.1 x.2) mix tab_ok .nil Tryz.func306 (by kernel_rfl) (fun _ _ => by kernel_rfl) (fun _ a _ _ hg => ⟨0, okF a.1 a.2 hg⟩)
theorem br (a0 : MHead) (a1 : MHead) : md a0 a1 = Z46.md a0 a1 := by
 unfold md Z46.md
 first
 | (simp only [id]; done)
 | (simp only [id]; rfl)
 | rfl
end Z100
namespace Z101
def F (x0 : RHead) (x1 : RSigned) : Ans := (bif x0.fFrozen then ret (4 : Int) else (call (Z73.R x0.fHeirs) fun v1 => (bif v1 then ret (5 : Int) else (bif (decide (x1.fHead.fTime < (IntKind.i64.wrap (x0.fUntil + x0.fWait)))) then ret (5 : Int) else (bif x1.fHead.fFrozen then ret (6 : Int) else (call (Z99.R (x1.fHead.fKeys, x0.fHeirs)) fun v2 => (bif (!v2) then ret (6 : Int) else (call (Z100.R (x1.fHead, x0)) fun v3 => (bif (!v3) then ret (6 : Int) else (call (Z93.R (x1, x0.fHeirs)) fun v4 => (bif (!v4) then ret (7 : Int) else ret (1 : Int))))))))))))
def pats : List Pat := [.agg [.int .i64, .int .i64, .int .i64, .int .i64, .int .i64, .int .i64, .int .i64, .int .i64, .sl 3, .int .i64, .sl 3, .int .i64, .int .i64, .sl 3, .int .i64, .bool], .agg [.int .i64, .int .i64, .int .i64, .int .i64, .int .i64, .int .i64, .int .i64, .int .i64, .sl 3, .int .i64, .sl 3, .int .i64, .int .i64, .sl 3, .int .i64, .bool, .sl 184]]
def res : RP := .one (.rd (.int .i64))
def md (a0 : MHead) (a1 : MSigned) : Int := (bif a0.fFrozen then (4 : Int) else (bif (Z73.md a0.fHeirs) then (5 : Int) else (bif (decide (a1.fHead.fTime < (IntKind.i64.wrap (a0.fUntil + a0.fWait)))) then (5 : Int) else (bif a1.fHead.fFrozen then (6 : Int) else (bif (!(Z99.md a1.fHead.fKeys a0.fHeirs)) then (6 : Int) else (bif (!(Z100.md a1.fHead a0)) then (6 : Int) else (bif (!(Z93.md a1 a0.fHeirs)) then (7 : Int) else (1 : Int))))))))
def gd (a0 : MHead) (a1 : MSigned) : Prop := (MHead.Sm (2 ^ 21) a0) ∧ (MSigned.Sm (2 ^ 21) a1)
def acc (ls : List L) : RHead × RSigned := ((RHead.dec ls), (RSigned.dec (dropT 16 ls)))
def R : (RHead × RSigned) → Option Int := RR (p2 gd) (u2 md)
theorem R_eq {a0} {a1} (h : gd a0 a1) : R ((MHead.r a0), (MSigned.r a1)) = some (md a0 a1) := RR_eq (a := (a0, a1)) h
def con : Con := CN pats res acc R
theorem okF (a0 : MHead) (a1 : MSigned) (hg : gd a0 a1) : F (MHead.r a0) (MSigned.r a1) = ret ((md a0 a1) : Int) := by
 unfold gd at hg
 obtain ⟨H0, H1⟩ := hg
 unfold F md
 try simp only [S0, MHead.rs, MSigned.rs]
 refine bif_out ret (fun _ => rfl) (fun c1 => ?_)
 refine call_to (Z73.md a0.fHeirs) (Z73.R_eq (a0 := a0.fHeirs) trivial) ?_
 refine bif_out ret (fun _ => rfl) (fun c2 => ?_)
 refine bif_out ret (fun _ => rfl) (fun c3 => ?_)
 refine bif_out ret (fun _ => rfl) (fun c4 => ?_)
 refine call_to (Z99.md a1.fHead.fKeys a0.fHeirs) (Z99.R_eq (a0 := a1.fHead.fKeys) (a1 := a0.fHeirs) ⟨H1.1.1, H0.2.1⟩) ?_
 refine bif_out ret (fun _ => rfl) (fun c5 => ?_)
 refine call_to (Z100.md a1.fHead a0) (Z100.R_eq (a0 := a1.fHead) (a1 := a0) trivial) ?_
 refine bif_out ret (fun _ => rfl) (fun c6 => ?_)
 refine call_to (Z93.md a1 a0.fHeirs) (Z93.R_eq (a0 := a1) (a1 := a0.fHeirs) ⟨H1, H0.2.1⟩) ?_
 refine bif_out ret (fun _ => rfl) (fun _ => rfl)
theorem valid_ : Valid Tryz.prog Ev 283 con := VV (live := fun _ => []) (nt := 48) (run := fun _ x => F x.1 x.2) mix tab_ok (.cons Z73.valid_ (.cons Z99.valid_ (.cons Z100.valid_ (.cons Z93.valid_ .nil)))) Tryz.func283 (by kernel_rfl) (fun _ _ => by kernel_rfl) (fun _ a _ _ hg => ⟨0, okF a.1 a.2 hg⟩)
end Z101
namespace Z102
def F (x0 : RHead) (x1 : RSigned) : Ans := (call (Z100.R (x1.fHead, x0)) fun v1 => (bif v1 then (call (Z99.R (x1.fHead.fJudge, x0.fJudge)) fun v2 => (bif v2 then (call (Z99.R (x1.fHead.fHeirs, x0.fHeirs)) fun v3 => (bif v3 then (call (Z73.R x0.fJudge) fun v4 => (bif v4 then ret (5 : Int) else (bif (x1.fHead.fFrozen == x0.fFrozen) then ret (6 : Int) else (bif (!(x1.fHead.fWait == x0.fWait)) then ret (6 : Int) else (bif x1.fHead.fFrozen then (call (Z99.R (x1.fHead.fKeys, x0.fKeys)) fun v5 => (bif (!v5) then ret (6 : Int) else (call (Z93.R (x1, x0.fJudge)) fun v6 => (bif (!v6) then ret (7 : Int) else ret (1 : Int))))) else (call (Z93.R (x1, x0.fJudge)) fun v7 => (bif (!v7) then ret (7 : Int) else ret (1 : Int)))))))) else (call (Z73.R x0.fJudge) fun v8 => (bif v8 then ret (5 : Int) else (bif (x1.fHead.fFrozen == x0.fFrozen) then ret (6 : Int) else ret (6 : Int)))))) else (call (Z73.R x0.fJudge) fun v9 => (bif v9 then ret (5 : Int) else (bif (x1.fHead.fFrozen == x0.fFrozen) then ret (6 : Int) else ret (6 : Int)))))) else (call (Z73.R x0.fJudge) fun v10 => (bif v10 then ret (5 : Int) else (bif (x1.fHead.fFrozen == x0.fFrozen) then ret (6 : Int) else ret (6 : Int))))))
def pats : List Pat := [.agg [.int .i64, .int .i64, .int .i64, .int .i64, .int .i64, .int .i64, .int .i64, .int .i64, .sl 3, .int .i64, .sl 3, .int .i64, .int .i64, .sl 3, .int .i64, .bool], .agg [.int .i64, .int .i64, .int .i64, .int .i64, .int .i64, .int .i64, .int .i64, .int .i64, .sl 3, .int .i64, .sl 3, .int .i64, .int .i64, .sl 3, .int .i64, .bool, .sl 184]]
def res : RP := .one (.rd (.int .i64))
def md (a0 : MHead) (a1 : MSigned) : Int := (bif (Z100.md a1.fHead a0) then (bif (Z99.md a1.fHead.fJudge a0.fJudge) then (bif (Z99.md a1.fHead.fHeirs a0.fHeirs) then (bif (Z73.md a0.fJudge) then (5 : Int) else (bif (a1.fHead.fFrozen == a0.fFrozen) then (6 : Int) else (bif (!(a1.fHead.fWait == a0.fWait)) then (6 : Int) else (bif a1.fHead.fFrozen then (bif (!(Z99.md a1.fHead.fKeys a0.fKeys)) then (6 : Int) else (bif (!(Z93.md a1 a0.fJudge)) then (7 : Int) else (1 : Int))) else (bif (!(Z93.md a1 a0.fJudge)) then (7 : Int) else (1 : Int)))))) else (bif (Z73.md a0.fJudge) then (5 : Int) else (bif (a1.fHead.fFrozen == a0.fFrozen) then (6 : Int) else (6 : Int)))) else (bif (Z73.md a0.fJudge) then (5 : Int) else (bif (a1.fHead.fFrozen == a0.fFrozen) then (6 : Int) else (6 : Int)))) else (bif (Z73.md a0.fJudge) then (5 : Int) else (bif (a1.fHead.fFrozen == a0.fFrozen) then (6 : Int) else (6 : Int))))
def gd (a0 : MHead) (a1 : MSigned) : Prop := (MHead.Sm (2 ^ 21) a0) ∧ (MSigned.Sm (2 ^ 21) a1)
def acc (ls : List L) : RHead × RSigned := ((RHead.dec ls), (RSigned.dec (dropT 16 ls)))
def R : (RHead × RSigned) → Option Int := RR (p2 gd) (u2 md)
theorem R_eq {a0} {a1} (h : gd a0 a1) : R ((MHead.r a0), (MSigned.r a1)) = some (md a0 a1) := RR_eq (a := (a0, a1)) h
def con : Con := CN pats res acc R
theorem okF (a0 : MHead) (a1 : MSigned) (hg : gd a0 a1) : F (MHead.r a0) (MSigned.r a1) = ret ((md a0 a1) : Int) := by
  unfold gd at hg
  obtain ⟨H0, H1⟩ := hg
  unfold F md
  try simp only [S0, MHead.rs, MSigned.rs]
  refine call_to (Z100.md a1.fHead a0) (Z100.R_eq (a0 := a1.fHead) (a1 := a0) trivial) ?_
  refine bif_out ret (fun c1 => ?_) (fun c1 => ?_)
  · refine call_to (Z99.md a1.fHead.fJudge a0.fJudge) (Z99.R_eq (a0 := a1.fHead.fJudge) (a1 := a0.fJudge) ⟨H1.1.2.2, H0.2.2⟩) ?_
    refine bif_out ret (fun c2 => ?_) (fun c2 => ?_)
    · refine call_to (Z99.md a1.fHead.fHeirs a0.fHeirs) (Z99.R_eq (a0 := a1.fHead.fHeirs) (a1 := a0.fHeirs) ⟨H1.1.2.1, H0.2.1⟩) ?_
      refine bif_out ret (fun c3 => ?_) (fun c3 => ?_)
      · refine call_to (Z73.md a0.fJudge) (Z73.R_eq (a0 := a0.fJudge) trivial) ?_
        refine bif_out ret (fun _ => rfl) (fun c4 => ?_)
        refine bif_out ret (fun _ => rfl) (fun c5 => ?_)
        refine bif_out ret (fun _ => rfl) (fun c6 => ?_)
        refine bif_out ret (fun c7 => ?_) (fun c7 => ?_)
        · refine call_to (Z99.md a1.fHead.fKeys a0.fKeys) (Z99.R_eq (a0 := a1.fHead.fKeys) (a1 := a0.fKeys) ⟨H1.1.1, H0.1⟩) ?_
          refine bif_out ret (fun _ => rfl) (fun c8 => ?_)
          refine call_to (Z93.md a1 a0.fJudge) (Z93.R_eq (a0 := a1) (a1 := a0.fJudge) ⟨H1, H0.2.2⟩) ?_
          refine bif_out ret (fun _ => rfl) (fun _ => rfl)
        · refine call_to (Z93.md a1 a0.fJudge) (Z93.R_eq (a0 := a1) (a1 := a0.fJudge) ⟨H1, H0.2.2⟩) ?_
          refine bif_out ret (fun _ => rfl) (fun _ => rfl)
      · refine call_to (Z73.md a0.fJudge) (Z73.R_eq (a0 := a0.fJudge) trivial) ?_
        refine bif_out ret (fun _ => rfl) (fun c11 => ?_)
        refine bif_out ret (fun _ => rfl) (fun _ => rfl)
    · refine call_to (Z73.md a0.fJudge) (Z73.R_eq (a0 := a0.fJudge) trivial) ?_
      refine bif_out ret (fun _ => rfl) (fun c13 => ?_)
      refine bif_out ret (fun _ => rfl) (fun _ => rfl)
  · refine call_to (Z73.md a0.fJudge) (Z73.R_eq (a0 := a0.fJudge) trivial) ?_
    refine bif_out ret (fun _ => rfl) (fun c15 => ?_)
    refine bif_out ret (fun _ => rfl) (fun _ => rfl)
theorem valid_ : Valid Tryz.prog Ev 284 con := VV (live := fun _ => []) (nt := 65) (run := fun _ x => F x.1 x.2) mix tab_ok (.cons Z100.valid_ (.cons Z99.valid_ (.cons Z73.valid_ (.cons Z93.valid_ .nil)))) Tryz.func284 (by kernel_rfl) (fun _ _ => by kernel_rfl) (fun _ a _ _ hg => ⟨0, okF a.1 a.2 hg⟩)
end Z102
namespace Z103
def F (x0 : RHead) (x1 : RSigned) : Ans := (call (Z76.R x0) fun v1 => (bif (!v1) then ret (2 : Int) else (call (Z76.R x1.fHead) fun v2 => (bif (!v2) then ret (2 : Int) else (call (Z96.R (x0, x1.fHead)) fun v3 => (bif (!v3) then ret (3 : Int) else (bif (x1.fHead.fKind == 1) then (call (Z97.R (x0, x1)) fun v4 => ret (v4 : Int)) else (bif (x1.fHead.fKind == 2) then (call (Z101.R (x0, x1)) fun v5 => ret (v5 : Int)) else (call (Z102.R (x0, x1)) fun v6 => ret (v6 : Int))))))))))
def pats : List Pat := [.agg [.int .i64, .int .i64, .int .i64, .int .i64, .int .i64, .int .i64, .int .i64, .int .i64, .sl 3, .int .i64, .sl 3, .int .i64, .int .i64, .sl 3, .int .i64, .bool], .agg [.int .i64, .int .i64, .int .i64, .int .i64, .int .i64, .int .i64, .int .i64, .int .i64, .sl 3, .int .i64, .sl 3, .int .i64, .int .i64, .sl 3, .int .i64, .bool, .sl 184]]
def res : RP := .one (.rd (.int .i64))
def md (a0 : MHead) (a1 : MSigned) : Int := (bif (!(Z76.md a0)) then (2 : Int) else (bif (!(Z76.md a1.fHead)) then (2 : Int) else (bif (!(Z96.md a0 a1.fHead)) then (3 : Int) else (bif (a1.fHead.fKind == 1) then ((Z97.md a0 a1) : Int) else (bif (a1.fHead.fKind == 2) then ((Z101.md a0 a1) : Int) else ((Z102.md a0 a1) : Int))))))
def gd (a0 : MHead) (a1 : MSigned) : Prop := (MHead.Sm (2 ^ 21) a0) ∧ (MSigned.Sm (2 ^ 21) a1)
def acc (ls : List L) : RHead × RSigned := ((RHead.dec ls), (RSigned.dec (dropT 16 ls)))
def R : (RHead × RSigned) → Option Int := RR (p2 gd) (u2 md)
theorem R_eq {a0} {a1} (h : gd a0 a1) : R ((MHead.r a0), (MSigned.r a1)) = some (md a0 a1) := RR_eq (a := (a0, a1)) h
def con : Con := CN pats res acc R
theorem okF (a0 : MHead) (a1 : MSigned) (hg : gd a0 a1) : F (MHead.r a0) (MSigned.r a1) = ret ((md a0 a1) : Int) := by
  unfold gd at hg
  obtain ⟨H0, H1⟩ := hg
  unfold F md
  try simp only [S0, MHead.rs, MSigned.rs]
  refine call_to (Z76.md a0) (Z76.R_eq (a0 := a0) H0) ?_
  refine bif_out ret (fun _ => rfl) (fun c1 => ?_)
  refine call_to (Z76.md a1.fHead) (Z76.R_eq (a0 := a1.fHead) H1.1) ?_
  refine bif_out ret (fun _ => rfl) (fun c2 => ?_)
  refine call_to (Z96.md a0 a1.fHead) (Z96.R_eq (a0 := a0) (a1 := a1.fHead) H0) ?_
  refine bif_out ret (fun _ => rfl) (fun c3 => ?_)
  refine bif_out ret (fun c4 => ?_) (fun c4 => ?_)
  · refine call_to (Z97.md a0 a1) (Z97.R_eq (a0 := a0) (a1 := a1) ⟨H0, H1⟩) ?_
    all_goals first | rfl | (simp only [S0, MHead.rs, MSigned.rs, MP]; first | done | rfl)
  · refine bif_out ret (fun c5 => ?_) (fun c5 => ?_)
    · refine call_to (Z101.md a0 a1) (Z101.R_eq (a0 := a0) (a1 := a1) ⟨H0, H1⟩) ?_
      all_goals first | rfl | (simp only [S0, MHead.rs, MSigned.rs, MP]; first | done | rfl)
    · refine call_to (Z102.md a0 a1) (Z102.R_eq (a0 := a0) (a1 := a1) ⟨H0, H1⟩) ?_
      all_goals first | rfl | (simp only [S0, MHead.rs, MSigned.rs, MP]; first | done | rfl)
theorem valid_ : Valid Tryz.prog Ev 245 con := VV (live := fun _ => []) (nt := 40) (run := fun _ x => F x.1 x.2) mix tab_ok (.cons Z76.valid_ (.cons Z96.valid_ (.cons Z97.valid_ (.cons Z101.valid_ (.cons Z102.valid_ .nil))))) Tryz.func245 (by kernel_rfl) (fun _ _ => by kernel_rfl) (fun _ a _ _ hg => ⟨0, okF a.1 a.2 hg⟩)
theorem br (a0 : MHead) (a1 : MSigned) : md a0 a1 = Z49.md a0 a1 := by
  unfold md Z49.md Z96.md Z97.md Z101.md Z102.md Z93.md Z43.md Z47.md Z48.md
  simp only [Z76.br, Z95.br, Z92.br, Z84.br, Z73.br, Z99.md_eq, Z45.md_eq, Z100.br, bne]
  cases Z30.md a0
  · rfl
  cases h2 : Z30.md a1.fHead
  · rfl
  obtain ⟨⟨k1, k2⟩, _⟩ := Z30.tr h2
  have ht : decide (a1.fHead.fTime < a0.fTime) = !decide (a1.fHead.fTime ≥ a0.fTime) := by
    rw [Bool.eq_iff_iff]; simp
  rw [ht]
  cases a1.fHead.fZone == a0.fZone
  · rfl
  cases a1.fHead.fEpoch == IntKind.i64.wrap (a0.fEpoch + 1)
  · rfl
  cases a1.fHead.fPrev == Z42.md a0
  · rfl
  cases decide (a1.fHead.fTime ≥ a0.fTime)
  · rfl
  have hk : a1.fHead.fKind = 1 ∨ a1.fHead.fKind = 2 ∨ a1.fHead.fKind = 3 := by omega
  generalize Z40.md a0.fKeys (Z35.md a1.fHead) a1.fSigs = s1
  generalize Z40.md a0.fHeirs (Z35.md a1.fHead) a1.fSigs = s2
  generalize Z40.md a0.fJudge (Z35.md a1.fHead) a1.fSigs = s3
  generalize Z29.md a0.fHeirs = n1
  generalize Z29.md a0.fJudge = n2
  generalize decide (a1.fHead.fTime < IntKind.i64.wrap (a0.fUntil + a0.fWait)) = d1
  generalize eqB a1.fHead.fKeys a0.fHeirs = e1
  generalize eqB a1.fHead.fJudge a0.fJudge = e2
  generalize eqB a1.fHead.fHeirs a0.fHeirs = e3
  generalize eqB a1.fHead.fKeys a0.fKeys = e4
  generalize Z46.md a1.fHead a0 = c1
  generalize (a1.fHead.fWait == a0.fWait) = w1
  generalize a1.fHead.fFrozen = f1
  generalize a0.fFrozen = f0
  rcases hk with hk | hk | hk <;> rw [hk]
  · cases f0 <;> cases f1 <;> cases s1 <;> rfl
  · cases f0 <;> cases n1 <;> cases d1 <;> cases f1 <;> cases e1 <;> cases c1 <;> cases s2 <;> rfl
  · cases n2
    · cases f1 <;> cases f0 <;> cases c1 <;> cases e2 <;> cases e3 <;> cases w1 <;> cases e4 <;> cases s3 <;> rfl
    · cases c1 <;> cases e2 <;> cases e3 <;> rfl
end Z103
namespace Z104
def F (x0 : RHead) (x1 : RSigned) : Ans := (call (Z103.R (x0, x1)) fun v1 => ret ((v1 == 1) : Bool))
def pats : List Pat := [.agg [.int .i64, .int .i64, .int .i64, .int .i64, .int .i64, .int .i64, .int .i64, .int .i64, .sl 3, .int .i64, .sl 3, .int .i64, .int .i64, .sl 3, .int .i64, .bool], .agg [.int .i64, .int .i64, .int .i64, .int .i64, .int .i64, .int .i64, .int .i64, .int .i64, .sl 3, .int .i64, .sl 3, .int .i64, .int .i64, .sl 3, .int .i64, .bool, .sl 184]]
def res : RP := .one (.rd (.bool))
def md (a0 : MHead) (a1 : MSigned) : Bool := (((Z103.md a0 a1) == 1) : Bool)
def gd (a0 : MHead) (a1 : MSigned) : Prop := (MHead.Sm (2 ^ 21) a0) ∧ (MSigned.Sm (2 ^ 21) a1)
def acc (ls : List L) : RHead × RSigned := ((RHead.dec ls), (RSigned.dec (dropT 16 ls)))
def R : (RHead × RSigned) → Option Bool := RR (p2 gd) (u2 md)
theorem R_eq {a0} {a1} (h : gd a0 a1) : R ((MHead.r a0), (MSigned.r a1)) = some (md a0 a1) := RR_eq (a := (a0, a1)) h
def con : Con := CN pats res acc R
theorem okF (a0 : MHead) (a1 : MSigned) (hg : gd a0 a1) : F (MHead.r a0) (MSigned.r a1) = ret ((md a0 a1) : Bool) := by
 unfold gd at hg
 obtain ⟨H0, H1⟩ := hg
 unfold F md
 try simp only [S0]
 refine call_to (Z103.md a0 a1) (Z103.R_eq (a0 := a0) (a1 := a1) ⟨H0, H1⟩) ?_
 all_goals first | rfl | (simp only [S0, MP]; first | done | rfl)
theorem valid_ : Valid Tryz.prog Ev 215 con := VV (live := fun _ => []) (nt := 9) (run := fun _ x => F x.1 x.2) mix tab_ok (.cons Z103.valid_ .nil) Tryz.func215 (by kernel_rfl) (fun _ _ => by kernel_rfl) (fun _ a _ _ hg => ⟨0, okF a.1 a.2 hg⟩)
theorem br (a0 : MHead) (a1 : MSigned) : md a0 a1 = Z50.md a0 a1 := by
 unfold md Z50.md
 first
 | (simp only [Z103.br]; done)
 | (simp only [Z103.br]; rfl)
 | rfl
end Z104
namespace Z105
inductive Pt where
 | p0 (a : List (List L)) (b : List (List L)) (c : Int) (d : Int)
def pid : Pt → Nat
 | .p0 .. => 2
def pvs : Pt → List V
 | .p0 a b c d => [.sl none 122 a, .sl none 122 b, .int .i64 c, .int .i64 d]
def phs : Pt → List Root
 | .p0 a b c d => []
def step (J : Pt → Ans) : Pt → Ans
 | .p0 a b c d => (bif (decide (d < c)) then (bif (decide ((0 : Int) ≤ d)) then (bif (decide (d < (b.length : Int))) then (bif (d == 0) then (call (Z94.R (RSigned.at b (Int.toNat d))) fun v1 => (bif (!v1) then ret (d : Int) else (bif (decide (d > 0)) then (bif (decide ((0 : Int) ≤ (IntKind.i64.wrap (d - 1)))) then (bif (decide ((IntKind.i64.wrap (d - 1)) < (a.length : Int))) then (call (Z104.R ((RSigned.at a (Int.toNat (IntKind.i64.wrap (d - 1)))).fHead, (RSigned.at b (Int.toNat d)))) fun v2 => (bif (!v2) then ret (d : Int) else J (.p0 a b c (IntKind.i64.wrap (d + 1))))) else none) else none) else J (.p0 a b c (IntKind.i64.wrap (d + 1)))))) else (bif (decide (d > 0)) then (bif (decide ((0 : Int) ≤ (IntKind.i64.wrap (d - 1)))) then (bif (decide ((IntKind.i64.wrap (d - 1)) < (a.length : Int))) then (call (Z104.R ((RSigned.at a (Int.toNat (IntKind.i64.wrap (d - 1)))).fHead, (RSigned.at b (Int.toNat d)))) fun v3 => (bif (!v3) then ret (d : Int) else J (.p0 a b c (IntKind.i64.wrap (d + 1))))) else none) else none) else J (.p0 a b c (IntKind.i64.wrap (d + 1))))) else none) else none) else ret ((-1) : Int))
def start (J : Pt → Ans) (x0 : List (List L)) : Ans := J (.p0 x0 x0 (x0.length : Int) 0)
def live : Nat → Live := fun i => match i with | 2 => [(0, none), (5, none), (6, none), (7, none)] | _ => []
def pats : List Pat := [.rd (.sl 122)]
def res : RP := .one (.rd (.int .i64))
abbrev E : Env := { T := assoc Tab, G := conG [(214, Z94.con), (215, Z104.con)], nt := 36 }
theorem step_eq (I : Heads) (p : Pt) : enterC E live I (pid p) (bodyOf Tryz.f186) (stOf (live (pid p)) (pvs p) (phs p)) (doneK E Tryz.f186 res) = step (fun q => I (pid q) (pvs q) (phs q)) p := by
 cases p <;> kernel_rfl
theorem start_eq (I : Heads) (ls : List L) : runC E live I (bodyOf Tryz.f186) (initS pats ls) (doneK E Tryz.f186 res) = start (fun q => I (pid q) (pvs q) (phs q)) (ls.headD .hole).toSl := by kernel_rfl
theorem run_eq (n : Nat) (ls : List L) : runF E live Tryz.f186 res n (initS pats ls) = start (iter step n) (ls.headD .hole).toSl := runF_iter (id := pid) (vs := pvs) (hs := phs) (step := step) (start := fun J => start J (ls.headD .hole).toSl) step_eq (fun I => start_eq I ls) n
def md (a0 : List MSigned) : Int := (eachI (S := Unit) (β := Int) (fun (i1 : Nat) (y1 : MSigned) (s3 : Unit) => (bif ((i1 : Int) == 0) then (bif (!(Z94.md y1)) then (.inr ((i1 : Int) : Int)) else (bif (decide ((i1 : Int) > 0)) then (bif (!(Z104.md ((a0.getD (Int.toNat (IntKind.i64.wrap ((i1 : Int) - 1))) MSigned.zero).fHead) y1)) then (.inr ((i1 : Int) : Int)) else (.inl ())) else (.inl ()))) else (bif (decide ((i1 : Int) > 0)) then (bif (!(Z104.md ((a0.getD (Int.toNat (IntKind.i64.wrap ((i1 : Int) - 1))) MSigned.zero).fHead) y1)) then (.inr ((i1 : Int) : Int)) else (.inl ())) else (.inl ())))) (fun (s3 : Unit) => ((-1) : Int)) 0 a0 ())
def gd (a0 : List MSigned) : Prop := (SmL (2 ^ 21) (fun y : MSigned => MSigned.Sm (2 ^ 21) y) a0)
def acc (ls : List L) : List (List L) := (ls.headD .hole).toSl
def R : (List (List L)) → Option Int := RR gd md
theorem R_eq {a0} (h : gd a0) : R (a0.map MSigned.row) = some (md a0) := RR_eq (a := a0) h
def con : Con := CN pats res acc R
theorem okF (a0 : List MSigned) (hg : gd a0) : ∃ n, start (iter step n) (a0.map MSigned.row) = ret ((md a0) : Int) := by
  unfold gd at hg
  have H0 := hg
  unfold start md
  try simp only [S0, MSigned.rs]
  have Bh2 : a0.length ≤ maxLen := (by
      have := (H0).1
      try simp only [maxLen] at *
      omega)
  refine ex_eq (out := ret) (loopM_eachI (z := MSigned.zero)) ?_
  refine ex_pt (p := Pt.p0 (a0.map MSigned.row) (a0.map MSigned.row) (a0.length : Int) 0) (by first | rfl | (simp only [S0, MSigned.rs, MP]; done) | (simp only [MP]; rfl)) ?_
  refine loopM_ok (pt := fun (i1 : Nat) (s3 : Unit) => Pt.p0 (a0.map MSigned.row) (a0.map MSigned.row) (a0.length : Int) (i1 : Int)) (s := (() : Unit)) (out := ret) (fun _ _ => True) (fun J i1 s3 h2 hih2 => ?_) (fun s3 hih2 => ?_) trivial
  · simp only [step, S0, MSigned.rs]
    have bb_ := Bh2
    simp only [maxLen] at bb_
    have := (H0).1
    refine Rnd.yes (by apply decide_eq_true; omega) ?_
    refine Rnd.yes zle_dec ?_
    refine Rnd.yes (lt_dec h2) ?_
    refine Rnd.bif (fun c4 => ?_) (fun c4 => ?_)
    · have dc4 := c4
      try simp only [DC] at dc4
      refine Rnd.call_to (Z94.md (a0.getD i1 MSigned.zero)) (Z94.R_eq (a0 := (a0.getD i1 MSigned.zero)) (SmL.getD (z := MSigned.zero) H0 h2)) ?_
      refine Rnd.bif (fun c5 => ?_) (fun c5 => ?_)
      · refine Rnd.inr ?_
        all_goals first | rfl | (simp only [S0, MSigned.rs, MP]; first | done | rfl)
      · have dc5 := c5
        try simp only [DC] at dc5
        refine Rnd.bif (fun c6 => ?_) (fun c6 => ?_)
        · have dc6 := c6
          try simp only [DC] at dc6
          refine Rnd.yes (by
              refine decide_eq_true ?_
              try simp (disch := omega) only [LN, wi]
              first | omega | (simp; done) | (simp; omega)) ?_
          refine Rnd.yes (by
              have := (H0).1
              refine decide_eq_true ?_
              try simp (disch := omega) only [LN, wi]
              first | omega | (simp; done) | (simp; omega)) ?_
          refine Rnd.call_to (Z104.md ((a0.getD (Int.toNat (IntKind.i64.wrap ((i1 : Int) - 1))) MSigned.zero).fHead) (a0.getD i1 MSigned.zero)) (Z104.R_eq (a0 := (a0.getD (Int.toNat (IntKind.i64.wrap ((i1 : Int) - 1))) MSigned.zero).fHead) (a1 := (a0.getD i1 MSigned.zero)) ⟨(SmL.getD (z := MSigned.zero) H0 (by first | assumption | omega | (simp (disch := omega) only [wi]; omega) | (simp; omega))).1, (SmL.getD (z := MSigned.zero) H0 h2)⟩) ?_
          refine Rnd.bif (fun c7 => ?_) (fun c7 => ?_)
          · refine Rnd.inr ?_
            all_goals first | rfl | (simp only [S0, MSigned.rs, MP]; first | done | rfl)
          · refine Rnd.inl trivial ?_
            rw [wrap_succ h2 Bh2]
            all_goals first | rfl | (simp only [S0, MSigned.rs, MP]; first | done | rfl)
        · refine Rnd.inl trivial ?_
          rw [wrap_succ h2 Bh2]
          all_goals first | rfl | (simp only [S0, MSigned.rs, MP]; first | done | rfl)
    · have dc4 := c4
      try simp only [DC] at dc4
      refine Rnd.bif (fun c8 => ?_) (fun c8 => ?_)
      · have dc8 := c8
        try simp only [DC] at dc8
        refine Rnd.yes (by
            refine decide_eq_true ?_
            try simp (disch := omega) only [LN, wi]
            first | omega | (simp; done) | (simp; omega)) ?_
        refine Rnd.yes (by
            have := (H0).1
            refine decide_eq_true ?_
            try simp (disch := omega) only [LN, wi]
            first | omega | (simp; done) | (simp; omega)) ?_
        refine Rnd.call_to (Z104.md ((a0.getD (Int.toNat (IntKind.i64.wrap ((i1 : Int) - 1))) MSigned.zero).fHead) (a0.getD i1 MSigned.zero)) (Z104.R_eq (a0 := (a0.getD (Int.toNat (IntKind.i64.wrap ((i1 : Int) - 1))) MSigned.zero).fHead) (a1 := (a0.getD i1 MSigned.zero)) ⟨(SmL.getD (z := MSigned.zero) H0 (by first | assumption | omega | (simp (disch := omega) only [wi]; omega) | (simp; omega))).1, (SmL.getD (z := MSigned.zero) H0 h2)⟩) ?_
        refine Rnd.bif (fun c9 => ?_) (fun c9 => ?_)
        · refine Rnd.inr ?_
          all_goals first | rfl | (simp only [S0, MSigned.rs, MP]; first | done | rfl)
        · refine Rnd.inl trivial ?_
          rw [wrap_succ h2 Bh2]
          all_goals first | rfl | (simp only [S0, MSigned.rs, MP]; first | done | rfl)
      · refine Rnd.inl trivial ?_
        rw [wrap_succ h2 Bh2]
        all_goals first | rfl | (simp only [S0, MSigned.rs, MP]; first | done | rfl)
  · simp only [step, S0, MSigned.rs]
    have := (H0).1
    refine ex_no (by apply decide_eq_false; omega) ?_
    refine ⟨0, ?_⟩
    all_goals first | rfl | (simp only [S0, MSigned.rs, MP]; first | done | rfl)
theorem valid_ : Valid Tryz.prog Ev 186 con := VV (run := fun n x => start (iter step n) x) mix tab_ok (.cons Z94.valid_ (.cons Z104.valid_ .nil)) Tryz.func186 (by kernel_rfl) run_eq (fun _ a _ _ hg => okF a hg)
theorem br (a0 : List MSigned) : md a0 = Z51.md a0 := by
  unfold md Z51.md
  rw [← loopM_eachI (z := MSigned.zero), ← loopM_eachI (z := MSigned.zero)]
  refine loopM_congr (fun _ _ => True) (fun i s hi _ => ⟨?_, fun _ _ => trivial⟩) (fun _ _ => rfl) trivial
  simp only [Z94.br, Z104.br]
  by_cases h0 : i = 0
  · subst h0; rfl
  · have e : ((i : Int) == 0) = false := beq_eq_false_iff_ne.2 (by omega)
    simp only [e, cond_false]
end Z105
namespace Z106
def F (x0 : List (List L)) : Ans := (call (Z67.R ((x0.length : Int), 1, 12)) fun v1 => (bif v1 then (call (Z105.R x0) fun v2 => ret ((decide (v2 < 0)) : Bool)) else ret (false : Bool)))
def pats : List Pat := [.rd (.sl 122)]
def res : RP := .one (.rd (.bool))
def md (a0 : List MSigned) : Bool := (bif (Z67.md (a0.length : Int) 1 12) then ((decide ((Z105.md a0) < 0)) : Bool) else (false : Bool))
def gd (a0 : List MSigned) : Prop := (SmL (2 ^ 21) (fun y : MSigned => MSigned.Sm (2 ^ 21) y) a0)
def acc (ls : List L) : List (List L) := (ls.headD .hole).toSl
def R : (List (List L)) → Option Bool := RR gd md
theorem R_eq {a0} (h : gd a0) : R (a0.map MSigned.row) = some (md a0) := RR_eq (a := a0) h
def con : Con := CN pats res acc R
theorem okF (a0 : List MSigned) (hg : gd a0) : F (a0.map MSigned.row) = ret ((md a0) : Bool) := by
 unfold gd at hg
 have H0 := hg
 unfold F md
 try simp only [S0]
 refine call_to (Z67.md (a0.length : Int) 1 12) (Z67.R_eq (a0 := (a0.length : Int)) (a1 := 1) (a2 := 12) trivial) ?_
 refine bif_out ret (fun c1 => ?_) (fun _ => rfl)
 refine call_to (Z105.md a0) (Z105.R_eq (a0 := a0) H0) ?_
 all_goals first | rfl | (simp only [S0, MP]; first | done | rfl)
theorem valid_ : Valid Tryz.prog Ev 133 con := VV (live := fun _ => []) (nt := 11) (run := fun _ x => F x) mix tab_ok (.cons Z67.valid_ (.cons Z105.valid_ .nil)) Tryz.func133 (by kernel_rfl) (fun _ _ => by kernel_rfl) (fun _ a _ _ hg => ⟨0, okF a hg⟩)
theorem tr {a0 : List MSigned} (h : md a0 = true) : 1 ≤ a0.length ∧ a0.length ≤ 12 := by simp [md, Z67.md] at h; omega
theorem br (a0 : List MSigned) : md a0 = Z52.md a0 := by
 unfold md Z52.md
 first
 | (simp only [Z67.br, Z105.br]; done)
 | (simp only [Z67.br, Z105.br]; rfl)
 | rfl
end Z106
namespace Z107
def F (x0 : List (List L)) (x1 : List L) : Ans := (bif (decide ((x0.length : Int) > 0)) then (bif (decide ((0 : Int) < (x0.length : Int))) then ret (((RSigned.at x0 0).fHead.fZone == (iDec x1)) : Bool) else none) else ret (false : Bool))
def pats : List Pat := [.rd (.sl 122), .ptr [.int .i64]]
def res : RP := .one (.rd (.bool))
def md (a0 : List MSigned) (a1 : Int) : Bool := (bif (decide ((a0.length : Int) > 0)) then ((((a0.getD 0 MSigned.zero).fHead).fZone == a1) : Bool) else (false : Bool))
def gd (a0 : List MSigned) (a1 : Int) : Prop := (SmL (2 ^ 21) (fun y : MSigned => MSigned.Sm (2 ^ 21) y) a0)
def acc (ls : List L) : List (List L) × Int := ((ls.headD .hole).toSl, (iDec (padL 1 (dropT 1 ls))))
def R : (List (List L) × Int) → Option Bool := RR (p2 gd) (u2 md)
theorem R_eq {a0} {a1} (h : gd a0 a1) : R ((a0.map MSigned.row), a1) = some (md a0 a1) := RR_eq (a := (a0, a1)) h
def con : Con := CN pats res acc R
theorem okF (a0 : List MSigned) (a1 : Int) (p1 : List L) (e1 : a1 = (iDec p1)) (hg : gd a0 a1) : F (a0.map MSigned.row) p1 = ret ((md a0 a1) : Bool) := by
 unfold gd at hg
 have H0 := hg
 unfold F md
 try simp only [S0, MHead.rs, MSigned.rs, ← e1]
 refine bif_out ret (fun c1 => ?_) (fun _ => rfl)
 have dc1 := c1
 try simp only [DC] at dc1
 refine yes_ret (by
   have := (H0).1
   refine decide_eq_true ?_
   try simp (disch := omega) only [LN, wi]
   first | omega | (simp; done) | (simp; omega)) ?_
 all_goals first | rfl | (simp only [S0, MHead.rs, MSigned.rs, ← e1, MP]; first | done | rfl)
theorem okV (ls : List L) (a : List MSigned × Int) (e : acc ls = Im.im a) (hg : (p2 gd) a) : ∃ n : Nat, F ((ls.headD .hole).toSl) (padL 1 (dropT 1 ls)) = ret (Im.im ((u2 md) a)) := by
 have e0 : (a.1.map MSigned.row) = (ls.headD .hole).toSl := (congrArg (fun x => x.1) e.symm)
 have hn := okF a.1 a.2 (padL 1 (dropT 1 ls)) (congrArg (fun x => x.2) e.symm) hg
 refine ⟨0, ?_⟩
 rw [← e0]
 exact hn
theorem valid_ : Valid Tryz.prog Ev 147 con := VP (live := fun _ => []) (nt := 16) (accr := fun ls => ((ls.headD .hole).toSl, (padL 1 (dropT 1 ls)))) (run := fun _ x => F x.1 x.2) mix tab_ok .nil Tryz.func147 (by kernel_rfl) (fun _ _ => by kernel_rfl) (fun ls a _ e hg => okV ls a e hg)
end Z107
namespace Z108
inductive Pt where
 | p0 (a : List (List L)) (b : List L) (c : Int) (d : Int)
def pid : Pt → Nat
 | .p0 .. => 2
def pvs : Pt → List V
 | .p0 a b c d => [.sl none 38 a, .fn 147 [.cptr none [.int .i64] b 0], .int .i64 c, .int .i64 d]
def phs : Pt → List Root
 | .p0 a b c d => []
def step (J : Pt → Ans) : Pt → Ans
 | .p0 a b c d => (bif (decide (d < c)) then (bif (decide ((0 : Int) ≤ d)) then (bif (decide (d < (a.length : Int))) then (call (Z107.R ((lAt a (Int.toNat d)), (iDec b))) fun v1 => (bif v1 then ret (d : Int) else J (.p0 a b c (IntKind.i64.wrap (d + 1))))) else none) else none) else ret ((-1) : Int))
def start (J : Pt → Ans) (x0 : List (List L)) (x1 : List L) : Ans := J (.p0 x0 x1 (x0.length : Int) 0)
def live : Nat → Live := fun i => match i with | 2 => [(0, none), (1, none), (7, none), (8, none)] | _ => []
def pats : List Pat := [.rd (.sl 38), .fn 147 [[.int .i64]]]
def res : RP := .one (.rd (.int .i64))
abbrev E : Env := { T := assoc Tab, G := conG [(147, Z107.con)], nt := 19 }
theorem step_eq (I : Heads) (p : Pt) : enterC E live I (pid p) (bodyOf Tryz.f146) (stOf (live (pid p)) (pvs p) (phs p)) (doneK E Tryz.f146 res) = step (fun q => I (pid q) (pvs q) (phs q)) p := by
 cases p <;> kernel_rfl
theorem start_eq (I : Heads) (ls : List L) : runC E live I (bodyOf Tryz.f146) (initS pats ls) (doneK E Tryz.f146 res) = start (fun q => I (pid q) (pvs q) (phs q)) (ls.headD .hole).toSl (padL 1 (dropT 1 ls)) := by kernel_rfl
theorem run_eq (n : Nat) (ls : List L) : runF E live Tryz.f146 res n (initS pats ls) = start (iter step n) (ls.headD .hole).toSl (padL 1 (dropT 1 ls)) := runF_iter (id := pid) (vs := pvs) (hs := phs) (step := step) (start := fun J => start J (ls.headD .hole).toSl (padL 1 (dropT 1 ls))) step_eq (fun I => start_eq I ls) n
def md (a0 : List (List MSigned)) (a1 : Int) : Int := (eachI (S := Unit) (β := Int) (fun (i1 : Nat) (y1 : List MSigned) (s3 : Unit) => (bif (Z107.md y1 a1) then (.inr ((i1 : Int) : Int)) else (.inl ()))) (fun (s3 : Unit) => ((-1) : Int)) 0 a0 ())
def gd (a0 : List (List MSigned)) (a1 : Int) : Prop := (SmL (2 ^ 21) (fun y : List MSigned => SmL (2 ^ 21) (fun y : MSigned => MSigned.Sm (2 ^ 21) y) y) a0)
def acc (ls : List L) : List (List L) × Int := ((ls.headD .hole).toSl, (iDec (padL 1 (dropT 1 ls))))
def R : (List (List L) × Int) → Option Int := RR (p2 gd) (u2 md)
theorem R_eq {a0} {a1} (h : gd a0 a1) : R ((a0.map (lRow MSigned.row)), a1) = some (md a0 a1) := RR_eq (a := (a0, a1)) h
def con : Con := CN pats res acc R
theorem okF (a0 : List (List MSigned)) (a1 : Int) (p1 : List L) (e1 : a1 = (iDec p1)) (hg : gd a0 a1) : ∃ n, start (iter step n) (a0.map (lRow MSigned.row)) p1 = ret ((md a0 a1) : Int) := by
  unfold gd at hg
  have H0 := hg
  unfold start md
  try simp only [S0, ← e1]
  have Bh2 : a0.length ≤ maxLen := (by
      have := (H0).1
      try simp only [maxLen] at *
      omega)
  refine ex_eq (out := ret) (loopM_eachI (z := [])) ?_
  refine ex_pt (p := Pt.p0 (a0.map (lRow MSigned.row)) p1 (a0.length : Int) 0) (by first | rfl | (simp only [S0, ← e1, MP]; done) | (simp only [MP]; rfl)) ?_
  refine loopM_ok (pt := fun (i1 : Nat) (s3 : Unit) => Pt.p0 (a0.map (lRow MSigned.row)) p1 (a0.length : Int) (i1 : Int)) (s := (() : Unit)) (out := ret) (fun _ _ => True) (fun J i1 s3 h2 hih2 => ?_) (fun s3 hih2 => ?_) trivial
  · simp only [step, S0, ← e1]
    have bb_ := Bh2
    simp only [maxLen] at bb_
    have := (H0).1
    refine Rnd.yes (by apply decide_eq_true; omega) ?_
    refine Rnd.yes zle_dec ?_
    refine Rnd.yes (lt_dec h2) ?_
    refine Rnd.call_to (Z107.md (a0.getD i1 []) a1) (Z107.R_eq (a0 := (a0.getD i1 [])) (a1 := a1) (SmL.getD (z := []) H0 h2)) ?_
    refine Rnd.bif (fun c4 => ?_) (fun c4 => ?_)
    · refine Rnd.inr ?_
      all_goals first | rfl | (simp only [S0, ← e1, MP]; first | done | rfl)
    · refine Rnd.inl trivial ?_
      rw [wrap_succ h2 Bh2]
      all_goals first | rfl | (simp only [S0, ← e1, MP]; first | done | rfl)
  · simp only [step, S0, ← e1]
    have := (H0).1
    refine ex_no (by apply decide_eq_false; omega) ?_
    refine ⟨0, ?_⟩
    all_goals first | rfl | (simp only [S0, ← e1, MP]; first | done | rfl)
theorem okV (ls : List L) (a : List (List MSigned) × Int) (e : acc ls = Im.im a) (hg : (p2 gd) a) : ∃ n : Nat, start (iter step n) ((ls.headD .hole).toSl) (padL 1 (dropT 1 ls)) = ret (Im.im ((u2 md) a)) := by
 have e0 : (a.1.map (lRow MSigned.row)) = (ls.headD .hole).toSl := (congrArg (fun x => x.1) e.symm)
 obtain ⟨n, hn⟩ := okF a.1 a.2 (padL 1 (dropT 1 ls)) (congrArg (fun x => x.2) e.symm) hg
 refine ⟨n, ?_⟩
 rw [← e0]
 exact hn
theorem valid_ : Valid Tryz.prog Ev 146 con := VP (accr := fun ls => ((ls.headD .hole).toSl, (padL 1 (dropT 1 ls)))) (run := fun n x => start (iter step n) x.1 x.2) mix tab_ok (.cons Z107.valid_ .nil) Tryz.func146 (by kernel_rfl) run_eq (fun ls a _ e hg => okV ls a e hg)
theorem fa (a0 : List (List MSigned)) (a1 : Int) : -1 ≤ md a0 a1 ∧ md a0 a1 < (a0.length : Int) := by
 unfold md
 refine eachI_fa0 ?_ _ _
 all_goals
  intro i x s b h
  revert h
  simp only [Bool.cond_eq_ite]
  repeat' split
  all_goals (intro h; first | (cases h; rfl) | cases h)
theorem idx_eq (a0 : List (List MSigned)) (a1 : Int) : md a0 a1 = findI (fun y => Z107.md y a1) 0 a0 := by
 unfold md
 exact eachI_find
end Z108
namespace Z109
def F (x0 : RKnown) (x1 : Int) : Ans := (call (Z108.R (x0.fChains, x1)) fun v1 => ret (v1 : Int))
def pats : List Pat := [.agg [.sl 38, .sl 134], .rd (.int .i64)]
def res : RP := .one (.rd (.int .i64))
def md (a0 : MKnown) (a1 : Int) : Int := ((Z108.md a0.fChains a1) : Int)
def gd (a0 : MKnown) (a1 : Int) : Prop := (MKnown.Sm (2 ^ 21) a0)
def acc (ls : List L) : RKnown × Int := ((RKnown.dec ls), ((dropT 2 ls).headD .hole).toInt)
def R : (RKnown × Int) → Option Int := RR (p2 gd) (u2 md)
theorem R_eq {a0} {a1} (h : gd a0 a1) : R ((MKnown.r a0), a1) = some (md a0 a1) := RR_eq (a := (a0, a1)) h
def con : Con := CN pats res acc R
theorem okF (a0 : MKnown) (a1 : Int) (hg : gd a0 a1) : F (MKnown.r a0) a1 = ret ((md a0 a1) : Int) := by
 unfold gd at hg
 have H0 := hg
 unfold F md
 try simp only [S0, MKnown.rs]
 refine call_to (Z108.md a0.fChains a1) (Z108.R_eq (a0 := a0.fChains) (a1 := a1) H0.1) ?_
 have fv1_ := Z108.fa a0.fChains a1
 all_goals first | rfl | (simp only [S0, MKnown.rs, MP]; first | done | rfl)
theorem valid_ : Valid Tryz.prog Ev 83 con := VV (live := fun _ => []) (nt := 9) (run := fun _ x => F x.1 x.2) mix tab_ok (.cons Z108.valid_ .nil) Tryz.func83 (by kernel_rfl) (fun _ _ => by kernel_rfl) (fun _ a _ _ hg => ⟨0, okF a.1 a.2 hg⟩)
theorem fa (a0 : MKnown) (a1 : Int) : -1 ≤ md a0 a1 ∧ md a0 a1 < (a0.fChains.length : Int) := by unfold md; exact Z108.fa _ _
theorem br (a0 : MKnown) (a1 : Int) : md a0 a1 = Z53.md a0 a1 := by
 unfold md Z53.md
 rw [Z108.idx_eq]
 symm
 refine eachI_find' (fun i x s => ?_) _ _ _
 unfold Z107.md
 cases decide ((x.length : Int) > 0) <;> first | rfl | (cases ((x.getD 0 MSigned.zero).fHead).fZone == a1 <;> rfl)
end Z109
namespace Z110
def F (x0 : RHead) (x1 : RHead) : Ans := (call (Z99.R (x0.fKeys, x1.fKeys)) fun v1 => (bif v1 then (call (Z99.R (x0.fHeirs, x1.fHeirs)) fun v2 => (bif v2 then (call (Z99.R (x0.fJudge, x1.fJudge)) fun v3 => (bif v3 then (call (Z84.R x0) fun v4 => (call (Z84.R x1) fun v5 => (call (Z98.R (v4, v5)) fun v6 => ret (v6 : Bool)))) else ret (false : Bool))) else ret (false : Bool))) else ret (false : Bool)))
def pats : List Pat := [.agg [.int .i64, .int .i64, .int .i64, .int .i64, .int .i64, .int .i64, .int .i64, .int .i64, .sl 3, .int .i64, .sl 3, .int .i64, .int .i64, .sl 3, .int .i64, .bool], .agg [.int .i64, .int .i64, .int .i64, .int .i64, .int .i64, .int .i64, .int .i64, .int .i64, .sl 3, .int .i64, .sl 3, .int .i64, .int .i64, .sl 3, .int .i64, .bool]]
def res : RP := .one (.rd (.bool))
def md (a0 : MHead) (a1 : MHead) : Bool := (bif (Z99.md a0.fKeys a1.fKeys) then (bif (Z99.md a0.fHeirs a1.fHeirs) then (bif (Z99.md a0.fJudge a1.fJudge) then ((Z98.md (Z84.md a0) (Z84.md a1)) : Bool) else (false : Bool)) else (false : Bool)) else (false : Bool))
def gd (a0 : MHead) (a1 : MHead) : Prop := (MHead.Sm (2 ^ 21) a0) ∧ (MHead.Sm (2 ^ 21) a1)
def acc (ls : List L) : RHead × RHead := ((RHead.dec ls), (RHead.dec (dropT 16 ls)))
def R : (RHead × RHead) → Option Bool := RR (p2 gd) (u2 md)
theorem R_eq {a0} {a1} (h : gd a0 a1) : R ((MHead.r a0), (MHead.r a1)) = some (md a0 a1) := RR_eq (a := (a0, a1)) h
def con : Con := CN pats res acc R
theorem okF (a0 : MHead) (a1 : MHead) (hg : gd a0 a1) : F (MHead.r a0) (MHead.r a1) = ret ((md a0 a1) : Bool) := by
 unfold gd at hg
 obtain ⟨H0, H1⟩ := hg
 unfold F md
 try simp only [S0, MHead.rs]
 refine call_to (Z99.md a0.fKeys a1.fKeys) (Z99.R_eq (a0 := a0.fKeys) (a1 := a1.fKeys) ⟨H0.1, H1.1⟩) ?_
 refine bif_out ret (fun c1 => ?_) (fun _ => rfl)
 refine call_to (Z99.md a0.fHeirs a1.fHeirs) (Z99.R_eq (a0 := a0.fHeirs) (a1 := a1.fHeirs) ⟨H0.2.1, H1.2.1⟩) ?_
 refine bif_out ret (fun c2 => ?_) (fun _ => rfl)
 refine call_to (Z99.md a0.fJudge a1.fJudge) (Z99.R_eq (a0 := a0.fJudge) (a1 := a1.fJudge) ⟨H0.2.2, H1.2.2⟩) ?_
 refine bif_out ret (fun c3 => ?_) (fun _ => rfl)
 refine call_to ((Z84.md a0).map iRow) (Z84.R_eq (a0 := a0) H0) ?_
 try simp only [S0, MHead.rs]
 refine call_to ((Z84.md a1).map iRow) (Z84.R_eq (a0 := a1) H1) ?_
 try simp only [S0, MHead.rs]
 refine call_to (Z98.md (Z84.md a0) (Z84.md a1)) (Z98.R_eq (a0 := (Z84.md a0)) (a1 := (Z84.md a1)) ⟨⟨(by
   have := Z84.len a0
   have := (H0.1).1
   have := (H0.2.1).1
   have := (H0.2.2).1
   try simp (disch := omega) only [LN, wi]
   first | omega | (simp; done) | (simp; omega)), fun _ _ => trivial⟩, ⟨(by
   have := Z84.len a1
   have := (H1.1).1
   have := (H1.2.1).1
   have := (H1.2.2).1
   try simp (disch := omega) only [LN, wi]
   first | omega | (simp; done) | (simp; omega)), fun _ _ => trivial⟩⟩) ?_
 all_goals first | rfl | (simp only [S0, MHead.rs, MP]; first | done | rfl)
theorem valid_ : Valid Tryz.prog Ev 148 con := VV (live := fun _ => []) (nt := 31) (run := fun _ x => F x.1 x.2) mix tab_ok (.cons Z99.valid_ (.cons Z84.valid_ (.cons Z98.valid_ .nil))) Tryz.func148 (by kernel_rfl) (fun _ _ => by kernel_rfl) (fun _ a _ _ hg => ⟨0, okF a.1 a.2 hg⟩)
theorem md_eq (a0 : MHead) (a1 : MHead) : md a0 a1 = eqB a0 a1 := by
  unfold md
  simp only [Z98.md_eq, Z99.md_eq, Z84.br]
  rw [Bool.eq_iff_iff]
  constructor
  · intro h
    simp only [and_p, Bool.and_eq_true] at h
    exact eqB_iff.2 (Z35.inj (eqB_iff.1 h.2.2.2))
  · intro h
    rw [eqB_iff] at h
    rw [h]
    simp only [eqB_refl]; rfl
end Z110
namespace Z111
inductive Pt where
 | p0 (a : List (List L)) (b : List (List L)) (c : Int) (d : Int)
def pid : Pt → Nat
 | .p0 .. => 4
def pvs : Pt → List V
 | .p0 a b c d => [.sl none 122 a, .sl none 122 b, .int .i64 c, .int .i64 d]
def phs : Pt → List Root
 | .p0 a b c d => []
def step (J : Pt → Ans) : Pt → Ans
 | .p0 a b c d => (bif (decide (d < c)) then (bif (decide ((0 : Int) ≤ d)) then (bif (decide (d < (b.length : Int))) then (bif (decide ((0 : Int) ≤ d)) then (bif (decide (d < (a.length : Int))) then (call (Z110.R ((RSigned.at b (Int.toNat d)).fHead, (RSigned.at a (Int.toNat d)).fHead)) fun v1 => (bif (!v1) then ret (false : Bool) else J (.p0 a b c (IntKind.i64.wrap (d + 1))))) else none) else none) else none) else none) else ret (true : Bool))
def start (J : Pt → Ans) (x0 : List (List L)) (x1 : List (List L)) : Ans := (bif (decide ((x0.length : Int) > (x1.length : Int))) then ret (false : Bool) else J (.p0 x1 x0 (x0.length : Int) 0))
def live : Nat → Live := fun i => match i with | 4 => [(1, none), (12, none), (13, none), (14, none)] | _ => []
def pats : List Pat := [.rd (.sl 122), .rd (.sl 122)]
def res : RP := .one (.rd (.bool))
abbrev E : Env := { T := assoc Tab, G := conG [(148, Z110.con)], nt := 29 }
theorem step_eq (I : Heads) (p : Pt) : enterC E live I (pid p) (bodyOf Tryz.f144) (stOf (live (pid p)) (pvs p) (phs p)) (doneK E Tryz.f144 res) = step (fun q => I (pid q) (pvs q) (phs q)) p := by
 cases p <;> kernel_rfl
theorem start_eq (I : Heads) (ls : List L) : runC E live I (bodyOf Tryz.f144) (initS pats ls) (doneK E Tryz.f144 res) = start (fun q => I (pid q) (pvs q) (phs q)) (ls.headD .hole).toSl ((dropT 1 ls).headD .hole).toSl := by kernel_rfl
theorem run_eq (n : Nat) (ls : List L) : runF E live Tryz.f144 res n (initS pats ls) = start (iter step n) (ls.headD .hole).toSl ((dropT 1 ls).headD .hole).toSl := runF_iter (id := pid) (vs := pvs) (hs := phs) (step := step) (start := fun J => start J (ls.headD .hole).toSl ((dropT 1 ls).headD .hole).toSl) step_eq (fun I => start_eq I ls) n
def md (a0 : List MSigned) (a1 : List MSigned) : Bool := (bif (decide ((a0.length : Int) > (a1.length : Int))) then (false : Bool) else (loopM (S := Unit) (β := Bool) (fun (i2 : Nat) (s4 : Unit) => (bif (!(Z110.md ((a0.getD i2 MSigned.zero).fHead) ((a1.getD i2 MSigned.zero).fHead))) then (.inr (false : Bool)) else (.inl ()))) (fun (s4 : Unit) => (true : Bool)) a0.length 0 ()))
def gd (a0 : List MSigned) (a1 : List MSigned) : Prop := (SmL (2 ^ 21) (fun y : MSigned => MSigned.Sm (2 ^ 21) y) a0) ∧ (SmL (2 ^ 21) (fun y : MSigned => MSigned.Sm (2 ^ 21) y) a1)
def acc (ls : List L) : List (List L) × List (List L) := ((ls.headD .hole).toSl, ((dropT 1 ls).headD .hole).toSl)
def R : (List (List L) × List (List L)) → Option Bool := RR (p2 gd) (u2 md)
theorem R_eq {a0} {a1} (h : gd a0 a1) : R ((a0.map MSigned.row), (a1.map MSigned.row)) = some (md a0 a1) := RR_eq (a := (a0, a1)) h
def con : Con := CN pats res acc R
theorem okF (a0 : List MSigned) (a1 : List MSigned) (hg : gd a0 a1) : ∃ n, start (iter step n) (a0.map MSigned.row) (a1.map MSigned.row) = ret ((md a0 a1) : Bool) := by
  unfold gd at hg
  obtain ⟨H0, H1⟩ := hg
  unfold start md
  try simp only [S0, MSigned.rs]
  refine ex_bif ret (fun _ => ⟨0, rfl⟩) (fun c1 => ?_)
  have dc1 := c1
  try simp only [DC] at dc1
  have Bh3 : a0.length ≤ maxLen := (by
      have := (H0).1
      try simp only [maxLen] at *
      omega)
  refine ex_pt (p := Pt.p0 (a1.map MSigned.row) (a0.map MSigned.row) (a0.length : Int) 0) (by first | rfl | (simp only [S0, MSigned.rs, MP]; done) | (simp only [MP]; rfl)) ?_
  refine loopM_ok (pt := fun (i2 : Nat) (s4 : Unit) => Pt.p0 (a1.map MSigned.row) (a0.map MSigned.row) (a0.length : Int) (i2 : Int)) (s := (() : Unit)) (out := ret) (fun _ _ => True) (fun J i2 s4 h3 hih3 => ?_) (fun s4 hih3 => ?_) trivial
  · simp only [step, S0, MSigned.rs]
    have bb_ := Bh3
    simp only [maxLen] at bb_
    have := (H0).1
    refine Rnd.yes (by apply decide_eq_true; omega) ?_
    refine Rnd.yes zle_dec ?_
    refine Rnd.yes (lt_dec h3) ?_
    refine Rnd.yes zle_dec ?_
    refine Rnd.yes (by
        have := (H1).1
        refine decide_eq_true ?_
        try simp (disch := omega) only [LN, wi]
        first | omega | (simp; done) | (simp; omega)) ?_
    refine Rnd.call_to (Z110.md ((a0.getD i2 MSigned.zero).fHead) ((a1.getD i2 MSigned.zero).fHead)) (Z110.R_eq (a0 := (a0.getD i2 MSigned.zero).fHead) (a1 := (a1.getD i2 MSigned.zero).fHead) ⟨(SmL.getD (z := MSigned.zero) H0 h3).1, (SmL.getD (z := MSigned.zero) H1 (by first | assumption | omega | (simp (disch := omega) only [wi]; omega) | (simp; omega))).1⟩) ?_
    refine Rnd.bif (fun _ => Rnd.inr rfl) (fun c5 => ?_)
    refine Rnd.inl trivial ?_
    rw [wrap_succ h3 Bh3]
    all_goals first | rfl | (simp only [S0, MSigned.rs, MP]; first | done | rfl)
  · simp only [step, S0, MSigned.rs]
    have := (H0).1
    refine ex_no (by apply decide_eq_false; omega) ?_
    refine ⟨0, ?_⟩
    all_goals first | rfl | (simp only [S0, MSigned.rs, MP]; first | done | rfl)
theorem valid_ : Valid Tryz.prog Ev 144 con := VV (run := fun n x => start (iter step n) x.1 x.2) mix tab_ok (.cons Z110.valid_ .nil) Tryz.func144 (by kernel_rfl) run_eq (fun _ a _ _ hg => okF a.1 a.2 hg)
theorem br (a0 : List MSigned) (a1 : List MSigned) : md a0 a1 = Z55.md a0 a1 := by
 unfold md Z55.md
 first
 | (simp only [Z110.md_eq, Z54.md_eq]; done)
 | (simp only [Z110.md_eq, Z54.md_eq]; rfl)
 | rfl
end Z111
namespace Z112
def F (x0 : RKnown) (x1 : List (List L)) : Ans := (call (Z106.R x1) fun v1 => (bif (!v1) then ret (6 : Int) else (bif (decide ((0 : Int) < (x1.length : Int))) then (call (Z109.R (x0, (RSigned.at x1 0).fHead.fZone)) fun v2 => (bif (decide (v2 < 0)) then ret (1 : Int) else (bif (decide ((0 : Int) ≤ v2)) then (bif (decide (v2 < (x0.fChains.length : Int))) then (call (Z111.R ((lAt x0.fChains (Int.toNat v2)), x1)) fun v3 => (bif (decide ((0 : Int) ≤ v2)) then (bif (decide (v2 < (x0.fChains.length : Int))) then (call (Z111.R (x1, (lAt x0.fChains (Int.toNat v2)))) fun v4 => (bif v3 then (bif v4 then ret (2 : Int) else (bif v3 then ret (3 : Int) else (bif v4 then ret (4 : Int) else ret (5 : Int)))) else (bif v3 then ret (3 : Int) else (bif v4 then ret (4 : Int) else ret (5 : Int))))) else none) else none)) else none) else none))) else none)))
def pats : List Pat := [.agg [.sl 38, .sl 134], .rd (.sl 122)]
def res : RP := .one (.rd (.int .i64))
def md (a0 : MKnown) (a1 : List MSigned) : Int := (bif (!(Z106.md a1)) then (6 : Int) else (bif (decide ((Z109.md a0 (((a1.getD 0 MSigned.zero).fHead).fZone)) < 0)) then (1 : Int) else (bif (Z111.md (a0.fChains.getD (Int.toNat (Z109.md a0 (((a1.getD 0 MSigned.zero).fHead).fZone))) []) a1) then (bif (Z111.md a1 (a0.fChains.getD (Int.toNat (Z109.md a0 (((a1.getD 0 MSigned.zero).fHead).fZone))) [])) then (2 : Int) else (bif (Z111.md (a0.fChains.getD (Int.toNat (Z109.md a0 (((a1.getD 0 MSigned.zero).fHead).fZone))) []) a1) then (3 : Int) else (bif (Z111.md a1 (a0.fChains.getD (Int.toNat (Z109.md a0 (((a1.getD 0 MSigned.zero).fHead).fZone))) [])) then (4 : Int) else (5 : Int)))) else (bif (Z111.md (a0.fChains.getD (Int.toNat (Z109.md a0 (((a1.getD 0 MSigned.zero).fHead).fZone))) []) a1) then (3 : Int) else (bif (Z111.md a1 (a0.fChains.getD (Int.toNat (Z109.md a0 (((a1.getD 0 MSigned.zero).fHead).fZone))) [])) then (4 : Int) else (5 : Int))))))
def gd (a0 : MKnown) (a1 : List MSigned) : Prop := (MKnown.Sm (2 ^ 21) a0) ∧ (SmL (2 ^ 21) (fun y : MSigned => MSigned.Sm (2 ^ 21) y) a1)
def acc (ls : List L) : RKnown × List (List L) := ((RKnown.dec ls), ((dropT 2 ls).headD .hole).toSl)
def R : (RKnown × List (List L)) → Option Int := RR (p2 gd) (u2 md)
theorem R_eq {a0} {a1} (h : gd a0 a1) : R ((MKnown.r a0), (a1.map MSigned.row)) = some (md a0 a1) := RR_eq (a := (a0, a1)) h
def con : Con := CN pats res acc R
theorem okF (a0 : MKnown) (a1 : List MSigned) (hg : gd a0 a1) : F (MKnown.r a0) (a1.map MSigned.row) = ret ((md a0 a1) : Int) := by
  unfold gd at hg
  obtain ⟨H0, H1⟩ := hg
  unfold F md
  try simp only [S0, MHead.rs, MSigned.rs, MKnown.rs]
  refine call_to (Z106.md a1) (Z106.R_eq (a0 := a1) H1) ?_
  refine bif_out ret (fun _ => rfl) (fun c1 => ?_)
  have dc1 := c1
  try simp only [DC] at dc1
  try have tc1 := Z106.tr (by simpa using c1)
  refine yes_ret (by
      have := (H1).1
      refine decide_eq_true ?_
      try simp (disch := omega) only [LN, wi]
      first | omega | (simp; done) | (simp; omega)) ?_
  refine call_to (Z109.md a0 (((a1.getD 0 MSigned.zero).fHead).fZone)) (Z109.R_eq (a0 := a0) (a1 := ((a1.getD 0 MSigned.zero).fHead).fZone) H0) ?_
  have fv2_ := Z109.fa a0 (((a1.getD 0 MSigned.zero).fHead).fZone)
  refine bif_out ret (fun _ => rfl) (fun c2 => ?_)
  have dc2 := c2
  try simp only [DC] at dc2
  refine yes_ret (by
      refine decide_eq_true ?_
      try simp (disch := omega) only [LN, wi]
      first | omega | (simp; done) | (simp; omega)) ?_
  refine yes_ret (by
      have := (H0.1).1
      refine decide_eq_true ?_
      try simp (disch := omega) only [LN, wi]
      first | omega | (simp; done) | (simp; omega)) ?_
  refine call_to (Z111.md (a0.fChains.getD (Int.toNat (Z109.md a0 (((a1.getD 0 MSigned.zero).fHead).fZone))) []) a1) (Z111.R_eq (a0 := (a0.fChains.getD (Int.toNat (Z109.md a0 (((a1.getD 0 MSigned.zero).fHead).fZone))) [])) (a1 := a1) ⟨(SmL.getD (z := []) H0.1 (by first | assumption | omega | (simp (disch := omega) only [wi]; omega) | (simp; omega))), H1⟩) ?_
  refine yes_ret (by
      refine decide_eq_true ?_
      try simp (disch := omega) only [LN, wi]
      first | omega | (simp; done) | (simp; omega)) ?_
  refine yes_ret (by
      have := (H0.1).1
      refine decide_eq_true ?_
      try simp (disch := omega) only [LN, wi]
      first | omega | (simp; done) | (simp; omega)) ?_
  refine call_to (Z111.md a1 (a0.fChains.getD (Int.toNat (Z109.md a0 (((a1.getD 0 MSigned.zero).fHead).fZone))) [])) (Z111.R_eq (a0 := a1) (a1 := (a0.fChains.getD (Int.toNat (Z109.md a0 (((a1.getD 0 MSigned.zero).fHead).fZone))) [])) ⟨H1, (SmL.getD (z := []) H0.1 (by first | assumption | omega | (simp (disch := omega) only [wi]; omega) | (simp; omega)))⟩) ?_
  refine bif_out ret (fun c3 => ?_) (fun c3 => ?_)
  · refine bif_out ret (fun _ => rfl) (fun c4 => ?_)
    refine bif_out ret (fun _ => rfl) (fun c5 => ?_)
    refine bif_out ret (fun _ => rfl) (fun _ => rfl)
  · refine bif_out ret (fun _ => rfl) (fun c7 => ?_)
    refine bif_out ret (fun _ => rfl) (fun _ => rfl)
theorem valid_ : Valid Tryz.prog Ev 81 con := VV (live := fun _ => []) (nt := 43) (run := fun _ x => F x.1 x.2) mix tab_ok (.cons Z106.valid_ (.cons Z109.valid_ (.cons Z111.valid_ .nil))) Tryz.func81 (by kernel_rfl) (fun _ _ => by kernel_rfl) (fun _ a _ _ hg => ⟨0, okF a.1 a.2 hg⟩)
theorem fa (a0 : MKnown) (a1 : List MSigned) : (md a0 a1 = 3 → 1 ≤ a1.length ∧ 0 ≤ Z109.md a0 (a1.getD 0 MSigned.zero).fHead.fZone) ∧ (md a0 a1 = 5 → 1 ≤ a1.length ∧ 0 ≤ Z109.md a0 (a1.getD 0 MSigned.zero).fHead.fZone) := by
  unfold md
  cases h : Z106.md a1
  · exact ⟨fun h => by simp at h, fun h => by simp at h⟩
  · have t := Z106.tr h
    cases hf : decide (Z109.md a0 ((a1.getD 0 MSigned.zero).fHead.fZone) < 0)
    · have := of_decide_eq_false hf
      exact ⟨fun _ => ⟨t.1, by omega⟩, fun _ => ⟨t.1, by omega⟩⟩
    · exact ⟨fun h => by simp at h, fun h => by simp at h⟩
theorem br (a0 : MKnown) (a1 : List MSigned) : md a0 a1 = Z56.md a0 a1 := by
 unfold md Z56.md
 first
 | (simp only [Z106.br, Z109.br, Z111.br]; done)
 | (simp only [Z106.br, Z109.br, Z111.br]; rfl)
 | rfl
end Z112
namespace Z113
inductive Pt where
 | p0 (a : List (List L)) (b : List (List L)) (c : Int) (d : Int) (e : Int) (f : Int) (g : Int) (h : Int) (i : Int) (j : Int) (k : Int) (l : Int) (m : Int) (n : Int) (o : Int) (p : Bool) (q : Int) (s : Int) (t : Int) (u : Int) (v : Int) (w : Int) (y : Int) (z : Int) (w24 : Int) (w25 : Int) (w26 : Int) (w27 : Int) (w28 : Bool) (w29 : Int) (w30 : Int) (w31 : Int) (w32 : Int) (w33 : Int) (w34 : Int) (w35 : Int) (w36 : Int) (w37 : Int) (w38 : Int) (w39 : Int) (w40 : Int) (w41 : Bool)
def pid : Pt → Nat
 | .p0 .. => 4
def pvs : Pt → List V
 | .p0 a b c d e f g h i j k l m n o p q s t u v w y z w24 w25 w26 w27 w28 w29 w30 w31 w32 w33 w34 w35 w36 w37 w38 w39 w40 w41 => [.sl none 122 a, .sl none 122 b, .bptr 0 0, .int .i64 c]
def phs : Pt → List Root
 | .p0 a b c d e f g h i j k l m n o p q s t u v w y z w24 w25 w26 w27 w28 w29 w30 w31 w32 w33 w34 w35 w36 w37 w38 w39 w40 w41 => [.box [.int .i64 d, .int .i64 e, .int .i64 f, .int .i64 g, .int .i64 h, .int .i64 i, .int .i64 j, .int .i64 k, .nil, .int .i64 l, .nil, .int .i64 m, .int .i64 n, .nil, .int .i64 o, .bool p, .nil, .int .i64 q, .int .i64 s, .int .i64 t, .int .i64 u, .int .i64 v, .int .i64 w, .int .i64 y, .int .i64 z, .nil, .int .i64 w24, .nil, .int .i64 w25, .int .i64 w26, .nil, .int .i64 w27, .bool w28, .nil, .int .i64 w29, .int .i64 w30, .int .i64 w31, .int .i64 w32, .int .i64 w33, .int .i64 w34, .int .i64 w35, .int .i64 w36, .nil, .int .i64 w37, .nil, .int .i64 w38, .int .i64 w39, .nil, .int .i64 w40, .bool w41, .nil]]
def step (J : Pt → Ans) : Pt → Ans
 | .p0 a b c d e f g h i j k l m n o p q s t u v w y z w24 w25 w26 w27 w28 w29 w30 w31 w32 w33 w34 w35 w36 w37 w38 w39 w40 w41 => (bif (decide ((0 : Int) ≤ c)) then (bif (decide (c < (a.length : Int))) then (bif (decide ((0 : Int) ≤ c)) then (bif (decide (c < (b.length : Int))) then (call (Z110.R ((RSigned.at a (Int.toNat c)).fHead, (RSigned.at b (Int.toNat c)).fHead)) fun v1 => (bif v1 then J (.p0 a b (IntKind.i64.wrap (c + 1)) d e f g h i j k l m n o p q s t u v w y z w24 w25 w26 w27 w28 w29 w30 w31 w32 w33 w34 w35 w36 w37 w38 w39 w40 w41) else (bif (decide ((0 : Int) ≤ c)) then (bif (decide (c < (a.length : Int))) then (call (Z63.R (RSigned.at a (Int.toNat c))) fun v2 => (bif (decide ((0 : Int) ≤ c)) then (bif (decide (c < (b.length : Int))) then (call (Z63.R (RSigned.at b (Int.toNat c))) fun v3 => (bif (decide (c > 0)) then (bif (decide ((0 : Int) ≤ (IntKind.i64.wrap (c - 1)))) then (bif (decide ((IntKind.i64.wrap (c - 1)) < (a.length : Int))) then (call (Z63.R (RSigned.at a (Int.toNat (IntKind.i64.wrap (c - 1))))) fun v4 => ret (((⟨v4, v2, v3⟩ : RFork), true) : RFork × Bool)) else none) else none) else ret (((⟨(⟨(⟨0, 0, 0, 0, 0, 0, 0, 0, (⟨[], 0⟩ : RKeys), (⟨[], 0⟩ : RKeys), 0, (⟨[], 0⟩ : RKeys), false⟩ : RHead), []⟩ : RSigned), v2, v3⟩ : RFork), true) : RFork × Bool))) else none) else none)) else none) else none))) else none) else none) else none) else none)
def start (J : Pt → Ans) (x0 : List (List L)) (x1 : List (List L)) : Ans := (call (Z106.R x0) fun v1 => (bif (!v1) then ret (((⟨(⟨(⟨0, 0, 0, 0, 0, 0, 0, 0, (⟨[], 0⟩ : RKeys), (⟨[], 0⟩ : RKeys), 0, (⟨[], 0⟩ : RKeys), false⟩ : RHead), []⟩ : RSigned), (⟨(⟨0, 0, 0, 0, 0, 0, 0, 0, (⟨[], 0⟩ : RKeys), (⟨[], 0⟩ : RKeys), 0, (⟨[], 0⟩ : RKeys), false⟩ : RHead), []⟩ : RSigned), (⟨(⟨0, 0, 0, 0, 0, 0, 0, 0, (⟨[], 0⟩ : RKeys), (⟨[], 0⟩ : RKeys), 0, (⟨[], 0⟩ : RKeys), false⟩ : RHead), []⟩ : RSigned)⟩ : RFork), false) : RFork × Bool) else (call (Z106.R x1) fun v2 => (bif (!v2) then ret (((⟨(⟨(⟨0, 0, 0, 0, 0, 0, 0, 0, (⟨[], 0⟩ : RKeys), (⟨[], 0⟩ : RKeys), 0, (⟨[], 0⟩ : RKeys), false⟩ : RHead), []⟩ : RSigned), (⟨(⟨0, 0, 0, 0, 0, 0, 0, 0, (⟨[], 0⟩ : RKeys), (⟨[], 0⟩ : RKeys), 0, (⟨[], 0⟩ : RKeys), false⟩ : RHead), []⟩ : RSigned), (⟨(⟨0, 0, 0, 0, 0, 0, 0, 0, (⟨[], 0⟩ : RKeys), (⟨[], 0⟩ : RKeys), 0, (⟨[], 0⟩ : RKeys), false⟩ : RHead), []⟩ : RSigned)⟩ : RFork), false) : RFork × Bool) else (bif (decide ((0 : Int) < (x0.length : Int))) then (bif (decide ((0 : Int) < (x1.length : Int))) then (bif ((RSigned.at x0 0).fHead.fZone != (RSigned.at x1 0).fHead.fZone) then ret (((⟨(⟨(⟨0, 0, 0, 0, 0, 0, 0, 0, (⟨[], 0⟩ : RKeys), (⟨[], 0⟩ : RKeys), 0, (⟨[], 0⟩ : RKeys), false⟩ : RHead), []⟩ : RSigned), (⟨(⟨0, 0, 0, 0, 0, 0, 0, 0, (⟨[], 0⟩ : RKeys), (⟨[], 0⟩ : RKeys), 0, (⟨[], 0⟩ : RKeys), false⟩ : RHead), []⟩ : RSigned), (⟨(⟨0, 0, 0, 0, 0, 0, 0, 0, (⟨[], 0⟩ : RKeys), (⟨[], 0⟩ : RKeys), 0, (⟨[], 0⟩ : RKeys), false⟩ : RHead), []⟩ : RSigned)⟩ : RFork), false) : RFork × Bool) else (call (Z111.R (x0, x1)) fun v3 => (bif v3 then ret (((⟨(⟨(⟨0, 0, 0, 0, 0, 0, 0, 0, (⟨[], 0⟩ : RKeys), (⟨[], 0⟩ : RKeys), 0, (⟨[], 0⟩ : RKeys), false⟩ : RHead), []⟩ : RSigned), (⟨(⟨0, 0, 0, 0, 0, 0, 0, 0, (⟨[], 0⟩ : RKeys), (⟨[], 0⟩ : RKeys), 0, (⟨[], 0⟩ : RKeys), false⟩ : RHead), []⟩ : RSigned), (⟨(⟨0, 0, 0, 0, 0, 0, 0, 0, (⟨[], 0⟩ : RKeys), (⟨[], 0⟩ : RKeys), 0, (⟨[], 0⟩ : RKeys), false⟩ : RHead), []⟩ : RSigned)⟩ : RFork), false) : RFork × Bool) else (call (Z111.R (x1, x0)) fun v4 => (bif v4 then ret (((⟨(⟨(⟨0, 0, 0, 0, 0, 0, 0, 0, (⟨[], 0⟩ : RKeys), (⟨[], 0⟩ : RKeys), 0, (⟨[], 0⟩ : RKeys), false⟩ : RHead), []⟩ : RSigned), (⟨(⟨0, 0, 0, 0, 0, 0, 0, 0, (⟨[], 0⟩ : RKeys), (⟨[], 0⟩ : RKeys), 0, (⟨[], 0⟩ : RKeys), false⟩ : RHead), []⟩ : RSigned), (⟨(⟨0, 0, 0, 0, 0, 0, 0, 0, (⟨[], 0⟩ : RKeys), (⟨[], 0⟩ : RKeys), 0, (⟨[], 0⟩ : RKeys), false⟩ : RHead), []⟩ : RSigned)⟩ : RFork), false) : RFork × Bool) else J (.p0 x0 x1 0 0 0 0 0 0 0 0 0 0 0 0 0 false 0 0 0 0 0 0 0 0 0 0 0 0 false 0 0 0 0 0 0 0 0 0 0 0 0 false)))))) else none) else none)))))
def live : Nat → Live := fun i => match i with | 4 => [(0, none), (1, none), (4, none), (6, none)] | _ => []
def pats : List Pat := [.rd (.sl 122), .rd (.sl 122)]
def res : RP := .tup [(true, [.rd (.int .i64), .rd (.int .i64), .rd (.int .i64), .rd (.int .i64), .rd (.int .i64), .rd (.int .i64), .rd (.int .i64), .rd (.int .i64), .fr 3, .rd (.int .i64), .fr 3, .rd (.int .i64), .rd (.int .i64), .fr 3, .rd (.int .i64), .rd (.bool), .fr 184, .rd (.int .i64), .rd (.int .i64), .rd (.int .i64), .rd (.int .i64), .rd (.int .i64), .rd (.int .i64), .rd (.int .i64), .rd (.int .i64), .fr 3, .rd (.int .i64), .fr 3, .rd (.int .i64), .rd (.int .i64), .fr 3, .rd (.int .i64), .rd (.bool), .fr 184, .rd (.int .i64), .rd (.int .i64), .rd (.int .i64), .rd (.int .i64), .rd (.int .i64), .rd (.int .i64), .rd (.int .i64), .rd (.int .i64), .fr 3, .rd (.int .i64), .fr 3, .rd (.int .i64), .rd (.int .i64), .fr 3, .rd (.int .i64), .rd (.bool), .fr 184]), (false, [.rd (.bool)])]
abbrev E : Env := { T := assoc Tab, G := conG [(133, Z106.con), (144, Z111.con), (148, Z110.con), (145, Z63.con)], nt := 74 }
theorem step_eq (I : Heads) (p : Pt) : enterC E live I (pid p) (bodyOf Tryz.f84) (stOf (live (pid p)) (pvs p) (phs p)) (doneK E Tryz.f84 res) = step (fun q => I (pid q) (pvs q) (phs q)) p := by
 cases p <;> kernel_rfl
theorem start_eq (I : Heads) (ls : List L) : runC E live I (bodyOf Tryz.f84) (initS pats ls) (doneK E Tryz.f84 res) = start (fun q => I (pid q) (pvs q) (phs q)) (ls.headD .hole).toSl ((dropT 1 ls).headD .hole).toSl := by kernel_rfl
theorem run_eq (n : Nat) (ls : List L) : runF E live Tryz.f84 res n (initS pats ls) = start (iter step n) (ls.headD .hole).toSl ((dropT 1 ls).headD .hole).toSl := runF_iter (id := pid) (vs := pvs) (hs := phs) (step := step) (start := fun J => start J (ls.headD .hole).toSl ((dropT 1 ls).headD .hole).toSl) step_eq (fun I => start_eq I ls) n
def pt (a b : List (List L)) (c : Int) : Pt := Pt.p0 a b c 0 0 0 0 0 0 0 0 0 0 0 0 false 0 0 0 0 0 0 0 0 0 0 0 0 false 0 0 0 0 0 0 0 0 0 0 0 0 false
def md (a0 : List MSigned) (a1 : List MSigned) : MFork × Bool := (bif (!(Z106.md a0)) then (MFork.zero, false) else (bif (!(Z106.md a1)) then (MFork.zero, false) else (bif (((a0.getD 0 MSigned.zero).fHead).fZone != ((a1.getD 0 MSigned.zero).fHead).fZone) then (MFork.zero, false) else (bif (Z111.md a0 a1) then (MFork.zero, false) else (bif (Z111.md a1 a0) then (MFork.zero, false) else (Z57.fkAt a0 a1 (Z57.fk a0 a1), true))))))
def gd (a0 : List MSigned) (a1 : List MSigned) : Prop := SmL (2 ^ 21) (fun y : MSigned => MSigned.Sm (2 ^ 21) y) a0 ∧ SmL (2 ^ 21) (fun y : MSigned => MSigned.Sm (2 ^ 21) y) a1
def acc (ls : List L) : List (List L) × List (List L) := ((ls.headD .hole).toSl, ((dropT 1 ls).headD .hole).toSl)
def R : (List (List L) × List (List L)) → Option (RFork × Bool) := RR (p2 gd) (u2 md)
theorem R_eq {a0} {a1} (h : gd a0 a1) : R ((a0.map MSigned.row), (a1.map MSigned.row)) = some ((MFork.r (md a0 a1).1), (md a0 a1).2) := RR_eq (a := (a0, a1)) h
def con : Con := CN pats res acc R
theorem okF (a0 : List MSigned) (a1 : List MSigned) (hg : gd a0 a1) : ∃ n, start (iter step n) (a0.map MSigned.row) (a1.map MSigned.row) = ret (((MFork.r (md a0 a1).1), (md a0 a1).2) : RFork × Bool) := by
  unfold gd at hg
  obtain ⟨H0, H1⟩ := hg
  have hl0 := H0.1
  have hl1 := H1.1
  have key : Z57.fk a0 a1 < a0.length → Z57.fk a0 a1 < a1.length → Z54.md (a0.getD (Z57.fk a0 a1) MSigned.zero).fHead (a1.getD (Z57.fk a0 a1) MSigned.zero).fHead = false → ∀ d k, k + d = Z57.fk a0 a1 → ∃ n, iter step n (pt (a0.map MSigned.row) (a1.map MSigned.row) (k : Int)) = ret ((MFork.r (Z57.fkAt a0 a1 (Z57.fk a0 a1)), true) : RFork × Bool) := by
    intro hn0 hn1 hne d
    have hR : ∀ k, k < a0.length → k < a1.length → Z110.R (MHead.r (a0.getD k MSigned.zero).fHead, MHead.r (a1.getD k MSigned.zero).fHead) = some (Z54.md (a0.getD k MSigned.zero).fHead (a1.getD k MSigned.zero).fHead) := by
      intro k h0 h1
      rw [Z110.R_eq ⟨(SmL.getD (z := MSigned.zero) H0 h0).1, (SmL.getD (z := MSigned.zero) H1 h1).1⟩, Z110.md_eq, Z54.md_eq]
    induction d with
    | zero =>
      intro k hk
      obtain rfl : k = Z57.fk a0 a1 := by omega
      generalize hkk : Z57.fk a0 a1 = k at hn0 hn1 hne ⊢
      refine ⟨1, ?_⟩
      show step (iter step 0) _ = _
      have q1 : (0 : Int) ≤ (k : Int) := by omega
      have q2 : (k : Int) < (a0.length : Int) := by omega
      have q3 : (k : Int) < (a1.length : Int) := by omega
      simp only [pt, step, S0, MSigned.rs, MHead.rs, q1, q2, q3, decide_true, cond_true]
      rw [call_eq (hR k hn0 hn1), hne, cond_false, call_eq (Z63.R_eq (a0 := a0.getD k MSigned.zero) (SmL.getD (z := MSigned.zero) H0 hn0)), call_eq (Z63.R_eq (a0 := a1.getD k MSigned.zero) (SmL.getD (z := MSigned.zero) H1 hn1))]
      cases k with
      | zero => rfl
      | succ k =>
        have q4 : ((k + 1 : Nat) : Int) > 0 := by omega
        have q5 : IntKind.i64.wrap (((k + 1 : Nat) : Int) - 1) = (k : Int) := by rw [wi _ (by omega)]; omega
        have q6 : (0 : Int) ≤ (k : Int) := by omega
        have q7 : (k : Int) < (a0.length : Int) := by omega
        simp only [q4, q5, q6, q7, decide_true, cond_true, S0, MSigned.rs]
        rw [call_eq (Z63.R_eq (a0 := a0.getD k MSigned.zero) (SmL.getD (z := MSigned.zero) H0 (by omega)))]
        rfl
    | succ d ih =>
      intro k hk
      obtain ⟨n, hn⟩ := ih (k + 1) (by omega)
      refine ⟨n + 1, ?_⟩
      show step (iter step n) _ = _
      have q1 : (0 : Int) ≤ (k : Int) := by omega
      have q2 : (k : Int) < (a0.length : Int) := by omega
      have q3 : (k : Int) < (a1.length : Int) := by omega
      simp only [pt, step, S0, MSigned.rs, MHead.rs, q1, q2, q3, decide_true, cond_true]
      rw [call_eq (hR k (by omega) (by omega)), (Z57.fk_spec a0 a1).1 k (by omega), cond_true, wi _ (by omega)]
      exact hn
  unfold start md
  simp only [S0, MSigned.rs, MHead.rs]
  refine ex_call_to (Z106.md a0) (Z106.R_eq H0) ?_
  cases hc0 : Z106.md a0
  · exact ⟨0, rfl⟩
  simp only [Bool.not_true, cond_false]
  refine ex_call_to (Z106.md a1) (Z106.R_eq H1) ?_
  cases hc1 : Z106.md a1
  · exact ⟨0, rfl⟩
  have t0 := Z106.tr hc0
  have t1 := Z106.tr hc1
  simp only [Bool.not_true, cond_false]
  refine ex_yes (decide_eq_true (by omega)) (ex_yes (decide_eq_true (by omega)) ?_)
  cases ((a0.getD 0 MSigned.zero).fHead.fZone != (a1.getD 0 MSigned.zero).fHead.fZone)
  case true => exact ⟨0, rfl⟩
  simp only [cond_false]
  refine ex_call_to (Z111.md a0 a1) (Z111.R_eq ⟨H0, H1⟩) ?_
  cases hp0 : Z111.md a0 a1
  case true => exact ⟨0, rfl⟩
  simp only [cond_false]
  refine ex_call_to (Z111.md a1 a0) (Z111.R_eq ⟨H1, H0⟩) ?_
  cases hp1 : Z111.md a1 a0
  case true => exact ⟨0, rfl⟩
  simp only [cond_false]
  rw [Z111.br] at hp0 hp1
  obtain ⟨h1, h2, h3⟩ := Z57.fk_found hp0 hp1
  exact key h1 h2 h3 (Z57.fk a0 a1) 0 (by omega)
theorem valid_ : Valid Tryz.prog Ev 84 con := VV (run := fun n x => start (iter step n) x.1 x.2) mix tab_ok (.cons Z106.valid_ (.cons Z111.valid_ (.cons Z110.valid_ (.cons Z63.valid_ .nil)))) Tryz.func84 (by kernel_rfl) run_eq (fun _ a _ _ hg => okF a.1 a.2 hg)
theorem br (a0 : List MSigned) (a1 : List MSigned) : md a0 a1 = Z57.md a0 a1 := by
 unfold md Z57.md
 first
 | (simp only [Z106.br, Z111.br, Z110.md_eq, Z54.md_eq]; done)
 | (simp only [Z106.br, Z111.br, Z110.md_eq, Z54.md_eq]; rfl)
 | rfl
end Z113
namespace Z114
def F (x0 : RKnown) (x1 : List (List L)) : Ans := (call (Z66.R x0) fun v1 => (call (Z112.R (x0, x1)) fun v2 => (bif (v2 == 1) then (bif (decide ((x0.fChains.length : Int) ≥ 8)) then ret ((v1, 6) : RKnown × Int) else (call (Z64.R x1) fun v3 => (bif (lim (((v1.fChains.length : Int) + 1) * 24)) then ret (((⟨(v1.fChains ++ [[L.sl v3]]), v1.fForks⟩ : RKnown), v2) : RKnown × Int) else none))) else (bif (v2 == 3) then (bif (decide ((0 : Int) < (x1.length : Int))) then (call (Z109.R (x0, (RSigned.at x1 0).fHead.fZone)) fun v4 => (call (Z64.R x1) fun v5 => (bif (decide ((0 : Int) ≤ v4)) then (bif (decide (v4 < (v1.fChains.length : Int))) then ret (((⟨(List.set v1.fChains (Int.toNat v4) [L.sl v5]), v1.fForks⟩ : RKnown), v2) : RKnown × Int) else none) else none))) else none) else (bif (v2 == 5) then (bif (decide ((0 : Int) < (x1.length : Int))) then (call (Z109.R (x0, (RSigned.at x1 0).fHead.fZone)) fun v6 => (bif (decide ((0 : Int) ≤ v6)) then (bif (decide (v6 < (x0.fChains.length : Int))) then (call (Z113.R ((lAt x0.fChains (Int.toNat v6)), x1)) fun v7 => (bif v7.2 then (bif (decide ((x0.fForks.length : Int) < 8)) then (bif (lim (((v1.fForks.length : Int) + 1) * 600)) then ret (((⟨v1.fChains, (v1.fForks ++ [(RFork.enc v7.1)])⟩ : RKnown), v2) : RKnown × Int) else none) else ret ((v1, v2) : RKnown × Int)) else ret ((v1, v2) : RKnown × Int))) else none) else none)) else none) else ret ((v1, v2) : RKnown × Int))))))
def pats : List Pat := [.agg [.sl 38, .sl 134], .rd (.sl 122)]
def res : RP := .tup [(true, [.fr 38, .fr 134]), (false, [.rd (.int .i64)])]
def md (a0 : MKnown) (a1 : List MSigned) : MKnown × Int := (bif ((Z112.md a0 a1) == 1) then (bif (decide ((a0.fChains.length : Int) ≥ 8)) then (a0, 6) else ((⟨(a0.fChains ++ [a1]), a0.fForks⟩ : MKnown), (Z112.md a0 a1))) else (bif ((Z112.md a0 a1) == 3) then ((⟨(List.set a0.fChains (Int.toNat (Z109.md a0 (((a1.getD 0 MSigned.zero).fHead).fZone))) a1), a0.fForks⟩ : MKnown), (Z112.md a0 a1)) else (bif ((Z112.md a0 a1) == 5) then (bif (Z113.md (a0.fChains.getD (Int.toNat (Z109.md a0 (((a1.getD 0 MSigned.zero).fHead).fZone))) []) a1).2 then (bif (decide ((a0.fForks.length : Int) < 8)) then ((⟨a0.fChains, (a0.fForks ++ [(Z113.md (a0.fChains.getD (Int.toNat (Z109.md a0 (((a1.getD 0 MSigned.zero).fHead).fZone))) []) a1).1])⟩ : MKnown), (Z112.md a0 a1)) else (a0, (Z112.md a0 a1))) else (a0, (Z112.md a0 a1))) else (a0, (Z112.md a0 a1)))))
def gd (a0 : MKnown) (a1 : List MSigned) : Prop := (MKnown.Sm (2 ^ 21) a0) ∧ (SmL (2 ^ 21) (fun y : MSigned => MSigned.Sm (2 ^ 21) y) a1)
def acc (ls : List L) : RKnown × List (List L) := ((RKnown.dec ls), ((dropT 2 ls).headD .hole).toSl)
def R : (RKnown × List (List L)) → Option (RKnown × Int) := RR (p2 gd) (u2 md)
theorem R_eq {a0} {a1} (h : gd a0 a1) : R ((MKnown.r a0), (a1.map MSigned.row)) = some ((MKnown.r (md a0 a1).1), (md a0 a1).2) := RR_eq (a := (a0, a1)) h
def con : Con := CN pats res acc R
theorem okF (a0 : MKnown) (a1 : List MSigned) (hg : gd a0 a1) : F (MKnown.r a0) (a1.map MSigned.row) = ret (((MKnown.r (md a0 a1).1), (md a0 a1).2) : RKnown × Int) := by
  unfold gd at hg
  obtain ⟨H0, H1⟩ := hg
  unfold F md
  try simp only [S0, MHead.rs, MSigned.rs, MKnown.rs]
  refine call_to (MKnown.r a0) ?_ ?_
  · have R_ := Z66.R_eq (a0 := a0) H0
    simp only [Z66.md] at R_
    first | exact R_ | (simp only [MP, S0, MHead.rs, MSigned.rs, MKnown.rs] at R_ ⊢; first | exact R_ | (rw [← R_]; rfl))
  try simp only [S0, MHead.rs, MSigned.rs, MKnown.rs]
  refine call_to (Z112.md a0 a1) (Z112.R_eq (a0 := a0) (a1 := a1) ⟨H0, H1⟩) ?_
  have fv2_ := Z112.fa a0 a1
  refine bif_out (fun b : MKnown × Int => ret (((MKnown.r b.1), b.2) : RKnown × Int)) (fun c1 => ?_) (fun c1 => ?_)
  · have dc1 := c1
    try simp only [DC] at dc1
    refine bif_out (fun b : MKnown × Int => ret (((MKnown.r b.1), b.2) : RKnown × Int)) (fun c2 => ?_) (fun c2 => ?_)
    · all_goals first | rfl | (simp only [S0, MHead.rs, MSigned.rs, MKnown.rs]; done) | (simp only [MP]; rfl) | (simp only [S0, MHead.rs, MSigned.rs, MKnown.rs, MP]; first | done | rfl) | (simp only [MKnown.r, S0, MHead.rs, MSigned.rs, MKnown.rs, MP]; first | done | rfl)
    · have dc2 := c2
      try simp only [DC] at dc2
      refine call_to (a1.map MSigned.row) ?_ ?_
      · have R_ := Z64.R_eq (a0 := a1) H1
        simp only [Z64.md] at R_
        first | exact R_ | (simp only [MP, S0, MHead.rs, MSigned.rs, MKnown.rs] at R_ ⊢; first | exact R_ | (rw [← R_]; rfl))
      try simp only [S0, MHead.rs, MSigned.rs, MKnown.rs]
      refine yes_ret (by
          have := (H0.1).1
          refine lim_t ?_
          try simp (disch := omega) only [LN, wi]
          first | omega | (simp; done) | (simp; omega)) ?_
      all_goals first | rfl | (simp only [S0, MHead.rs, MSigned.rs, MKnown.rs]; done) | (simp only [MP]; rfl) | (simp only [S0, MHead.rs, MSigned.rs, MKnown.rs, MP]; first | done | rfl) | (simp only [MKnown.r, S0, MHead.rs, MSigned.rs, MKnown.rs, MP]; first | done | rfl)
  · have dc1 := c1
    try simp only [DC] at dc1
    refine bif_out (fun b : MKnown × Int => ret (((MKnown.r b.1), b.2) : RKnown × Int)) (fun c3 => ?_) (fun c3 => ?_)
    · have dc3 := c3
      try simp only [DC] at dc3
      refine yes_ret (by
          have := (H1).1
          refine decide_eq_true ?_
          try simp (disch := omega) only [LN, wi]
          first | omega | (simp; done) | (simp; omega)) ?_
      refine call_to (Z109.md a0 (((a1.getD 0 MSigned.zero).fHead).fZone)) (Z109.R_eq (a0 := a0) (a1 := ((a1.getD 0 MSigned.zero).fHead).fZone) H0) ?_
      have fv4_ := Z109.fa a0 (((a1.getD 0 MSigned.zero).fHead).fZone)
      refine call_to (a1.map MSigned.row) ?_ ?_
      · have R_ := Z64.R_eq (a0 := a1) H1
        simp only [Z64.md] at R_
        first | exact R_ | (simp only [MP, S0, MHead.rs, MSigned.rs, MKnown.rs] at R_ ⊢; first | exact R_ | (rw [← R_]; rfl))
      try simp only [S0, MHead.rs, MSigned.rs, MKnown.rs]
      refine yes_ret (by
          refine decide_eq_true ?_
          try simp (disch := omega) only [LN, wi]
          first | omega | (simp; done) | (simp; omega)) ?_
      refine yes_ret (by
          have := (H0.1).1
          refine decide_eq_true ?_
          try simp (disch := omega) only [LN, wi]
          first | omega | (simp; done) | (simp; omega)) ?_
      all_goals first | rfl | (simp only [S0, MHead.rs, MSigned.rs, MKnown.rs]; done) | (simp only [MP]; rfl) | (simp only [S0, MHead.rs, MSigned.rs, MKnown.rs, MP]; first | done | rfl) | (simp only [MKnown.r, S0, MHead.rs, MSigned.rs, MKnown.rs, MP]; first | done | rfl)
    · have dc3 := c3
      try simp only [DC] at dc3
      refine bif_out (fun b : MKnown × Int => ret (((MKnown.r b.1), b.2) : RKnown × Int)) (fun c4 => ?_) (fun c4 => ?_)
      · have dc4 := c4
        try simp only [DC] at dc4
        refine yes_ret (by
            have := (H1).1
            refine decide_eq_true ?_
            try simp (disch := omega) only [LN, wi]
            first | omega | (simp; done) | (simp; omega)) ?_
        refine call_to (Z109.md a0 (((a1.getD 0 MSigned.zero).fHead).fZone)) (Z109.R_eq (a0 := a0) (a1 := ((a1.getD 0 MSigned.zero).fHead).fZone) H0) ?_
        have fv6_ := Z109.fa a0 (((a1.getD 0 MSigned.zero).fHead).fZone)
        refine yes_ret (by
            refine decide_eq_true ?_
            try simp (disch := omega) only [LN, wi]
            first | omega | (simp; done) | (simp; omega)) ?_
        refine yes_ret (by
            have := (H0.1).1
            refine decide_eq_true ?_
            try simp (disch := omega) only [LN, wi]
            first | omega | (simp; done) | (simp; omega)) ?_
        refine call_to ((MFork.r (Z113.md (a0.fChains.getD (Int.toNat (Z109.md a0 (((a1.getD 0 MSigned.zero).fHead).fZone))) []) a1).1), (Z113.md (a0.fChains.getD (Int.toNat (Z109.md a0 (((a1.getD 0 MSigned.zero).fHead).fZone))) []) a1).2) (Z113.R_eq (a0 := (a0.fChains.getD (Int.toNat (Z109.md a0 (((a1.getD 0 MSigned.zero).fHead).fZone))) [])) (a1 := a1) ⟨(SmL.getD (z := []) H0.1 (by first | assumption | omega | (simp (disch := omega) only [wi]; omega) | (simp; omega))), H1⟩) ?_
        try simp only [S0, MHead.rs, MSigned.rs, MKnown.rs]
        refine bif_out (fun b : MKnown × Int => ret (((MKnown.r b.1), b.2) : RKnown × Int)) (fun c5 => ?_) (fun c5 => ?_)
        · refine bif_out (fun b : MKnown × Int => ret (((MKnown.r b.1), b.2) : RKnown × Int)) (fun c6 => ?_) (fun c6 => ?_)
          · have dc6 := c6
            try simp only [DC] at dc6
            refine yes_ret (by
                have := (H0.2).1
                refine lim_t ?_
                try simp (disch := omega) only [LN, wi]
                first | omega | (simp; done) | (simp; omega)) ?_
            all_goals first | rfl | (simp only [S0, MHead.rs, MSigned.rs, MKnown.rs]; done) | (simp only [MP]; rfl) | (simp only [S0, MHead.rs, MSigned.rs, MKnown.rs, MP]; first | done | rfl) | (simp only [MKnown.r, S0, MHead.rs, MSigned.rs, MKnown.rs, MP]; first | done | rfl)
          · all_goals first | rfl | (simp only [S0, MHead.rs, MSigned.rs, MKnown.rs]; done) | (simp only [MP]; rfl) | (simp only [S0, MHead.rs, MSigned.rs, MKnown.rs, MP]; first | done | rfl) | (simp only [MKnown.r, S0, MHead.rs, MSigned.rs, MKnown.rs, MP]; first | done | rfl)
        · all_goals first | rfl | (simp only [S0, MHead.rs, MSigned.rs, MKnown.rs]; done) | (simp only [MP]; rfl) | (simp only [S0, MHead.rs, MSigned.rs, MKnown.rs, MP]; first | done | rfl) | (simp only [MKnown.r, S0, MHead.rs, MSigned.rs, MKnown.rs, MP]; first | done | rfl)
      · all_goals first | rfl | (simp only [S0, MHead.rs, MSigned.rs, MKnown.rs]; done) | (simp only [MP]; rfl) | (simp only [S0, MHead.rs, MSigned.rs, MKnown.rs, MP]; first | done | rfl) | (simp only [MKnown.r, S0, MHead.rs, MSigned.rs, MKnown.rs, MP]; first | done | rfl)
theorem valid_ : Valid Tryz.prog Ev 27 con := VV (live := fun _ => []) (nt := 77) (run := fun _ x => F x.1 x.2) mix tab_ok (.cons Z66.valid_ (.cons Z112.valid_ (.cons Z64.valid_ (.cons Z109.valid_ (.cons Z113.valid_ .nil))))) Tryz.func27 (by kernel_rfl) (fun _ _ => by kernel_rfl) (fun _ a _ _ hg => ⟨0, okF a.1 a.2 hg⟩)
theorem br (a0 : MKnown) (a1 : List MSigned) : md a0 a1 = Z58.md a0 a1 := by
 unfold md Z58.md
 first
 | (simp only [Z112.br, Z109.br, Z113.br]; done)
 | (simp only [Z112.br, Z109.br, Z113.br]; rfl)
 | rfl
end Z114
namespace Z115
inductive Pt where
 | p0 (a : List (List L)) (b : List (List L)) (c : Int)
def pid : Pt → Nat
 | .p0 .. => 4
def pvs : Pt → List V
 | .p0 a b c => [.sl none 3 a, .sl none 3 b, .int .i64 c]
def phs : Pt → List Root
 | .p0 a b c => []
def step (J : Pt → Ans) : Pt → Ans
 | .p0 a b c => (bif (decide (c < (a.length : Int))) then (bif (decide ((0 : Int) ≤ c)) then (bif (decide (c < (a.length : Int))) then (bif (decide ((0 : Int) ≤ c)) then (bif (decide (c < (b.length : Int))) then (bif ((iAt a (Int.toNat c)) != (iAt b (Int.toNat c))) then ret (false : Bool) else J (.p0 a b (IntKind.i64.wrap (c + 1)))) else none) else none) else none) else none) else ret (true : Bool))
def start (J : Pt → Ans) (x0 : List (List L)) (x1 : List (List L)) : Ans := (bif ((x0.length : Int) != (x1.length : Int)) then ret (false : Bool) else J (.p0 x0 x1 0))
def live : Nat → Live := fun i => match i with | 4 => [(0, none), (1, none), (5, none)] | _ => []
def pats : List Pat := [.rd (.sl 3), .rd (.sl 3)]
def res : RP := .one (.rd (.bool))
abbrev E : Env := { T := assoc Tab, G := conG [], nt := 26 }
theorem step_eq (I : Heads) (p : Pt) : enterC E live I (pid p) (bodyOf Tryz.f66) (stOf (live (pid p)) (pvs p) (phs p)) (doneK E Tryz.f66 res) = step (fun q => I (pid q) (pvs q) (phs q)) p := by
 cases p <;> kernel_rfl
theorem start_eq (I : Heads) (ls : List L) : runC E live I (bodyOf Tryz.f66) (initS pats ls) (doneK E Tryz.f66 res) = start (fun q => I (pid q) (pvs q) (phs q)) (ls.headD .hole).toSl ((dropT 1 ls).headD .hole).toSl := by kernel_rfl
theorem run_eq (n : Nat) (ls : List L) : runF E live Tryz.f66 res n (initS pats ls) = start (iter step n) (ls.headD .hole).toSl ((dropT 1 ls).headD .hole).toSl := runF_iter (id := pid) (vs := pvs) (hs := phs) (step := step) (start := fun J => start J (ls.headD .hole).toSl ((dropT 1 ls).headD .hole).toSl) step_eq (fun I => start_eq I ls) n
def md (a0 : List Int) (a1 : List Int) : Bool := eqB a0 a1
def gd (a0 : List Int) (a1 : List Int) : Prop := True
def acc (ls : List L) : List (List L) × List (List L) := ((ls.headD .hole).toSl, ((dropT 1 ls).headD .hole).toSl)
def R : (List (List L) × List (List L)) → Option Bool := RR (p2 gd) (u2 md)
theorem R_eq {a0} {a1} (h : gd a0 a1) : R ((a0.map iRow), (a1.map iRow)) = some (md a0 a1) := RR_eq (a := (a0, a1)) h
def con : Con := CN pats res acc R
theorem okF (a0 : List Int) (a1 : List Int) (hg : gd a0 a1) (h0 : a0.length ≤ maxLen) (h1 : a1.length ≤ maxLen) : ∃ n, start (iter step n) (a0.map iRow) (a1.map iRow) = ret ((md a0 a1) : Bool) := by
  unfold start md
  simp only [List.length_map]
  refine eq_list (pt := fun i => Pt.p0 (a0.map iRow) (a1.map iRow) (i : Int)) (fun hl J i h h2 => ?_) (fun J => ?_)
  · simp only [step, List.length_map, lt_dec h, lt_dec h2, zle_dec, cond_true, toNat_nat, iAt_row h, iAt_row h2]
    rw [wrap_succ h h0]
    simp only [bne, int_beq, bool_beq, ba_beq]
    cases eqB a0[i] a1[i] <;> rfl
  · simp only [step, List.length_map, nlt_dec, cond_false]
theorem valid_ : Valid Tryz.prog Ev 66 con := VV (run := fun n x => start (iter step n) x.1 x.2) mix tab_ok .nil Tryz.func66 (by kernel_rfl) run_eq (fun ls a hl e hg => okF a.1 a.2 hg (by have h : (ls.headD .hole).toSl.length ≤ maxLen := hl.1.len; have e : a.1.map iRow = (ls.headD .hole).toSl := (congrArg (fun x => x.1) e.symm); rw [← e] at h; simpa using h) (by have h : ((dropT 1 ls).headD .hole).toSl.length ≤ maxLen := hl.2.1.len; have e : a.2.map iRow = ((dropT 1 ls).headD .hole).toSl := (congrArg (fun x => x.2) e.symm); rw [← e] at h; simpa using h))
end Z115
namespace Z116
def F (x0 : RKeys) (x1 : RKeys) : Ans := (call (Z115.R (x0.fList, x1.fList)) fun v1 => (bif (!v1) then ret (false : Bool) else (bif (x0.fNeed != x1.fNeed) then ret (false : Bool) else ret (true : Bool))))
def pats : List Pat := [.agg [.sl 3, .int .i64], .agg [.sl 3, .int .i64]]
def res : RP := .one (.rd (.bool))
def md (a0 : MKeys) (a1 : MKeys) : Bool := eqB a0 a1
def gd (a0 : MKeys) (a1 : MKeys) : Prop := True
def acc (ls : List L) : RKeys × RKeys := ((RKeys.dec ls), (RKeys.dec (dropT 2 ls)))
def R : (RKeys × RKeys) → Option Bool := RR (p2 gd) (u2 md)
theorem R_eq {a0} {a1} (h : gd a0 a1) : R ((MKeys.r a0), (MKeys.r a1)) = some (md a0 a1) := RR_eq (a := (a0, a1)) h
def con : Con := CN pats res acc R
theorem okF (a0 : MKeys) (a1 : MKeys) (hg : gd a0 a1) : F (MKeys.r a0) (MKeys.r a1) = ret ((md a0 a1) : Bool) := by
 unfold md
 show (call (Z115.R ((a0.fList.map iRow), (a1.fList.map iRow))) fun v1 => (bif (!v1) then ret (false : Bool) else (bif (a0.fNeed != a1.fNeed) then ret (false : Bool) else ret (true : Bool)))) = _
 simp only [call_eq (Z115.R_eq (a0 := a0.fList) (a1 := a1.fList) trivial), Z115.md]
 try simp only [bne, int_beq, bool_beq, ba_beq]
 have e : eqB a0 a1 = (eqB a0.fList a1.fList && (eqB a0.fNeed a1.fNeed && true)) := by
  cases a0; cases a1
  rw [Bool.eq_iff_iff]
  simp only [eqB_iff, Bool.and_eq_true, MKeys.mk.injEq, and_true]
 rw [e]
 refine and_step fun _ => ?_
 refine and_step fun _ => ?_
 rfl
theorem valid_ : Valid Tryz.prog Ev 19 con := VV (live := fun _ => []) (nt := 16) (run := fun _ x => F x.1 x.2) mix tab_ok (.cons Z115.valid_ .nil) Tryz.func19 (by kernel_rfl) (fun _ _ => by kernel_rfl) (fun _ a _ _ hg => ⟨0, okF a.1 a.2 hg⟩)
end Z116
namespace Z117
def F (x0 : RHead) (x1 : RHead) : Ans := (bif (x0.fZone != x1.fZone) then ret (false : Bool) else (bif (x0.fEpoch != x1.fEpoch) then ret (false : Bool) else (bif (x0.fKind != x1.fKind) then ret (false : Bool) else (bif (x0.fTime != x1.fTime) then ret (false : Bool) else (bif (x0.fUntil != x1.fUntil) then ret (false : Bool) else (bif (x0.fCount != x1.fCount) then ret (false : Bool) else (bif (x0.fRoot != x1.fRoot) then ret (false : Bool) else (bif (x0.fPrev != x1.fPrev) then ret (false : Bool) else (call (Z116.R (x0.fKeys, x1.fKeys)) fun v1 => (bif (!v1) then ret (false : Bool) else (call (Z116.R (x0.fHeirs, x1.fHeirs)) fun v2 => (bif (!v2) then ret (false : Bool) else (bif (x0.fWait != x1.fWait) then ret (false : Bool) else (call (Z116.R (x0.fJudge, x1.fJudge)) fun v3 => (bif (!v3) then ret (false : Bool) else (bif (!(x0.fFrozen == x1.fFrozen)) then ret (false : Bool) else ret (true : Bool)))))))))))))))))
def pats : List Pat := [.agg [.int .i64, .int .i64, .int .i64, .int .i64, .int .i64, .int .i64, .int .i64, .int .i64, .sl 3, .int .i64, .sl 3, .int .i64, .int .i64, .sl 3, .int .i64, .bool], .agg [.int .i64, .int .i64, .int .i64, .int .i64, .int .i64, .int .i64, .int .i64, .int .i64, .sl 3, .int .i64, .sl 3, .int .i64, .int .i64, .sl 3, .int .i64, .bool]]
def res : RP := .one (.rd (.bool))
def md (a0 : MHead) (a1 : MHead) : Bool := eqB a0 a1
def gd (a0 : MHead) (a1 : MHead) : Prop := True
def acc (ls : List L) : RHead × RHead := ((RHead.dec ls), (RHead.dec (dropT 16 ls)))
def R : (RHead × RHead) → Option Bool := RR (p2 gd) (u2 md)
theorem R_eq {a0} {a1} (h : gd a0 a1) : R ((MHead.r a0), (MHead.r a1)) = some (md a0 a1) := RR_eq (a := (a0, a1)) h
def con : Con := CN pats res acc R
theorem okF (a0 : MHead) (a1 : MHead) (hg : gd a0 a1) : F (MHead.r a0) (MHead.r a1) = ret ((md a0 a1) : Bool) := by
 unfold md
 show (bif (a0.fZone != a1.fZone) then ret (false : Bool) else (bif (a0.fEpoch != a1.fEpoch) then ret (false : Bool) else (bif (a0.fKind != a1.fKind) then ret (false : Bool) else (bif (a0.fTime != a1.fTime) then ret (false : Bool) else (bif (a0.fUntil != a1.fUntil) then ret (false : Bool) else (bif (a0.fCount != a1.fCount) then ret (false : Bool) else (bif (a0.fRoot != a1.fRoot) then ret (false : Bool) else (bif (a0.fPrev != a1.fPrev) then ret (false : Bool) else (call (Z116.R ((MKeys.r a0.fKeys), (MKeys.r a1.fKeys))) fun v1 => (bif (!v1) then ret (false : Bool) else (call (Z116.R ((MKeys.r a0.fHeirs), (MKeys.r a1.fHeirs))) fun v2 => (bif (!v2) then ret (false : Bool) else (bif (a0.fWait != a1.fWait) then ret (false : Bool) else (call (Z116.R ((MKeys.r a0.fJudge), (MKeys.r a1.fJudge))) fun v3 => (bif (!v3) then ret (false : Bool) else (bif (!(a0.fFrozen == a1.fFrozen)) then ret (false : Bool) else ret (true : Bool))))))))))))))))) = _
 simp only [call_eq (Z116.R_eq (a0 := a0.fKeys) (a1 := a1.fKeys) trivial), Z116.md]
 simp only [call_eq (Z116.R_eq (a0 := a0.fHeirs) (a1 := a1.fHeirs) trivial), Z116.md]
 simp only [call_eq (Z116.R_eq (a0 := a0.fJudge) (a1 := a1.fJudge) trivial), Z116.md]
 try simp only [bne, int_beq, bool_beq, ba_beq]
 have e : eqB a0 a1 = (eqB a0.fZone a1.fZone && (eqB a0.fEpoch a1.fEpoch && (eqB a0.fKind a1.fKind && (eqB a0.fTime a1.fTime && (eqB a0.fUntil a1.fUntil && (eqB a0.fCount a1.fCount && (eqB a0.fRoot a1.fRoot && (eqB a0.fPrev a1.fPrev && (eqB a0.fKeys a1.fKeys && (eqB a0.fHeirs a1.fHeirs && (eqB a0.fWait a1.fWait && (eqB a0.fJudge a1.fJudge && (eqB a0.fFrozen a1.fFrozen && true))))))))))))) := by
  cases a0; cases a1
  rw [Bool.eq_iff_iff]
  simp only [eqB_iff, Bool.and_eq_true, MHead.mk.injEq, and_true]
 rw [e]
 refine and_step fun _ => ?_
 refine and_step fun _ => ?_
 refine and_step fun _ => ?_
 refine and_step fun _ => ?_
 refine and_step fun _ => ?_
 refine and_step fun _ => ?_
 refine and_step fun _ => ?_
 refine and_step fun _ => ?_
 refine and_step fun _ => ?_
 refine and_step fun _ => ?_
 refine and_step fun _ => ?_
 refine and_step fun _ => ?_
 refine and_step fun _ => ?_
 rfl
theorem valid_ : Valid Tryz.prog Ev 135 con := VV (live := fun _ => []) (nt := 73) (run := fun _ x => F x.1 x.2) mix tab_ok (.cons Z116.valid_ .nil) Tryz.func135 (by kernel_rfl) (fun _ _ => by kernel_rfl) (fun _ a _ _ hg => ⟨0, okF a.1 a.2 hg⟩)
end Z117
namespace Z118
def F (x0 : MSig) (x1 : MSig) : Ans := (bif (x0.fKey != x1.fKey) then ret (false : Bool) else (bif (x0.fTag != x1.fTag) then ret (false : Bool) else ret (true : Bool)))
def pats : List Pat := [.agg [.int .i64, .int .i64], .agg [.int .i64, .int .i64]]
def res : RP := .one (.rd (.bool))
def md (a0 : MSig) (a1 : MSig) : Bool := eqB a0 a1
def gd (a0 : MSig) (a1 : MSig) : Prop := True
def acc (ls : List L) : MSig × MSig := ((MSig.dec ls), (MSig.dec (dropT 2 ls)))
def R : (MSig × MSig) → Option Bool := RR (p2 gd) (u2 md)
theorem R_eq {a0} {a1} (h : gd a0 a1) : R (a0, a1) = some (md a0 a1) := RR_eq (a := (a0, a1)) h
def con : Con := CN pats res acc R
theorem okF (a0 : MSig) (a1 : MSig) (hg : gd a0 a1) : F a0 a1 = ret ((md a0 a1) : Bool) := by
 unfold md
 show (bif (a0.fKey != a1.fKey) then ret (false : Bool) else (bif (a0.fTag != a1.fTag) then ret (false : Bool) else ret (true : Bool))) = _
 try simp only [bne, int_beq, bool_beq, ba_beq]
 have e : eqB a0 a1 = (eqB a0.fKey a1.fKey && (eqB a0.fTag a1.fTag && true)) := by
  cases a0; cases a1
  rw [Bool.eq_iff_iff]
  simp only [eqB_iff, Bool.and_eq_true, MSig.mk.injEq, and_true]
 rw [e]
 refine and_step fun _ => ?_
 refine and_step fun _ => ?_
 rfl
theorem valid_ : Valid Tryz.prog Ev 188 con := VV (live := fun _ => []) (nt := 15) (run := fun _ x => F x.1 x.2) mix tab_ok .nil Tryz.func188 (by kernel_rfl) (fun _ _ => by kernel_rfl) (fun _ a _ _ hg => ⟨0, okF a.1 a.2 hg⟩)
end Z118
namespace Z119
inductive Pt where
 | p0 (a : List (List L)) (b : List (List L)) (c : Int)
def pid : Pt → Nat
 | .p0 .. => 4
def pvs : Pt → List V
 | .p0 a b c => [.sl none 184 a, .sl none 184 b, .int .i64 c]
def phs : Pt → List Root
 | .p0 a b c => []
def step (J : Pt → Ans) : Pt → Ans
 | .p0 a b c => (bif (decide (c < (a.length : Int))) then (bif (decide ((0 : Int) ≤ c)) then (bif (decide (c < (a.length : Int))) then (bif (decide ((0 : Int) ≤ c)) then (bif (decide (c < (b.length : Int))) then (call (Z118.R ((MSig.at a (Int.toNat c)), (MSig.at b (Int.toNat c)))) fun v1 => (bif (!v1) then ret (false : Bool) else J (.p0 a b (IntKind.i64.wrap (c + 1))))) else none) else none) else none) else none) else ret (true : Bool))
def start (J : Pt → Ans) (x0 : List (List L)) (x1 : List (List L)) : Ans := (bif ((x0.length : Int) != (x1.length : Int)) then ret (false : Bool) else J (.p0 x0 x1 0))
def live : Nat → Live := fun i => match i with | 4 => [(0, none), (1, none), (5, none)] | _ => []
def pats : List Pat := [.rd (.sl 184), .rd (.sl 184)]
def res : RP := .one (.rd (.bool))
abbrev E : Env := { T := assoc Tab, G := conG [(188, Z118.con)], nt := 27 }
theorem step_eq (I : Heads) (p : Pt) : enterC E live I (pid p) (bodyOf Tryz.f136) (stOf (live (pid p)) (pvs p) (phs p)) (doneK E Tryz.f136 res) = step (fun q => I (pid q) (pvs q) (phs q)) p := by
 cases p <;> kernel_rfl
theorem start_eq (I : Heads) (ls : List L) : runC E live I (bodyOf Tryz.f136) (initS pats ls) (doneK E Tryz.f136 res) = start (fun q => I (pid q) (pvs q) (phs q)) (ls.headD .hole).toSl ((dropT 1 ls).headD .hole).toSl := by kernel_rfl
theorem run_eq (n : Nat) (ls : List L) : runF E live Tryz.f136 res n (initS pats ls) = start (iter step n) (ls.headD .hole).toSl ((dropT 1 ls).headD .hole).toSl := runF_iter (id := pid) (vs := pvs) (hs := phs) (step := step) (start := fun J => start J (ls.headD .hole).toSl ((dropT 1 ls).headD .hole).toSl) step_eq (fun I => start_eq I ls) n
def md (a0 : List MSig) (a1 : List MSig) : Bool := eqB a0 a1
def gd (a0 : List MSig) (a1 : List MSig) : Prop := True
def acc (ls : List L) : List (List L) × List (List L) := ((ls.headD .hole).toSl, ((dropT 1 ls).headD .hole).toSl)
def R : (List (List L) × List (List L)) → Option Bool := RR (p2 gd) (u2 md)
theorem R_eq {a0} {a1} (h : gd a0 a1) : R ((a0.map MSig.row), (a1.map MSig.row)) = some (md a0 a1) := RR_eq (a := (a0, a1)) h
def con : Con := CN pats res acc R
theorem okF (a0 : List MSig) (a1 : List MSig) (hg : gd a0 a1) (h0 : a0.length ≤ maxLen) (h1 : a1.length ≤ maxLen) : ∃ n, start (iter step n) (a0.map MSig.row) (a1.map MSig.row) = ret ((md a0 a1) : Bool) := by
  unfold start md
  simp only [List.length_map]
  refine eq_list (pt := fun i => Pt.p0 (a0.map MSig.row) (a1.map MSig.row) (i : Int)) (fun hl J i h h2 => ?_) (fun J => ?_)
  · simp only [step, List.length_map, lt_dec h, lt_dec h2, zle_dec, cond_true, toNat_nat, MSig.at_row h, MSig.at_row h2]
    rw [wrap_succ h h0]
    rw [call_eq (Z118.R_eq (a0 := a0[i]) (a1 := a1[i]) trivial), Z118.md]
    cases eqB a0[i] a1[i] <;> rfl
  · simp only [step, List.length_map, nlt_dec, cond_false]
theorem valid_ : Valid Tryz.prog Ev 136 con := VV (run := fun n x => start (iter step n) x.1 x.2) mix tab_ok (.cons Z118.valid_ .nil) Tryz.func136 (by kernel_rfl) run_eq (fun ls a hl e hg => okF a.1 a.2 hg (by have h : (ls.headD .hole).toSl.length ≤ maxLen := hl.1.len; have e : a.1.map MSig.row = (ls.headD .hole).toSl := (congrArg (fun x => x.1) e.symm); rw [← e] at h; simpa using h) (by have h : ((dropT 1 ls).headD .hole).toSl.length ≤ maxLen := hl.2.1.len; have e : a.2.map MSig.row = ((dropT 1 ls).headD .hole).toSl := (congrArg (fun x => x.2) e.symm); rw [← e] at h; simpa using h))
end Z119
namespace Z120
def F (x0 : RSigned) (x1 : RSigned) : Ans := (call (Z117.R (x0.fHead, x1.fHead)) fun v1 => (bif (!v1) then ret (false : Bool) else (call (Z119.R (x0.fSigs, x1.fSigs)) fun v2 => (bif (!v2) then ret (false : Bool) else ret (true : Bool)))))
def pats : List Pat := [.agg [.int .i64, .int .i64, .int .i64, .int .i64, .int .i64, .int .i64, .int .i64, .int .i64, .sl 3, .int .i64, .sl 3, .int .i64, .int .i64, .sl 3, .int .i64, .bool, .sl 184], .agg [.int .i64, .int .i64, .int .i64, .int .i64, .int .i64, .int .i64, .int .i64, .int .i64, .sl 3, .int .i64, .sl 3, .int .i64, .int .i64, .sl 3, .int .i64, .bool, .sl 184]]
def res : RP := .one (.rd (.bool))
def md (a0 : MSigned) (a1 : MSigned) : Bool := eqB a0 a1
def gd (a0 : MSigned) (a1 : MSigned) : Prop := True
def acc (ls : List L) : RSigned × RSigned := ((RSigned.dec ls), (RSigned.dec (dropT 17 ls)))
def R : (RSigned × RSigned) → Option Bool := RR (p2 gd) (u2 md)
theorem R_eq {a0} {a1} (h : gd a0 a1) : R ((MSigned.r a0), (MSigned.r a1)) = some (md a0 a1) := RR_eq (a := (a0, a1)) h
def con : Con := CN pats res acc R
theorem okF (a0 : MSigned) (a1 : MSigned) (hg : gd a0 a1) : F (MSigned.r a0) (MSigned.r a1) = ret ((md a0 a1) : Bool) := by
 unfold md
 show (call (Z117.R ((MHead.r a0.fHead), (MHead.r a1.fHead))) fun v1 => (bif (!v1) then ret (false : Bool) else (call (Z119.R ((a0.fSigs.map MSig.row), (a1.fSigs.map MSig.row))) fun v2 => (bif (!v2) then ret (false : Bool) else ret (true : Bool))))) = _
 simp only [call_eq (Z117.R_eq (a0 := a0.fHead) (a1 := a1.fHead) trivial), Z117.md]
 simp only [call_eq (Z119.R_eq (a0 := a0.fSigs) (a1 := a1.fSigs) trivial), Z119.md]
 try simp only [bne, int_beq, bool_beq, ba_beq]
 have e : eqB a0 a1 = (eqB a0.fHead a1.fHead && (eqB a0.fSigs a1.fSigs && true)) := by
  cases a0; cases a1
  rw [Bool.eq_iff_iff]
  simp only [eqB_iff, Bool.and_eq_true, MSigned.mk.injEq, and_true]
 rw [e]
 refine and_step fun _ => ?_
 refine and_step fun _ => ?_
 rfl
theorem valid_ : Valid Tryz.prog Ev 67 con := VV (live := fun _ => []) (nt := 17) (run := fun _ x => F x.1 x.2) mix tab_ok (.cons Z117.valid_ (.cons Z119.valid_ .nil)) Tryz.func67 (by kernel_rfl) (fun _ _ => by kernel_rfl) (fun _ a _ _ hg => ⟨0, okF a.1 a.2 hg⟩)
end Z120
namespace Z121
inductive Pt where
 | p0 (a : List (List L)) (b : List (List L)) (c : Int)
def pid : Pt → Nat
 | .p0 .. => 4
def pvs : Pt → List V
 | .p0 a b c => [.sl none 122 a, .sl none 122 b, .int .i64 c]
def phs : Pt → List Root
 | .p0 a b c => []
def step (J : Pt → Ans) : Pt → Ans
 | .p0 a b c => (bif (decide (c < (a.length : Int))) then (bif (decide ((0 : Int) ≤ c)) then (bif (decide (c < (a.length : Int))) then (bif (decide ((0 : Int) ≤ c)) then (bif (decide (c < (b.length : Int))) then (call (Z120.R ((RSigned.at a (Int.toNat c)), (RSigned.at b (Int.toNat c)))) fun v1 => (bif (!v1) then ret (false : Bool) else J (.p0 a b (IntKind.i64.wrap (c + 1))))) else none) else none) else none) else none) else ret (true : Bool))
def start (J : Pt → Ans) (x0 : List (List L)) (x1 : List (List L)) : Ans := (bif ((x0.length : Int) != (x1.length : Int)) then ret (false : Bool) else J (.p0 x0 x1 0))
def live : Nat → Live := fun i => match i with | 4 => [(0, none), (1, none), (5, none)] | _ => []
def pats : List Pat := [.rd (.sl 122), .rd (.sl 122)]
def res : RP := .one (.rd (.bool))
abbrev E : Env := { T := assoc Tab, G := conG [(67, Z120.con)], nt := 27 }
theorem step_eq (I : Heads) (p : Pt) : enterC E live I (pid p) (bodyOf Tryz.f20) (stOf (live (pid p)) (pvs p) (phs p)) (doneK E Tryz.f20 res) = step (fun q => I (pid q) (pvs q) (phs q)) p := by
 cases p <;> kernel_rfl
theorem start_eq (I : Heads) (ls : List L) : runC E live I (bodyOf Tryz.f20) (initS pats ls) (doneK E Tryz.f20 res) = start (fun q => I (pid q) (pvs q) (phs q)) (ls.headD .hole).toSl ((dropT 1 ls).headD .hole).toSl := by kernel_rfl
theorem run_eq (n : Nat) (ls : List L) : runF E live Tryz.f20 res n (initS pats ls) = start (iter step n) (ls.headD .hole).toSl ((dropT 1 ls).headD .hole).toSl := runF_iter (id := pid) (vs := pvs) (hs := phs) (step := step) (start := fun J => start J (ls.headD .hole).toSl ((dropT 1 ls).headD .hole).toSl) step_eq (fun I => start_eq I ls) n
def md (a0 : List MSigned) (a1 : List MSigned) : Bool := eqB a0 a1
def gd (a0 : List MSigned) (a1 : List MSigned) : Prop := True
def acc (ls : List L) : List (List L) × List (List L) := ((ls.headD .hole).toSl, ((dropT 1 ls).headD .hole).toSl)
def R : (List (List L) × List (List L)) → Option Bool := RR (p2 gd) (u2 md)
theorem R_eq {a0} {a1} (h : gd a0 a1) : R ((a0.map MSigned.row), (a1.map MSigned.row)) = some (md a0 a1) := RR_eq (a := (a0, a1)) h
def con : Con := CN pats res acc R
theorem okF (a0 : List MSigned) (a1 : List MSigned) (hg : gd a0 a1) (h0 : a0.length ≤ maxLen) (h1 : a1.length ≤ maxLen) : ∃ n, start (iter step n) (a0.map MSigned.row) (a1.map MSigned.row) = ret ((md a0 a1) : Bool) := by
  unfold start md
  simp only [List.length_map]
  refine eq_list (pt := fun i => Pt.p0 (a0.map MSigned.row) (a1.map MSigned.row) (i : Int)) (fun hl J i h h2 => ?_) (fun J => ?_)
  · simp only [step, List.length_map, lt_dec h, lt_dec h2, zle_dec, cond_true, toNat_nat, MSigned.at_row h, MSigned.at_row h2]
    rw [wrap_succ h h0]
    rw [call_eq (Z120.R_eq (a0 := a0[i]) (a1 := a1[i]) trivial), Z120.md]
    cases eqB a0[i] a1[i] <;> rfl
  · simp only [step, List.length_map, nlt_dec, cond_false]
theorem valid_ : Valid Tryz.prog Ev 20 con := VV (run := fun n x => start (iter step n) x.1 x.2) mix tab_ok (.cons Z120.valid_ .nil) Tryz.func20 (by kernel_rfl) run_eq (fun ls a hl e hg => okF a.1 a.2 hg (by have h : (ls.headD .hole).toSl.length ≤ maxLen := hl.1.len; have e : a.1.map MSigned.row = (ls.headD .hole).toSl := (congrArg (fun x => x.1) e.symm); rw [← e] at h; simpa using h) (by have h : ((dropT 1 ls).headD .hole).toSl.length ≤ maxLen := hl.2.1.len; have e : a.2.map MSigned.row = ((dropT 1 ls).headD .hole).toSl := (congrArg (fun x => x.2) e.symm); rw [← e] at h; simpa using h))
end Z121
namespace Z122
inductive Pt where
 | p0 (a : List (List L)) (b : List (List L)) (c : Int)
def pid : Pt → Nat
 | .p0 .. => 4
def pvs : Pt → List V
 | .p0 a b c => [.sl none 38 a, .sl none 38 b, .int .i64 c]
def phs : Pt → List Root
 | .p0 a b c => []
def step (J : Pt → Ans) : Pt → Ans
 | .p0 a b c => (bif (decide (c < (a.length : Int))) then (bif (decide ((0 : Int) ≤ c)) then (bif (decide (c < (a.length : Int))) then (bif (decide ((0 : Int) ≤ c)) then (bif (decide (c < (b.length : Int))) then (call (Z121.R ((lAt a (Int.toNat c)), (lAt b (Int.toNat c)))) fun v1 => (bif (!v1) then ret (false : Bool) else J (.p0 a b (IntKind.i64.wrap (c + 1))))) else none) else none) else none) else none) else ret (true : Bool))
def start (J : Pt → Ans) (x0 : List (List L)) (x1 : List (List L)) : Ans := (bif ((x0.length : Int) != (x1.length : Int)) then ret (false : Bool) else J (.p0 x0 x1 0))
def live : Nat → Live := fun i => match i with | 4 => [(0, none), (1, none), (5, none)] | _ => []
def pats : List Pat := [.rd (.sl 38), .rd (.sl 38)]
def res : RP := .one (.rd (.bool))
abbrev E : Env := { T := assoc Tab, G := conG [(20, Z121.con)], nt := 27 }
theorem step_eq (I : Heads) (p : Pt) : enterC E live I (pid p) (bodyOf Tryz.f85) (stOf (live (pid p)) (pvs p) (phs p)) (doneK E Tryz.f85 res) = step (fun q => I (pid q) (pvs q) (phs q)) p := by
 cases p <;> kernel_rfl
theorem start_eq (I : Heads) (ls : List L) : runC E live I (bodyOf Tryz.f85) (initS pats ls) (doneK E Tryz.f85 res) = start (fun q => I (pid q) (pvs q) (phs q)) (ls.headD .hole).toSl ((dropT 1 ls).headD .hole).toSl := by kernel_rfl
theorem run_eq (n : Nat) (ls : List L) : runF E live Tryz.f85 res n (initS pats ls) = start (iter step n) (ls.headD .hole).toSl ((dropT 1 ls).headD .hole).toSl := runF_iter (id := pid) (vs := pvs) (hs := phs) (step := step) (start := fun J => start J (ls.headD .hole).toSl ((dropT 1 ls).headD .hole).toSl) step_eq (fun I => start_eq I ls) n
def md (a0 : List (List MSigned)) (a1 : List (List MSigned)) : Bool := eqB a0 a1
def gd (a0 : List (List MSigned)) (a1 : List (List MSigned)) : Prop := True
def acc (ls : List L) : List (List L) × List (List L) := ((ls.headD .hole).toSl, ((dropT 1 ls).headD .hole).toSl)
def R : (List (List L) × List (List L)) → Option Bool := RR (p2 gd) (u2 md)
theorem R_eq {a0} {a1} (h : gd a0 a1) : R ((a0.map (lRow MSigned.row)), (a1.map (lRow MSigned.row))) = some (md a0 a1) := RR_eq (a := (a0, a1)) h
def con : Con := CN pats res acc R
theorem okF (a0 : List (List MSigned)) (a1 : List (List MSigned)) (hg : gd a0 a1) (h0 : a0.length ≤ maxLen) (h1 : a1.length ≤ maxLen) : ∃ n, start (iter step n) (a0.map (lRow MSigned.row)) (a1.map (lRow MSigned.row)) = ret ((md a0 a1) : Bool) := by
  unfold start md
  simp only [List.length_map]
  refine eq_list (pt := fun i => Pt.p0 (a0.map (lRow MSigned.row)) (a1.map (lRow MSigned.row)) (i : Int)) (fun hl J i h h2 => ?_) (fun J => ?_)
  · simp only [step, List.length_map, lt_dec h, lt_dec h2, zle_dec, cond_true, toNat_nat, lAt_row h, lAt_row h2]
    rw [wrap_succ h h0]
    rw [call_eq (Z121.R_eq (a0 := a0[i]) (a1 := a1[i]) trivial), Z121.md]
    cases eqB a0[i] a1[i] <;> rfl
  · simp only [step, List.length_map, nlt_dec, cond_false]
theorem valid_ : Valid Tryz.prog Ev 85 con := VV (run := fun n x => start (iter step n) x.1 x.2) mix tab_ok (.cons Z121.valid_ .nil) Tryz.func85 (by kernel_rfl) run_eq (fun ls a hl e hg => okF a.1 a.2 hg (by have h : (ls.headD .hole).toSl.length ≤ maxLen := hl.1.len; have e : a.1.map (lRow MSigned.row) = (ls.headD .hole).toSl := (congrArg (fun x => x.1) e.symm); rw [← e] at h; simpa using h) (by have h : ((dropT 1 ls).headD .hole).toSl.length ≤ maxLen := hl.2.1.len; have e : a.2.map (lRow MSigned.row) = ((dropT 1 ls).headD .hole).toSl := (congrArg (fun x => x.2) e.symm); rw [← e] at h; simpa using h))
end Z122
namespace Z123
def F (x0 : RFork) (x1 : RFork) : Ans := (call (Z120.R (x0.fBefore, x1.fBefore)) fun v1 => (bif (!v1) then ret (false : Bool) else (call (Z120.R (x0.fA, x1.fA)) fun v2 => (bif (!v2) then ret (false : Bool) else (call (Z120.R (x0.fB, x1.fB)) fun v3 => (bif (!v3) then ret (false : Bool) else ret (true : Bool)))))))
def pats : List Pat := [.agg [.int .i64, .int .i64, .int .i64, .int .i64, .int .i64, .int .i64, .int .i64, .int .i64, .sl 3, .int .i64, .sl 3, .int .i64, .int .i64, .sl 3, .int .i64, .bool, .sl 184, .int .i64, .int .i64, .int .i64, .int .i64, .int .i64, .int .i64, .int .i64, .int .i64, .sl 3, .int .i64, .sl 3, .int .i64, .int .i64, .sl 3, .int .i64, .bool, .sl 184, .int .i64, .int .i64, .int .i64, .int .i64, .int .i64, .int .i64, .int .i64, .int .i64, .sl 3, .int .i64, .sl 3, .int .i64, .int .i64, .sl 3, .int .i64, .bool, .sl 184], .agg [.int .i64, .int .i64, .int .i64, .int .i64, .int .i64, .int .i64, .int .i64, .int .i64, .sl 3, .int .i64, .sl 3, .int .i64, .int .i64, .sl 3, .int .i64, .bool, .sl 184, .int .i64, .int .i64, .int .i64, .int .i64, .int .i64, .int .i64, .int .i64, .int .i64, .sl 3, .int .i64, .sl 3, .int .i64, .int .i64, .sl 3, .int .i64, .bool, .sl 184, .int .i64, .int .i64, .int .i64, .int .i64, .int .i64, .int .i64, .int .i64, .int .i64, .sl 3, .int .i64, .sl 3, .int .i64, .int .i64, .sl 3, .int .i64, .bool, .sl 184]]
def res : RP := .one (.rd (.bool))
def md (a0 : MFork) (a1 : MFork) : Bool := eqB a0 a1
def gd (a0 : MFork) (a1 : MFork) : Prop := True
def acc (ls : List L) : RFork × RFork := ((RFork.dec ls), (RFork.dec (dropT 51 ls)))
def R : (RFork × RFork) → Option Bool := RR (p2 gd) (u2 md)
theorem R_eq {a0} {a1} (h : gd a0 a1) : R ((MFork.r a0), (MFork.r a1)) = some (md a0 a1) := RR_eq (a := (a0, a1)) h
def con : Con := CN pats res acc R
theorem okF (a0 : MFork) (a1 : MFork) (hg : gd a0 a1) : F (MFork.r a0) (MFork.r a1) = ret ((md a0 a1) : Bool) := by
 unfold md
 show (call (Z120.R ((MSigned.r a0.fBefore), (MSigned.r a1.fBefore))) fun v1 => (bif (!v1) then ret (false : Bool) else (call (Z120.R ((MSigned.r a0.fA), (MSigned.r a1.fA))) fun v2 => (bif (!v2) then ret (false : Bool) else (call (Z120.R ((MSigned.r a0.fB), (MSigned.r a1.fB))) fun v3 => (bif (!v3) then ret (false : Bool) else ret (true : Bool))))))) = _
 simp only [call_eq (Z120.R_eq (a0 := a0.fBefore) (a1 := a1.fBefore) trivial), Z120.md]
 simp only [call_eq (Z120.R_eq (a0 := a0.fA) (a1 := a1.fA) trivial), Z120.md]
 simp only [call_eq (Z120.R_eq (a0 := a0.fB) (a1 := a1.fB) trivial), Z120.md]
 try simp only [bne, int_beq, bool_beq, ba_beq]
 have e : eqB a0 a1 = (eqB a0.fBefore a1.fBefore && (eqB a0.fA a1.fA && (eqB a0.fB a1.fB && true))) := by
  cases a0; cases a1
  rw [Bool.eq_iff_iff]
  simp only [eqB_iff, Bool.and_eq_true, MFork.mk.injEq, and_true]
 rw [e]
 refine and_step fun _ => ?_
 refine and_step fun _ => ?_
 refine and_step fun _ => ?_
 rfl
theorem valid_ : Valid Tryz.prog Ev 149 con := VV (live := fun _ => []) (nt := 23) (run := fun _ x => F x.1 x.2) mix tab_ok (.cons Z120.valid_ .nil) Tryz.func149 (by kernel_rfl) (fun _ _ => by kernel_rfl) (fun _ a _ _ hg => ⟨0, okF a.1 a.2 hg⟩)
end Z123
namespace Z124
inductive Pt where
 | p0 (a : List (List L)) (b : List (List L)) (c : Int)
def pid : Pt → Nat
 | .p0 .. => 4
def pvs : Pt → List V
 | .p0 a b c => [.sl none 134 a, .sl none 134 b, .int .i64 c]
def phs : Pt → List Root
 | .p0 a b c => []
def step (J : Pt → Ans) : Pt → Ans
 | .p0 a b c => (bif (decide (c < (a.length : Int))) then (bif (decide ((0 : Int) ≤ c)) then (bif (decide (c < (a.length : Int))) then (bif (decide ((0 : Int) ≤ c)) then (bif (decide (c < (b.length : Int))) then (call (Z123.R ((RFork.at a (Int.toNat c)), (RFork.at b (Int.toNat c)))) fun v1 => (bif (!v1) then ret (false : Bool) else J (.p0 a b (IntKind.i64.wrap (c + 1))))) else none) else none) else none) else none) else ret (true : Bool))
def start (J : Pt → Ans) (x0 : List (List L)) (x1 : List (List L)) : Ans := (bif ((x0.length : Int) != (x1.length : Int)) then ret (false : Bool) else J (.p0 x0 x1 0))
def live : Nat → Live := fun i => match i with | 4 => [(0, none), (1, none), (5, none)] | _ => []
def pats : List Pat := [.rd (.sl 134), .rd (.sl 134)]
def res : RP := .one (.rd (.bool))
abbrev E : Env := { T := assoc Tab, G := conG [(149, Z123.con)], nt := 27 }
theorem step_eq (I : Heads) (p : Pt) : enterC E live I (pid p) (bodyOf Tryz.f86) (stOf (live (pid p)) (pvs p) (phs p)) (doneK E Tryz.f86 res) = step (fun q => I (pid q) (pvs q) (phs q)) p := by
 cases p <;> kernel_rfl
theorem start_eq (I : Heads) (ls : List L) : runC E live I (bodyOf Tryz.f86) (initS pats ls) (doneK E Tryz.f86 res) = start (fun q => I (pid q) (pvs q) (phs q)) (ls.headD .hole).toSl ((dropT 1 ls).headD .hole).toSl := by kernel_rfl
theorem run_eq (n : Nat) (ls : List L) : runF E live Tryz.f86 res n (initS pats ls) = start (iter step n) (ls.headD .hole).toSl ((dropT 1 ls).headD .hole).toSl := runF_iter (id := pid) (vs := pvs) (hs := phs) (step := step) (start := fun J => start J (ls.headD .hole).toSl ((dropT 1 ls).headD .hole).toSl) step_eq (fun I => start_eq I ls) n
def md (a0 : List MFork) (a1 : List MFork) : Bool := eqB a0 a1
def gd (a0 : List MFork) (a1 : List MFork) : Prop := True
def acc (ls : List L) : List (List L) × List (List L) := ((ls.headD .hole).toSl, ((dropT 1 ls).headD .hole).toSl)
def R : (List (List L) × List (List L)) → Option Bool := RR (p2 gd) (u2 md)
theorem R_eq {a0} {a1} (h : gd a0 a1) : R ((a0.map MFork.row), (a1.map MFork.row)) = some (md a0 a1) := RR_eq (a := (a0, a1)) h
def con : Con := CN pats res acc R
theorem okF (a0 : List MFork) (a1 : List MFork) (hg : gd a0 a1) (h0 : a0.length ≤ maxLen) (h1 : a1.length ≤ maxLen) : ∃ n, start (iter step n) (a0.map MFork.row) (a1.map MFork.row) = ret ((md a0 a1) : Bool) := by
  unfold start md
  simp only [List.length_map]
  refine eq_list (pt := fun i => Pt.p0 (a0.map MFork.row) (a1.map MFork.row) (i : Int)) (fun hl J i h h2 => ?_) (fun J => ?_)
  · simp only [step, List.length_map, lt_dec h, lt_dec h2, zle_dec, cond_true, toNat_nat, MFork.at_row h, MFork.at_row h2]
    rw [wrap_succ h h0]
    rw [call_eq (Z123.R_eq (a0 := a0[i]) (a1 := a1[i]) trivial), Z123.md]
    cases eqB a0[i] a1[i] <;> rfl
  · simp only [step, List.length_map, nlt_dec, cond_false]
theorem valid_ : Valid Tryz.prog Ev 86 con := VV (run := fun n x => start (iter step n) x.1 x.2) mix tab_ok (.cons Z123.valid_ .nil) Tryz.func86 (by kernel_rfl) run_eq (fun ls a hl e hg => okF a.1 a.2 hg (by have h : (ls.headD .hole).toSl.length ≤ maxLen := hl.1.len; have e : a.1.map MFork.row = (ls.headD .hole).toSl := (congrArg (fun x => x.1) e.symm); rw [← e] at h; simpa using h) (by have h : ((dropT 1 ls).headD .hole).toSl.length ≤ maxLen := hl.2.1.len; have e : a.2.map MFork.row = ((dropT 1 ls).headD .hole).toSl := (congrArg (fun x => x.2) e.symm); rw [← e] at h; simpa using h))
end Z124
namespace Z125
def F (x0 : RKnown) (x1 : RKnown) : Ans := (call (Z122.R (x0.fChains, x1.fChains)) fun v1 => (bif (!v1) then ret (false : Bool) else (call (Z124.R (x0.fForks, x1.fForks)) fun v2 => (bif (!v2) then ret (false : Bool) else ret (true : Bool)))))
def pats : List Pat := [.agg [.sl 38, .sl 134], .agg [.sl 38, .sl 134]]
def res : RP := .one (.rd (.bool))
def md (a0 : MKnown) (a1 : MKnown) : Bool := eqB a0 a1
def gd (a0 : MKnown) (a1 : MKnown) : Prop := True
def acc (ls : List L) : RKnown × RKnown := ((RKnown.dec ls), (RKnown.dec (dropT 2 ls)))
def R : (RKnown × RKnown) → Option Bool := RR (p2 gd) (u2 md)
theorem R_eq {a0} {a1} (h : gd a0 a1) : R ((MKnown.r a0), (MKnown.r a1)) = some (md a0 a1) := RR_eq (a := (a0, a1)) h
def con : Con := CN pats res acc R
theorem okF (a0 : MKnown) (a1 : MKnown) (hg : gd a0 a1) : F (MKnown.r a0) (MKnown.r a1) = ret ((md a0 a1) : Bool) := by
 unfold md
 show (call (Z122.R ((a0.fChains.map (lRow MSigned.row)), (a1.fChains.map (lRow MSigned.row)))) fun v1 => (bif (!v1) then ret (false : Bool) else (call (Z124.R ((a0.fForks.map MFork.row), (a1.fForks.map MFork.row))) fun v2 => (bif (!v2) then ret (false : Bool) else ret (true : Bool))))) = _
 simp only [call_eq (Z122.R_eq (a0 := a0.fChains) (a1 := a1.fChains) trivial), Z122.md]
 simp only [call_eq (Z124.R_eq (a0 := a0.fForks) (a1 := a1.fForks) trivial), Z124.md]
 try simp only [bne, int_beq, bool_beq, ba_beq]
 have e : eqB a0 a1 = (eqB a0.fChains a1.fChains && (eqB a0.fForks a1.fForks && true)) := by
  cases a0; cases a1
  rw [Bool.eq_iff_iff]
  simp only [eqB_iff, Bool.and_eq_true, MKnown.mk.injEq, and_true]
 rw [e]
 refine and_step fun _ => ?_
 refine and_step fun _ => ?_
 rfl
theorem valid_ : Valid Tryz.prog Ev 28 con := VV (live := fun _ => []) (nt := 17) (run := fun _ x => F x.1 x.2) mix tab_ok (.cons Z122.valid_ (.cons Z124.valid_ .nil)) Tryz.func28 (by kernel_rfl) (fun _ _ => by kernel_rfl) (fun _ a _ _ hg => ⟨0, okF a.1 a.2 hg⟩)
end Z125
namespace Z126
set_option maxHeartbeats 8000000
inductive Pt where
 | p0 (a : Int) (b : Int) (c : List (List L))
def pid : Pt → Nat
 | .p0 .. => 2
def pvs : Pt → List V
 | .p0 a b c => [.own 0, .int .i64 a, .int .i64 b]
def phs : Pt → List Root
 | .p0 a b c => [.row 3 c]
def step (J : Pt → Ans) : Pt → Ans
 | .p0 a b c => (bif (decide (b < (c.length : Int))) then (bif (decide ((0 : Int) ≤ b)) then (bif (decide (b < (c.length : Int))) then J (.p0 (IntKind.i64.wrap (a + 1)) (IntKind.i64.wrap (b + 1)) (List.set c (Int.toNat b) [L.int a])) else none) else none) else ret ((a, c) : Int × List (List L)))
def start (J : Pt → Ans) (x0 : List (List L)) (x1 : Int) : Ans := J (.p0 x1 0 x0)
def live : Nat → Live := fun i => match i with | 2 => [(0, none), (1, none), (5, none)] | _ => []
def pats : List (Bool × List K) := [(false, [.sl 3]), (false, [.int .i64])]
def res : RP := .chg [3]
abbrev E : Env := { T := assoc Tab, G := conG [], nt := 19, M := conM [], np := 1, mt := true }
theorem step_eq (I : Heads) (p : Pt) : enterC E live I (pid p) (bodyOf Tryz.f68) (stOf (live (pid p)) (pvs p) (phs p)) (doneK E Tryz.f68 res) = step (fun q => I (pid q) (pvs q) (phs q)) p := by
 cases p <;> kernel_rfl
theorem start_eq (I : Heads) (ls : List L) : runC E live I (bodyOf Tryz.f68) (initM pats ls) (doneK E Tryz.f68 res) = start (fun q => I (pid q) (pvs q) (phs q)) (ls.headD .hole).toSl ((dropT 1 ls).headD .hole).toInt := by kernel_rfl
theorem run_eq (n : Nat) (ls : List L) : runF E live Tryz.f68 res n (initM pats ls) = start (iter step n) (ls.headD .hole).toSl ((dropT 1 ls).headD .hole).toInt := runF_iter (id := pid) (vs := pvs) (hs := phs) (step := step) (start := fun J => start J (ls.headD .hole).toSl ((dropT 1 ls).headD .hole).toInt) step_eq (fun I => start_eq I ls) n
def el (x : Int) (k : Int) : Int × Int := ((IntKind.i64.wrap (k + 1)), (k))
theorem el_I (x : Int) (k : Int) (hk : I64 k) : I64 (el x k).1 := (wrap_I64 _)
def cnt (x : Int) : Nat := 1
def sum (a : List Int) : Nat := (a.map cnt).sum
def md (a0 : List Int) (a1 : Int) : Int × List Int := accM el a0 a1
def gd (a0 : List Int) (a1 : Int) : Prop := I64 a1
def acc (ls : List L) : List (List L) × Int := ((ls.headD .hole).toSl, ((dropT 1 ls).headD .hole).toInt)
def R : (List (List L) × Int) → Option (Int × List (List L)) := RR (p2 gd) (u2 md)
theorem R_eq {a0} {a1} (h : gd a0 a1) : R ((a0.map iRow), a1) = some ((md a0 a1).1, ((md a0 a1).2.map iRow)) := RR_eq (a := (a0, a1)) h
def con : MCon := MN pats acc R
theorem okF (a0 : List Int) (a1 : Int) (hg : gd a0 a1) (h0 : a0.length ≤ maxLen) : ∃ n, start (iter step n) (a0.map iRow) a1 = ret (((md a0 a1).1, ((md a0 a1).2.map iRow)) : Int × List (List L)) := by
  unfold gd at hg
  show ∃ n, iter step n (Pt.p0 a1 0 (a0.map iRow)) = _
  unfold md
  refine mark_loop (el := el) (xs := a0) 0 I64 el_I (pt := fun i k c => Pt.p0 k (i : Int) (c.map iRow)) (out := fun b => ret (b.1, b.2.map iRow)) (fun J i k c hi hc hk => ?_) (fun J k c hc => ?_) hg
  · have hm : c.length ≤ maxLen := hc ▸ h0
    simp only [step, S0]
    refine yes_ret (lt_dec hi) ?_
    refine yes_ret zle_dec ?_
    refine yes_ret (lt_dec hi) ?_
    rw [wrap_succ hi hm]
    exact congrArg (fun q => J (Pt.p0 (el (c.getD i 0) k).1 ((i + 1 : Nat) : Int) q)) (List.map_set (f := iRow) (l := c) (i := i) (a := (el (c.getD i 0) k).2)).symm
  · simp only [step, S0]
    refine no_ret (by apply decide_eq_false; omega) ?_
    rfl
theorem valid_ : MValid Tryz.prog Ev 68 con := MV (run := fun n x => start (iter step n) x.1 x.2) mix tab_ok .nil .nil Tryz.func68 (by kernel_rfl) run_eq (fun ls a hl e hg => okF a.1 a.2 hg (by have h : (ls.headD .hole).toSl.length ≤ maxLen := (hl _ _ (.head _)).len; have e : a.1.map iRow = (ls.headD .hole).toSl := (congrArg (fun x => x.1) e.symm); rw [← e] at h; simpa using h))
theorem i64 {a0 : List Int} {a1 : Int} (h : I64 a1) : I64 (md a0 a1).1 := accM_I el_I h
theorem elk (x : Int) (k : Int) (h0 : 0 ≤ k) (hb : k + (cnt x : Int) ≤ 4611686018427387904) : (el x k).1 = k + cnt x := by
 simp only [cnt, Int.natCast_add] at hb ⊢
 simp (disch := omega) only [el, wi]
 all_goals first | done | omega
theorem kk (a0 : List Int) (a1 : Int) (h0 : 0 ≤ a1) (hb : a1 + (sum a0 : Int) ≤ 4611686018427387904) : (md a0 a1).1 = a1 + sum a0 := accM_sum elk a0 a1 h0 hb
theorem sz (a : List Int) : sum a ≤ 60 * (szL (fun y : Int => 0) a) := sum_le (fun x => by
  try simp only [cnt] at *
  omega) a
end Z126
namespace Z127
set_option maxHeartbeats 8000000
inductive Pt where
 | p0 (a : Int) (b : Int) (c : List (List L))
def pid : Pt → Nat
 | .p0 .. => 2
def pvs : Pt → List V
 | .p0 a b c => [.own 0, .int .i64 a, .int .i64 b]
def phs : Pt → List Root
 | .p0 a b c => [.row 184 c]
def step (J : Pt → Ans) : Pt → Ans
 | .p0 a b c => (bif (decide (b < (c.length : Int))) then (bif (decide ((0 : Int) ≤ b)) then (bif (decide (b < (c.length : Int))) then (bif (decide ((0 : Int) ≤ b)) then (bif (decide (b < (c.length : Int))) then (bif (Nat.beq (Int.toNat b) (Int.toNat b) && true) then J (.p0 (IntKind.i64.wrap ((IntKind.i64.wrap (a + 1)) + 1)) (IntKind.i64.wrap (b + 1)) (List.set c (Int.toNat b) (MSig.enc (⟨a, (IntKind.i64.wrap (a + 1))⟩ : MSig)))) else none) else none) else none) else none) else none) else ret ((a, c) : Int × List (List L)))
def start (J : Pt → Ans) (x0 : List (List L)) (x1 : Int) : Ans := J (.p0 x1 0 x0)
def live : Nat → Live := fun i => match i with | 2 => [(0, none), (1, none), (5, none)] | _ => []
def pats : List (Bool × List K) := [(false, [.sl 184]), (false, [.int .i64])]
def res : RP := .chg [184]
abbrev E : Env := { T := assoc Tab, G := conG [], nt := 27, M := conM [], np := 1, mt := true }
theorem step_eq (I : Heads) (p : Pt) : enterC E live I (pid p) (bodyOf Tryz.f69) (stOf (live (pid p)) (pvs p) (phs p)) (doneK E Tryz.f69 res) = step (fun q => I (pid q) (pvs q) (phs q)) p := by
 cases p <;> kernel_rfl
theorem start_eq (I : Heads) (ls : List L) : runC E live I (bodyOf Tryz.f69) (initM pats ls) (doneK E Tryz.f69 res) = start (fun q => I (pid q) (pvs q) (phs q)) (ls.headD .hole).toSl ((dropT 1 ls).headD .hole).toInt := by kernel_rfl
theorem run_eq (n : Nat) (ls : List L) : runF E live Tryz.f69 res n (initM pats ls) = start (iter step n) (ls.headD .hole).toSl ((dropT 1 ls).headD .hole).toInt := runF_iter (id := pid) (vs := pvs) (hs := phs) (step := step) (start := fun J => start J (ls.headD .hole).toSl ((dropT 1 ls).headD .hole).toInt) step_eq (fun I => start_eq I ls) n
def el (x : MSig) (k : Int) : Int × MSig := ((IntKind.i64.wrap ((IntKind.i64.wrap (k + 1)) + 1)), (⟨k, (IntKind.i64.wrap (k + 1))⟩ : MSig))
theorem el_I (x : MSig) (k : Int) (hk : I64 k) : I64 (el x k).1 := (wrap_I64 _)
def cnt (x : MSig) : Nat := 2
def sum (a : List MSig) : Nat := (a.map cnt).sum
def md (a0 : List MSig) (a1 : Int) : Int × List MSig := accM el a0 a1
def gd (a0 : List MSig) (a1 : Int) : Prop := I64 a1
def acc (ls : List L) : List (List L) × Int := ((ls.headD .hole).toSl, ((dropT 1 ls).headD .hole).toInt)
def R : (List (List L) × Int) → Option (Int × List (List L)) := RR (p2 gd) (u2 md)
theorem R_eq {a0} {a1} (h : gd a0 a1) : R ((a0.map MSig.row), a1) = some ((md a0 a1).1, ((md a0 a1).2.map MSig.row)) := RR_eq (a := (a0, a1)) h
def con : MCon := MN pats acc R
theorem okF (a0 : List MSig) (a1 : Int) (hg : gd a0 a1) (h0 : a0.length ≤ maxLen) : ∃ n, start (iter step n) (a0.map MSig.row) a1 = ret (((md a0 a1).1, ((md a0 a1).2.map MSig.row)) : Int × List (List L)) := by
  unfold gd at hg
  show ∃ n, iter step n (Pt.p0 a1 0 (a0.map MSig.row)) = _
  unfold md
  refine mark_loop (el := el) (xs := a0) MSig.zero I64 el_I (pt := fun i k c => Pt.p0 k (i : Int) (c.map MSig.row)) (out := fun b => ret (b.1, b.2.map MSig.row)) (fun J i k c hi hc hk => ?_) (fun J k c hc => ?_) hg
  · have hm : c.length ≤ maxLen := hc ▸ h0
    simp only [step, S0]
    refine yes_ret (lt_dec hi) ?_
    refine yes_ret zle_dec ?_
    refine yes_ret (lt_dec hi) ?_
    refine yes_ret zle_dec ?_
    refine yes_ret (lt_dec hi) ?_
    refine yes_ret (beq_t _) ?_
    rw [wrap_succ hi hm]
    exact congrArg (fun q => J (Pt.p0 (el (c.getD i MSig.zero) k).1 ((i + 1 : Nat) : Int) q)) (List.map_set (f := MSig.row) (l := c) (i := i) (a := (el (c.getD i MSig.zero) k).2)).symm
  · simp only [step, S0]
    refine no_ret (by apply decide_eq_false; omega) ?_
    rfl
theorem valid_ : MValid Tryz.prog Ev 69 con := MV (run := fun n x => start (iter step n) x.1 x.2) mix tab_ok .nil .nil Tryz.func69 (by kernel_rfl) run_eq (fun ls a hl e hg => okF a.1 a.2 hg (by have h : (ls.headD .hole).toSl.length ≤ maxLen := (hl _ _ (.head _)).len; have e : a.1.map MSig.row = (ls.headD .hole).toSl := (congrArg (fun x => x.1) e.symm); rw [← e] at h; simpa using h))
theorem i64 {a0 : List MSig} {a1 : Int} (h : I64 a1) : I64 (md a0 a1).1 := accM_I el_I h
theorem elk (x : MSig) (k : Int) (h0 : 0 ≤ k) (hb : k + (cnt x : Int) ≤ 4611686018427387904) : (el x k).1 = k + cnt x := by
 simp only [cnt, Int.natCast_add] at hb ⊢
 simp (disch := omega) only [el, wi]
 all_goals first | done | omega
theorem kk (a0 : List MSig) (a1 : Int) (h0 : 0 ≤ a1) (hb : a1 + (sum a0 : Int) ≤ 4611686018427387904) : (md a0 a1).1 = a1 + sum a0 := accM_sum elk a0 a1 h0 hb
theorem sz (a : List MSig) : sum a ≤ 60 * (szL (fun y : MSig => MSig.size y) a) := sum_le (fun x => by
  try simp only [cnt, MSig.size] at *
  omega) a
end Z127
namespace Z128
set_option maxHeartbeats 8000000
inductive Pt where
 | p0 (a : Int) (b : Int) (c : List (List L))
def pid : Pt → Nat
 | .p0 .. => 2
def pvs : Pt → List V
 | .p0 a b c => [.own 0, .int .i64 a, .int .i64 b]
def phs : Pt → List Root
 | .p0 a b c => [.row 122 c]
def step (J : Pt → Ans) : Pt → Ans
 | .p0 a b c => (bif (decide (b < (c.length : Int))) then (bif (decide ((0 : Int) ≤ b)) then (bif (decide (b < (c.length : Int))) then (bif (decide ((0 : Int) ≤ b)) then (bif (decide (b < (c.length : Int))) then (bif (Nat.beq (Int.toNat b) (Int.toNat b) && true) then (bif (decide ((0 : Int) ≤ b)) then (bif (decide (b < (c.length : Int))) then (bif (Nat.beq (Int.toNat b) (Int.toNat b) && true) then (bif (decide ((0 : Int) ≤ b)) then (bif (decide (b < (c.length : Int))) then (bif (Nat.beq (Int.toNat b) (Int.toNat b) && true) then (bif (decide ((0 : Int) ≤ b)) then (bif (decide (b < (c.length : Int))) then (bif (Nat.beq (Int.toNat b) (Int.toNat b) && true) then (bif (decide ((0 : Int) ≤ b)) then (bif (decide (b < (c.length : Int))) then (bif (Nat.beq (Int.toNat b) (Int.toNat b) && true) then (bif (decide ((0 : Int) ≤ b)) then (bif (decide (b < (c.length : Int))) then (bif (Nat.beq (Int.toNat b) (Int.toNat b) && true) then (bif (decide ((0 : Int) ≤ b)) then (bif (decide (b < (c.length : Int))) then (bif (Nat.beq (Int.toNat b) (Int.toNat b) && true) then (bif (decide ((0 : Int) ≤ b)) then (bif (decide (b < (c.length : Int))) then (bif (Nat.beq (Int.toNat b) (Int.toNat b) && true) then (bif (Nat.beq (Int.toNat b) (Int.toNat b) && true) then (call (Z126.R ((RSigned.at c (Int.toNat b)).fHead.fKeys.fList, (IntKind.i64.wrap ((IntKind.i64.wrap ((IntKind.i64.wrap ((IntKind.i64.wrap ((IntKind.i64.wrap ((IntKind.i64.wrap ((IntKind.i64.wrap ((IntKind.i64.wrap (a + 1)) + 1)) + 1)) + 1)) + 1)) + 1)) + 1)) + 1)))) fun v1 => (bif (decide ((0 : Int) ≤ b)) then (bif (decide (b < (c.length : Int))) then (bif (Nat.beq (Int.toNat b) (Int.toNat b) && true) then (bif (decide ((0 : Int) ≤ b)) then (bif (decide (b < (c.length : Int))) then (bif (Nat.beq (Int.toNat b) (Int.toNat b) && true) then (bif (Nat.beq (Int.toNat b) (Int.toNat b) && true) then (call (Z126.R ((RSigned.at c (Int.toNat b)).fHead.fHeirs.fList, (IntKind.i64.wrap (v1.1 + 1)))) fun v2 => (bif (decide ((0 : Int) ≤ b)) then (bif (decide (b < (c.length : Int))) then (bif (Nat.beq (Int.toNat b) (Int.toNat b) && true) then (bif (decide ((0 : Int) ≤ b)) then (bif (decide (b < (c.length : Int))) then (bif (Nat.beq (Int.toNat b) (Int.toNat b) && true) then (bif (decide ((0 : Int) ≤ b)) then (bif (decide (b < (c.length : Int))) then (bif (Nat.beq (Int.toNat b) (Int.toNat b) && true) then (bif (Nat.beq (Int.toNat b) (Int.toNat b) && true) then (call (Z126.R ((RSigned.at c (Int.toNat b)).fHead.fJudge.fList, (IntKind.i64.wrap ((IntKind.i64.wrap (v2.1 + 1)) + 1)))) fun v3 => (bif (decide ((0 : Int) ≤ b)) then (bif (decide (b < (c.length : Int))) then (bif (Nat.beq (Int.toNat b) (Int.toNat b) && true) then (bif (decide ((0 : Int) ≤ b)) then (bif (decide (b < (c.length : Int))) then (bif (Nat.beq (Int.toNat b) (Int.toNat b) && true) then (bif (decide ((0 : Int) ≤ b)) then (bif (decide (b < (c.length : Int))) then (bif (Nat.beq (Int.toNat b) (Int.toNat b) && true) then (bif (Nat.beq (Int.toNat b) (Int.toNat b) && true) then (call (Z127.R ((RSigned.at c (Int.toNat b)).fSigs, (IntKind.i64.wrap ((IntKind.i64.wrap (v3.1 + 1)) + 1)))) fun v4 => J (.p0 v4.1 (IntKind.i64.wrap (b + 1)) (List.set c (Int.toNat b) (RSigned.enc (⟨(⟨a, (IntKind.i64.wrap (a + 1)), (IntKind.i64.wrap ((IntKind.i64.wrap (a + 1)) + 1)), (IntKind.i64.wrap ((IntKind.i64.wrap ((IntKind.i64.wrap (a + 1)) + 1)) + 1)), (IntKind.i64.wrap ((IntKind.i64.wrap ((IntKind.i64.wrap ((IntKind.i64.wrap (a + 1)) + 1)) + 1)) + 1)), (IntKind.i64.wrap ((IntKind.i64.wrap ((IntKind.i64.wrap ((IntKind.i64.wrap ((IntKind.i64.wrap (a + 1)) + 1)) + 1)) + 1)) + 1)), (IntKind.i64.wrap ((IntKind.i64.wrap ((IntKind.i64.wrap ((IntKind.i64.wrap ((IntKind.i64.wrap ((IntKind.i64.wrap (a + 1)) + 1)) + 1)) + 1)) + 1)) + 1)), (IntKind.i64.wrap ((IntKind.i64.wrap ((IntKind.i64.wrap ((IntKind.i64.wrap ((IntKind.i64.wrap ((IntKind.i64.wrap ((IntKind.i64.wrap (a + 1)) + 1)) + 1)) + 1)) + 1)) + 1)) + 1)), (⟨v1.2, v1.1⟩ : RKeys), (⟨v2.2, v2.1⟩ : RKeys), (IntKind.i64.wrap (v2.1 + 1)), (⟨v3.2, v3.1⟩ : RKeys), ((Int.tmod (IntKind.i64.wrap (v3.1 + 1)) 3) == 0)⟩ : RHead), v4.2⟩ : RSigned))))) else none) else none) else none) else none) else none) else none) else none) else none) else none) else none)) else none) else none) else none) else none) else none) else none) else none) else none) else none) else none)) else none) else none) else none) else none) else none) else none) else none)) else none) else none) else none) else none) else none) else none) else none) else none) else none) else none) else none) else none) else none) else none) else none) else none) else none) else none) else none) else none) else none) else none) else none) else none) else none) else none) else none) else ret ((a, c) : Int × List (List L)))
def start (J : Pt → Ans) (x0 : List (List L)) (x1 : Int) : Ans := J (.p0 x1 0 x0)
def live : Nat → Live := fun i => match i with | 2 => [(0, none), (1, none), (5, none)] | _ => []
def pats : List (Bool × List K) := [(false, [.sl 122]), (false, [.int .i64])]
def res : RP := .chg [122]
abbrev E : Env := { T := assoc Tab, G := conG [], nt := 156, M := conM [(68, Z126.con), (69, Z127.con)], np := 1, mt := true }
theorem step_eq (I : Heads) (p : Pt) : enterC E live I (pid p) (bodyOf Tryz.f21) (stOf (live (pid p)) (pvs p) (phs p)) (doneK E Tryz.f21 res) = step (fun q => I (pid q) (pvs q) (phs q)) p := by
 cases p <;> kernel_rfl
theorem start_eq (I : Heads) (ls : List L) : runC E live I (bodyOf Tryz.f21) (initM pats ls) (doneK E Tryz.f21 res) = start (fun q => I (pid q) (pvs q) (phs q)) (ls.headD .hole).toSl ((dropT 1 ls).headD .hole).toInt := by kernel_rfl
theorem run_eq (n : Nat) (ls : List L) : runF E live Tryz.f21 res n (initM pats ls) = start (iter step n) (ls.headD .hole).toSl ((dropT 1 ls).headD .hole).toInt := runF_iter (id := pid) (vs := pvs) (hs := phs) (step := step) (start := fun J => start J (ls.headD .hole).toSl ((dropT 1 ls).headD .hole).toInt) step_eq (fun I => start_eq I ls) n
def e1 (x : MSigned) (k : Int) := Z126.md (((x.fHead).fKeys).fList) (IntKind.i64.wrap ((IntKind.i64.wrap ((IntKind.i64.wrap ((IntKind.i64.wrap ((IntKind.i64.wrap ((IntKind.i64.wrap ((IntKind.i64.wrap ((IntKind.i64.wrap (k + 1)) + 1)) + 1)) + 1)) + 1)) + 1)) + 1)) + 1))
def e2 (x : MSigned) (k : Int) := Z126.md (((x.fHead).fHeirs).fList) (IntKind.i64.wrap ((e1 x k).1 + 1))
def e3 (x : MSigned) (k : Int) := Z126.md (((x.fHead).fJudge).fList) (IntKind.i64.wrap ((IntKind.i64.wrap ((e2 x k).1 + 1)) + 1))
def e4 (x : MSigned) (k : Int) := Z127.md x.fSigs (IntKind.i64.wrap ((IntKind.i64.wrap ((e3 x k).1 + 1)) + 1))
def el (x : MSigned) (k : Int) : Int × MSigned := ((e4 x k).1, (⟨(⟨k, (IntKind.i64.wrap (k + 1)), (IntKind.i64.wrap ((IntKind.i64.wrap (k + 1)) + 1)), (IntKind.i64.wrap ((IntKind.i64.wrap ((IntKind.i64.wrap (k + 1)) + 1)) + 1)), (IntKind.i64.wrap ((IntKind.i64.wrap ((IntKind.i64.wrap ((IntKind.i64.wrap (k + 1)) + 1)) + 1)) + 1)), (IntKind.i64.wrap ((IntKind.i64.wrap ((IntKind.i64.wrap ((IntKind.i64.wrap ((IntKind.i64.wrap (k + 1)) + 1)) + 1)) + 1)) + 1)), (IntKind.i64.wrap ((IntKind.i64.wrap ((IntKind.i64.wrap ((IntKind.i64.wrap ((IntKind.i64.wrap ((IntKind.i64.wrap (k + 1)) + 1)) + 1)) + 1)) + 1)) + 1)), (IntKind.i64.wrap ((IntKind.i64.wrap ((IntKind.i64.wrap ((IntKind.i64.wrap ((IntKind.i64.wrap ((IntKind.i64.wrap ((IntKind.i64.wrap (k + 1)) + 1)) + 1)) + 1)) + 1)) + 1)) + 1)), (⟨(e1 x k).2, (e1 x k).1⟩ : MKeys), (⟨(e2 x k).2, (e2 x k).1⟩ : MKeys), (IntKind.i64.wrap ((e2 x k).1 + 1)), (⟨(e3 x k).2, (e3 x k).1⟩ : MKeys), ((Int.tmod (IntKind.i64.wrap ((e3 x k).1 + 1)) 3) == 0)⟩ : MHead), (e4 x k).2⟩ : MSigned))
theorem el_I (x : MSigned) (k : Int) (hk : I64 k) : I64 (el x k).1 := (Z127.i64 (wrap_I64 _))
def cnt (x : MSigned) : Nat := 13 + Z126.sum (((x.fHead).fKeys).fList) + Z126.sum (((x.fHead).fHeirs).fList) + Z126.sum (((x.fHead).fJudge).fList) + Z127.sum x.fSigs
def sum (a : List MSigned) : Nat := (a.map cnt).sum
def md (a0 : List MSigned) (a1 : Int) : Int × List MSigned := accM el a0 a1
def gd (a0 : List MSigned) (a1 : Int) : Prop := I64 a1
def acc (ls : List L) : List (List L) × Int := ((ls.headD .hole).toSl, ((dropT 1 ls).headD .hole).toInt)
def R : (List (List L) × Int) → Option (Int × List (List L)) := RR (p2 gd) (u2 md)
theorem R_eq {a0} {a1} (h : gd a0 a1) : R ((a0.map MSigned.row), a1) = some ((md a0 a1).1, ((md a0 a1).2.map MSigned.row)) := RR_eq (a := (a0, a1)) h
def con : MCon := MN pats acc R
theorem okF (a0 : List MSigned) (a1 : Int) (hg : gd a0 a1) (h0 : a0.length ≤ maxLen) : ∃ n, start (iter step n) (a0.map MSigned.row) a1 = ret (((md a0 a1).1, ((md a0 a1).2.map MSigned.row)) : Int × List (List L)) := by
  unfold gd at hg
  show ∃ n, iter step n (Pt.p0 a1 0 (a0.map MSigned.row)) = _
  unfold md
  refine mark_loop (el := el) (xs := a0) MSigned.zero I64 el_I (pt := fun i k c => Pt.p0 k (i : Int) (c.map MSigned.row)) (out := fun b => ret (b.1, b.2.map MSigned.row)) (fun J i k c hi hc hk => ?_) (fun J k c hc => ?_) hg
  · have hm : c.length ≤ maxLen := hc ▸ h0
    simp only [step, S0, MKeys.rs, MHead.rs, MSigned.rs]
    refine yes_ret (lt_dec hi) ?_
    refine yes_ret zle_dec ?_
    refine yes_ret (lt_dec hi) ?_
    refine yes_ret zle_dec ?_
    refine yes_ret (lt_dec hi) ?_
    refine yes_ret (beq_t _) ?_
    refine yes_ret zle_dec ?_
    refine yes_ret (lt_dec hi) ?_
    refine yes_ret (beq_t _) ?_
    refine yes_ret zle_dec ?_
    refine yes_ret (lt_dec hi) ?_
    refine yes_ret (beq_t _) ?_
    refine yes_ret zle_dec ?_
    refine yes_ret (lt_dec hi) ?_
    refine yes_ret (beq_t _) ?_
    refine yes_ret zle_dec ?_
    refine yes_ret (lt_dec hi) ?_
    refine yes_ret (beq_t _) ?_
    refine yes_ret zle_dec ?_
    refine yes_ret (lt_dec hi) ?_
    refine yes_ret (beq_t _) ?_
    refine yes_ret zle_dec ?_
    refine yes_ret (lt_dec hi) ?_
    refine yes_ret (beq_t _) ?_
    refine yes_ret zle_dec ?_
    refine yes_ret (lt_dec hi) ?_
    refine yes_ret (beq_t _) ?_
    refine yes_ret (beq_t _) ?_
    refine call_to ((e1 (c.getD i MSigned.zero) k).1, ((e1 (c.getD i MSigned.zero) k).2.map iRow)) (Z126.R_eq (a0 := (((c.getD i MSigned.zero).fHead).fKeys).fList) (a1 := IntKind.i64.wrap ((IntKind.i64.wrap ((IntKind.i64.wrap ((IntKind.i64.wrap ((IntKind.i64.wrap ((IntKind.i64.wrap ((IntKind.i64.wrap ((IntKind.i64.wrap (k + 1)) + 1)) + 1)) + 1)) + 1)) + 1)) + 1)) + 1)) (wrap_I64 _)) ?_
    refine yes_ret zle_dec ?_
    refine yes_ret (lt_dec hi) ?_
    refine yes_ret (beq_t _) ?_
    refine yes_ret zle_dec ?_
    refine yes_ret (lt_dec hi) ?_
    refine yes_ret (beq_t _) ?_
    refine yes_ret (beq_t _) ?_
    refine call_to ((e2 (c.getD i MSigned.zero) k).1, ((e2 (c.getD i MSigned.zero) k).2.map iRow)) (Z126.R_eq (a0 := (((c.getD i MSigned.zero).fHead).fHeirs).fList) (a1 := IntKind.i64.wrap ((e1 (c.getD i MSigned.zero) k).1 + 1)) (wrap_I64 _)) ?_
    refine yes_ret zle_dec ?_
    refine yes_ret (lt_dec hi) ?_
    refine yes_ret (beq_t _) ?_
    refine yes_ret zle_dec ?_
    refine yes_ret (lt_dec hi) ?_
    refine yes_ret (beq_t _) ?_
    refine yes_ret zle_dec ?_
    refine yes_ret (lt_dec hi) ?_
    refine yes_ret (beq_t _) ?_
    refine yes_ret (beq_t _) ?_
    refine call_to ((e3 (c.getD i MSigned.zero) k).1, ((e3 (c.getD i MSigned.zero) k).2.map iRow)) (Z126.R_eq (a0 := (((c.getD i MSigned.zero).fHead).fJudge).fList) (a1 := IntKind.i64.wrap ((IntKind.i64.wrap ((e2 (c.getD i MSigned.zero) k).1 + 1)) + 1)) (wrap_I64 _)) ?_
    refine yes_ret zle_dec ?_
    refine yes_ret (lt_dec hi) ?_
    refine yes_ret (beq_t _) ?_
    refine yes_ret zle_dec ?_
    refine yes_ret (lt_dec hi) ?_
    refine yes_ret (beq_t _) ?_
    refine yes_ret zle_dec ?_
    refine yes_ret (lt_dec hi) ?_
    refine yes_ret (beq_t _) ?_
    refine yes_ret (beq_t _) ?_
    refine call_to ((e4 (c.getD i MSigned.zero) k).1, ((e4 (c.getD i MSigned.zero) k).2.map MSig.row)) (Z127.R_eq (a0 := (c.getD i MSigned.zero).fSigs) (a1 := IntKind.i64.wrap ((IntKind.i64.wrap ((e3 (c.getD i MSigned.zero) k).1 + 1)) + 1)) (wrap_I64 _)) ?_
    rw [wrap_succ hi hm]
    exact congrArg (fun q => J (Pt.p0 (el (c.getD i MSigned.zero) k).1 ((i + 1 : Nat) : Int) q)) (List.map_set (f := MSigned.row) (l := c) (i := i) (a := (el (c.getD i MSigned.zero) k).2)).symm
  · simp only [step, S0, MKeys.rs, MHead.rs, MSigned.rs]
    refine no_ret (by apply decide_eq_false; omega) ?_
    rfl
theorem valid_ : MValid Tryz.prog Ev 21 con := MV (run := fun n x => start (iter step n) x.1 x.2) mix tab_ok .nil (.cons Z126.valid_ (.cons Z127.valid_ .nil)) Tryz.func21 (by kernel_rfl) run_eq (fun ls a hl e hg => okF a.1 a.2 hg (by have h : (ls.headD .hole).toSl.length ≤ maxLen := (hl _ _ (.head _)).len; have e : a.1.map MSigned.row = (ls.headD .hole).toSl := (congrArg (fun x => x.1) e.symm); rw [← e] at h; simpa using h))
theorem i64 {a0 : List MSigned} {a1 : Int} (h : I64 a1) : I64 (md a0 a1).1 := accM_I el_I h
theorem elk (x : MSigned) (k : Int) (h0 : 0 ≤ k) (hb : k + (cnt x : Int) ≤ 4611686018427387904) : (el x k).1 = k + cnt x := by
 simp only [cnt, Int.natCast_add] at hb ⊢
 simp (disch := omega) only [el, e1, e2, e3, e4, wi, Z126.kk, Z127.kk]
 all_goals first | done | omega
theorem kk (a0 : List MSigned) (a1 : Int) (h0 : 0 ≤ a1) (hb : a1 + (sum a0 : Int) ≤ 4611686018427387904) : (md a0 a1).1 = a1 + sum a0 := accM_sum elk a0 a1 h0 hb
theorem sz (a : List MSigned) : sum a ≤ 60 * (szL (fun y : MSigned => MSigned.size y) a) := sum_le (fun x => by
  have := Z126.sz (((x.fHead).fKeys).fList)
  have := Z126.sz (((x.fHead).fHeirs).fList)
  have := Z126.sz (((x.fHead).fJudge).fList)
  have := Z127.sz x.fSigs
  try simp only [cnt, MSigned.size, MHead.size, MKeys.size] at *
  omega) a
end Z128
namespace Z129
set_option maxHeartbeats 8000000
inductive Pt where
 | p0 (a : Int) (b : Int) (c : List (List L))
def pid : Pt → Nat
 | .p0 .. => 2
def pvs : Pt → List V
 | .p0 a b c => [.own 0, .int .i64 a, .int .i64 b]
def phs : Pt → List Root
 | .p0 a b c => [.row 38 c]
def step (J : Pt → Ans) : Pt → Ans
 | .p0 a b c => (bif (decide (b < (c.length : Int))) then (bif (decide ((0 : Int) ≤ b)) then (bif (decide (b < (c.length : Int))) then (call (Z128.R ((lAt c (Int.toNat b)), a)) fun v1 => J (.p0 v1.1 (IntKind.i64.wrap (b + 1)) (List.set c (Int.toNat b) [L.sl v1.2]))) else none) else none) else ret ((a, c) : Int × List (List L)))
def start (J : Pt → Ans) (x0 : List (List L)) (x1 : Int) : Ans := J (.p0 x1 0 x0)
def live : Nat → Live := fun i => match i with | 2 => [(0, none), (1, none), (5, none)] | _ => []
def pats : List (Bool × List K) := [(false, [.sl 38]), (false, [.int .i64])]
def res : RP := .chg [38]
abbrev E : Env := { T := assoc Tab, G := conG [], nt := 19, M := conM [(21, Z128.con)], np := 1, mt := true }
theorem step_eq (I : Heads) (p : Pt) : enterC E live I (pid p) (bodyOf Tryz.f87) (stOf (live (pid p)) (pvs p) (phs p)) (doneK E Tryz.f87 res) = step (fun q => I (pid q) (pvs q) (phs q)) p := by
 cases p <;> kernel_rfl
theorem start_eq (I : Heads) (ls : List L) : runC E live I (bodyOf Tryz.f87) (initM pats ls) (doneK E Tryz.f87 res) = start (fun q => I (pid q) (pvs q) (phs q)) (ls.headD .hole).toSl ((dropT 1 ls).headD .hole).toInt := by kernel_rfl
theorem run_eq (n : Nat) (ls : List L) : runF E live Tryz.f87 res n (initM pats ls) = start (iter step n) (ls.headD .hole).toSl ((dropT 1 ls).headD .hole).toInt := runF_iter (id := pid) (vs := pvs) (hs := phs) (step := step) (start := fun J => start J (ls.headD .hole).toSl ((dropT 1 ls).headD .hole).toInt) step_eq (fun I => start_eq I ls) n
def e1 (x : List MSigned) (k : Int) := Z128.md x k
def el (x : List MSigned) (k : Int) : Int × (List MSigned) := ((e1 x k).1, ((e1 x k).2))
theorem el_I (x : List MSigned) (k : Int) (hk : I64 k) : I64 (el x k).1 := (Z128.i64 hk)
def cnt (x : List MSigned) : Nat := 0 + Z128.sum x
def sum (a : List (List MSigned)) : Nat := (a.map cnt).sum
def md (a0 : List (List MSigned)) (a1 : Int) : Int × List (List MSigned) := accM el a0 a1
def gd (a0 : List (List MSigned)) (a1 : Int) : Prop := I64 a1
def acc (ls : List L) : List (List L) × Int := ((ls.headD .hole).toSl, ((dropT 1 ls).headD .hole).toInt)
def R : (List (List L) × Int) → Option (Int × List (List L)) := RR (p2 gd) (u2 md)
theorem R_eq {a0} {a1} (h : gd a0 a1) : R ((a0.map (lRow MSigned.row)), a1) = some ((md a0 a1).1, ((md a0 a1).2.map (lRow MSigned.row))) := RR_eq (a := (a0, a1)) h
def con : MCon := MN pats acc R
theorem okF (a0 : List (List MSigned)) (a1 : Int) (hg : gd a0 a1) (h0 : a0.length ≤ maxLen) : ∃ n, start (iter step n) (a0.map (lRow MSigned.row)) a1 = ret (((md a0 a1).1, ((md a0 a1).2.map (lRow MSigned.row))) : Int × List (List L)) := by
  unfold gd at hg
  show ∃ n, iter step n (Pt.p0 a1 0 (a0.map (lRow MSigned.row))) = _
  unfold md
  refine mark_loop (el := el) (xs := a0) [] I64 el_I (pt := fun i k c => Pt.p0 k (i : Int) (c.map (lRow MSigned.row))) (out := fun b => ret (b.1, b.2.map (lRow MSigned.row))) (fun J i k c hi hc hk => ?_) (fun J k c hc => ?_) hg
  · have hm : c.length ≤ maxLen := hc ▸ h0
    simp only [step, S0]
    refine yes_ret (lt_dec hi) ?_
    refine yes_ret zle_dec ?_
    refine yes_ret (lt_dec hi) ?_
    refine call_to ((e1 (c.getD i []) k).1, ((e1 (c.getD i []) k).2.map MSigned.row)) (Z128.R_eq (a0 := c.getD i []) (a1 := k) hk) ?_
    rw [wrap_succ hi hm]
    exact congrArg (fun q => J (Pt.p0 (el (c.getD i []) k).1 ((i + 1 : Nat) : Int) q)) (List.map_set (f := (lRow MSigned.row)) (l := c) (i := i) (a := (el (c.getD i []) k).2)).symm
  · simp only [step, S0]
    refine no_ret (by apply decide_eq_false; omega) ?_
    rfl
theorem valid_ : MValid Tryz.prog Ev 87 con := MV (run := fun n x => start (iter step n) x.1 x.2) mix tab_ok .nil (.cons Z128.valid_ .nil) Tryz.func87 (by kernel_rfl) run_eq (fun ls a hl e hg => okF a.1 a.2 hg (by have h : (ls.headD .hole).toSl.length ≤ maxLen := (hl _ _ (.head _)).len; have e : a.1.map (lRow MSigned.row) = (ls.headD .hole).toSl := (congrArg (fun x => x.1) e.symm); rw [← e] at h; simpa using h))
theorem i64 {a0 : List (List MSigned)} {a1 : Int} (h : I64 a1) : I64 (md a0 a1).1 := accM_I el_I h
theorem elk (x : List MSigned) (k : Int) (h0 : 0 ≤ k) (hb : k + (cnt x : Int) ≤ 4611686018427387904) : (el x k).1 = k + cnt x := by
 simp only [cnt, Int.natCast_add] at hb ⊢
 simp (disch := omega) only [el, e1, wi, Z128.kk]
 all_goals first | done | omega
theorem kk (a0 : List (List MSigned)) (a1 : Int) (h0 : 0 ≤ a1) (hb : a1 + (sum a0 : Int) ≤ 4611686018427387904) : (md a0 a1).1 = a1 + sum a0 := accM_sum elk a0 a1 h0 hb
theorem sz (a : List (List MSigned)) : sum a ≤ 60 * (szL (fun y : List MSigned => szL (fun y : MSigned => MSigned.size y) y) a) := sum_le (fun x => by
  have := Z128.sz x
  try simp only [cnt] at *
  omega) a
end Z129
namespace Z130
set_option maxHeartbeats 8000000
inductive Pt where
 | p0 (a : Int) (b : Int) (c : List (List L))
def pid : Pt → Nat
 | .p0 .. => 2
def pvs : Pt → List V
 | .p0 a b c => [.own 0, .int .i64 a, .int .i64 b]
def phs : Pt → List Root
 | .p0 a b c => [.row 134 c]
def step (J : Pt → Ans) : Pt → Ans
 | .p0 a b c => (bif (decide (b < (c.length : Int))) then (bif (decide ((0 : Int) ≤ b)) then (bif (decide (b < (c.length : Int))) then (bif (decide ((0 : Int) ≤ b)) then (bif (decide (b < (c.length : Int))) then (bif (Nat.beq (Int.toNat b) (Int.toNat b) && true) then (bif (decide ((0 : Int) ≤ b)) then (bif (decide (b < (c.length : Int))) then (bif (Nat.beq (Int.toNat b) (Int.toNat b) && true) then (bif (decide ((0 : Int) ≤ b)) then (bif (decide (b < (c.length : Int))) then (bif (Nat.beq (Int.toNat b) (Int.toNat b) && true) then (bif (decide ((0 : Int) ≤ b)) then (bif (decide (b < (c.length : Int))) then (bif (Nat.beq (Int.toNat b) (Int.toNat b) && true) then (bif (decide ((0 : Int) ≤ b)) then (bif (decide (b < (c.length : Int))) then (bif (Nat.beq (Int.toNat b) (Int.toNat b) && true) then (bif (decide ((0 : Int) ≤ b)) then (bif (decide (b < (c.length : Int))) then (bif (Nat.beq (Int.toNat b) (Int.toNat b) && true) then (bif (decide ((0 : Int) ≤ b)) then (bif (decide (b < (c.length : Int))) then (bif (Nat.beq (Int.toNat b) (Int.toNat b) && true) then (bif (decide ((0 : Int) ≤ b)) then (bif (decide (b < (c.length : Int))) then (bif (Nat.beq (Int.toNat b) (Int.toNat b) && true) then (bif (Nat.beq (Int.toNat b) (Int.toNat b) && true) then (call (Z126.R ((RFork.at c (Int.toNat b)).fBefore.fHead.fKeys.fList, (IntKind.i64.wrap ((IntKind.i64.wrap ((IntKind.i64.wrap ((IntKind.i64.wrap ((IntKind.i64.wrap ((IntKind.i64.wrap ((IntKind.i64.wrap ((IntKind.i64.wrap (a + 1)) + 1)) + 1)) + 1)) + 1)) + 1)) + 1)) + 1)))) fun v1 => (bif (decide ((0 : Int) ≤ b)) then (bif (decide (b < (c.length : Int))) then (bif (Nat.beq (Int.toNat b) (Int.toNat b) && true) then (bif (decide ((0 : Int) ≤ b)) then (bif (decide (b < (c.length : Int))) then (bif (Nat.beq (Int.toNat b) (Int.toNat b) && true) then (bif (Nat.beq (Int.toNat b) (Int.toNat b) && true) then (call (Z126.R ((RFork.at c (Int.toNat b)).fBefore.fHead.fHeirs.fList, (IntKind.i64.wrap (v1.1 + 1)))) fun v2 => (bif (decide ((0 : Int) ≤ b)) then (bif (decide (b < (c.length : Int))) then (bif (Nat.beq (Int.toNat b) (Int.toNat b) && true) then (bif (decide ((0 : Int) ≤ b)) then (bif (decide (b < (c.length : Int))) then (bif (Nat.beq (Int.toNat b) (Int.toNat b) && true) then (bif (decide ((0 : Int) ≤ b)) then (bif (decide (b < (c.length : Int))) then (bif (Nat.beq (Int.toNat b) (Int.toNat b) && true) then (bif (Nat.beq (Int.toNat b) (Int.toNat b) && true) then (call (Z126.R ((RFork.at c (Int.toNat b)).fBefore.fHead.fJudge.fList, (IntKind.i64.wrap ((IntKind.i64.wrap (v2.1 + 1)) + 1)))) fun v3 => (bif (decide ((0 : Int) ≤ b)) then (bif (decide (b < (c.length : Int))) then (bif (Nat.beq (Int.toNat b) (Int.toNat b) && true) then (bif (decide ((0 : Int) ≤ b)) then (bif (decide (b < (c.length : Int))) then (bif (Nat.beq (Int.toNat b) (Int.toNat b) && true) then (bif (decide ((0 : Int) ≤ b)) then (bif (decide (b < (c.length : Int))) then (bif (Nat.beq (Int.toNat b) (Int.toNat b) && true) then (bif (Nat.beq (Int.toNat b) (Int.toNat b) && true) then (call (Z127.R ((RFork.at c (Int.toNat b)).fBefore.fSigs, (IntKind.i64.wrap ((IntKind.i64.wrap (v3.1 + 1)) + 1)))) fun v4 => (bif (decide ((0 : Int) ≤ b)) then (bif (decide (b < (c.length : Int))) then (bif (Nat.beq (Int.toNat b) (Int.toNat b) && true) then (bif (decide ((0 : Int) ≤ b)) then (bif (decide (b < (c.length : Int))) then (bif (Nat.beq (Int.toNat b) (Int.toNat b) && true) then (bif (decide ((0 : Int) ≤ b)) then (bif (decide (b < (c.length : Int))) then (bif (Nat.beq (Int.toNat b) (Int.toNat b) && true) then (bif (decide ((0 : Int) ≤ b)) then (bif (decide (b < (c.length : Int))) then (bif (Nat.beq (Int.toNat b) (Int.toNat b) && true) then (bif (decide ((0 : Int) ≤ b)) then (bif (decide (b < (c.length : Int))) then (bif (Nat.beq (Int.toNat b) (Int.toNat b) && true) then (bif (decide ((0 : Int) ≤ b)) then (bif (decide (b < (c.length : Int))) then (bif (Nat.beq (Int.toNat b) (Int.toNat b) && true) then (bif (decide ((0 : Int) ≤ b)) then (bif (decide (b < (c.length : Int))) then (bif (Nat.beq (Int.toNat b) (Int.toNat b) && true) then (bif (decide ((0 : Int) ≤ b)) then (bif (decide (b < (c.length : Int))) then (bif (Nat.beq (Int.toNat b) (Int.toNat b) && true) then (bif (decide ((0 : Int) ≤ b)) then (bif (decide (b < (c.length : Int))) then (bif (Nat.beq (Int.toNat b) (Int.toNat b) && true) then (bif (Nat.beq (Int.toNat b) (Int.toNat b) && true) then (call (Z126.R ((RFork.at c (Int.toNat b)).fA.fHead.fKeys.fList, (IntKind.i64.wrap ((IntKind.i64.wrap ((IntKind.i64.wrap ((IntKind.i64.wrap ((IntKind.i64.wrap ((IntKind.i64.wrap ((IntKind.i64.wrap ((IntKind.i64.wrap (v4.1 + 1)) + 1)) + 1)) + 1)) + 1)) + 1)) + 1)) + 1)))) fun v5 => (bif (decide ((0 : Int) ≤ b)) then (bif (decide (b < (c.length : Int))) then (bif (Nat.beq (Int.toNat b) (Int.toNat b) && true) then (bif (decide ((0 : Int) ≤ b)) then (bif (decide (b < (c.length : Int))) then (bif (Nat.beq (Int.toNat b) (Int.toNat b) && true) then (bif (Nat.beq (Int.toNat b) (Int.toNat b) && true) then (call (Z126.R ((RFork.at c (Int.toNat b)).fA.fHead.fHeirs.fList, (IntKind.i64.wrap (v5.1 + 1)))) fun v6 => (bif (decide ((0 : Int) ≤ b)) then (bif (decide (b < (c.length : Int))) then (bif (Nat.beq (Int.toNat b) (Int.toNat b) && true) then (bif (decide ((0 : Int) ≤ b)) then (bif (decide (b < (c.length : Int))) then (bif (Nat.beq (Int.toNat b) (Int.toNat b) && true) then (bif (decide ((0 : Int) ≤ b)) then (bif (decide (b < (c.length : Int))) then (bif (Nat.beq (Int.toNat b) (Int.toNat b) && true) then (bif (Nat.beq (Int.toNat b) (Int.toNat b) && true) then (call (Z126.R ((RFork.at c (Int.toNat b)).fA.fHead.fJudge.fList, (IntKind.i64.wrap ((IntKind.i64.wrap (v6.1 + 1)) + 1)))) fun v7 => (bif (decide ((0 : Int) ≤ b)) then (bif (decide (b < (c.length : Int))) then (bif (Nat.beq (Int.toNat b) (Int.toNat b) && true) then (bif (decide ((0 : Int) ≤ b)) then (bif (decide (b < (c.length : Int))) then (bif (Nat.beq (Int.toNat b) (Int.toNat b) && true) then (bif (decide ((0 : Int) ≤ b)) then (bif (decide (b < (c.length : Int))) then (bif (Nat.beq (Int.toNat b) (Int.toNat b) && true) then (bif (Nat.beq (Int.toNat b) (Int.toNat b) && true) then (call (Z127.R ((RFork.at c (Int.toNat b)).fA.fSigs, (IntKind.i64.wrap ((IntKind.i64.wrap (v7.1 + 1)) + 1)))) fun v8 => (bif (decide ((0 : Int) ≤ b)) then (bif (decide (b < (c.length : Int))) then (bif (Nat.beq (Int.toNat b) (Int.toNat b) && true) then (bif (decide ((0 : Int) ≤ b)) then (bif (decide (b < (c.length : Int))) then (bif (Nat.beq (Int.toNat b) (Int.toNat b) && true) then (bif (decide ((0 : Int) ≤ b)) then (bif (decide (b < (c.length : Int))) then (bif (Nat.beq (Int.toNat b) (Int.toNat b) && true) then (bif (decide ((0 : Int) ≤ b)) then (bif (decide (b < (c.length : Int))) then (bif (Nat.beq (Int.toNat b) (Int.toNat b) && true) then (bif (decide ((0 : Int) ≤ b)) then (bif (decide (b < (c.length : Int))) then (bif (Nat.beq (Int.toNat b) (Int.toNat b) && true) then (bif (decide ((0 : Int) ≤ b)) then (bif (decide (b < (c.length : Int))) then (bif (Nat.beq (Int.toNat b) (Int.toNat b) && true) then (bif (decide ((0 : Int) ≤ b)) then (bif (decide (b < (c.length : Int))) then (bif (Nat.beq (Int.toNat b) (Int.toNat b) && true) then (bif (decide ((0 : Int) ≤ b)) then (bif (decide (b < (c.length : Int))) then (bif (Nat.beq (Int.toNat b) (Int.toNat b) && true) then (bif (decide ((0 : Int) ≤ b)) then (bif (decide (b < (c.length : Int))) then (bif (Nat.beq (Int.toNat b) (Int.toNat b) && true) then (bif (Nat.beq (Int.toNat b) (Int.toNat b) && true) then (call (Z126.R ((RFork.at c (Int.toNat b)).fB.fHead.fKeys.fList, (IntKind.i64.wrap ((IntKind.i64.wrap ((IntKind.i64.wrap ((IntKind.i64.wrap ((IntKind.i64.wrap ((IntKind.i64.wrap ((IntKind.i64.wrap ((IntKind.i64.wrap (v8.1 + 1)) + 1)) + 1)) + 1)) + 1)) + 1)) + 1)) + 1)))) fun v9 => (bif (decide ((0 : Int) ≤ b)) then (bif (decide (b < (c.length : Int))) then (bif (Nat.beq (Int.toNat b) (Int.toNat b) && true) then (bif (decide ((0 : Int) ≤ b)) then (bif (decide (b < (c.length : Int))) then (bif (Nat.beq (Int.toNat b) (Int.toNat b) && true) then (bif (Nat.beq (Int.toNat b) (Int.toNat b) && true) then (call (Z126.R ((RFork.at c (Int.toNat b)).fB.fHead.fHeirs.fList, (IntKind.i64.wrap (v9.1 + 1)))) fun v10 => (bif (decide ((0 : Int) ≤ b)) then (bif (decide (b < (c.length : Int))) then (bif (Nat.beq (Int.toNat b) (Int.toNat b) && true) then (bif (decide ((0 : Int) ≤ b)) then (bif (decide (b < (c.length : Int))) then (bif (Nat.beq (Int.toNat b) (Int.toNat b) && true) then (bif (decide ((0 : Int) ≤ b)) then (bif (decide (b < (c.length : Int))) then (bif (Nat.beq (Int.toNat b) (Int.toNat b) && true) then (bif (Nat.beq (Int.toNat b) (Int.toNat b) && true) then (call (Z126.R ((RFork.at c (Int.toNat b)).fB.fHead.fJudge.fList, (IntKind.i64.wrap ((IntKind.i64.wrap (v10.1 + 1)) + 1)))) fun v11 => (bif (decide ((0 : Int) ≤ b)) then (bif (decide (b < (c.length : Int))) then (bif (Nat.beq (Int.toNat b) (Int.toNat b) && true) then (bif (decide ((0 : Int) ≤ b)) then (bif (decide (b < (c.length : Int))) then (bif (Nat.beq (Int.toNat b) (Int.toNat b) && true) then (bif (decide ((0 : Int) ≤ b)) then (bif (decide (b < (c.length : Int))) then (bif (Nat.beq (Int.toNat b) (Int.toNat b) && true) then (bif (Nat.beq (Int.toNat b) (Int.toNat b) && true) then (call (Z127.R ((RFork.at c (Int.toNat b)).fB.fSigs, (IntKind.i64.wrap ((IntKind.i64.wrap (v11.1 + 1)) + 1)))) fun v12 => J (.p0 v12.1 (IntKind.i64.wrap (b + 1)) (List.set c (Int.toNat b) (RFork.enc (⟨(⟨(⟨a, (IntKind.i64.wrap (a + 1)), (IntKind.i64.wrap ((IntKind.i64.wrap (a + 1)) + 1)), (IntKind.i64.wrap ((IntKind.i64.wrap ((IntKind.i64.wrap (a + 1)) + 1)) + 1)), (IntKind.i64.wrap ((IntKind.i64.wrap ((IntKind.i64.wrap ((IntKind.i64.wrap (a + 1)) + 1)) + 1)) + 1)), (IntKind.i64.wrap ((IntKind.i64.wrap ((IntKind.i64.wrap ((IntKind.i64.wrap ((IntKind.i64.wrap (a + 1)) + 1)) + 1)) + 1)) + 1)), (IntKind.i64.wrap ((IntKind.i64.wrap ((IntKind.i64.wrap ((IntKind.i64.wrap ((IntKind.i64.wrap ((IntKind.i64.wrap (a + 1)) + 1)) + 1)) + 1)) + 1)) + 1)), (IntKind.i64.wrap ((IntKind.i64.wrap ((IntKind.i64.wrap ((IntKind.i64.wrap ((IntKind.i64.wrap ((IntKind.i64.wrap ((IntKind.i64.wrap (a + 1)) + 1)) + 1)) + 1)) + 1)) + 1)) + 1)), (⟨v1.2, v1.1⟩ : RKeys), (⟨v2.2, v2.1⟩ : RKeys), (IntKind.i64.wrap (v2.1 + 1)), (⟨v3.2, v3.1⟩ : RKeys), ((Int.tmod (IntKind.i64.wrap (v3.1 + 1)) 3) == 0)⟩ : RHead), v4.2⟩ : RSigned), (⟨(⟨v4.1, (IntKind.i64.wrap (v4.1 + 1)), (IntKind.i64.wrap ((IntKind.i64.wrap (v4.1 + 1)) + 1)), (IntKind.i64.wrap ((IntKind.i64.wrap ((IntKind.i64.wrap (v4.1 + 1)) + 1)) + 1)), (IntKind.i64.wrap ((IntKind.i64.wrap ((IntKind.i64.wrap ((IntKind.i64.wrap (v4.1 + 1)) + 1)) + 1)) + 1)), (IntKind.i64.wrap ((IntKind.i64.wrap ((IntKind.i64.wrap ((IntKind.i64.wrap ((IntKind.i64.wrap (v4.1 + 1)) + 1)) + 1)) + 1)) + 1)), (IntKind.i64.wrap ((IntKind.i64.wrap ((IntKind.i64.wrap ((IntKind.i64.wrap ((IntKind.i64.wrap ((IntKind.i64.wrap (v4.1 + 1)) + 1)) + 1)) + 1)) + 1)) + 1)), (IntKind.i64.wrap ((IntKind.i64.wrap ((IntKind.i64.wrap ((IntKind.i64.wrap ((IntKind.i64.wrap ((IntKind.i64.wrap ((IntKind.i64.wrap (v4.1 + 1)) + 1)) + 1)) + 1)) + 1)) + 1)) + 1)), (⟨v5.2, v5.1⟩ : RKeys), (⟨v6.2, v6.1⟩ : RKeys), (IntKind.i64.wrap (v6.1 + 1)), (⟨v7.2, v7.1⟩ : RKeys), ((Int.tmod (IntKind.i64.wrap (v7.1 + 1)) 3) == 0)⟩ : RHead), v8.2⟩ : RSigned), (⟨(⟨v8.1, (IntKind.i64.wrap (v8.1 + 1)), (IntKind.i64.wrap ((IntKind.i64.wrap (v8.1 + 1)) + 1)), (IntKind.i64.wrap ((IntKind.i64.wrap ((IntKind.i64.wrap (v8.1 + 1)) + 1)) + 1)), (IntKind.i64.wrap ((IntKind.i64.wrap ((IntKind.i64.wrap ((IntKind.i64.wrap (v8.1 + 1)) + 1)) + 1)) + 1)), (IntKind.i64.wrap ((IntKind.i64.wrap ((IntKind.i64.wrap ((IntKind.i64.wrap ((IntKind.i64.wrap (v8.1 + 1)) + 1)) + 1)) + 1)) + 1)), (IntKind.i64.wrap ((IntKind.i64.wrap ((IntKind.i64.wrap ((IntKind.i64.wrap ((IntKind.i64.wrap ((IntKind.i64.wrap (v8.1 + 1)) + 1)) + 1)) + 1)) + 1)) + 1)), (IntKind.i64.wrap ((IntKind.i64.wrap ((IntKind.i64.wrap ((IntKind.i64.wrap ((IntKind.i64.wrap ((IntKind.i64.wrap ((IntKind.i64.wrap (v8.1 + 1)) + 1)) + 1)) + 1)) + 1)) + 1)) + 1)), (⟨v9.2, v9.1⟩ : RKeys), (⟨v10.2, v10.1⟩ : RKeys), (IntKind.i64.wrap (v10.1 + 1)), (⟨v11.2, v11.1⟩ : RKeys), ((Int.tmod (IntKind.i64.wrap (v11.1 + 1)) 3) == 0)⟩ : RHead), v12.2⟩ : RSigned)⟩ : RFork))))) else none) else none) else none) else none) else none) else none) else none) else none) else none) else none)) else none) else none) else none) else none) else none) else none) else none) else none) else none) else none)) else none) else none) else none) else none) else none) else none) else none)) else none) else none) else none) else none) else none) else none) else none) else none) else none) else none) else none) else none) else none) else none) else none) else none) else none) else none) else none) else none) else none) else none) else none) else none) else none) else none) else none) else none)) else none) else none) else none) else none) else none) else none) else none) else none) else none) else none)) else none) else none) else none) else none) else none) else none) else none) else none) else none) else none)) else none) else none) else none) else none) else none) else none) else none)) else none) else none) else none) else none) else none) else none) else none) else none) else none) else none) else none) else none) else none) else none) else none) else none) else none) else none) else none) else none) else none) else none) else none) else none) else none) else none) else none) else none)) else none) else none) else none) else none) else none) else none) else none) else none) else none) else none)) else none) else none) else none) else none) else none) else none) else none) else none) else none) else none)) else none) else none) else none) else none) else none) else none) else none)) else none) else none) else none) else none) else none) else none) else none) else none) else none) else none) else none) else none) else none) else none) else none) else none) else none) else none) else none) else none) else none) else none) else none) else none) else none) else none) else none) else ret ((a, c) : Int × List (List L)))
def start (J : Pt → Ans) (x0 : List (List L)) (x1 : Int) : Ans := J (.p0 x1 0 x0)
def live : Nat → Live := fun i => match i with | 2 => [(0, none), (1, none), (5, none)] | _ => []
def pats : List (Bool × List K) := [(false, [.sl 134]), (false, [.int .i64])]
def res : RP := .chg [134]
abbrev E : Env := { T := assoc Tab, G := conG [], nt := 493, M := conM [(68, Z126.con), (69, Z127.con)], np := 1, mt := true }
theorem step_eq (I : Heads) (p : Pt) : enterC E live I (pid p) (bodyOf Tryz.f88) (stOf (live (pid p)) (pvs p) (phs p)) (doneK E Tryz.f88 res) = step (fun q => I (pid q) (pvs q) (phs q)) p := by
 cases p <;> kernel_rfl
theorem start_eq (I : Heads) (ls : List L) : runC E live I (bodyOf Tryz.f88) (initM pats ls) (doneK E Tryz.f88 res) = start (fun q => I (pid q) (pvs q) (phs q)) (ls.headD .hole).toSl ((dropT 1 ls).headD .hole).toInt := by kernel_rfl
theorem run_eq (n : Nat) (ls : List L) : runF E live Tryz.f88 res n (initM pats ls) = start (iter step n) (ls.headD .hole).toSl ((dropT 1 ls).headD .hole).toInt := runF_iter (id := pid) (vs := pvs) (hs := phs) (step := step) (start := fun J => start J (ls.headD .hole).toSl ((dropT 1 ls).headD .hole).toInt) step_eq (fun I => start_eq I ls) n
def e1 (x : MFork) (k : Int) := Z126.md ((((x.fBefore).fHead).fKeys).fList) (IntKind.i64.wrap ((IntKind.i64.wrap ((IntKind.i64.wrap ((IntKind.i64.wrap ((IntKind.i64.wrap ((IntKind.i64.wrap ((IntKind.i64.wrap ((IntKind.i64.wrap (k + 1)) + 1)) + 1)) + 1)) + 1)) + 1)) + 1)) + 1))
def e2 (x : MFork) (k : Int) := Z126.md ((((x.fBefore).fHead).fHeirs).fList) (IntKind.i64.wrap ((e1 x k).1 + 1))
def e3 (x : MFork) (k : Int) := Z126.md ((((x.fBefore).fHead).fJudge).fList) (IntKind.i64.wrap ((IntKind.i64.wrap ((e2 x k).1 + 1)) + 1))
def e4 (x : MFork) (k : Int) := Z127.md ((x.fBefore).fSigs) (IntKind.i64.wrap ((IntKind.i64.wrap ((e3 x k).1 + 1)) + 1))
def e5 (x : MFork) (k : Int) := Z126.md ((((x.fA).fHead).fKeys).fList) (IntKind.i64.wrap ((IntKind.i64.wrap ((IntKind.i64.wrap ((IntKind.i64.wrap ((IntKind.i64.wrap ((IntKind.i64.wrap ((IntKind.i64.wrap ((IntKind.i64.wrap ((e4 x k).1 + 1)) + 1)) + 1)) + 1)) + 1)) + 1)) + 1)) + 1))
def e6 (x : MFork) (k : Int) := Z126.md ((((x.fA).fHead).fHeirs).fList) (IntKind.i64.wrap ((e5 x k).1 + 1))
def e7 (x : MFork) (k : Int) := Z126.md ((((x.fA).fHead).fJudge).fList) (IntKind.i64.wrap ((IntKind.i64.wrap ((e6 x k).1 + 1)) + 1))
def e8 (x : MFork) (k : Int) := Z127.md ((x.fA).fSigs) (IntKind.i64.wrap ((IntKind.i64.wrap ((e7 x k).1 + 1)) + 1))
def e9 (x : MFork) (k : Int) := Z126.md ((((x.fB).fHead).fKeys).fList) (IntKind.i64.wrap ((IntKind.i64.wrap ((IntKind.i64.wrap ((IntKind.i64.wrap ((IntKind.i64.wrap ((IntKind.i64.wrap ((IntKind.i64.wrap ((IntKind.i64.wrap ((e8 x k).1 + 1)) + 1)) + 1)) + 1)) + 1)) + 1)) + 1)) + 1))
def e10 (x : MFork) (k : Int) := Z126.md ((((x.fB).fHead).fHeirs).fList) (IntKind.i64.wrap ((e9 x k).1 + 1))
def e11 (x : MFork) (k : Int) := Z126.md ((((x.fB).fHead).fJudge).fList) (IntKind.i64.wrap ((IntKind.i64.wrap ((e10 x k).1 + 1)) + 1))
def e12 (x : MFork) (k : Int) := Z127.md ((x.fB).fSigs) (IntKind.i64.wrap ((IntKind.i64.wrap ((e11 x k).1 + 1)) + 1))
def el (x : MFork) (k : Int) : Int × MFork := ((e12 x k).1, (⟨(⟨(⟨k, (IntKind.i64.wrap (k + 1)), (IntKind.i64.wrap ((IntKind.i64.wrap (k + 1)) + 1)), (IntKind.i64.wrap ((IntKind.i64.wrap ((IntKind.i64.wrap (k + 1)) + 1)) + 1)), (IntKind.i64.wrap ((IntKind.i64.wrap ((IntKind.i64.wrap ((IntKind.i64.wrap (k + 1)) + 1)) + 1)) + 1)), (IntKind.i64.wrap ((IntKind.i64.wrap ((IntKind.i64.wrap ((IntKind.i64.wrap ((IntKind.i64.wrap (k + 1)) + 1)) + 1)) + 1)) + 1)), (IntKind.i64.wrap ((IntKind.i64.wrap ((IntKind.i64.wrap ((IntKind.i64.wrap ((IntKind.i64.wrap ((IntKind.i64.wrap (k + 1)) + 1)) + 1)) + 1)) + 1)) + 1)), (IntKind.i64.wrap ((IntKind.i64.wrap ((IntKind.i64.wrap ((IntKind.i64.wrap ((IntKind.i64.wrap ((IntKind.i64.wrap ((IntKind.i64.wrap (k + 1)) + 1)) + 1)) + 1)) + 1)) + 1)) + 1)), (⟨(e1 x k).2, (e1 x k).1⟩ : MKeys), (⟨(e2 x k).2, (e2 x k).1⟩ : MKeys), (IntKind.i64.wrap ((e2 x k).1 + 1)), (⟨(e3 x k).2, (e3 x k).1⟩ : MKeys), ((Int.tmod (IntKind.i64.wrap ((e3 x k).1 + 1)) 3) == 0)⟩ : MHead), (e4 x k).2⟩ : MSigned), (⟨(⟨(e4 x k).1, (IntKind.i64.wrap ((e4 x k).1 + 1)), (IntKind.i64.wrap ((IntKind.i64.wrap ((e4 x k).1 + 1)) + 1)), (IntKind.i64.wrap ((IntKind.i64.wrap ((IntKind.i64.wrap ((e4 x k).1 + 1)) + 1)) + 1)), (IntKind.i64.wrap ((IntKind.i64.wrap ((IntKind.i64.wrap ((IntKind.i64.wrap ((e4 x k).1 + 1)) + 1)) + 1)) + 1)), (IntKind.i64.wrap ((IntKind.i64.wrap ((IntKind.i64.wrap ((IntKind.i64.wrap ((IntKind.i64.wrap ((e4 x k).1 + 1)) + 1)) + 1)) + 1)) + 1)), (IntKind.i64.wrap ((IntKind.i64.wrap ((IntKind.i64.wrap ((IntKind.i64.wrap ((IntKind.i64.wrap ((IntKind.i64.wrap ((e4 x k).1 + 1)) + 1)) + 1)) + 1)) + 1)) + 1)), (IntKind.i64.wrap ((IntKind.i64.wrap ((IntKind.i64.wrap ((IntKind.i64.wrap ((IntKind.i64.wrap ((IntKind.i64.wrap ((IntKind.i64.wrap ((e4 x k).1 + 1)) + 1)) + 1)) + 1)) + 1)) + 1)) + 1)), (⟨(e5 x k).2, (e5 x k).1⟩ : MKeys), (⟨(e6 x k).2, (e6 x k).1⟩ : MKeys), (IntKind.i64.wrap ((e6 x k).1 + 1)), (⟨(e7 x k).2, (e7 x k).1⟩ : MKeys), ((Int.tmod (IntKind.i64.wrap ((e7 x k).1 + 1)) 3) == 0)⟩ : MHead), (e8 x k).2⟩ : MSigned), (⟨(⟨(e8 x k).1, (IntKind.i64.wrap ((e8 x k).1 + 1)), (IntKind.i64.wrap ((IntKind.i64.wrap ((e8 x k).1 + 1)) + 1)), (IntKind.i64.wrap ((IntKind.i64.wrap ((IntKind.i64.wrap ((e8 x k).1 + 1)) + 1)) + 1)), (IntKind.i64.wrap ((IntKind.i64.wrap ((IntKind.i64.wrap ((IntKind.i64.wrap ((e8 x k).1 + 1)) + 1)) + 1)) + 1)), (IntKind.i64.wrap ((IntKind.i64.wrap ((IntKind.i64.wrap ((IntKind.i64.wrap ((IntKind.i64.wrap ((e8 x k).1 + 1)) + 1)) + 1)) + 1)) + 1)), (IntKind.i64.wrap ((IntKind.i64.wrap ((IntKind.i64.wrap ((IntKind.i64.wrap ((IntKind.i64.wrap ((IntKind.i64.wrap ((e8 x k).1 + 1)) + 1)) + 1)) + 1)) + 1)) + 1)), (IntKind.i64.wrap ((IntKind.i64.wrap ((IntKind.i64.wrap ((IntKind.i64.wrap ((IntKind.i64.wrap ((IntKind.i64.wrap ((IntKind.i64.wrap ((e8 x k).1 + 1)) + 1)) + 1)) + 1)) + 1)) + 1)) + 1)), (⟨(e9 x k).2, (e9 x k).1⟩ : MKeys), (⟨(e10 x k).2, (e10 x k).1⟩ : MKeys), (IntKind.i64.wrap ((e10 x k).1 + 1)), (⟨(e11 x k).2, (e11 x k).1⟩ : MKeys), ((Int.tmod (IntKind.i64.wrap ((e11 x k).1 + 1)) 3) == 0)⟩ : MHead), (e12 x k).2⟩ : MSigned)⟩ : MFork))
theorem el_I (x : MFork) (k : Int) (hk : I64 k) : I64 (el x k).1 := (Z127.i64 (wrap_I64 _))
def cnt (x : MFork) : Nat := 39 + Z126.sum ((((x.fBefore).fHead).fKeys).fList) + Z126.sum ((((x.fBefore).fHead).fHeirs).fList) + Z126.sum ((((x.fBefore).fHead).fJudge).fList) + Z127.sum ((x.fBefore).fSigs) + Z126.sum ((((x.fA).fHead).fKeys).fList) + Z126.sum ((((x.fA).fHead).fHeirs).fList) + Z126.sum ((((x.fA).fHead).fJudge).fList) + Z127.sum ((x.fA).fSigs) + Z126.sum ((((x.fB).fHead).fKeys).fList) + Z126.sum ((((x.fB).fHead).fHeirs).fList) + Z126.sum ((((x.fB).fHead).fJudge).fList) + Z127.sum ((x.fB).fSigs)
def sum (a : List MFork) : Nat := (a.map cnt).sum
def md (a0 : List MFork) (a1 : Int) : Int × List MFork := accM el a0 a1
def gd (a0 : List MFork) (a1 : Int) : Prop := I64 a1
def acc (ls : List L) : List (List L) × Int := ((ls.headD .hole).toSl, ((dropT 1 ls).headD .hole).toInt)
def R : (List (List L) × Int) → Option (Int × List (List L)) := RR (p2 gd) (u2 md)
theorem R_eq {a0} {a1} (h : gd a0 a1) : R ((a0.map MFork.row), a1) = some ((md a0 a1).1, ((md a0 a1).2.map MFork.row)) := RR_eq (a := (a0, a1)) h
def con : MCon := MN pats acc R
theorem okF (a0 : List MFork) (a1 : Int) (hg : gd a0 a1) (h0 : a0.length ≤ maxLen) : ∃ n, start (iter step n) (a0.map MFork.row) a1 = ret (((md a0 a1).1, ((md a0 a1).2.map MFork.row)) : Int × List (List L)) := by
  unfold gd at hg
  show ∃ n, iter step n (Pt.p0 a1 0 (a0.map MFork.row)) = _
  unfold md
  refine mark_loop (el := el) (xs := a0) MFork.zero I64 el_I (pt := fun i k c => Pt.p0 k (i : Int) (c.map MFork.row)) (out := fun b => ret (b.1, b.2.map MFork.row)) (fun J i k c hi hc hk => ?_) (fun J k c hc => ?_) hg
  · have hm : c.length ≤ maxLen := hc ▸ h0
    simp only [step, S0, MKeys.rs, MHead.rs, MSigned.rs, MFork.rs]
    refine yes_ret (lt_dec hi) ?_
    refine yes_ret zle_dec ?_
    refine yes_ret (lt_dec hi) ?_
    refine yes_ret zle_dec ?_
    refine yes_ret (lt_dec hi) ?_
    refine yes_ret (beq_t _) ?_
    refine yes_ret zle_dec ?_
    refine yes_ret (lt_dec hi) ?_
    refine yes_ret (beq_t _) ?_
    refine yes_ret zle_dec ?_
    refine yes_ret (lt_dec hi) ?_
    refine yes_ret (beq_t _) ?_
    refine yes_ret zle_dec ?_
    refine yes_ret (lt_dec hi) ?_
    refine yes_ret (beq_t _) ?_
    refine yes_ret zle_dec ?_
    refine yes_ret (lt_dec hi) ?_
    refine yes_ret (beq_t _) ?_
    refine yes_ret zle_dec ?_
    refine yes_ret (lt_dec hi) ?_
    refine yes_ret (beq_t _) ?_
    refine yes_ret zle_dec ?_
    refine yes_ret (lt_dec hi) ?_
    refine yes_ret (beq_t _) ?_
    refine yes_ret zle_dec ?_
    refine yes_ret (lt_dec hi) ?_
    refine yes_ret (beq_t _) ?_
    refine yes_ret (beq_t _) ?_
    refine call_to ((e1 (c.getD i MFork.zero) k).1, ((e1 (c.getD i MFork.zero) k).2.map iRow)) (Z126.R_eq (a0 := ((((c.getD i MFork.zero).fBefore).fHead).fKeys).fList) (a1 := IntKind.i64.wrap ((IntKind.i64.wrap ((IntKind.i64.wrap ((IntKind.i64.wrap ((IntKind.i64.wrap ((IntKind.i64.wrap ((IntKind.i64.wrap ((IntKind.i64.wrap (k + 1)) + 1)) + 1)) + 1)) + 1)) + 1)) + 1)) + 1)) (wrap_I64 _)) ?_
    refine yes_ret zle_dec ?_
    refine yes_ret (lt_dec hi) ?_
    refine yes_ret (beq_t _) ?_
    refine yes_ret zle_dec ?_
    refine yes_ret (lt_dec hi) ?_
    refine yes_ret (beq_t _) ?_
    refine yes_ret (beq_t _) ?_
    refine call_to ((e2 (c.getD i MFork.zero) k).1, ((e2 (c.getD i MFork.zero) k).2.map iRow)) (Z126.R_eq (a0 := ((((c.getD i MFork.zero).fBefore).fHead).fHeirs).fList) (a1 := IntKind.i64.wrap ((e1 (c.getD i MFork.zero) k).1 + 1)) (wrap_I64 _)) ?_
    refine yes_ret zle_dec ?_
    refine yes_ret (lt_dec hi) ?_
    refine yes_ret (beq_t _) ?_
    refine yes_ret zle_dec ?_
    refine yes_ret (lt_dec hi) ?_
    refine yes_ret (beq_t _) ?_
    refine yes_ret zle_dec ?_
    refine yes_ret (lt_dec hi) ?_
    refine yes_ret (beq_t _) ?_
    refine yes_ret (beq_t _) ?_
    refine call_to ((e3 (c.getD i MFork.zero) k).1, ((e3 (c.getD i MFork.zero) k).2.map iRow)) (Z126.R_eq (a0 := ((((c.getD i MFork.zero).fBefore).fHead).fJudge).fList) (a1 := IntKind.i64.wrap ((IntKind.i64.wrap ((e2 (c.getD i MFork.zero) k).1 + 1)) + 1)) (wrap_I64 _)) ?_
    refine yes_ret zle_dec ?_
    refine yes_ret (lt_dec hi) ?_
    refine yes_ret (beq_t _) ?_
    refine yes_ret zle_dec ?_
    refine yes_ret (lt_dec hi) ?_
    refine yes_ret (beq_t _) ?_
    refine yes_ret zle_dec ?_
    refine yes_ret (lt_dec hi) ?_
    refine yes_ret (beq_t _) ?_
    refine yes_ret (beq_t _) ?_
    refine call_to ((e4 (c.getD i MFork.zero) k).1, ((e4 (c.getD i MFork.zero) k).2.map MSig.row)) (Z127.R_eq (a0 := ((c.getD i MFork.zero).fBefore).fSigs) (a1 := IntKind.i64.wrap ((IntKind.i64.wrap ((e3 (c.getD i MFork.zero) k).1 + 1)) + 1)) (wrap_I64 _)) ?_
    refine yes_ret zle_dec ?_
    refine yes_ret (lt_dec hi) ?_
    refine yes_ret (beq_t _) ?_
    refine yes_ret zle_dec ?_
    refine yes_ret (lt_dec hi) ?_
    refine yes_ret (beq_t _) ?_
    refine yes_ret zle_dec ?_
    refine yes_ret (lt_dec hi) ?_
    refine yes_ret (beq_t _) ?_
    refine yes_ret zle_dec ?_
    refine yes_ret (lt_dec hi) ?_
    refine yes_ret (beq_t _) ?_
    refine yes_ret zle_dec ?_
    refine yes_ret (lt_dec hi) ?_
    refine yes_ret (beq_t _) ?_
    refine yes_ret zle_dec ?_
    refine yes_ret (lt_dec hi) ?_
    refine yes_ret (beq_t _) ?_
    refine yes_ret zle_dec ?_
    refine yes_ret (lt_dec hi) ?_
    refine yes_ret (beq_t _) ?_
    refine yes_ret zle_dec ?_
    refine yes_ret (lt_dec hi) ?_
    refine yes_ret (beq_t _) ?_
    refine yes_ret zle_dec ?_
    refine yes_ret (lt_dec hi) ?_
    refine yes_ret (beq_t _) ?_
    refine yes_ret (beq_t _) ?_
    refine call_to ((e5 (c.getD i MFork.zero) k).1, ((e5 (c.getD i MFork.zero) k).2.map iRow)) (Z126.R_eq (a0 := ((((c.getD i MFork.zero).fA).fHead).fKeys).fList) (a1 := IntKind.i64.wrap ((IntKind.i64.wrap ((IntKind.i64.wrap ((IntKind.i64.wrap ((IntKind.i64.wrap ((IntKind.i64.wrap ((IntKind.i64.wrap ((IntKind.i64.wrap ((e4 (c.getD i MFork.zero) k).1 + 1)) + 1)) + 1)) + 1)) + 1)) + 1)) + 1)) + 1)) (wrap_I64 _)) ?_
    refine yes_ret zle_dec ?_
    refine yes_ret (lt_dec hi) ?_
    refine yes_ret (beq_t _) ?_
    refine yes_ret zle_dec ?_
    refine yes_ret (lt_dec hi) ?_
    refine yes_ret (beq_t _) ?_
    refine yes_ret (beq_t _) ?_
    refine call_to ((e6 (c.getD i MFork.zero) k).1, ((e6 (c.getD i MFork.zero) k).2.map iRow)) (Z126.R_eq (a0 := ((((c.getD i MFork.zero).fA).fHead).fHeirs).fList) (a1 := IntKind.i64.wrap ((e5 (c.getD i MFork.zero) k).1 + 1)) (wrap_I64 _)) ?_
    refine yes_ret zle_dec ?_
    refine yes_ret (lt_dec hi) ?_
    refine yes_ret (beq_t _) ?_
    refine yes_ret zle_dec ?_
    refine yes_ret (lt_dec hi) ?_
    refine yes_ret (beq_t _) ?_
    refine yes_ret zle_dec ?_
    refine yes_ret (lt_dec hi) ?_
    refine yes_ret (beq_t _) ?_
    refine yes_ret (beq_t _) ?_
    refine call_to ((e7 (c.getD i MFork.zero) k).1, ((e7 (c.getD i MFork.zero) k).2.map iRow)) (Z126.R_eq (a0 := ((((c.getD i MFork.zero).fA).fHead).fJudge).fList) (a1 := IntKind.i64.wrap ((IntKind.i64.wrap ((e6 (c.getD i MFork.zero) k).1 + 1)) + 1)) (wrap_I64 _)) ?_
    refine yes_ret zle_dec ?_
    refine yes_ret (lt_dec hi) ?_
    refine yes_ret (beq_t _) ?_
    refine yes_ret zle_dec ?_
    refine yes_ret (lt_dec hi) ?_
    refine yes_ret (beq_t _) ?_
    refine yes_ret zle_dec ?_
    refine yes_ret (lt_dec hi) ?_
    refine yes_ret (beq_t _) ?_
    refine yes_ret (beq_t _) ?_
    refine call_to ((e8 (c.getD i MFork.zero) k).1, ((e8 (c.getD i MFork.zero) k).2.map MSig.row)) (Z127.R_eq (a0 := ((c.getD i MFork.zero).fA).fSigs) (a1 := IntKind.i64.wrap ((IntKind.i64.wrap ((e7 (c.getD i MFork.zero) k).1 + 1)) + 1)) (wrap_I64 _)) ?_
    refine yes_ret zle_dec ?_
    refine yes_ret (lt_dec hi) ?_
    refine yes_ret (beq_t _) ?_
    refine yes_ret zle_dec ?_
    refine yes_ret (lt_dec hi) ?_
    refine yes_ret (beq_t _) ?_
    refine yes_ret zle_dec ?_
    refine yes_ret (lt_dec hi) ?_
    refine yes_ret (beq_t _) ?_
    refine yes_ret zle_dec ?_
    refine yes_ret (lt_dec hi) ?_
    refine yes_ret (beq_t _) ?_
    refine yes_ret zle_dec ?_
    refine yes_ret (lt_dec hi) ?_
    refine yes_ret (beq_t _) ?_
    refine yes_ret zle_dec ?_
    refine yes_ret (lt_dec hi) ?_
    refine yes_ret (beq_t _) ?_
    refine yes_ret zle_dec ?_
    refine yes_ret (lt_dec hi) ?_
    refine yes_ret (beq_t _) ?_
    refine yes_ret zle_dec ?_
    refine yes_ret (lt_dec hi) ?_
    refine yes_ret (beq_t _) ?_
    refine yes_ret zle_dec ?_
    refine yes_ret (lt_dec hi) ?_
    refine yes_ret (beq_t _) ?_
    refine yes_ret (beq_t _) ?_
    refine call_to ((e9 (c.getD i MFork.zero) k).1, ((e9 (c.getD i MFork.zero) k).2.map iRow)) (Z126.R_eq (a0 := ((((c.getD i MFork.zero).fB).fHead).fKeys).fList) (a1 := IntKind.i64.wrap ((IntKind.i64.wrap ((IntKind.i64.wrap ((IntKind.i64.wrap ((IntKind.i64.wrap ((IntKind.i64.wrap ((IntKind.i64.wrap ((IntKind.i64.wrap ((e8 (c.getD i MFork.zero) k).1 + 1)) + 1)) + 1)) + 1)) + 1)) + 1)) + 1)) + 1)) (wrap_I64 _)) ?_
    refine yes_ret zle_dec ?_
    refine yes_ret (lt_dec hi) ?_
    refine yes_ret (beq_t _) ?_
    refine yes_ret zle_dec ?_
    refine yes_ret (lt_dec hi) ?_
    refine yes_ret (beq_t _) ?_
    refine yes_ret (beq_t _) ?_
    refine call_to ((e10 (c.getD i MFork.zero) k).1, ((e10 (c.getD i MFork.zero) k).2.map iRow)) (Z126.R_eq (a0 := ((((c.getD i MFork.zero).fB).fHead).fHeirs).fList) (a1 := IntKind.i64.wrap ((e9 (c.getD i MFork.zero) k).1 + 1)) (wrap_I64 _)) ?_
    refine yes_ret zle_dec ?_
    refine yes_ret (lt_dec hi) ?_
    refine yes_ret (beq_t _) ?_
    refine yes_ret zle_dec ?_
    refine yes_ret (lt_dec hi) ?_
    refine yes_ret (beq_t _) ?_
    refine yes_ret zle_dec ?_
    refine yes_ret (lt_dec hi) ?_
    refine yes_ret (beq_t _) ?_
    refine yes_ret (beq_t _) ?_
    refine call_to ((e11 (c.getD i MFork.zero) k).1, ((e11 (c.getD i MFork.zero) k).2.map iRow)) (Z126.R_eq (a0 := ((((c.getD i MFork.zero).fB).fHead).fJudge).fList) (a1 := IntKind.i64.wrap ((IntKind.i64.wrap ((e10 (c.getD i MFork.zero) k).1 + 1)) + 1)) (wrap_I64 _)) ?_
    refine yes_ret zle_dec ?_
    refine yes_ret (lt_dec hi) ?_
    refine yes_ret (beq_t _) ?_
    refine yes_ret zle_dec ?_
    refine yes_ret (lt_dec hi) ?_
    refine yes_ret (beq_t _) ?_
    refine yes_ret zle_dec ?_
    refine yes_ret (lt_dec hi) ?_
    refine yes_ret (beq_t _) ?_
    refine yes_ret (beq_t _) ?_
    refine call_to ((e12 (c.getD i MFork.zero) k).1, ((e12 (c.getD i MFork.zero) k).2.map MSig.row)) (Z127.R_eq (a0 := ((c.getD i MFork.zero).fB).fSigs) (a1 := IntKind.i64.wrap ((IntKind.i64.wrap ((e11 (c.getD i MFork.zero) k).1 + 1)) + 1)) (wrap_I64 _)) ?_
    rw [wrap_succ hi hm]
    exact congrArg (fun q => J (Pt.p0 (el (c.getD i MFork.zero) k).1 ((i + 1 : Nat) : Int) q)) (List.map_set (f := MFork.row) (l := c) (i := i) (a := (el (c.getD i MFork.zero) k).2)).symm
  · simp only [step, S0, MKeys.rs, MHead.rs, MSigned.rs, MFork.rs]
    refine no_ret (by apply decide_eq_false; omega) ?_
    rfl
theorem valid_ : MValid Tryz.prog Ev 88 con := MV (run := fun n x => start (iter step n) x.1 x.2) mix tab_ok .nil (.cons Z126.valid_ (.cons Z127.valid_ .nil)) Tryz.func88 (by kernel_rfl) run_eq (fun ls a hl e hg => okF a.1 a.2 hg (by have h : (ls.headD .hole).toSl.length ≤ maxLen := (hl _ _ (.head _)).len; have e : a.1.map MFork.row = (ls.headD .hole).toSl := (congrArg (fun x => x.1) e.symm); rw [← e] at h; simpa using h))
theorem i64 {a0 : List MFork} {a1 : Int} (h : I64 a1) : I64 (md a0 a1).1 := accM_I el_I h
theorem elk (x : MFork) (k : Int) (h0 : 0 ≤ k) (hb : k + (cnt x : Int) ≤ 4611686018427387904) : (el x k).1 = k + cnt x := by
 simp only [cnt, Int.natCast_add] at hb ⊢
 simp (disch := omega) only [el, e1, e2, e3, e4, e5, e6, e7, e8, e9, e10, e11, e12, wi, Z126.kk, Z127.kk]
 all_goals first | done | omega
theorem kk (a0 : List MFork) (a1 : Int) (h0 : 0 ≤ a1) (hb : a1 + (sum a0 : Int) ≤ 4611686018427387904) : (md a0 a1).1 = a1 + sum a0 := accM_sum elk a0 a1 h0 hb
theorem sz (a : List MFork) : sum a ≤ 60 * (szL (fun y : MFork => MFork.size y) a) := sum_le (fun x => by
  have := Z126.sz ((((x.fBefore).fHead).fKeys).fList)
  have := Z126.sz ((((x.fBefore).fHead).fHeirs).fList)
  have := Z126.sz ((((x.fBefore).fHead).fJudge).fList)
  have := Z127.sz ((x.fBefore).fSigs)
  have := Z126.sz ((((x.fA).fHead).fKeys).fList)
  have := Z126.sz ((((x.fA).fHead).fHeirs).fList)
  have := Z126.sz ((((x.fA).fHead).fJudge).fList)
  have := Z127.sz ((x.fA).fSigs)
  have := Z126.sz ((((x.fB).fHead).fKeys).fList)
  have := Z126.sz ((((x.fB).fHead).fHeirs).fList)
  have := Z126.sz ((((x.fB).fHead).fJudge).fList)
  have := Z127.sz ((x.fB).fSigs)
  try simp only [cnt, MFork.size, MSigned.size, MHead.size, MKeys.size] at *
  omega) a
end Z130
namespace Z131
set_option maxHeartbeats 8000000
def F (x0 : RKnown) (x1 : Int) : Ans := (call (Z129.R (x0.fChains, x1)) fun v1 => (call (Z130.R (x0.fForks, v1.1)) fun v2 => ret ((v2.1, v1.2, v2.2) : Int × List (List L) × List (List L))))
def pats : List (Bool × List K) := [(true, [.sl 38, .sl 134]), (false, [.int .i64])]
def res : RP := .chg [38, 134]
def e1 (x : MKnown) (k : Int) := Z129.md x.fChains k
def e2 (x : MKnown) (k : Int) := Z130.md x.fForks ((e1 x k).1)
def sum (x : MKnown) : Nat := 0 + Z129.sum x.fChains + Z130.sum x.fForks
def md (a0 : MKnown) (a1 : Int) : Int × List (List MSigned) × List MFork := ((e2 a0 a1).1, (e1 a0 a1).2, (e2 a0 a1).2)
def gd (a0 : MKnown) (a1 : Int) : Prop := I64 a1
def acc (ls : List L) : RKnown × Int := ((RKnown.dec ls), ((dropT 2 ls).headD .hole).toInt)
def R : (RKnown × Int) → Option (Int × List (List L) × List (List L)) := RR (p2 gd) (u2 md)
theorem R_eq {a0} {a1} (h : gd a0 a1) : R ((MKnown.r a0), a1) = some ((md a0 a1).1, ((md a0 a1).2.1.map (lRow MSigned.row)), ((md a0 a1).2.2.map MFork.row)) := RR_eq (a := (a0, a1)) h
def con : MCon := MN pats acc R
theorem okF (a0 : MKnown) (a1 : Int) (hg : gd a0 a1) : F (MKnown.r a0) a1 = ret (((md a0 a1).1, ((md a0 a1).2.1.map (lRow MSigned.row)), ((md a0 a1).2.2.map MFork.row)) : Int × List (List L) × List (List L)) := by
 unfold gd at hg
 simp only [F, S0, MKnown.rs]
 unfold md
 refine call_to ((e1 a0 a1).1, ((e1 a0 a1).2.map (lRow MSigned.row))) (Z129.R_eq (a0 := a0.fChains) (a1 := a1) hg) ?_
 refine call_to ((e2 a0 a1).1, ((e2 a0 a1).2.map MFork.row)) (Z130.R_eq (a0 := a0.fForks) (a1 := (e1 a0 a1).1) (Z129.i64 hg)) ?_
 first | rfl | (simp only [S0, MKnown.rs]; rfl)
theorem valid_ : MValid Tryz.prog Ev 29 con := MV (live := fun _ => []) (nt := 14) (run := fun _ x => F x.1 x.2) mix tab_ok .nil (.cons Z129.valid_ (.cons Z130.valid_ .nil)) Tryz.func29 (by kernel_rfl) (fun _ _ => by kernel_rfl) (fun _ a _ _ hg => ⟨0, okF a.1 a.2 hg⟩)
theorem i64 {a0 : MKnown} {a1 : Int} (hk : I64 a1) : I64 (md a0 a1).1 := (Z130.i64 (Z129.i64 hk))
theorem kk (x : MKnown) (k : Int) (h0 : 0 ≤ k) (hb : k + (sum x : Int) ≤ 4611686018427387904) : (md x k).1 = k + sum x := by
 simp only [sum, Int.natCast_add] at hb ⊢
 simp (disch := omega) only [md, e1, e2, wi, Z129.kk, Z130.kk]
 all_goals first | done | omega
theorem sz (x : MKnown) : sum x ≤ 60 * MKnown.size x := by
  have := Z129.sz x.fChains
  have := Z130.sz x.fForks
  try simp only [sum, MKnown.size] at *
  omega
def upd (x : MKnown) (k : Int) : MKnown := (⟨(md x k).2.1, (md x k).2.2⟩ : MKnown)
end Z131
namespace Z132
set_option maxHeartbeats 8000000
inductive Pt where
 | p0 (a : List (List L)) (b : Int) (c : Int)
def pid : Pt → Nat
 | .p0 .. => 2
def pvs : Pt → List V
 | .p0 a b c => [.sl none 3 a, .int .i64 b, .int .i64 c]
def phs : Pt → List Root
 | .p0 a b c => []
def step (J : Pt → Ans) : Pt → Ans
 | .p0 a b c => (bif (decide (c < (a.length : Int))) then (bif (decide ((0 : Int) ≤ c)) then (bif (decide (c < (a.length : Int))) then (bif ((iAt a (Int.toNat c)) != b) then ret ((-1) : Int) else J (.p0 a (IntKind.i64.wrap (b + 1)) (IntKind.i64.wrap (c + 1)))) else none) else none) else ret (b : Int))
def start (J : Pt → Ans) (x0 : List (List L)) (x1 : Int) : Ans := J (.p0 x0 x1 0)
def live : Nat → Live := fun i => match i with | 2 => [(0, none), (1, none), (5, none)] | _ => []
def pats : List Pat := [.rd (.sl 3), .rd (.int .i64)]
def res : RP := .one (.rd (.int .i64))
abbrev E : Env := { T := assoc Tab, G := conG [], nt := 21 }
theorem step_eq (I : Heads) (p : Pt) : enterC E live I (pid p) (bodyOf Tryz.f70) (stOf (live (pid p)) (pvs p) (phs p)) (doneK E Tryz.f70 res) = step (fun q => I (pid q) (pvs q) (phs q)) p := by
 cases p <;> kernel_rfl
theorem start_eq (I : Heads) (ls : List L) : runC E live I (bodyOf Tryz.f70) (initS pats ls) (doneK E Tryz.f70 res) = start (fun q => I (pid q) (pvs q) (phs q)) (ls.headD .hole).toSl ((dropT 1 ls).headD .hole).toInt := by kernel_rfl
theorem run_eq (n : Nat) (ls : List L) : runF E live Tryz.f70 res n (initS pats ls) = start (iter step n) (ls.headD .hole).toSl ((dropT 1 ls).headD .hole).toInt := runF_iter (id := pid) (vs := pvs) (hs := phs) (step := step) (start := fun J => start J (ls.headD .hole).toSl ((dropT 1 ls).headD .hole).toInt) step_eq (fun I => start_eq I ls) n
def f (x : Int) (k : Int) : Option Int := (bif (x != k) then none else (some (IntKind.i64.wrap (k + 1))))
theorem f_I (x : Int) (k k2 : Int) (hk : I64 k) (h : f x k = some k2) : I64 k2 := by
 unfold f at h
 have h := bif_some h
 injection h with h
 subst h
 exact (wrap_I64 _)
def md (a0 : List Int) (a1 : Int) : Int := heldM f a0 a1
def gd (a0 : List Int) (a1 : Int) : Prop := I64 a1
def acc (ls : List L) : List (List L) × Int := ((ls.headD .hole).toSl, ((dropT 1 ls).headD .hole).toInt)
def R : (List (List L) × Int) → Option Int := RR (p2 gd) (u2 md)
theorem R_eq {a0} {a1} (h : gd a0 a1) : R ((a0.map iRow), a1) = some (md a0 a1) := RR_eq (a := (a0, a1)) h
def con : Con := CN pats res acc R
theorem okF (a0 : List Int) (a1 : Int) (hg : gd a0 a1) (h0 : a0.length ≤ maxLen) : ∃ n, start (iter step n) (a0.map iRow) a1 = ret ((md a0 a1) : Int) := by
  unfold gd at hg
  show ∃ n, iter step n (Pt.p0 (a0.map iRow) a1 0) = _
  unfold md
  refine held_loop (f := f) (xs := a0) 0 I64 f_I (pt := fun i k => Pt.p0 (a0.map iRow) k (i : Int)) (fun J i k hi hk => ?_) (fun J k => ?_) hg
  · simp only [step, S0]
    refine yes_ret (lt_dec hi) ?_
    refine yes_ret zle_dec ?_
    refine yes_ret (lt_dec hi) ?_
    refine held_bif rfl ?_
    rw [wrap_succ hi h0]
    rfl
  · simp only [step, S0]
    refine no_ret (by apply decide_eq_false; omega) ?_
    rfl
theorem valid_ : Valid Tryz.prog Ev 70 con := VV (run := fun n x => start (iter step n) x.1 x.2) mix tab_ok .nil Tryz.func70 (by kernel_rfl) run_eq (fun ls a hl e hg => okF a.1 a.2 hg (by have h : (ls.headD .hole).toSl.length ≤ maxLen := hl.1.len; have e : a.1.map iRow = (ls.headD .hole).toSl := (congrArg (fun x => x.1) e.symm); rw [← e] at h; simpa using h))
theorem i64 {a0 : List Int} {a1 : Int} (h : I64 a1) : I64 (md a0 a1) := heldM_I f_I I64_neg h
theorem elh (x : Int) (k : Int) (h0 : 0 ≤ k) (hb : k + (Z126.cnt x : Int) ≤ 4611686018427387904) : f (Z126.el x k).2 k = some (k + Z126.cnt x) := by
 simp only [Z126.cnt, Int.natCast_add] at hb ⊢
 simp (disch := omega) only [Z126.el, f, wi, bne_self_eq_false, beq_self_eq_true, ba_refl, Bool.not_true, cond_false, dec_neg]
 all_goals first | done | omega | (congr 1 <;> omega)
theorem mk (a0 : List Int) (a1 : Int) (h0 : 0 ≤ a1) (hb : a1 + (Z126.sum a0 : Int) ≤ 4611686018427387904) : md (Z126.md a0 a1).2 a1 = a1 + Z126.sum a0 := held_mark Z126.elk elh a0 a1 h0 hb
end Z132
namespace Z133
set_option maxHeartbeats 8000000
inductive Pt where
 | p0 (a : List (List L)) (b : Int) (c : Int)
def pid : Pt → Nat
 | .p0 .. => 2
def pvs : Pt → List V
 | .p0 a b c => [.sl none 184 a, .int .i64 b, .int .i64 c]
def phs : Pt → List Root
 | .p0 a b c => []
def step (J : Pt → Ans) : Pt → Ans
 | .p0 a b c => (bif (decide (c < (a.length : Int))) then (bif (decide ((0 : Int) ≤ c)) then (bif (decide (c < (a.length : Int))) then (bif ((MSig.at a (Int.toNat c)).fKey != b) then ret ((-1) : Int) else (bif (decide ((0 : Int) ≤ c)) then (bif (decide (c < (a.length : Int))) then (bif ((MSig.at a (Int.toNat c)).fTag != (IntKind.i64.wrap (b + 1))) then ret ((-1) : Int) else J (.p0 a (IntKind.i64.wrap ((IntKind.i64.wrap (b + 1)) + 1)) (IntKind.i64.wrap (c + 1)))) else none) else none)) else none) else none) else ret (b : Int))
def start (J : Pt → Ans) (x0 : List (List L)) (x1 : Int) : Ans := J (.p0 x0 x1 0)
def live : Nat → Live := fun i => match i with | 2 => [(0, none), (1, none), (5, none)] | _ => []
def pats : List Pat := [.rd (.sl 184), .rd (.int .i64)]
def res : RP := .one (.rd (.int .i64))
abbrev E : Env := { T := assoc Tab, G := conG [], nt := 31 }
theorem step_eq (I : Heads) (p : Pt) : enterC E live I (pid p) (bodyOf Tryz.f151) (stOf (live (pid p)) (pvs p) (phs p)) (doneK E Tryz.f151 res) = step (fun q => I (pid q) (pvs q) (phs q)) p := by
 cases p <;> kernel_rfl
theorem start_eq (I : Heads) (ls : List L) : runC E live I (bodyOf Tryz.f151) (initS pats ls) (doneK E Tryz.f151 res) = start (fun q => I (pid q) (pvs q) (phs q)) (ls.headD .hole).toSl ((dropT 1 ls).headD .hole).toInt := by kernel_rfl
theorem run_eq (n : Nat) (ls : List L) : runF E live Tryz.f151 res n (initS pats ls) = start (iter step n) (ls.headD .hole).toSl ((dropT 1 ls).headD .hole).toInt := runF_iter (id := pid) (vs := pvs) (hs := phs) (step := step) (start := fun J => start J (ls.headD .hole).toSl ((dropT 1 ls).headD .hole).toInt) step_eq (fun I => start_eq I ls) n
def f (x : MSig) (k : Int) : Option Int := (bif (x.fKey != k) then none else (bif (x.fTag != (IntKind.i64.wrap (k + 1))) then none else (some (IntKind.i64.wrap ((IntKind.i64.wrap (k + 1)) + 1)))))
theorem f_I (x : MSig) (k k2 : Int) (hk : I64 k) (h : f x k = some k2) : I64 k2 := by
 unfold f at h
 have h := bif_some h
 have h := bif_some h
 injection h with h
 subst h
 exact (wrap_I64 _)
def md (a0 : List MSig) (a1 : Int) : Int := heldM f a0 a1
def gd (a0 : List MSig) (a1 : Int) : Prop := I64 a1
def acc (ls : List L) : List (List L) × Int := ((ls.headD .hole).toSl, ((dropT 1 ls).headD .hole).toInt)
def R : (List (List L) × Int) → Option Int := RR (p2 gd) (u2 md)
theorem R_eq {a0} {a1} (h : gd a0 a1) : R ((a0.map MSig.row), a1) = some (md a0 a1) := RR_eq (a := (a0, a1)) h
def con : Con := CN pats res acc R
theorem okF (a0 : List MSig) (a1 : Int) (hg : gd a0 a1) (h0 : a0.length ≤ maxLen) : ∃ n, start (iter step n) (a0.map MSig.row) a1 = ret ((md a0 a1) : Int) := by
  unfold gd at hg
  show ∃ n, iter step n (Pt.p0 (a0.map MSig.row) a1 0) = _
  unfold md
  refine held_loop (f := f) (xs := a0) MSig.zero I64 f_I (pt := fun i k => Pt.p0 (a0.map MSig.row) k (i : Int)) (fun J i k hi hk => ?_) (fun J k => ?_) hg
  · simp only [step, S0, MSig.rs]
    refine yes_ret (lt_dec hi) ?_
    refine yes_ret zle_dec ?_
    refine yes_ret (lt_dec hi) ?_
    refine held_bif rfl ?_
    refine yes_ret zle_dec ?_
    refine yes_ret (lt_dec hi) ?_
    refine held_bif rfl ?_
    rw [wrap_succ hi h0]
    rfl
  · simp only [step, S0, MSig.rs]
    refine no_ret (by apply decide_eq_false; omega) ?_
    rfl
theorem valid_ : Valid Tryz.prog Ev 151 con := VV (run := fun n x => start (iter step n) x.1 x.2) mix tab_ok .nil Tryz.func151 (by kernel_rfl) run_eq (fun ls a hl e hg => okF a.1 a.2 hg (by have h : (ls.headD .hole).toSl.length ≤ maxLen := hl.1.len; have e : a.1.map MSig.row = (ls.headD .hole).toSl := (congrArg (fun x => x.1) e.symm); rw [← e] at h; simpa using h))
theorem i64 {a0 : List MSig} {a1 : Int} (h : I64 a1) : I64 (md a0 a1) := heldM_I f_I I64_neg h
theorem elh (x : MSig) (k : Int) (h0 : 0 ≤ k) (hb : k + (Z127.cnt x : Int) ≤ 4611686018427387904) : f (Z127.el x k).2 k = some (k + Z127.cnt x) := by
 simp only [Z127.cnt, Int.natCast_add] at hb ⊢
 simp (disch := omega) only [Z127.el, f, wi, bne_self_eq_false, beq_self_eq_true, ba_refl, Bool.not_true, cond_false, dec_neg]
 all_goals first | done | omega | (congr 1 <;> omega)
theorem mk (a0 : List MSig) (a1 : Int) (h0 : 0 ≤ a1) (hb : a1 + (Z127.sum a0 : Int) ≤ 4611686018427387904) : md (Z127.md a0 a1).2 a1 = a1 + Z127.sum a0 := held_mark Z127.elk elh a0 a1 h0 hb
end Z133
namespace Z134
set_option maxHeartbeats 8000000
inductive Pt where
 | p0 (a : List (List L)) (b : Int) (c : Int)
def pid : Pt → Nat
 | .p0 .. => 2
def pvs : Pt → List V
 | .p0 a b c => [.sl none 122 a, .int .i64 b, .int .i64 c]
def phs : Pt → List Root
 | .p0 a b c => []
def step (J : Pt → Ans) : Pt → Ans
 | .p0 a b c => (bif (decide (c < (a.length : Int))) then (bif (decide ((0 : Int) ≤ c)) then (bif (decide (c < (a.length : Int))) then (bif ((RSigned.at a (Int.toNat c)).fHead.fZone != b) then ret ((-1) : Int) else (bif (decide ((0 : Int) ≤ c)) then (bif (decide (c < (a.length : Int))) then (bif ((RSigned.at a (Int.toNat c)).fHead.fEpoch != (IntKind.i64.wrap (b + 1))) then ret ((-1) : Int) else (bif (decide ((0 : Int) ≤ c)) then (bif (decide (c < (a.length : Int))) then (bif ((RSigned.at a (Int.toNat c)).fHead.fKind != (IntKind.i64.wrap ((IntKind.i64.wrap (b + 1)) + 1))) then ret ((-1) : Int) else (bif (decide ((0 : Int) ≤ c)) then (bif (decide (c < (a.length : Int))) then (bif ((RSigned.at a (Int.toNat c)).fHead.fTime != (IntKind.i64.wrap ((IntKind.i64.wrap ((IntKind.i64.wrap (b + 1)) + 1)) + 1))) then ret ((-1) : Int) else (bif (decide ((0 : Int) ≤ c)) then (bif (decide (c < (a.length : Int))) then (bif ((RSigned.at a (Int.toNat c)).fHead.fUntil != (IntKind.i64.wrap ((IntKind.i64.wrap ((IntKind.i64.wrap ((IntKind.i64.wrap (b + 1)) + 1)) + 1)) + 1))) then ret ((-1) : Int) else (bif (decide ((0 : Int) ≤ c)) then (bif (decide (c < (a.length : Int))) then (bif ((RSigned.at a (Int.toNat c)).fHead.fCount != (IntKind.i64.wrap ((IntKind.i64.wrap ((IntKind.i64.wrap ((IntKind.i64.wrap ((IntKind.i64.wrap (b + 1)) + 1)) + 1)) + 1)) + 1))) then ret ((-1) : Int) else (bif (decide ((0 : Int) ≤ c)) then (bif (decide (c < (a.length : Int))) then (bif ((RSigned.at a (Int.toNat c)).fHead.fRoot != (IntKind.i64.wrap ((IntKind.i64.wrap ((IntKind.i64.wrap ((IntKind.i64.wrap ((IntKind.i64.wrap ((IntKind.i64.wrap (b + 1)) + 1)) + 1)) + 1)) + 1)) + 1))) then ret ((-1) : Int) else (bif (decide ((0 : Int) ≤ c)) then (bif (decide (c < (a.length : Int))) then (bif ((RSigned.at a (Int.toNat c)).fHead.fPrev != (IntKind.i64.wrap ((IntKind.i64.wrap ((IntKind.i64.wrap ((IntKind.i64.wrap ((IntKind.i64.wrap ((IntKind.i64.wrap ((IntKind.i64.wrap (b + 1)) + 1)) + 1)) + 1)) + 1)) + 1)) + 1))) then ret ((-1) : Int) else (bif (decide ((0 : Int) ≤ c)) then (bif (decide (c < (a.length : Int))) then (call (Z132.R ((RSigned.at a (Int.toNat c)).fHead.fKeys.fList, (IntKind.i64.wrap ((IntKind.i64.wrap ((IntKind.i64.wrap ((IntKind.i64.wrap ((IntKind.i64.wrap ((IntKind.i64.wrap ((IntKind.i64.wrap ((IntKind.i64.wrap (b + 1)) + 1)) + 1)) + 1)) + 1)) + 1)) + 1)) + 1)))) fun v1 => (bif (decide (v1 < 0)) then ret ((-1) : Int) else (bif (decide ((0 : Int) ≤ c)) then (bif (decide (c < (a.length : Int))) then (bif ((RSigned.at a (Int.toNat c)).fHead.fKeys.fNeed != v1) then ret ((-1) : Int) else (bif (decide ((0 : Int) ≤ c)) then (bif (decide (c < (a.length : Int))) then (call (Z132.R ((RSigned.at a (Int.toNat c)).fHead.fHeirs.fList, (IntKind.i64.wrap (v1 + 1)))) fun v2 => (bif (decide (v2 < 0)) then ret ((-1) : Int) else (bif (decide ((0 : Int) ≤ c)) then (bif (decide (c < (a.length : Int))) then (bif ((RSigned.at a (Int.toNat c)).fHead.fHeirs.fNeed != v2) then ret ((-1) : Int) else (bif (decide ((0 : Int) ≤ c)) then (bif (decide (c < (a.length : Int))) then (bif ((RSigned.at a (Int.toNat c)).fHead.fWait != (IntKind.i64.wrap (v2 + 1))) then ret ((-1) : Int) else (bif (decide ((0 : Int) ≤ c)) then (bif (decide (c < (a.length : Int))) then (call (Z132.R ((RSigned.at a (Int.toNat c)).fHead.fJudge.fList, (IntKind.i64.wrap ((IntKind.i64.wrap (v2 + 1)) + 1)))) fun v3 => (bif (decide (v3 < 0)) then ret ((-1) : Int) else (bif (decide ((0 : Int) ≤ c)) then (bif (decide (c < (a.length : Int))) then (bif ((RSigned.at a (Int.toNat c)).fHead.fJudge.fNeed != v3) then ret ((-1) : Int) else (bif (decide ((0 : Int) ≤ c)) then (bif (decide (c < (a.length : Int))) then (bif (!((RSigned.at a (Int.toNat c)).fHead.fFrozen == ((Int.tmod (IntKind.i64.wrap (v3 + 1)) 3) == 0))) then ret ((-1) : Int) else (bif (decide ((0 : Int) ≤ c)) then (bif (decide (c < (a.length : Int))) then (call (Z133.R ((RSigned.at a (Int.toNat c)).fSigs, (IntKind.i64.wrap ((IntKind.i64.wrap (v3 + 1)) + 1)))) fun v4 => (bif (decide (v4 < 0)) then ret ((-1) : Int) else J (.p0 a v4 (IntKind.i64.wrap (c + 1))))) else none) else none)) else none) else none)) else none) else none))) else none) else none)) else none) else none)) else none) else none))) else none) else none)) else none) else none))) else none) else none)) else none) else none)) else none) else none)) else none) else none)) else none) else none)) else none) else none)) else none) else none)) else none) else none)) else none) else none) else ret (b : Int))
def start (J : Pt → Ans) (x0 : List (List L)) (x1 : Int) : Ans := J (.p0 x0 x1 0)
def live : Nat → Live := fun i => match i with | 2 => [(0, none), (1, none), (5, none)] | _ => []
def pats : List Pat := [.rd (.sl 122), .rd (.int .i64)]
def res : RP := .one (.rd (.int .i64))
abbrev E : Env := { T := assoc Tab, G := conG [(70, Z132.con), (151, Z133.con)], nt := 190 }
theorem step_eq (I : Heads) (p : Pt) : enterC E live I (pid p) (bodyOf Tryz.f150) (stOf (live (pid p)) (pvs p) (phs p)) (doneK E Tryz.f150 res) = step (fun q => I (pid q) (pvs q) (phs q)) p := by
 cases p <;> kernel_rfl
theorem start_eq (I : Heads) (ls : List L) : runC E live I (bodyOf Tryz.f150) (initS pats ls) (doneK E Tryz.f150 res) = start (fun q => I (pid q) (pvs q) (phs q)) (ls.headD .hole).toSl ((dropT 1 ls).headD .hole).toInt := by kernel_rfl
theorem run_eq (n : Nat) (ls : List L) : runF E live Tryz.f150 res n (initS pats ls) = start (iter step n) (ls.headD .hole).toSl ((dropT 1 ls).headD .hole).toInt := runF_iter (id := pid) (vs := pvs) (hs := phs) (step := step) (start := fun J => start J (ls.headD .hole).toSl ((dropT 1 ls).headD .hole).toInt) step_eq (fun I => start_eq I ls) n
def e1 (x : MSigned) (k : Int) := Z132.md (((x.fHead).fKeys).fList) (IntKind.i64.wrap ((IntKind.i64.wrap ((IntKind.i64.wrap ((IntKind.i64.wrap ((IntKind.i64.wrap ((IntKind.i64.wrap ((IntKind.i64.wrap ((IntKind.i64.wrap (k + 1)) + 1)) + 1)) + 1)) + 1)) + 1)) + 1)) + 1))
def e2 (x : MSigned) (k : Int) := Z132.md (((x.fHead).fHeirs).fList) (IntKind.i64.wrap ((e1 x k) + 1))
def e3 (x : MSigned) (k : Int) := Z132.md (((x.fHead).fJudge).fList) (IntKind.i64.wrap ((IntKind.i64.wrap ((e2 x k) + 1)) + 1))
def e4 (x : MSigned) (k : Int) := Z133.md x.fSigs (IntKind.i64.wrap ((IntKind.i64.wrap ((e3 x k) + 1)) + 1))
def f (x : MSigned) (k : Int) : Option Int := (bif ((x.fHead).fZone != k) then none else (bif ((x.fHead).fEpoch != (IntKind.i64.wrap (k + 1))) then none else (bif ((x.fHead).fKind != (IntKind.i64.wrap ((IntKind.i64.wrap (k + 1)) + 1))) then none else (bif ((x.fHead).fTime != (IntKind.i64.wrap ((IntKind.i64.wrap ((IntKind.i64.wrap (k + 1)) + 1)) + 1))) then none else (bif ((x.fHead).fUntil != (IntKind.i64.wrap ((IntKind.i64.wrap ((IntKind.i64.wrap ((IntKind.i64.wrap (k + 1)) + 1)) + 1)) + 1))) then none else (bif ((x.fHead).fCount != (IntKind.i64.wrap ((IntKind.i64.wrap ((IntKind.i64.wrap ((IntKind.i64.wrap ((IntKind.i64.wrap (k + 1)) + 1)) + 1)) + 1)) + 1))) then none else (bif ((x.fHead).fRoot != (IntKind.i64.wrap ((IntKind.i64.wrap ((IntKind.i64.wrap ((IntKind.i64.wrap ((IntKind.i64.wrap ((IntKind.i64.wrap (k + 1)) + 1)) + 1)) + 1)) + 1)) + 1))) then none else (bif ((x.fHead).fPrev != (IntKind.i64.wrap ((IntKind.i64.wrap ((IntKind.i64.wrap ((IntKind.i64.wrap ((IntKind.i64.wrap ((IntKind.i64.wrap ((IntKind.i64.wrap (k + 1)) + 1)) + 1)) + 1)) + 1)) + 1)) + 1))) then none else (bif (decide ((e1 x k) < 0)) then none else (bif (((x.fHead).fKeys).fNeed != (e1 x k)) then none else (bif (decide ((e2 x k) < 0)) then none else (bif (((x.fHead).fHeirs).fNeed != (e2 x k)) then none else (bif ((x.fHead).fWait != (IntKind.i64.wrap ((e2 x k) + 1))) then none else (bif (decide ((e3 x k) < 0)) then none else (bif (((x.fHead).fJudge).fNeed != (e3 x k)) then none else (bif (!((x.fHead).fFrozen == ((Int.tmod (IntKind.i64.wrap ((e3 x k) + 1)) 3) == 0))) then none else (bif (decide ((e4 x k) < 0)) then none else (some (e4 x k)))))))))))))))))))
theorem f_I (x : MSigned) (k k2 : Int) (hk : I64 k) (h : f x k = some k2) : I64 k2 := by
 unfold f at h
 have h := bif_some h
 have h := bif_some h
 have h := bif_some h
 have h := bif_some h
 have h := bif_some h
 have h := bif_some h
 have h := bif_some h
 have h := bif_some h
 have h := bif_some h
 have h := bif_some h
 have h := bif_some h
 have h := bif_some h
 have h := bif_some h
 have h := bif_some h
 have h := bif_some h
 have h := bif_some h
 have h := bif_some h
 injection h with h
 subst h
 exact (Z133.i64 (wrap_I64 _))
def md (a0 : List MSigned) (a1 : Int) : Int := heldM f a0 a1
def gd (a0 : List MSigned) (a1 : Int) : Prop := I64 a1
def acc (ls : List L) : List (List L) × Int := ((ls.headD .hole).toSl, ((dropT 1 ls).headD .hole).toInt)
def R : (List (List L) × Int) → Option Int := RR (p2 gd) (u2 md)
theorem R_eq {a0} {a1} (h : gd a0 a1) : R ((a0.map MSigned.row), a1) = some (md a0 a1) := RR_eq (a := (a0, a1)) h
def con : Con := CN pats res acc R
theorem okF (a0 : List MSigned) (a1 : Int) (hg : gd a0 a1) (h0 : a0.length ≤ maxLen) : ∃ n, start (iter step n) (a0.map MSigned.row) a1 = ret ((md a0 a1) : Int) := by
  unfold gd at hg
  show ∃ n, iter step n (Pt.p0 (a0.map MSigned.row) a1 0) = _
  unfold md
  refine held_loop (f := f) (xs := a0) MSigned.zero I64 f_I (pt := fun i k => Pt.p0 (a0.map MSigned.row) k (i : Int)) (fun J i k hi hk => ?_) (fun J k => ?_) hg
  · simp only [step, S0, MKeys.rs, MHead.rs, MSigned.rs]
    refine yes_ret (lt_dec hi) ?_
    refine yes_ret zle_dec ?_
    refine yes_ret (lt_dec hi) ?_
    refine held_bif rfl ?_
    refine yes_ret zle_dec ?_
    refine yes_ret (lt_dec hi) ?_
    refine held_bif rfl ?_
    refine yes_ret zle_dec ?_
    refine yes_ret (lt_dec hi) ?_
    refine held_bif rfl ?_
    refine yes_ret zle_dec ?_
    refine yes_ret (lt_dec hi) ?_
    refine held_bif rfl ?_
    refine yes_ret zle_dec ?_
    refine yes_ret (lt_dec hi) ?_
    refine held_bif rfl ?_
    refine yes_ret zle_dec ?_
    refine yes_ret (lt_dec hi) ?_
    refine held_bif rfl ?_
    refine yes_ret zle_dec ?_
    refine yes_ret (lt_dec hi) ?_
    refine held_bif rfl ?_
    refine yes_ret zle_dec ?_
    refine yes_ret (lt_dec hi) ?_
    refine held_bif rfl ?_
    refine yes_ret zle_dec ?_
    refine yes_ret (lt_dec hi) ?_
    refine call_to (e1 (a0.getD i MSigned.zero) k) (Z132.R_eq (a0 := (((a0.getD i MSigned.zero).fHead).fKeys).fList) (a1 := IntKind.i64.wrap ((IntKind.i64.wrap ((IntKind.i64.wrap ((IntKind.i64.wrap ((IntKind.i64.wrap ((IntKind.i64.wrap ((IntKind.i64.wrap ((IntKind.i64.wrap (k + 1)) + 1)) + 1)) + 1)) + 1)) + 1)) + 1)) + 1)) (wrap_I64 _)) ?_
    refine held_bif rfl ?_
    refine yes_ret zle_dec ?_
    refine yes_ret (lt_dec hi) ?_
    refine held_bif rfl ?_
    refine yes_ret zle_dec ?_
    refine yes_ret (lt_dec hi) ?_
    refine call_to (e2 (a0.getD i MSigned.zero) k) (Z132.R_eq (a0 := (((a0.getD i MSigned.zero).fHead).fHeirs).fList) (a1 := IntKind.i64.wrap ((e1 (a0.getD i MSigned.zero) k) + 1)) (wrap_I64 _)) ?_
    refine held_bif rfl ?_
    refine yes_ret zle_dec ?_
    refine yes_ret (lt_dec hi) ?_
    refine held_bif rfl ?_
    refine yes_ret zle_dec ?_
    refine yes_ret (lt_dec hi) ?_
    refine held_bif rfl ?_
    refine yes_ret zle_dec ?_
    refine yes_ret (lt_dec hi) ?_
    refine call_to (e3 (a0.getD i MSigned.zero) k) (Z132.R_eq (a0 := (((a0.getD i MSigned.zero).fHead).fJudge).fList) (a1 := IntKind.i64.wrap ((IntKind.i64.wrap ((e2 (a0.getD i MSigned.zero) k) + 1)) + 1)) (wrap_I64 _)) ?_
    refine held_bif rfl ?_
    refine yes_ret zle_dec ?_
    refine yes_ret (lt_dec hi) ?_
    refine held_bif rfl ?_
    refine yes_ret zle_dec ?_
    refine yes_ret (lt_dec hi) ?_
    refine held_bif rfl ?_
    refine yes_ret zle_dec ?_
    refine yes_ret (lt_dec hi) ?_
    refine call_to (e4 (a0.getD i MSigned.zero) k) (Z133.R_eq (a0 := (a0.getD i MSigned.zero).fSigs) (a1 := IntKind.i64.wrap ((IntKind.i64.wrap ((e3 (a0.getD i MSigned.zero) k) + 1)) + 1)) (wrap_I64 _)) ?_
    refine held_bif rfl ?_
    rw [wrap_succ hi h0]
    rfl
  · simp only [step, S0, MKeys.rs, MHead.rs, MSigned.rs]
    refine no_ret (by apply decide_eq_false; omega) ?_
    rfl
theorem valid_ : Valid Tryz.prog Ev 150 con := VV (run := fun n x => start (iter step n) x.1 x.2) mix tab_ok (.cons Z132.valid_ (.cons Z133.valid_ .nil)) Tryz.func150 (by kernel_rfl) run_eq (fun ls a hl e hg => okF a.1 a.2 hg (by have h : (ls.headD .hole).toSl.length ≤ maxLen := hl.1.len; have e : a.1.map MSigned.row = (ls.headD .hole).toSl := (congrArg (fun x => x.1) e.symm); rw [← e] at h; simpa using h))
theorem i64 {a0 : List MSigned} {a1 : Int} (h : I64 a1) : I64 (md a0 a1) := heldM_I f_I I64_neg h
theorem elh (x : MSigned) (k : Int) (h0 : 0 ≤ k) (hb : k + (Z128.cnt x : Int) ≤ 4611686018427387904) : f (Z128.el x k).2 k = some (k + Z128.cnt x) := by
 simp only [Z128.cnt, Int.natCast_add] at hb ⊢
 simp (disch := omega) only [Z128.el, f, Z128.e1, Z128.e2, Z128.e3, Z128.e4, e1, e2, e3, e4, wi, Z126.kk, Z132.mk, Z127.kk, Z133.mk, bne_self_eq_false, beq_self_eq_true, ba_refl, Bool.not_true, cond_false, dec_neg]
 all_goals first | done | omega | (congr 1 <;> omega)
theorem mk (a0 : List MSigned) (a1 : Int) (h0 : 0 ≤ a1) (hb : a1 + (Z128.sum a0 : Int) ≤ 4611686018427387904) : md (Z128.md a0 a1).2 a1 = a1 + Z128.sum a0 := held_mark Z128.elk elh a0 a1 h0 hb
end Z134
namespace Z135
set_option maxHeartbeats 8000000
inductive Pt where
 | p0 (a : List (List L)) (b : Int) (c : Int)
def pid : Pt → Nat
 | .p0 .. => 2
def pvs : Pt → List V
 | .p0 a b c => [.sl none 38 a, .int .i64 b, .int .i64 c]
def phs : Pt → List Root
 | .p0 a b c => []
def step (J : Pt → Ans) : Pt → Ans
 | .p0 a b c => (bif (decide (c < (a.length : Int))) then (bif (decide ((0 : Int) ≤ c)) then (bif (decide (c < (a.length : Int))) then (call (Z134.R ((lAt a (Int.toNat c)), b)) fun v1 => (bif (decide (v1 < 0)) then ret ((-1) : Int) else J (.p0 a v1 (IntKind.i64.wrap (c + 1))))) else none) else none) else ret (b : Int))
def start (J : Pt → Ans) (x0 : List (List L)) (x1 : Int) : Ans := J (.p0 x0 x1 0)
def live : Nat → Live := fun i => match i with | 2 => [(0, none), (1, none), (5, none)] | _ => []
def pats : List Pat := [.rd (.sl 38), .rd (.int .i64)]
def res : RP := .one (.rd (.int .i64))
abbrev E : Env := { T := assoc Tab, G := conG [(150, Z134.con)], nt := 21 }
theorem step_eq (I : Heads) (p : Pt) : enterC E live I (pid p) (bodyOf Tryz.f89) (stOf (live (pid p)) (pvs p) (phs p)) (doneK E Tryz.f89 res) = step (fun q => I (pid q) (pvs q) (phs q)) p := by
 cases p <;> kernel_rfl
theorem start_eq (I : Heads) (ls : List L) : runC E live I (bodyOf Tryz.f89) (initS pats ls) (doneK E Tryz.f89 res) = start (fun q => I (pid q) (pvs q) (phs q)) (ls.headD .hole).toSl ((dropT 1 ls).headD .hole).toInt := by kernel_rfl
theorem run_eq (n : Nat) (ls : List L) : runF E live Tryz.f89 res n (initS pats ls) = start (iter step n) (ls.headD .hole).toSl ((dropT 1 ls).headD .hole).toInt := runF_iter (id := pid) (vs := pvs) (hs := phs) (step := step) (start := fun J => start J (ls.headD .hole).toSl ((dropT 1 ls).headD .hole).toInt) step_eq (fun I => start_eq I ls) n
def e1 (x : List MSigned) (k : Int) := Z134.md x k
def f (x : List MSigned) (k : Int) : Option Int := (bif (decide ((e1 x k) < 0)) then none else (some (e1 x k)))
theorem f_I (x : List MSigned) (k k2 : Int) (hk : I64 k) (h : f x k = some k2) : I64 k2 := by
 unfold f at h
 have h := bif_some h
 injection h with h
 subst h
 exact (Z134.i64 hk)
def md (a0 : List (List MSigned)) (a1 : Int) : Int := heldM f a0 a1
def gd (a0 : List (List MSigned)) (a1 : Int) : Prop := I64 a1
def acc (ls : List L) : List (List L) × Int := ((ls.headD .hole).toSl, ((dropT 1 ls).headD .hole).toInt)
def R : (List (List L) × Int) → Option Int := RR (p2 gd) (u2 md)
theorem R_eq {a0} {a1} (h : gd a0 a1) : R ((a0.map (lRow MSigned.row)), a1) = some (md a0 a1) := RR_eq (a := (a0, a1)) h
def con : Con := CN pats res acc R
theorem okF (a0 : List (List MSigned)) (a1 : Int) (hg : gd a0 a1) (h0 : a0.length ≤ maxLen) : ∃ n, start (iter step n) (a0.map (lRow MSigned.row)) a1 = ret ((md a0 a1) : Int) := by
  unfold gd at hg
  show ∃ n, iter step n (Pt.p0 (a0.map (lRow MSigned.row)) a1 0) = _
  unfold md
  refine held_loop (f := f) (xs := a0) [] I64 f_I (pt := fun i k => Pt.p0 (a0.map (lRow MSigned.row)) k (i : Int)) (fun J i k hi hk => ?_) (fun J k => ?_) hg
  · simp only [step, S0]
    refine yes_ret (lt_dec hi) ?_
    refine yes_ret zle_dec ?_
    refine yes_ret (lt_dec hi) ?_
    refine call_to (e1 (a0.getD i []) k) (Z134.R_eq (a0 := a0.getD i []) (a1 := k) hk) ?_
    refine held_bif rfl ?_
    rw [wrap_succ hi h0]
    rfl
  · simp only [step, S0]
    refine no_ret (by apply decide_eq_false; omega) ?_
    rfl
theorem valid_ : Valid Tryz.prog Ev 89 con := VV (run := fun n x => start (iter step n) x.1 x.2) mix tab_ok (.cons Z134.valid_ .nil) Tryz.func89 (by kernel_rfl) run_eq (fun ls a hl e hg => okF a.1 a.2 hg (by have h : (ls.headD .hole).toSl.length ≤ maxLen := hl.1.len; have e : a.1.map (lRow MSigned.row) = (ls.headD .hole).toSl := (congrArg (fun x => x.1) e.symm); rw [← e] at h; simpa using h))
theorem i64 {a0 : List (List MSigned)} {a1 : Int} (h : I64 a1) : I64 (md a0 a1) := heldM_I f_I I64_neg h
theorem elh (x : List MSigned) (k : Int) (h0 : 0 ≤ k) (hb : k + (Z129.cnt x : Int) ≤ 4611686018427387904) : f (Z129.el x k).2 k = some (k + Z129.cnt x) := by
 simp only [Z129.cnt, Int.natCast_add] at hb ⊢
 simp (disch := omega) only [Z129.el, f, Z129.e1, e1, wi, Z128.kk, Z134.mk, bne_self_eq_false, beq_self_eq_true, ba_refl, Bool.not_true, cond_false, dec_neg]
 all_goals first | done | omega | (congr 1 <;> omega)
theorem mk (a0 : List (List MSigned)) (a1 : Int) (h0 : 0 ≤ a1) (hb : a1 + (Z129.sum a0 : Int) ≤ 4611686018427387904) : md (Z129.md a0 a1).2 a1 = a1 + Z129.sum a0 := held_mark Z129.elk elh a0 a1 h0 hb
end Z135
end Go.DM
end
