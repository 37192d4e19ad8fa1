/- The functions that the law reaches, as the machine runs them. Conditions: none. -/
import Derived.Test.YtdlcaendoaadbaaDc
import Derived.Test.YtdlcaendoaadbaaProg
set_option linter.all false
namespace Go.DM
open Go.Proofs
def Tab : List (Nat × TI) := [
  (2, ⟨[.int .i64], false, [], 8⟩),
  (3, ⟨[.int .i64], false, [], 8⟩),
  (4, ⟨[.bool], false, [], 1⟩),
  (5, ⟨[.int .u8], false, [], 1⟩),
  (6, ⟨[.int .u8], false, [], 1⟩),
  (7, ⟨[.int .i64, .int .i64, .bool, .int .u8], true, [(0, 2), (1, 3), (2, 4), (3, 6)], 24⟩),
  (8, ⟨[.int .i64, .int .i64, .bool, .int .u8], true, [(0, 2), (1, 3), (2, 4), (3, 6)], 24⟩),
  (9, ⟨[.str], false, [], 16⟩),
  (10, ⟨[.str], false, [], 16⟩),
  (11, ⟨[.str], false, [], 16⟩),
  (12, ⟨[.int .u64], false, [], 8⟩),
  (13, ⟨[.str, .int .u64], true, [(0, 9), (1, 12)], 24⟩),
  (14, ⟨[.str, .int .u64], true, [(0, 9), (1, 12)], 24⟩),
  (21, ⟨[.int .i32], false, [], 4⟩),
  (24, ⟨[.sl 62], false, [], 24⟩),
  (27, ⟨[.sl 63], false, [], 24⟩),
  (34, ⟨[.sl 68], false, [], 24⟩),
  (37, ⟨[.sl 70], false, [], 24⟩),
  (43, ⟨[.sl 9], false, [], 24⟩),
  (44, ⟨[.str, .int .i64, .int .i64, .sl 9], true, [(0, 9), (1, 3), (2, 3), (3, 43)], 56⟩),
  (45, ⟨[.str, .int .i64, .int .i64, .sl 9], true, [(0, 9), (1, 3), (2, 3), (3, 43)], 56⟩),
  (46, ⟨[.sl 45], false, [], 24⟩),
  (47, ⟨[.int .i64, .str, .int .i64, .int .i64, .sl 9, .sl 45], true, [(0, 3), (1, 45), (5, 46)], 88⟩),
  (48, ⟨[.int .i64, .str, .int .i64, .int .i64, .sl 9, .sl 45], true, [(0, 3), (1, 45), (5, 46)], 88⟩),
  (51, ⟨[.str, .int .i64, .int .i64, .sl 9], true, [(0, 9), (1, 3), (2, 3), (3, 43)], 56⟩),
  (52, ⟨[.sl 51], false, [], 24⟩),
  (53, ⟨[.int .i64, .str, .int .i64, .int .i64, .sl 9, .sl 51], true, [(0, 3), (1, 51), (5, 52)], 88⟩),
  (54, ⟨[.int .i64, .str, .int .i64, .int .i64, .sl 9, .sl 51], true, [(0, 3), (1, 51), (5, 52)], 88⟩),
  (61, ⟨[.str, .int .i64], true, [(0, 9), (1, 3)], 24⟩),
  (62, ⟨[.str, .int .i64], true, [(0, 9), (1, 3)], 24⟩),
  (63, ⟨[.str, .int .i64], true, [(0, 9), (1, 3)], 24⟩),
  (68, ⟨[.str, .int .i64], true, [(0, 9), (1, 3)], 24⟩),
  (70, ⟨[.str, .int .i64], true, [(0, 9), (1, 3)], 24⟩),
  (93, ⟨[.int .u32], false, [], 4⟩),
  (94, ⟨[.int .u8], false, [], 1⟩),
  (95, ⟨[.int .u8], false, [], 1⟩),
  (98, ⟨[.int .i32], false, [], 4⟩),
  (99, ⟨[.int .i32], false, [], 4⟩)]
noncomputable abbrev Ev : Env := ⟨assoc Tab, fun _ => [], 0⟩
theorem tab_ok : tableB Try.prog Tab = true := by kernel_rfl
theorem mix : Try.prog.follows .mixedOrders = true := by kernel_rfl
/-- The place of the first that p takes, counted from i on; or -1. -/
def mIdx (p : List L → Bool) : List (List L) → Int → Int
  | [], _ => -1
  | r :: rs, i => bif p r then i else mIdx p rs (i + 1)
theorem mIdx_lt (p : List L → Bool) : ∀ (xs : List (List L)) (i : Nat), mIdx p xs i < 0 ∨ (0 ≤ mIdx p xs i ∧ mIdx p xs i < ((i + xs.length : Nat) : Int))
  | [], i => .inl (by simp [mIdx])
  | r :: rs, i => by
    simp only [mIdx]
    cases p r
    · have := mIdx_lt p rs (i + 1)
      simp only [cond_false, List.length_cons]
      have e : ((i : Int) + 1) = ((i + 1 : Nat) : Int) := by omega
      rw [e]
      rcases this with h | ⟨h1, h2⟩
      · exact .inl h
      · exact .inr ⟨h1, by omega⟩
    · right; simp only [cond_true, List.length_cons]; omega
/-- The name of the first that has the zone. -/
def mPetOf (z : Int) : List (List L) → ByteArray
  | [] => ⟨#[]⟩
  | r :: rs => bif (r.getD 1 .hole).toInt == z then (r.getD 0 .hole).toStr else mPetOf z rs
/-! loop.example/g00588/laws.szPet -/
namespace laws_szPet
noncomputable def F (x0 : ByteArray) (x1 : Int) (x2 : Int) : Ans := (bif (decide ((IntKind.i64.wrap (x2 - (x0.size : Int))) < 0)) then some [L.int (-1)] else some [L.int ((IntKind.i64.wrap (x2 - (x0.size : Int))))])
def live : Nat → Live := fun _ => []
def pats : List Pat := [.agg [.str, .int .i64], .rd (.int .i64)]
def res : RP := .one (.rd (.int .i64))
noncomputable def G : List (Nat × Con) := []
noncomputable abbrev E : Env := ⟨assoc Tab, conG G, 13⟩
set_option maxRecDepth 100000
theorem run_eq (n : Nat) (y0 y1 y2 : L) : runF E live Try.f32 res n (initS pats [y0, y1, y2]) = F y0.toStr y1.toInt y2.toInt := by kernel_rfl
noncomputable def sem : List L → Option (List L)
  | [y0, y1, y2] => F y0.toStr y1.toInt y2.toInt
  | _ => none
theorem ok (ls r : List L) (_ : LOKs Ev.cells pats ls) (h : sem ls = some r) : ∃ n, runF E live Try.f32 res n (initS pats ls) = some r := by
  unfold sem at h
  split at h
  · exact ⟨0, (run_eq 0 _ _ _).trans h⟩
  · cases h
noncomputable def con : Con := ⟨pats, res, sem⟩
theorem chk : fnB Try.f32 con 13 = true := by kernel_rfl
theorem valid_ : Valid Try.prog Ev 32 con := valid mix tab_ok .nil Try.func32 chk live ok
end laws_szPet
/-! loop.example/g00588/laws.toPet -/
namespace laws_toPet
noncomputable def F (x0 : ByteArray) (x1 : Int) : Ans := some [L.str (x0), L.int (x1)]
def live : Nat → Live := fun _ => []
def pats : List Pat := [.agg [.str, .int .i64]]
def res : RP := .agg [.rd (.str), .rd (.int .i64)]
noncomputable def G : List (Nat × Con) := []
noncomputable abbrev E : Env := ⟨assoc Tab, conG G, 11⟩
set_option maxRecDepth 100000
theorem run_eq (n : Nat) (y0 y1 : L) : runF E live Try.f33 res n (initS pats [y0, y1]) = F y0.toStr y1.toInt := by kernel_rfl
noncomputable def sem : List L → Option (List L)
  | [y0, y1] => F y0.toStr y1.toInt
  | _ => none
theorem ok (ls r : List L) (_ : LOKs Ev.cells pats ls) (h : sem ls = some r) : ∃ n, runF E live Try.f33 res n (initS pats ls) = some r := by
  unfold sem at h
  split at h
  · exact ⟨0, (run_eq 0 _ _).trans h⟩
  · cases h
noncomputable def con : Con := ⟨pats, res, sem⟩
theorem chk : fnB Try.f33 con 11 = true := by kernel_rfl
theorem valid_ : Valid Try.prog Ev 33 con := valid mix tab_ok .nil Try.func33 chk live ok
end laws_toPet
/-! loop.example/g00588/laws.eqPet -/
namespace laws_eqPet
noncomputable def F (x0 : ByteArray) (x1 : Int) (x2 : ByteArray) (x3 : Int) : Ans := (bif (!(x0 == x2)) then some [L.bool false] else (bif (x1 != x3) then some [L.bool false] else some [L.bool true]))
def live : Nat → Live := fun _ => []
def pats : List Pat := [.agg [.str, .int .i64], .agg [.str, .int .i64]]
def res : RP := .one (.rd (.bool))
noncomputable def G : List (Nat × Con) := []
noncomputable abbrev E : Env := ⟨assoc Tab, conG G, 15⟩
set_option maxRecDepth 100000
theorem run_eq (n : Nat) (y0 y1 y2 y3 : L) : runF E live Try.f34 res n (initS pats [y0, y1, y2, y3]) = F y0.toStr y1.toInt y2.toStr y3.toInt := by kernel_rfl
noncomputable def sem : List L → Option (List L)
  | [y0, y1, y2, y3] => F y0.toStr y1.toInt y2.toStr y3.toInt
  | _ => none
theorem ok (ls r : List L) (_ : LOKs Ev.cells pats ls) (h : sem ls = some r) : ∃ n, runF E live Try.f34 res n (initS pats ls) = some r := by
  unfold sem at h
  split at h
  · exact ⟨0, (run_eq 0 _ _ _ _).trans h⟩
  · cases h
noncomputable def con : Con := ⟨pats, res, sem⟩
theorem chk : fnB Try.f34 con 15 = true := by kernel_rfl
theorem valid_ : Valid Try.prog Ev 34 con := valid mix tab_ok .nil Try.func34 chk live ok
end laws_eqPet
/-! loop.example/g00588/laws.szPetS -/
namespace laws_szPetS
inductive Pt where
  | p0 (a : List (List L)) (b : Int) (c : Int)
def pid : Pt → Nat
  | .p0 .. => 5
def pvs : Pt → List V
  | .p0 a b c => [.sl none 62 a, .int .i64 b, .int .i64 c]
def phs : Pt → List Root
  | .p0 a b c => []
noncomputable def step (J : Pt → Ans) : Pt → Ans
  | .p0 a b c => (bif (decide (c < (a.length : Int))) then (bif (decide (0 ≤ c)) then (bif (decide (c < (a.length : Int))) then ((laws_szPet.sem [L.str (((List.drop 0 (List.getD a (Int.toNat c) [])).headD .hole).toStr), L.int (((List.drop 0 (List.getD a (Int.toNat c) [])).tail.headD .hole).toInt), L.int (b)]).bind fun r1 => (bif (decide ((r1.headD .hole).toInt < 0)) then some [L.int (-1)] else J (.p0 a ((r1.headD .hole).toInt) (IntKind.i64.wrap (c + 1))))) else none) else none) else some [L.int (b)])
noncomputable def start (J : Pt → Ans) (x0 : List (List L)) (x1 : Int) : Ans := (bif (decide ((IntKind.i64.wrap (x1 - (x0.length : Int))) < 0)) then some [L.int (-1)] else J (.p0 x0 (IntKind.i64.wrap (x1 - (x0.length : Int))) 0))
def live : Nat → Live := fun i => match i with | 5 => [(0, none), (1, none), (5, none)] | _ => []
def pats : List Pat := [.rd (.sl 62), .rd (.int .i64)]
def res : RP := .one (.rd (.int .i64))
noncomputable def G : List (Nat × Con) := [(32, laws_szPet.con)]
noncomputable abbrev E : Env := ⟨assoc Tab, conG G, 27⟩
set_option maxRecDepth 100000
theorem step_eq (I : Heads) (p : Pt) : enterC E live I (pid p) (bodyOf Try.f11) (stOf (live (pid p)) (pvs p) (phs p)) (doneK E Try.f11 res) = step (fun q => I (pid q) (pvs q) (phs q)) p := by
  cases p <;> kernel_rfl
theorem start_eq (I : Heads) (y0 y1 : L) : runC E live I (bodyOf Try.f11) (initS pats [y0, y1]) (doneK E Try.f11 res) = start (fun q => I (pid q) (pvs q) (phs q)) y0.toSl y1.toInt := by kernel_rfl
theorem run_eq (n : Nat) (y0 y1 : L) : runF E live Try.f11 res n (initS pats [y0, y1]) = start (iter step n) y0.toSl y1.toInt := runF_iter (id := pid) (vs := pvs) (hs := phs) (step := step) (start := fun J => start J y0.toSl y1.toInt) step_eq (fun I => start_eq I y0 y1) n
noncomputable def sz (b : Int) : List (List L) → Int
  | [] => b
  | r :: rs => bif decide (IntKind.i64.wrap (b - ((r.getD 0 .hole).toStr.size : Int)) < 0) then -1 else sz (IntKind.i64.wrap (b - ((r.getD 0 .hole).toStr.size : Int))) rs
theorem loop (xs : List (List L)) (hl : xs.length ≤ maxLen) : ∀ i, i ≤ xs.length → ∀ b : Int, ∃ n, iter step n (.p0 xs b i) = some [.int (sz b (xs.drop i))] := by
  refine up (fun i h h' b => ⟨1, ?_⟩) (fun i h ih b => ?_)
  · subst h'; simp [iter, step, sz]
  · rw [List.drop_eq_getElem_cons h]
    simp only [sz]
    cases hc : decide (IntKind.i64.wrap (b - ((xs[i].getD 0 .hole).toStr.size : Int)) < 0)
    · obtain ⟨n, hn⟩ := ih (IntKind.i64.wrap (b - ((xs[i].getD 0 .hole).toStr.size : Int)))
      refine ⟨n + 1, ?_⟩
      simp only [iter, step, Int.toNat_natCast, getD_row h, tl_drop, hd_drop, laws_szPet.sem, laws_szPet.F, toStr_str, toInt_int, toBool_bool, Option.bind_some, hd_cons, hc, cond_false]
      have hc' : ¬ (IntKind.i64.wrap (b - ((xs[i].getD 0 .hole).toStr.size : Int)) < 0) := of_decide_eq_false hc
      simp [h, wrap_succ h hl, hc', -List.getD_eq_getElem?_getD]
      exact hn
    · exact ⟨1, by simp only [iter, step, Int.toNat_natCast, getD_row h, tl_drop, hd_drop, laws_szPet.sem, laws_szPet.F, toStr_str, toInt_int, toBool_bool, Option.bind_some, hd_cons, hc, cond_true]; simp [h]⟩
noncomputable def tot (b : Int) (xs : List (List L)) : Int := bif decide (IntKind.i64.wrap (b - (xs.length : Int)) < 0) then -1 else sz (IntKind.i64.wrap (b - (xs.length : Int))) xs
theorem tot_small {xs : List (List L)} (hx : xs.length ≤ maxLen) (h : ¬ tot 1048576 xs < 0) : xs.length ≤ 1048576 :=
  sz_small hx fun hc => h (by simp [tot, hc])
noncomputable def sem : List L → Option (List L)
  | [y0, y1] => some [.int (tot y1.toInt y0.toSl)]
  | _ => none
theorem ok1 (y0 y1 : L) (hl : LOKs Ev.cells pats [y0, y1]) : ∃ n, runF E live Try.f11 res n (initS pats [y0, y1]) = some [.int (tot y1.toInt y0.toSl)] := by
  simp only [run_eq, start, tot]
  cases hc : decide (IntKind.i64.wrap (y1.toInt - (y0.toSl.length : Int)) < 0)
  · obtain ⟨n, hn⟩ := loop y0.toSl hl.1.len 0 (Nat.zero_le _) (IntKind.i64.wrap (y1.toInt - (y0.toSl.length : Int)))
    exact ⟨n, hn⟩
  · exact ⟨0, rfl⟩
theorem ok (ls r : List L) (hl : LOKs Ev.cells pats ls) (h : sem ls = some r) : ∃ n, runF E live Try.f11 res n (initS pats ls) = some r := by
  unfold sem at h
  split at h
  · first | (exact ok1 _ _ hl r h) | (rw [← h]; exact ok1 _ _ hl)
  · cases h
noncomputable def con : Con := ⟨pats, res, sem⟩
theorem chk : fnB Try.f11 con 27 = true := by kernel_rfl
theorem valid_ : Valid Try.prog Ev 11 con := valid mix tab_ok (.cons laws_szPet.valid_ .nil) Try.func11 chk live ok
end laws_szPetS
/-! loop.example/g00588/laws.toPetS -/
namespace laws_toPetS
inductive Pt where
  | p0 (a : List (List L)) (b : Int) (c : List (List L))
def pid : Pt → Nat
  | .p0 .. => 3
def pvs : Pt → List V
  | .p0 a b c => [.sl none 62 a, .own 0, .int .i64 b]
def phs : Pt → List Root
  | .p0 a b c => [.row 63 c]
noncomputable def step (J : Pt → Ans) : Pt → Ans
  | .p0 a b c => (bif (decide (b < (a.length : Int))) then (bif (decide (0 ≤ b)) then (bif (decide (b < (a.length : Int))) then ((laws_toPet.sem [L.str (((List.drop 0 (List.getD a (Int.toNat b) [])).headD .hole).toStr), L.int (((List.drop 0 (List.getD a (Int.toNat b) [])).tail.headD .hole).toInt)]).bind fun r1 => (bif (decide (0 ≤ b)) then (bif (decide (b < (c.length : Int))) then J (.p0 a (IntKind.i64.wrap (b + 1)) (List.set c (Int.toNat b) [L.str ((r1.headD .hole).toStr), L.int ((r1.tail.headD .hole).toInt)])) else none) else none)) else none) else none) else some [L.sl (c)])
noncomputable def start (J : Pt → Ans) (x0 : List (List L)) : Ans := (bif (decide (0 ≤ (x0.length : Int))) then (bif (decide ((x0.length : Int) ≤ (x0.length : Int))) then (bif (decide ((x0.length : Int) * 24 ≤ 140737488355328)) then J (.p0 x0 0 (List.replicate (Int.toNat (x0.length : Int)) [L.str ⟨#[]⟩, L.int 0])) else none) else none) else none)
def live : Nat → Live := fun i => match i with | 3 => [(0, none), (3, none), (4, none)] | _ => []
def pats : List Pat := [.rd (.sl 62)]
def res : RP := .one (.fr 63)
noncomputable def G : List (Nat × Con) := [(33, laws_toPet.con)]
noncomputable abbrev E : Env := ⟨assoc Tab, conG G, 23⟩
set_option maxRecDepth 100000
theorem step_eq (I : Heads) (p : Pt) : enterC E live I (pid p) (bodyOf Try.f13) (stOf (live (pid p)) (pvs p) (phs p)) (doneK E Try.f13 res) = step (fun q => I (pid q) (pvs q) (phs q)) p := by
  cases p <;> kernel_rfl
theorem start_eq (I : Heads) (y0 : L) : runC E live I (bodyOf Try.f13) (initS pats [y0]) (doneK E Try.f13 res) = start (fun q => I (pid q) (pvs q) (phs q)) y0.toSl := by kernel_rfl
theorem run_eq (n : Nat) (y0 : L) : runF E live Try.f13 res n (initS pats [y0]) = start (iter step n) y0.toSl := runF_iter (id := pid) (vs := pvs) (hs := phs) (step := step) (start := fun J => start J y0.toSl) step_eq (fun I => start_eq I y0) n
def to1 (r : List L) : List L := [.str (r.getD 0 .hole).toStr, .int (r.getD 1 .hole).toInt]
theorem loop (xs : List (List L)) (hl : xs.length ≤ maxLen) : ∀ i, i ≤ xs.length → ∀ c : List (List L), c.length = xs.length → c.take i = (xs.map to1).take i → ∃ n, iter step n (.p0 xs i c) = some [.sl (xs.map to1)] := by
  refine up (fun i h h' c hc ht => ⟨1, ?_⟩) (fun i h ih c hc ht => ?_)
  · subst h'
    rw [List.take_of_length_le (by omega), List.take_of_length_le (by simp)] at ht
    simp [iter, step, ht]
  · obtain ⟨n, hn⟩ := ih (c.set i (to1 xs[i])) (by simpa using hc) (by rw [take_set (by omega), ht, List.take_succ_eq_append_getElem (by simpa using h)]; simp)
    refine ⟨n + 1, ?_⟩
    simp only [iter, step, Int.toNat_natCast, getD_row h, tl_drop, hd_drop, laws_toPet.sem, laws_toPet.F, toStr_str, toInt_int, toBool_bool, Option.bind_some, hd_cons]
    simp [h, hc, wrap_succ h hl]
    exact hn
noncomputable def sem : List L → Option (List L)
  | [y0] => bif decide ((y0.toSl.length : Int) * 24 ≤ 140737488355328) then some [.sl (y0.toSl.map to1)] else none
  | _ => none
theorem ok1 (y0 : L) (hl : LOKs Ev.cells pats [y0]) (r : List L) (h : (bif decide ((y0.toSl.length : Int) * 24 ≤ 140737488355328) then some [L.sl (y0.toSl.map to1)] else none) = some r) : ∃ n, runF E live Try.f13 res n (initS pats [y0]) = some r := by
  by_cases hb : (y0.toSl.length : Int) * 24 ≤ 140737488355328
  · simp only [hb, decide_true, cond_true] at h
    obtain ⟨n, hn⟩ := loop y0.toSl hl.1.len 0 (Nat.zero_le _) (List.replicate y0.toSl.length [L.str ⟨#[]⟩, L.int 0]) (by simp) (by simp)
    refine ⟨n, ?_⟩
    rw [run_eq, ← h, ← hn]
    simp [start, hb]
  · simp [hb] at h
theorem ok (ls r : List L) (hl : LOKs Ev.cells pats ls) (h : sem ls = some r) : ∃ n, runF E live Try.f13 res n (initS pats ls) = some r := by
  unfold sem at h
  split at h
  · first | (exact ok1 _ hl r h) | (rw [← h]; exact ok1 _ hl)
  · cases h
noncomputable def con : Con := ⟨pats, res, sem⟩
theorem chk : fnB Try.f13 con 23 = true := by kernel_rfl
theorem valid_ : Valid Try.prog Ev 13 con := valid mix tab_ok (.cons laws_toPet.valid_ .nil) Try.func13 chk live ok
end laws_toPetS
/-! loop.example/g00588/laws.eqPetS -/
namespace laws_eqPetS
inductive Pt where
  | p0 (a : List (List L)) (b : List (List L)) (c : Int)
def pid : Pt → Nat
  | .p0 .. => 4
def pvs : Pt → List V
  | .p0 a b c => [.sl none 63 a, .sl none 63 b, .int .i64 c]
def phs : Pt → List Root
  | .p0 a b c => []
noncomputable def step (J : Pt → Ans) : Pt → Ans
  | .p0 a b c => (bif (decide (c < (a.length : Int))) then (bif (decide (0 ≤ c)) then (bif (decide (c < (a.length : Int))) then (bif (decide (0 ≤ c)) then (bif (decide (c < (b.length : Int))) then ((laws_eqPet.sem [L.str (((List.drop 0 (List.getD a (Int.toNat c) [])).headD .hole).toStr), L.int (((List.drop 0 (List.getD a (Int.toNat c) [])).tail.headD .hole).toInt), L.str (((List.drop 0 (List.getD b (Int.toNat c) [])).headD .hole).toStr), L.int (((List.drop 0 (List.getD b (Int.toNat c) [])).tail.headD .hole).toInt)]).bind fun r1 => (bif (!(r1.headD .hole).toBool) then some [L.bool false] else J (.p0 a b (IntKind.i64.wrap (c + 1))))) else none) else none) else none) else none) else some [L.bool true])
noncomputable def start (J : Pt → Ans) (x0 : List (List L)) (x1 : List (List L)) : Ans := (bif ((x0.length : Int) != (x1.length : Int)) then some [L.bool false] else J (.p0 x0 x1 0))
def live : Nat → Live := fun i => match i with | 4 => [(0, none), (1, none), (5, none)] | _ => []
def pats : List Pat := [.rd (.sl 63), .rd (.sl 63)]
def res : RP := .one (.rd (.bool))
noncomputable def G : List (Nat × Con) := [(34, laws_eqPet.con)]
noncomputable abbrev E : Env := ⟨assoc Tab, conG G, 27⟩
set_option maxRecDepth 100000
theorem step_eq (I : Heads) (p : Pt) : enterC E live I (pid p) (bodyOf Try.f15) (stOf (live (pid p)) (pvs p) (phs p)) (doneK E Try.f15 res) = step (fun q => I (pid q) (pvs q) (phs q)) p := by
  cases p <;> kernel_rfl
theorem start_eq (I : Heads) (y0 y1 : L) : runC E live I (bodyOf Try.f15) (initS pats [y0, y1]) (doneK E Try.f15 res) = start (fun q => I (pid q) (pvs q) (phs q)) y0.toSl y1.toSl := by kernel_rfl
theorem run_eq (n : Nat) (y0 y1 : L) : runF E live Try.f15 res n (initS pats [y0, y1]) = start (iter step n) y0.toSl y1.toSl := runF_iter (id := pid) (vs := pvs) (hs := phs) (step := step) (start := fun J => start J y0.toSl y1.toSl) step_eq (fun I => start_eq I y0 y1) n
noncomputable def eq1 (a b : List L) : Bool := !(!((a.getD 0 .hole).toStr == (b.getD 0 .hole).toStr)) && !((a.getD 1 .hole).toInt != (b.getD 1 .hole).toInt)
theorem loop (xs ys : List (List L)) (hxy : xs.length = ys.length) (hl : xs.length ≤ maxLen) : ∀ i, i ≤ xs.length → ∃ n, iter step n (.p0 xs ys i) = some [.bool (eqL eq1 (xs.drop i) (ys.drop i))] := by
  refine up (fun i h h' => ⟨1, ?_⟩) (fun i h ⟨n, hn⟩ => ?_)
  · subst h'; rw [List.drop_eq_nil_of_le (by omega), List.drop_eq_nil_of_le (by omega)]; simp [iter, step, eqL]
  · have h2 : i < ys.length := by omega
    rw [List.drop_eq_getElem_cons h, List.drop_eq_getElem_cons h2]
    simp only [eqL, eq1]
    cases hc : ((xs[i].getD 0 .hole).toStr == (ys[i].getD 0 .hole).toStr)
    · exact ⟨1, by simp only [iter, step, Int.toNat_natCast, getD_row h, getD_row h2, tl_drop, hd_drop, laws_eqPet.sem, laws_eqPet.F, toStr_str, toInt_int, toBool_bool, Option.bind_some, hd_cons, hc]; simp [h, h2]⟩
    · cases hd : ((xs[i].getD 1 .hole).toInt != (ys[i].getD 1 .hole).toInt)
      · refine ⟨n + 1, ?_⟩
        simp only [iter, step, Int.toNat_natCast, getD_row h, getD_row h2, tl_drop, hd_drop, laws_eqPet.sem, laws_eqPet.F, toStr_str, toInt_int, toBool_bool, Option.bind_some, hd_cons, hc, hd]
        simp [h, h2, wrap_succ h hl]
        exact hn
      · exact ⟨1, by simp only [iter, step, Int.toNat_natCast, getD_row h, getD_row h2, tl_drop, hd_drop, laws_eqPet.sem, laws_eqPet.F, toStr_str, toInt_int, toBool_bool, Option.bind_some, hd_cons, hc, hd]; simp [h, h2]⟩
noncomputable def sem : List L → Option (List L)
  | [y0, y1] => some [.bool (bif ((y0.toSl.length : Int) != (y1.toSl.length : Int)) then false else eqL eq1 y0.toSl y1.toSl)]
  | _ => none
theorem ok1 (y0 y1 : L) (hl : LOKs Ev.cells pats [y0, y1]) : ∃ n, runF E live Try.f15 res n (initS pats [y0, y1]) = some [.bool (bif ((y0.toSl.length : Int) != (y1.toSl.length : Int)) then false else eqL eq1 y0.toSl y1.toSl)] := by
  simp only [run_eq, start]
  cases hc : ((y0.toSl.length : Int) != (y1.toSl.length : Int))
  · simp only [cond_false]
    have : y0.toSl.length = y1.toSl.length := by simp at hc; omega
    exact loop y0.toSl y1.toSl this hl.1.len 0 (Nat.zero_le _)
  · exact ⟨0, rfl⟩
theorem ok (ls r : List L) (hl : LOKs Ev.cells pats ls) (h : sem ls = some r) : ∃ n, runF E live Try.f15 res n (initS pats ls) = some r := by
  unfold sem at h
  split at h
  · first | (exact ok1 _ _ hl r h) | (rw [← h]; exact ok1 _ _ hl)
  · cases h
noncomputable def con : Con := ⟨pats, res, sem⟩
theorem chk : fnB Try.f15 con 27 = true := by kernel_rfl
theorem valid_ : Valid Try.prog Ev 15 con := valid mix tab_ok (.cons laws_eqPet.valid_ .nil) Try.func15 chk live ok
end laws_eqPetS
/-! loop.example/g00588/impl.petAt$1 -/
namespace impl_petAt_1
noncomputable def F (x0 : ByteArray) (x1 : Int) (x2 : L) : Ans := some [L.bool ((x0 == ((List.drop 0 [x2]).headD .hole).toStr))]
def live : Nat → Live := fun _ => []
def pats : List Pat := [.agg [.str, .int .i64], .ptr [.str]]
def res : RP := .one (.rd (.bool))
noncomputable def G : List (Nat × Con) := []
noncomputable abbrev E : Env := ⟨assoc Tab, conG G, 8⟩
set_option maxRecDepth 100000
theorem run_eq (n : Nat) (y0 y1 y2 : L) : runF E live Try.f53 res n (initS pats [y0, y1, y2]) = F y0.toStr y1.toInt y2 := by kernel_rfl
noncomputable def sem : List L → Option (List L)
  | [y0, y1, y2] => F y0.toStr y1.toInt y2
  | _ => none
theorem ok (ls r : List L) (_ : LOKs Ev.cells pats ls) (h : sem ls = some r) : ∃ n, runF E live Try.f53 res n (initS pats ls) = some r := by
  unfold sem at h
  split at h
  · exact ⟨0, (run_eq 0 _ _ _).trans h⟩
  · cases h
noncomputable def con : Con := ⟨pats, res, sem⟩
theorem chk : fnB Try.f53 con 8 = true := by kernel_rfl
theorem valid_ : Valid Try.prog Ev 53 con := valid mix tab_ok .nil Try.func53 chk live ok
end impl_petAt_1
/-! slices.IndexFunc[[]loop.example/g00588/impl.Pet,loop.example/g00588/impl.Pet] -/
namespace slices_IndexFunc__impl_Pet_impl_Pet
inductive Pt where
  | p0 (a : List (List L)) (b : List L) (c : Int) (d : Int)
def pid : Pt → Nat
  | .p0 .. => 2
def pvs : Pt → List V
  | .p0 a b c d => [.sl none 63 a, .fn 53 [.cptr none [.str] b 0], .int .i64 c, .int .i64 d]
def phs : Pt → List Root
  | .p0 a b c d => []
noncomputable def step (J : Pt → Ans) : Pt → Ans
  | .p0 a b c d => (bif (decide (d < c)) then (bif (decide (0 ≤ d)) then (bif (decide (d < (a.length : Int))) then ((impl_petAt_1.sem [L.str (((List.drop 0 (List.getD a (Int.toNat d) [])).headD .hole).toStr), L.int (((List.drop 0 (List.getD a (Int.toNat d) [])).tail.headD .hole).toInt), b.headD .hole]).bind fun r1 => (bif (r1.headD .hole).toBool then some [L.int (d)] else J (.p0 a b c (IntKind.i64.wrap (d + 1))))) else none) else none) else some [L.int (-1)])
noncomputable def start (J : Pt → Ans) (x0 : List (List L)) (x1 : L) : Ans := J (.p0 x0 ([x1]) (x0.length : Int) 0)
def live : Nat → Live := fun i => match i with | 2 => [(0, none), (1, none), (7, none), (8, none)] | _ => []
def pats : List Pat := [.rd (.sl 63), .fn 53 [[.str]]]
def res : RP := .one (.rd (.int .i64))
noncomputable def G : List (Nat × Con) := [(53, impl_petAt_1.con)]
noncomputable abbrev E : Env := ⟨assoc Tab, conG G, 19⟩
set_option maxRecDepth 100000
theorem step_eq (I : Heads) (p : Pt) : enterC E live I (pid p) (bodyOf Try.f52) (stOf (live (pid p)) (pvs p) (phs p)) (doneK E Try.f52 res) = step (fun q => I (pid q) (pvs q) (phs q)) p := by
  cases p <;> kernel_rfl
theorem start_eq (I : Heads) (y0 y1 : L) : runC E live I (bodyOf Try.f52) (initS pats [y0, y1]) (doneK E Try.f52 res) = start (fun q => I (pid q) (pvs q) (phs q)) y0.toSl y1 := by kernel_rfl
theorem run_eq (n : Nat) (y0 y1 : L) : runF E live Try.f52 res n (initS pats [y0, y1]) = start (iter step n) y0.toSl y1 := runF_iter (id := pid) (vs := pvs) (hs := phs) (step := step) (start := fun J => start J y0.toSl y1) step_eq (fun I => start_eq I y0 y1) n
theorem loop (xs : List (List L)) (y : L) (hl : xs.length ≤ maxLen) : ∀ i, i ≤ xs.length → ∃ n, iter step n (.p0 xs [y] xs.length i) = some [.int (mIdx (fun r => (r.getD 0 .hole).toStr == y.toStr) (xs.drop i) i)] := by
  refine up (fun i h h' => ⟨1, ?_⟩) (fun i h ⟨n, hn⟩ => ?_)
  · subst h'; simp [iter, step, mIdx]
  · rw [List.drop_eq_getElem_cons h]
    simp only [mIdx]
    cases hc : (xs[i].getD 0 .hole).toStr == y.toStr
    · refine ⟨n + 1, ?_⟩
      simp only [iter, step, Int.toNat_natCast, getD_row h, tl_drop, hd_drop, impl_petAt_1.sem, impl_petAt_1.F, hd_cons, List.getD_cons_zero, toStr_str, toBool_bool, Option.bind_some, hc, cond_false]
      simp [h, wrap_succ h hl]
      exact hn
    · exact ⟨1, by simp only [iter, step, Int.toNat_natCast, getD_row h, tl_drop, hd_drop, impl_petAt_1.sem, impl_petAt_1.F, hd_cons, List.getD_cons_zero, toStr_str, toBool_bool, Option.bind_some, hc, cond_true]; simp [h]⟩
noncomputable def sem : List L → Option (List L)
  | [y0, y1] => some [.int (mIdx (fun r => (r.getD 0 .hole).toStr == y1.toStr) y0.toSl 0)]
  | _ => none
theorem ok1 (y0 y1 : L) (hl : LOKs Ev.cells pats [y0, y1]) : ∃ n, runF E live Try.f52 res n (initS pats [y0, y1]) = some [.int (mIdx (fun r => (r.getD 0 .hole).toStr == y1.toStr) y0.toSl 0)] := by
  obtain ⟨n, hn⟩ := loop y0.toSl y1 hl.1.len 0 (Nat.zero_le _)
  exact ⟨n, (run_eq n y0 y1).trans hn⟩
theorem ok (ls r : List L) (hl : LOKs Ev.cells pats ls) (h : sem ls = some r) : ∃ n, runF E live Try.f52 res n (initS pats ls) = some r := by
  unfold sem at h
  split at h
  · first | (exact ok1 _ _ hl r h) | (rw [← h]; exact ok1 _ _ hl)
  · cases h
noncomputable def con : Con := ⟨pats, res, sem⟩
theorem chk : fnB Try.f52 con 19 = true := by kernel_rfl
theorem valid_ : Valid Try.prog Ev 52 con := valid mix tab_ok (.cons impl_petAt_1.valid_ .nil) Try.func52 chk live ok
end slices_IndexFunc__impl_Pet_impl_Pet
/-! loop.example/g00588/impl.petAt -/
namespace impl_petAt
noncomputable def F (x0 : List (List L)) (x1 : ByteArray) : Ans := ((slices_IndexFunc__impl_Pet_impl_Pet.sem [L.sl (x0), L.str (x1)]).bind fun r1 => some [L.int ((r1.headD .hole).toInt)])
def live : Nat → Live := fun _ => []
def pats : List Pat := [.rd (.sl 63), .rd (.str)]
def res : RP := .one (.rd (.int .i64))
noncomputable def G : List (Nat × Con) := [(52, slices_IndexFunc__impl_Pet_impl_Pet.con)]
noncomputable abbrev E : Env := ⟨assoc Tab, conG G, 8⟩
set_option maxRecDepth 100000
theorem run_eq (n : Nat) (y0 y1 : L) : runF E live Try.f36 res n (initS pats [y0, y1]) = F y0.toSl y1.toStr := by kernel_rfl
noncomputable def sem : List L → Option (List L)
  | [y0, y1] => F y0.toSl y1.toStr
  | _ => none
theorem ok (ls r : List L) (_ : LOKs Ev.cells pats ls) (h : sem ls = some r) : ∃ n, runF E live Try.f36 res n (initS pats ls) = some r := by
  unfold sem at h
  split at h
  · exact ⟨0, (run_eq 0 _ _).trans h⟩
  · cases h
noncomputable def con : Con := ⟨pats, res, sem⟩
theorem chk : fnB Try.f36 con 8 = true := by kernel_rfl
theorem valid_ : Valid Try.prog Ev 36 con := valid mix tab_ok (.cons slices_IndexFunc__impl_Pet_impl_Pet.valid_ .nil) Try.func36 chk live ok
end impl_petAt
/-! loop.example/g00588/spec.l29Find -/
namespace spec_l29Find
inductive Pt where
  | p0 (a : List (List L)) (b : ByteArray) (c : Int)
def pid : Pt → Nat
  | .p0 .. => 2
def pvs : Pt → List V
  | .p0 a b c => [.sl none 63 a, .str b, .int .i64 c]
def phs : Pt → List Root
  | .p0 a b c => []
noncomputable def step (J : Pt → Ans) : Pt → Ans
  | .p0 a b c => (bif (decide (c < (a.length : Int))) then (bif (decide (0 ≤ c)) then (bif (decide (c < (a.length : Int))) then (bif (((List.drop 0 (List.getD a (Int.toNat c) [])).headD .hole).toStr == b) then some [L.int (c)] else J (.p0 a b (IntKind.i64.wrap (c + 1)))) else none) else none) else some [L.int (-1)])
noncomputable def start (J : Pt → Ans) (x0 : List (List L)) (x1 : ByteArray) : Ans := J (.p0 x0 x1 0)
def live : Nat → Live := fun i => match i with | 2 => [(0, none), (1, none), (5, none)] | _ => []
def pats : List Pat := [.rd (.sl 63), .rd (.str)]
def res : RP := .one (.rd (.int .i64))
noncomputable def G : List (Nat × Con) := []
noncomputable abbrev E : Env := ⟨assoc Tab, conG G, 20⟩
set_option maxRecDepth 100000
theorem step_eq (I : Heads) (p : Pt) : enterC E live I (pid p) (bodyOf Try.f35) (stOf (live (pid p)) (pvs p) (phs p)) (doneK E Try.f35 res) = step (fun q => I (pid q) (pvs q) (phs q)) p := by
  cases p <;> kernel_rfl
theorem start_eq (I : Heads) (y0 y1 : L) : runC E live I (bodyOf Try.f35) (initS pats [y0, y1]) (doneK E Try.f35 res) = start (fun q => I (pid q) (pvs q) (phs q)) y0.toSl y1.toStr := by kernel_rfl
theorem run_eq (n : Nat) (y0 y1 : L) : runF E live Try.f35 res n (initS pats [y0, y1]) = start (iter step n) y0.toSl y1.toStr := runF_iter (id := pid) (vs := pvs) (hs := phs) (step := step) (start := fun J => start J y0.toSl y1.toStr) step_eq (fun I => start_eq I y0 y1) n
theorem loop (xs : List (List L)) (s : ByteArray) (hl : xs.length ≤ maxLen) : ∀ i, i ≤ xs.length → ∃ n, iter step n (.p0 xs s i) = some [.int (mIdx (fun r => (r.getD 0 .hole).toStr == s) (xs.drop i) i)] := by
  refine up (fun i h h' => ⟨1, ?_⟩) (fun i h ⟨n, hn⟩ => ?_)
  · subst h'; simp [iter, step, mIdx]
  · rw [List.drop_eq_getElem_cons h]
    simp only [mIdx]
    cases hc : (xs[i].getD 0 .hole).toStr == s
    · refine ⟨n + 1, ?_⟩
      simp only [iter, step, Int.toNat_natCast, getD_row h, tl_drop, hd_drop, hc, cond_false]
      simp [h, wrap_succ h hl]
      exact hn
    · exact ⟨1, by simp only [iter, step, Int.toNat_natCast, getD_row h, tl_drop, hd_drop, hc, cond_true]; simp [h]⟩
noncomputable def sem : List L → Option (List L)
  | [y0, y1] => some [.int (mIdx (fun r => (r.getD 0 .hole).toStr == y1.toStr) y0.toSl 0)]
  | _ => none
theorem ok1 (y0 y1 : L) (hl : LOKs Ev.cells pats [y0, y1]) : ∃ n, runF E live Try.f35 res n (initS pats [y0, y1]) = some [.int (mIdx (fun r => (r.getD 0 .hole).toStr == y1.toStr) y0.toSl 0)] := by
  obtain ⟨n, hn⟩ := loop y0.toSl y1.toStr hl.1.len 0 (Nat.zero_le _)
  exact ⟨n, (run_eq n y0 y1).trans hn⟩
theorem ok (ls r : List L) (hl : LOKs Ev.cells pats ls) (h : sem ls = some r) : ∃ n, runF E live Try.f35 res n (initS pats ls) = some r := by
  unfold sem at h
  split at h
  · first | (exact ok1 _ _ hl r h) | (rw [← h]; exact ok1 _ _ hl)
  · cases h
noncomputable def con : Con := ⟨pats, res, sem⟩
theorem chk : fnB Try.f35 con 20 = true := by kernel_rfl
theorem valid_ : Valid Try.prog Ev 35 con := valid mix tab_ok .nil Try.func35 chk live ok
end spec_l29Find
/-! loop.example/g00588/spec.FindPet -/
namespace spec_FindPet
noncomputable def F (x0 : List (List L)) (x1 : ByteArray) : Ans := ((spec_l29Find.sem [L.sl (x0), L.str (x1)]).bind fun r1 => (bif (decide ((r1.headD .hole).toInt < 0)) then some [L.int (-1), L.bool false] else (bif (decide (0 ≤ (r1.headD .hole).toInt)) then (bif (decide ((r1.headD .hole).toInt < (x0.length : Int))) then some [L.int (((List.drop 1 (List.getD x0 (Int.toNat (r1.headD .hole).toInt) [])).headD .hole).toInt), L.bool true] else none) else none)))
def live : Nat → Live := fun _ => []
def pats : List Pat := [.rd (.sl 63), .rd (.str)]
def res : RP := .tup [(false, [.rd (.int .i64)]), (false, [.rd (.bool)])]
noncomputable def G : List (Nat × Con) := [(35, spec_l29Find.con)]
noncomputable abbrev E : Env := ⟨assoc Tab, conG G, 17⟩
set_option maxRecDepth 100000
theorem run_eq (n : Nat) (y0 y1 : L) : runF E live Try.f16 res n (initS pats [y0, y1]) = F y0.toSl y1.toStr := by kernel_rfl
noncomputable def sem : List L → Option (List L)
  | [y0, y1] => F y0.toSl y1.toStr
  | _ => none
theorem ok (ls r : List L) (_ : LOKs Ev.cells pats ls) (h : sem ls = some r) : ∃ n, runF E live Try.f16 res n (initS pats ls) = some r := by
  unfold sem at h
  split at h
  · exact ⟨0, (run_eq 0 _ _).trans h⟩
  · cases h
noncomputable def con : Con := ⟨pats, res, sem⟩
theorem chk : fnB Try.f16 con 17 = true := by kernel_rfl
theorem valid_ : Valid Try.prog Ev 16 con := valid mix tab_ok (.cons spec_l29Find.valid_ .nil) Try.func16 chk live ok
end spec_FindPet
/-! loop.example/g00588/impl.FindPet -/
namespace impl_FindPet
noncomputable def F (x0 : List (List L)) (x1 : ByteArray) : Ans := ((impl_petAt.sem [L.sl (x0), L.str (x1)]).bind fun r1 => (bif (decide ((r1.headD .hole).toInt < 0)) then some [L.int (-1), L.bool false] else (bif (decide (0 ≤ (r1.headD .hole).toInt)) then (bif (decide ((r1.headD .hole).toInt < (x0.length : Int))) then some [L.int (((List.drop 1 (List.getD x0 (Int.toNat (r1.headD .hole).toInt) [])).headD .hole).toInt), L.bool true] else none) else none)))
def live : Nat → Live := fun _ => []
def pats : List Pat := [.rd (.sl 63), .rd (.str)]
def res : RP := .tup [(false, [.rd (.int .i64)]), (false, [.rd (.bool)])]
noncomputable def G : List (Nat × Con) := [(36, impl_petAt.con)]
noncomputable abbrev E : Env := ⟨assoc Tab, conG G, 17⟩
set_option maxRecDepth 100000
theorem run_eq (n : Nat) (y0 y1 : L) : runF E live Try.f17 res n (initS pats [y0, y1]) = F y0.toSl y1.toStr := by kernel_rfl
noncomputable def sem : List L → Option (List L)
  | [y0, y1] => F y0.toSl y1.toStr
  | _ => none
theorem ok (ls r : List L) (_ : LOKs Ev.cells pats ls) (h : sem ls = some r) : ∃ n, runF E live Try.f17 res n (initS pats ls) = some r := by
  unfold sem at h
  split at h
  · exact ⟨0, (run_eq 0 _ _).trans h⟩
  · cases h
noncomputable def con : Con := ⟨pats, res, sem⟩
theorem chk : fnB Try.f17 con 17 = true := by kernel_rfl
theorem valid_ : Valid Try.prog Ev 17 con := valid mix tab_ok (.cons impl_petAt.valid_ .nil) Try.func17 chk live ok
end impl_FindPet
/-! loop.example/g00588/laws.FnExactFindPet -/
namespace laws_FnExactFindPet
noncomputable def F (x0 : List (List L)) (x1 : ByteArray) : Ans := (bif (decide ((x1.size : Int) > 1048576)) then some [L.bool true] else ((laws_szPetS.sem [L.sl (x0), L.int 1048576]).bind fun r1 => (bif (decide ((r1.headD .hole).toInt < 0)) then some [L.bool true] else ((laws_toPetS.sem [L.sl (x0)]).bind fun r2 => ((spec_FindPet.sem [L.sl ((r2.headD .hole).toSl), L.str (x1)]).bind fun r3 => ((laws_toPetS.sem [L.sl (x0)]).bind fun r4 => ((impl_FindPet.sem [L.sl ((r4.headD .hole).toSl), L.str (x1)]).bind fun r5 => (bif ((r5.headD .hole).toInt != (r3.headD .hole).toInt) then some [L.bool false] else (bif (!((r5.tail.headD .hole).toBool == (r3.tail.headD .hole).toBool)) then some [L.bool false] else ((laws_toPetS.sem [L.sl (x0)]).bind fun r6 => ((laws_eqPetS.sem [L.sl ((r4.headD .hole).toSl), L.sl ((r6.headD .hole).toSl)]).bind fun r7 => (bif (!(r7.headD .hole).toBool) then some [L.bool false] else some [L.bool true]))))))))))))
def live : Nat → Live := fun _ => []
def pats : List Pat := [.rd (.sl 62), .rd (.str)]
def res : RP := .one (.rd (.bool))
noncomputable def G : List (Nat × Con) := [(11, laws_szPetS.con), (13, laws_toPetS.con), (15, laws_eqPetS.con), (16, spec_FindPet.con), (17, impl_FindPet.con)]
noncomputable abbrev E : Env := ⟨assoc Tab, conG G, 47⟩
set_option maxRecDepth 100000
theorem run_eq (n : Nat) (y0 y1 : L) : runF E live Try.f5 res n (initS pats [y0, y1]) = F y0.toSl y1.toStr := by kernel_rfl
noncomputable def sem : List L → Option (List L)
  | [y0, y1] => F y0.toSl y1.toStr
  | _ => none
theorem ok (ls r : List L) (_ : LOKs Ev.cells pats ls) (h : sem ls = some r) : ∃ n, runF E live Try.f5 res n (initS pats ls) = some r := by
  unfold sem at h
  split at h
  · exact ⟨0, (run_eq 0 _ _).trans h⟩
  · cases h
noncomputable def con : Con := ⟨pats, res, sem⟩
theorem chk : fnB Try.f5 con 47 = true := by kernel_rfl
theorem valid_ : Valid Try.prog Ev 5 con := valid mix tab_ok (.cons laws_szPetS.valid_ (.cons laws_toPetS.valid_ (.cons laws_eqPetS.valid_ (.cons spec_FindPet.valid_ (.cons impl_FindPet.valid_ .nil))))) Try.func5 chk live ok
theorem spec_total (x0 : List (List L)) (x1 : ByteArray) : ∃ a b, spec_FindPet.F x0 x1 = some [.int a, .bool b] := by
  have key : ∀ m : Int, (m < 0 ∨ (0 ≤ m ∧ m < (x0.length : Int))) → m = mIdx (fun r => (r.getD 0 .hole).toStr == x1) x0 0 → ∃ a b, spec_FindPet.F x0 x1 = some [.int a, .bool b] := by
    intro m hm he
    simp only [spec_FindPet.F, spec_l29Find.sem, toSl_sl, toStr_str, ← he, Option.bind_some, ↓Bool.cond_decide]
    simp only [hd_cons, toInt_int]
    rcases hm with h | ⟨h1, h2⟩
    · exact ⟨-1, false, by rw [if_pos h]⟩
    · exact ⟨_, true, by rw [if_neg (by omega), if_pos h1, if_pos h2]⟩
  exact key _ (by simpa using mIdx_lt (fun r => (r.getD 0 .hole).toStr == x1) x0 0) rfl
theorem law_true (x0 : List (List L)) (x1 : ByteArray) (hx : x0.length ≤ maxLen) : F x0 x1 = some [.bool true] := by
  simp only [F, laws_szPetS.sem, toSl_sl, toInt_int, Option.bind_some, hd_cons, ↓Bool.cond_decide]
  split
  · rfl
  by_cases hc : laws_szPetS.tot 1048576 x0 < 0
  · simp [hc]
  · have hlen := laws_szPetS.tot_small hx hc
    have h24 : (x0.length : Int) * 24 ≤ 140737488355328 := by omega
    have he : eqL laws_eqPetS.eq1 (x0.map laws_toPetS.to1) (x0.map laws_toPetS.to1) = true := eqL_refl fun r hr => by simp [laws_eqPetS.eq1]
    obtain ⟨a, b, hs⟩ := spec_total (x0.map laws_toPetS.to1) x1
    have hi : impl_FindPet.F (x0.map laws_toPetS.to1) x1 = some [.int a, .bool b] := hs
    simp [hc, laws_toPetS.sem, spec_FindPet.sem, impl_FindPet.sem, hs, hi, laws_eqPetS.sem, h24, he]
theorem holds (ls : List L) (h : WfAll Ev.cells ([24, 9].flatMap Ev.cells) ls) : sem ls = some [.bool true] := by
  have hk : [24, 9].flatMap Ev.cells = [K.sl 62, K.str] := by kernel_rfl
  rw [hk] at h
  match ls, h.1 with
  | [y0, y1], _ =>
    obtain ⟨l, e1, e2⟩ := h.2 0 (K.sl 62) rfl
    simp at e1
    subst e1
    cases e2
    exact law_true _ _ (by simpa using ‹_›)
end laws_FnExactFindPet
end Go.DM
