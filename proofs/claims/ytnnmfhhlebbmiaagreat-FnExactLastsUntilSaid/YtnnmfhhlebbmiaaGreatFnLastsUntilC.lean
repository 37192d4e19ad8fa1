/- What the functions compute that the law reaches, and that the law returns true. Conditions: none. -/
import Derived.Test.YtnnmfhhlebbmiaaGreatTy
import Derived.Test.YtnnmfhhlebbmiaaGreatFnLastsUntilB
import Derived.Test.YtnnmfhhlebbmiaaGreatProg
import Derived.Lib.AppendZerosOnto
import Derived.Lib.Bytealg
import Derived.Laws.Externs
import Derived.Lib.Walk
import Derived.Lib.Hide
import Derived.Lib.Strings
set_option linter.all false
namespace Go.DM
open Go.Proofs
/-! impl.KeyedHash -/
namespace impl_KeyedHash
noncomputable def F (x0 : Int) (x1 : List (List L)) : Ans := (call (slices_Concat_Sint_int.R [[L.sl [[L.int x0]]], [L.sl x1], [L.sl [[L.int x0]]]]) fun v1 => (call (impl_Hash.R v1) fun v2 => ret (v2 : Int)))
def live : Nat → Live := fun _ => []
def pats : List Pat := [.rd (.int .i64), .rd (.sl 3)]
def res : RP := .one (.rd (.int .i64))
noncomputable def G : List (Nat × Con) := [(192, slices_Concat_Sint_int.con), (201, impl_Hash.con)]
noncomputable abbrev E : Env := ⟨assoc Tab, conG G, 13⟩
set_option maxRecDepth 100000
theorem run_eq (n : Nat) (ls : List L) : runF E live Tryz.f277 res n (initS pats ls) = F (ls.headD .hole).toInt ((dropT 1 ls).headD .hole).toSl := by kernel_rfl
noncomputable def md (a0 : Int) (a1 : List Int) : Int := ((impl_Hash.md (slices_Concat_Sint_int.md [[a0], a1, [a0]])) : Int)
def gd (a0 : Int) (a1 : List Int) : Prop := (SmL (2 ^ 40) (fun y : Int => True) a1)
def rf (a : Int × List Int) : Int × List (List L) := (a.1, (a.2.map iRow))
theorem rf_inj (a b : Int × List Int) (h : rf a = rf b) : a = b := by
  exact (Prod.ext (congrArg (fun x => x.1) h) (map_inj iRow_inj (congrArg (fun x => x.2) h)))
noncomputable def R (x0 : Int) (x1 : List (List L)) : Option (Int) := ofM rf (fun a => gd a.1 a.2) (fun a => (md a.1 a.2)) (x0, x1)
theorem R_eq {a0 : Int} {a1 : List Int} (h : gd a0 a1) : R a0 (a1.map iRow) = some (md a0 a1) := ofM_eq (r := rf) (a := (a0, a1)) rf_inj h
theorem okF (a0 : Int) (a1 : List Int) (hg : gd a0 a1) : F a0 (a1.map iRow) = ret ((md a0 a1) : Int) := by
  unfold gd at hg
  have H1 := hg
  unfold F md
  try simp only [bytesL_map, List.length_map, toNat_nat, iAt_getD, bAt_getD, sAt_getD, lAt_getD]
  refine call_to ((slices_Concat_Sint_int.md [[a0], a1, [a0]]).map iRow) ?_ ?_
  · have R_ := slices_Concat_Sint_int.R_eq (a0 := [[a0], a1, [a0]]) ⟨(by simp), (by
        have := (H1).1
        intro x_ hx_
        simp only [List.mem_cons, List.not_mem_nil, or_false] at hx_
        rcases hx_ with hx_ | hx_ | hx_
        all_goals (subst hx_; first | omega | (simp only [List.sum_cons, List.sum_nil, List.map_cons, List.map_nil, bytesI_length, bytesL_length, List.length_append, List.length_cons, List.length_nil, List.length_map, List.length_set, List.length_replicate, List.length_take, List.length_drop]; omega)))⟩
    first | exact R_ | (simp only [List.map_append, List.map_cons, List.map_nil, List.cons_append, List.nil_append, iRow, sRow, bRow, lRow, List.map_set, bytesL_map, List.length_map, toNat_nat, iAt_getD, bAt_getD, sAt_getD, lAt_getD] at R_ ⊢; first | exact R_ | (rw [← R_]; rfl))
  try simp only [bytesL_map, List.length_map, toNat_nat, iAt_getD, bAt_getD, sAt_getD, lAt_getD]
  refine call_to (impl_Hash.md (slices_Concat_Sint_int.md [[a0], a1, [a0]])) ?_ ?_
  · have R_ := impl_Hash.R_eq (a0 := (slices_Concat_Sint_int.md [[a0], a1, [a0]])) ⟨(by
        have := slices_Concat_Sint_int.len [[a0], a1, [a0]]
        try simp only [List.sum_cons, List.sum_nil, List.map_cons, List.map_nil, bytesI_length, bytesL_length, List.length_append, List.length_cons, List.length_nil, List.length_map, List.length_set, List.length_replicate, List.length_take, List.length_drop] at this
        have := (H1).1
        try simp (disch := omega) only [List.sum_cons, List.sum_nil, List.map_cons, List.map_nil, bytesI_length, bytesL_length, List.length_append, List.length_cons, List.length_nil, List.length_map, List.length_set, List.length_replicate, List.length_take, List.length_drop, Go.IntWalk.i64_in]
        first | omega | (simp; done) | (simp; omega)), fun _ _ => trivial⟩
    first | exact R_ | (simp only [List.map_append, List.map_cons, List.map_nil, List.cons_append, List.nil_append, iRow, sRow, bRow, lRow, List.map_set, bytesL_map, List.length_map, toNat_nat, iAt_getD, bAt_getD, sAt_getD, lAt_getD] at R_ ⊢; first | exact R_ | (rw [← R_]; rfl))
  try simp only [bytesL_map, List.length_map, toNat_nat, iAt_getD, bAt_getD, sAt_getD, lAt_getD]
  all_goals first | rfl | (simp only [bytesL_map, List.length_map, toNat_nat, iAt_getD, bAt_getD, sAt_getD, lAt_getD]; done) | (simp only [List.map_append, List.map_cons, List.map_nil, List.cons_append, List.nil_append, iRow, sRow, bRow, lRow, List.map_set]; rfl) | (simp only [bytesL_map, List.length_map, toNat_nat, iAt_getD, bAt_getD, sAt_getD, lAt_getD, List.map_append, List.map_cons, List.map_nil, List.cons_append, List.nil_append, iRow, sRow, bRow, lRow, List.map_set]; first | done | rfl)
noncomputable def sem (ls : List L) : Option (List L) := (R (ls.headD .hole).toInt ((dropT 1 ls).headD .hole).toSl).map RT.enc
theorem ok (ls q : List L) (hl : LOKs Ev.cells pats ls) (h : sem ls = some q) : ∃ n, runF E live Tryz.f277 res n (initS pats ls) = some q := by
  obtain ⟨v, hv, hq⟩ := map_some h
  obtain ⟨⟨a0, a1⟩, hg, e, hm⟩ := ofM_some hv
  simp only [rf, Prod.mk.injEq] at e
  obtain ⟨e0, e1⟩ := e
  have hn := okF a0 a1 hg
  refine ⟨0, (run_eq 0 ls).trans ?_⟩
  rw [← e0, ← e1]
  rw [hn, ← hq, hm]; rfl
noncomputable def con : Con := ⟨pats, res, sem⟩
theorem chk : fnB Tryz.f277 con 13 = true := by kernel_rfl
theorem valid_ : Valid Tryz.prog Ev 277 con := valid mix tab_ok (.cons slices_Concat_Sint_int.valid_ (.cons impl_Hash.valid_ .nil)) Tryz.func277 chk live ok
theorem br (a0 : Int) (a1 : List Int) : md a0 a1 = spec_KeyedHash.md a0 a1 := by
  unfold md spec_KeyedHash.md
  first
  | (simp only [impl_Hash.br]; done)
  | (simp only [impl_Hash.br]; rfl)
  | rfl
end impl_KeyedHash
/-! impl.TagOf -/
namespace impl_TagOf
noncomputable def F (x0 : Int) (x1 : List (List L)) : Ans := (bif (lim (((1 : Int) + (x1.length : Int)) * 8)) then (call (impl_KeyedHash.R x0 ([[L.int 223]] ++ x1)) fun v1 => ret (v1 : Int)) else none)
def live : Nat → Live := fun _ => []
def pats : List Pat := [.rd (.int .i64), .rd (.sl 3)]
def res : RP := .one (.rd (.int .i64))
noncomputable def G : List (Nat × Con) := [(277, impl_KeyedHash.con)]
noncomputable abbrev E : Env := ⟨assoc Tab, conG G, 10⟩
set_option maxRecDepth 100000
theorem run_eq (n : Nat) (ls : List L) : runF E live Tryz.f272 res n (initS pats ls) = F (ls.headD .hole).toInt ((dropT 1 ls).headD .hole).toSl := by kernel_rfl
noncomputable def md (a0 : Int) (a1 : List Int) : Int := ((impl_KeyedHash.md a0 ([223] ++ a1)) : Int)
def gd (a0 : Int) (a1 : List Int) : Prop := (SmL (2 ^ 39) (fun y : Int => True) a1)
def rf (a : Int × List Int) : Int × List (List L) := (a.1, (a.2.map iRow))
theorem rf_inj (a b : Int × List Int) (h : rf a = rf b) : a = b := by
  exact (Prod.ext (congrArg (fun x => x.1) h) (map_inj iRow_inj (congrArg (fun x => x.2) h)))
noncomputable def R (x0 : Int) (x1 : List (List L)) : Option (Int) := ofM rf (fun a => gd a.1 a.2) (fun a => (md a.1 a.2)) (x0, x1)
theorem R_eq {a0 : Int} {a1 : List Int} (h : gd a0 a1) : R a0 (a1.map iRow) = some (md a0 a1) := ofM_eq (r := rf) (a := (a0, a1)) rf_inj h
theorem okF (a0 : Int) (a1 : List Int) (hg : gd a0 a1) : F a0 (a1.map iRow) = ret ((md a0 a1) : Int) := by
  unfold gd at hg
  have H1 := hg
  unfold F md
  try simp only [bytesL_map, List.length_map, toNat_nat, iAt_getD, bAt_getD, sAt_getD, lAt_getD]
  refine yes_ret (by
      have := (H1).1
      refine lim_t ?_
      try simp (disch := omega) only [List.sum_cons, List.sum_nil, List.map_cons, List.map_nil, bytesI_length, bytesL_length, List.length_append, List.length_cons, List.length_nil, List.length_map, List.length_set, List.length_replicate, List.length_take, List.length_drop, Go.IntWalk.i64_in]
      first | omega | (simp; done) | (simp; omega)) ?_
  refine call_to (impl_KeyedHash.md a0 ([223] ++ a1)) ?_ ?_
  · have R_ := impl_KeyedHash.R_eq (a0 := a0) (a1 := ([223] ++ a1)) ⟨(by
        have := (H1).1
        try simp (disch := omega) only [List.sum_cons, List.sum_nil, List.map_cons, List.map_nil, bytesI_length, bytesL_length, List.length_append, List.length_cons, List.length_nil, List.length_map, List.length_set, List.length_replicate, List.length_take, List.length_drop, Go.IntWalk.i64_in]
        first | omega | (simp; done) | (simp; omega)), fun _ _ => trivial⟩
    first | exact R_ | (simp only [List.map_append, List.map_cons, List.map_nil, List.cons_append, List.nil_append, iRow, sRow, bRow, lRow, List.map_set, bytesL_map, List.length_map, toNat_nat, iAt_getD, bAt_getD, sAt_getD, lAt_getD] at R_ ⊢; first | exact R_ | (rw [← R_]; rfl))
  try simp only [bytesL_map, List.length_map, toNat_nat, iAt_getD, bAt_getD, sAt_getD, lAt_getD]
  all_goals first | rfl | (simp only [bytesL_map, List.length_map, toNat_nat, iAt_getD, bAt_getD, sAt_getD, lAt_getD]; done) | (simp only [List.map_append, List.map_cons, List.map_nil, List.cons_append, List.nil_append, iRow, sRow, bRow, lRow, List.map_set]; rfl) | (simp only [bytesL_map, List.length_map, toNat_nat, iAt_getD, bAt_getD, sAt_getD, lAt_getD, List.map_append, List.map_cons, List.map_nil, List.cons_append, List.nil_append, iRow, sRow, bRow, lRow, List.map_set]; first | done | rfl)
noncomputable def sem (ls : List L) : Option (List L) := (R (ls.headD .hole).toInt ((dropT 1 ls).headD .hole).toSl).map RT.enc
theorem ok (ls q : List L) (hl : LOKs Ev.cells pats ls) (h : sem ls = some q) : ∃ n, runF E live Tryz.f272 res n (initS pats ls) = some q := by
  obtain ⟨v, hv, hq⟩ := map_some h
  obtain ⟨⟨a0, a1⟩, hg, e, hm⟩ := ofM_some hv
  simp only [rf, Prod.mk.injEq] at e
  obtain ⟨e0, e1⟩ := e
  have hn := okF a0 a1 hg
  refine ⟨0, (run_eq 0 ls).trans ?_⟩
  rw [← e0, ← e1]
  rw [hn, ← hq, hm]; rfl
noncomputable def con : Con := ⟨pats, res, sem⟩
theorem chk : fnB Tryz.f272 con 10 = true := by kernel_rfl
theorem valid_ : Valid Tryz.prog Ev 272 con := valid mix tab_ok (.cons impl_KeyedHash.valid_ .nil) Tryz.func272 chk live ok
theorem br (a0 : Int) (a1 : List Int) : md a0 a1 = spec_TagOf.md a0 a1 := by
  unfold md spec_TagOf.md
  first
  | (simp only [impl_KeyedHash.br]; done)
  | (simp only [impl_KeyedHash.br]; rfl)
  | rfl
end impl_TagOf
/-! impl.IsSigBy -/
namespace impl_IsSigBy
noncomputable def F (x0 : MSig) (x1 : List (List L)) : Ans := (call (impl_isKey.R x0.fKey) fun v1 => (bif v1 then (call (impl_TagOf.R x0.fKey x1) fun v2 => ret ((x0.fTag == v2) : Bool)) else ret (false : Bool)))
def live : Nat → Live := fun _ => []
def pats : List Pat := [.agg [.int .i64, .int .i64], .rd (.sl 3)]
def res : RP := .one (.rd (.bool))
noncomputable def G : List (Nat × Con) := [(241, impl_isKey.con), (272, impl_TagOf.con)]
noncomputable abbrev E : Env := ⟨assoc Tab, conG G, 17⟩
set_option maxRecDepth 100000
theorem run_eq (n : Nat) (ls : List L) : runF E live Tryz.f262 res n (initS pats ls) = F (MSig.dec ls) ((dropT 2 ls).headD .hole).toSl := by kernel_rfl
noncomputable def md (a0 : MSig) (a1 : List Int) : Bool := (bif (impl_isKey.md a0.fKey) then ((a0.fTag == (impl_TagOf.md a0.fKey a1)) : Bool) else (false : Bool))
def gd (a0 : MSig) (a1 : List Int) : Prop := (SmL (2 ^ 38) (fun y : Int => True) a1)
def rf (a : MSig × List Int) : MSig × List (List L) := (a.1, (a.2.map iRow))
theorem rf_inj (a b : MSig × List Int) (h : rf a = rf b) : a = b := by
  exact (Prod.ext (congrArg (fun x => x.1) h) (map_inj iRow_inj (congrArg (fun x => x.2) h)))
noncomputable def R (x0 : MSig) (x1 : List (List L)) : Option (Bool) := ofM rf (fun a => gd a.1 a.2) (fun a => (md a.1 a.2)) (x0, x1)
theorem R_eq {a0 : MSig} {a1 : List Int} (h : gd a0 a1) : R a0 (a1.map iRow) = some (md a0 a1) := ofM_eq (r := rf) (a := (a0, a1)) rf_inj h
theorem okF (a0 : MSig) (a1 : List Int) (hg : gd a0 a1) : F a0 (a1.map iRow) = ret ((md a0 a1) : Bool) := by
  unfold gd at hg
  have H1 := hg
  unfold F md
  try simp only [bytesL_map, List.length_map, toNat_nat, iAt_getD, bAt_getD, sAt_getD, lAt_getD]
  refine call_to (impl_isKey.md a0.fKey) ?_ ?_
  · have R_ := impl_isKey.R_eq (a0 := a0.fKey) trivial
    first | exact R_ | (simp only [List.map_append, List.map_cons, List.map_nil, List.cons_append, List.nil_append, iRow, sRow, bRow, lRow, List.map_set, bytesL_map, List.length_map, toNat_nat, iAt_getD, bAt_getD, sAt_getD, lAt_getD] at R_ ⊢; first | exact R_ | (rw [← R_]; rfl))
  try simp only [bytesL_map, List.length_map, toNat_nat, iAt_getD, bAt_getD, sAt_getD, lAt_getD]
  refine bif_out (fun b : Bool => ret (b : Bool)) (fun c1 => ?_) (fun c1 => ?_)
  · refine call_to (impl_TagOf.md a0.fKey a1) ?_ ?_
    · have R_ := impl_TagOf.R_eq (a0 := a0.fKey) (a1 := a1) (H1.mono (by decide) (fun x hx => trivial))
      first | exact R_ | (simp only [List.map_append, List.map_cons, List.map_nil, List.cons_append, List.nil_append, iRow, sRow, bRow, lRow, List.map_set, bytesL_map, List.length_map, toNat_nat, iAt_getD, bAt_getD, sAt_getD, lAt_getD] at R_ ⊢; first | exact R_ | (rw [← R_]; rfl))
    try simp only [bytesL_map, List.length_map, toNat_nat, iAt_getD, bAt_getD, sAt_getD, lAt_getD]
    all_goals first | rfl | (simp only [bytesL_map, List.length_map, toNat_nat, iAt_getD, bAt_getD, sAt_getD, lAt_getD]; done) | (simp only [List.map_append, List.map_cons, List.map_nil, List.cons_append, List.nil_append, iRow, sRow, bRow, lRow, List.map_set]; rfl) | (simp only [bytesL_map, List.length_map, toNat_nat, iAt_getD, bAt_getD, sAt_getD, lAt_getD, List.map_append, List.map_cons, List.map_nil, List.cons_append, List.nil_append, iRow, sRow, bRow, lRow, List.map_set]; first | done | rfl)
  · all_goals first | rfl | (simp only [bytesL_map, List.length_map, toNat_nat, iAt_getD, bAt_getD, sAt_getD, lAt_getD]; done) | (simp only [List.map_append, List.map_cons, List.map_nil, List.cons_append, List.nil_append, iRow, sRow, bRow, lRow, List.map_set]; rfl) | (simp only [bytesL_map, List.length_map, toNat_nat, iAt_getD, bAt_getD, sAt_getD, lAt_getD, List.map_append, List.map_cons, List.map_nil, List.cons_append, List.nil_append, iRow, sRow, bRow, lRow, List.map_set]; first | done | rfl)
noncomputable def sem (ls : List L) : Option (List L) := (R (MSig.dec ls) ((dropT 2 ls).headD .hole).toSl).map RT.enc
theorem ok (ls q : List L) (hl : LOKs Ev.cells pats ls) (h : sem ls = some q) : ∃ n, runF E live Tryz.f262 res n (initS pats ls) = some q := by
  obtain ⟨v, hv, hq⟩ := map_some h
  obtain ⟨⟨a0, a1⟩, hg, e, hm⟩ := ofM_some hv
  simp only [rf, Prod.mk.injEq] at e
  obtain ⟨e0, e1⟩ := e
  have hn := okF a0 a1 hg
  refine ⟨0, (run_eq 0 ls).trans ?_⟩
  rw [← e0, ← e1]
  rw [hn, ← hq, hm]; rfl
noncomputable def con : Con := ⟨pats, res, sem⟩
theorem chk : fnB Tryz.f262 con 17 = true := by kernel_rfl
theorem valid_ : Valid Tryz.prog Ev 262 con := valid mix tab_ok (.cons impl_isKey.valid_ (.cons impl_TagOf.valid_ .nil)) Tryz.func262 chk live ok
theorem br (a0 : MSig) (a1 : List Int) : md a0 a1 = spec_IsSigBy.md a0 a1 := by
  unfold md spec_IsSigBy.md
  first
  | (simp only [impl_TagOf.br]; done)
  | (simp only [impl_TagOf.br]; rfl)
  | rfl
end impl_IsSigBy
/-! impl.CountSigs$1 -/
namespace impl_CountSigs_1
noncomputable def F (x0 : MSig) (x1 : List L) (x2 : List L) : Ans := (bif (x0.fKey == (iDec x1)) then (call (impl_IsSigBy.R x0 (lDec x2)) fun v1 => ret (v1 : Bool)) else ret (false : Bool))
def live : Nat → Live := fun _ => []
def pats : List Pat := [.agg [.int .i64, .int .i64], .ptr [.int .i64], .ptr [.sl 3]]
def res : RP := .one (.rd (.bool))
noncomputable def G : List (Nat × Con) := [(262, impl_IsSigBy.con)]
noncomputable abbrev E : Env := ⟨assoc Tab, conG G, 14⟩
set_option maxRecDepth 100000
theorem run_eq (n : Nat) (ls : List L) : runF E live Tryz.f261 res n (initS pats ls) = F (MSig.dec ls) (padL 1 (dropT 2 ls)) (padL 1 (dropT 3 ls)) := by kernel_rfl
noncomputable def md (a0 : MSig) (a1 : Int) (a2 : List Int) : Bool := (bif (a0.fKey == a1) then ((impl_IsSigBy.md a0 a2) : Bool) else (false : Bool))
def gd (a0 : MSig) (a1 : Int) (a2 : List Int) : Prop := (SmL (2 ^ 38) (fun y : Int => True) a2)
def rf (a : MSig × Int × List Int) : MSig × Int × List (List L) := (a.1, a.2.1, (a.2.2.map iRow))
theorem rf_inj (a b : MSig × Int × List Int) (h : rf a = rf b) : a = b := by
  exact (Prod.ext (congrArg (fun x => x.1) h) (Prod.ext (congrArg (fun x => x.2.1) h) (map_inj iRow_inj (congrArg (fun x => x.2.2) h))))
noncomputable def R (x0 : MSig) (x1 : Int) (x2 : List (List L)) : Option (Bool) := ofM rf (fun a => gd a.1 a.2.1 a.2.2) (fun a => (md a.1 a.2.1 a.2.2)) (x0, x1, x2)
theorem R_eq {a0 : MSig} {a1 : Int} {a2 : List Int} (h : gd a0 a1 a2) : R a0 a1 (a2.map iRow) = some (md a0 a1 a2) := ofM_eq (r := rf) (a := (a0, a1, a2)) rf_inj h
theorem okF (a0 : MSig) (a1 : Int) (a2 : List Int) (p1 : List L) (p2 : List L) (e1 : a1 = (iDec p1)) (e2 : (a2.map iRow) = (lDec p2)) (hg : gd a0 a1 a2) : F a0 p1 p2 = ret ((md a0 a1 a2) : Bool) := by
  unfold gd at hg
  have H2 := hg
  unfold F md
  try simp only [bytesL_map, List.length_map, toNat_nat, iAt_getD, bAt_getD, sAt_getD, lAt_getD, ← e1, ← e2]
  refine bif_out (fun b : Bool => ret (b : Bool)) (fun c1 => ?_) (fun c1 => ?_)
  · have dc1 := c1
    try simp only [bne_eq_false_iff_eq, bne_iff_ne, beq_iff_eq, beq_eq_false_iff_ne, ne_eq, Bool.not_eq_true', Bool.not_eq_false'] at dc1
    refine call_to (impl_IsSigBy.md a0 a2) ?_ ?_
    · have R_ := impl_IsSigBy.R_eq (a0 := a0) (a1 := a2) H2
      first | exact R_ | (simp only [List.map_append, List.map_cons, List.map_nil, List.cons_append, List.nil_append, iRow, sRow, bRow, lRow, List.map_set, bytesL_map, List.length_map, toNat_nat, iAt_getD, bAt_getD, sAt_getD, lAt_getD] at R_ ⊢; first | exact R_ | (rw [← R_]; rfl))
    try simp only [bytesL_map, List.length_map, toNat_nat, iAt_getD, bAt_getD, sAt_getD, lAt_getD, ← e1, ← e2]
    all_goals first | rfl | (simp only [bytesL_map, List.length_map, toNat_nat, iAt_getD, bAt_getD, sAt_getD, lAt_getD, ← e1, ← e2]; done) | (simp only [List.map_append, List.map_cons, List.map_nil, List.cons_append, List.nil_append, iRow, sRow, bRow, lRow, List.map_set]; rfl) | (simp only [bytesL_map, List.length_map, toNat_nat, iAt_getD, bAt_getD, sAt_getD, lAt_getD, ← e1, ← e2, List.map_append, List.map_cons, List.map_nil, List.cons_append, List.nil_append, iRow, sRow, bRow, lRow, List.map_set]; first | done | rfl)
  · have dc1 := c1
    try simp only [bne_eq_false_iff_eq, bne_iff_ne, beq_iff_eq, beq_eq_false_iff_ne, ne_eq, Bool.not_eq_true', Bool.not_eq_false'] at dc1
    all_goals first | rfl | (simp only [bytesL_map, List.length_map, toNat_nat, iAt_getD, bAt_getD, sAt_getD, lAt_getD, ← e1, ← e2]; done) | (simp only [List.map_append, List.map_cons, List.map_nil, List.cons_append, List.nil_append, iRow, sRow, bRow, lRow, List.map_set]; rfl) | (simp only [bytesL_map, List.length_map, toNat_nat, iAt_getD, bAt_getD, sAt_getD, lAt_getD, ← e1, ← e2, List.map_append, List.map_cons, List.map_nil, List.cons_append, List.nil_append, iRow, sRow, bRow, lRow, List.map_set]; first | done | rfl)
noncomputable def sem (ls : List L) : Option (List L) := (R (MSig.dec ls) (iDec (padL 1 (dropT 2 ls))) (lDec (padL 1 (dropT 3 ls)))).map RT.enc
theorem ok (ls q : List L) (hl : LOKs Ev.cells pats ls) (h : sem ls = some q) : ∃ n, runF E live Tryz.f261 res n (initS pats ls) = some q := by
  obtain ⟨v, hv, hq⟩ := map_some h
  obtain ⟨⟨a0, a1, a2⟩, hg, e, hm⟩ := ofM_some hv
  simp only [rf, Prod.mk.injEq] at e
  obtain ⟨e0, e1, e2⟩ := e
  have hn := okF a0 a1 a2 (padL 1 (dropT 2 ls)) (padL 1 (dropT 3 ls)) e1 e2 hg
  refine ⟨0, (run_eq 0 ls).trans ?_⟩
  rw [← e0]
  rw [hn, ← hq, hm]; rfl
noncomputable def con : Con := ⟨pats, res, sem⟩
theorem chk : fnB Tryz.f261 con 14 = true := by kernel_rfl
theorem valid_ : Valid Tryz.prog Ev 261 con := valid mix tab_ok (.cons impl_IsSigBy.valid_ .nil) Tryz.func261 chk live ok
end impl_CountSigs_1
/-! slices.IndexFunc[[]impl.Sig,impl.Sig] -/
namespace slices_IndexFunc_Simpl_Sig_impl_Sig__impl_CountSigs_1
inductive Pt where
  | p0 (a : List (List L)) (b : List L) (c : List L) (d : Int) (e : Int)
def pid : Pt → Nat
  | .p0 .. => 2
def pvs : Pt → List V
  | .p0 a b c d e => [.sl none 179 a, .fn 261 [.cptr none [.int .i64] b 0, .cptr none [.sl 3] c 0], .int .i64 d, .int .i64 e]
def phs : Pt → List Root
  | .p0 a b c d e => []
noncomputable def step (J : Pt → Ans) : Pt → Ans
  | .p0 a b c d e => (bif (decide (e < d)) then (bif (decide ((0 : Int) ≤ e)) then (bif (decide (e < (a.length : Int))) then (call (impl_CountSigs_1.R (MSig.at a (Int.toNat e)) (iDec b) (lDec c)) fun v1 => (bif v1 then ret (e : Int) else J (.p0 a b c d (IntKind.i64.wrap (e + 1))))) else none) else none) else ret ((-1) : Int))
noncomputable def start (J : Pt → Ans) (x0 : List (List L)) (x1 : List L) (x2 : List L) : Ans := J (.p0 x0 x1 x2 (x0.length : Int) 0)
def live : Nat → Live := fun i => match i with | 2 => [(0, none), (1, none), (7, none), (8, none)] | _ => []
def pats : List Pat := [.rd (.sl 179), .fn 261 [[.int .i64], [.sl 3]]]
def res : RP := .one (.rd (.int .i64))
noncomputable def G : List (Nat × Con) := [(261, impl_CountSigs_1.con)]
noncomputable abbrev E : Env := ⟨assoc Tab, conG G, 19⟩
set_option maxRecDepth 100000
theorem step_eq (I : Heads) (p : Pt) : enterC E live I (pid p) (bodyOf Tryz.f271) (stOf (live (pid p)) (pvs p) (phs p)) (doneK E Tryz.f271 res) = step (fun q => I (pid q) (pvs q) (phs q)) p := by
  cases p <;> kernel_rfl
theorem start_eq (I : Heads) (ls : List L) : runC E live I (bodyOf Tryz.f271) (initS pats ls) (doneK E Tryz.f271 res) = start (fun q => I (pid q) (pvs q) (phs q)) (ls.headD .hole).toSl (padL 1 (dropT 1 ls)) (padL 1 (dropT 2 ls)) := by kernel_rfl
theorem run_eq (n : Nat) (ls : List L) : runF E live Tryz.f271 res n (initS pats ls) = start (iter step n) (ls.headD .hole).toSl (padL 1 (dropT 1 ls)) (padL 1 (dropT 2 ls)) := runF_iter (id := pid) (vs := pvs) (hs := phs) (step := step) (start := fun J => start J (ls.headD .hole).toSl (padL 1 (dropT 1 ls)) (padL 1 (dropT 2 ls))) step_eq (fun I => start_eq I ls) n
noncomputable def md (a0 : List MSig) (a1 : Int) (a2 : List Int) : Int := (eachI (S := Unit) (β := Int) (fun (i1 : Nat) (y1 : MSig) (s3 : Unit) => (bif (impl_CountSigs_1.md y1 a1 a2) then (.inr ((i1 : Int) : Int)) else (.inl ()))) (fun (s3 : Unit) => ((-1) : Int)) 0 a0 ())
def gd (a0 : List MSig) (a1 : Int) (a2 : List Int) : Prop := (SmL (2 ^ 21) (fun y : MSig => MSig.Sm (2 ^ 21) y) a0) ∧ (SmL (2 ^ 38) (fun y : Int => True) a2)
def rf (a : List MSig × Int × List Int) : List (List L) × Int × List (List L) := ((a.1.map MSig.row), a.2.1, (a.2.2.map iRow))
theorem rf_inj (a b : List MSig × Int × List Int) (h : rf a = rf b) : a = b := by
  exact (Prod.ext (map_inj MSig.row_inj (congrArg (fun x => x.1) h)) (Prod.ext (congrArg (fun x => x.2.1) h) (map_inj iRow_inj (congrArg (fun x => x.2.2) h))))
noncomputable def R (x0 : List (List L)) (x1 : Int) (x2 : List (List L)) : Option (Int) := ofM rf (fun a => gd a.1 a.2.1 a.2.2) (fun a => (md a.1 a.2.1 a.2.2)) (x0, x1, x2)
theorem R_eq {a0 : List MSig} {a1 : Int} {a2 : List Int} (h : gd a0 a1 a2) : R (a0.map MSig.row) a1 (a2.map iRow) = some (md a0 a1 a2) := ofM_eq (r := rf) (a := (a0, a1, a2)) rf_inj h
theorem okF (a0 : List MSig) (a1 : Int) (a2 : List Int) (p1 : List L) (p2 : List L) (e1 : a1 = (iDec p1)) (e2 : (a2.map iRow) = (lDec p2)) (hg : gd a0 a1 a2) : ∃ n, start (iter step n) (a0.map MSig.row) p1 p2 = ret ((md a0 a1 a2) : Int) := by
  unfold gd at hg
  obtain ⟨H0, H2⟩ := hg
  unfold start md
  try simp only [bytesL_map, List.length_map, toNat_nat, iAt_getD, bAt_getD, sAt_getD, lAt_getD, MSig.at_getD, ← e1, ← e2]
  have Bh2 : a0.length ≤ maxLen := (by
      have := (H0).1
      try simp only [maxLen] at *
      omega)
  refine ex_eq (out := (fun b : Int => ret (b : Int))) (show (loopM (S := Unit) (β := Int) (fun (i1 : Nat) (s3 : Unit) => (bif (impl_CountSigs_1.md (a0.getD i1 MSig.zero) a1 a2) then (.inr ((i1 : Int) : Int)) else (.inl ()))) (fun (s3 : Unit) => ((-1) : Int)) a0.length 0 ()) = (eachI (S := Unit) (β := Int) (fun (i1 : Nat) (y1 : MSig) (s3 : Unit) => (bif (impl_CountSigs_1.md y1 a1 a2) then (.inr ((i1 : Int) : Int)) else (.inl ()))) (fun (s3 : Unit) => ((-1) : Int)) 0 a0 ()) from loopM_eachI (S := Unit) (β := Int) (f := fun (i1 : Nat) (y1 : MSig) (s3 : Unit) => (bif (impl_CountSigs_1.md y1 a1 a2) then (.inr ((i1 : Int) : Int)) else (.inl ()))) (t := fun (s3 : Unit) => ((-1) : Int)) (xs := a0) (z := MSig.zero)) ?_
  refine ex_pt (p := Pt.p0 (a0.map MSig.row) p1 p2 (a0.length : Int) 0) (by first | rfl | (simp only [bytesL_map, List.length_map, toNat_nat, iAt_getD, bAt_getD, sAt_getD, lAt_getD, MSig.at_getD, ← e1, ← e2, List.map_append, List.map_cons, List.map_nil, List.cons_append, List.nil_append, iRow, sRow, bRow, lRow, List.map_set]; done) | (simp only [List.map_append, List.map_cons, List.map_nil, List.cons_append, List.nil_append, iRow, sRow, bRow, lRow, List.map_set]; rfl)) ?_
  refine loopM_ok (pt := fun (i1 : Nat) (s3 : Unit) => Pt.p0 (a0.map MSig.row) p1 p2 (a0.length : Int) (i1 : Int)) (s := (() : Unit)) (out := (fun b : Int => ret (b : Int))) (fun _ _ => True) (fun J i1 s3 h2 hih2 => ?_) (fun s3 hih2 => ?_) trivial
  · simp only [step, bytesL_map, List.length_map, toNat_nat, iAt_getD, bAt_getD, sAt_getD, lAt_getD, MSig.at_getD, ← e1, ← e2]
    have bb_ := Bh2
    simp only [maxLen] at bb_
    have := (H0).1
    refine Rnd.yes (by apply decide_eq_true; omega) ?_
    refine Rnd.yes (by
        refine decide_eq_true ?_
        try simp (disch := omega) only [List.sum_cons, List.sum_nil, List.map_cons, List.map_nil, bytesI_length, bytesL_length, List.length_append, List.length_cons, List.length_nil, List.length_map, List.length_set, List.length_replicate, List.length_take, List.length_drop, Go.IntWalk.i64_in]
        first | omega | (simp; done) | (simp; omega)) ?_
    refine Rnd.yes (by
        have := (H0).1
        refine decide_eq_true ?_
        try simp (disch := omega) only [List.sum_cons, List.sum_nil, List.map_cons, List.map_nil, bytesI_length, bytesL_length, List.length_append, List.length_cons, List.length_nil, List.length_map, List.length_set, List.length_replicate, List.length_take, List.length_drop, Go.IntWalk.i64_in]
        first | omega | (simp; done) | (simp; omega)) ?_
    refine Rnd.call_to (impl_CountSigs_1.md (a0.getD i1 MSig.zero) a1 a2) ?_ ?_
    · have R_ := impl_CountSigs_1.R_eq (a0 := (a0.getD i1 MSig.zero)) (a1 := a1) (a2 := a2) H2
      first | exact R_ | (simp only [List.map_append, List.map_cons, List.map_nil, List.cons_append, List.nil_append, iRow, sRow, bRow, lRow, List.map_set, bytesL_map, List.length_map, toNat_nat, iAt_getD, bAt_getD, sAt_getD, lAt_getD, MSig.at_getD] at R_ ⊢; first | exact R_ | (rw [← R_]; rfl))
    try simp only [bytesL_map, List.length_map, toNat_nat, iAt_getD, bAt_getD, sAt_getD, lAt_getD, MSig.at_getD, ← e1, ← e2]
    refine Rnd.bif (fun c4 => ?_) (fun c4 => ?_)
    · refine Rnd.inr ?_
      all_goals first | rfl | (simp only [bytesL_map, List.length_map, toNat_nat, iAt_getD, bAt_getD, sAt_getD, lAt_getD, MSig.at_getD, ← e1, ← e2]; done) | (simp only [List.map_append, List.map_cons, List.map_nil, List.cons_append, List.nil_append, iRow, sRow, bRow, lRow, List.map_set]; rfl) | (simp only [bytesL_map, List.length_map, toNat_nat, iAt_getD, bAt_getD, sAt_getD, lAt_getD, MSig.at_getD, ← e1, ← e2, List.map_append, List.map_cons, List.map_nil, List.cons_append, List.nil_append, iRow, sRow, bRow, lRow, List.map_set]; first | done | rfl)
    · refine Rnd.inl trivial ?_
      rw [wrap_succ h2 Bh2]
      all_goals first | rfl | (simp only [bytesL_map, List.length_map, toNat_nat, iAt_getD, bAt_getD, sAt_getD, lAt_getD, MSig.at_getD, ← e1, ← e2]; done) | (simp only [List.map_append, List.map_cons, List.map_nil, List.cons_append, List.nil_append, iRow, sRow, bRow, lRow, List.map_set]; rfl) | (simp only [bytesL_map, List.length_map, toNat_nat, iAt_getD, bAt_getD, sAt_getD, lAt_getD, MSig.at_getD, ← e1, ← e2, List.map_append, List.map_cons, List.map_nil, List.cons_append, List.nil_append, iRow, sRow, bRow, lRow, List.map_set]; first | done | rfl)
  · simp only [step, bytesL_map, List.length_map, toNat_nat, iAt_getD, bAt_getD, sAt_getD, lAt_getD, MSig.at_getD, ← e1, ← e2]
    have := (H0).1
    refine ex_no (by apply decide_eq_false; omega) ?_
    refine ⟨0, ?_⟩
    all_goals first | rfl | (simp only [bytesL_map, List.length_map, toNat_nat, iAt_getD, bAt_getD, sAt_getD, lAt_getD, MSig.at_getD, ← e1, ← e2]; done) | (simp only [List.map_append, List.map_cons, List.map_nil, List.cons_append, List.nil_append, iRow, sRow, bRow, lRow, List.map_set]; rfl) | (simp only [bytesL_map, List.length_map, toNat_nat, iAt_getD, bAt_getD, sAt_getD, lAt_getD, MSig.at_getD, ← e1, ← e2, List.map_append, List.map_cons, List.map_nil, List.cons_append, List.nil_append, iRow, sRow, bRow, lRow, List.map_set]; first | done | rfl)
noncomputable def sem (ls : List L) : Option (List L) := (R (ls.headD .hole).toSl (iDec (padL 1 (dropT 1 ls))) (lDec (padL 1 (dropT 2 ls)))).map RT.enc
theorem ok (ls q : List L) (hl : LOKs Ev.cells pats ls) (h : sem ls = some q) : ∃ n, runF E live Tryz.f271 res n (initS pats ls) = some q := by
  obtain ⟨v, hv, hq⟩ := map_some h
  obtain ⟨⟨a0, a1, a2⟩, hg, e, hm⟩ := ofM_some hv
  simp only [rf, Prod.mk.injEq] at e
  obtain ⟨e0, e1, e2⟩ := e
  obtain ⟨n, hn⟩ := okF a0 a1 a2 (padL 1 (dropT 1 ls)) (padL 1 (dropT 2 ls)) e1 e2 hg
  refine ⟨n, (run_eq n ls).trans ?_⟩
  rw [← e0]
  rw [hn, ← hq, hm]; rfl
noncomputable def con : Con := ⟨pats, res, sem⟩
theorem chk : fnB Tryz.f271 con 19 = true := by kernel_rfl
theorem valid_ : Valid Tryz.prog Ev 271 con := valid mix tab_ok (.cons impl_CountSigs_1.valid_ .nil) Tryz.func271 chk live ok
theorem fa (a0 : List MSig) (a1 : Int) (a2 : List Int) : -1 ≤ md a0 a1 a2 ∧ md a0 a1 a2 < (a0.length : Int) := by
  unfold md
  refine eachI_fa0 ?_ _ _
  all_goals
    intro i x s b h
    revert h
    simp only [Bool.cond_eq_ite]
    repeat' split
    all_goals (intro h; first | (cases h; rfl) | cases h)
theorem idx_eq (a0 : List MSig) (a1 : Int) (a2 : List Int) : md a0 a1 a2 = findI (fun y => impl_CountSigs_1.md y a1 a2) 0 a0 := by
  unfold md
  exact eachI_find
end slices_IndexFunc_Simpl_Sig_impl_Sig__impl_CountSigs_1
/-! slices.ContainsFunc[[]impl.Sig,impl.Sig] -/
namespace slices_ContainsFunc_Simpl_Sig_impl_Sig__impl_CountSigs_1
noncomputable def F (x0 : List (List L)) (x1 : List L) (x2 : List L) : Ans := (call (slices_IndexFunc_Simpl_Sig_impl_Sig__impl_CountSigs_1.R x0 (iDec x1) (lDec x2)) fun v1 => ret ((decide (v1 ≥ 0)) : Bool))
def live : Nat → Live := fun _ => []
def pats : List Pat := [.rd (.sl 179), .fn 261 [[.int .i64], [.sl 3]]]
def res : RP := .one (.rd (.bool))
noncomputable def G : List (Nat × Con) := [(271, slices_IndexFunc_Simpl_Sig_impl_Sig__impl_CountSigs_1.con)]
noncomputable abbrev E : Env := ⟨assoc Tab, conG G, 9⟩
set_option maxRecDepth 100000
theorem run_eq (n : Nat) (ls : List L) : runF E live Tryz.f260 res n (initS pats ls) = F (ls.headD .hole).toSl (padL 1 (dropT 1 ls)) (padL 1 (dropT 2 ls)) := by kernel_rfl
noncomputable def md (a0 : List MSig) (a1 : Int) (a2 : List Int) : Bool := ((decide ((slices_IndexFunc_Simpl_Sig_impl_Sig__impl_CountSigs_1.md a0 a1 a2) ≥ 0)) : Bool)
def gd (a0 : List MSig) (a1 : Int) (a2 : List Int) : Prop := (SmL (2 ^ 21) (fun y : MSig => MSig.Sm (2 ^ 21) y) a0) ∧ (SmL (2 ^ 38) (fun y : Int => True) a2)
def rf (a : List MSig × Int × List Int) : List (List L) × Int × List (List L) := ((a.1.map MSig.row), a.2.1, (a.2.2.map iRow))
theorem rf_inj (a b : List MSig × Int × List Int) (h : rf a = rf b) : a = b := by
  exact (Prod.ext (map_inj MSig.row_inj (congrArg (fun x => x.1) h)) (Prod.ext (congrArg (fun x => x.2.1) h) (map_inj iRow_inj (congrArg (fun x => x.2.2) h))))
noncomputable def R (x0 : List (List L)) (x1 : Int) (x2 : List (List L)) : Option (Bool) := ofM rf (fun a => gd a.1 a.2.1 a.2.2) (fun a => (md a.1 a.2.1 a.2.2)) (x0, x1, x2)
theorem R_eq {a0 : List MSig} {a1 : Int} {a2 : List Int} (h : gd a0 a1 a2) : R (a0.map MSig.row) a1 (a2.map iRow) = some (md a0 a1 a2) := ofM_eq (r := rf) (a := (a0, a1, a2)) rf_inj h
theorem okF (a0 : List MSig) (a1 : Int) (a2 : List Int) (p1 : List L) (p2 : List L) (e1 : a1 = (iDec p1)) (e2 : (a2.map iRow) = (lDec p2)) (hg : gd a0 a1 a2) : F (a0.map MSig.row) p1 p2 = ret ((md a0 a1 a2) : Bool) := by
  unfold gd at hg
  obtain ⟨H0, H2⟩ := hg
  unfold F md
  try simp only [bytesL_map, List.length_map, toNat_nat, iAt_getD, bAt_getD, sAt_getD, lAt_getD, ← e1, ← e2]
  refine call_to (slices_IndexFunc_Simpl_Sig_impl_Sig__impl_CountSigs_1.md a0 a1 a2) ?_ ?_
  · have R_ := slices_IndexFunc_Simpl_Sig_impl_Sig__impl_CountSigs_1.R_eq (a0 := a0) (a1 := a1) (a2 := a2) ⟨H0, H2⟩
    first | exact R_ | (simp only [List.map_append, List.map_cons, List.map_nil, List.cons_append, List.nil_append, iRow, sRow, bRow, lRow, List.map_set, bytesL_map, List.length_map, toNat_nat, iAt_getD, bAt_getD, sAt_getD, lAt_getD] at R_ ⊢; first | exact R_ | (rw [← R_]; rfl))
  try simp only [bytesL_map, List.length_map, toNat_nat, iAt_getD, bAt_getD, sAt_getD, lAt_getD, ← e1, ← e2]
  all_goals have fv1_ := slices_IndexFunc_Simpl_Sig_impl_Sig__impl_CountSigs_1.fa a0 a1 a2
  all_goals first | rfl | (simp only [bytesL_map, List.length_map, toNat_nat, iAt_getD, bAt_getD, sAt_getD, lAt_getD, ← e1, ← e2]; done) | (simp only [List.map_append, List.map_cons, List.map_nil, List.cons_append, List.nil_append, iRow, sRow, bRow, lRow, List.map_set]; rfl) | (simp only [bytesL_map, List.length_map, toNat_nat, iAt_getD, bAt_getD, sAt_getD, lAt_getD, ← e1, ← e2, List.map_append, List.map_cons, List.map_nil, List.cons_append, List.nil_append, iRow, sRow, bRow, lRow, List.map_set]; first | done | rfl)
noncomputable def sem (ls : List L) : Option (List L) := (R (ls.headD .hole).toSl (iDec (padL 1 (dropT 1 ls))) (lDec (padL 1 (dropT 2 ls)))).map RT.enc
theorem ok (ls q : List L) (hl : LOKs Ev.cells pats ls) (h : sem ls = some q) : ∃ n, runF E live Tryz.f260 res n (initS pats ls) = some q := by
  obtain ⟨v, hv, hq⟩ := map_some h
  obtain ⟨⟨a0, a1, a2⟩, hg, e, hm⟩ := ofM_some hv
  simp only [rf, Prod.mk.injEq] at e
  obtain ⟨e0, e1, e2⟩ := e
  have hn := okF a0 a1 a2 (padL 1 (dropT 1 ls)) (padL 1 (dropT 2 ls)) e1 e2 hg
  refine ⟨0, (run_eq 0 ls).trans ?_⟩
  rw [← e0]
  rw [hn, ← hq, hm]; rfl
noncomputable def con : Con := ⟨pats, res, sem⟩
theorem chk : fnB Tryz.f260 con 9 = true := by kernel_rfl
theorem valid_ : Valid Tryz.prog Ev 260 con := valid mix tab_ok (.cons slices_IndexFunc_Simpl_Sig_impl_Sig__impl_CountSigs_1.valid_ .nil) Tryz.func260 chk live ok
theorem any_eq (a0 : List MSig) (a1 : Int) (a2 : List Int) : md a0 a1 a2 = a0.any (fun y => impl_CountSigs_1.md y a1 a2) := by
  unfold md
  rw [slices_IndexFunc_Simpl_Sig_impl_Sig__impl_CountSigs_1.idx_eq]
  exact findI_ge
end slices_ContainsFunc_Simpl_Sig_impl_Sig__impl_CountSigs_1
/-! impl.CountSigs -/
namespace impl_CountSigs
inductive Pt where
  | p0 (a : List (List L)) (b : Int) (c : List (List L)) (d : Int) (e : Int) (f : List (List L))
def pid : Pt → Nat
  | .p0 .. => 3
def pvs : Pt → List V
  | .p0 a b c d e f => [.sl none 179 a, .bptr 0 0, .int .i64 b, .sl none 3 c, .int .i64 d, .int .i64 e]
def phs : Pt → List Root
  | .p0 a b c d e f => [.box [.sl none 3 f]]
noncomputable def step (J : Pt → Ans) : Pt → Ans
  | .p0 a b c d e f => (bif (decide (e < d)) then (bif (decide ((0 : Int) ≤ e)) then (bif (decide (e < (c.length : Int))) then (call (slices_ContainsFunc_Simpl_Sig_impl_Sig__impl_CountSigs_1.R a (iAt c (Int.toNat e)) f) fun v1 => (bif v1 then J (.p0 a (IntKind.i64.wrap (b + 1)) c d (IntKind.i64.wrap (e + 1)) f) else J (.p0 a b c d (IntKind.i64.wrap (e + 1)) f))) else none) else none) else ret (b : Int))
noncomputable def start (J : Pt → Ans) (x0 : RKeys) (x1 : List (List L)) (x2 : List (List L)) : Ans := J (.p0 x2 0 x0.fList (x0.fList.length : Int) 0 x1)
def live : Nat → Live := fun i => match i with | 3 => [(2, none), (4, none), (7, none), (11, none), (12, none), (13, none)] | _ => []
def pats : List Pat := [.agg [.sl 3, .int .i64], .rd (.sl 3), .rd (.sl 179)]
def res : RP := .one (.rd (.int .i64))
noncomputable def G : List (Nat × Con) := [(260, slices_ContainsFunc_Simpl_Sig_impl_Sig__impl_CountSigs_1.con)]
noncomputable abbrev E : Env := ⟨assoc Tab, conG G, 24⟩
set_option maxRecDepth 100000
theorem step_eq (I : Heads) (p : Pt) : enterC E live I (pid p) (bodyOf Tryz.f243) (stOf (live (pid p)) (pvs p) (phs p)) (doneK E Tryz.f243 res) = step (fun q => I (pid q) (pvs q) (phs q)) p := by
  cases p <;> kernel_rfl
theorem start_eq (I : Heads) (ls : List L) : runC E live I (bodyOf Tryz.f243) (initS pats ls) (doneK E Tryz.f243 res) = start (fun q => I (pid q) (pvs q) (phs q)) (RKeys.dec ls) ((dropT 2 ls).headD .hole).toSl ((dropT 3 ls).headD .hole).toSl := by kernel_rfl
theorem run_eq (n : Nat) (ls : List L) : runF E live Tryz.f243 res n (initS pats ls) = start (iter step n) (RKeys.dec ls) ((dropT 2 ls).headD .hole).toSl ((dropT 3 ls).headD .hole).toSl := runF_iter (id := pid) (vs := pvs) (hs := phs) (step := step) (start := fun J => start J (RKeys.dec ls) ((dropT 2 ls).headD .hole).toSl ((dropT 3 ls).headD .hole).toSl) step_eq (fun I => start_eq I ls) n
noncomputable def md (a0 : MKeys) (a1 : List Int) (a2 : List MSig) : Int := (eachM (S := Int) (β := Int) (fun (y1 : Int) (s3 : Int) => (bif (slices_ContainsFunc_Simpl_Sig_impl_Sig__impl_CountSigs_1.md a2 y1 a1) then (.inl (IntKind.i64.wrap (s3 + 1))) else (.inl s3))) (fun (s3 : Int) => (s3 : Int)) a0.fList 0)
def gd (a0 : MKeys) (a1 : List Int) (a2 : List MSig) : Prop := (MKeys.Sm (2 ^ 21) a0) ∧ (SmL (2 ^ 38) (fun y : Int => True) a1) ∧ (SmL (2 ^ 21) (fun y : MSig => MSig.Sm (2 ^ 21) y) a2)
def rf (a : MKeys × List Int × List MSig) : RKeys × List (List L) × List (List L) := ((MKeys.r a.1), (a.2.1.map iRow), (a.2.2.map MSig.row))
theorem rf_inj (a b : MKeys × List Int × List MSig) (h : rf a = rf b) : a = b := by
  exact (Prod.ext (MKeys.r_inj (congrArg (fun x => x.1) h)) (Prod.ext (map_inj iRow_inj (congrArg (fun x => x.2.1) h)) (map_inj MSig.row_inj (congrArg (fun x => x.2.2) h))))
noncomputable def R (x0 : RKeys) (x1 : List (List L)) (x2 : List (List L)) : Option (Int) := ofM rf (fun a => gd a.1 a.2.1 a.2.2) (fun a => (md a.1 a.2.1 a.2.2)) (x0, x1, x2)
theorem R_eq {a0 : MKeys} {a1 : List Int} {a2 : List MSig} (h : gd a0 a1 a2) : R (MKeys.r a0) (a1.map iRow) (a2.map MSig.row) = some (md a0 a1 a2) := ofM_eq (r := rf) (a := (a0, a1, a2)) rf_inj h
theorem okF (a0 : MKeys) (a1 : List Int) (a2 : List MSig) (hg : gd a0 a1 a2) : ∃ n, start (iter step n) (MKeys.r a0) (a1.map iRow) (a2.map MSig.row) = ret ((md a0 a1 a2) : Int) := by
  unfold gd at hg
  obtain ⟨H0, H1, H2⟩ := hg
  unfold start md
  try simp only [bytesL_map, List.length_map, toNat_nat, iAt_getD, bAt_getD, sAt_getD, lAt_getD, MKeys.r_fList]
  have Bh2 : a0.fList.length ≤ maxLen := (by
      have := (H0).1
      try simp only [maxLen] at *
      omega)
  refine ex_eq (out := (fun b : Int => ret (b : Int))) (show (loopM (S := Int) (β := Int) (fun (i1 : Nat) (s3 : Int) => (bif (slices_ContainsFunc_Simpl_Sig_impl_Sig__impl_CountSigs_1.md a2 (a0.fList.getD i1 0) a1) then (.inl (IntKind.i64.wrap (s3 + 1))) else (.inl s3))) (fun (s3 : Int) => (s3 : Int)) a0.fList.length 0 0) = (eachM (S := Int) (β := Int) (fun (y1 : Int) (s3 : Int) => (bif (slices_ContainsFunc_Simpl_Sig_impl_Sig__impl_CountSigs_1.md a2 y1 a1) then (.inl (IntKind.i64.wrap (s3 + 1))) else (.inl s3))) (fun (s3 : Int) => (s3 : Int)) a0.fList 0) from loopM_eachM (S := Int) (β := Int) (f := fun (y1 : Int) (s3 : Int) => (bif (slices_ContainsFunc_Simpl_Sig_impl_Sig__impl_CountSigs_1.md a2 y1 a1) then (.inl (IntKind.i64.wrap (s3 + 1))) else (.inl s3))) (t := fun (s3 : Int) => (s3 : Int)) (xs := a0.fList) (z := 0)) ?_
  refine ex_pt (p := Pt.p0 (a2.map MSig.row) 0 (a0.fList.map iRow) (a0.fList.length : Int) 0 (a1.map iRow)) (by first | rfl | (simp only [bytesL_map, List.length_map, toNat_nat, iAt_getD, bAt_getD, sAt_getD, lAt_getD, MKeys.r_fList, List.map_append, List.map_cons, List.map_nil, List.cons_append, List.nil_append, iRow, sRow, bRow, lRow, List.map_set]; done) | (simp only [List.map_append, List.map_cons, List.map_nil, List.cons_append, List.nil_append, iRow, sRow, bRow, lRow, List.map_set]; rfl)) ?_
  refine loopM_ok (pt := fun (i1 : Nat) (s3 : Int) => Pt.p0 (a2.map MSig.row) s3 (a0.fList.map iRow) (a0.fList.length : Int) (i1 : Int) (a1.map iRow)) (s := (0 : Int)) (out := (fun b : Int => ret (b : Int))) (fun _ _ => True) (fun J i1 s3 h2 hih2 => ?_) (fun s3 hih2 => ?_) trivial
  · simp only [step, bytesL_map, List.length_map, toNat_nat, iAt_getD, bAt_getD, sAt_getD, lAt_getD, MKeys.r_fList]
    have bb_ := Bh2
    simp only [maxLen] at bb_
    have := (H0).1
    refine Rnd.yes (by apply decide_eq_true; omega) ?_
    refine Rnd.yes (by
        refine decide_eq_true ?_
        try simp (disch := omega) only [List.sum_cons, List.sum_nil, List.map_cons, List.map_nil, bytesI_length, bytesL_length, List.length_append, List.length_cons, List.length_nil, List.length_map, List.length_set, List.length_replicate, List.length_take, List.length_drop, Go.IntWalk.i64_in]
        first | omega | (simp; done) | (simp; omega)) ?_
    refine Rnd.yes (by
        have := (H0).1
        refine decide_eq_true ?_
        try simp (disch := omega) only [List.sum_cons, List.sum_nil, List.map_cons, List.map_nil, bytesI_length, bytesL_length, List.length_append, List.length_cons, List.length_nil, List.length_map, List.length_set, List.length_replicate, List.length_take, List.length_drop, Go.IntWalk.i64_in]
        first | omega | (simp; done) | (simp; omega)) ?_
    refine Rnd.call_to (slices_ContainsFunc_Simpl_Sig_impl_Sig__impl_CountSigs_1.md a2 (a0.fList.getD i1 0) a1) ?_ ?_
    · have R_ := slices_ContainsFunc_Simpl_Sig_impl_Sig__impl_CountSigs_1.R_eq (a0 := a2) (a1 := (a0.fList.getD i1 0)) (a2 := a1) ⟨H2, H1⟩
      first | exact R_ | (simp only [List.map_append, List.map_cons, List.map_nil, List.cons_append, List.nil_append, iRow, sRow, bRow, lRow, List.map_set, bytesL_map, List.length_map, toNat_nat, iAt_getD, bAt_getD, sAt_getD, lAt_getD, MKeys.r_fList] at R_ ⊢; first | exact R_ | (rw [← R_]; rfl))
    try simp only [bytesL_map, List.length_map, toNat_nat, iAt_getD, bAt_getD, sAt_getD, lAt_getD, MKeys.r_fList]
    refine Rnd.bif (fun c4 => ?_) (fun c4 => ?_)
    · refine Rnd.inl trivial ?_
      rw [wrap_succ h2 Bh2]
      all_goals first | rfl | (simp only [bytesL_map, List.length_map, toNat_nat, iAt_getD, bAt_getD, sAt_getD, lAt_getD, MKeys.r_fList]; done) | (simp only [List.map_append, List.map_cons, List.map_nil, List.cons_append, List.nil_append, iRow, sRow, bRow, lRow, List.map_set]; rfl) | (simp only [bytesL_map, List.length_map, toNat_nat, iAt_getD, bAt_getD, sAt_getD, lAt_getD, MKeys.r_fList, List.map_append, List.map_cons, List.map_nil, List.cons_append, List.nil_append, iRow, sRow, bRow, lRow, List.map_set]; first | done | rfl)
    · refine Rnd.inl trivial ?_
      rw [wrap_succ h2 Bh2]
      all_goals first | rfl | (simp only [bytesL_map, List.length_map, toNat_nat, iAt_getD, bAt_getD, sAt_getD, lAt_getD, MKeys.r_fList]; done) | (simp only [List.map_append, List.map_cons, List.map_nil, List.cons_append, List.nil_append, iRow, sRow, bRow, lRow, List.map_set]; rfl) | (simp only [bytesL_map, List.length_map, toNat_nat, iAt_getD, bAt_getD, sAt_getD, lAt_getD, MKeys.r_fList, List.map_append, List.map_cons, List.map_nil, List.cons_append, List.nil_append, iRow, sRow, bRow, lRow, List.map_set]; first | done | rfl)
  · simp only [step, bytesL_map, List.length_map, toNat_nat, iAt_getD, bAt_getD, sAt_getD, lAt_getD, MKeys.r_fList]
    have := (H0).1
    refine ex_no (by apply decide_eq_false; omega) ?_
    refine ⟨0, ?_⟩
    all_goals first | rfl | (simp only [bytesL_map, List.length_map, toNat_nat, iAt_getD, bAt_getD, sAt_getD, lAt_getD, MKeys.r_fList]; done) | (simp only [List.map_append, List.map_cons, List.map_nil, List.cons_append, List.nil_append, iRow, sRow, bRow, lRow, List.map_set]; rfl) | (simp only [bytesL_map, List.length_map, toNat_nat, iAt_getD, bAt_getD, sAt_getD, lAt_getD, MKeys.r_fList, List.map_append, List.map_cons, List.map_nil, List.cons_append, List.nil_append, iRow, sRow, bRow, lRow, List.map_set]; first | done | rfl)
noncomputable def sem (ls : List L) : Option (List L) := (R (RKeys.dec ls) ((dropT 2 ls).headD .hole).toSl ((dropT 3 ls).headD .hole).toSl).map RT.enc
theorem ok (ls q : List L) (hl : LOKs Ev.cells pats ls) (h : sem ls = some q) : ∃ n, runF E live Tryz.f243 res n (initS pats ls) = some q := by
  obtain ⟨v, hv, hq⟩ := map_some h
  obtain ⟨⟨a0, a1, a2⟩, hg, e, hm⟩ := ofM_some hv
  simp only [rf, Prod.mk.injEq] at e
  obtain ⟨e0, e1, e2⟩ := e
  obtain ⟨n, hn⟩ := okF a0 a1 a2 hg
  refine ⟨n, (run_eq n ls).trans ?_⟩
  rw [← e0, ← e1, ← e2]
  rw [hn, ← hq, hm]; rfl
noncomputable def con : Con := ⟨pats, res, sem⟩
theorem chk : fnB Tryz.f243 con 24 = true := by kernel_rfl
theorem valid_ : Valid Tryz.prog Ev 243 con := valid mix tab_ok (.cons slices_ContainsFunc_Simpl_Sig_impl_Sig__impl_CountSigs_1.valid_ .nil) Tryz.func243 chk live ok
theorem br (a0 : MKeys) (a1 : List Int) (a2 : List MSig) : md a0 a1 a2 = spec_CountSigs.md a0 a1 a2 := by
  unfold md spec_CountSigs.md
  refine eachM_congr (fun x _ s => ?_) (fun s => rfl)
  rw [slices_ContainsFunc_Simpl_Sig_impl_Sig__impl_CountSigs_1.any_eq]
  refine Eq.trans ?_ (eachM_any' (β := Int ⊕ Int) (p := fun y => impl_CountSigs_1.md y x a1) (b := Sum.inl (IntKind.i64.wrap (s + 1))) (c := Sum.inl s) (fun y s' => ?_) a2 ()).symm
  · cases a2.any (fun y => impl_CountSigs_1.md y x a1) <;> rfl
  · unfold impl_CountSigs_1.md
    simp only [impl_IsSigBy.br]
    cases y.fKey == x <;> cases spec_IsSigBy.md y a1 <;> rfl
end impl_CountSigs
/-! impl.IsSigned -/
namespace impl_IsSigned
noncomputable def F (x0 : RKeys) (x1 : List (List L)) (x2 : List (List L)) : Ans := (call (impl_IsKeys.R x0) fun v1 => (bif v1 then (call (impl_CountSigs.R x0 x1 x2) fun v2 => ret ((decide (v2 ≥ x0.fNeed)) : Bool)) else ret (false : Bool)))
def live : Nat → Live := fun _ => []
def pats : List Pat := [.agg [.sl 3, .int .i64], .rd (.sl 3), .rd (.sl 179)]
def res : RP := .one (.rd (.bool))
noncomputable def G : List (Nat × Con) := [(197, impl_IsKeys.con), (243, impl_CountSigs.con)]
noncomputable abbrev E : Env := ⟨assoc Tab, conG G, 18⟩
set_option maxRecDepth 100000
theorem run_eq (n : Nat) (ls : List L) : runF E live Tryz.f202 res n (initS pats ls) = F (RKeys.dec ls) ((dropT 2 ls).headD .hole).toSl ((dropT 3 ls).headD .hole).toSl := by kernel_rfl
noncomputable def md (a0 : MKeys) (a1 : List Int) (a2 : List MSig) : Bool := (bif (impl_IsKeys.md a0) then ((decide ((impl_CountSigs.md a0 a1 a2) ≥ a0.fNeed)) : Bool) else (false : Bool))
def gd (a0 : MKeys) (a1 : List Int) (a2 : List MSig) : Prop := (MKeys.Sm (2 ^ 21) a0) ∧ (SmL (2 ^ 38) (fun y : Int => True) a1) ∧ (SmL (2 ^ 21) (fun y : MSig => MSig.Sm (2 ^ 21) y) a2)
def rf (a : MKeys × List Int × List MSig) : RKeys × List (List L) × List (List L) := ((MKeys.r a.1), (a.2.1.map iRow), (a.2.2.map MSig.row))
theorem rf_inj (a b : MKeys × List Int × List MSig) (h : rf a = rf b) : a = b := by
  exact (Prod.ext (MKeys.r_inj (congrArg (fun x => x.1) h)) (Prod.ext (map_inj iRow_inj (congrArg (fun x => x.2.1) h)) (map_inj MSig.row_inj (congrArg (fun x => x.2.2) h))))
noncomputable def R (x0 : RKeys) (x1 : List (List L)) (x2 : List (List L)) : Option (Bool) := ofM rf (fun a => gd a.1 a.2.1 a.2.2) (fun a => (md a.1 a.2.1 a.2.2)) (x0, x1, x2)
theorem R_eq {a0 : MKeys} {a1 : List Int} {a2 : List MSig} (h : gd a0 a1 a2) : R (MKeys.r a0) (a1.map iRow) (a2.map MSig.row) = some (md a0 a1 a2) := ofM_eq (r := rf) (a := (a0, a1, a2)) rf_inj h
theorem okF (a0 : MKeys) (a1 : List Int) (a2 : List MSig) (hg : gd a0 a1 a2) : F (MKeys.r a0) (a1.map iRow) (a2.map MSig.row) = ret ((md a0 a1 a2) : Bool) := by
  unfold gd at hg
  obtain ⟨H0, H1, H2⟩ := hg
  unfold F md
  try simp only [bytesL_map, List.length_map, toNat_nat, iAt_getD, bAt_getD, sAt_getD, lAt_getD, MKeys.r_fNeed]
  refine call_to (impl_IsKeys.md a0) ?_ ?_
  · have R_ := impl_IsKeys.R_eq (a0 := a0) H0
    first | exact R_ | (simp only [List.map_append, List.map_cons, List.map_nil, List.cons_append, List.nil_append, iRow, sRow, bRow, lRow, List.map_set, bytesL_map, List.length_map, toNat_nat, iAt_getD, bAt_getD, sAt_getD, lAt_getD, MKeys.r_fNeed] at R_ ⊢; first | exact R_ | (rw [← R_]; rfl))
  try simp only [bytesL_map, List.length_map, toNat_nat, iAt_getD, bAt_getD, sAt_getD, lAt_getD, MKeys.r_fNeed]
  refine bif_out (fun b : Bool => ret (b : Bool)) (fun c1 => ?_) (fun c1 => ?_)
  · refine call_to (impl_CountSigs.md a0 a1 a2) ?_ ?_
    · have R_ := impl_CountSigs.R_eq (a0 := a0) (a1 := a1) (a2 := a2) ⟨H0, H1, H2⟩
      first | exact R_ | (simp only [List.map_append, List.map_cons, List.map_nil, List.cons_append, List.nil_append, iRow, sRow, bRow, lRow, List.map_set, bytesL_map, List.length_map, toNat_nat, iAt_getD, bAt_getD, sAt_getD, lAt_getD, MKeys.r_fNeed] at R_ ⊢; first | exact R_ | (rw [← R_]; rfl))
    try simp only [bytesL_map, List.length_map, toNat_nat, iAt_getD, bAt_getD, sAt_getD, lAt_getD, MKeys.r_fNeed]
    all_goals first | rfl | (simp only [bytesL_map, List.length_map, toNat_nat, iAt_getD, bAt_getD, sAt_getD, lAt_getD, MKeys.r_fNeed]; done) | (simp only [List.map_append, List.map_cons, List.map_nil, List.cons_append, List.nil_append, iRow, sRow, bRow, lRow, List.map_set]; rfl) | (simp only [bytesL_map, List.length_map, toNat_nat, iAt_getD, bAt_getD, sAt_getD, lAt_getD, MKeys.r_fNeed, List.map_append, List.map_cons, List.map_nil, List.cons_append, List.nil_append, iRow, sRow, bRow, lRow, List.map_set]; first | done | rfl)
  · all_goals first | rfl | (simp only [bytesL_map, List.length_map, toNat_nat, iAt_getD, bAt_getD, sAt_getD, lAt_getD, MKeys.r_fNeed]; done) | (simp only [List.map_append, List.map_cons, List.map_nil, List.cons_append, List.nil_append, iRow, sRow, bRow, lRow, List.map_set]; rfl) | (simp only [bytesL_map, List.length_map, toNat_nat, iAt_getD, bAt_getD, sAt_getD, lAt_getD, MKeys.r_fNeed, List.map_append, List.map_cons, List.map_nil, List.cons_append, List.nil_append, iRow, sRow, bRow, lRow, List.map_set]; first | done | rfl)
noncomputable def sem (ls : List L) : Option (List L) := (R (RKeys.dec ls) ((dropT 2 ls).headD .hole).toSl ((dropT 3 ls).headD .hole).toSl).map RT.enc
theorem ok (ls q : List L) (hl : LOKs Ev.cells pats ls) (h : sem ls = some q) : ∃ n, runF E live Tryz.f202 res n (initS pats ls) = some q := by
  obtain ⟨v, hv, hq⟩ := map_some h
  obtain ⟨⟨a0, a1, a2⟩, hg, e, hm⟩ := ofM_some hv
  simp only [rf, Prod.mk.injEq] at e
  obtain ⟨e0, e1, e2⟩ := e
  have hn := okF a0 a1 a2 hg
  refine ⟨0, (run_eq 0 ls).trans ?_⟩
  rw [← e0, ← e1, ← e2]
  rw [hn, ← hq, hm]; rfl
noncomputable def con : Con := ⟨pats, res, sem⟩
theorem chk : fnB Tryz.f202 con 18 = true := by kernel_rfl
theorem valid_ : Valid Tryz.prog Ev 202 con := valid mix tab_ok (.cons impl_IsKeys.valid_ (.cons impl_CountSigs.valid_ .nil)) Tryz.func202 chk live ok
theorem br (a0 : MKeys) (a1 : List Int) (a2 : List MSig) : md a0 a1 a2 = spec_IsSigned.md a0 a1 a2 := by
  unfold md spec_IsSigned.md
  first
  | (simp only [impl_IsKeys.br, impl_CountSigs.br]; done)
  | (simp only [impl_IsKeys.br, impl_CountSigs.br]; rfl)
  | rfl
end impl_IsSigned
/-! (impl.Signed).isSignedBy -/
namespace impl_Signed_isSignedBy
noncomputable def F (x0 : RSigned) (x1 : RKeys) : Ans := (call (impl_HeadInts.R x0.fHead) fun v1 => (call (impl_IsSigned.R x1 v1 x0.fSigs) fun v2 => ret (v2 : Bool)))
def live : Nat → Live := fun _ => []
def pats : List Pat := [.agg [.int .i64, .int .i64, .int .i64, .int .i64, .int .i64, .int .i64, .int .i64, .int .i64, .sl 3, .int .i64, .sl 3, .int .i64, .int .i64, .sl 3, .int .i64, .bool, .sl 179], .agg [.sl 3, .int .i64]]
def res : RP := .one (.rd (.bool))
noncomputable def G : List (Nat × Con) := [(140, impl_HeadInts.con), (202, impl_IsSigned.con)]
noncomputable abbrev E : Env := ⟨assoc Tab, conG G, 12⟩
set_option maxRecDepth 100000
theorem run_eq (n : Nat) (ls : List L) : runF E live Tryz.f144 res n (initS pats ls) = F (RSigned.dec ls) (RKeys.dec (dropT 17 ls)) := by kernel_rfl
noncomputable def md (a0 : MSigned) (a1 : MKeys) : Bool := ((impl_IsSigned.md a1 (impl_HeadInts.md a0.fHead) a0.fSigs) : Bool)
def gd (a0 : MSigned) (a1 : MKeys) : Prop := (MSigned.Sm (2 ^ 21) a0) ∧ (MKeys.Sm (2 ^ 21) a1)
def rf (a : MSigned × MKeys) : RSigned × RKeys := ((MSigned.r a.1), (MKeys.r a.2))
theorem rf_inj (a b : MSigned × MKeys) (h : rf a = rf b) : a = b := by
  exact (Prod.ext (MSigned.r_inj (congrArg (fun x => x.1) h)) (MKeys.r_inj (congrArg (fun x => x.2) h)))
noncomputable def R (x0 : RSigned) (x1 : RKeys) : Option (Bool) := ofM rf (fun a => gd a.1 a.2) (fun a => (md a.1 a.2)) (x0, x1)
theorem R_eq {a0 : MSigned} {a1 : MKeys} (h : gd a0 a1) : R (MSigned.r a0) (MKeys.r a1) = some (md a0 a1) := ofM_eq (r := rf) (a := (a0, a1)) rf_inj h
theorem okF (a0 : MSigned) (a1 : MKeys) (hg : gd a0 a1) : F (MSigned.r a0) (MKeys.r a1) = ret ((md a0 a1) : Bool) := by
  unfold gd at hg
  obtain ⟨H0, H1⟩ := hg
  unfold F md
  try simp only [bytesL_map, List.length_map, toNat_nat, iAt_getD, bAt_getD, sAt_getD, lAt_getD, MSigned.r_fHead, MSigned.r_fSigs]
  refine call_to ((impl_HeadInts.md a0.fHead).map iRow) ?_ ?_
  · have R_ := impl_HeadInts.R_eq (a0 := a0.fHead) H0.1
    first | exact R_ | (simp only [List.map_append, List.map_cons, List.map_nil, List.cons_append, List.nil_append, iRow, sRow, bRow, lRow, List.map_set, bytesL_map, List.length_map, toNat_nat, iAt_getD, bAt_getD, sAt_getD, lAt_getD, MSigned.r_fHead, MSigned.r_fSigs] at R_ ⊢; first | exact R_ | (rw [← R_]; rfl))
  try simp only [bytesL_map, List.length_map, toNat_nat, iAt_getD, bAt_getD, sAt_getD, lAt_getD, MSigned.r_fHead, MSigned.r_fSigs]
  refine call_to (impl_IsSigned.md a1 (impl_HeadInts.md a0.fHead) a0.fSigs) ?_ ?_
  · have R_ := impl_IsSigned.R_eq (a0 := a1) (a1 := (impl_HeadInts.md a0.fHead)) (a2 := a0.fSigs) ⟨H1, ⟨(by
        have := impl_HeadInts.len a0.fHead
        have := (H0.1.1).1
        have := (H0.1.2.1).1
        have := (H0.1.2.2).1
        try simp (disch := omega) only [List.sum_cons, List.sum_nil, List.map_cons, List.map_nil, bytesI_length, bytesL_length, List.length_append, List.length_cons, List.length_nil, List.length_map, List.length_set, List.length_replicate, List.length_take, List.length_drop, Go.IntWalk.i64_in]
        first | omega | (simp; done) | (simp; omega)), fun _ _ => trivial⟩, H0.2⟩
    first | exact R_ | (simp only [List.map_append, List.map_cons, List.map_nil, List.cons_append, List.nil_append, iRow, sRow, bRow, lRow, List.map_set, bytesL_map, List.length_map, toNat_nat, iAt_getD, bAt_getD, sAt_getD, lAt_getD, MSigned.r_fHead, MSigned.r_fSigs] at R_ ⊢; first | exact R_ | (rw [← R_]; rfl))
  try simp only [bytesL_map, List.length_map, toNat_nat, iAt_getD, bAt_getD, sAt_getD, lAt_getD, MSigned.r_fHead, MSigned.r_fSigs]
  all_goals first | rfl | (simp only [bytesL_map, List.length_map, toNat_nat, iAt_getD, bAt_getD, sAt_getD, lAt_getD, MSigned.r_fHead, MSigned.r_fSigs]; done) | (simp only [List.map_append, List.map_cons, List.map_nil, List.cons_append, List.nil_append, iRow, sRow, bRow, lRow, List.map_set]; rfl) | (simp only [bytesL_map, List.length_map, toNat_nat, iAt_getD, bAt_getD, sAt_getD, lAt_getD, MSigned.r_fHead, MSigned.r_fSigs, List.map_append, List.map_cons, List.map_nil, List.cons_append, List.nil_append, iRow, sRow, bRow, lRow, List.map_set]; first | done | rfl)
noncomputable def sem (ls : List L) : Option (List L) := (R (RSigned.dec ls) (RKeys.dec (dropT 17 ls))).map RT.enc
theorem ok (ls q : List L) (hl : LOKs Ev.cells pats ls) (h : sem ls = some q) : ∃ n, runF E live Tryz.f144 res n (initS pats ls) = some q := by
  obtain ⟨v, hv, hq⟩ := map_some h
  obtain ⟨⟨a0, a1⟩, hg, e, hm⟩ := ofM_some hv
  simp only [rf, Prod.mk.injEq] at e
  obtain ⟨e0, e1⟩ := e
  have hn := okF a0 a1 hg
  refine ⟨0, (run_eq 0 ls).trans ?_⟩
  rw [← e0, ← e1]
  rw [hn, ← hq, hm]; rfl
noncomputable def con : Con := ⟨pats, res, sem⟩
theorem chk : fnB Tryz.f144 con 12 = true := by kernel_rfl
theorem valid_ : Valid Tryz.prog Ev 144 con := valid mix tab_ok (.cons impl_HeadInts.valid_ (.cons impl_IsSigned.valid_ .nil)) Tryz.func144 chk live ok
end impl_Signed_isSignedBy
/-! impl.IsFirst -/
namespace impl_IsFirst
noncomputable def F (x0 : RSigned) : Ans := (call (impl_IsHead.R x0.fHead) fun v1 => (bif v1 then (bif (x0.fHead.fEpoch == 0) then (bif (x0.fHead.fKind == 1) then (bif (!x0.fHead.fFrozen) then (call (impl_ZoneOf.R x0.fHead.fKeys x0.fHead.fPrev) fun v2 => (bif (x0.fHead.fZone == v2) then (call (impl_Signed_isSignedBy.R x0 x0.fHead.fKeys) fun v3 => ret (v3 : Bool)) else ret (false : Bool))) else ret (false : Bool)) else ret (false : Bool)) else ret (false : Bool)) else ret (false : Bool)))
def live : Nat → Live := fun _ => []
def pats : List Pat := [.agg [.int .i64, .int .i64, .int .i64, .int .i64, .int .i64, .int .i64, .int .i64, .int .i64, .sl 3, .int .i64, .sl 3, .int .i64, .int .i64, .sl 3, .int .i64, .bool, .sl 179]]
def res : RP := .one (.rd (.bool))
noncomputable def G : List (Nat × Con) := [(142, impl_IsHead.con), (143, impl_ZoneOf.con), (144, impl_Signed_isSignedBy.con)]
noncomputable abbrev E : Env := ⟨assoc Tab, conG G, 39⟩
set_option maxRecDepth 100000
theorem run_eq (n : Nat) (ls : List L) : runF E live Tryz.f95 res n (initS pats ls) = F (RSigned.dec ls) := by kernel_rfl
noncomputable def md (a0 : MSigned) : Bool := (bif (impl_IsHead.md a0.fHead) then (bif (a0.fHead.fEpoch == 0) then (bif (a0.fHead.fKind == 1) then (bif (!a0.fHead.fFrozen) then (bif (a0.fHead.fZone == (impl_ZoneOf.md a0.fHead.fKeys a0.fHead.fPrev)) then ((impl_Signed_isSignedBy.md a0 a0.fHead.fKeys) : Bool) else (false : Bool)) else (false : Bool)) else (false : Bool)) else (false : Bool)) else (false : Bool))
def gd (a0 : MSigned) : Prop := (MSigned.Sm (2 ^ 21) a0)
def rf (a : MSigned) : RSigned := (MSigned.r a)
theorem rf_inj (a b : MSigned) (h : rf a = rf b) : a = b := by
  exact (MSigned.r_inj h)
noncomputable def R (x0 : RSigned) : Option (Bool) := ofM rf (fun a => gd a) (fun a => (md a)) x0
theorem R_eq {a0 : MSigned} (h : gd a0) : R (MSigned.r a0) = some (md a0) := ofM_eq (r := rf) (a := a0) rf_inj h
theorem okF (a0 : MSigned) (hg : gd a0) : F (MSigned.r a0) = ret ((md a0) : Bool) := by
  unfold gd at hg
  have H0 := hg
  unfold F md
  try simp only [bytesL_map, List.length_map, toNat_nat, iAt_getD, bAt_getD, sAt_getD, lAt_getD, MHead.r_fZone, MHead.r_fEpoch, MHead.r_fKind, MHead.r_fPrev, MHead.r_fKeys, MHead.r_fFrozen, MSigned.r_fHead]
  refine call_to (impl_IsHead.md a0.fHead) ?_ ?_
  · have R_ := impl_IsHead.R_eq (a0 := a0.fHead) H0.1
    first | exact R_ | (simp only [List.map_append, List.map_cons, List.map_nil, List.cons_append, List.nil_append, iRow, sRow, bRow, lRow, List.map_set, bytesL_map, List.length_map, toNat_nat, iAt_getD, bAt_getD, sAt_getD, lAt_getD, MHead.r_fZone, MHead.r_fEpoch, MHead.r_fKind, MHead.r_fPrev, MHead.r_fKeys, MHead.r_fFrozen, MSigned.r_fHead] at R_ ⊢; first | exact R_ | (rw [← R_]; rfl))
  try simp only [bytesL_map, List.length_map, toNat_nat, iAt_getD, bAt_getD, sAt_getD, lAt_getD, MHead.r_fZone, MHead.r_fEpoch, MHead.r_fKind, MHead.r_fPrev, MHead.r_fKeys, MHead.r_fFrozen, MSigned.r_fHead]
  refine bif_out (fun b : Bool => ret (b : Bool)) (fun c1 => ?_) (fun c1 => ?_)
  · refine bif_out (fun b : Bool => ret (b : Bool)) (fun c2 => ?_) (fun c2 => ?_)
    · have dc2 := c2
      try simp only [bne_eq_false_iff_eq, bne_iff_ne, beq_iff_eq, beq_eq_false_iff_ne, ne_eq, Bool.not_eq_true', Bool.not_eq_false'] at dc2
      refine bif_out (fun b : Bool => ret (b : Bool)) (fun c3 => ?_) (fun c3 => ?_)
      · have dc3 := c3
        try simp only [bne_eq_false_iff_eq, bne_iff_ne, beq_iff_eq, beq_eq_false_iff_ne, ne_eq, Bool.not_eq_true', Bool.not_eq_false'] at dc3
        refine bif_out (fun b : Bool => ret (b : Bool)) (fun c4 => ?_) (fun c4 => ?_)
        · have dc4 := c4
          try simp only [bne_eq_false_iff_eq, bne_iff_ne, beq_iff_eq, beq_eq_false_iff_ne, ne_eq, Bool.not_eq_true', Bool.not_eq_false'] at dc4
          refine call_to (impl_ZoneOf.md a0.fHead.fKeys a0.fHead.fPrev) ?_ ?_
          · have R_ := impl_ZoneOf.R_eq (a0 := a0.fHead.fKeys) (a1 := a0.fHead.fPrev) H0.1.1
            first | exact R_ | (simp only [List.map_append, List.map_cons, List.map_nil, List.cons_append, List.nil_append, iRow, sRow, bRow, lRow, List.map_set, bytesL_map, List.length_map, toNat_nat, iAt_getD, bAt_getD, sAt_getD, lAt_getD, MHead.r_fZone, MHead.r_fEpoch, MHead.r_fKind, MHead.r_fPrev, MHead.r_fKeys, MHead.r_fFrozen, MSigned.r_fHead] at R_ ⊢; first | exact R_ | (rw [← R_]; rfl))
          try simp only [bytesL_map, List.length_map, toNat_nat, iAt_getD, bAt_getD, sAt_getD, lAt_getD, MHead.r_fZone, MHead.r_fEpoch, MHead.r_fKind, MHead.r_fPrev, MHead.r_fKeys, MHead.r_fFrozen, MSigned.r_fHead]
          refine bif_out (fun b : Bool => ret (b : Bool)) (fun c5 => ?_) (fun c5 => ?_)
          · have dc5 := c5
            try simp only [bne_eq_false_iff_eq, bne_iff_ne, beq_iff_eq, beq_eq_false_iff_ne, ne_eq, Bool.not_eq_true', Bool.not_eq_false'] at dc5
            refine call_to (impl_Signed_isSignedBy.md a0 a0.fHead.fKeys) ?_ ?_
            · have R_ := impl_Signed_isSignedBy.R_eq (a0 := a0) (a1 := a0.fHead.fKeys) ⟨H0, H0.1.1⟩
              first | exact R_ | (simp only [List.map_append, List.map_cons, List.map_nil, List.cons_append, List.nil_append, iRow, sRow, bRow, lRow, List.map_set, bytesL_map, List.length_map, toNat_nat, iAt_getD, bAt_getD, sAt_getD, lAt_getD, MHead.r_fZone, MHead.r_fEpoch, MHead.r_fKind, MHead.r_fPrev, MHead.r_fKeys, MHead.r_fFrozen, MSigned.r_fHead] at R_ ⊢; first | exact R_ | (rw [← R_]; rfl))
            try simp only [bytesL_map, List.length_map, toNat_nat, iAt_getD, bAt_getD, sAt_getD, lAt_getD, MHead.r_fZone, MHead.r_fEpoch, MHead.r_fKind, MHead.r_fPrev, MHead.r_fKeys, MHead.r_fFrozen, MSigned.r_fHead]
            all_goals first | rfl | (simp only [bytesL_map, List.length_map, toNat_nat, iAt_getD, bAt_getD, sAt_getD, lAt_getD, MHead.r_fZone, MHead.r_fEpoch, MHead.r_fKind, MHead.r_fPrev, MHead.r_fKeys, MHead.r_fFrozen, MSigned.r_fHead]; done) | (simp only [List.map_append, List.map_cons, List.map_nil, List.cons_append, List.nil_append, iRow, sRow, bRow, lRow, List.map_set]; rfl) | (simp only [bytesL_map, List.length_map, toNat_nat, iAt_getD, bAt_getD, sAt_getD, lAt_getD, MHead.r_fZone, MHead.r_fEpoch, MHead.r_fKind, MHead.r_fPrev, MHead.r_fKeys, MHead.r_fFrozen, MSigned.r_fHead, List.map_append, List.map_cons, List.map_nil, List.cons_append, List.nil_append, iRow, sRow, bRow, lRow, List.map_set]; first | done | rfl)
          · have dc5 := c5
            try simp only [bne_eq_false_iff_eq, bne_iff_ne, beq_iff_eq, beq_eq_false_iff_ne, ne_eq, Bool.not_eq_true', Bool.not_eq_false'] at dc5
            all_goals first | rfl | (simp only [bytesL_map, List.length_map, toNat_nat, iAt_getD, bAt_getD, sAt_getD, lAt_getD, MHead.r_fZone, MHead.r_fEpoch, MHead.r_fKind, MHead.r_fPrev, MHead.r_fKeys, MHead.r_fFrozen, MSigned.r_fHead]; done) | (simp only [List.map_append, List.map_cons, List.map_nil, List.cons_append, List.nil_append, iRow, sRow, bRow, lRow, List.map_set]; rfl) | (simp only [bytesL_map, List.length_map, toNat_nat, iAt_getD, bAt_getD, sAt_getD, lAt_getD, MHead.r_fZone, MHead.r_fEpoch, MHead.r_fKind, MHead.r_fPrev, MHead.r_fKeys, MHead.r_fFrozen, MSigned.r_fHead, List.map_append, List.map_cons, List.map_nil, List.cons_append, List.nil_append, iRow, sRow, bRow, lRow, List.map_set]; first | done | rfl)
        · have dc4 := c4
          try simp only [bne_eq_false_iff_eq, bne_iff_ne, beq_iff_eq, beq_eq_false_iff_ne, ne_eq, Bool.not_eq_true', Bool.not_eq_false'] at dc4
          all_goals first | rfl | (simp only [bytesL_map, List.length_map, toNat_nat, iAt_getD, bAt_getD, sAt_getD, lAt_getD, MHead.r_fZone, MHead.r_fEpoch, MHead.r_fKind, MHead.r_fPrev, MHead.r_fKeys, MHead.r_fFrozen, MSigned.r_fHead]; done) | (simp only [List.map_append, List.map_cons, List.map_nil, List.cons_append, List.nil_append, iRow, sRow, bRow, lRow, List.map_set]; rfl) | (simp only [bytesL_map, List.length_map, toNat_nat, iAt_getD, bAt_getD, sAt_getD, lAt_getD, MHead.r_fZone, MHead.r_fEpoch, MHead.r_fKind, MHead.r_fPrev, MHead.r_fKeys, MHead.r_fFrozen, MSigned.r_fHead, List.map_append, List.map_cons, List.map_nil, List.cons_append, List.nil_append, iRow, sRow, bRow, lRow, List.map_set]; first | done | rfl)
      · have dc3 := c3
        try simp only [bne_eq_false_iff_eq, bne_iff_ne, beq_iff_eq, beq_eq_false_iff_ne, ne_eq, Bool.not_eq_true', Bool.not_eq_false'] at dc3
        all_goals first | rfl | (simp only [bytesL_map, List.length_map, toNat_nat, iAt_getD, bAt_getD, sAt_getD, lAt_getD, MHead.r_fZone, MHead.r_fEpoch, MHead.r_fKind, MHead.r_fPrev, MHead.r_fKeys, MHead.r_fFrozen, MSigned.r_fHead]; done) | (simp only [List.map_append, List.map_cons, List.map_nil, List.cons_append, List.nil_append, iRow, sRow, bRow, lRow, List.map_set]; rfl) | (simp only [bytesL_map, List.length_map, toNat_nat, iAt_getD, bAt_getD, sAt_getD, lAt_getD, MHead.r_fZone, MHead.r_fEpoch, MHead.r_fKind, MHead.r_fPrev, MHead.r_fKeys, MHead.r_fFrozen, MSigned.r_fHead, List.map_append, List.map_cons, List.map_nil, List.cons_append, List.nil_append, iRow, sRow, bRow, lRow, List.map_set]; first | done | rfl)
    · have dc2 := c2
      try simp only [bne_eq_false_iff_eq, bne_iff_ne, beq_iff_eq, beq_eq_false_iff_ne, ne_eq, Bool.not_eq_true', Bool.not_eq_false'] at dc2
      all_goals first | rfl | (simp only [bytesL_map, List.length_map, toNat_nat, iAt_getD, bAt_getD, sAt_getD, lAt_getD, MHead.r_fZone, MHead.r_fEpoch, MHead.r_fKind, MHead.r_fPrev, MHead.r_fKeys, MHead.r_fFrozen, MSigned.r_fHead]; done) | (simp only [List.map_append, List.map_cons, List.map_nil, List.cons_append, List.nil_append, iRow, sRow, bRow, lRow, List.map_set]; rfl) | (simp only [bytesL_map, List.length_map, toNat_nat, iAt_getD, bAt_getD, sAt_getD, lAt_getD, MHead.r_fZone, MHead.r_fEpoch, MHead.r_fKind, MHead.r_fPrev, MHead.r_fKeys, MHead.r_fFrozen, MSigned.r_fHead, List.map_append, List.map_cons, List.map_nil, List.cons_append, List.nil_append, iRow, sRow, bRow, lRow, List.map_set]; first | done | rfl)
  · all_goals first | rfl | (simp only [bytesL_map, List.length_map, toNat_nat, iAt_getD, bAt_getD, sAt_getD, lAt_getD, MHead.r_fZone, MHead.r_fEpoch, MHead.r_fKind, MHead.r_fPrev, MHead.r_fKeys, MHead.r_fFrozen, MSigned.r_fHead]; done) | (simp only [List.map_append, List.map_cons, List.map_nil, List.cons_append, List.nil_append, iRow, sRow, bRow, lRow, List.map_set]; rfl) | (simp only [bytesL_map, List.length_map, toNat_nat, iAt_getD, bAt_getD, sAt_getD, lAt_getD, MHead.r_fZone, MHead.r_fEpoch, MHead.r_fKind, MHead.r_fPrev, MHead.r_fKeys, MHead.r_fFrozen, MSigned.r_fHead, List.map_append, List.map_cons, List.map_nil, List.cons_append, List.nil_append, iRow, sRow, bRow, lRow, List.map_set]; first | done | rfl)
noncomputable def sem (ls : List L) : Option (List L) := (R (RSigned.dec ls)).map RT.enc
theorem ok (ls q : List L) (hl : LOKs Ev.cells pats ls) (h : sem ls = some q) : ∃ n, runF E live Tryz.f95 res n (initS pats ls) = some q := by
  obtain ⟨v, hv, hq⟩ := map_some h
  obtain ⟨a0, hg, e, hm⟩ := ofM_some hv
  have e0 : (MSigned.r a0) = _ := e
  have hn := okF a0 hg
  refine ⟨0, (run_eq 0 ls).trans ?_⟩
  rw [← e0]
  rw [hn, ← hq, hm]; rfl
noncomputable def con : Con := ⟨pats, res, sem⟩
theorem chk : fnB Tryz.f95 con 39 = true := by kernel_rfl
theorem valid_ : Valid Tryz.prog Ev 95 con := valid mix tab_ok (.cons impl_IsHead.valid_ (.cons impl_ZoneOf.valid_ (.cons impl_Signed_isSignedBy.valid_ .nil))) Tryz.func95 chk live ok
theorem br (a0 : MSigned) : md a0 = spec_IsFirst.md a0 := by
  unfold md spec_IsFirst.md
  simp only [impl_Signed_isSignedBy.md, impl_IsSigned.br, impl_HeadInts.br, impl_IsHead.br, impl_ZoneOf.br]
end impl_IsFirst
/-! impl.HeadDigest -/
namespace impl_HeadDigest
noncomputable def F (x0 : RHead) : Ans := (call (impl_HeadInts.R x0) fun v1 => (bif (lim (((1 : Int) + (v1.length : Int)) * 8)) then (call (impl_Hash.R ([[L.int 233]] ++ v1)) fun v2 => ret (v2 : Int)) else none))
def live : Nat → Live := fun _ => []
def pats : List Pat := [.agg [.int .i64, .int .i64, .int .i64, .int .i64, .int .i64, .int .i64, .int .i64, .int .i64, .sl 3, .int .i64, .sl 3, .int .i64, .int .i64, .sl 3, .int .i64, .bool]]
def res : RP := .one (.rd (.int .i64))
noncomputable def G : List (Nat × Con) := [(140, impl_HeadInts.con), (201, impl_Hash.con)]
noncomputable abbrev E : Env := ⟨assoc Tab, conG G, 8⟩
set_option maxRecDepth 100000
theorem run_eq (n : Nat) (ls : List L) : runF E live Tryz.f244 res n (initS pats ls) = F (RHead.dec ls) := by kernel_rfl
noncomputable def md (a0 : MHead) : Int := ((impl_Hash.md ([233] ++ (impl_HeadInts.md a0))) : Int)
def gd (a0 : MHead) : Prop := (MHead.Sm (2 ^ 21) a0)
def rf (a : MHead) : RHead := (MHead.r a)
theorem rf_inj (a b : MHead) (h : rf a = rf b) : a = b := by
  exact (MHead.r_inj h)
noncomputable def R (x0 : RHead) : Option (Int) := ofM rf (fun a => gd a) (fun a => (md a)) x0
theorem R_eq {a0 : MHead} (h : gd a0) : R (MHead.r a0) = some (md a0) := ofM_eq (r := rf) (a := a0) rf_inj h
theorem okF (a0 : MHead) (hg : gd a0) : F (MHead.r a0) = ret ((md a0) : Int) := by
  unfold gd at hg
  have H0 := hg
  unfold F md
  try simp only [bytesL_map, List.length_map, toNat_nat, iAt_getD, bAt_getD, sAt_getD, lAt_getD]
  refine call_to ((impl_HeadInts.md a0).map iRow) ?_ ?_
  · have R_ := impl_HeadInts.R_eq (a0 := a0) H0
    first | exact R_ | (simp only [List.map_append, List.map_cons, List.map_nil, List.cons_append, List.nil_append, iRow, sRow, bRow, lRow, List.map_set, bytesL_map, List.length_map, toNat_nat, iAt_getD, bAt_getD, sAt_getD, lAt_getD] at R_ ⊢; first | exact R_ | (rw [← R_]; rfl))
  try simp only [bytesL_map, List.length_map, toNat_nat, iAt_getD, bAt_getD, sAt_getD, lAt_getD]
  refine yes_ret (by
      have := impl_HeadInts.len a0
      have := (H0.1).1
      have := (H0.2.1).1
      have := (H0.2.2).1
      refine lim_t ?_
      try simp (disch := omega) only [List.sum_cons, List.sum_nil, List.map_cons, List.map_nil, bytesI_length, bytesL_length, List.length_append, List.length_cons, List.length_nil, List.length_map, List.length_set, List.length_replicate, List.length_take, List.length_drop, Go.IntWalk.i64_in]
      first | omega | (simp; done) | (simp; omega)) ?_
  refine call_to (impl_Hash.md ([233] ++ (impl_HeadInts.md a0))) ?_ ?_
  · have R_ := impl_Hash.R_eq (a0 := ([233] ++ (impl_HeadInts.md a0))) ⟨(by
        have := impl_HeadInts.len a0
        have := (H0.1).1
        have := (H0.2.1).1
        have := (H0.2.2).1
        try simp (disch := omega) only [List.sum_cons, List.sum_nil, List.map_cons, List.map_nil, bytesI_length, bytesL_length, List.length_append, List.length_cons, List.length_nil, List.length_map, List.length_set, List.length_replicate, List.length_take, List.length_drop, Go.IntWalk.i64_in]
        first | omega | (simp; done) | (simp; omega)), fun _ _ => trivial⟩
    first | exact R_ | (simp only [List.map_append, List.map_cons, List.map_nil, List.cons_append, List.nil_append, iRow, sRow, bRow, lRow, List.map_set, bytesL_map, List.length_map, toNat_nat, iAt_getD, bAt_getD, sAt_getD, lAt_getD] at R_ ⊢; first | exact R_ | (rw [← R_]; rfl))
  try simp only [bytesL_map, List.length_map, toNat_nat, iAt_getD, bAt_getD, sAt_getD, lAt_getD]
  all_goals first | rfl | (simp only [bytesL_map, List.length_map, toNat_nat, iAt_getD, bAt_getD, sAt_getD, lAt_getD]; done) | (simp only [List.map_append, List.map_cons, List.map_nil, List.cons_append, List.nil_append, iRow, sRow, bRow, lRow, List.map_set]; rfl) | (simp only [bytesL_map, List.length_map, toNat_nat, iAt_getD, bAt_getD, sAt_getD, lAt_getD, List.map_append, List.map_cons, List.map_nil, List.cons_append, List.nil_append, iRow, sRow, bRow, lRow, List.map_set]; first | done | rfl)
noncomputable def sem (ls : List L) : Option (List L) := (R (RHead.dec ls)).map RT.enc
theorem ok (ls q : List L) (hl : LOKs Ev.cells pats ls) (h : sem ls = some q) : ∃ n, runF E live Tryz.f244 res n (initS pats ls) = some q := by
  obtain ⟨v, hv, hq⟩ := map_some h
  obtain ⟨a0, hg, e, hm⟩ := ofM_some hv
  have e0 : (MHead.r a0) = _ := e
  have hn := okF a0 hg
  refine ⟨0, (run_eq 0 ls).trans ?_⟩
  rw [← e0]
  rw [hn, ← hq, hm]; rfl
noncomputable def con : Con := ⟨pats, res, sem⟩
theorem chk : fnB Tryz.f244 con 8 = true := by kernel_rfl
theorem valid_ : Valid Tryz.prog Ev 244 con := valid mix tab_ok (.cons impl_HeadInts.valid_ (.cons impl_Hash.valid_ .nil)) Tryz.func244 chk live ok
theorem br (a0 : MHead) : md a0 = spec_HeadDigest.md a0 := by
  unfold md spec_HeadDigest.md
  first
  | (simp only [impl_HeadInts.br, impl_Hash.br]; done)
  | (simp only [impl_HeadInts.br, impl_Hash.br]; rfl)
  | rfl
end impl_HeadDigest
/-! impl.isNext -/
namespace impl_isNext
noncomputable def F (x0 : RHead) (x1 : RHead) : Ans := (bif (x1.fZone == x0.fZone) then (bif (x1.fEpoch == (IntKind.i64.wrap (x0.fEpoch + 1))) then (call (impl_HeadDigest.R x0) fun v1 => (bif (x1.fPrev == v1) then ret ((decide (x1.fTime ≥ x0.fTime)) : Bool) else ret (false : Bool))) else ret (false : Bool)) else ret (false : Bool))
def live : Nat → Live := fun _ => []
def pats : List Pat := [.agg [.int .i64, .int .i64, .int .i64, .int .i64, .int .i64, .int .i64, .int .i64, .int .i64, .sl 3, .int .i64, .sl 3, .int .i64, .int .i64, .sl 3, .int .i64, .bool], .agg [.int .i64, .int .i64, .int .i64, .int .i64, .int .i64, .int .i64, .int .i64, .int .i64, .sl 3, .int .i64, .sl 3, .int .i64, .int .i64, .sl 3, .int .i64, .bool]]
def res : RP := .one (.rd (.bool))
noncomputable def G : List (Nat × Con) := [(244, impl_HeadDigest.con)]
noncomputable abbrev E : Env := ⟨assoc Tab, conG G, 32⟩
set_option maxRecDepth 100000
theorem run_eq (n : Nat) (ls : List L) : runF E live Tryz.f203 res n (initS pats ls) = F (RHead.dec ls) (RHead.dec (dropT 16 ls)) := by kernel_rfl
noncomputable def md (a0 : MHead) (a1 : MHead) : Bool := (bif (a1.fZone == a0.fZone) then (bif (a1.fEpoch == (IntKind.i64.wrap (a0.fEpoch + 1))) then (bif (a1.fPrev == (impl_HeadDigest.md a0)) then ((decide (a1.fTime ≥ a0.fTime)) : Bool) else (false : Bool)) else (false : Bool)) else (false : Bool))
def gd (a0 : MHead) (a1 : MHead) : Prop := (MHead.Sm (2 ^ 21) a0)
def rf (a : MHead × MHead) : RHead × RHead := ((MHead.r a.1), (MHead.r a.2))
theorem rf_inj (a b : MHead × MHead) (h : rf a = rf b) : a = b := by
  exact (Prod.ext (MHead.r_inj (congrArg (fun x => x.1) h)) (MHead.r_inj (congrArg (fun x => x.2) h)))
noncomputable def R (x0 : RHead) (x1 : RHead) : Option (Bool) := ofM rf (fun a => gd a.1 a.2) (fun a => (md a.1 a.2)) (x0, x1)
theorem R_eq {a0 : MHead} {a1 : MHead} (h : gd a0 a1) : R (MHead.r a0) (MHead.r a1) = some (md a0 a1) := ofM_eq (r := rf) (a := (a0, a1)) rf_inj h
theorem okF (a0 : MHead) (a1 : MHead) (hg : gd a0 a1) : F (MHead.r a0) (MHead.r a1) = ret ((md a0 a1) : Bool) := by
  unfold gd at hg
  have H0 := hg
  unfold F md
  try simp only [bytesL_map, List.length_map, toNat_nat, iAt_getD, bAt_getD, sAt_getD, lAt_getD, MHead.r_fZone, MHead.r_fEpoch, MHead.r_fTime, MHead.r_fPrev]
  refine bif_out (fun b : Bool => ret (b : Bool)) (fun c1 => ?_) (fun c1 => ?_)
  · have dc1 := c1
    try simp only [bne_eq_false_iff_eq, bne_iff_ne, beq_iff_eq, beq_eq_false_iff_ne, ne_eq, Bool.not_eq_true', Bool.not_eq_false'] at dc1
    refine bif_out (fun b : Bool => ret (b : Bool)) (fun c2 => ?_) (fun c2 => ?_)
    · have dc2 := c2
      try simp only [bne_eq_false_iff_eq, bne_iff_ne, beq_iff_eq, beq_eq_false_iff_ne, ne_eq, Bool.not_eq_true', Bool.not_eq_false'] at dc2
      refine call_to (impl_HeadDigest.md a0) ?_ ?_
      · have R_ := impl_HeadDigest.R_eq (a0 := a0) H0
        first | exact R_ | (simp only [List.map_append, List.map_cons, List.map_nil, List.cons_append, List.nil_append, iRow, sRow, bRow, lRow, List.map_set, bytesL_map, List.length_map, toNat_nat, iAt_getD, bAt_getD, sAt_getD, lAt_getD, MHead.r_fZone, MHead.r_fEpoch, MHead.r_fTime, MHead.r_fPrev] at R_ ⊢; first | exact R_ | (rw [← R_]; rfl))
      try simp only [bytesL_map, List.length_map, toNat_nat, iAt_getD, bAt_getD, sAt_getD, lAt_getD, MHead.r_fZone, MHead.r_fEpoch, MHead.r_fTime, MHead.r_fPrev]
      refine bif_out (fun b : Bool => ret (b : Bool)) (fun c3 => ?_) (fun c3 => ?_)
      · have dc3 := c3
        try simp only [bne_eq_false_iff_eq, bne_iff_ne, beq_iff_eq, beq_eq_false_iff_ne, ne_eq, Bool.not_eq_true', Bool.not_eq_false'] at dc3
        all_goals first | rfl | (simp only [bytesL_map, List.length_map, toNat_nat, iAt_getD, bAt_getD, sAt_getD, lAt_getD, MHead.r_fZone, MHead.r_fEpoch, MHead.r_fTime, MHead.r_fPrev]; done) | (simp only [List.map_append, List.map_cons, List.map_nil, List.cons_append, List.nil_append, iRow, sRow, bRow, lRow, List.map_set]; rfl) | (simp only [bytesL_map, List.length_map, toNat_nat, iAt_getD, bAt_getD, sAt_getD, lAt_getD, MHead.r_fZone, MHead.r_fEpoch, MHead.r_fTime, MHead.r_fPrev, List.map_append, List.map_cons, List.map_nil, List.cons_append, List.nil_append, iRow, sRow, bRow, lRow, List.map_set]; first | done | rfl)
      · have dc3 := c3
        try simp only [bne_eq_false_iff_eq, bne_iff_ne, beq_iff_eq, beq_eq_false_iff_ne, ne_eq, Bool.not_eq_true', Bool.not_eq_false'] at dc3
        all_goals first | rfl | (simp only [bytesL_map, List.length_map, toNat_nat, iAt_getD, bAt_getD, sAt_getD, lAt_getD, MHead.r_fZone, MHead.r_fEpoch, MHead.r_fTime, MHead.r_fPrev]; done) | (simp only [List.map_append, List.map_cons, List.map_nil, List.cons_append, List.nil_append, iRow, sRow, bRow, lRow, List.map_set]; rfl) | (simp only [bytesL_map, List.length_map, toNat_nat, iAt_getD, bAt_getD, sAt_getD, lAt_getD, MHead.r_fZone, MHead.r_fEpoch, MHead.r_fTime, MHead.r_fPrev, List.map_append, List.map_cons, List.map_nil, List.cons_append, List.nil_append, iRow, sRow, bRow, lRow, List.map_set]; first | done | rfl)
    · have dc2 := c2
      try simp only [bne_eq_false_iff_eq, bne_iff_ne, beq_iff_eq, beq_eq_false_iff_ne, ne_eq, Bool.not_eq_true', Bool.not_eq_false'] at dc2
      all_goals first | rfl | (simp only [bytesL_map, List.length_map, toNat_nat, iAt_getD, bAt_getD, sAt_getD, lAt_getD, MHead.r_fZone, MHead.r_fEpoch, MHead.r_fTime, MHead.r_fPrev]; done) | (simp only [List.map_append, List.map_cons, List.map_nil, List.cons_append, List.nil_append, iRow, sRow, bRow, lRow, List.map_set]; rfl) | (simp only [bytesL_map, List.length_map, toNat_nat, iAt_getD, bAt_getD, sAt_getD, lAt_getD, MHead.r_fZone, MHead.r_fEpoch, MHead.r_fTime, MHead.r_fPrev, List.map_append, List.map_cons, List.map_nil, List.cons_append, List.nil_append, iRow, sRow, bRow, lRow, List.map_set]; first | done | rfl)
  · have dc1 := c1
    try simp only [bne_eq_false_iff_eq, bne_iff_ne, beq_iff_eq, beq_eq_false_iff_ne, ne_eq, Bool.not_eq_true', Bool.not_eq_false'] at dc1
    all_goals first | rfl | (simp only [bytesL_map, List.length_map, toNat_nat, iAt_getD, bAt_getD, sAt_getD, lAt_getD, MHead.r_fZone, MHead.r_fEpoch, MHead.r_fTime, MHead.r_fPrev]; done) | (simp only [List.map_append, List.map_cons, List.map_nil, List.cons_append, List.nil_append, iRow, sRow, bRow, lRow, List.map_set]; rfl) | (simp only [bytesL_map, List.length_map, toNat_nat, iAt_getD, bAt_getD, sAt_getD, lAt_getD, MHead.r_fZone, MHead.r_fEpoch, MHead.r_fTime, MHead.r_fPrev, List.map_append, List.map_cons, List.map_nil, List.cons_append, List.nil_append, iRow, sRow, bRow, lRow, List.map_set]; first | done | rfl)
noncomputable def sem (ls : List L) : Option (List L) := (R (RHead.dec ls) (RHead.dec (dropT 16 ls))).map RT.enc
theorem ok (ls q : List L) (hl : LOKs Ev.cells pats ls) (h : sem ls = some q) : ∃ n, runF E live Tryz.f203 res n (initS pats ls) = some q := by
  obtain ⟨v, hv, hq⟩ := map_some h
  obtain ⟨⟨a0, a1⟩, hg, e, hm⟩ := ofM_some hv
  simp only [rf, Prod.mk.injEq] at e
  obtain ⟨e0, e1⟩ := e
  have hn := okF a0 a1 hg
  refine ⟨0, (run_eq 0 ls).trans ?_⟩
  rw [← e0, ← e1]
  rw [hn, ← hq, hm]; rfl
noncomputable def con : Con := ⟨pats, res, sem⟩
theorem chk : fnB Tryz.f203 con 32 = true := by kernel_rfl
theorem valid_ : Valid Tryz.prog Ev 203 con := valid mix tab_ok (.cons impl_HeadDigest.valid_ .nil) Tryz.func203 chk live ok
end impl_isNext
/-! impl.ownerCode -/
namespace impl_ownerCode
noncomputable def F (x0 : RHead) (x1 : RSigned) : Ans := (bif x0.fFrozen then ret (4 : Int) else (bif x1.fHead.fFrozen then ret (6 : Int) else (call (impl_Signed_isSignedBy.R x1 x0.fKeys) fun v1 => (bif (!v1) then ret (7 : Int) else ret (1 : Int)))))
def live : Nat → Live := fun _ => []
def pats : List Pat := [.agg [.int .i64, .int .i64, .int .i64, .int .i64, .int .i64, .int .i64, .int .i64, .int .i64, .sl 3, .int .i64, .sl 3, .int .i64, .int .i64, .sl 3, .int .i64, .bool], .agg [.int .i64, .int .i64, .int .i64, .int .i64, .int .i64, .int .i64, .int .i64, .int .i64, .sl 3, .int .i64, .sl 3, .int .i64, .int .i64, .sl 3, .int .i64, .bool, .sl 179]]
def res : RP := .one (.rd (.int .i64))
noncomputable def G : List (Nat × Con) := [(144, impl_Signed_isSignedBy.con)]
noncomputable abbrev E : Env := ⟨assoc Tab, conG G, 18⟩
set_option maxRecDepth 100000
theorem run_eq (n : Nat) (ls : List L) : runF E live Tryz.f204 res n (initS pats ls) = F (RHead.dec ls) (RSigned.dec (dropT 16 ls)) := by kernel_rfl
noncomputable def md (a0 : MHead) (a1 : MSigned) : Int := (bif a0.fFrozen then (4 : Int) else (bif a1.fHead.fFrozen then (6 : Int) else (bif (!(impl_Signed_isSignedBy.md a1 a0.fKeys)) then (7 : Int) else (1 : Int))))
def gd (a0 : MHead) (a1 : MSigned) : Prop := (MHead.Sm (2 ^ 21) a0) ∧ (MSigned.Sm (2 ^ 21) a1)
def rf (a : MHead × MSigned) : RHead × RSigned := ((MHead.r a.1), (MSigned.r a.2))
theorem rf_inj (a b : MHead × MSigned) (h : rf a = rf b) : a = b := by
  exact (Prod.ext (MHead.r_inj (congrArg (fun x => x.1) h)) (MSigned.r_inj (congrArg (fun x => x.2) h)))
noncomputable def R (x0 : RHead) (x1 : RSigned) : Option (Int) := ofM rf (fun a => gd a.1 a.2) (fun a => (md a.1 a.2)) (x0, x1)
theorem R_eq {a0 : MHead} {a1 : MSigned} (h : gd a0 a1) : R (MHead.r a0) (MSigned.r a1) = some (md a0 a1) := ofM_eq (r := rf) (a := (a0, a1)) rf_inj h
theorem okF (a0 : MHead) (a1 : MSigned) (hg : gd a0 a1) : F (MHead.r a0) (MSigned.r a1) = ret ((md a0 a1) : Int) := by
  unfold gd at hg
  obtain ⟨H0, H1⟩ := hg
  unfold F md
  try simp only [bytesL_map, List.length_map, toNat_nat, iAt_getD, bAt_getD, sAt_getD, lAt_getD, MHead.r_fKeys, MHead.r_fFrozen, MSigned.r_fHead]
  refine bif_out (fun b : Int => ret (b : Int)) (fun c1 => ?_) (fun c1 => ?_)
  · all_goals first | rfl | (simp only [bytesL_map, List.length_map, toNat_nat, iAt_getD, bAt_getD, sAt_getD, lAt_getD, MHead.r_fKeys, MHead.r_fFrozen, MSigned.r_fHead]; done) | (simp only [List.map_append, List.map_cons, List.map_nil, List.cons_append, List.nil_append, iRow, sRow, bRow, lRow, List.map_set]; rfl) | (simp only [bytesL_map, List.length_map, toNat_nat, iAt_getD, bAt_getD, sAt_getD, lAt_getD, MHead.r_fKeys, MHead.r_fFrozen, MSigned.r_fHead, List.map_append, List.map_cons, List.map_nil, List.cons_append, List.nil_append, iRow, sRow, bRow, lRow, List.map_set]; first | done | rfl)
  · refine bif_out (fun b : Int => ret (b : Int)) (fun c2 => ?_) (fun c2 => ?_)
    · all_goals first | rfl | (simp only [bytesL_map, List.length_map, toNat_nat, iAt_getD, bAt_getD, sAt_getD, lAt_getD, MHead.r_fKeys, MHead.r_fFrozen, MSigned.r_fHead]; done) | (simp only [List.map_append, List.map_cons, List.map_nil, List.cons_append, List.nil_append, iRow, sRow, bRow, lRow, List.map_set]; rfl) | (simp only [bytesL_map, List.length_map, toNat_nat, iAt_getD, bAt_getD, sAt_getD, lAt_getD, MHead.r_fKeys, MHead.r_fFrozen, MSigned.r_fHead, List.map_append, List.map_cons, List.map_nil, List.cons_append, List.nil_append, iRow, sRow, bRow, lRow, List.map_set]; first | done | rfl)
    · refine call_to (impl_Signed_isSignedBy.md a1 a0.fKeys) ?_ ?_
      · have R_ := impl_Signed_isSignedBy.R_eq (a0 := a1) (a1 := a0.fKeys) ⟨H1, H0.1⟩
        first | exact R_ | (simp only [List.map_append, List.map_cons, List.map_nil, List.cons_append, List.nil_append, iRow, sRow, bRow, lRow, List.map_set, bytesL_map, List.length_map, toNat_nat, iAt_getD, bAt_getD, sAt_getD, lAt_getD, MHead.r_fKeys, MHead.r_fFrozen, MSigned.r_fHead] at R_ ⊢; first | exact R_ | (rw [← R_]; rfl))
      try simp only [bytesL_map, List.length_map, toNat_nat, iAt_getD, bAt_getD, sAt_getD, lAt_getD, MHead.r_fKeys, MHead.r_fFrozen, MSigned.r_fHead]
      refine bif_out (fun b : Int => ret (b : Int)) (fun c3 => ?_) (fun c3 => ?_)
      · have dc3 := c3
        try simp only [bne_eq_false_iff_eq, bne_iff_ne, beq_iff_eq, beq_eq_false_iff_ne, ne_eq, Bool.not_eq_true', Bool.not_eq_false'] at dc3
        all_goals first | rfl | (simp only [bytesL_map, List.length_map, toNat_nat, iAt_getD, bAt_getD, sAt_getD, lAt_getD, MHead.r_fKeys, MHead.r_fFrozen, MSigned.r_fHead]; done) | (simp only [List.map_append, List.map_cons, List.map_nil, List.cons_append, List.nil_append, iRow, sRow, bRow, lRow, List.map_set]; rfl) | (simp only [bytesL_map, List.length_map, toNat_nat, iAt_getD, bAt_getD, sAt_getD, lAt_getD, MHead.r_fKeys, MHead.r_fFrozen, MSigned.r_fHead, List.map_append, List.map_cons, List.map_nil, List.cons_append, List.nil_append, iRow, sRow, bRow, lRow, List.map_set]; first | done | rfl)
      · have dc3 := c3
        try simp only [bne_eq_false_iff_eq, bne_iff_ne, beq_iff_eq, beq_eq_false_iff_ne, ne_eq, Bool.not_eq_true', Bool.not_eq_false'] at dc3
        all_goals first | rfl | (simp only [bytesL_map, List.length_map, toNat_nat, iAt_getD, bAt_getD, sAt_getD, lAt_getD, MHead.r_fKeys, MHead.r_fFrozen, MSigned.r_fHead]; done) | (simp only [List.map_append, List.map_cons, List.map_nil, List.cons_append, List.nil_append, iRow, sRow, bRow, lRow, List.map_set]; rfl) | (simp only [bytesL_map, List.length_map, toNat_nat, iAt_getD, bAt_getD, sAt_getD, lAt_getD, MHead.r_fKeys, MHead.r_fFrozen, MSigned.r_fHead, List.map_append, List.map_cons, List.map_nil, List.cons_append, List.nil_append, iRow, sRow, bRow, lRow, List.map_set]; first | done | rfl)
noncomputable def sem (ls : List L) : Option (List L) := (R (RHead.dec ls) (RSigned.dec (dropT 16 ls))).map RT.enc
theorem ok (ls q : List L) (hl : LOKs Ev.cells pats ls) (h : sem ls = some q) : ∃ n, runF E live Tryz.f204 res n (initS pats ls) = some q := by
  obtain ⟨v, hv, hq⟩ := map_some h
  obtain ⟨⟨a0, a1⟩, hg, e, hm⟩ := ofM_some hv
  simp only [rf, Prod.mk.injEq] at e
  obtain ⟨e0, e1⟩ := e
  have hn := okF a0 a1 hg
  refine ⟨0, (run_eq 0 ls).trans ?_⟩
  rw [← e0, ← e1]
  rw [hn, ← hq, hm]; rfl
noncomputable def con : Con := ⟨pats, res, sem⟩
theorem chk : fnB Tryz.f204 con 18 = true := by kernel_rfl
theorem valid_ : Valid Tryz.prog Ev 204 con := valid mix tab_ok (.cons impl_Signed_isSignedBy.valid_ .nil) Tryz.func204 chk live ok
end impl_ownerCode
/-! slices.Equal[[]int,int] -/
namespace slices_Equal_Sint_int
inductive Pt where
  | p0 (a : List (List L)) (b : List (List L)) (c : Int) (d : Int)
def pid : Pt → Nat
  | .p0 .. => 4
def pvs : Pt → List V
  | .p0 a b c d => [.sl none 3 a, .sl none 3 b, .int .i64 c, .int .i64 d]
def phs : Pt → List Root
  | .p0 a b c d => []
noncomputable def step (J : Pt → Ans) : Pt → Ans
  | .p0 a b c d => (bif (decide (d < c)) then (bif (decide ((0 : Int) ≤ d)) then (bif (decide (d < (a.length : Int))) then (bif (decide ((0 : Int) ≤ d)) then (bif (decide (d < (b.length : Int))) then (bif ((iAt a (Int.toNat d)) != (iAt b (Int.toNat d))) then ret (false : Bool) else J (.p0 a b c (IntKind.i64.wrap (d + 1)))) else none) else none) else none) else none) else ret (true : Bool))
noncomputable def start (J : Pt → Ans) (x0 : List (List L)) (x1 : List (List L)) : Ans := (bif ((x0.length : Int) != (x1.length : Int)) then ret (false : Bool) else J (.p0 x0 x1 (x0.length : Int) 0))
def live : Nat → Live := fun i => match i with | 4 => [(0, none), (1, none), (12, none), (13, none)] | _ => []
def pats : List Pat := [.rd (.sl 3), .rd (.sl 3)]
def res : RP := .one (.rd (.bool))
noncomputable def G : List (Nat × Con) := []
noncomputable abbrev E : Env := ⟨assoc Tab, conG G, 26⟩
set_option maxRecDepth 100000
theorem step_eq (I : Heads) (p : Pt) : enterC E live I (pid p) (bodyOf Tryz.f114) (stOf (live (pid p)) (pvs p) (phs p)) (doneK E Tryz.f114 res) = step (fun q => I (pid q) (pvs q) (phs q)) p := by
  cases p <;> kernel_rfl
theorem start_eq (I : Heads) (ls : List L) : runC E live I (bodyOf Tryz.f114) (initS pats ls) (doneK E Tryz.f114 res) = start (fun q => I (pid q) (pvs q) (phs q)) (ls.headD .hole).toSl ((dropT 1 ls).headD .hole).toSl := by kernel_rfl
theorem run_eq (n : Nat) (ls : List L) : runF E live Tryz.f114 res n (initS pats ls) = start (iter step n) (ls.headD .hole).toSl ((dropT 1 ls).headD .hole).toSl := runF_iter (id := pid) (vs := pvs) (hs := phs) (step := step) (start := fun J => start J (ls.headD .hole).toSl ((dropT 1 ls).headD .hole).toSl) step_eq (fun I => start_eq I ls) n
noncomputable def md (a0 : List Int) (a1 : List Int) : Bool := (bif ((a0.length : Int) != (a1.length : Int)) then (false : Bool) else (loopM (S := Unit) (β := Bool) (fun (i2 : Nat) (s4 : Unit) => (bif ((a0.getD i2 0) != (a1.getD i2 0)) then (.inr (false : Bool)) else (.inl ()))) (fun (s4 : Unit) => (true : Bool)) a0.length 0 ()))
def gd (a0 : List Int) (a1 : List Int) : Prop := (SmL (2 ^ 38) (fun y : Int => True) a0) ∧ (SmL (2 ^ 38) (fun y : Int => True) a1)
def rf (a : List Int × List Int) : List (List L) × List (List L) := ((a.1.map iRow), (a.2.map iRow))
theorem rf_inj (a b : List Int × List Int) (h : rf a = rf b) : a = b := by
  exact (Prod.ext (map_inj iRow_inj (congrArg (fun x => x.1) h)) (map_inj iRow_inj (congrArg (fun x => x.2) h)))
noncomputable def R (x0 : List (List L)) (x1 : List (List L)) : Option (Bool) := ofM rf (fun a => gd a.1 a.2) (fun a => (md a.1 a.2)) (x0, x1)
theorem R_eq {a0 : List Int} {a1 : List Int} (h : gd a0 a1) : R (a0.map iRow) (a1.map iRow) = some (md a0 a1) := ofM_eq (r := rf) (a := (a0, a1)) rf_inj h
theorem okF (a0 : List Int) (a1 : List Int) (hg : gd a0 a1) : ∃ n, start (iter step n) (a0.map iRow) (a1.map iRow) = ret ((md a0 a1) : Bool) := by
  unfold gd at hg
  obtain ⟨H0, H1⟩ := hg
  unfold start md
  try simp only [bytesL_map, List.length_map, toNat_nat, iAt_getD, bAt_getD, sAt_getD, lAt_getD]
  refine ex_bif (fun b : Bool => ret (b : Bool)) (fun c1 => ?_) (fun c1 => ?_)
  · have dc1 := c1
    try simp only [bne_eq_false_iff_eq, bne_iff_ne, beq_iff_eq, beq_eq_false_iff_ne, ne_eq, Bool.not_eq_true', Bool.not_eq_false'] at dc1
    refine ⟨0, ?_⟩
    all_goals first | rfl | (simp only [bytesL_map, List.length_map, toNat_nat, iAt_getD, bAt_getD, sAt_getD, lAt_getD]; done) | (simp only [List.map_append, List.map_cons, List.map_nil, List.cons_append, List.nil_append, iRow, sRow, bRow, lRow, List.map_set]; rfl) | (simp only [bytesL_map, List.length_map, toNat_nat, iAt_getD, bAt_getD, sAt_getD, lAt_getD, List.map_append, List.map_cons, List.map_nil, List.cons_append, List.nil_append, iRow, sRow, bRow, lRow, List.map_set]; first | done | rfl)
  · have dc1 := c1
    try simp only [bne_eq_false_iff_eq, bne_iff_ne, beq_iff_eq, beq_eq_false_iff_ne, ne_eq, Bool.not_eq_true', Bool.not_eq_false'] at dc1
    have Bh3 : a0.length ≤ maxLen := (by
        have := (H0).1
        try simp only [maxLen] at *
        omega)
    refine ex_pt (p := Pt.p0 (a0.map iRow) (a1.map iRow) (a0.length : Int) 0) (by first | rfl | (simp only [bytesL_map, List.length_map, toNat_nat, iAt_getD, bAt_getD, sAt_getD, lAt_getD, List.map_append, List.map_cons, List.map_nil, List.cons_append, List.nil_append, iRow, sRow, bRow, lRow, List.map_set]; done) | (simp only [List.map_append, List.map_cons, List.map_nil, List.cons_append, List.nil_append, iRow, sRow, bRow, lRow, List.map_set]; rfl)) ?_
    refine loopM_ok (pt := fun (i2 : Nat) (s4 : Unit) => Pt.p0 (a0.map iRow) (a1.map iRow) (a0.length : Int) (i2 : Int)) (s := (() : Unit)) (out := (fun b : Bool => ret (b : Bool))) (fun _ _ => True) (fun J i2 s4 h3 hih3 => ?_) (fun s4 hih3 => ?_) trivial
    · simp only [step, bytesL_map, List.length_map, toNat_nat, iAt_getD, bAt_getD, sAt_getD, lAt_getD]
      have bb_ := Bh3
      simp only [maxLen] at bb_
      have := (H0).1
      refine Rnd.yes (by apply decide_eq_true; omega) ?_
      refine Rnd.yes (by
          refine decide_eq_true ?_
          try simp (disch := omega) only [List.sum_cons, List.sum_nil, List.map_cons, List.map_nil, bytesI_length, bytesL_length, List.length_append, List.length_cons, List.length_nil, List.length_map, List.length_set, List.length_replicate, List.length_take, List.length_drop, Go.IntWalk.i64_in]
          first | omega | (simp; done) | (simp; omega)) ?_
      refine Rnd.yes (by
          have := (H0).1
          refine decide_eq_true ?_
          try simp (disch := omega) only [List.sum_cons, List.sum_nil, List.map_cons, List.map_nil, bytesI_length, bytesL_length, List.length_append, List.length_cons, List.length_nil, List.length_map, List.length_set, List.length_replicate, List.length_take, List.length_drop, Go.IntWalk.i64_in]
          first | omega | (simp; done) | (simp; omega)) ?_
      refine Rnd.yes (by
          refine decide_eq_true ?_
          try simp (disch := omega) only [List.sum_cons, List.sum_nil, List.map_cons, List.map_nil, bytesI_length, bytesL_length, List.length_append, List.length_cons, List.length_nil, List.length_map, List.length_set, List.length_replicate, List.length_take, List.length_drop, Go.IntWalk.i64_in]
          first | omega | (simp; done) | (simp; omega)) ?_
      refine Rnd.yes (by
          have := (H1).1
          refine decide_eq_true ?_
          try simp (disch := omega) only [List.sum_cons, List.sum_nil, List.map_cons, List.map_nil, bytesI_length, bytesL_length, List.length_append, List.length_cons, List.length_nil, List.length_map, List.length_set, List.length_replicate, List.length_take, List.length_drop, Go.IntWalk.i64_in]
          first | omega | (simp; done) | (simp; omega)) ?_
      refine Rnd.bif (fun c5 => ?_) (fun c5 => ?_)
      · have dc5 := c5
        try simp only [bne_eq_false_iff_eq, bne_iff_ne, beq_iff_eq, beq_eq_false_iff_ne, ne_eq, Bool.not_eq_true', Bool.not_eq_false'] at dc5
        refine Rnd.inr ?_
        all_goals first | rfl | (simp only [bytesL_map, List.length_map, toNat_nat, iAt_getD, bAt_getD, sAt_getD, lAt_getD]; done) | (simp only [List.map_append, List.map_cons, List.map_nil, List.cons_append, List.nil_append, iRow, sRow, bRow, lRow, List.map_set]; rfl) | (simp only [bytesL_map, List.length_map, toNat_nat, iAt_getD, bAt_getD, sAt_getD, lAt_getD, List.map_append, List.map_cons, List.map_nil, List.cons_append, List.nil_append, iRow, sRow, bRow, lRow, List.map_set]; first | done | rfl)
      · have dc5 := c5
        try simp only [bne_eq_false_iff_eq, bne_iff_ne, beq_iff_eq, beq_eq_false_iff_ne, ne_eq, Bool.not_eq_true', Bool.not_eq_false'] at dc5
        refine Rnd.inl trivial ?_
        rw [wrap_succ h3 Bh3]
        all_goals first | rfl | (simp only [bytesL_map, List.length_map, toNat_nat, iAt_getD, bAt_getD, sAt_getD, lAt_getD]; done) | (simp only [List.map_append, List.map_cons, List.map_nil, List.cons_append, List.nil_append, iRow, sRow, bRow, lRow, List.map_set]; rfl) | (simp only [bytesL_map, List.length_map, toNat_nat, iAt_getD, bAt_getD, sAt_getD, lAt_getD, List.map_append, List.map_cons, List.map_nil, List.cons_append, List.nil_append, iRow, sRow, bRow, lRow, List.map_set]; first | done | rfl)
    · simp only [step, bytesL_map, List.length_map, toNat_nat, iAt_getD, bAt_getD, sAt_getD, lAt_getD]
      have := (H0).1
      refine ex_no (by apply decide_eq_false; omega) ?_
      refine ⟨0, ?_⟩
      all_goals first | rfl | (simp only [bytesL_map, List.length_map, toNat_nat, iAt_getD, bAt_getD, sAt_getD, lAt_getD]; done) | (simp only [List.map_append, List.map_cons, List.map_nil, List.cons_append, List.nil_append, iRow, sRow, bRow, lRow, List.map_set]; rfl) | (simp only [bytesL_map, List.length_map, toNat_nat, iAt_getD, bAt_getD, sAt_getD, lAt_getD, List.map_append, List.map_cons, List.map_nil, List.cons_append, List.nil_append, iRow, sRow, bRow, lRow, List.map_set]; first | done | rfl)
noncomputable def sem (ls : List L) : Option (List L) := (R (ls.headD .hole).toSl ((dropT 1 ls).headD .hole).toSl).map RT.enc
theorem ok (ls q : List L) (hl : LOKs Ev.cells pats ls) (h : sem ls = some q) : ∃ n, runF E live Tryz.f114 res n (initS pats ls) = some q := by
  obtain ⟨v, hv, hq⟩ := map_some h
  obtain ⟨⟨a0, a1⟩, hg, e, hm⟩ := ofM_some hv
  simp only [rf, Prod.mk.injEq] at e
  obtain ⟨e0, e1⟩ := e
  obtain ⟨n, hn⟩ := okF a0 a1 hg
  refine ⟨n, (run_eq n ls).trans ?_⟩
  rw [← e0, ← e1]
  rw [hn, ← hq, hm]; rfl
noncomputable def con : Con := ⟨pats, res, sem⟩
theorem chk : fnB Tryz.f114 con 26 = true := by kernel_rfl
theorem valid_ : Valid Tryz.prog Ev 114 con := valid mix tab_ok .nil Tryz.func114 chk live ok
theorem md_eq (a0 : List Int) (a1 : List Int) : md a0 a1 = eqB a0 a1 := by
  unfold md
  refine loop_eqB (0) (fun i s h h2 => ?_) (fun s => rfl)
  simp only [bne, int_beq, bool_beq, ba_beq]
  cases eqB _ _ <;> rfl
end slices_Equal_Sint_int
/-! impl.EqualKeys -/
namespace impl_EqualKeys
noncomputable def F (x0 : RKeys) (x1 : RKeys) : Ans := (call (slices_Equal_Sint_int.R x0.fList x1.fList) fun v1 => (bif v1 then ret ((x0.fNeed == x1.fNeed) : Bool) else ret (false : Bool)))
def live : Nat → Live := fun _ => []
def pats : List Pat := [.agg [.sl 3, .int .i64], .agg [.sl 3, .int .i64]]
def res : RP := .one (.rd (.bool))
noncomputable def G : List (Nat × Con) := [(114, slices_Equal_Sint_int.con)]
noncomputable abbrev E : Env := ⟨assoc Tab, conG G, 17⟩
set_option maxRecDepth 100000
theorem run_eq (n : Nat) (ls : List L) : runF E live Tryz.f139 res n (initS pats ls) = F (RKeys.dec ls) (RKeys.dec (dropT 2 ls)) := by kernel_rfl
noncomputable def md (a0 : MKeys) (a1 : MKeys) : Bool := (bif (slices_Equal_Sint_int.md a0.fList a1.fList) then ((a0.fNeed == a1.fNeed) : Bool) else (false : Bool))
def gd (a0 : MKeys) (a1 : MKeys) : Prop := (MKeys.Sm (2 ^ 21) a0) ∧ (MKeys.Sm (2 ^ 21) a1)
def rf (a : MKeys × MKeys) : RKeys × RKeys := ((MKeys.r a.1), (MKeys.r a.2))
theorem rf_inj (a b : MKeys × MKeys) (h : rf a = rf b) : a = b := by
  exact (Prod.ext (MKeys.r_inj (congrArg (fun x => x.1) h)) (MKeys.r_inj (congrArg (fun x => x.2) h)))
noncomputable def R (x0 : RKeys) (x1 : RKeys) : Option (Bool) := ofM rf (fun a => gd a.1 a.2) (fun a => (md a.1 a.2)) (x0, x1)
theorem R_eq {a0 : MKeys} {a1 : MKeys} (h : gd a0 a1) : R (MKeys.r a0) (MKeys.r a1) = some (md a0 a1) := ofM_eq (r := rf) (a := (a0, a1)) rf_inj h
theorem okF (a0 : MKeys) (a1 : MKeys) (hg : gd a0 a1) : F (MKeys.r a0) (MKeys.r a1) = ret ((md a0 a1) : Bool) := by
  unfold gd at hg
  obtain ⟨H0, H1⟩ := hg
  unfold F md
  try simp only [bytesL_map, List.length_map, toNat_nat, iAt_getD, bAt_getD, sAt_getD, lAt_getD, MKeys.r_fList, MKeys.r_fNeed]
  refine call_to (slices_Equal_Sint_int.md a0.fList a1.fList) ?_ ?_
  · have R_ := slices_Equal_Sint_int.R_eq (a0 := a0.fList) (a1 := a1.fList) ⟨(H0.mono (by decide) (fun x hx => trivial)), (H1.mono (by decide) (fun x hx => trivial))⟩
    first | exact R_ | (simp only [List.map_append, List.map_cons, List.map_nil, List.cons_append, List.nil_append, iRow, sRow, bRow, lRow, List.map_set, bytesL_map, List.length_map, toNat_nat, iAt_getD, bAt_getD, sAt_getD, lAt_getD, MKeys.r_fList, MKeys.r_fNeed] at R_ ⊢; first | exact R_ | (rw [← R_]; rfl))
  try simp only [bytesL_map, List.length_map, toNat_nat, iAt_getD, bAt_getD, sAt_getD, lAt_getD, MKeys.r_fList, MKeys.r_fNeed]
  refine bif_out (fun b : Bool => ret (b : Bool)) (fun c1 => ?_) (fun c1 => ?_)
  · all_goals first | rfl | (simp only [bytesL_map, List.length_map, toNat_nat, iAt_getD, bAt_getD, sAt_getD, lAt_getD, MKeys.r_fList, MKeys.r_fNeed]; done) | (simp only [List.map_append, List.map_cons, List.map_nil, List.cons_append, List.nil_append, iRow, sRow, bRow, lRow, List.map_set]; rfl) | (simp only [bytesL_map, List.length_map, toNat_nat, iAt_getD, bAt_getD, sAt_getD, lAt_getD, MKeys.r_fList, MKeys.r_fNeed, List.map_append, List.map_cons, List.map_nil, List.cons_append, List.nil_append, iRow, sRow, bRow, lRow, List.map_set]; first | done | rfl)
  · all_goals first | rfl | (simp only [bytesL_map, List.length_map, toNat_nat, iAt_getD, bAt_getD, sAt_getD, lAt_getD, MKeys.r_fList, MKeys.r_fNeed]; done) | (simp only [List.map_append, List.map_cons, List.map_nil, List.cons_append, List.nil_append, iRow, sRow, bRow, lRow, List.map_set]; rfl) | (simp only [bytesL_map, List.length_map, toNat_nat, iAt_getD, bAt_getD, sAt_getD, lAt_getD, MKeys.r_fList, MKeys.r_fNeed, List.map_append, List.map_cons, List.map_nil, List.cons_append, List.nil_append, iRow, sRow, bRow, lRow, List.map_set]; first | done | rfl)
noncomputable def sem (ls : List L) : Option (List L) := (R (RKeys.dec ls) (RKeys.dec (dropT 2 ls))).map RT.enc
theorem ok (ls q : List L) (hl : LOKs Ev.cells pats ls) (h : sem ls = some q) : ∃ n, runF E live Tryz.f139 res n (initS pats ls) = some q := by
  obtain ⟨v, hv, hq⟩ := map_some h
  obtain ⟨⟨a0, a1⟩, hg, e, hm⟩ := ofM_some hv
  simp only [rf, Prod.mk.injEq] at e
  obtain ⟨e0, e1⟩ := e
  have hn := okF a0 a1 hg
  refine ⟨0, (run_eq 0 ls).trans ?_⟩
  rw [← e0, ← e1]
  rw [hn, ← hq, hm]; rfl
noncomputable def con : Con := ⟨pats, res, sem⟩
theorem chk : fnB Tryz.f139 con 17 = true := by kernel_rfl
theorem valid_ : Valid Tryz.prog Ev 139 con := valid mix tab_ok (.cons slices_Equal_Sint_int.valid_ .nil) Tryz.func139 chk live ok
theorem md_eq (a0 : MKeys) (a1 : MKeys) : md a0 a1 = eqB a0 a1 := by
  unfold md
  cases a0; cases a1
  rw [Bool.eq_iff_iff]
  simp [eqB_iff, ba_beq, MKeys.mk.injEq, slices_Equal_Sint_int.md_eq]
  try (constructor <;> (intro h; simp_all))
end impl_EqualKeys
/-! impl.SameContents -/
namespace impl_SameContents
noncomputable def F (x0 : RHead) (x1 : RHead) : Ans := (bif (x0.fCount == x1.fCount) then ret ((x0.fRoot == x1.fRoot) : Bool) else ret (false : Bool))
def live : Nat → Live := fun _ => []
def pats : List Pat := [.agg [.int .i64, .int .i64, .int .i64, .int .i64, .int .i64, .int .i64, .int .i64, .int .i64, .sl 3, .int .i64, .sl 3, .int .i64, .int .i64, .sl 3, .int .i64, .bool], .agg [.int .i64, .int .i64, .int .i64, .int .i64, .int .i64, .int .i64, .int .i64, .int .i64, .sl 3, .int .i64, .sl 3, .int .i64, .int .i64, .sl 3, .int .i64, .bool]]
def res : RP := .one (.rd (.bool))
noncomputable def G : List (Nat × Con) := []
noncomputable abbrev E : Env := ⟨assoc Tab, conG G, 17⟩
set_option maxRecDepth 100000
theorem run_eq (n : Nat) (ls : List L) : runF E live Tryz.f245 res n (initS pats ls) = F (RHead.dec ls) (RHead.dec (dropT 16 ls)) := by kernel_rfl
noncomputable def md (a0 : MHead) (a1 : MHead) : Bool := (bif (a0.fCount == a1.fCount) then ((a0.fRoot == a1.fRoot) : Bool) else (false : Bool))
def gd (a0 : MHead) (a1 : MHead) : Prop := True
def rf (a : MHead × MHead) : RHead × RHead := ((MHead.r a.1), (MHead.r a.2))
theorem rf_inj (a b : MHead × MHead) (h : rf a = rf b) : a = b := by
  exact (Prod.ext (MHead.r_inj (congrArg (fun x => x.1) h)) (MHead.r_inj (congrArg (fun x => x.2) h)))
noncomputable def R (x0 : RHead) (x1 : RHead) : Option (Bool) := ofM rf (fun a => gd a.1 a.2) (fun a => (md a.1 a.2)) (x0, x1)
theorem R_eq {a0 : MHead} {a1 : MHead} (h : gd a0 a1) : R (MHead.r a0) (MHead.r a1) = some (md a0 a1) := ofM_eq (r := rf) (a := (a0, a1)) rf_inj h
theorem okF (a0 : MHead) (a1 : MHead) (hg : gd a0 a1) : F (MHead.r a0) (MHead.r a1) = ret ((md a0 a1) : Bool) := by
  unfold F md
  try simp only [bytesL_map, List.length_map, toNat_nat, iAt_getD, bAt_getD, sAt_getD, lAt_getD, MHead.r_fCount, MHead.r_fRoot]
  refine bif_out (fun b : Bool => ret (b : Bool)) (fun c1 => ?_) (fun c1 => ?_)
  · have dc1 := c1
    try simp only [bne_eq_false_iff_eq, bne_iff_ne, beq_iff_eq, beq_eq_false_iff_ne, ne_eq, Bool.not_eq_true', Bool.not_eq_false'] at dc1
    all_goals first | rfl | (simp only [bytesL_map, List.length_map, toNat_nat, iAt_getD, bAt_getD, sAt_getD, lAt_getD, MHead.r_fCount, MHead.r_fRoot]; done) | (simp only [List.map_append, List.map_cons, List.map_nil, List.cons_append, List.nil_append, iRow, sRow, bRow, lRow, List.map_set]; rfl) | (simp only [bytesL_map, List.length_map, toNat_nat, iAt_getD, bAt_getD, sAt_getD, lAt_getD, MHead.r_fCount, MHead.r_fRoot, List.map_append, List.map_cons, List.map_nil, List.cons_append, List.nil_append, iRow, sRow, bRow, lRow, List.map_set]; first | done | rfl)
  · have dc1 := c1
    try simp only [bne_eq_false_iff_eq, bne_iff_ne, beq_iff_eq, beq_eq_false_iff_ne, ne_eq, Bool.not_eq_true', Bool.not_eq_false'] at dc1
    all_goals first | rfl | (simp only [bytesL_map, List.length_map, toNat_nat, iAt_getD, bAt_getD, sAt_getD, lAt_getD, MHead.r_fCount, MHead.r_fRoot]; done) | (simp only [List.map_append, List.map_cons, List.map_nil, List.cons_append, List.nil_append, iRow, sRow, bRow, lRow, List.map_set]; rfl) | (simp only [bytesL_map, List.length_map, toNat_nat, iAt_getD, bAt_getD, sAt_getD, lAt_getD, MHead.r_fCount, MHead.r_fRoot, List.map_append, List.map_cons, List.map_nil, List.cons_append, List.nil_append, iRow, sRow, bRow, lRow, List.map_set]; first | done | rfl)
noncomputable def sem (ls : List L) : Option (List L) := (R (RHead.dec ls) (RHead.dec (dropT 16 ls))).map RT.enc
theorem ok (ls q : List L) (hl : LOKs Ev.cells pats ls) (h : sem ls = some q) : ∃ n, runF E live Tryz.f245 res n (initS pats ls) = some q := by
  obtain ⟨v, hv, hq⟩ := map_some h
  obtain ⟨⟨a0, a1⟩, hg, e, hm⟩ := ofM_some hv
  simp only [rf, Prod.mk.injEq] at e
  obtain ⟨e0, e1⟩ := e
  have hn := okF a0 a1 hg
  refine ⟨0, (run_eq 0 ls).trans ?_⟩
  rw [← e0, ← e1]
  rw [hn, ← hq, hm]; rfl
noncomputable def con : Con := ⟨pats, res, sem⟩
theorem chk : fnB Tryz.f245 con 17 = true := by kernel_rfl
theorem valid_ : Valid Tryz.prog Ev 245 con := valid mix tab_ok .nil Tryz.func245 chk live ok
theorem br (a0 : MHead) (a1 : MHead) : md a0 a1 = spec_SameContents.md a0 a1 := by
  unfold md spec_SameContents.md
  first
  | (simp only [id]; done)
  | (simp only [id]; rfl)
  | rfl
end impl_SameContents
/-! impl.heirCode -/
namespace impl_heirCode
noncomputable def F (x0 : RHead) (x1 : RSigned) : Ans := (bif x0.fFrozen then ret (4 : Int) else (call (impl_NoKeys.R x0.fHeirs) fun v1 => (bif v1 then ret (5 : Int) else (bif (decide (x1.fHead.fTime < (IntKind.i64.wrap (x0.fUntil + x0.fWait)))) then ret (5 : Int) else (bif x1.fHead.fFrozen then ret (6 : Int) else (call (impl_EqualKeys.R x1.fHead.fKeys x0.fHeirs) fun v2 => (bif (!v2) then ret (6 : Int) else (call (impl_SameContents.R x1.fHead x0) fun v3 => (bif (!v3) then ret (6 : Int) else (call (impl_Signed_isSignedBy.R x1 x0.fHeirs) fun v4 => (bif (!v4) then ret (7 : Int) else ret (1 : Int))))))))))))
def live : Nat → Live := fun _ => []
def pats : List Pat := [.agg [.int .i64, .int .i64, .int .i64, .int .i64, .int .i64, .int .i64, .int .i64, .int .i64, .sl 3, .int .i64, .sl 3, .int .i64, .int .i64, .sl 3, .int .i64, .bool], .agg [.int .i64, .int .i64, .int .i64, .int .i64, .int .i64, .int .i64, .int .i64, .int .i64, .sl 3, .int .i64, .sl 3, .int .i64, .int .i64, .sl 3, .int .i64, .bool, .sl 179]]
def res : RP := .one (.rd (.int .i64))
noncomputable def G : List (Nat × Con) := [(200, impl_NoKeys.con), (139, impl_EqualKeys.con), (245, impl_SameContents.con), (144, impl_Signed_isSignedBy.con)]
noncomputable abbrev E : Env := ⟨assoc Tab, conG G, 48⟩
set_option maxRecDepth 100000
theorem run_eq (n : Nat) (ls : List L) : runF E live Tryz.f205 res n (initS pats ls) = F (RHead.dec ls) (RSigned.dec (dropT 16 ls)) := by kernel_rfl
noncomputable def md (a0 : MHead) (a1 : MSigned) : Int := (bif a0.fFrozen then (4 : Int) else (bif (impl_NoKeys.md a0.fHeirs) then (5 : Int) else (bif (decide (a1.fHead.fTime < (IntKind.i64.wrap (a0.fUntil + a0.fWait)))) then (5 : Int) else (bif a1.fHead.fFrozen then (6 : Int) else (bif (!(impl_EqualKeys.md a1.fHead.fKeys a0.fHeirs)) then (6 : Int) else (bif (!(impl_SameContents.md a1.fHead a0)) then (6 : Int) else (bif (!(impl_Signed_isSignedBy.md a1 a0.fHeirs)) then (7 : Int) else (1 : Int))))))))
def gd (a0 : MHead) (a1 : MSigned) : Prop := (MHead.Sm (2 ^ 21) a0) ∧ (MSigned.Sm (2 ^ 21) a1)
def rf (a : MHead × MSigned) : RHead × RSigned := ((MHead.r a.1), (MSigned.r a.2))
theorem rf_inj (a b : MHead × MSigned) (h : rf a = rf b) : a = b := by
  exact (Prod.ext (MHead.r_inj (congrArg (fun x => x.1) h)) (MSigned.r_inj (congrArg (fun x => x.2) h)))
noncomputable def R (x0 : RHead) (x1 : RSigned) : Option (Int) := ofM rf (fun a => gd a.1 a.2) (fun a => (md a.1 a.2)) (x0, x1)
theorem R_eq {a0 : MHead} {a1 : MSigned} (h : gd a0 a1) : R (MHead.r a0) (MSigned.r a1) = some (md a0 a1) := ofM_eq (r := rf) (a := (a0, a1)) rf_inj h
theorem okF (a0 : MHead) (a1 : MSigned) (hg : gd a0 a1) : F (MHead.r a0) (MSigned.r a1) = ret ((md a0 a1) : Int) := by
  unfold gd at hg
  obtain ⟨H0, H1⟩ := hg
  unfold F md
  try simp only [bytesL_map, List.length_map, toNat_nat, iAt_getD, bAt_getD, sAt_getD, lAt_getD, MHead.r_fTime, MHead.r_fUntil, MHead.r_fKeys, MHead.r_fHeirs, MHead.r_fWait, MHead.r_fFrozen, MSigned.r_fHead]
  refine bif_out (fun b : Int => ret (b : Int)) (fun c1 => ?_) (fun c1 => ?_)
  · all_goals first | rfl | (simp only [bytesL_map, List.length_map, toNat_nat, iAt_getD, bAt_getD, sAt_getD, lAt_getD, MHead.r_fTime, MHead.r_fUntil, MHead.r_fKeys, MHead.r_fHeirs, MHead.r_fWait, MHead.r_fFrozen, MSigned.r_fHead]; done) | (simp only [List.map_append, List.map_cons, List.map_nil, List.cons_append, List.nil_append, iRow, sRow, bRow, lRow, List.map_set]; rfl) | (simp only [bytesL_map, List.length_map, toNat_nat, iAt_getD, bAt_getD, sAt_getD, lAt_getD, MHead.r_fTime, MHead.r_fUntil, MHead.r_fKeys, MHead.r_fHeirs, MHead.r_fWait, MHead.r_fFrozen, MSigned.r_fHead, List.map_append, List.map_cons, List.map_nil, List.cons_append, List.nil_append, iRow, sRow, bRow, lRow, List.map_set]; first | done | rfl)
  · refine call_to (impl_NoKeys.md a0.fHeirs) ?_ ?_
    · have R_ := impl_NoKeys.R_eq (a0 := a0.fHeirs) trivial
      first | exact R_ | (simp only [List.map_append, List.map_cons, List.map_nil, List.cons_append, List.nil_append, iRow, sRow, bRow, lRow, List.map_set, bytesL_map, List.length_map, toNat_nat, iAt_getD, bAt_getD, sAt_getD, lAt_getD, MHead.r_fTime, MHead.r_fUntil, MHead.r_fKeys, MHead.r_fHeirs, MHead.r_fWait, MHead.r_fFrozen, MSigned.r_fHead] at R_ ⊢; first | exact R_ | (rw [← R_]; rfl))
    try simp only [bytesL_map, List.length_map, toNat_nat, iAt_getD, bAt_getD, sAt_getD, lAt_getD, MHead.r_fTime, MHead.r_fUntil, MHead.r_fKeys, MHead.r_fHeirs, MHead.r_fWait, MHead.r_fFrozen, MSigned.r_fHead]
    refine bif_out (fun b : Int => ret (b : Int)) (fun c2 => ?_) (fun c2 => ?_)
    · all_goals first | rfl | (simp only [bytesL_map, List.length_map, toNat_nat, iAt_getD, bAt_getD, sAt_getD, lAt_getD, MHead.r_fTime, MHead.r_fUntil, MHead.r_fKeys, MHead.r_fHeirs, MHead.r_fWait, MHead.r_fFrozen, MSigned.r_fHead]; done) | (simp only [List.map_append, List.map_cons, List.map_nil, List.cons_append, List.nil_append, iRow, sRow, bRow, lRow, List.map_set]; rfl) | (simp only [bytesL_map, List.length_map, toNat_nat, iAt_getD, bAt_getD, sAt_getD, lAt_getD, MHead.r_fTime, MHead.r_fUntil, MHead.r_fKeys, MHead.r_fHeirs, MHead.r_fWait, MHead.r_fFrozen, MSigned.r_fHead, List.map_append, List.map_cons, List.map_nil, List.cons_append, List.nil_append, iRow, sRow, bRow, lRow, List.map_set]; first | done | rfl)
    · refine bif_out (fun b : Int => ret (b : Int)) (fun c3 => ?_) (fun c3 => ?_)
      · have dc3 := c3
        simp only [decide_eq_true_eq, decide_eq_false_iff_not] at dc3
        all_goals first | rfl | (simp only [bytesL_map, List.length_map, toNat_nat, iAt_getD, bAt_getD, sAt_getD, lAt_getD, MHead.r_fTime, MHead.r_fUntil, MHead.r_fKeys, MHead.r_fHeirs, MHead.r_fWait, MHead.r_fFrozen, MSigned.r_fHead]; done) | (simp only [List.map_append, List.map_cons, List.map_nil, List.cons_append, List.nil_append, iRow, sRow, bRow, lRow, List.map_set]; rfl) | (simp only [bytesL_map, List.length_map, toNat_nat, iAt_getD, bAt_getD, sAt_getD, lAt_getD, MHead.r_fTime, MHead.r_fUntil, MHead.r_fKeys, MHead.r_fHeirs, MHead.r_fWait, MHead.r_fFrozen, MSigned.r_fHead, List.map_append, List.map_cons, List.map_nil, List.cons_append, List.nil_append, iRow, sRow, bRow, lRow, List.map_set]; first | done | rfl)
      · have dc3 := c3
        simp only [decide_eq_true_eq, decide_eq_false_iff_not] at dc3
        refine bif_out (fun b : Int => ret (b : Int)) (fun c4 => ?_) (fun c4 => ?_)
        · all_goals first | rfl | (simp only [bytesL_map, List.length_map, toNat_nat, iAt_getD, bAt_getD, sAt_getD, lAt_getD, MHead.r_fTime, MHead.r_fUntil, MHead.r_fKeys, MHead.r_fHeirs, MHead.r_fWait, MHead.r_fFrozen, MSigned.r_fHead]; done) | (simp only [List.map_append, List.map_cons, List.map_nil, List.cons_append, List.nil_append, iRow, sRow, bRow, lRow, List.map_set]; rfl) | (simp only [bytesL_map, List.length_map, toNat_nat, iAt_getD, bAt_getD, sAt_getD, lAt_getD, MHead.r_fTime, MHead.r_fUntil, MHead.r_fKeys, MHead.r_fHeirs, MHead.r_fWait, MHead.r_fFrozen, MSigned.r_fHead, List.map_append, List.map_cons, List.map_nil, List.cons_append, List.nil_append, iRow, sRow, bRow, lRow, List.map_set]; first | done | rfl)
        · refine call_to (impl_EqualKeys.md a1.fHead.fKeys a0.fHeirs) ?_ ?_
          · have R_ := impl_EqualKeys.R_eq (a0 := a1.fHead.fKeys) (a1 := a0.fHeirs) ⟨H1.1.1, H0.2.1⟩
            first | exact R_ | (simp only [List.map_append, List.map_cons, List.map_nil, List.cons_append, List.nil_append, iRow, sRow, bRow, lRow, List.map_set, bytesL_map, List.length_map, toNat_nat, iAt_getD, bAt_getD, sAt_getD, lAt_getD, MHead.r_fTime, MHead.r_fUntil, MHead.r_fKeys, MHead.r_fHeirs, MHead.r_fWait, MHead.r_fFrozen, MSigned.r_fHead] at R_ ⊢; first | exact R_ | (rw [← R_]; rfl))
          try simp only [bytesL_map, List.length_map, toNat_nat, iAt_getD, bAt_getD, sAt_getD, lAt_getD, MHead.r_fTime, MHead.r_fUntil, MHead.r_fKeys, MHead.r_fHeirs, MHead.r_fWait, MHead.r_fFrozen, MSigned.r_fHead]
          refine bif_out (fun b : Int => ret (b : Int)) (fun c5 => ?_) (fun c5 => ?_)
          · have dc5 := c5
            try simp only [bne_eq_false_iff_eq, bne_iff_ne, beq_iff_eq, beq_eq_false_iff_ne, ne_eq, Bool.not_eq_true', Bool.not_eq_false'] at dc5
            all_goals first | rfl | (simp only [bytesL_map, List.length_map, toNat_nat, iAt_getD, bAt_getD, sAt_getD, lAt_getD, MHead.r_fTime, MHead.r_fUntil, MHead.r_fKeys, MHead.r_fHeirs, MHead.r_fWait, MHead.r_fFrozen, MSigned.r_fHead]; done) | (simp only [List.map_append, List.map_cons, List.map_nil, List.cons_append, List.nil_append, iRow, sRow, bRow, lRow, List.map_set]; rfl) | (simp only [bytesL_map, List.length_map, toNat_nat, iAt_getD, bAt_getD, sAt_getD, lAt_getD, MHead.r_fTime, MHead.r_fUntil, MHead.r_fKeys, MHead.r_fHeirs, MHead.r_fWait, MHead.r_fFrozen, MSigned.r_fHead, List.map_append, List.map_cons, List.map_nil, List.cons_append, List.nil_append, iRow, sRow, bRow, lRow, List.map_set]; first | done | rfl)
          · have dc5 := c5
            try simp only [bne_eq_false_iff_eq, bne_iff_ne, beq_iff_eq, beq_eq_false_iff_ne, ne_eq, Bool.not_eq_true', Bool.not_eq_false'] at dc5
            refine call_to (impl_SameContents.md a1.fHead a0) ?_ ?_
            · have R_ := impl_SameContents.R_eq (a0 := a1.fHead) (a1 := a0) trivial
              first | exact R_ | (simp only [List.map_append, List.map_cons, List.map_nil, List.cons_append, List.nil_append, iRow, sRow, bRow, lRow, List.map_set, bytesL_map, List.length_map, toNat_nat, iAt_getD, bAt_getD, sAt_getD, lAt_getD, MHead.r_fTime, MHead.r_fUntil, MHead.r_fKeys, MHead.r_fHeirs, MHead.r_fWait, MHead.r_fFrozen, MSigned.r_fHead] at R_ ⊢; first | exact R_ | (rw [← R_]; rfl))
            try simp only [bytesL_map, List.length_map, toNat_nat, iAt_getD, bAt_getD, sAt_getD, lAt_getD, MHead.r_fTime, MHead.r_fUntil, MHead.r_fKeys, MHead.r_fHeirs, MHead.r_fWait, MHead.r_fFrozen, MSigned.r_fHead]
            refine bif_out (fun b : Int => ret (b : Int)) (fun c6 => ?_) (fun c6 => ?_)
            · have dc6 := c6
              try simp only [bne_eq_false_iff_eq, bne_iff_ne, beq_iff_eq, beq_eq_false_iff_ne, ne_eq, Bool.not_eq_true', Bool.not_eq_false'] at dc6
              all_goals first | rfl | (simp only [bytesL_map, List.length_map, toNat_nat, iAt_getD, bAt_getD, sAt_getD, lAt_getD, MHead.r_fTime, MHead.r_fUntil, MHead.r_fKeys, MHead.r_fHeirs, MHead.r_fWait, MHead.r_fFrozen, MSigned.r_fHead]; done) | (simp only [List.map_append, List.map_cons, List.map_nil, List.cons_append, List.nil_append, iRow, sRow, bRow, lRow, List.map_set]; rfl) | (simp only [bytesL_map, List.length_map, toNat_nat, iAt_getD, bAt_getD, sAt_getD, lAt_getD, MHead.r_fTime, MHead.r_fUntil, MHead.r_fKeys, MHead.r_fHeirs, MHead.r_fWait, MHead.r_fFrozen, MSigned.r_fHead, List.map_append, List.map_cons, List.map_nil, List.cons_append, List.nil_append, iRow, sRow, bRow, lRow, List.map_set]; first | done | rfl)
            · have dc6 := c6
              try simp only [bne_eq_false_iff_eq, bne_iff_ne, beq_iff_eq, beq_eq_false_iff_ne, ne_eq, Bool.not_eq_true', Bool.not_eq_false'] at dc6
              refine call_to (impl_Signed_isSignedBy.md a1 a0.fHeirs) ?_ ?_
              · have R_ := impl_Signed_isSignedBy.R_eq (a0 := a1) (a1 := a0.fHeirs) ⟨H1, H0.2.1⟩
                first | exact R_ | (simp only [List.map_append, List.map_cons, List.map_nil, List.cons_append, List.nil_append, iRow, sRow, bRow, lRow, List.map_set, bytesL_map, List.length_map, toNat_nat, iAt_getD, bAt_getD, sAt_getD, lAt_getD, MHead.r_fTime, MHead.r_fUntil, MHead.r_fKeys, MHead.r_fHeirs, MHead.r_fWait, MHead.r_fFrozen, MSigned.r_fHead] at R_ ⊢; first | exact R_ | (rw [← R_]; rfl))
              try simp only [bytesL_map, List.length_map, toNat_nat, iAt_getD, bAt_getD, sAt_getD, lAt_getD, MHead.r_fTime, MHead.r_fUntil, MHead.r_fKeys, MHead.r_fHeirs, MHead.r_fWait, MHead.r_fFrozen, MSigned.r_fHead]
              refine bif_out (fun b : Int => ret (b : Int)) (fun c7 => ?_) (fun c7 => ?_)
              · have dc7 := c7
                try simp only [bne_eq_false_iff_eq, bne_iff_ne, beq_iff_eq, beq_eq_false_iff_ne, ne_eq, Bool.not_eq_true', Bool.not_eq_false'] at dc7
                all_goals first | rfl | (simp only [bytesL_map, List.length_map, toNat_nat, iAt_getD, bAt_getD, sAt_getD, lAt_getD, MHead.r_fTime, MHead.r_fUntil, MHead.r_fKeys, MHead.r_fHeirs, MHead.r_fWait, MHead.r_fFrozen, MSigned.r_fHead]; done) | (simp only [List.map_append, List.map_cons, List.map_nil, List.cons_append, List.nil_append, iRow, sRow, bRow, lRow, List.map_set]; rfl) | (simp only [bytesL_map, List.length_map, toNat_nat, iAt_getD, bAt_getD, sAt_getD, lAt_getD, MHead.r_fTime, MHead.r_fUntil, MHead.r_fKeys, MHead.r_fHeirs, MHead.r_fWait, MHead.r_fFrozen, MSigned.r_fHead, List.map_append, List.map_cons, List.map_nil, List.cons_append, List.nil_append, iRow, sRow, bRow, lRow, List.map_set]; first | done | rfl)
              · have dc7 := c7
                try simp only [bne_eq_false_iff_eq, bne_iff_ne, beq_iff_eq, beq_eq_false_iff_ne, ne_eq, Bool.not_eq_true', Bool.not_eq_false'] at dc7
                all_goals first | rfl | (simp only [bytesL_map, List.length_map, toNat_nat, iAt_getD, bAt_getD, sAt_getD, lAt_getD, MHead.r_fTime, MHead.r_fUntil, MHead.r_fKeys, MHead.r_fHeirs, MHead.r_fWait, MHead.r_fFrozen, MSigned.r_fHead]; done) | (simp only [List.map_append, List.map_cons, List.map_nil, List.cons_append, List.nil_append, iRow, sRow, bRow, lRow, List.map_set]; rfl) | (simp only [bytesL_map, List.length_map, toNat_nat, iAt_getD, bAt_getD, sAt_getD, lAt_getD, MHead.r_fTime, MHead.r_fUntil, MHead.r_fKeys, MHead.r_fHeirs, MHead.r_fWait, MHead.r_fFrozen, MSigned.r_fHead, List.map_append, List.map_cons, List.map_nil, List.cons_append, List.nil_append, iRow, sRow, bRow, lRow, List.map_set]; first | done | rfl)
noncomputable def sem (ls : List L) : Option (List L) := (R (RHead.dec ls) (RSigned.dec (dropT 16 ls))).map RT.enc
theorem ok (ls q : List L) (hl : LOKs Ev.cells pats ls) (h : sem ls = some q) : ∃ n, runF E live Tryz.f205 res n (initS pats ls) = some q := by
  obtain ⟨v, hv, hq⟩ := map_some h
  obtain ⟨⟨a0, a1⟩, hg, e, hm⟩ := ofM_some hv
  simp only [rf, Prod.mk.injEq] at e
  obtain ⟨e0, e1⟩ := e
  have hn := okF a0 a1 hg
  refine ⟨0, (run_eq 0 ls).trans ?_⟩
  rw [← e0, ← e1]
  rw [hn, ← hq, hm]; rfl
noncomputable def con : Con := ⟨pats, res, sem⟩
theorem chk : fnB Tryz.f205 con 48 = true := by kernel_rfl
theorem valid_ : Valid Tryz.prog Ev 205 con := valid mix tab_ok (.cons impl_NoKeys.valid_ (.cons impl_EqualKeys.valid_ (.cons impl_SameContents.valid_ (.cons impl_Signed_isSignedBy.valid_ .nil)))) Tryz.func205 chk live ok
end impl_heirCode
/-! impl.judgeCode -/
namespace impl_judgeCode
noncomputable def F (x0 : RHead) (x1 : RSigned) : Ans := (call (impl_SameContents.R x1.fHead x0) fun v1 => (bif v1 then (call (impl_EqualKeys.R x1.fHead.fJudge x0.fJudge) fun v2 => (bif v2 then (call (impl_EqualKeys.R x1.fHead.fHeirs x0.fHeirs) fun v3 => (bif v3 then (call (impl_NoKeys.R x0.fJudge) fun v4 => (bif v4 then ret (5 : Int) else (bif (x1.fHead.fFrozen == x0.fFrozen) then ret (6 : Int) else (bif (!(x1.fHead.fWait == x0.fWait)) then ret (6 : Int) else (bif x1.fHead.fFrozen then (call (impl_EqualKeys.R x1.fHead.fKeys x0.fKeys) fun v5 => (bif (!v5) then ret (6 : Int) else (call (impl_Signed_isSignedBy.R x1 x0.fJudge) fun v6 => (bif (!v6) then ret (7 : Int) else ret (1 : Int))))) else (call (impl_Signed_isSignedBy.R x1 x0.fJudge) fun v7 => (bif (!v7) then ret (7 : Int) else ret (1 : Int)))))))) else (call (impl_NoKeys.R x0.fJudge) fun v8 => (bif v8 then ret (5 : Int) else (bif (x1.fHead.fFrozen == x0.fFrozen) then ret (6 : Int) else ret (6 : Int)))))) else (call (impl_NoKeys.R x0.fJudge) fun v9 => (bif v9 then ret (5 : Int) else (bif (x1.fHead.fFrozen == x0.fFrozen) then ret (6 : Int) else ret (6 : Int)))))) else (call (impl_NoKeys.R x0.fJudge) fun v10 => (bif v10 then ret (5 : Int) else (bif (x1.fHead.fFrozen == x0.fFrozen) then ret (6 : Int) else ret (6 : Int))))))
def live : Nat → Live := fun _ => []
def pats : List Pat := [.agg [.int .i64, .int .i64, .int .i64, .int .i64, .int .i64, .int .i64, .int .i64, .int .i64, .sl 3, .int .i64, .sl 3, .int .i64, .int .i64, .sl 3, .int .i64, .bool], .agg [.int .i64, .int .i64, .int .i64, .int .i64, .int .i64, .int .i64, .int .i64, .int .i64, .sl 3, .int .i64, .sl 3, .int .i64, .int .i64, .sl 3, .int .i64, .bool, .sl 179]]
def res : RP := .one (.rd (.int .i64))
noncomputable def G : List (Nat × Con) := [(245, impl_SameContents.con), (139, impl_EqualKeys.con), (200, impl_NoKeys.con), (144, impl_Signed_isSignedBy.con)]
noncomputable abbrev E : Env := ⟨assoc Tab, conG G, 65⟩
set_option maxRecDepth 100000
theorem run_eq (n : Nat) (ls : List L) : runF E live Tryz.f206 res n (initS pats ls) = F (RHead.dec ls) (RSigned.dec (dropT 16 ls)) := by kernel_rfl
noncomputable def md (a0 : MHead) (a1 : MSigned) : Int := (bif (impl_SameContents.md a1.fHead a0) then (bif (impl_EqualKeys.md a1.fHead.fJudge a0.fJudge) then (bif (impl_EqualKeys.md a1.fHead.fHeirs a0.fHeirs) then (bif (impl_NoKeys.md a0.fJudge) then (5 : Int) else (bif (a1.fHead.fFrozen == a0.fFrozen) then (6 : Int) else (bif (!(a1.fHead.fWait == a0.fWait)) then (6 : Int) else (bif a1.fHead.fFrozen then (bif (!(impl_EqualKeys.md a1.fHead.fKeys a0.fKeys)) then (6 : Int) else (bif (!(impl_Signed_isSignedBy.md a1 a0.fJudge)) then (7 : Int) else (1 : Int))) else (bif (!(impl_Signed_isSignedBy.md a1 a0.fJudge)) then (7 : Int) else (1 : Int)))))) else (bif (impl_NoKeys.md a0.fJudge) then (5 : Int) else (bif (a1.fHead.fFrozen == a0.fFrozen) then (6 : Int) else (6 : Int)))) else (bif (impl_NoKeys.md a0.fJudge) then (5 : Int) else (bif (a1.fHead.fFrozen == a0.fFrozen) then (6 : Int) else (6 : Int)))) else (bif (impl_NoKeys.md a0.fJudge) then (5 : Int) else (bif (a1.fHead.fFrozen == a0.fFrozen) then (6 : Int) else (6 : Int))))
def gd (a0 : MHead) (a1 : MSigned) : Prop := (MHead.Sm (2 ^ 21) a0) ∧ (MSigned.Sm (2 ^ 21) a1)
def rf (a : MHead × MSigned) : RHead × RSigned := ((MHead.r a.1), (MSigned.r a.2))
theorem rf_inj (a b : MHead × MSigned) (h : rf a = rf b) : a = b := by
  exact (Prod.ext (MHead.r_inj (congrArg (fun x => x.1) h)) (MSigned.r_inj (congrArg (fun x => x.2) h)))
noncomputable def R (x0 : RHead) (x1 : RSigned) : Option (Int) := ofM rf (fun a => gd a.1 a.2) (fun a => (md a.1 a.2)) (x0, x1)
theorem R_eq {a0 : MHead} {a1 : MSigned} (h : gd a0 a1) : R (MHead.r a0) (MSigned.r a1) = some (md a0 a1) := ofM_eq (r := rf) (a := (a0, a1)) rf_inj h
theorem okF (a0 : MHead) (a1 : MSigned) (hg : gd a0 a1) : F (MHead.r a0) (MSigned.r a1) = ret ((md a0 a1) : Int) := by
  unfold gd at hg
  obtain ⟨H0, H1⟩ := hg
  unfold F md
  try simp only [bytesL_map, List.length_map, toNat_nat, iAt_getD, bAt_getD, sAt_getD, lAt_getD, MHead.r_fKeys, MHead.r_fHeirs, MHead.r_fWait, MHead.r_fJudge, MHead.r_fFrozen, MSigned.r_fHead]
  refine call_to (impl_SameContents.md a1.fHead a0) ?_ ?_
  · have R_ := impl_SameContents.R_eq (a0 := a1.fHead) (a1 := a0) trivial
    first | exact R_ | (simp only [List.map_append, List.map_cons, List.map_nil, List.cons_append, List.nil_append, iRow, sRow, bRow, lRow, List.map_set, bytesL_map, List.length_map, toNat_nat, iAt_getD, bAt_getD, sAt_getD, lAt_getD, MHead.r_fKeys, MHead.r_fHeirs, MHead.r_fWait, MHead.r_fJudge, MHead.r_fFrozen, MSigned.r_fHead] at R_ ⊢; first | exact R_ | (rw [← R_]; rfl))
  try simp only [bytesL_map, List.length_map, toNat_nat, iAt_getD, bAt_getD, sAt_getD, lAt_getD, MHead.r_fKeys, MHead.r_fHeirs, MHead.r_fWait, MHead.r_fJudge, MHead.r_fFrozen, MSigned.r_fHead]
  refine bif_out (fun b : Int => ret (b : Int)) (fun c1 => ?_) (fun c1 => ?_)
  · refine call_to (impl_EqualKeys.md a1.fHead.fJudge a0.fJudge) ?_ ?_
    · have R_ := impl_EqualKeys.R_eq (a0 := a1.fHead.fJudge) (a1 := a0.fJudge) ⟨H1.1.2.2, H0.2.2⟩
      first | exact R_ | (simp only [List.map_append, List.map_cons, List.map_nil, List.cons_append, List.nil_append, iRow, sRow, bRow, lRow, List.map_set, bytesL_map, List.length_map, toNat_nat, iAt_getD, bAt_getD, sAt_getD, lAt_getD, MHead.r_fKeys, MHead.r_fHeirs, MHead.r_fWait, MHead.r_fJudge, MHead.r_fFrozen, MSigned.r_fHead] at R_ ⊢; first | exact R_ | (rw [← R_]; rfl))
    try simp only [bytesL_map, List.length_map, toNat_nat, iAt_getD, bAt_getD, sAt_getD, lAt_getD, MHead.r_fKeys, MHead.r_fHeirs, MHead.r_fWait, MHead.r_fJudge, MHead.r_fFrozen, MSigned.r_fHead]
    refine bif_out (fun b : Int => ret (b : Int)) (fun c2 => ?_) (fun c2 => ?_)
    · refine call_to (impl_EqualKeys.md a1.fHead.fHeirs a0.fHeirs) ?_ ?_
      · have R_ := impl_EqualKeys.R_eq (a0 := a1.fHead.fHeirs) (a1 := a0.fHeirs) ⟨H1.1.2.1, H0.2.1⟩
        first | exact R_ | (simp only [List.map_append, List.map_cons, List.map_nil, List.cons_append, List.nil_append, iRow, sRow, bRow, lRow, List.map_set, bytesL_map, List.length_map, toNat_nat, iAt_getD, bAt_getD, sAt_getD, lAt_getD, MHead.r_fKeys, MHead.r_fHeirs, MHead.r_fWait, MHead.r_fJudge, MHead.r_fFrozen, MSigned.r_fHead] at R_ ⊢; first | exact R_ | (rw [← R_]; rfl))
      try simp only [bytesL_map, List.length_map, toNat_nat, iAt_getD, bAt_getD, sAt_getD, lAt_getD, MHead.r_fKeys, MHead.r_fHeirs, MHead.r_fWait, MHead.r_fJudge, MHead.r_fFrozen, MSigned.r_fHead]
      refine bif_out (fun b : Int => ret (b : Int)) (fun c3 => ?_) (fun c3 => ?_)
      · refine call_to (impl_NoKeys.md a0.fJudge) ?_ ?_
        · have R_ := impl_NoKeys.R_eq (a0 := a0.fJudge) trivial
          first | exact R_ | (simp only [List.map_append, List.map_cons, List.map_nil, List.cons_append, List.nil_append, iRow, sRow, bRow, lRow, List.map_set, bytesL_map, List.length_map, toNat_nat, iAt_getD, bAt_getD, sAt_getD, lAt_getD, MHead.r_fKeys, MHead.r_fHeirs, MHead.r_fWait, MHead.r_fJudge, MHead.r_fFrozen, MSigned.r_fHead] at R_ ⊢; first | exact R_ | (rw [← R_]; rfl))
        try simp only [bytesL_map, List.length_map, toNat_nat, iAt_getD, bAt_getD, sAt_getD, lAt_getD, MHead.r_fKeys, MHead.r_fHeirs, MHead.r_fWait, MHead.r_fJudge, MHead.r_fFrozen, MSigned.r_fHead]
        refine bif_out (fun b : Int => ret (b : Int)) (fun c4 => ?_) (fun c4 => ?_)
        · all_goals first | rfl | (simp only [bytesL_map, List.length_map, toNat_nat, iAt_getD, bAt_getD, sAt_getD, lAt_getD, MHead.r_fKeys, MHead.r_fHeirs, MHead.r_fWait, MHead.r_fJudge, MHead.r_fFrozen, MSigned.r_fHead]; done) | (simp only [List.map_append, List.map_cons, List.map_nil, List.cons_append, List.nil_append, iRow, sRow, bRow, lRow, List.map_set]; rfl) | (simp only [bytesL_map, List.length_map, toNat_nat, iAt_getD, bAt_getD, sAt_getD, lAt_getD, MHead.r_fKeys, MHead.r_fHeirs, MHead.r_fWait, MHead.r_fJudge, MHead.r_fFrozen, MSigned.r_fHead, List.map_append, List.map_cons, List.map_nil, List.cons_append, List.nil_append, iRow, sRow, bRow, lRow, List.map_set]; first | done | rfl)
        · refine bif_out (fun b : Int => ret (b : Int)) (fun c5 => ?_) (fun c5 => ?_)
          · have dc5 := c5
            try simp only [bne_eq_false_iff_eq, bne_iff_ne, beq_iff_eq, beq_eq_false_iff_ne, ne_eq, Bool.not_eq_true', Bool.not_eq_false'] at dc5
            all_goals first | rfl | (simp only [bytesL_map, List.length_map, toNat_nat, iAt_getD, bAt_getD, sAt_getD, lAt_getD, MHead.r_fKeys, MHead.r_fHeirs, MHead.r_fWait, MHead.r_fJudge, MHead.r_fFrozen, MSigned.r_fHead]; done) | (simp only [List.map_append, List.map_cons, List.map_nil, List.cons_append, List.nil_append, iRow, sRow, bRow, lRow, List.map_set]; rfl) | (simp only [bytesL_map, List.length_map, toNat_nat, iAt_getD, bAt_getD, sAt_getD, lAt_getD, MHead.r_fKeys, MHead.r_fHeirs, MHead.r_fWait, MHead.r_fJudge, MHead.r_fFrozen, MSigned.r_fHead, List.map_append, List.map_cons, List.map_nil, List.cons_append, List.nil_append, iRow, sRow, bRow, lRow, List.map_set]; first | done | rfl)
          · have dc5 := c5
            try simp only [bne_eq_false_iff_eq, bne_iff_ne, beq_iff_eq, beq_eq_false_iff_ne, ne_eq, Bool.not_eq_true', Bool.not_eq_false'] at dc5
            refine bif_out (fun b : Int => ret (b : Int)) (fun c6 => ?_) (fun c6 => ?_)
            · have dc6 := c6
              try simp only [bne_eq_false_iff_eq, bne_iff_ne, beq_iff_eq, beq_eq_false_iff_ne, ne_eq, Bool.not_eq_true', Bool.not_eq_false'] at dc6
              all_goals first | rfl | (simp only [bytesL_map, List.length_map, toNat_nat, iAt_getD, bAt_getD, sAt_getD, lAt_getD, MHead.r_fKeys, MHead.r_fHeirs, MHead.r_fWait, MHead.r_fJudge, MHead.r_fFrozen, MSigned.r_fHead]; done) | (simp only [List.map_append, List.map_cons, List.map_nil, List.cons_append, List.nil_append, iRow, sRow, bRow, lRow, List.map_set]; rfl) | (simp only [bytesL_map, List.length_map, toNat_nat, iAt_getD, bAt_getD, sAt_getD, lAt_getD, MHead.r_fKeys, MHead.r_fHeirs, MHead.r_fWait, MHead.r_fJudge, MHead.r_fFrozen, MSigned.r_fHead, List.map_append, List.map_cons, List.map_nil, List.cons_append, List.nil_append, iRow, sRow, bRow, lRow, List.map_set]; first | done | rfl)
            · have dc6 := c6
              try simp only [bne_eq_false_iff_eq, bne_iff_ne, beq_iff_eq, beq_eq_false_iff_ne, ne_eq, Bool.not_eq_true', Bool.not_eq_false'] at dc6
              refine bif_out (fun b : Int => ret (b : Int)) (fun c7 => ?_) (fun c7 => ?_)
              · refine call_to (impl_EqualKeys.md a1.fHead.fKeys a0.fKeys) ?_ ?_
                · have R_ := impl_EqualKeys.R_eq (a0 := a1.fHead.fKeys) (a1 := a0.fKeys) ⟨H1.1.1, H0.1⟩
                  first | exact R_ | (simp only [List.map_append, List.map_cons, List.map_nil, List.cons_append, List.nil_append, iRow, sRow, bRow, lRow, List.map_set, bytesL_map, List.length_map, toNat_nat, iAt_getD, bAt_getD, sAt_getD, lAt_getD, MHead.r_fKeys, MHead.r_fHeirs, MHead.r_fWait, MHead.r_fJudge, MHead.r_fFrozen, MSigned.r_fHead] at R_ ⊢; first | exact R_ | (rw [← R_]; rfl))
                try simp only [bytesL_map, List.length_map, toNat_nat, iAt_getD, bAt_getD, sAt_getD, lAt_getD, MHead.r_fKeys, MHead.r_fHeirs, MHead.r_fWait, MHead.r_fJudge, MHead.r_fFrozen, MSigned.r_fHead]
                refine bif_out (fun b : Int => ret (b : Int)) (fun c8 => ?_) (fun c8 => ?_)
                · have dc8 := c8
                  try simp only [bne_eq_false_iff_eq, bne_iff_ne, beq_iff_eq, beq_eq_false_iff_ne, ne_eq, Bool.not_eq_true', Bool.not_eq_false'] at dc8
                  all_goals first | rfl | (simp only [bytesL_map, List.length_map, toNat_nat, iAt_getD, bAt_getD, sAt_getD, lAt_getD, MHead.r_fKeys, MHead.r_fHeirs, MHead.r_fWait, MHead.r_fJudge, MHead.r_fFrozen, MSigned.r_fHead]; done) | (simp only [List.map_append, List.map_cons, List.map_nil, List.cons_append, List.nil_append, iRow, sRow, bRow, lRow, List.map_set]; rfl) | (simp only [bytesL_map, List.length_map, toNat_nat, iAt_getD, bAt_getD, sAt_getD, lAt_getD, MHead.r_fKeys, MHead.r_fHeirs, MHead.r_fWait, MHead.r_fJudge, MHead.r_fFrozen, MSigned.r_fHead, List.map_append, List.map_cons, List.map_nil, List.cons_append, List.nil_append, iRow, sRow, bRow, lRow, List.map_set]; first | done | rfl)
                · have dc8 := c8
                  try simp only [bne_eq_false_iff_eq, bne_iff_ne, beq_iff_eq, beq_eq_false_iff_ne, ne_eq, Bool.not_eq_true', Bool.not_eq_false'] at dc8
                  refine call_to (impl_Signed_isSignedBy.md a1 a0.fJudge) ?_ ?_
                  · have R_ := impl_Signed_isSignedBy.R_eq (a0 := a1) (a1 := a0.fJudge) ⟨H1, H0.2.2⟩
                    first | exact R_ | (simp only [List.map_append, List.map_cons, List.map_nil, List.cons_append, List.nil_append, iRow, sRow, bRow, lRow, List.map_set, bytesL_map, List.length_map, toNat_nat, iAt_getD, bAt_getD, sAt_getD, lAt_getD, MHead.r_fKeys, MHead.r_fHeirs, MHead.r_fWait, MHead.r_fJudge, MHead.r_fFrozen, MSigned.r_fHead] at R_ ⊢; first | exact R_ | (rw [← R_]; rfl))
                  try simp only [bytesL_map, List.length_map, toNat_nat, iAt_getD, bAt_getD, sAt_getD, lAt_getD, MHead.r_fKeys, MHead.r_fHeirs, MHead.r_fWait, MHead.r_fJudge, MHead.r_fFrozen, MSigned.r_fHead]
                  refine bif_out (fun b : Int => ret (b : Int)) (fun c9 => ?_) (fun c9 => ?_)
                  · have dc9 := c9
                    try simp only [bne_eq_false_iff_eq, bne_iff_ne, beq_iff_eq, beq_eq_false_iff_ne, ne_eq, Bool.not_eq_true', Bool.not_eq_false'] at dc9
                    all_goals first | rfl | (simp only [bytesL_map, List.length_map, toNat_nat, iAt_getD, bAt_getD, sAt_getD, lAt_getD, MHead.r_fKeys, MHead.r_fHeirs, MHead.r_fWait, MHead.r_fJudge, MHead.r_fFrozen, MSigned.r_fHead]; done) | (simp only [List.map_append, List.map_cons, List.map_nil, List.cons_append, List.nil_append, iRow, sRow, bRow, lRow, List.map_set]; rfl) | (simp only [bytesL_map, List.length_map, toNat_nat, iAt_getD, bAt_getD, sAt_getD, lAt_getD, MHead.r_fKeys, MHead.r_fHeirs, MHead.r_fWait, MHead.r_fJudge, MHead.r_fFrozen, MSigned.r_fHead, List.map_append, List.map_cons, List.map_nil, List.cons_append, List.nil_append, iRow, sRow, bRow, lRow, List.map_set]; first | done | rfl)
                  · have dc9 := c9
                    try simp only [bne_eq_false_iff_eq, bne_iff_ne, beq_iff_eq, beq_eq_false_iff_ne, ne_eq, Bool.not_eq_true', Bool.not_eq_false'] at dc9
                    all_goals first | rfl | (simp only [bytesL_map, List.length_map, toNat_nat, iAt_getD, bAt_getD, sAt_getD, lAt_getD, MHead.r_fKeys, MHead.r_fHeirs, MHead.r_fWait, MHead.r_fJudge, MHead.r_fFrozen, MSigned.r_fHead]; done) | (simp only [List.map_append, List.map_cons, List.map_nil, List.cons_append, List.nil_append, iRow, sRow, bRow, lRow, List.map_set]; rfl) | (simp only [bytesL_map, List.length_map, toNat_nat, iAt_getD, bAt_getD, sAt_getD, lAt_getD, MHead.r_fKeys, MHead.r_fHeirs, MHead.r_fWait, MHead.r_fJudge, MHead.r_fFrozen, MSigned.r_fHead, List.map_append, List.map_cons, List.map_nil, List.cons_append, List.nil_append, iRow, sRow, bRow, lRow, List.map_set]; first | done | rfl)
              · refine call_to (impl_Signed_isSignedBy.md a1 a0.fJudge) ?_ ?_
                · have R_ := impl_Signed_isSignedBy.R_eq (a0 := a1) (a1 := a0.fJudge) ⟨H1, H0.2.2⟩
                  first | exact R_ | (simp only [List.map_append, List.map_cons, List.map_nil, List.cons_append, List.nil_append, iRow, sRow, bRow, lRow, List.map_set, bytesL_map, List.length_map, toNat_nat, iAt_getD, bAt_getD, sAt_getD, lAt_getD, MHead.r_fKeys, MHead.r_fHeirs, MHead.r_fWait, MHead.r_fJudge, MHead.r_fFrozen, MSigned.r_fHead] at R_ ⊢; first | exact R_ | (rw [← R_]; rfl))
                try simp only [bytesL_map, List.length_map, toNat_nat, iAt_getD, bAt_getD, sAt_getD, lAt_getD, MHead.r_fKeys, MHead.r_fHeirs, MHead.r_fWait, MHead.r_fJudge, MHead.r_fFrozen, MSigned.r_fHead]
                refine bif_out (fun b : Int => ret (b : Int)) (fun c10 => ?_) (fun c10 => ?_)
                · have dc10 := c10
                  try simp only [bne_eq_false_iff_eq, bne_iff_ne, beq_iff_eq, beq_eq_false_iff_ne, ne_eq, Bool.not_eq_true', Bool.not_eq_false'] at dc10
                  all_goals first | rfl | (simp only [bytesL_map, List.length_map, toNat_nat, iAt_getD, bAt_getD, sAt_getD, lAt_getD, MHead.r_fKeys, MHead.r_fHeirs, MHead.r_fWait, MHead.r_fJudge, MHead.r_fFrozen, MSigned.r_fHead]; done) | (simp only [List.map_append, List.map_cons, List.map_nil, List.cons_append, List.nil_append, iRow, sRow, bRow, lRow, List.map_set]; rfl) | (simp only [bytesL_map, List.length_map, toNat_nat, iAt_getD, bAt_getD, sAt_getD, lAt_getD, MHead.r_fKeys, MHead.r_fHeirs, MHead.r_fWait, MHead.r_fJudge, MHead.r_fFrozen, MSigned.r_fHead, List.map_append, List.map_cons, List.map_nil, List.cons_append, List.nil_append, iRow, sRow, bRow, lRow, List.map_set]; first | done | rfl)
                · have dc10 := c10
                  try simp only [bne_eq_false_iff_eq, bne_iff_ne, beq_iff_eq, beq_eq_false_iff_ne, ne_eq, Bool.not_eq_true', Bool.not_eq_false'] at dc10
                  all_goals first | rfl | (simp only [bytesL_map, List.length_map, toNat_nat, iAt_getD, bAt_getD, sAt_getD, lAt_getD, MHead.r_fKeys, MHead.r_fHeirs, MHead.r_fWait, MHead.r_fJudge, MHead.r_fFrozen, MSigned.r_fHead]; done) | (simp only [List.map_append, List.map_cons, List.map_nil, List.cons_append, List.nil_append, iRow, sRow, bRow, lRow, List.map_set]; rfl) | (simp only [bytesL_map, List.length_map, toNat_nat, iAt_getD, bAt_getD, sAt_getD, lAt_getD, MHead.r_fKeys, MHead.r_fHeirs, MHead.r_fWait, MHead.r_fJudge, MHead.r_fFrozen, MSigned.r_fHead, List.map_append, List.map_cons, List.map_nil, List.cons_append, List.nil_append, iRow, sRow, bRow, lRow, List.map_set]; first | done | rfl)
      · refine call_to (impl_NoKeys.md a0.fJudge) ?_ ?_
        · have R_ := impl_NoKeys.R_eq (a0 := a0.fJudge) trivial
          first | exact R_ | (simp only [List.map_append, List.map_cons, List.map_nil, List.cons_append, List.nil_append, iRow, sRow, bRow, lRow, List.map_set, bytesL_map, List.length_map, toNat_nat, iAt_getD, bAt_getD, sAt_getD, lAt_getD, MHead.r_fKeys, MHead.r_fHeirs, MHead.r_fWait, MHead.r_fJudge, MHead.r_fFrozen, MSigned.r_fHead] at R_ ⊢; first | exact R_ | (rw [← R_]; rfl))
        try simp only [bytesL_map, List.length_map, toNat_nat, iAt_getD, bAt_getD, sAt_getD, lAt_getD, MHead.r_fKeys, MHead.r_fHeirs, MHead.r_fWait, MHead.r_fJudge, MHead.r_fFrozen, MSigned.r_fHead]
        refine bif_out (fun b : Int => ret (b : Int)) (fun c11 => ?_) (fun c11 => ?_)
        · all_goals first | rfl | (simp only [bytesL_map, List.length_map, toNat_nat, iAt_getD, bAt_getD, sAt_getD, lAt_getD, MHead.r_fKeys, MHead.r_fHeirs, MHead.r_fWait, MHead.r_fJudge, MHead.r_fFrozen, MSigned.r_fHead]; done) | (simp only [List.map_append, List.map_cons, List.map_nil, List.cons_append, List.nil_append, iRow, sRow, bRow, lRow, List.map_set]; rfl) | (simp only [bytesL_map, List.length_map, toNat_nat, iAt_getD, bAt_getD, sAt_getD, lAt_getD, MHead.r_fKeys, MHead.r_fHeirs, MHead.r_fWait, MHead.r_fJudge, MHead.r_fFrozen, MSigned.r_fHead, List.map_append, List.map_cons, List.map_nil, List.cons_append, List.nil_append, iRow, sRow, bRow, lRow, List.map_set]; first | done | rfl)
        · refine bif_out (fun b : Int => ret (b : Int)) (fun c12 => ?_) (fun c12 => ?_)
          · have dc12 := c12
            try simp only [bne_eq_false_iff_eq, bne_iff_ne, beq_iff_eq, beq_eq_false_iff_ne, ne_eq, Bool.not_eq_true', Bool.not_eq_false'] at dc12
            all_goals first | rfl | (simp only [bytesL_map, List.length_map, toNat_nat, iAt_getD, bAt_getD, sAt_getD, lAt_getD, MHead.r_fKeys, MHead.r_fHeirs, MHead.r_fWait, MHead.r_fJudge, MHead.r_fFrozen, MSigned.r_fHead]; done) | (simp only [List.map_append, List.map_cons, List.map_nil, List.cons_append, List.nil_append, iRow, sRow, bRow, lRow, List.map_set]; rfl) | (simp only [bytesL_map, List.length_map, toNat_nat, iAt_getD, bAt_getD, sAt_getD, lAt_getD, MHead.r_fKeys, MHead.r_fHeirs, MHead.r_fWait, MHead.r_fJudge, MHead.r_fFrozen, MSigned.r_fHead, List.map_append, List.map_cons, List.map_nil, List.cons_append, List.nil_append, iRow, sRow, bRow, lRow, List.map_set]; first | done | rfl)
          · have dc12 := c12
            try simp only [bne_eq_false_iff_eq, bne_iff_ne, beq_iff_eq, beq_eq_false_iff_ne, ne_eq, Bool.not_eq_true', Bool.not_eq_false'] at dc12
            all_goals first | rfl | (simp only [bytesL_map, List.length_map, toNat_nat, iAt_getD, bAt_getD, sAt_getD, lAt_getD, MHead.r_fKeys, MHead.r_fHeirs, MHead.r_fWait, MHead.r_fJudge, MHead.r_fFrozen, MSigned.r_fHead]; done) | (simp only [List.map_append, List.map_cons, List.map_nil, List.cons_append, List.nil_append, iRow, sRow, bRow, lRow, List.map_set]; rfl) | (simp only [bytesL_map, List.length_map, toNat_nat, iAt_getD, bAt_getD, sAt_getD, lAt_getD, MHead.r_fKeys, MHead.r_fHeirs, MHead.r_fWait, MHead.r_fJudge, MHead.r_fFrozen, MSigned.r_fHead, List.map_append, List.map_cons, List.map_nil, List.cons_append, List.nil_append, iRow, sRow, bRow, lRow, List.map_set]; first | done | rfl)
    · refine call_to (impl_NoKeys.md a0.fJudge) ?_ ?_
      · have R_ := impl_NoKeys.R_eq (a0 := a0.fJudge) trivial
        first | exact R_ | (simp only [List.map_append, List.map_cons, List.map_nil, List.cons_append, List.nil_append, iRow, sRow, bRow, lRow, List.map_set, bytesL_map, List.length_map, toNat_nat, iAt_getD, bAt_getD, sAt_getD, lAt_getD, MHead.r_fKeys, MHead.r_fHeirs, MHead.r_fWait, MHead.r_fJudge, MHead.r_fFrozen, MSigned.r_fHead] at R_ ⊢; first | exact R_ | (rw [← R_]; rfl))
      try simp only [bytesL_map, List.length_map, toNat_nat, iAt_getD, bAt_getD, sAt_getD, lAt_getD, MHead.r_fKeys, MHead.r_fHeirs, MHead.r_fWait, MHead.r_fJudge, MHead.r_fFrozen, MSigned.r_fHead]
      refine bif_out (fun b : Int => ret (b : Int)) (fun c13 => ?_) (fun c13 => ?_)
      · all_goals first | rfl | (simp only [bytesL_map, List.length_map, toNat_nat, iAt_getD, bAt_getD, sAt_getD, lAt_getD, MHead.r_fKeys, MHead.r_fHeirs, MHead.r_fWait, MHead.r_fJudge, MHead.r_fFrozen, MSigned.r_fHead]; done) | (simp only [List.map_append, List.map_cons, List.map_nil, List.cons_append, List.nil_append, iRow, sRow, bRow, lRow, List.map_set]; rfl) | (simp only [bytesL_map, List.length_map, toNat_nat, iAt_getD, bAt_getD, sAt_getD, lAt_getD, MHead.r_fKeys, MHead.r_fHeirs, MHead.r_fWait, MHead.r_fJudge, MHead.r_fFrozen, MSigned.r_fHead, List.map_append, List.map_cons, List.map_nil, List.cons_append, List.nil_append, iRow, sRow, bRow, lRow, List.map_set]; first | done | rfl)
      · refine bif_out (fun b : Int => ret (b : Int)) (fun c14 => ?_) (fun c14 => ?_)
        · have dc14 := c14
          try simp only [bne_eq_false_iff_eq, bne_iff_ne, beq_iff_eq, beq_eq_false_iff_ne, ne_eq, Bool.not_eq_true', Bool.not_eq_false'] at dc14
          all_goals first | rfl | (simp only [bytesL_map, List.length_map, toNat_nat, iAt_getD, bAt_getD, sAt_getD, lAt_getD, MHead.r_fKeys, MHead.r_fHeirs, MHead.r_fWait, MHead.r_fJudge, MHead.r_fFrozen, MSigned.r_fHead]; done) | (simp only [List.map_append, List.map_cons, List.map_nil, List.cons_append, List.nil_append, iRow, sRow, bRow, lRow, List.map_set]; rfl) | (simp only [bytesL_map, List.length_map, toNat_nat, iAt_getD, bAt_getD, sAt_getD, lAt_getD, MHead.r_fKeys, MHead.r_fHeirs, MHead.r_fWait, MHead.r_fJudge, MHead.r_fFrozen, MSigned.r_fHead, List.map_append, List.map_cons, List.map_nil, List.cons_append, List.nil_append, iRow, sRow, bRow, lRow, List.map_set]; first | done | rfl)
        · have dc14 := c14
          try simp only [bne_eq_false_iff_eq, bne_iff_ne, beq_iff_eq, beq_eq_false_iff_ne, ne_eq, Bool.not_eq_true', Bool.not_eq_false'] at dc14
          all_goals first | rfl | (simp only [bytesL_map, List.length_map, toNat_nat, iAt_getD, bAt_getD, sAt_getD, lAt_getD, MHead.r_fKeys, MHead.r_fHeirs, MHead.r_fWait, MHead.r_fJudge, MHead.r_fFrozen, MSigned.r_fHead]; done) | (simp only [List.map_append, List.map_cons, List.map_nil, List.cons_append, List.nil_append, iRow, sRow, bRow, lRow, List.map_set]; rfl) | (simp only [bytesL_map, List.length_map, toNat_nat, iAt_getD, bAt_getD, sAt_getD, lAt_getD, MHead.r_fKeys, MHead.r_fHeirs, MHead.r_fWait, MHead.r_fJudge, MHead.r_fFrozen, MSigned.r_fHead, List.map_append, List.map_cons, List.map_nil, List.cons_append, List.nil_append, iRow, sRow, bRow, lRow, List.map_set]; first | done | rfl)
  · refine call_to (impl_NoKeys.md a0.fJudge) ?_ ?_
    · have R_ := impl_NoKeys.R_eq (a0 := a0.fJudge) trivial
      first | exact R_ | (simp only [List.map_append, List.map_cons, List.map_nil, List.cons_append, List.nil_append, iRow, sRow, bRow, lRow, List.map_set, bytesL_map, List.length_map, toNat_nat, iAt_getD, bAt_getD, sAt_getD, lAt_getD, MHead.r_fKeys, MHead.r_fHeirs, MHead.r_fWait, MHead.r_fJudge, MHead.r_fFrozen, MSigned.r_fHead] at R_ ⊢; first | exact R_ | (rw [← R_]; rfl))
    try simp only [bytesL_map, List.length_map, toNat_nat, iAt_getD, bAt_getD, sAt_getD, lAt_getD, MHead.r_fKeys, MHead.r_fHeirs, MHead.r_fWait, MHead.r_fJudge, MHead.r_fFrozen, MSigned.r_fHead]
    refine bif_out (fun b : Int => ret (b : Int)) (fun c15 => ?_) (fun c15 => ?_)
    · all_goals first | rfl | (simp only [bytesL_map, List.length_map, toNat_nat, iAt_getD, bAt_getD, sAt_getD, lAt_getD, MHead.r_fKeys, MHead.r_fHeirs, MHead.r_fWait, MHead.r_fJudge, MHead.r_fFrozen, MSigned.r_fHead]; done) | (simp only [List.map_append, List.map_cons, List.map_nil, List.cons_append, List.nil_append, iRow, sRow, bRow, lRow, List.map_set]; rfl) | (simp only [bytesL_map, List.length_map, toNat_nat, iAt_getD, bAt_getD, sAt_getD, lAt_getD, MHead.r_fKeys, MHead.r_fHeirs, MHead.r_fWait, MHead.r_fJudge, MHead.r_fFrozen, MSigned.r_fHead, List.map_append, List.map_cons, List.map_nil, List.cons_append, List.nil_append, iRow, sRow, bRow, lRow, List.map_set]; first | done | rfl)
    · refine bif_out (fun b : Int => ret (b : Int)) (fun c16 => ?_) (fun c16 => ?_)
      · have dc16 := c16
        try simp only [bne_eq_false_iff_eq, bne_iff_ne, beq_iff_eq, beq_eq_false_iff_ne, ne_eq, Bool.not_eq_true', Bool.not_eq_false'] at dc16
        all_goals first | rfl | (simp only [bytesL_map, List.length_map, toNat_nat, iAt_getD, bAt_getD, sAt_getD, lAt_getD, MHead.r_fKeys, MHead.r_fHeirs, MHead.r_fWait, MHead.r_fJudge, MHead.r_fFrozen, MSigned.r_fHead]; done) | (simp only [List.map_append, List.map_cons, List.map_nil, List.cons_append, List.nil_append, iRow, sRow, bRow, lRow, List.map_set]; rfl) | (simp only [bytesL_map, List.length_map, toNat_nat, iAt_getD, bAt_getD, sAt_getD, lAt_getD, MHead.r_fKeys, MHead.r_fHeirs, MHead.r_fWait, MHead.r_fJudge, MHead.r_fFrozen, MSigned.r_fHead, List.map_append, List.map_cons, List.map_nil, List.cons_append, List.nil_append, iRow, sRow, bRow, lRow, List.map_set]; first | done | rfl)
      · have dc16 := c16
        try simp only [bne_eq_false_iff_eq, bne_iff_ne, beq_iff_eq, beq_eq_false_iff_ne, ne_eq, Bool.not_eq_true', Bool.not_eq_false'] at dc16
        all_goals first | rfl | (simp only [bytesL_map, List.length_map, toNat_nat, iAt_getD, bAt_getD, sAt_getD, lAt_getD, MHead.r_fKeys, MHead.r_fHeirs, MHead.r_fWait, MHead.r_fJudge, MHead.r_fFrozen, MSigned.r_fHead]; done) | (simp only [List.map_append, List.map_cons, List.map_nil, List.cons_append, List.nil_append, iRow, sRow, bRow, lRow, List.map_set]; rfl) | (simp only [bytesL_map, List.length_map, toNat_nat, iAt_getD, bAt_getD, sAt_getD, lAt_getD, MHead.r_fKeys, MHead.r_fHeirs, MHead.r_fWait, MHead.r_fJudge, MHead.r_fFrozen, MSigned.r_fHead, List.map_append, List.map_cons, List.map_nil, List.cons_append, List.nil_append, iRow, sRow, bRow, lRow, List.map_set]; first | done | rfl)
noncomputable def sem (ls : List L) : Option (List L) := (R (RHead.dec ls) (RSigned.dec (dropT 16 ls))).map RT.enc
theorem ok (ls q : List L) (hl : LOKs Ev.cells pats ls) (h : sem ls = some q) : ∃ n, runF E live Tryz.f206 res n (initS pats ls) = some q := by
  obtain ⟨v, hv, hq⟩ := map_some h
  obtain ⟨⟨a0, a1⟩, hg, e, hm⟩ := ofM_some hv
  simp only [rf, Prod.mk.injEq] at e
  obtain ⟨e0, e1⟩ := e
  have hn := okF a0 a1 hg
  refine ⟨0, (run_eq 0 ls).trans ?_⟩
  rw [← e0, ← e1]
  rw [hn, ← hq, hm]; rfl
noncomputable def con : Con := ⟨pats, res, sem⟩
theorem chk : fnB Tryz.f206 con 65 = true := by kernel_rfl
theorem valid_ : Valid Tryz.prog Ev 206 con := valid mix tab_ok (.cons impl_SameContents.valid_ (.cons impl_EqualKeys.valid_ (.cons impl_NoKeys.valid_ (.cons impl_Signed_isSignedBy.valid_ .nil)))) Tryz.func206 chk live ok
end impl_judgeCode
/-! impl.NextCode -/
namespace impl_NextCode
noncomputable def F (x0 : RHead) (x1 : RSigned) : Ans := (call (impl_IsHead.R x0) fun v1 => (bif (!v1) then ret (2 : Int) else (call (impl_IsHead.R x1.fHead) fun v2 => (bif (!v2) then ret (2 : Int) else (call (impl_isNext.R x0 x1.fHead) fun v3 => (bif (!v3) then ret (3 : Int) else (bif (x1.fHead.fKind == 1) then (call (impl_ownerCode.R x0 x1) fun v4 => ret (v4 : Int)) else (bif (x1.fHead.fKind == 2) then (call (impl_heirCode.R x0 x1) fun v5 => ret (v5 : Int)) else (call (impl_judgeCode.R x0 x1) fun v6 => ret (v6 : Int))))))))))
def live : Nat → Live := fun _ => []
def pats : List Pat := [.agg [.int .i64, .int .i64, .int .i64, .int .i64, .int .i64, .int .i64, .int .i64, .int .i64, .sl 3, .int .i64, .sl 3, .int .i64, .int .i64, .sl 3, .int .i64, .bool], .agg [.int .i64, .int .i64, .int .i64, .int .i64, .int .i64, .int .i64, .int .i64, .int .i64, .sl 3, .int .i64, .sl 3, .int .i64, .int .i64, .sl 3, .int .i64, .bool, .sl 179]]
def res : RP := .one (.rd (.int .i64))
noncomputable def G : List (Nat × Con) := [(142, impl_IsHead.con), (203, impl_isNext.con), (204, impl_ownerCode.con), (205, impl_heirCode.con), (206, impl_judgeCode.con)]
noncomputable abbrev E : Env := ⟨assoc Tab, conG G, 40⟩
set_option maxRecDepth 100000
theorem run_eq (n : Nat) (ls : List L) : runF E live Tryz.f145 res n (initS pats ls) = F (RHead.dec ls) (RSigned.dec (dropT 16 ls)) := by kernel_rfl
noncomputable def md (a0 : MHead) (a1 : MSigned) : Int := (bif (!(impl_IsHead.md a0)) then (2 : Int) else (bif (!(impl_IsHead.md a1.fHead)) then (2 : Int) else (bif (!(impl_isNext.md a0 a1.fHead)) then (3 : Int) else (bif (a1.fHead.fKind == 1) then ((impl_ownerCode.md a0 a1) : Int) else (bif (a1.fHead.fKind == 2) then ((impl_heirCode.md a0 a1) : Int) else ((impl_judgeCode.md a0 a1) : Int))))))
def gd (a0 : MHead) (a1 : MSigned) : Prop := (MHead.Sm (2 ^ 21) a0) ∧ (MSigned.Sm (2 ^ 21) a1)
def rf (a : MHead × MSigned) : RHead × RSigned := ((MHead.r a.1), (MSigned.r a.2))
theorem rf_inj (a b : MHead × MSigned) (h : rf a = rf b) : a = b := by
  exact (Prod.ext (MHead.r_inj (congrArg (fun x => x.1) h)) (MSigned.r_inj (congrArg (fun x => x.2) h)))
noncomputable def R (x0 : RHead) (x1 : RSigned) : Option (Int) := ofM rf (fun a => gd a.1 a.2) (fun a => (md a.1 a.2)) (x0, x1)
theorem R_eq {a0 : MHead} {a1 : MSigned} (h : gd a0 a1) : R (MHead.r a0) (MSigned.r a1) = some (md a0 a1) := ofM_eq (r := rf) (a := (a0, a1)) rf_inj h
theorem okF (a0 : MHead) (a1 : MSigned) (hg : gd a0 a1) : F (MHead.r a0) (MSigned.r a1) = ret ((md a0 a1) : Int) := by
  unfold gd at hg
  obtain ⟨H0, H1⟩ := hg
  unfold F md
  try simp only [bytesL_map, List.length_map, toNat_nat, iAt_getD, bAt_getD, sAt_getD, lAt_getD, MHead.r_fKind, MSigned.r_fHead]
  refine call_to (impl_IsHead.md a0) ?_ ?_
  · have R_ := impl_IsHead.R_eq (a0 := a0) H0
    first | exact R_ | (simp only [List.map_append, List.map_cons, List.map_nil, List.cons_append, List.nil_append, iRow, sRow, bRow, lRow, List.map_set, bytesL_map, List.length_map, toNat_nat, iAt_getD, bAt_getD, sAt_getD, lAt_getD, MHead.r_fKind, MSigned.r_fHead] at R_ ⊢; first | exact R_ | (rw [← R_]; rfl))
  try simp only [bytesL_map, List.length_map, toNat_nat, iAt_getD, bAt_getD, sAt_getD, lAt_getD, MHead.r_fKind, MSigned.r_fHead]
  refine bif_out (fun b : Int => ret (b : Int)) (fun c1 => ?_) (fun c1 => ?_)
  · have dc1 := c1
    try simp only [bne_eq_false_iff_eq, bne_iff_ne, beq_iff_eq, beq_eq_false_iff_ne, ne_eq, Bool.not_eq_true', Bool.not_eq_false'] at dc1
    all_goals first | rfl | (simp only [bytesL_map, List.length_map, toNat_nat, iAt_getD, bAt_getD, sAt_getD, lAt_getD, MHead.r_fKind, MSigned.r_fHead]; done) | (simp only [List.map_append, List.map_cons, List.map_nil, List.cons_append, List.nil_append, iRow, sRow, bRow, lRow, List.map_set]; rfl) | (simp only [bytesL_map, List.length_map, toNat_nat, iAt_getD, bAt_getD, sAt_getD, lAt_getD, MHead.r_fKind, MSigned.r_fHead, List.map_append, List.map_cons, List.map_nil, List.cons_append, List.nil_append, iRow, sRow, bRow, lRow, List.map_set]; first | done | rfl)
  · have dc1 := c1
    try simp only [bne_eq_false_iff_eq, bne_iff_ne, beq_iff_eq, beq_eq_false_iff_ne, ne_eq, Bool.not_eq_true', Bool.not_eq_false'] at dc1
    refine call_to (impl_IsHead.md a1.fHead) ?_ ?_
    · have R_ := impl_IsHead.R_eq (a0 := a1.fHead) H1.1
      first | exact R_ | (simp only [List.map_append, List.map_cons, List.map_nil, List.cons_append, List.nil_append, iRow, sRow, bRow, lRow, List.map_set, bytesL_map, List.length_map, toNat_nat, iAt_getD, bAt_getD, sAt_getD, lAt_getD, MHead.r_fKind, MSigned.r_fHead] at R_ ⊢; first | exact R_ | (rw [← R_]; rfl))
    try simp only [bytesL_map, List.length_map, toNat_nat, iAt_getD, bAt_getD, sAt_getD, lAt_getD, MHead.r_fKind, MSigned.r_fHead]
    refine bif_out (fun b : Int => ret (b : Int)) (fun c2 => ?_) (fun c2 => ?_)
    · have dc2 := c2
      try simp only [bne_eq_false_iff_eq, bne_iff_ne, beq_iff_eq, beq_eq_false_iff_ne, ne_eq, Bool.not_eq_true', Bool.not_eq_false'] at dc2
      all_goals first | rfl | (simp only [bytesL_map, List.length_map, toNat_nat, iAt_getD, bAt_getD, sAt_getD, lAt_getD, MHead.r_fKind, MSigned.r_fHead]; done) | (simp only [List.map_append, List.map_cons, List.map_nil, List.cons_append, List.nil_append, iRow, sRow, bRow, lRow, List.map_set]; rfl) | (simp only [bytesL_map, List.length_map, toNat_nat, iAt_getD, bAt_getD, sAt_getD, lAt_getD, MHead.r_fKind, MSigned.r_fHead, List.map_append, List.map_cons, List.map_nil, List.cons_append, List.nil_append, iRow, sRow, bRow, lRow, List.map_set]; first | done | rfl)
    · have dc2 := c2
      try simp only [bne_eq_false_iff_eq, bne_iff_ne, beq_iff_eq, beq_eq_false_iff_ne, ne_eq, Bool.not_eq_true', Bool.not_eq_false'] at dc2
      refine call_to (impl_isNext.md a0 a1.fHead) ?_ ?_
      · have R_ := impl_isNext.R_eq (a0 := a0) (a1 := a1.fHead) H0
        first | exact R_ | (simp only [List.map_append, List.map_cons, List.map_nil, List.cons_append, List.nil_append, iRow, sRow, bRow, lRow, List.map_set, bytesL_map, List.length_map, toNat_nat, iAt_getD, bAt_getD, sAt_getD, lAt_getD, MHead.r_fKind, MSigned.r_fHead] at R_ ⊢; first | exact R_ | (rw [← R_]; rfl))
      try simp only [bytesL_map, List.length_map, toNat_nat, iAt_getD, bAt_getD, sAt_getD, lAt_getD, MHead.r_fKind, MSigned.r_fHead]
      refine bif_out (fun b : Int => ret (b : Int)) (fun c3 => ?_) (fun c3 => ?_)
      · have dc3 := c3
        try simp only [bne_eq_false_iff_eq, bne_iff_ne, beq_iff_eq, beq_eq_false_iff_ne, ne_eq, Bool.not_eq_true', Bool.not_eq_false'] at dc3
        all_goals first | rfl | (simp only [bytesL_map, List.length_map, toNat_nat, iAt_getD, bAt_getD, sAt_getD, lAt_getD, MHead.r_fKind, MSigned.r_fHead]; done) | (simp only [List.map_append, List.map_cons, List.map_nil, List.cons_append, List.nil_append, iRow, sRow, bRow, lRow, List.map_set]; rfl) | (simp only [bytesL_map, List.length_map, toNat_nat, iAt_getD, bAt_getD, sAt_getD, lAt_getD, MHead.r_fKind, MSigned.r_fHead, List.map_append, List.map_cons, List.map_nil, List.cons_append, List.nil_append, iRow, sRow, bRow, lRow, List.map_set]; first | done | rfl)
      · have dc3 := c3
        try simp only [bne_eq_false_iff_eq, bne_iff_ne, beq_iff_eq, beq_eq_false_iff_ne, ne_eq, Bool.not_eq_true', Bool.not_eq_false'] at dc3
        refine bif_out (fun b : Int => ret (b : Int)) (fun c4 => ?_) (fun c4 => ?_)
        · have dc4 := c4
          try simp only [bne_eq_false_iff_eq, bne_iff_ne, beq_iff_eq, beq_eq_false_iff_ne, ne_eq, Bool.not_eq_true', Bool.not_eq_false'] at dc4
          refine call_to (impl_ownerCode.md a0 a1) ?_ ?_
          · have R_ := impl_ownerCode.R_eq (a0 := a0) (a1 := a1) ⟨H0, H1⟩
            first | exact R_ | (simp only [List.map_append, List.map_cons, List.map_nil, List.cons_append, List.nil_append, iRow, sRow, bRow, lRow, List.map_set, bytesL_map, List.length_map, toNat_nat, iAt_getD, bAt_getD, sAt_getD, lAt_getD, MHead.r_fKind, MSigned.r_fHead] at R_ ⊢; first | exact R_ | (rw [← R_]; rfl))
          try simp only [bytesL_map, List.length_map, toNat_nat, iAt_getD, bAt_getD, sAt_getD, lAt_getD, MHead.r_fKind, MSigned.r_fHead]
          all_goals first | rfl | (simp only [bytesL_map, List.length_map, toNat_nat, iAt_getD, bAt_getD, sAt_getD, lAt_getD, MHead.r_fKind, MSigned.r_fHead]; done) | (simp only [List.map_append, List.map_cons, List.map_nil, List.cons_append, List.nil_append, iRow, sRow, bRow, lRow, List.map_set]; rfl) | (simp only [bytesL_map, List.length_map, toNat_nat, iAt_getD, bAt_getD, sAt_getD, lAt_getD, MHead.r_fKind, MSigned.r_fHead, List.map_append, List.map_cons, List.map_nil, List.cons_append, List.nil_append, iRow, sRow, bRow, lRow, List.map_set]; first | done | rfl)
        · have dc4 := c4
          try simp only [bne_eq_false_iff_eq, bne_iff_ne, beq_iff_eq, beq_eq_false_iff_ne, ne_eq, Bool.not_eq_true', Bool.not_eq_false'] at dc4
          refine bif_out (fun b : Int => ret (b : Int)) (fun c5 => ?_) (fun c5 => ?_)
          · have dc5 := c5
            try simp only [bne_eq_false_iff_eq, bne_iff_ne, beq_iff_eq, beq_eq_false_iff_ne, ne_eq, Bool.not_eq_true', Bool.not_eq_false'] at dc5
            refine call_to (impl_heirCode.md a0 a1) ?_ ?_
            · have R_ := impl_heirCode.R_eq (a0 := a0) (a1 := a1) ⟨H0, H1⟩
              first | exact R_ | (simp only [List.map_append, List.map_cons, List.map_nil, List.cons_append, List.nil_append, iRow, sRow, bRow, lRow, List.map_set, bytesL_map, List.length_map, toNat_nat, iAt_getD, bAt_getD, sAt_getD, lAt_getD, MHead.r_fKind, MSigned.r_fHead] at R_ ⊢; first | exact R_ | (rw [← R_]; rfl))
            try simp only [bytesL_map, List.length_map, toNat_nat, iAt_getD, bAt_getD, sAt_getD, lAt_getD, MHead.r_fKind, MSigned.r_fHead]
            all_goals first | rfl | (simp only [bytesL_map, List.length_map, toNat_nat, iAt_getD, bAt_getD, sAt_getD, lAt_getD, MHead.r_fKind, MSigned.r_fHead]; done) | (simp only [List.map_append, List.map_cons, List.map_nil, List.cons_append, List.nil_append, iRow, sRow, bRow, lRow, List.map_set]; rfl) | (simp only [bytesL_map, List.length_map, toNat_nat, iAt_getD, bAt_getD, sAt_getD, lAt_getD, MHead.r_fKind, MSigned.r_fHead, List.map_append, List.map_cons, List.map_nil, List.cons_append, List.nil_append, iRow, sRow, bRow, lRow, List.map_set]; first | done | rfl)
          · have dc5 := c5
            try simp only [bne_eq_false_iff_eq, bne_iff_ne, beq_iff_eq, beq_eq_false_iff_ne, ne_eq, Bool.not_eq_true', Bool.not_eq_false'] at dc5
            refine call_to (impl_judgeCode.md a0 a1) ?_ ?_
            · have R_ := impl_judgeCode.R_eq (a0 := a0) (a1 := a1) ⟨H0, H1⟩
              first | exact R_ | (simp only [List.map_append, List.map_cons, List.map_nil, List.cons_append, List.nil_append, iRow, sRow, bRow, lRow, List.map_set, bytesL_map, List.length_map, toNat_nat, iAt_getD, bAt_getD, sAt_getD, lAt_getD, MHead.r_fKind, MSigned.r_fHead] at R_ ⊢; first | exact R_ | (rw [← R_]; rfl))
            try simp only [bytesL_map, List.length_map, toNat_nat, iAt_getD, bAt_getD, sAt_getD, lAt_getD, MHead.r_fKind, MSigned.r_fHead]
            all_goals first | rfl | (simp only [bytesL_map, List.length_map, toNat_nat, iAt_getD, bAt_getD, sAt_getD, lAt_getD, MHead.r_fKind, MSigned.r_fHead]; done) | (simp only [List.map_append, List.map_cons, List.map_nil, List.cons_append, List.nil_append, iRow, sRow, bRow, lRow, List.map_set]; rfl) | (simp only [bytesL_map, List.length_map, toNat_nat, iAt_getD, bAt_getD, sAt_getD, lAt_getD, MHead.r_fKind, MSigned.r_fHead, List.map_append, List.map_cons, List.map_nil, List.cons_append, List.nil_append, iRow, sRow, bRow, lRow, List.map_set]; first | done | rfl)
noncomputable def sem (ls : List L) : Option (List L) := (R (RHead.dec ls) (RSigned.dec (dropT 16 ls))).map RT.enc
theorem ok (ls q : List L) (hl : LOKs Ev.cells pats ls) (h : sem ls = some q) : ∃ n, runF E live Tryz.f145 res n (initS pats ls) = some q := by
  obtain ⟨v, hv, hq⟩ := map_some h
  obtain ⟨⟨a0, a1⟩, hg, e, hm⟩ := ofM_some hv
  simp only [rf, Prod.mk.injEq] at e
  obtain ⟨e0, e1⟩ := e
  have hn := okF a0 a1 hg
  refine ⟨0, (run_eq 0 ls).trans ?_⟩
  rw [← e0, ← e1]
  rw [hn, ← hq, hm]; rfl
noncomputable def con : Con := ⟨pats, res, sem⟩
theorem chk : fnB Tryz.f145 con 40 = true := by kernel_rfl
theorem valid_ : Valid Tryz.prog Ev 145 con := valid mix tab_ok (.cons impl_IsHead.valid_ (.cons impl_isNext.valid_ (.cons impl_ownerCode.valid_ (.cons impl_heirCode.valid_ (.cons impl_judgeCode.valid_ .nil))))) Tryz.func145 chk live ok
theorem br (a0 : MHead) (a1 : MSigned) : md a0 a1 = spec_NextCode.md a0 a1 := by
  unfold md spec_NextCode.md impl_isNext.md impl_ownerCode.md impl_heirCode.md impl_judgeCode.md impl_Signed_isSignedBy.md spec_l15Owner.md spec_l15Heir.md spec_l15Judge.md
  simp only [impl_IsHead.br, impl_HeadDigest.br, impl_IsSigned.br, impl_HeadInts.br, impl_NoKeys.br, impl_EqualKeys.md_eq, spec_EqualKeys.md_eq, impl_SameContents.br, bne]
  cases spec_IsHead.md a0
  · rfl
  cases h2 : spec_IsHead.md a1.fHead
  · rfl
  obtain ⟨⟨k1, k2⟩, _⟩ := spec_IsHead.tr h2
  have ht : decide (a1.fHead.fTime < a0.fTime) = !decide (a1.fHead.fTime ≥ a0.fTime) := by
    rw [Bool.eq_iff_iff]; simp
  rw [ht]
  cases a1.fHead.fZone == a0.fZone
  · rfl
  cases a1.fHead.fEpoch == IntKind.i64.wrap (a0.fEpoch + 1)
  · rfl
  cases a1.fHead.fPrev == spec_HeadDigest.md a0
  · rfl
  cases decide (a1.fHead.fTime ≥ a0.fTime)
  · rfl
  have hk : a1.fHead.fKind = 1 ∨ a1.fHead.fKind = 2 ∨ a1.fHead.fKind = 3 := by omega
  generalize spec_IsSigned.md a0.fKeys (spec_HeadInts.md a1.fHead) a1.fSigs = s1
  generalize spec_IsSigned.md a0.fHeirs (spec_HeadInts.md a1.fHead) a1.fSigs = s2
  generalize spec_IsSigned.md a0.fJudge (spec_HeadInts.md a1.fHead) a1.fSigs = s3
  generalize spec_NoKeys.md a0.fHeirs = n1
  generalize spec_NoKeys.md a0.fJudge = n2
  generalize decide (a1.fHead.fTime < IntKind.i64.wrap (a0.fUntil + a0.fWait)) = d1
  generalize eqB a1.fHead.fKeys a0.fHeirs = e1
  generalize eqB a1.fHead.fJudge a0.fJudge = e2
  generalize eqB a1.fHead.fHeirs a0.fHeirs = e3
  generalize eqB a1.fHead.fKeys a0.fKeys = e4
  generalize spec_SameContents.md a1.fHead a0 = c1
  generalize (a1.fHead.fWait == a0.fWait) = w1
  generalize a1.fHead.fFrozen = f1
  generalize a0.fFrozen = f0
  rcases hk with hk | hk | hk <;> rw [hk]
  · cases f0 <;> cases f1 <;> cases s1 <;> rfl
  · cases f0 <;> cases n1 <;> cases d1 <;> cases f1 <;> cases e1 <;> cases c1 <;> cases s2 <;> rfl
  · cases n2
    · cases f1 <;> cases f0 <;> cases c1 <;> cases e2 <;> cases e3 <;> cases w1 <;> cases e4 <;> cases s3 <;> rfl
    · cases c1 <;> cases e2 <;> cases e3 <;> rfl
end impl_NextCode
/-! impl.MayFollow -/
namespace impl_MayFollow
noncomputable def F (x0 : RHead) (x1 : RSigned) : Ans := (call (impl_NextCode.R x0 x1) fun v1 => ret ((v1 == 1) : Bool))
def live : Nat → Live := fun _ => []
def pats : List Pat := [.agg [.int .i64, .int .i64, .int .i64, .int .i64, .int .i64, .int .i64, .int .i64, .int .i64, .sl 3, .int .i64, .sl 3, .int .i64, .int .i64, .sl 3, .int .i64, .bool], .agg [.int .i64, .int .i64, .int .i64, .int .i64, .int .i64, .int .i64, .int .i64, .int .i64, .sl 3, .int .i64, .sl 3, .int .i64, .int .i64, .sl 3, .int .i64, .bool, .sl 179]]
def res : RP := .one (.rd (.bool))
noncomputable def G : List (Nat × Con) := [(145, impl_NextCode.con)]
noncomputable abbrev E : Env := ⟨assoc Tab, conG G, 9⟩
set_option maxRecDepth 100000
theorem run_eq (n : Nat) (ls : List L) : runF E live Tryz.f96 res n (initS pats ls) = F (RHead.dec ls) (RSigned.dec (dropT 16 ls)) := by kernel_rfl
noncomputable def md (a0 : MHead) (a1 : MSigned) : Bool := (((impl_NextCode.md a0 a1) == 1) : Bool)
def gd (a0 : MHead) (a1 : MSigned) : Prop := (MHead.Sm (2 ^ 21) a0) ∧ (MSigned.Sm (2 ^ 21) a1)
def rf (a : MHead × MSigned) : RHead × RSigned := ((MHead.r a.1), (MSigned.r a.2))
theorem rf_inj (a b : MHead × MSigned) (h : rf a = rf b) : a = b := by
  exact (Prod.ext (MHead.r_inj (congrArg (fun x => x.1) h)) (MSigned.r_inj (congrArg (fun x => x.2) h)))
noncomputable def R (x0 : RHead) (x1 : RSigned) : Option (Bool) := ofM rf (fun a => gd a.1 a.2) (fun a => (md a.1 a.2)) (x0, x1)
theorem R_eq {a0 : MHead} {a1 : MSigned} (h : gd a0 a1) : R (MHead.r a0) (MSigned.r a1) = some (md a0 a1) := ofM_eq (r := rf) (a := (a0, a1)) rf_inj h
theorem okF (a0 : MHead) (a1 : MSigned) (hg : gd a0 a1) : F (MHead.r a0) (MSigned.r a1) = ret ((md a0 a1) : Bool) := by
  unfold gd at hg
  obtain ⟨H0, H1⟩ := hg
  unfold F md
  try simp only [bytesL_map, List.length_map, toNat_nat, iAt_getD, bAt_getD, sAt_getD, lAt_getD]
  refine call_to (impl_NextCode.md a0 a1) ?_ ?_
  · have R_ := impl_NextCode.R_eq (a0 := a0) (a1 := a1) ⟨H0, H1⟩
    first | exact R_ | (simp only [List.map_append, List.map_cons, List.map_nil, List.cons_append, List.nil_append, iRow, sRow, bRow, lRow, List.map_set, bytesL_map, List.length_map, toNat_nat, iAt_getD, bAt_getD, sAt_getD, lAt_getD] at R_ ⊢; first | exact R_ | (rw [← R_]; rfl))
  try simp only [bytesL_map, List.length_map, toNat_nat, iAt_getD, bAt_getD, sAt_getD, lAt_getD]
  all_goals first | rfl | (simp only [bytesL_map, List.length_map, toNat_nat, iAt_getD, bAt_getD, sAt_getD, lAt_getD]; done) | (simp only [List.map_append, List.map_cons, List.map_nil, List.cons_append, List.nil_append, iRow, sRow, bRow, lRow, List.map_set]; rfl) | (simp only [bytesL_map, List.length_map, toNat_nat, iAt_getD, bAt_getD, sAt_getD, lAt_getD, List.map_append, List.map_cons, List.map_nil, List.cons_append, List.nil_append, iRow, sRow, bRow, lRow, List.map_set]; first | done | rfl)
noncomputable def sem (ls : List L) : Option (List L) := (R (RHead.dec ls) (RSigned.dec (dropT 16 ls))).map RT.enc
theorem ok (ls q : List L) (hl : LOKs Ev.cells pats ls) (h : sem ls = some q) : ∃ n, runF E live Tryz.f96 res n (initS pats ls) = some q := by
  obtain ⟨v, hv, hq⟩ := map_some h
  obtain ⟨⟨a0, a1⟩, hg, e, hm⟩ := ofM_some hv
  simp only [rf, Prod.mk.injEq] at e
  obtain ⟨e0, e1⟩ := e
  have hn := okF a0 a1 hg
  refine ⟨0, (run_eq 0 ls).trans ?_⟩
  rw [← e0, ← e1]
  rw [hn, ← hq, hm]; rfl
noncomputable def con : Con := ⟨pats, res, sem⟩
theorem chk : fnB Tryz.f96 con 9 = true := by kernel_rfl
theorem valid_ : Valid Tryz.prog Ev 96 con := valid mix tab_ok (.cons impl_NextCode.valid_ .nil) Tryz.func96 chk live ok
theorem br (a0 : MHead) (a1 : MSigned) : md a0 a1 = spec_MayFollow.md a0 a1 := by
  unfold md spec_MayFollow.md
  first
  | (simp only [impl_NextCode.br]; done)
  | (simp only [impl_NextCode.br]; rfl)
  | rfl
end impl_MayFollow
/-! impl.FirstWrong -/
namespace impl_FirstWrong
inductive Pt where
  | p0 (a : List (List L)) (b : List (List L)) (c : Int) (d : Int)
def pid : Pt → Nat
  | .p0 .. => 2
def pvs : Pt → List V
  | .p0 a b c d => [.sl none 92 a, .sl none 92 b, .int .i64 c, .int .i64 d]
def phs : Pt → List Root
  | .p0 a b c d => []
noncomputable def step (J : Pt → Ans) : Pt → Ans
  | .p0 a b c d => (bif (decide (d < c)) then (bif (decide ((0 : Int) ≤ d)) then (bif (decide (d < (b.length : Int))) then (bif (d == 0) then (call (impl_IsFirst.R (RSigned.at b (Int.toNat d))) fun v1 => (bif (!v1) then ret (d : Int) else (bif (decide (d > 0)) then (bif (decide ((0 : Int) ≤ (IntKind.i64.wrap (d - 1)))) then (bif (decide ((IntKind.i64.wrap (d - 1)) < (a.length : Int))) then (call (impl_MayFollow.R ((RSigned.at a (Int.toNat (IntKind.i64.wrap (d - 1)))).fHead) (RSigned.at b (Int.toNat d))) fun v2 => (bif (!v2) then ret (d : Int) else J (.p0 a b c (IntKind.i64.wrap (d + 1))))) else none) else none) else J (.p0 a b c (IntKind.i64.wrap (d + 1)))))) else (bif (decide (d > 0)) then (bif (decide ((0 : Int) ≤ (IntKind.i64.wrap (d - 1)))) then (bif (decide ((IntKind.i64.wrap (d - 1)) < (a.length : Int))) then (call (impl_MayFollow.R ((RSigned.at a (Int.toNat (IntKind.i64.wrap (d - 1)))).fHead) (RSigned.at b (Int.toNat d))) fun v3 => (bif (!v3) then ret (d : Int) else J (.p0 a b c (IntKind.i64.wrap (d + 1))))) else none) else none) else J (.p0 a b c (IntKind.i64.wrap (d + 1))))) else none) else none) else ret ((-1) : Int))
noncomputable def start (J : Pt → Ans) (x0 : List (List L)) : Ans := J (.p0 x0 x0 (x0.length : Int) 0)
def live : Nat → Live := fun i => match i with | 2 => [(0, none), (5, none), (6, none), (7, none)] | _ => []
def pats : List Pat := [.rd (.sl 92)]
def res : RP := .one (.rd (.int .i64))
noncomputable def G : List (Nat × Con) := [(95, impl_IsFirst.con), (96, impl_MayFollow.con)]
noncomputable abbrev E : Env := ⟨assoc Tab, conG G, 36⟩
set_option maxRecDepth 100000
theorem step_eq (I : Heads) (p : Pt) : enterC E live I (pid p) (bodyOf Tryz.f89) (stOf (live (pid p)) (pvs p) (phs p)) (doneK E Tryz.f89 res) = step (fun q => I (pid q) (pvs q) (phs q)) p := by
  cases p <;> kernel_rfl
theorem start_eq (I : Heads) (ls : List L) : runC E live I (bodyOf Tryz.f89) (initS pats ls) (doneK E Tryz.f89 res) = start (fun q => I (pid q) (pvs q) (phs q)) (ls.headD .hole).toSl := by kernel_rfl
theorem run_eq (n : Nat) (ls : List L) : runF E live Tryz.f89 res n (initS pats ls) = start (iter step n) (ls.headD .hole).toSl := runF_iter (id := pid) (vs := pvs) (hs := phs) (step := step) (start := fun J => start J (ls.headD .hole).toSl) step_eq (fun I => start_eq I ls) n
noncomputable def md (a0 : List MSigned) : Int := (eachI (S := Unit) (β := Int) (fun (i1 : Nat) (y1 : MSigned) (s3 : Unit) => (bif ((i1 : Int) == 0) then (bif (!(impl_IsFirst.md y1)) then (.inr ((i1 : Int) : Int)) else (bif (decide ((i1 : Int) > 0)) then (bif (!(impl_MayFollow.md ((a0.getD (Int.toNat (IntKind.i64.wrap ((i1 : Int) - 1))) MSigned.zero).fHead) y1)) then (.inr ((i1 : Int) : Int)) else (.inl ())) else (.inl ()))) else (bif (decide ((i1 : Int) > 0)) then (bif (!(impl_MayFollow.md ((a0.getD (Int.toNat (IntKind.i64.wrap ((i1 : Int) - 1))) MSigned.zero).fHead) y1)) then (.inr ((i1 : Int) : Int)) else (.inl ())) else (.inl ())))) (fun (s3 : Unit) => ((-1) : Int)) 0 a0 ())
def gd (a0 : List MSigned) : Prop := (SmL (2 ^ 21) (fun y : MSigned => MSigned.Sm (2 ^ 21) y) a0)
def rf (a : List MSigned) : List (List L) := (a.map MSigned.row)
theorem rf_inj (a b : List MSigned) (h : rf a = rf b) : a = b := by
  exact (map_inj MSigned.row_inj h)
noncomputable def R (x0 : List (List L)) : Option (Int) := ofM rf (fun a => gd a) (fun a => (md a)) x0
theorem R_eq {a0 : List MSigned} (h : gd a0) : R (a0.map MSigned.row) = some (md a0) := ofM_eq (r := rf) (a := a0) rf_inj h
theorem okF (a0 : List MSigned) (hg : gd a0) : ∃ n, start (iter step n) (a0.map MSigned.row) = ret ((md a0) : Int) := by
  unfold gd at hg
  have H0 := hg
  unfold start md
  try simp only [bytesL_map, List.length_map, toNat_nat, iAt_getD, bAt_getD, sAt_getD, lAt_getD, MSigned.at_getD, MSigned.r_fHead]
  have Bh2 : a0.length ≤ maxLen := (by
      have := (H0).1
      try simp only [maxLen] at *
      omega)
  refine ex_eq (out := (fun b : Int => ret (b : Int))) (show (loopM (S := Unit) (β := Int) (fun (i1 : Nat) (s3 : Unit) => (bif ((i1 : Int) == 0) then (bif (!(impl_IsFirst.md (a0.getD i1 MSigned.zero))) then (.inr ((i1 : Int) : Int)) else (bif (decide ((i1 : Int) > 0)) then (bif (!(impl_MayFollow.md ((a0.getD (Int.toNat (IntKind.i64.wrap ((i1 : Int) - 1))) MSigned.zero).fHead) (a0.getD i1 MSigned.zero))) then (.inr ((i1 : Int) : Int)) else (.inl ())) else (.inl ()))) else (bif (decide ((i1 : Int) > 0)) then (bif (!(impl_MayFollow.md ((a0.getD (Int.toNat (IntKind.i64.wrap ((i1 : Int) - 1))) MSigned.zero).fHead) (a0.getD i1 MSigned.zero))) then (.inr ((i1 : Int) : Int)) else (.inl ())) else (.inl ())))) (fun (s3 : Unit) => ((-1) : Int)) a0.length 0 ()) = (eachI (S := Unit) (β := Int) (fun (i1 : Nat) (y1 : MSigned) (s3 : Unit) => (bif ((i1 : Int) == 0) then (bif (!(impl_IsFirst.md y1)) then (.inr ((i1 : Int) : Int)) else (bif (decide ((i1 : Int) > 0)) then (bif (!(impl_MayFollow.md ((a0.getD (Int.toNat (IntKind.i64.wrap ((i1 : Int) - 1))) MSigned.zero).fHead) y1)) then (.inr ((i1 : Int) : Int)) else (.inl ())) else (.inl ()))) else (bif (decide ((i1 : Int) > 0)) then (bif (!(impl_MayFollow.md ((a0.getD (Int.toNat (IntKind.i64.wrap ((i1 : Int) - 1))) MSigned.zero).fHead) y1)) then (.inr ((i1 : Int) : Int)) else (.inl ())) else (.inl ())))) (fun (s3 : Unit) => ((-1) : Int)) 0 a0 ()) from loopM_eachI (S := Unit) (β := Int) (f := fun (i1 : Nat) (y1 : MSigned) (s3 : Unit) => (bif ((i1 : Int) == 0) then (bif (!(impl_IsFirst.md y1)) then (.inr ((i1 : Int) : Int)) else (bif (decide ((i1 : Int) > 0)) then (bif (!(impl_MayFollow.md ((a0.getD (Int.toNat (IntKind.i64.wrap ((i1 : Int) - 1))) MSigned.zero).fHead) y1)) then (.inr ((i1 : Int) : Int)) else (.inl ())) else (.inl ()))) else (bif (decide ((i1 : Int) > 0)) then (bif (!(impl_MayFollow.md ((a0.getD (Int.toNat (IntKind.i64.wrap ((i1 : Int) - 1))) MSigned.zero).fHead) y1)) then (.inr ((i1 : Int) : Int)) else (.inl ())) else (.inl ())))) (t := fun (s3 : Unit) => ((-1) : Int)) (xs := a0) (z := MSigned.zero)) ?_
  refine ex_pt (p := Pt.p0 (a0.map MSigned.row) (a0.map MSigned.row) (a0.length : Int) 0) (by first | rfl | (simp only [bytesL_map, List.length_map, toNat_nat, iAt_getD, bAt_getD, sAt_getD, lAt_getD, MSigned.at_getD, MSigned.r_fHead, List.map_append, List.map_cons, List.map_nil, List.cons_append, List.nil_append, iRow, sRow, bRow, lRow, List.map_set]; done) | (simp only [List.map_append, List.map_cons, List.map_nil, List.cons_append, List.nil_append, iRow, sRow, bRow, lRow, List.map_set]; rfl)) ?_
  refine loopM_ok (pt := fun (i1 : Nat) (s3 : Unit) => Pt.p0 (a0.map MSigned.row) (a0.map MSigned.row) (a0.length : Int) (i1 : Int)) (s := (() : Unit)) (out := (fun b : Int => ret (b : Int))) (fun _ _ => True) (fun J i1 s3 h2 hih2 => ?_) (fun s3 hih2 => ?_) trivial
  · simp only [step, bytesL_map, List.length_map, toNat_nat, iAt_getD, bAt_getD, sAt_getD, lAt_getD, MSigned.at_getD, MSigned.r_fHead]
    have bb_ := Bh2
    simp only [maxLen] at bb_
    have := (H0).1
    refine Rnd.yes (by apply decide_eq_true; omega) ?_
    refine Rnd.yes (by
        refine decide_eq_true ?_
        try simp (disch := omega) only [List.sum_cons, List.sum_nil, List.map_cons, List.map_nil, bytesI_length, bytesL_length, List.length_append, List.length_cons, List.length_nil, List.length_map, List.length_set, List.length_replicate, List.length_take, List.length_drop, Go.IntWalk.i64_in]
        first | omega | (simp; done) | (simp; omega)) ?_
    refine Rnd.yes (by
        have := (H0).1
        refine decide_eq_true ?_
        try simp (disch := omega) only [List.sum_cons, List.sum_nil, List.map_cons, List.map_nil, bytesI_length, bytesL_length, List.length_append, List.length_cons, List.length_nil, List.length_map, List.length_set, List.length_replicate, List.length_take, List.length_drop, Go.IntWalk.i64_in]
        first | omega | (simp; done) | (simp; omega)) ?_
    refine Rnd.bif (fun c4 => ?_) (fun c4 => ?_)
    · have dc4 := c4
      try simp only [bne_eq_false_iff_eq, bne_iff_ne, beq_iff_eq, beq_eq_false_iff_ne, ne_eq, Bool.not_eq_true', Bool.not_eq_false'] at dc4
      refine Rnd.call_to (impl_IsFirst.md (a0.getD i1 MSigned.zero)) ?_ ?_
      · have R_ := impl_IsFirst.R_eq (a0 := (a0.getD i1 MSigned.zero)) (SmL.getD (z := MSigned.zero) H0 h2)
        first | exact R_ | (simp only [List.map_append, List.map_cons, List.map_nil, List.cons_append, List.nil_append, iRow, sRow, bRow, lRow, List.map_set, bytesL_map, List.length_map, toNat_nat, iAt_getD, bAt_getD, sAt_getD, lAt_getD, MSigned.at_getD, MSigned.r_fHead] at R_ ⊢; first | exact R_ | (rw [← R_]; rfl))
      try simp only [bytesL_map, List.length_map, toNat_nat, iAt_getD, bAt_getD, sAt_getD, lAt_getD, MSigned.at_getD, MSigned.r_fHead]
      refine Rnd.bif (fun c5 => ?_) (fun c5 => ?_)
      · have dc5 := c5
        try simp only [bne_eq_false_iff_eq, bne_iff_ne, beq_iff_eq, beq_eq_false_iff_ne, ne_eq, Bool.not_eq_true', Bool.not_eq_false'] at dc5
        refine Rnd.inr ?_
        all_goals first | rfl | (simp only [bytesL_map, List.length_map, toNat_nat, iAt_getD, bAt_getD, sAt_getD, lAt_getD, MSigned.at_getD, MSigned.r_fHead]; done) | (simp only [List.map_append, List.map_cons, List.map_nil, List.cons_append, List.nil_append, iRow, sRow, bRow, lRow, List.map_set]; rfl) | (simp only [bytesL_map, List.length_map, toNat_nat, iAt_getD, bAt_getD, sAt_getD, lAt_getD, MSigned.at_getD, MSigned.r_fHead, List.map_append, List.map_cons, List.map_nil, List.cons_append, List.nil_append, iRow, sRow, bRow, lRow, List.map_set]; first | done | rfl)
      · have dc5 := c5
        try simp only [bne_eq_false_iff_eq, bne_iff_ne, beq_iff_eq, beq_eq_false_iff_ne, ne_eq, Bool.not_eq_true', Bool.not_eq_false'] at dc5
        refine Rnd.bif (fun c6 => ?_) (fun c6 => ?_)
        · have dc6 := c6
          simp only [decide_eq_true_eq, decide_eq_false_iff_not] at dc6
          refine Rnd.yes (by
              refine decide_eq_true ?_
              try simp (disch := omega) only [List.sum_cons, List.sum_nil, List.map_cons, List.map_nil, bytesI_length, bytesL_length, List.length_append, List.length_cons, List.length_nil, List.length_map, List.length_set, List.length_replicate, List.length_take, List.length_drop, Go.IntWalk.i64_in]
              first | omega | (simp; done) | (simp; omega)) ?_
          refine Rnd.yes (by
              have := (H0).1
              refine decide_eq_true ?_
              try simp (disch := omega) only [List.sum_cons, List.sum_nil, List.map_cons, List.map_nil, bytesI_length, bytesL_length, List.length_append, List.length_cons, List.length_nil, List.length_map, List.length_set, List.length_replicate, List.length_take, List.length_drop, Go.IntWalk.i64_in]
              first | omega | (simp; done) | (simp; omega)) ?_
          refine Rnd.call_to (impl_MayFollow.md ((a0.getD (Int.toNat (IntKind.i64.wrap ((i1 : Int) - 1))) MSigned.zero).fHead) (a0.getD i1 MSigned.zero)) ?_ ?_
          · have R_ := impl_MayFollow.R_eq (a0 := (a0.getD (Int.toNat (IntKind.i64.wrap ((i1 : Int) - 1))) MSigned.zero).fHead) (a1 := (a0.getD i1 MSigned.zero)) ⟨(SmL.getD (z := MSigned.zero) H0 (by first | assumption | omega | (simp (disch := omega) only [Go.IntWalk.i64_in]; omega) | (simp; omega))).1, (SmL.getD (z := MSigned.zero) H0 h2)⟩
            first | exact R_ | (simp only [List.map_append, List.map_cons, List.map_nil, List.cons_append, List.nil_append, iRow, sRow, bRow, lRow, List.map_set, bytesL_map, List.length_map, toNat_nat, iAt_getD, bAt_getD, sAt_getD, lAt_getD, MSigned.at_getD, MSigned.r_fHead] at R_ ⊢; first | exact R_ | (rw [← R_]; rfl))
          try simp only [bytesL_map, List.length_map, toNat_nat, iAt_getD, bAt_getD, sAt_getD, lAt_getD, MSigned.at_getD, MSigned.r_fHead]
          refine Rnd.bif (fun c7 => ?_) (fun c7 => ?_)
          · have dc7 := c7
            try simp only [bne_eq_false_iff_eq, bne_iff_ne, beq_iff_eq, beq_eq_false_iff_ne, ne_eq, Bool.not_eq_true', Bool.not_eq_false'] at dc7
            refine Rnd.inr ?_
            all_goals first | rfl | (simp only [bytesL_map, List.length_map, toNat_nat, iAt_getD, bAt_getD, sAt_getD, lAt_getD, MSigned.at_getD, MSigned.r_fHead]; done) | (simp only [List.map_append, List.map_cons, List.map_nil, List.cons_append, List.nil_append, iRow, sRow, bRow, lRow, List.map_set]; rfl) | (simp only [bytesL_map, List.length_map, toNat_nat, iAt_getD, bAt_getD, sAt_getD, lAt_getD, MSigned.at_getD, MSigned.r_fHead, List.map_append, List.map_cons, List.map_nil, List.cons_append, List.nil_append, iRow, sRow, bRow, lRow, List.map_set]; first | done | rfl)
          · have dc7 := c7
            try simp only [bne_eq_false_iff_eq, bne_iff_ne, beq_iff_eq, beq_eq_false_iff_ne, ne_eq, Bool.not_eq_true', Bool.not_eq_false'] at dc7
            refine Rnd.inl trivial ?_
            rw [wrap_succ h2 Bh2]
            all_goals first | rfl | (simp only [bytesL_map, List.length_map, toNat_nat, iAt_getD, bAt_getD, sAt_getD, lAt_getD, MSigned.at_getD, MSigned.r_fHead]; done) | (simp only [List.map_append, List.map_cons, List.map_nil, List.cons_append, List.nil_append, iRow, sRow, bRow, lRow, List.map_set]; rfl) | (simp only [bytesL_map, List.length_map, toNat_nat, iAt_getD, bAt_getD, sAt_getD, lAt_getD, MSigned.at_getD, MSigned.r_fHead, List.map_append, List.map_cons, List.map_nil, List.cons_append, List.nil_append, iRow, sRow, bRow, lRow, List.map_set]; first | done | rfl)
        · have dc6 := c6
          simp only [decide_eq_true_eq, decide_eq_false_iff_not] at dc6
          refine Rnd.inl trivial ?_
          rw [wrap_succ h2 Bh2]
          all_goals first | rfl | (simp only [bytesL_map, List.length_map, toNat_nat, iAt_getD, bAt_getD, sAt_getD, lAt_getD, MSigned.at_getD, MSigned.r_fHead]; done) | (simp only [List.map_append, List.map_cons, List.map_nil, List.cons_append, List.nil_append, iRow, sRow, bRow, lRow, List.map_set]; rfl) | (simp only [bytesL_map, List.length_map, toNat_nat, iAt_getD, bAt_getD, sAt_getD, lAt_getD, MSigned.at_getD, MSigned.r_fHead, List.map_append, List.map_cons, List.map_nil, List.cons_append, List.nil_append, iRow, sRow, bRow, lRow, List.map_set]; first | done | rfl)
    · have dc4 := c4
      try simp only [bne_eq_false_iff_eq, bne_iff_ne, beq_iff_eq, beq_eq_false_iff_ne, ne_eq, Bool.not_eq_true', Bool.not_eq_false'] at dc4
      refine Rnd.bif (fun c8 => ?_) (fun c8 => ?_)
      · have dc8 := c8
        simp only [decide_eq_true_eq, decide_eq_false_iff_not] at dc8
        refine Rnd.yes (by
            refine decide_eq_true ?_
            try simp (disch := omega) only [List.sum_cons, List.sum_nil, List.map_cons, List.map_nil, bytesI_length, bytesL_length, List.length_append, List.length_cons, List.length_nil, List.length_map, List.length_set, List.length_replicate, List.length_take, List.length_drop, Go.IntWalk.i64_in]
            first | omega | (simp; done) | (simp; omega)) ?_
        refine Rnd.yes (by
            have := (H0).1
            refine decide_eq_true ?_
            try simp (disch := omega) only [List.sum_cons, List.sum_nil, List.map_cons, List.map_nil, bytesI_length, bytesL_length, List.length_append, List.length_cons, List.length_nil, List.length_map, List.length_set, List.length_replicate, List.length_take, List.length_drop, Go.IntWalk.i64_in]
            first | omega | (simp; done) | (simp; omega)) ?_
        refine Rnd.call_to (impl_MayFollow.md ((a0.getD (Int.toNat (IntKind.i64.wrap ((i1 : Int) - 1))) MSigned.zero).fHead) (a0.getD i1 MSigned.zero)) ?_ ?_
        · have R_ := impl_MayFollow.R_eq (a0 := (a0.getD (Int.toNat (IntKind.i64.wrap ((i1 : Int) - 1))) MSigned.zero).fHead) (a1 := (a0.getD i1 MSigned.zero)) ⟨(SmL.getD (z := MSigned.zero) H0 (by first | assumption | omega | (simp (disch := omega) only [Go.IntWalk.i64_in]; omega) | (simp; omega))).1, (SmL.getD (z := MSigned.zero) H0 h2)⟩
          first | exact R_ | (simp only [List.map_append, List.map_cons, List.map_nil, List.cons_append, List.nil_append, iRow, sRow, bRow, lRow, List.map_set, bytesL_map, List.length_map, toNat_nat, iAt_getD, bAt_getD, sAt_getD, lAt_getD, MSigned.at_getD, MSigned.r_fHead] at R_ ⊢; first | exact R_ | (rw [← R_]; rfl))
        try simp only [bytesL_map, List.length_map, toNat_nat, iAt_getD, bAt_getD, sAt_getD, lAt_getD, MSigned.at_getD, MSigned.r_fHead]
        refine Rnd.bif (fun c9 => ?_) (fun c9 => ?_)
        · have dc9 := c9
          try simp only [bne_eq_false_iff_eq, bne_iff_ne, beq_iff_eq, beq_eq_false_iff_ne, ne_eq, Bool.not_eq_true', Bool.not_eq_false'] at dc9
          refine Rnd.inr ?_
          all_goals first | rfl | (simp only [bytesL_map, List.length_map, toNat_nat, iAt_getD, bAt_getD, sAt_getD, lAt_getD, MSigned.at_getD, MSigned.r_fHead]; done) | (simp only [List.map_append, List.map_cons, List.map_nil, List.cons_append, List.nil_append, iRow, sRow, bRow, lRow, List.map_set]; rfl) | (simp only [bytesL_map, List.length_map, toNat_nat, iAt_getD, bAt_getD, sAt_getD, lAt_getD, MSigned.at_getD, MSigned.r_fHead, List.map_append, List.map_cons, List.map_nil, List.cons_append, List.nil_append, iRow, sRow, bRow, lRow, List.map_set]; first | done | rfl)
        · have dc9 := c9
          try simp only [bne_eq_false_iff_eq, bne_iff_ne, beq_iff_eq, beq_eq_false_iff_ne, ne_eq, Bool.not_eq_true', Bool.not_eq_false'] at dc9
          refine Rnd.inl trivial ?_
          rw [wrap_succ h2 Bh2]
          all_goals first | rfl | (simp only [bytesL_map, List.length_map, toNat_nat, iAt_getD, bAt_getD, sAt_getD, lAt_getD, MSigned.at_getD, MSigned.r_fHead]; done) | (simp only [List.map_append, List.map_cons, List.map_nil, List.cons_append, List.nil_append, iRow, sRow, bRow, lRow, List.map_set]; rfl) | (simp only [bytesL_map, List.length_map, toNat_nat, iAt_getD, bAt_getD, sAt_getD, lAt_getD, MSigned.at_getD, MSigned.r_fHead, List.map_append, List.map_cons, List.map_nil, List.cons_append, List.nil_append, iRow, sRow, bRow, lRow, List.map_set]; first | done | rfl)
      · have dc8 := c8
        simp only [decide_eq_true_eq, decide_eq_false_iff_not] at dc8
        refine Rnd.inl trivial ?_
        rw [wrap_succ h2 Bh2]
        all_goals first | rfl | (simp only [bytesL_map, List.length_map, toNat_nat, iAt_getD, bAt_getD, sAt_getD, lAt_getD, MSigned.at_getD, MSigned.r_fHead]; done) | (simp only [List.map_append, List.map_cons, List.map_nil, List.cons_append, List.nil_append, iRow, sRow, bRow, lRow, List.map_set]; rfl) | (simp only [bytesL_map, List.length_map, toNat_nat, iAt_getD, bAt_getD, sAt_getD, lAt_getD, MSigned.at_getD, MSigned.r_fHead, List.map_append, List.map_cons, List.map_nil, List.cons_append, List.nil_append, iRow, sRow, bRow, lRow, List.map_set]; first | done | rfl)
  · simp only [step, bytesL_map, List.length_map, toNat_nat, iAt_getD, bAt_getD, sAt_getD, lAt_getD, MSigned.at_getD, MSigned.r_fHead]
    have := (H0).1
    refine ex_no (by apply decide_eq_false; omega) ?_
    refine ⟨0, ?_⟩
    all_goals first | rfl | (simp only [bytesL_map, List.length_map, toNat_nat, iAt_getD, bAt_getD, sAt_getD, lAt_getD, MSigned.at_getD, MSigned.r_fHead]; done) | (simp only [List.map_append, List.map_cons, List.map_nil, List.cons_append, List.nil_append, iRow, sRow, bRow, lRow, List.map_set]; rfl) | (simp only [bytesL_map, List.length_map, toNat_nat, iAt_getD, bAt_getD, sAt_getD, lAt_getD, MSigned.at_getD, MSigned.r_fHead, List.map_append, List.map_cons, List.map_nil, List.cons_append, List.nil_append, iRow, sRow, bRow, lRow, List.map_set]; first | done | rfl)
noncomputable def sem (ls : List L) : Option (List L) := (R (ls.headD .hole).toSl).map RT.enc
theorem ok (ls q : List L) (hl : LOKs Ev.cells pats ls) (h : sem ls = some q) : ∃ n, runF E live Tryz.f89 res n (initS pats ls) = some q := by
  obtain ⟨v, hv, hq⟩ := map_some h
  obtain ⟨a0, hg, e, hm⟩ := ofM_some hv
  have e0 : (a0.map MSigned.row) = _ := e
  obtain ⟨n, hn⟩ := okF a0 hg
  refine ⟨n, (run_eq n ls).trans ?_⟩
  rw [← e0]
  rw [hn, ← hq, hm]; rfl
noncomputable def con : Con := ⟨pats, res, sem⟩
theorem chk : fnB Tryz.f89 con 36 = true := by kernel_rfl
theorem valid_ : Valid Tryz.prog Ev 89 con := valid mix tab_ok (.cons impl_IsFirst.valid_ (.cons impl_MayFollow.valid_ .nil)) Tryz.func89 chk live ok
theorem br (a0 : List MSigned) : md a0 = spec_FirstWrong.md a0 := by
  unfold md spec_FirstWrong.md
  rw [← loopM_eachI (z := MSigned.zero), ← loopM_eachI (z := MSigned.zero)]
  refine loopM_congr (fun _ _ => True) (fun i s hi _ => ⟨?_, fun _ _ => trivial⟩) (fun _ _ => rfl) trivial
  simp only [impl_IsFirst.br, impl_MayFollow.br]
  by_cases h0 : i = 0
  · subst h0; rfl
  · have e : ((i : Int) == 0) = false := beq_eq_false_iff_ne.2 (by omega)
    simp only [e, cond_false]
end impl_FirstWrong
/-! impl.IsChain -/
namespace impl_IsChain
noncomputable def F (x0 : List (List L)) : Ans := (call (impl_InRange.R (x0.length : Int) 1 12) fun v1 => (bif v1 then (call (impl_FirstWrong.R x0) fun v2 => ret ((decide (v2 < 0)) : Bool)) else ret (false : Bool)))
def live : Nat → Live := fun _ => []
def pats : List Pat := [.rd (.sl 92)]
def res : RP := .one (.rd (.bool))
noncomputable def G : List (Nat × Con) := [(88, impl_InRange.con), (89, impl_FirstWrong.con)]
noncomputable abbrev E : Env := ⟨assoc Tab, conG G, 11⟩
set_option maxRecDepth 100000
theorem run_eq (n : Nat) (ls : List L) : runF E live Tryz.f46 res n (initS pats ls) = F (ls.headD .hole).toSl := by kernel_rfl
noncomputable def md (a0 : List MSigned) : Bool := (bif (impl_InRange.md (a0.length : Int) 1 12) then ((decide ((impl_FirstWrong.md a0) < 0)) : Bool) else (false : Bool))
def gd (a0 : List MSigned) : Prop := (SmL (2 ^ 21) (fun y : MSigned => MSigned.Sm (2 ^ 21) y) a0)
def rf (a : List MSigned) : List (List L) := (a.map MSigned.row)
theorem rf_inj (a b : List MSigned) (h : rf a = rf b) : a = b := by
  exact (map_inj MSigned.row_inj h)
noncomputable def R (x0 : List (List L)) : Option (Bool) := ofM rf (fun a => gd a) (fun a => (md a)) x0
theorem R_eq {a0 : List MSigned} (h : gd a0) : R (a0.map MSigned.row) = some (md a0) := ofM_eq (r := rf) (a := a0) rf_inj h
theorem okF (a0 : List MSigned) (hg : gd a0) : F (a0.map MSigned.row) = ret ((md a0) : Bool) := by
  unfold gd at hg
  have H0 := hg
  unfold F md
  try simp only [bytesL_map, List.length_map, toNat_nat, iAt_getD, bAt_getD, sAt_getD, lAt_getD]
  refine call_to (impl_InRange.md (a0.length : Int) 1 12) ?_ ?_
  · have R_ := impl_InRange.R_eq (a0 := (a0.length : Int)) (a1 := 1) (a2 := 12) trivial
    first | exact R_ | (simp only [List.map_append, List.map_cons, List.map_nil, List.cons_append, List.nil_append, iRow, sRow, bRow, lRow, List.map_set, bytesL_map, List.length_map, toNat_nat, iAt_getD, bAt_getD, sAt_getD, lAt_getD] at R_ ⊢; first | exact R_ | (rw [← R_]; rfl))
  try simp only [bytesL_map, List.length_map, toNat_nat, iAt_getD, bAt_getD, sAt_getD, lAt_getD]
  refine bif_out (fun b : Bool => ret (b : Bool)) (fun c1 => ?_) (fun c1 => ?_)
  · have dc1 := c1
    try simp [impl_InRange.md] at dc1
    refine call_to (impl_FirstWrong.md a0) ?_ ?_
    · have R_ := impl_FirstWrong.R_eq (a0 := a0) H0
      first | exact R_ | (simp only [List.map_append, List.map_cons, List.map_nil, List.cons_append, List.nil_append, iRow, sRow, bRow, lRow, List.map_set, bytesL_map, List.length_map, toNat_nat, iAt_getD, bAt_getD, sAt_getD, lAt_getD] at R_ ⊢; first | exact R_ | (rw [← R_]; rfl))
    try simp only [bytesL_map, List.length_map, toNat_nat, iAt_getD, bAt_getD, sAt_getD, lAt_getD]
    all_goals first | rfl | (simp only [bytesL_map, List.length_map, toNat_nat, iAt_getD, bAt_getD, sAt_getD, lAt_getD]; done) | (simp only [List.map_append, List.map_cons, List.map_nil, List.cons_append, List.nil_append, iRow, sRow, bRow, lRow, List.map_set]; rfl) | (simp only [bytesL_map, List.length_map, toNat_nat, iAt_getD, bAt_getD, sAt_getD, lAt_getD, List.map_append, List.map_cons, List.map_nil, List.cons_append, List.nil_append, iRow, sRow, bRow, lRow, List.map_set]; first | done | rfl)
  · have dc1 := c1
    try simp [impl_InRange.md] at dc1
    all_goals first | rfl | (simp only [bytesL_map, List.length_map, toNat_nat, iAt_getD, bAt_getD, sAt_getD, lAt_getD]; done) | (simp only [List.map_append, List.map_cons, List.map_nil, List.cons_append, List.nil_append, iRow, sRow, bRow, lRow, List.map_set]; rfl) | (simp only [bytesL_map, List.length_map, toNat_nat, iAt_getD, bAt_getD, sAt_getD, lAt_getD, List.map_append, List.map_cons, List.map_nil, List.cons_append, List.nil_append, iRow, sRow, bRow, lRow, List.map_set]; first | done | rfl)
noncomputable def sem (ls : List L) : Option (List L) := (R (ls.headD .hole).toSl).map RT.enc
theorem ok (ls q : List L) (hl : LOKs Ev.cells pats ls) (h : sem ls = some q) : ∃ n, runF E live Tryz.f46 res n (initS pats ls) = some q := by
  obtain ⟨v, hv, hq⟩ := map_some h
  obtain ⟨a0, hg, e, hm⟩ := ofM_some hv
  have e0 : (a0.map MSigned.row) = _ := e
  have hn := okF a0 hg
  refine ⟨0, (run_eq 0 ls).trans ?_⟩
  rw [← e0]
  rw [hn, ← hq, hm]; rfl
noncomputable def con : Con := ⟨pats, res, sem⟩
theorem chk : fnB Tryz.f46 con 11 = true := by kernel_rfl
theorem valid_ : Valid Tryz.prog Ev 46 con := valid mix tab_ok (.cons impl_InRange.valid_ (.cons impl_FirstWrong.valid_ .nil)) Tryz.func46 chk live ok
theorem tr {a0 : List MSigned} (h : md a0 = true) : 1 ≤ a0.length ∧ a0.length ≤ 12 := by simp [md, impl_InRange.md] at h; omega
theorem br (a0 : List MSigned) : md a0 = spec_IsChain.md a0 := by
  unfold md spec_IsChain.md
  first
  | (simp only [impl_InRange.br, impl_FirstWrong.br]; done)
  | (simp only [impl_InRange.br, impl_FirstWrong.br]; rfl)
  | rfl
end impl_IsChain
/-! impl.last -/
namespace impl_last
noncomputable def F (x0 : List (List L)) : Ans := (bif (decide ((0 : Int) ≤ (IntKind.i64.wrap ((x0.length : Int) - 1)))) then (bif (decide ((IntKind.i64.wrap ((x0.length : Int) - 1)) < (x0.length : Int))) then ret ((RSigned.at x0 (Int.toNat (IntKind.i64.wrap ((x0.length : Int) - 1)))).fHead : RHead) else none) else none)
def live : Nat → Live := fun _ => []
def pats : List Pat := [.rd (.sl 92)]
def res : RP := .agg [.rd (.int .i64), .rd (.int .i64), .rd (.int .i64), .rd (.int .i64), .rd (.int .i64), .rd (.int .i64), .rd (.int .i64), .rd (.int .i64), .rd (.sl 3), .rd (.int .i64), .rd (.sl 3), .rd (.int .i64), .rd (.int .i64), .rd (.sl 3), .rd (.int .i64), .rd (.bool)]
noncomputable def G : List (Nat × Con) := []
noncomputable abbrev E : Env := ⟨assoc Tab, conG G, 10⟩
set_option maxRecDepth 100000
theorem run_eq (n : Nat) (ls : List L) : runF E live Tryz.f124 res n (initS pats ls) = F (ls.headD .hole).toSl := by kernel_rfl
noncomputable def md (a0 : List MSigned) : MHead := (a0.getD (Int.toNat (IntKind.i64.wrap ((a0.length : Int) - 1))) MSigned.zero).fHead
def gd (a0 : List MSigned) : Prop := (SmL (2 ^ 21) (fun y : MSigned => MSigned.Sm (2 ^ 21) y) a0) ∧ (1 ≤ a0.length)
def rf (a : List MSigned) : List (List L) := (a.map MSigned.row)
theorem rf_inj (a b : List MSigned) (h : rf a = rf b) : a = b := by
  exact (map_inj MSigned.row_inj h)
noncomputable def R (x0 : List (List L)) : Option (RHead) := ofM rf (fun a => gd a) (fun a => (MHead.r (md a))) x0
theorem R_eq {a0 : List MSigned} (h : gd a0) : R (a0.map MSigned.row) = some (MHead.r (md a0)) := ofM_eq (r := rf) (a := a0) rf_inj h
theorem okF (a0 : List MSigned) (hg : gd a0) : F (a0.map MSigned.row) = ret ((MHead.r (md a0)) : RHead) := by
  unfold gd at hg
  obtain ⟨H0, HX⟩ := hg
  unfold F md
  try simp only [bytesL_map, List.length_map, toNat_nat, iAt_getD, bAt_getD, sAt_getD, lAt_getD, MSigned.at_getD, MSigned.r_fHead]
  refine yes_ret (by
      have := (H0).1
      refine decide_eq_true ?_
      try simp (disch := omega) only [List.sum_cons, List.sum_nil, List.map_cons, List.map_nil, bytesI_length, bytesL_length, List.length_append, List.length_cons, List.length_nil, List.length_map, List.length_set, List.length_replicate, List.length_take, List.length_drop, Go.IntWalk.i64_in]
      first | omega | (simp; done) | (simp; omega)) ?_
  refine yes_ret (by
      have := (H0).1
      refine decide_eq_true ?_
      try simp (disch := omega) only [List.sum_cons, List.sum_nil, List.map_cons, List.map_nil, bytesI_length, bytesL_length, List.length_append, List.length_cons, List.length_nil, List.length_map, List.length_set, List.length_replicate, List.length_take, List.length_drop, Go.IntWalk.i64_in]
      first | omega | (simp; done) | (simp; omega)) ?_
  all_goals first | rfl | (simp only [bytesL_map, List.length_map, toNat_nat, iAt_getD, bAt_getD, sAt_getD, lAt_getD, MSigned.at_getD, MSigned.r_fHead]; done) | (simp only [List.map_append, List.map_cons, List.map_nil, List.cons_append, List.nil_append, iRow, sRow, bRow, lRow, List.map_set]; rfl) | (simp only [bytesL_map, List.length_map, toNat_nat, iAt_getD, bAt_getD, sAt_getD, lAt_getD, MSigned.at_getD, MSigned.r_fHead, List.map_append, List.map_cons, List.map_nil, List.cons_append, List.nil_append, iRow, sRow, bRow, lRow, List.map_set]; first | done | rfl)
noncomputable def sem (ls : List L) : Option (List L) := (R (ls.headD .hole).toSl).map RT.enc
theorem ok (ls q : List L) (hl : LOKs Ev.cells pats ls) (h : sem ls = some q) : ∃ n, runF E live Tryz.f124 res n (initS pats ls) = some q := by
  obtain ⟨v, hv, hq⟩ := map_some h
  obtain ⟨a0, hg, e, hm⟩ := ofM_some hv
  have e0 : (a0.map MSigned.row) = _ := e
  have hn := okF a0 hg
  refine ⟨0, (run_eq 0 ls).trans ?_⟩
  rw [← e0]
  rw [hn, ← hq, hm]; rfl
noncomputable def con : Con := ⟨pats, res, sem⟩
theorem chk : fnB Tryz.f124 con 10 = true := by kernel_rfl
theorem valid_ : Valid Tryz.prog Ev 124 con := valid mix tab_ok .nil Tryz.func124 chk live ok
theorem sm0 {a0 : List MSigned} (hg : gd a0) : MHead.Sm (2 ^ 21) (md a0) := by
  unfold gd at hg; unfold md
  have h1 := hg.1.1
  have h2 := hg.2
  exact (SmL.getD hg.1 (by simp (disch := omega) only [Go.IntWalk.i64_in]; omega)).1
end impl_last
/-! slices.Clone[[]int,int] -/
namespace slices_Clone_Sint_int
noncomputable def F (x0 : List (List L)) : Ans := (bif x0.isEmpty then (either (ret ([] : List (List L))) ((bif (lim ((x0.length : Int) * 8)) then ret (x0 : List (List L)) else none))) else (bif (lim ((x0.length : Int) * 8)) then ret (x0 : List (List L)) else none))
def live : Nat → Live := fun _ => []
def pats : List Pat := [.rd (.sl 3)]
def res : RP := .one (.fr 3)
noncomputable def G : List (Nat × Con) := []
noncomputable abbrev E : Env := ⟨assoc Tab, conG G, 8⟩
set_option maxRecDepth 100000
theorem run_eq (n : Nat) (ls : List L) : runF E live Tryz.f213 res n (initS pats ls) = F (ls.headD .hole).toSl := by kernel_rfl
noncomputable def md (a0 : List Int) : List Int := a0
def gd (a0 : List Int) : Prop := SmL (2 ^ 38) (fun y : Int => True) a0
def rf (a : List Int) : List (List L) := (a.map iRow)
theorem rf_inj (a b : List Int) (h : rf a = rf b) : a = b := by
  exact (map_inj iRow_inj h)
noncomputable def R (x0 : List (List L)) : Option (List (List L)) := ofM rf (fun a => gd a) (fun a => ((md a).map iRow)) x0
theorem R_eq {a0 : List Int} (h : gd a0) : R (a0.map iRow) = some ((md a0).map iRow) := ofM_eq (r := rf) (a := a0) rf_inj h
theorem okF (a0 : List Int) (hg : gd a0) : F (a0.map iRow) = ret (((md a0).map iRow) : List (List L)) := by
  have H0 := hg.1
  unfold F md
  have hl : lim (((a0.map iRow).length : Int) * 8) = true := lim_t (by simp only [List.length_map]; omega)
  simp only [hl, cond_true]
  cases a0 with
  | nil => exact either_same
  | cons x xs => rfl
noncomputable def sem (ls : List L) : Option (List L) := (R (ls.headD .hole).toSl).map RT.enc
theorem ok (ls q : List L) (hl : LOKs Ev.cells pats ls) (h : sem ls = some q) : ∃ n, runF E live Tryz.f213 res n (initS pats ls) = some q := by
  obtain ⟨v, hv, hq⟩ := map_some h
  obtain ⟨a0, hg, e, hm⟩ := ofM_some hv
  have e0 : (a0.map iRow) = _ := e
  have hn := okF a0 hg
  refine ⟨0, (run_eq 0 ls).trans ?_⟩
  rw [← e0]
  rw [hn, ← hq, hm]; rfl
noncomputable def con : Con := ⟨pats, res, sem⟩
theorem chk : fnB Tryz.f213 con 8 = true := by kernel_rfl
theorem valid_ : Valid Tryz.prog Ev 213 con := valid mix tab_ok .nil Tryz.func213 chk live ok
end slices_Clone_Sint_int
/-! impl.copyKeys -/
namespace impl_copyKeys
noncomputable def F (x0 : RKeys) : Ans := (call (slices_Clone_Sint_int.R x0.fList) fun v1 => ret ((⟨v1, x0.fNeed⟩ : RKeys) : RKeys))
def live : Nat → Live := fun _ => []
def pats : List Pat := [.agg [.sl 3, .int .i64]]
def res : RP := .agg [.fr 3, .rd (.int .i64)]
noncomputable def G : List (Nat × Con) := [(213, slices_Clone_Sint_int.con)]
noncomputable abbrev E : Env := ⟨assoc Tab, conG G, 9⟩
set_option maxRecDepth 100000
theorem run_eq (n : Nat) (ls : List L) : runF E live Tryz.f166 res n (initS pats ls) = F (RKeys.dec ls) := by kernel_rfl
noncomputable def md (a0 : MKeys) : MKeys := a0
def gd (a0 : MKeys) : Prop := (MKeys.Sm (2 ^ 21) a0)
def rf (a : MKeys) : RKeys := (MKeys.r a)
theorem rf_inj (a b : MKeys) (h : rf a = rf b) : a = b := by
  exact (MKeys.r_inj h)
noncomputable def R (x0 : RKeys) : Option (RKeys) := ofM rf (fun a => gd a) (fun a => (MKeys.r (md a))) x0
theorem R_eq {a0 : MKeys} (h : gd a0) : R (MKeys.r a0) = some (MKeys.r (md a0)) := ofM_eq (r := rf) (a := a0) rf_inj h
theorem okF (a0 : MKeys) (hg : gd a0) : F (MKeys.r a0) = ret ((MKeys.r (md a0)) : RKeys) := by
  unfold gd at hg
  have H0 := hg
  unfold F md
  try simp only [bytesL_map, List.length_map, toNat_nat, iAt_getD, bAt_getD, sAt_getD, lAt_getD, MKeys.r_fList, MKeys.r_fNeed]
  refine call_to (a0.fList.map iRow) ?_ ?_
  · have R_ := slices_Clone_Sint_int.R_eq (a0 := a0.fList) (H0.mono (by decide) (fun x hx => trivial))
    simp only [slices_Clone_Sint_int.md] at R_
    first | exact R_ | (simp only [List.map_append, List.map_cons, List.map_nil, List.cons_append, List.nil_append, iRow, sRow, bRow, lRow, List.map_set, bytesL_map, List.length_map, toNat_nat, iAt_getD, bAt_getD, sAt_getD, lAt_getD, MKeys.r_fList, MKeys.r_fNeed] at R_ ⊢; first | exact R_ | (rw [← R_]; rfl))
  try simp only [bytesL_map, List.length_map, toNat_nat, iAt_getD, bAt_getD, sAt_getD, lAt_getD, MKeys.r_fList, MKeys.r_fNeed]
  all_goals first | rfl | (simp only [bytesL_map, List.length_map, toNat_nat, iAt_getD, bAt_getD, sAt_getD, lAt_getD, MKeys.r_fList, MKeys.r_fNeed]; done) | (simp only [List.map_append, List.map_cons, List.map_nil, List.cons_append, List.nil_append, iRow, sRow, bRow, lRow, List.map_set]; rfl) | (simp only [bytesL_map, List.length_map, toNat_nat, iAt_getD, bAt_getD, sAt_getD, lAt_getD, MKeys.r_fList, MKeys.r_fNeed, List.map_append, List.map_cons, List.map_nil, List.cons_append, List.nil_append, iRow, sRow, bRow, lRow, List.map_set]; first | done | rfl)
noncomputable def sem (ls : List L) : Option (List L) := (R (RKeys.dec ls)).map RT.enc
theorem ok (ls q : List L) (hl : LOKs Ev.cells pats ls) (h : sem ls = some q) : ∃ n, runF E live Tryz.f166 res n (initS pats ls) = some q := by
  obtain ⟨v, hv, hq⟩ := map_some h
  obtain ⟨a0, hg, e, hm⟩ := ofM_some hv
  have e0 : (MKeys.r a0) = _ := e
  have hn := okF a0 hg
  refine ⟨0, (run_eq 0 ls).trans ?_⟩
  rw [← e0]
  rw [hn, ← hq, hm]; rfl
noncomputable def con : Con := ⟨pats, res, sem⟩
theorem chk : fnB Tryz.f166 con 9 = true := by kernel_rfl
theorem valid_ : Valid Tryz.prog Ev 166 con := valid mix tab_ok (.cons slices_Clone_Sint_int.valid_ .nil) Tryz.func166 chk live ok
end impl_copyKeys
/-! impl.copyHead -/
namespace impl_copyHead
noncomputable def F (x0 : RHead) : Ans := (call (impl_copyKeys.R x0.fKeys) fun v1 => (call (impl_copyKeys.R x0.fHeirs) fun v2 => (call (impl_copyKeys.R x0.fJudge) fun v3 => ret ((⟨x0.fZone, x0.fEpoch, x0.fKind, x0.fTime, x0.fUntil, x0.fCount, x0.fRoot, x0.fPrev, v1, v2, x0.fWait, v3, x0.fFrozen⟩ : RHead) : RHead))))
def live : Nat → Live := fun _ => []
def pats : List Pat := [.agg [.int .i64, .int .i64, .int .i64, .int .i64, .int .i64, .int .i64, .int .i64, .int .i64, .sl 3, .int .i64, .sl 3, .int .i64, .int .i64, .sl 3, .int .i64, .bool]]
def res : RP := .agg [.rd (.int .i64), .rd (.int .i64), .rd (.int .i64), .rd (.int .i64), .rd (.int .i64), .rd (.int .i64), .rd (.int .i64), .rd (.int .i64), .fr 3, .rd (.int .i64), .fr 3, .rd (.int .i64), .rd (.int .i64), .fr 3, .rd (.int .i64), .rd (.bool)]
noncomputable def G : List (Nat × Con) := [(166, impl_copyKeys.con)]
noncomputable abbrev E : Env := ⟨assoc Tab, conG G, 16⟩
set_option maxRecDepth 100000
theorem run_eq (n : Nat) (ls : List L) : runF E live Tryz.f123 res n (initS pats ls) = F (RHead.dec ls) := by kernel_rfl
noncomputable def md (a0 : MHead) : MHead := a0
def gd (a0 : MHead) : Prop := (MHead.Sm (2 ^ 21) a0)
def rf (a : MHead) : RHead := (MHead.r a)
theorem rf_inj (a b : MHead) (h : rf a = rf b) : a = b := by
  exact (MHead.r_inj h)
noncomputable def R (x0 : RHead) : Option (RHead) := ofM rf (fun a => gd a) (fun a => (MHead.r (md a))) x0
theorem R_eq {a0 : MHead} (h : gd a0) : R (MHead.r a0) = some (MHead.r (md a0)) := ofM_eq (r := rf) (a := a0) rf_inj h
theorem okF (a0 : MHead) (hg : gd a0) : F (MHead.r a0) = ret ((MHead.r (md a0)) : RHead) := by
  unfold gd at hg
  have H0 := hg
  unfold F md
  try simp only [bytesL_map, List.length_map, toNat_nat, iAt_getD, bAt_getD, sAt_getD, lAt_getD, MHead.r_fZone, MHead.r_fEpoch, MHead.r_fKind, MHead.r_fTime, MHead.r_fUntil, MHead.r_fCount, MHead.r_fRoot, MHead.r_fPrev, MHead.r_fKeys, MHead.r_fHeirs, MHead.r_fWait, MHead.r_fJudge, MHead.r_fFrozen]
  refine call_to (MKeys.r a0.fKeys) ?_ ?_
  · have R_ := impl_copyKeys.R_eq (a0 := a0.fKeys) H0.1
    simp only [impl_copyKeys.md] at R_
    first | exact R_ | (simp only [List.map_append, List.map_cons, List.map_nil, List.cons_append, List.nil_append, iRow, sRow, bRow, lRow, List.map_set, bytesL_map, List.length_map, toNat_nat, iAt_getD, bAt_getD, sAt_getD, lAt_getD, MHead.r_fZone, MHead.r_fEpoch, MHead.r_fKind, MHead.r_fTime, MHead.r_fUntil, MHead.r_fCount, MHead.r_fRoot, MHead.r_fPrev, MHead.r_fKeys, MHead.r_fHeirs, MHead.r_fWait, MHead.r_fJudge, MHead.r_fFrozen] at R_ ⊢; first | exact R_ | (rw [← R_]; rfl))
  try simp only [bytesL_map, List.length_map, toNat_nat, iAt_getD, bAt_getD, sAt_getD, lAt_getD, MHead.r_fZone, MHead.r_fEpoch, MHead.r_fKind, MHead.r_fTime, MHead.r_fUntil, MHead.r_fCount, MHead.r_fRoot, MHead.r_fPrev, MHead.r_fKeys, MHead.r_fHeirs, MHead.r_fWait, MHead.r_fJudge, MHead.r_fFrozen]
  refine call_to (MKeys.r a0.fHeirs) ?_ ?_
  · have R_ := impl_copyKeys.R_eq (a0 := a0.fHeirs) H0.2.1
    simp only [impl_copyKeys.md] at R_
    first | exact R_ | (simp only [List.map_append, List.map_cons, List.map_nil, List.cons_append, List.nil_append, iRow, sRow, bRow, lRow, List.map_set, bytesL_map, List.length_map, toNat_nat, iAt_getD, bAt_getD, sAt_getD, lAt_getD, MHead.r_fZone, MHead.r_fEpoch, MHead.r_fKind, MHead.r_fTime, MHead.r_fUntil, MHead.r_fCount, MHead.r_fRoot, MHead.r_fPrev, MHead.r_fKeys, MHead.r_fHeirs, MHead.r_fWait, MHead.r_fJudge, MHead.r_fFrozen] at R_ ⊢; first | exact R_ | (rw [← R_]; rfl))
  try simp only [bytesL_map, List.length_map, toNat_nat, iAt_getD, bAt_getD, sAt_getD, lAt_getD, MHead.r_fZone, MHead.r_fEpoch, MHead.r_fKind, MHead.r_fTime, MHead.r_fUntil, MHead.r_fCount, MHead.r_fRoot, MHead.r_fPrev, MHead.r_fKeys, MHead.r_fHeirs, MHead.r_fWait, MHead.r_fJudge, MHead.r_fFrozen]
  refine call_to (MKeys.r a0.fJudge) ?_ ?_
  · have R_ := impl_copyKeys.R_eq (a0 := a0.fJudge) H0.2.2
    simp only [impl_copyKeys.md] at R_
    first | exact R_ | (simp only [List.map_append, List.map_cons, List.map_nil, List.cons_append, List.nil_append, iRow, sRow, bRow, lRow, List.map_set, bytesL_map, List.length_map, toNat_nat, iAt_getD, bAt_getD, sAt_getD, lAt_getD, MHead.r_fZone, MHead.r_fEpoch, MHead.r_fKind, MHead.r_fTime, MHead.r_fUntil, MHead.r_fCount, MHead.r_fRoot, MHead.r_fPrev, MHead.r_fKeys, MHead.r_fHeirs, MHead.r_fWait, MHead.r_fJudge, MHead.r_fFrozen] at R_ ⊢; first | exact R_ | (rw [← R_]; rfl))
  try simp only [bytesL_map, List.length_map, toNat_nat, iAt_getD, bAt_getD, sAt_getD, lAt_getD, MHead.r_fZone, MHead.r_fEpoch, MHead.r_fKind, MHead.r_fTime, MHead.r_fUntil, MHead.r_fCount, MHead.r_fRoot, MHead.r_fPrev, MHead.r_fKeys, MHead.r_fHeirs, MHead.r_fWait, MHead.r_fJudge, MHead.r_fFrozen]
  all_goals first | rfl | (simp only [bytesL_map, List.length_map, toNat_nat, iAt_getD, bAt_getD, sAt_getD, lAt_getD, MHead.r_fZone, MHead.r_fEpoch, MHead.r_fKind, MHead.r_fTime, MHead.r_fUntil, MHead.r_fCount, MHead.r_fRoot, MHead.r_fPrev, MHead.r_fKeys, MHead.r_fHeirs, MHead.r_fWait, MHead.r_fJudge, MHead.r_fFrozen]; done) | (simp only [List.map_append, List.map_cons, List.map_nil, List.cons_append, List.nil_append, iRow, sRow, bRow, lRow, List.map_set]; rfl) | (simp only [bytesL_map, List.length_map, toNat_nat, iAt_getD, bAt_getD, sAt_getD, lAt_getD, MHead.r_fZone, MHead.r_fEpoch, MHead.r_fKind, MHead.r_fTime, MHead.r_fUntil, MHead.r_fCount, MHead.r_fRoot, MHead.r_fPrev, MHead.r_fKeys, MHead.r_fHeirs, MHead.r_fWait, MHead.r_fJudge, MHead.r_fFrozen, List.map_append, List.map_cons, List.map_nil, List.cons_append, List.nil_append, iRow, sRow, bRow, lRow, List.map_set]; first | done | rfl)
noncomputable def sem (ls : List L) : Option (List L) := (R (RHead.dec ls)).map RT.enc
theorem ok (ls q : List L) (hl : LOKs Ev.cells pats ls) (h : sem ls = some q) : ∃ n, runF E live Tryz.f123 res n (initS pats ls) = some q := by
  obtain ⟨v, hv, hq⟩ := map_some h
  obtain ⟨a0, hg, e, hm⟩ := ofM_some hv
  have e0 : (MHead.r a0) = _ := e
  have hn := okF a0 hg
  refine ⟨0, (run_eq 0 ls).trans ?_⟩
  rw [← e0]
  rw [hn, ← hq, hm]; rfl
noncomputable def con : Con := ⟨pats, res, sem⟩
theorem chk : fnB Tryz.f123 con 16 = true := by kernel_rfl
theorem valid_ : Valid Tryz.prog Ev 123 con := valid mix tab_ok (.cons impl_copyKeys.valid_ .nil) Tryz.func123 chk live ok
end impl_copyHead
/-! impl.LastHead -/
namespace impl_LastHead
noncomputable def F (x0 : List (List L)) : Ans := (call (impl_IsChain.R x0) fun v1 => (bif (!v1) then ret (((⟨0, 0, 0, 0, 0, 0, 0, 0, (⟨[], 0⟩ : RKeys), (⟨[], 0⟩ : RKeys), 0, (⟨[], 0⟩ : RKeys), false⟩ : RHead), false) : RHead × Bool) else (call (impl_last.R x0) fun v2 => (call (impl_copyHead.R v2) fun v3 => ret ((v3, true) : RHead × Bool)))))
def live : Nat → Live := fun _ => []
def pats : List Pat := [.rd (.sl 92)]
def res : RP := .tup [(true, [.rd (.int .i64), .rd (.int .i64), .rd (.int .i64), .rd (.int .i64), .rd (.int .i64), .rd (.int .i64), .rd (.int .i64), .rd (.int .i64), .fr 3, .rd (.int .i64), .fr 3, .rd (.int .i64), .rd (.int .i64), .fr 3, .rd (.int .i64), .rd (.bool)]), (false, [.rd (.bool)])]
noncomputable def G : List (Nat × Con) := [(46, impl_IsChain.con), (124, impl_last.con), (123, impl_copyHead.con)]
noncomputable abbrev E : Env := ⟨assoc Tab, conG G, 11⟩
set_option maxRecDepth 100000
theorem run_eq (n : Nat) (ls : List L) : runF E live Tryz.f69 res n (initS pats ls) = F (ls.headD .hole).toSl := by kernel_rfl
noncomputable def md (a0 : List MSigned) : MHead × Bool := (bif (!(impl_IsChain.md a0)) then ((⟨0, 0, 0, 0, 0, 0, 0, 0, (⟨[], 0⟩ : MKeys), (⟨[], 0⟩ : MKeys), 0, (⟨[], 0⟩ : MKeys), false⟩ : MHead), false) else ((impl_last.md a0), true))
def gd (a0 : List MSigned) : Prop := (SmL (2 ^ 21) (fun y : MSigned => MSigned.Sm (2 ^ 21) y) a0)
def rf (a : List MSigned) : List (List L) := (a.map MSigned.row)
theorem rf_inj (a b : List MSigned) (h : rf a = rf b) : a = b := by
  exact (map_inj MSigned.row_inj h)
noncomputable def R (x0 : List (List L)) : Option (RHead × Bool) := ofM rf (fun a => gd a) (fun a => ((MHead.r (md a).1), (md a).2)) x0
theorem R_eq {a0 : List MSigned} (h : gd a0) : R (a0.map MSigned.row) = some ((MHead.r (md a0).1), (md a0).2) := ofM_eq (r := rf) (a := a0) rf_inj h
theorem okF (a0 : List MSigned) (hg : gd a0) : F (a0.map MSigned.row) = ret (((MHead.r (md a0).1), (md a0).2) : RHead × Bool) := by
  unfold gd at hg
  have H0 := hg
  unfold F md
  try simp only [bytesL_map, List.length_map, toNat_nat, iAt_getD, bAt_getD, sAt_getD, lAt_getD]
  refine call_to (impl_IsChain.md a0) ?_ ?_
  · have R_ := impl_IsChain.R_eq (a0 := a0) H0
    first | exact R_ | (simp only [List.map_append, List.map_cons, List.map_nil, List.cons_append, List.nil_append, iRow, sRow, bRow, lRow, List.map_set, bytesL_map, List.length_map, toNat_nat, iAt_getD, bAt_getD, sAt_getD, lAt_getD] at R_ ⊢; first | exact R_ | (rw [← R_]; rfl))
  try simp only [bytesL_map, List.length_map, toNat_nat, iAt_getD, bAt_getD, sAt_getD, lAt_getD]
  refine bif_out (fun b : MHead × Bool => ret (((MHead.r b.1), b.2) : RHead × Bool)) (fun c1 => ?_) (fun c1 => ?_)
  · have dc1 := c1
    try simp only [bne_eq_false_iff_eq, bne_iff_ne, beq_iff_eq, beq_eq_false_iff_ne, ne_eq, Bool.not_eq_true', Bool.not_eq_false'] at dc1
    try have tc1 := impl_IsChain.tr (by simpa using c1)
    all_goals first | rfl | (simp only [bytesL_map, List.length_map, toNat_nat, iAt_getD, bAt_getD, sAt_getD, lAt_getD]; done) | (simp only [List.map_append, List.map_cons, List.map_nil, List.cons_append, List.nil_append, iRow, sRow, bRow, lRow, List.map_set]; rfl) | (simp only [bytesL_map, List.length_map, toNat_nat, iAt_getD, bAt_getD, sAt_getD, lAt_getD, List.map_append, List.map_cons, List.map_nil, List.cons_append, List.nil_append, iRow, sRow, bRow, lRow, List.map_set]; first | done | rfl)
  · have dc1 := c1
    try simp only [bne_eq_false_iff_eq, bne_iff_ne, beq_iff_eq, beq_eq_false_iff_ne, ne_eq, Bool.not_eq_true', Bool.not_eq_false'] at dc1
    try have tc1 := impl_IsChain.tr (by simpa using c1)
    refine call_to (MHead.r (impl_last.md a0)) ?_ ?_
    · have R_ := impl_last.R_eq (a0 := a0) ⟨H0, (by
          have := (H0).1
          first | assumption | omega | (simp; done) | (simp; omega))⟩
      first | exact R_ | (simp only [List.map_append, List.map_cons, List.map_nil, List.cons_append, List.nil_append, iRow, sRow, bRow, lRow, List.map_set, bytesL_map, List.length_map, toNat_nat, iAt_getD, bAt_getD, sAt_getD, lAt_getD] at R_ ⊢; first | exact R_ | (rw [← R_]; rfl))
    try simp only [bytesL_map, List.length_map, toNat_nat, iAt_getD, bAt_getD, sAt_getD, lAt_getD]
    refine call_to (MHead.r (impl_last.md a0)) ?_ ?_
    · have R_ := impl_copyHead.R_eq (a0 := (impl_last.md a0)) (impl_last.sm0 (a0 := a0) ⟨H0, (by
          have := (H0).1
          first | assumption | omega | (simp; done) | (simp; omega))⟩)
      simp only [impl_copyHead.md] at R_
      first | exact R_ | (simp only [List.map_append, List.map_cons, List.map_nil, List.cons_append, List.nil_append, iRow, sRow, bRow, lRow, List.map_set, bytesL_map, List.length_map, toNat_nat, iAt_getD, bAt_getD, sAt_getD, lAt_getD] at R_ ⊢; first | exact R_ | (rw [← R_]; rfl))
    try simp only [bytesL_map, List.length_map, toNat_nat, iAt_getD, bAt_getD, sAt_getD, lAt_getD]
    all_goals first | rfl | (simp only [bytesL_map, List.length_map, toNat_nat, iAt_getD, bAt_getD, sAt_getD, lAt_getD]; done) | (simp only [List.map_append, List.map_cons, List.map_nil, List.cons_append, List.nil_append, iRow, sRow, bRow, lRow, List.map_set]; rfl) | (simp only [bytesL_map, List.length_map, toNat_nat, iAt_getD, bAt_getD, sAt_getD, lAt_getD, List.map_append, List.map_cons, List.map_nil, List.cons_append, List.nil_append, iRow, sRow, bRow, lRow, List.map_set]; first | done | rfl)
noncomputable def sem (ls : List L) : Option (List L) := (R (ls.headD .hole).toSl).map RT.enc
theorem ok (ls q : List L) (hl : LOKs Ev.cells pats ls) (h : sem ls = some q) : ∃ n, runF E live Tryz.f69 res n (initS pats ls) = some q := by
  obtain ⟨v, hv, hq⟩ := map_some h
  obtain ⟨a0, hg, e, hm⟩ := ofM_some hv
  have e0 : (a0.map MSigned.row) = _ := e
  have hn := okF a0 hg
  refine ⟨0, (run_eq 0 ls).trans ?_⟩
  rw [← e0]
  rw [hn, ← hq, hm]; rfl
noncomputable def con : Con := ⟨pats, res, sem⟩
theorem chk : fnB Tryz.f69 con 11 = true := by kernel_rfl
theorem valid_ : Valid Tryz.prog Ev 69 con := valid mix tab_ok (.cons impl_IsChain.valid_ (.cons impl_last.valid_ (.cons impl_copyHead.valid_ .nil))) Tryz.func69 chk live ok
theorem sm0 {a0 : List MSigned} (hg : gd a0) : MHead.Sm (2 ^ 21) ((md a0).1) := by
  unfold gd at hg; unfold md
  cases h : impl_IsChain.md a0
  · exact ⟨SmL.nil, SmL.nil, SmL.nil⟩
  · have := impl_IsChain.tr h
    exact impl_last.sm0 ⟨hg, this.1⟩
theorem br (a0 : List MSigned) : md a0 = spec_LastHead.md a0 := by
  unfold md spec_LastHead.md
  first
  | (simp only [impl_IsChain.br]; done)
  | (simp only [impl_IsChain.br]; rfl)
  | rfl
end impl_LastHead
/-! impl.LastsUntil -/
namespace impl_LastsUntil
inductive Pt where
  | p0 (a : Int) (b : List (List L)) (c : Int) (d : Int)
def pid : Pt → Nat
  | .p0 .. => 3
def pvs : Pt → List V
  | .p0 a b c d => [.int .i64 a, .sl none 124 b, .int .i64 c, .int .i64 d]
def phs : Pt → List Root
  | .p0 a b c d => []
noncomputable def step (J : Pt → Ans) : Pt → Ans
  | .p0 a b c d => (bif (decide (d < c)) then (bif (decide ((0 : Int) ≤ d)) then (bif (decide (d < (b.length : Int))) then (call (impl_LastHead.R ((RStored.at b (Int.toNat d)).fAnswer.fChain)) fun v1 => (bif (!v1.2) then ret ((-1) : Int) else (bif (decide (a < 0)) then J (.p0 v1.1.fUntil b c (IntKind.i64.wrap (d + 1))) else (bif (decide (v1.1.fUntil < a)) then J (.p0 v1.1.fUntil b c (IntKind.i64.wrap (d + 1))) else J (.p0 a b c (IntKind.i64.wrap (d + 1))))))) else none) else none) else ret (a : Int))
noncomputable def start (J : Pt → Ans) (x0 : RBundle) : Ans := J (.p0 (-1) x0.fSteps (x0.fSteps.length : Int) 0)
def live : Nat → Live := fun i => match i with | 3 => [(3, none), (9, none), (10, none), (11, none)] | _ => []
def pats : List Pat := [.agg [.int .i64, .sl 9, .sl 124]]
def res : RP := .one (.rd (.int .i64))
noncomputable def G : List (Nat × Con) := [(69, impl_LastHead.con)]
noncomputable abbrev E : Env := ⟨assoc Tab, conG G, 36⟩
set_option maxRecDepth 100000
theorem step_eq (I : Heads) (p : Pt) : enterC E live I (pid p) (bodyOf Tryz.f33) (stOf (live (pid p)) (pvs p) (phs p)) (doneK E Tryz.f33 res) = step (fun q => I (pid q) (pvs q) (phs q)) p := by
  cases p <;> kernel_rfl
theorem start_eq (I : Heads) (ls : List L) : runC E live I (bodyOf Tryz.f33) (initS pats ls) (doneK E Tryz.f33 res) = start (fun q => I (pid q) (pvs q) (phs q)) (RBundle.dec ls) := by kernel_rfl
theorem run_eq (n : Nat) (ls : List L) : runF E live Tryz.f33 res n (initS pats ls) = start (iter step n) (RBundle.dec ls) := runF_iter (id := pid) (vs := pvs) (hs := phs) (step := step) (start := fun J => start J (RBundle.dec ls)) step_eq (fun I => start_eq I ls) n
noncomputable def md (a0 : MBundle) : Int := (eachM (S := Int) (β := Int) (fun (y1 : MStored) (s3 : Int) => (bif (!(impl_LastHead.md ((y1.fAnswer).fChain)).2) then (.inr ((-1) : Int)) else (bif (decide (s3 < 0)) then (.inl (impl_LastHead.md ((y1.fAnswer).fChain)).1.fUntil) else (bif (decide ((impl_LastHead.md ((y1.fAnswer).fChain)).1.fUntil < s3)) then (.inl (impl_LastHead.md ((y1.fAnswer).fChain)).1.fUntil) else (.inl s3))))) (fun (s3 : Int) => (s3 : Int)) a0.fSteps (-1))
def gd (a0 : MBundle) : Prop := (MBundle.Sm (2 ^ 21) a0)
def rf (a : MBundle) : RBundle := (MBundle.r a)
theorem rf_inj (a b : MBundle) (h : rf a = rf b) : a = b := by
  exact (MBundle.r_inj h)
noncomputable def R (x0 : RBundle) : Option (Int) := ofM rf (fun a => gd a) (fun a => (md a)) x0
theorem R_eq {a0 : MBundle} (h : gd a0) : R (MBundle.r a0) = some (md a0) := ofM_eq (r := rf) (a := a0) rf_inj h
theorem okF (a0 : MBundle) (hg : gd a0) : ∃ n, start (iter step n) (MBundle.r a0) = ret ((md a0) : Int) := by
  unfold gd at hg
  have H0 := hg
  unfold start md
  try simp only [bytesL_map, List.length_map, toNat_nat, iAt_getD, bAt_getD, sAt_getD, lAt_getD, MHead.r_fUntil, MAnswer.r_fChain, MStored.at_getD, MStored.r_fAnswer, MBundle.r_fSteps]
  have Bh2 : a0.fSteps.length ≤ maxLen := (by
      have := (H0.2).1
      try simp only [maxLen] at *
      omega)
  refine ex_eq (out := (fun b : Int => ret (b : Int))) (show (loopM (S := Int) (β := Int) (fun (i1 : Nat) (s3 : Int) => (bif (!(impl_LastHead.md (((a0.fSteps.getD i1 MStored.zero).fAnswer).fChain)).2) then (.inr ((-1) : Int)) else (bif (decide (s3 < 0)) then (.inl (impl_LastHead.md (((a0.fSteps.getD i1 MStored.zero).fAnswer).fChain)).1.fUntil) else (bif (decide ((impl_LastHead.md (((a0.fSteps.getD i1 MStored.zero).fAnswer).fChain)).1.fUntil < s3)) then (.inl (impl_LastHead.md (((a0.fSteps.getD i1 MStored.zero).fAnswer).fChain)).1.fUntil) else (.inl s3))))) (fun (s3 : Int) => (s3 : Int)) a0.fSteps.length 0 (-1)) = (eachM (S := Int) (β := Int) (fun (y1 : MStored) (s3 : Int) => (bif (!(impl_LastHead.md ((y1.fAnswer).fChain)).2) then (.inr ((-1) : Int)) else (bif (decide (s3 < 0)) then (.inl (impl_LastHead.md ((y1.fAnswer).fChain)).1.fUntil) else (bif (decide ((impl_LastHead.md ((y1.fAnswer).fChain)).1.fUntil < s3)) then (.inl (impl_LastHead.md ((y1.fAnswer).fChain)).1.fUntil) else (.inl s3))))) (fun (s3 : Int) => (s3 : Int)) a0.fSteps (-1)) from loopM_eachM (S := Int) (β := Int) (f := fun (y1 : MStored) (s3 : Int) => (bif (!(impl_LastHead.md ((y1.fAnswer).fChain)).2) then (.inr ((-1) : Int)) else (bif (decide (s3 < 0)) then (.inl (impl_LastHead.md ((y1.fAnswer).fChain)).1.fUntil) else (bif (decide ((impl_LastHead.md ((y1.fAnswer).fChain)).1.fUntil < s3)) then (.inl (impl_LastHead.md ((y1.fAnswer).fChain)).1.fUntil) else (.inl s3))))) (t := fun (s3 : Int) => (s3 : Int)) (xs := a0.fSteps) (z := MStored.zero)) ?_
  refine ex_pt (p := Pt.p0 (-1) (a0.fSteps.map MStored.row) (a0.fSteps.length : Int) 0) (by first | rfl | (simp only [bytesL_map, List.length_map, toNat_nat, iAt_getD, bAt_getD, sAt_getD, lAt_getD, MHead.r_fUntil, MAnswer.r_fChain, MStored.at_getD, MStored.r_fAnswer, MBundle.r_fSteps, List.map_append, List.map_cons, List.map_nil, List.cons_append, List.nil_append, iRow, sRow, bRow, lRow, List.map_set]; done) | (simp only [List.map_append, List.map_cons, List.map_nil, List.cons_append, List.nil_append, iRow, sRow, bRow, lRow, List.map_set]; rfl)) ?_
  refine loopM_ok (pt := fun (i1 : Nat) (s3 : Int) => Pt.p0 s3 (a0.fSteps.map MStored.row) (a0.fSteps.length : Int) (i1 : Int)) (s := ((-1) : Int)) (out := (fun b : Int => ret (b : Int))) (fun _ _ => True) (fun J i1 s3 h2 hih2 => ?_) (fun s3 hih2 => ?_) trivial
  · simp only [step, bytesL_map, List.length_map, toNat_nat, iAt_getD, bAt_getD, sAt_getD, lAt_getD, MHead.r_fUntil, MAnswer.r_fChain, MStored.at_getD, MStored.r_fAnswer, MBundle.r_fSteps]
    have bb_ := Bh2
    simp only [maxLen] at bb_
    have := (H0.2).1
    refine Rnd.yes (by apply decide_eq_true; omega) ?_
    refine Rnd.yes (by
        refine decide_eq_true ?_
        try simp (disch := omega) only [List.sum_cons, List.sum_nil, List.map_cons, List.map_nil, bytesI_length, bytesL_length, List.length_append, List.length_cons, List.length_nil, List.length_map, List.length_set, List.length_replicate, List.length_take, List.length_drop, Go.IntWalk.i64_in]
        first | omega | (simp; done) | (simp; omega)) ?_
    refine Rnd.yes (by
        have := (H0.2).1
        refine decide_eq_true ?_
        try simp (disch := omega) only [List.sum_cons, List.sum_nil, List.map_cons, List.map_nil, bytesI_length, bytesL_length, List.length_append, List.length_cons, List.length_nil, List.length_map, List.length_set, List.length_replicate, List.length_take, List.length_drop, Go.IntWalk.i64_in]
        first | omega | (simp; done) | (simp; omega)) ?_
    refine Rnd.call_to ((MHead.r (impl_LastHead.md (((a0.fSteps.getD i1 MStored.zero).fAnswer).fChain)).1), (impl_LastHead.md (((a0.fSteps.getD i1 MStored.zero).fAnswer).fChain)).2) ?_ ?_
    · have R_ := impl_LastHead.R_eq (a0 := ((a0.fSteps.getD i1 MStored.zero).fAnswer).fChain) (SmL.getD (z := MStored.zero) H0.2 h2).2.1
      first | exact R_ | (simp only [List.map_append, List.map_cons, List.map_nil, List.cons_append, List.nil_append, iRow, sRow, bRow, lRow, List.map_set, bytesL_map, List.length_map, toNat_nat, iAt_getD, bAt_getD, sAt_getD, lAt_getD, MHead.r_fUntil, MAnswer.r_fChain, MStored.at_getD, MStored.r_fAnswer, MBundle.r_fSteps] at R_ ⊢; first | exact R_ | (rw [← R_]; rfl))
    try simp only [bytesL_map, List.length_map, toNat_nat, iAt_getD, bAt_getD, sAt_getD, lAt_getD, MHead.r_fUntil, MAnswer.r_fChain, MStored.at_getD, MStored.r_fAnswer, MBundle.r_fSteps]
    refine Rnd.bif (fun c4 => ?_) (fun c4 => ?_)
    · have dc4 := c4
      try simp only [bne_eq_false_iff_eq, bne_iff_ne, beq_iff_eq, beq_eq_false_iff_ne, ne_eq, Bool.not_eq_true', Bool.not_eq_false'] at dc4
      refine Rnd.inr ?_
      all_goals first | rfl | (simp only [bytesL_map, List.length_map, toNat_nat, iAt_getD, bAt_getD, sAt_getD, lAt_getD, MHead.r_fUntil, MAnswer.r_fChain, MStored.at_getD, MStored.r_fAnswer, MBundle.r_fSteps]; done) | (simp only [List.map_append, List.map_cons, List.map_nil, List.cons_append, List.nil_append, iRow, sRow, bRow, lRow, List.map_set]; rfl) | (simp only [bytesL_map, List.length_map, toNat_nat, iAt_getD, bAt_getD, sAt_getD, lAt_getD, MHead.r_fUntil, MAnswer.r_fChain, MStored.at_getD, MStored.r_fAnswer, MBundle.r_fSteps, List.map_append, List.map_cons, List.map_nil, List.cons_append, List.nil_append, iRow, sRow, bRow, lRow, List.map_set]; first | done | rfl)
    · have dc4 := c4
      try simp only [bne_eq_false_iff_eq, bne_iff_ne, beq_iff_eq, beq_eq_false_iff_ne, ne_eq, Bool.not_eq_true', Bool.not_eq_false'] at dc4
      refine Rnd.bif (fun c5 => ?_) (fun c5 => ?_)
      · have dc5 := c5
        simp only [decide_eq_true_eq, decide_eq_false_iff_not] at dc5
        refine Rnd.inl trivial ?_
        rw [wrap_succ h2 Bh2]
        all_goals first | rfl | (simp only [bytesL_map, List.length_map, toNat_nat, iAt_getD, bAt_getD, sAt_getD, lAt_getD, MHead.r_fUntil, MAnswer.r_fChain, MStored.at_getD, MStored.r_fAnswer, MBundle.r_fSteps]; done) | (simp only [List.map_append, List.map_cons, List.map_nil, List.cons_append, List.nil_append, iRow, sRow, bRow, lRow, List.map_set]; rfl) | (simp only [bytesL_map, List.length_map, toNat_nat, iAt_getD, bAt_getD, sAt_getD, lAt_getD, MHead.r_fUntil, MAnswer.r_fChain, MStored.at_getD, MStored.r_fAnswer, MBundle.r_fSteps, List.map_append, List.map_cons, List.map_nil, List.cons_append, List.nil_append, iRow, sRow, bRow, lRow, List.map_set]; first | done | rfl)
      · have dc5 := c5
        simp only [decide_eq_true_eq, decide_eq_false_iff_not] at dc5
        refine Rnd.bif (fun c6 => ?_) (fun c6 => ?_)
        · have dc6 := c6
          simp only [decide_eq_true_eq, decide_eq_false_iff_not] at dc6
          refine Rnd.inl trivial ?_
          rw [wrap_succ h2 Bh2]
          all_goals first | rfl | (simp only [bytesL_map, List.length_map, toNat_nat, iAt_getD, bAt_getD, sAt_getD, lAt_getD, MHead.r_fUntil, MAnswer.r_fChain, MStored.at_getD, MStored.r_fAnswer, MBundle.r_fSteps]; done) | (simp only [List.map_append, List.map_cons, List.map_nil, List.cons_append, List.nil_append, iRow, sRow, bRow, lRow, List.map_set]; rfl) | (simp only [bytesL_map, List.length_map, toNat_nat, iAt_getD, bAt_getD, sAt_getD, lAt_getD, MHead.r_fUntil, MAnswer.r_fChain, MStored.at_getD, MStored.r_fAnswer, MBundle.r_fSteps, List.map_append, List.map_cons, List.map_nil, List.cons_append, List.nil_append, iRow, sRow, bRow, lRow, List.map_set]; first | done | rfl)
        · have dc6 := c6
          simp only [decide_eq_true_eq, decide_eq_false_iff_not] at dc6
          refine Rnd.inl trivial ?_
          rw [wrap_succ h2 Bh2]
          all_goals first | rfl | (simp only [bytesL_map, List.length_map, toNat_nat, iAt_getD, bAt_getD, sAt_getD, lAt_getD, MHead.r_fUntil, MAnswer.r_fChain, MStored.at_getD, MStored.r_fAnswer, MBundle.r_fSteps]; done) | (simp only [List.map_append, List.map_cons, List.map_nil, List.cons_append, List.nil_append, iRow, sRow, bRow, lRow, List.map_set]; rfl) | (simp only [bytesL_map, List.length_map, toNat_nat, iAt_getD, bAt_getD, sAt_getD, lAt_getD, MHead.r_fUntil, MAnswer.r_fChain, MStored.at_getD, MStored.r_fAnswer, MBundle.r_fSteps, List.map_append, List.map_cons, List.map_nil, List.cons_append, List.nil_append, iRow, sRow, bRow, lRow, List.map_set]; first | done | rfl)
  · simp only [step, bytesL_map, List.length_map, toNat_nat, iAt_getD, bAt_getD, sAt_getD, lAt_getD, MHead.r_fUntil, MAnswer.r_fChain, MStored.at_getD, MStored.r_fAnswer, MBundle.r_fSteps]
    have := (H0.2).1
    refine ex_no (by apply decide_eq_false; omega) ?_
    refine ⟨0, ?_⟩
    all_goals first | rfl | (simp only [bytesL_map, List.length_map, toNat_nat, iAt_getD, bAt_getD, sAt_getD, lAt_getD, MHead.r_fUntil, MAnswer.r_fChain, MStored.at_getD, MStored.r_fAnswer, MBundle.r_fSteps]; done) | (simp only [List.map_append, List.map_cons, List.map_nil, List.cons_append, List.nil_append, iRow, sRow, bRow, lRow, List.map_set]; rfl) | (simp only [bytesL_map, List.length_map, toNat_nat, iAt_getD, bAt_getD, sAt_getD, lAt_getD, MHead.r_fUntil, MAnswer.r_fChain, MStored.at_getD, MStored.r_fAnswer, MBundle.r_fSteps, List.map_append, List.map_cons, List.map_nil, List.cons_append, List.nil_append, iRow, sRow, bRow, lRow, List.map_set]; first | done | rfl)
noncomputable def sem (ls : List L) : Option (List L) := (R (RBundle.dec ls)).map RT.enc
theorem ok (ls q : List L) (hl : LOKs Ev.cells pats ls) (h : sem ls = some q) : ∃ n, runF E live Tryz.f33 res n (initS pats ls) = some q := by
  obtain ⟨v, hv, hq⟩ := map_some h
  obtain ⟨a0, hg, e, hm⟩ := ofM_some hv
  have e0 : (MBundle.r a0) = _ := e
  obtain ⟨n, hn⟩ := okF a0 hg
  refine ⟨n, (run_eq n ls).trans ?_⟩
  rw [← e0]
  rw [hn, ← hq, hm]; rfl
noncomputable def con : Con := ⟨pats, res, sem⟩
theorem chk : fnB Tryz.f33 con 36 = true := by kernel_rfl
theorem valid_ : Valid Tryz.prog Ev 33 con := valid mix tab_ok (.cons impl_LastHead.valid_ .nil) Tryz.func33 chk live ok
theorem br (a0 : MBundle) : md a0 = spec_LastsUntil.md a0 := by
  unfold md spec_LastsUntil.md
  simp only [impl_LastHead.br]
  have key : ∀ (xs : List MStored) (i : Nat) (s : Int), (i = 0 ∧ s = -1 ∨ 0 < i ∧ 0 ≤ s) → eachM (S := Int) (β := Int) (fun (y1 : MStored) (s3 : Int) => (bif (!(spec_LastHead.md ((y1.fAnswer).fChain)).2) then (.inr ((-1) : Int)) else (bif (decide (s3 < 0)) then (.inl (spec_LastHead.md ((y1.fAnswer).fChain)).1.fUntil) else (bif (decide ((spec_LastHead.md ((y1.fAnswer).fChain)).1.fUntil < s3)) then (.inl (spec_LastHead.md ((y1.fAnswer).fChain)).1.fUntil) else (.inl s3))))) (fun (s3 : Int) => (s3 : Int)) xs s = eachI (S := Int) (β := Int) (fun (i1 : Nat) (y1 : MStored) (s3 : Int) => (bif (!(spec_LastHead.md ((y1.fAnswer).fChain)).2) then (.inr ((-1) : Int)) else (bif ((i1 : Int) == 0) then (.inl (spec_LastHead.md ((y1.fAnswer).fChain)).1.fUntil) else (bif (decide ((spec_LastHead.md ((y1.fAnswer).fChain)).1.fUntil < s3)) then (.inl (spec_LastHead.md ((y1.fAnswer).fChain)).1.fUntil) else (.inl s3))))) (fun (s3 : Int) => (s3 : Int)) i xs s := by
    intro xs
    induction xs with
    | nil => intro i s _; rfl
    | cons x xs ih =>
      intro i s hi
      unfold eachM eachI
      cases hok : (spec_LastHead.md x.fAnswer.fChain).2
      · rfl
      · have hu := spec_LastHead.pos hok
        have e : decide (s < 0) = ((i : Int) == 0) := by
          rcases hi with ⟨rfl, rfl⟩ | ⟨h1, h2⟩
          · rfl
          · rw [decide_eq_false (by omega), beq_eq_false_iff_ne.2 (by omega)]
        simp only [Bool.not_true, cond_false, e]
        cases hz : ((i : Int) == 0)
        · have h1 : 0 < i ∧ 0 ≤ s := by
            rcases hi with ⟨rfl, rfl⟩ | h
            · cases hz
            · exact h
          simp only [cond_false]
          cases decide ((spec_LastHead.md x.fAnswer.fChain).1.fUntil < s)
          · exact ih (i + 1) s (.inr ⟨by omega, h1.2⟩)
          · exact ih (i + 1) _ (.inr ⟨by omega, hu⟩)
        · exact ih (i + 1) _ (.inr ⟨by omega, hu⟩)
  exact key a0.fSteps 0 (-1) (.inl ⟨rfl, rfl⟩)
end impl_LastsUntil
/-! laws.eqStringS -/
namespace laws_eqStringS
inductive Pt where
  | p0 (a : List (List L)) (b : List (List L)) (c : Int)
def pid : Pt → Nat
  | .p0 .. => 4
def pvs : Pt → List V
  | .p0 a b c => [.sl none 9 a, .sl none 9 b, .int .i64 c]
def phs : Pt → List Root
  | .p0 a b c => []
noncomputable def step (J : Pt → Ans) : Pt → Ans
  | .p0 a b c => (bif (decide (c < (a.length : Int))) then (bif (decide ((0 : Int) ≤ c)) then (bif (decide (c < (a.length : Int))) then (bif (decide ((0 : Int) ≤ c)) then (bif (decide (c < (b.length : Int))) then (bif (!((sAt a (Int.toNat c)) == (sAt b (Int.toNat c)))) then ret (false : Bool) else J (.p0 a b (IntKind.i64.wrap (c + 1)))) else none) else none) else none) else none) else ret (true : Bool))
noncomputable def start (J : Pt → Ans) (x0 : List (List L)) (x1 : List (List L)) : Ans := (bif ((x0.length : Int) != (x1.length : Int)) then ret (false : Bool) else J (.p0 x0 x1 0))
def live : Nat → Live := fun i => match i with | 4 => [(0, none), (1, none), (5, none)] | _ => []
def pats : List Pat := [.rd (.sl 9), .rd (.sl 9)]
def res : RP := .one (.rd (.bool))
noncomputable def G : List (Nat × Con) := []
noncomputable abbrev E : Env := ⟨assoc Tab, conG G, 26⟩
set_option maxRecDepth 100000
theorem step_eq (I : Heads) (p : Pt) : enterC E live I (pid p) (bodyOf Tryz.f73) (stOf (live (pid p)) (pvs p) (phs p)) (doneK E Tryz.f73 res) = step (fun q => I (pid q) (pvs q) (phs q)) p := by
  cases p <;> kernel_rfl
theorem start_eq (I : Heads) (ls : List L) : runC E live I (bodyOf Tryz.f73) (initS pats ls) (doneK E Tryz.f73 res) = start (fun q => I (pid q) (pvs q) (phs q)) (ls.headD .hole).toSl ((dropT 1 ls).headD .hole).toSl := by kernel_rfl
theorem run_eq (n : Nat) (ls : List L) : runF E live Tryz.f73 res n (initS pats ls) = start (iter step n) (ls.headD .hole).toSl ((dropT 1 ls).headD .hole).toSl := runF_iter (id := pid) (vs := pvs) (hs := phs) (step := step) (start := fun J => start J (ls.headD .hole).toSl ((dropT 1 ls).headD .hole).toSl) step_eq (fun I => start_eq I ls) n
noncomputable def md (a0 : List ByteArray) (a1 : List ByteArray) : Bool := eqB a0 a1
def gd (a0 : List ByteArray) (a1 : List ByteArray) : Prop := True
def rf (a : List ByteArray × List ByteArray) : List (List L) × List (List L) := ((a.1.map sRow), (a.2.map sRow))
theorem rf_inj (a b : List ByteArray × List ByteArray) (h : rf a = rf b) : a = b := by
  exact (Prod.ext (map_inj sRow_inj (congrArg (fun x => x.1) h)) (map_inj sRow_inj (congrArg (fun x => x.2) h)))
noncomputable def R (x0 : List (List L)) (x1 : List (List L)) : Option (Bool) := ofM rf (fun a => gd a.1 a.2) (fun a => (md a.1 a.2)) (x0, x1)
theorem R_eq {a0 : List ByteArray} {a1 : List ByteArray} (h : gd a0 a1) : R (a0.map sRow) (a1.map sRow) = some (md a0 a1) := ofM_eq (r := rf) (a := (a0, a1)) rf_inj h
theorem okF (a0 : List ByteArray) (a1 : List ByteArray) (hg : gd a0 a1) (h0 : a0.length ≤ maxLen) (h1 : a1.length ≤ maxLen) : ∃ n, start (iter step n) (a0.map sRow) (a1.map sRow) = ret ((md a0 a1) : Bool) := by
  unfold start md
  simp only [List.length_map]
  refine eq_list (pt := fun i => Pt.p0 (a0.map sRow) (a1.map sRow) (i : Int)) (fun hl J i h h2 => ?_) (fun J => ?_)
  · simp only [step, List.length_map, lt_dec h, lt_dec h2, zle_dec, cond_true, toNat_nat, sAt_row h, sAt_row h2]
    rw [wrap_succ h h0]
    simp only [bne, int_beq, bool_beq, ba_beq]
    cases eqB a0[i] a1[i] <;> rfl
  · simp only [step, List.length_map, nlt_dec, cond_false]
noncomputable def sem (ls : List L) : Option (List L) := (R (ls.headD .hole).toSl ((dropT 1 ls).headD .hole).toSl).map RT.enc
theorem ok (ls q : List L) (hl : LOKs Ev.cells pats ls) (h : sem ls = some q) : ∃ n, runF E live Tryz.f73 res n (initS pats ls) = some q := by
  obtain ⟨v, hv, hq⟩ := map_some h
  obtain ⟨⟨a0, a1⟩, hg, e, hm⟩ := ofM_some hv
  simp only [rf, Prod.mk.injEq] at e
  obtain ⟨e0, e1⟩ := e
  obtain ⟨n, hn⟩ := okF a0 a1 hg (by have h : (ls.headD .hole).toSl.length ≤ maxLen := hl.1.len; have e : _ = (ls.headD .hole).toSl := e0; rw [← e] at h; simpa using h) (by have h : ((dropT 1 ls).headD .hole).toSl.length ≤ maxLen := hl.2.1.len; have e : _ = ((dropT 1 ls).headD .hole).toSl := e1; rw [← e] at h; simpa using h)
  refine ⟨n, (run_eq n ls).trans ?_⟩
  rw [← e0, ← e1]
  rw [hn, ← hq, hm]; rfl
noncomputable def con : Con := ⟨pats, res, sem⟩
theorem chk : fnB Tryz.f73 con 26 = true := by kernel_rfl
theorem valid_ : Valid Tryz.prog Ev 73 con := valid mix tab_ok .nil Tryz.func73 chk live ok
end laws_eqStringS
/-! laws.eqIntS -/
namespace laws_eqIntS
inductive Pt where
  | p0 (a : List (List L)) (b : List (List L)) (c : Int)
def pid : Pt → Nat
  | .p0 .. => 4
def pvs : Pt → List V
  | .p0 a b c => [.sl none 3 a, .sl none 3 b, .int .i64 c]
def phs : Pt → List Root
  | .p0 a b c => []
noncomputable def step (J : Pt → Ans) : Pt → Ans
  | .p0 a b c => (bif (decide (c < (a.length : Int))) then (bif (decide ((0 : Int) ≤ c)) then (bif (decide (c < (a.length : Int))) then (bif (decide ((0 : Int) ≤ c)) then (bif (decide (c < (b.length : Int))) then (bif ((iAt a (Int.toNat c)) != (iAt b (Int.toNat c))) then ret (false : Bool) else J (.p0 a b (IntKind.i64.wrap (c + 1)))) else none) else none) else none) else none) else ret (true : Bool))
noncomputable def start (J : Pt → Ans) (x0 : List (List L)) (x1 : List (List L)) : Ans := (bif ((x0.length : Int) != (x1.length : Int)) then ret (false : Bool) else J (.p0 x0 x1 0))
def live : Nat → Live := fun i => match i with | 4 => [(0, none), (1, none), (5, none)] | _ => []
def pats : List Pat := [.rd (.sl 3), .rd (.sl 3)]
def res : RP := .one (.rd (.bool))
noncomputable def G : List (Nat × Con) := []
noncomputable abbrev E : Env := ⟨assoc Tab, conG G, 26⟩
set_option maxRecDepth 100000
theorem step_eq (I : Heads) (p : Pt) : enterC E live I (pid p) (bodyOf Tryz.f119) (stOf (live (pid p)) (pvs p) (phs p)) (doneK E Tryz.f119 res) = step (fun q => I (pid q) (pvs q) (phs q)) p := by
  cases p <;> kernel_rfl
theorem start_eq (I : Heads) (ls : List L) : runC E live I (bodyOf Tryz.f119) (initS pats ls) (doneK E Tryz.f119 res) = start (fun q => I (pid q) (pvs q) (phs q)) (ls.headD .hole).toSl ((dropT 1 ls).headD .hole).toSl := by kernel_rfl
theorem run_eq (n : Nat) (ls : List L) : runF E live Tryz.f119 res n (initS pats ls) = start (iter step n) (ls.headD .hole).toSl ((dropT 1 ls).headD .hole).toSl := runF_iter (id := pid) (vs := pvs) (hs := phs) (step := step) (start := fun J => start J (ls.headD .hole).toSl ((dropT 1 ls).headD .hole).toSl) step_eq (fun I => start_eq I ls) n
noncomputable def md (a0 : List Int) (a1 : List Int) : Bool := eqB a0 a1
def gd (a0 : List Int) (a1 : List Int) : Prop := True
def rf (a : List Int × List Int) : List (List L) × List (List L) := ((a.1.map iRow), (a.2.map iRow))
theorem rf_inj (a b : List Int × List Int) (h : rf a = rf b) : a = b := by
  exact (Prod.ext (map_inj iRow_inj (congrArg (fun x => x.1) h)) (map_inj iRow_inj (congrArg (fun x => x.2) h)))
noncomputable def R (x0 : List (List L)) (x1 : List (List L)) : Option (Bool) := ofM rf (fun a => gd a.1 a.2) (fun a => (md a.1 a.2)) (x0, x1)
theorem R_eq {a0 : List Int} {a1 : List Int} (h : gd a0 a1) : R (a0.map iRow) (a1.map iRow) = some (md a0 a1) := ofM_eq (r := rf) (a := (a0, a1)) rf_inj h
theorem okF (a0 : List Int) (a1 : List Int) (hg : gd a0 a1) (h0 : a0.length ≤ maxLen) (h1 : a1.length ≤ maxLen) : ∃ n, start (iter step n) (a0.map iRow) (a1.map iRow) = ret ((md a0 a1) : Bool) := by
  unfold start md
  simp only [List.length_map]
  refine eq_list (pt := fun i => Pt.p0 (a0.map iRow) (a1.map iRow) (i : Int)) (fun hl J i h h2 => ?_) (fun J => ?_)
  · simp only [step, List.length_map, lt_dec h, lt_dec h2, zle_dec, cond_true, toNat_nat, iAt_row h, iAt_row h2]
    rw [wrap_succ h h0]
    simp only [bne, int_beq, bool_beq, ba_beq]
    cases eqB a0[i] a1[i] <;> rfl
  · simp only [step, List.length_map, nlt_dec, cond_false]
noncomputable def sem (ls : List L) : Option (List L) := (R (ls.headD .hole).toSl ((dropT 1 ls).headD .hole).toSl).map RT.enc
theorem ok (ls q : List L) (hl : LOKs Ev.cells pats ls) (h : sem ls = some q) : ∃ n, runF E live Tryz.f119 res n (initS pats ls) = some q := by
  obtain ⟨v, hv, hq⟩ := map_some h
  obtain ⟨⟨a0, a1⟩, hg, e, hm⟩ := ofM_some hv
  simp only [rf, Prod.mk.injEq] at e
  obtain ⟨e0, e1⟩ := e
  obtain ⟨n, hn⟩ := okF a0 a1 hg (by have h : (ls.headD .hole).toSl.length ≤ maxLen := hl.1.len; have e : _ = (ls.headD .hole).toSl := e0; rw [← e] at h; simpa using h) (by have h : ((dropT 1 ls).headD .hole).toSl.length ≤ maxLen := hl.2.1.len; have e : _ = ((dropT 1 ls).headD .hole).toSl := e1; rw [← e] at h; simpa using h)
  refine ⟨n, (run_eq n ls).trans ?_⟩
  rw [← e0, ← e1]
  rw [hn, ← hq, hm]; rfl
noncomputable def con : Con := ⟨pats, res, sem⟩
theorem chk : fnB Tryz.f119 con 26 = true := by kernel_rfl
theorem valid_ : Valid Tryz.prog Ev 119 con := valid mix tab_ok .nil Tryz.func119 chk live ok
end laws_eqIntS
/-! laws.eqKeys -/
namespace laws_eqKeys
noncomputable def F (x0 : RKeys) (x1 : RKeys) : Ans := (call (laws_eqIntS.R x0.fList x1.fList) fun v1 => (bif (!v1) then ret (false : Bool) else (bif (x0.fNeed != x1.fNeed) then ret (false : Bool) else ret (true : Bool))))
def live : Nat → Live := fun _ => []
def pats : List Pat := [.agg [.sl 3, .int .i64], .agg [.sl 3, .int .i64]]
def res : RP := .one (.rd (.bool))
noncomputable def G : List (Nat × Con) := [(119, laws_eqIntS.con)]
noncomputable abbrev E : Env := ⟨assoc Tab, conG G, 16⟩
set_option maxRecDepth 100000
theorem run_eq (n : Nat) (ls : List L) : runF E live Tryz.f149 res n (initS pats ls) = F (RKeys.dec ls) (RKeys.dec (dropT 2 ls)) := by kernel_rfl
noncomputable def md (a0 : MKeys) (a1 : MKeys) : Bool := eqB a0 a1
def gd (a0 : MKeys) (a1 : MKeys) : Prop := True
def rf (a : MKeys × MKeys) : RKeys × RKeys := ((MKeys.r a.1), (MKeys.r a.2))
theorem rf_inj (a b : MKeys × MKeys) (h : rf a = rf b) : a = b := by
  exact (Prod.ext (MKeys.r_inj (congrArg (fun x => x.1) h)) (MKeys.r_inj (congrArg (fun x => x.2) h)))
noncomputable def R (x0 : RKeys) (x1 : RKeys) : Option (Bool) := ofM rf (fun a => gd a.1 a.2) (fun a => (md a.1 a.2)) (x0, x1)
theorem R_eq {a0 : MKeys} {a1 : MKeys} (h : gd a0 a1) : R (MKeys.r a0) (MKeys.r a1) = some (md a0 a1) := ofM_eq (r := rf) (a := (a0, a1)) rf_inj h
theorem okF (a0 : MKeys) (a1 : MKeys) (hg : gd a0 a1) : F (MKeys.r a0) (MKeys.r a1) = ret ((md a0 a1) : Bool) := by
  unfold md
  show (call (laws_eqIntS.R (a0.fList.map iRow) (a1.fList.map iRow)) fun v1 => (bif (!v1) then ret (false : Bool) else (bif (a0.fNeed != a1.fNeed) then ret (false : Bool) else ret (true : Bool)))) = _
  simp only [call_eq (laws_eqIntS.R_eq (a0 := a0.fList) (a1 := a1.fList) trivial), laws_eqIntS.md]
  try simp only [bne, int_beq, bool_beq, ba_beq]
  have e : eqB a0 a1 = (eqB a0.fList a1.fList && (eqB a0.fNeed a1.fNeed && true)) := by
    cases a0; cases a1
    rw [Bool.eq_iff_iff]
    simp only [eqB_iff, Bool.and_eq_true, MKeys.mk.injEq, and_true]
  rw [e]
  refine and_step fun _ => ?_
  refine and_step fun _ => ?_
  rfl
noncomputable def sem (ls : List L) : Option (List L) := (R (RKeys.dec ls) (RKeys.dec (dropT 2 ls))).map RT.enc
theorem ok (ls q : List L) (hl : LOKs Ev.cells pats ls) (h : sem ls = some q) : ∃ n, runF E live Tryz.f149 res n (initS pats ls) = some q := by
  obtain ⟨v, hv, hq⟩ := map_some h
  obtain ⟨⟨a0, a1⟩, hg, e, hm⟩ := ofM_some hv
  simp only [rf, Prod.mk.injEq] at e
  obtain ⟨e0, e1⟩ := e
  have hn := okF a0 a1 hg
  refine ⟨0, (run_eq 0 ls).trans ?_⟩
  rw [← e0, ← e1]
  rw [hn, ← hq, hm]; rfl
noncomputable def con : Con := ⟨pats, res, sem⟩
theorem chk : fnB Tryz.f149 con 16 = true := by kernel_rfl
theorem valid_ : Valid Tryz.prog Ev 149 con := valid mix tab_ok (.cons laws_eqIntS.valid_ .nil) Tryz.func149 chk live ok
end laws_eqKeys
/-! laws.eqHead -/
namespace laws_eqHead
noncomputable def F (x0 : RHead) (x1 : RHead) : Ans := (bif (x0.fZone != x1.fZone) then ret (false : Bool) else (bif (x0.fEpoch != x1.fEpoch) then ret (false : Bool) else (bif (x0.fKind != x1.fKind) then ret (false : Bool) else (bif (x0.fTime != x1.fTime) then ret (false : Bool) else (bif (x0.fUntil != x1.fUntil) then ret (false : Bool) else (bif (x0.fCount != x1.fCount) then ret (false : Bool) else (bif (x0.fRoot != x1.fRoot) then ret (false : Bool) else (bif (x0.fPrev != x1.fPrev) then ret (false : Bool) else (call (laws_eqKeys.R x0.fKeys x1.fKeys) fun v1 => (bif (!v1) then ret (false : Bool) else (call (laws_eqKeys.R x0.fHeirs x1.fHeirs) fun v2 => (bif (!v2) then ret (false : Bool) else (bif (x0.fWait != x1.fWait) then ret (false : Bool) else (call (laws_eqKeys.R x0.fJudge x1.fJudge) fun v3 => (bif (!v3) then ret (false : Bool) else (bif (!(x0.fFrozen == x1.fFrozen)) then ret (false : Bool) else ret (true : Bool)))))))))))))))))
def live : Nat → Live := fun _ => []
def pats : List Pat := [.agg [.int .i64, .int .i64, .int .i64, .int .i64, .int .i64, .int .i64, .int .i64, .int .i64, .sl 3, .int .i64, .sl 3, .int .i64, .int .i64, .sl 3, .int .i64, .bool], .agg [.int .i64, .int .i64, .int .i64, .int .i64, .int .i64, .int .i64, .int .i64, .int .i64, .sl 3, .int .i64, .sl 3, .int .i64, .int .i64, .sl 3, .int .i64, .bool]]
def res : RP := .one (.rd (.bool))
noncomputable def G : List (Nat × Con) := [(149, laws_eqKeys.con)]
noncomputable abbrev E : Env := ⟨assoc Tab, conG G, 73⟩
set_option maxRecDepth 100000
theorem run_eq (n : Nat) (ls : List L) : runF E live Tryz.f102 res n (initS pats ls) = F (RHead.dec ls) (RHead.dec (dropT 16 ls)) := by kernel_rfl
noncomputable def md (a0 : MHead) (a1 : MHead) : Bool := eqB a0 a1
def gd (a0 : MHead) (a1 : MHead) : Prop := True
def rf (a : MHead × MHead) : RHead × RHead := ((MHead.r a.1), (MHead.r a.2))
theorem rf_inj (a b : MHead × MHead) (h : rf a = rf b) : a = b := by
  exact (Prod.ext (MHead.r_inj (congrArg (fun x => x.1) h)) (MHead.r_inj (congrArg (fun x => x.2) h)))
noncomputable def R (x0 : RHead) (x1 : RHead) : Option (Bool) := ofM rf (fun a => gd a.1 a.2) (fun a => (md a.1 a.2)) (x0, x1)
theorem R_eq {a0 : MHead} {a1 : MHead} (h : gd a0 a1) : R (MHead.r a0) (MHead.r a1) = some (md a0 a1) := ofM_eq (r := rf) (a := (a0, a1)) rf_inj h
theorem okF (a0 : MHead) (a1 : MHead) (hg : gd a0 a1) : F (MHead.r a0) (MHead.r a1) = ret ((md a0 a1) : Bool) := by
  unfold md
  show (bif (a0.fZone != a1.fZone) then ret (false : Bool) else (bif (a0.fEpoch != a1.fEpoch) then ret (false : Bool) else (bif (a0.fKind != a1.fKind) then ret (false : Bool) else (bif (a0.fTime != a1.fTime) then ret (false : Bool) else (bif (a0.fUntil != a1.fUntil) then ret (false : Bool) else (bif (a0.fCount != a1.fCount) then ret (false : Bool) else (bif (a0.fRoot != a1.fRoot) then ret (false : Bool) else (bif (a0.fPrev != a1.fPrev) then ret (false : Bool) else (call (laws_eqKeys.R (MKeys.r a0.fKeys) (MKeys.r a1.fKeys)) fun v1 => (bif (!v1) then ret (false : Bool) else (call (laws_eqKeys.R (MKeys.r a0.fHeirs) (MKeys.r a1.fHeirs)) fun v2 => (bif (!v2) then ret (false : Bool) else (bif (a0.fWait != a1.fWait) then ret (false : Bool) else (call (laws_eqKeys.R (MKeys.r a0.fJudge) (MKeys.r a1.fJudge)) fun v3 => (bif (!v3) then ret (false : Bool) else (bif (!(a0.fFrozen == a1.fFrozen)) then ret (false : Bool) else ret (true : Bool))))))))))))))))) = _
  simp only [call_eq (laws_eqKeys.R_eq (a0 := a0.fKeys) (a1 := a1.fKeys) trivial), laws_eqKeys.md]
  simp only [call_eq (laws_eqKeys.R_eq (a0 := a0.fHeirs) (a1 := a1.fHeirs) trivial), laws_eqKeys.md]
  simp only [call_eq (laws_eqKeys.R_eq (a0 := a0.fJudge) (a1 := a1.fJudge) trivial), laws_eqKeys.md]
  try simp only [bne, int_beq, bool_beq, ba_beq]
  have e : eqB a0 a1 = (eqB a0.fZone a1.fZone && (eqB a0.fEpoch a1.fEpoch && (eqB a0.fKind a1.fKind && (eqB a0.fTime a1.fTime && (eqB a0.fUntil a1.fUntil && (eqB a0.fCount a1.fCount && (eqB a0.fRoot a1.fRoot && (eqB a0.fPrev a1.fPrev && (eqB a0.fKeys a1.fKeys && (eqB a0.fHeirs a1.fHeirs && (eqB a0.fWait a1.fWait && (eqB a0.fJudge a1.fJudge && (eqB a0.fFrozen a1.fFrozen && true))))))))))))) := by
    cases a0; cases a1
    rw [Bool.eq_iff_iff]
    simp only [eqB_iff, Bool.and_eq_true, MHead.mk.injEq, and_true]
  rw [e]
  refine and_step fun _ => ?_
  refine and_step fun _ => ?_
  refine and_step fun _ => ?_
  refine and_step fun _ => ?_
  refine and_step fun _ => ?_
  refine and_step fun _ => ?_
  refine and_step fun _ => ?_
  refine and_step fun _ => ?_
  refine and_step fun _ => ?_
  refine and_step fun _ => ?_
  refine and_step fun _ => ?_
  refine and_step fun _ => ?_
  refine and_step fun _ => ?_
  rfl
noncomputable def sem (ls : List L) : Option (List L) := (R (RHead.dec ls) (RHead.dec (dropT 16 ls))).map RT.enc
theorem ok (ls q : List L) (hl : LOKs Ev.cells pats ls) (h : sem ls = some q) : ∃ n, runF E live Tryz.f102 res n (initS pats ls) = some q := by
  obtain ⟨v, hv, hq⟩ := map_some h
  obtain ⟨⟨a0, a1⟩, hg, e, hm⟩ := ofM_some hv
  simp only [rf, Prod.mk.injEq] at e
  obtain ⟨e0, e1⟩ := e
  have hn := okF a0 a1 hg
  refine ⟨0, (run_eq 0 ls).trans ?_⟩
  rw [← e0, ← e1]
  rw [hn, ← hq, hm]; rfl
noncomputable def con : Con := ⟨pats, res, sem⟩
theorem chk : fnB Tryz.f102 con 73 = true := by kernel_rfl
theorem valid_ : Valid Tryz.prog Ev 102 con := valid mix tab_ok (.cons laws_eqKeys.valid_ .nil) Tryz.func102 chk live ok
end laws_eqHead
/-! laws.eqSig -/
namespace laws_eqSig
noncomputable def F (x0 : MSig) (x1 : MSig) : Ans := (bif (x0.fKey != x1.fKey) then ret (false : Bool) else (bif (x0.fTag != x1.fTag) then ret (false : Bool) else ret (true : Bool)))
def live : Nat → Live := fun _ => []
def pats : List Pat := [.agg [.int .i64, .int .i64], .agg [.int .i64, .int .i64]]
def res : RP := .one (.rd (.bool))
noncomputable def G : List (Nat × Con) := []
noncomputable abbrev E : Env := ⟨assoc Tab, conG G, 15⟩
set_option maxRecDepth 100000
theorem run_eq (n : Nat) (ls : List L) : runF E live Tryz.f150 res n (initS pats ls) = F (MSig.dec ls) (MSig.dec (dropT 2 ls)) := by kernel_rfl
noncomputable def md (a0 : MSig) (a1 : MSig) : Bool := eqB a0 a1
def gd (a0 : MSig) (a1 : MSig) : Prop := True
def rf (a : MSig × MSig) : MSig × MSig := (a.1, a.2)
theorem rf_inj (a b : MSig × MSig) (h : rf a = rf b) : a = b := by
  exact (Prod.ext (congrArg (fun x => x.1) h) (congrArg (fun x => x.2) h))
noncomputable def R (x0 : MSig) (x1 : MSig) : Option (Bool) := ofM rf (fun a => gd a.1 a.2) (fun a => (md a.1 a.2)) (x0, x1)
theorem R_eq {a0 : MSig} {a1 : MSig} (h : gd a0 a1) : R a0 a1 = some (md a0 a1) := ofM_eq (r := rf) (a := (a0, a1)) rf_inj h
theorem okF (a0 : MSig) (a1 : MSig) (hg : gd a0 a1) : F a0 a1 = ret ((md a0 a1) : Bool) := by
  unfold md
  show (bif (a0.fKey != a1.fKey) then ret (false : Bool) else (bif (a0.fTag != a1.fTag) then ret (false : Bool) else ret (true : Bool))) = _
  try simp only [bne, int_beq, bool_beq, ba_beq]
  have e : eqB a0 a1 = (eqB a0.fKey a1.fKey && (eqB a0.fTag a1.fTag && true)) := by
    cases a0; cases a1
    rw [Bool.eq_iff_iff]
    simp only [eqB_iff, Bool.and_eq_true, MSig.mk.injEq, and_true]
  rw [e]
  refine and_step fun _ => ?_
  refine and_step fun _ => ?_
  rfl
noncomputable def sem (ls : List L) : Option (List L) := (R (MSig.dec ls) (MSig.dec (dropT 2 ls))).map RT.enc
theorem ok (ls q : List L) (hl : LOKs Ev.cells pats ls) (h : sem ls = some q) : ∃ n, runF E live Tryz.f150 res n (initS pats ls) = some q := by
  obtain ⟨v, hv, hq⟩ := map_some h
  obtain ⟨⟨a0, a1⟩, hg, e, hm⟩ := ofM_some hv
  simp only [rf, Prod.mk.injEq] at e
  obtain ⟨e0, e1⟩ := e
  have hn := okF a0 a1 hg
  refine ⟨0, (run_eq 0 ls).trans ?_⟩
  rw [← e0, ← e1]
  rw [hn, ← hq, hm]; rfl
noncomputable def con : Con := ⟨pats, res, sem⟩
theorem chk : fnB Tryz.f150 con 15 = true := by kernel_rfl
theorem valid_ : Valid Tryz.prog Ev 150 con := valid mix tab_ok .nil Tryz.func150 chk live ok
end laws_eqSig
/-! laws.eqSigS -/
namespace laws_eqSigS
inductive Pt where
  | p0 (a : List (List L)) (b : List (List L)) (c : Int)
def pid : Pt → Nat
  | .p0 .. => 4
def pvs : Pt → List V
  | .p0 a b c => [.sl none 179 a, .sl none 179 b, .int .i64 c]
def phs : Pt → List Root
  | .p0 a b c => []
noncomputable def step (J : Pt → Ans) : Pt → Ans
  | .p0 a b c => (bif (decide (c < (a.length : Int))) then (bif (decide ((0 : Int) ≤ c)) then (bif (decide (c < (a.length : Int))) then (bif (decide ((0 : Int) ≤ c)) then (bif (decide (c < (b.length : Int))) then (call (laws_eqSig.R (MSig.at a (Int.toNat c)) (MSig.at b (Int.toNat c))) fun v1 => (bif (!v1) then ret (false : Bool) else J (.p0 a b (IntKind.i64.wrap (c + 1))))) else none) else none) else none) else none) else ret (true : Bool))
noncomputable def start (J : Pt → Ans) (x0 : List (List L)) (x1 : List (List L)) : Ans := (bif ((x0.length : Int) != (x1.length : Int)) then ret (false : Bool) else J (.p0 x0 x1 0))
def live : Nat → Live := fun i => match i with | 4 => [(0, none), (1, none), (5, none)] | _ => []
def pats : List Pat := [.rd (.sl 179), .rd (.sl 179)]
def res : RP := .one (.rd (.bool))
noncomputable def G : List (Nat × Con) := [(150, laws_eqSig.con)]
noncomputable abbrev E : Env := ⟨assoc Tab, conG G, 27⟩
set_option maxRecDepth 100000
theorem step_eq (I : Heads) (p : Pt) : enterC E live I (pid p) (bodyOf Tryz.f103) (stOf (live (pid p)) (pvs p) (phs p)) (doneK E Tryz.f103 res) = step (fun q => I (pid q) (pvs q) (phs q)) p := by
  cases p <;> kernel_rfl
theorem start_eq (I : Heads) (ls : List L) : runC E live I (bodyOf Tryz.f103) (initS pats ls) (doneK E Tryz.f103 res) = start (fun q => I (pid q) (pvs q) (phs q)) (ls.headD .hole).toSl ((dropT 1 ls).headD .hole).toSl := by kernel_rfl
theorem run_eq (n : Nat) (ls : List L) : runF E live Tryz.f103 res n (initS pats ls) = start (iter step n) (ls.headD .hole).toSl ((dropT 1 ls).headD .hole).toSl := runF_iter (id := pid) (vs := pvs) (hs := phs) (step := step) (start := fun J => start J (ls.headD .hole).toSl ((dropT 1 ls).headD .hole).toSl) step_eq (fun I => start_eq I ls) n
noncomputable def md (a0 : List MSig) (a1 : List MSig) : Bool := eqB a0 a1
def gd (a0 : List MSig) (a1 : List MSig) : Prop := True
def rf (a : List MSig × List MSig) : List (List L) × List (List L) := ((a.1.map MSig.row), (a.2.map MSig.row))
theorem rf_inj (a b : List MSig × List MSig) (h : rf a = rf b) : a = b := by
  exact (Prod.ext (map_inj MSig.row_inj (congrArg (fun x => x.1) h)) (map_inj MSig.row_inj (congrArg (fun x => x.2) h)))
noncomputable def R (x0 : List (List L)) (x1 : List (List L)) : Option (Bool) := ofM rf (fun a => gd a.1 a.2) (fun a => (md a.1 a.2)) (x0, x1)
theorem R_eq {a0 : List MSig} {a1 : List MSig} (h : gd a0 a1) : R (a0.map MSig.row) (a1.map MSig.row) = some (md a0 a1) := ofM_eq (r := rf) (a := (a0, a1)) rf_inj h
theorem okF (a0 : List MSig) (a1 : List MSig) (hg : gd a0 a1) (h0 : a0.length ≤ maxLen) (h1 : a1.length ≤ maxLen) : ∃ n, start (iter step n) (a0.map MSig.row) (a1.map MSig.row) = ret ((md a0 a1) : Bool) := by
  unfold start md
  simp only [List.length_map]
  refine eq_list (pt := fun i => Pt.p0 (a0.map MSig.row) (a1.map MSig.row) (i : Int)) (fun hl J i h h2 => ?_) (fun J => ?_)
  · simp only [step, List.length_map, lt_dec h, lt_dec h2, zle_dec, cond_true, toNat_nat, MSig.at_row h, MSig.at_row h2]
    rw [wrap_succ h h0]
    rw [call_eq (laws_eqSig.R_eq (a0 := a0[i]) (a1 := a1[i]) trivial), laws_eqSig.md]
    cases eqB a0[i] a1[i] <;> rfl
  · simp only [step, List.length_map, nlt_dec, cond_false]
noncomputable def sem (ls : List L) : Option (List L) := (R (ls.headD .hole).toSl ((dropT 1 ls).headD .hole).toSl).map RT.enc
theorem ok (ls q : List L) (hl : LOKs Ev.cells pats ls) (h : sem ls = some q) : ∃ n, runF E live Tryz.f103 res n (initS pats ls) = some q := by
  obtain ⟨v, hv, hq⟩ := map_some h
  obtain ⟨⟨a0, a1⟩, hg, e, hm⟩ := ofM_some hv
  simp only [rf, Prod.mk.injEq] at e
  obtain ⟨e0, e1⟩ := e
  obtain ⟨n, hn⟩ := okF a0 a1 hg (by have h : (ls.headD .hole).toSl.length ≤ maxLen := hl.1.len; have e : _ = (ls.headD .hole).toSl := e0; rw [← e] at h; simpa using h) (by have h : ((dropT 1 ls).headD .hole).toSl.length ≤ maxLen := hl.2.1.len; have e : _ = ((dropT 1 ls).headD .hole).toSl := e1; rw [← e] at h; simpa using h)
  refine ⟨n, (run_eq n ls).trans ?_⟩
  rw [← e0, ← e1]
  rw [hn, ← hq, hm]; rfl
noncomputable def con : Con := ⟨pats, res, sem⟩
theorem chk : fnB Tryz.f103 con 27 = true := by kernel_rfl
theorem valid_ : Valid Tryz.prog Ev 103 con := valid mix tab_ok (.cons laws_eqSig.valid_ .nil) Tryz.func103 chk live ok
end laws_eqSigS
/-! laws.eqSigned -/
namespace laws_eqSigned
noncomputable def F (x0 : RSigned) (x1 : RSigned) : Ans := (call (laws_eqHead.R x0.fHead x1.fHead) fun v1 => (bif (!v1) then ret (false : Bool) else (call (laws_eqSigS.R x0.fSigs x1.fSigs) fun v2 => (bif (!v2) then ret (false : Bool) else ret (true : Bool)))))
def live : Nat → Live := fun _ => []
def pats : List Pat := [.agg [.int .i64, .int .i64, .int .i64, .int .i64, .int .i64, .int .i64, .int .i64, .int .i64, .sl 3, .int .i64, .sl 3, .int .i64, .int .i64, .sl 3, .int .i64, .bool, .sl 179], .agg [.int .i64, .int .i64, .int .i64, .int .i64, .int .i64, .int .i64, .int .i64, .int .i64, .sl 3, .int .i64, .sl 3, .int .i64, .int .i64, .sl 3, .int .i64, .bool, .sl 179]]
def res : RP := .one (.rd (.bool))
noncomputable def G : List (Nat × Con) := [(102, laws_eqHead.con), (103, laws_eqSigS.con)]
noncomputable abbrev E : Env := ⟨assoc Tab, conG G, 17⟩
set_option maxRecDepth 100000
theorem run_eq (n : Nat) (ls : List L) : runF E live Tryz.f57 res n (initS pats ls) = F (RSigned.dec ls) (RSigned.dec (dropT 17 ls)) := by kernel_rfl
noncomputable def md (a0 : MSigned) (a1 : MSigned) : Bool := eqB a0 a1
def gd (a0 : MSigned) (a1 : MSigned) : Prop := True
def rf (a : MSigned × MSigned) : RSigned × RSigned := ((MSigned.r a.1), (MSigned.r a.2))
theorem rf_inj (a b : MSigned × MSigned) (h : rf a = rf b) : a = b := by
  exact (Prod.ext (MSigned.r_inj (congrArg (fun x => x.1) h)) (MSigned.r_inj (congrArg (fun x => x.2) h)))
noncomputable def R (x0 : RSigned) (x1 : RSigned) : Option (Bool) := ofM rf (fun a => gd a.1 a.2) (fun a => (md a.1 a.2)) (x0, x1)
theorem R_eq {a0 : MSigned} {a1 : MSigned} (h : gd a0 a1) : R (MSigned.r a0) (MSigned.r a1) = some (md a0 a1) := ofM_eq (r := rf) (a := (a0, a1)) rf_inj h
theorem okF (a0 : MSigned) (a1 : MSigned) (hg : gd a0 a1) : F (MSigned.r a0) (MSigned.r a1) = ret ((md a0 a1) : Bool) := by
  unfold md
  show (call (laws_eqHead.R (MHead.r a0.fHead) (MHead.r a1.fHead)) fun v1 => (bif (!v1) then ret (false : Bool) else (call (laws_eqSigS.R (a0.fSigs.map MSig.row) (a1.fSigs.map MSig.row)) fun v2 => (bif (!v2) then ret (false : Bool) else ret (true : Bool))))) = _
  simp only [call_eq (laws_eqHead.R_eq (a0 := a0.fHead) (a1 := a1.fHead) trivial), laws_eqHead.md]
  simp only [call_eq (laws_eqSigS.R_eq (a0 := a0.fSigs) (a1 := a1.fSigs) trivial), laws_eqSigS.md]
  try simp only [bne, int_beq, bool_beq, ba_beq]
  have e : eqB a0 a1 = (eqB a0.fHead a1.fHead && (eqB a0.fSigs a1.fSigs && true)) := by
    cases a0; cases a1
    rw [Bool.eq_iff_iff]
    simp only [eqB_iff, Bool.and_eq_true, MSigned.mk.injEq, and_true]
  rw [e]
  refine and_step fun _ => ?_
  refine and_step fun _ => ?_
  rfl
noncomputable def sem (ls : List L) : Option (List L) := (R (RSigned.dec ls) (RSigned.dec (dropT 17 ls))).map RT.enc
theorem ok (ls q : List L) (hl : LOKs Ev.cells pats ls) (h : sem ls = some q) : ∃ n, runF E live Tryz.f57 res n (initS pats ls) = some q := by
  obtain ⟨v, hv, hq⟩ := map_some h
  obtain ⟨⟨a0, a1⟩, hg, e, hm⟩ := ofM_some hv
  simp only [rf, Prod.mk.injEq] at e
  obtain ⟨e0, e1⟩ := e
  have hn := okF a0 a1 hg
  refine ⟨0, (run_eq 0 ls).trans ?_⟩
  rw [← e0, ← e1]
  rw [hn, ← hq, hm]; rfl
noncomputable def con : Con := ⟨pats, res, sem⟩
theorem chk : fnB Tryz.f57 con 17 = true := by kernel_rfl
theorem valid_ : Valid Tryz.prog Ev 57 con := valid mix tab_ok (.cons laws_eqHead.valid_ (.cons laws_eqSigS.valid_ .nil)) Tryz.func57 chk live ok
end laws_eqSigned
/-! laws.eqSignedS -/
namespace laws_eqSignedS
inductive Pt where
  | p0 (a : List (List L)) (b : List (List L)) (c : Int)
def pid : Pt → Nat
  | .p0 .. => 4
def pvs : Pt → List V
  | .p0 a b c => [.sl none 92 a, .sl none 92 b, .int .i64 c]
def phs : Pt → List Root
  | .p0 a b c => []
noncomputable def step (J : Pt → Ans) : Pt → Ans
  | .p0 a b c => (bif (decide (c < (a.length : Int))) then (bif (decide ((0 : Int) ≤ c)) then (bif (decide (c < (a.length : Int))) then (bif (decide ((0 : Int) ≤ c)) then (bif (decide (c < (b.length : Int))) then (call (laws_eqSigned.R (RSigned.at a (Int.toNat c)) (RSigned.at b (Int.toNat c))) fun v1 => (bif (!v1) then ret (false : Bool) else J (.p0 a b (IntKind.i64.wrap (c + 1))))) else none) else none) else none) else none) else ret (true : Bool))
noncomputable def start (J : Pt → Ans) (x0 : List (List L)) (x1 : List (List L)) : Ans := (bif ((x0.length : Int) != (x1.length : Int)) then ret (false : Bool) else J (.p0 x0 x1 0))
def live : Nat → Live := fun i => match i with | 4 => [(0, none), (1, none), (5, none)] | _ => []
def pats : List Pat := [.rd (.sl 92), .rd (.sl 92)]
def res : RP := .one (.rd (.bool))
noncomputable def G : List (Nat × Con) := [(57, laws_eqSigned.con)]
noncomputable abbrev E : Env := ⟨assoc Tab, conG G, 27⟩
set_option maxRecDepth 100000
theorem step_eq (I : Heads) (p : Pt) : enterC E live I (pid p) (bodyOf Tryz.f19) (stOf (live (pid p)) (pvs p) (phs p)) (doneK E Tryz.f19 res) = step (fun q => I (pid q) (pvs q) (phs q)) p := by
  cases p <;> kernel_rfl
theorem start_eq (I : Heads) (ls : List L) : runC E live I (bodyOf Tryz.f19) (initS pats ls) (doneK E Tryz.f19 res) = start (fun q => I (pid q) (pvs q) (phs q)) (ls.headD .hole).toSl ((dropT 1 ls).headD .hole).toSl := by kernel_rfl
theorem run_eq (n : Nat) (ls : List L) : runF E live Tryz.f19 res n (initS pats ls) = start (iter step n) (ls.headD .hole).toSl ((dropT 1 ls).headD .hole).toSl := runF_iter (id := pid) (vs := pvs) (hs := phs) (step := step) (start := fun J => start J (ls.headD .hole).toSl ((dropT 1 ls).headD .hole).toSl) step_eq (fun I => start_eq I ls) n
noncomputable def md (a0 : List MSigned) (a1 : List MSigned) : Bool := eqB a0 a1
def gd (a0 : List MSigned) (a1 : List MSigned) : Prop := True
def rf (a : List MSigned × List MSigned) : List (List L) × List (List L) := ((a.1.map MSigned.row), (a.2.map MSigned.row))
theorem rf_inj (a b : List MSigned × List MSigned) (h : rf a = rf b) : a = b := by
  exact (Prod.ext (map_inj MSigned.row_inj (congrArg (fun x => x.1) h)) (map_inj MSigned.row_inj (congrArg (fun x => x.2) h)))
noncomputable def R (x0 : List (List L)) (x1 : List (List L)) : Option (Bool) := ofM rf (fun a => gd a.1 a.2) (fun a => (md a.1 a.2)) (x0, x1)
theorem R_eq {a0 : List MSigned} {a1 : List MSigned} (h : gd a0 a1) : R (a0.map MSigned.row) (a1.map MSigned.row) = some (md a0 a1) := ofM_eq (r := rf) (a := (a0, a1)) rf_inj h
theorem okF (a0 : List MSigned) (a1 : List MSigned) (hg : gd a0 a1) (h0 : a0.length ≤ maxLen) (h1 : a1.length ≤ maxLen) : ∃ n, start (iter step n) (a0.map MSigned.row) (a1.map MSigned.row) = ret ((md a0 a1) : Bool) := by
  unfold start md
  simp only [List.length_map]
  refine eq_list (pt := fun i => Pt.p0 (a0.map MSigned.row) (a1.map MSigned.row) (i : Int)) (fun hl J i h h2 => ?_) (fun J => ?_)
  · simp only [step, List.length_map, lt_dec h, lt_dec h2, zle_dec, cond_true, toNat_nat, MSigned.at_row h, MSigned.at_row h2]
    rw [wrap_succ h h0]
    rw [call_eq (laws_eqSigned.R_eq (a0 := a0[i]) (a1 := a1[i]) trivial), laws_eqSigned.md]
    cases eqB a0[i] a1[i] <;> rfl
  · simp only [step, List.length_map, nlt_dec, cond_false]
noncomputable def sem (ls : List L) : Option (List L) := (R (ls.headD .hole).toSl ((dropT 1 ls).headD .hole).toSl).map RT.enc
theorem ok (ls q : List L) (hl : LOKs Ev.cells pats ls) (h : sem ls = some q) : ∃ n, runF E live Tryz.f19 res n (initS pats ls) = some q := by
  obtain ⟨v, hv, hq⟩ := map_some h
  obtain ⟨⟨a0, a1⟩, hg, e, hm⟩ := ofM_some hv
  simp only [rf, Prod.mk.injEq] at e
  obtain ⟨e0, e1⟩ := e
  obtain ⟨n, hn⟩ := okF a0 a1 hg (by have h : (ls.headD .hole).toSl.length ≤ maxLen := hl.1.len; have e : _ = (ls.headD .hole).toSl := e0; rw [← e] at h; simpa using h) (by have h : ((dropT 1 ls).headD .hole).toSl.length ≤ maxLen := hl.2.1.len; have e : _ = ((dropT 1 ls).headD .hole).toSl := e1; rw [← e] at h; simpa using h)
  refine ⟨n, (run_eq n ls).trans ?_⟩
  rw [← e0, ← e1]
  rw [hn, ← hq, hm]; rfl
noncomputable def con : Con := ⟨pats, res, sem⟩
theorem chk : fnB Tryz.f19 con 27 = true := by kernel_rfl
theorem valid_ : Valid Tryz.prog Ev 19 con := valid mix tab_ok (.cons laws_eqSigned.valid_ .nil) Tryz.func19 chk live ok
end laws_eqSignedS
/-! laws.eqEntry -/
namespace laws_eqEntry
noncomputable def F (x0 : REntry) (x1 : REntry) : Ans := (bif (!(x0.fLabel == x1.fLabel)) then ret (false : Bool) else (bif (x0.fKind != x1.fKind) then ret (false : Bool) else (bif (x0.fValue != x1.fValue) then ret (false : Bool) else (call (laws_eqStringS.R x0.fPath x1.fPath) fun v1 => (bif (!v1) then ret (false : Bool) else ret (true : Bool))))))
def live : Nat → Live := fun _ => []
def pats : List Pat := [.agg [.str, .int .i64, .int .i64, .sl 9], .agg [.str, .int .i64, .int .i64, .sl 9]]
def res : RP := .one (.rd (.bool))
noncomputable def G : List (Nat × Con) := [(73, laws_eqStringS.con)]
noncomputable abbrev E : Env := ⟨assoc Tab, conG G, 26⟩
set_option maxRecDepth 100000
theorem run_eq (n : Nat) (ls : List L) : runF E live Tryz.f118 res n (initS pats ls) = F (REntry.dec ls) (REntry.dec (dropT 4 ls)) := by kernel_rfl
noncomputable def md (a0 : MEntry) (a1 : MEntry) : Bool := eqB a0 a1
def gd (a0 : MEntry) (a1 : MEntry) : Prop := True
def rf (a : MEntry × MEntry) : REntry × REntry := ((MEntry.r a.1), (MEntry.r a.2))
theorem rf_inj (a b : MEntry × MEntry) (h : rf a = rf b) : a = b := by
  exact (Prod.ext (MEntry.r_inj (congrArg (fun x => x.1) h)) (MEntry.r_inj (congrArg (fun x => x.2) h)))
noncomputable def R (x0 : REntry) (x1 : REntry) : Option (Bool) := ofM rf (fun a => gd a.1 a.2) (fun a => (md a.1 a.2)) (x0, x1)
theorem R_eq {a0 : MEntry} {a1 : MEntry} (h : gd a0 a1) : R (MEntry.r a0) (MEntry.r a1) = some (md a0 a1) := ofM_eq (r := rf) (a := (a0, a1)) rf_inj h
theorem okF (a0 : MEntry) (a1 : MEntry) (hg : gd a0 a1) : F (MEntry.r a0) (MEntry.r a1) = ret ((md a0 a1) : Bool) := by
  unfold md
  show (bif (!(a0.fLabel == a1.fLabel)) then ret (false : Bool) else (bif (a0.fKind != a1.fKind) then ret (false : Bool) else (bif (a0.fValue != a1.fValue) then ret (false : Bool) else (call (laws_eqStringS.R (a0.fPath.map sRow) (a1.fPath.map sRow)) fun v1 => (bif (!v1) then ret (false : Bool) else ret (true : Bool)))))) = _
  simp only [call_eq (laws_eqStringS.R_eq (a0 := a0.fPath) (a1 := a1.fPath) trivial), laws_eqStringS.md]
  try simp only [bne, int_beq, bool_beq, ba_beq]
  have e : eqB a0 a1 = (eqB a0.fLabel a1.fLabel && (eqB a0.fKind a1.fKind && (eqB a0.fValue a1.fValue && (eqB a0.fPath a1.fPath && true)))) := by
    cases a0; cases a1
    rw [Bool.eq_iff_iff]
    simp only [eqB_iff, Bool.and_eq_true, MEntry.mk.injEq, and_true]
  rw [e]
  refine and_step fun _ => ?_
  refine and_step fun _ => ?_
  refine and_step fun _ => ?_
  refine and_step fun _ => ?_
  rfl
noncomputable def sem (ls : List L) : Option (List L) := (R (REntry.dec ls) (REntry.dec (dropT 4 ls))).map RT.enc
theorem ok (ls q : List L) (hl : LOKs Ev.cells pats ls) (h : sem ls = some q) : ∃ n, runF E live Tryz.f118 res n (initS pats ls) = some q := by
  obtain ⟨v, hv, hq⟩ := map_some h
  obtain ⟨⟨a0, a1⟩, hg, e, hm⟩ := ofM_some hv
  simp only [rf, Prod.mk.injEq] at e
  obtain ⟨e0, e1⟩ := e
  have hn := okF a0 a1 hg
  refine ⟨0, (run_eq 0 ls).trans ?_⟩
  rw [← e0, ← e1]
  rw [hn, ← hq, hm]; rfl
noncomputable def con : Con := ⟨pats, res, sem⟩
theorem chk : fnB Tryz.f118 con 26 = true := by kernel_rfl
theorem valid_ : Valid Tryz.prog Ev 118 con := valid mix tab_ok (.cons laws_eqStringS.valid_ .nil) Tryz.func118 chk live ok
end laws_eqEntry
/-! laws.eqProof -/
namespace laws_eqProof
noncomputable def F (x0 : RProof) (x1 : RProof) : Ans := (bif (x0.fAt != x1.fAt) then ret (false : Bool) else (call (laws_eqIntS.R x0.fPath x1.fPath) fun v1 => (bif (!v1) then ret (false : Bool) else ret (true : Bool))))
def live : Nat → Live := fun _ => []
def pats : List Pat := [.agg [.int .i64, .sl 3], .agg [.int .i64, .sl 3]]
def res : RP := .one (.rd (.bool))
noncomputable def G : List (Nat × Con) := [(119, laws_eqIntS.con)]
noncomputable abbrev E : Env := ⟨assoc Tab, conG G, 16⟩
set_option maxRecDepth 100000
theorem run_eq (n : Nat) (ls : List L) : runF E live Tryz.f214 res n (initS pats ls) = F (RProof.dec ls) (RProof.dec (dropT 2 ls)) := by kernel_rfl
noncomputable def md (a0 : MProof) (a1 : MProof) : Bool := eqB a0 a1
def gd (a0 : MProof) (a1 : MProof) : Prop := True
def rf (a : MProof × MProof) : RProof × RProof := ((MProof.r a.1), (MProof.r a.2))
theorem rf_inj (a b : MProof × MProof) (h : rf a = rf b) : a = b := by
  exact (Prod.ext (MProof.r_inj (congrArg (fun x => x.1) h)) (MProof.r_inj (congrArg (fun x => x.2) h)))
noncomputable def R (x0 : RProof) (x1 : RProof) : Option (Bool) := ofM rf (fun a => gd a.1 a.2) (fun a => (md a.1 a.2)) (x0, x1)
theorem R_eq {a0 : MProof} {a1 : MProof} (h : gd a0 a1) : R (MProof.r a0) (MProof.r a1) = some (md a0 a1) := ofM_eq (r := rf) (a := (a0, a1)) rf_inj h
theorem okF (a0 : MProof) (a1 : MProof) (hg : gd a0 a1) : F (MProof.r a0) (MProof.r a1) = ret ((md a0 a1) : Bool) := by
  unfold md
  show (bif (a0.fAt != a1.fAt) then ret (false : Bool) else (call (laws_eqIntS.R (a0.fPath.map iRow) (a1.fPath.map iRow)) fun v1 => (bif (!v1) then ret (false : Bool) else ret (true : Bool)))) = _
  simp only [call_eq (laws_eqIntS.R_eq (a0 := a0.fPath) (a1 := a1.fPath) trivial), laws_eqIntS.md]
  try simp only [bne, int_beq, bool_beq, ba_beq]
  have e : eqB a0 a1 = (eqB a0.fAt a1.fAt && (eqB a0.fPath a1.fPath && true)) := by
    cases a0; cases a1
    rw [Bool.eq_iff_iff]
    simp only [eqB_iff, Bool.and_eq_true, MProof.mk.injEq, and_true]
  rw [e]
  refine and_step fun _ => ?_
  refine and_step fun _ => ?_
  rfl
noncomputable def sem (ls : List L) : Option (List L) := (R (RProof.dec ls) (RProof.dec (dropT 2 ls))).map RT.enc
theorem ok (ls q : List L) (hl : LOKs Ev.cells pats ls) (h : sem ls = some q) : ∃ n, runF E live Tryz.f214 res n (initS pats ls) = some q := by
  obtain ⟨v, hv, hq⟩ := map_some h
  obtain ⟨⟨a0, a1⟩, hg, e, hm⟩ := ofM_some hv
  simp only [rf, Prod.mk.injEq] at e
  obtain ⟨e0, e1⟩ := e
  have hn := okF a0 a1 hg
  refine ⟨0, (run_eq 0 ls).trans ?_⟩
  rw [← e0, ← e1]
  rw [hn, ← hq, hm]; rfl
noncomputable def con : Con := ⟨pats, res, sem⟩
theorem chk : fnB Tryz.f214 con 16 = true := by kernel_rfl
theorem valid_ : Valid Tryz.prog Ev 214 con := valid mix tab_ok (.cons laws_eqIntS.valid_ .nil) Tryz.func214 chk live ok
end laws_eqProof
/-! laws.eqGap -/
namespace laws_eqGap
noncomputable def F (x0 : RGap) (x1 : RGap) : Ans := (bif (x0.fAt != x1.fAt) then ret (false : Bool) else (call (laws_eqEntry.R x0.fBefore x1.fBefore) fun v1 => (bif (!v1) then ret (false : Bool) else (call (laws_eqEntry.R x0.fAfter x1.fAfter) fun v2 => (bif (!v2) then ret (false : Bool) else (call (laws_eqProof.R x0.fLeft x1.fLeft) fun v3 => (bif (!v3) then ret (false : Bool) else (call (laws_eqProof.R x0.fRight x1.fRight) fun v4 => (bif (!v4) then ret (false : Bool) else ret (true : Bool))))))))))
def live : Nat → Live := fun _ => []
def pats : List Pat := [.agg [.int .i64, .str, .int .i64, .int .i64, .sl 9, .str, .int .i64, .int .i64, .sl 9, .int .i64, .sl 3, .int .i64, .sl 3], .agg [.int .i64, .str, .int .i64, .int .i64, .sl 9, .str, .int .i64, .int .i64, .sl 9, .int .i64, .sl 3, .int .i64, .sl 3]]
def res : RP := .one (.rd (.bool))
noncomputable def G : List (Nat × Con) := [(118, laws_eqEntry.con), (214, laws_eqProof.con)]
noncomputable abbrev E : Env := ⟨assoc Tab, conG G, 34⟩
set_option maxRecDepth 100000
theorem run_eq (n : Nat) (ls : List L) : runF E live Tryz.f215 res n (initS pats ls) = F (RGap.dec ls) (RGap.dec (dropT 13 ls)) := by kernel_rfl
noncomputable def md (a0 : MGap) (a1 : MGap) : Bool := eqB a0 a1
def gd (a0 : MGap) (a1 : MGap) : Prop := True
def rf (a : MGap × MGap) : RGap × RGap := ((MGap.r a.1), (MGap.r a.2))
theorem rf_inj (a b : MGap × MGap) (h : rf a = rf b) : a = b := by
  exact (Prod.ext (MGap.r_inj (congrArg (fun x => x.1) h)) (MGap.r_inj (congrArg (fun x => x.2) h)))
noncomputable def R (x0 : RGap) (x1 : RGap) : Option (Bool) := ofM rf (fun a => gd a.1 a.2) (fun a => (md a.1 a.2)) (x0, x1)
theorem R_eq {a0 : MGap} {a1 : MGap} (h : gd a0 a1) : R (MGap.r a0) (MGap.r a1) = some (md a0 a1) := ofM_eq (r := rf) (a := (a0, a1)) rf_inj h
theorem okF (a0 : MGap) (a1 : MGap) (hg : gd a0 a1) : F (MGap.r a0) (MGap.r a1) = ret ((md a0 a1) : Bool) := by
  unfold md
  show (bif (a0.fAt != a1.fAt) then ret (false : Bool) else (call (laws_eqEntry.R (MEntry.r a0.fBefore) (MEntry.r a1.fBefore)) fun v1 => (bif (!v1) then ret (false : Bool) else (call (laws_eqEntry.R (MEntry.r a0.fAfter) (MEntry.r a1.fAfter)) fun v2 => (bif (!v2) then ret (false : Bool) else (call (laws_eqProof.R (MProof.r a0.fLeft) (MProof.r a1.fLeft)) fun v3 => (bif (!v3) then ret (false : Bool) else (call (laws_eqProof.R (MProof.r a0.fRight) (MProof.r a1.fRight)) fun v4 => (bif (!v4) then ret (false : Bool) else ret (true : Bool)))))))))) = _
  simp only [call_eq (laws_eqEntry.R_eq (a0 := a0.fBefore) (a1 := a1.fBefore) trivial), laws_eqEntry.md]
  simp only [call_eq (laws_eqEntry.R_eq (a0 := a0.fAfter) (a1 := a1.fAfter) trivial), laws_eqEntry.md]
  simp only [call_eq (laws_eqProof.R_eq (a0 := a0.fLeft) (a1 := a1.fLeft) trivial), laws_eqProof.md]
  simp only [call_eq (laws_eqProof.R_eq (a0 := a0.fRight) (a1 := a1.fRight) trivial), laws_eqProof.md]
  try simp only [bne, int_beq, bool_beq, ba_beq]
  have e : eqB a0 a1 = (eqB a0.fAt a1.fAt && (eqB a0.fBefore a1.fBefore && (eqB a0.fAfter a1.fAfter && (eqB a0.fLeft a1.fLeft && (eqB a0.fRight a1.fRight && true))))) := by
    cases a0; cases a1
    rw [Bool.eq_iff_iff]
    simp only [eqB_iff, Bool.and_eq_true, MGap.mk.injEq, and_true]
  rw [e]
  refine and_step fun _ => ?_
  refine and_step fun _ => ?_
  refine and_step fun _ => ?_
  refine and_step fun _ => ?_
  refine and_step fun _ => ?_
  rfl
noncomputable def sem (ls : List L) : Option (List L) := (R (RGap.dec ls) (RGap.dec (dropT 13 ls))).map RT.enc
theorem ok (ls q : List L) (hl : LOKs Ev.cells pats ls) (h : sem ls = some q) : ∃ n, runF E live Tryz.f215 res n (initS pats ls) = some q := by
  obtain ⟨v, hv, hq⟩ := map_some h
  obtain ⟨⟨a0, a1⟩, hg, e, hm⟩ := ofM_some hv
  simp only [rf, Prod.mk.injEq] at e
  obtain ⟨e0, e1⟩ := e
  have hn := okF a0 a1 hg
  refine ⟨0, (run_eq 0 ls).trans ?_⟩
  rw [← e0, ← e1]
  rw [hn, ← hq, hm]; rfl
noncomputable def con : Con := ⟨pats, res, sem⟩
theorem chk : fnB Tryz.f215 con 34 = true := by kernel_rfl
theorem valid_ : Valid Tryz.prog Ev 215 con := valid mix tab_ok (.cons laws_eqEntry.valid_ (.cons laws_eqProof.valid_ .nil)) Tryz.func215 chk live ok
end laws_eqGap
end Go.DM
