/- What the functions compute that the law reaches, and that the law returns true. Conditions: none. -/
import Derived.Test.YtnnmfhhlebbmiaaGreatTy
import Derived.Test.YtnnmfhhlebbmiaaGreatFnEqualWalksA
import Derived.Test.YtnnmfhhlebbmiaaGreatProg
import Derived.Lib.AppendZerosOnto
import Derived.Lib.Bytealg
import Derived.Laws.Externs
import Derived.Lib.Walk
import Derived.Lib.Hide
import Derived.Lib.Strings
set_option linter.all false
namespace Go.DM
open Go.Proofs
/-! spec.EqualTraces -/
namespace spec_EqualTraces
noncomputable def F (x0 : RTrace) (x1 : RTrace) : Ans := (call (spec_EqualKnown.R x0.fKnown x1.fKnown) fun v1 => (bif v1 then (bif (x0.fCode == x1.fCode) then (call (spec_EqualEntries.R x0.fEntry x1.fEntry) fun v2 => (bif v2 then (call (spec_EqualInts.R x0.fZones x1.fZones) fun v3 => (bif v3 then ret ((x0.fMoves == x1.fMoves) : Bool) else ret (false : Bool))) else ret (false : Bool))) else ret (false : Bool)) else ret (false : Bool)))
def live : Nat → Live := fun _ => []
def pats : List Pat := [.agg [.sl 38, .sl 95, .int .i64, .str, .int .i64, .int .i64, .sl 9, .sl 3, .int .i64], .agg [.sl 38, .sl 95, .int .i64, .str, .int .i64, .int .i64, .sl 9, .sl 3, .int .i64]]
def res : RP := .one (.rd (.bool))
noncomputable def G : List (Nat × Con) := [(106, spec_EqualKnown.con), (107, spec_EqualEntries.con), (108, spec_EqualInts.con)]
noncomputable abbrev E : Env := ⟨assoc Tab, conG G, 38⟩
set_option maxRecDepth 100000
theorem run_eq (n : Nat) (ls : List L) : runF E live Tryz.f59 res n (initS pats ls) = F (RTrace.dec ls) (RTrace.dec (dropT 9 ls)) := by kernel_rfl
noncomputable def md (a0 : MTrace) (a1 : MTrace) : Bool := (bif (spec_EqualKnown.md a0.fKnown a1.fKnown) then (bif (a0.fCode == a1.fCode) then (bif (spec_EqualEntries.md a0.fEntry a1.fEntry) then (bif (spec_EqualInts.md a0.fZones a1.fZones) then ((a0.fMoves == a1.fMoves) : Bool) else (false : Bool)) else (false : Bool)) else (false : Bool)) else (false : Bool))
def gd (a0 : MTrace) (a1 : MTrace) : Prop := (MTrace.Sm (2 ^ 21) a0) ∧ (MTrace.Sm (2 ^ 21) a1)
def rf (a : MTrace × MTrace) : RTrace × RTrace := ((MTrace.r a.1), (MTrace.r a.2))
theorem rf_inj (a b : MTrace × MTrace) (h : rf a = rf b) : a = b := by
  exact (Prod.ext (MTrace.r_inj (congrArg (fun x => x.1) h)) (MTrace.r_inj (congrArg (fun x => x.2) h)))
noncomputable def R (x0 : RTrace) (x1 : RTrace) : Option (Bool) := ofM rf (fun a => gd a.1 a.2) (fun a => (md a.1 a.2)) (x0, x1)
theorem R_eq {a0 : MTrace} {a1 : MTrace} (h : gd a0 a1) : R (MTrace.r a0) (MTrace.r a1) = some (md a0 a1) := ofM_eq (r := rf) (a := (a0, a1)) rf_inj h
theorem okF (a0 : MTrace) (a1 : MTrace) (hg : gd a0 a1) : F (MTrace.r a0) (MTrace.r a1) = ret ((md a0 a1) : Bool) := by
  unfold gd at hg
  obtain ⟨H0, H1⟩ := hg
  unfold F md
  try simp only [bytesL_map, List.length_map, toNat_nat, iAt_getD, bAt_getD, sAt_getD, lAt_getD, MTrace.r_fKnown, MTrace.r_fCode, MTrace.r_fEntry, MTrace.r_fZones, MTrace.r_fMoves]
  refine call_to (spec_EqualKnown.md a0.fKnown a1.fKnown) ?_ ?_
  · have R_ := spec_EqualKnown.R_eq (a0 := a0.fKnown) (a1 := a1.fKnown) ⟨H0.1, H1.1⟩
    first | exact R_ | (simp only [List.map_append, List.map_cons, List.map_nil, List.cons_append, List.nil_append, iRow, sRow, bRow, lRow, List.map_set, bytesL_map, List.length_map, toNat_nat, iAt_getD, bAt_getD, sAt_getD, lAt_getD, MTrace.r_fKnown, MTrace.r_fCode, MTrace.r_fEntry, MTrace.r_fZones, MTrace.r_fMoves] at R_ ⊢; first | exact R_ | (rw [← R_]; rfl))
  try simp only [bytesL_map, List.length_map, toNat_nat, iAt_getD, bAt_getD, sAt_getD, lAt_getD, MTrace.r_fKnown, MTrace.r_fCode, MTrace.r_fEntry, MTrace.r_fZones, MTrace.r_fMoves]
  refine bif_out (fun b : Bool => ret (b : Bool)) (fun c1 => ?_) (fun c1 => ?_)
  · refine bif_out (fun b : Bool => ret (b : Bool)) (fun c2 => ?_) (fun c2 => ?_)
    · have dc2 := c2
      try simp only [bne_eq_false_iff_eq, bne_iff_ne, beq_iff_eq, beq_eq_false_iff_ne, ne_eq, Bool.not_eq_true', Bool.not_eq_false'] at dc2
      refine call_to (spec_EqualEntries.md a0.fEntry a1.fEntry) ?_ ?_
      · have R_ := spec_EqualEntries.R_eq (a0 := a0.fEntry) (a1 := a1.fEntry) ⟨H0.2.1, H1.2.1⟩
        first | exact R_ | (simp only [List.map_append, List.map_cons, List.map_nil, List.cons_append, List.nil_append, iRow, sRow, bRow, lRow, List.map_set, bytesL_map, List.length_map, toNat_nat, iAt_getD, bAt_getD, sAt_getD, lAt_getD, MTrace.r_fKnown, MTrace.r_fCode, MTrace.r_fEntry, MTrace.r_fZones, MTrace.r_fMoves] at R_ ⊢; first | exact R_ | (rw [← R_]; rfl))
      try simp only [bytesL_map, List.length_map, toNat_nat, iAt_getD, bAt_getD, sAt_getD, lAt_getD, MTrace.r_fKnown, MTrace.r_fCode, MTrace.r_fEntry, MTrace.r_fZones, MTrace.r_fMoves]
      refine bif_out (fun b : Bool => ret (b : Bool)) (fun c3 => ?_) (fun c3 => ?_)
      · refine call_to (spec_EqualInts.md a0.fZones a1.fZones) ?_ ?_
        · have R_ := spec_EqualInts.R_eq (a0 := a0.fZones) (a1 := a1.fZones) ⟨(H0.2.2.mono (by decide) (fun x hx => trivial)), (H1.2.2.mono (by decide) (fun x hx => trivial))⟩
          first | exact R_ | (simp only [List.map_append, List.map_cons, List.map_nil, List.cons_append, List.nil_append, iRow, sRow, bRow, lRow, List.map_set, bytesL_map, List.length_map, toNat_nat, iAt_getD, bAt_getD, sAt_getD, lAt_getD, MTrace.r_fKnown, MTrace.r_fCode, MTrace.r_fEntry, MTrace.r_fZones, MTrace.r_fMoves] at R_ ⊢; first | exact R_ | (rw [← R_]; rfl))
        try simp only [bytesL_map, List.length_map, toNat_nat, iAt_getD, bAt_getD, sAt_getD, lAt_getD, MTrace.r_fKnown, MTrace.r_fCode, MTrace.r_fEntry, MTrace.r_fZones, MTrace.r_fMoves]
        refine bif_out (fun b : Bool => ret (b : Bool)) (fun c4 => ?_) (fun c4 => ?_)
        · all_goals first | rfl | (simp only [bytesL_map, List.length_map, toNat_nat, iAt_getD, bAt_getD, sAt_getD, lAt_getD, MTrace.r_fKnown, MTrace.r_fCode, MTrace.r_fEntry, MTrace.r_fZones, MTrace.r_fMoves]; done) | (simp only [List.map_append, List.map_cons, List.map_nil, List.cons_append, List.nil_append, iRow, sRow, bRow, lRow, List.map_set]; rfl) | (simp only [bytesL_map, List.length_map, toNat_nat, iAt_getD, bAt_getD, sAt_getD, lAt_getD, MTrace.r_fKnown, MTrace.r_fCode, MTrace.r_fEntry, MTrace.r_fZones, MTrace.r_fMoves, List.map_append, List.map_cons, List.map_nil, List.cons_append, List.nil_append, iRow, sRow, bRow, lRow, List.map_set]; first | done | rfl)
        · all_goals first | rfl | (simp only [bytesL_map, List.length_map, toNat_nat, iAt_getD, bAt_getD, sAt_getD, lAt_getD, MTrace.r_fKnown, MTrace.r_fCode, MTrace.r_fEntry, MTrace.r_fZones, MTrace.r_fMoves]; done) | (simp only [List.map_append, List.map_cons, List.map_nil, List.cons_append, List.nil_append, iRow, sRow, bRow, lRow, List.map_set]; rfl) | (simp only [bytesL_map, List.length_map, toNat_nat, iAt_getD, bAt_getD, sAt_getD, lAt_getD, MTrace.r_fKnown, MTrace.r_fCode, MTrace.r_fEntry, MTrace.r_fZones, MTrace.r_fMoves, List.map_append, List.map_cons, List.map_nil, List.cons_append, List.nil_append, iRow, sRow, bRow, lRow, List.map_set]; first | done | rfl)
      · all_goals first | rfl | (simp only [bytesL_map, List.length_map, toNat_nat, iAt_getD, bAt_getD, sAt_getD, lAt_getD, MTrace.r_fKnown, MTrace.r_fCode, MTrace.r_fEntry, MTrace.r_fZones, MTrace.r_fMoves]; done) | (simp only [List.map_append, List.map_cons, List.map_nil, List.cons_append, List.nil_append, iRow, sRow, bRow, lRow, List.map_set]; rfl) | (simp only [bytesL_map, List.length_map, toNat_nat, iAt_getD, bAt_getD, sAt_getD, lAt_getD, MTrace.r_fKnown, MTrace.r_fCode, MTrace.r_fEntry, MTrace.r_fZones, MTrace.r_fMoves, List.map_append, List.map_cons, List.map_nil, List.cons_append, List.nil_append, iRow, sRow, bRow, lRow, List.map_set]; first | done | rfl)
    · have dc2 := c2
      try simp only [bne_eq_false_iff_eq, bne_iff_ne, beq_iff_eq, beq_eq_false_iff_ne, ne_eq, Bool.not_eq_true', Bool.not_eq_false'] at dc2
      all_goals first | rfl | (simp only [bytesL_map, List.length_map, toNat_nat, iAt_getD, bAt_getD, sAt_getD, lAt_getD, MTrace.r_fKnown, MTrace.r_fCode, MTrace.r_fEntry, MTrace.r_fZones, MTrace.r_fMoves]; done) | (simp only [List.map_append, List.map_cons, List.map_nil, List.cons_append, List.nil_append, iRow, sRow, bRow, lRow, List.map_set]; rfl) | (simp only [bytesL_map, List.length_map, toNat_nat, iAt_getD, bAt_getD, sAt_getD, lAt_getD, MTrace.r_fKnown, MTrace.r_fCode, MTrace.r_fEntry, MTrace.r_fZones, MTrace.r_fMoves, List.map_append, List.map_cons, List.map_nil, List.cons_append, List.nil_append, iRow, sRow, bRow, lRow, List.map_set]; first | done | rfl)
  · all_goals first | rfl | (simp only [bytesL_map, List.length_map, toNat_nat, iAt_getD, bAt_getD, sAt_getD, lAt_getD, MTrace.r_fKnown, MTrace.r_fCode, MTrace.r_fEntry, MTrace.r_fZones, MTrace.r_fMoves]; done) | (simp only [List.map_append, List.map_cons, List.map_nil, List.cons_append, List.nil_append, iRow, sRow, bRow, lRow, List.map_set]; rfl) | (simp only [bytesL_map, List.length_map, toNat_nat, iAt_getD, bAt_getD, sAt_getD, lAt_getD, MTrace.r_fKnown, MTrace.r_fCode, MTrace.r_fEntry, MTrace.r_fZones, MTrace.r_fMoves, List.map_append, List.map_cons, List.map_nil, List.cons_append, List.nil_append, iRow, sRow, bRow, lRow, List.map_set]; first | done | rfl)
noncomputable def sem (ls : List L) : Option (List L) := (R (RTrace.dec ls) (RTrace.dec (dropT 9 ls))).map RT.enc
theorem ok (ls q : List L) (hl : LOKs Ev.cells pats ls) (h : sem ls = some q) : ∃ n, runF E live Tryz.f59 res n (initS pats ls) = some q := by
  obtain ⟨v, hv, hq⟩ := map_some h
  obtain ⟨⟨a0, a1⟩, hg, e, hm⟩ := ofM_some hv
  simp only [rf, Prod.mk.injEq] at e
  obtain ⟨e0, e1⟩ := e
  have hn := okF a0 a1 hg
  refine ⟨0, (run_eq 0 ls).trans ?_⟩
  rw [← e0, ← e1]
  rw [hn, ← hq, hm]; rfl
noncomputable def con : Con := ⟨pats, res, sem⟩
theorem chk : fnB Tryz.f59 con 38 = true := by kernel_rfl
theorem valid_ : Valid Tryz.prog Ev 59 con := valid mix tab_ok (.cons spec_EqualKnown.valid_ (.cons spec_EqualEntries.valid_ (.cons spec_EqualInts.valid_ .nil))) Tryz.func59 chk live ok
theorem md_eq (a0 : MTrace) (a1 : MTrace) : md a0 a1 = eqB a0 a1 := by
  unfold md
  cases a0; cases a1
  rw [Bool.eq_iff_iff]
  simp [eqB_iff, ba_beq, MTrace.mk.injEq, spec_EqualKnown.md_eq, spec_EqualEntries.md_eq, spec_EqualInts.md_eq]
  try (constructor <;> (intro h; simp_all))
end spec_EqualTraces
/-! spec.EqualProofs -/
namespace spec_EqualProofs
noncomputable def F (x0 : RProof) (x1 : RProof) : Ans := (bif (x0.fAt == x1.fAt) then (call (spec_EqualInts.R x0.fPath x1.fPath) fun v1 => ret (v1 : Bool)) else ret (false : Bool))
def live : Nat → Live := fun _ => []
def pats : List Pat := [.agg [.int .i64, .sl 3], .agg [.int .i64, .sl 3]]
def res : RP := .one (.rd (.bool))
noncomputable def G : List (Nat × Con) := [(108, spec_EqualInts.con)]
noncomputable abbrev E : Env := ⟨assoc Tab, conG G, 17⟩
set_option maxRecDepth 100000
theorem run_eq (n : Nat) (ls : List L) : runF E live Tryz.f154 res n (initS pats ls) = F (RProof.dec ls) (RProof.dec (dropT 2 ls)) := by kernel_rfl
noncomputable def md (a0 : MProof) (a1 : MProof) : Bool := (bif (a0.fAt == a1.fAt) then ((spec_EqualInts.md a0.fPath a1.fPath) : Bool) else (false : Bool))
def gd (a0 : MProof) (a1 : MProof) : Prop := (MProof.Sm (2 ^ 21) a0) ∧ (MProof.Sm (2 ^ 21) a1)
def rf (a : MProof × MProof) : RProof × RProof := ((MProof.r a.1), (MProof.r a.2))
theorem rf_inj (a b : MProof × MProof) (h : rf a = rf b) : a = b := by
  exact (Prod.ext (MProof.r_inj (congrArg (fun x => x.1) h)) (MProof.r_inj (congrArg (fun x => x.2) h)))
noncomputable def R (x0 : RProof) (x1 : RProof) : Option (Bool) := ofM rf (fun a => gd a.1 a.2) (fun a => (md a.1 a.2)) (x0, x1)
theorem R_eq {a0 : MProof} {a1 : MProof} (h : gd a0 a1) : R (MProof.r a0) (MProof.r a1) = some (md a0 a1) := ofM_eq (r := rf) (a := (a0, a1)) rf_inj h
theorem okF (a0 : MProof) (a1 : MProof) (hg : gd a0 a1) : F (MProof.r a0) (MProof.r a1) = ret ((md a0 a1) : Bool) := by
  unfold gd at hg
  obtain ⟨H0, H1⟩ := hg
  unfold F md
  try simp only [bytesL_map, List.length_map, toNat_nat, iAt_getD, bAt_getD, sAt_getD, lAt_getD, MProof.r_fAt, MProof.r_fPath]
  refine bif_out (fun b : Bool => ret (b : Bool)) (fun c1 => ?_) (fun c1 => ?_)
  · have dc1 := c1
    try simp only [bne_eq_false_iff_eq, bne_iff_ne, beq_iff_eq, beq_eq_false_iff_ne, ne_eq, Bool.not_eq_true', Bool.not_eq_false'] at dc1
    refine call_to (spec_EqualInts.md a0.fPath a1.fPath) ?_ ?_
    · have R_ := spec_EqualInts.R_eq (a0 := a0.fPath) (a1 := a1.fPath) ⟨(H0.mono (by decide) (fun x hx => trivial)), (H1.mono (by decide) (fun x hx => trivial))⟩
      first | exact R_ | (simp only [List.map_append, List.map_cons, List.map_nil, List.cons_append, List.nil_append, iRow, sRow, bRow, lRow, List.map_set, bytesL_map, List.length_map, toNat_nat, iAt_getD, bAt_getD, sAt_getD, lAt_getD, MProof.r_fAt, MProof.r_fPath] at R_ ⊢; first | exact R_ | (rw [← R_]; rfl))
    try simp only [bytesL_map, List.length_map, toNat_nat, iAt_getD, bAt_getD, sAt_getD, lAt_getD, MProof.r_fAt, MProof.r_fPath]
    all_goals first | rfl | (simp only [bytesL_map, List.length_map, toNat_nat, iAt_getD, bAt_getD, sAt_getD, lAt_getD, MProof.r_fAt, MProof.r_fPath]; done) | (simp only [List.map_append, List.map_cons, List.map_nil, List.cons_append, List.nil_append, iRow, sRow, bRow, lRow, List.map_set]; rfl) | (simp only [bytesL_map, List.length_map, toNat_nat, iAt_getD, bAt_getD, sAt_getD, lAt_getD, MProof.r_fAt, MProof.r_fPath, List.map_append, List.map_cons, List.map_nil, List.cons_append, List.nil_append, iRow, sRow, bRow, lRow, List.map_set]; first | done | rfl)
  · have dc1 := c1
    try simp only [bne_eq_false_iff_eq, bne_iff_ne, beq_iff_eq, beq_eq_false_iff_ne, ne_eq, Bool.not_eq_true', Bool.not_eq_false'] at dc1
    all_goals first | rfl | (simp only [bytesL_map, List.length_map, toNat_nat, iAt_getD, bAt_getD, sAt_getD, lAt_getD, MProof.r_fAt, MProof.r_fPath]; done) | (simp only [List.map_append, List.map_cons, List.map_nil, List.cons_append, List.nil_append, iRow, sRow, bRow, lRow, List.map_set]; rfl) | (simp only [bytesL_map, List.length_map, toNat_nat, iAt_getD, bAt_getD, sAt_getD, lAt_getD, MProof.r_fAt, MProof.r_fPath, List.map_append, List.map_cons, List.map_nil, List.cons_append, List.nil_append, iRow, sRow, bRow, lRow, List.map_set]; first | done | rfl)
noncomputable def sem (ls : List L) : Option (List L) := (R (RProof.dec ls) (RProof.dec (dropT 2 ls))).map RT.enc
theorem ok (ls q : List L) (hl : LOKs Ev.cells pats ls) (h : sem ls = some q) : ∃ n, runF E live Tryz.f154 res n (initS pats ls) = some q := by
  obtain ⟨v, hv, hq⟩ := map_some h
  obtain ⟨⟨a0, a1⟩, hg, e, hm⟩ := ofM_some hv
  simp only [rf, Prod.mk.injEq] at e
  obtain ⟨e0, e1⟩ := e
  have hn := okF a0 a1 hg
  refine ⟨0, (run_eq 0 ls).trans ?_⟩
  rw [← e0, ← e1]
  rw [hn, ← hq, hm]; rfl
noncomputable def con : Con := ⟨pats, res, sem⟩
theorem chk : fnB Tryz.f154 con 17 = true := by kernel_rfl
theorem valid_ : Valid Tryz.prog Ev 154 con := valid mix tab_ok (.cons spec_EqualInts.valid_ .nil) Tryz.func154 chk live ok
theorem md_eq (a0 : MProof) (a1 : MProof) : md a0 a1 = eqB a0 a1 := by
  unfold md
  cases a0; cases a1
  rw [Bool.eq_iff_iff]
  simp [eqB_iff, ba_beq, MProof.mk.injEq, spec_EqualInts.md_eq]
  try (constructor <;> (intro h; simp_all))
end spec_EqualProofs
/-! spec.EqualGaps -/
namespace spec_EqualGaps
noncomputable def F (x0 : RGap) (x1 : RGap) : Ans := (bif (x0.fAt == x1.fAt) then (call (spec_EqualEntries.R x0.fBefore x1.fBefore) fun v1 => (bif v1 then (call (spec_EqualEntries.R x0.fAfter x1.fAfter) fun v2 => (bif v2 then (call (spec_EqualProofs.R x0.fLeft x1.fLeft) fun v3 => (bif v3 then (call (spec_EqualProofs.R x0.fRight x1.fRight) fun v4 => ret (v4 : Bool)) else ret (false : Bool))) else ret (false : Bool))) else ret (false : Bool))) else ret (false : Bool))
def live : Nat → Live := fun _ => []
def pats : List Pat := [.agg [.int .i64, .str, .int .i64, .int .i64, .sl 9, .str, .int .i64, .int .i64, .sl 9, .int .i64, .sl 3, .int .i64, .sl 3], .agg [.int .i64, .str, .int .i64, .int .i64, .sl 9, .str, .int .i64, .int .i64, .sl 9, .int .i64, .sl 3, .int .i64, .sl 3]]
def res : RP := .one (.rd (.bool))
noncomputable def G : List (Nat × Con) := [(107, spec_EqualEntries.con), (154, spec_EqualProofs.con)]
noncomputable abbrev E : Env := ⟨assoc Tab, conG G, 38⟩
set_option maxRecDepth 100000
theorem run_eq (n : Nat) (ls : List L) : runF E live Tryz.f155 res n (initS pats ls) = F (RGap.dec ls) (RGap.dec (dropT 13 ls)) := by kernel_rfl
noncomputable def md (a0 : MGap) (a1 : MGap) : Bool := (bif (a0.fAt == a1.fAt) then (bif (spec_EqualEntries.md a0.fBefore a1.fBefore) then (bif (spec_EqualEntries.md a0.fAfter a1.fAfter) then (bif (spec_EqualProofs.md a0.fLeft a1.fLeft) then ((spec_EqualProofs.md a0.fRight a1.fRight) : Bool) else (false : Bool)) else (false : Bool)) else (false : Bool)) else (false : Bool))
def gd (a0 : MGap) (a1 : MGap) : Prop := (MGap.Sm (2 ^ 21) a0) ∧ (MGap.Sm (2 ^ 21) a1)
def rf (a : MGap × MGap) : RGap × RGap := ((MGap.r a.1), (MGap.r a.2))
theorem rf_inj (a b : MGap × MGap) (h : rf a = rf b) : a = b := by
  exact (Prod.ext (MGap.r_inj (congrArg (fun x => x.1) h)) (MGap.r_inj (congrArg (fun x => x.2) h)))
noncomputable def R (x0 : RGap) (x1 : RGap) : Option (Bool) := ofM rf (fun a => gd a.1 a.2) (fun a => (md a.1 a.2)) (x0, x1)
theorem R_eq {a0 : MGap} {a1 : MGap} (h : gd a0 a1) : R (MGap.r a0) (MGap.r a1) = some (md a0 a1) := ofM_eq (r := rf) (a := (a0, a1)) rf_inj h
theorem okF (a0 : MGap) (a1 : MGap) (hg : gd a0 a1) : F (MGap.r a0) (MGap.r a1) = ret ((md a0 a1) : Bool) := by
  unfold gd at hg
  obtain ⟨H0, H1⟩ := hg
  unfold F md
  try simp only [bytesL_map, List.length_map, toNat_nat, iAt_getD, bAt_getD, sAt_getD, lAt_getD, MProof.r_fAt, MGap.r_fAt, MGap.r_fBefore, MGap.r_fAfter, MGap.r_fLeft, MGap.r_fRight]
  refine bif_out (fun b : Bool => ret (b : Bool)) (fun c1 => ?_) (fun c1 => ?_)
  · have dc1 := c1
    try simp only [bne_eq_false_iff_eq, bne_iff_ne, beq_iff_eq, beq_eq_false_iff_ne, ne_eq, Bool.not_eq_true', Bool.not_eq_false'] at dc1
    refine call_to (spec_EqualEntries.md a0.fBefore a1.fBefore) ?_ ?_
    · have R_ := spec_EqualEntries.R_eq (a0 := a0.fBefore) (a1 := a1.fBefore) ⟨H0.1, H1.1⟩
      first | exact R_ | (simp only [List.map_append, List.map_cons, List.map_nil, List.cons_append, List.nil_append, iRow, sRow, bRow, lRow, List.map_set, bytesL_map, List.length_map, toNat_nat, iAt_getD, bAt_getD, sAt_getD, lAt_getD, MProof.r_fAt, MGap.r_fAt, MGap.r_fBefore, MGap.r_fAfter, MGap.r_fLeft, MGap.r_fRight] at R_ ⊢; first | exact R_ | (rw [← R_]; rfl))
    try simp only [bytesL_map, List.length_map, toNat_nat, iAt_getD, bAt_getD, sAt_getD, lAt_getD, MProof.r_fAt, MGap.r_fAt, MGap.r_fBefore, MGap.r_fAfter, MGap.r_fLeft, MGap.r_fRight]
    refine bif_out (fun b : Bool => ret (b : Bool)) (fun c2 => ?_) (fun c2 => ?_)
    · refine call_to (spec_EqualEntries.md a0.fAfter a1.fAfter) ?_ ?_
      · have R_ := spec_EqualEntries.R_eq (a0 := a0.fAfter) (a1 := a1.fAfter) ⟨H0.2.1, H1.2.1⟩
        first | exact R_ | (simp only [List.map_append, List.map_cons, List.map_nil, List.cons_append, List.nil_append, iRow, sRow, bRow, lRow, List.map_set, bytesL_map, List.length_map, toNat_nat, iAt_getD, bAt_getD, sAt_getD, lAt_getD, MProof.r_fAt, MGap.r_fAt, MGap.r_fBefore, MGap.r_fAfter, MGap.r_fLeft, MGap.r_fRight] at R_ ⊢; first | exact R_ | (rw [← R_]; rfl))
      try simp only [bytesL_map, List.length_map, toNat_nat, iAt_getD, bAt_getD, sAt_getD, lAt_getD, MProof.r_fAt, MGap.r_fAt, MGap.r_fBefore, MGap.r_fAfter, MGap.r_fLeft, MGap.r_fRight]
      refine bif_out (fun b : Bool => ret (b : Bool)) (fun c3 => ?_) (fun c3 => ?_)
      · refine call_to (spec_EqualProofs.md a0.fLeft a1.fLeft) ?_ ?_
        · have R_ := spec_EqualProofs.R_eq (a0 := a0.fLeft) (a1 := a1.fLeft) ⟨H0.2.2.1, H1.2.2.1⟩
          first | exact R_ | (simp only [List.map_append, List.map_cons, List.map_nil, List.cons_append, List.nil_append, iRow, sRow, bRow, lRow, List.map_set, bytesL_map, List.length_map, toNat_nat, iAt_getD, bAt_getD, sAt_getD, lAt_getD, MProof.r_fAt, MGap.r_fAt, MGap.r_fBefore, MGap.r_fAfter, MGap.r_fLeft, MGap.r_fRight] at R_ ⊢; first | exact R_ | (rw [← R_]; rfl))
        try simp only [bytesL_map, List.length_map, toNat_nat, iAt_getD, bAt_getD, sAt_getD, lAt_getD, MProof.r_fAt, MGap.r_fAt, MGap.r_fBefore, MGap.r_fAfter, MGap.r_fLeft, MGap.r_fRight]
        refine bif_out (fun b : Bool => ret (b : Bool)) (fun c4 => ?_) (fun c4 => ?_)
        · refine call_to (spec_EqualProofs.md a0.fRight a1.fRight) ?_ ?_
          · have R_ := spec_EqualProofs.R_eq (a0 := a0.fRight) (a1 := a1.fRight) ⟨H0.2.2.2, H1.2.2.2⟩
            first | exact R_ | (simp only [List.map_append, List.map_cons, List.map_nil, List.cons_append, List.nil_append, iRow, sRow, bRow, lRow, List.map_set, bytesL_map, List.length_map, toNat_nat, iAt_getD, bAt_getD, sAt_getD, lAt_getD, MProof.r_fAt, MGap.r_fAt, MGap.r_fBefore, MGap.r_fAfter, MGap.r_fLeft, MGap.r_fRight] at R_ ⊢; first | exact R_ | (rw [← R_]; rfl))
          try simp only [bytesL_map, List.length_map, toNat_nat, iAt_getD, bAt_getD, sAt_getD, lAt_getD, MProof.r_fAt, MGap.r_fAt, MGap.r_fBefore, MGap.r_fAfter, MGap.r_fLeft, MGap.r_fRight]
          all_goals first | rfl | (simp only [bytesL_map, List.length_map, toNat_nat, iAt_getD, bAt_getD, sAt_getD, lAt_getD, MProof.r_fAt, MGap.r_fAt, MGap.r_fBefore, MGap.r_fAfter, MGap.r_fLeft, MGap.r_fRight]; done) | (simp only [List.map_append, List.map_cons, List.map_nil, List.cons_append, List.nil_append, iRow, sRow, bRow, lRow, List.map_set]; rfl) | (simp only [bytesL_map, List.length_map, toNat_nat, iAt_getD, bAt_getD, sAt_getD, lAt_getD, MProof.r_fAt, MGap.r_fAt, MGap.r_fBefore, MGap.r_fAfter, MGap.r_fLeft, MGap.r_fRight, List.map_append, List.map_cons, List.map_nil, List.cons_append, List.nil_append, iRow, sRow, bRow, lRow, List.map_set]; first | done | rfl)
        · all_goals first | rfl | (simp only [bytesL_map, List.length_map, toNat_nat, iAt_getD, bAt_getD, sAt_getD, lAt_getD, MProof.r_fAt, MGap.r_fAt, MGap.r_fBefore, MGap.r_fAfter, MGap.r_fLeft, MGap.r_fRight]; done) | (simp only [List.map_append, List.map_cons, List.map_nil, List.cons_append, List.nil_append, iRow, sRow, bRow, lRow, List.map_set]; rfl) | (simp only [bytesL_map, List.length_map, toNat_nat, iAt_getD, bAt_getD, sAt_getD, lAt_getD, MProof.r_fAt, MGap.r_fAt, MGap.r_fBefore, MGap.r_fAfter, MGap.r_fLeft, MGap.r_fRight, List.map_append, List.map_cons, List.map_nil, List.cons_append, List.nil_append, iRow, sRow, bRow, lRow, List.map_set]; first | done | rfl)
      · all_goals first | rfl | (simp only [bytesL_map, List.length_map, toNat_nat, iAt_getD, bAt_getD, sAt_getD, lAt_getD, MProof.r_fAt, MGap.r_fAt, MGap.r_fBefore, MGap.r_fAfter, MGap.r_fLeft, MGap.r_fRight]; done) | (simp only [List.map_append, List.map_cons, List.map_nil, List.cons_append, List.nil_append, iRow, sRow, bRow, lRow, List.map_set]; rfl) | (simp only [bytesL_map, List.length_map, toNat_nat, iAt_getD, bAt_getD, sAt_getD, lAt_getD, MProof.r_fAt, MGap.r_fAt, MGap.r_fBefore, MGap.r_fAfter, MGap.r_fLeft, MGap.r_fRight, List.map_append, List.map_cons, List.map_nil, List.cons_append, List.nil_append, iRow, sRow, bRow, lRow, List.map_set]; first | done | rfl)
    · all_goals first | rfl | (simp only [bytesL_map, List.length_map, toNat_nat, iAt_getD, bAt_getD, sAt_getD, lAt_getD, MProof.r_fAt, MGap.r_fAt, MGap.r_fBefore, MGap.r_fAfter, MGap.r_fLeft, MGap.r_fRight]; done) | (simp only [List.map_append, List.map_cons, List.map_nil, List.cons_append, List.nil_append, iRow, sRow, bRow, lRow, List.map_set]; rfl) | (simp only [bytesL_map, List.length_map, toNat_nat, iAt_getD, bAt_getD, sAt_getD, lAt_getD, MProof.r_fAt, MGap.r_fAt, MGap.r_fBefore, MGap.r_fAfter, MGap.r_fLeft, MGap.r_fRight, List.map_append, List.map_cons, List.map_nil, List.cons_append, List.nil_append, iRow, sRow, bRow, lRow, List.map_set]; first | done | rfl)
  · have dc1 := c1
    try simp only [bne_eq_false_iff_eq, bne_iff_ne, beq_iff_eq, beq_eq_false_iff_ne, ne_eq, Bool.not_eq_true', Bool.not_eq_false'] at dc1
    all_goals first | rfl | (simp only [bytesL_map, List.length_map, toNat_nat, iAt_getD, bAt_getD, sAt_getD, lAt_getD, MProof.r_fAt, MGap.r_fAt, MGap.r_fBefore, MGap.r_fAfter, MGap.r_fLeft, MGap.r_fRight]; done) | (simp only [List.map_append, List.map_cons, List.map_nil, List.cons_append, List.nil_append, iRow, sRow, bRow, lRow, List.map_set]; rfl) | (simp only [bytesL_map, List.length_map, toNat_nat, iAt_getD, bAt_getD, sAt_getD, lAt_getD, MProof.r_fAt, MGap.r_fAt, MGap.r_fBefore, MGap.r_fAfter, MGap.r_fLeft, MGap.r_fRight, List.map_append, List.map_cons, List.map_nil, List.cons_append, List.nil_append, iRow, sRow, bRow, lRow, List.map_set]; first | done | rfl)
noncomputable def sem (ls : List L) : Option (List L) := (R (RGap.dec ls) (RGap.dec (dropT 13 ls))).map RT.enc
theorem ok (ls q : List L) (hl : LOKs Ev.cells pats ls) (h : sem ls = some q) : ∃ n, runF E live Tryz.f155 res n (initS pats ls) = some q := by
  obtain ⟨v, hv, hq⟩ := map_some h
  obtain ⟨⟨a0, a1⟩, hg, e, hm⟩ := ofM_some hv
  simp only [rf, Prod.mk.injEq] at e
  obtain ⟨e0, e1⟩ := e
  have hn := okF a0 a1 hg
  refine ⟨0, (run_eq 0 ls).trans ?_⟩
  rw [← e0, ← e1]
  rw [hn, ← hq, hm]; rfl
noncomputable def con : Con := ⟨pats, res, sem⟩
theorem chk : fnB Tryz.f155 con 38 = true := by kernel_rfl
theorem valid_ : Valid Tryz.prog Ev 155 con := valid mix tab_ok (.cons spec_EqualEntries.valid_ (.cons spec_EqualProofs.valid_ .nil)) Tryz.func155 chk live ok
theorem md_eq (a0 : MGap) (a1 : MGap) : md a0 a1 = eqB a0 a1 := by
  unfold md
  cases a0; cases a1
  rw [Bool.eq_iff_iff]
  simp [eqB_iff, ba_beq, MGap.mk.injEq, spec_EqualEntries.md_eq, spec_EqualProofs.md_eq]
  try (constructor <;> (intro h; simp_all))
end spec_EqualGaps
/-! spec.EqualAnswers -/
namespace spec_EqualAnswers
noncomputable def F (x0 : RAnswer) (x1 : RAnswer) : Ans := (call (spec_EqualZones.R (⟨x0.fChain, []⟩ : RZone) (⟨x1.fChain, []⟩ : RZone)) fun v1 => (bif v1 then (bif (x0.fFound == x1.fFound) then (call (spec_EqualEntries.R x0.fEntry x1.fEntry) fun v2 => (bif v2 then (call (spec_EqualProofs.R x0.fProof x1.fProof) fun v3 => (bif v3 then (call (spec_EqualGaps.R x0.fGap x1.fGap) fun v4 => ret (v4 : Bool)) else ret (false : Bool))) else ret (false : Bool))) else ret (false : Bool)) else ret (false : Bool)))
def live : Nat → Live := fun _ => []
def pats : List Pat := [.agg [.sl 92, .bool, .str, .int .i64, .int .i64, .sl 9, .int .i64, .sl 3, .int .i64, .str, .int .i64, .int .i64, .sl 9, .str, .int .i64, .int .i64, .sl 9, .int .i64, .sl 3, .int .i64, .sl 3], .agg [.sl 92, .bool, .str, .int .i64, .int .i64, .sl 9, .int .i64, .sl 3, .int .i64, .str, .int .i64, .int .i64, .sl 9, .str, .int .i64, .int .i64, .sl 9, .int .i64, .sl 3, .int .i64, .sl 3]]
def res : RP := .one (.rd (.bool))
noncomputable def G : List (Nat × Con) := [(151, spec_EqualZones.con), (107, spec_EqualEntries.con), (154, spec_EqualProofs.con), (155, spec_EqualGaps.con)]
noncomputable abbrev E : Env := ⟨assoc Tab, conG G, 44⟩
set_option maxRecDepth 100000
theorem run_eq (n : Nat) (ls : List L) : runF E live Tryz.f109 res n (initS pats ls) = F (RAnswer.dec ls) (RAnswer.dec (dropT 21 ls)) := by kernel_rfl
noncomputable def md (a0 : MAnswer) (a1 : MAnswer) : Bool := (bif (spec_EqualZones.md (⟨a0.fChain, []⟩ : MZone) (⟨a1.fChain, []⟩ : MZone)) then (bif (a0.fFound == a1.fFound) then (bif (spec_EqualEntries.md a0.fEntry a1.fEntry) then (bif (spec_EqualProofs.md a0.fProof a1.fProof) then ((spec_EqualGaps.md a0.fGap a1.fGap) : Bool) else (false : Bool)) else (false : Bool)) else (false : Bool)) else (false : Bool))
def gd (a0 : MAnswer) (a1 : MAnswer) : Prop := (MAnswer.Sm (2 ^ 21) a0) ∧ (MAnswer.Sm (2 ^ 21) a1)
def rf (a : MAnswer × MAnswer) : RAnswer × RAnswer := ((MAnswer.r a.1), (MAnswer.r a.2))
theorem rf_inj (a b : MAnswer × MAnswer) (h : rf a = rf b) : a = b := by
  exact (Prod.ext (MAnswer.r_inj (congrArg (fun x => x.1) h)) (MAnswer.r_inj (congrArg (fun x => x.2) h)))
noncomputable def R (x0 : RAnswer) (x1 : RAnswer) : Option (Bool) := ofM rf (fun a => gd a.1 a.2) (fun a => (md a.1 a.2)) (x0, x1)
theorem R_eq {a0 : MAnswer} {a1 : MAnswer} (h : gd a0 a1) : R (MAnswer.r a0) (MAnswer.r a1) = some (md a0 a1) := ofM_eq (r := rf) (a := (a0, a1)) rf_inj h
theorem okF (a0 : MAnswer) (a1 : MAnswer) (hg : gd a0 a1) : F (MAnswer.r a0) (MAnswer.r a1) = ret ((md a0 a1) : Bool) := by
  unfold gd at hg
  obtain ⟨H0, H1⟩ := hg
  unfold F md
  try simp only [bytesL_map, List.length_map, toNat_nat, iAt_getD, bAt_getD, sAt_getD, lAt_getD, MAnswer.r_fChain, MAnswer.r_fFound, MAnswer.r_fEntry, MAnswer.r_fProof, MAnswer.r_fGap, MZone.r_fChain]
  refine call_to (spec_EqualZones.md (⟨a0.fChain, []⟩ : MZone) (⟨a1.fChain, []⟩ : MZone)) ?_ ?_
  · have R_ := spec_EqualZones.R_eq (a0 := (⟨a0.fChain, []⟩ : MZone)) (a1 := (⟨a1.fChain, []⟩ : MZone)) ⟨⟨H0.1, SmL.nil⟩, ⟨H1.1, SmL.nil⟩⟩
    first | exact R_ | (simp only [List.map_append, List.map_cons, List.map_nil, List.cons_append, List.nil_append, iRow, sRow, bRow, lRow, List.map_set, bytesL_map, List.length_map, toNat_nat, iAt_getD, bAt_getD, sAt_getD, lAt_getD, MAnswer.r_fChain, MAnswer.r_fFound, MAnswer.r_fEntry, MAnswer.r_fProof, MAnswer.r_fGap, MZone.r_fChain] at R_ ⊢; first | exact R_ | (rw [← R_]; rfl))
  try simp only [bytesL_map, List.length_map, toNat_nat, iAt_getD, bAt_getD, sAt_getD, lAt_getD, MAnswer.r_fChain, MAnswer.r_fFound, MAnswer.r_fEntry, MAnswer.r_fProof, MAnswer.r_fGap, MZone.r_fChain]
  refine bif_out (fun b : Bool => ret (b : Bool)) (fun c1 => ?_) (fun c1 => ?_)
  · refine bif_out (fun b : Bool => ret (b : Bool)) (fun c2 => ?_) (fun c2 => ?_)
    · have dc2 := c2
      try simp only [bne_eq_false_iff_eq, bne_iff_ne, beq_iff_eq, beq_eq_false_iff_ne, ne_eq, Bool.not_eq_true', Bool.not_eq_false'] at dc2
      refine call_to (spec_EqualEntries.md a0.fEntry a1.fEntry) ?_ ?_
      · have R_ := spec_EqualEntries.R_eq (a0 := a0.fEntry) (a1 := a1.fEntry) ⟨H0.2.1, H1.2.1⟩
        first | exact R_ | (simp only [List.map_append, List.map_cons, List.map_nil, List.cons_append, List.nil_append, iRow, sRow, bRow, lRow, List.map_set, bytesL_map, List.length_map, toNat_nat, iAt_getD, bAt_getD, sAt_getD, lAt_getD, MAnswer.r_fChain, MAnswer.r_fFound, MAnswer.r_fEntry, MAnswer.r_fProof, MAnswer.r_fGap, MZone.r_fChain] at R_ ⊢; first | exact R_ | (rw [← R_]; rfl))
      try simp only [bytesL_map, List.length_map, toNat_nat, iAt_getD, bAt_getD, sAt_getD, lAt_getD, MAnswer.r_fChain, MAnswer.r_fFound, MAnswer.r_fEntry, MAnswer.r_fProof, MAnswer.r_fGap, MZone.r_fChain]
      refine bif_out (fun b : Bool => ret (b : Bool)) (fun c3 => ?_) (fun c3 => ?_)
      · refine call_to (spec_EqualProofs.md a0.fProof a1.fProof) ?_ ?_
        · have R_ := spec_EqualProofs.R_eq (a0 := a0.fProof) (a1 := a1.fProof) ⟨H0.2.2.1, H1.2.2.1⟩
          first | exact R_ | (simp only [List.map_append, List.map_cons, List.map_nil, List.cons_append, List.nil_append, iRow, sRow, bRow, lRow, List.map_set, bytesL_map, List.length_map, toNat_nat, iAt_getD, bAt_getD, sAt_getD, lAt_getD, MAnswer.r_fChain, MAnswer.r_fFound, MAnswer.r_fEntry, MAnswer.r_fProof, MAnswer.r_fGap, MZone.r_fChain] at R_ ⊢; first | exact R_ | (rw [← R_]; rfl))
        try simp only [bytesL_map, List.length_map, toNat_nat, iAt_getD, bAt_getD, sAt_getD, lAt_getD, MAnswer.r_fChain, MAnswer.r_fFound, MAnswer.r_fEntry, MAnswer.r_fProof, MAnswer.r_fGap, MZone.r_fChain]
        refine bif_out (fun b : Bool => ret (b : Bool)) (fun c4 => ?_) (fun c4 => ?_)
        · refine call_to (spec_EqualGaps.md a0.fGap a1.fGap) ?_ ?_
          · have R_ := spec_EqualGaps.R_eq (a0 := a0.fGap) (a1 := a1.fGap) ⟨H0.2.2.2, H1.2.2.2⟩
            first | exact R_ | (simp only [List.map_append, List.map_cons, List.map_nil, List.cons_append, List.nil_append, iRow, sRow, bRow, lRow, List.map_set, bytesL_map, List.length_map, toNat_nat, iAt_getD, bAt_getD, sAt_getD, lAt_getD, MAnswer.r_fChain, MAnswer.r_fFound, MAnswer.r_fEntry, MAnswer.r_fProof, MAnswer.r_fGap, MZone.r_fChain] at R_ ⊢; first | exact R_ | (rw [← R_]; rfl))
          try simp only [bytesL_map, List.length_map, toNat_nat, iAt_getD, bAt_getD, sAt_getD, lAt_getD, MAnswer.r_fChain, MAnswer.r_fFound, MAnswer.r_fEntry, MAnswer.r_fProof, MAnswer.r_fGap, MZone.r_fChain]
          all_goals first | rfl | (simp only [bytesL_map, List.length_map, toNat_nat, iAt_getD, bAt_getD, sAt_getD, lAt_getD, MAnswer.r_fChain, MAnswer.r_fFound, MAnswer.r_fEntry, MAnswer.r_fProof, MAnswer.r_fGap, MZone.r_fChain]; done) | (simp only [List.map_append, List.map_cons, List.map_nil, List.cons_append, List.nil_append, iRow, sRow, bRow, lRow, List.map_set]; rfl) | (simp only [bytesL_map, List.length_map, toNat_nat, iAt_getD, bAt_getD, sAt_getD, lAt_getD, MAnswer.r_fChain, MAnswer.r_fFound, MAnswer.r_fEntry, MAnswer.r_fProof, MAnswer.r_fGap, MZone.r_fChain, List.map_append, List.map_cons, List.map_nil, List.cons_append, List.nil_append, iRow, sRow, bRow, lRow, List.map_set]; first | done | rfl)
        · all_goals first | rfl | (simp only [bytesL_map, List.length_map, toNat_nat, iAt_getD, bAt_getD, sAt_getD, lAt_getD, MAnswer.r_fChain, MAnswer.r_fFound, MAnswer.r_fEntry, MAnswer.r_fProof, MAnswer.r_fGap, MZone.r_fChain]; done) | (simp only [List.map_append, List.map_cons, List.map_nil, List.cons_append, List.nil_append, iRow, sRow, bRow, lRow, List.map_set]; rfl) | (simp only [bytesL_map, List.length_map, toNat_nat, iAt_getD, bAt_getD, sAt_getD, lAt_getD, MAnswer.r_fChain, MAnswer.r_fFound, MAnswer.r_fEntry, MAnswer.r_fProof, MAnswer.r_fGap, MZone.r_fChain, List.map_append, List.map_cons, List.map_nil, List.cons_append, List.nil_append, iRow, sRow, bRow, lRow, List.map_set]; first | done | rfl)
      · all_goals first | rfl | (simp only [bytesL_map, List.length_map, toNat_nat, iAt_getD, bAt_getD, sAt_getD, lAt_getD, MAnswer.r_fChain, MAnswer.r_fFound, MAnswer.r_fEntry, MAnswer.r_fProof, MAnswer.r_fGap, MZone.r_fChain]; done) | (simp only [List.map_append, List.map_cons, List.map_nil, List.cons_append, List.nil_append, iRow, sRow, bRow, lRow, List.map_set]; rfl) | (simp only [bytesL_map, List.length_map, toNat_nat, iAt_getD, bAt_getD, sAt_getD, lAt_getD, MAnswer.r_fChain, MAnswer.r_fFound, MAnswer.r_fEntry, MAnswer.r_fProof, MAnswer.r_fGap, MZone.r_fChain, List.map_append, List.map_cons, List.map_nil, List.cons_append, List.nil_append, iRow, sRow, bRow, lRow, List.map_set]; first | done | rfl)
    · have dc2 := c2
      try simp only [bne_eq_false_iff_eq, bne_iff_ne, beq_iff_eq, beq_eq_false_iff_ne, ne_eq, Bool.not_eq_true', Bool.not_eq_false'] at dc2
      all_goals first | rfl | (simp only [bytesL_map, List.length_map, toNat_nat, iAt_getD, bAt_getD, sAt_getD, lAt_getD, MAnswer.r_fChain, MAnswer.r_fFound, MAnswer.r_fEntry, MAnswer.r_fProof, MAnswer.r_fGap, MZone.r_fChain]; done) | (simp only [List.map_append, List.map_cons, List.map_nil, List.cons_append, List.nil_append, iRow, sRow, bRow, lRow, List.map_set]; rfl) | (simp only [bytesL_map, List.length_map, toNat_nat, iAt_getD, bAt_getD, sAt_getD, lAt_getD, MAnswer.r_fChain, MAnswer.r_fFound, MAnswer.r_fEntry, MAnswer.r_fProof, MAnswer.r_fGap, MZone.r_fChain, List.map_append, List.map_cons, List.map_nil, List.cons_append, List.nil_append, iRow, sRow, bRow, lRow, List.map_set]; first | done | rfl)
  · all_goals first | rfl | (simp only [bytesL_map, List.length_map, toNat_nat, iAt_getD, bAt_getD, sAt_getD, lAt_getD, MAnswer.r_fChain, MAnswer.r_fFound, MAnswer.r_fEntry, MAnswer.r_fProof, MAnswer.r_fGap, MZone.r_fChain]; done) | (simp only [List.map_append, List.map_cons, List.map_nil, List.cons_append, List.nil_append, iRow, sRow, bRow, lRow, List.map_set]; rfl) | (simp only [bytesL_map, List.length_map, toNat_nat, iAt_getD, bAt_getD, sAt_getD, lAt_getD, MAnswer.r_fChain, MAnswer.r_fFound, MAnswer.r_fEntry, MAnswer.r_fProof, MAnswer.r_fGap, MZone.r_fChain, List.map_append, List.map_cons, List.map_nil, List.cons_append, List.nil_append, iRow, sRow, bRow, lRow, List.map_set]; first | done | rfl)
noncomputable def sem (ls : List L) : Option (List L) := (R (RAnswer.dec ls) (RAnswer.dec (dropT 21 ls))).map RT.enc
theorem ok (ls q : List L) (hl : LOKs Ev.cells pats ls) (h : sem ls = some q) : ∃ n, runF E live Tryz.f109 res n (initS pats ls) = some q := by
  obtain ⟨v, hv, hq⟩ := map_some h
  obtain ⟨⟨a0, a1⟩, hg, e, hm⟩ := ofM_some hv
  simp only [rf, Prod.mk.injEq] at e
  obtain ⟨e0, e1⟩ := e
  have hn := okF a0 a1 hg
  refine ⟨0, (run_eq 0 ls).trans ?_⟩
  rw [← e0, ← e1]
  rw [hn, ← hq, hm]; rfl
noncomputable def con : Con := ⟨pats, res, sem⟩
theorem chk : fnB Tryz.f109 con 44 = true := by kernel_rfl
theorem valid_ : Valid Tryz.prog Ev 109 con := valid mix tab_ok (.cons spec_EqualZones.valid_ (.cons spec_EqualEntries.valid_ (.cons spec_EqualProofs.valid_ (.cons spec_EqualGaps.valid_ .nil)))) Tryz.func109 chk live ok
theorem md_eq (a0 : MAnswer) (a1 : MAnswer) : md a0 a1 = eqB a0 a1 := by
  unfold md
  cases a0; cases a1
  rw [Bool.eq_iff_iff]
  simp [eqB_iff, ba_beq, MAnswer.mk.injEq, spec_EqualZones.md_eq, spec_EqualEntries.md_eq, spec_EqualProofs.md_eq, spec_EqualGaps.md_eq]
  try (constructor <;> (intro h; simp_all))
end spec_EqualAnswers
/-! spec.EqualCaches -/
namespace spec_EqualCaches
inductive Pt where
  | p0 (a : Int) (b : RCache) (c : RCache)
def pid : Pt → Nat
  | .p0 .. => 4
def pvs : Pt → List V
  | .p0 a b c => [.bptr 0 0, .bptr 1 0, .int .i64 a]
def phs : Pt → List Root
  | .p0 a b c => [.box [.sl none 124 b.fList], .box [.sl none 124 c.fList]]
noncomputable def step (J : Pt → Ans) : Pt → Ans
  | .p0 a b c => (bif (decide (a < (b.fList.length : Int))) then (bif (decide ((0 : Int) ≤ a)) then (bif (decide (a < (b.fList.length : Int))) then (bif (decide ((0 : Int) ≤ a)) then (bif (decide (a < (c.fList.length : Int))) then (bif ((RStored.at b.fList (Int.toNat a)).fZone != (RStored.at c.fList (Int.toNat a)).fZone) then ret (false : Bool) else (bif (decide ((0 : Int) ≤ a)) then (bif (decide (a < (b.fList.length : Int))) then (bif (decide ((0 : Int) ≤ a)) then (bif (decide (a < (c.fList.length : Int))) then (bif (!((RStored.at b.fList (Int.toNat a)).fLabel == (RStored.at c.fList (Int.toNat a)).fLabel)) then ret (false : Bool) else (bif (decide ((0 : Int) ≤ a)) then (bif (decide (a < (b.fList.length : Int))) then (bif (decide ((0 : Int) ≤ a)) then (bif (decide (a < (c.fList.length : Int))) then (call (spec_EqualAnswers.R ((RStored.at b.fList (Int.toNat a)).fAnswer) ((RStored.at c.fList (Int.toNat a)).fAnswer)) fun v1 => (bif (!v1) then ret (false : Bool) else J (.p0 (IntKind.i64.wrap (a + 1)) b c))) else none) else none) else none) else none)) else none) else none) else none) else none)) else none) else none) else none) else none) else ret (true : Bool))
noncomputable def start (J : Pt → Ans) (x0 : RCache) (x1 : RCache) : Ans := (bif ((x0.fList.length : Int) != (x1.fList.length : Int)) then ret (false : Bool) else J (.p0 0 x0 x1))
def live : Nat → Live := fun i => match i with | 4 => [(2, none), (3, none), (5, none)] | _ => []
def pats : List Pat := [.agg [.sl 124], .agg [.sl 124]]
def res : RP := .one (.rd (.bool))
noncomputable def G : List (Nat × Con) := [(109, spec_EqualAnswers.con)]
noncomputable abbrev E : Env := ⟨assoc Tab, conG G, 64⟩
set_option maxRecDepth 100000
theorem step_eq (I : Heads) (p : Pt) : enterC E live I (pid p) (bodyOf Tryz.f60) (stOf (live (pid p)) (pvs p) (phs p)) (doneK E Tryz.f60 res) = step (fun q => I (pid q) (pvs q) (phs q)) p := by
  cases p <;> kernel_rfl
theorem start_eq (I : Heads) (ls : List L) : runC E live I (bodyOf Tryz.f60) (initS pats ls) (doneK E Tryz.f60 res) = start (fun q => I (pid q) (pvs q) (phs q)) (RCache.dec ls) (RCache.dec (dropT 1 ls)) := by kernel_rfl
theorem run_eq (n : Nat) (ls : List L) : runF E live Tryz.f60 res n (initS pats ls) = start (iter step n) (RCache.dec ls) (RCache.dec (dropT 1 ls)) := runF_iter (id := pid) (vs := pvs) (hs := phs) (step := step) (start := fun J => start J (RCache.dec ls) (RCache.dec (dropT 1 ls))) step_eq (fun I => start_eq I ls) n
noncomputable def md (a0 : MCache) (a1 : MCache) : Bool := (bif ((a0.fList.length : Int) != (a1.fList.length : Int)) then (false : Bool) else (loopM (S := Unit) (β := Bool) (fun (i2 : Nat) (s4 : Unit) => (bif ((a0.fList.getD i2 MStored.zero).fZone != (a1.fList.getD i2 MStored.zero).fZone) then (.inr (false : Bool)) else (bif (!((a0.fList.getD i2 MStored.zero).fLabel == (a1.fList.getD i2 MStored.zero).fLabel)) then (.inr (false : Bool)) else (bif (!(spec_EqualAnswers.md ((a0.fList.getD i2 MStored.zero).fAnswer) ((a1.fList.getD i2 MStored.zero).fAnswer))) then (.inr (false : Bool)) else (.inl ()))))) (fun (s4 : Unit) => (true : Bool)) a0.fList.length 0 ()))
def gd (a0 : MCache) (a1 : MCache) : Prop := (MCache.Sm (2 ^ 21) a0) ∧ (MCache.Sm (2 ^ 21) a1)
def rf (a : MCache × MCache) : RCache × RCache := ((MCache.r a.1), (MCache.r a.2))
theorem rf_inj (a b : MCache × MCache) (h : rf a = rf b) : a = b := by
  exact (Prod.ext (MCache.r_inj (congrArg (fun x => x.1) h)) (MCache.r_inj (congrArg (fun x => x.2) h)))
noncomputable def R (x0 : RCache) (x1 : RCache) : Option (Bool) := ofM rf (fun a => gd a.1 a.2) (fun a => (md a.1 a.2)) (x0, x1)
theorem R_eq {a0 : MCache} {a1 : MCache} (h : gd a0 a1) : R (MCache.r a0) (MCache.r a1) = some (md a0 a1) := ofM_eq (r := rf) (a := (a0, a1)) rf_inj h
theorem okF (a0 : MCache) (a1 : MCache) (hg : gd a0 a1) : ∃ n, start (iter step n) (MCache.r a0) (MCache.r a1) = ret ((md a0 a1) : Bool) := by
  unfold gd at hg
  obtain ⟨H0, H1⟩ := hg
  unfold start md
  try simp only [bytesL_map, List.length_map, toNat_nat, iAt_getD, bAt_getD, sAt_getD, lAt_getD, MKeys.r_fList, MHead.r_fZone, MEntry.r_fLabel, MStored.at_getD, MStored.r_fZone, MStored.r_fLabel, MStored.r_fAnswer, MCache.r_fList]
  refine ex_bif (fun b : Bool => ret (b : Bool)) (fun c1 => ?_) (fun c1 => ?_)
  · have dc1 := c1
    try simp only [bne_eq_false_iff_eq, bne_iff_ne, beq_iff_eq, beq_eq_false_iff_ne, ne_eq, Bool.not_eq_true', Bool.not_eq_false'] at dc1
    refine ⟨0, ?_⟩
    all_goals first | rfl | (simp only [bytesL_map, List.length_map, toNat_nat, iAt_getD, bAt_getD, sAt_getD, lAt_getD, MKeys.r_fList, MHead.r_fZone, MEntry.r_fLabel, MStored.at_getD, MStored.r_fZone, MStored.r_fLabel, MStored.r_fAnswer, MCache.r_fList]; done) | (simp only [List.map_append, List.map_cons, List.map_nil, List.cons_append, List.nil_append, iRow, sRow, bRow, lRow, List.map_set]; rfl) | (simp only [bytesL_map, List.length_map, toNat_nat, iAt_getD, bAt_getD, sAt_getD, lAt_getD, MKeys.r_fList, MHead.r_fZone, MEntry.r_fLabel, MStored.at_getD, MStored.r_fZone, MStored.r_fLabel, MStored.r_fAnswer, MCache.r_fList, List.map_append, List.map_cons, List.map_nil, List.cons_append, List.nil_append, iRow, sRow, bRow, lRow, List.map_set]; first | done | rfl)
  · have dc1 := c1
    try simp only [bne_eq_false_iff_eq, bne_iff_ne, beq_iff_eq, beq_eq_false_iff_ne, ne_eq, Bool.not_eq_true', Bool.not_eq_false'] at dc1
    have Bh3 : a0.fList.length ≤ maxLen := (by
        have := (H0).1
        try simp only [maxLen] at *
        omega)
    refine ex_pt (p := Pt.p0 0 (MCache.r a0) (MCache.r a1)) (by first | rfl | (simp only [bytesL_map, List.length_map, toNat_nat, iAt_getD, bAt_getD, sAt_getD, lAt_getD, MKeys.r_fList, MHead.r_fZone, MEntry.r_fLabel, MStored.at_getD, MStored.r_fZone, MStored.r_fLabel, MStored.r_fAnswer, MCache.r_fList, List.map_append, List.map_cons, List.map_nil, List.cons_append, List.nil_append, iRow, sRow, bRow, lRow, List.map_set]; done) | (simp only [List.map_append, List.map_cons, List.map_nil, List.cons_append, List.nil_append, iRow, sRow, bRow, lRow, List.map_set]; rfl)) ?_
    refine loopM_ok (pt := fun (i2 : Nat) (s4 : Unit) => Pt.p0 (i2 : Int) (MCache.r a0) (MCache.r a1)) (s := (() : Unit)) (out := (fun b : Bool => ret (b : Bool))) (fun _ _ => True) (fun J i2 s4 h3 hih3 => ?_) (fun s4 hih3 => ?_) trivial
    · simp only [step, bytesL_map, List.length_map, toNat_nat, iAt_getD, bAt_getD, sAt_getD, lAt_getD, MKeys.r_fList, MHead.r_fZone, MEntry.r_fLabel, MStored.at_getD, MStored.r_fZone, MStored.r_fLabel, MStored.r_fAnswer, MCache.r_fList]
      have bb_ := Bh3
      simp only [maxLen] at bb_
      have := (H0).1
      refine Rnd.yes (by apply decide_eq_true; omega) ?_
      refine Rnd.yes (by
          refine decide_eq_true ?_
          try simp (disch := omega) only [List.sum_cons, List.sum_nil, List.map_cons, List.map_nil, bytesI_length, bytesL_length, List.length_append, List.length_cons, List.length_nil, List.length_map, List.length_set, List.length_replicate, List.length_take, List.length_drop, Go.IntWalk.i64_in]
          first | omega | (simp; done) | (simp; omega)) ?_
      refine Rnd.yes (by
          have := (H0).1
          refine decide_eq_true ?_
          try simp (disch := omega) only [List.sum_cons, List.sum_nil, List.map_cons, List.map_nil, bytesI_length, bytesL_length, List.length_append, List.length_cons, List.length_nil, List.length_map, List.length_set, List.length_replicate, List.length_take, List.length_drop, Go.IntWalk.i64_in]
          first | omega | (simp; done) | (simp; omega)) ?_
      refine Rnd.yes (by
          refine decide_eq_true ?_
          try simp (disch := omega) only [List.sum_cons, List.sum_nil, List.map_cons, List.map_nil, bytesI_length, bytesL_length, List.length_append, List.length_cons, List.length_nil, List.length_map, List.length_set, List.length_replicate, List.length_take, List.length_drop, Go.IntWalk.i64_in]
          first | omega | (simp; done) | (simp; omega)) ?_
      refine Rnd.yes (by
          have := (H1).1
          refine decide_eq_true ?_
          try simp (disch := omega) only [List.sum_cons, List.sum_nil, List.map_cons, List.map_nil, bytesI_length, bytesL_length, List.length_append, List.length_cons, List.length_nil, List.length_map, List.length_set, List.length_replicate, List.length_take, List.length_drop, Go.IntWalk.i64_in]
          first | omega | (simp; done) | (simp; omega)) ?_
      refine Rnd.bif (fun c5 => ?_) (fun c5 => ?_)
      · have dc5 := c5
        try simp only [bne_eq_false_iff_eq, bne_iff_ne, beq_iff_eq, beq_eq_false_iff_ne, ne_eq, Bool.not_eq_true', Bool.not_eq_false'] at dc5
        refine Rnd.inr ?_
        all_goals first | rfl | (simp only [bytesL_map, List.length_map, toNat_nat, iAt_getD, bAt_getD, sAt_getD, lAt_getD, MKeys.r_fList, MHead.r_fZone, MEntry.r_fLabel, MStored.at_getD, MStored.r_fZone, MStored.r_fLabel, MStored.r_fAnswer, MCache.r_fList]; done) | (simp only [List.map_append, List.map_cons, List.map_nil, List.cons_append, List.nil_append, iRow, sRow, bRow, lRow, List.map_set]; rfl) | (simp only [bytesL_map, List.length_map, toNat_nat, iAt_getD, bAt_getD, sAt_getD, lAt_getD, MKeys.r_fList, MHead.r_fZone, MEntry.r_fLabel, MStored.at_getD, MStored.r_fZone, MStored.r_fLabel, MStored.r_fAnswer, MCache.r_fList, List.map_append, List.map_cons, List.map_nil, List.cons_append, List.nil_append, iRow, sRow, bRow, lRow, List.map_set]; first | done | rfl)
      · have dc5 := c5
        try simp only [bne_eq_false_iff_eq, bne_iff_ne, beq_iff_eq, beq_eq_false_iff_ne, ne_eq, Bool.not_eq_true', Bool.not_eq_false'] at dc5
        refine Rnd.yes (by
            refine decide_eq_true ?_
            try simp (disch := omega) only [List.sum_cons, List.sum_nil, List.map_cons, List.map_nil, bytesI_length, bytesL_length, List.length_append, List.length_cons, List.length_nil, List.length_map, List.length_set, List.length_replicate, List.length_take, List.length_drop, Go.IntWalk.i64_in]
            first | omega | (simp; done) | (simp; omega)) ?_
        refine Rnd.yes (by
            have := (H0).1
            refine decide_eq_true ?_
            try simp (disch := omega) only [List.sum_cons, List.sum_nil, List.map_cons, List.map_nil, bytesI_length, bytesL_length, List.length_append, List.length_cons, List.length_nil, List.length_map, List.length_set, List.length_replicate, List.length_take, List.length_drop, Go.IntWalk.i64_in]
            first | omega | (simp; done) | (simp; omega)) ?_
        refine Rnd.yes (by
            refine decide_eq_true ?_
            try simp (disch := omega) only [List.sum_cons, List.sum_nil, List.map_cons, List.map_nil, bytesI_length, bytesL_length, List.length_append, List.length_cons, List.length_nil, List.length_map, List.length_set, List.length_replicate, List.length_take, List.length_drop, Go.IntWalk.i64_in]
            first | omega | (simp; done) | (simp; omega)) ?_
        refine Rnd.yes (by
            have := (H1).1
            refine decide_eq_true ?_
            try simp (disch := omega) only [List.sum_cons, List.sum_nil, List.map_cons, List.map_nil, bytesI_length, bytesL_length, List.length_append, List.length_cons, List.length_nil, List.length_map, List.length_set, List.length_replicate, List.length_take, List.length_drop, Go.IntWalk.i64_in]
            first | omega | (simp; done) | (simp; omega)) ?_
        refine Rnd.bif (fun c6 => ?_) (fun c6 => ?_)
        · have dc6 := c6
          try simp only [bne_eq_false_iff_eq, bne_iff_ne, beq_iff_eq, beq_eq_false_iff_ne, ne_eq, Bool.not_eq_true', Bool.not_eq_false'] at dc6
          refine Rnd.inr ?_
          all_goals first | rfl | (simp only [bytesL_map, List.length_map, toNat_nat, iAt_getD, bAt_getD, sAt_getD, lAt_getD, MKeys.r_fList, MHead.r_fZone, MEntry.r_fLabel, MStored.at_getD, MStored.r_fZone, MStored.r_fLabel, MStored.r_fAnswer, MCache.r_fList]; done) | (simp only [List.map_append, List.map_cons, List.map_nil, List.cons_append, List.nil_append, iRow, sRow, bRow, lRow, List.map_set]; rfl) | (simp only [bytesL_map, List.length_map, toNat_nat, iAt_getD, bAt_getD, sAt_getD, lAt_getD, MKeys.r_fList, MHead.r_fZone, MEntry.r_fLabel, MStored.at_getD, MStored.r_fZone, MStored.r_fLabel, MStored.r_fAnswer, MCache.r_fList, List.map_append, List.map_cons, List.map_nil, List.cons_append, List.nil_append, iRow, sRow, bRow, lRow, List.map_set]; first | done | rfl)
        · have dc6 := c6
          try simp only [bne_eq_false_iff_eq, bne_iff_ne, beq_iff_eq, beq_eq_false_iff_ne, ne_eq, Bool.not_eq_true', Bool.not_eq_false'] at dc6
          refine Rnd.yes (by
              refine decide_eq_true ?_
              try simp (disch := omega) only [List.sum_cons, List.sum_nil, List.map_cons, List.map_nil, bytesI_length, bytesL_length, List.length_append, List.length_cons, List.length_nil, List.length_map, List.length_set, List.length_replicate, List.length_take, List.length_drop, Go.IntWalk.i64_in]
              first | omega | (simp; done) | (simp; omega)) ?_
          refine Rnd.yes (by
              have := (H0).1
              refine decide_eq_true ?_
              try simp (disch := omega) only [List.sum_cons, List.sum_nil, List.map_cons, List.map_nil, bytesI_length, bytesL_length, List.length_append, List.length_cons, List.length_nil, List.length_map, List.length_set, List.length_replicate, List.length_take, List.length_drop, Go.IntWalk.i64_in]
              first | omega | (simp; done) | (simp; omega)) ?_
          refine Rnd.yes (by
              refine decide_eq_true ?_
              try simp (disch := omega) only [List.sum_cons, List.sum_nil, List.map_cons, List.map_nil, bytesI_length, bytesL_length, List.length_append, List.length_cons, List.length_nil, List.length_map, List.length_set, List.length_replicate, List.length_take, List.length_drop, Go.IntWalk.i64_in]
              first | omega | (simp; done) | (simp; omega)) ?_
          refine Rnd.yes (by
              have := (H1).1
              refine decide_eq_true ?_
              try simp (disch := omega) only [List.sum_cons, List.sum_nil, List.map_cons, List.map_nil, bytesI_length, bytesL_length, List.length_append, List.length_cons, List.length_nil, List.length_map, List.length_set, List.length_replicate, List.length_take, List.length_drop, Go.IntWalk.i64_in]
              first | omega | (simp; done) | (simp; omega)) ?_
          refine Rnd.call_to (spec_EqualAnswers.md ((a0.fList.getD i2 MStored.zero).fAnswer) ((a1.fList.getD i2 MStored.zero).fAnswer)) ?_ ?_
          · have R_ := spec_EqualAnswers.R_eq (a0 := (a0.fList.getD i2 MStored.zero).fAnswer) (a1 := (a1.fList.getD i2 MStored.zero).fAnswer) ⟨(SmL.getD (z := MStored.zero) H0 h3).2, (SmL.getD (z := MStored.zero) H1 (by first | assumption | omega | (simp (disch := omega) only [Go.IntWalk.i64_in]; omega) | (simp; omega))).2⟩
            first | exact R_ | (simp only [List.map_append, List.map_cons, List.map_nil, List.cons_append, List.nil_append, iRow, sRow, bRow, lRow, List.map_set, bytesL_map, List.length_map, toNat_nat, iAt_getD, bAt_getD, sAt_getD, lAt_getD, MKeys.r_fList, MHead.r_fZone, MEntry.r_fLabel, MStored.at_getD, MStored.r_fZone, MStored.r_fLabel, MStored.r_fAnswer, MCache.r_fList] at R_ ⊢; first | exact R_ | (rw [← R_]; rfl))
          try simp only [bytesL_map, List.length_map, toNat_nat, iAt_getD, bAt_getD, sAt_getD, lAt_getD, MKeys.r_fList, MHead.r_fZone, MEntry.r_fLabel, MStored.at_getD, MStored.r_fZone, MStored.r_fLabel, MStored.r_fAnswer, MCache.r_fList]
          refine Rnd.bif (fun c7 => ?_) (fun c7 => ?_)
          · have dc7 := c7
            try simp only [bne_eq_false_iff_eq, bne_iff_ne, beq_iff_eq, beq_eq_false_iff_ne, ne_eq, Bool.not_eq_true', Bool.not_eq_false'] at dc7
            refine Rnd.inr ?_
            all_goals first | rfl | (simp only [bytesL_map, List.length_map, toNat_nat, iAt_getD, bAt_getD, sAt_getD, lAt_getD, MKeys.r_fList, MHead.r_fZone, MEntry.r_fLabel, MStored.at_getD, MStored.r_fZone, MStored.r_fLabel, MStored.r_fAnswer, MCache.r_fList]; done) | (simp only [List.map_append, List.map_cons, List.map_nil, List.cons_append, List.nil_append, iRow, sRow, bRow, lRow, List.map_set]; rfl) | (simp only [bytesL_map, List.length_map, toNat_nat, iAt_getD, bAt_getD, sAt_getD, lAt_getD, MKeys.r_fList, MHead.r_fZone, MEntry.r_fLabel, MStored.at_getD, MStored.r_fZone, MStored.r_fLabel, MStored.r_fAnswer, MCache.r_fList, List.map_append, List.map_cons, List.map_nil, List.cons_append, List.nil_append, iRow, sRow, bRow, lRow, List.map_set]; first | done | rfl)
          · have dc7 := c7
            try simp only [bne_eq_false_iff_eq, bne_iff_ne, beq_iff_eq, beq_eq_false_iff_ne, ne_eq, Bool.not_eq_true', Bool.not_eq_false'] at dc7
            refine Rnd.inl trivial ?_
            rw [wrap_succ h3 Bh3]
            all_goals first | rfl | (simp only [bytesL_map, List.length_map, toNat_nat, iAt_getD, bAt_getD, sAt_getD, lAt_getD, MKeys.r_fList, MHead.r_fZone, MEntry.r_fLabel, MStored.at_getD, MStored.r_fZone, MStored.r_fLabel, MStored.r_fAnswer, MCache.r_fList]; done) | (simp only [List.map_append, List.map_cons, List.map_nil, List.cons_append, List.nil_append, iRow, sRow, bRow, lRow, List.map_set]; rfl) | (simp only [bytesL_map, List.length_map, toNat_nat, iAt_getD, bAt_getD, sAt_getD, lAt_getD, MKeys.r_fList, MHead.r_fZone, MEntry.r_fLabel, MStored.at_getD, MStored.r_fZone, MStored.r_fLabel, MStored.r_fAnswer, MCache.r_fList, List.map_append, List.map_cons, List.map_nil, List.cons_append, List.nil_append, iRow, sRow, bRow, lRow, List.map_set]; first | done | rfl)
    · simp only [step, bytesL_map, List.length_map, toNat_nat, iAt_getD, bAt_getD, sAt_getD, lAt_getD, MKeys.r_fList, MHead.r_fZone, MEntry.r_fLabel, MStored.at_getD, MStored.r_fZone, MStored.r_fLabel, MStored.r_fAnswer, MCache.r_fList]
      have := (H0).1
      refine ex_no (by apply decide_eq_false; omega) ?_
      refine ⟨0, ?_⟩
      all_goals first | rfl | (simp only [bytesL_map, List.length_map, toNat_nat, iAt_getD, bAt_getD, sAt_getD, lAt_getD, MKeys.r_fList, MHead.r_fZone, MEntry.r_fLabel, MStored.at_getD, MStored.r_fZone, MStored.r_fLabel, MStored.r_fAnswer, MCache.r_fList]; done) | (simp only [List.map_append, List.map_cons, List.map_nil, List.cons_append, List.nil_append, iRow, sRow, bRow, lRow, List.map_set]; rfl) | (simp only [bytesL_map, List.length_map, toNat_nat, iAt_getD, bAt_getD, sAt_getD, lAt_getD, MKeys.r_fList, MHead.r_fZone, MEntry.r_fLabel, MStored.at_getD, MStored.r_fZone, MStored.r_fLabel, MStored.r_fAnswer, MCache.r_fList, List.map_append, List.map_cons, List.map_nil, List.cons_append, List.nil_append, iRow, sRow, bRow, lRow, List.map_set]; first | done | rfl)
noncomputable def sem (ls : List L) : Option (List L) := (R (RCache.dec ls) (RCache.dec (dropT 1 ls))).map RT.enc
theorem ok (ls q : List L) (hl : LOKs Ev.cells pats ls) (h : sem ls = some q) : ∃ n, runF E live Tryz.f60 res n (initS pats ls) = some q := by
  obtain ⟨v, hv, hq⟩ := map_some h
  obtain ⟨⟨a0, a1⟩, hg, e, hm⟩ := ofM_some hv
  simp only [rf, Prod.mk.injEq] at e
  obtain ⟨e0, e1⟩ := e
  obtain ⟨n, hn⟩ := okF a0 a1 hg
  refine ⟨n, (run_eq n ls).trans ?_⟩
  rw [← e0, ← e1]
  rw [hn, ← hq, hm]; rfl
noncomputable def con : Con := ⟨pats, res, sem⟩
theorem chk : fnB Tryz.f60 con 64 = true := by kernel_rfl
theorem valid_ : Valid Tryz.prog Ev 60 con := valid mix tab_ok (.cons spec_EqualAnswers.valid_ .nil) Tryz.func60 chk live ok
theorem md_eq (a0 : MCache) (a1 : MCache) : md a0 a1 = eqB a0 a1 := by
  unfold md
  simp only [spec_EqualAnswers.md_eq, int_beq, ba_beq, bne]
  have e : ∀ x y : MStored, eqB x y = (eqB x.fZone y.fZone && (eqB x.fLabel y.fLabel && eqB x.fAnswer y.fAnswer)) := by
    intro x y
    cases x; cases y
    rw [Bool.eq_iff_iff]
    simp [eqB_iff]
  have h := loop_eqB (xs := a0.fList) (ys := a1.fList) MStored.zero (f := fun i s => bif eqB (a0.fList.getD i MStored.zero) (a1.fList.getD i MStored.zero) then .inl s else .inr false) (tail := fun _ => true) (fun i s h h2 => rfl) (fun s => rfl)
  refine Eq.trans ?_ (h.trans ?_)
  · simp only [bne, int_beq]
    congr 1
    refine loopM_congr (fun _ _ => True) (fun i s hi _ => ⟨?_, fun _ _ => trivial⟩) (fun _ _ => rfl) trivial
    rw [e]
    cases eqB (a0.fList.getD i MStored.zero).fZone (a1.fList.getD i MStored.zero).fZone <;> cases eqB (a0.fList.getD i MStored.zero).fLabel (a1.fList.getD i MStored.zero).fLabel <;> cases eqB (a0.fList.getD i MStored.zero).fAnswer (a1.fList.getD i MStored.zero).fAnswer <;> rfl
  · rw [Bool.eq_iff_iff]
    cases a0; cases a1
    simp [eqB_iff]
end spec_EqualCaches
/-! spec.EqualWalks -/
namespace spec_EqualWalks
noncomputable def F (x0 : RWalk) (x1 : RWalk) : Ans := (call (spec_EqualTraces.R x0.fTrace x1.fTrace) fun v1 => (bif v1 then (call (spec_EqualCaches.R x0.fCache x1.fCache) fun v2 => ret (v2 : Bool)) else ret (false : Bool)))
def live : Nat → Live := fun _ => []
def pats : List Pat := [.agg [.sl 38, .sl 95, .int .i64, .str, .int .i64, .int .i64, .sl 9, .sl 3, .int .i64, .sl 124], .agg [.sl 38, .sl 95, .int .i64, .str, .int .i64, .int .i64, .sl 9, .sl 3, .int .i64, .sl 124]]
def res : RP := .one (.rd (.bool))
noncomputable def G : List (Nat × Con) := [(59, spec_EqualTraces.con), (60, spec_EqualCaches.con)]
noncomputable abbrev E : Env := ⟨assoc Tab, conG G, 17⟩
set_option maxRecDepth 100000
theorem run_eq (n : Nat) (ls : List L) : runF E live Tryz.f21 res n (initS pats ls) = F (RWalk.dec ls) (RWalk.dec (dropT 10 ls)) := by kernel_rfl
noncomputable def md (a0 : MWalk) (a1 : MWalk) : Bool := (bif (spec_EqualTraces.md a0.fTrace a1.fTrace) then ((spec_EqualCaches.md a0.fCache a1.fCache) : Bool) else (false : Bool))
def gd (a0 : MWalk) (a1 : MWalk) : Prop := (MWalk.Sm (2 ^ 21) a0) ∧ (MWalk.Sm (2 ^ 21) a1)
def rf (a : MWalk × MWalk) : RWalk × RWalk := ((MWalk.r a.1), (MWalk.r a.2))
theorem rf_inj (a b : MWalk × MWalk) (h : rf a = rf b) : a = b := by
  exact (Prod.ext (MWalk.r_inj (congrArg (fun x => x.1) h)) (MWalk.r_inj (congrArg (fun x => x.2) h)))
noncomputable def R (x0 : RWalk) (x1 : RWalk) : Option (Bool) := ofM rf (fun a => gd a.1 a.2) (fun a => (md a.1 a.2)) (x0, x1)
theorem R_eq {a0 : MWalk} {a1 : MWalk} (h : gd a0 a1) : R (MWalk.r a0) (MWalk.r a1) = some (md a0 a1) := ofM_eq (r := rf) (a := (a0, a1)) rf_inj h
theorem okF (a0 : MWalk) (a1 : MWalk) (hg : gd a0 a1) : F (MWalk.r a0) (MWalk.r a1) = ret ((md a0 a1) : Bool) := by
  unfold gd at hg
  obtain ⟨H0, H1⟩ := hg
  unfold F md
  try simp only [bytesL_map, List.length_map, toNat_nat, iAt_getD, bAt_getD, sAt_getD, lAt_getD, MWalk.r_fTrace, MWalk.r_fCache]
  refine call_to (spec_EqualTraces.md a0.fTrace a1.fTrace) ?_ ?_
  · have R_ := spec_EqualTraces.R_eq (a0 := a0.fTrace) (a1 := a1.fTrace) ⟨H0.1, H1.1⟩
    first | exact R_ | (simp only [List.map_append, List.map_cons, List.map_nil, List.cons_append, List.nil_append, iRow, sRow, bRow, lRow, List.map_set, bytesL_map, List.length_map, toNat_nat, iAt_getD, bAt_getD, sAt_getD, lAt_getD, MWalk.r_fTrace, MWalk.r_fCache] at R_ ⊢; first | exact R_ | (rw [← R_]; rfl))
  try simp only [bytesL_map, List.length_map, toNat_nat, iAt_getD, bAt_getD, sAt_getD, lAt_getD, MWalk.r_fTrace, MWalk.r_fCache]
  refine bif_out (fun b : Bool => ret (b : Bool)) (fun c1 => ?_) (fun c1 => ?_)
  · refine call_to (spec_EqualCaches.md a0.fCache a1.fCache) ?_ ?_
    · have R_ := spec_EqualCaches.R_eq (a0 := a0.fCache) (a1 := a1.fCache) ⟨H0.2, H1.2⟩
      first | exact R_ | (simp only [List.map_append, List.map_cons, List.map_nil, List.cons_append, List.nil_append, iRow, sRow, bRow, lRow, List.map_set, bytesL_map, List.length_map, toNat_nat, iAt_getD, bAt_getD, sAt_getD, lAt_getD, MWalk.r_fTrace, MWalk.r_fCache] at R_ ⊢; first | exact R_ | (rw [← R_]; rfl))
    try simp only [bytesL_map, List.length_map, toNat_nat, iAt_getD, bAt_getD, sAt_getD, lAt_getD, MWalk.r_fTrace, MWalk.r_fCache]
    all_goals first | rfl | (simp only [bytesL_map, List.length_map, toNat_nat, iAt_getD, bAt_getD, sAt_getD, lAt_getD, MWalk.r_fTrace, MWalk.r_fCache]; done) | (simp only [List.map_append, List.map_cons, List.map_nil, List.cons_append, List.nil_append, iRow, sRow, bRow, lRow, List.map_set]; rfl) | (simp only [bytesL_map, List.length_map, toNat_nat, iAt_getD, bAt_getD, sAt_getD, lAt_getD, MWalk.r_fTrace, MWalk.r_fCache, List.map_append, List.map_cons, List.map_nil, List.cons_append, List.nil_append, iRow, sRow, bRow, lRow, List.map_set]; first | done | rfl)
  · all_goals first | rfl | (simp only [bytesL_map, List.length_map, toNat_nat, iAt_getD, bAt_getD, sAt_getD, lAt_getD, MWalk.r_fTrace, MWalk.r_fCache]; done) | (simp only [List.map_append, List.map_cons, List.map_nil, List.cons_append, List.nil_append, iRow, sRow, bRow, lRow, List.map_set]; rfl) | (simp only [bytesL_map, List.length_map, toNat_nat, iAt_getD, bAt_getD, sAt_getD, lAt_getD, MWalk.r_fTrace, MWalk.r_fCache, List.map_append, List.map_cons, List.map_nil, List.cons_append, List.nil_append, iRow, sRow, bRow, lRow, List.map_set]; first | done | rfl)
noncomputable def sem (ls : List L) : Option (List L) := (R (RWalk.dec ls) (RWalk.dec (dropT 10 ls))).map RT.enc
theorem ok (ls q : List L) (hl : LOKs Ev.cells pats ls) (h : sem ls = some q) : ∃ n, runF E live Tryz.f21 res n (initS pats ls) = some q := by
  obtain ⟨v, hv, hq⟩ := map_some h
  obtain ⟨⟨a0, a1⟩, hg, e, hm⟩ := ofM_some hv
  simp only [rf, Prod.mk.injEq] at e
  obtain ⟨e0, e1⟩ := e
  have hn := okF a0 a1 hg
  refine ⟨0, (run_eq 0 ls).trans ?_⟩
  rw [← e0, ← e1]
  rw [hn, ← hq, hm]; rfl
noncomputable def con : Con := ⟨pats, res, sem⟩
theorem chk : fnB Tryz.f21 con 17 = true := by kernel_rfl
theorem valid_ : Valid Tryz.prog Ev 21 con := valid mix tab_ok (.cons spec_EqualTraces.valid_ (.cons spec_EqualCaches.valid_ .nil)) Tryz.func21 chk live ok
theorem md_eq (a0 : MWalk) (a1 : MWalk) : md a0 a1 = eqB a0 a1 := by
  unfold md
  cases a0; cases a1
  rw [Bool.eq_iff_iff]
  simp [eqB_iff, ba_beq, MWalk.mk.injEq, spec_EqualTraces.md_eq, spec_EqualCaches.md_eq]
  try (constructor <;> (intro h; simp_all))
end spec_EqualWalks
/-! slices.Equal[[]int,int] -/
namespace slices_Equal_Sint_int
inductive Pt where
  | p0 (a : List (List L)) (b : List (List L)) (c : Int) (d : Int)
def pid : Pt → Nat
  | .p0 .. => 4
def pvs : Pt → List V
  | .p0 a b c d => [.sl none 3 a, .sl none 3 b, .int .i64 c, .int .i64 d]
def phs : Pt → List Root
  | .p0 a b c d => []
noncomputable def step (J : Pt → Ans) : Pt → Ans
  | .p0 a b c d => (bif (decide (d < c)) then (bif (decide ((0 : Int) ≤ d)) then (bif (decide (d < (a.length : Int))) then (bif (decide ((0 : Int) ≤ d)) then (bif (decide (d < (b.length : Int))) then (bif ((iAt a (Int.toNat d)) != (iAt b (Int.toNat d))) then ret (false : Bool) else J (.p0 a b c (IntKind.i64.wrap (d + 1)))) else none) else none) else none) else none) else ret (true : Bool))
noncomputable def start (J : Pt → Ans) (x0 : List (List L)) (x1 : List (List L)) : Ans := (bif ((x0.length : Int) != (x1.length : Int)) then ret (false : Bool) else J (.p0 x0 x1 (x0.length : Int) 0))
def live : Nat → Live := fun i => match i with | 4 => [(0, none), (1, none), (12, none), (13, none)] | _ => []
def pats : List Pat := [.rd (.sl 3), .rd (.sl 3)]
def res : RP := .one (.rd (.bool))
noncomputable def G : List (Nat × Con) := []
noncomputable abbrev E : Env := ⟨assoc Tab, conG G, 26⟩
set_option maxRecDepth 100000
theorem step_eq (I : Heads) (p : Pt) : enterC E live I (pid p) (bodyOf Tryz.f114) (stOf (live (pid p)) (pvs p) (phs p)) (doneK E Tryz.f114 res) = step (fun q => I (pid q) (pvs q) (phs q)) p := by
  cases p <;> kernel_rfl
theorem start_eq (I : Heads) (ls : List L) : runC E live I (bodyOf Tryz.f114) (initS pats ls) (doneK E Tryz.f114 res) = start (fun q => I (pid q) (pvs q) (phs q)) (ls.headD .hole).toSl ((dropT 1 ls).headD .hole).toSl := by kernel_rfl
theorem run_eq (n : Nat) (ls : List L) : runF E live Tryz.f114 res n (initS pats ls) = start (iter step n) (ls.headD .hole).toSl ((dropT 1 ls).headD .hole).toSl := runF_iter (id := pid) (vs := pvs) (hs := phs) (step := step) (start := fun J => start J (ls.headD .hole).toSl ((dropT 1 ls).headD .hole).toSl) step_eq (fun I => start_eq I ls) n
noncomputable def md (a0 : List Int) (a1 : List Int) : Bool := (bif ((a0.length : Int) != (a1.length : Int)) then (false : Bool) else (loopM (S := Unit) (β := Bool) (fun (i2 : Nat) (s4 : Unit) => (bif ((a0.getD i2 0) != (a1.getD i2 0)) then (.inr (false : Bool)) else (.inl ()))) (fun (s4 : Unit) => (true : Bool)) a0.length 0 ()))
def gd (a0 : List Int) (a1 : List Int) : Prop := (SmL (2 ^ 38) (fun y : Int => True) a0) ∧ (SmL (2 ^ 38) (fun y : Int => True) a1)
def rf (a : List Int × List Int) : List (List L) × List (List L) := ((a.1.map iRow), (a.2.map iRow))
theorem rf_inj (a b : List Int × List Int) (h : rf a = rf b) : a = b := by
  exact (Prod.ext (map_inj iRow_inj (congrArg (fun x => x.1) h)) (map_inj iRow_inj (congrArg (fun x => x.2) h)))
noncomputable def R (x0 : List (List L)) (x1 : List (List L)) : Option (Bool) := ofM rf (fun a => gd a.1 a.2) (fun a => (md a.1 a.2)) (x0, x1)
theorem R_eq {a0 : List Int} {a1 : List Int} (h : gd a0 a1) : R (a0.map iRow) (a1.map iRow) = some (md a0 a1) := ofM_eq (r := rf) (a := (a0, a1)) rf_inj h
theorem okF (a0 : List Int) (a1 : List Int) (hg : gd a0 a1) : ∃ n, start (iter step n) (a0.map iRow) (a1.map iRow) = ret ((md a0 a1) : Bool) := by
  unfold gd at hg
  obtain ⟨H0, H1⟩ := hg
  unfold start md
  try simp only [bytesL_map, List.length_map, toNat_nat, iAt_getD, bAt_getD, sAt_getD, lAt_getD]
  refine ex_bif (fun b : Bool => ret (b : Bool)) (fun c1 => ?_) (fun c1 => ?_)
  · have dc1 := c1
    try simp only [bne_eq_false_iff_eq, bne_iff_ne, beq_iff_eq, beq_eq_false_iff_ne, ne_eq, Bool.not_eq_true', Bool.not_eq_false'] at dc1
    refine ⟨0, ?_⟩
    all_goals first | rfl | (simp only [bytesL_map, List.length_map, toNat_nat, iAt_getD, bAt_getD, sAt_getD, lAt_getD]; done) | (simp only [List.map_append, List.map_cons, List.map_nil, List.cons_append, List.nil_append, iRow, sRow, bRow, lRow, List.map_set]; rfl) | (simp only [bytesL_map, List.length_map, toNat_nat, iAt_getD, bAt_getD, sAt_getD, lAt_getD, List.map_append, List.map_cons, List.map_nil, List.cons_append, List.nil_append, iRow, sRow, bRow, lRow, List.map_set]; first | done | rfl)
  · have dc1 := c1
    try simp only [bne_eq_false_iff_eq, bne_iff_ne, beq_iff_eq, beq_eq_false_iff_ne, ne_eq, Bool.not_eq_true', Bool.not_eq_false'] at dc1
    have Bh3 : a0.length ≤ maxLen := (by
        have := (H0).1
        try simp only [maxLen] at *
        omega)
    refine ex_pt (p := Pt.p0 (a0.map iRow) (a1.map iRow) (a0.length : Int) 0) (by first | rfl | (simp only [bytesL_map, List.length_map, toNat_nat, iAt_getD, bAt_getD, sAt_getD, lAt_getD, List.map_append, List.map_cons, List.map_nil, List.cons_append, List.nil_append, iRow, sRow, bRow, lRow, List.map_set]; done) | (simp only [List.map_append, List.map_cons, List.map_nil, List.cons_append, List.nil_append, iRow, sRow, bRow, lRow, List.map_set]; rfl)) ?_
    refine loopM_ok (pt := fun (i2 : Nat) (s4 : Unit) => Pt.p0 (a0.map iRow) (a1.map iRow) (a0.length : Int) (i2 : Int)) (s := (() : Unit)) (out := (fun b : Bool => ret (b : Bool))) (fun _ _ => True) (fun J i2 s4 h3 hih3 => ?_) (fun s4 hih3 => ?_) trivial
    · simp only [step, bytesL_map, List.length_map, toNat_nat, iAt_getD, bAt_getD, sAt_getD, lAt_getD]
      have bb_ := Bh3
      simp only [maxLen] at bb_
      have := (H0).1
      refine Rnd.yes (by apply decide_eq_true; omega) ?_
      refine Rnd.yes (by
          refine decide_eq_true ?_
          try simp (disch := omega) only [List.sum_cons, List.sum_nil, List.map_cons, List.map_nil, bytesI_length, bytesL_length, List.length_append, List.length_cons, List.length_nil, List.length_map, List.length_set, List.length_replicate, List.length_take, List.length_drop, Go.IntWalk.i64_in]
          first | omega | (simp; done) | (simp; omega)) ?_
      refine Rnd.yes (by
          have := (H0).1
          refine decide_eq_true ?_
          try simp (disch := omega) only [List.sum_cons, List.sum_nil, List.map_cons, List.map_nil, bytesI_length, bytesL_length, List.length_append, List.length_cons, List.length_nil, List.length_map, List.length_set, List.length_replicate, List.length_take, List.length_drop, Go.IntWalk.i64_in]
          first | omega | (simp; done) | (simp; omega)) ?_
      refine Rnd.yes (by
          refine decide_eq_true ?_
          try simp (disch := omega) only [List.sum_cons, List.sum_nil, List.map_cons, List.map_nil, bytesI_length, bytesL_length, List.length_append, List.length_cons, List.length_nil, List.length_map, List.length_set, List.length_replicate, List.length_take, List.length_drop, Go.IntWalk.i64_in]
          first | omega | (simp; done) | (simp; omega)) ?_
      refine Rnd.yes (by
          have := (H1).1
          refine decide_eq_true ?_
          try simp (disch := omega) only [List.sum_cons, List.sum_nil, List.map_cons, List.map_nil, bytesI_length, bytesL_length, List.length_append, List.length_cons, List.length_nil, List.length_map, List.length_set, List.length_replicate, List.length_take, List.length_drop, Go.IntWalk.i64_in]
          first | omega | (simp; done) | (simp; omega)) ?_
      refine Rnd.bif (fun c5 => ?_) (fun c5 => ?_)
      · have dc5 := c5
        try simp only [bne_eq_false_iff_eq, bne_iff_ne, beq_iff_eq, beq_eq_false_iff_ne, ne_eq, Bool.not_eq_true', Bool.not_eq_false'] at dc5
        refine Rnd.inr ?_
        all_goals first | rfl | (simp only [bytesL_map, List.length_map, toNat_nat, iAt_getD, bAt_getD, sAt_getD, lAt_getD]; done) | (simp only [List.map_append, List.map_cons, List.map_nil, List.cons_append, List.nil_append, iRow, sRow, bRow, lRow, List.map_set]; rfl) | (simp only [bytesL_map, List.length_map, toNat_nat, iAt_getD, bAt_getD, sAt_getD, lAt_getD, List.map_append, List.map_cons, List.map_nil, List.cons_append, List.nil_append, iRow, sRow, bRow, lRow, List.map_set]; first | done | rfl)
      · have dc5 := c5
        try simp only [bne_eq_false_iff_eq, bne_iff_ne, beq_iff_eq, beq_eq_false_iff_ne, ne_eq, Bool.not_eq_true', Bool.not_eq_false'] at dc5
        refine Rnd.inl trivial ?_
        rw [wrap_succ h3 Bh3]
        all_goals first | rfl | (simp only [bytesL_map, List.length_map, toNat_nat, iAt_getD, bAt_getD, sAt_getD, lAt_getD]; done) | (simp only [List.map_append, List.map_cons, List.map_nil, List.cons_append, List.nil_append, iRow, sRow, bRow, lRow, List.map_set]; rfl) | (simp only [bytesL_map, List.length_map, toNat_nat, iAt_getD, bAt_getD, sAt_getD, lAt_getD, List.map_append, List.map_cons, List.map_nil, List.cons_append, List.nil_append, iRow, sRow, bRow, lRow, List.map_set]; first | done | rfl)
    · simp only [step, bytesL_map, List.length_map, toNat_nat, iAt_getD, bAt_getD, sAt_getD, lAt_getD]
      have := (H0).1
      refine ex_no (by apply decide_eq_false; omega) ?_
      refine ⟨0, ?_⟩
      all_goals first | rfl | (simp only [bytesL_map, List.length_map, toNat_nat, iAt_getD, bAt_getD, sAt_getD, lAt_getD]; done) | (simp only [List.map_append, List.map_cons, List.map_nil, List.cons_append, List.nil_append, iRow, sRow, bRow, lRow, List.map_set]; rfl) | (simp only [bytesL_map, List.length_map, toNat_nat, iAt_getD, bAt_getD, sAt_getD, lAt_getD, List.map_append, List.map_cons, List.map_nil, List.cons_append, List.nil_append, iRow, sRow, bRow, lRow, List.map_set]; first | done | rfl)
noncomputable def sem (ls : List L) : Option (List L) := (R (ls.headD .hole).toSl ((dropT 1 ls).headD .hole).toSl).map RT.enc
theorem ok (ls q : List L) (hl : LOKs Ev.cells pats ls) (h : sem ls = some q) : ∃ n, runF E live Tryz.f114 res n (initS pats ls) = some q := by
  obtain ⟨v, hv, hq⟩ := map_some h
  obtain ⟨⟨a0, a1⟩, hg, e, hm⟩ := ofM_some hv
  simp only [rf, Prod.mk.injEq] at e
  obtain ⟨e0, e1⟩ := e
  obtain ⟨n, hn⟩ := okF a0 a1 hg
  refine ⟨n, (run_eq n ls).trans ?_⟩
  rw [← e0, ← e1]
  rw [hn, ← hq, hm]; rfl
noncomputable def con : Con := ⟨pats, res, sem⟩
theorem chk : fnB Tryz.f114 con 26 = true := by kernel_rfl
theorem valid_ : Valid Tryz.prog Ev 114 con := valid mix tab_ok .nil Tryz.func114 chk live ok
theorem md_eq (a0 : List Int) (a1 : List Int) : md a0 a1 = eqB a0 a1 := by
  unfold md
  refine loop_eqB (0) (fun i s h h2 => ?_) (fun s => rfl)
  simp only [bne, int_beq, bool_beq, ba_beq]
  cases eqB _ _ <;> rfl
end slices_Equal_Sint_int
/-! impl.EqualKeys -/
namespace impl_EqualKeys
noncomputable def F (x0 : RKeys) (x1 : RKeys) : Ans := (call (slices_Equal_Sint_int.R x0.fList x1.fList) fun v1 => (bif v1 then ret ((x0.fNeed == x1.fNeed) : Bool) else ret (false : Bool)))
def live : Nat → Live := fun _ => []
def pats : List Pat := [.agg [.sl 3, .int .i64], .agg [.sl 3, .int .i64]]
def res : RP := .one (.rd (.bool))
noncomputable def G : List (Nat × Con) := [(114, slices_Equal_Sint_int.con)]
noncomputable abbrev E : Env := ⟨assoc Tab, conG G, 17⟩
set_option maxRecDepth 100000
theorem run_eq (n : Nat) (ls : List L) : runF E live Tryz.f139 res n (initS pats ls) = F (RKeys.dec ls) (RKeys.dec (dropT 2 ls)) := by kernel_rfl
noncomputable def md (a0 : MKeys) (a1 : MKeys) : Bool := (bif (slices_Equal_Sint_int.md a0.fList a1.fList) then ((a0.fNeed == a1.fNeed) : Bool) else (false : Bool))
def gd (a0 : MKeys) (a1 : MKeys) : Prop := (MKeys.Sm (2 ^ 21) a0) ∧ (MKeys.Sm (2 ^ 21) a1)
def rf (a : MKeys × MKeys) : RKeys × RKeys := ((MKeys.r a.1), (MKeys.r a.2))
theorem rf_inj (a b : MKeys × MKeys) (h : rf a = rf b) : a = b := by
  exact (Prod.ext (MKeys.r_inj (congrArg (fun x => x.1) h)) (MKeys.r_inj (congrArg (fun x => x.2) h)))
noncomputable def R (x0 : RKeys) (x1 : RKeys) : Option (Bool) := ofM rf (fun a => gd a.1 a.2) (fun a => (md a.1 a.2)) (x0, x1)
theorem R_eq {a0 : MKeys} {a1 : MKeys} (h : gd a0 a1) : R (MKeys.r a0) (MKeys.r a1) = some (md a0 a1) := ofM_eq (r := rf) (a := (a0, a1)) rf_inj h
theorem okF (a0 : MKeys) (a1 : MKeys) (hg : gd a0 a1) : F (MKeys.r a0) (MKeys.r a1) = ret ((md a0 a1) : Bool) := by
  unfold gd at hg
  obtain ⟨H0, H1⟩ := hg
  unfold F md
  try simp only [bytesL_map, List.length_map, toNat_nat, iAt_getD, bAt_getD, sAt_getD, lAt_getD, MKeys.r_fList, MKeys.r_fNeed]
  refine call_to (slices_Equal_Sint_int.md a0.fList a1.fList) ?_ ?_
  · have R_ := slices_Equal_Sint_int.R_eq (a0 := a0.fList) (a1 := a1.fList) ⟨(H0.mono (by decide) (fun x hx => trivial)), (H1.mono (by decide) (fun x hx => trivial))⟩
    first | exact R_ | (simp only [List.map_append, List.map_cons, List.map_nil, List.cons_append, List.nil_append, iRow, sRow, bRow, lRow, List.map_set, bytesL_map, List.length_map, toNat_nat, iAt_getD, bAt_getD, sAt_getD, lAt_getD, MKeys.r_fList, MKeys.r_fNeed] at R_ ⊢; first | exact R_ | (rw [← R_]; rfl))
  try simp only [bytesL_map, List.length_map, toNat_nat, iAt_getD, bAt_getD, sAt_getD, lAt_getD, MKeys.r_fList, MKeys.r_fNeed]
  refine bif_out (fun b : Bool => ret (b : Bool)) (fun c1 => ?_) (fun c1 => ?_)
  · all_goals first | rfl | (simp only [bytesL_map, List.length_map, toNat_nat, iAt_getD, bAt_getD, sAt_getD, lAt_getD, MKeys.r_fList, MKeys.r_fNeed]; done) | (simp only [List.map_append, List.map_cons, List.map_nil, List.cons_append, List.nil_append, iRow, sRow, bRow, lRow, List.map_set]; rfl) | (simp only [bytesL_map, List.length_map, toNat_nat, iAt_getD, bAt_getD, sAt_getD, lAt_getD, MKeys.r_fList, MKeys.r_fNeed, List.map_append, List.map_cons, List.map_nil, List.cons_append, List.nil_append, iRow, sRow, bRow, lRow, List.map_set]; first | done | rfl)
  · all_goals first | rfl | (simp only [bytesL_map, List.length_map, toNat_nat, iAt_getD, bAt_getD, sAt_getD, lAt_getD, MKeys.r_fList, MKeys.r_fNeed]; done) | (simp only [List.map_append, List.map_cons, List.map_nil, List.cons_append, List.nil_append, iRow, sRow, bRow, lRow, List.map_set]; rfl) | (simp only [bytesL_map, List.length_map, toNat_nat, iAt_getD, bAt_getD, sAt_getD, lAt_getD, MKeys.r_fList, MKeys.r_fNeed, List.map_append, List.map_cons, List.map_nil, List.cons_append, List.nil_append, iRow, sRow, bRow, lRow, List.map_set]; first | done | rfl)
noncomputable def sem (ls : List L) : Option (List L) := (R (RKeys.dec ls) (RKeys.dec (dropT 2 ls))).map RT.enc
theorem ok (ls q : List L) (hl : LOKs Ev.cells pats ls) (h : sem ls = some q) : ∃ n, runF E live Tryz.f139 res n (initS pats ls) = some q := by
  obtain ⟨v, hv, hq⟩ := map_some h
  obtain ⟨⟨a0, a1⟩, hg, e, hm⟩ := ofM_some hv
  simp only [rf, Prod.mk.injEq] at e
  obtain ⟨e0, e1⟩ := e
  have hn := okF a0 a1 hg
  refine ⟨0, (run_eq 0 ls).trans ?_⟩
  rw [← e0, ← e1]
  rw [hn, ← hq, hm]; rfl
noncomputable def con : Con := ⟨pats, res, sem⟩
theorem chk : fnB Tryz.f139 con 17 = true := by kernel_rfl
theorem valid_ : Valid Tryz.prog Ev 139 con := valid mix tab_ok (.cons slices_Equal_Sint_int.valid_ .nil) Tryz.func139 chk live ok
theorem md_eq (a0 : MKeys) (a1 : MKeys) : md a0 a1 = eqB a0 a1 := by
  unfold md
  cases a0; cases a1
  rw [Bool.eq_iff_iff]
  simp [eqB_iff, ba_beq, MKeys.mk.injEq, slices_Equal_Sint_int.md_eq]
  try (constructor <;> (intro h; simp_all))
end impl_EqualKeys
/-! impl.KeysInts -/
namespace impl_KeysInts
noncomputable def F (x0 : RKeys) : Ans := (bif (lim (((2 : Int) + (x0.fList.length : Int)) * 8)) then ret (([[L.int x0.fNeed], [L.int (x0.fList.length : Int)]] ++ x0.fList) : List (List L)) else none)
def live : Nat → Live := fun _ => []
def pats : List Pat := [.agg [.sl 3, .int .i64]]
def res : RP := .one (.fr 3)
noncomputable def G : List (Nat × Con) := []
noncomputable abbrev E : Env := ⟨assoc Tab, conG G, 12⟩
set_option maxRecDepth 100000
theorem run_eq (n : Nat) (ls : List L) : runF E live Tryz.f193 res n (initS pats ls) = F (RKeys.dec ls) := by kernel_rfl
noncomputable def md (a0 : MKeys) : List Int := ([a0.fNeed, (a0.fList.length : Int)] ++ a0.fList)
def gd (a0 : MKeys) : Prop := (MKeys.Sm (2 ^ 21) a0)
def rf (a : MKeys) : RKeys := (MKeys.r a)
theorem rf_inj (a b : MKeys) (h : rf a = rf b) : a = b := by
  exact (MKeys.r_inj h)
noncomputable def R (x0 : RKeys) : Option (List (List L)) := ofM rf (fun a => gd a) (fun a => ((md a).map iRow)) x0
theorem R_eq {a0 : MKeys} (h : gd a0) : R (MKeys.r a0) = some ((md a0).map iRow) := ofM_eq (r := rf) (a := a0) rf_inj h
theorem okF (a0 : MKeys) (hg : gd a0) : F (MKeys.r a0) = ret (((md a0).map iRow) : List (List L)) := by
  unfold gd at hg
  have H0 := hg
  unfold F md
  try simp only [bytesL_map, List.length_map, toNat_nat, iAt_getD, bAt_getD, sAt_getD, lAt_getD, MKeys.r_fList, MKeys.r_fNeed]
  refine yes_ret (by
      have := (H0).1
      refine lim_t ?_
      try simp (disch := omega) only [List.sum_cons, List.sum_nil, List.map_cons, List.map_nil, bytesI_length, bytesL_length, List.length_append, List.length_cons, List.length_nil, List.length_map, List.length_set, List.length_replicate, List.length_take, List.length_drop, Go.IntWalk.i64_in]
      first | omega | (simp; done) | (simp; omega)) ?_
  all_goals first | rfl | (simp only [bytesL_map, List.length_map, toNat_nat, iAt_getD, bAt_getD, sAt_getD, lAt_getD, MKeys.r_fList, MKeys.r_fNeed]; done) | (simp only [List.map_append, List.map_cons, List.map_nil, List.cons_append, List.nil_append, iRow, sRow, bRow, lRow, List.map_set]; rfl) | (simp only [bytesL_map, List.length_map, toNat_nat, iAt_getD, bAt_getD, sAt_getD, lAt_getD, MKeys.r_fList, MKeys.r_fNeed, List.map_append, List.map_cons, List.map_nil, List.cons_append, List.nil_append, iRow, sRow, bRow, lRow, List.map_set]; first | done | rfl)
noncomputable def sem (ls : List L) : Option (List L) := (R (RKeys.dec ls)).map RT.enc
theorem ok (ls q : List L) (hl : LOKs Ev.cells pats ls) (h : sem ls = some q) : ∃ n, runF E live Tryz.f193 res n (initS pats ls) = some q := by
  obtain ⟨v, hv, hq⟩ := map_some h
  obtain ⟨a0, hg, e, hm⟩ := ofM_some hv
  have e0 : (MKeys.r a0) = _ := e
  have hn := okF a0 hg
  refine ⟨0, (run_eq 0 ls).trans ?_⟩
  rw [← e0]
  rw [hn, ← hq, hm]; rfl
noncomputable def con : Con := ⟨pats, res, sem⟩
theorem chk : fnB Tryz.f193 con 12 = true := by kernel_rfl
theorem valid_ : Valid Tryz.prog Ev 193 con := valid mix tab_ok .nil Tryz.func193 chk live ok
theorem len (a0 : MKeys) : (md a0).length = 2 + a0.fList.length := by simp [md]; omega
theorem br (a0 : MKeys) : md a0 = spec_KeysInts.md a0 := by
  unfold md spec_KeysInts.md
  first
  | (simp only [id]; done)
  | (simp only [id]; rfl)
  | rfl
end impl_KeysInts
/-! impl.bit -/
namespace impl_bit
noncomputable def F (x0 : Bool) : Ans := (bif x0 then ret (1 : Int) else ret (0 : Int))
def live : Nat → Live := fun _ => []
def pats : List Pat := [.rd (.bool)]
def res : RP := .one (.rd (.int .i64))
noncomputable def G : List (Nat × Con) := []
noncomputable abbrev E : Env := ⟨assoc Tab, conG G, 4⟩
set_option maxRecDepth 100000
theorem run_eq (n : Nat) (ls : List L) : runF E live Tryz.f194 res n (initS pats ls) = F (ls.headD .hole).toBool := by kernel_rfl
noncomputable def md (a0 : Bool) : Int := (bif a0 then (1 : Int) else (0 : Int))
def gd (a0 : Bool) : Prop := True
def rf (a : Bool) : Bool := a
theorem rf_inj (a b : Bool) (h : rf a = rf b) : a = b := by
  exact h
noncomputable def R (x0 : Bool) : Option (Int) := ofM rf (fun a => gd a) (fun a => (md a)) x0
theorem R_eq {a0 : Bool} (h : gd a0) : R a0 = some (md a0) := ofM_eq (r := rf) (a := a0) rf_inj h
theorem okF (a0 : Bool) (hg : gd a0) : F a0 = ret ((md a0) : Int) := by
  unfold F md
  try simp only [bytesL_map, List.length_map, toNat_nat, iAt_getD, bAt_getD, sAt_getD, lAt_getD]
  refine bif_out (fun b : Int => ret (b : Int)) (fun c1 => ?_) (fun c1 => ?_)
  · all_goals first | rfl | (simp only [bytesL_map, List.length_map, toNat_nat, iAt_getD, bAt_getD, sAt_getD, lAt_getD]; done) | (simp only [List.map_append, List.map_cons, List.map_nil, List.cons_append, List.nil_append, iRow, sRow, bRow, lRow, List.map_set]; rfl) | (simp only [bytesL_map, List.length_map, toNat_nat, iAt_getD, bAt_getD, sAt_getD, lAt_getD, List.map_append, List.map_cons, List.map_nil, List.cons_append, List.nil_append, iRow, sRow, bRow, lRow, List.map_set]; first | done | rfl)
  · all_goals first | rfl | (simp only [bytesL_map, List.length_map, toNat_nat, iAt_getD, bAt_getD, sAt_getD, lAt_getD]; done) | (simp only [List.map_append, List.map_cons, List.map_nil, List.cons_append, List.nil_append, iRow, sRow, bRow, lRow, List.map_set]; rfl) | (simp only [bytesL_map, List.length_map, toNat_nat, iAt_getD, bAt_getD, sAt_getD, lAt_getD, List.map_append, List.map_cons, List.map_nil, List.cons_append, List.nil_append, iRow, sRow, bRow, lRow, List.map_set]; first | done | rfl)
noncomputable def sem (ls : List L) : Option (List L) := (R (ls.headD .hole).toBool).map RT.enc
theorem ok (ls q : List L) (hl : LOKs Ev.cells pats ls) (h : sem ls = some q) : ∃ n, runF E live Tryz.f194 res n (initS pats ls) = some q := by
  obtain ⟨v, hv, hq⟩ := map_some h
  obtain ⟨a0, hg, e, hm⟩ := ofM_some hv
  have e0 : a0 = _ := e
  have hn := okF a0 hg
  refine ⟨0, (run_eq 0 ls).trans ?_⟩
  rw [← e0]
  rw [hn, ← hq, hm]; rfl
noncomputable def con : Con := ⟨pats, res, sem⟩
theorem chk : fnB Tryz.f194 con 4 = true := by kernel_rfl
theorem valid_ : Valid Tryz.prog Ev 194 con := valid mix tab_ok .nil Tryz.func194 chk live ok
end impl_bit
namespace slices_Grow_Sint_int
set_option maxHeartbeats 1000000 in
set_option maxRecDepth 100000 in
open Go.RowKit in
theorem calls0 (b : Option Addr) (w : World) : Calls Tryz.prog 239 #[.slice b 0 0, .int .i64 0] w fun e w' => e = .returned (.slice b 0 0) ∧ w' = w := by
  go_enter Tryz.func239, Tryz.ntmps239
  go_wp2
  go_ret
  exact ⟨rfl, rfl⟩
theorem size3 : Tryz.t3.size = 1 := by kernel_rfl
theorem bytes3 : Tryz.t3.bytes = 8 := by kernel_rfl
set_option maxHeartbeats 1000000 in
set_option maxRecDepth 100000 in
open Go.RowKit in
theorem calls1 (b : Option Addr) (n : Nat) (w : World) (h0 : 0 < n) (h1 : n * 8 ≤ 140737488355328) : Calls Tryz.prog 239 #[.slice b 0 0, .int .i64 n] w fun e w' => e = .returned (.slice (some ⟨w.heap.size, 0, none⟩) 0 (grownCap w n 0 3)) ∧ w' = (w.drew.alloc (.cells (Builtin.zeroCells #[.int .i64 0] n ++ Builtin.zeroCells #[.int .i64 0] (grownCap w n 0 3 - n)) 3)) := by
  have hp : (0 : Int) < n := by omega
  have hnn : ¬ ((n : Int) < 0) := by omega
  have hold : (Builtin.firstCells Tryz.t3.size 0 (.slice b 0 0)).run Tryz.prog w.drew = .ok ([] : List Value).toArray w.drew := by
    cases b with
    | none => exact run_firstCells_none _ _ _ _ _
    | some b => exact run_firstCells_some _ _ _ _ _ _ [] (by simp) (fun j v hj => by simp at hj)
  have H := fun ty => Lib.run_append_grow_zeros (P := Tryz.prog) w 45 3 ty 3 Tryz.t3 (.int .i64 0) .i64 .i64 (by kernel_rfl) (by kernel_rfl) (by kernel_rfl) (by kernel_rfl) b 0 0 [] hold n h0 (by rw [size3]; omega) (by omega) (by omega) (by rw [bytes3]; omega) (by
    rw [Nat.zero_add, nextslicecap_zero h0, bytes3]; omega)
  simp only [Nat.zero_add, Array.empty_append] at H
  have H2 := Lib.hid H
  clear H hold
  go_enter Tryz.func239, Tryz.ntmps239
  go_wp2_with (at_builtin; refine Lib.wpList_append_run _ rfl _ _ _ _ rfl _ _ rfl rfl _ _ (H2.out _) ?_)
  go_ret
  exact ⟨rfl, rfl⟩
noncomputable def md (_ : Int) : List Int := []
noncomputable def R (x0 : Int) : Option (List (List L)) := bif decide (0 ≤ x0) && decide (x0 * 8 ≤ 140737488355328) then some [] else none
theorem R_eq {a0 : Int} (h : 0 ≤ a0 ∧ a0 * 8 ≤ 140737488355328) : R a0 = some [] := by simp [R, h.1, h.2]
noncomputable def sem : List L → Option (List L)
  | [y0] => (R y0.toInt).map RT.enc
  | _ => none
noncomputable def con : Con := ⟨[.nil, .rd (.int .i64)], .one (.fr 3), sem⟩
theorem cells3 : Ev.cells 3 = [.int .i64] := by kernel_rfl
theorem valid_ : Valid Tryz.prog Ev 239 con := by
  refine valid_row ⟨Tryz.f239, Tryz.func239, by kernel_rfl, by kernel_rfl⟩ rfl fun ls r w vs Z hs hf => ?_
  simp only [con] at hs
  unfold sem at hs
  split at hs
  · rename_i y
    obtain ⟨v, hv, hq⟩ := map_some hs
    unfold R at hv
    cases hc : (decide (0 ≤ y.toInt) && decide (y.toInt * 8 ≤ 140737488355328)) <;> simp only [hc, cond_true, cond_false] at hv
    · cases hv
    injection hv with hv
    subst hv
    subst hq
    simp only [Bool.and_eq_true, decide_eq_true_eq] at hc
    cases hf with
    | cons h1 ht =>
      cases ht with
      | cons h2 ht =>
        cases ht
        obtain ⟨b, rfl⟩ := (show V0 Ev.cells w (A0 Z w) .nil _ from h1)
        have e2 : _ = Value.int .i64 y.toInt := h2
        subst e2
        obtain ⟨n, hn⟩ : ∃ n : Nat, y.toInt = n := ⟨y.toInt.toNat, by omega⟩
        rw [hn] at hc ⊢
        rcases Nat.eq_zero_or_pos n with h0 | h0
        · subst h0
          exact (calls0 b w).mono fun e w' ⟨h3, h4⟩ => ⟨_, fun _ => False, h3, by rw [h4]; exact Fr.refl _ _, fun b hb => hb.elim, .nil _ _ _ _ rfl⟩
        · refine (calls1 b n w h0 (by omega)).mono fun e w' ⟨h3, h4⟩ => ⟨_, fun b => b = w.heap.size, h3, ?_, fun b hb => ?_, ?_⟩
          · rw [h4]; exact ((Fr.refl w _).drew).alloc _
          · subst hb; rw [h4]; simp
          · have hge := grownCap_ge w n 0 3
            have hle : grownCap w n 0 3 ≤ maxLen := grownCap_le_maxLen w n 0 3 (by simp only [maxLen]; omega)
            rw [h4]
            refine .sl _ 3 0 _ w.heap.size 3 _ _ (fun _ _ => Go.undef) (fun _ _ _ => False) rfl (Nat.zero_le _) hle (heap_alloc_new w.drew _) ?_ rfl (fun _ _ _ h => h.elim) (fun _ _ _ _ _ h => h.elim) (fun i j k hi => by omega) (fun i j k hi => by omega)
            rw [cells3]
            simp only [Array.size_append, size_zeroCells, List.length_singleton]
            simp
            omega
  · cases hs
end slices_Grow_Sint_int
/-! slices.Concat[[]int,int] -/
namespace slices_Concat_Sint_int
inductive Pt where
  | p0 (a : List (List L)) (b : Int) (c : List (List L)) (d : Int) (e : Int)
  | p1 (a : List (List L)) (b : Int) (c : Int) (d : List (List L))
def pid : Pt → Nat
  | .p0 .. => 3
  | .p1 .. => 11
def pvs : Pt → List V
  | .p0 a b c d e => [.sl none 45 a, .int .i64 b, .sl none 45 c, .int .i64 d, .int .i64 e]
  | .p1 a b c d => [.own 0, .sl none 45 a, .int .i64 b, .int .i64 c]
def phs : Pt → List Root
  | .p0 a b c d e => []
  | .p1 a b c d => [.row 3 d]
noncomputable def step (J : Pt → Ans) : Pt → Ans
  | .p0 a b c d e => (bif (decide (e < d)) then (bif (decide ((0 : Int) ≤ e)) then (bif (decide (e < (c.length : Int))) then (bif (decide ((IntKind.i64.wrap (b + ((lAt c (Int.toNat e)).length : Int))) < 0)) then none else J (.p0 a (IntKind.i64.wrap (b + ((lAt c (Int.toNat e)).length : Int))) c d (IntKind.i64.wrap (e + 1)))) else none) else none) else (call (slices_Grow_Sint_int.R b) fun v1 => J (.p1 a (a.length : Int) 0 v1)))
  | .p1 a b c d => (bif (decide (c < b)) then (bif (decide ((0 : Int) ≤ c)) then (bif (decide (c < (a.length : Int))) then (bif (lim (((d.length : Int) + ((lAt a (Int.toNat c)).length : Int)) * 8)) then J (.p1 a b (IntKind.i64.wrap (c + 1)) (d ++ (lAt a (Int.toNat c)))) else none) else none) else none) else ret (d : List (List L)))
noncomputable def start (J : Pt → Ans) (x0 : List (List L)) : Ans := J (.p0 x0 0 x0 (x0.length : Int) 0)
def live : Nat → Live := fun i => match i with | 3 => [(0, none), (3, none), (9, none), (10, none), (11, none)] | 11 => [(6, none), (25, none), (26, none), (27, none)] | _ => []
def pats : List Pat := [.rd (.sl 45)]
def res : RP := .one (.fr 3)
noncomputable def G : List (Nat × Con) := [(239, slices_Grow_Sint_int.con)]
noncomputable abbrev E : Env := ⟨assoc Tab, conG G, 36⟩
set_option maxRecDepth 100000
theorem step_eq (I : Heads) (p : Pt) : enterC E live I (pid p) (bodyOf Tryz.f192) (stOf (live (pid p)) (pvs p) (phs p)) (doneK E Tryz.f192 res) = step (fun q => I (pid q) (pvs q) (phs q)) p := by
  cases p <;> kernel_rfl
theorem start_eq (I : Heads) (ls : List L) : runC E live I (bodyOf Tryz.f192) (initS pats ls) (doneK E Tryz.f192 res) = start (fun q => I (pid q) (pvs q) (phs q)) (ls.headD .hole).toSl := by kernel_rfl
theorem run_eq (n : Nat) (ls : List L) : runF E live Tryz.f192 res n (initS pats ls) = start (iter step n) (ls.headD .hole).toSl := runF_iter (id := pid) (vs := pvs) (hs := phs) (step := step) (start := fun J => start J (ls.headD .hole).toSl) step_eq (fun I => start_eq I ls) n
noncomputable def md (a0 : List (List Int)) : List Int := a0.flatten
def gd (a0 : List (List Int)) : Prop := a0.length ≤ 8 ∧ ∀ x ∈ a0, x.length ≤ 2 ^ 40
def rf (a : List (List Int)) : List (List L) := (a.map (lRow iRow))
theorem rf_inj (a b : List (List Int)) (h : rf a = rf b) : a = b := by
  exact (map_inj (lRow_inj iRow_inj) h)
noncomputable def R (x0 : List (List L)) : Option (List (List L)) := ofM rf (fun a => gd a) (fun a => ((md a).map iRow)) x0
theorem R_eq {a0 : List (List Int)} (h : gd a0) : R (a0.map (lRow iRow)) = some ((md a0).map iRow) := ofM_eq (r := rf) (a := a0) rf_inj h
theorem okF (a0 : List (List Int)) (hg : gd a0) : ∃ n, start (iter step n) (a0.map (lRow iRow)) = ret (((md a0).map iRow) : List (List L)) := by
  obtain ⟨hl, hx⟩ := hg
  have hs : ∀ i, i ≤ a0.length → ((a0.take i).map List.length).sum ≤ i * 2 ^ 40 := by
    intro i
    induction i with
    | zero => intro _; simp
    | succ i ih =>
      intro hi
      rw [List.take_succ_eq_append_getElem (by omega)]
      have h1 := hx a0[i] (List.getElem_mem _)
      have h2 := ih (by omega)
      simp only [List.map_append, List.map_cons, List.map_nil, List.sum_append, List.sum_cons, List.sum_nil]
      omega
  have hstep : ∀ i (h : i < a0.length), ((a0.take (i + 1)).map List.length).sum = ((a0.take i).map List.length).sum + a0[i].length := by
    intro i hi
    rw [List.take_succ_eq_append_getElem (by omega)]
    simp only [List.map_append, List.map_cons, List.map_nil, List.sum_append, List.sum_cons, List.sum_nil]
    omega
  have hf : ∀ i, (a0.take i).flatten.length = ((a0.take i).map List.length).sum := fun i => List.length_flatten
  have second : ∀ k i, i + k = a0.length → ∃ n, iter step n (Pt.p1 (a0.map (lRow iRow)) (a0.length : Int) (i : Int) ((a0.take i).flatten.map iRow)) = ret (a0.flatten.map iRow : List (List L)) := by
    intro k
    induction k with
    | zero =>
      intro i hi
      obtain rfl : i = a0.length := by omega
      refine ⟨1, ?_⟩
      show step (iter step 0) (Pt.p1 _ _ _ _) = _
      simp only [step]
      refine no_ret (by simp) ?_
      rw [List.take_length]
    | succ k ih =>
      intro i hi
      obtain ⟨n, hn⟩ := ih (i + 1) (by omega)
      refine ⟨n + 1, ?_⟩
      show step (iter step n) (Pt.p1 _ _ _ _) = _
      have hlt : i < a0.length := by omega
      have b1 := hs (i + 1) (by omega)
      have b2 := hstep i hlt
      simp only [step, List.length_map, toNat_nat, lAt_getD]
      refine yes_ret (by simp; omega) (yes_ret (by simp) (yes_ret (by simp; omega) (yes_ret (lim_t ?_) ?_)))
      · rw [getD_lt hlt, hf]; omega
      · rw [wrap_succ hlt (by simp only [maxLen]; omega), getD_lt hlt, ← List.map_append]
        have e : (a0.take i).flatten ++ a0[i] = (a0.take (i + 1)).flatten := by
          rw [List.take_succ_eq_append_getElem (by omega)]
          simp only [List.flatten_append, List.flatten_cons, List.flatten_nil, List.append_nil]
        rw [e]; exact hn
  have first : ∀ k i, i + k = a0.length → ∃ n, iter step n (Pt.p0 (a0.map (lRow iRow)) ((((a0.take i).map List.length).sum : Nat) : Int) (a0.map (lRow iRow)) (a0.length : Int) (i : Int)) = ret (a0.flatten.map iRow : List (List L)) := by
    intro k
    induction k with
    | zero =>
      intro i hi
      obtain rfl : i = a0.length := by omega
      obtain ⟨n, hn⟩ := second a0.length 0 (by omega)
      refine ⟨n + 1, ?_⟩
      show step (iter step n) (Pt.p0 _ _ _ _ _) = _
      have b1 := hs a0.length (by omega)
      simp only [step]
      refine no_ret (by simp) (call_to [] (slices_Grow_Sint_int.R_eq ⟨by omega, by omega⟩) ?_)
      simpa using hn
    | succ k ih =>
      intro i hi
      obtain ⟨n, hn⟩ := ih (i + 1) (by omega)
      refine ⟨n + 1, ?_⟩
      show step (iter step n) (Pt.p0 _ _ _ _ _) = _
      have hlt : i < a0.length := by omega
      have b1 := hs (i + 1) (by omega)
      have b2 := hstep i hlt
      simp only [step, List.length_map, toNat_nat, lAt_getD, getD_lt hlt]
      have e : IntKind.i64.wrap (((((a0.take i).map List.length).sum : Nat) : Int) + (a0[i].length : Int)) = ((((a0.take (i + 1)).map List.length).sum : Nat) : Int) := by
        rw [Go.IntWalk.i64_in _ (by omega)]; omega
      rw [e]
      refine yes_ret (by simp; omega) (yes_ret (by simp) (yes_ret (by simp; omega) (no_ret (by simp) ?_)))
      rw [wrap_succ hlt (by simp only [maxLen]; omega)]
      exact hn
  unfold md
  obtain ⟨n, hn⟩ := first a0.length 0 (by omega)
  refine ⟨n, ?_⟩
  unfold start
  simpa using hn
noncomputable def sem (ls : List L) : Option (List L) := (R (ls.headD .hole).toSl).map RT.enc
theorem ok (ls q : List L) (hl : LOKs Ev.cells pats ls) (h : sem ls = some q) : ∃ n, runF E live Tryz.f192 res n (initS pats ls) = some q := by
  obtain ⟨v, hv, hq⟩ := map_some h
  obtain ⟨a0, hg, e, hm⟩ := ofM_some hv
  have e0 : (a0.map (lRow iRow)) = _ := e
  obtain ⟨n, hn⟩ := okF a0 hg
  refine ⟨n, (run_eq n ls).trans ?_⟩
  rw [← e0]
  rw [hn, ← hq, hm]; rfl
noncomputable def con : Con := ⟨pats, res, sem⟩
theorem chk : fnB Tryz.f192 con 36 = true := by kernel_rfl
theorem valid_ : Valid Tryz.prog Ev 192 con := valid mix tab_ok (.cons slices_Grow_Sint_int.valid_ .nil) Tryz.func192 chk live ok
theorem len (a0 : List (List Int)) : (md a0).length = (a0.map List.length).sum := by simp [md]
end slices_Concat_Sint_int
/-! impl.HeadInts -/
namespace impl_HeadInts
noncomputable def F (x0 : RHead) : Ans := (call (impl_KeysInts.R x0.fKeys) fun v1 => (call (impl_KeysInts.R x0.fHeirs) fun v2 => (call (impl_KeysInts.R x0.fJudge) fun v3 => (call (impl_bit.R x0.fFrozen) fun v4 => (call (slices_Concat_Sint_int.R [[L.sl [[L.int x0.fZone], [L.int x0.fEpoch], [L.int x0.fKind], [L.int x0.fTime], [L.int x0.fUntil], [L.int x0.fCount], [L.int x0.fRoot], [L.int x0.fPrev]]], [L.sl v1], [L.sl v2], [L.sl [[L.int x0.fWait]]], [L.sl v3], [L.sl [[L.int v4]]]]) fun v5 => ret (v5 : List (List L)))))))
def live : Nat → Live := fun _ => []
def pats : List Pat := [.agg [.int .i64, .int .i64, .int .i64, .int .i64, .int .i64, .int .i64, .int .i64, .int .i64, .sl 3, .int .i64, .sl 3, .int .i64, .int .i64, .sl 3, .int .i64, .bool]]
def res : RP := .one (.fr 3)
noncomputable def G : List (Nat × Con) := [(193, impl_KeysInts.con), (194, impl_bit.con), (192, slices_Concat_Sint_int.con)]
noncomputable abbrev E : Env := ⟨assoc Tab, conG G, 38⟩
set_option maxRecDepth 100000
theorem run_eq (n : Nat) (ls : List L) : runF E live Tryz.f140 res n (initS pats ls) = F (RHead.dec ls) := by kernel_rfl
noncomputable def md (a0 : MHead) : List Int := (slices_Concat_Sint_int.md [[a0.fZone, a0.fEpoch, a0.fKind, a0.fTime, a0.fUntil, a0.fCount, a0.fRoot, a0.fPrev], (impl_KeysInts.md a0.fKeys), (impl_KeysInts.md a0.fHeirs), [a0.fWait], (impl_KeysInts.md a0.fJudge), [(impl_bit.md a0.fFrozen)]])
def gd (a0 : MHead) : Prop := (MHead.Sm (2 ^ 21) a0)
def rf (a : MHead) : RHead := (MHead.r a)
theorem rf_inj (a b : MHead) (h : rf a = rf b) : a = b := by
  exact (MHead.r_inj h)
noncomputable def R (x0 : RHead) : Option (List (List L)) := ofM rf (fun a => gd a) (fun a => ((md a).map iRow)) x0
theorem R_eq {a0 : MHead} (h : gd a0) : R (MHead.r a0) = some ((md a0).map iRow) := ofM_eq (r := rf) (a := a0) rf_inj h
theorem okF (a0 : MHead) (hg : gd a0) : F (MHead.r a0) = ret (((md a0).map iRow) : List (List L)) := by
  unfold gd at hg
  have H0 := hg
  unfold F md
  try simp only [bytesL_map, List.length_map, toNat_nat, iAt_getD, bAt_getD, sAt_getD, lAt_getD, MHead.r_fZone, MHead.r_fEpoch, MHead.r_fKind, MHead.r_fTime, MHead.r_fUntil, MHead.r_fCount, MHead.r_fRoot, MHead.r_fPrev, MHead.r_fKeys, MHead.r_fHeirs, MHead.r_fWait, MHead.r_fJudge, MHead.r_fFrozen]
  refine call_to ((impl_KeysInts.md a0.fKeys).map iRow) ?_ ?_
  · have R_ := impl_KeysInts.R_eq (a0 := a0.fKeys) H0.1
    first | exact R_ | (simp only [List.map_append, List.map_cons, List.map_nil, List.cons_append, List.nil_append, iRow, sRow, bRow, lRow, List.map_set, bytesL_map, List.length_map, toNat_nat, iAt_getD, bAt_getD, sAt_getD, lAt_getD, MHead.r_fZone, MHead.r_fEpoch, MHead.r_fKind, MHead.r_fTime, MHead.r_fUntil, MHead.r_fCount, MHead.r_fRoot, MHead.r_fPrev, MHead.r_fKeys, MHead.r_fHeirs, MHead.r_fWait, MHead.r_fJudge, MHead.r_fFrozen] at R_ ⊢; first | exact R_ | (rw [← R_]; rfl))
  try simp only [bytesL_map, List.length_map, toNat_nat, iAt_getD, bAt_getD, sAt_getD, lAt_getD, MHead.r_fZone, MHead.r_fEpoch, MHead.r_fKind, MHead.r_fTime, MHead.r_fUntil, MHead.r_fCount, MHead.r_fRoot, MHead.r_fPrev, MHead.r_fKeys, MHead.r_fHeirs, MHead.r_fWait, MHead.r_fJudge, MHead.r_fFrozen]
  refine call_to ((impl_KeysInts.md a0.fHeirs).map iRow) ?_ ?_
  · have R_ := impl_KeysInts.R_eq (a0 := a0.fHeirs) H0.2.1
    first | exact R_ | (simp only [List.map_append, List.map_cons, List.map_nil, List.cons_append, List.nil_append, iRow, sRow, bRow, lRow, List.map_set, bytesL_map, List.length_map, toNat_nat, iAt_getD, bAt_getD, sAt_getD, lAt_getD, MHead.r_fZone, MHead.r_fEpoch, MHead.r_fKind, MHead.r_fTime, MHead.r_fUntil, MHead.r_fCount, MHead.r_fRoot, MHead.r_fPrev, MHead.r_fKeys, MHead.r_fHeirs, MHead.r_fWait, MHead.r_fJudge, MHead.r_fFrozen] at R_ ⊢; first | exact R_ | (rw [← R_]; rfl))
  try simp only [bytesL_map, List.length_map, toNat_nat, iAt_getD, bAt_getD, sAt_getD, lAt_getD, MHead.r_fZone, MHead.r_fEpoch, MHead.r_fKind, MHead.r_fTime, MHead.r_fUntil, MHead.r_fCount, MHead.r_fRoot, MHead.r_fPrev, MHead.r_fKeys, MHead.r_fHeirs, MHead.r_fWait, MHead.r_fJudge, MHead.r_fFrozen]
  refine call_to ((impl_KeysInts.md a0.fJudge).map iRow) ?_ ?_
  · have R_ := impl_KeysInts.R_eq (a0 := a0.fJudge) H0.2.2
    first | exact R_ | (simp only [List.map_append, List.map_cons, List.map_nil, List.cons_append, List.nil_append, iRow, sRow, bRow, lRow, List.map_set, bytesL_map, List.length_map, toNat_nat, iAt_getD, bAt_getD, sAt_getD, lAt_getD, MHead.r_fZone, MHead.r_fEpoch, MHead.r_fKind, MHead.r_fTime, MHead.r_fUntil, MHead.r_fCount, MHead.r_fRoot, MHead.r_fPrev, MHead.r_fKeys, MHead.r_fHeirs, MHead.r_fWait, MHead.r_fJudge, MHead.r_fFrozen] at R_ ⊢; first | exact R_ | (rw [← R_]; rfl))
  try simp only [bytesL_map, List.length_map, toNat_nat, iAt_getD, bAt_getD, sAt_getD, lAt_getD, MHead.r_fZone, MHead.r_fEpoch, MHead.r_fKind, MHead.r_fTime, MHead.r_fUntil, MHead.r_fCount, MHead.r_fRoot, MHead.r_fPrev, MHead.r_fKeys, MHead.r_fHeirs, MHead.r_fWait, MHead.r_fJudge, MHead.r_fFrozen]
  refine call_to (impl_bit.md a0.fFrozen) ?_ ?_
  · have R_ := impl_bit.R_eq (a0 := a0.fFrozen) trivial
    first | exact R_ | (simp only [List.map_append, List.map_cons, List.map_nil, List.cons_append, List.nil_append, iRow, sRow, bRow, lRow, List.map_set, bytesL_map, List.length_map, toNat_nat, iAt_getD, bAt_getD, sAt_getD, lAt_getD, MHead.r_fZone, MHead.r_fEpoch, MHead.r_fKind, MHead.r_fTime, MHead.r_fUntil, MHead.r_fCount, MHead.r_fRoot, MHead.r_fPrev, MHead.r_fKeys, MHead.r_fHeirs, MHead.r_fWait, MHead.r_fJudge, MHead.r_fFrozen] at R_ ⊢; first | exact R_ | (rw [← R_]; rfl))
  try simp only [bytesL_map, List.length_map, toNat_nat, iAt_getD, bAt_getD, sAt_getD, lAt_getD, MHead.r_fZone, MHead.r_fEpoch, MHead.r_fKind, MHead.r_fTime, MHead.r_fUntil, MHead.r_fCount, MHead.r_fRoot, MHead.r_fPrev, MHead.r_fKeys, MHead.r_fHeirs, MHead.r_fWait, MHead.r_fJudge, MHead.r_fFrozen]
  refine call_to ((slices_Concat_Sint_int.md [[a0.fZone, a0.fEpoch, a0.fKind, a0.fTime, a0.fUntil, a0.fCount, a0.fRoot, a0.fPrev], (impl_KeysInts.md a0.fKeys), (impl_KeysInts.md a0.fHeirs), [a0.fWait], (impl_KeysInts.md a0.fJudge), [(impl_bit.md a0.fFrozen)]]).map iRow) ?_ ?_
  · have R_ := slices_Concat_Sint_int.R_eq (a0 := [[a0.fZone, a0.fEpoch, a0.fKind, a0.fTime, a0.fUntil, a0.fCount, a0.fRoot, a0.fPrev], (impl_KeysInts.md a0.fKeys), (impl_KeysInts.md a0.fHeirs), [a0.fWait], (impl_KeysInts.md a0.fJudge), [(impl_bit.md a0.fFrozen)]]) ⟨(by simp), (by
        have := impl_KeysInts.len a0.fKeys
        have := (H0.1).1
        have := impl_KeysInts.len a0.fHeirs
        have := (H0.2.1).1
        have := impl_KeysInts.len a0.fJudge
        have := (H0.2.2).1
        intro x_ hx_
        simp only [List.mem_cons, List.not_mem_nil, or_false] at hx_
        rcases hx_ with hx_ | hx_ | hx_ | hx_ | hx_ | hx_
        all_goals (subst hx_; first | omega | (simp only [List.sum_cons, List.sum_nil, List.map_cons, List.map_nil, bytesI_length, bytesL_length, List.length_append, List.length_cons, List.length_nil, List.length_map, List.length_set, List.length_replicate, List.length_take, List.length_drop]; omega)))⟩
    first | exact R_ | (simp only [List.map_append, List.map_cons, List.map_nil, List.cons_append, List.nil_append, iRow, sRow, bRow, lRow, List.map_set, bytesL_map, List.length_map, toNat_nat, iAt_getD, bAt_getD, sAt_getD, lAt_getD, MHead.r_fZone, MHead.r_fEpoch, MHead.r_fKind, MHead.r_fTime, MHead.r_fUntil, MHead.r_fCount, MHead.r_fRoot, MHead.r_fPrev, MHead.r_fKeys, MHead.r_fHeirs, MHead.r_fWait, MHead.r_fJudge, MHead.r_fFrozen] at R_ ⊢; first | exact R_ | (rw [← R_]; rfl))
  try simp only [bytesL_map, List.length_map, toNat_nat, iAt_getD, bAt_getD, sAt_getD, lAt_getD, MHead.r_fZone, MHead.r_fEpoch, MHead.r_fKind, MHead.r_fTime, MHead.r_fUntil, MHead.r_fCount, MHead.r_fRoot, MHead.r_fPrev, MHead.r_fKeys, MHead.r_fHeirs, MHead.r_fWait, MHead.r_fJudge, MHead.r_fFrozen]
  all_goals first | rfl | (simp only [bytesL_map, List.length_map, toNat_nat, iAt_getD, bAt_getD, sAt_getD, lAt_getD, MHead.r_fZone, MHead.r_fEpoch, MHead.r_fKind, MHead.r_fTime, MHead.r_fUntil, MHead.r_fCount, MHead.r_fRoot, MHead.r_fPrev, MHead.r_fKeys, MHead.r_fHeirs, MHead.r_fWait, MHead.r_fJudge, MHead.r_fFrozen]; done) | (simp only [List.map_append, List.map_cons, List.map_nil, List.cons_append, List.nil_append, iRow, sRow, bRow, lRow, List.map_set]; rfl) | (simp only [bytesL_map, List.length_map, toNat_nat, iAt_getD, bAt_getD, sAt_getD, lAt_getD, MHead.r_fZone, MHead.r_fEpoch, MHead.r_fKind, MHead.r_fTime, MHead.r_fUntil, MHead.r_fCount, MHead.r_fRoot, MHead.r_fPrev, MHead.r_fKeys, MHead.r_fHeirs, MHead.r_fWait, MHead.r_fJudge, MHead.r_fFrozen, List.map_append, List.map_cons, List.map_nil, List.cons_append, List.nil_append, iRow, sRow, bRow, lRow, List.map_set]; first | done | rfl)
noncomputable def sem (ls : List L) : Option (List L) := (R (RHead.dec ls)).map RT.enc
theorem ok (ls q : List L) (hl : LOKs Ev.cells pats ls) (h : sem ls = some q) : ∃ n, runF E live Tryz.f140 res n (initS pats ls) = some q := by
  obtain ⟨v, hv, hq⟩ := map_some h
  obtain ⟨a0, hg, e, hm⟩ := ofM_some hv
  have e0 : (MHead.r a0) = _ := e
  have hn := okF a0 hg
  refine ⟨0, (run_eq 0 ls).trans ?_⟩
  rw [← e0]
  rw [hn, ← hq, hm]; rfl
noncomputable def con : Con := ⟨pats, res, sem⟩
theorem chk : fnB Tryz.f140 con 38 = true := by kernel_rfl
theorem valid_ : Valid Tryz.prog Ev 140 con := valid mix tab_ok (.cons impl_KeysInts.valid_ (.cons impl_bit.valid_ (.cons slices_Concat_Sint_int.valid_ .nil))) Tryz.func140 chk live ok
theorem len (a0 : MHead) : (md a0).length = 16 + a0.fKeys.fList.length + a0.fHeirs.fList.length + a0.fJudge.fList.length := by unfold md; simp [slices_Concat_Sint_int.md, impl_KeysInts.len]; omega
theorem br (a0 : MHead) : md a0 = spec_HeadInts.md a0 := by
  rw [spec_HeadInts.md_form]
  unfold md slices_Concat_Sint_int.md
  simp only [impl_KeysInts.br, impl_bit.md, List.flatten_cons, List.flatten_nil, List.cons_append, List.nil_append, List.append_nil]
end impl_HeadInts
/-! impl.EqualHeads -/
namespace impl_EqualHeads
noncomputable def F (x0 : RHead) (x1 : RHead) : Ans := (call (impl_EqualKeys.R x0.fKeys x1.fKeys) fun v1 => (bif v1 then (call (impl_EqualKeys.R x0.fHeirs x1.fHeirs) fun v2 => (bif v2 then (call (impl_EqualKeys.R x0.fJudge x1.fJudge) fun v3 => (bif v3 then (call (impl_HeadInts.R x0) fun v4 => (call (impl_HeadInts.R x1) fun v5 => (call (slices_Equal_Sint_int.R v4 v5) fun v6 => ret (v6 : Bool)))) else ret (false : Bool))) else ret (false : Bool))) else ret (false : Bool)))
def live : Nat → Live := fun _ => []
def pats : List Pat := [.agg [.int .i64, .int .i64, .int .i64, .int .i64, .int .i64, .int .i64, .int .i64, .int .i64, .sl 3, .int .i64, .sl 3, .int .i64, .int .i64, .sl 3, .int .i64, .bool], .agg [.int .i64, .int .i64, .int .i64, .int .i64, .int .i64, .int .i64, .int .i64, .int .i64, .sl 3, .int .i64, .sl 3, .int .i64, .int .i64, .sl 3, .int .i64, .bool]]
def res : RP := .one (.rd (.bool))
noncomputable def G : List (Nat × Con) := [(139, impl_EqualKeys.con), (140, impl_HeadInts.con), (114, slices_Equal_Sint_int.con)]
noncomputable abbrev E : Env := ⟨assoc Tab, conG G, 31⟩
set_option maxRecDepth 100000
theorem run_eq (n : Nat) (ls : List L) : runF E live Tryz.f93 res n (initS pats ls) = F (RHead.dec ls) (RHead.dec (dropT 16 ls)) := by kernel_rfl
noncomputable def md (a0 : MHead) (a1 : MHead) : Bool := (bif (impl_EqualKeys.md a0.fKeys a1.fKeys) then (bif (impl_EqualKeys.md a0.fHeirs a1.fHeirs) then (bif (impl_EqualKeys.md a0.fJudge a1.fJudge) then ((slices_Equal_Sint_int.md (impl_HeadInts.md a0) (impl_HeadInts.md a1)) : Bool) else (false : Bool)) else (false : Bool)) else (false : Bool))
def gd (a0 : MHead) (a1 : MHead) : Prop := (MHead.Sm (2 ^ 21) a0) ∧ (MHead.Sm (2 ^ 21) a1)
def rf (a : MHead × MHead) : RHead × RHead := ((MHead.r a.1), (MHead.r a.2))
theorem rf_inj (a b : MHead × MHead) (h : rf a = rf b) : a = b := by
  exact (Prod.ext (MHead.r_inj (congrArg (fun x => x.1) h)) (MHead.r_inj (congrArg (fun x => x.2) h)))
noncomputable def R (x0 : RHead) (x1 : RHead) : Option (Bool) := ofM rf (fun a => gd a.1 a.2) (fun a => (md a.1 a.2)) (x0, x1)
theorem R_eq {a0 : MHead} {a1 : MHead} (h : gd a0 a1) : R (MHead.r a0) (MHead.r a1) = some (md a0 a1) := ofM_eq (r := rf) (a := (a0, a1)) rf_inj h
theorem okF (a0 : MHead) (a1 : MHead) (hg : gd a0 a1) : F (MHead.r a0) (MHead.r a1) = ret ((md a0 a1) : Bool) := by
  unfold gd at hg
  obtain ⟨H0, H1⟩ := hg
  unfold F md
  try simp only [bytesL_map, List.length_map, toNat_nat, iAt_getD, bAt_getD, sAt_getD, lAt_getD, MHead.r_fKeys, MHead.r_fHeirs, MHead.r_fJudge]
  refine call_to (impl_EqualKeys.md a0.fKeys a1.fKeys) ?_ ?_
  · have R_ := impl_EqualKeys.R_eq (a0 := a0.fKeys) (a1 := a1.fKeys) ⟨H0.1, H1.1⟩
    first | exact R_ | (simp only [List.map_append, List.map_cons, List.map_nil, List.cons_append, List.nil_append, iRow, sRow, bRow, lRow, List.map_set, bytesL_map, List.length_map, toNat_nat, iAt_getD, bAt_getD, sAt_getD, lAt_getD, MHead.r_fKeys, MHead.r_fHeirs, MHead.r_fJudge] at R_ ⊢; first | exact R_ | (rw [← R_]; rfl))
  try simp only [bytesL_map, List.length_map, toNat_nat, iAt_getD, bAt_getD, sAt_getD, lAt_getD, MHead.r_fKeys, MHead.r_fHeirs, MHead.r_fJudge]
  refine bif_out (fun b : Bool => ret (b : Bool)) (fun c1 => ?_) (fun c1 => ?_)
  · refine call_to (impl_EqualKeys.md a0.fHeirs a1.fHeirs) ?_ ?_
    · have R_ := impl_EqualKeys.R_eq (a0 := a0.fHeirs) (a1 := a1.fHeirs) ⟨H0.2.1, H1.2.1⟩
      first | exact R_ | (simp only [List.map_append, List.map_cons, List.map_nil, List.cons_append, List.nil_append, iRow, sRow, bRow, lRow, List.map_set, bytesL_map, List.length_map, toNat_nat, iAt_getD, bAt_getD, sAt_getD, lAt_getD, MHead.r_fKeys, MHead.r_fHeirs, MHead.r_fJudge] at R_ ⊢; first | exact R_ | (rw [← R_]; rfl))
    try simp only [bytesL_map, List.length_map, toNat_nat, iAt_getD, bAt_getD, sAt_getD, lAt_getD, MHead.r_fKeys, MHead.r_fHeirs, MHead.r_fJudge]
    refine bif_out (fun b : Bool => ret (b : Bool)) (fun c2 => ?_) (fun c2 => ?_)
    · refine call_to (impl_EqualKeys.md a0.fJudge a1.fJudge) ?_ ?_
      · have R_ := impl_EqualKeys.R_eq (a0 := a0.fJudge) (a1 := a1.fJudge) ⟨H0.2.2, H1.2.2⟩
        first | exact R_ | (simp only [List.map_append, List.map_cons, List.map_nil, List.cons_append, List.nil_append, iRow, sRow, bRow, lRow, List.map_set, bytesL_map, List.length_map, toNat_nat, iAt_getD, bAt_getD, sAt_getD, lAt_getD, MHead.r_fKeys, MHead.r_fHeirs, MHead.r_fJudge] at R_ ⊢; first | exact R_ | (rw [← R_]; rfl))
      try simp only [bytesL_map, List.length_map, toNat_nat, iAt_getD, bAt_getD, sAt_getD, lAt_getD, MHead.r_fKeys, MHead.r_fHeirs, MHead.r_fJudge]
      refine bif_out (fun b : Bool => ret (b : Bool)) (fun c3 => ?_) (fun c3 => ?_)
      · refine call_to ((impl_HeadInts.md a0).map iRow) ?_ ?_
        · have R_ := impl_HeadInts.R_eq (a0 := a0) H0
          first | exact R_ | (simp only [List.map_append, List.map_cons, List.map_nil, List.cons_append, List.nil_append, iRow, sRow, bRow, lRow, List.map_set, bytesL_map, List.length_map, toNat_nat, iAt_getD, bAt_getD, sAt_getD, lAt_getD, MHead.r_fKeys, MHead.r_fHeirs, MHead.r_fJudge] at R_ ⊢; first | exact R_ | (rw [← R_]; rfl))
        try simp only [bytesL_map, List.length_map, toNat_nat, iAt_getD, bAt_getD, sAt_getD, lAt_getD, MHead.r_fKeys, MHead.r_fHeirs, MHead.r_fJudge]
        refine call_to ((impl_HeadInts.md a1).map iRow) ?_ ?_
        · have R_ := impl_HeadInts.R_eq (a0 := a1) H1
          first | exact R_ | (simp only [List.map_append, List.map_cons, List.map_nil, List.cons_append, List.nil_append, iRow, sRow, bRow, lRow, List.map_set, bytesL_map, List.length_map, toNat_nat, iAt_getD, bAt_getD, sAt_getD, lAt_getD, MHead.r_fKeys, MHead.r_fHeirs, MHead.r_fJudge] at R_ ⊢; first | exact R_ | (rw [← R_]; rfl))
        try simp only [bytesL_map, List.length_map, toNat_nat, iAt_getD, bAt_getD, sAt_getD, lAt_getD, MHead.r_fKeys, MHead.r_fHeirs, MHead.r_fJudge]
        refine call_to (slices_Equal_Sint_int.md (impl_HeadInts.md a0) (impl_HeadInts.md a1)) ?_ ?_
        · have R_ := slices_Equal_Sint_int.R_eq (a0 := (impl_HeadInts.md a0)) (a1 := (impl_HeadInts.md a1)) ⟨⟨(by
              have := impl_HeadInts.len a0
              have := (H0.1).1
              have := (H0.2.1).1
              have := (H0.2.2).1
              try simp (disch := omega) only [List.sum_cons, List.sum_nil, List.map_cons, List.map_nil, bytesI_length, bytesL_length, List.length_append, List.length_cons, List.length_nil, List.length_map, List.length_set, List.length_replicate, List.length_take, List.length_drop, Go.IntWalk.i64_in]
              first | omega | (simp; done) | (simp; omega)), fun _ _ => trivial⟩, ⟨(by
              have := impl_HeadInts.len a1
              have := (H1.1).1
              have := (H1.2.1).1
              have := (H1.2.2).1
              try simp (disch := omega) only [List.sum_cons, List.sum_nil, List.map_cons, List.map_nil, bytesI_length, bytesL_length, List.length_append, List.length_cons, List.length_nil, List.length_map, List.length_set, List.length_replicate, List.length_take, List.length_drop, Go.IntWalk.i64_in]
              first | omega | (simp; done) | (simp; omega)), fun _ _ => trivial⟩⟩
          first | exact R_ | (simp only [List.map_append, List.map_cons, List.map_nil, List.cons_append, List.nil_append, iRow, sRow, bRow, lRow, List.map_set, bytesL_map, List.length_map, toNat_nat, iAt_getD, bAt_getD, sAt_getD, lAt_getD, MHead.r_fKeys, MHead.r_fHeirs, MHead.r_fJudge] at R_ ⊢; first | exact R_ | (rw [← R_]; rfl))
        try simp only [bytesL_map, List.length_map, toNat_nat, iAt_getD, bAt_getD, sAt_getD, lAt_getD, MHead.r_fKeys, MHead.r_fHeirs, MHead.r_fJudge]
        all_goals first | rfl | (simp only [bytesL_map, List.length_map, toNat_nat, iAt_getD, bAt_getD, sAt_getD, lAt_getD, MHead.r_fKeys, MHead.r_fHeirs, MHead.r_fJudge]; done) | (simp only [List.map_append, List.map_cons, List.map_nil, List.cons_append, List.nil_append, iRow, sRow, bRow, lRow, List.map_set]; rfl) | (simp only [bytesL_map, List.length_map, toNat_nat, iAt_getD, bAt_getD, sAt_getD, lAt_getD, MHead.r_fKeys, MHead.r_fHeirs, MHead.r_fJudge, List.map_append, List.map_cons, List.map_nil, List.cons_append, List.nil_append, iRow, sRow, bRow, lRow, List.map_set]; first | done | rfl)
      · all_goals first | rfl | (simp only [bytesL_map, List.length_map, toNat_nat, iAt_getD, bAt_getD, sAt_getD, lAt_getD, MHead.r_fKeys, MHead.r_fHeirs, MHead.r_fJudge]; done) | (simp only [List.map_append, List.map_cons, List.map_nil, List.cons_append, List.nil_append, iRow, sRow, bRow, lRow, List.map_set]; rfl) | (simp only [bytesL_map, List.length_map, toNat_nat, iAt_getD, bAt_getD, sAt_getD, lAt_getD, MHead.r_fKeys, MHead.r_fHeirs, MHead.r_fJudge, List.map_append, List.map_cons, List.map_nil, List.cons_append, List.nil_append, iRow, sRow, bRow, lRow, List.map_set]; first | done | rfl)
    · all_goals first | rfl | (simp only [bytesL_map, List.length_map, toNat_nat, iAt_getD, bAt_getD, sAt_getD, lAt_getD, MHead.r_fKeys, MHead.r_fHeirs, MHead.r_fJudge]; done) | (simp only [List.map_append, List.map_cons, List.map_nil, List.cons_append, List.nil_append, iRow, sRow, bRow, lRow, List.map_set]; rfl) | (simp only [bytesL_map, List.length_map, toNat_nat, iAt_getD, bAt_getD, sAt_getD, lAt_getD, MHead.r_fKeys, MHead.r_fHeirs, MHead.r_fJudge, List.map_append, List.map_cons, List.map_nil, List.cons_append, List.nil_append, iRow, sRow, bRow, lRow, List.map_set]; first | done | rfl)
  · all_goals first | rfl | (simp only [bytesL_map, List.length_map, toNat_nat, iAt_getD, bAt_getD, sAt_getD, lAt_getD, MHead.r_fKeys, MHead.r_fHeirs, MHead.r_fJudge]; done) | (simp only [List.map_append, List.map_cons, List.map_nil, List.cons_append, List.nil_append, iRow, sRow, bRow, lRow, List.map_set]; rfl) | (simp only [bytesL_map, List.length_map, toNat_nat, iAt_getD, bAt_getD, sAt_getD, lAt_getD, MHead.r_fKeys, MHead.r_fHeirs, MHead.r_fJudge, List.map_append, List.map_cons, List.map_nil, List.cons_append, List.nil_append, iRow, sRow, bRow, lRow, List.map_set]; first | done | rfl)
noncomputable def sem (ls : List L) : Option (List L) := (R (RHead.dec ls) (RHead.dec (dropT 16 ls))).map RT.enc
theorem ok (ls q : List L) (hl : LOKs Ev.cells pats ls) (h : sem ls = some q) : ∃ n, runF E live Tryz.f93 res n (initS pats ls) = some q := by
  obtain ⟨v, hv, hq⟩ := map_some h
  obtain ⟨⟨a0, a1⟩, hg, e, hm⟩ := ofM_some hv
  simp only [rf, Prod.mk.injEq] at e
  obtain ⟨e0, e1⟩ := e
  have hn := okF a0 a1 hg
  refine ⟨0, (run_eq 0 ls).trans ?_⟩
  rw [← e0, ← e1]
  rw [hn, ← hq, hm]; rfl
noncomputable def con : Con := ⟨pats, res, sem⟩
theorem chk : fnB Tryz.f93 con 31 = true := by kernel_rfl
theorem valid_ : Valid Tryz.prog Ev 93 con := valid mix tab_ok (.cons impl_EqualKeys.valid_ (.cons impl_HeadInts.valid_ (.cons slices_Equal_Sint_int.valid_ .nil))) Tryz.func93 chk live ok
theorem md_eq (a0 : MHead) (a1 : MHead) : md a0 a1 = eqB a0 a1 := by
  unfold md
  simp only [slices_Equal_Sint_int.md_eq, impl_EqualKeys.md_eq, impl_HeadInts.br]
  rw [Bool.eq_iff_iff]
  constructor
  · intro h
    simp only [and_p, Bool.and_eq_true] at h
    exact eqB_iff.2 (spec_HeadInts.inj (eqB_iff.1 h.2.2.2))
  · intro h
    rw [eqB_iff] at h
    rw [h]
    simp only [eqB_refl]; rfl
end impl_EqualHeads
/-! slices.Equal[[]impl.Sig,impl.Sig] -/
namespace slices_Equal_Simpl_Sig_impl_Sig
inductive Pt where
  | p0 (a : List (List L)) (b : List (List L)) (c : Int) (d : Int)
def pid : Pt → Nat
  | .p0 .. => 4
def pvs : Pt → List V
  | .p0 a b c d => [.sl none 179 a, .sl none 179 b, .int .i64 c, .int .i64 d]
def phs : Pt → List Root
  | .p0 a b c d => []
noncomputable def step (J : Pt → Ans) : Pt → Ans
  | .p0 a b c d => (bif (decide (d < c)) then (bif (decide ((0 : Int) ≤ d)) then (bif (decide (d < (a.length : Int))) then (bif (decide ((0 : Int) ≤ d)) then (bif (decide (d < (b.length : Int))) then (bif (!((((MSig.at a (Int.toNat d)).fKey : Int) == (MSig.at b (Int.toNat d)).fKey) && ((((MSig.at a (Int.toNat d)).fTag : Int) == (MSig.at b (Int.toNat d)).fTag) && true))) then ret (false : Bool) else J (.p0 a b c (IntKind.i64.wrap (d + 1)))) else none) else none) else none) else none) else ret (true : Bool))
noncomputable def start (J : Pt → Ans) (x0 : List (List L)) (x1 : List (List L)) : Ans := (bif ((x0.length : Int) != (x1.length : Int)) then ret (false : Bool) else J (.p0 x0 x1 (x0.length : Int) 0))
def live : Nat → Live := fun i => match i with | 4 => [(0, none), (1, none), (12, none), (13, none)] | _ => []
def pats : List Pat := [.rd (.sl 179), .rd (.sl 179)]
def res : RP := .one (.rd (.bool))
noncomputable def G : List (Nat × Con) := []
noncomputable abbrev E : Env := ⟨assoc Tab, conG G, 26⟩
set_option maxRecDepth 100000
theorem step_eq (I : Heads) (p : Pt) : enterC E live I (pid p) (bodyOf Tryz.f141) (stOf (live (pid p)) (pvs p) (phs p)) (doneK E Tryz.f141 res) = step (fun q => I (pid q) (pvs q) (phs q)) p := by
  cases p <;> kernel_rfl
theorem start_eq (I : Heads) (ls : List L) : runC E live I (bodyOf Tryz.f141) (initS pats ls) (doneK E Tryz.f141 res) = start (fun q => I (pid q) (pvs q) (phs q)) (ls.headD .hole).toSl ((dropT 1 ls).headD .hole).toSl := by kernel_rfl
theorem run_eq (n : Nat) (ls : List L) : runF E live Tryz.f141 res n (initS pats ls) = start (iter step n) (ls.headD .hole).toSl ((dropT 1 ls).headD .hole).toSl := runF_iter (id := pid) (vs := pvs) (hs := phs) (step := step) (start := fun J => start J (ls.headD .hole).toSl ((dropT 1 ls).headD .hole).toSl) step_eq (fun I => start_eq I ls) n
noncomputable def md (a0 : List MSig) (a1 : List MSig) : Bool := (bif ((a0.length : Int) != (a1.length : Int)) then (false : Bool) else (loopM (S := Unit) (β := Bool) (fun (i2 : Nat) (s4 : Unit) => (bif (!((((a0.getD i2 MSig.zero).fKey : Int) == (a1.getD i2 MSig.zero).fKey) && ((((a0.getD i2 MSig.zero).fTag : Int) == (a1.getD i2 MSig.zero).fTag) && true))) then (.inr (false : Bool)) else (.inl ()))) (fun (s4 : Unit) => (true : Bool)) a0.length 0 ()))
def gd (a0 : List MSig) (a1 : List MSig) : Prop := (SmL (2 ^ 21) (fun y : MSig => MSig.Sm (2 ^ 21) y) a0) ∧ (SmL (2 ^ 21) (fun y : MSig => MSig.Sm (2 ^ 21) y) a1)
def rf (a : List MSig × List MSig) : List (List L) × List (List L) := ((a.1.map MSig.row), (a.2.map MSig.row))
theorem rf_inj (a b : List MSig × List MSig) (h : rf a = rf b) : a = b := by
  exact (Prod.ext (map_inj MSig.row_inj (congrArg (fun x => x.1) h)) (map_inj MSig.row_inj (congrArg (fun x => x.2) h)))
noncomputable def R (x0 : List (List L)) (x1 : List (List L)) : Option (Bool) := ofM rf (fun a => gd a.1 a.2) (fun a => (md a.1 a.2)) (x0, x1)
theorem R_eq {a0 : List MSig} {a1 : List MSig} (h : gd a0 a1) : R (a0.map MSig.row) (a1.map MSig.row) = some (md a0 a1) := ofM_eq (r := rf) (a := (a0, a1)) rf_inj h
theorem okF (a0 : List MSig) (a1 : List MSig) (hg : gd a0 a1) : ∃ n, start (iter step n) (a0.map MSig.row) (a1.map MSig.row) = ret ((md a0 a1) : Bool) := by
  unfold gd at hg
  obtain ⟨H0, H1⟩ := hg
  unfold start md
  try simp only [bytesL_map, List.length_map, toNat_nat, iAt_getD, bAt_getD, sAt_getD, lAt_getD, MSig.at_getD]
  refine ex_bif (fun b : Bool => ret (b : Bool)) (fun c1 => ?_) (fun c1 => ?_)
  · have dc1 := c1
    try simp only [bne_eq_false_iff_eq, bne_iff_ne, beq_iff_eq, beq_eq_false_iff_ne, ne_eq, Bool.not_eq_true', Bool.not_eq_false'] at dc1
    refine ⟨0, ?_⟩
    all_goals first | rfl | (simp only [bytesL_map, List.length_map, toNat_nat, iAt_getD, bAt_getD, sAt_getD, lAt_getD, MSig.at_getD]; done) | (simp only [List.map_append, List.map_cons, List.map_nil, List.cons_append, List.nil_append, iRow, sRow, bRow, lRow, List.map_set]; rfl) | (simp only [bytesL_map, List.length_map, toNat_nat, iAt_getD, bAt_getD, sAt_getD, lAt_getD, MSig.at_getD, List.map_append, List.map_cons, List.map_nil, List.cons_append, List.nil_append, iRow, sRow, bRow, lRow, List.map_set]; first | done | rfl)
  · have dc1 := c1
    try simp only [bne_eq_false_iff_eq, bne_iff_ne, beq_iff_eq, beq_eq_false_iff_ne, ne_eq, Bool.not_eq_true', Bool.not_eq_false'] at dc1
    have Bh3 : a0.length ≤ maxLen := (by
        have := (H0).1
        try simp only [maxLen] at *
        omega)
    refine ex_pt (p := Pt.p0 (a0.map MSig.row) (a1.map MSig.row) (a0.length : Int) 0) (by first | rfl | (simp only [bytesL_map, List.length_map, toNat_nat, iAt_getD, bAt_getD, sAt_getD, lAt_getD, MSig.at_getD, List.map_append, List.map_cons, List.map_nil, List.cons_append, List.nil_append, iRow, sRow, bRow, lRow, List.map_set]; done) | (simp only [List.map_append, List.map_cons, List.map_nil, List.cons_append, List.nil_append, iRow, sRow, bRow, lRow, List.map_set]; rfl)) ?_
    refine loopM_ok (pt := fun (i2 : Nat) (s4 : Unit) => Pt.p0 (a0.map MSig.row) (a1.map MSig.row) (a0.length : Int) (i2 : Int)) (s := (() : Unit)) (out := (fun b : Bool => ret (b : Bool))) (fun _ _ => True) (fun J i2 s4 h3 hih3 => ?_) (fun s4 hih3 => ?_) trivial
    · simp only [step, bytesL_map, List.length_map, toNat_nat, iAt_getD, bAt_getD, sAt_getD, lAt_getD, MSig.at_getD]
      have bb_ := Bh3
      simp only [maxLen] at bb_
      have := (H0).1
      refine Rnd.yes (by apply decide_eq_true; omega) ?_
      refine Rnd.yes (by
          refine decide_eq_true ?_
          try simp (disch := omega) only [List.sum_cons, List.sum_nil, List.map_cons, List.map_nil, bytesI_length, bytesL_length, List.length_append, List.length_cons, List.length_nil, List.length_map, List.length_set, List.length_replicate, List.length_take, List.length_drop, Go.IntWalk.i64_in]
          first | omega | (simp; done) | (simp; omega)) ?_
      refine Rnd.yes (by
          have := (H0).1
          refine decide_eq_true ?_
          try simp (disch := omega) only [List.sum_cons, List.sum_nil, List.map_cons, List.map_nil, bytesI_length, bytesL_length, List.length_append, List.length_cons, List.length_nil, List.length_map, List.length_set, List.length_replicate, List.length_take, List.length_drop, Go.IntWalk.i64_in]
          first | omega | (simp; done) | (simp; omega)) ?_
      refine Rnd.yes (by
          refine decide_eq_true ?_
          try simp (disch := omega) only [List.sum_cons, List.sum_nil, List.map_cons, List.map_nil, bytesI_length, bytesL_length, List.length_append, List.length_cons, List.length_nil, List.length_map, List.length_set, List.length_replicate, List.length_take, List.length_drop, Go.IntWalk.i64_in]
          first | omega | (simp; done) | (simp; omega)) ?_
      refine Rnd.yes (by
          have := (H1).1
          refine decide_eq_true ?_
          try simp (disch := omega) only [List.sum_cons, List.sum_nil, List.map_cons, List.map_nil, bytesI_length, bytesL_length, List.length_append, List.length_cons, List.length_nil, List.length_map, List.length_set, List.length_replicate, List.length_take, List.length_drop, Go.IntWalk.i64_in]
          first | omega | (simp; done) | (simp; omega)) ?_
      refine Rnd.bif (fun c5 => ?_) (fun c5 => ?_)
      · have dc5 := c5
        try simp only [bne_eq_false_iff_eq, bne_iff_ne, beq_iff_eq, beq_eq_false_iff_ne, ne_eq, Bool.not_eq_true', Bool.not_eq_false'] at dc5
        refine Rnd.inr ?_
        all_goals first | rfl | (simp only [bytesL_map, List.length_map, toNat_nat, iAt_getD, bAt_getD, sAt_getD, lAt_getD, MSig.at_getD]; done) | (simp only [List.map_append, List.map_cons, List.map_nil, List.cons_append, List.nil_append, iRow, sRow, bRow, lRow, List.map_set]; rfl) | (simp only [bytesL_map, List.length_map, toNat_nat, iAt_getD, bAt_getD, sAt_getD, lAt_getD, MSig.at_getD, List.map_append, List.map_cons, List.map_nil, List.cons_append, List.nil_append, iRow, sRow, bRow, lRow, List.map_set]; first | done | rfl)
      · have dc5 := c5
        try simp only [bne_eq_false_iff_eq, bne_iff_ne, beq_iff_eq, beq_eq_false_iff_ne, ne_eq, Bool.not_eq_true', Bool.not_eq_false'] at dc5
        refine Rnd.inl trivial ?_
        rw [wrap_succ h3 Bh3]
        all_goals first | rfl | (simp only [bytesL_map, List.length_map, toNat_nat, iAt_getD, bAt_getD, sAt_getD, lAt_getD, MSig.at_getD]; done) | (simp only [List.map_append, List.map_cons, List.map_nil, List.cons_append, List.nil_append, iRow, sRow, bRow, lRow, List.map_set]; rfl) | (simp only [bytesL_map, List.length_map, toNat_nat, iAt_getD, bAt_getD, sAt_getD, lAt_getD, MSig.at_getD, List.map_append, List.map_cons, List.map_nil, List.cons_append, List.nil_append, iRow, sRow, bRow, lRow, List.map_set]; first | done | rfl)
    · simp only [step, bytesL_map, List.length_map, toNat_nat, iAt_getD, bAt_getD, sAt_getD, lAt_getD, MSig.at_getD]
      have := (H0).1
      refine ex_no (by apply decide_eq_false; omega) ?_
      refine ⟨0, ?_⟩
      all_goals first | rfl | (simp only [bytesL_map, List.length_map, toNat_nat, iAt_getD, bAt_getD, sAt_getD, lAt_getD, MSig.at_getD]; done) | (simp only [List.map_append, List.map_cons, List.map_nil, List.cons_append, List.nil_append, iRow, sRow, bRow, lRow, List.map_set]; rfl) | (simp only [bytesL_map, List.length_map, toNat_nat, iAt_getD, bAt_getD, sAt_getD, lAt_getD, MSig.at_getD, List.map_append, List.map_cons, List.map_nil, List.cons_append, List.nil_append, iRow, sRow, bRow, lRow, List.map_set]; first | done | rfl)
noncomputable def sem (ls : List L) : Option (List L) := (R (ls.headD .hole).toSl ((dropT 1 ls).headD .hole).toSl).map RT.enc
theorem ok (ls q : List L) (hl : LOKs Ev.cells pats ls) (h : sem ls = some q) : ∃ n, runF E live Tryz.f141 res n (initS pats ls) = some q := by
  obtain ⟨v, hv, hq⟩ := map_some h
  obtain ⟨⟨a0, a1⟩, hg, e, hm⟩ := ofM_some hv
  simp only [rf, Prod.mk.injEq] at e
  obtain ⟨e0, e1⟩ := e
  obtain ⟨n, hn⟩ := okF a0 a1 hg
  refine ⟨n, (run_eq n ls).trans ?_⟩
  rw [← e0, ← e1]
  rw [hn, ← hq, hm]; rfl
noncomputable def con : Con := ⟨pats, res, sem⟩
theorem chk : fnB Tryz.f141 con 26 = true := by kernel_rfl
theorem valid_ : Valid Tryz.prog Ev 141 con := valid mix tab_ok .nil Tryz.func141 chk live ok
theorem md_eq (a0 : List MSig) (a1 : List MSig) : md a0 a1 = eqB a0 a1 := by
  unfold md
  refine loop_eqB (MSig.zero) (fun i s h h2 => ?_) (fun s => rfl)
  simp only [bne, int_beq, bool_beq, ba_beq, MSig.eqc]
  cases eqB _ _ <;> rfl
end slices_Equal_Simpl_Sig_impl_Sig
/-! impl.EqualSigned -/
namespace impl_EqualSigned
noncomputable def F (x0 : RSigned) (x1 : RSigned) : Ans := (call (impl_EqualHeads.R x0.fHead x1.fHead) fun v1 => (bif v1 then (call (slices_Equal_Simpl_Sig_impl_Sig.R x0.fSigs x1.fSigs) fun v2 => ret (v2 : Bool)) else ret (false : Bool)))
def live : Nat → Live := fun _ => []
def pats : List Pat := [.agg [.int .i64, .int .i64, .int .i64, .int .i64, .int .i64, .int .i64, .int .i64, .int .i64, .sl 3, .int .i64, .sl 3, .int .i64, .int .i64, .sl 3, .int .i64, .bool, .sl 179], .agg [.int .i64, .int .i64, .int .i64, .int .i64, .int .i64, .int .i64, .int .i64, .int .i64, .sl 3, .int .i64, .sl 3, .int .i64, .int .i64, .sl 3, .int .i64, .bool, .sl 179]]
def res : RP := .one (.rd (.bool))
noncomputable def G : List (Nat × Con) := [(93, impl_EqualHeads.con), (141, slices_Equal_Simpl_Sig_impl_Sig.con)]
noncomputable abbrev E : Env := ⟨assoc Tab, conG G, 17⟩
set_option maxRecDepth 100000
theorem run_eq (n : Nat) (ls : List L) : runF E live Tryz.f94 res n (initS pats ls) = F (RSigned.dec ls) (RSigned.dec (dropT 17 ls)) := by kernel_rfl
noncomputable def md (a0 : MSigned) (a1 : MSigned) : Bool := (bif (impl_EqualHeads.md a0.fHead a1.fHead) then ((slices_Equal_Simpl_Sig_impl_Sig.md a0.fSigs a1.fSigs) : Bool) else (false : Bool))
def gd (a0 : MSigned) (a1 : MSigned) : Prop := (MSigned.Sm (2 ^ 21) a0) ∧ (MSigned.Sm (2 ^ 21) a1)
def rf (a : MSigned × MSigned) : RSigned × RSigned := ((MSigned.r a.1), (MSigned.r a.2))
theorem rf_inj (a b : MSigned × MSigned) (h : rf a = rf b) : a = b := by
  exact (Prod.ext (MSigned.r_inj (congrArg (fun x => x.1) h)) (MSigned.r_inj (congrArg (fun x => x.2) h)))
noncomputable def R (x0 : RSigned) (x1 : RSigned) : Option (Bool) := ofM rf (fun a => gd a.1 a.2) (fun a => (md a.1 a.2)) (x0, x1)
theorem R_eq {a0 : MSigned} {a1 : MSigned} (h : gd a0 a1) : R (MSigned.r a0) (MSigned.r a1) = some (md a0 a1) := ofM_eq (r := rf) (a := (a0, a1)) rf_inj h
theorem okF (a0 : MSigned) (a1 : MSigned) (hg : gd a0 a1) : F (MSigned.r a0) (MSigned.r a1) = ret ((md a0 a1) : Bool) := by
  unfold gd at hg
  obtain ⟨H0, H1⟩ := hg
  unfold F md
  try simp only [bytesL_map, List.length_map, toNat_nat, iAt_getD, bAt_getD, sAt_getD, lAt_getD, MSigned.r_fHead, MSigned.r_fSigs]
  refine call_to (impl_EqualHeads.md a0.fHead a1.fHead) ?_ ?_
  · have R_ := impl_EqualHeads.R_eq (a0 := a0.fHead) (a1 := a1.fHead) ⟨H0.1, H1.1⟩
    first | exact R_ | (simp only [List.map_append, List.map_cons, List.map_nil, List.cons_append, List.nil_append, iRow, sRow, bRow, lRow, List.map_set, bytesL_map, List.length_map, toNat_nat, iAt_getD, bAt_getD, sAt_getD, lAt_getD, MSigned.r_fHead, MSigned.r_fSigs] at R_ ⊢; first | exact R_ | (rw [← R_]; rfl))
  try simp only [bytesL_map, List.length_map, toNat_nat, iAt_getD, bAt_getD, sAt_getD, lAt_getD, MSigned.r_fHead, MSigned.r_fSigs]
  refine bif_out (fun b : Bool => ret (b : Bool)) (fun c1 => ?_) (fun c1 => ?_)
  · refine call_to (slices_Equal_Simpl_Sig_impl_Sig.md a0.fSigs a1.fSigs) ?_ ?_
    · have R_ := slices_Equal_Simpl_Sig_impl_Sig.R_eq (a0 := a0.fSigs) (a1 := a1.fSigs) ⟨H0.2, H1.2⟩
      first | exact R_ | (simp only [List.map_append, List.map_cons, List.map_nil, List.cons_append, List.nil_append, iRow, sRow, bRow, lRow, List.map_set, bytesL_map, List.length_map, toNat_nat, iAt_getD, bAt_getD, sAt_getD, lAt_getD, MSigned.r_fHead, MSigned.r_fSigs] at R_ ⊢; first | exact R_ | (rw [← R_]; rfl))
    try simp only [bytesL_map, List.length_map, toNat_nat, iAt_getD, bAt_getD, sAt_getD, lAt_getD, MSigned.r_fHead, MSigned.r_fSigs]
    all_goals first | rfl | (simp only [bytesL_map, List.length_map, toNat_nat, iAt_getD, bAt_getD, sAt_getD, lAt_getD, MSigned.r_fHead, MSigned.r_fSigs]; done) | (simp only [List.map_append, List.map_cons, List.map_nil, List.cons_append, List.nil_append, iRow, sRow, bRow, lRow, List.map_set]; rfl) | (simp only [bytesL_map, List.length_map, toNat_nat, iAt_getD, bAt_getD, sAt_getD, lAt_getD, MSigned.r_fHead, MSigned.r_fSigs, List.map_append, List.map_cons, List.map_nil, List.cons_append, List.nil_append, iRow, sRow, bRow, lRow, List.map_set]; first | done | rfl)
  · all_goals first | rfl | (simp only [bytesL_map, List.length_map, toNat_nat, iAt_getD, bAt_getD, sAt_getD, lAt_getD, MSigned.r_fHead, MSigned.r_fSigs]; done) | (simp only [List.map_append, List.map_cons, List.map_nil, List.cons_append, List.nil_append, iRow, sRow, bRow, lRow, List.map_set]; rfl) | (simp only [bytesL_map, List.length_map, toNat_nat, iAt_getD, bAt_getD, sAt_getD, lAt_getD, MSigned.r_fHead, MSigned.r_fSigs, List.map_append, List.map_cons, List.map_nil, List.cons_append, List.nil_append, iRow, sRow, bRow, lRow, List.map_set]; first | done | rfl)
noncomputable def sem (ls : List L) : Option (List L) := (R (RSigned.dec ls) (RSigned.dec (dropT 17 ls))).map RT.enc
theorem ok (ls q : List L) (hl : LOKs Ev.cells pats ls) (h : sem ls = some q) : ∃ n, runF E live Tryz.f94 res n (initS pats ls) = some q := by
  obtain ⟨v, hv, hq⟩ := map_some h
  obtain ⟨⟨a0, a1⟩, hg, e, hm⟩ := ofM_some hv
  simp only [rf, Prod.mk.injEq] at e
  obtain ⟨e0, e1⟩ := e
  have hn := okF a0 a1 hg
  refine ⟨0, (run_eq 0 ls).trans ?_⟩
  rw [← e0, ← e1]
  rw [hn, ← hq, hm]; rfl
noncomputable def con : Con := ⟨pats, res, sem⟩
theorem chk : fnB Tryz.f94 con 17 = true := by kernel_rfl
theorem valid_ : Valid Tryz.prog Ev 94 con := valid mix tab_ok (.cons impl_EqualHeads.valid_ (.cons slices_Equal_Simpl_Sig_impl_Sig.valid_ .nil)) Tryz.func94 chk live ok
theorem md_eq (a0 : MSigned) (a1 : MSigned) : md a0 a1 = eqB a0 a1 := by
  unfold md
  cases a0; cases a1
  rw [Bool.eq_iff_iff]
  simp [eqB_iff, ba_beq, MSigned.mk.injEq, impl_EqualHeads.md_eq, slices_Equal_Simpl_Sig_impl_Sig.md_eq]
  try (constructor <;> (intro h; simp_all))
end impl_EqualSigned
/-! slices.EqualFunc[[]impl.Signed,[]impl.Signed,impl.Signed,impl.Signed] -/
namespace slices_EqualFunc_Simpl_Signed_Simpl_Signed_impl_Signed_impl_Signed__impl_EqualSigned
inductive Pt where
  | p0 (a : List (List L)) (b : List (List L)) (c : Int) (d : Int)
def pid : Pt → Nat
  | .p0 .. => 4
def pvs : Pt → List V
  | .p0 a b c d => [.sl none 92 a, .fn 94 [], .sl none 92 b, .int .i64 c, .int .i64 d]
def phs : Pt → List Root
  | .p0 a b c d => []
noncomputable def step (J : Pt → Ans) : Pt → Ans
  | .p0 a b c d => (bif (decide (d < c)) then (bif (decide ((0 : Int) ≤ d)) then (bif (decide (d < (b.length : Int))) then (bif (decide ((0 : Int) ≤ d)) then (bif (decide (d < (a.length : Int))) then (call (impl_EqualSigned.R (RSigned.at b (Int.toNat d)) (RSigned.at a (Int.toNat d))) fun v1 => (bif (!v1) then ret (false : Bool) else J (.p0 a b c (IntKind.i64.wrap (d + 1))))) else none) else none) else none) else none) else ret (true : Bool))
noncomputable def start (J : Pt → Ans) (x0 : List (List L)) (x1 : List (List L)) : Ans := (bif ((x0.length : Int) != (x1.length : Int)) then ret (false : Bool) else J (.p0 x1 x0 (x0.length : Int) 0))
def live : Nat → Live := fun i => match i with | 4 => [(1, none), (2, none), (15, none), (16, none), (17, none)] | _ => []
def pats : List Pat := [.rd (.sl 92), .rd (.sl 92), .fn 94 []]
def res : RP := .one (.rd (.bool))
noncomputable def G : List (Nat × Con) := [(94, impl_EqualSigned.con)]
noncomputable abbrev E : Env := ⟨assoc Tab, conG G, 32⟩
set_option maxRecDepth 100000
theorem step_eq (I : Heads) (p : Pt) : enterC E live I (pid p) (bodyOf Tryz.f208) (stOf (live (pid p)) (pvs p) (phs p)) (doneK E Tryz.f208 res) = step (fun q => I (pid q) (pvs q) (phs q)) p := by
  cases p <;> kernel_rfl
theorem start_eq (I : Heads) (ls : List L) : runC E live I (bodyOf Tryz.f208) (initS pats ls) (doneK E Tryz.f208 res) = start (fun q => I (pid q) (pvs q) (phs q)) (ls.headD .hole).toSl ((dropT 1 ls).headD .hole).toSl := by kernel_rfl
theorem run_eq (n : Nat) (ls : List L) : runF E live Tryz.f208 res n (initS pats ls) = start (iter step n) (ls.headD .hole).toSl ((dropT 1 ls).headD .hole).toSl := runF_iter (id := pid) (vs := pvs) (hs := phs) (step := step) (start := fun J => start J (ls.headD .hole).toSl ((dropT 1 ls).headD .hole).toSl) step_eq (fun I => start_eq I ls) n
noncomputable def md (a0 : List MSigned) (a1 : List MSigned) : Bool := (bif ((a0.length : Int) != (a1.length : Int)) then (false : Bool) else (loopM (S := Unit) (β := Bool) (fun (i2 : Nat) (s4 : Unit) => (bif (!(impl_EqualSigned.md (a0.getD i2 MSigned.zero) (a1.getD i2 MSigned.zero))) then (.inr (false : Bool)) else (.inl ()))) (fun (s4 : Unit) => (true : Bool)) a0.length 0 ()))
def gd (a0 : List MSigned) (a1 : List MSigned) : Prop := (SmL (2 ^ 21) (fun y : MSigned => MSigned.Sm (2 ^ 21) y) a0) ∧ (SmL (2 ^ 21) (fun y : MSigned => MSigned.Sm (2 ^ 21) y) a1)
def rf (a : List MSigned × List MSigned) : List (List L) × List (List L) := ((a.1.map MSigned.row), (a.2.map MSigned.row))
theorem rf_inj (a b : List MSigned × List MSigned) (h : rf a = rf b) : a = b := by
  exact (Prod.ext (map_inj MSigned.row_inj (congrArg (fun x => x.1) h)) (map_inj MSigned.row_inj (congrArg (fun x => x.2) h)))
noncomputable def R (x0 : List (List L)) (x1 : List (List L)) : Option (Bool) := ofM rf (fun a => gd a.1 a.2) (fun a => (md a.1 a.2)) (x0, x1)
theorem R_eq {a0 : List MSigned} {a1 : List MSigned} (h : gd a0 a1) : R (a0.map MSigned.row) (a1.map MSigned.row) = some (md a0 a1) := ofM_eq (r := rf) (a := (a0, a1)) rf_inj h
theorem okF (a0 : List MSigned) (a1 : List MSigned) (hg : gd a0 a1) : ∃ n, start (iter step n) (a0.map MSigned.row) (a1.map MSigned.row) = ret ((md a0 a1) : Bool) := by
  unfold gd at hg
  obtain ⟨H0, H1⟩ := hg
  unfold start md
  try simp only [bytesL_map, List.length_map, toNat_nat, iAt_getD, bAt_getD, sAt_getD, lAt_getD, MSigned.at_getD]
  refine ex_bif (fun b : Bool => ret (b : Bool)) (fun c1 => ?_) (fun c1 => ?_)
  · have dc1 := c1
    try simp only [bne_eq_false_iff_eq, bne_iff_ne, beq_iff_eq, beq_eq_false_iff_ne, ne_eq, Bool.not_eq_true', Bool.not_eq_false'] at dc1
    refine ⟨0, ?_⟩
    all_goals first | rfl | (simp only [bytesL_map, List.length_map, toNat_nat, iAt_getD, bAt_getD, sAt_getD, lAt_getD, MSigned.at_getD]; done) | (simp only [List.map_append, List.map_cons, List.map_nil, List.cons_append, List.nil_append, iRow, sRow, bRow, lRow, List.map_set]; rfl) | (simp only [bytesL_map, List.length_map, toNat_nat, iAt_getD, bAt_getD, sAt_getD, lAt_getD, MSigned.at_getD, List.map_append, List.map_cons, List.map_nil, List.cons_append, List.nil_append, iRow, sRow, bRow, lRow, List.map_set]; first | done | rfl)
  · have dc1 := c1
    try simp only [bne_eq_false_iff_eq, bne_iff_ne, beq_iff_eq, beq_eq_false_iff_ne, ne_eq, Bool.not_eq_true', Bool.not_eq_false'] at dc1
    have Bh3 : a0.length ≤ maxLen := (by
        have := (H0).1
        try simp only [maxLen] at *
        omega)
    refine ex_pt (p := Pt.p0 (a1.map MSigned.row) (a0.map MSigned.row) (a0.length : Int) 0) (by first | rfl | (simp only [bytesL_map, List.length_map, toNat_nat, iAt_getD, bAt_getD, sAt_getD, lAt_getD, MSigned.at_getD, List.map_append, List.map_cons, List.map_nil, List.cons_append, List.nil_append, iRow, sRow, bRow, lRow, List.map_set]; done) | (simp only [List.map_append, List.map_cons, List.map_nil, List.cons_append, List.nil_append, iRow, sRow, bRow, lRow, List.map_set]; rfl)) ?_
    refine loopM_ok (pt := fun (i2 : Nat) (s4 : Unit) => Pt.p0 (a1.map MSigned.row) (a0.map MSigned.row) (a0.length : Int) (i2 : Int)) (s := (() : Unit)) (out := (fun b : Bool => ret (b : Bool))) (fun _ _ => True) (fun J i2 s4 h3 hih3 => ?_) (fun s4 hih3 => ?_) trivial
    · simp only [step, bytesL_map, List.length_map, toNat_nat, iAt_getD, bAt_getD, sAt_getD, lAt_getD, MSigned.at_getD]
      have bb_ := Bh3
      simp only [maxLen] at bb_
      have := (H0).1
      refine Rnd.yes (by apply decide_eq_true; omega) ?_
      refine Rnd.yes (by
          refine decide_eq_true ?_
          try simp (disch := omega) only [List.sum_cons, List.sum_nil, List.map_cons, List.map_nil, bytesI_length, bytesL_length, List.length_append, List.length_cons, List.length_nil, List.length_map, List.length_set, List.length_replicate, List.length_take, List.length_drop, Go.IntWalk.i64_in]
          first | omega | (simp; done) | (simp; omega)) ?_
      refine Rnd.yes (by
          have := (H0).1
          refine decide_eq_true ?_
          try simp (disch := omega) only [List.sum_cons, List.sum_nil, List.map_cons, List.map_nil, bytesI_length, bytesL_length, List.length_append, List.length_cons, List.length_nil, List.length_map, List.length_set, List.length_replicate, List.length_take, List.length_drop, Go.IntWalk.i64_in]
          first | omega | (simp; done) | (simp; omega)) ?_
      refine Rnd.yes (by
          refine decide_eq_true ?_
          try simp (disch := omega) only [List.sum_cons, List.sum_nil, List.map_cons, List.map_nil, bytesI_length, bytesL_length, List.length_append, List.length_cons, List.length_nil, List.length_map, List.length_set, List.length_replicate, List.length_take, List.length_drop, Go.IntWalk.i64_in]
          first | omega | (simp; done) | (simp; omega)) ?_
      refine Rnd.yes (by
          have := (H1).1
          refine decide_eq_true ?_
          try simp (disch := omega) only [List.sum_cons, List.sum_nil, List.map_cons, List.map_nil, bytesI_length, bytesL_length, List.length_append, List.length_cons, List.length_nil, List.length_map, List.length_set, List.length_replicate, List.length_take, List.length_drop, Go.IntWalk.i64_in]
          first | omega | (simp; done) | (simp; omega)) ?_
      refine Rnd.call_to (impl_EqualSigned.md (a0.getD i2 MSigned.zero) (a1.getD i2 MSigned.zero)) ?_ ?_
      · have R_ := impl_EqualSigned.R_eq (a0 := (a0.getD i2 MSigned.zero)) (a1 := (a1.getD i2 MSigned.zero)) ⟨(SmL.getD (z := MSigned.zero) H0 h3), (SmL.getD (z := MSigned.zero) H1 (by first | assumption | omega | (simp (disch := omega) only [Go.IntWalk.i64_in]; omega) | (simp; omega)))⟩
        first | exact R_ | (simp only [List.map_append, List.map_cons, List.map_nil, List.cons_append, List.nil_append, iRow, sRow, bRow, lRow, List.map_set, bytesL_map, List.length_map, toNat_nat, iAt_getD, bAt_getD, sAt_getD, lAt_getD, MSigned.at_getD] at R_ ⊢; first | exact R_ | (rw [← R_]; rfl))
      try simp only [bytesL_map, List.length_map, toNat_nat, iAt_getD, bAt_getD, sAt_getD, lAt_getD, MSigned.at_getD]
      refine Rnd.bif (fun c5 => ?_) (fun c5 => ?_)
      · have dc5 := c5
        try simp only [bne_eq_false_iff_eq, bne_iff_ne, beq_iff_eq, beq_eq_false_iff_ne, ne_eq, Bool.not_eq_true', Bool.not_eq_false'] at dc5
        refine Rnd.inr ?_
        all_goals first | rfl | (simp only [bytesL_map, List.length_map, toNat_nat, iAt_getD, bAt_getD, sAt_getD, lAt_getD, MSigned.at_getD]; done) | (simp only [List.map_append, List.map_cons, List.map_nil, List.cons_append, List.nil_append, iRow, sRow, bRow, lRow, List.map_set]; rfl) | (simp only [bytesL_map, List.length_map, toNat_nat, iAt_getD, bAt_getD, sAt_getD, lAt_getD, MSigned.at_getD, List.map_append, List.map_cons, List.map_nil, List.cons_append, List.nil_append, iRow, sRow, bRow, lRow, List.map_set]; first | done | rfl)
      · have dc5 := c5
        try simp only [bne_eq_false_iff_eq, bne_iff_ne, beq_iff_eq, beq_eq_false_iff_ne, ne_eq, Bool.not_eq_true', Bool.not_eq_false'] at dc5
        refine Rnd.inl trivial ?_
        rw [wrap_succ h3 Bh3]
        all_goals first | rfl | (simp only [bytesL_map, List.length_map, toNat_nat, iAt_getD, bAt_getD, sAt_getD, lAt_getD, MSigned.at_getD]; done) | (simp only [List.map_append, List.map_cons, List.map_nil, List.cons_append, List.nil_append, iRow, sRow, bRow, lRow, List.map_set]; rfl) | (simp only [bytesL_map, List.length_map, toNat_nat, iAt_getD, bAt_getD, sAt_getD, lAt_getD, MSigned.at_getD, List.map_append, List.map_cons, List.map_nil, List.cons_append, List.nil_append, iRow, sRow, bRow, lRow, List.map_set]; first | done | rfl)
    · simp only [step, bytesL_map, List.length_map, toNat_nat, iAt_getD, bAt_getD, sAt_getD, lAt_getD, MSigned.at_getD]
      have := (H0).1
      refine ex_no (by apply decide_eq_false; omega) ?_
      refine ⟨0, ?_⟩
      all_goals first | rfl | (simp only [bytesL_map, List.length_map, toNat_nat, iAt_getD, bAt_getD, sAt_getD, lAt_getD, MSigned.at_getD]; done) | (simp only [List.map_append, List.map_cons, List.map_nil, List.cons_append, List.nil_append, iRow, sRow, bRow, lRow, List.map_set]; rfl) | (simp only [bytesL_map, List.length_map, toNat_nat, iAt_getD, bAt_getD, sAt_getD, lAt_getD, MSigned.at_getD, List.map_append, List.map_cons, List.map_nil, List.cons_append, List.nil_append, iRow, sRow, bRow, lRow, List.map_set]; first | done | rfl)
noncomputable def sem (ls : List L) : Option (List L) := (R (ls.headD .hole).toSl ((dropT 1 ls).headD .hole).toSl).map RT.enc
theorem ok (ls q : List L) (hl : LOKs Ev.cells pats ls) (h : sem ls = some q) : ∃ n, runF E live Tryz.f208 res n (initS pats ls) = some q := by
  obtain ⟨v, hv, hq⟩ := map_some h
  obtain ⟨⟨a0, a1⟩, hg, e, hm⟩ := ofM_some hv
  simp only [rf, Prod.mk.injEq] at e
  obtain ⟨e0, e1⟩ := e
  obtain ⟨n, hn⟩ := okF a0 a1 hg
  refine ⟨n, (run_eq n ls).trans ?_⟩
  rw [← e0, ← e1]
  rw [hn, ← hq, hm]; rfl
noncomputable def con : Con := ⟨pats, res, sem⟩
theorem chk : fnB Tryz.f208 con 32 = true := by kernel_rfl
theorem valid_ : Valid Tryz.prog Ev 208 con := valid mix tab_ok (.cons impl_EqualSigned.valid_ .nil) Tryz.func208 chk live ok
theorem md_eq (a0 : List MSigned) (a1 : List MSigned) : md a0 a1 = eqB a0 a1 := by
  unfold md
  refine loop_eqB (MSigned.zero) (fun i s h h2 => ?_) (fun s => rfl)
  simp only [bne, int_beq, bool_beq, ba_beq, impl_EqualSigned.md_eq]
  cases eqB _ _ <;> rfl
end slices_EqualFunc_Simpl_Signed_Simpl_Signed_impl_Signed_impl_Signed__impl_EqualSigned
/-! impl.sameChain -/
namespace impl_sameChain
noncomputable def F (x0 : List (List L)) (x1 : List (List L)) : Ans := (call (slices_EqualFunc_Simpl_Signed_Simpl_Signed_impl_Signed_impl_Signed__impl_EqualSigned.R x0 x1) fun v1 => ret (v1 : Bool))
def live : Nat → Live := fun _ => []
def pats : List Pat := [.rd (.sl 92), .rd (.sl 92)]
def res : RP := .one (.rd (.bool))
noncomputable def G : List (Nat × Con) := [(208, slices_EqualFunc_Simpl_Signed_Simpl_Signed_impl_Signed_impl_Signed__impl_EqualSigned.con)]
noncomputable abbrev E : Env := ⟨assoc Tab, conG G, 8⟩
set_option maxRecDepth 100000
theorem run_eq (n : Nat) (ls : List L) : runF E live Tryz.f157 res n (initS pats ls) = F (ls.headD .hole).toSl ((dropT 1 ls).headD .hole).toSl := by kernel_rfl
noncomputable def md (a0 : List MSigned) (a1 : List MSigned) : Bool := ((slices_EqualFunc_Simpl_Signed_Simpl_Signed_impl_Signed_impl_Signed__impl_EqualSigned.md a0 a1) : Bool)
def gd (a0 : List MSigned) (a1 : List MSigned) : Prop := (SmL (2 ^ 21) (fun y : MSigned => MSigned.Sm (2 ^ 21) y) a0) ∧ (SmL (2 ^ 21) (fun y : MSigned => MSigned.Sm (2 ^ 21) y) a1)
def rf (a : List MSigned × List MSigned) : List (List L) × List (List L) := ((a.1.map MSigned.row), (a.2.map MSigned.row))
theorem rf_inj (a b : List MSigned × List MSigned) (h : rf a = rf b) : a = b := by
  exact (Prod.ext (map_inj MSigned.row_inj (congrArg (fun x => x.1) h)) (map_inj MSigned.row_inj (congrArg (fun x => x.2) h)))
noncomputable def R (x0 : List (List L)) (x1 : List (List L)) : Option (Bool) := ofM rf (fun a => gd a.1 a.2) (fun a => (md a.1 a.2)) (x0, x1)
theorem R_eq {a0 : List MSigned} {a1 : List MSigned} (h : gd a0 a1) : R (a0.map MSigned.row) (a1.map MSigned.row) = some (md a0 a1) := ofM_eq (r := rf) (a := (a0, a1)) rf_inj h
theorem okF (a0 : List MSigned) (a1 : List MSigned) (hg : gd a0 a1) : F (a0.map MSigned.row) (a1.map MSigned.row) = ret ((md a0 a1) : Bool) := by
  unfold gd at hg
  obtain ⟨H0, H1⟩ := hg
  unfold F md
  try simp only [bytesL_map, List.length_map, toNat_nat, iAt_getD, bAt_getD, sAt_getD, lAt_getD]
  refine call_to (slices_EqualFunc_Simpl_Signed_Simpl_Signed_impl_Signed_impl_Signed__impl_EqualSigned.md a0 a1) ?_ ?_
  · have R_ := slices_EqualFunc_Simpl_Signed_Simpl_Signed_impl_Signed_impl_Signed__impl_EqualSigned.R_eq (a0 := a0) (a1 := a1) ⟨H0, H1⟩
    first | exact R_ | (simp only [List.map_append, List.map_cons, List.map_nil, List.cons_append, List.nil_append, iRow, sRow, bRow, lRow, List.map_set, bytesL_map, List.length_map, toNat_nat, iAt_getD, bAt_getD, sAt_getD, lAt_getD] at R_ ⊢; first | exact R_ | (rw [← R_]; rfl))
  try simp only [bytesL_map, List.length_map, toNat_nat, iAt_getD, bAt_getD, sAt_getD, lAt_getD]
  all_goals first | rfl | (simp only [bytesL_map, List.length_map, toNat_nat, iAt_getD, bAt_getD, sAt_getD, lAt_getD]; done) | (simp only [List.map_append, List.map_cons, List.map_nil, List.cons_append, List.nil_append, iRow, sRow, bRow, lRow, List.map_set]; rfl) | (simp only [bytesL_map, List.length_map, toNat_nat, iAt_getD, bAt_getD, sAt_getD, lAt_getD, List.map_append, List.map_cons, List.map_nil, List.cons_append, List.nil_append, iRow, sRow, bRow, lRow, List.map_set]; first | done | rfl)
noncomputable def sem (ls : List L) : Option (List L) := (R (ls.headD .hole).toSl ((dropT 1 ls).headD .hole).toSl).map RT.enc
theorem ok (ls q : List L) (hl : LOKs Ev.cells pats ls) (h : sem ls = some q) : ∃ n, runF E live Tryz.f157 res n (initS pats ls) = some q := by
  obtain ⟨v, hv, hq⟩ := map_some h
  obtain ⟨⟨a0, a1⟩, hg, e, hm⟩ := ofM_some hv
  simp only [rf, Prod.mk.injEq] at e
  obtain ⟨e0, e1⟩ := e
  have hn := okF a0 a1 hg
  refine ⟨0, (run_eq 0 ls).trans ?_⟩
  rw [← e0, ← e1]
  rw [hn, ← hq, hm]; rfl
noncomputable def con : Con := ⟨pats, res, sem⟩
theorem chk : fnB Tryz.f157 con 8 = true := by kernel_rfl
theorem valid_ : Valid Tryz.prog Ev 157 con := valid mix tab_ok (.cons slices_EqualFunc_Simpl_Signed_Simpl_Signed_impl_Signed_impl_Signed__impl_EqualSigned.valid_ .nil) Tryz.func157 chk live ok
theorem md_eq (a0 : List MSigned) (a1 : List MSigned) : md a0 a1 = eqB a0 a1 := by
  unfold md
  rw [slices_EqualFunc_Simpl_Signed_Simpl_Signed_impl_Signed_impl_Signed__impl_EqualSigned.md_eq]
end impl_sameChain
/-! slices.EqualFunc[[][]impl.Signed,[][]impl.Signed,[]impl.Signed,[]impl.Signed] -/
namespace slices_EqualFunc_SSimpl_Signed_SSimpl_Signed_Simpl_Signed_Simpl_Signed__impl_sameChain
inductive Pt where
  | p0 (a : List (List L)) (b : List (List L)) (c : Int) (d : Int)
def pid : Pt → Nat
  | .p0 .. => 4
def pvs : Pt → List V
  | .p0 a b c d => [.sl none 38 a, .fn 157 [], .sl none 38 b, .int .i64 c, .int .i64 d]
def phs : Pt → List Root
  | .p0 a b c d => []
noncomputable def step (J : Pt → Ans) : Pt → Ans
  | .p0 a b c d => (bif (decide (d < c)) then (bif (decide ((0 : Int) ≤ d)) then (bif (decide (d < (b.length : Int))) then (bif (decide ((0 : Int) ≤ d)) then (bif (decide (d < (a.length : Int))) then (call (impl_sameChain.R (lAt b (Int.toNat d)) (lAt a (Int.toNat d))) fun v1 => (bif (!v1) then ret (false : Bool) else J (.p0 a b c (IntKind.i64.wrap (d + 1))))) else none) else none) else none) else none) else ret (true : Bool))
noncomputable def start (J : Pt → Ans) (x0 : List (List L)) (x1 : List (List L)) : Ans := (bif ((x0.length : Int) != (x1.length : Int)) then ret (false : Bool) else J (.p0 x1 x0 (x0.length : Int) 0))
def live : Nat → Live := fun i => match i with | 4 => [(1, none), (2, none), (15, none), (16, none), (17, none)] | _ => []
def pats : List Pat := [.rd (.sl 38), .rd (.sl 38), .fn 157 []]
def res : RP := .one (.rd (.bool))
noncomputable def G : List (Nat × Con) := [(157, impl_sameChain.con)]
noncomputable abbrev E : Env := ⟨assoc Tab, conG G, 32⟩
set_option maxRecDepth 100000
theorem step_eq (I : Heads) (p : Pt) : enterC E live I (pid p) (bodyOf Tryz.f156) (stOf (live (pid p)) (pvs p) (phs p)) (doneK E Tryz.f156 res) = step (fun q => I (pid q) (pvs q) (phs q)) p := by
  cases p <;> kernel_rfl
theorem start_eq (I : Heads) (ls : List L) : runC E live I (bodyOf Tryz.f156) (initS pats ls) (doneK E Tryz.f156 res) = start (fun q => I (pid q) (pvs q) (phs q)) (ls.headD .hole).toSl ((dropT 1 ls).headD .hole).toSl := by kernel_rfl
theorem run_eq (n : Nat) (ls : List L) : runF E live Tryz.f156 res n (initS pats ls) = start (iter step n) (ls.headD .hole).toSl ((dropT 1 ls).headD .hole).toSl := runF_iter (id := pid) (vs := pvs) (hs := phs) (step := step) (start := fun J => start J (ls.headD .hole).toSl ((dropT 1 ls).headD .hole).toSl) step_eq (fun I => start_eq I ls) n
noncomputable def md (a0 : List (List MSigned)) (a1 : List (List MSigned)) : Bool := (bif ((a0.length : Int) != (a1.length : Int)) then (false : Bool) else (loopM (S := Unit) (β := Bool) (fun (i2 : Nat) (s4 : Unit) => (bif (!(impl_sameChain.md (a0.getD i2 []) (a1.getD i2 []))) then (.inr (false : Bool)) else (.inl ()))) (fun (s4 : Unit) => (true : Bool)) a0.length 0 ()))
def gd (a0 : List (List MSigned)) (a1 : List (List MSigned)) : Prop := (SmL (2 ^ 21) (fun y : List MSigned => SmL (2 ^ 21) (fun y : MSigned => MSigned.Sm (2 ^ 21) y) y) a0) ∧ (SmL (2 ^ 21) (fun y : List MSigned => SmL (2 ^ 21) (fun y : MSigned => MSigned.Sm (2 ^ 21) y) y) a1)
def rf (a : List (List MSigned) × List (List MSigned)) : List (List L) × List (List L) := ((a.1.map (lRow MSigned.row)), (a.2.map (lRow MSigned.row)))
theorem rf_inj (a b : List (List MSigned) × List (List MSigned)) (h : rf a = rf b) : a = b := by
  exact (Prod.ext (map_inj (lRow_inj MSigned.row_inj) (congrArg (fun x => x.1) h)) (map_inj (lRow_inj MSigned.row_inj) (congrArg (fun x => x.2) h)))
noncomputable def R (x0 : List (List L)) (x1 : List (List L)) : Option (Bool) := ofM rf (fun a => gd a.1 a.2) (fun a => (md a.1 a.2)) (x0, x1)
theorem R_eq {a0 : List (List MSigned)} {a1 : List (List MSigned)} (h : gd a0 a1) : R (a0.map (lRow MSigned.row)) (a1.map (lRow MSigned.row)) = some (md a0 a1) := ofM_eq (r := rf) (a := (a0, a1)) rf_inj h
theorem okF (a0 : List (List MSigned)) (a1 : List (List MSigned)) (hg : gd a0 a1) : ∃ n, start (iter step n) (a0.map (lRow MSigned.row)) (a1.map (lRow MSigned.row)) = ret ((md a0 a1) : Bool) := by
  unfold gd at hg
  obtain ⟨H0, H1⟩ := hg
  unfold start md
  try simp only [bytesL_map, List.length_map, toNat_nat, iAt_getD, bAt_getD, sAt_getD, lAt_getD]
  refine ex_bif (fun b : Bool => ret (b : Bool)) (fun c1 => ?_) (fun c1 => ?_)
  · have dc1 := c1
    try simp only [bne_eq_false_iff_eq, bne_iff_ne, beq_iff_eq, beq_eq_false_iff_ne, ne_eq, Bool.not_eq_true', Bool.not_eq_false'] at dc1
    refine ⟨0, ?_⟩
    all_goals first | rfl | (simp only [bytesL_map, List.length_map, toNat_nat, iAt_getD, bAt_getD, sAt_getD, lAt_getD]; done) | (simp only [List.map_append, List.map_cons, List.map_nil, List.cons_append, List.nil_append, iRow, sRow, bRow, lRow, List.map_set]; rfl) | (simp only [bytesL_map, List.length_map, toNat_nat, iAt_getD, bAt_getD, sAt_getD, lAt_getD, List.map_append, List.map_cons, List.map_nil, List.cons_append, List.nil_append, iRow, sRow, bRow, lRow, List.map_set]; first | done | rfl)
  · have dc1 := c1
    try simp only [bne_eq_false_iff_eq, bne_iff_ne, beq_iff_eq, beq_eq_false_iff_ne, ne_eq, Bool.not_eq_true', Bool.not_eq_false'] at dc1
    have Bh3 : a0.length ≤ maxLen := (by
        have := (H0).1
        try simp only [maxLen] at *
        omega)
    refine ex_pt (p := Pt.p0 (a1.map (lRow MSigned.row)) (a0.map (lRow MSigned.row)) (a0.length : Int) 0) (by first | rfl | (simp only [bytesL_map, List.length_map, toNat_nat, iAt_getD, bAt_getD, sAt_getD, lAt_getD, List.map_append, List.map_cons, List.map_nil, List.cons_append, List.nil_append, iRow, sRow, bRow, lRow, List.map_set]; done) | (simp only [List.map_append, List.map_cons, List.map_nil, List.cons_append, List.nil_append, iRow, sRow, bRow, lRow, List.map_set]; rfl)) ?_
    refine loopM_ok (pt := fun (i2 : Nat) (s4 : Unit) => Pt.p0 (a1.map (lRow MSigned.row)) (a0.map (lRow MSigned.row)) (a0.length : Int) (i2 : Int)) (s := (() : Unit)) (out := (fun b : Bool => ret (b : Bool))) (fun _ _ => True) (fun J i2 s4 h3 hih3 => ?_) (fun s4 hih3 => ?_) trivial
    · simp only [step, bytesL_map, List.length_map, toNat_nat, iAt_getD, bAt_getD, sAt_getD, lAt_getD]
      have bb_ := Bh3
      simp only [maxLen] at bb_
      have := (H0).1
      refine Rnd.yes (by apply decide_eq_true; omega) ?_
      refine Rnd.yes (by
          refine decide_eq_true ?_
          try simp (disch := omega) only [List.sum_cons, List.sum_nil, List.map_cons, List.map_nil, bytesI_length, bytesL_length, List.length_append, List.length_cons, List.length_nil, List.length_map, List.length_set, List.length_replicate, List.length_take, List.length_drop, Go.IntWalk.i64_in]
          first | omega | (simp; done) | (simp; omega)) ?_
      refine Rnd.yes (by
          have := (H0).1
          refine decide_eq_true ?_
          try simp (disch := omega) only [List.sum_cons, List.sum_nil, List.map_cons, List.map_nil, bytesI_length, bytesL_length, List.length_append, List.length_cons, List.length_nil, List.length_map, List.length_set, List.length_replicate, List.length_take, List.length_drop, Go.IntWalk.i64_in]
          first | omega | (simp; done) | (simp; omega)) ?_
      refine Rnd.yes (by
          refine decide_eq_true ?_
          try simp (disch := omega) only [List.sum_cons, List.sum_nil, List.map_cons, List.map_nil, bytesI_length, bytesL_length, List.length_append, List.length_cons, List.length_nil, List.length_map, List.length_set, List.length_replicate, List.length_take, List.length_drop, Go.IntWalk.i64_in]
          first | omega | (simp; done) | (simp; omega)) ?_
      refine Rnd.yes (by
          have := (H1).1
          refine decide_eq_true ?_
          try simp (disch := omega) only [List.sum_cons, List.sum_nil, List.map_cons, List.map_nil, bytesI_length, bytesL_length, List.length_append, List.length_cons, List.length_nil, List.length_map, List.length_set, List.length_replicate, List.length_take, List.length_drop, Go.IntWalk.i64_in]
          first | omega | (simp; done) | (simp; omega)) ?_
      refine Rnd.call_to (impl_sameChain.md (a0.getD i2 []) (a1.getD i2 [])) ?_ ?_
      · have R_ := impl_sameChain.R_eq (a0 := (a0.getD i2 [])) (a1 := (a1.getD i2 [])) ⟨(SmL.getD (z := []) H0 h3), (SmL.getD (z := []) H1 (by first | assumption | omega | (simp (disch := omega) only [Go.IntWalk.i64_in]; omega) | (simp; omega)))⟩
        first | exact R_ | (simp only [List.map_append, List.map_cons, List.map_nil, List.cons_append, List.nil_append, iRow, sRow, bRow, lRow, List.map_set, bytesL_map, List.length_map, toNat_nat, iAt_getD, bAt_getD, sAt_getD, lAt_getD] at R_ ⊢; first | exact R_ | (rw [← R_]; rfl))
      try simp only [bytesL_map, List.length_map, toNat_nat, iAt_getD, bAt_getD, sAt_getD, lAt_getD]
      refine Rnd.bif (fun c5 => ?_) (fun c5 => ?_)
      · have dc5 := c5
        try simp only [bne_eq_false_iff_eq, bne_iff_ne, beq_iff_eq, beq_eq_false_iff_ne, ne_eq, Bool.not_eq_true', Bool.not_eq_false'] at dc5
        refine Rnd.inr ?_
        all_goals first | rfl | (simp only [bytesL_map, List.length_map, toNat_nat, iAt_getD, bAt_getD, sAt_getD, lAt_getD]; done) | (simp only [List.map_append, List.map_cons, List.map_nil, List.cons_append, List.nil_append, iRow, sRow, bRow, lRow, List.map_set]; rfl) | (simp only [bytesL_map, List.length_map, toNat_nat, iAt_getD, bAt_getD, sAt_getD, lAt_getD, List.map_append, List.map_cons, List.map_nil, List.cons_append, List.nil_append, iRow, sRow, bRow, lRow, List.map_set]; first | done | rfl)
      · have dc5 := c5
        try simp only [bne_eq_false_iff_eq, bne_iff_ne, beq_iff_eq, beq_eq_false_iff_ne, ne_eq, Bool.not_eq_true', Bool.not_eq_false'] at dc5
        refine Rnd.inl trivial ?_
        rw [wrap_succ h3 Bh3]
        all_goals first | rfl | (simp only [bytesL_map, List.length_map, toNat_nat, iAt_getD, bAt_getD, sAt_getD, lAt_getD]; done) | (simp only [List.map_append, List.map_cons, List.map_nil, List.cons_append, List.nil_append, iRow, sRow, bRow, lRow, List.map_set]; rfl) | (simp only [bytesL_map, List.length_map, toNat_nat, iAt_getD, bAt_getD, sAt_getD, lAt_getD, List.map_append, List.map_cons, List.map_nil, List.cons_append, List.nil_append, iRow, sRow, bRow, lRow, List.map_set]; first | done | rfl)
    · simp only [step, bytesL_map, List.length_map, toNat_nat, iAt_getD, bAt_getD, sAt_getD, lAt_getD]
      have := (H0).1
      refine ex_no (by apply decide_eq_false; omega) ?_
      refine ⟨0, ?_⟩
      all_goals first | rfl | (simp only [bytesL_map, List.length_map, toNat_nat, iAt_getD, bAt_getD, sAt_getD, lAt_getD]; done) | (simp only [List.map_append, List.map_cons, List.map_nil, List.cons_append, List.nil_append, iRow, sRow, bRow, lRow, List.map_set]; rfl) | (simp only [bytesL_map, List.length_map, toNat_nat, iAt_getD, bAt_getD, sAt_getD, lAt_getD, List.map_append, List.map_cons, List.map_nil, List.cons_append, List.nil_append, iRow, sRow, bRow, lRow, List.map_set]; first | done | rfl)
noncomputable def sem (ls : List L) : Option (List L) := (R (ls.headD .hole).toSl ((dropT 1 ls).headD .hole).toSl).map RT.enc
theorem ok (ls q : List L) (hl : LOKs Ev.cells pats ls) (h : sem ls = some q) : ∃ n, runF E live Tryz.f156 res n (initS pats ls) = some q := by
  obtain ⟨v, hv, hq⟩ := map_some h
  obtain ⟨⟨a0, a1⟩, hg, e, hm⟩ := ofM_some hv
  simp only [rf, Prod.mk.injEq] at e
  obtain ⟨e0, e1⟩ := e
  obtain ⟨n, hn⟩ := okF a0 a1 hg
  refine ⟨n, (run_eq n ls).trans ?_⟩
  rw [← e0, ← e1]
  rw [hn, ← hq, hm]; rfl
noncomputable def con : Con := ⟨pats, res, sem⟩
theorem chk : fnB Tryz.f156 con 32 = true := by kernel_rfl
theorem valid_ : Valid Tryz.prog Ev 156 con := valid mix tab_ok (.cons impl_sameChain.valid_ .nil) Tryz.func156 chk live ok
theorem md_eq (a0 : List (List MSigned)) (a1 : List (List MSigned)) : md a0 a1 = eqB a0 a1 := by
  unfold md
  refine loop_eqB ([]) (fun i s h h2 => ?_) (fun s => rfl)
  simp only [bne, int_beq, bool_beq, ba_beq, impl_sameChain.md_eq]
  cases eqB _ _ <;> rfl
end slices_EqualFunc_SSimpl_Signed_SSimpl_Signed_Simpl_Signed_Simpl_Signed__impl_sameChain
/-! impl.EqualForks -/
namespace impl_EqualForks
noncomputable def F (x0 : RFork) (x1 : RFork) : Ans := (call (impl_EqualSigned.R x0.fBefore x1.fBefore) fun v1 => (bif v1 then (call (impl_EqualSigned.R x0.fA x1.fA) fun v2 => (bif v2 then (call (impl_EqualSigned.R x0.fB x1.fB) fun v3 => ret (v3 : Bool)) else ret (false : Bool))) else ret (false : Bool)))
def live : Nat → Live := fun _ => []
def pats : List Pat := [.agg [.int .i64, .int .i64, .int .i64, .int .i64, .int .i64, .int .i64, .int .i64, .int .i64, .sl 3, .int .i64, .sl 3, .int .i64, .int .i64, .sl 3, .int .i64, .bool, .sl 179, .int .i64, .int .i64, .int .i64, .int .i64, .int .i64, .int .i64, .int .i64, .int .i64, .sl 3, .int .i64, .sl 3, .int .i64, .int .i64, .sl 3, .int .i64, .bool, .sl 179, .int .i64, .int .i64, .int .i64, .int .i64, .int .i64, .int .i64, .int .i64, .int .i64, .sl 3, .int .i64, .sl 3, .int .i64, .int .i64, .sl 3, .int .i64, .bool, .sl 179], .agg [.int .i64, .int .i64, .int .i64, .int .i64, .int .i64, .int .i64, .int .i64, .int .i64, .sl 3, .int .i64, .sl 3, .int .i64, .int .i64, .sl 3, .int .i64, .bool, .sl 179, .int .i64, .int .i64, .int .i64, .int .i64, .int .i64, .int .i64, .int .i64, .int .i64, .sl 3, .int .i64, .sl 3, .int .i64, .int .i64, .sl 3, .int .i64, .bool, .sl 179, .int .i64, .int .i64, .int .i64, .int .i64, .int .i64, .int .i64, .int .i64, .int .i64, .sl 3, .int .i64, .sl 3, .int .i64, .int .i64, .sl 3, .int .i64, .bool, .sl 179]]
def res : RP := .one (.rd (.bool))
noncomputable def G : List (Nat × Con) := [(94, impl_EqualSigned.con)]
noncomputable abbrev E : Env := ⟨assoc Tab, conG G, 24⟩
set_option maxRecDepth 100000
theorem run_eq (n : Nat) (ls : List L) : runF E live Tryz.f159 res n (initS pats ls) = F (RFork.dec ls) (RFork.dec (dropT 51 ls)) := by kernel_rfl
noncomputable def md (a0 : MFork) (a1 : MFork) : Bool := (bif (impl_EqualSigned.md a0.fBefore a1.fBefore) then (bif (impl_EqualSigned.md a0.fA a1.fA) then ((impl_EqualSigned.md a0.fB a1.fB) : Bool) else (false : Bool)) else (false : Bool))
def gd (a0 : MFork) (a1 : MFork) : Prop := (MFork.Sm (2 ^ 21) a0) ∧ (MFork.Sm (2 ^ 21) a1)
def rf (a : MFork × MFork) : RFork × RFork := ((MFork.r a.1), (MFork.r a.2))
theorem rf_inj (a b : MFork × MFork) (h : rf a = rf b) : a = b := by
  exact (Prod.ext (MFork.r_inj (congrArg (fun x => x.1) h)) (MFork.r_inj (congrArg (fun x => x.2) h)))
noncomputable def R (x0 : RFork) (x1 : RFork) : Option (Bool) := ofM rf (fun a => gd a.1 a.2) (fun a => (md a.1 a.2)) (x0, x1)
theorem R_eq {a0 : MFork} {a1 : MFork} (h : gd a0 a1) : R (MFork.r a0) (MFork.r a1) = some (md a0 a1) := ofM_eq (r := rf) (a := (a0, a1)) rf_inj h
theorem okF (a0 : MFork) (a1 : MFork) (hg : gd a0 a1) : F (MFork.r a0) (MFork.r a1) = ret ((md a0 a1) : Bool) := by
  unfold gd at hg
  obtain ⟨H0, H1⟩ := hg
  unfold F md
  try simp only [bytesL_map, List.length_map, toNat_nat, iAt_getD, bAt_getD, sAt_getD, lAt_getD, MFork.r_fBefore, MFork.r_fA, MFork.r_fB]
  refine call_to (impl_EqualSigned.md a0.fBefore a1.fBefore) ?_ ?_
  · have R_ := impl_EqualSigned.R_eq (a0 := a0.fBefore) (a1 := a1.fBefore) ⟨H0.1, H1.1⟩
    first | exact R_ | (simp only [List.map_append, List.map_cons, List.map_nil, List.cons_append, List.nil_append, iRow, sRow, bRow, lRow, List.map_set, bytesL_map, List.length_map, toNat_nat, iAt_getD, bAt_getD, sAt_getD, lAt_getD, MFork.r_fBefore, MFork.r_fA, MFork.r_fB] at R_ ⊢; first | exact R_ | (rw [← R_]; rfl))
  try simp only [bytesL_map, List.length_map, toNat_nat, iAt_getD, bAt_getD, sAt_getD, lAt_getD, MFork.r_fBefore, MFork.r_fA, MFork.r_fB]
  refine bif_out (fun b : Bool => ret (b : Bool)) (fun c1 => ?_) (fun c1 => ?_)
  · refine call_to (impl_EqualSigned.md a0.fA a1.fA) ?_ ?_
    · have R_ := impl_EqualSigned.R_eq (a0 := a0.fA) (a1 := a1.fA) ⟨H0.2.1, H1.2.1⟩
      first | exact R_ | (simp only [List.map_append, List.map_cons, List.map_nil, List.cons_append, List.nil_append, iRow, sRow, bRow, lRow, List.map_set, bytesL_map, List.length_map, toNat_nat, iAt_getD, bAt_getD, sAt_getD, lAt_getD, MFork.r_fBefore, MFork.r_fA, MFork.r_fB] at R_ ⊢; first | exact R_ | (rw [← R_]; rfl))
    try simp only [bytesL_map, List.length_map, toNat_nat, iAt_getD, bAt_getD, sAt_getD, lAt_getD, MFork.r_fBefore, MFork.r_fA, MFork.r_fB]
    refine bif_out (fun b : Bool => ret (b : Bool)) (fun c2 => ?_) (fun c2 => ?_)
    · refine call_to (impl_EqualSigned.md a0.fB a1.fB) ?_ ?_
      · have R_ := impl_EqualSigned.R_eq (a0 := a0.fB) (a1 := a1.fB) ⟨H0.2.2, H1.2.2⟩
        first | exact R_ | (simp only [List.map_append, List.map_cons, List.map_nil, List.cons_append, List.nil_append, iRow, sRow, bRow, lRow, List.map_set, bytesL_map, List.length_map, toNat_nat, iAt_getD, bAt_getD, sAt_getD, lAt_getD, MFork.r_fBefore, MFork.r_fA, MFork.r_fB] at R_ ⊢; first | exact R_ | (rw [← R_]; rfl))
      try simp only [bytesL_map, List.length_map, toNat_nat, iAt_getD, bAt_getD, sAt_getD, lAt_getD, MFork.r_fBefore, MFork.r_fA, MFork.r_fB]
      all_goals first | rfl | (simp only [bytesL_map, List.length_map, toNat_nat, iAt_getD, bAt_getD, sAt_getD, lAt_getD, MFork.r_fBefore, MFork.r_fA, MFork.r_fB]; done) | (simp only [List.map_append, List.map_cons, List.map_nil, List.cons_append, List.nil_append, iRow, sRow, bRow, lRow, List.map_set]; rfl) | (simp only [bytesL_map, List.length_map, toNat_nat, iAt_getD, bAt_getD, sAt_getD, lAt_getD, MFork.r_fBefore, MFork.r_fA, MFork.r_fB, List.map_append, List.map_cons, List.map_nil, List.cons_append, List.nil_append, iRow, sRow, bRow, lRow, List.map_set]; first | done | rfl)
    · all_goals first | rfl | (simp only [bytesL_map, List.length_map, toNat_nat, iAt_getD, bAt_getD, sAt_getD, lAt_getD, MFork.r_fBefore, MFork.r_fA, MFork.r_fB]; done) | (simp only [List.map_append, List.map_cons, List.map_nil, List.cons_append, List.nil_append, iRow, sRow, bRow, lRow, List.map_set]; rfl) | (simp only [bytesL_map, List.length_map, toNat_nat, iAt_getD, bAt_getD, sAt_getD, lAt_getD, MFork.r_fBefore, MFork.r_fA, MFork.r_fB, List.map_append, List.map_cons, List.map_nil, List.cons_append, List.nil_append, iRow, sRow, bRow, lRow, List.map_set]; first | done | rfl)
  · all_goals first | rfl | (simp only [bytesL_map, List.length_map, toNat_nat, iAt_getD, bAt_getD, sAt_getD, lAt_getD, MFork.r_fBefore, MFork.r_fA, MFork.r_fB]; done) | (simp only [List.map_append, List.map_cons, List.map_nil, List.cons_append, List.nil_append, iRow, sRow, bRow, lRow, List.map_set]; rfl) | (simp only [bytesL_map, List.length_map, toNat_nat, iAt_getD, bAt_getD, sAt_getD, lAt_getD, MFork.r_fBefore, MFork.r_fA, MFork.r_fB, List.map_append, List.map_cons, List.map_nil, List.cons_append, List.nil_append, iRow, sRow, bRow, lRow, List.map_set]; first | done | rfl)
noncomputable def sem (ls : List L) : Option (List L) := (R (RFork.dec ls) (RFork.dec (dropT 51 ls))).map RT.enc
theorem ok (ls q : List L) (hl : LOKs Ev.cells pats ls) (h : sem ls = some q) : ∃ n, runF E live Tryz.f159 res n (initS pats ls) = some q := by
  obtain ⟨v, hv, hq⟩ := map_some h
  obtain ⟨⟨a0, a1⟩, hg, e, hm⟩ := ofM_some hv
  simp only [rf, Prod.mk.injEq] at e
  obtain ⟨e0, e1⟩ := e
  have hn := okF a0 a1 hg
  refine ⟨0, (run_eq 0 ls).trans ?_⟩
  rw [← e0, ← e1]
  rw [hn, ← hq, hm]; rfl
noncomputable def con : Con := ⟨pats, res, sem⟩
theorem chk : fnB Tryz.f159 con 24 = true := by kernel_rfl
theorem valid_ : Valid Tryz.prog Ev 159 con := valid mix tab_ok (.cons impl_EqualSigned.valid_ .nil) Tryz.func159 chk live ok
theorem md_eq (a0 : MFork) (a1 : MFork) : md a0 a1 = eqB a0 a1 := by
  unfold md
  cases a0; cases a1
  rw [Bool.eq_iff_iff]
  simp [eqB_iff, ba_beq, MFork.mk.injEq, impl_EqualSigned.md_eq]
  try (constructor <;> (intro h; simp_all))
end impl_EqualForks
/-! slices.EqualFunc[[]impl.Fork,[]impl.Fork,impl.Fork,impl.Fork] -/
namespace slices_EqualFunc_Simpl_Fork_Simpl_Fork_impl_Fork_impl_Fork__impl_EqualForks
inductive Pt where
  | p0 (a : List (List L)) (b : List (List L)) (c : Int) (d : Int)
def pid : Pt → Nat
  | .p0 .. => 4
def pvs : Pt → List V
  | .p0 a b c d => [.sl none 95 a, .fn 159 [], .sl none 95 b, .int .i64 c, .int .i64 d]
def phs : Pt → List Root
  | .p0 a b c d => []
noncomputable def step (J : Pt → Ans) : Pt → Ans
  | .p0 a b c d => (bif (decide (d < c)) then (bif (decide ((0 : Int) ≤ d)) then (bif (decide (d < (b.length : Int))) then (bif (decide ((0 : Int) ≤ d)) then (bif (decide (d < (a.length : Int))) then (call (impl_EqualForks.R (RFork.at b (Int.toNat d)) (RFork.at a (Int.toNat d))) fun v1 => (bif (!v1) then ret (false : Bool) else J (.p0 a b c (IntKind.i64.wrap (d + 1))))) else none) else none) else none) else none) else ret (true : Bool))
noncomputable def start (J : Pt → Ans) (x0 : List (List L)) (x1 : List (List L)) : Ans := (bif ((x0.length : Int) != (x1.length : Int)) then ret (false : Bool) else J (.p0 x1 x0 (x0.length : Int) 0))
def live : Nat → Live := fun i => match i with | 4 => [(1, none), (2, none), (15, none), (16, none), (17, none)] | _ => []
def pats : List Pat := [.rd (.sl 95), .rd (.sl 95), .fn 159 []]
def res : RP := .one (.rd (.bool))
noncomputable def G : List (Nat × Con) := [(159, impl_EqualForks.con)]
noncomputable abbrev E : Env := ⟨assoc Tab, conG G, 32⟩
set_option maxRecDepth 100000
theorem step_eq (I : Heads) (p : Pt) : enterC E live I (pid p) (bodyOf Tryz.f158) (stOf (live (pid p)) (pvs p) (phs p)) (doneK E Tryz.f158 res) = step (fun q => I (pid q) (pvs q) (phs q)) p := by
  cases p <;> kernel_rfl
theorem start_eq (I : Heads) (ls : List L) : runC E live I (bodyOf Tryz.f158) (initS pats ls) (doneK E Tryz.f158 res) = start (fun q => I (pid q) (pvs q) (phs q)) (ls.headD .hole).toSl ((dropT 1 ls).headD .hole).toSl := by kernel_rfl
theorem run_eq (n : Nat) (ls : List L) : runF E live Tryz.f158 res n (initS pats ls) = start (iter step n) (ls.headD .hole).toSl ((dropT 1 ls).headD .hole).toSl := runF_iter (id := pid) (vs := pvs) (hs := phs) (step := step) (start := fun J => start J (ls.headD .hole).toSl ((dropT 1 ls).headD .hole).toSl) step_eq (fun I => start_eq I ls) n
noncomputable def md (a0 : List MFork) (a1 : List MFork) : Bool := (bif ((a0.length : Int) != (a1.length : Int)) then (false : Bool) else (loopM (S := Unit) (β := Bool) (fun (i2 : Nat) (s4 : Unit) => (bif (!(impl_EqualForks.md (a0.getD i2 MFork.zero) (a1.getD i2 MFork.zero))) then (.inr (false : Bool)) else (.inl ()))) (fun (s4 : Unit) => (true : Bool)) a0.length 0 ()))
def gd (a0 : List MFork) (a1 : List MFork) : Prop := (SmL (2 ^ 21) (fun y : MFork => MFork.Sm (2 ^ 21) y) a0) ∧ (SmL (2 ^ 21) (fun y : MFork => MFork.Sm (2 ^ 21) y) a1)
def rf (a : List MFork × List MFork) : List (List L) × List (List L) := ((a.1.map MFork.row), (a.2.map MFork.row))
theorem rf_inj (a b : List MFork × List MFork) (h : rf a = rf b) : a = b := by
  exact (Prod.ext (map_inj MFork.row_inj (congrArg (fun x => x.1) h)) (map_inj MFork.row_inj (congrArg (fun x => x.2) h)))
noncomputable def R (x0 : List (List L)) (x1 : List (List L)) : Option (Bool) := ofM rf (fun a => gd a.1 a.2) (fun a => (md a.1 a.2)) (x0, x1)
theorem R_eq {a0 : List MFork} {a1 : List MFork} (h : gd a0 a1) : R (a0.map MFork.row) (a1.map MFork.row) = some (md a0 a1) := ofM_eq (r := rf) (a := (a0, a1)) rf_inj h
theorem okF (a0 : List MFork) (a1 : List MFork) (hg : gd a0 a1) : ∃ n, start (iter step n) (a0.map MFork.row) (a1.map MFork.row) = ret ((md a0 a1) : Bool) := by
  unfold gd at hg
  obtain ⟨H0, H1⟩ := hg
  unfold start md
  try simp only [bytesL_map, List.length_map, toNat_nat, iAt_getD, bAt_getD, sAt_getD, lAt_getD, MFork.at_getD]
  refine ex_bif (fun b : Bool => ret (b : Bool)) (fun c1 => ?_) (fun c1 => ?_)
  · have dc1 := c1
    try simp only [bne_eq_false_iff_eq, bne_iff_ne, beq_iff_eq, beq_eq_false_iff_ne, ne_eq, Bool.not_eq_true', Bool.not_eq_false'] at dc1
    refine ⟨0, ?_⟩
    all_goals first | rfl | (simp only [bytesL_map, List.length_map, toNat_nat, iAt_getD, bAt_getD, sAt_getD, lAt_getD, MFork.at_getD]; done) | (simp only [List.map_append, List.map_cons, List.map_nil, List.cons_append, List.nil_append, iRow, sRow, bRow, lRow, List.map_set]; rfl) | (simp only [bytesL_map, List.length_map, toNat_nat, iAt_getD, bAt_getD, sAt_getD, lAt_getD, MFork.at_getD, List.map_append, List.map_cons, List.map_nil, List.cons_append, List.nil_append, iRow, sRow, bRow, lRow, List.map_set]; first | done | rfl)
  · have dc1 := c1
    try simp only [bne_eq_false_iff_eq, bne_iff_ne, beq_iff_eq, beq_eq_false_iff_ne, ne_eq, Bool.not_eq_true', Bool.not_eq_false'] at dc1
    have Bh3 : a0.length ≤ maxLen := (by
        have := (H0).1
        try simp only [maxLen] at *
        omega)
    refine ex_pt (p := Pt.p0 (a1.map MFork.row) (a0.map MFork.row) (a0.length : Int) 0) (by first | rfl | (simp only [bytesL_map, List.length_map, toNat_nat, iAt_getD, bAt_getD, sAt_getD, lAt_getD, MFork.at_getD, List.map_append, List.map_cons, List.map_nil, List.cons_append, List.nil_append, iRow, sRow, bRow, lRow, List.map_set]; done) | (simp only [List.map_append, List.map_cons, List.map_nil, List.cons_append, List.nil_append, iRow, sRow, bRow, lRow, List.map_set]; rfl)) ?_
    refine loopM_ok (pt := fun (i2 : Nat) (s4 : Unit) => Pt.p0 (a1.map MFork.row) (a0.map MFork.row) (a0.length : Int) (i2 : Int)) (s := (() : Unit)) (out := (fun b : Bool => ret (b : Bool))) (fun _ _ => True) (fun J i2 s4 h3 hih3 => ?_) (fun s4 hih3 => ?_) trivial
    · simp only [step, bytesL_map, List.length_map, toNat_nat, iAt_getD, bAt_getD, sAt_getD, lAt_getD, MFork.at_getD]
      have bb_ := Bh3
      simp only [maxLen] at bb_
      have := (H0).1
      refine Rnd.yes (by apply decide_eq_true; omega) ?_
      refine Rnd.yes (by
          refine decide_eq_true ?_
          try simp (disch := omega) only [List.sum_cons, List.sum_nil, List.map_cons, List.map_nil, bytesI_length, bytesL_length, List.length_append, List.length_cons, List.length_nil, List.length_map, List.length_set, List.length_replicate, List.length_take, List.length_drop, Go.IntWalk.i64_in]
          first | omega | (simp; done) | (simp; omega)) ?_
      refine Rnd.yes (by
          have := (H0).1
          refine decide_eq_true ?_
          try simp (disch := omega) only [List.sum_cons, List.sum_nil, List.map_cons, List.map_nil, bytesI_length, bytesL_length, List.length_append, List.length_cons, List.length_nil, List.length_map, List.length_set, List.length_replicate, List.length_take, List.length_drop, Go.IntWalk.i64_in]
          first | omega | (simp; done) | (simp; omega)) ?_
      refine Rnd.yes (by
          refine decide_eq_true ?_
          try simp (disch := omega) only [List.sum_cons, List.sum_nil, List.map_cons, List.map_nil, bytesI_length, bytesL_length, List.length_append, List.length_cons, List.length_nil, List.length_map, List.length_set, List.length_replicate, List.length_take, List.length_drop, Go.IntWalk.i64_in]
          first | omega | (simp; done) | (simp; omega)) ?_
      refine Rnd.yes (by
          have := (H1).1
          refine decide_eq_true ?_
          try simp (disch := omega) only [List.sum_cons, List.sum_nil, List.map_cons, List.map_nil, bytesI_length, bytesL_length, List.length_append, List.length_cons, List.length_nil, List.length_map, List.length_set, List.length_replicate, List.length_take, List.length_drop, Go.IntWalk.i64_in]
          first | omega | (simp; done) | (simp; omega)) ?_
      refine Rnd.call_to (impl_EqualForks.md (a0.getD i2 MFork.zero) (a1.getD i2 MFork.zero)) ?_ ?_
      · have R_ := impl_EqualForks.R_eq (a0 := (a0.getD i2 MFork.zero)) (a1 := (a1.getD i2 MFork.zero)) ⟨(SmL.getD (z := MFork.zero) H0 h3), (SmL.getD (z := MFork.zero) H1 (by first | assumption | omega | (simp (disch := omega) only [Go.IntWalk.i64_in]; omega) | (simp; omega)))⟩
        first | exact R_ | (simp only [List.map_append, List.map_cons, List.map_nil, List.cons_append, List.nil_append, iRow, sRow, bRow, lRow, List.map_set, bytesL_map, List.length_map, toNat_nat, iAt_getD, bAt_getD, sAt_getD, lAt_getD, MFork.at_getD] at R_ ⊢; first | exact R_ | (rw [← R_]; rfl))
      try simp only [bytesL_map, List.length_map, toNat_nat, iAt_getD, bAt_getD, sAt_getD, lAt_getD, MFork.at_getD]
      refine Rnd.bif (fun c5 => ?_) (fun c5 => ?_)
      · have dc5 := c5
        try simp only [bne_eq_false_iff_eq, bne_iff_ne, beq_iff_eq, beq_eq_false_iff_ne, ne_eq, Bool.not_eq_true', Bool.not_eq_false'] at dc5
        refine Rnd.inr ?_
        all_goals first | rfl | (simp only [bytesL_map, List.length_map, toNat_nat, iAt_getD, bAt_getD, sAt_getD, lAt_getD, MFork.at_getD]; done) | (simp only [List.map_append, List.map_cons, List.map_nil, List.cons_append, List.nil_append, iRow, sRow, bRow, lRow, List.map_set]; rfl) | (simp only [bytesL_map, List.length_map, toNat_nat, iAt_getD, bAt_getD, sAt_getD, lAt_getD, MFork.at_getD, List.map_append, List.map_cons, List.map_nil, List.cons_append, List.nil_append, iRow, sRow, bRow, lRow, List.map_set]; first | done | rfl)
      · have dc5 := c5
        try simp only [bne_eq_false_iff_eq, bne_iff_ne, beq_iff_eq, beq_eq_false_iff_ne, ne_eq, Bool.not_eq_true', Bool.not_eq_false'] at dc5
        refine Rnd.inl trivial ?_
        rw [wrap_succ h3 Bh3]
        all_goals first | rfl | (simp only [bytesL_map, List.length_map, toNat_nat, iAt_getD, bAt_getD, sAt_getD, lAt_getD, MFork.at_getD]; done) | (simp only [List.map_append, List.map_cons, List.map_nil, List.cons_append, List.nil_append, iRow, sRow, bRow, lRow, List.map_set]; rfl) | (simp only [bytesL_map, List.length_map, toNat_nat, iAt_getD, bAt_getD, sAt_getD, lAt_getD, MFork.at_getD, List.map_append, List.map_cons, List.map_nil, List.cons_append, List.nil_append, iRow, sRow, bRow, lRow, List.map_set]; first | done | rfl)
    · simp only [step, bytesL_map, List.length_map, toNat_nat, iAt_getD, bAt_getD, sAt_getD, lAt_getD, MFork.at_getD]
      have := (H0).1
      refine ex_no (by apply decide_eq_false; omega) ?_
      refine ⟨0, ?_⟩
      all_goals first | rfl | (simp only [bytesL_map, List.length_map, toNat_nat, iAt_getD, bAt_getD, sAt_getD, lAt_getD, MFork.at_getD]; done) | (simp only [List.map_append, List.map_cons, List.map_nil, List.cons_append, List.nil_append, iRow, sRow, bRow, lRow, List.map_set]; rfl) | (simp only [bytesL_map, List.length_map, toNat_nat, iAt_getD, bAt_getD, sAt_getD, lAt_getD, MFork.at_getD, List.map_append, List.map_cons, List.map_nil, List.cons_append, List.nil_append, iRow, sRow, bRow, lRow, List.map_set]; first | done | rfl)
noncomputable def sem (ls : List L) : Option (List L) := (R (ls.headD .hole).toSl ((dropT 1 ls).headD .hole).toSl).map RT.enc
theorem ok (ls q : List L) (hl : LOKs Ev.cells pats ls) (h : sem ls = some q) : ∃ n, runF E live Tryz.f158 res n (initS pats ls) = some q := by
  obtain ⟨v, hv, hq⟩ := map_some h
  obtain ⟨⟨a0, a1⟩, hg, e, hm⟩ := ofM_some hv
  simp only [rf, Prod.mk.injEq] at e
  obtain ⟨e0, e1⟩ := e
  obtain ⟨n, hn⟩ := okF a0 a1 hg
  refine ⟨n, (run_eq n ls).trans ?_⟩
  rw [← e0, ← e1]
  rw [hn, ← hq, hm]; rfl
noncomputable def con : Con := ⟨pats, res, sem⟩
theorem chk : fnB Tryz.f158 con 32 = true := by kernel_rfl
theorem valid_ : Valid Tryz.prog Ev 158 con := valid mix tab_ok (.cons impl_EqualForks.valid_ .nil) Tryz.func158 chk live ok
theorem md_eq (a0 : List MFork) (a1 : List MFork) : md a0 a1 = eqB a0 a1 := by
  unfold md
  refine loop_eqB (MFork.zero) (fun i s h h2 => ?_) (fun s => rfl)
  simp only [bne, int_beq, bool_beq, ba_beq, impl_EqualForks.md_eq]
  cases eqB _ _ <;> rfl
end slices_EqualFunc_Simpl_Fork_Simpl_Fork_impl_Fork_impl_Fork__impl_EqualForks
/-! impl.EqualKnown -/
namespace impl_EqualKnown
noncomputable def F (x0 : RKnown) (x1 : RKnown) : Ans := (call (slices_EqualFunc_SSimpl_Signed_SSimpl_Signed_Simpl_Signed_Simpl_Signed__impl_sameChain.R x0.fChains x1.fChains) fun v1 => (bif v1 then (call (slices_EqualFunc_Simpl_Fork_Simpl_Fork_impl_Fork_impl_Fork__impl_EqualForks.R x0.fForks x1.fForks) fun v2 => ret (v2 : Bool)) else ret (false : Bool)))
def live : Nat → Live := fun _ => []
def pats : List Pat := [.agg [.sl 38, .sl 95], .agg [.sl 38, .sl 95]]
def res : RP := .one (.rd (.bool))
noncomputable def G : List (Nat × Con) := [(156, slices_EqualFunc_SSimpl_Signed_SSimpl_Signed_Simpl_Signed_Simpl_Signed__impl_sameChain.con), (158, slices_EqualFunc_Simpl_Fork_Simpl_Fork_impl_Fork_impl_Fork__impl_EqualForks.con)]
noncomputable abbrev E : Env := ⟨assoc Tab, conG G, 17⟩
set_option maxRecDepth 100000
theorem run_eq (n : Nat) (ls : List L) : runF E live Tryz.f112 res n (initS pats ls) = F (RKnown.dec ls) (RKnown.dec (dropT 2 ls)) := by kernel_rfl
noncomputable def md (a0 : MKnown) (a1 : MKnown) : Bool := (bif (slices_EqualFunc_SSimpl_Signed_SSimpl_Signed_Simpl_Signed_Simpl_Signed__impl_sameChain.md a0.fChains a1.fChains) then ((slices_EqualFunc_Simpl_Fork_Simpl_Fork_impl_Fork_impl_Fork__impl_EqualForks.md a0.fForks a1.fForks) : Bool) else (false : Bool))
def gd (a0 : MKnown) (a1 : MKnown) : Prop := (MKnown.Sm (2 ^ 21) a0) ∧ (MKnown.Sm (2 ^ 21) a1)
def rf (a : MKnown × MKnown) : RKnown × RKnown := ((MKnown.r a.1), (MKnown.r a.2))
theorem rf_inj (a b : MKnown × MKnown) (h : rf a = rf b) : a = b := by
  exact (Prod.ext (MKnown.r_inj (congrArg (fun x => x.1) h)) (MKnown.r_inj (congrArg (fun x => x.2) h)))
noncomputable def R (x0 : RKnown) (x1 : RKnown) : Option (Bool) := ofM rf (fun a => gd a.1 a.2) (fun a => (md a.1 a.2)) (x0, x1)
theorem R_eq {a0 : MKnown} {a1 : MKnown} (h : gd a0 a1) : R (MKnown.r a0) (MKnown.r a1) = some (md a0 a1) := ofM_eq (r := rf) (a := (a0, a1)) rf_inj h
theorem okF (a0 : MKnown) (a1 : MKnown) (hg : gd a0 a1) : F (MKnown.r a0) (MKnown.r a1) = ret ((md a0 a1) : Bool) := by
  unfold gd at hg
  obtain ⟨H0, H1⟩ := hg
  unfold F md
  try simp only [bytesL_map, List.length_map, toNat_nat, iAt_getD, bAt_getD, sAt_getD, lAt_getD, MKnown.r_fChains, MKnown.r_fForks]
  refine call_to (slices_EqualFunc_SSimpl_Signed_SSimpl_Signed_Simpl_Signed_Simpl_Signed__impl_sameChain.md a0.fChains a1.fChains) ?_ ?_
  · have R_ := slices_EqualFunc_SSimpl_Signed_SSimpl_Signed_Simpl_Signed_Simpl_Signed__impl_sameChain.R_eq (a0 := a0.fChains) (a1 := a1.fChains) ⟨H0.1, H1.1⟩
    first | exact R_ | (simp only [List.map_append, List.map_cons, List.map_nil, List.cons_append, List.nil_append, iRow, sRow, bRow, lRow, List.map_set, bytesL_map, List.length_map, toNat_nat, iAt_getD, bAt_getD, sAt_getD, lAt_getD, MKnown.r_fChains, MKnown.r_fForks] at R_ ⊢; first | exact R_ | (rw [← R_]; rfl))
  try simp only [bytesL_map, List.length_map, toNat_nat, iAt_getD, bAt_getD, sAt_getD, lAt_getD, MKnown.r_fChains, MKnown.r_fForks]
  refine bif_out (fun b : Bool => ret (b : Bool)) (fun c1 => ?_) (fun c1 => ?_)
  · refine call_to (slices_EqualFunc_Simpl_Fork_Simpl_Fork_impl_Fork_impl_Fork__impl_EqualForks.md a0.fForks a1.fForks) ?_ ?_
    · have R_ := slices_EqualFunc_Simpl_Fork_Simpl_Fork_impl_Fork_impl_Fork__impl_EqualForks.R_eq (a0 := a0.fForks) (a1 := a1.fForks) ⟨H0.2, H1.2⟩
      first | exact R_ | (simp only [List.map_append, List.map_cons, List.map_nil, List.cons_append, List.nil_append, iRow, sRow, bRow, lRow, List.map_set, bytesL_map, List.length_map, toNat_nat, iAt_getD, bAt_getD, sAt_getD, lAt_getD, MKnown.r_fChains, MKnown.r_fForks] at R_ ⊢; first | exact R_ | (rw [← R_]; rfl))
    try simp only [bytesL_map, List.length_map, toNat_nat, iAt_getD, bAt_getD, sAt_getD, lAt_getD, MKnown.r_fChains, MKnown.r_fForks]
    all_goals first | rfl | (simp only [bytesL_map, List.length_map, toNat_nat, iAt_getD, bAt_getD, sAt_getD, lAt_getD, MKnown.r_fChains, MKnown.r_fForks]; done) | (simp only [List.map_append, List.map_cons, List.map_nil, List.cons_append, List.nil_append, iRow, sRow, bRow, lRow, List.map_set]; rfl) | (simp only [bytesL_map, List.length_map, toNat_nat, iAt_getD, bAt_getD, sAt_getD, lAt_getD, MKnown.r_fChains, MKnown.r_fForks, List.map_append, List.map_cons, List.map_nil, List.cons_append, List.nil_append, iRow, sRow, bRow, lRow, List.map_set]; first | done | rfl)
  · all_goals first | rfl | (simp only [bytesL_map, List.length_map, toNat_nat, iAt_getD, bAt_getD, sAt_getD, lAt_getD, MKnown.r_fChains, MKnown.r_fForks]; done) | (simp only [List.map_append, List.map_cons, List.map_nil, List.cons_append, List.nil_append, iRow, sRow, bRow, lRow, List.map_set]; rfl) | (simp only [bytesL_map, List.length_map, toNat_nat, iAt_getD, bAt_getD, sAt_getD, lAt_getD, MKnown.r_fChains, MKnown.r_fForks, List.map_append, List.map_cons, List.map_nil, List.cons_append, List.nil_append, iRow, sRow, bRow, lRow, List.map_set]; first | done | rfl)
noncomputable def sem (ls : List L) : Option (List L) := (R (RKnown.dec ls) (RKnown.dec (dropT 2 ls))).map RT.enc
theorem ok (ls q : List L) (hl : LOKs Ev.cells pats ls) (h : sem ls = some q) : ∃ n, runF E live Tryz.f112 res n (initS pats ls) = some q := by
  obtain ⟨v, hv, hq⟩ := map_some h
  obtain ⟨⟨a0, a1⟩, hg, e, hm⟩ := ofM_some hv
  simp only [rf, Prod.mk.injEq] at e
  obtain ⟨e0, e1⟩ := e
  have hn := okF a0 a1 hg
  refine ⟨0, (run_eq 0 ls).trans ?_⟩
  rw [← e0, ← e1]
  rw [hn, ← hq, hm]; rfl
noncomputable def con : Con := ⟨pats, res, sem⟩
theorem chk : fnB Tryz.f112 con 17 = true := by kernel_rfl
theorem valid_ : Valid Tryz.prog Ev 112 con := valid mix tab_ok (.cons slices_EqualFunc_SSimpl_Signed_SSimpl_Signed_Simpl_Signed_Simpl_Signed__impl_sameChain.valid_ (.cons slices_EqualFunc_Simpl_Fork_Simpl_Fork_impl_Fork_impl_Fork__impl_EqualForks.valid_ .nil)) Tryz.func112 chk live ok
theorem md_eq (a0 : MKnown) (a1 : MKnown) : md a0 a1 = eqB a0 a1 := by
  unfold md
  cases a0; cases a1
  rw [Bool.eq_iff_iff]
  simp [eqB_iff, ba_beq, MKnown.mk.injEq, slices_EqualFunc_SSimpl_Signed_SSimpl_Signed_Simpl_Signed_Simpl_Signed__impl_sameChain.md_eq, slices_EqualFunc_Simpl_Fork_Simpl_Fork_impl_Fork_impl_Fork__impl_EqualForks.md_eq]
  try (constructor <;> (intro h; simp_all))
end impl_EqualKnown
/-! slices.Equal[[]string,string] -/
namespace slices_Equal_Sstring_string
inductive Pt where
  | p0 (a : List (List L)) (b : List (List L)) (c : Int) (d : Int)
def pid : Pt → Nat
  | .p0 .. => 4
def pvs : Pt → List V
  | .p0 a b c d => [.sl none 9 a, .sl none 9 b, .int .i64 c, .int .i64 d]
def phs : Pt → List Root
  | .p0 a b c d => []
noncomputable def step (J : Pt → Ans) : Pt → Ans
  | .p0 a b c d => (bif (decide (d < c)) then (bif (decide ((0 : Int) ≤ d)) then (bif (decide (d < (a.length : Int))) then (bif (decide ((0 : Int) ≤ d)) then (bif (decide (d < (b.length : Int))) then (bif (!((sAt a (Int.toNat d)) == (sAt b (Int.toNat d)))) then ret (false : Bool) else J (.p0 a b c (IntKind.i64.wrap (d + 1)))) else none) else none) else none) else none) else ret (true : Bool))
noncomputable def start (J : Pt → Ans) (x0 : List (List L)) (x1 : List (List L)) : Ans := (bif ((x0.length : Int) != (x1.length : Int)) then ret (false : Bool) else J (.p0 x0 x1 (x0.length : Int) 0))
def live : Nat → Live := fun i => match i with | 4 => [(0, none), (1, none), (12, none), (13, none)] | _ => []
def pats : List Pat := [.rd (.sl 9), .rd (.sl 9)]
def res : RP := .one (.rd (.bool))
noncomputable def G : List (Nat × Con) := []
noncomputable abbrev E : Env := ⟨assoc Tab, conG G, 26⟩
set_option maxRecDepth 100000
theorem step_eq (I : Heads) (p : Pt) : enterC E live I (pid p) (bodyOf Tryz.f160) (stOf (live (pid p)) (pvs p) (phs p)) (doneK E Tryz.f160 res) = step (fun q => I (pid q) (pvs q) (phs q)) p := by
  cases p <;> kernel_rfl
theorem start_eq (I : Heads) (ls : List L) : runC E live I (bodyOf Tryz.f160) (initS pats ls) (doneK E Tryz.f160 res) = start (fun q => I (pid q) (pvs q) (phs q)) (ls.headD .hole).toSl ((dropT 1 ls).headD .hole).toSl := by kernel_rfl
theorem run_eq (n : Nat) (ls : List L) : runF E live Tryz.f160 res n (initS pats ls) = start (iter step n) (ls.headD .hole).toSl ((dropT 1 ls).headD .hole).toSl := runF_iter (id := pid) (vs := pvs) (hs := phs) (step := step) (start := fun J => start J (ls.headD .hole).toSl ((dropT 1 ls).headD .hole).toSl) step_eq (fun I => start_eq I ls) n
noncomputable def md (a0 : List ByteArray) (a1 : List ByteArray) : Bool := (bif ((a0.length : Int) != (a1.length : Int)) then (false : Bool) else (loopM (S := Unit) (β := Bool) (fun (i2 : Nat) (s4 : Unit) => (bif (!((a0.getD i2 ⟨#[]⟩) == (a1.getD i2 ⟨#[]⟩))) then (.inr (false : Bool)) else (.inl ()))) (fun (s4 : Unit) => (true : Bool)) a0.length 0 ()))
def gd (a0 : List ByteArray) (a1 : List ByteArray) : Prop := (SmL (2 ^ 21) (fun y : ByteArray => y.size ≤ (2 ^ 21)) a0) ∧ (SmL (2 ^ 21) (fun y : ByteArray => y.size ≤ (2 ^ 21)) a1)
def rf (a : List ByteArray × List ByteArray) : List (List L) × List (List L) := ((a.1.map sRow), (a.2.map sRow))
theorem rf_inj (a b : List ByteArray × List ByteArray) (h : rf a = rf b) : a = b := by
  exact (Prod.ext (map_inj sRow_inj (congrArg (fun x => x.1) h)) (map_inj sRow_inj (congrArg (fun x => x.2) h)))
noncomputable def R (x0 : List (List L)) (x1 : List (List L)) : Option (Bool) := ofM rf (fun a => gd a.1 a.2) (fun a => (md a.1 a.2)) (x0, x1)
theorem R_eq {a0 : List ByteArray} {a1 : List ByteArray} (h : gd a0 a1) : R (a0.map sRow) (a1.map sRow) = some (md a0 a1) := ofM_eq (r := rf) (a := (a0, a1)) rf_inj h
theorem okF (a0 : List ByteArray) (a1 : List ByteArray) (hg : gd a0 a1) : ∃ n, start (iter step n) (a0.map sRow) (a1.map sRow) = ret ((md a0 a1) : Bool) := by
  unfold gd at hg
  obtain ⟨H0, H1⟩ := hg
  unfold start md
  try simp only [bytesL_map, List.length_map, toNat_nat, iAt_getD, bAt_getD, sAt_getD, lAt_getD]
  refine ex_bif (fun b : Bool => ret (b : Bool)) (fun c1 => ?_) (fun c1 => ?_)
  · have dc1 := c1
    try simp only [bne_eq_false_iff_eq, bne_iff_ne, beq_iff_eq, beq_eq_false_iff_ne, ne_eq, Bool.not_eq_true', Bool.not_eq_false'] at dc1
    refine ⟨0, ?_⟩
    all_goals first | rfl | (simp only [bytesL_map, List.length_map, toNat_nat, iAt_getD, bAt_getD, sAt_getD, lAt_getD]; done) | (simp only [List.map_append, List.map_cons, List.map_nil, List.cons_append, List.nil_append, iRow, sRow, bRow, lRow, List.map_set]; rfl) | (simp only [bytesL_map, List.length_map, toNat_nat, iAt_getD, bAt_getD, sAt_getD, lAt_getD, List.map_append, List.map_cons, List.map_nil, List.cons_append, List.nil_append, iRow, sRow, bRow, lRow, List.map_set]; first | done | rfl)
  · have dc1 := c1
    try simp only [bne_eq_false_iff_eq, bne_iff_ne, beq_iff_eq, beq_eq_false_iff_ne, ne_eq, Bool.not_eq_true', Bool.not_eq_false'] at dc1
    have Bh3 : a0.length ≤ maxLen := (by
        have := (H0).1
        try simp only [maxLen] at *
        omega)
    refine ex_pt (p := Pt.p0 (a0.map sRow) (a1.map sRow) (a0.length : Int) 0) (by first | rfl | (simp only [bytesL_map, List.length_map, toNat_nat, iAt_getD, bAt_getD, sAt_getD, lAt_getD, List.map_append, List.map_cons, List.map_nil, List.cons_append, List.nil_append, iRow, sRow, bRow, lRow, List.map_set]; done) | (simp only [List.map_append, List.map_cons, List.map_nil, List.cons_append, List.nil_append, iRow, sRow, bRow, lRow, List.map_set]; rfl)) ?_
    refine loopM_ok (pt := fun (i2 : Nat) (s4 : Unit) => Pt.p0 (a0.map sRow) (a1.map sRow) (a0.length : Int) (i2 : Int)) (s := (() : Unit)) (out := (fun b : Bool => ret (b : Bool))) (fun _ _ => True) (fun J i2 s4 h3 hih3 => ?_) (fun s4 hih3 => ?_) trivial
    · simp only [step, bytesL_map, List.length_map, toNat_nat, iAt_getD, bAt_getD, sAt_getD, lAt_getD]
      have bb_ := Bh3
      simp only [maxLen] at bb_
      have := (H0).1
      refine Rnd.yes (by apply decide_eq_true; omega) ?_
      refine Rnd.yes (by
          refine decide_eq_true ?_
          try simp (disch := omega) only [List.sum_cons, List.sum_nil, List.map_cons, List.map_nil, bytesI_length, bytesL_length, List.length_append, List.length_cons, List.length_nil, List.length_map, List.length_set, List.length_replicate, List.length_take, List.length_drop, Go.IntWalk.i64_in]
          first | omega | (simp; done) | (simp; omega)) ?_
      refine Rnd.yes (by
          have := (H0).1
          refine decide_eq_true ?_
          try simp (disch := omega) only [List.sum_cons, List.sum_nil, List.map_cons, List.map_nil, bytesI_length, bytesL_length, List.length_append, List.length_cons, List.length_nil, List.length_map, List.length_set, List.length_replicate, List.length_take, List.length_drop, Go.IntWalk.i64_in]
          first | omega | (simp; done) | (simp; omega)) ?_
      refine Rnd.yes (by
          refine decide_eq_true ?_
          try simp (disch := omega) only [List.sum_cons, List.sum_nil, List.map_cons, List.map_nil, bytesI_length, bytesL_length, List.length_append, List.length_cons, List.length_nil, List.length_map, List.length_set, List.length_replicate, List.length_take, List.length_drop, Go.IntWalk.i64_in]
          first | omega | (simp; done) | (simp; omega)) ?_
      refine Rnd.yes (by
          have := (H1).1
          refine decide_eq_true ?_
          try simp (disch := omega) only [List.sum_cons, List.sum_nil, List.map_cons, List.map_nil, bytesI_length, bytesL_length, List.length_append, List.length_cons, List.length_nil, List.length_map, List.length_set, List.length_replicate, List.length_take, List.length_drop, Go.IntWalk.i64_in]
          first | omega | (simp; done) | (simp; omega)) ?_
      refine Rnd.bif (fun c5 => ?_) (fun c5 => ?_)
      · have dc5 := c5
        try simp only [bne_eq_false_iff_eq, bne_iff_ne, beq_iff_eq, beq_eq_false_iff_ne, ne_eq, Bool.not_eq_true', Bool.not_eq_false'] at dc5
        refine Rnd.inr ?_
        all_goals first | rfl | (simp only [bytesL_map, List.length_map, toNat_nat, iAt_getD, bAt_getD, sAt_getD, lAt_getD]; done) | (simp only [List.map_append, List.map_cons, List.map_nil, List.cons_append, List.nil_append, iRow, sRow, bRow, lRow, List.map_set]; rfl) | (simp only [bytesL_map, List.length_map, toNat_nat, iAt_getD, bAt_getD, sAt_getD, lAt_getD, List.map_append, List.map_cons, List.map_nil, List.cons_append, List.nil_append, iRow, sRow, bRow, lRow, List.map_set]; first | done | rfl)
      · have dc5 := c5
        try simp only [bne_eq_false_iff_eq, bne_iff_ne, beq_iff_eq, beq_eq_false_iff_ne, ne_eq, Bool.not_eq_true', Bool.not_eq_false'] at dc5
        refine Rnd.inl trivial ?_
        rw [wrap_succ h3 Bh3]
        all_goals first | rfl | (simp only [bytesL_map, List.length_map, toNat_nat, iAt_getD, bAt_getD, sAt_getD, lAt_getD]; done) | (simp only [List.map_append, List.map_cons, List.map_nil, List.cons_append, List.nil_append, iRow, sRow, bRow, lRow, List.map_set]; rfl) | (simp only [bytesL_map, List.length_map, toNat_nat, iAt_getD, bAt_getD, sAt_getD, lAt_getD, List.map_append, List.map_cons, List.map_nil, List.cons_append, List.nil_append, iRow, sRow, bRow, lRow, List.map_set]; first | done | rfl)
    · simp only [step, bytesL_map, List.length_map, toNat_nat, iAt_getD, bAt_getD, sAt_getD, lAt_getD]
      have := (H0).1
      refine ex_no (by apply decide_eq_false; omega) ?_
      refine ⟨0, ?_⟩
      all_goals first | rfl | (simp only [bytesL_map, List.length_map, toNat_nat, iAt_getD, bAt_getD, sAt_getD, lAt_getD]; done) | (simp only [List.map_append, List.map_cons, List.map_nil, List.cons_append, List.nil_append, iRow, sRow, bRow, lRow, List.map_set]; rfl) | (simp only [bytesL_map, List.length_map, toNat_nat, iAt_getD, bAt_getD, sAt_getD, lAt_getD, List.map_append, List.map_cons, List.map_nil, List.cons_append, List.nil_append, iRow, sRow, bRow, lRow, List.map_set]; first | done | rfl)
noncomputable def sem (ls : List L) : Option (List L) := (R (ls.headD .hole).toSl ((dropT 1 ls).headD .hole).toSl).map RT.enc
theorem ok (ls q : List L) (hl : LOKs Ev.cells pats ls) (h : sem ls = some q) : ∃ n, runF E live Tryz.f160 res n (initS pats ls) = some q := by
  obtain ⟨v, hv, hq⟩ := map_some h
  obtain ⟨⟨a0, a1⟩, hg, e, hm⟩ := ofM_some hv
  simp only [rf, Prod.mk.injEq] at e
  obtain ⟨e0, e1⟩ := e
  obtain ⟨n, hn⟩ := okF a0 a1 hg
  refine ⟨n, (run_eq n ls).trans ?_⟩
  rw [← e0, ← e1]
  rw [hn, ← hq, hm]; rfl
noncomputable def con : Con := ⟨pats, res, sem⟩
theorem chk : fnB Tryz.f160 con 26 = true := by kernel_rfl
theorem valid_ : Valid Tryz.prog Ev 160 con := valid mix tab_ok .nil Tryz.func160 chk live ok
theorem md_eq (a0 : List ByteArray) (a1 : List ByteArray) : md a0 a1 = eqB a0 a1 := by
  unfold md
  refine loop_eqB (⟨#[]⟩) (fun i s h h2 => ?_) (fun s => rfl)
  simp only [bne, int_beq, bool_beq, ba_beq]
  cases eqB _ _ <;> rfl
end slices_Equal_Sstring_string
/-! impl.EqualEntries -/
namespace impl_EqualEntries
noncomputable def F (x0 : REntry) (x1 : REntry) : Ans := (bif (x0.fLabel == x1.fLabel) then (bif (x0.fKind == x1.fKind) then (bif (x0.fValue == x1.fValue) then (call (slices_Equal_Sstring_string.R x0.fPath x1.fPath) fun v1 => ret (v1 : Bool)) else ret (false : Bool)) else ret (false : Bool)) else ret (false : Bool))
def live : Nat → Live := fun _ => []
def pats : List Pat := [.agg [.str, .int .i64, .int .i64, .sl 9], .agg [.str, .int .i64, .int .i64, .sl 9]]
def res : RP := .one (.rd (.bool))
noncomputable def G : List (Nat × Con) := [(160, slices_Equal_Sstring_string.con)]
noncomputable abbrev E : Env := ⟨assoc Tab, conG G, 31⟩
set_option maxRecDepth 100000
theorem run_eq (n : Nat) (ls : List L) : runF E live Tryz.f113 res n (initS pats ls) = F (REntry.dec ls) (REntry.dec (dropT 4 ls)) := by kernel_rfl
noncomputable def md (a0 : MEntry) (a1 : MEntry) : Bool := (bif (a0.fLabel == a1.fLabel) then (bif (a0.fKind == a1.fKind) then (bif (a0.fValue == a1.fValue) then ((slices_Equal_Sstring_string.md a0.fPath a1.fPath) : Bool) else (false : Bool)) else (false : Bool)) else (false : Bool))
def gd (a0 : MEntry) (a1 : MEntry) : Prop := (MEntry.Sm (2 ^ 21) a0) ∧ (MEntry.Sm (2 ^ 21) a1)
def rf (a : MEntry × MEntry) : REntry × REntry := ((MEntry.r a.1), (MEntry.r a.2))
theorem rf_inj (a b : MEntry × MEntry) (h : rf a = rf b) : a = b := by
  exact (Prod.ext (MEntry.r_inj (congrArg (fun x => x.1) h)) (MEntry.r_inj (congrArg (fun x => x.2) h)))
noncomputable def R (x0 : REntry) (x1 : REntry) : Option (Bool) := ofM rf (fun a => gd a.1 a.2) (fun a => (md a.1 a.2)) (x0, x1)
theorem R_eq {a0 : MEntry} {a1 : MEntry} (h : gd a0 a1) : R (MEntry.r a0) (MEntry.r a1) = some (md a0 a1) := ofM_eq (r := rf) (a := (a0, a1)) rf_inj h
theorem okF (a0 : MEntry) (a1 : MEntry) (hg : gd a0 a1) : F (MEntry.r a0) (MEntry.r a1) = ret ((md a0 a1) : Bool) := by
  unfold gd at hg
  obtain ⟨H0, H1⟩ := hg
  unfold F md
  try simp only [bytesL_map, List.length_map, toNat_nat, iAt_getD, bAt_getD, sAt_getD, lAt_getD, MEntry.r_fLabel, MEntry.r_fKind, MEntry.r_fValue, MEntry.r_fPath]
  refine bif_out (fun b : Bool => ret (b : Bool)) (fun c1 => ?_) (fun c1 => ?_)
  · have dc1 := c1
    try simp only [bne_eq_false_iff_eq, bne_iff_ne, beq_iff_eq, beq_eq_false_iff_ne, ne_eq, Bool.not_eq_true', Bool.not_eq_false'] at dc1
    refine bif_out (fun b : Bool => ret (b : Bool)) (fun c2 => ?_) (fun c2 => ?_)
    · have dc2 := c2
      try simp only [bne_eq_false_iff_eq, bne_iff_ne, beq_iff_eq, beq_eq_false_iff_ne, ne_eq, Bool.not_eq_true', Bool.not_eq_false'] at dc2
      refine bif_out (fun b : Bool => ret (b : Bool)) (fun c3 => ?_) (fun c3 => ?_)
      · have dc3 := c3
        try simp only [bne_eq_false_iff_eq, bne_iff_ne, beq_iff_eq, beq_eq_false_iff_ne, ne_eq, Bool.not_eq_true', Bool.not_eq_false'] at dc3
        refine call_to (slices_Equal_Sstring_string.md a0.fPath a1.fPath) ?_ ?_
        · have R_ := slices_Equal_Sstring_string.R_eq (a0 := a0.fPath) (a1 := a1.fPath) ⟨H0.2, H1.2⟩
          first | exact R_ | (simp only [List.map_append, List.map_cons, List.map_nil, List.cons_append, List.nil_append, iRow, sRow, bRow, lRow, List.map_set, bytesL_map, List.length_map, toNat_nat, iAt_getD, bAt_getD, sAt_getD, lAt_getD, MEntry.r_fLabel, MEntry.r_fKind, MEntry.r_fValue, MEntry.r_fPath] at R_ ⊢; first | exact R_ | (rw [← R_]; rfl))
        try simp only [bytesL_map, List.length_map, toNat_nat, iAt_getD, bAt_getD, sAt_getD, lAt_getD, MEntry.r_fLabel, MEntry.r_fKind, MEntry.r_fValue, MEntry.r_fPath]
        all_goals first | rfl | (simp only [bytesL_map, List.length_map, toNat_nat, iAt_getD, bAt_getD, sAt_getD, lAt_getD, MEntry.r_fLabel, MEntry.r_fKind, MEntry.r_fValue, MEntry.r_fPath]; done) | (simp only [List.map_append, List.map_cons, List.map_nil, List.cons_append, List.nil_append, iRow, sRow, bRow, lRow, List.map_set]; rfl) | (simp only [bytesL_map, List.length_map, toNat_nat, iAt_getD, bAt_getD, sAt_getD, lAt_getD, MEntry.r_fLabel, MEntry.r_fKind, MEntry.r_fValue, MEntry.r_fPath, List.map_append, List.map_cons, List.map_nil, List.cons_append, List.nil_append, iRow, sRow, bRow, lRow, List.map_set]; first | done | rfl)
      · have dc3 := c3
        try simp only [bne_eq_false_iff_eq, bne_iff_ne, beq_iff_eq, beq_eq_false_iff_ne, ne_eq, Bool.not_eq_true', Bool.not_eq_false'] at dc3
        all_goals first | rfl | (simp only [bytesL_map, List.length_map, toNat_nat, iAt_getD, bAt_getD, sAt_getD, lAt_getD, MEntry.r_fLabel, MEntry.r_fKind, MEntry.r_fValue, MEntry.r_fPath]; done) | (simp only [List.map_append, List.map_cons, List.map_nil, List.cons_append, List.nil_append, iRow, sRow, bRow, lRow, List.map_set]; rfl) | (simp only [bytesL_map, List.length_map, toNat_nat, iAt_getD, bAt_getD, sAt_getD, lAt_getD, MEntry.r_fLabel, MEntry.r_fKind, MEntry.r_fValue, MEntry.r_fPath, List.map_append, List.map_cons, List.map_nil, List.cons_append, List.nil_append, iRow, sRow, bRow, lRow, List.map_set]; first | done | rfl)
    · have dc2 := c2
      try simp only [bne_eq_false_iff_eq, bne_iff_ne, beq_iff_eq, beq_eq_false_iff_ne, ne_eq, Bool.not_eq_true', Bool.not_eq_false'] at dc2
      all_goals first | rfl | (simp only [bytesL_map, List.length_map, toNat_nat, iAt_getD, bAt_getD, sAt_getD, lAt_getD, MEntry.r_fLabel, MEntry.r_fKind, MEntry.r_fValue, MEntry.r_fPath]; done) | (simp only [List.map_append, List.map_cons, List.map_nil, List.cons_append, List.nil_append, iRow, sRow, bRow, lRow, List.map_set]; rfl) | (simp only [bytesL_map, List.length_map, toNat_nat, iAt_getD, bAt_getD, sAt_getD, lAt_getD, MEntry.r_fLabel, MEntry.r_fKind, MEntry.r_fValue, MEntry.r_fPath, List.map_append, List.map_cons, List.map_nil, List.cons_append, List.nil_append, iRow, sRow, bRow, lRow, List.map_set]; first | done | rfl)
  · have dc1 := c1
    try simp only [bne_eq_false_iff_eq, bne_iff_ne, beq_iff_eq, beq_eq_false_iff_ne, ne_eq, Bool.not_eq_true', Bool.not_eq_false'] at dc1
    all_goals first | rfl | (simp only [bytesL_map, List.length_map, toNat_nat, iAt_getD, bAt_getD, sAt_getD, lAt_getD, MEntry.r_fLabel, MEntry.r_fKind, MEntry.r_fValue, MEntry.r_fPath]; done) | (simp only [List.map_append, List.map_cons, List.map_nil, List.cons_append, List.nil_append, iRow, sRow, bRow, lRow, List.map_set]; rfl) | (simp only [bytesL_map, List.length_map, toNat_nat, iAt_getD, bAt_getD, sAt_getD, lAt_getD, MEntry.r_fLabel, MEntry.r_fKind, MEntry.r_fValue, MEntry.r_fPath, List.map_append, List.map_cons, List.map_nil, List.cons_append, List.nil_append, iRow, sRow, bRow, lRow, List.map_set]; first | done | rfl)
noncomputable def sem (ls : List L) : Option (List L) := (R (REntry.dec ls) (REntry.dec (dropT 4 ls))).map RT.enc
theorem ok (ls q : List L) (hl : LOKs Ev.cells pats ls) (h : sem ls = some q) : ∃ n, runF E live Tryz.f113 res n (initS pats ls) = some q := by
  obtain ⟨v, hv, hq⟩ := map_some h
  obtain ⟨⟨a0, a1⟩, hg, e, hm⟩ := ofM_some hv
  simp only [rf, Prod.mk.injEq] at e
  obtain ⟨e0, e1⟩ := e
  have hn := okF a0 a1 hg
  refine ⟨0, (run_eq 0 ls).trans ?_⟩
  rw [← e0, ← e1]
  rw [hn, ← hq, hm]; rfl
noncomputable def con : Con := ⟨pats, res, sem⟩
theorem chk : fnB Tryz.f113 con 31 = true := by kernel_rfl
theorem valid_ : Valid Tryz.prog Ev 113 con := valid mix tab_ok (.cons slices_Equal_Sstring_string.valid_ .nil) Tryz.func113 chk live ok
theorem md_eq (a0 : MEntry) (a1 : MEntry) : md a0 a1 = eqB a0 a1 := by
  unfold md
  cases a0; cases a1
  rw [Bool.eq_iff_iff]
  simp [eqB_iff, ba_beq, MEntry.mk.injEq, slices_Equal_Sstring_string.md_eq]
  try (constructor <;> (intro h; simp_all))
end impl_EqualEntries
/-! impl.EqualTraces -/
namespace impl_EqualTraces
noncomputable def F (x0 : RTrace) (x1 : RTrace) : Ans := (call (impl_EqualKnown.R x0.fKnown x1.fKnown) fun v1 => (bif v1 then (bif (x0.fCode == x1.fCode) then (call (impl_EqualEntries.R x0.fEntry x1.fEntry) fun v2 => (bif v2 then (call (slices_Equal_Sint_int.R x0.fZones x1.fZones) fun v3 => (bif v3 then ret ((x0.fMoves == x1.fMoves) : Bool) else ret (false : Bool))) else ret (false : Bool))) else ret (false : Bool)) else ret (false : Bool)))
def live : Nat → Live := fun _ => []
def pats : List Pat := [.agg [.sl 38, .sl 95, .int .i64, .str, .int .i64, .int .i64, .sl 9, .sl 3, .int .i64], .agg [.sl 38, .sl 95, .int .i64, .str, .int .i64, .int .i64, .sl 9, .sl 3, .int .i64]]
def res : RP := .one (.rd (.bool))
noncomputable def G : List (Nat × Con) := [(112, impl_EqualKnown.con), (113, impl_EqualEntries.con), (114, slices_Equal_Sint_int.con)]
noncomputable abbrev E : Env := ⟨assoc Tab, conG G, 38⟩
set_option maxRecDepth 100000
theorem run_eq (n : Nat) (ls : List L) : runF E live Tryz.f62 res n (initS pats ls) = F (RTrace.dec ls) (RTrace.dec (dropT 9 ls)) := by kernel_rfl
noncomputable def md (a0 : MTrace) (a1 : MTrace) : Bool := (bif (impl_EqualKnown.md a0.fKnown a1.fKnown) then (bif (a0.fCode == a1.fCode) then (bif (impl_EqualEntries.md a0.fEntry a1.fEntry) then (bif (slices_Equal_Sint_int.md a0.fZones a1.fZones) then ((a0.fMoves == a1.fMoves) : Bool) else (false : Bool)) else (false : Bool)) else (false : Bool)) else (false : Bool))
def gd (a0 : MTrace) (a1 : MTrace) : Prop := (MTrace.Sm (2 ^ 21) a0) ∧ (MTrace.Sm (2 ^ 21) a1)
def rf (a : MTrace × MTrace) : RTrace × RTrace := ((MTrace.r a.1), (MTrace.r a.2))
theorem rf_inj (a b : MTrace × MTrace) (h : rf a = rf b) : a = b := by
  exact (Prod.ext (MTrace.r_inj (congrArg (fun x => x.1) h)) (MTrace.r_inj (congrArg (fun x => x.2) h)))
noncomputable def R (x0 : RTrace) (x1 : RTrace) : Option (Bool) := ofM rf (fun a => gd a.1 a.2) (fun a => (md a.1 a.2)) (x0, x1)
theorem R_eq {a0 : MTrace} {a1 : MTrace} (h : gd a0 a1) : R (MTrace.r a0) (MTrace.r a1) = some (md a0 a1) := ofM_eq (r := rf) (a := (a0, a1)) rf_inj h
theorem okF (a0 : MTrace) (a1 : MTrace) (hg : gd a0 a1) : F (MTrace.r a0) (MTrace.r a1) = ret ((md a0 a1) : Bool) := by
  unfold gd at hg
  obtain ⟨H0, H1⟩ := hg
  unfold F md
  try simp only [bytesL_map, List.length_map, toNat_nat, iAt_getD, bAt_getD, sAt_getD, lAt_getD, MTrace.r_fKnown, MTrace.r_fCode, MTrace.r_fEntry, MTrace.r_fZones, MTrace.r_fMoves]
  refine call_to (impl_EqualKnown.md a0.fKnown a1.fKnown) ?_ ?_
  · have R_ := impl_EqualKnown.R_eq (a0 := a0.fKnown) (a1 := a1.fKnown) ⟨H0.1, H1.1⟩
    first | exact R_ | (simp only [List.map_append, List.map_cons, List.map_nil, List.cons_append, List.nil_append, iRow, sRow, bRow, lRow, List.map_set, bytesL_map, List.length_map, toNat_nat, iAt_getD, bAt_getD, sAt_getD, lAt_getD, MTrace.r_fKnown, MTrace.r_fCode, MTrace.r_fEntry, MTrace.r_fZones, MTrace.r_fMoves] at R_ ⊢; first | exact R_ | (rw [← R_]; rfl))
  try simp only [bytesL_map, List.length_map, toNat_nat, iAt_getD, bAt_getD, sAt_getD, lAt_getD, MTrace.r_fKnown, MTrace.r_fCode, MTrace.r_fEntry, MTrace.r_fZones, MTrace.r_fMoves]
  refine bif_out (fun b : Bool => ret (b : Bool)) (fun c1 => ?_) (fun c1 => ?_)
  · refine bif_out (fun b : Bool => ret (b : Bool)) (fun c2 => ?_) (fun c2 => ?_)
    · have dc2 := c2
      try simp only [bne_eq_false_iff_eq, bne_iff_ne, beq_iff_eq, beq_eq_false_iff_ne, ne_eq, Bool.not_eq_true', Bool.not_eq_false'] at dc2
      refine call_to (impl_EqualEntries.md a0.fEntry a1.fEntry) ?_ ?_
      · have R_ := impl_EqualEntries.R_eq (a0 := a0.fEntry) (a1 := a1.fEntry) ⟨H0.2.1, H1.2.1⟩
        first | exact R_ | (simp only [List.map_append, List.map_cons, List.map_nil, List.cons_append, List.nil_append, iRow, sRow, bRow, lRow, List.map_set, bytesL_map, List.length_map, toNat_nat, iAt_getD, bAt_getD, sAt_getD, lAt_getD, MTrace.r_fKnown, MTrace.r_fCode, MTrace.r_fEntry, MTrace.r_fZones, MTrace.r_fMoves] at R_ ⊢; first | exact R_ | (rw [← R_]; rfl))
      try simp only [bytesL_map, List.length_map, toNat_nat, iAt_getD, bAt_getD, sAt_getD, lAt_getD, MTrace.r_fKnown, MTrace.r_fCode, MTrace.r_fEntry, MTrace.r_fZones, MTrace.r_fMoves]
      refine bif_out (fun b : Bool => ret (b : Bool)) (fun c3 => ?_) (fun c3 => ?_)
      · refine call_to (slices_Equal_Sint_int.md a0.fZones a1.fZones) ?_ ?_
        · have R_ := slices_Equal_Sint_int.R_eq (a0 := a0.fZones) (a1 := a1.fZones) ⟨(H0.2.2.mono (by decide) (fun x hx => trivial)), (H1.2.2.mono (by decide) (fun x hx => trivial))⟩
          first | exact R_ | (simp only [List.map_append, List.map_cons, List.map_nil, List.cons_append, List.nil_append, iRow, sRow, bRow, lRow, List.map_set, bytesL_map, List.length_map, toNat_nat, iAt_getD, bAt_getD, sAt_getD, lAt_getD, MTrace.r_fKnown, MTrace.r_fCode, MTrace.r_fEntry, MTrace.r_fZones, MTrace.r_fMoves] at R_ ⊢; first | exact R_ | (rw [← R_]; rfl))
        try simp only [bytesL_map, List.length_map, toNat_nat, iAt_getD, bAt_getD, sAt_getD, lAt_getD, MTrace.r_fKnown, MTrace.r_fCode, MTrace.r_fEntry, MTrace.r_fZones, MTrace.r_fMoves]
        refine bif_out (fun b : Bool => ret (b : Bool)) (fun c4 => ?_) (fun c4 => ?_)
        · all_goals first | rfl | (simp only [bytesL_map, List.length_map, toNat_nat, iAt_getD, bAt_getD, sAt_getD, lAt_getD, MTrace.r_fKnown, MTrace.r_fCode, MTrace.r_fEntry, MTrace.r_fZones, MTrace.r_fMoves]; done) | (simp only [List.map_append, List.map_cons, List.map_nil, List.cons_append, List.nil_append, iRow, sRow, bRow, lRow, List.map_set]; rfl) | (simp only [bytesL_map, List.length_map, toNat_nat, iAt_getD, bAt_getD, sAt_getD, lAt_getD, MTrace.r_fKnown, MTrace.r_fCode, MTrace.r_fEntry, MTrace.r_fZones, MTrace.r_fMoves, List.map_append, List.map_cons, List.map_nil, List.cons_append, List.nil_append, iRow, sRow, bRow, lRow, List.map_set]; first | done | rfl)
        · all_goals first | rfl | (simp only [bytesL_map, List.length_map, toNat_nat, iAt_getD, bAt_getD, sAt_getD, lAt_getD, MTrace.r_fKnown, MTrace.r_fCode, MTrace.r_fEntry, MTrace.r_fZones, MTrace.r_fMoves]; done) | (simp only [List.map_append, List.map_cons, List.map_nil, List.cons_append, List.nil_append, iRow, sRow, bRow, lRow, List.map_set]; rfl) | (simp only [bytesL_map, List.length_map, toNat_nat, iAt_getD, bAt_getD, sAt_getD, lAt_getD, MTrace.r_fKnown, MTrace.r_fCode, MTrace.r_fEntry, MTrace.r_fZones, MTrace.r_fMoves, List.map_append, List.map_cons, List.map_nil, List.cons_append, List.nil_append, iRow, sRow, bRow, lRow, List.map_set]; first | done | rfl)
      · all_goals first | rfl | (simp only [bytesL_map, List.length_map, toNat_nat, iAt_getD, bAt_getD, sAt_getD, lAt_getD, MTrace.r_fKnown, MTrace.r_fCode, MTrace.r_fEntry, MTrace.r_fZones, MTrace.r_fMoves]; done) | (simp only [List.map_append, List.map_cons, List.map_nil, List.cons_append, List.nil_append, iRow, sRow, bRow, lRow, List.map_set]; rfl) | (simp only [bytesL_map, List.length_map, toNat_nat, iAt_getD, bAt_getD, sAt_getD, lAt_getD, MTrace.r_fKnown, MTrace.r_fCode, MTrace.r_fEntry, MTrace.r_fZones, MTrace.r_fMoves, List.map_append, List.map_cons, List.map_nil, List.cons_append, List.nil_append, iRow, sRow, bRow, lRow, List.map_set]; first | done | rfl)
    · have dc2 := c2
      try simp only [bne_eq_false_iff_eq, bne_iff_ne, beq_iff_eq, beq_eq_false_iff_ne, ne_eq, Bool.not_eq_true', Bool.not_eq_false'] at dc2
      all_goals first | rfl | (simp only [bytesL_map, List.length_map, toNat_nat, iAt_getD, bAt_getD, sAt_getD, lAt_getD, MTrace.r_fKnown, MTrace.r_fCode, MTrace.r_fEntry, MTrace.r_fZones, MTrace.r_fMoves]; done) | (simp only [List.map_append, List.map_cons, List.map_nil, List.cons_append, List.nil_append, iRow, sRow, bRow, lRow, List.map_set]; rfl) | (simp only [bytesL_map, List.length_map, toNat_nat, iAt_getD, bAt_getD, sAt_getD, lAt_getD, MTrace.r_fKnown, MTrace.r_fCode, MTrace.r_fEntry, MTrace.r_fZones, MTrace.r_fMoves, List.map_append, List.map_cons, List.map_nil, List.cons_append, List.nil_append, iRow, sRow, bRow, lRow, List.map_set]; first | done | rfl)
  · all_goals first | rfl | (simp only [bytesL_map, List.length_map, toNat_nat, iAt_getD, bAt_getD, sAt_getD, lAt_getD, MTrace.r_fKnown, MTrace.r_fCode, MTrace.r_fEntry, MTrace.r_fZones, MTrace.r_fMoves]; done) | (simp only [List.map_append, List.map_cons, List.map_nil, List.cons_append, List.nil_append, iRow, sRow, bRow, lRow, List.map_set]; rfl) | (simp only [bytesL_map, List.length_map, toNat_nat, iAt_getD, bAt_getD, sAt_getD, lAt_getD, MTrace.r_fKnown, MTrace.r_fCode, MTrace.r_fEntry, MTrace.r_fZones, MTrace.r_fMoves, List.map_append, List.map_cons, List.map_nil, List.cons_append, List.nil_append, iRow, sRow, bRow, lRow, List.map_set]; first | done | rfl)
noncomputable def sem (ls : List L) : Option (List L) := (R (RTrace.dec ls) (RTrace.dec (dropT 9 ls))).map RT.enc
theorem ok (ls q : List L) (hl : LOKs Ev.cells pats ls) (h : sem ls = some q) : ∃ n, runF E live Tryz.f62 res n (initS pats ls) = some q := by
  obtain ⟨v, hv, hq⟩ := map_some h
  obtain ⟨⟨a0, a1⟩, hg, e, hm⟩ := ofM_some hv
  simp only [rf, Prod.mk.injEq] at e
  obtain ⟨e0, e1⟩ := e
  have hn := okF a0 a1 hg
  refine ⟨0, (run_eq 0 ls).trans ?_⟩
  rw [← e0, ← e1]
  rw [hn, ← hq, hm]; rfl
noncomputable def con : Con := ⟨pats, res, sem⟩
theorem chk : fnB Tryz.f62 con 38 = true := by kernel_rfl
theorem valid_ : Valid Tryz.prog Ev 62 con := valid mix tab_ok (.cons impl_EqualKnown.valid_ (.cons impl_EqualEntries.valid_ (.cons slices_Equal_Sint_int.valid_ .nil))) Tryz.func62 chk live ok
theorem md_eq (a0 : MTrace) (a1 : MTrace) : md a0 a1 = eqB a0 a1 := by
  unfold md
  cases a0; cases a1
  rw [Bool.eq_iff_iff]
  simp [eqB_iff, ba_beq, MTrace.mk.injEq, impl_EqualKnown.md_eq, impl_EqualEntries.md_eq, slices_Equal_Sint_int.md_eq]
  try (constructor <;> (intro h; simp_all))
end impl_EqualTraces
/-! impl.EqualProofs -/
namespace impl_EqualProofs
noncomputable def F (x0 : RProof) (x1 : RProof) : Ans := (bif (x0.fAt == x1.fAt) then (call (slices_Equal_Sint_int.R x0.fPath x1.fPath) fun v1 => ret (v1 : Bool)) else ret (false : Bool))
def live : Nat → Live := fun _ => []
def pats : List Pat := [.agg [.int .i64, .sl 3], .agg [.int .i64, .sl 3]]
def res : RP := .one (.rd (.bool))
noncomputable def G : List (Nat × Con) := [(114, slices_Equal_Sint_int.con)]
noncomputable abbrev E : Env := ⟨assoc Tab, conG G, 17⟩
set_option maxRecDepth 100000
theorem run_eq (n : Nat) (ls : List L) : runF E live Tryz.f161 res n (initS pats ls) = F (RProof.dec ls) (RProof.dec (dropT 2 ls)) := by kernel_rfl
noncomputable def md (a0 : MProof) (a1 : MProof) : Bool := (bif (a0.fAt == a1.fAt) then ((slices_Equal_Sint_int.md a0.fPath a1.fPath) : Bool) else (false : Bool))
def gd (a0 : MProof) (a1 : MProof) : Prop := (MProof.Sm (2 ^ 21) a0) ∧ (MProof.Sm (2 ^ 21) a1)
def rf (a : MProof × MProof) : RProof × RProof := ((MProof.r a.1), (MProof.r a.2))
theorem rf_inj (a b : MProof × MProof) (h : rf a = rf b) : a = b := by
  exact (Prod.ext (MProof.r_inj (congrArg (fun x => x.1) h)) (MProof.r_inj (congrArg (fun x => x.2) h)))
noncomputable def R (x0 : RProof) (x1 : RProof) : Option (Bool) := ofM rf (fun a => gd a.1 a.2) (fun a => (md a.1 a.2)) (x0, x1)
theorem R_eq {a0 : MProof} {a1 : MProof} (h : gd a0 a1) : R (MProof.r a0) (MProof.r a1) = some (md a0 a1) := ofM_eq (r := rf) (a := (a0, a1)) rf_inj h
theorem okF (a0 : MProof) (a1 : MProof) (hg : gd a0 a1) : F (MProof.r a0) (MProof.r a1) = ret ((md a0 a1) : Bool) := by
  unfold gd at hg
  obtain ⟨H0, H1⟩ := hg
  unfold F md
  try simp only [bytesL_map, List.length_map, toNat_nat, iAt_getD, bAt_getD, sAt_getD, lAt_getD, MProof.r_fAt, MProof.r_fPath]
  refine bif_out (fun b : Bool => ret (b : Bool)) (fun c1 => ?_) (fun c1 => ?_)
  · have dc1 := c1
    try simp only [bne_eq_false_iff_eq, bne_iff_ne, beq_iff_eq, beq_eq_false_iff_ne, ne_eq, Bool.not_eq_true', Bool.not_eq_false'] at dc1
    refine call_to (slices_Equal_Sint_int.md a0.fPath a1.fPath) ?_ ?_
    · have R_ := slices_Equal_Sint_int.R_eq (a0 := a0.fPath) (a1 := a1.fPath) ⟨(H0.mono (by decide) (fun x hx => trivial)), (H1.mono (by decide) (fun x hx => trivial))⟩
      first | exact R_ | (simp only [List.map_append, List.map_cons, List.map_nil, List.cons_append, List.nil_append, iRow, sRow, bRow, lRow, List.map_set, bytesL_map, List.length_map, toNat_nat, iAt_getD, bAt_getD, sAt_getD, lAt_getD, MProof.r_fAt, MProof.r_fPath] at R_ ⊢; first | exact R_ | (rw [← R_]; rfl))
    try simp only [bytesL_map, List.length_map, toNat_nat, iAt_getD, bAt_getD, sAt_getD, lAt_getD, MProof.r_fAt, MProof.r_fPath]
    all_goals first | rfl | (simp only [bytesL_map, List.length_map, toNat_nat, iAt_getD, bAt_getD, sAt_getD, lAt_getD, MProof.r_fAt, MProof.r_fPath]; done) | (simp only [List.map_append, List.map_cons, List.map_nil, List.cons_append, List.nil_append, iRow, sRow, bRow, lRow, List.map_set]; rfl) | (simp only [bytesL_map, List.length_map, toNat_nat, iAt_getD, bAt_getD, sAt_getD, lAt_getD, MProof.r_fAt, MProof.r_fPath, List.map_append, List.map_cons, List.map_nil, List.cons_append, List.nil_append, iRow, sRow, bRow, lRow, List.map_set]; first | done | rfl)
  · have dc1 := c1
    try simp only [bne_eq_false_iff_eq, bne_iff_ne, beq_iff_eq, beq_eq_false_iff_ne, ne_eq, Bool.not_eq_true', Bool.not_eq_false'] at dc1
    all_goals first | rfl | (simp only [bytesL_map, List.length_map, toNat_nat, iAt_getD, bAt_getD, sAt_getD, lAt_getD, MProof.r_fAt, MProof.r_fPath]; done) | (simp only [List.map_append, List.map_cons, List.map_nil, List.cons_append, List.nil_append, iRow, sRow, bRow, lRow, List.map_set]; rfl) | (simp only [bytesL_map, List.length_map, toNat_nat, iAt_getD, bAt_getD, sAt_getD, lAt_getD, MProof.r_fAt, MProof.r_fPath, List.map_append, List.map_cons, List.map_nil, List.cons_append, List.nil_append, iRow, sRow, bRow, lRow, List.map_set]; first | done | rfl)
noncomputable def sem (ls : List L) : Option (List L) := (R (RProof.dec ls) (RProof.dec (dropT 2 ls))).map RT.enc
theorem ok (ls q : List L) (hl : LOKs Ev.cells pats ls) (h : sem ls = some q) : ∃ n, runF E live Tryz.f161 res n (initS pats ls) = some q := by
  obtain ⟨v, hv, hq⟩ := map_some h
  obtain ⟨⟨a0, a1⟩, hg, e, hm⟩ := ofM_some hv
  simp only [rf, Prod.mk.injEq] at e
  obtain ⟨e0, e1⟩ := e
  have hn := okF a0 a1 hg
  refine ⟨0, (run_eq 0 ls).trans ?_⟩
  rw [← e0, ← e1]
  rw [hn, ← hq, hm]; rfl
noncomputable def con : Con := ⟨pats, res, sem⟩
theorem chk : fnB Tryz.f161 con 17 = true := by kernel_rfl
theorem valid_ : Valid Tryz.prog Ev 161 con := valid mix tab_ok (.cons slices_Equal_Sint_int.valid_ .nil) Tryz.func161 chk live ok
theorem md_eq (a0 : MProof) (a1 : MProof) : md a0 a1 = eqB a0 a1 := by
  unfold md
  cases a0; cases a1
  rw [Bool.eq_iff_iff]
  simp [eqB_iff, ba_beq, MProof.mk.injEq, slices_Equal_Sint_int.md_eq]
  try (constructor <;> (intro h; simp_all))
end impl_EqualProofs
/-! impl.EqualGaps -/
namespace impl_EqualGaps
noncomputable def F (x0 : RGap) (x1 : RGap) : Ans := (bif (x0.fAt == x1.fAt) then (call (impl_EqualEntries.R x0.fBefore x1.fBefore) fun v1 => (bif v1 then (call (impl_EqualEntries.R x0.fAfter x1.fAfter) fun v2 => (bif v2 then (call (impl_EqualProofs.R x0.fLeft x1.fLeft) fun v3 => (bif v3 then (call (impl_EqualProofs.R x0.fRight x1.fRight) fun v4 => ret (v4 : Bool)) else ret (false : Bool))) else ret (false : Bool))) else ret (false : Bool))) else ret (false : Bool))
def live : Nat → Live := fun _ => []
def pats : List Pat := [.agg [.int .i64, .str, .int .i64, .int .i64, .sl 9, .str, .int .i64, .int .i64, .sl 9, .int .i64, .sl 3, .int .i64, .sl 3], .agg [.int .i64, .str, .int .i64, .int .i64, .sl 9, .str, .int .i64, .int .i64, .sl 9, .int .i64, .sl 3, .int .i64, .sl 3]]
def res : RP := .one (.rd (.bool))
noncomputable def G : List (Nat × Con) := [(113, impl_EqualEntries.con), (161, impl_EqualProofs.con)]
noncomputable abbrev E : Env := ⟨assoc Tab, conG G, 38⟩
set_option maxRecDepth 100000
theorem run_eq (n : Nat) (ls : List L) : runF E live Tryz.f162 res n (initS pats ls) = F (RGap.dec ls) (RGap.dec (dropT 13 ls)) := by kernel_rfl
noncomputable def md (a0 : MGap) (a1 : MGap) : Bool := (bif (a0.fAt == a1.fAt) then (bif (impl_EqualEntries.md a0.fBefore a1.fBefore) then (bif (impl_EqualEntries.md a0.fAfter a1.fAfter) then (bif (impl_EqualProofs.md a0.fLeft a1.fLeft) then ((impl_EqualProofs.md a0.fRight a1.fRight) : Bool) else (false : Bool)) else (false : Bool)) else (false : Bool)) else (false : Bool))
def gd (a0 : MGap) (a1 : MGap) : Prop := (MGap.Sm (2 ^ 21) a0) ∧ (MGap.Sm (2 ^ 21) a1)
def rf (a : MGap × MGap) : RGap × RGap := ((MGap.r a.1), (MGap.r a.2))
theorem rf_inj (a b : MGap × MGap) (h : rf a = rf b) : a = b := by
  exact (Prod.ext (MGap.r_inj (congrArg (fun x => x.1) h)) (MGap.r_inj (congrArg (fun x => x.2) h)))
noncomputable def R (x0 : RGap) (x1 : RGap) : Option (Bool) := ofM rf (fun a => gd a.1 a.2) (fun a => (md a.1 a.2)) (x0, x1)
theorem R_eq {a0 : MGap} {a1 : MGap} (h : gd a0 a1) : R (MGap.r a0) (MGap.r a1) = some (md a0 a1) := ofM_eq (r := rf) (a := (a0, a1)) rf_inj h
theorem okF (a0 : MGap) (a1 : MGap) (hg : gd a0 a1) : F (MGap.r a0) (MGap.r a1) = ret ((md a0 a1) : Bool) := by
  unfold gd at hg
  obtain ⟨H0, H1⟩ := hg
  unfold F md
  try simp only [bytesL_map, List.length_map, toNat_nat, iAt_getD, bAt_getD, sAt_getD, lAt_getD, MProof.r_fAt, MGap.r_fAt, MGap.r_fBefore, MGap.r_fAfter, MGap.r_fLeft, MGap.r_fRight]
  refine bif_out (fun b : Bool => ret (b : Bool)) (fun c1 => ?_) (fun c1 => ?_)
  · have dc1 := c1
    try simp only [bne_eq_false_iff_eq, bne_iff_ne, beq_iff_eq, beq_eq_false_iff_ne, ne_eq, Bool.not_eq_true', Bool.not_eq_false'] at dc1
    refine call_to (impl_EqualEntries.md a0.fBefore a1.fBefore) ?_ ?_
    · have R_ := impl_EqualEntries.R_eq (a0 := a0.fBefore) (a1 := a1.fBefore) ⟨H0.1, H1.1⟩
      first | exact R_ | (simp only [List.map_append, List.map_cons, List.map_nil, List.cons_append, List.nil_append, iRow, sRow, bRow, lRow, List.map_set, bytesL_map, List.length_map, toNat_nat, iAt_getD, bAt_getD, sAt_getD, lAt_getD, MProof.r_fAt, MGap.r_fAt, MGap.r_fBefore, MGap.r_fAfter, MGap.r_fLeft, MGap.r_fRight] at R_ ⊢; first | exact R_ | (rw [← R_]; rfl))
    try simp only [bytesL_map, List.length_map, toNat_nat, iAt_getD, bAt_getD, sAt_getD, lAt_getD, MProof.r_fAt, MGap.r_fAt, MGap.r_fBefore, MGap.r_fAfter, MGap.r_fLeft, MGap.r_fRight]
    refine bif_out (fun b : Bool => ret (b : Bool)) (fun c2 => ?_) (fun c2 => ?_)
    · refine call_to (impl_EqualEntries.md a0.fAfter a1.fAfter) ?_ ?_
      · have R_ := impl_EqualEntries.R_eq (a0 := a0.fAfter) (a1 := a1.fAfter) ⟨H0.2.1, H1.2.1⟩
        first | exact R_ | (simp only [List.map_append, List.map_cons, List.map_nil, List.cons_append, List.nil_append, iRow, sRow, bRow, lRow, List.map_set, bytesL_map, List.length_map, toNat_nat, iAt_getD, bAt_getD, sAt_getD, lAt_getD, MProof.r_fAt, MGap.r_fAt, MGap.r_fBefore, MGap.r_fAfter, MGap.r_fLeft, MGap.r_fRight] at R_ ⊢; first | exact R_ | (rw [← R_]; rfl))
      try simp only [bytesL_map, List.length_map, toNat_nat, iAt_getD, bAt_getD, sAt_getD, lAt_getD, MProof.r_fAt, MGap.r_fAt, MGap.r_fBefore, MGap.r_fAfter, MGap.r_fLeft, MGap.r_fRight]
      refine bif_out (fun b : Bool => ret (b : Bool)) (fun c3 => ?_) (fun c3 => ?_)
      · refine call_to (impl_EqualProofs.md a0.fLeft a1.fLeft) ?_ ?_
        · have R_ := impl_EqualProofs.R_eq (a0 := a0.fLeft) (a1 := a1.fLeft) ⟨H0.2.2.1, H1.2.2.1⟩
          first | exact R_ | (simp only [List.map_append, List.map_cons, List.map_nil, List.cons_append, List.nil_append, iRow, sRow, bRow, lRow, List.map_set, bytesL_map, List.length_map, toNat_nat, iAt_getD, bAt_getD, sAt_getD, lAt_getD, MProof.r_fAt, MGap.r_fAt, MGap.r_fBefore, MGap.r_fAfter, MGap.r_fLeft, MGap.r_fRight] at R_ ⊢; first | exact R_ | (rw [← R_]; rfl))
        try simp only [bytesL_map, List.length_map, toNat_nat, iAt_getD, bAt_getD, sAt_getD, lAt_getD, MProof.r_fAt, MGap.r_fAt, MGap.r_fBefore, MGap.r_fAfter, MGap.r_fLeft, MGap.r_fRight]
        refine bif_out (fun b : Bool => ret (b : Bool)) (fun c4 => ?_) (fun c4 => ?_)
        · refine call_to (impl_EqualProofs.md a0.fRight a1.fRight) ?_ ?_
          · have R_ := impl_EqualProofs.R_eq (a0 := a0.fRight) (a1 := a1.fRight) ⟨H0.2.2.2, H1.2.2.2⟩
            first | exact R_ | (simp only [List.map_append, List.map_cons, List.map_nil, List.cons_append, List.nil_append, iRow, sRow, bRow, lRow, List.map_set, bytesL_map, List.length_map, toNat_nat, iAt_getD, bAt_getD, sAt_getD, lAt_getD, MProof.r_fAt, MGap.r_fAt, MGap.r_fBefore, MGap.r_fAfter, MGap.r_fLeft, MGap.r_fRight] at R_ ⊢; first | exact R_ | (rw [← R_]; rfl))
          try simp only [bytesL_map, List.length_map, toNat_nat, iAt_getD, bAt_getD, sAt_getD, lAt_getD, MProof.r_fAt, MGap.r_fAt, MGap.r_fBefore, MGap.r_fAfter, MGap.r_fLeft, MGap.r_fRight]
          all_goals first | rfl | (simp only [bytesL_map, List.length_map, toNat_nat, iAt_getD, bAt_getD, sAt_getD, lAt_getD, MProof.r_fAt, MGap.r_fAt, MGap.r_fBefore, MGap.r_fAfter, MGap.r_fLeft, MGap.r_fRight]; done) | (simp only [List.map_append, List.map_cons, List.map_nil, List.cons_append, List.nil_append, iRow, sRow, bRow, lRow, List.map_set]; rfl) | (simp only [bytesL_map, List.length_map, toNat_nat, iAt_getD, bAt_getD, sAt_getD, lAt_getD, MProof.r_fAt, MGap.r_fAt, MGap.r_fBefore, MGap.r_fAfter, MGap.r_fLeft, MGap.r_fRight, List.map_append, List.map_cons, List.map_nil, List.cons_append, List.nil_append, iRow, sRow, bRow, lRow, List.map_set]; first | done | rfl)
        · all_goals first | rfl | (simp only [bytesL_map, List.length_map, toNat_nat, iAt_getD, bAt_getD, sAt_getD, lAt_getD, MProof.r_fAt, MGap.r_fAt, MGap.r_fBefore, MGap.r_fAfter, MGap.r_fLeft, MGap.r_fRight]; done) | (simp only [List.map_append, List.map_cons, List.map_nil, List.cons_append, List.nil_append, iRow, sRow, bRow, lRow, List.map_set]; rfl) | (simp only [bytesL_map, List.length_map, toNat_nat, iAt_getD, bAt_getD, sAt_getD, lAt_getD, MProof.r_fAt, MGap.r_fAt, MGap.r_fBefore, MGap.r_fAfter, MGap.r_fLeft, MGap.r_fRight, List.map_append, List.map_cons, List.map_nil, List.cons_append, List.nil_append, iRow, sRow, bRow, lRow, List.map_set]; first | done | rfl)
      · all_goals first | rfl | (simp only [bytesL_map, List.length_map, toNat_nat, iAt_getD, bAt_getD, sAt_getD, lAt_getD, MProof.r_fAt, MGap.r_fAt, MGap.r_fBefore, MGap.r_fAfter, MGap.r_fLeft, MGap.r_fRight]; done) | (simp only [List.map_append, List.map_cons, List.map_nil, List.cons_append, List.nil_append, iRow, sRow, bRow, lRow, List.map_set]; rfl) | (simp only [bytesL_map, List.length_map, toNat_nat, iAt_getD, bAt_getD, sAt_getD, lAt_getD, MProof.r_fAt, MGap.r_fAt, MGap.r_fBefore, MGap.r_fAfter, MGap.r_fLeft, MGap.r_fRight, List.map_append, List.map_cons, List.map_nil, List.cons_append, List.nil_append, iRow, sRow, bRow, lRow, List.map_set]; first | done | rfl)
    · all_goals first | rfl | (simp only [bytesL_map, List.length_map, toNat_nat, iAt_getD, bAt_getD, sAt_getD, lAt_getD, MProof.r_fAt, MGap.r_fAt, MGap.r_fBefore, MGap.r_fAfter, MGap.r_fLeft, MGap.r_fRight]; done) | (simp only [List.map_append, List.map_cons, List.map_nil, List.cons_append, List.nil_append, iRow, sRow, bRow, lRow, List.map_set]; rfl) | (simp only [bytesL_map, List.length_map, toNat_nat, iAt_getD, bAt_getD, sAt_getD, lAt_getD, MProof.r_fAt, MGap.r_fAt, MGap.r_fBefore, MGap.r_fAfter, MGap.r_fLeft, MGap.r_fRight, List.map_append, List.map_cons, List.map_nil, List.cons_append, List.nil_append, iRow, sRow, bRow, lRow, List.map_set]; first | done | rfl)
  · have dc1 := c1
    try simp only [bne_eq_false_iff_eq, bne_iff_ne, beq_iff_eq, beq_eq_false_iff_ne, ne_eq, Bool.not_eq_true', Bool.not_eq_false'] at dc1
    all_goals first | rfl | (simp only [bytesL_map, List.length_map, toNat_nat, iAt_getD, bAt_getD, sAt_getD, lAt_getD, MProof.r_fAt, MGap.r_fAt, MGap.r_fBefore, MGap.r_fAfter, MGap.r_fLeft, MGap.r_fRight]; done) | (simp only [List.map_append, List.map_cons, List.map_nil, List.cons_append, List.nil_append, iRow, sRow, bRow, lRow, List.map_set]; rfl) | (simp only [bytesL_map, List.length_map, toNat_nat, iAt_getD, bAt_getD, sAt_getD, lAt_getD, MProof.r_fAt, MGap.r_fAt, MGap.r_fBefore, MGap.r_fAfter, MGap.r_fLeft, MGap.r_fRight, List.map_append, List.map_cons, List.map_nil, List.cons_append, List.nil_append, iRow, sRow, bRow, lRow, List.map_set]; first | done | rfl)
noncomputable def sem (ls : List L) : Option (List L) := (R (RGap.dec ls) (RGap.dec (dropT 13 ls))).map RT.enc
theorem ok (ls q : List L) (hl : LOKs Ev.cells pats ls) (h : sem ls = some q) : ∃ n, runF E live Tryz.f162 res n (initS pats ls) = some q := by
  obtain ⟨v, hv, hq⟩ := map_some h
  obtain ⟨⟨a0, a1⟩, hg, e, hm⟩ := ofM_some hv
  simp only [rf, Prod.mk.injEq] at e
  obtain ⟨e0, e1⟩ := e
  have hn := okF a0 a1 hg
  refine ⟨0, (run_eq 0 ls).trans ?_⟩
  rw [← e0, ← e1]
  rw [hn, ← hq, hm]; rfl
noncomputable def con : Con := ⟨pats, res, sem⟩
theorem chk : fnB Tryz.f162 con 38 = true := by kernel_rfl
theorem valid_ : Valid Tryz.prog Ev 162 con := valid mix tab_ok (.cons impl_EqualEntries.valid_ (.cons impl_EqualProofs.valid_ .nil)) Tryz.func162 chk live ok
theorem md_eq (a0 : MGap) (a1 : MGap) : md a0 a1 = eqB a0 a1 := by
  unfold md
  cases a0; cases a1
  rw [Bool.eq_iff_iff]
  simp [eqB_iff, ba_beq, MGap.mk.injEq, impl_EqualEntries.md_eq, impl_EqualProofs.md_eq]
  try (constructor <;> (intro h; simp_all))
end impl_EqualGaps
/-! impl.EqualAnswers -/
namespace impl_EqualAnswers
noncomputable def F (x0 : RAnswer) (x1 : RAnswer) : Ans := (call (impl_sameChain.R x0.fChain x1.fChain) fun v1 => (bif v1 then (bif (x0.fFound == x1.fFound) then (call (impl_EqualEntries.R x0.fEntry x1.fEntry) fun v2 => (bif v2 then (call (impl_EqualProofs.R x0.fProof x1.fProof) fun v3 => (bif v3 then (call (impl_EqualGaps.R x0.fGap x1.fGap) fun v4 => ret (v4 : Bool)) else ret (false : Bool))) else ret (false : Bool))) else ret (false : Bool)) else ret (false : Bool)))
def live : Nat → Live := fun _ => []
def pats : List Pat := [.agg [.sl 92, .bool, .str, .int .i64, .int .i64, .sl 9, .int .i64, .sl 3, .int .i64, .str, .int .i64, .int .i64, .sl 9, .str, .int .i64, .int .i64, .sl 9, .int .i64, .sl 3, .int .i64, .sl 3], .agg [.sl 92, .bool, .str, .int .i64, .int .i64, .sl 9, .int .i64, .sl 3, .int .i64, .str, .int .i64, .int .i64, .sl 9, .str, .int .i64, .int .i64, .sl 9, .int .i64, .sl 3, .int .i64, .sl 3]]
def res : RP := .one (.rd (.bool))
noncomputable def G : List (Nat × Con) := [(157, impl_sameChain.con), (113, impl_EqualEntries.con), (161, impl_EqualProofs.con), (162, impl_EqualGaps.con)]
noncomputable abbrev E : Env := ⟨assoc Tab, conG G, 38⟩
set_option maxRecDepth 100000
theorem run_eq (n : Nat) (ls : List L) : runF E live Tryz.f117 res n (initS pats ls) = F (RAnswer.dec ls) (RAnswer.dec (dropT 21 ls)) := by kernel_rfl
noncomputable def md (a0 : MAnswer) (a1 : MAnswer) : Bool := (bif (impl_sameChain.md a0.fChain a1.fChain) then (bif (a0.fFound == a1.fFound) then (bif (impl_EqualEntries.md a0.fEntry a1.fEntry) then (bif (impl_EqualProofs.md a0.fProof a1.fProof) then ((impl_EqualGaps.md a0.fGap a1.fGap) : Bool) else (false : Bool)) else (false : Bool)) else (false : Bool)) else (false : Bool))
def gd (a0 : MAnswer) (a1 : MAnswer) : Prop := (MAnswer.Sm (2 ^ 21) a0) ∧ (MAnswer.Sm (2 ^ 21) a1)
def rf (a : MAnswer × MAnswer) : RAnswer × RAnswer := ((MAnswer.r a.1), (MAnswer.r a.2))
theorem rf_inj (a b : MAnswer × MAnswer) (h : rf a = rf b) : a = b := by
  exact (Prod.ext (MAnswer.r_inj (congrArg (fun x => x.1) h)) (MAnswer.r_inj (congrArg (fun x => x.2) h)))
noncomputable def R (x0 : RAnswer) (x1 : RAnswer) : Option (Bool) := ofM rf (fun a => gd a.1 a.2) (fun a => (md a.1 a.2)) (x0, x1)
theorem R_eq {a0 : MAnswer} {a1 : MAnswer} (h : gd a0 a1) : R (MAnswer.r a0) (MAnswer.r a1) = some (md a0 a1) := ofM_eq (r := rf) (a := (a0, a1)) rf_inj h
theorem okF (a0 : MAnswer) (a1 : MAnswer) (hg : gd a0 a1) : F (MAnswer.r a0) (MAnswer.r a1) = ret ((md a0 a1) : Bool) := by
  unfold gd at hg
  obtain ⟨H0, H1⟩ := hg
  unfold F md
  try simp only [bytesL_map, List.length_map, toNat_nat, iAt_getD, bAt_getD, sAt_getD, lAt_getD, MAnswer.r_fChain, MAnswer.r_fFound, MAnswer.r_fEntry, MAnswer.r_fProof, MAnswer.r_fGap]
  refine call_to (impl_sameChain.md a0.fChain a1.fChain) ?_ ?_
  · have R_ := impl_sameChain.R_eq (a0 := a0.fChain) (a1 := a1.fChain) ⟨H0.1, H1.1⟩
    first | exact R_ | (simp only [List.map_append, List.map_cons, List.map_nil, List.cons_append, List.nil_append, iRow, sRow, bRow, lRow, List.map_set, bytesL_map, List.length_map, toNat_nat, iAt_getD, bAt_getD, sAt_getD, lAt_getD, MAnswer.r_fChain, MAnswer.r_fFound, MAnswer.r_fEntry, MAnswer.r_fProof, MAnswer.r_fGap] at R_ ⊢; first | exact R_ | (rw [← R_]; rfl))
  try simp only [bytesL_map, List.length_map, toNat_nat, iAt_getD, bAt_getD, sAt_getD, lAt_getD, MAnswer.r_fChain, MAnswer.r_fFound, MAnswer.r_fEntry, MAnswer.r_fProof, MAnswer.r_fGap]
  refine bif_out (fun b : Bool => ret (b : Bool)) (fun c1 => ?_) (fun c1 => ?_)
  · refine bif_out (fun b : Bool => ret (b : Bool)) (fun c2 => ?_) (fun c2 => ?_)
    · have dc2 := c2
      try simp only [bne_eq_false_iff_eq, bne_iff_ne, beq_iff_eq, beq_eq_false_iff_ne, ne_eq, Bool.not_eq_true', Bool.not_eq_false'] at dc2
      refine call_to (impl_EqualEntries.md a0.fEntry a1.fEntry) ?_ ?_
      · have R_ := impl_EqualEntries.R_eq (a0 := a0.fEntry) (a1 := a1.fEntry) ⟨H0.2.1, H1.2.1⟩
        first | exact R_ | (simp only [List.map_append, List.map_cons, List.map_nil, List.cons_append, List.nil_append, iRow, sRow, bRow, lRow, List.map_set, bytesL_map, List.length_map, toNat_nat, iAt_getD, bAt_getD, sAt_getD, lAt_getD, MAnswer.r_fChain, MAnswer.r_fFound, MAnswer.r_fEntry, MAnswer.r_fProof, MAnswer.r_fGap] at R_ ⊢; first | exact R_ | (rw [← R_]; rfl))
      try simp only [bytesL_map, List.length_map, toNat_nat, iAt_getD, bAt_getD, sAt_getD, lAt_getD, MAnswer.r_fChain, MAnswer.r_fFound, MAnswer.r_fEntry, MAnswer.r_fProof, MAnswer.r_fGap]
      refine bif_out (fun b : Bool => ret (b : Bool)) (fun c3 => ?_) (fun c3 => ?_)
      · refine call_to (impl_EqualProofs.md a0.fProof a1.fProof) ?_ ?_
        · have R_ := impl_EqualProofs.R_eq (a0 := a0.fProof) (a1 := a1.fProof) ⟨H0.2.2.1, H1.2.2.1⟩
          first | exact R_ | (simp only [List.map_append, List.map_cons, List.map_nil, List.cons_append, List.nil_append, iRow, sRow, bRow, lRow, List.map_set, bytesL_map, List.length_map, toNat_nat, iAt_getD, bAt_getD, sAt_getD, lAt_getD, MAnswer.r_fChain, MAnswer.r_fFound, MAnswer.r_fEntry, MAnswer.r_fProof, MAnswer.r_fGap] at R_ ⊢; first | exact R_ | (rw [← R_]; rfl))
        try simp only [bytesL_map, List.length_map, toNat_nat, iAt_getD, bAt_getD, sAt_getD, lAt_getD, MAnswer.r_fChain, MAnswer.r_fFound, MAnswer.r_fEntry, MAnswer.r_fProof, MAnswer.r_fGap]
        refine bif_out (fun b : Bool => ret (b : Bool)) (fun c4 => ?_) (fun c4 => ?_)
        · refine call_to (impl_EqualGaps.md a0.fGap a1.fGap) ?_ ?_
          · have R_ := impl_EqualGaps.R_eq (a0 := a0.fGap) (a1 := a1.fGap) ⟨H0.2.2.2, H1.2.2.2⟩
            first | exact R_ | (simp only [List.map_append, List.map_cons, List.map_nil, List.cons_append, List.nil_append, iRow, sRow, bRow, lRow, List.map_set, bytesL_map, List.length_map, toNat_nat, iAt_getD, bAt_getD, sAt_getD, lAt_getD, MAnswer.r_fChain, MAnswer.r_fFound, MAnswer.r_fEntry, MAnswer.r_fProof, MAnswer.r_fGap] at R_ ⊢; first | exact R_ | (rw [← R_]; rfl))
          try simp only [bytesL_map, List.length_map, toNat_nat, iAt_getD, bAt_getD, sAt_getD, lAt_getD, MAnswer.r_fChain, MAnswer.r_fFound, MAnswer.r_fEntry, MAnswer.r_fProof, MAnswer.r_fGap]
          all_goals first | rfl | (simp only [bytesL_map, List.length_map, toNat_nat, iAt_getD, bAt_getD, sAt_getD, lAt_getD, MAnswer.r_fChain, MAnswer.r_fFound, MAnswer.r_fEntry, MAnswer.r_fProof, MAnswer.r_fGap]; done) | (simp only [List.map_append, List.map_cons, List.map_nil, List.cons_append, List.nil_append, iRow, sRow, bRow, lRow, List.map_set]; rfl) | (simp only [bytesL_map, List.length_map, toNat_nat, iAt_getD, bAt_getD, sAt_getD, lAt_getD, MAnswer.r_fChain, MAnswer.r_fFound, MAnswer.r_fEntry, MAnswer.r_fProof, MAnswer.r_fGap, List.map_append, List.map_cons, List.map_nil, List.cons_append, List.nil_append, iRow, sRow, bRow, lRow, List.map_set]; first | done | rfl)
        · all_goals first | rfl | (simp only [bytesL_map, List.length_map, toNat_nat, iAt_getD, bAt_getD, sAt_getD, lAt_getD, MAnswer.r_fChain, MAnswer.r_fFound, MAnswer.r_fEntry, MAnswer.r_fProof, MAnswer.r_fGap]; done) | (simp only [List.map_append, List.map_cons, List.map_nil, List.cons_append, List.nil_append, iRow, sRow, bRow, lRow, List.map_set]; rfl) | (simp only [bytesL_map, List.length_map, toNat_nat, iAt_getD, bAt_getD, sAt_getD, lAt_getD, MAnswer.r_fChain, MAnswer.r_fFound, MAnswer.r_fEntry, MAnswer.r_fProof, MAnswer.r_fGap, List.map_append, List.map_cons, List.map_nil, List.cons_append, List.nil_append, iRow, sRow, bRow, lRow, List.map_set]; first | done | rfl)
      · all_goals first | rfl | (simp only [bytesL_map, List.length_map, toNat_nat, iAt_getD, bAt_getD, sAt_getD, lAt_getD, MAnswer.r_fChain, MAnswer.r_fFound, MAnswer.r_fEntry, MAnswer.r_fProof, MAnswer.r_fGap]; done) | (simp only [List.map_append, List.map_cons, List.map_nil, List.cons_append, List.nil_append, iRow, sRow, bRow, lRow, List.map_set]; rfl) | (simp only [bytesL_map, List.length_map, toNat_nat, iAt_getD, bAt_getD, sAt_getD, lAt_getD, MAnswer.r_fChain, MAnswer.r_fFound, MAnswer.r_fEntry, MAnswer.r_fProof, MAnswer.r_fGap, List.map_append, List.map_cons, List.map_nil, List.cons_append, List.nil_append, iRow, sRow, bRow, lRow, List.map_set]; first | done | rfl)
    · have dc2 := c2
      try simp only [bne_eq_false_iff_eq, bne_iff_ne, beq_iff_eq, beq_eq_false_iff_ne, ne_eq, Bool.not_eq_true', Bool.not_eq_false'] at dc2
      all_goals first | rfl | (simp only [bytesL_map, List.length_map, toNat_nat, iAt_getD, bAt_getD, sAt_getD, lAt_getD, MAnswer.r_fChain, MAnswer.r_fFound, MAnswer.r_fEntry, MAnswer.r_fProof, MAnswer.r_fGap]; done) | (simp only [List.map_append, List.map_cons, List.map_nil, List.cons_append, List.nil_append, iRow, sRow, bRow, lRow, List.map_set]; rfl) | (simp only [bytesL_map, List.length_map, toNat_nat, iAt_getD, bAt_getD, sAt_getD, lAt_getD, MAnswer.r_fChain, MAnswer.r_fFound, MAnswer.r_fEntry, MAnswer.r_fProof, MAnswer.r_fGap, List.map_append, List.map_cons, List.map_nil, List.cons_append, List.nil_append, iRow, sRow, bRow, lRow, List.map_set]; first | done | rfl)
  · all_goals first | rfl | (simp only [bytesL_map, List.length_map, toNat_nat, iAt_getD, bAt_getD, sAt_getD, lAt_getD, MAnswer.r_fChain, MAnswer.r_fFound, MAnswer.r_fEntry, MAnswer.r_fProof, MAnswer.r_fGap]; done) | (simp only [List.map_append, List.map_cons, List.map_nil, List.cons_append, List.nil_append, iRow, sRow, bRow, lRow, List.map_set]; rfl) | (simp only [bytesL_map, List.length_map, toNat_nat, iAt_getD, bAt_getD, sAt_getD, lAt_getD, MAnswer.r_fChain, MAnswer.r_fFound, MAnswer.r_fEntry, MAnswer.r_fProof, MAnswer.r_fGap, List.map_append, List.map_cons, List.map_nil, List.cons_append, List.nil_append, iRow, sRow, bRow, lRow, List.map_set]; first | done | rfl)
noncomputable def sem (ls : List L) : Option (List L) := (R (RAnswer.dec ls) (RAnswer.dec (dropT 21 ls))).map RT.enc
theorem ok (ls q : List L) (hl : LOKs Ev.cells pats ls) (h : sem ls = some q) : ∃ n, runF E live Tryz.f117 res n (initS pats ls) = some q := by
  obtain ⟨v, hv, hq⟩ := map_some h
  obtain ⟨⟨a0, a1⟩, hg, e, hm⟩ := ofM_some hv
  simp only [rf, Prod.mk.injEq] at e
  obtain ⟨e0, e1⟩ := e
  have hn := okF a0 a1 hg
  refine ⟨0, (run_eq 0 ls).trans ?_⟩
  rw [← e0, ← e1]
  rw [hn, ← hq, hm]; rfl
noncomputable def con : Con := ⟨pats, res, sem⟩
theorem chk : fnB Tryz.f117 con 38 = true := by kernel_rfl
theorem valid_ : Valid Tryz.prog Ev 117 con := valid mix tab_ok (.cons impl_sameChain.valid_ (.cons impl_EqualEntries.valid_ (.cons impl_EqualProofs.valid_ (.cons impl_EqualGaps.valid_ .nil)))) Tryz.func117 chk live ok
theorem md_eq (a0 : MAnswer) (a1 : MAnswer) : md a0 a1 = eqB a0 a1 := by
  unfold md
  cases a0; cases a1
  rw [Bool.eq_iff_iff]
  simp [eqB_iff, ba_beq, MAnswer.mk.injEq, impl_sameChain.md_eq, impl_EqualEntries.md_eq, impl_EqualProofs.md_eq, impl_EqualGaps.md_eq]
  try (constructor <;> (intro h; simp_all))
end impl_EqualAnswers
/-! impl.EqualCaches$1 -/
namespace impl_EqualCaches_1
noncomputable def F (x0 : RStored) (x1 : RStored) : Ans := (bif (x0.fZone == x1.fZone) then (bif (x0.fLabel == x1.fLabel) then (call (impl_EqualAnswers.R x0.fAnswer x1.fAnswer) fun v1 => ret (v1 : Bool)) else ret (false : Bool)) else ret (false : Bool))
def live : Nat → Live := fun _ => []
def pats : List Pat := [.agg [.int .i64, .str, .sl 92, .bool, .str, .int .i64, .int .i64, .sl 9, .int .i64, .sl 3, .int .i64, .str, .int .i64, .int .i64, .sl 9, .str, .int .i64, .int .i64, .sl 9, .int .i64, .sl 3, .int .i64, .sl 3], .agg [.int .i64, .str, .sl 92, .bool, .str, .int .i64, .int .i64, .sl 9, .int .i64, .sl 3, .int .i64, .str, .int .i64, .int .i64, .sl 9, .str, .int .i64, .int .i64, .sl 9, .int .i64, .sl 3, .int .i64, .sl 3]]
def res : RP := .one (.rd (.bool))
noncomputable def G : List (Nat × Con) := [(117, impl_EqualAnswers.con)]
noncomputable abbrev E : Env := ⟨assoc Tab, conG G, 24⟩
set_option maxRecDepth 100000
theorem run_eq (n : Nat) (ls : List L) : runF E live Tryz.f116 res n (initS pats ls) = F (RStored.dec ls) (RStored.dec (dropT 23 ls)) := by kernel_rfl
noncomputable def md (a0 : MStored) (a1 : MStored) : Bool := (bif (a0.fZone == a1.fZone) then (bif (a0.fLabel == a1.fLabel) then ((impl_EqualAnswers.md a0.fAnswer a1.fAnswer) : Bool) else (false : Bool)) else (false : Bool))
def gd (a0 : MStored) (a1 : MStored) : Prop := (MStored.Sm (2 ^ 21) a0) ∧ (MStored.Sm (2 ^ 21) a1)
def rf (a : MStored × MStored) : RStored × RStored := ((MStored.r a.1), (MStored.r a.2))
theorem rf_inj (a b : MStored × MStored) (h : rf a = rf b) : a = b := by
  exact (Prod.ext (MStored.r_inj (congrArg (fun x => x.1) h)) (MStored.r_inj (congrArg (fun x => x.2) h)))
noncomputable def R (x0 : RStored) (x1 : RStored) : Option (Bool) := ofM rf (fun a => gd a.1 a.2) (fun a => (md a.1 a.2)) (x0, x1)
theorem R_eq {a0 : MStored} {a1 : MStored} (h : gd a0 a1) : R (MStored.r a0) (MStored.r a1) = some (md a0 a1) := ofM_eq (r := rf) (a := (a0, a1)) rf_inj h
theorem okF (a0 : MStored) (a1 : MStored) (hg : gd a0 a1) : F (MStored.r a0) (MStored.r a1) = ret ((md a0 a1) : Bool) := by
  unfold gd at hg
  obtain ⟨H0, H1⟩ := hg
  unfold F md
  try simp only [bytesL_map, List.length_map, toNat_nat, iAt_getD, bAt_getD, sAt_getD, lAt_getD, MHead.r_fZone, MEntry.r_fLabel, MStored.r_fZone, MStored.r_fLabel, MStored.r_fAnswer]
  refine bif_out (fun b : Bool => ret (b : Bool)) (fun c1 => ?_) (fun c1 => ?_)
  · have dc1 := c1
    try simp only [bne_eq_false_iff_eq, bne_iff_ne, beq_iff_eq, beq_eq_false_iff_ne, ne_eq, Bool.not_eq_true', Bool.not_eq_false'] at dc1
    refine bif_out (fun b : Bool => ret (b : Bool)) (fun c2 => ?_) (fun c2 => ?_)
    · have dc2 := c2
      try simp only [bne_eq_false_iff_eq, bne_iff_ne, beq_iff_eq, beq_eq_false_iff_ne, ne_eq, Bool.not_eq_true', Bool.not_eq_false'] at dc2
      refine call_to (impl_EqualAnswers.md a0.fAnswer a1.fAnswer) ?_ ?_
      · have R_ := impl_EqualAnswers.R_eq (a0 := a0.fAnswer) (a1 := a1.fAnswer) ⟨H0.2, H1.2⟩
        first | exact R_ | (simp only [List.map_append, List.map_cons, List.map_nil, List.cons_append, List.nil_append, iRow, sRow, bRow, lRow, List.map_set, bytesL_map, List.length_map, toNat_nat, iAt_getD, bAt_getD, sAt_getD, lAt_getD, MHead.r_fZone, MEntry.r_fLabel, MStored.r_fZone, MStored.r_fLabel, MStored.r_fAnswer] at R_ ⊢; first | exact R_ | (rw [← R_]; rfl))
      try simp only [bytesL_map, List.length_map, toNat_nat, iAt_getD, bAt_getD, sAt_getD, lAt_getD, MHead.r_fZone, MEntry.r_fLabel, MStored.r_fZone, MStored.r_fLabel, MStored.r_fAnswer]
      all_goals first | rfl | (simp only [bytesL_map, List.length_map, toNat_nat, iAt_getD, bAt_getD, sAt_getD, lAt_getD, MHead.r_fZone, MEntry.r_fLabel, MStored.r_fZone, MStored.r_fLabel, MStored.r_fAnswer]; done) | (simp only [List.map_append, List.map_cons, List.map_nil, List.cons_append, List.nil_append, iRow, sRow, bRow, lRow, List.map_set]; rfl) | (simp only [bytesL_map, List.length_map, toNat_nat, iAt_getD, bAt_getD, sAt_getD, lAt_getD, MHead.r_fZone, MEntry.r_fLabel, MStored.r_fZone, MStored.r_fLabel, MStored.r_fAnswer, List.map_append, List.map_cons, List.map_nil, List.cons_append, List.nil_append, iRow, sRow, bRow, lRow, List.map_set]; first | done | rfl)
    · have dc2 := c2
      try simp only [bne_eq_false_iff_eq, bne_iff_ne, beq_iff_eq, beq_eq_false_iff_ne, ne_eq, Bool.not_eq_true', Bool.not_eq_false'] at dc2
      all_goals first | rfl | (simp only [bytesL_map, List.length_map, toNat_nat, iAt_getD, bAt_getD, sAt_getD, lAt_getD, MHead.r_fZone, MEntry.r_fLabel, MStored.r_fZone, MStored.r_fLabel, MStored.r_fAnswer]; done) | (simp only [List.map_append, List.map_cons, List.map_nil, List.cons_append, List.nil_append, iRow, sRow, bRow, lRow, List.map_set]; rfl) | (simp only [bytesL_map, List.length_map, toNat_nat, iAt_getD, bAt_getD, sAt_getD, lAt_getD, MHead.r_fZone, MEntry.r_fLabel, MStored.r_fZone, MStored.r_fLabel, MStored.r_fAnswer, List.map_append, List.map_cons, List.map_nil, List.cons_append, List.nil_append, iRow, sRow, bRow, lRow, List.map_set]; first | done | rfl)
  · have dc1 := c1
    try simp only [bne_eq_false_iff_eq, bne_iff_ne, beq_iff_eq, beq_eq_false_iff_ne, ne_eq, Bool.not_eq_true', Bool.not_eq_false'] at dc1
    all_goals first | rfl | (simp only [bytesL_map, List.length_map, toNat_nat, iAt_getD, bAt_getD, sAt_getD, lAt_getD, MHead.r_fZone, MEntry.r_fLabel, MStored.r_fZone, MStored.r_fLabel, MStored.r_fAnswer]; done) | (simp only [List.map_append, List.map_cons, List.map_nil, List.cons_append, List.nil_append, iRow, sRow, bRow, lRow, List.map_set]; rfl) | (simp only [bytesL_map, List.length_map, toNat_nat, iAt_getD, bAt_getD, sAt_getD, lAt_getD, MHead.r_fZone, MEntry.r_fLabel, MStored.r_fZone, MStored.r_fLabel, MStored.r_fAnswer, List.map_append, List.map_cons, List.map_nil, List.cons_append, List.nil_append, iRow, sRow, bRow, lRow, List.map_set]; first | done | rfl)
noncomputable def sem (ls : List L) : Option (List L) := (R (RStored.dec ls) (RStored.dec (dropT 23 ls))).map RT.enc
theorem ok (ls q : List L) (hl : LOKs Ev.cells pats ls) (h : sem ls = some q) : ∃ n, runF E live Tryz.f116 res n (initS pats ls) = some q := by
  obtain ⟨v, hv, hq⟩ := map_some h
  obtain ⟨⟨a0, a1⟩, hg, e, hm⟩ := ofM_some hv
  simp only [rf, Prod.mk.injEq] at e
  obtain ⟨e0, e1⟩ := e
  have hn := okF a0 a1 hg
  refine ⟨0, (run_eq 0 ls).trans ?_⟩
  rw [← e0, ← e1]
  rw [hn, ← hq, hm]; rfl
noncomputable def con : Con := ⟨pats, res, sem⟩
theorem chk : fnB Tryz.f116 con 24 = true := by kernel_rfl
theorem valid_ : Valid Tryz.prog Ev 116 con := valid mix tab_ok (.cons impl_EqualAnswers.valid_ .nil) Tryz.func116 chk live ok
theorem md_eq (a0 : MStored) (a1 : MStored) : md a0 a1 = eqB a0 a1 := by
  unfold md
  cases a0; cases a1
  rw [Bool.eq_iff_iff]
  simp [eqB_iff, ba_beq, MStored.mk.injEq, impl_EqualAnswers.md_eq]
  try (constructor <;> (intro h; simp_all))
end impl_EqualCaches_1
/-! slices.EqualFunc[[]impl.Stored,[]impl.Stored,impl.Stored,impl.Stored] -/
namespace slices_EqualFunc_Simpl_Stored_Simpl_Stored_impl_Stored_impl_Stored__impl_EqualCaches_1
inductive Pt where
  | p0 (a : List (List L)) (b : List (List L)) (c : Int) (d : Int)
def pid : Pt → Nat
  | .p0 .. => 4
def pvs : Pt → List V
  | .p0 a b c d => [.sl none 124 a, .fn 116 [], .sl none 124 b, .int .i64 c, .int .i64 d]
def phs : Pt → List Root
  | .p0 a b c d => []
noncomputable def step (J : Pt → Ans) : Pt → Ans
  | .p0 a b c d => (bif (decide (d < c)) then (bif (decide ((0 : Int) ≤ d)) then (bif (decide (d < (b.length : Int))) then (bif (decide ((0 : Int) ≤ d)) then (bif (decide (d < (a.length : Int))) then (call (impl_EqualCaches_1.R (RStored.at b (Int.toNat d)) (RStored.at a (Int.toNat d))) fun v1 => (bif (!v1) then ret (false : Bool) else J (.p0 a b c (IntKind.i64.wrap (d + 1))))) else none) else none) else none) else none) else ret (true : Bool))
noncomputable def start (J : Pt → Ans) (x0 : List (List L)) (x1 : List (List L)) : Ans := (bif ((x0.length : Int) != (x1.length : Int)) then ret (false : Bool) else J (.p0 x1 x0 (x0.length : Int) 0))
def live : Nat → Live := fun i => match i with | 4 => [(1, none), (2, none), (15, none), (16, none), (17, none)] | _ => []
def pats : List Pat := [.rd (.sl 124), .rd (.sl 124), .fn 116 []]
def res : RP := .one (.rd (.bool))
noncomputable def G : List (Nat × Con) := [(116, impl_EqualCaches_1.con)]
noncomputable abbrev E : Env := ⟨assoc Tab, conG G, 32⟩
set_option maxRecDepth 100000
theorem step_eq (I : Heads) (p : Pt) : enterC E live I (pid p) (bodyOf Tryz.f115) (stOf (live (pid p)) (pvs p) (phs p)) (doneK E Tryz.f115 res) = step (fun q => I (pid q) (pvs q) (phs q)) p := by
  cases p <;> kernel_rfl
theorem start_eq (I : Heads) (ls : List L) : runC E live I (bodyOf Tryz.f115) (initS pats ls) (doneK E Tryz.f115 res) = start (fun q => I (pid q) (pvs q) (phs q)) (ls.headD .hole).toSl ((dropT 1 ls).headD .hole).toSl := by kernel_rfl
theorem run_eq (n : Nat) (ls : List L) : runF E live Tryz.f115 res n (initS pats ls) = start (iter step n) (ls.headD .hole).toSl ((dropT 1 ls).headD .hole).toSl := runF_iter (id := pid) (vs := pvs) (hs := phs) (step := step) (start := fun J => start J (ls.headD .hole).toSl ((dropT 1 ls).headD .hole).toSl) step_eq (fun I => start_eq I ls) n
noncomputable def md (a0 : List MStored) (a1 : List MStored) : Bool := (bif ((a0.length : Int) != (a1.length : Int)) then (false : Bool) else (loopM (S := Unit) (β := Bool) (fun (i2 : Nat) (s4 : Unit) => (bif (!(impl_EqualCaches_1.md (a0.getD i2 MStored.zero) (a1.getD i2 MStored.zero))) then (.inr (false : Bool)) else (.inl ()))) (fun (s4 : Unit) => (true : Bool)) a0.length 0 ()))
def gd (a0 : List MStored) (a1 : List MStored) : Prop := (SmL (2 ^ 21) (fun y : MStored => MStored.Sm (2 ^ 21) y) a0) ∧ (SmL (2 ^ 21) (fun y : MStored => MStored.Sm (2 ^ 21) y) a1)
def rf (a : List MStored × List MStored) : List (List L) × List (List L) := ((a.1.map MStored.row), (a.2.map MStored.row))
theorem rf_inj (a b : List MStored × List MStored) (h : rf a = rf b) : a = b := by
  exact (Prod.ext (map_inj MStored.row_inj (congrArg (fun x => x.1) h)) (map_inj MStored.row_inj (congrArg (fun x => x.2) h)))
noncomputable def R (x0 : List (List L)) (x1 : List (List L)) : Option (Bool) := ofM rf (fun a => gd a.1 a.2) (fun a => (md a.1 a.2)) (x0, x1)
theorem R_eq {a0 : List MStored} {a1 : List MStored} (h : gd a0 a1) : R (a0.map MStored.row) (a1.map MStored.row) = some (md a0 a1) := ofM_eq (r := rf) (a := (a0, a1)) rf_inj h
theorem okF (a0 : List MStored) (a1 : List MStored) (hg : gd a0 a1) : ∃ n, start (iter step n) (a0.map MStored.row) (a1.map MStored.row) = ret ((md a0 a1) : Bool) := by
  unfold gd at hg
  obtain ⟨H0, H1⟩ := hg
  unfold start md
  try simp only [bytesL_map, List.length_map, toNat_nat, iAt_getD, bAt_getD, sAt_getD, lAt_getD, MStored.at_getD]
  refine ex_bif (fun b : Bool => ret (b : Bool)) (fun c1 => ?_) (fun c1 => ?_)
  · have dc1 := c1
    try simp only [bne_eq_false_iff_eq, bne_iff_ne, beq_iff_eq, beq_eq_false_iff_ne, ne_eq, Bool.not_eq_true', Bool.not_eq_false'] at dc1
    refine ⟨0, ?_⟩
    all_goals first | rfl | (simp only [bytesL_map, List.length_map, toNat_nat, iAt_getD, bAt_getD, sAt_getD, lAt_getD, MStored.at_getD]; done) | (simp only [List.map_append, List.map_cons, List.map_nil, List.cons_append, List.nil_append, iRow, sRow, bRow, lRow, List.map_set]; rfl) | (simp only [bytesL_map, List.length_map, toNat_nat, iAt_getD, bAt_getD, sAt_getD, lAt_getD, MStored.at_getD, List.map_append, List.map_cons, List.map_nil, List.cons_append, List.nil_append, iRow, sRow, bRow, lRow, List.map_set]; first | done | rfl)
  · have dc1 := c1
    try simp only [bne_eq_false_iff_eq, bne_iff_ne, beq_iff_eq, beq_eq_false_iff_ne, ne_eq, Bool.not_eq_true', Bool.not_eq_false'] at dc1
    have Bh3 : a0.length ≤ maxLen := (by
        have := (H0).1
        try simp only [maxLen] at *
        omega)
    refine ex_pt (p := Pt.p0 (a1.map MStored.row) (a0.map MStored.row) (a0.length : Int) 0) (by first | rfl | (simp only [bytesL_map, List.length_map, toNat_nat, iAt_getD, bAt_getD, sAt_getD, lAt_getD, MStored.at_getD, List.map_append, List.map_cons, List.map_nil, List.cons_append, List.nil_append, iRow, sRow, bRow, lRow, List.map_set]; done) | (simp only [List.map_append, List.map_cons, List.map_nil, List.cons_append, List.nil_append, iRow, sRow, bRow, lRow, List.map_set]; rfl)) ?_
    refine loopM_ok (pt := fun (i2 : Nat) (s4 : Unit) => Pt.p0 (a1.map MStored.row) (a0.map MStored.row) (a0.length : Int) (i2 : Int)) (s := (() : Unit)) (out := (fun b : Bool => ret (b : Bool))) (fun _ _ => True) (fun J i2 s4 h3 hih3 => ?_) (fun s4 hih3 => ?_) trivial
    · simp only [step, bytesL_map, List.length_map, toNat_nat, iAt_getD, bAt_getD, sAt_getD, lAt_getD, MStored.at_getD]
      have bb_ := Bh3
      simp only [maxLen] at bb_
      have := (H0).1
      refine Rnd.yes (by apply decide_eq_true; omega) ?_
      refine Rnd.yes (by
          refine decide_eq_true ?_
          try simp (disch := omega) only [List.sum_cons, List.sum_nil, List.map_cons, List.map_nil, bytesI_length, bytesL_length, List.length_append, List.length_cons, List.length_nil, List.length_map, List.length_set, List.length_replicate, List.length_take, List.length_drop, Go.IntWalk.i64_in]
          first | omega | (simp; done) | (simp; omega)) ?_
      refine Rnd.yes (by
          have := (H0).1
          refine decide_eq_true ?_
          try simp (disch := omega) only [List.sum_cons, List.sum_nil, List.map_cons, List.map_nil, bytesI_length, bytesL_length, List.length_append, List.length_cons, List.length_nil, List.length_map, List.length_set, List.length_replicate, List.length_take, List.length_drop, Go.IntWalk.i64_in]
          first | omega | (simp; done) | (simp; omega)) ?_
      refine Rnd.yes (by
          refine decide_eq_true ?_
          try simp (disch := omega) only [List.sum_cons, List.sum_nil, List.map_cons, List.map_nil, bytesI_length, bytesL_length, List.length_append, List.length_cons, List.length_nil, List.length_map, List.length_set, List.length_replicate, List.length_take, List.length_drop, Go.IntWalk.i64_in]
          first | omega | (simp; done) | (simp; omega)) ?_
      refine Rnd.yes (by
          have := (H1).1
          refine decide_eq_true ?_
          try simp (disch := omega) only [List.sum_cons, List.sum_nil, List.map_cons, List.map_nil, bytesI_length, bytesL_length, List.length_append, List.length_cons, List.length_nil, List.length_map, List.length_set, List.length_replicate, List.length_take, List.length_drop, Go.IntWalk.i64_in]
          first | omega | (simp; done) | (simp; omega)) ?_
      refine Rnd.call_to (impl_EqualCaches_1.md (a0.getD i2 MStored.zero) (a1.getD i2 MStored.zero)) ?_ ?_
      · have R_ := impl_EqualCaches_1.R_eq (a0 := (a0.getD i2 MStored.zero)) (a1 := (a1.getD i2 MStored.zero)) ⟨(SmL.getD (z := MStored.zero) H0 h3), (SmL.getD (z := MStored.zero) H1 (by first | assumption | omega | (simp (disch := omega) only [Go.IntWalk.i64_in]; omega) | (simp; omega)))⟩
        first | exact R_ | (simp only [List.map_append, List.map_cons, List.map_nil, List.cons_append, List.nil_append, iRow, sRow, bRow, lRow, List.map_set, bytesL_map, List.length_map, toNat_nat, iAt_getD, bAt_getD, sAt_getD, lAt_getD, MStored.at_getD] at R_ ⊢; first | exact R_ | (rw [← R_]; rfl))
      try simp only [bytesL_map, List.length_map, toNat_nat, iAt_getD, bAt_getD, sAt_getD, lAt_getD, MStored.at_getD]
      refine Rnd.bif (fun c5 => ?_) (fun c5 => ?_)
      · have dc5 := c5
        try simp only [bne_eq_false_iff_eq, bne_iff_ne, beq_iff_eq, beq_eq_false_iff_ne, ne_eq, Bool.not_eq_true', Bool.not_eq_false'] at dc5
        refine Rnd.inr ?_
        all_goals first | rfl | (simp only [bytesL_map, List.length_map, toNat_nat, iAt_getD, bAt_getD, sAt_getD, lAt_getD, MStored.at_getD]; done) | (simp only [List.map_append, List.map_cons, List.map_nil, List.cons_append, List.nil_append, iRow, sRow, bRow, lRow, List.map_set]; rfl) | (simp only [bytesL_map, List.length_map, toNat_nat, iAt_getD, bAt_getD, sAt_getD, lAt_getD, MStored.at_getD, List.map_append, List.map_cons, List.map_nil, List.cons_append, List.nil_append, iRow, sRow, bRow, lRow, List.map_set]; first | done | rfl)
      · have dc5 := c5
        try simp only [bne_eq_false_iff_eq, bne_iff_ne, beq_iff_eq, beq_eq_false_iff_ne, ne_eq, Bool.not_eq_true', Bool.not_eq_false'] at dc5
        refine Rnd.inl trivial ?_
        rw [wrap_succ h3 Bh3]
        all_goals first | rfl | (simp only [bytesL_map, List.length_map, toNat_nat, iAt_getD, bAt_getD, sAt_getD, lAt_getD, MStored.at_getD]; done) | (simp only [List.map_append, List.map_cons, List.map_nil, List.cons_append, List.nil_append, iRow, sRow, bRow, lRow, List.map_set]; rfl) | (simp only [bytesL_map, List.length_map, toNat_nat, iAt_getD, bAt_getD, sAt_getD, lAt_getD, MStored.at_getD, List.map_append, List.map_cons, List.map_nil, List.cons_append, List.nil_append, iRow, sRow, bRow, lRow, List.map_set]; first | done | rfl)
    · simp only [step, bytesL_map, List.length_map, toNat_nat, iAt_getD, bAt_getD, sAt_getD, lAt_getD, MStored.at_getD]
      have := (H0).1
      refine ex_no (by apply decide_eq_false; omega) ?_
      refine ⟨0, ?_⟩
      all_goals first | rfl | (simp only [bytesL_map, List.length_map, toNat_nat, iAt_getD, bAt_getD, sAt_getD, lAt_getD, MStored.at_getD]; done) | (simp only [List.map_append, List.map_cons, List.map_nil, List.cons_append, List.nil_append, iRow, sRow, bRow, lRow, List.map_set]; rfl) | (simp only [bytesL_map, List.length_map, toNat_nat, iAt_getD, bAt_getD, sAt_getD, lAt_getD, MStored.at_getD, List.map_append, List.map_cons, List.map_nil, List.cons_append, List.nil_append, iRow, sRow, bRow, lRow, List.map_set]; first | done | rfl)
noncomputable def sem (ls : List L) : Option (List L) := (R (ls.headD .hole).toSl ((dropT 1 ls).headD .hole).toSl).map RT.enc
theorem ok (ls q : List L) (hl : LOKs Ev.cells pats ls) (h : sem ls = some q) : ∃ n, runF E live Tryz.f115 res n (initS pats ls) = some q := by
  obtain ⟨v, hv, hq⟩ := map_some h
  obtain ⟨⟨a0, a1⟩, hg, e, hm⟩ := ofM_some hv
  simp only [rf, Prod.mk.injEq] at e
  obtain ⟨e0, e1⟩ := e
  obtain ⟨n, hn⟩ := okF a0 a1 hg
  refine ⟨n, (run_eq n ls).trans ?_⟩
  rw [← e0, ← e1]
  rw [hn, ← hq, hm]; rfl
noncomputable def con : Con := ⟨pats, res, sem⟩
theorem chk : fnB Tryz.f115 con 32 = true := by kernel_rfl
theorem valid_ : Valid Tryz.prog Ev 115 con := valid mix tab_ok (.cons impl_EqualCaches_1.valid_ .nil) Tryz.func115 chk live ok
theorem md_eq (a0 : List MStored) (a1 : List MStored) : md a0 a1 = eqB a0 a1 := by
  unfold md
  refine loop_eqB (MStored.zero) (fun i s h h2 => ?_) (fun s => rfl)
  simp only [bne, int_beq, bool_beq, ba_beq, impl_EqualCaches_1.md_eq]
  cases eqB _ _ <;> rfl
end slices_EqualFunc_Simpl_Stored_Simpl_Stored_impl_Stored_impl_Stored__impl_EqualCaches_1
/-! impl.EqualCaches -/
namespace impl_EqualCaches
noncomputable def F (x0 : RCache) (x1 : RCache) : Ans := (call (slices_EqualFunc_Simpl_Stored_Simpl_Stored_impl_Stored_impl_Stored__impl_EqualCaches_1.R x0.fList x1.fList) fun v1 => ret (v1 : Bool))
def live : Nat → Live := fun _ => []
def pats : List Pat := [.agg [.sl 124], .agg [.sl 124]]
def res : RP := .one (.rd (.bool))
noncomputable def G : List (Nat × Con) := [(115, slices_EqualFunc_Simpl_Stored_Simpl_Stored_impl_Stored_impl_Stored__impl_EqualCaches_1.con)]
noncomputable abbrev E : Env := ⟨assoc Tab, conG G, 10⟩
set_option maxRecDepth 100000
theorem run_eq (n : Nat) (ls : List L) : runF E live Tryz.f63 res n (initS pats ls) = F (RCache.dec ls) (RCache.dec (dropT 1 ls)) := by kernel_rfl
noncomputable def md (a0 : MCache) (a1 : MCache) : Bool := ((slices_EqualFunc_Simpl_Stored_Simpl_Stored_impl_Stored_impl_Stored__impl_EqualCaches_1.md a0.fList a1.fList) : Bool)
def gd (a0 : MCache) (a1 : MCache) : Prop := (MCache.Sm (2 ^ 21) a0) ∧ (MCache.Sm (2 ^ 21) a1)
def rf (a : MCache × MCache) : RCache × RCache := ((MCache.r a.1), (MCache.r a.2))
theorem rf_inj (a b : MCache × MCache) (h : rf a = rf b) : a = b := by
  exact (Prod.ext (MCache.r_inj (congrArg (fun x => x.1) h)) (MCache.r_inj (congrArg (fun x => x.2) h)))
noncomputable def R (x0 : RCache) (x1 : RCache) : Option (Bool) := ofM rf (fun a => gd a.1 a.2) (fun a => (md a.1 a.2)) (x0, x1)
theorem R_eq {a0 : MCache} {a1 : MCache} (h : gd a0 a1) : R (MCache.r a0) (MCache.r a1) = some (md a0 a1) := ofM_eq (r := rf) (a := (a0, a1)) rf_inj h
theorem okF (a0 : MCache) (a1 : MCache) (hg : gd a0 a1) : F (MCache.r a0) (MCache.r a1) = ret ((md a0 a1) : Bool) := by
  unfold gd at hg
  obtain ⟨H0, H1⟩ := hg
  unfold F md
  try simp only [bytesL_map, List.length_map, toNat_nat, iAt_getD, bAt_getD, sAt_getD, lAt_getD, MKeys.r_fList, MCache.r_fList]
  refine call_to (slices_EqualFunc_Simpl_Stored_Simpl_Stored_impl_Stored_impl_Stored__impl_EqualCaches_1.md a0.fList a1.fList) ?_ ?_
  · have R_ := slices_EqualFunc_Simpl_Stored_Simpl_Stored_impl_Stored_impl_Stored__impl_EqualCaches_1.R_eq (a0 := a0.fList) (a1 := a1.fList) ⟨H0, H1⟩
    first | exact R_ | (simp only [List.map_append, List.map_cons, List.map_nil, List.cons_append, List.nil_append, iRow, sRow, bRow, lRow, List.map_set, bytesL_map, List.length_map, toNat_nat, iAt_getD, bAt_getD, sAt_getD, lAt_getD, MKeys.r_fList, MCache.r_fList] at R_ ⊢; first | exact R_ | (rw [← R_]; rfl))
  try simp only [bytesL_map, List.length_map, toNat_nat, iAt_getD, bAt_getD, sAt_getD, lAt_getD, MKeys.r_fList, MCache.r_fList]
  all_goals first | rfl | (simp only [bytesL_map, List.length_map, toNat_nat, iAt_getD, bAt_getD, sAt_getD, lAt_getD, MKeys.r_fList, MCache.r_fList]; done) | (simp only [List.map_append, List.map_cons, List.map_nil, List.cons_append, List.nil_append, iRow, sRow, bRow, lRow, List.map_set]; rfl) | (simp only [bytesL_map, List.length_map, toNat_nat, iAt_getD, bAt_getD, sAt_getD, lAt_getD, MKeys.r_fList, MCache.r_fList, List.map_append, List.map_cons, List.map_nil, List.cons_append, List.nil_append, iRow, sRow, bRow, lRow, List.map_set]; first | done | rfl)
noncomputable def sem (ls : List L) : Option (List L) := (R (RCache.dec ls) (RCache.dec (dropT 1 ls))).map RT.enc
theorem ok (ls q : List L) (hl : LOKs Ev.cells pats ls) (h : sem ls = some q) : ∃ n, runF E live Tryz.f63 res n (initS pats ls) = some q := by
  obtain ⟨v, hv, hq⟩ := map_some h
  obtain ⟨⟨a0, a1⟩, hg, e, hm⟩ := ofM_some hv
  simp only [rf, Prod.mk.injEq] at e
  obtain ⟨e0, e1⟩ := e
  have hn := okF a0 a1 hg
  refine ⟨0, (run_eq 0 ls).trans ?_⟩
  rw [← e0, ← e1]
  rw [hn, ← hq, hm]; rfl
noncomputable def con : Con := ⟨pats, res, sem⟩
theorem chk : fnB Tryz.f63 con 10 = true := by kernel_rfl
theorem valid_ : Valid Tryz.prog Ev 63 con := valid mix tab_ok (.cons slices_EqualFunc_Simpl_Stored_Simpl_Stored_impl_Stored_impl_Stored__impl_EqualCaches_1.valid_ .nil) Tryz.func63 chk live ok
theorem md_eq (a0 : MCache) (a1 : MCache) : md a0 a1 = eqB a0 a1 := by
  unfold md
  cases a0; cases a1
  rw [Bool.eq_iff_iff]
  simp [eqB_iff, ba_beq, MCache.mk.injEq, slices_EqualFunc_Simpl_Stored_Simpl_Stored_impl_Stored_impl_Stored__impl_EqualCaches_1.md_eq]
  try (constructor <;> (intro h; simp_all))
end impl_EqualCaches
/-! impl.EqualWalks -/
namespace impl_EqualWalks
noncomputable def F (x0 : RWalk) (x1 : RWalk) : Ans := (call (impl_EqualTraces.R x0.fTrace x1.fTrace) fun v1 => (bif v1 then (call (impl_EqualCaches.R x0.fCache x1.fCache) fun v2 => ret (v2 : Bool)) else ret (false : Bool)))
def live : Nat → Live := fun _ => []
def pats : List Pat := [.agg [.sl 38, .sl 95, .int .i64, .str, .int .i64, .int .i64, .sl 9, .sl 3, .int .i64, .sl 124], .agg [.sl 38, .sl 95, .int .i64, .str, .int .i64, .int .i64, .sl 9, .sl 3, .int .i64, .sl 124]]
def res : RP := .one (.rd (.bool))
noncomputable def G : List (Nat × Con) := [(62, impl_EqualTraces.con), (63, impl_EqualCaches.con)]
noncomputable abbrev E : Env := ⟨assoc Tab, conG G, 17⟩
set_option maxRecDepth 100000
theorem run_eq (n : Nat) (ls : List L) : runF E live Tryz.f23 res n (initS pats ls) = F (RWalk.dec ls) (RWalk.dec (dropT 10 ls)) := by kernel_rfl
noncomputable def md (a0 : MWalk) (a1 : MWalk) : Bool := (bif (impl_EqualTraces.md a0.fTrace a1.fTrace) then ((impl_EqualCaches.md a0.fCache a1.fCache) : Bool) else (false : Bool))
def gd (a0 : MWalk) (a1 : MWalk) : Prop := (MWalk.Sm (2 ^ 21) a0) ∧ (MWalk.Sm (2 ^ 21) a1)
def rf (a : MWalk × MWalk) : RWalk × RWalk := ((MWalk.r a.1), (MWalk.r a.2))
theorem rf_inj (a b : MWalk × MWalk) (h : rf a = rf b) : a = b := by
  exact (Prod.ext (MWalk.r_inj (congrArg (fun x => x.1) h)) (MWalk.r_inj (congrArg (fun x => x.2) h)))
noncomputable def R (x0 : RWalk) (x1 : RWalk) : Option (Bool) := ofM rf (fun a => gd a.1 a.2) (fun a => (md a.1 a.2)) (x0, x1)
theorem R_eq {a0 : MWalk} {a1 : MWalk} (h : gd a0 a1) : R (MWalk.r a0) (MWalk.r a1) = some (md a0 a1) := ofM_eq (r := rf) (a := (a0, a1)) rf_inj h
theorem okF (a0 : MWalk) (a1 : MWalk) (hg : gd a0 a1) : F (MWalk.r a0) (MWalk.r a1) = ret ((md a0 a1) : Bool) := by
  unfold gd at hg
  obtain ⟨H0, H1⟩ := hg
  unfold F md
  try simp only [bytesL_map, List.length_map, toNat_nat, iAt_getD, bAt_getD, sAt_getD, lAt_getD, MWalk.r_fTrace, MWalk.r_fCache]
  refine call_to (impl_EqualTraces.md a0.fTrace a1.fTrace) ?_ ?_
  · have R_ := impl_EqualTraces.R_eq (a0 := a0.fTrace) (a1 := a1.fTrace) ⟨H0.1, H1.1⟩
    first | exact R_ | (simp only [List.map_append, List.map_cons, List.map_nil, List.cons_append, List.nil_append, iRow, sRow, bRow, lRow, List.map_set, bytesL_map, List.length_map, toNat_nat, iAt_getD, bAt_getD, sAt_getD, lAt_getD, MWalk.r_fTrace, MWalk.r_fCache] at R_ ⊢; first | exact R_ | (rw [← R_]; rfl))
  try simp only [bytesL_map, List.length_map, toNat_nat, iAt_getD, bAt_getD, sAt_getD, lAt_getD, MWalk.r_fTrace, MWalk.r_fCache]
  refine bif_out (fun b : Bool => ret (b : Bool)) (fun c1 => ?_) (fun c1 => ?_)
  · refine call_to (impl_EqualCaches.md a0.fCache a1.fCache) ?_ ?_
    · have R_ := impl_EqualCaches.R_eq (a0 := a0.fCache) (a1 := a1.fCache) ⟨H0.2, H1.2⟩
      first | exact R_ | (simp only [List.map_append, List.map_cons, List.map_nil, List.cons_append, List.nil_append, iRow, sRow, bRow, lRow, List.map_set, bytesL_map, List.length_map, toNat_nat, iAt_getD, bAt_getD, sAt_getD, lAt_getD, MWalk.r_fTrace, MWalk.r_fCache] at R_ ⊢; first | exact R_ | (rw [← R_]; rfl))
    try simp only [bytesL_map, List.length_map, toNat_nat, iAt_getD, bAt_getD, sAt_getD, lAt_getD, MWalk.r_fTrace, MWalk.r_fCache]
    all_goals first | rfl | (simp only [bytesL_map, List.length_map, toNat_nat, iAt_getD, bAt_getD, sAt_getD, lAt_getD, MWalk.r_fTrace, MWalk.r_fCache]; done) | (simp only [List.map_append, List.map_cons, List.map_nil, List.cons_append, List.nil_append, iRow, sRow, bRow, lRow, List.map_set]; rfl) | (simp only [bytesL_map, List.length_map, toNat_nat, iAt_getD, bAt_getD, sAt_getD, lAt_getD, MWalk.r_fTrace, MWalk.r_fCache, List.map_append, List.map_cons, List.map_nil, List.cons_append, List.nil_append, iRow, sRow, bRow, lRow, List.map_set]; first | done | rfl)
  · all_goals first | rfl | (simp only [bytesL_map, List.length_map, toNat_nat, iAt_getD, bAt_getD, sAt_getD, lAt_getD, MWalk.r_fTrace, MWalk.r_fCache]; done) | (simp only [List.map_append, List.map_cons, List.map_nil, List.cons_append, List.nil_append, iRow, sRow, bRow, lRow, List.map_set]; rfl) | (simp only [bytesL_map, List.length_map, toNat_nat, iAt_getD, bAt_getD, sAt_getD, lAt_getD, MWalk.r_fTrace, MWalk.r_fCache, List.map_append, List.map_cons, List.map_nil, List.cons_append, List.nil_append, iRow, sRow, bRow, lRow, List.map_set]; first | done | rfl)
noncomputable def sem (ls : List L) : Option (List L) := (R (RWalk.dec ls) (RWalk.dec (dropT 10 ls))).map RT.enc
theorem ok (ls q : List L) (hl : LOKs Ev.cells pats ls) (h : sem ls = some q) : ∃ n, runF E live Tryz.f23 res n (initS pats ls) = some q := by
  obtain ⟨v, hv, hq⟩ := map_some h
  obtain ⟨⟨a0, a1⟩, hg, e, hm⟩ := ofM_some hv
  simp only [rf, Prod.mk.injEq] at e
  obtain ⟨e0, e1⟩ := e
  have hn := okF a0 a1 hg
  refine ⟨0, (run_eq 0 ls).trans ?_⟩
  rw [← e0, ← e1]
  rw [hn, ← hq, hm]; rfl
noncomputable def con : Con := ⟨pats, res, sem⟩
theorem chk : fnB Tryz.f23 con 17 = true := by kernel_rfl
theorem valid_ : Valid Tryz.prog Ev 23 con := valid mix tab_ok (.cons impl_EqualTraces.valid_ (.cons impl_EqualCaches.valid_ .nil)) Tryz.func23 chk live ok
theorem md_eq (a0 : MWalk) (a1 : MWalk) : md a0 a1 = eqB a0 a1 := by
  unfold md
  cases a0; cases a1
  rw [Bool.eq_iff_iff]
  simp [eqB_iff, ba_beq, MWalk.mk.injEq, impl_EqualTraces.md_eq, impl_EqualCaches.md_eq]
  try (constructor <;> (intro h; simp_all))
end impl_EqualWalks
/-! laws.eqIntS -/
namespace laws_eqIntS
inductive Pt where
  | p0 (a : List (List L)) (b : List (List L)) (c : Int)
def pid : Pt → Nat
  | .p0 .. => 4
def pvs : Pt → List V
  | .p0 a b c => [.sl none 3 a, .sl none 3 b, .int .i64 c]
def phs : Pt → List Root
  | .p0 a b c => []
noncomputable def step (J : Pt → Ans) : Pt → Ans
  | .p0 a b c => (bif (decide (c < (a.length : Int))) then (bif (decide ((0 : Int) ≤ c)) then (bif (decide (c < (a.length : Int))) then (bif (decide ((0 : Int) ≤ c)) then (bif (decide (c < (b.length : Int))) then (bif ((iAt a (Int.toNat c)) != (iAt b (Int.toNat c))) then ret (false : Bool) else J (.p0 a b (IntKind.i64.wrap (c + 1)))) else none) else none) else none) else none) else ret (true : Bool))
noncomputable def start (J : Pt → Ans) (x0 : List (List L)) (x1 : List (List L)) : Ans := (bif ((x0.length : Int) != (x1.length : Int)) then ret (false : Bool) else J (.p0 x0 x1 0))
def live : Nat → Live := fun i => match i with | 4 => [(0, none), (1, none), (5, none)] | _ => []
def pats : List Pat := [.rd (.sl 3), .rd (.sl 3)]
def res : RP := .one (.rd (.bool))
noncomputable def G : List (Nat × Con) := []
noncomputable abbrev E : Env := ⟨assoc Tab, conG G, 26⟩
set_option maxRecDepth 100000
theorem step_eq (I : Heads) (p : Pt) : enterC E live I (pid p) (bodyOf Tryz.f119) (stOf (live (pid p)) (pvs p) (phs p)) (doneK E Tryz.f119 res) = step (fun q => I (pid q) (pvs q) (phs q)) p := by
  cases p <;> kernel_rfl
theorem start_eq (I : Heads) (ls : List L) : runC E live I (bodyOf Tryz.f119) (initS pats ls) (doneK E Tryz.f119 res) = start (fun q => I (pid q) (pvs q) (phs q)) (ls.headD .hole).toSl ((dropT 1 ls).headD .hole).toSl := by kernel_rfl
theorem run_eq (n : Nat) (ls : List L) : runF E live Tryz.f119 res n (initS pats ls) = start (iter step n) (ls.headD .hole).toSl ((dropT 1 ls).headD .hole).toSl := runF_iter (id := pid) (vs := pvs) (hs := phs) (step := step) (start := fun J => start J (ls.headD .hole).toSl ((dropT 1 ls).headD .hole).toSl) step_eq (fun I => start_eq I ls) n
noncomputable def md (a0 : List Int) (a1 : List Int) : Bool := eqB a0 a1
def gd (a0 : List Int) (a1 : List Int) : Prop := True
def rf (a : List Int × List Int) : List (List L) × List (List L) := ((a.1.map iRow), (a.2.map iRow))
theorem rf_inj (a b : List Int × List Int) (h : rf a = rf b) : a = b := by
  exact (Prod.ext (map_inj iRow_inj (congrArg (fun x => x.1) h)) (map_inj iRow_inj (congrArg (fun x => x.2) h)))
noncomputable def R (x0 : List (List L)) (x1 : List (List L)) : Option (Bool) := ofM rf (fun a => gd a.1 a.2) (fun a => (md a.1 a.2)) (x0, x1)
theorem R_eq {a0 : List Int} {a1 : List Int} (h : gd a0 a1) : R (a0.map iRow) (a1.map iRow) = some (md a0 a1) := ofM_eq (r := rf) (a := (a0, a1)) rf_inj h
theorem okF (a0 : List Int) (a1 : List Int) (hg : gd a0 a1) (h0 : a0.length ≤ maxLen) (h1 : a1.length ≤ maxLen) : ∃ n, start (iter step n) (a0.map iRow) (a1.map iRow) = ret ((md a0 a1) : Bool) := by
  unfold start md
  simp only [List.length_map]
  refine eq_list (pt := fun i => Pt.p0 (a0.map iRow) (a1.map iRow) (i : Int)) (fun hl J i h h2 => ?_) (fun J => ?_)
  · simp only [step, List.length_map, lt_dec h, lt_dec h2, zle_dec, cond_true, toNat_nat, iAt_row h, iAt_row h2]
    rw [wrap_succ h h0]
    simp only [bne, int_beq, bool_beq, ba_beq]
    cases eqB a0[i] a1[i] <;> rfl
  · simp only [step, List.length_map, nlt_dec, cond_false]
noncomputable def sem (ls : List L) : Option (List L) := (R (ls.headD .hole).toSl ((dropT 1 ls).headD .hole).toSl).map RT.enc
theorem ok (ls q : List L) (hl : LOKs Ev.cells pats ls) (h : sem ls = some q) : ∃ n, runF E live Tryz.f119 res n (initS pats ls) = some q := by
  obtain ⟨v, hv, hq⟩ := map_some h
  obtain ⟨⟨a0, a1⟩, hg, e, hm⟩ := ofM_some hv
  simp only [rf, Prod.mk.injEq] at e
  obtain ⟨e0, e1⟩ := e
  obtain ⟨n, hn⟩ := okF a0 a1 hg (by have h : (ls.headD .hole).toSl.length ≤ maxLen := hl.1.len; have e : _ = (ls.headD .hole).toSl := e0; rw [← e] at h; simpa using h) (by have h : ((dropT 1 ls).headD .hole).toSl.length ≤ maxLen := hl.2.1.len; have e : _ = ((dropT 1 ls).headD .hole).toSl := e1; rw [← e] at h; simpa using h)
  refine ⟨n, (run_eq n ls).trans ?_⟩
  rw [← e0, ← e1]
  rw [hn, ← hq, hm]; rfl
noncomputable def con : Con := ⟨pats, res, sem⟩
theorem chk : fnB Tryz.f119 con 26 = true := by kernel_rfl
theorem valid_ : Valid Tryz.prog Ev 119 con := valid mix tab_ok .nil Tryz.func119 chk live ok
end laws_eqIntS
end Go.DM
