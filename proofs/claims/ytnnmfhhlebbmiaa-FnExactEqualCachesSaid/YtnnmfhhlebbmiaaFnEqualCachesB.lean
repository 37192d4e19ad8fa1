/- What the functions compute that the law reaches, and that the law returns true. Conditions: none. -/
import Derived.Test.YtnnmfhhlebbmiaaTy
import Derived.Test.YtnnmfhhlebbmiaaFnEqualCachesA
import Derived.Test.YtnnmfhhlebbmiaaProg
import Derived.Lib.AppendZerosOnto
import Derived.Lib.Bytealg
import Derived.Laws.Externs
import Derived.Lib.Walk
import Derived.Lib.Hide
import Derived.Lib.Strings
set_option linter.all false
namespace Go.DM
open Go.Proofs
/-! laws.FnExactEqualCaches -/
namespace laws_FnExactEqualCaches
noncomputable def F (x0 : RCache) (x1 : RCache) : Ans := (call (laws_szCache.R (x0, 1048576)) fun v1 => (bif (decide (v1 < 0)) then ret (true : Bool) else (call (laws_szCache.R (x1, v1)) fun v2 => (bif (decide (v2 < 0)) then ret (true : Bool) else (call (laws_toCache.R x0) fun v3 => (call (laws_toCache.R x1) fun v4 => (call (spec_EqualCaches.R (v3, v4)) fun v5 => (call (laws_toCache.R x0) fun v6 => (call (laws_toCache.R x1) fun v7 => (call (impl_EqualCaches.R (v6, v7)) fun v8 => (bif (!(v8 == v5)) then ret (false : Bool) else (call (laws_toCache.R x0) fun v9 => (call (laws_eqCache.R (v6, v9)) fun v10 => (bif (!v10) then ret (false : Bool) else (call (laws_toCache.R x1) fun v11 => (call (laws_eqCache.R (v7, v11)) fun v12 => (bif (!v12) then ret (false : Bool) else ret (true : Bool))))))))))))))))))
def pats : List Pat := [.agg [.sl 209], .agg [.sl 209]]
def res : RP := .one (.rd (.bool))
noncomputable abbrev E : Env := ⟨assoc Tab, conG [(56, laws_szCache.con), (58, laws_toCache.con), (57, spec_EqualCaches.con), (59, impl_EqualCaches.con), (60, laws_eqCache.con)], 45⟩
set_option maxRecDepth 100000
theorem run_eq (n : Nat) (ls : List L) : runF E (fun _ => []) Try.f15 res n (initS pats ls) = F (RCache.dec ls) (RCache.dec (dropT 1 ls)) := by kernel_rfl
noncomputable def md (a0 : MCache) (a1 : MCache) : Bool := true
def gd (a0 : MCache) (a1 : MCache) : Prop := (MCache.Sm maxLen a0) ∧ (MCache.Sm maxLen a1)
def acc (ls : List L) : RCache × RCache := ((RCache.dec ls), (RCache.dec (dropT 1 ls)))
noncomputable def R : (RCache × RCache) → Option Bool := RR (p2 gd) (u2 md)
theorem R_eq {a0} {a1} (h : gd a0 a1) : R ((MCache.r a0), (MCache.r a1)) = some (md a0 a1) := RR_eq (a := (a0, a1)) h
noncomputable def con : Con := CN pats res acc R
theorem okF (a0 : MCache) (a1 : MCache) (hg : gd a0 a1) : F (MCache.r a0) (MCache.r a1) = ret ((md a0 a1) : Bool) := by
  unfold md
  show (call (laws_szCache.R ((MCache.r a0), 1048576)) fun v1 => (bif (decide (v1 < 0)) then ret (true : Bool) else (call (laws_szCache.R ((MCache.r a1), v1)) fun v2 => (bif (decide (v2 < 0)) then ret (true : Bool) else (call (laws_toCache.R (MCache.r a0)) fun v3 => (call (laws_toCache.R (MCache.r a1)) fun v4 => (call (spec_EqualCaches.R (v3, v4)) fun v5 => (call (laws_toCache.R (MCache.r a0)) fun v6 => (call (laws_toCache.R (MCache.r a1)) fun v7 => (call (impl_EqualCaches.R (v6, v7)) fun v8 => (bif (!(v8 == v5)) then ret (false : Bool) else (call (laws_toCache.R (MCache.r a0)) fun v9 => (call (laws_eqCache.R (v6, v9)) fun v10 => (bif (!v10) then ret (false : Bool) else (call (laws_toCache.R (MCache.r a1)) fun v11 => (call (laws_eqCache.R (v7, v11)) fun v12 => (bif (!v12) then ret (false : Bool) else ret (true : Bool)))))))))))))))))) = _
  rw [call_eq (laws_szCache.R_eq (a1 := (1048576 : Int)) ⟨hg.1, by omega, by omega⟩)]
  unfold laws_szCache.md
  by_cases c0 : (1048576 : Int) < (((MCache.size a0) : Nat) : Int)
  · rw [szM_neg c0]; rfl
  rw [szM_pos c0, dec_neg (by omega)]
  simp only [cond_false]
  have s0 : MCache.Sm (2 ^ 20) a0 := (MCache.Sm_of (by omega))
  rw [call_eq (laws_szCache.R_eq (a1 := (1048576 - (((MCache.size a0) : Nat) : Int) : Int)) ⟨hg.2, by omega, by omega⟩)]
  unfold laws_szCache.md
  by_cases c1 : (1048576 - (((MCache.size a0) : Nat) : Int) : Int) < (((MCache.size a1) : Nat) : Int)
  · rw [szM_neg c1]; rfl
  rw [szM_pos c1, dec_neg (by omega)]
  simp only [cond_false]
  have s1 : MCache.Sm (2 ^ 20) a1 := (MCache.Sm_of (by omega))
  rw [call_eq (laws_toCache.R_eq (a0 := a0) (MCache.Sm_mono (by decide) s0))]
  simp only [laws_toCache.md]
  rw [call_eq (laws_toCache.R_eq (a0 := a1) (MCache.Sm_mono (by decide) s1))]
  simp only [laws_toCache.md]
  rw [call_eq (spec_EqualCaches.R_eq (a0 := a0) (a1 := a1) (by
    have := And.intro trivial trivial
    unfold spec_EqualCaches.gd
    first | exact (MCache.Sm_mono (by decide) s0) | refine ⟨(MCache.Sm_mono (by decide) s0), (MCache.Sm_mono (by decide) s1)⟩))]
  rw [call_eq (laws_toCache.R_eq (a0 := a0) (MCache.Sm_mono (by decide) s0))]
  simp only [laws_toCache.md]
  rw [call_eq (laws_toCache.R_eq (a0 := a1) (MCache.Sm_mono (by decide) s1))]
  simp only [laws_toCache.md]
  rw [call_eq (impl_EqualCaches.R_eq (a0 := a0) (a1 := a1) (by
    have := And.intro trivial trivial
    unfold impl_EqualCaches.gd
    first | exact (MCache.Sm_mono (by decide) s0) | refine ⟨(MCache.Sm_mono (by decide) s0), (MCache.Sm_mono (by decide) s1)⟩))]
  try simp only [spec_EqualCaches.md_eq, impl_EqualCaches.md_eq, bne_self_eq_false, beq_self_eq_true, ba_refl, Bool.not_true, cond_false]
  rw [call_eq (laws_toCache.R_eq (a0 := a0) (MCache.Sm_mono (by decide) s0))]
  simp only [laws_toCache.md]
  rw [call_eq (laws_eqCache.R_eq (a0 := a0) (a1 := a0) trivial)]
  simp only [laws_eqCache.md, eqB_refl, Bool.not_true, cond_false]
  rw [call_eq (laws_toCache.R_eq (a0 := a1) (MCache.Sm_mono (by decide) s1))]
  simp only [laws_toCache.md]
  rw [call_eq (laws_eqCache.R_eq (a0 := a1) (a1 := a1) trivial)]
  simp only [laws_eqCache.md, eqB_refl, Bool.not_true, cond_false]
theorem valid_ : Valid Try.prog Ev 15 con := VV (run := fun _ x => F x.1 x.2) mix tab_ok (.cons laws_szCache.valid_ (.cons laws_toCache.valid_ (.cons spec_EqualCaches.valid_ (.cons impl_EqualCaches.valid_ (.cons laws_eqCache.valid_ .nil))))) Try.func15 (by kernel_rfl) run_eq (fun _ a _ _ hg => ⟨0, okF a.1 a.2 hg⟩)
theorem MKeys_wf108 (r : List L) (h : WfAll Ev.cells [.sl 3, .int .i64] r) : ∃ x : MKeys, MKeys.row x = r ∧ MKeys.Sm maxLen x := by
  obtain ⟨l0, t0, rfl, g0, h1⟩ := h.uncons
  obtain ⟨x0, rfl, s0⟩ := wf_list (show Ev.cells 3 = [.int .i64] from by kernel_rfl) wf_irow g0
  obtain ⟨l1, t1, rfl, g1, h2⟩ := h1.uncons
  obtain ⟨x1, rfl⟩ := wf_int g1
  obtain rfl := h2.isnil
  exact ⟨⟨x0, x1⟩, rfl, s0⟩
theorem MHead_wf110 (r : List L) (h : WfAll Ev.cells [.int .i64, .int .i64, .int .i64, .int .i64, .int .i64, .int .i64, .int .i64, .int .i64, .sl 3, .int .i64, .sl 3, .int .i64, .int .i64, .sl 3, .int .i64, .bool] r) : ∃ x : MHead, MHead.row x = r ∧ MHead.Sm maxLen x := by
  obtain ⟨l0, t0, rfl, g0, h1⟩ := h.uncons
  obtain ⟨x0, rfl⟩ := wf_int g0
  obtain ⟨l1, t1, rfl, g1, h2⟩ := h1.uncons
  obtain ⟨x1, rfl⟩ := wf_int g1
  obtain ⟨l2, t2, rfl, g2, h3⟩ := h2.uncons
  obtain ⟨x2, rfl⟩ := wf_int g2
  obtain ⟨l3, t3, rfl, g3, h4⟩ := h3.uncons
  obtain ⟨x3, rfl⟩ := wf_int g3
  obtain ⟨l4, t4, rfl, g4, h5⟩ := h4.uncons
  obtain ⟨x4, rfl⟩ := wf_int g4
  obtain ⟨l5, t5, rfl, g5, h6⟩ := h5.uncons
  obtain ⟨x5, rfl⟩ := wf_int g5
  obtain ⟨l6, t6, rfl, g6, h7⟩ := h6.uncons
  obtain ⟨x6, rfl⟩ := wf_int g6
  obtain ⟨l7, t7, rfl, g7, h8⟩ := h7.uncons
  obtain ⟨x7, rfl⟩ := wf_int g7
  obtain ⟨r8, t8, rfl, g8, h9⟩ := WfAll.unapp (a := [.sl 3, .int .i64]) (b := [.sl 3, .int .i64, .int .i64, .sl 3, .int .i64, .bool]) h8
  obtain ⟨x8, rfl, s8⟩ := MKeys_wf108 _ g8
  obtain ⟨r9, t9, rfl, g9, h10⟩ := WfAll.unapp (a := [.sl 3, .int .i64]) (b := [.int .i64, .sl 3, .int .i64, .bool]) h9
  obtain ⟨x9, rfl, s9⟩ := MKeys_wf108 _ g9
  obtain ⟨l10, t10, rfl, g10, h11⟩ := h10.uncons
  obtain ⟨x10, rfl⟩ := wf_int g10
  obtain ⟨r11, t11, rfl, g11, h12⟩ := WfAll.unapp (a := [.sl 3, .int .i64]) (b := [.bool]) h11
  obtain ⟨x11, rfl, s11⟩ := MKeys_wf108 _ g11
  obtain ⟨l12, t12, rfl, g12, h13⟩ := h12.uncons
  obtain ⟨x12, rfl⟩ := wf_bool g12
  obtain rfl := h13.isnil
  exact ⟨⟨x0, x1, x2, x3, x4, x5, x6, x7, x8, x9, x10, x11, x12⟩, rfl, ⟨s8, s9, s11⟩⟩
theorem MSig_wf218 (r : List L) (h : WfAll Ev.cells [.int .i64, .int .i64] r) : ∃ x : MSig, MSig.row x = r ∧ MSig.Sm maxLen x := by
  obtain ⟨l0, t0, rfl, g0, h1⟩ := h.uncons
  obtain ⟨x0, rfl⟩ := wf_int g0
  obtain ⟨l1, t1, rfl, g1, h2⟩ := h1.uncons
  obtain ⟨x1, rfl⟩ := wf_int g1
  obtain rfl := h2.isnil
  exact ⟨⟨x0, x1⟩, rfl, trivial⟩
theorem MSigned_wf113 (r : List L) (h : WfAll Ev.cells [.int .i64, .int .i64, .int .i64, .int .i64, .int .i64, .int .i64, .int .i64, .int .i64, .sl 3, .int .i64, .sl 3, .int .i64, .int .i64, .sl 3, .int .i64, .bool, .sl 218] r) : ∃ x : MSigned, MSigned.row x = r ∧ MSigned.Sm maxLen x := by
  obtain ⟨r0, t0, rfl, g0, h1⟩ := WfAll.unapp (a := [.int .i64, .int .i64, .int .i64, .int .i64, .int .i64, .int .i64, .int .i64, .int .i64, .sl 3, .int .i64, .sl 3, .int .i64, .int .i64, .sl 3, .int .i64, .bool]) (b := [.sl 218]) h
  obtain ⟨x0, rfl, s0⟩ := MHead_wf110 _ g0
  obtain ⟨l1, t1, rfl, g1, h2⟩ := h1.uncons
  obtain ⟨x1, rfl, s1⟩ := wf_list (show Ev.cells 218 = [.int .i64, .int .i64] from by kernel_rfl) MSig_wf218 g1
  obtain rfl := h2.isnil
  exact ⟨⟨x0, x1⟩, rfl, ⟨s0, s1⟩⟩
theorem MEntry_wf24 (r : List L) (h : WfAll Ev.cells [.str, .int .i64, .int .i64, .sl 9] r) : ∃ x : MEntry, MEntry.row x = r ∧ MEntry.Sm maxLen x := by
  obtain ⟨l0, t0, rfl, g0, h1⟩ := h.uncons
  obtain ⟨x0, rfl, s0⟩ := wf_str g0
  obtain ⟨l1, t1, rfl, g1, h2⟩ := h1.uncons
  obtain ⟨x1, rfl⟩ := wf_int g1
  obtain ⟨l2, t2, rfl, g2, h3⟩ := h2.uncons
  obtain ⟨x2, rfl⟩ := wf_int g2
  obtain ⟨l3, t3, rfl, g3, h4⟩ := h3.uncons
  obtain ⟨x3, rfl, s3⟩ := wf_list (show Ev.cells 9 = [.str] from by kernel_rfl) wf_srow g3
  obtain rfl := h4.isnil
  exact ⟨⟨x0, x1, x2, x3⟩, rfl, ⟨s0, s3⟩⟩
theorem MProof_wf203 (r : List L) (h : WfAll Ev.cells [.int .i64, .sl 3] r) : ∃ x : MProof, MProof.row x = r ∧ MProof.Sm maxLen x := by
  obtain ⟨l0, t0, rfl, g0, h1⟩ := h.uncons
  obtain ⟨x0, rfl⟩ := wf_int g0
  obtain ⟨l1, t1, rfl, g1, h2⟩ := h1.uncons
  obtain ⟨x1, rfl, s1⟩ := wf_list (show Ev.cells 3 = [.int .i64] from by kernel_rfl) wf_irow g1
  obtain rfl := h2.isnil
  exact ⟨⟨x0, x1⟩, rfl, s1⟩
theorem MGap_wf205 (r : List L) (h : WfAll Ev.cells [.int .i64, .str, .int .i64, .int .i64, .sl 9, .str, .int .i64, .int .i64, .sl 9, .int .i64, .sl 3, .int .i64, .sl 3] r) : ∃ x : MGap, MGap.row x = r ∧ MGap.Sm maxLen x := by
  obtain ⟨l0, t0, rfl, g0, h1⟩ := h.uncons
  obtain ⟨x0, rfl⟩ := wf_int g0
  obtain ⟨r1, t1, rfl, g1, h2⟩ := WfAll.unapp (a := [.str, .int .i64, .int .i64, .sl 9]) (b := [.str, .int .i64, .int .i64, .sl 9, .int .i64, .sl 3, .int .i64, .sl 3]) h1
  obtain ⟨x1, rfl, s1⟩ := MEntry_wf24 _ g1
  obtain ⟨r2, t2, rfl, g2, h3⟩ := WfAll.unapp (a := [.str, .int .i64, .int .i64, .sl 9]) (b := [.int .i64, .sl 3, .int .i64, .sl 3]) h2
  obtain ⟨x2, rfl, s2⟩ := MEntry_wf24 _ g2
  obtain ⟨r3, t3, rfl, g3, h4⟩ := WfAll.unapp (a := [.int .i64, .sl 3]) (b := [.int .i64, .sl 3]) h3
  obtain ⟨x3, rfl, s3⟩ := MProof_wf203 _ g3
  obtain ⟨r4, t4, rfl, g4, h5⟩ := WfAll.unapp (a := [.int .i64, .sl 3]) (b := []) h4
  obtain ⟨x4, rfl, s4⟩ := MProof_wf203 _ g4
  obtain rfl := h5.isnil
  exact ⟨⟨x0, x1, x2, x3, x4⟩, rfl, ⟨s1, s2, s3, s4⟩⟩
theorem MAnswer_wf207 (r : List L) (h : WfAll Ev.cells [.sl 113, .bool, .str, .int .i64, .int .i64, .sl 9, .int .i64, .sl 3, .int .i64, .str, .int .i64, .int .i64, .sl 9, .str, .int .i64, .int .i64, .sl 9, .int .i64, .sl 3, .int .i64, .sl 3] r) : ∃ x : MAnswer, MAnswer.row x = r ∧ MAnswer.Sm maxLen x := by
  obtain ⟨l0, t0, rfl, g0, h1⟩ := h.uncons
  obtain ⟨x0, rfl, s0⟩ := wf_list (show Ev.cells 113 = [.int .i64, .int .i64, .int .i64, .int .i64, .int .i64, .int .i64, .int .i64, .int .i64, .sl 3, .int .i64, .sl 3, .int .i64, .int .i64, .sl 3, .int .i64, .bool, .sl 218] from by kernel_rfl) MSigned_wf113 g0
  obtain ⟨l1, t1, rfl, g1, h2⟩ := h1.uncons
  obtain ⟨x1, rfl⟩ := wf_bool g1
  obtain ⟨r2, t2, rfl, g2, h3⟩ := WfAll.unapp (a := [.str, .int .i64, .int .i64, .sl 9]) (b := [.int .i64, .sl 3, .int .i64, .str, .int .i64, .int .i64, .sl 9, .str, .int .i64, .int .i64, .sl 9, .int .i64, .sl 3, .int .i64, .sl 3]) h2
  obtain ⟨x2, rfl, s2⟩ := MEntry_wf24 _ g2
  obtain ⟨r3, t3, rfl, g3, h4⟩ := WfAll.unapp (a := [.int .i64, .sl 3]) (b := [.int .i64, .str, .int .i64, .int .i64, .sl 9, .str, .int .i64, .int .i64, .sl 9, .int .i64, .sl 3, .int .i64, .sl 3]) h3
  obtain ⟨x3, rfl, s3⟩ := MProof_wf203 _ g3
  obtain ⟨r4, t4, rfl, g4, h5⟩ := WfAll.unapp (a := [.int .i64, .str, .int .i64, .int .i64, .sl 9, .str, .int .i64, .int .i64, .sl 9, .int .i64, .sl 3, .int .i64, .sl 3]) (b := []) h4
  obtain ⟨x4, rfl, s4⟩ := MGap_wf205 _ g4
  obtain rfl := h5.isnil
  exact ⟨⟨x0, x1, x2, x3, x4⟩, rfl, ⟨s0, s2, s3, s4⟩⟩
theorem MStored_wf209 (r : List L) (h : WfAll Ev.cells [.int .i64, .str, .sl 113, .bool, .str, .int .i64, .int .i64, .sl 9, .int .i64, .sl 3, .int .i64, .str, .int .i64, .int .i64, .sl 9, .str, .int .i64, .int .i64, .sl 9, .int .i64, .sl 3, .int .i64, .sl 3] r) : ∃ x : MStored, MStored.row x = r ∧ MStored.Sm maxLen x := by
  obtain ⟨l0, t0, rfl, g0, h1⟩ := h.uncons
  obtain ⟨x0, rfl⟩ := wf_int g0
  obtain ⟨l1, t1, rfl, g1, h2⟩ := h1.uncons
  obtain ⟨x1, rfl, s1⟩ := wf_str g1
  obtain ⟨r2, t2, rfl, g2, h3⟩ := WfAll.unapp (a := [.sl 113, .bool, .str, .int .i64, .int .i64, .sl 9, .int .i64, .sl 3, .int .i64, .str, .int .i64, .int .i64, .sl 9, .str, .int .i64, .int .i64, .sl 9, .int .i64, .sl 3, .int .i64, .sl 3]) (b := []) h2
  obtain ⟨x2, rfl, s2⟩ := MAnswer_wf207 _ g2
  obtain rfl := h3.isnil
  exact ⟨⟨x0, x1, x2⟩, rfl, ⟨s1, s2⟩⟩
theorem MCache_wf84 (r : List L) (h : WfAll Ev.cells [.sl 209] r) : ∃ x : MCache, MCache.row x = r ∧ MCache.Sm maxLen x := by
  obtain ⟨l0, t0, rfl, g0, h1⟩ := h.uncons
  obtain ⟨x0, rfl, s0⟩ := wf_list (show Ev.cells 209 = [.int .i64, .str, .sl 113, .bool, .str, .int .i64, .int .i64, .sl 9, .int .i64, .sl 3, .int .i64, .str, .int .i64, .int .i64, .sl 9, .str, .int .i64, .int .i64, .sl 9, .int .i64, .sl 3, .int .i64, .sl 3] from by kernel_rfl) MStored_wf209 g0
  obtain rfl := h1.isnil
  exact ⟨⟨x0⟩, rfl, s0⟩
theorem holds (ls : List L) (h : WfAll Ev.cells ([84, 84].flatMap Ev.cells) ls) : con.sem ls = some [.bool true] := by
  have hk : [84, 84].flatMap Ev.cells = [.sl 209, .sl 209] := by kernel_rfl
  rw [hk] at h
  obtain ⟨r0, t0, rfl, g0, h1⟩ := WfAll.unapp (a := [.sl 209]) (b := [.sl 209]) h
  obtain ⟨x0, rfl, s0⟩ := MCache_wf84 _ g0
  obtain ⟨r1, t1, rfl, g1, h2⟩ := WfAll.unapp (a := [.sl 209]) (b := []) h1
  obtain ⟨x1, rfl, s1⟩ := MCache_wf84 _ g1
  obtain rfl := h2.isnil
  show (R ((MCache.r x0), (MCache.r x1))).map RT.enc = _
  rw [R_eq ⟨s0, s1⟩]
  rfl
end laws_FnExactEqualCaches
end Go.DM
