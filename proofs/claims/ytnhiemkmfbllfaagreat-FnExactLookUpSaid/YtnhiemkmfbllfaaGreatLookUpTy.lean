/- The structures of the program, as mathematical records. Conditions: none. -/
import Derived.Test.YtnhiemkmfbllfaaGreatLookUpDd
set_option linter.all false
noncomputable section
namespace Go.DM
structure aO where
 aF : List (List L)
 bH : Int
structure aw where
 aF : List Int
 bH : Int
def aO.enc (x : aO) : List L := [.sl x.aF, .int x.bH]
def aO.dec (r : List L) : aO := ⟨((ar 0 r).headD .hole).aG, ((ar 1 r).headD .hole).toInt⟩
instance : RT aO := ⟨aO.enc, aO.dec, 2, fun _ _ => rfl, fun _ _ => rfl⟩
def aO.at (xs : List (List L)) (i : Nat) : aO := aO.dec (List.getD xs i [])
def aw.r (x : aw) : aO := ⟨(x.aF.map aP), x.bH⟩
def aw.row (x : aw) : List L := aO.enc x.r
def aw.zero : aw := ⟨[], 0⟩
theorem aw.cd {a b : aw} (h : a.r = b.r) : a = b := by
 cases a; cases b
 simp only [aw.r, aO.mk.injEq] at h
 obtain ⟨h0, h1⟩ := h
 simp only [aw.mk.injEq]
 exact ⟨(map_inj jB h0), h1⟩
theorem aw.bS {a b : aw} (h : aw.row a = aw.row b) : a = b := aw.cd (congrArg aO.dec h)
theorem aw.da {xs : List aw} {i : Nat} (h : i < xs.length) : aO.at (xs.map aw.row) i = (xs[i]).r := by unfold aO.at; rw [getD_map h]; rfl
theorem aw.cw {xs : List aw} {i : Nat} : aO.at (xs.map aw.row) i = (xs.getD i aw.zero).r := dm (r := fun x => aw.r x) (fun _ => rfl) rfl
theorem aw.oW (x : aw) : (aw.r x).aF = (x.aF.map aP) := Eq.trans rfl rfl
theorem aw.uN (x : aw) : (aw.r x).bH = x.bH := Eq.trans rfl rfl
instance : Row aw := ⟨aw.row, aw.bS⟩
instance : Im aw aO := ⟨aw.r, aw.cd⟩
theorem aw.rs : (∀ (xs : List aw) (i : Nat), aO.at (xs.map aw.row) i = (xs.getD i aw.zero).r) ∧ (∀ x : aw, (aw.r x).aF = (x.aF.map aP)) ∧ (∀ x : aw, (aw.r x).bH = x.bH) := ⟨fun _ _ => aw.cw, aw.oW, aw.uN⟩
def aw.Sm (n : Nat) (x : aw) : Prop := bw n (fun y : Int => True) x.aF
def aw.size (x : aw) : Nat := di (fun y : Int => 0) x.aF
theorem aw.bx {n m : Nat} (hn : n ≤ m) {x : aw} (h : aw.Sm n x) : aw.Sm m x := h.mono hn (fun x hx => trivial)
theorem aw.cP {n : Nat} {x : aw} (h : x.size ≤ n) : aw.Sm n x := by
 unfold aw.size at h
 have g0 : di (fun y : Int => 0) x.aF ≤ n := by omega
 exact fv g0 (fun x hx => trivial)
structure bq where
 aT : Int
 bN : Int
 bg : Int
 bL : Int
 bF : Int
 bG : Int
 cj : Int
 cB : Int
 bh : aO
 aQ : aO
 cf : Int
 aM : aO
 aS : Bool
structure aq where
 aT : Int
 bN : Int
 bg : Int
 bL : Int
 bF : Int
 bG : Int
 cj : Int
 cB : Int
 bh : aw
 aQ : aw
 cf : Int
 aM : aw
 aS : Bool
def bq.enc (x : bq) : List L := [.int x.aT, .int x.bN, .int x.bg, .int x.bL, .int x.bF, .int x.bG, .int x.cj, .int x.cB, .sl x.bh.aF, .int x.bh.bH, .sl x.aQ.aF, .int x.aQ.bH, .int x.cf, .sl x.aM.aF, .int x.aM.bH, .bool x.aS]
def bq.dec (r : List L) : bq := ⟨((ar 0 r).headD .hole).toInt, ((ar 1 r).headD .hole).toInt, ((ar 2 r).headD .hole).toInt, ((ar 3 r).headD .hole).toInt, ((ar 4 r).headD .hole).toInt, ((ar 5 r).headD .hole).toInt, ((ar 6 r).headD .hole).toInt, ((ar 7 r).headD .hole).toInt, ⟨((ar 8 r).headD .hole).aG, ((ar 9 r).headD .hole).toInt⟩, ⟨((ar 10 r).headD .hole).aG, ((ar 11 r).headD .hole).toInt⟩, ((ar 12 r).headD .hole).toInt, ⟨((ar 13 r).headD .hole).aG, ((ar 14 r).headD .hole).toInt⟩, ((ar 15 r).headD .hole).toBool⟩
instance : RT bq := ⟨bq.enc, bq.dec, 16, fun _ _ => rfl, fun _ _ => rfl⟩
def bq.at (xs : List (List L)) (i : Nat) : bq := bq.dec (List.getD xs i [])
def aq.r (x : aq) : bq := ⟨x.aT, x.bN, x.bg, x.bL, x.bF, x.bG, x.cj, x.cB, (aw.r x.bh), (aw.r x.aQ), x.cf, (aw.r x.aM), x.aS⟩
def aq.row (x : aq) : List L := bq.enc x.r
def aq.zero : aq := ⟨0, 0, 0, 0, 0, 0, 0, 0, aw.zero, aw.zero, 0, aw.zero, false⟩
theorem aq.cd {a b : aq} (h : a.r = b.r) : a = b := by
 cases a; cases b
 simp only [aq.r, bq.mk.injEq] at h
 obtain ⟨h0, h1, h2, h3, h4, h5, h6, h7, h8, h9, h10, h11, h12⟩ := h
 simp only [aq.mk.injEq]
 exact ⟨h0, h1, h2, h3, h4, h5, h6, h7, (aw.cd h8), (aw.cd h9), h10, (aw.cd h11), h12⟩
theorem aq.bS {a b : aq} (h : aq.row a = aq.row b) : a = b := aq.cd (congrArg bq.dec h)
theorem aq.da {xs : List aq} {i : Nat} (h : i < xs.length) : bq.at (xs.map aq.row) i = (xs[i]).r := by unfold bq.at; rw [getD_map h]; rfl
theorem aq.cw {xs : List aq} {i : Nat} : bq.at (xs.map aq.row) i = (xs.getD i aq.zero).r := dm (r := fun x => aq.r x) (fun _ => rfl) rfl
theorem aq.ph (x : aq) : (aq.r x).aT = x.aT := Eq.trans rfl rfl
theorem aq.tA (x : aq) : (aq.r x).bN = x.bN := Eq.trans rfl rfl
theorem aq.pD (x : aq) : (aq.r x).bg = x.bg := Eq.trans rfl rfl
theorem aq.vr (x : aq) : (aq.r x).bL = x.bL := Eq.trans rfl rfl
theorem aq.tw (x : aq) : (aq.r x).bF = x.bF := Eq.trans rfl rfl
theorem aq.uo (x : aq) : (aq.r x).bG = x.bG := Eq.trans rfl rfl
theorem aq.uP (x : aq) : (aq.r x).cj = x.cj := Eq.trans rfl rfl
theorem aq.vn (x : aq) : (aq.r x).cB = x.cB := Eq.trans rfl rfl
theorem aq.vg (x : aq) : (aq.r x).bh = (aw.r x.bh) := Eq.trans rfl rfl
theorem aq.tp (x : aq) : (aq.r x).aQ = (aw.r x.aQ) := Eq.trans rfl rfl
theorem aq.vt (x : aq) : (aq.r x).cf = x.cf := Eq.trans rfl rfl
theorem aq.uA (x : aq) : (aq.r x).aM = (aw.r x.aM) := Eq.trans rfl rfl
theorem aq.sB (x : aq) : (aq.r x).aS = x.aS := Eq.trans rfl rfl
instance : Row aq := ⟨aq.row, aq.bS⟩
instance : Im aq bq := ⟨aq.r, aq.cd⟩
theorem aq.rs : (∀ (xs : List aq) (i : Nat), bq.at (xs.map aq.row) i = (xs.getD i aq.zero).r) ∧ (∀ x : aq, (aq.r x).aT = x.aT) ∧ (∀ x : aq, (aq.r x).bN = x.bN) ∧ (∀ x : aq, (aq.r x).bg = x.bg) ∧ (∀ x : aq, (aq.r x).bL = x.bL) ∧ (∀ x : aq, (aq.r x).bF = x.bF) ∧ (∀ x : aq, (aq.r x).bG = x.bG) ∧ (∀ x : aq, (aq.r x).cj = x.cj) ∧ (∀ x : aq, (aq.r x).cB = x.cB) ∧ (∀ x : aq, (aq.r x).bh = (aw.r x.bh)) ∧ (∀ x : aq, (aq.r x).aQ = (aw.r x.aQ)) ∧ (∀ x : aq, (aq.r x).cf = x.cf) ∧ (∀ x : aq, (aq.r x).aM = (aw.r x.aM)) ∧ (∀ x : aq, (aq.r x).aS = x.aS) := ⟨fun _ _ => aq.cw, aq.ph, aq.tA, aq.pD, aq.vr, aq.tw, aq.uo, aq.uP, aq.vn, aq.vg, aq.tp, aq.vt, aq.uA, aq.sB⟩
def aq.Sm (n : Nat) (x : aq) : Prop := aw.Sm n x.bh ∧ aw.Sm n x.aQ ∧ aw.Sm n x.aM
def aq.size (x : aq) : Nat := aw.size x.bh + aw.size x.aQ + aw.size x.aM
theorem aq.bx {n m : Nat} (hn : n ≤ m) {x : aq} (h : aq.Sm n x) : aq.Sm m x := ⟨aw.bx hn h.1, aw.bx hn h.2.1, aw.bx hn h.2.2⟩
theorem aq.cP {n : Nat} {x : aq} (h : x.size ≤ n) : aq.Sm n x := by
 unfold aq.size at h
 have g0 : aw.size x.bh ≤ n := by omega
 have g1 : aw.size x.aQ ≤ n := by omega
 have g2 : aw.size x.aM ≤ n := by omega
 exact ⟨aw.cP g0, aw.cP g1, aw.cP g2⟩
structure aJ where
 fq : Int
 gN : Int
def aJ.enc (x : aJ) : List L := [.int x.fq, .int x.gN]
def aJ.dec (r : List L) : aJ := ⟨((ar 0 r).headD .hole).toInt, ((ar 1 r).headD .hole).toInt⟩
instance : RT aJ := ⟨aJ.enc, aJ.dec, 2, fun _ _ => rfl, fun _ _ => rfl⟩
def aJ.at (xs : List (List L)) (i : Nat) : aJ := aJ.dec (List.getD xs i [])
def aJ.row (x : aJ) : List L := aJ.enc x
def aJ.zero : aJ := ⟨0, 0⟩
theorem aJ.bS {a b : aJ} (h : aJ.row a = aJ.row b) : a = b := congrArg aJ.dec h
theorem aJ.da {xs : List aJ} {i : Nat} (h : i < xs.length) : aJ.at (xs.map aJ.row) i = xs[i] := by unfold aJ.at; rw [getD_map h]; rfl
theorem aJ.cw {xs : List aJ} {i : Nat} : aJ.at (xs.map aJ.row) i = xs.getD i aJ.zero := dm (r := fun x => x) (fun _ => rfl) rfl
theorem aJ.xc (a b : aJ) : (cU a.fq b.fq && (cU a.gN b.gN && true)) = cU a b := by
 cases a; cases b
 rw [Bool.eq_iff_iff]
 simp only [ca, Bool.and_eq_true, aJ.mk.injEq, and_true]
instance : Row aJ := ⟨aJ.row, aJ.bS⟩
instance : Im aJ aJ := ⟨fun x => x, fun h => h⟩
theorem aJ.rs : (∀ (xs : List aJ) (i : Nat), aJ.at (xs.map aJ.row) i = xs.getD i aJ.zero) := fun _ _ => aJ.cw
def aJ.Sm (n : Nat) (x : aJ) : Prop := True
def aJ.size (x : aJ) : Nat := 0
theorem aJ.bx {n m : Nat} (_ : n ≤ m) {x : aJ} (_ : aJ.Sm n x) : aJ.Sm m x := trivial
theorem aJ.cP {n : Nat} {x : aJ} (_ : x.size ≤ n) : aJ.Sm n x := trivial
structure aC where
 ae : bq
 bC : List (List L)
structure aa where
 ae : aq
 bC : List aJ
def aC.enc (x : aC) : List L := [.int x.ae.aT, .int x.ae.bN, .int x.ae.bg, .int x.ae.bL, .int x.ae.bF, .int x.ae.bG, .int x.ae.cj, .int x.ae.cB, .sl x.ae.bh.aF, .int x.ae.bh.bH, .sl x.ae.aQ.aF, .int x.ae.aQ.bH, .int x.ae.cf, .sl x.ae.aM.aF, .int x.ae.aM.bH, .bool x.ae.aS, .sl x.bC]
def aC.dec (r : List L) : aC := ⟨⟨((ar 0 r).headD .hole).toInt, ((ar 1 r).headD .hole).toInt, ((ar 2 r).headD .hole).toInt, ((ar 3 r).headD .hole).toInt, ((ar 4 r).headD .hole).toInt, ((ar 5 r).headD .hole).toInt, ((ar 6 r).headD .hole).toInt, ((ar 7 r).headD .hole).toInt, ⟨((ar 8 r).headD .hole).aG, ((ar 9 r).headD .hole).toInt⟩, ⟨((ar 10 r).headD .hole).aG, ((ar 11 r).headD .hole).toInt⟩, ((ar 12 r).headD .hole).toInt, ⟨((ar 13 r).headD .hole).aG, ((ar 14 r).headD .hole).toInt⟩, ((ar 15 r).headD .hole).toBool⟩, ((ar 16 r).headD .hole).aG⟩
instance : RT aC := ⟨aC.enc, aC.dec, 17, fun _ _ => rfl, fun _ _ => rfl⟩
def aC.at (xs : List (List L)) (i : Nat) : aC := aC.dec (List.getD xs i [])
def aa.r (x : aa) : aC := ⟨(aq.r x.ae), (x.bC.map aJ.row)⟩
def aa.row (x : aa) : List L := aC.enc x.r
def aa.zero : aa := ⟨aq.zero, []⟩
theorem aa.cd {a b : aa} (h : a.r = b.r) : a = b := by
 cases a; cases b
 simp only [aa.r, aC.mk.injEq] at h
 obtain ⟨h0, h1⟩ := h
 simp only [aa.mk.injEq]
 exact ⟨(aq.cd h0), (map_inj aJ.bS h1)⟩
theorem aa.bS {a b : aa} (h : aa.row a = aa.row b) : a = b := aa.cd (congrArg aC.dec h)
theorem aa.da {xs : List aa} {i : Nat} (h : i < xs.length) : aC.at (xs.map aa.row) i = (xs[i]).r := by unfold aC.at; rw [getD_map h]; rfl
theorem aa.cw {xs : List aa} {i : Nat} : aC.at (xs.map aa.row) i = (xs.getD i aa.zero).r := dm (r := fun x => aa.r x) (fun _ => rfl) rfl
theorem aa.uK (x : aa) : (aa.r x).ae = (aq.r x.ae) := Eq.trans rfl rfl
theorem aa.uL (x : aa) : (aa.r x).bC = (x.bC.map aJ.row) := Eq.trans rfl rfl
instance : Row aa := ⟨aa.row, aa.bS⟩
instance : Im aa aC := ⟨aa.r, aa.cd⟩
theorem aa.rs : (∀ (xs : List aa) (i : Nat), aC.at (xs.map aa.row) i = (xs.getD i aa.zero).r) ∧ (∀ x : aa, (aa.r x).ae = (aq.r x.ae)) ∧ (∀ x : aa, (aa.r x).bC = (x.bC.map aJ.row)) := ⟨fun _ _ => aa.cw, aa.uK, aa.uL⟩
def aa.Sm (n : Nat) (x : aa) : Prop := aq.Sm n x.ae ∧ bw n (fun y : aJ => aJ.Sm n y) x.bC
def aa.size (x : aa) : Nat := aq.size x.ae + di (fun y : aJ => aJ.size y) x.bC
theorem aa.bx {n m : Nat} (hn : n ≤ m) {x : aa} (h : aa.Sm n x) : aa.Sm m x := ⟨aq.bx hn h.1, h.2.mono hn (fun x hx => aJ.bx hn hx)⟩
theorem aa.cP {n : Nat} {x : aa} (h : x.size ≤ n) : aa.Sm n x := by
 unfold aa.size at h
 have g0 : aq.size x.ae ≤ n := by omega
 have g1 : di (fun y : aJ => aJ.size y) x.bC ≤ n := by omega
 exact ⟨aq.cP g0, fv g1 (fun x hx => aJ.cP hx)⟩
structure aZ where
 av : aC
 fA : aC
 fB : aC
structure ao where
 av : aa
 fA : aa
 fB : aa
def aZ.enc (x : aZ) : List L := [.int x.av.ae.aT, .int x.av.ae.bN, .int x.av.ae.bg, .int x.av.ae.bL, .int x.av.ae.bF, .int x.av.ae.bG, .int x.av.ae.cj, .int x.av.ae.cB, .sl x.av.ae.bh.aF, .int x.av.ae.bh.bH, .sl x.av.ae.aQ.aF, .int x.av.ae.aQ.bH, .int x.av.ae.cf, .sl x.av.ae.aM.aF, .int x.av.ae.aM.bH, .bool x.av.ae.aS, .sl x.av.bC, .int x.fA.ae.aT, .int x.fA.ae.bN, .int x.fA.ae.bg, .int x.fA.ae.bL, .int x.fA.ae.bF, .int x.fA.ae.bG, .int x.fA.ae.cj, .int x.fA.ae.cB, .sl x.fA.ae.bh.aF, .int x.fA.ae.bh.bH, .sl x.fA.ae.aQ.aF, .int x.fA.ae.aQ.bH, .int x.fA.ae.cf, .sl x.fA.ae.aM.aF, .int x.fA.ae.aM.bH, .bool x.fA.ae.aS, .sl x.fA.bC, .int x.fB.ae.aT, .int x.fB.ae.bN, .int x.fB.ae.bg, .int x.fB.ae.bL, .int x.fB.ae.bF, .int x.fB.ae.bG, .int x.fB.ae.cj, .int x.fB.ae.cB, .sl x.fB.ae.bh.aF, .int x.fB.ae.bh.bH, .sl x.fB.ae.aQ.aF, .int x.fB.ae.aQ.bH, .int x.fB.ae.cf, .sl x.fB.ae.aM.aF, .int x.fB.ae.aM.bH, .bool x.fB.ae.aS, .sl x.fB.bC]
def aZ.dec (r : List L) : aZ := ⟨⟨⟨((ar 0 r).headD .hole).toInt, ((ar 1 r).headD .hole).toInt, ((ar 2 r).headD .hole).toInt, ((ar 3 r).headD .hole).toInt, ((ar 4 r).headD .hole).toInt, ((ar 5 r).headD .hole).toInt, ((ar 6 r).headD .hole).toInt, ((ar 7 r).headD .hole).toInt, ⟨((ar 8 r).headD .hole).aG, ((ar 9 r).headD .hole).toInt⟩, ⟨((ar 10 r).headD .hole).aG, ((ar 11 r).headD .hole).toInt⟩, ((ar 12 r).headD .hole).toInt, ⟨((ar 13 r).headD .hole).aG, ((ar 14 r).headD .hole).toInt⟩, ((ar 15 r).headD .hole).toBool⟩, ((ar 16 r).headD .hole).aG⟩, ⟨⟨((ar 17 r).headD .hole).toInt, ((ar 18 r).headD .hole).toInt, ((ar 19 r).headD .hole).toInt, ((ar 20 r).headD .hole).toInt, ((ar 21 r).headD .hole).toInt, ((ar 22 r).headD .hole).toInt, ((ar 23 r).headD .hole).toInt, ((ar 24 r).headD .hole).toInt, ⟨((ar 25 r).headD .hole).aG, ((ar 26 r).headD .hole).toInt⟩, ⟨((ar 27 r).headD .hole).aG, ((ar 28 r).headD .hole).toInt⟩, ((ar 29 r).headD .hole).toInt, ⟨((ar 30 r).headD .hole).aG, ((ar 31 r).headD .hole).toInt⟩, ((ar 32 r).headD .hole).toBool⟩, ((ar 33 r).headD .hole).aG⟩, ⟨⟨((ar 34 r).headD .hole).toInt, ((ar 35 r).headD .hole).toInt, ((ar 36 r).headD .hole).toInt, ((ar 37 r).headD .hole).toInt, ((ar 38 r).headD .hole).toInt, ((ar 39 r).headD .hole).toInt, ((ar 40 r).headD .hole).toInt, ((ar 41 r).headD .hole).toInt, ⟨((ar 42 r).headD .hole).aG, ((ar 43 r).headD .hole).toInt⟩, ⟨((ar 44 r).headD .hole).aG, ((ar 45 r).headD .hole).toInt⟩, ((ar 46 r).headD .hole).toInt, ⟨((ar 47 r).headD .hole).aG, ((ar 48 r).headD .hole).toInt⟩, ((ar 49 r).headD .hole).toBool⟩, ((ar 50 r).headD .hole).aG⟩⟩
instance : RT aZ := ⟨aZ.enc, aZ.dec, 51, fun _ _ => rfl, fun _ _ => rfl⟩
def aZ.at (xs : List (List L)) (i : Nat) : aZ := aZ.dec (List.getD xs i [])
def ao.r (x : ao) : aZ := ⟨(aa.r x.av), (aa.r x.fA), (aa.r x.fB)⟩
def ao.row (x : ao) : List L := aZ.enc x.r
def ao.zero : ao := ⟨aa.zero, aa.zero, aa.zero⟩
theorem ao.cd {a b : ao} (h : a.r = b.r) : a = b := by
 cases a; cases b
 simp only [ao.r, aZ.mk.injEq] at h
 obtain ⟨h0, h1, h2⟩ := h
 simp only [ao.mk.injEq]
 exact ⟨(aa.cd h0), (aa.cd h1), (aa.cd h2)⟩
theorem ao.bS {a b : ao} (h : ao.row a = ao.row b) : a = b := ao.cd (congrArg aZ.dec h)
theorem ao.da {xs : List ao} {i : Nat} (h : i < xs.length) : aZ.at (xs.map ao.row) i = (xs[i]).r := by unfold aZ.at; rw [getD_map h]; rfl
theorem ao.cw {xs : List ao} {i : Nat} : aZ.at (xs.map ao.row) i = (xs.getD i ao.zero).r := dm (r := fun x => ao.r x) (fun _ => rfl) rfl
theorem ao.lF (x : ao) : (ao.r x).av = (aa.r x.av) := Eq.trans rfl rfl
theorem ao.xz (x : ao) : (ao.r x).fA = (aa.r x.fA) := Eq.trans rfl rfl
theorem ao.xj (x : ao) : (ao.r x).fB = (aa.r x.fB) := Eq.trans rfl rfl
instance : Row ao := ⟨ao.row, ao.bS⟩
instance : Im ao aZ := ⟨ao.r, ao.cd⟩
theorem ao.rs : (∀ (xs : List ao) (i : Nat), aZ.at (xs.map ao.row) i = (xs.getD i ao.zero).r) ∧ (∀ x : ao, (ao.r x).av = (aa.r x.av)) ∧ (∀ x : ao, (ao.r x).fA = (aa.r x.fA)) ∧ (∀ x : ao, (ao.r x).fB = (aa.r x.fB)) := ⟨fun _ _ => ao.cw, ao.lF, ao.xz, ao.xj⟩
def ao.Sm (n : Nat) (x : ao) : Prop := aa.Sm n x.av ∧ aa.Sm n x.fA ∧ aa.Sm n x.fB
def ao.size (x : ao) : Nat := aa.size x.av + aa.size x.fA + aa.size x.fB
theorem ao.bx {n m : Nat} (hn : n ≤ m) {x : ao} (h : ao.Sm n x) : ao.Sm m x := ⟨aa.bx hn h.1, aa.bx hn h.2.1, aa.bx hn h.2.2⟩
theorem ao.cP {n : Nat} {x : ao} (h : x.size ≤ n) : ao.Sm n x := by
 unfold ao.size at h
 have g0 : aa.size x.av ≤ n := by omega
 have g1 : aa.size x.fA ≤ n := by omega
 have g2 : aa.size x.fB ≤ n := by omega
 exact ⟨aa.cP g0, aa.cP g1, aa.cP g2⟩
structure aW where
 aA : List (List L)
 aR : List (List L)
structure ah where
 aA : List (List aa)
 aR : List ao
def aW.enc (x : aW) : List L := [.sl x.aA, .sl x.aR]
def aW.dec (r : List L) : aW := ⟨((ar 0 r).headD .hole).aG, ((ar 1 r).headD .hole).aG⟩
instance : RT aW := ⟨aW.enc, aW.dec, 2, fun _ _ => rfl, fun _ _ => rfl⟩
def aW.at (xs : List (List L)) (i : Nat) : aW := aW.dec (List.getD xs i [])
def ah.r (x : ah) : aW := ⟨(x.aA.map (cM aa.row)), (x.aR.map ao.row)⟩
def ah.row (x : ah) : List L := aW.enc x.r
def ah.zero : ah := ⟨[], []⟩
theorem ah.cd {a b : ah} (h : a.r = b.r) : a = b := by
 cases a; cases b
 simp only [ah.r, aW.mk.injEq] at h
 obtain ⟨h0, h1⟩ := h
 simp only [ah.mk.injEq]
 exact ⟨(map_inj (pX aa.bS) h0), (map_inj ao.bS h1)⟩
theorem ah.bS {a b : ah} (h : ah.row a = ah.row b) : a = b := ah.cd (congrArg aW.dec h)
theorem ah.da {xs : List ah} {i : Nat} (h : i < xs.length) : aW.at (xs.map ah.row) i = (xs[i]).r := by unfold aW.at; rw [getD_map h]; rfl
theorem ah.cw {xs : List ah} {i : Nat} : aW.at (xs.map ah.row) i = (xs.getD i ah.zero).r := dm (r := fun x => ah.r x) (fun _ => rfl) rfl
theorem ah.sA (x : ah) : (ah.r x).aA = (x.aA.map (cM aa.row)) := Eq.trans rfl rfl
theorem ah.tR (x : ah) : (ah.r x).aR = (x.aR.map ao.row) := Eq.trans rfl rfl
instance : Row ah := ⟨ah.row, ah.bS⟩
instance : Im ah aW := ⟨ah.r, ah.cd⟩
theorem ah.rs : (∀ (xs : List ah) (i : Nat), aW.at (xs.map ah.row) i = (xs.getD i ah.zero).r) ∧ (∀ x : ah, (ah.r x).aA = (x.aA.map (cM aa.row))) ∧ (∀ x : ah, (ah.r x).aR = (x.aR.map ao.row)) := ⟨fun _ _ => ah.cw, ah.sA, ah.tR⟩
def ah.Sm (n : Nat) (x : ah) : Prop := bw n (fun y : List aa => bw n (fun y : aa => aa.Sm n y) y) x.aA ∧ bw n (fun y : ao => ao.Sm n y) x.aR
def ah.size (x : ah) : Nat := di (fun y : List aa => di (fun y : aa => aa.size y) y) x.aA + di (fun y : ao => ao.size y) x.aR
theorem ah.bx {n m : Nat} (hn : n ≤ m) {x : ah} (h : ah.Sm n x) : ah.Sm m x := ⟨h.1.mono hn (fun x hx => hx.mono hn (fun x hx => aa.bx hn hx)), h.2.mono hn (fun x hx => ao.bx hn hx)⟩
theorem ah.cP {n : Nat} {x : ah} (h : x.size ≤ n) : ah.Sm n x := by
 unfold ah.size at h
 have g0 : di (fun y : List aa => di (fun y : aa => aa.size y) y) x.aA ≤ n := by omega
 have g1 : di (fun y : ao => ao.size y) x.aR ≤ n := by omega
 exact ⟨fv g0 (fun x hx => fv hx (fun x hx => aa.cP hx)), fv g1 (fun x hx => ao.cP hx)⟩
structure bA where
 aV : ByteArray
 bg : Int
 bE : Int
 aU : List (List L)
structure aj where
 aV : ByteArray
 bg : Int
 bE : Int
 aU : List ByteArray
def bA.enc (x : bA) : List L := [.str x.aV, .int x.bg, .int x.bE, .sl x.aU]
def bA.dec (r : List L) : bA := ⟨((ar 0 r).headD .hole).toStr, ((ar 1 r).headD .hole).toInt, ((ar 2 r).headD .hole).toInt, ((ar 3 r).headD .hole).aG⟩
instance : RT bA := ⟨bA.enc, bA.dec, 4, fun _ _ => rfl, fun _ _ => rfl⟩
def bA.at (xs : List (List L)) (i : Nat) : bA := bA.dec (List.getD xs i [])
def aj.r (x : aj) : bA := ⟨x.aV, x.bg, x.bE, (x.aU.map cu)⟩
def aj.row (x : aj) : List L := bA.enc x.r
def aj.zero : aj := ⟨⟨#[]⟩, 0, 0, []⟩
theorem aj.cd {a b : aj} (h : a.r = b.r) : a = b := by
 cases a; cases b
 simp only [aj.r, bA.mk.injEq] at h
 obtain ⟨h0, h1, h2, h3⟩ := h
 simp only [aj.mk.injEq]
 exact ⟨h0, h1, h2, (map_inj pP h3)⟩
theorem aj.bS {a b : aj} (h : aj.row a = aj.row b) : a = b := aj.cd (congrArg bA.dec h)
theorem aj.da {xs : List aj} {i : Nat} (h : i < xs.length) : bA.at (xs.map aj.row) i = (xs[i]).r := by unfold bA.at; rw [getD_map h]; rfl
theorem aj.cw {xs : List aj} {i : Nat} : bA.at (xs.map aj.row) i = (xs.getD i aj.zero).r := dm (r := fun x => aj.r x) (fun _ => rfl) rfl
theorem aj.nI (x : aj) : (aj.r x).aV = x.aV := Eq.trans rfl rfl
theorem aj.pD (x : aj) : (aj.r x).bg = x.bg := Eq.trans rfl rfl
theorem aj.tn (x : aj) : (aj.r x).bE = x.bE := Eq.trans rfl rfl
theorem aj.pJ (x : aj) : (aj.r x).aU = (x.aU.map cu) := Eq.trans rfl rfl
instance : Row aj := ⟨aj.row, aj.bS⟩
instance : Im aj bA := ⟨aj.r, aj.cd⟩
theorem aj.rs : (∀ (xs : List aj) (i : Nat), bA.at (xs.map aj.row) i = (xs.getD i aj.zero).r) ∧ (∀ x : aj, (aj.r x).aV = x.aV) ∧ (∀ x : aj, (aj.r x).bg = x.bg) ∧ (∀ x : aj, (aj.r x).bE = x.bE) ∧ (∀ x : aj, (aj.r x).aU = (x.aU.map cu)) := ⟨fun _ _ => aj.cw, aj.nI, aj.pD, aj.tn, aj.pJ⟩
def aj.Sm (n : Nat) (x : aj) : Prop := (x.aV).size ≤ n ∧ bw n (fun y : ByteArray => (y).size ≤ n) x.aU
def aj.size (x : aj) : Nat := (x.aV).size + di (fun y : ByteArray => (y).size) x.aU
theorem aj.bx {n m : Nat} (hn : n ≤ m) {x : aj} (h : aj.Sm n x) : aj.Sm m x := ⟨Nat.le_trans h.1 hn, h.2.mono hn (fun x hx => Nat.le_trans hx hn)⟩
theorem aj.cP {n : Nat} {x : aj} (h : x.size ≤ n) : aj.Sm n x := by
 unfold aj.size at h
 have g0 : (x.aV).size ≤ n := by omega
 have g1 : di (fun y : ByteArray => (y).size) x.aU ≤ n := by omega
 exact ⟨g0, fv g1 (fun x hx => hx)⟩
structure bT where
 cy : aW
 bu : Bool
 aH : bA
 eL : Bool
 dq : List (List L)
structure aX where
 cy : ah
 bu : Bool
 aH : aj
 eL : Bool
 dq : List Int
def bT.enc (x : bT) : List L := [.sl x.cy.aA, .sl x.cy.aR, .bool x.bu, .str x.aH.aV, .int x.aH.bg, .int x.aH.bE, .sl x.aH.aU, .bool x.eL, .sl x.dq]
def bT.dec (r : List L) : bT := ⟨⟨((ar 0 r).headD .hole).aG, ((ar 1 r).headD .hole).aG⟩, ((ar 2 r).headD .hole).toBool, ⟨((ar 3 r).headD .hole).toStr, ((ar 4 r).headD .hole).toInt, ((ar 5 r).headD .hole).toInt, ((ar 6 r).headD .hole).aG⟩, ((ar 7 r).headD .hole).toBool, ((ar 8 r).headD .hole).aG⟩
instance : RT bT := ⟨bT.enc, bT.dec, 9, fun _ _ => rfl, fun _ _ => rfl⟩
def bT.at (xs : List (List L)) (i : Nat) : bT := bT.dec (List.getD xs i [])
def aX.r (x : aX) : bT := ⟨(ah.r x.cy), x.bu, (aj.r x.aH), x.eL, (x.dq.map aP)⟩
def aX.row (x : aX) : List L := bT.enc x.r
def aX.zero : aX := ⟨ah.zero, false, aj.zero, false, []⟩
theorem aX.cd {a b : aX} (h : a.r = b.r) : a = b := by
 cases a; cases b
 simp only [aX.r, bT.mk.injEq] at h
 obtain ⟨h0, h1, h2, h3, h4⟩ := h
 simp only [aX.mk.injEq]
 exact ⟨(ah.cd h0), h1, (aj.cd h2), h3, (map_inj jB h4)⟩
theorem aX.bS {a b : aX} (h : aX.row a = aX.row b) : a = b := aX.cd (congrArg bT.dec h)
theorem aX.da {xs : List aX} {i : Nat} (h : i < xs.length) : bT.at (xs.map aX.row) i = (xs[i]).r := by unfold bT.at; rw [getD_map h]; rfl
theorem aX.cw {xs : List aX} {i : Nat} : bT.at (xs.map aX.row) i = (xs.getD i aX.zero).r := dm (r := fun x => aX.r x) (fun _ => rfl) rfl
theorem aX.mQ (x : aX) : (aX.r x).cy = (ah.r x.cy) := Eq.trans rfl rfl
theorem aX.mL (x : aX) : (aX.r x).bu = x.bu := Eq.trans rfl rfl
theorem aX.jD (x : aX) : (aX.r x).aH = (aj.r x.aH) := Eq.trans rfl rfl
theorem aX.uG (x : aX) : (aX.r x).eL = x.eL := Eq.trans rfl rfl
theorem aX.tM (x : aX) : (aX.r x).dq = (x.dq.map aP) := Eq.trans rfl rfl
instance : Row aX := ⟨aX.row, aX.bS⟩
instance : Im aX bT := ⟨aX.r, aX.cd⟩
theorem aX.rs : (∀ (xs : List aX) (i : Nat), bT.at (xs.map aX.row) i = (xs.getD i aX.zero).r) ∧ (∀ x : aX, (aX.r x).cy = (ah.r x.cy)) ∧ (∀ x : aX, (aX.r x).bu = x.bu) ∧ (∀ x : aX, (aX.r x).aH = (aj.r x.aH)) ∧ (∀ x : aX, (aX.r x).eL = x.eL) ∧ (∀ x : aX, (aX.r x).dq = (x.dq.map aP)) := ⟨fun _ _ => aX.cw, aX.mQ, aX.mL, aX.jD, aX.uG, aX.tM⟩
def aX.Sm (n : Nat) (x : aX) : Prop := ah.Sm n x.cy ∧ aj.Sm n x.aH ∧ bw n (fun y : Int => True) x.dq
def aX.size (x : aX) : Nat := ah.size x.cy + aj.size x.aH + di (fun y : Int => 0) x.dq
theorem aX.bx {n m : Nat} (hn : n ≤ m) {x : aX} (h : aX.Sm n x) : aX.Sm m x := ⟨ah.bx hn h.1, aj.bx hn h.2.1, h.2.2.mono hn (fun x hx => trivial)⟩
theorem aX.cP {n : Nat} {x : aX} (h : x.size ≤ n) : aX.Sm n x := by
 unfold aX.size at h
 have g0 : ah.size x.cy ≤ n := by omega
 have g1 : aj.size x.aH ≤ n := by omega
 have g2 : di (fun y : Int => 0) x.dq ≤ n := by omega
 exact ⟨ah.cP g0, aj.cP g1, fv g2 (fun x hx => trivial)⟩
structure et where
 cy : aW
 lV : Int
 aH : bA
 dX : List (List L)
 jg : Int
structure bn where
 cy : ah
 lV : Int
 aH : aj
 dX : List Int
 jg : Int
def et.enc (x : et) : List L := [.sl x.cy.aA, .sl x.cy.aR, .int x.lV, .str x.aH.aV, .int x.aH.bg, .int x.aH.bE, .sl x.aH.aU, .sl x.dX, .int x.jg]
def et.dec (r : List L) : et := ⟨⟨((ar 0 r).headD .hole).aG, ((ar 1 r).headD .hole).aG⟩, ((ar 2 r).headD .hole).toInt, ⟨((ar 3 r).headD .hole).toStr, ((ar 4 r).headD .hole).toInt, ((ar 5 r).headD .hole).toInt, ((ar 6 r).headD .hole).aG⟩, ((ar 7 r).headD .hole).aG, ((ar 8 r).headD .hole).toInt⟩
instance : RT et := ⟨et.enc, et.dec, 9, fun _ _ => rfl, fun _ _ => rfl⟩
def et.at (xs : List (List L)) (i : Nat) : et := et.dec (List.getD xs i [])
def bn.r (x : bn) : et := ⟨(ah.r x.cy), x.lV, (aj.r x.aH), (x.dX.map aP), x.jg⟩
def bn.row (x : bn) : List L := et.enc x.r
def bn.zero : bn := ⟨ah.zero, 0, aj.zero, [], 0⟩
theorem bn.cd {a b : bn} (h : a.r = b.r) : a = b := by
 cases a; cases b
 simp only [bn.r, et.mk.injEq] at h
 obtain ⟨h0, h1, h2, h3, h4⟩ := h
 simp only [bn.mk.injEq]
 exact ⟨(ah.cd h0), h1, (aj.cd h2), (map_inj jB h3), h4⟩
theorem bn.bS {a b : bn} (h : bn.row a = bn.row b) : a = b := bn.cd (congrArg et.dec h)
theorem bn.da {xs : List bn} {i : Nat} (h : i < xs.length) : et.at (xs.map bn.row) i = (xs[i]).r := by unfold et.at; rw [getD_map h]; rfl
theorem bn.cw {xs : List bn} {i : Nat} : et.at (xs.map bn.row) i = (xs.getD i bn.zero).r := dm (r := fun x => bn.r x) (fun _ => rfl) rfl
theorem bn.mQ (x : bn) : (bn.r x).cy = (ah.r x.cy) := Eq.trans rfl rfl
theorem bn.vf (x : bn) : (bn.r x).lV = x.lV := Eq.trans rfl rfl
theorem bn.jD (x : bn) : (bn.r x).aH = (aj.r x.aH) := Eq.trans rfl rfl
theorem bn.ng (x : bn) : (bn.r x).dX = (x.dX.map aP) := Eq.trans rfl rfl
theorem bn.tP (x : bn) : (bn.r x).jg = x.jg := Eq.trans rfl rfl
instance : Row bn := ⟨bn.row, bn.bS⟩
instance : Im bn et := ⟨bn.r, bn.cd⟩
theorem bn.rs : (∀ (xs : List bn) (i : Nat), et.at (xs.map bn.row) i = (xs.getD i bn.zero).r) ∧ (∀ x : bn, (bn.r x).cy = (ah.r x.cy)) ∧ (∀ x : bn, (bn.r x).lV = x.lV) ∧ (∀ x : bn, (bn.r x).aH = (aj.r x.aH)) ∧ (∀ x : bn, (bn.r x).dX = (x.dX.map aP)) ∧ (∀ x : bn, (bn.r x).jg = x.jg) := ⟨fun _ _ => bn.cw, bn.mQ, bn.vf, bn.jD, bn.ng, bn.tP⟩
def bn.Sm (n : Nat) (x : bn) : Prop := ah.Sm n x.cy ∧ aj.Sm n x.aH ∧ bw n (fun y : Int => True) x.dX
def bn.size (x : bn) : Nat := ah.size x.cy + aj.size x.aH + di (fun y : Int => 0) x.dX
theorem bn.bx {n m : Nat} (hn : n ≤ m) {x : bn} (h : bn.Sm n x) : bn.Sm m x := ⟨ah.bx hn h.1, aj.bx hn h.2.1, h.2.2.mono hn (fun x hx => trivial)⟩
theorem bn.cP {n : Nat} {x : bn} (h : x.size ≤ n) : bn.Sm n x := by
 unfold bn.size at h
 have g0 : ah.size x.cy ≤ n := by omega
 have g1 : aj.size x.aH ≤ n := by omega
 have g2 : di (fun y : Int => 0) x.dX ≤ n := by omega
 exact ⟨ah.cP g0, aj.cP g1, fv g2 (fun x hx => trivial)⟩
structure cn where
 cX : Int
 aU : List (List L)
structure aB where
 cX : Int
 aU : List Int
def cn.enc (x : cn) : List L := [.int x.cX, .sl x.aU]
def cn.dec (r : List L) : cn := ⟨((ar 0 r).headD .hole).toInt, ((ar 1 r).headD .hole).aG⟩
instance : RT cn := ⟨cn.enc, cn.dec, 2, fun _ _ => rfl, fun _ _ => rfl⟩
def cn.at (xs : List (List L)) (i : Nat) : cn := cn.dec (List.getD xs i [])
def aB.r (x : aB) : cn := ⟨x.cX, (x.aU.map aP)⟩
def aB.row (x : aB) : List L := cn.enc x.r
def aB.zero : aB := ⟨0, []⟩
theorem aB.cd {a b : aB} (h : a.r = b.r) : a = b := by
 cases a; cases b
 simp only [aB.r, cn.mk.injEq] at h
 obtain ⟨h0, h1⟩ := h
 simp only [aB.mk.injEq]
 exact ⟨h0, (map_inj jB h1)⟩
theorem aB.bS {a b : aB} (h : aB.row a = aB.row b) : a = b := aB.cd (congrArg cn.dec h)
theorem aB.da {xs : List aB} {i : Nat} (h : i < xs.length) : cn.at (xs.map aB.row) i = (xs[i]).r := by unfold cn.at; rw [getD_map h]; rfl
theorem aB.cw {xs : List aB} {i : Nat} : cn.at (xs.map aB.row) i = (xs.getD i aB.zero).r := dm (r := fun x => aB.r x) (fun _ => rfl) rfl
theorem aB.tD (x : aB) : (aB.r x).cX = x.cX := Eq.trans rfl rfl
theorem aB.pJ (x : aB) : (aB.r x).aU = (x.aU.map aP) := Eq.trans rfl rfl
instance : Row aB := ⟨aB.row, aB.bS⟩
instance : Im aB cn := ⟨aB.r, aB.cd⟩
theorem aB.rs : (∀ (xs : List aB) (i : Nat), cn.at (xs.map aB.row) i = (xs.getD i aB.zero).r) ∧ (∀ x : aB, (aB.r x).cX = x.cX) ∧ (∀ x : aB, (aB.r x).aU = (x.aU.map aP)) := ⟨fun _ _ => aB.cw, aB.tD, aB.pJ⟩
def aB.Sm (n : Nat) (x : aB) : Prop := bw n (fun y : Int => True) x.aU
def aB.size (x : aB) : Nat := di (fun y : Int => 0) x.aU
theorem aB.bx {n m : Nat} (hn : n ≤ m) {x : aB} (h : aB.Sm n x) : aB.Sm m x := h.mono hn (fun x hx => trivial)
theorem aB.cP {n : Nat} {x : aB} (h : x.size ≤ n) : aB.Sm n x := by
 unfold aB.size at h
 have g0 : di (fun y : Int => 0) x.aU ≤ n := by omega
 exact fv g0 (fun x hx => trivial)
structure eI where
 cX : Int
 av : bA
 bm : bA
 cq : cn
 bD : cn
structure bt where
 cX : Int
 av : aj
 bm : aj
 cq : aB
 bD : aB
def eI.enc (x : eI) : List L := [.int x.cX, .str x.av.aV, .int x.av.bg, .int x.av.bE, .sl x.av.aU, .str x.bm.aV, .int x.bm.bg, .int x.bm.bE, .sl x.bm.aU, .int x.cq.cX, .sl x.cq.aU, .int x.bD.cX, .sl x.bD.aU]
def eI.dec (r : List L) : eI := ⟨((ar 0 r).headD .hole).toInt, ⟨((ar 1 r).headD .hole).toStr, ((ar 2 r).headD .hole).toInt, ((ar 3 r).headD .hole).toInt, ((ar 4 r).headD .hole).aG⟩, ⟨((ar 5 r).headD .hole).toStr, ((ar 6 r).headD .hole).toInt, ((ar 7 r).headD .hole).toInt, ((ar 8 r).headD .hole).aG⟩, ⟨((ar 9 r).headD .hole).toInt, ((ar 10 r).headD .hole).aG⟩, ⟨((ar 11 r).headD .hole).toInt, ((ar 12 r).headD .hole).aG⟩⟩
instance : RT eI := ⟨eI.enc, eI.dec, 13, fun _ _ => rfl, fun _ _ => rfl⟩
def eI.at (xs : List (List L)) (i : Nat) : eI := eI.dec (List.getD xs i [])
def bt.r (x : bt) : eI := ⟨x.cX, (aj.r x.av), (aj.r x.bm), (aB.r x.cq), (aB.r x.bD)⟩
def bt.row (x : bt) : List L := eI.enc x.r
def bt.zero : bt := ⟨0, aj.zero, aj.zero, aB.zero, aB.zero⟩
theorem bt.cd {a b : bt} (h : a.r = b.r) : a = b := by
 cases a; cases b
 simp only [bt.r, eI.mk.injEq] at h
 obtain ⟨h0, h1, h2, h3, h4⟩ := h
 simp only [bt.mk.injEq]
 exact ⟨h0, (aj.cd h1), (aj.cd h2), (aB.cd h3), (aB.cd h4)⟩
theorem bt.bS {a b : bt} (h : bt.row a = bt.row b) : a = b := bt.cd (congrArg eI.dec h)
theorem bt.da {xs : List bt} {i : Nat} (h : i < xs.length) : eI.at (xs.map bt.row) i = (xs[i]).r := by unfold eI.at; rw [getD_map h]; rfl
theorem bt.cw {xs : List bt} {i : Nat} : eI.at (xs.map bt.row) i = (xs.getD i bt.zero).r := dm (r := fun x => bt.r x) (fun _ => rfl) rfl
theorem bt.tD (x : bt) : (bt.r x).cX = x.cX := Eq.trans rfl rfl
theorem bt.lF (x : bt) : (bt.r x).av = (aj.r x.av) := Eq.trans rfl rfl
theorem bt.ue (x : bt) : (bt.r x).bm = (aj.r x.bm) := Eq.trans rfl rfl
theorem bt.uO (x : bt) : (bt.r x).cq = (aB.r x.cq) := Eq.trans rfl rfl
theorem bt.tx (x : bt) : (bt.r x).bD = (aB.r x.bD) := Eq.trans rfl rfl
instance : Row bt := ⟨bt.row, bt.bS⟩
instance : Im bt eI := ⟨bt.r, bt.cd⟩
theorem bt.rs : (∀ (xs : List bt) (i : Nat), eI.at (xs.map bt.row) i = (xs.getD i bt.zero).r) ∧ (∀ x : bt, (bt.r x).cX = x.cX) ∧ (∀ x : bt, (bt.r x).av = (aj.r x.av)) ∧ (∀ x : bt, (bt.r x).bm = (aj.r x.bm)) ∧ (∀ x : bt, (bt.r x).cq = (aB.r x.cq)) ∧ (∀ x : bt, (bt.r x).bD = (aB.r x.bD)) := ⟨fun _ _ => bt.cw, bt.tD, bt.lF, bt.ue, bt.uO, bt.tx⟩
def bt.Sm (n : Nat) (x : bt) : Prop := aj.Sm n x.av ∧ aj.Sm n x.bm ∧ aB.Sm n x.cq ∧ aB.Sm n x.bD
def bt.size (x : bt) : Nat := aj.size x.av + aj.size x.bm + aB.size x.cq + aB.size x.bD
theorem bt.bx {n m : Nat} (hn : n ≤ m) {x : bt} (h : bt.Sm n x) : bt.Sm m x := ⟨aj.bx hn h.1, aj.bx hn h.2.1, aB.bx hn h.2.2.1, aB.bx hn h.2.2.2⟩
theorem bt.cP {n : Nat} {x : bt} (h : x.size ≤ n) : bt.Sm n x := by
 unfold bt.size at h
 have g0 : aj.size x.av ≤ n := by omega
 have g1 : aj.size x.bm ≤ n := by omega
 have g2 : aB.size x.cq ≤ n := by omega
 have g3 : aB.size x.bD ≤ n := by omega
 exact ⟨aj.cP g0, aj.cP g1, aB.cP g2, aB.cP g3⟩
structure bd where
 aL : List (List L)
 bu : Bool
 aH : bA
 cE : cn
 cL : eI
structure ad where
 aL : List aa
 bu : Bool
 aH : aj
 cE : aB
 cL : bt
def bd.enc (x : bd) : List L := [.sl x.aL, .bool x.bu, .str x.aH.aV, .int x.aH.bg, .int x.aH.bE, .sl x.aH.aU, .int x.cE.cX, .sl x.cE.aU, .int x.cL.cX, .str x.cL.av.aV, .int x.cL.av.bg, .int x.cL.av.bE, .sl x.cL.av.aU, .str x.cL.bm.aV, .int x.cL.bm.bg, .int x.cL.bm.bE, .sl x.cL.bm.aU, .int x.cL.cq.cX, .sl x.cL.cq.aU, .int x.cL.bD.cX, .sl x.cL.bD.aU]
def bd.dec (r : List L) : bd := ⟨((ar 0 r).headD .hole).aG, ((ar 1 r).headD .hole).toBool, ⟨((ar 2 r).headD .hole).toStr, ((ar 3 r).headD .hole).toInt, ((ar 4 r).headD .hole).toInt, ((ar 5 r).headD .hole).aG⟩, ⟨((ar 6 r).headD .hole).toInt, ((ar 7 r).headD .hole).aG⟩, ⟨((ar 8 r).headD .hole).toInt, ⟨((ar 9 r).headD .hole).toStr, ((ar 10 r).headD .hole).toInt, ((ar 11 r).headD .hole).toInt, ((ar 12 r).headD .hole).aG⟩, ⟨((ar 13 r).headD .hole).toStr, ((ar 14 r).headD .hole).toInt, ((ar 15 r).headD .hole).toInt, ((ar 16 r).headD .hole).aG⟩, ⟨((ar 17 r).headD .hole).toInt, ((ar 18 r).headD .hole).aG⟩, ⟨((ar 19 r).headD .hole).toInt, ((ar 20 r).headD .hole).aG⟩⟩⟩
instance : RT bd := ⟨bd.enc, bd.dec, 21, fun _ _ => rfl, fun _ _ => rfl⟩
def bd.at (xs : List (List L)) (i : Nat) : bd := bd.dec (List.getD xs i [])
def ad.r (x : ad) : bd := ⟨(x.aL.map aa.row), x.bu, (aj.r x.aH), (aB.r x.cE), (bt.r x.cL)⟩
def ad.row (x : ad) : List L := bd.enc x.r
def ad.zero : ad := ⟨[], false, aj.zero, aB.zero, bt.zero⟩
theorem ad.cd {a b : ad} (h : a.r = b.r) : a = b := by
 cases a; cases b
 simp only [ad.r, bd.mk.injEq] at h
 obtain ⟨h0, h1, h2, h3, h4⟩ := h
 simp only [ad.mk.injEq]
 exact ⟨(map_inj aa.bS h0), h1, (aj.cd h2), (aB.cd h3), (bt.cd h4)⟩
theorem ad.bS {a b : ad} (h : ad.row a = ad.row b) : a = b := ad.cd (congrArg bd.dec h)
theorem ad.da {xs : List ad} {i : Nat} (h : i < xs.length) : bd.at (xs.map ad.row) i = (xs[i]).r := by unfold bd.at; rw [getD_map h]; rfl
theorem ad.cw {xs : List ad} {i : Nat} : bd.at (xs.map ad.row) i = (xs.getD i ad.zero).r := dm (r := fun x => ad.r x) (fun _ => rfl) rfl
theorem ad.nE (x : ad) : (ad.r x).aL = (x.aL.map aa.row) := Eq.trans rfl rfl
theorem ad.mL (x : ad) : (ad.r x).bu = x.bu := Eq.trans rfl rfl
theorem ad.jD (x : ad) : (ad.r x).aH = (aj.r x.aH) := Eq.trans rfl rfl
theorem ad.tU (x : ad) : (ad.r x).cE = (aB.r x.cE) := Eq.trans rfl rfl
theorem ad.vM (x : ad) : (ad.r x).cL = (bt.r x.cL) := Eq.trans rfl rfl
instance : Row ad := ⟨ad.row, ad.bS⟩
instance : Im ad bd := ⟨ad.r, ad.cd⟩
theorem ad.rs : (∀ (xs : List ad) (i : Nat), bd.at (xs.map ad.row) i = (xs.getD i ad.zero).r) ∧ (∀ x : ad, (ad.r x).aL = (x.aL.map aa.row)) ∧ (∀ x : ad, (ad.r x).bu = x.bu) ∧ (∀ x : ad, (ad.r x).aH = (aj.r x.aH)) ∧ (∀ x : ad, (ad.r x).cE = (aB.r x.cE)) ∧ (∀ x : ad, (ad.r x).cL = (bt.r x.cL)) := ⟨fun _ _ => ad.cw, ad.nE, ad.mL, ad.jD, ad.tU, ad.vM⟩
def ad.Sm (n : Nat) (x : ad) : Prop := bw n (fun y : aa => aa.Sm n y) x.aL ∧ aj.Sm n x.aH ∧ aB.Sm n x.cE ∧ bt.Sm n x.cL
def ad.size (x : ad) : Nat := di (fun y : aa => aa.size y) x.aL + aj.size x.aH + aB.size x.cE + bt.size x.cL
theorem ad.bx {n m : Nat} (hn : n ≤ m) {x : ad} (h : ad.Sm n x) : ad.Sm m x := ⟨h.1.mono hn (fun x hx => aa.bx hn hx), aj.bx hn h.2.1, aB.bx hn h.2.2.1, bt.bx hn h.2.2.2⟩
theorem ad.cP {n : Nat} {x : ad} (h : x.size ≤ n) : ad.Sm n x := by
 unfold ad.size at h
 have g0 : di (fun y : aa => aa.size y) x.aL ≤ n := by omega
 have g1 : aj.size x.aH ≤ n := by omega
 have g2 : aB.size x.cE ≤ n := by omega
 have g3 : bt.size x.cL ≤ n := by omega
 exact ⟨fv g0 (fun x hx => aa.cP hx), aj.cP g1, aB.cP g2, bt.cP g3⟩
structure dM where
 aT : Int
 aV : ByteArray
 cN : bd
structure bk where
 aT : Int
 aV : ByteArray
 cN : ad
def dM.enc (x : dM) : List L := [.int x.aT, .str x.aV, .sl x.cN.aL, .bool x.cN.bu, .str x.cN.aH.aV, .int x.cN.aH.bg, .int x.cN.aH.bE, .sl x.cN.aH.aU, .int x.cN.cE.cX, .sl x.cN.cE.aU, .int x.cN.cL.cX, .str x.cN.cL.av.aV, .int x.cN.cL.av.bg, .int x.cN.cL.av.bE, .sl x.cN.cL.av.aU, .str x.cN.cL.bm.aV, .int x.cN.cL.bm.bg, .int x.cN.cL.bm.bE, .sl x.cN.cL.bm.aU, .int x.cN.cL.cq.cX, .sl x.cN.cL.cq.aU, .int x.cN.cL.bD.cX, .sl x.cN.cL.bD.aU]
def dM.dec (r : List L) : dM := ⟨((ar 0 r).headD .hole).toInt, ((ar 1 r).headD .hole).toStr, ⟨((ar 2 r).headD .hole).aG, ((ar 3 r).headD .hole).toBool, ⟨((ar 4 r).headD .hole).toStr, ((ar 5 r).headD .hole).toInt, ((ar 6 r).headD .hole).toInt, ((ar 7 r).headD .hole).aG⟩, ⟨((ar 8 r).headD .hole).toInt, ((ar 9 r).headD .hole).aG⟩, ⟨((ar 10 r).headD .hole).toInt, ⟨((ar 11 r).headD .hole).toStr, ((ar 12 r).headD .hole).toInt, ((ar 13 r).headD .hole).toInt, ((ar 14 r).headD .hole).aG⟩, ⟨((ar 15 r).headD .hole).toStr, ((ar 16 r).headD .hole).toInt, ((ar 17 r).headD .hole).toInt, ((ar 18 r).headD .hole).aG⟩, ⟨((ar 19 r).headD .hole).toInt, ((ar 20 r).headD .hole).aG⟩, ⟨((ar 21 r).headD .hole).toInt, ((ar 22 r).headD .hole).aG⟩⟩⟩⟩
instance : RT dM := ⟨dM.enc, dM.dec, 23, fun _ _ => rfl, fun _ _ => rfl⟩
def dM.at (xs : List (List L)) (i : Nat) : dM := dM.dec (List.getD xs i [])
def bk.r (x : bk) : dM := ⟨x.aT, x.aV, (ad.r x.cN)⟩
def bk.row (x : bk) : List L := dM.enc x.r
def bk.zero : bk := ⟨0, ⟨#[]⟩, ad.zero⟩
theorem bk.cd {a b : bk} (h : a.r = b.r) : a = b := by
 cases a; cases b
 simp only [bk.r, dM.mk.injEq] at h
 obtain ⟨h0, h1, h2⟩ := h
 simp only [bk.mk.injEq]
 exact ⟨h0, h1, (ad.cd h2)⟩
theorem bk.bS {a b : bk} (h : bk.row a = bk.row b) : a = b := bk.cd (congrArg dM.dec h)
theorem bk.da {xs : List bk} {i : Nat} (h : i < xs.length) : dM.at (xs.map bk.row) i = (xs[i]).r := by unfold dM.at; rw [getD_map h]; rfl
theorem bk.cw {xs : List bk} {i : Nat} : dM.at (xs.map bk.row) i = (xs.getD i bk.zero).r := dm (r := fun x => bk.r x) (fun _ => rfl) rfl
theorem bk.ph (x : bk) : (bk.r x).aT = x.aT := Eq.trans rfl rfl
theorem bk.nI (x : bk) : (bk.r x).aV = x.aV := Eq.trans rfl rfl
theorem bk.sO (x : bk) : (bk.r x).cN = (ad.r x.cN) := Eq.trans rfl rfl
instance : Row bk := ⟨bk.row, bk.bS⟩
instance : Im bk dM := ⟨bk.r, bk.cd⟩
theorem bk.rs : (∀ (xs : List bk) (i : Nat), dM.at (xs.map bk.row) i = (xs.getD i bk.zero).r) ∧ (∀ x : bk, (bk.r x).aT = x.aT) ∧ (∀ x : bk, (bk.r x).aV = x.aV) ∧ (∀ x : bk, (bk.r x).cN = (ad.r x.cN)) := ⟨fun _ _ => bk.cw, bk.ph, bk.nI, bk.sO⟩
def bk.Sm (n : Nat) (x : bk) : Prop := (x.aV).size ≤ n ∧ ad.Sm n x.cN
def bk.size (x : bk) : Nat := (x.aV).size + ad.size x.cN
theorem bk.bx {n m : Nat} (hn : n ≤ m) {x : bk} (h : bk.Sm n x) : bk.Sm m x := ⟨Nat.le_trans h.1 hn, ad.bx hn h.2⟩
theorem bk.cP {n : Nat} {x : bk} (h : x.size ≤ n) : bk.Sm n x := by
 unfold bk.size at h
 have g0 : (x.aV).size ≤ n := by omega
 have g1 : ad.size x.cN ≤ n := by omega
 exact ⟨g0, ad.cP g1⟩
structure eo where
 aF : List (List L)
structure bM where
 aF : List bk
def eo.enc (x : eo) : List L := [.sl x.aF]
def eo.dec (r : List L) : eo := ⟨((ar 0 r).headD .hole).aG⟩
instance : RT eo := ⟨eo.enc, eo.dec, 1, fun _ _ => rfl, fun _ _ => rfl⟩
def eo.at (xs : List (List L)) (i : Nat) : eo := eo.dec (List.getD xs i [])
def bM.r (x : bM) : eo := ⟨(x.aF.map bk.row)⟩
def bM.row (x : bM) : List L := eo.enc x.r
def bM.zero : bM := ⟨[]⟩
theorem bM.cd {a b : bM} (h : a.r = b.r) : a = b := by
 cases a; cases b
 simp only [bM.r, eo.mk.injEq] at h
 have h0 := h
 simp only [bM.mk.injEq]
 exact (map_inj bk.bS h0)
theorem bM.bS {a b : bM} (h : bM.row a = bM.row b) : a = b := bM.cd (congrArg eo.dec h)
theorem bM.da {xs : List bM} {i : Nat} (h : i < xs.length) : eo.at (xs.map bM.row) i = (xs[i]).r := by unfold eo.at; rw [getD_map h]; rfl
theorem bM.cw {xs : List bM} {i : Nat} : eo.at (xs.map bM.row) i = (xs.getD i bM.zero).r := dm (r := fun x => bM.r x) (fun _ => rfl) rfl
theorem bM.oW (x : bM) : (bM.r x).aF = (x.aF.map bk.row) := Eq.trans rfl rfl
instance : Row bM := ⟨bM.row, bM.bS⟩
instance : Im bM eo := ⟨bM.r, bM.cd⟩
theorem bM.rs : (∀ (xs : List bM) (i : Nat), eo.at (xs.map bM.row) i = (xs.getD i bM.zero).r) ∧ (∀ x : bM, (bM.r x).aF = (x.aF.map bk.row)) := ⟨fun _ _ => bM.cw, bM.oW⟩
def bM.Sm (n : Nat) (x : bM) : Prop := bw n (fun y : bk => bk.Sm n y) x.aF
def bM.size (x : bM) : Nat := di (fun y : bk => bk.size y) x.aF
theorem bM.bx {n m : Nat} (hn : n ≤ m) {x : bM} (h : bM.Sm n x) : bM.Sm m x := h.mono hn (fun x hx => bk.bx hn hx)
theorem bM.cP {n : Nat} {x : bM} (h : x.size ≤ n) : bM.Sm n x := by
 unfold bM.size at h
 have g0 : di (fun y : bk => bk.size y) x.aF ≤ n := by omega
 exact fv g0 (fun x hx => bk.cP hx)
structure fL where
 eF : et
 ig : eo
structure cA where
 eF : bn
 ig : bM
def fL.enc (x : fL) : List L := [.sl x.eF.cy.aA, .sl x.eF.cy.aR, .int x.eF.lV, .str x.eF.aH.aV, .int x.eF.aH.bg, .int x.eF.aH.bE, .sl x.eF.aH.aU, .sl x.eF.dX, .int x.eF.jg, .sl x.ig.aF]
def fL.dec (r : List L) : fL := ⟨⟨⟨((ar 0 r).headD .hole).aG, ((ar 1 r).headD .hole).aG⟩, ((ar 2 r).headD .hole).toInt, ⟨((ar 3 r).headD .hole).toStr, ((ar 4 r).headD .hole).toInt, ((ar 5 r).headD .hole).toInt, ((ar 6 r).headD .hole).aG⟩, ((ar 7 r).headD .hole).aG, ((ar 8 r).headD .hole).toInt⟩, ⟨((ar 9 r).headD .hole).aG⟩⟩
instance : RT fL := ⟨fL.enc, fL.dec, 10, fun _ _ => rfl, fun _ _ => rfl⟩
def fL.at (xs : List (List L)) (i : Nat) : fL := fL.dec (List.getD xs i [])
def cA.r (x : cA) : fL := ⟨(bn.r x.eF), (bM.r x.ig)⟩
def cA.row (x : cA) : List L := fL.enc x.r
def cA.zero : cA := ⟨bn.zero, bM.zero⟩
theorem cA.cd {a b : cA} (h : a.r = b.r) : a = b := by
 cases a; cases b
 simp only [cA.r, fL.mk.injEq] at h
 obtain ⟨h0, h1⟩ := h
 simp only [cA.mk.injEq]
 exact ⟨(bn.cd h0), (bM.cd h1)⟩
theorem cA.bS {a b : cA} (h : cA.row a = cA.row b) : a = b := cA.cd (congrArg fL.dec h)
theorem cA.da {xs : List cA} {i : Nat} (h : i < xs.length) : fL.at (xs.map cA.row) i = (xs[i]).r := by unfold fL.at; rw [getD_map h]; rfl
theorem cA.cw {xs : List cA} {i : Nat} : fL.at (xs.map cA.row) i = (xs.getD i cA.zero).r := dm (r := fun x => cA.r x) (fun _ => rfl) rfl
theorem cA.ux (x : cA) : (cA.r x).eF = (bn.r x.eF) := Eq.trans rfl rfl
theorem cA.tg (x : cA) : (cA.r x).ig = (bM.r x.ig) := Eq.trans rfl rfl
instance : Row cA := ⟨cA.row, cA.bS⟩
instance : Im cA fL := ⟨cA.r, cA.cd⟩
theorem cA.rs : (∀ (xs : List cA) (i : Nat), fL.at (xs.map cA.row) i = (xs.getD i cA.zero).r) ∧ (∀ x : cA, (cA.r x).eF = (bn.r x.eF)) ∧ (∀ x : cA, (cA.r x).ig = (bM.r x.ig)) := ⟨fun _ _ => cA.cw, cA.ux, cA.tg⟩
def cA.Sm (n : Nat) (x : cA) : Prop := bn.Sm n x.eF ∧ bM.Sm n x.ig
def cA.size (x : cA) : Nat := bn.size x.eF + bM.size x.ig
theorem cA.bx {n m : Nat} (hn : n ≤ m) {x : cA} (h : cA.Sm n x) : cA.Sm m x := ⟨bn.bx hn h.1, bM.bx hn h.2⟩
theorem cA.cP {n : Nat} {x : cA} (h : x.size ≤ n) : cA.Sm n x := by
 unfold cA.size at h
 have g0 : bn.size x.eF ≤ n := by omega
 have g1 : bM.size x.ig ≤ n := by omega
 exact ⟨bn.cP g0, bM.cP g1⟩
structure fK where
 aL : List (List L)
 ff : List (List L)
structure bV where
 aL : List aa
 ff : List aj
def fK.enc (x : fK) : List L := [.sl x.aL, .sl x.ff]
def fK.dec (r : List L) : fK := ⟨((ar 0 r).headD .hole).aG, ((ar 1 r).headD .hole).aG⟩
instance : RT fK := ⟨fK.enc, fK.dec, 2, fun _ _ => rfl, fun _ _ => rfl⟩
def fK.at (xs : List (List L)) (i : Nat) : fK := fK.dec (List.getD xs i [])
def bV.r (x : bV) : fK := ⟨(x.aL.map aa.row), (x.ff.map aj.row)⟩
def bV.row (x : bV) : List L := fK.enc x.r
def bV.zero : bV := ⟨[], []⟩
theorem bV.cd {a b : bV} (h : a.r = b.r) : a = b := by
 cases a; cases b
 simp only [bV.r, fK.mk.injEq] at h
 obtain ⟨h0, h1⟩ := h
 simp only [bV.mk.injEq]
 exact ⟨(map_inj aa.bS h0), (map_inj aj.bS h1)⟩
theorem bV.bS {a b : bV} (h : bV.row a = bV.row b) : a = b := bV.cd (congrArg fK.dec h)
theorem bV.da {xs : List bV} {i : Nat} (h : i < xs.length) : fK.at (xs.map bV.row) i = (xs[i]).r := by unfold fK.at; rw [getD_map h]; rfl
theorem bV.cw {xs : List bV} {i : Nat} : fK.at (xs.map bV.row) i = (xs.getD i bV.zero).r := dm (r := fun x => bV.r x) (fun _ => rfl) rfl
theorem bV.nE (x : bV) : (bV.r x).aL = (x.aL.map aa.row) := Eq.trans rfl rfl
theorem bV.rl (x : bV) : (bV.r x).ff = (x.ff.map aj.row) := Eq.trans rfl rfl
instance : Row bV := ⟨bV.row, bV.bS⟩
instance : Im bV fK := ⟨bV.r, bV.cd⟩
theorem bV.rs : (∀ (xs : List bV) (i : Nat), fK.at (xs.map bV.row) i = (xs.getD i bV.zero).r) ∧ (∀ x : bV, (bV.r x).aL = (x.aL.map aa.row)) ∧ (∀ x : bV, (bV.r x).ff = (x.ff.map aj.row)) := ⟨fun _ _ => bV.cw, bV.nE, bV.rl⟩
def bV.Sm (n : Nat) (x : bV) : Prop := bw n (fun y : aa => aa.Sm n y) x.aL ∧ bw n (fun y : aj => aj.Sm n y) x.ff
def bV.size (x : bV) : Nat := di (fun y : aa => aa.size y) x.aL + di (fun y : aj => aj.size y) x.ff
theorem bV.bx {n m : Nat} (hn : n ≤ m) {x : bV} (h : bV.Sm n x) : bV.Sm m x := ⟨h.1.mono hn (fun x hx => aa.bx hn hx), h.2.mono hn (fun x hx => aj.bx hn hx)⟩
theorem bV.cP {n : Nat} {x : bV} (h : x.size ≤ n) : bV.Sm n x := by
 unfold bV.size at h
 have g0 : di (fun y : aa => aa.size y) x.aL ≤ n := by omega
 have g1 : di (fun y : aj => aj.size y) x.ff ≤ n := by omega
 exact ⟨fv g0 (fun x hx => aa.cP hx), fv g1 (fun x hx => aj.cP hx)⟩
structure dJ where
 dX : List (List L)
 rm : Int
structure bB where
 dX : List bV
 rm : Int
def dJ.enc (x : dJ) : List L := [.sl x.dX, .int x.rm]
def dJ.dec (r : List L) : dJ := ⟨((ar 0 r).headD .hole).aG, ((ar 1 r).headD .hole).toInt⟩
instance : RT dJ := ⟨dJ.enc, dJ.dec, 2, fun _ _ => rfl, fun _ _ => rfl⟩
def dJ.at (xs : List (List L)) (i : Nat) : dJ := dJ.dec (List.getD xs i [])
def bB.r (x : bB) : dJ := ⟨(x.dX.map bV.row), x.rm⟩
def bB.row (x : bB) : List L := dJ.enc x.r
def bB.zero : bB := ⟨[], 0⟩
theorem bB.cd {a b : bB} (h : a.r = b.r) : a = b := by
 cases a; cases b
 simp only [bB.r, dJ.mk.injEq] at h
 obtain ⟨h0, h1⟩ := h
 simp only [bB.mk.injEq]
 exact ⟨(map_inj bV.bS h0), h1⟩
theorem bB.bS {a b : bB} (h : bB.row a = bB.row b) : a = b := bB.cd (congrArg dJ.dec h)
theorem bB.da {xs : List bB} {i : Nat} (h : i < xs.length) : dJ.at (xs.map bB.row) i = (xs[i]).r := by unfold dJ.at; rw [getD_map h]; rfl
theorem bB.cw {xs : List bB} {i : Nat} : dJ.at (xs.map bB.row) i = (xs.getD i bB.zero).r := dm (r := fun x => bB.r x) (fun _ => rfl) rfl
theorem bB.ng (x : bB) : (bB.r x).dX = (x.dX.map bV.row) := Eq.trans rfl rfl
theorem bB.vI (x : bB) : (bB.r x).rm = x.rm := Eq.trans rfl rfl
instance : Row bB := ⟨bB.row, bB.bS⟩
instance : Im bB dJ := ⟨bB.r, bB.cd⟩
theorem bB.rs : (∀ (xs : List bB) (i : Nat), dJ.at (xs.map bB.row) i = (xs.getD i bB.zero).r) ∧ (∀ x : bB, (bB.r x).dX = (x.dX.map bV.row)) ∧ (∀ x : bB, (bB.r x).rm = x.rm) := ⟨fun _ _ => bB.cw, bB.ng, bB.vI⟩
def bB.Sm (n : Nat) (x : bB) : Prop := bw n (fun y : bV => bV.Sm n y) x.dX
def bB.size (x : bB) : Nat := di (fun y : bV => bV.size y) x.dX
theorem bB.bx {n m : Nat} (hn : n ≤ m) {x : bB} (h : bB.Sm n x) : bB.Sm m x := h.mono hn (fun x hx => bV.bx hn hx)
theorem bB.cP {n : Nat} {x : bB} (h : x.size ≤ n) : bB.Sm n x := by
 unfold bB.size at h
 have g0 : di (fun y : bV => bV.size y) x.dX ≤ n := by omega
 exact fv g0 (fun x hx => bV.cP hx)
structure dv where
 iz : ByteArray
 aT : Int
def dv.enc (x : dv) : List L := [.str x.iz, .int x.aT]
def dv.dec (r : List L) : dv := ⟨((ar 0 r).headD .hole).toStr, ((ar 1 r).headD .hole).toInt⟩
instance : RT dv := ⟨dv.enc, dv.dec, 2, fun _ _ => rfl, fun _ _ => rfl⟩
def dv.at (xs : List (List L)) (i : Nat) : dv := dv.dec (List.getD xs i [])
def dv.row (x : dv) : List L := dv.enc x
def dv.zero : dv := ⟨⟨#[]⟩, 0⟩
theorem dv.bS {a b : dv} (h : dv.row a = dv.row b) : a = b := congrArg dv.dec h
theorem dv.da {xs : List dv} {i : Nat} (h : i < xs.length) : dv.at (xs.map dv.row) i = xs[i] := by unfold dv.at; rw [getD_map h]; rfl
theorem dv.cw {xs : List dv} {i : Nat} : dv.at (xs.map dv.row) i = xs.getD i dv.zero := dm (r := fun x => x) (fun _ => rfl) rfl
theorem dv.xc (a b : dv) : (cU a.iz b.iz && (cU a.aT b.aT && true)) = cU a b := by
 cases a; cases b
 rw [Bool.eq_iff_iff]
 simp only [ca, Bool.and_eq_true, dv.mk.injEq, and_true]
instance : Row dv := ⟨dv.row, dv.bS⟩
instance : Im dv dv := ⟨fun x => x, fun h => h⟩
theorem dv.rs : (∀ (xs : List dv) (i : Nat), dv.at (xs.map dv.row) i = xs.getD i dv.zero) := fun _ _ => dv.cw
def dv.Sm (n : Nat) (x : dv) : Prop := (x.iz).size ≤ n
def dv.size (x : dv) : Nat := (x.iz).size
theorem dv.bx {n m : Nat} (hn : n ≤ m) {x : dv} (h : dv.Sm n x) : dv.Sm m x := Nat.le_trans h hn
theorem dv.cP {n : Nat} {x : dv} (h : x.size ≤ n) : dv.Sm n x := by
 unfold dv.size at h
 have g0 : (x.iz).size ≤ n := by omega
 exact g0
structure cD where
 iz : ByteArray
 aT : Int
def cD.enc (x : cD) : List L := [.str x.iz, .int x.aT]
def cD.dec (r : List L) : cD := ⟨((ar 0 r).headD .hole).toStr, ((ar 1 r).headD .hole).toInt⟩
instance : RT cD := ⟨cD.enc, cD.dec, 2, fun _ _ => rfl, fun _ _ => rfl⟩
def cD.at (xs : List (List L)) (i : Nat) : cD := cD.dec (List.getD xs i [])
def cD.row (x : cD) : List L := cD.enc x
def cD.zero : cD := ⟨⟨#[]⟩, 0⟩
theorem cD.bS {a b : cD} (h : cD.row a = cD.row b) : a = b := congrArg cD.dec h
theorem cD.da {xs : List cD} {i : Nat} (h : i < xs.length) : cD.at (xs.map cD.row) i = xs[i] := by unfold cD.at; rw [getD_map h]; rfl
theorem cD.cw {xs : List cD} {i : Nat} : cD.at (xs.map cD.row) i = xs.getD i cD.zero := dm (r := fun x => x) (fun _ => rfl) rfl
theorem cD.xc (a b : cD) : (cU a.iz b.iz && (cU a.aT b.aT && true)) = cU a b := by
 cases a; cases b
 rw [Bool.eq_iff_iff]
 simp only [ca, Bool.and_eq_true, cD.mk.injEq, and_true]
instance : Row cD := ⟨cD.row, cD.bS⟩
instance : Im cD cD := ⟨fun x => x, fun h => h⟩
theorem cD.rs : (∀ (xs : List cD) (i : Nat), cD.at (xs.map cD.row) i = xs.getD i cD.zero) := fun _ _ => cD.cw
def cD.Sm (n : Nat) (x : cD) : Prop := (x.iz).size ≤ n
def cD.size (x : cD) : Nat := (x.iz).size
theorem cD.bx {n m : Nat} (hn : n ≤ m) {x : cD} (h : cD.Sm n x) : cD.Sm m x := Nat.le_trans h hn
theorem cD.cP {n : Nat} {x : cD} (h : x.size ≤ n) : cD.Sm n x := by
 unfold cD.size at h
 have g0 : (x.iz).size ≤ n := by omega
 exact g0
def SS := And.intro (And.intro S0 MM) (And.intro aw.rs (And.intro aq.rs (And.intro aJ.rs (And.intro aa.rs (And.intro ao.rs (And.intro ah.rs (And.intro aj.rs (And.intro aX.rs (And.intro bn.rs (And.intro aB.rs (And.intro bt.rs (And.intro ad.rs (And.intro bk.rs (And.intro bM.rs (And.intro cA.rs (And.intro bV.rs (And.intro bB.rs (And.intro dv.rs (And.intro cD.rs trivial)))))))))))))))))))
theorem fz {p : Prop} (h : p := by first | rfl | (simp only [SS]; done) | (simp only [MP]; rfl) | (simp only [SS, MP]; first | done | rfl) | (simp only [aw.r, aq.r, aa.r, ao.r, ah.r, aj.r, aX.r, bn.r, aB.r, bt.r, ad.r, bk.r, bM.r, cA.r, bV.r, bB.r, SS, MP]; first | done | rfl)) : p := h
theorem rq {p q : Prop} (h : p) (k : p → q := by intro R_; first | exact R_ | (simp only [MP, SS] at R_ ⊢; first | exact R_ | (rw [← R_]; rfl))) : q := k h
end Go.DM

end
