/- What the functions compute that the law reaches, and that the law returns true. Conditions: none. -/
import Derived.Test.YtnhiemkmfbllfaaGreatLookUpTy
import Derived.Test.YtnhiemkmfbllfaaGreatLookUpFnB
import Derived.Test.YtnhiemkmfbllfaaGreatProg
import Derived.Lib.AppendZerosOnto
import Derived.Lib.Bytealg
import Derived.Laws.Externs
import Derived.Lib.Walk
import Derived.Lib.Hide
import Derived.Lib.Strings
set_option linter.all false
set_option maxRecDepth 100000
noncomputable section
namespace Go.DM
open Go.Proofs
open Go.IntKind (i64)
namespace Z206
inductive Pt where
 | p0 (a : Int) (b : ByteArray) (c : Int) (d : List (List L)) (e : Int) (f : Int) (g : Bool) (h : ByteArray) (i : Int) (j : Int) (k : Bool) (l : Bool) (m : ByteArray) (n : Int) (o : Int) (p : Bool) (q : List (List L)) (s : List (List L)) (t : List (List L))
def pid : Pt → Nat
 | .p0 .. => 3
def bR : Pt → List V
 | .p0 a b c d e f g h i j k l m n o p q s t => [.int .i64 a, .str b, .int .i64 c, .cC 0 0, .cC 1 0, .sl none 121 d, .int .i64 e, .int .i64 f, .cC 1 0]
def bQ : Pt → List aI
 | .p0 a b c d e f g h i j k l m n o p q s t => [.box [.nil, .nil, .bool g, .str h, .int .i64 i, .int .i64 j, .nil, .bool k, .nil], .box [.own 2, .own 3, .bool l, .str m, .int .i64 n, .int .i64 o, .nil, .bool p, .own 4], .row 116 q, .row 204 s, .row 3 t]
def step (J : Pt → ay) : Pt → ay
 | .p0 a b c d e f g h i j k l m n o p q s t => (cond (decide (f < e)) (m2 f (d.length : Int) (call (Z186.R (a, b, (bd.at d (Int.toNat f)), c)) fun v1 => (call (Z151.R ((bd.at d (Int.toNat f)).aL)) fun v2 => (cond v2 (bJ (decide ((0 : Int) < ((bd.at d (Int.toNat f)).aL.length : Int))) (cond ((aC.at ((bd.at d (Int.toNat f)).aL) 0).ae.aT == a) (call (Z194.R ((⟨q, s⟩ : aW), (bd.at d (Int.toNat f)).aL)) fun v3 => (call (Z112.R (v3.2, 1, 3)) fun v4 => (cond v4 (call (Z202.R (v3.1, a)) fun v5 => (cond (v1 == 1) (cond (!(!v5)) (bJ (dU (((t.length : Int) + 1) * 8)) (J (.p0 a b c d e (i64.wrap (f + 1)) g h i j k l m n o p v3.1.aA v3.1.aR (t ++ [[L.int 3]])))) (bJ (dU (((t.length : Int) + 1) * 8)) (cond (v1 == 1) (call (Z204.R ((bd.at d (Int.toNat f)).aH)) fun v6 => ret (((⟨v3.1, (bd.at d (Int.toNat f)).bu, v6, true, (t ++ [[L.int v1]])⟩ : bT), f) : bT × Int)) (J (.p0 a b c d e (i64.wrap (f + 1)) g h i j k l m n o p v3.1.aA v3.1.aR (t ++ [[L.int v1]])))))) (bJ (dU (((t.length : Int) + 1) * 8)) (cond (v1 == 1) (call (Z204.R ((bd.at d (Int.toNat f)).aH)) fun v7 => ret (((⟨v3.1, (bd.at d (Int.toNat f)).bu, v7, true, (t ++ [[L.int v1]])⟩ : bT), f) : bT × Int)) (J (.p0 a b c d e (i64.wrap (f + 1)) g h i j k l m n o p v3.1.aA v3.1.aR (t ++ [[L.int v1]]))))))) (cond (v1 == 1) (bJ (dU (((t.length : Int) + 1) * 8)) (J (.p0 a b c d e (i64.wrap (f + 1)) g h i j k l m n o p v3.1.aA v3.1.aR (t ++ [[L.int 3]])))) (bJ (dU (((t.length : Int) + 1) * 8)) (cond (v1 == 1) (call (Z204.R ((bd.at d (Int.toNat f)).aH)) fun v8 => ret (((⟨v3.1, (bd.at d (Int.toNat f)).bu, v8, true, (t ++ [[L.int v1]])⟩ : bT), f) : bT × Int)) (J (.p0 a b c d e (i64.wrap (f + 1)) g h i j k l m n o p v3.1.aA v3.1.aR (t ++ [[L.int v1]]))))))))) (call (Z112.R (6, 1, 3)) fun v9 => (cond v9 (call (Z202.R ((⟨q, s⟩ : aW), a)) fun v10 => (cond (v1 == 1) (cond (!(!v10)) (bJ (dU (((t.length : Int) + 1) * 8)) (J (.p0 a b c d e (i64.wrap (f + 1)) g h i j k l m n o p q s (t ++ [[L.int 3]])))) (bJ (dU (((t.length : Int) + 1) * 8)) (cond (v1 == 1) (call (Z204.R ((bd.at d (Int.toNat f)).aH)) fun v11 => ret (((⟨(⟨q, s⟩ : aW), (bd.at d (Int.toNat f)).bu, v11, true, (t ++ [[L.int v1]])⟩ : bT), f) : bT × Int)) (J (.p0 a b c d e (i64.wrap (f + 1)) g h i j k l m n o p q s (t ++ [[L.int v1]])))))) (bJ (dU (((t.length : Int) + 1) * 8)) (cond (v1 == 1) (call (Z204.R ((bd.at d (Int.toNat f)).aH)) fun v12 => ret (((⟨(⟨q, s⟩ : aW), (bd.at d (Int.toNat f)).bu, v12, true, (t ++ [[L.int v1]])⟩ : bT), f) : bT × Int)) (J (.p0 a b c d e (i64.wrap (f + 1)) g h i j k l m n o p q s (t ++ [[L.int v1]]))))))) (cond (v1 == 1) (bJ (dU (((t.length : Int) + 1) * 8)) (J (.p0 a b c d e (i64.wrap (f + 1)) g h i j k l m n o p q s (t ++ [[L.int 3]])))) (bJ (dU (((t.length : Int) + 1) * 8)) (cond (v1 == 1) (call (Z204.R ((bd.at d (Int.toNat f)).aH)) fun v13 => ret (((⟨(⟨q, s⟩ : aW), (bd.at d (Int.toNat f)).bu, v13, true, (t ++ [[L.int v1]])⟩ : bT), f) : bT × Int)) (J (.p0 a b c d e (i64.wrap (f + 1)) g h i j k l m n o p q s (t ++ [[L.int v1]])))))))))) (call (Z112.R (6, 1, 3)) fun v14 => (cond v14 (call (Z202.R ((⟨q, s⟩ : aW), a)) fun v15 => (cond (v1 == 1) (cond (!(!v15)) (bJ (dU (((t.length : Int) + 1) * 8)) (J (.p0 a b c d e (i64.wrap (f + 1)) g h i j k l m n o p q s (t ++ [[L.int 3]])))) (bJ (dU (((t.length : Int) + 1) * 8)) (cond (v1 == 1) (call (Z204.R ((bd.at d (Int.toNat f)).aH)) fun v16 => ret (((⟨(⟨q, s⟩ : aW), (bd.at d (Int.toNat f)).bu, v16, true, (t ++ [[L.int v1]])⟩ : bT), f) : bT × Int)) (J (.p0 a b c d e (i64.wrap (f + 1)) g h i j k l m n o p q s (t ++ [[L.int v1]])))))) (bJ (dU (((t.length : Int) + 1) * 8)) (cond (v1 == 1) (call (Z204.R ((bd.at d (Int.toNat f)).aH)) fun v17 => ret (((⟨(⟨q, s⟩ : aW), (bd.at d (Int.toNat f)).bu, v17, true, (t ++ [[L.int v1]])⟩ : bT), f) : bT × Int)) (J (.p0 a b c d e (i64.wrap (f + 1)) g h i j k l m n o p q s (t ++ [[L.int v1]]))))))) (cond (v1 == 1) (bJ (dU (((t.length : Int) + 1) * 8)) (J (.p0 a b c d e (i64.wrap (f + 1)) g h i j k l m n o p q s (t ++ [[L.int 3]])))) (bJ (dU (((t.length : Int) + 1) * 8)) (cond (v1 == 1) (call (Z204.R ((bd.at d (Int.toNat f)).aH)) fun v18 => ret (((⟨(⟨q, s⟩ : aW), (bd.at d (Int.toNat f)).bu, v18, true, (t ++ [[L.int v1]])⟩ : bT), f) : bT × Int)) (J (.p0 a b c d e (i64.wrap (f + 1)) g h i j k l m n o p q s (t ++ [[L.int v1]])))))))))))) (ret (((⟨(⟨q, s⟩ : aW), l, (⟨m, n, o, []⟩ : bA), p, t⟩ : bT), (-1)) : bT × Int)))
def start (J : Pt → ay) (x0 : aW) (x1 : List (List L)) (x2 : Int) (x3 : ByteArray) (x4 : Int) : ay := (call (Z111.R x0) fun v1 => J (.p0 x2 x3 x4 x1 (x1.length : Int) 0 false ⟨#[]⟩ 0 0 false false ⟨#[]⟩ 0 0 false v1.aA v1.aR []))
def live : Nat → Live := fun i => match i with | 3 => [(2, none), (3, none), (4, none), (10, none), (12, none), (18, none), (19, none), (20, none), (12, some 8388611)] | _ => []
def bO : List fE := [.agg [.sl 116, .sl 204], .rd (.sl 121), .rd (.int .i64), .rd (.str), .rd (.int .i64)]
def res : RP := .iw [(true, [.fr 116, .fr 204, .rd (.bool), .rd (.str), .rd (.int .i64), .rd (.int .i64), .fr 9, .rd (.bool), .fr 3]), (false, [.rd (.int .i64)])]
abbrev E : Env := { T := assoc lr, G := cK [(107, Z111.aK), (148, Z204.aK)], nt := 42, M := fb [], I := ni [(147, Z205.ic)] }
theorem step_eq (I : bY) (p : Pt) : cz E live I (pid p) (bo Tryz.f77) (eN (live (pid p)) (bR p) (bQ p)) (bX E Tryz.f77 res) = step (fun q => I (pid q) (bR q) (bQ q)) p := by
 cases p <;> kernel_rfl
theorem start_eq (I : bY) (ls : List L) : ee E live I (bo Tryz.f77) (cG bO ls) (bX E Tryz.f77 res) = start (fun q => I (pid q) (bR q) (bQ q)) (aW.dec ls) ((ar 2 ls).headD .hole).aG ((ar 3 ls).headD .hole).toInt ((ar 4 ls).headD .hole).toStr ((ar 5 ls).headD .hole).toInt := by kernel_rfl
theorem run_eq (n : Nat) (ls : List L) : ea E live Tryz.f77 res n (cG bO ls) = start (iter step n) (aW.dec ls) ((ar 2 ls).headD .hole).aG ((ar 3 ls).headD .hole).toInt ((ar 4 ls).headD .hole).toStr ((ar 5 ls).headD .hole).toInt := bW (id := pid) (vs := bR) (hs := bQ) (step := step) (start := fun J => start J (aW.dec ls) ((ar 2 ls).headD .hole).aG ((ar 3 ls).headD .hole).toInt ((ar 4 ls).headD .hole).toStr ((ar 5 ls).headD .hole).toInt) step_eq (fun I => start_eq I ls) n
def md (a0 : ah) (a1 : List ad) (a2 : Int) (a3 : ByteArray) (a4 : Int) : aX × Int := (dy (S := List (List aa) × List ao × List Int) (β := aX × Int) (fun (i1 : Nat) (y1 : ad) (s3 : List (List aa) × List ao × List Int) => (cond (Z151.md (y1.aL)) (cond (((y1.aL.getD 0 aa.zero).ae).aT == a2) (cond (Z112.md ((Z194.md (⟨s3.1, s3.2.1⟩ : ah) (y1.aL)).2) 1 3) (cond ((Z186.md a2 a3 y1 a4) == 1) (cond (!(!(Z202.md ((Z194.md (⟨s3.1, s3.2.1⟩ : ah) (y1.aL)).1) a2))) (.inl ((Z194.md (⟨s3.1, s3.2.1⟩ : ah) (y1.aL)).1.aA, (Z194.md (⟨s3.1, s3.2.1⟩ : ah) (y1.aL)).1.aR, (s3.2.2 ++ [3]))) (cond ((Z186.md a2 a3 y1 a4) == 1) (.inr ((⟨(Z194.md (⟨s3.1, s3.2.1⟩ : ah) (y1.aL)).1, y1.bu, (y1.aH), true, (s3.2.2 ++ [(Z186.md a2 a3 y1 a4)])⟩ : aX), (i1 : Int))) (.inl ((Z194.md (⟨s3.1, s3.2.1⟩ : ah) (y1.aL)).1.aA, (Z194.md (⟨s3.1, s3.2.1⟩ : ah) (y1.aL)).1.aR, (s3.2.2 ++ [(Z186.md a2 a3 y1 a4)]))))) (cond ((Z186.md a2 a3 y1 a4) == 1) (.inr ((⟨(Z194.md (⟨s3.1, s3.2.1⟩ : ah) (y1.aL)).1, y1.bu, (y1.aH), true, (s3.2.2 ++ [(Z186.md a2 a3 y1 a4)])⟩ : aX), (i1 : Int))) (.inl ((Z194.md (⟨s3.1, s3.2.1⟩ : ah) (y1.aL)).1.aA, (Z194.md (⟨s3.1, s3.2.1⟩ : ah) (y1.aL)).1.aR, (s3.2.2 ++ [(Z186.md a2 a3 y1 a4)]))))) (cond ((Z186.md a2 a3 y1 a4) == 1) (.inl ((Z194.md (⟨s3.1, s3.2.1⟩ : ah) (y1.aL)).1.aA, (Z194.md (⟨s3.1, s3.2.1⟩ : ah) (y1.aL)).1.aR, (s3.2.2 ++ [3]))) (cond ((Z186.md a2 a3 y1 a4) == 1) (.inr ((⟨(Z194.md (⟨s3.1, s3.2.1⟩ : ah) (y1.aL)).1, y1.bu, (y1.aH), true, (s3.2.2 ++ [(Z186.md a2 a3 y1 a4)])⟩ : aX), (i1 : Int))) (.inl ((Z194.md (⟨s3.1, s3.2.1⟩ : ah) (y1.aL)).1.aA, (Z194.md (⟨s3.1, s3.2.1⟩ : ah) (y1.aL)).1.aR, (s3.2.2 ++ [(Z186.md a2 a3 y1 a4)])))))) (cond (Z112.md 6 1 3) (cond ((Z186.md a2 a3 y1 a4) == 1) (cond (!(!(Z202.md (⟨s3.1, s3.2.1⟩ : ah) a2))) (.inl (s3.1, s3.2.1, (s3.2.2 ++ [3]))) (cond ((Z186.md a2 a3 y1 a4) == 1) (.inr ((⟨(⟨s3.1, s3.2.1⟩ : ah), y1.bu, (y1.aH), true, (s3.2.2 ++ [(Z186.md a2 a3 y1 a4)])⟩ : aX), (i1 : Int))) (.inl (s3.1, s3.2.1, (s3.2.2 ++ [(Z186.md a2 a3 y1 a4)]))))) (cond ((Z186.md a2 a3 y1 a4) == 1) (.inr ((⟨(⟨s3.1, s3.2.1⟩ : ah), y1.bu, (y1.aH), true, (s3.2.2 ++ [(Z186.md a2 a3 y1 a4)])⟩ : aX), (i1 : Int))) (.inl (s3.1, s3.2.1, (s3.2.2 ++ [(Z186.md a2 a3 y1 a4)]))))) (cond ((Z186.md a2 a3 y1 a4) == 1) (.inl (s3.1, s3.2.1, (s3.2.2 ++ [3]))) (cond ((Z186.md a2 a3 y1 a4) == 1) (.inr ((⟨(⟨s3.1, s3.2.1⟩ : ah), y1.bu, (y1.aH), true, (s3.2.2 ++ [(Z186.md a2 a3 y1 a4)])⟩ : aX), (i1 : Int))) (.inl (s3.1, s3.2.1, (s3.2.2 ++ [(Z186.md a2 a3 y1 a4)]))))))) (cond (Z112.md 6 1 3) (cond ((Z186.md a2 a3 y1 a4) == 1) (cond (!(!(Z202.md (⟨s3.1, s3.2.1⟩ : ah) a2))) (.inl (s3.1, s3.2.1, (s3.2.2 ++ [3]))) (cond ((Z186.md a2 a3 y1 a4) == 1) (.inr ((⟨(⟨s3.1, s3.2.1⟩ : ah), y1.bu, (y1.aH), true, (s3.2.2 ++ [(Z186.md a2 a3 y1 a4)])⟩ : aX), (i1 : Int))) (.inl (s3.1, s3.2.1, (s3.2.2 ++ [(Z186.md a2 a3 y1 a4)]))))) (cond ((Z186.md a2 a3 y1 a4) == 1) (.inr ((⟨(⟨s3.1, s3.2.1⟩ : ah), y1.bu, (y1.aH), true, (s3.2.2 ++ [(Z186.md a2 a3 y1 a4)])⟩ : aX), (i1 : Int))) (.inl (s3.1, s3.2.1, (s3.2.2 ++ [(Z186.md a2 a3 y1 a4)]))))) (cond ((Z186.md a2 a3 y1 a4) == 1) (.inl (s3.1, s3.2.1, (s3.2.2 ++ [3]))) (cond ((Z186.md a2 a3 y1 a4) == 1) (.inr ((⟨(⟨s3.1, s3.2.1⟩ : ah), y1.bu, (y1.aH), true, (s3.2.2 ++ [(Z186.md a2 a3 y1 a4)])⟩ : aX), (i1 : Int))) (.inl (s3.1, s3.2.1, (s3.2.2 ++ [(Z186.md a2 a3 y1 a4)])))))))) (fun (s3 : List (List aa) × List ao × List Int) => ((⟨(⟨s3.1, s3.2.1⟩ : ah), false, (⟨(⟨#[]⟩ : ByteArray), 0, 0, []⟩ : aj), false, s3.2.2⟩ : aX), (-1))) 0 a1 (a0.aA, a0.aR, []))
def gd (a0 : ah) (a1 : List ad) (a2 : Int) (a3 : ByteArray) (a4 : Int) : Prop := (ah.Sm (2 ^ 21) a0) ∧ (bw (2 ^ 21) (fun y : ad => ad.Sm (2 ^ 21) y) a1) ∧ (a3.size ≤ (2 ^ 21))
def acc (ls : List L) : aW × List (List L) × Int × ByteArray × Int := ((aW.dec ls), ((ar 2 ls).headD .hole).aG, ((ar 3 ls).headD .hole).toInt, ((ar 4 ls).headD .hole).toStr, ((ar 5 ls).headD .hole).toInt)
def R : (aW × List (List L) × Int × ByteArray × Int) → Option (bT × Int) := RR (p5 gd) (u5 md)
theorem ai {a0 a1 a2 a3 a4} (h : gd a0 a1 a2 a3 a4) : R ((ah.r a0), (a1.map ad.row), a2, a3, a4) = some ((aX.r (md a0 a1 a2 a3 a4).1), (md a0 a1 a2 a3 a4).2) := aE (a := (a0, a1, a2, a3, a4)) h
def aK : fe := CN bO res acc R
theorem okF (a0 : ah) (a1 : List ad) (a2 : Int) (a3 : ByteArray) (a4 : Int) (hg : gd a0 a1 a2 a3 a4) : ∃ n, start (iter step n) (ah.r a0) (a1.map ad.row) a2 a3 a4 = ret (((aX.r (md a0 a1 a2 a3 a4).1), (md a0 a1 a2 a3 a4).2) : bT × Int) := by
  obtain ⟨H0, H1, H3⟩ := hg
  unfold start md
  try simp only [SS]
  refine cx (Z111.ai H0) ?_
  try simp only [SS]
  have Bh2 : a1.length ≤ maxLen := (by
      have := (H1).1
      try simp only [maxLen] at *
      omega)
  refine dV (out := (fun b : aX × Int => ret (((aX.r b.1), b.2) : bT × Int))) (cV (z := ad.zero)) ?_
  refine dk (p := Pt.p0 a2 a3 a4 (a1.map ad.row) (a1.length : Int) 0 false (⟨#[]⟩ : ByteArray) 0 0 false false (⟨#[]⟩ : ByteArray) 0 0 false (a0.aA.map (cM aa.row)) (a0.aR.map ao.row) ([].map aP)) fz ?_
  refine bP (pt := fun (i1 : Nat) (s3 : List (List aa) × List ao × List Int) => Pt.p0 a2 a3 a4 (a1.map ad.row) (a1.length : Int) (i1 : Int) false (⟨#[]⟩ : ByteArray) 0 0 false false (⟨#[]⟩ : ByteArray) 0 0 false (s3.1.map (cM aa.row)) (s3.2.1.map ao.row) (s3.2.2.map aP)) (s := ((a0.aA, a0.aR, []) : List (List aa) × List ao × List Int)) (out := (fun b : aX × Int => ret (((aX.r b.1), b.2) : bT × Int))) (fun (i1 : Nat) (s3 : List (List aa) × List ao × List Int) => ah.Sm (2 ^ 21) (⟨s3.1, s3.2.1⟩ : ah) ∧ s3.2.2.length ≤ i1) (fun J i1 s3 h2 hih2 => ?_) (fun s3 hih2 => ?_) ⟨H0, Nat.zero_le _⟩
  · simp only [step, SS]
    have gr_ := hih2
    try simp only [LN] at gr_
    have bb_ := Bh2
    simp only [maxLen] at bb_
    have := (H1).1
    refine aY.yes (by apply decide_eq_true; omega) ?_
    refine aY.yes ax ?_
    refine aY.yes (aD h2) ?_
    refine cr (Z186.ai ⟨H3, (bw.getD (z := ad.zero) H1 h2)⟩) ?_
    refine cr (Z151.ai (bw.getD (z := ad.zero) H1 h2).1) ?_
    refine aY.bif (fun c4 => ?_) (fun c4 => ?_)
    · try have tc4 := Z151.tr (by simpa using c4)
      refine aY.yes (have := ((bw.getD (z := ad.zero) H1 h2).1).1; dt) ?_
      refine aY.bif (fun c5 => ?_) (fun c5 => ?_)
      · have dc5 := c5
        try simp only [DC] at dc5
        refine cr (Z194.ai (a0 := (⟨s3.1, s3.2.1⟩ : ah)) ⟨⟨hih2.1.1, hih2.1.2⟩, (bw.getD (z := ad.zero) H1 h2).1⟩) ?_
        try simp only [SS]
        refine cr (Z112.ai (a0 := (Z194.md (⟨s3.1, s3.2.1⟩ : ah) ((a1.getD i1 ad.zero).aL)).2) trivial) ?_
        refine aY.bif (fun c6 => ?_) (fun c6 => ?_)
        · have Dc6 := c6
          try simp [Z112.md] at Dc6
          refine cr (Z202.ai (a0 := (Z194.md (⟨s3.1, s3.2.1⟩ : ah) ((a1.getD i1 ad.zero).aL)).1) (Z194.gS (a0 := (⟨s3.1, s3.2.1⟩ : ah)) (a1 := (a1.getD i1 ad.zero).aL) ⟨⟨hih2.1.1, hih2.1.2⟩, (bw.getD (z := ad.zero) H1 h2).1⟩)) ?_
          refine aY.bif (fun c7 => ?_) (fun c7 => ?_)
          · have dc7 := c7
            try simp only [DC] at dc7
            refine aY.bif (fun c8 => ?_) (fun c8 => ?_)
            · have dc8 := c8
              try simp only [DC] at dc8
              refine aY.yes lm ?_
              refine aY.inl (by first | exact ⟨hih2.1, fM hih2.2⟩ | exact ⟨Z194.gS ⟨hih2.1, (bw.getD H1 h2).1⟩, fM hih2.2⟩) ?_
              rw [az h2 Bh2]
              all_goals exact fz
            · have dc8 := c8
              try simp only [DC] at dc8
              refine aY.yes lm ?_
              refine aY.bif (fun c9 => ?_) (fun c9 => ?_)
              · refine cr (Z204.ai (bw.getD (z := ad.zero) H1 h2).2.1) ?_
                try simp only [SS]
                refine aY.inr ?_
                all_goals exact fz
              · refine aY.inl (by first | exact ⟨hih2.1, fM hih2.2⟩ | exact ⟨Z194.gS ⟨hih2.1, (bw.getD H1 h2).1⟩, fM hih2.2⟩) ?_
                rw [az h2 Bh2]
                all_goals exact fz
          · have dc7 := c7
            try simp only [DC] at dc7
            refine aY.yes lm ?_
            refine aY.bif (fun c10 => ?_) (fun c10 => ?_)
            · refine cr (Z204.ai (bw.getD (z := ad.zero) H1 h2).2.1) ?_
              try simp only [SS]
              refine aY.inr ?_
              all_goals exact fz
            · refine aY.inl (by first | exact ⟨hih2.1, fM hih2.2⟩ | exact ⟨Z194.gS ⟨hih2.1, (bw.getD H1 h2).1⟩, fM hih2.2⟩) ?_
              rw [az h2 Bh2]
              all_goals exact fz
        · have Dc6 := c6
          try simp [Z112.md] at Dc6
          refine aY.bif (fun c11 => ?_) (fun c11 => ?_)
          · have dc11 := c11
            try simp only [DC] at dc11
            refine aY.yes lm ?_
            refine aY.inl (by first | exact ⟨hih2.1, fM hih2.2⟩ | exact ⟨Z194.gS ⟨hih2.1, (bw.getD H1 h2).1⟩, fM hih2.2⟩) ?_
            rw [az h2 Bh2]
            all_goals exact fz
          · have dc11 := c11
            try simp only [DC] at dc11
            refine aY.yes lm ?_
            refine aY.bif (fun c12 => ?_) (fun c12 => ?_)
            · refine cr (Z204.ai (bw.getD (z := ad.zero) H1 h2).2.1) ?_
              try simp only [SS]
              refine aY.inr ?_
              all_goals exact fz
            · refine aY.inl (by first | exact ⟨hih2.1, fM hih2.2⟩ | exact ⟨Z194.gS ⟨hih2.1, (bw.getD H1 h2).1⟩, fM hih2.2⟩) ?_
              rw [az h2 Bh2]
              all_goals exact fz
      · have dc5 := c5
        try simp only [DC] at dc5
        refine cr (Z112.ai trivial) ?_
        refine aY.bif (fun c13 => ?_) (fun c13 => ?_)
        · refine cr (Z202.ai (a0 := (⟨s3.1, s3.2.1⟩ : ah)) ⟨hih2.1.1, hih2.1.2⟩) ?_
          refine aY.bif (fun c14 => ?_) (fun c14 => ?_)
          · have dc14 := c14
            try simp only [DC] at dc14
            refine aY.bif (fun c15 => ?_) (fun c15 => ?_)
            · have dc15 := c15
              try simp only [DC] at dc15
              refine aY.yes lm ?_
              refine aY.inl (by first | exact ⟨hih2.1, fM hih2.2⟩ | exact ⟨Z194.gS ⟨hih2.1, (bw.getD H1 h2).1⟩, fM hih2.2⟩) ?_
              rw [az h2 Bh2]
              all_goals exact fz
            · have dc15 := c15
              try simp only [DC] at dc15
              refine aY.yes lm ?_
              refine aY.bif (fun c16 => ?_) (fun c16 => ?_)
              · refine cr (Z204.ai (bw.getD (z := ad.zero) H1 h2).2.1) ?_
                try simp only [SS]
                refine aY.inr ?_
                all_goals exact fz
              · refine aY.inl (by first | exact ⟨hih2.1, fM hih2.2⟩ | exact ⟨Z194.gS ⟨hih2.1, (bw.getD H1 h2).1⟩, fM hih2.2⟩) ?_
                rw [az h2 Bh2]
                all_goals exact fz
          · have dc14 := c14
            try simp only [DC] at dc14
            refine aY.yes lm ?_
            refine aY.bif (fun c17 => ?_) (fun c17 => ?_)
            · refine cr (Z204.ai (bw.getD (z := ad.zero) H1 h2).2.1) ?_
              try simp only [SS]
              refine aY.inr ?_
              all_goals exact fz
            · refine aY.inl (by first | exact ⟨hih2.1, fM hih2.2⟩ | exact ⟨Z194.gS ⟨hih2.1, (bw.getD H1 h2).1⟩, fM hih2.2⟩) ?_
              rw [az h2 Bh2]
              all_goals exact fz
        · refine aY.bif (fun c18 => ?_) (fun c18 => ?_)
          · have dc18 := c18
            try simp only [DC] at dc18
            refine aY.yes lm ?_
            refine aY.inl (by first | exact ⟨hih2.1, fM hih2.2⟩ | exact ⟨Z194.gS ⟨hih2.1, (bw.getD H1 h2).1⟩, fM hih2.2⟩) ?_
            rw [az h2 Bh2]
            all_goals exact fz
          · have dc18 := c18
            try simp only [DC] at dc18
            refine aY.yes lm ?_
            refine aY.bif (fun c19 => ?_) (fun c19 => ?_)
            · refine cr (Z204.ai (bw.getD (z := ad.zero) H1 h2).2.1) ?_
              try simp only [SS]
              refine aY.inr ?_
              all_goals exact fz
            · refine aY.inl (by first | exact ⟨hih2.1, fM hih2.2⟩ | exact ⟨Z194.gS ⟨hih2.1, (bw.getD H1 h2).1⟩, fM hih2.2⟩) ?_
              rw [az h2 Bh2]
              all_goals exact fz
    · try have tc4 := Z151.tr (by simpa using c4)
      refine cr (Z112.ai trivial) ?_
      refine aY.bif (fun c20 => ?_) (fun c20 => ?_)
      · refine cr (Z202.ai (a0 := (⟨s3.1, s3.2.1⟩ : ah)) ⟨hih2.1.1, hih2.1.2⟩) ?_
        refine aY.bif (fun c21 => ?_) (fun c21 => ?_)
        · have dc21 := c21
          try simp only [DC] at dc21
          refine aY.bif (fun c22 => ?_) (fun c22 => ?_)
          · have dc22 := c22
            try simp only [DC] at dc22
            refine aY.yes lm ?_
            refine aY.inl (by first | exact ⟨hih2.1, fM hih2.2⟩ | exact ⟨Z194.gS ⟨hih2.1, (bw.getD H1 h2).1⟩, fM hih2.2⟩) ?_
            rw [az h2 Bh2]
            all_goals exact fz
          · have dc22 := c22
            try simp only [DC] at dc22
            refine aY.yes lm ?_
            refine aY.bif (fun c23 => ?_) (fun c23 => ?_)
            · refine cr (Z204.ai (bw.getD (z := ad.zero) H1 h2).2.1) ?_
              try simp only [SS]
              refine aY.inr ?_
              all_goals exact fz
            · refine aY.inl (by first | exact ⟨hih2.1, fM hih2.2⟩ | exact ⟨Z194.gS ⟨hih2.1, (bw.getD H1 h2).1⟩, fM hih2.2⟩) ?_
              rw [az h2 Bh2]
              all_goals exact fz
        · have dc21 := c21
          try simp only [DC] at dc21
          refine aY.yes lm ?_
          refine aY.bif (fun c24 => ?_) (fun c24 => ?_)
          · refine cr (Z204.ai (bw.getD (z := ad.zero) H1 h2).2.1) ?_
            try simp only [SS]
            refine aY.inr ?_
            all_goals exact fz
          · refine aY.inl (by first | exact ⟨hih2.1, fM hih2.2⟩ | exact ⟨Z194.gS ⟨hih2.1, (bw.getD H1 h2).1⟩, fM hih2.2⟩) ?_
            rw [az h2 Bh2]
            all_goals exact fz
      · refine aY.bif (fun c25 => ?_) (fun c25 => ?_)
        · have dc25 := c25
          try simp only [DC] at dc25
          refine aY.yes lm ?_
          refine aY.inl (by first | exact ⟨hih2.1, fM hih2.2⟩ | exact ⟨Z194.gS ⟨hih2.1, (bw.getD H1 h2).1⟩, fM hih2.2⟩) ?_
          rw [az h2 Bh2]
          all_goals exact fz
        · have dc25 := c25
          try simp only [DC] at dc25
          refine aY.yes lm ?_
          refine aY.bif (fun c26 => ?_) (fun c26 => ?_)
          · refine cr (Z204.ai (bw.getD (z := ad.zero) H1 h2).2.1) ?_
            try simp only [SS]
            refine aY.inr ?_
            all_goals exact fz
          · refine aY.inl (by first | exact ⟨hih2.1, fM hih2.2⟩ | exact ⟨Z194.gS ⟨hih2.1, (bw.getD H1 h2).1⟩, fM hih2.2⟩) ?_
            rw [az h2 Bh2]
            all_goals exact fz
  · simp only [step, SS]
    have gr_ := hih2
    try simp only [LN] at gr_
    have := (H1).1
    refine dh (by apply decide_eq_false; omega) ?_
    refine ⟨0, ?_⟩
    all_goals exact fz
theorem ab : Valid Tryz.prog Ev 77 aK := VI (mt := false) (run := fun n x => start (iter step n) x.1 x.2.1 x.2.2.1 x.2.2.2.1 x.2.2.2.2) mix au (.cons Z111.ab (.cons Z204.ab .nil)) .nil (.cons Z205.vo .nil) Tryz.func77 (by kernel_rfl) run_eq (fun _ a _ _ hg => okF a.1 a.2.1 a.2.2.1 a.2.2.2.1 a.2.2.2.2 hg)
theorem pG (a0 : ah) (a1 : List ad) (a2 : Int) (a3 : ByteArray) (a4 : Int) : md a0 a1 a2 a3 a4 = dy (fun i y s => (Z103.so a2 a3 a4 y s).map id (fun b => (b, (i : Int)))) (fun s => (Z103.fin s, -1)) 0 a1 (a0.aA, a0.aR, []) := by
  unfold md
  refine lQ (fun i y _ s => ?_) (fun s => rfl)
  have h31 : ((3 : Int) == 1) = false := rfl
  have h61 : ((6 : Int) == 1) = false := rfl
  have h62 : ((6 : Int) == 2) = false := rfl
  have h63 : ((6 : Int) == 3) = false := rfl
  have hin : ∀ n : Int, Z112.md n 1 3 = (n == 1 || (n == 2 || n == 3)) := fun n => by
    unfold Z112.md
    rw [Bool.eq_iff_iff]; simp; omega
  simp only [Z186.br, Z151.br, Z194.br, Z202.br, hin]
  unfold Z103.so Z103.nO
  cases g1 : Z64.md y.aL
  · have e : (Z65.md y.aL).2 = false := by unfold Z65.md; rw [g1]; rfl
    cases g2 : (Z96.md a2 a3 y a4 == 1) <;> simp [e, g2, h31, h61, h62, h63, Sum.map]
  have hl := Z64.tr g1
  have e : (Z65.md y.aL).2 = true := by unfold Z65.md; rw [g1]; rfl
  have e2 : (Z65.md y.aL).1.aT = (y.aL.getD 0 aa.zero).ae.aT := by
    have hi : Int.toNat (i64.wrap ((y.aL.length : Int) - 1)) = y.aL.length - 1 := by simp (disch := omega) only [wi]; omega
    have := Z64.wJ g1 (y.aL.length - 1) (by omega)
    unfold Z65.md
    rw [g1, hi]
    exact this
  rw [e2, e]
  cases g3 : ((y.aL.getD 0 aa.zero).ae.aT == a2)
  · cases g2 : (Z96.md a2 a3 y a4 == 1) <;> simp [g2, h31, h61, h62, h63, Sum.map]
  generalize Z71.md (⟨s.1, s.2.1⟩ : ah) y.aL = r
  cases g2 : (Z96.md a2 a3 y a4 == 1) <;> cases g4 : (r.2 == 1) <;> cases g5 : (r.2 == 2) <;> cases g6 : (r.2 == 3) <;> cases g7 : Z100.md r.1 a2 <;> simp [g2, g4, g5, g6, g7, h31, Sum.map]
theorem yf (a0 : ah) (a1 : List ad) (a2 : Int) (a3 : ByteArray) (a4 : Int) : (md a0 a1 a2 a3 a4).1 = Z103.md a0 a1 a2 a3 a4 := by
 rw [pG, Z103.pG]
 exact nb (p := Prod.fst) (fun i y s => by cases Z103.so a2 a3 a4 y s <;> rfl) (fun s => rfl) a1 0 _
end Z206
namespace Z207
def F (x0 : aW) (x1 : List (List L)) (x2 : Int) (x3 : ByteArray) (x4 : Int) : ay := (call (Z206.R (x0, x1, x2, x3, x4)) fun v1 => ret (v1.1 : bT))
def md (a0 : ah) (a1 : List ad) (a2 : Int) (a3 : ByteArray) (a4 : Int) : aX := (Z206.md a0 a1 a2 a3 a4).1
def gd (a0 : ah) (a1 : List ad) (a2 : Int) (a3 : ByteArray) (a4 : Int) : Prop := (ah.Sm (2 ^ 21) a0) ∧ (bw (2 ^ 21) (fun y : ad => ad.Sm (2 ^ 21) y) a1) ∧ (a3.size ≤ (2 ^ 21))
def R := RR (p5 gd) (u5 md)
theorem ai {a0 a1 a2 a3 a4} (h : gd a0 a1 a2 a3 a4) : R ((ah.r a0), (a1.map ad.row), a2, a3, a4) = some (aX.r (md a0 a1 a2 a3 a4)) := aE (a := (a0, a1, a2, a3, a4)) h
def aK := CN [.agg rh, pL 121, pI, pS, pI] (.agg f38) RT.dec R
theorem okF (a0) (a1) (a2) (a3) (a4) (hg : gd a0 a1 a2 a3 a4) : F (ah.r a0) (a1.map ad.row) a2 a3 a4 = ret (aX.r (md a0 a1 a2 a3 a4)) := by
 obtain ⟨H0, H1, H3⟩ := hg
 unfold F md
 try simp only [SS]
 refine ct (Z206.ai ⟨H0, H1, H3⟩) ?_
 try simp only [SS]
 all_goals exact fz
theorem ab : Valid Tryz.prog Ev 15 aK := W5 23 F mix au okF (.cons Z206.ab .nil) Tryz.func15
theorem br (a0 : ah) (a1 : List ad) (a2 : Int) (a3 : ByteArray) (a4 : Int) : md a0 a1 a2 a3 a4 = Z103.md a0 a1 a2 a3 a4 := by
 unfold md
 exact Z206.yf a0 a1 a2 a3 a4
end Z207
namespace Z208
inductive Pt where
 | p0 (a : List (List L)) (b : List (List L)) (c : Int)
def pid : Pt → Nat
 | .p0 .. => 4
def bR : Pt → List V
 | .p0 a b c => [.sl none 3 a, .sl none 3 b, .int .i64 c]
def bQ : Pt → List aI
 | .p0 a b c => []
def step (J : Pt → ay) : Pt → ay
 | .p0 a b c => (cond (decide (c < (a.length : Int))) (m2 c (a.length : Int) (m2 c (b.length : Int) (cond ((iu a (Int.toNat c)) != (iu b (Int.toNat c))) (ret (false : Bool)) (J (.p0 a b (i64.wrap (c + 1))))))) (ret (true : Bool)))
def start (J : Pt → ay) (x0 : List (List L)) (x1 : List (List L)) : ay := (cond ((x0.length : Int) != (x1.length : Int)) (ret (false : Bool)) (J (.p0 x0 x1 0)))
def live : Nat → Live := fun i => match i with | 4 => [(0, none), (1, none), (5, none)] | _ => []
def bO : List fE := [.rd (.sl 3), .rd (.sl 3)]
def res : RP := .one (.rd (.bool))
abbrev E : Env := { T := assoc lr, G := cK [], nt := 26 }
theorem step_eq (I : bY) (p : Pt) : cz E live I (pid p) (bo Tryz.f79) (eN (live (pid p)) (bR p) (bQ p)) (bX E Tryz.f79 res) = step (fun q => I (pid q) (bR q) (bQ q)) p := by
 cases p <;> kernel_rfl
theorem start_eq (I : bY) (ls : List L) : ee E live I (bo Tryz.f79) (cG bO ls) (bX E Tryz.f79 res) = start (fun q => I (pid q) (bR q) (bQ q)) (ls.headD .hole).aG ((ar 1 ls).headD .hole).aG := by kernel_rfl
theorem run_eq (n : Nat) (ls : List L) : ea E live Tryz.f79 res n (cG bO ls) = start (iter step n) (ls.headD .hole).aG ((ar 1 ls).headD .hole).aG := bW (id := pid) (vs := bR) (hs := bQ) (step := step) (start := fun J => start J (ls.headD .hole).aG ((ar 1 ls).headD .hole).aG) step_eq (fun I => start_eq I ls) n
def md (a0 : List Int) (a1 : List Int) : Bool := cU a0 a1
def gd (a0 : List Int) (a1 : List Int) : Prop := True
def acc (ls : List L) : List (List L) × List (List L) := ((ls.headD .hole).aG, ((ar 1 ls).headD .hole).aG)
def R : (List (List L) × List (List L)) → Option Bool := RR (p2 gd) (u2 md)
theorem ai {a0 a1} (h : gd a0 a1) : R ((a0.map aP), (a1.map aP)) = some (md a0 a1) := aE (a := (a0, a1)) h
def aK : fe := CN bO res acc R
theorem okF (a0 : List Int) (a1 : List Int) (hg : gd a0 a1) (h0 : a0.length ≤ maxLen) (h1 : a1.length ≤ maxLen) : ∃ n, start (iter step n) (a0.map aP) (a1.map aP) = ret ((md a0 a1) : Bool) := by
  unfold start md
  simp only [List.length_map]
  refine iQ (pt := fun i => Pt.p0 (a0.map aP) (a1.map aP) (i : Int)) (fun hl J i h h2 => ?_) (fun J => ?_)
  · simp only [step, MM, List.length_map, aD h, aD h2, ax, cond_true, cg, pC h, pC h2]
    rw [az h h0]
    simp only [bne, dL, bool_beq, dA]
    cases cU a0[i] a1[i] <;> rfl
  · simp only [step, List.length_map, dK, cond_false]
theorem ab : Valid Tryz.prog Ev 79 aK := VV (run := fun n x => start (iter step n) x.1 x.2) mix au .nil Tryz.func79 (by kernel_rfl) run_eq (fun ls a hl e hg => okF a.1 a.2 hg (by have h : (ls.headD .hole).aG.length ≤ maxLen := hl.1.len; have e : a.1.map aP = (ls.headD .hole).aG := (congrArg (fun x => x.1) e.symm); rw [← e] at h; simpa using h) (by have h : ((ar 1 ls).headD .hole).aG.length ≤ maxLen := hl.2.1.len; have e : a.2.map aP = ((ar 1 ls).headD .hole).aG := (congrArg (fun x => x.2) e.symm); rw [← e] at h; simpa using h))
end Z208
namespace Z209
def F (x0 : aO) (x1 : aO) : ay := (call (Z208.R (x0.aF, x1.aF)) fun v1 => (cond (!v1) (ret (false : Bool)) (cond (x0.bH != x1.bH) (ret (false : Bool)) (ret (true : Bool)))))
def md (a0 : aw) (a1 : aw) : Bool := cU a0 a1
def gd (a0 : aw) (a1 : aw) : Prop := True
def R := RR (p2 gd) (u2 md)
theorem ai {a0 a1} (h : gd a0 a1) : R ((aw.r a0), (aw.r a1)) = some (md a0 a1) := aE (a := (a0, a1)) h
def aK := CN [.agg gz, .agg gz] oB RT.dec R
theorem okF (a0) (a1) (hg : gd a0 a1) : F (aw.r a0) (aw.r a1) = ret (md a0 a1) := by
 unfold md
 show (call (Z208.R ((a0.aF.map aP), (a1.aF.map aP))) fun v1 => (cond (!v1) (ret (false : Bool)) (cond (a0.bH != a1.bH) (ret (false : Bool)) (ret (true : Bool))))) = _
 simp only [ba (Z208.ai (a0 := a0.aF) (a1 := a1.aF) trivial), Z208.md]
 try simp only [bne, dL, bool_beq, dA]
 have e : cU a0 a1 = (cU a0.aF a1.aF && (cU a0.bH a1.bH && true)) := by
  cases a0; cases a1
  rw [Bool.eq_iff_iff]
  simp only [ca, Bool.and_eq_true, aw.mk.injEq, and_true]
 rw [e]
 refine bI fun _ => ?_
 refine bI fun _ => ?_
 rfl
theorem ab : Valid Tryz.prog Ev 295 aK := W2 16 F mix au okF (.cons Z208.ab .nil) Tryz.func295
end Z209
namespace Z210
def F (x0 : bq) (x1 : bq) : ay := (cond (x0.aT != x1.aT) (ret (false : Bool)) (cond (x0.bN != x1.bN) (ret (false : Bool)) (cond (x0.bg != x1.bg) (ret (false : Bool)) (cond (x0.bL != x1.bL) (ret (false : Bool)) (cond (x0.bF != x1.bF) (ret (false : Bool)) (cond (x0.bG != x1.bG) (ret (false : Bool)) (cond (x0.cj != x1.cj) (ret (false : Bool)) (cond (x0.cB != x1.cB) (ret (false : Bool)) (call (Z209.R (x0.bh, x1.bh)) fun v1 => (cond (!v1) (ret (false : Bool)) (call (Z209.R (x0.aQ, x1.aQ)) fun v2 => (cond (!v2) (ret (false : Bool)) (cond (x0.cf != x1.cf) (ret (false : Bool)) (call (Z209.R (x0.aM, x1.aM)) fun v3 => (cond (!v3) (ret (false : Bool)) (cond (!(x0.aS == x1.aS)) (ret (false : Bool)) (ret (true : Bool))))))))))))))))))
def md (a0 : aq) (a1 : aq) : Bool := cU a0 a1
def gd (a0 : aq) (a1 : aq) : Prop := True
def R := RR (p2 gd) (u2 md)
theorem ai {a0 a1} (h : gd a0 a1) : R ((aq.r a0), (aq.r a1)) = some (md a0 a1) := aE (a := (a0, a1)) h
def aK := CN [.agg eA, .agg eA] oB RT.dec R
theorem okF (a0) (a1) (hg : gd a0 a1) : F (aq.r a0) (aq.r a1) = ret (md a0 a1) := by
 unfold md
 show (bif (a0.aT != a1.aT) then ret (false : Bool) else (bif (a0.bN != a1.bN) then ret (false : Bool) else (bif (a0.bg != a1.bg) then ret (false : Bool) else (bif (a0.bL != a1.bL) then ret (false : Bool) else (bif (a0.bF != a1.bF) then ret (false : Bool) else (bif (a0.bG != a1.bG) then ret (false : Bool) else (bif (a0.cj != a1.cj) then ret (false : Bool) else (bif (a0.cB != a1.cB) then ret (false : Bool) else (call (Z209.R ((aw.r a0.bh), (aw.r a1.bh))) fun v1 => (bif (!v1) then ret (false : Bool) else (call (Z209.R ((aw.r a0.aQ), (aw.r a1.aQ))) fun v2 => (bif (!v2) then ret (false : Bool) else (bif (a0.cf != a1.cf) then ret (false : Bool) else (call (Z209.R ((aw.r a0.aM), (aw.r a1.aM))) fun v3 => (cond (!v3) (ret (false : Bool)) (cond (!(a0.aS == a1.aS)) (ret (false : Bool)) (ret (true : Bool)))))))))))))))))) = _
 simp only [ba (Z209.ai (a0 := a0.bh) (a1 := a1.bh) trivial), Z209.md]
 simp only [ba (Z209.ai (a0 := a0.aQ) (a1 := a1.aQ) trivial), Z209.md]
 simp only [ba (Z209.ai (a0 := a0.aM) (a1 := a1.aM) trivial), Z209.md]
 try simp only [bne, dL, bool_beq, dA]
 have e : cU a0 a1 = (cU a0.aT a1.aT && (cU a0.bN a1.bN && (cU a0.bg a1.bg && (cU a0.bL a1.bL && (cU a0.bF a1.bF && (cU a0.bG a1.bG && (cU a0.cj a1.cj && (cU a0.cB a1.cB && (cU a0.bh a1.bh && (cU a0.aQ a1.aQ && (cU a0.cf a1.cf && (cU a0.aM a1.aM && (cU a0.aS a1.aS && true))))))))))))) := by
  cases a0; cases a1
  rw [Bool.eq_iff_iff]
  simp only [ca, Bool.and_eq_true, aq.mk.injEq, and_true]
 rw [e]
 refine bI fun _ => ?_
 refine bI fun _ => ?_
 refine bI fun _ => ?_
 refine bI fun _ => ?_
 refine bI fun _ => ?_
 refine bI fun _ => ?_
 refine bI fun _ => ?_
 refine bI fun _ => ?_
 refine bI fun _ => ?_
 refine bI fun _ => ?_
 refine bI fun _ => ?_
 refine bI fun _ => ?_
 refine bI fun _ => ?_
 rfl
theorem ab : Valid Tryz.prog Ev 246 aK := W2 73 F mix au okF (.cons Z209.ab .nil) Tryz.func246
end Z210
namespace Z211
def F (x0 : aJ) (x1 : aJ) : ay := (cond (x0.fq != x1.fq) (ret (false : Bool)) (cond (x0.gN != x1.gN) (ret (false : Bool)) (ret (true : Bool))))
def md (a0 : aJ) (a1 : aJ) : Bool := cU a0 a1
def gd (a0 : aJ) (a1 : aJ) : Prop := True
def R := RR (p2 gd) (u2 md)
theorem ai {a0 a1} (h : gd a0 a1) : R (a0, a1) = some (md a0 a1) := aE (a := (a0, a1)) h
def aK := CN [.agg tT, .agg tT] oB RT.dec R
theorem okF (a0) (a1) (hg : gd a0 a1) : F a0 a1 = ret (md a0 a1) := by
 unfold md
 show (cond (a0.fq != a1.fq) (ret (false : Bool)) (cond (a0.gN != a1.gN) (ret (false : Bool)) (ret (true : Bool)))) = _
 try simp only [bne, dL, bool_beq, dA]
 have e : cU a0 a1 = (cU a0.fq a1.fq && (cU a0.gN a1.gN && true)) := by
  cases a0; cases a1
  rw [Bool.eq_iff_iff]
  simp only [ca, Bool.and_eq_true, aJ.mk.injEq, and_true]
 rw [e]
 refine bI fun _ => ?_
 refine bI fun _ => ?_
 rfl
theorem ab : Valid Tryz.prog Ev 296 aK := W2 15 F mix au okF .nil Tryz.func296
end Z211
namespace Z212
inductive Pt where
 | p0 (a : List (List L)) (b : List (List L)) (c : Int)
def pid : Pt → Nat
 | .p0 .. => 4
def bR : Pt → List V
 | .p0 a b c => [.sl none 264 a, .sl none 264 b, .int .i64 c]
def bQ : Pt → List aI
 | .p0 a b c => []
def step (J : Pt → ay) : Pt → ay
 | .p0 a b c => (cond (decide (c < (a.length : Int))) (m2 c (a.length : Int) (m2 c (b.length : Int) (call (Z211.R ((aJ.at a (Int.toNat c)), (aJ.at b (Int.toNat c)))) fun v1 => (cond (!v1) (ret (false : Bool)) (J (.p0 a b (i64.wrap (c + 1)))))))) (ret (true : Bool)))
def start (J : Pt → ay) (x0 : List (List L)) (x1 : List (List L)) : ay := (cond ((x0.length : Int) != (x1.length : Int)) (ret (false : Bool)) (J (.p0 x0 x1 0)))
def live : Nat → Live := fun i => match i with | 4 => [(0, none), (1, none), (5, none)] | _ => []
def bO : List fE := [.rd (.sl 264), .rd (.sl 264)]
def res : RP := .one (.rd (.bool))
abbrev E : Env := { T := assoc lr, G := cK [(296, Z211.aK)], nt := 27 }
theorem step_eq (I : bY) (p : Pt) : cz E live I (pid p) (bo Tryz.f247) (eN (live (pid p)) (bR p) (bQ p)) (bX E Tryz.f247 res) = step (fun q => I (pid q) (bR q) (bQ q)) p := by
 cases p <;> kernel_rfl
theorem start_eq (I : bY) (ls : List L) : ee E live I (bo Tryz.f247) (cG bO ls) (bX E Tryz.f247 res) = start (fun q => I (pid q) (bR q) (bQ q)) (ls.headD .hole).aG ((ar 1 ls).headD .hole).aG := by kernel_rfl
theorem run_eq (n : Nat) (ls : List L) : ea E live Tryz.f247 res n (cG bO ls) = start (iter step n) (ls.headD .hole).aG ((ar 1 ls).headD .hole).aG := bW (id := pid) (vs := bR) (hs := bQ) (step := step) (start := fun J => start J (ls.headD .hole).aG ((ar 1 ls).headD .hole).aG) step_eq (fun I => start_eq I ls) n
def md (a0 : List aJ) (a1 : List aJ) : Bool := cU a0 a1
def gd (a0 : List aJ) (a1 : List aJ) : Prop := True
def acc (ls : List L) : List (List L) × List (List L) := ((ls.headD .hole).aG, ((ar 1 ls).headD .hole).aG)
def R : (List (List L) × List (List L)) → Option Bool := RR (p2 gd) (u2 md)
theorem ai {a0 a1} (h : gd a0 a1) : R ((a0.map aJ.row), (a1.map aJ.row)) = some (md a0 a1) := aE (a := (a0, a1)) h
def aK : fe := CN bO res acc R
theorem okF (a0 : List aJ) (a1 : List aJ) (hg : gd a0 a1) (h0 : a0.length ≤ maxLen) (h1 : a1.length ≤ maxLen) : ∃ n, start (iter step n) (a0.map aJ.row) (a1.map aJ.row) = ret ((md a0 a1) : Bool) := by
  unfold start md
  simp only [List.length_map]
  refine iQ (pt := fun i => Pt.p0 (a0.map aJ.row) (a1.map aJ.row) (i : Int)) (fun hl J i h h2 => ?_) (fun J => ?_)
  · simp only [step, MM, List.length_map, aD h, aD h2, ax, cond_true, cg, aJ.da h, aJ.da h2]
    rw [az h h0]
    rw [ba (Z211.ai (a0 := a0[i]) (a1 := a1[i]) trivial), Z211.md]
    cases cU a0[i] a1[i] <;> rfl
  · simp only [step, List.length_map, dK, cond_false]
theorem ab : Valid Tryz.prog Ev 247 aK := VV (run := fun n x => start (iter step n) x.1 x.2) mix au (.cons Z211.ab .nil) Tryz.func247 (by kernel_rfl) run_eq (fun ls a hl e hg => okF a.1 a.2 hg (by have h : (ls.headD .hole).aG.length ≤ maxLen := hl.1.len; have e : a.1.map aJ.row = (ls.headD .hole).aG := (congrArg (fun x => x.1) e.symm); rw [← e] at h; simpa using h) (by have h : ((ar 1 ls).headD .hole).aG.length ≤ maxLen := hl.2.1.len; have e : a.2.map aJ.row = ((ar 1 ls).headD .hole).aG := (congrArg (fun x => x.2) e.symm); rw [← e] at h; simpa using h))
end Z212
namespace Z213
def F (x0 : aC) (x1 : aC) : ay := (call (Z210.R (x0.ae, x1.ae)) fun v1 => (cond (!v1) (ret (false : Bool)) (call (Z212.R (x0.bC, x1.bC)) fun v2 => (cond (!v2) (ret (false : Bool)) (ret (true : Bool))))))
def md (a0 : aa) (a1 : aa) : Bool := cU a0 a1
def gd (a0 : aa) (a1 : aa) : Prop := True
def R := RR (p2 gd) (u2 md)
theorem ai {a0 a1} (h : gd a0 a1) : R ((aa.r a0), (aa.r a1)) = some (md a0 a1) := aE (a := (a0, a1)) h
def aK := CN [.agg iR, .agg iR] oB RT.dec R
theorem okF (a0) (a1) (hg : gd a0 a1) : F (aa.r a0) (aa.r a1) = ret (md a0 a1) := by
 unfold md
 show (call (Z210.R ((aq.r a0.ae), (aq.r a1.ae))) fun v1 => (bif (!v1) then ret (false : Bool) else (call (Z212.R ((a0.bC.map aJ.row), (a1.bC.map aJ.row))) fun v2 => (cond (!v2) (ret (false : Bool)) (ret (true : Bool)))))) = _
 simp only [ba (Z210.ai (a0 := a0.ae) (a1 := a1.ae) trivial), Z210.md]
 simp only [ba (Z212.ai (a0 := a0.bC) (a1 := a1.bC) trivial), Z212.md]
 try simp only [bne, dL, bool_beq, dA]
 have e : cU a0 a1 = (cU a0.ae a1.ae && (cU a0.bC a1.bC && true)) := by
  cases a0; cases a1
  rw [Bool.eq_iff_iff]
  simp only [ca, Bool.and_eq_true, aa.mk.injEq, and_true]
 rw [e]
 refine bI fun _ => ?_
 refine bI fun _ => ?_
 rfl
theorem ab : Valid Tryz.prog Ev 199 aK := W2 17 F mix au okF (.cons Z210.ab (.cons Z212.ab .nil)) Tryz.func199
end Z213
namespace Z214
inductive Pt where
 | p0 (a : List (List L)) (b : List (List L)) (c : Int)
def pid : Pt → Nat
 | .p0 .. => 4
def bR : Pt → List V
 | .p0 a b c => [.sl none 202 a, .sl none 202 b, .int .i64 c]
def bQ : Pt → List aI
 | .p0 a b c => []
def step (J : Pt → ay) : Pt → ay
 | .p0 a b c => (cond (decide (c < (a.length : Int))) (m2 c (a.length : Int) (m2 c (b.length : Int) (call (Z213.R ((aC.at a (Int.toNat c)), (aC.at b (Int.toNat c)))) fun v1 => (cond (!v1) (ret (false : Bool)) (J (.p0 a b (i64.wrap (c + 1)))))))) (ret (true : Bool)))
def start (J : Pt → ay) (x0 : List (List L)) (x1 : List (List L)) : ay := (cond ((x0.length : Int) != (x1.length : Int)) (ret (false : Bool)) (J (.p0 x0 x1 0)))
def live : Nat → Live := fun i => match i with | 4 => [(0, none), (1, none), (5, none)] | _ => []
def bO : List fE := [.rd (.sl 202), .rd (.sl 202)]
def res : RP := .one (.rd (.bool))
abbrev E : Env := { T := assoc lr, G := cK [(199, Z213.aK)], nt := 27 }
theorem step_eq (I : bY) (p : Pt) : cz E live I (pid p) (bo Tryz.f149) (eN (live (pid p)) (bR p) (bQ p)) (bX E Tryz.f149 res) = step (fun q => I (pid q) (bR q) (bQ q)) p := by
 cases p <;> kernel_rfl
theorem start_eq (I : bY) (ls : List L) : ee E live I (bo Tryz.f149) (cG bO ls) (bX E Tryz.f149 res) = start (fun q => I (pid q) (bR q) (bQ q)) (ls.headD .hole).aG ((ar 1 ls).headD .hole).aG := by kernel_rfl
theorem run_eq (n : Nat) (ls : List L) : ea E live Tryz.f149 res n (cG bO ls) = start (iter step n) (ls.headD .hole).aG ((ar 1 ls).headD .hole).aG := bW (id := pid) (vs := bR) (hs := bQ) (step := step) (start := fun J => start J (ls.headD .hole).aG ((ar 1 ls).headD .hole).aG) step_eq (fun I => start_eq I ls) n
def md (a0 : List aa) (a1 : List aa) : Bool := cU a0 a1
def gd (a0 : List aa) (a1 : List aa) : Prop := True
def acc (ls : List L) : List (List L) × List (List L) := ((ls.headD .hole).aG, ((ar 1 ls).headD .hole).aG)
def R : (List (List L) × List (List L)) → Option Bool := RR (p2 gd) (u2 md)
theorem ai {a0 a1} (h : gd a0 a1) : R ((a0.map aa.row), (a1.map aa.row)) = some (md a0 a1) := aE (a := (a0, a1)) h
def aK : fe := CN bO res acc R
theorem okF (a0 : List aa) (a1 : List aa) (hg : gd a0 a1) (h0 : a0.length ≤ maxLen) (h1 : a1.length ≤ maxLen) : ∃ n, start (iter step n) (a0.map aa.row) (a1.map aa.row) = ret ((md a0 a1) : Bool) := by
  unfold start md
  simp only [List.length_map]
  refine iQ (pt := fun i => Pt.p0 (a0.map aa.row) (a1.map aa.row) (i : Int)) (fun hl J i h h2 => ?_) (fun J => ?_)
  · simp only [step, MM, List.length_map, aD h, aD h2, ax, cond_true, cg, aa.da h, aa.da h2]
    rw [az h h0]
    rw [ba (Z213.ai (a0 := a0[i]) (a1 := a1[i]) trivial), Z213.md]
    cases cU a0[i] a1[i] <;> rfl
  · simp only [step, List.length_map, dK, cond_false]
theorem ab : Valid Tryz.prog Ev 149 aK := VV (run := fun n x => start (iter step n) x.1 x.2) mix au (.cons Z213.ab .nil) Tryz.func149 (by kernel_rfl) run_eq (fun ls a hl e hg => okF a.1 a.2 hg (by have h : (ls.headD .hole).aG.length ≤ maxLen := hl.1.len; have e : a.1.map aa.row = (ls.headD .hole).aG := (congrArg (fun x => x.1) e.symm); rw [← e] at h; simpa using h) (by have h : ((ar 1 ls).headD .hole).aG.length ≤ maxLen := hl.2.1.len; have e : a.2.map aa.row = ((ar 1 ls).headD .hole).aG := (congrArg (fun x => x.2) e.symm); rw [← e] at h; simpa using h))
end Z214
namespace Z215
inductive Pt where
 | p0 (a : List (List L)) (b : List (List L)) (c : Int)
def pid : Pt → Nat
 | .p0 .. => 4
def bR : Pt → List V
 | .p0 a b c => [.sl none 116 a, .sl none 116 b, .int .i64 c]
def bQ : Pt → List aI
 | .p0 a b c => []
def step (J : Pt → ay) : Pt → ay
 | .p0 a b c => (cond (decide (c < (a.length : Int))) (m2 c (a.length : Int) (m2 c (b.length : Int) (call (Z214.R ((lA a (Int.toNat c)), (lA b (Int.toNat c)))) fun v1 => (cond (!v1) (ret (false : Bool)) (J (.p0 a b (i64.wrap (c + 1)))))))) (ret (true : Bool)))
def start (J : Pt → ay) (x0 : List (List L)) (x1 : List (List L)) : ay := (cond ((x0.length : Int) != (x1.length : Int)) (ret (false : Bool)) (J (.p0 x0 x1 0)))
def live : Nat → Live := fun i => match i with | 4 => [(0, none), (1, none), (5, none)] | _ => []
def bO : List fE := [.rd (.sl 116), .rd (.sl 116)]
def res : RP := .one (.rd (.bool))
abbrev E : Env := { T := assoc lr, G := cK [(149, Z214.aK)], nt := 27 }
theorem step_eq (I : bY) (p : Pt) : cz E live I (pid p) (bo Tryz.f80) (eN (live (pid p)) (bR p) (bQ p)) (bX E Tryz.f80 res) = step (fun q => I (pid q) (bR q) (bQ q)) p := by
 cases p <;> kernel_rfl
theorem start_eq (I : bY) (ls : List L) : ee E live I (bo Tryz.f80) (cG bO ls) (bX E Tryz.f80 res) = start (fun q => I (pid q) (bR q) (bQ q)) (ls.headD .hole).aG ((ar 1 ls).headD .hole).aG := by kernel_rfl
theorem run_eq (n : Nat) (ls : List L) : ea E live Tryz.f80 res n (cG bO ls) = start (iter step n) (ls.headD .hole).aG ((ar 1 ls).headD .hole).aG := bW (id := pid) (vs := bR) (hs := bQ) (step := step) (start := fun J => start J (ls.headD .hole).aG ((ar 1 ls).headD .hole).aG) step_eq (fun I => start_eq I ls) n
def md (a0 : List (List aa)) (a1 : List (List aa)) : Bool := cU a0 a1
def gd (a0 : List (List aa)) (a1 : List (List aa)) : Prop := True
def acc (ls : List L) : List (List L) × List (List L) := ((ls.headD .hole).aG, ((ar 1 ls).headD .hole).aG)
def R : (List (List L) × List (List L)) → Option Bool := RR (p2 gd) (u2 md)
theorem ai {a0 a1} (h : gd a0 a1) : R ((a0.map (cM aa.row)), (a1.map (cM aa.row))) = some (md a0 a1) := aE (a := (a0, a1)) h
def aK : fe := CN bO res acc R
theorem okF (a0 : List (List aa)) (a1 : List (List aa)) (hg : gd a0 a1) (h0 : a0.length ≤ maxLen) (h1 : a1.length ≤ maxLen) : ∃ n, start (iter step n) (a0.map (cM aa.row)) (a1.map (cM aa.row)) = ret ((md a0 a1) : Bool) := by
  unfold start md
  simp only [List.length_map]
  refine iQ (pt := fun i => Pt.p0 (a0.map (cM aa.row)) (a1.map (cM aa.row)) (i : Int)) (fun hl J i h h2 => ?_) (fun J => ?_)
  · simp only [step, MM, List.length_map, aD h, aD h2, ax, cond_true, cg, mH h, mH h2]
    rw [az h h0]
    rw [ba (Z214.ai (a0 := a0[i]) (a1 := a1[i]) trivial), Z214.md]
    cases cU a0[i] a1[i] <;> rfl
  · simp only [step, List.length_map, dK, cond_false]
theorem ab : Valid Tryz.prog Ev 80 aK := VV (run := fun n x => start (iter step n) x.1 x.2) mix au (.cons Z214.ab .nil) Tryz.func80 (by kernel_rfl) run_eq (fun ls a hl e hg => okF a.1 a.2 hg (by have h : (ls.headD .hole).aG.length ≤ maxLen := hl.1.len; have e : a.1.map (cM aa.row) = (ls.headD .hole).aG := (congrArg (fun x => x.1) e.symm); rw [← e] at h; simpa using h) (by have h : ((ar 1 ls).headD .hole).aG.length ≤ maxLen := hl.2.1.len; have e : a.2.map (cM aa.row) = ((ar 1 ls).headD .hole).aG := (congrArg (fun x => x.2) e.symm); rw [← e] at h; simpa using h))
end Z215
namespace Z216
def F (x0 : aZ) (x1 : aZ) : ay := (call (Z213.R (x0.av, x1.av)) fun v1 => (cond (!v1) (ret (false : Bool)) (call (Z213.R (x0.fA, x1.fA)) fun v2 => (cond (!v2) (ret (false : Bool)) (call (Z213.R (x0.fB, x1.fB)) fun v3 => (cond (!v3) (ret (false : Bool)) (ret (true : Bool))))))))
def md (a0 : ao) (a1 : ao) : Bool := cU a0 a1
def gd (a0 : ao) (a1 : ao) : Prop := True
def R := RR (p2 gd) (u2 md)
theorem ai {a0 a1} (h : gd a0 a1) : R ((ao.r a0), (ao.r a1)) = some (md a0 a1) := aE (a := (a0, a1)) h
def aK := CN [.agg pN, .agg pN] oB RT.dec R
theorem okF (a0) (a1) (hg : gd a0 a1) : F (ao.r a0) (ao.r a1) = ret (md a0 a1) := by
 unfold md
 show (call (Z213.R ((aa.r a0.av), (aa.r a1.av))) fun v1 => (bif (!v1) then ret (false : Bool) else (call (Z213.R ((aa.r a0.fA), (aa.r a1.fA))) fun v2 => (bif (!v2) then ret (false : Bool) else (call (Z213.R ((aa.r a0.fB), (aa.r a1.fB))) fun v3 => (cond (!v3) (ret (false : Bool)) (ret (true : Bool)))))))) = _
 simp only [ba (Z213.ai (a0 := a0.av) (a1 := a1.av) trivial), Z213.md]
 simp only [ba (Z213.ai (a0 := a0.fA) (a1 := a1.fA) trivial), Z213.md]
 simp only [ba (Z213.ai (a0 := a0.fB) (a1 := a1.fB) trivial), Z213.md]
 try simp only [bne, dL, bool_beq, dA]
 have e : cU a0 a1 = (cU a0.av a1.av && (cU a0.fA a1.fA && (cU a0.fB a1.fB && true))) := by
  cases a0; cases a1
  rw [Bool.eq_iff_iff]
  simp only [ca, Bool.and_eq_true, ao.mk.injEq, and_true]
 rw [e]
 refine bI fun _ => ?_
 refine bI fun _ => ?_
 refine bI fun _ => ?_
 rfl
theorem ab : Valid Tryz.prog Ev 150 aK := W2 23 F mix au okF (.cons Z213.ab .nil) Tryz.func150
end Z216
namespace Z217
inductive Pt where
 | p0 (a : List (List L)) (b : List (List L)) (c : Int)
def pid : Pt → Nat
 | .p0 .. => 4
def bR : Pt → List V
 | .p0 a b c => [.sl none 204 a, .sl none 204 b, .int .i64 c]
def bQ : Pt → List aI
 | .p0 a b c => []
def step (J : Pt → ay) : Pt → ay
 | .p0 a b c => (cond (decide (c < (a.length : Int))) (m2 c (a.length : Int) (m2 c (b.length : Int) (call (Z216.R ((aZ.at a (Int.toNat c)), (aZ.at b (Int.toNat c)))) fun v1 => (cond (!v1) (ret (false : Bool)) (J (.p0 a b (i64.wrap (c + 1)))))))) (ret (true : Bool)))
def start (J : Pt → ay) (x0 : List (List L)) (x1 : List (List L)) : ay := (cond ((x0.length : Int) != (x1.length : Int)) (ret (false : Bool)) (J (.p0 x0 x1 0)))
def live : Nat → Live := fun i => match i with | 4 => [(0, none), (1, none), (5, none)] | _ => []
def bO : List fE := [.rd (.sl 204), .rd (.sl 204)]
def res : RP := .one (.rd (.bool))
abbrev E : Env := { T := assoc lr, G := cK [(150, Z216.aK)], nt := 27 }
theorem step_eq (I : bY) (p : Pt) : cz E live I (pid p) (bo Tryz.f81) (eN (live (pid p)) (bR p) (bQ p)) (bX E Tryz.f81 res) = step (fun q => I (pid q) (bR q) (bQ q)) p := by
 cases p <;> kernel_rfl
theorem start_eq (I : bY) (ls : List L) : ee E live I (bo Tryz.f81) (cG bO ls) (bX E Tryz.f81 res) = start (fun q => I (pid q) (bR q) (bQ q)) (ls.headD .hole).aG ((ar 1 ls).headD .hole).aG := by kernel_rfl
theorem run_eq (n : Nat) (ls : List L) : ea E live Tryz.f81 res n (cG bO ls) = start (iter step n) (ls.headD .hole).aG ((ar 1 ls).headD .hole).aG := bW (id := pid) (vs := bR) (hs := bQ) (step := step) (start := fun J => start J (ls.headD .hole).aG ((ar 1 ls).headD .hole).aG) step_eq (fun I => start_eq I ls) n
def md (a0 : List ao) (a1 : List ao) : Bool := cU a0 a1
def gd (a0 : List ao) (a1 : List ao) : Prop := True
def acc (ls : List L) : List (List L) × List (List L) := ((ls.headD .hole).aG, ((ar 1 ls).headD .hole).aG)
def R : (List (List L) × List (List L)) → Option Bool := RR (p2 gd) (u2 md)
theorem ai {a0 a1} (h : gd a0 a1) : R ((a0.map ao.row), (a1.map ao.row)) = some (md a0 a1) := aE (a := (a0, a1)) h
def aK : fe := CN bO res acc R
theorem okF (a0 : List ao) (a1 : List ao) (hg : gd a0 a1) (h0 : a0.length ≤ maxLen) (h1 : a1.length ≤ maxLen) : ∃ n, start (iter step n) (a0.map ao.row) (a1.map ao.row) = ret ((md a0 a1) : Bool) := by
  unfold start md
  simp only [List.length_map]
  refine iQ (pt := fun i => Pt.p0 (a0.map ao.row) (a1.map ao.row) (i : Int)) (fun hl J i h h2 => ?_) (fun J => ?_)
  · simp only [step, MM, List.length_map, aD h, aD h2, ax, cond_true, cg, ao.da h, ao.da h2]
    rw [az h h0]
    rw [ba (Z216.ai (a0 := a0[i]) (a1 := a1[i]) trivial), Z216.md]
    cases cU a0[i] a1[i] <;> rfl
  · simp only [step, List.length_map, dK, cond_false]
theorem ab : Valid Tryz.prog Ev 81 aK := VV (run := fun n x => start (iter step n) x.1 x.2) mix au (.cons Z216.ab .nil) Tryz.func81 (by kernel_rfl) run_eq (fun ls a hl e hg => okF a.1 a.2 hg (by have h : (ls.headD .hole).aG.length ≤ maxLen := hl.1.len; have e : a.1.map ao.row = (ls.headD .hole).aG := (congrArg (fun x => x.1) e.symm); rw [← e] at h; simpa using h) (by have h : ((ar 1 ls).headD .hole).aG.length ≤ maxLen := hl.2.1.len; have e : a.2.map ao.row = ((ar 1 ls).headD .hole).aG := (congrArg (fun x => x.2) e.symm); rw [← e] at h; simpa using h))
end Z217
namespace Z218
def F (x0 : aW) (x1 : aW) : ay := (call (Z215.R (x0.aA, x1.aA)) fun v1 => (cond (!v1) (ret (false : Bool)) (call (Z217.R (x0.aR, x1.aR)) fun v2 => (cond (!v2) (ret (false : Bool)) (ret (true : Bool))))))
def md (a0 : ah) (a1 : ah) : Bool := cU a0 a1
def gd (a0 : ah) (a1 : ah) : Prop := True
def R := RR (p2 gd) (u2 md)
theorem ai {a0 a1} (h : gd a0 a1) : R ((ah.r a0), (ah.r a1)) = some (md a0 a1) := aE (a := (a0, a1)) h
def aK := CN [.agg rh, .agg rh] oB RT.dec R
theorem okF (a0) (a1) (hg : gd a0 a1) : F (ah.r a0) (ah.r a1) = ret (md a0 a1) := by
 unfold md
 show (call (Z215.R ((a0.aA.map (cM aa.row)), (a1.aA.map (cM aa.row)))) fun v1 => (bif (!v1) then ret (false : Bool) else (call (Z217.R ((a0.aR.map ao.row), (a1.aR.map ao.row))) fun v2 => (cond (!v2) (ret (false : Bool)) (ret (true : Bool)))))) = _
 simp only [ba (Z215.ai (a0 := a0.aA) (a1 := a1.aA) trivial), Z215.md]
 simp only [ba (Z217.ai (a0 := a0.aR) (a1 := a1.aR) trivial), Z217.md]
 try simp only [bne, dL, bool_beq, dA]
 have e : cU a0 a1 = (cU a0.aA a1.aA && (cU a0.aR a1.aR && true)) := by
  cases a0; cases a1
  rw [Bool.eq_iff_iff]
  simp only [ca, Bool.and_eq_true, ah.mk.injEq, and_true]
 rw [e]
 refine bI fun _ => ?_
 refine bI fun _ => ?_
 rfl
theorem ab : Valid Tryz.prog Ev 17 aK := W2 17 F mix au okF (.cons Z215.ab (.cons Z217.ab .nil)) Tryz.func17
end Z218
namespace Z219
inductive Pt where
 | p0 (a : List (List L)) (b : List (List L)) (c : Int)
def pid : Pt → Nat
 | .p0 .. => 4
def bR : Pt → List V
 | .p0 a b c => [.sl none 9 a, .sl none 9 b, .int .i64 c]
def bQ : Pt → List aI
 | .p0 a b c => []
def step (J : Pt → ay) : Pt → ay
 | .p0 a b c => (cond (decide (c < (a.length : Int))) (m2 c (a.length : Int) (m2 c (b.length : Int) (cond (!((pc a (Int.toNat c)) == (pc b (Int.toNat c)))) (ret (false : Bool)) (J (.p0 a b (i64.wrap (c + 1))))))) (ret (true : Bool)))
def start (J : Pt → ay) (x0 : List (List L)) (x1 : List (List L)) : ay := (cond ((x0.length : Int) != (x1.length : Int)) (ret (false : Bool)) (J (.p0 x0 x1 0)))
def live : Nat → Live := fun i => match i with | 4 => [(0, none), (1, none), (5, none)] | _ => []
def bO : List fE := [.rd (.sl 9), .rd (.sl 9)]
def res : RP := .one (.rd (.bool))
abbrev E : Env := { T := assoc lr, G := cK [], nt := 26 }
theorem step_eq (I : bY) (p : Pt) : cz E live I (pid p) (bo Tryz.f31) (eN (live (pid p)) (bR p) (bQ p)) (bX E Tryz.f31 res) = step (fun q => I (pid q) (bR q) (bQ q)) p := by
 cases p <;> kernel_rfl
theorem start_eq (I : bY) (ls : List L) : ee E live I (bo Tryz.f31) (cG bO ls) (bX E Tryz.f31 res) = start (fun q => I (pid q) (bR q) (bQ q)) (ls.headD .hole).aG ((ar 1 ls).headD .hole).aG := by kernel_rfl
theorem run_eq (n : Nat) (ls : List L) : ea E live Tryz.f31 res n (cG bO ls) = start (iter step n) (ls.headD .hole).aG ((ar 1 ls).headD .hole).aG := bW (id := pid) (vs := bR) (hs := bQ) (step := step) (start := fun J => start J (ls.headD .hole).aG ((ar 1 ls).headD .hole).aG) step_eq (fun I => start_eq I ls) n
def md (a0 : List ByteArray) (a1 : List ByteArray) : Bool := cU a0 a1
def gd (a0 : List ByteArray) (a1 : List ByteArray) : Prop := True
def acc (ls : List L) : List (List L) × List (List L) := ((ls.headD .hole).aG, ((ar 1 ls).headD .hole).aG)
def R : (List (List L) × List (List L)) → Option Bool := RR (p2 gd) (u2 md)
theorem ai {a0 a1} (h : gd a0 a1) : R ((a0.map cu), (a1.map cu)) = some (md a0 a1) := aE (a := (a0, a1)) h
def aK : fe := CN bO res acc R
theorem okF (a0 : List ByteArray) (a1 : List ByteArray) (hg : gd a0 a1) (h0 : a0.length ≤ maxLen) (h1 : a1.length ≤ maxLen) : ∃ n, start (iter step n) (a0.map cu) (a1.map cu) = ret ((md a0 a1) : Bool) := by
  unfold start md
  simp only [List.length_map]
  refine iQ (pt := fun i => Pt.p0 (a0.map cu) (a1.map cu) (i : Int)) (fun hl J i h h2 => ?_) (fun J => ?_)
  · simp only [step, MM, List.length_map, aD h, aD h2, ax, cond_true, cg, mC h, mC h2]
    rw [az h h0]
    simp only [bne, dL, bool_beq, dA]
    cases cU a0[i] a1[i] <;> rfl
  · simp only [step, List.length_map, dK, cond_false]
theorem ab : Valid Tryz.prog Ev 31 aK := VV (run := fun n x => start (iter step n) x.1 x.2) mix au .nil Tryz.func31 (by kernel_rfl) run_eq (fun ls a hl e hg => okF a.1 a.2 hg (by have h : (ls.headD .hole).aG.length ≤ maxLen := hl.1.len; have e : a.1.map cu = (ls.headD .hole).aG := (congrArg (fun x => x.1) e.symm); rw [← e] at h; simpa using h) (by have h : ((ar 1 ls).headD .hole).aG.length ≤ maxLen := hl.2.1.len; have e : a.2.map cu = ((ar 1 ls).headD .hole).aG := (congrArg (fun x => x.2) e.symm); rw [← e] at h; simpa using h))
end Z219
namespace Z220
def F (x0 : bA) (x1 : bA) : ay := (cond (!(x0.aV == x1.aV)) (ret (false : Bool)) (cond (x0.bg != x1.bg) (ret (false : Bool)) (cond (x0.bE != x1.bE) (ret (false : Bool)) (call (Z219.R (x0.aU, x1.aU)) fun v1 => (cond (!v1) (ret (false : Bool)) (ret (true : Bool)))))))
def md (a0 : aj) (a1 : aj) : Bool := cU a0 a1
def gd (a0 : aj) (a1 : aj) : Prop := True
def R := RR (p2 gd) (u2 md)
theorem ai {a0 a1} (h : gd a0 a1) : R ((aj.r a0), (aj.r a1)) = some (md a0 a1) := aE (a := (a0, a1)) h
def aK := CN [.agg nM, .agg nM] oB RT.dec R
theorem okF (a0) (a1) (hg : gd a0 a1) : F (aj.r a0) (aj.r a1) = ret (md a0 a1) := by
 unfold md
 show (bif (!(a0.aV == a1.aV)) then ret (false : Bool) else (bif (a0.bg != a1.bg) then ret (false : Bool) else (bif (a0.bE != a1.bE) then ret (false : Bool) else (call (Z219.R ((a0.aU.map cu), (a1.aU.map cu))) fun v1 => (cond (!v1) (ret (false : Bool)) (ret (true : Bool))))))) = _
 simp only [ba (Z219.ai (a0 := a0.aU) (a1 := a1.aU) trivial), Z219.md]
 try simp only [bne, dL, bool_beq, dA]
 have e : cU a0 a1 = (cU a0.aV a1.aV && (cU a0.bg a1.bg && (cU a0.bE a1.bE && (cU a0.aU a1.aU && true)))) := by
  cases a0; cases a1
  rw [Bool.eq_iff_iff]
  simp only [ca, Bool.and_eq_true, aj.mk.injEq, and_true]
 rw [e]
 refine bI fun _ => ?_
 refine bI fun _ => ?_
 refine bI fun _ => ?_
 refine bI fun _ => ?_
 rfl
theorem ab : Valid Tryz.prog Ev 78 aK := W2 26 F mix au okF (.cons Z219.ab .nil) Tryz.func78
end Z220
namespace Z221
def F (x0 : bT) (x1 : bT) : ay := (call (Z218.R (x0.cy, x1.cy)) fun v1 => (cond (!v1) (ret (false : Bool)) (cond (!(x0.bu == x1.bu)) (ret (false : Bool)) (call (Z220.R (x0.aH, x1.aH)) fun v2 => (cond (!v2) (ret (false : Bool)) (cond (!(x0.eL == x1.eL)) (ret (false : Bool)) (call (Z208.R (x0.dq, x1.dq)) fun v3 => (cond (!v3) (ret (false : Bool)) (ret (true : Bool))))))))))
def md (a0 : aX) (a1 : aX) : Bool := cU a0 a1
def gd (a0 : aX) (a1 : aX) : Prop := True
def R := RR (p2 gd) (u2 md)
theorem ai {a0 a1} (h : gd a0 a1) : R ((aX.r a0), (aX.r a1)) = some (md a0 a1) := aE (a := (a0, a1)) h
def aK := CN [.agg xd, .agg xd] oB RT.dec R
theorem okF (a0) (a1) (hg : gd a0 a1) : F (aX.r a0) (aX.r a1) = ret (md a0 a1) := by
 unfold md
 show (call (Z218.R ((ah.r a0.cy), (ah.r a1.cy))) fun v1 => (bif (!v1) then ret (false : Bool) else (bif (!(a0.bu == a1.bu)) then ret (false : Bool) else (call (Z220.R ((aj.r a0.aH), (aj.r a1.aH))) fun v2 => (bif (!v2) then ret (false : Bool) else (bif (!(a0.eL == a1.eL)) then ret (false : Bool) else (call (Z208.R ((a0.dq.map aP), (a1.dq.map aP))) fun v3 => (cond (!v3) (ret (false : Bool)) (ret (true : Bool)))))))))) = _
 simp only [ba (Z218.ai (a0 := a0.cy) (a1 := a1.cy) trivial), Z218.md]
 simp only [ba (Z220.ai (a0 := a0.aH) (a1 := a1.aH) trivial), Z220.md]
 simp only [ba (Z208.ai (a0 := a0.dq) (a1 := a1.dq) trivial), Z208.md]
 try simp only [bne, dL, bool_beq, dA]
 have e : cU a0 a1 = (cU a0.cy a1.cy && (cU a0.bu a1.bu && (cU a0.aH a1.aH && (cU a0.eL a1.eL && (cU a0.dq a1.dq && true))))) := by
  cases a0; cases a1
  rw [Bool.eq_iff_iff]
  simp only [ca, Bool.and_eq_true, aX.mk.injEq, and_true]
 rw [e]
 refine bI fun _ => ?_
 refine bI fun _ => ?_
 refine bI fun _ => ?_
 refine bI fun _ => ?_
 refine bI fun _ => ?_
 rfl
theorem ab : Valid Tryz.prog Ev 16 aK := W2 33 F mix au okF (.cons Z218.ab (.cons Z220.ab (.cons Z208.ab .nil))) Tryz.func16
end Z221
namespace Z222
def F (x0 : cn) (x1 : cn) : ay := (cond (x0.cX != x1.cX) (ret (false : Bool)) (call (Z208.R (x0.aU, x1.aU)) fun v1 => (cond (!v1) (ret (false : Bool)) (ret (true : Bool)))))
def md (a0 : aB) (a1 : aB) : Bool := cU a0 a1
def gd (a0 : aB) (a1 : aB) : Prop := True
def R := RR (p2 gd) (u2 md)
theorem ai {a0 a1} (h : gd a0 a1) : R ((aB.r a0), (aB.r a1)) = some (md a0 a1) := aE (a := (a0, a1)) h
def aK := CN [.agg mn, .agg mn] oB RT.dec R
theorem okF (a0) (a1) (hg : gd a0 a1) : F (aB.r a0) (aB.r a1) = ret (md a0 a1) := by
 unfold md
 show (bif (a0.cX != a1.cX) then ret (false : Bool) else (call (Z208.R ((a0.aU.map aP), (a1.aU.map aP))) fun v1 => (cond (!v1) (ret (false : Bool)) (ret (true : Bool))))) = _
 simp only [ba (Z208.ai (a0 := a0.aU) (a1 := a1.aU) trivial), Z208.md]
 try simp only [bne, dL, bool_beq, dA]
 have e : cU a0 a1 = (cU a0.cX a1.cX && (cU a0.aU a1.aU && true)) := by
  cases a0; cases a1
  rw [Bool.eq_iff_iff]
  simp only [ca, Bool.and_eq_true, aB.mk.injEq, and_true]
 rw [e]
 refine bI fun _ => ?_
 refine bI fun _ => ?_
 rfl
theorem ab : Valid Tryz.prog Ev 151 aK := W2 16 F mix au okF (.cons Z208.ab .nil) Tryz.func151
end Z222
namespace Z223
def F (x0 : eI) (x1 : eI) : ay := (cond (x0.cX != x1.cX) (ret (false : Bool)) (call (Z220.R (x0.av, x1.av)) fun v1 => (cond (!v1) (ret (false : Bool)) (call (Z220.R (x0.bm, x1.bm)) fun v2 => (cond (!v2) (ret (false : Bool)) (call (Z222.R (x0.cq, x1.cq)) fun v3 => (cond (!v3) (ret (false : Bool)) (call (Z222.R (x0.bD, x1.bD)) fun v4 => (cond (!v4) (ret (false : Bool)) (ret (true : Bool)))))))))))
def md (a0 : bt) (a1 : bt) : Bool := cU a0 a1
def gd (a0 : bt) (a1 : bt) : Prop := True
def R := RR (p2 gd) (u2 md)
theorem ai {a0 a1} (h : gd a0 a1) : R ((bt.r a0), (bt.r a1)) = some (md a0 a1) := aE (a := (a0, a1)) h
def aK := CN [.agg pw, .agg pw] oB RT.dec R
theorem okF (a0) (a1) (hg : gd a0 a1) : F (bt.r a0) (bt.r a1) = ret (md a0 a1) := by
 unfold md
 show (bif (a0.cX != a1.cX) then ret (false : Bool) else (call (Z220.R ((aj.r a0.av), (aj.r a1.av))) fun v1 => (bif (!v1) then ret (false : Bool) else (call (Z220.R ((aj.r a0.bm), (aj.r a1.bm))) fun v2 => (bif (!v2) then ret (false : Bool) else (call (Z222.R ((aB.r a0.cq), (aB.r a1.cq))) fun v3 => (bif (!v3) then ret (false : Bool) else (call (Z222.R ((aB.r a0.bD), (aB.r a1.bD))) fun v4 => (cond (!v4) (ret (false : Bool)) (ret (true : Bool))))))))))) = _
 simp only [ba (Z220.ai (a0 := a0.av) (a1 := a1.av) trivial), Z220.md]
 simp only [ba (Z220.ai (a0 := a0.bm) (a1 := a1.bm) trivial), Z220.md]
 simp only [ba (Z222.ai (a0 := a0.cq) (a1 := a1.cq) trivial), Z222.md]
 simp only [ba (Z222.ai (a0 := a0.bD) (a1 := a1.bD) trivial), Z222.md]
 try simp only [bne, dL, bool_beq, dA]
 have e : cU a0 a1 = (cU a0.cX a1.cX && (cU a0.av a1.av && (cU a0.bm a1.bm && (cU a0.cq a1.cq && (cU a0.bD a1.bD && true))))) := by
  cases a0; cases a1
  rw [Bool.eq_iff_iff]
  simp only [ca, Bool.and_eq_true, bt.mk.injEq, and_true]
 rw [e]
 refine bI fun _ => ?_
 refine bI fun _ => ?_
 refine bI fun _ => ?_
 refine bI fun _ => ?_
 refine bI fun _ => ?_
 rfl
theorem ab : Valid Tryz.prog Ev 152 aK := W2 34 F mix au okF (.cons Z220.ab (.cons Z222.ab .nil)) Tryz.func152
end Z223
namespace Z224
def F (x0 : bd) (x1 : bd) : ay := (call (Z214.R (x0.aL, x1.aL)) fun v1 => (cond (!v1) (ret (false : Bool)) (cond (!(x0.bu == x1.bu)) (ret (false : Bool)) (call (Z220.R (x0.aH, x1.aH)) fun v2 => (cond (!v2) (ret (false : Bool)) (call (Z222.R (x0.cE, x1.cE)) fun v3 => (cond (!v3) (ret (false : Bool)) (call (Z223.R (x0.cL, x1.cL)) fun v4 => (cond (!v4) (ret (false : Bool)) (ret (true : Bool)))))))))))
def md (a0 : ad) (a1 : ad) : Bool := cU a0 a1
def gd (a0 : ad) (a1 : ad) : Prop := True
def R := RR (p2 gd) (u2 md)
theorem ai {a0 a1} (h : gd a0 a1) : R ((ad.r a0), (ad.r a1)) = some (md a0 a1) := aE (a := (a0, a1)) h
def aK := CN [.agg rj, .agg rj] oB RT.dec R
theorem okF (a0) (a1) (hg : gd a0 a1) : F (ad.r a0) (ad.r a1) = ret (md a0 a1) := by
 unfold md
 show (call (Z214.R ((a0.aL.map aa.row), (a1.aL.map aa.row))) fun v1 => (bif (!v1) then ret (false : Bool) else (bif (!(a0.bu == a1.bu)) then ret (false : Bool) else (call (Z220.R ((aj.r a0.aH), (aj.r a1.aH))) fun v2 => (bif (!v2) then ret (false : Bool) else (call (Z222.R ((aB.r a0.cE), (aB.r a1.cE))) fun v3 => (bif (!v3) then ret (false : Bool) else (call (Z223.R ((bt.r a0.cL), (bt.r a1.cL))) fun v4 => (cond (!v4) (ret (false : Bool)) (ret (true : Bool))))))))))) = _
 simp only [ba (Z214.ai (a0 := a0.aL) (a1 := a1.aL) trivial), Z214.md]
 simp only [ba (Z220.ai (a0 := a0.aH) (a1 := a1.aH) trivial), Z220.md]
 simp only [ba (Z222.ai (a0 := a0.cE) (a1 := a1.cE) trivial), Z222.md]
 simp only [ba (Z223.ai (a0 := a0.cL) (a1 := a1.cL) trivial), Z223.md]
 try simp only [bne, dL, bool_beq, dA]
 have e : cU a0 a1 = (cU a0.aL a1.aL && (cU a0.bu a1.bu && (cU a0.aH a1.aH && (cU a0.cE a1.cE && (cU a0.cL a1.cL && true))))) := by
  cases a0; cases a1
  rw [Bool.eq_iff_iff]
  simp only [ca, Bool.and_eq_true, ad.mk.injEq, and_true]
 rw [e]
 refine bI fun _ => ?_
 refine bI fun _ => ?_
 refine bI fun _ => ?_
 refine bI fun _ => ?_
 refine bI fun _ => ?_
 rfl
theorem ab : Valid Tryz.prog Ev 82 aK := W2 34 F mix au okF (.cons Z214.ab (.cons Z220.ab (.cons Z222.ab (.cons Z223.ab .nil)))) Tryz.func82
end Z224
namespace Z225
inductive Pt where
 | p0 (a : List (List L)) (b : List (List L)) (c : Int)
def pid : Pt → Nat
 | .p0 .. => 4
def bR : Pt → List V
 | .p0 a b c => [.sl none 121 a, .sl none 121 b, .int .i64 c]
def bQ : Pt → List aI
 | .p0 a b c => []
def step (J : Pt → ay) : Pt → ay
 | .p0 a b c => (cond (decide (c < (a.length : Int))) (m2 c (a.length : Int) (m2 c (b.length : Int) (call (Z224.R ((bd.at a (Int.toNat c)), (bd.at b (Int.toNat c)))) fun v1 => (cond (!v1) (ret (false : Bool)) (J (.p0 a b (i64.wrap (c + 1)))))))) (ret (true : Bool)))
def start (J : Pt → ay) (x0 : List (List L)) (x1 : List (List L)) : ay := (cond ((x0.length : Int) != (x1.length : Int)) (ret (false : Bool)) (J (.p0 x0 x1 0)))
def live : Nat → Live := fun i => match i with | 4 => [(0, none), (1, none), (5, none)] | _ => []
def bO : List fE := [.rd (.sl 121), .rd (.sl 121)]
def res : RP := .one (.rd (.bool))
abbrev E : Env := { T := assoc lr, G := cK [(82, Z224.aK)], nt := 27 }
theorem step_eq (I : bY) (p : Pt) : cz E live I (pid p) (bo Tryz.f18) (eN (live (pid p)) (bR p) (bQ p)) (bX E Tryz.f18 res) = step (fun q => I (pid q) (bR q) (bQ q)) p := by
 cases p <;> kernel_rfl
theorem start_eq (I : bY) (ls : List L) : ee E live I (bo Tryz.f18) (cG bO ls) (bX E Tryz.f18 res) = start (fun q => I (pid q) (bR q) (bQ q)) (ls.headD .hole).aG ((ar 1 ls).headD .hole).aG := by kernel_rfl
theorem run_eq (n : Nat) (ls : List L) : ea E live Tryz.f18 res n (cG bO ls) = start (iter step n) (ls.headD .hole).aG ((ar 1 ls).headD .hole).aG := bW (id := pid) (vs := bR) (hs := bQ) (step := step) (start := fun J => start J (ls.headD .hole).aG ((ar 1 ls).headD .hole).aG) step_eq (fun I => start_eq I ls) n
def md (a0 : List ad) (a1 : List ad) : Bool := cU a0 a1
def gd (a0 : List ad) (a1 : List ad) : Prop := True
def acc (ls : List L) : List (List L) × List (List L) := ((ls.headD .hole).aG, ((ar 1 ls).headD .hole).aG)
def R : (List (List L) × List (List L)) → Option Bool := RR (p2 gd) (u2 md)
theorem ai {a0 a1} (h : gd a0 a1) : R ((a0.map ad.row), (a1.map ad.row)) = some (md a0 a1) := aE (a := (a0, a1)) h
def aK : fe := CN bO res acc R
theorem okF (a0 : List ad) (a1 : List ad) (hg : gd a0 a1) (h0 : a0.length ≤ maxLen) (h1 : a1.length ≤ maxLen) : ∃ n, start (iter step n) (a0.map ad.row) (a1.map ad.row) = ret ((md a0 a1) : Bool) := by
  unfold start md
  simp only [List.length_map]
  refine iQ (pt := fun i => Pt.p0 (a0.map ad.row) (a1.map ad.row) (i : Int)) (fun hl J i h h2 => ?_) (fun J => ?_)
  · simp only [step, MM, List.length_map, aD h, aD h2, ax, cond_true, cg, ad.da h, ad.da h2]
    rw [az h h0]
    rw [ba (Z224.ai (a0 := a0[i]) (a1 := a1[i]) trivial), Z224.md]
    cases cU a0[i] a1[i] <;> rfl
  · simp only [step, List.length_map, dK, cond_false]
theorem ab : Valid Tryz.prog Ev 18 aK := VV (run := fun n x => start (iter step n) x.1 x.2) mix au (.cons Z224.ab .nil) Tryz.func18 (by kernel_rfl) run_eq (fun ls a hl e hg => okF a.1 a.2 hg (by have h : (ls.headD .hole).aG.length ≤ maxLen := hl.1.len; have e : a.1.map ad.row = (ls.headD .hole).aG := (congrArg (fun x => x.1) e.symm); rw [← e] at h; simpa using h) (by have h : ((ar 1 ls).headD .hole).aG.length ≤ maxLen := hl.2.1.len; have e : a.2.map ad.row = ((ar 1 ls).headD .hole).aG := (congrArg (fun x => x.2) e.symm); rw [← e] at h; simpa using h))
end Z225
namespace Z226
set_option maxHeartbeats 8000000
inductive Pt where
 | p0 (a : Int) (b : Int) (c : List (List L))
def pid : Pt → Nat
 | .p0 .. => 2
def bR : Pt → List V
 | .p0 a b c => [.own 0, .int .i64 a, .int .i64 b]
def bQ : Pt → List aI
 | .p0 a b c => [.row 3 c]
def step (J : Pt → ay) : Pt → ay
 | .p0 a b c => (cond (decide (b < (c.length : Int))) (m2 b (c.length : Int) (J (.p0 (i64.wrap (a + 1)) (i64.wrap (b + 1)) (List.set c (Int.toNat b) [L.int a])))) (ret ((a, c) : Int × List (List L))))
def start (J : Pt → ay) (x0 : List (List L)) (x1 : Int) : ay := J (.p0 x1 0 x0)
def live : Nat → Live := fun i => match i with | 2 => [(0, none), (1, none), (5, none)] | _ => []
def bO : List (Bool × List K) := [(false, [.sl 3]), (false, [.int .i64])]
def res : RP := .mj [3]
abbrev E : Env := { T := assoc lr, G := cK [], nt := 19, M := fb [], np := 1, mt := true }
theorem step_eq (I : bY) (p : Pt) : cz E live I (pid p) (bo Tryz.f87) (eN (live (pid p)) (bR p) (bQ p)) (bX E Tryz.f87 res) = step (fun q => I (pid q) (bR q) (bQ q)) p := by
 cases p <;> kernel_rfl
theorem start_eq (I : bY) (ls : List L) : ee E live I (bo Tryz.f87) (gm bO ls) (bX E Tryz.f87 res) = start (fun q => I (pid q) (bR q) (bQ q)) (ls.headD .hole).aG ((ar 1 ls).headD .hole).toInt := by kernel_rfl
theorem run_eq (n : Nat) (ls : List L) : ea E live Tryz.f87 res n (gm bO ls) = start (iter step n) (ls.headD .hole).aG ((ar 1 ls).headD .hole).toInt := bW (id := pid) (vs := bR) (hs := bQ) (step := step) (start := fun J => start J (ls.headD .hole).aG ((ar 1 ls).headD .hole).toInt) step_eq (fun I => start_eq I ls) n
def el (x : Int) (k : Int) : Int × Int := ((i64.wrap (k + 1)), (k))
theorem iC (x : Int) (k : Int) (hk : dI k) : dI (el x k).1 := (bz _)
def eD (x : Int) : Nat := 1
def sum (a : List Int) : Nat := (a.map eD).sum
def md (a0 : List Int) (a1 : Int) : Int × List Int := ir el a0 a1
def gd (a0 : List Int) (a1 : Int) : Prop := dI a1
def acc (ls : List L) : List (List L) × Int := ((ls.headD .hole).aG, ((ar 1 ls).headD .hole).toInt)
def R : (List (List L) × Int) → Option (Int × List (List L)) := RR (p2 gd) (u2 md)
theorem ai {a0 a1} (h : gd a0 a1) : R ((a0.map aP), a1) = some ((md a0 a1).1, ((md a0 a1).2.map aP)) := aE (a := (a0, a1)) h
def aK : fN := MN bO acc R
theorem okF (a0 : List Int) (a1 : Int) (hg : gd a0 a1) (h0 : a0.length ≤ maxLen) : ∃ n, start (iter step n) (a0.map aP) a1 = ret (((md a0 a1).1, ((md a0 a1).2.map aP)) : Int × List (List L)) := by
  unfold gd at hg
  show ∃ n, iter step n (Pt.p0 a1 0 (a0.map aP)) = _
  unfold md
  refine fU (el := el) (xs := a0) 0 dI iC (pt := fun i k c => Pt.p0 k (i : Int) (c.map aP)) (out := fun b => ret (b.1, b.2.map aP)) (fun J i k c hi hc hk => ?_) (fun J k c hc => ?_) hg
  · have hm : c.length ≤ maxLen := hc ▸ h0
    simp only [step, SS]
    refine af (aD hi) ?_
    refine af ax ?_
    refine af (aD hi) ?_
    rw [az hi hm]
    exact congrArg (fun q => J (Pt.p0 (el (c.getD i 0) k).1 ((i + 1 : Nat) : Int) q)) (List.map_set (f := aP) (l := c) (i := i) (a := (el (c.getD i 0) k).2)).symm
  · simp only [step, SS]
    refine bZ (by apply decide_eq_false; omega) ?_
    rfl
theorem ab : dR Tryz.prog Ev 87 aK := MV (run := fun n x => start (iter step n) x.1 x.2) mix au .nil .nil Tryz.func87 (by kernel_rfl) run_eq (fun ls a hl e hg => okF a.1 a.2 hg (by have h : (ls.headD .hole).aG.length ≤ maxLen := (hl _ _ (.head _)).len; have e : a.1.map aP = (ls.headD .hole).aG := (congrArg (fun x => x.1) e.symm); rw [← e] at h; simpa using h))
theorem iq {a0 : List Int} {a1 : Int} (h : dI a1) : dI (md a0 a1).1 := jv iC h
theorem oY (x : Int) (k : Int) (h0 : 0 ≤ k) (hb : k + (eD x : Int) ≤ 4611686018427387904) : (el x k).1 = k + eD x := by
 simp only [eD, Int.natCast_add] at hb ⊢
 simp (disch := omega) only [el, wi]
 all_goals first | done | omega
theorem kk (a0 : List Int) (a1 : Int) (h0 : 0 ≤ a1) (hb : a1 + (sum a0 : Int) ≤ 4611686018427387904) : (md a0 a1).1 = a1 + sum a0 := gh oY a0 a1 h0 hb
theorem sz (a : List Int) : sum a ≤ 60 * (di (fun y : Int => 0) a) := jz (fun x => by
  try simp only [eD] at *
  omega) a
end Z226
namespace Z227
set_option maxHeartbeats 8000000
inductive Pt where
 | p0 (a : Int) (b : Int) (c : List (List L))
def pid : Pt → Nat
 | .p0 .. => 2
def bR : Pt → List V
 | .p0 a b c => [.own 0, .int .i64 a, .int .i64 b]
def bQ : Pt → List aI
 | .p0 a b c => [.row 264 c]
def step (J : Pt → ay) : Pt → ay
 | .p0 a b c => (cond (decide (b < (c.length : Int))) (m2 b (c.length : Int) (m2 b (c.length : Int) (bJ (Nat.beq (Int.toNat b) (Int.toNat b) && true) (J (.p0 (i64.wrap ((i64.wrap (a + 1)) + 1)) (i64.wrap (b + 1)) (List.set c (Int.toNat b) (aJ.enc (⟨a, (i64.wrap (a + 1))⟩ : aJ)))))))) (ret ((a, c) : Int × List (List L))))
def start (J : Pt → ay) (x0 : List (List L)) (x1 : Int) : ay := J (.p0 x1 0 x0)
def live : Nat → Live := fun i => match i with | 2 => [(0, none), (1, none), (5, none)] | _ => []
def bO : List (Bool × List K) := [(false, [.sl 264]), (false, [.int .i64])]
def res : RP := .mj [264]
abbrev E : Env := { T := assoc lr, G := cK [], nt := 27, M := fb [], np := 1, mt := true }
theorem step_eq (I : bY) (p : Pt) : cz E live I (pid p) (bo Tryz.f153) (eN (live (pid p)) (bR p) (bQ p)) (bX E Tryz.f153 res) = step (fun q => I (pid q) (bR q) (bQ q)) p := by
 cases p <;> kernel_rfl
theorem start_eq (I : bY) (ls : List L) : ee E live I (bo Tryz.f153) (gm bO ls) (bX E Tryz.f153 res) = start (fun q => I (pid q) (bR q) (bQ q)) (ls.headD .hole).aG ((ar 1 ls).headD .hole).toInt := by kernel_rfl
theorem run_eq (n : Nat) (ls : List L) : ea E live Tryz.f153 res n (gm bO ls) = start (iter step n) (ls.headD .hole).aG ((ar 1 ls).headD .hole).toInt := bW (id := pid) (vs := bR) (hs := bQ) (step := step) (start := fun J => start J (ls.headD .hole).aG ((ar 1 ls).headD .hole).toInt) step_eq (fun I => start_eq I ls) n
def el (x : aJ) (k : Int) : Int × aJ := ((i64.wrap ((i64.wrap (k + 1)) + 1)), (⟨k, (i64.wrap (k + 1))⟩ : aJ))
theorem iC (x : aJ) (k : Int) (hk : dI k) : dI (el x k).1 := (bz _)
def eD (x : aJ) : Nat := 2
def sum (a : List aJ) : Nat := (a.map eD).sum
def md (a0 : List aJ) (a1 : Int) : Int × List aJ := ir el a0 a1
def gd (a0 : List aJ) (a1 : Int) : Prop := dI a1
def acc (ls : List L) : List (List L) × Int := ((ls.headD .hole).aG, ((ar 1 ls).headD .hole).toInt)
def R : (List (List L) × Int) → Option (Int × List (List L)) := RR (p2 gd) (u2 md)
theorem ai {a0 a1} (h : gd a0 a1) : R ((a0.map aJ.row), a1) = some ((md a0 a1).1, ((md a0 a1).2.map aJ.row)) := aE (a := (a0, a1)) h
def aK : fN := MN bO acc R
theorem okF (a0 : List aJ) (a1 : Int) (hg : gd a0 a1) (h0 : a0.length ≤ maxLen) : ∃ n, start (iter step n) (a0.map aJ.row) a1 = ret (((md a0 a1).1, ((md a0 a1).2.map aJ.row)) : Int × List (List L)) := by
  unfold gd at hg
  show ∃ n, iter step n (Pt.p0 a1 0 (a0.map aJ.row)) = _
  unfold md
  refine fU (el := el) (xs := a0) aJ.zero dI iC (pt := fun i k c => Pt.p0 k (i : Int) (c.map aJ.row)) (out := fun b => ret (b.1, b.2.map aJ.row)) (fun J i k c hi hc hk => ?_) (fun J k c hc => ?_) hg
  · have hm : c.length ≤ maxLen := hc ▸ h0
    simp only [step, SS]
    refine af (aD hi) ?_
    repeat first | refine af ax ?_ | refine af (aD hi) ?_ | refine af (eB _) ?_
    rw [az hi hm]
    exact congrArg (fun q => J (Pt.p0 (el (c.getD i aJ.zero) k).1 ((i + 1 : Nat) : Int) q)) (List.map_set (f := aJ.row) (l := c) (i := i) (a := (el (c.getD i aJ.zero) k).2)).symm
  · simp only [step, SS]
    refine bZ (by apply decide_eq_false; omega) ?_
    rfl
theorem ab : dR Tryz.prog Ev 153 aK := MV (run := fun n x => start (iter step n) x.1 x.2) mix au .nil .nil Tryz.func153 (by kernel_rfl) run_eq (fun ls a hl e hg => okF a.1 a.2 hg (by have h : (ls.headD .hole).aG.length ≤ maxLen := (hl _ _ (.head _)).len; have e : a.1.map aJ.row = (ls.headD .hole).aG := (congrArg (fun x => x.1) e.symm); rw [← e] at h; simpa using h))
theorem iq {a0 : List aJ} {a1 : Int} (h : dI a1) : dI (md a0 a1).1 := jv iC h
theorem oY (x : aJ) (k : Int) (h0 : 0 ≤ k) (hb : k + (eD x : Int) ≤ 4611686018427387904) : (el x k).1 = k + eD x := by
 simp only [eD, Int.natCast_add] at hb ⊢
 simp (disch := omega) only [el, wi]
 all_goals first | done | omega
theorem kk (a0 : List aJ) (a1 : Int) (h0 : 0 ≤ a1) (hb : a1 + (sum a0 : Int) ≤ 4611686018427387904) : (md a0 a1).1 = a1 + sum a0 := gh oY a0 a1 h0 hb
theorem sz (a : List aJ) : sum a ≤ 60 * (di (fun y : aJ => aJ.size y) a) := jz (fun x => by
  try simp only [eD, aJ.size] at *
  omega) a
end Z227
namespace Z228
set_option maxHeartbeats 8000000
inductive Pt where
 | p0 (a : Int) (b : Int) (c : List (List L))
def pid : Pt → Nat
 | .p0 .. => 2
def bR : Pt → List V
 | .p0 a b c => [.own 0, .int .i64 a, .int .i64 b]
def bQ : Pt → List aI
 | .p0 a b c => [.row 202 c]
def step (J : Pt → ay) : Pt → ay
 | .p0 a b c => (cond (decide (b < (c.length : Int))) (m2 b (c.length : Int) (m2 b (c.length : Int) (bJ (Nat.beq (Int.toNat b) (Int.toNat b) && true) (m2 b (c.length : Int) (bJ (Nat.beq (Int.toNat b) (Int.toNat b) && true) (m2 b (c.length : Int) (bJ (Nat.beq (Int.toNat b) (Int.toNat b) && true) (m2 b (c.length : Int) (bJ (Nat.beq (Int.toNat b) (Int.toNat b) && true) (m2 b (c.length : Int) (bJ (Nat.beq (Int.toNat b) (Int.toNat b) && true) (m2 b (c.length : Int) (bJ (Nat.beq (Int.toNat b) (Int.toNat b) && true) (m2 b (c.length : Int) (bJ (Nat.beq (Int.toNat b) (Int.toNat b) && true) (m2 b (c.length : Int) (bJ (Nat.beq (Int.toNat b) (Int.toNat b) && true) (bJ (Nat.beq (Int.toNat b) (Int.toNat b) && true) (call (Z226.R ((aC.at c (Int.toNat b)).ae.bh.aF, (i64.wrap ((i64.wrap ((i64.wrap ((i64.wrap ((i64.wrap ((i64.wrap ((i64.wrap ((i64.wrap (a + 1)) + 1)) + 1)) + 1)) + 1)) + 1)) + 1)) + 1)))) fun v1 => (m2 b (c.length : Int) (bJ (Nat.beq (Int.toNat b) (Int.toNat b) && true) (m2 b (c.length : Int) (bJ (Nat.beq (Int.toNat b) (Int.toNat b) && true) (bJ (Nat.beq (Int.toNat b) (Int.toNat b) && true) (call (Z226.R ((aC.at c (Int.toNat b)).ae.aQ.aF, (i64.wrap (v1.1 + 1)))) fun v2 => (m2 b (c.length : Int) (bJ (Nat.beq (Int.toNat b) (Int.toNat b) && true) (m2 b (c.length : Int) (bJ (Nat.beq (Int.toNat b) (Int.toNat b) && true) (m2 b (c.length : Int) (bJ (Nat.beq (Int.toNat b) (Int.toNat b) && true) (bJ (Nat.beq (Int.toNat b) (Int.toNat b) && true) (call (Z226.R ((aC.at c (Int.toNat b)).ae.aM.aF, (i64.wrap ((i64.wrap (v2.1 + 1)) + 1)))) fun v3 => (m2 b (c.length : Int) (bJ (Nat.beq (Int.toNat b) (Int.toNat b) && true) (m2 b (c.length : Int) (bJ (Nat.beq (Int.toNat b) (Int.toNat b) && true) (m2 b (c.length : Int) (bJ (Nat.beq (Int.toNat b) (Int.toNat b) && true) (bJ (Nat.beq (Int.toNat b) (Int.toNat b) && true) (call (Z227.R ((aC.at c (Int.toNat b)).bC, (i64.wrap ((i64.wrap (v3.1 + 1)) + 1)))) fun v4 => J (.p0 v4.1 (i64.wrap (b + 1)) (List.set c (Int.toNat b) (aC.enc (⟨(⟨a, (i64.wrap (a + 1)), (i64.wrap ((i64.wrap (a + 1)) + 1)), (i64.wrap ((i64.wrap ((i64.wrap (a + 1)) + 1)) + 1)), (i64.wrap ((i64.wrap ((i64.wrap ((i64.wrap (a + 1)) + 1)) + 1)) + 1)), (i64.wrap ((i64.wrap ((i64.wrap ((i64.wrap ((i64.wrap (a + 1)) + 1)) + 1)) + 1)) + 1)), (i64.wrap ((i64.wrap ((i64.wrap ((i64.wrap ((i64.wrap ((i64.wrap (a + 1)) + 1)) + 1)) + 1)) + 1)) + 1)), (i64.wrap ((i64.wrap ((i64.wrap ((i64.wrap ((i64.wrap ((i64.wrap ((i64.wrap (a + 1)) + 1)) + 1)) + 1)) + 1)) + 1)) + 1)), (⟨v1.2, v1.1⟩ : aO), (⟨v2.2, v2.1⟩ : aO), (i64.wrap (v2.1 + 1)), (⟨v3.2, v3.1⟩ : aO), ((Int.tmod (i64.wrap (v3.1 + 1)) 3) == 0)⟩ : bq), v4.2⟩ : aC))))))))))))))))))))))))))))))))))))))))))))) (ret ((a, c) : Int × List (List L))))
def start (J : Pt → ay) (x0 : List (List L)) (x1 : Int) : ay := J (.p0 x1 0 x0)
def live : Nat → Live := fun i => match i with | 2 => [(0, none), (1, none), (5, none)] | _ => []
def bO : List (Bool × List K) := [(false, [.sl 202]), (false, [.int .i64])]
def res : RP := .mj [202]
abbrev E : Env := { T := assoc lr, G := cK [], nt := 156, M := fb [(87, Z226.aK), (153, Z227.aK)], np := 1, mt := true }
theorem step_eq (I : bY) (p : Pt) : cz E live I (pid p) (bo Tryz.f85) (eN (live (pid p)) (bR p) (bQ p)) (bX E Tryz.f85 res) = step (fun q => I (pid q) (bR q) (bQ q)) p := by
 cases p <;> kernel_rfl
theorem start_eq (I : bY) (ls : List L) : ee E live I (bo Tryz.f85) (gm bO ls) (bX E Tryz.f85 res) = start (fun q => I (pid q) (bR q) (bQ q)) (ls.headD .hole).aG ((ar 1 ls).headD .hole).toInt := by kernel_rfl
theorem run_eq (n : Nat) (ls : List L) : ea E live Tryz.f85 res n (gm bO ls) = start (iter step n) (ls.headD .hole).aG ((ar 1 ls).headD .hole).toInt := bW (id := pid) (vs := bR) (hs := bQ) (step := step) (start := fun J => start J (ls.headD .hole).aG ((ar 1 ls).headD .hole).toInt) step_eq (fun I => start_eq I ls) n
def e1 (x : aa) (k : Int) := Z226.md (((x.ae).bh).aF) (i64.wrap ((i64.wrap ((i64.wrap ((i64.wrap ((i64.wrap ((i64.wrap ((i64.wrap ((i64.wrap (k + 1)) + 1)) + 1)) + 1)) + 1)) + 1)) + 1)) + 1))
def e2 (x : aa) (k : Int) := Z226.md (((x.ae).aQ).aF) (i64.wrap ((e1 x k).1 + 1))
def e3 (x : aa) (k : Int) := Z226.md (((x.ae).aM).aF) (i64.wrap ((i64.wrap ((e2 x k).1 + 1)) + 1))
def e4 (x : aa) (k : Int) := Z227.md x.bC (i64.wrap ((i64.wrap ((e3 x k).1 + 1)) + 1))
def el (x : aa) (k : Int) : Int × aa := ((e4 x k).1, (⟨(⟨k, (i64.wrap (k + 1)), (i64.wrap ((i64.wrap (k + 1)) + 1)), (i64.wrap ((i64.wrap ((i64.wrap (k + 1)) + 1)) + 1)), (i64.wrap ((i64.wrap ((i64.wrap ((i64.wrap (k + 1)) + 1)) + 1)) + 1)), (i64.wrap ((i64.wrap ((i64.wrap ((i64.wrap ((i64.wrap (k + 1)) + 1)) + 1)) + 1)) + 1)), (i64.wrap ((i64.wrap ((i64.wrap ((i64.wrap ((i64.wrap ((i64.wrap (k + 1)) + 1)) + 1)) + 1)) + 1)) + 1)), (i64.wrap ((i64.wrap ((i64.wrap ((i64.wrap ((i64.wrap ((i64.wrap ((i64.wrap (k + 1)) + 1)) + 1)) + 1)) + 1)) + 1)) + 1)), (⟨(e1 x k).2, (e1 x k).1⟩ : aw), (⟨(e2 x k).2, (e2 x k).1⟩ : aw), (i64.wrap ((e2 x k).1 + 1)), (⟨(e3 x k).2, (e3 x k).1⟩ : aw), ((Int.tmod (i64.wrap ((e3 x k).1 + 1)) 3) == 0)⟩ : aq), (e4 x k).2⟩ : aa))
theorem iC (x : aa) (k : Int) (hk : dI k) : dI (el x k).1 := (Z227.iq (bz _))
def eD (x : aa) : Nat := 13 + Z226.sum (((x.ae).bh).aF) + Z226.sum (((x.ae).aQ).aF) + Z226.sum (((x.ae).aM).aF) + Z227.sum x.bC
def sum (a : List aa) : Nat := (a.map eD).sum
def md (a0 : List aa) (a1 : Int) : Int × List aa := ir el a0 a1
def gd (a0 : List aa) (a1 : Int) : Prop := dI a1
def acc (ls : List L) : List (List L) × Int := ((ls.headD .hole).aG, ((ar 1 ls).headD .hole).toInt)
def R : (List (List L) × Int) → Option (Int × List (List L)) := RR (p2 gd) (u2 md)
theorem ai {a0 a1} (h : gd a0 a1) : R ((a0.map aa.row), a1) = some ((md a0 a1).1, ((md a0 a1).2.map aa.row)) := aE (a := (a0, a1)) h
def aK : fN := MN bO acc R
theorem okF (a0 : List aa) (a1 : Int) (hg : gd a0 a1) (h0 : a0.length ≤ maxLen) : ∃ n, start (iter step n) (a0.map aa.row) a1 = ret (((md a0 a1).1, ((md a0 a1).2.map aa.row)) : Int × List (List L)) := by
  unfold gd at hg
  show ∃ n, iter step n (Pt.p0 a1 0 (a0.map aa.row)) = _
  unfold md
  refine fU (el := el) (xs := a0) aa.zero dI iC (pt := fun i k c => Pt.p0 k (i : Int) (c.map aa.row)) (out := fun b => ret (b.1, b.2.map aa.row)) (fun J i k c hi hc hk => ?_) (fun J k c hc => ?_) hg
  · have hm : c.length ≤ maxLen := hc ▸ h0
    simp only [step, SS]
    refine af (aD hi) ?_
    repeat first | refine af ax ?_ | refine af (aD hi) ?_ | refine af (eB _) ?_
    refine aN ((e1 (c.getD i aa.zero) k).1, ((e1 (c.getD i aa.zero) k).2.map aP)) (Z226.ai (a0 := (((c.getD i aa.zero).ae).bh).aF) (a1 := i64.wrap ((i64.wrap ((i64.wrap ((i64.wrap ((i64.wrap ((i64.wrap ((i64.wrap ((i64.wrap (k + 1)) + 1)) + 1)) + 1)) + 1)) + 1)) + 1)) + 1)) (bz _)) ?_
    repeat first | refine af ax ?_ | refine af (aD hi) ?_ | refine af (eB _) ?_
    refine aN ((e2 (c.getD i aa.zero) k).1, ((e2 (c.getD i aa.zero) k).2.map aP)) (Z226.ai (a0 := (((c.getD i aa.zero).ae).aQ).aF) (a1 := i64.wrap ((e1 (c.getD i aa.zero) k).1 + 1)) (bz _)) ?_
    repeat first | refine af ax ?_ | refine af (aD hi) ?_ | refine af (eB _) ?_
    refine aN ((e3 (c.getD i aa.zero) k).1, ((e3 (c.getD i aa.zero) k).2.map aP)) (Z226.ai (a0 := (((c.getD i aa.zero).ae).aM).aF) (a1 := i64.wrap ((i64.wrap ((e2 (c.getD i aa.zero) k).1 + 1)) + 1)) (bz _)) ?_
    repeat first | refine af ax ?_ | refine af (aD hi) ?_ | refine af (eB _) ?_
    refine aN ((e4 (c.getD i aa.zero) k).1, ((e4 (c.getD i aa.zero) k).2.map aJ.row)) (Z227.ai (a0 := (c.getD i aa.zero).bC) (a1 := i64.wrap ((i64.wrap ((e3 (c.getD i aa.zero) k).1 + 1)) + 1)) (bz _)) ?_
    rw [az hi hm]
    exact congrArg (fun q => J (Pt.p0 (el (c.getD i aa.zero) k).1 ((i + 1 : Nat) : Int) q)) (List.map_set (f := aa.row) (l := c) (i := i) (a := (el (c.getD i aa.zero) k).2)).symm
  · simp only [step, SS]
    refine bZ (by apply decide_eq_false; omega) ?_
    rfl
theorem ab : dR Tryz.prog Ev 85 aK := MV (run := fun n x => start (iter step n) x.1 x.2) mix au .nil (.cons Z226.ab (.cons Z227.ab .nil)) Tryz.func85 (by kernel_rfl) run_eq (fun ls a hl e hg => okF a.1 a.2 hg (by have h : (ls.headD .hole).aG.length ≤ maxLen := (hl _ _ (.head _)).len; have e : a.1.map aa.row = (ls.headD .hole).aG := (congrArg (fun x => x.1) e.symm); rw [← e] at h; simpa using h))
theorem iq {a0 : List aa} {a1 : Int} (h : dI a1) : dI (md a0 a1).1 := jv iC h
theorem oY (x : aa) (k : Int) (h0 : 0 ≤ k) (hb : k + (eD x : Int) ≤ 4611686018427387904) : (el x k).1 = k + eD x := by
 simp only [eD, Int.natCast_add] at hb ⊢
 simp (disch := omega) only [el, e1, e2, e3, e4, wi, Z226.kk, Z227.kk]
 all_goals first | done | omega
theorem kk (a0 : List aa) (a1 : Int) (h0 : 0 ≤ a1) (hb : a1 + (sum a0 : Int) ≤ 4611686018427387904) : (md a0 a1).1 = a1 + sum a0 := gh oY a0 a1 h0 hb
theorem sz (a : List aa) : sum a ≤ 60 * (di (fun y : aa => aa.size y) a) := jz (fun x => by
  have := Z226.sz (((x.ae).bh).aF)
  have := Z226.sz (((x.ae).aQ).aF)
  have := Z226.sz (((x.ae).aM).aF)
  have := Z227.sz x.bC
  try simp only [eD, aa.size, aq.size, aw.size] at *
  omega) a
end Z228
namespace Z229
set_option maxHeartbeats 8000000
inductive Pt where
 | p0 (a : Int) (b : Int) (c : List (List L))
def pid : Pt → Nat
 | .p0 .. => 2
def bR : Pt → List V
 | .p0 a b c => [.own 0, .int .i64 a, .int .i64 b]
def bQ : Pt → List aI
 | .p0 a b c => [.row 116 c]
def step (J : Pt → ay) : Pt → ay
 | .p0 a b c => (cond (decide (b < (c.length : Int))) (m2 b (c.length : Int) (call (Z228.R ((lA c (Int.toNat b)), a)) fun v1 => J (.p0 v1.1 (i64.wrap (b + 1)) (List.set c (Int.toNat b) [L.sl v1.2])))) (ret ((a, c) : Int × List (List L))))
def start (J : Pt → ay) (x0 : List (List L)) (x1 : Int) : ay := J (.p0 x1 0 x0)
def live : Nat → Live := fun i => match i with | 2 => [(0, none), (1, none), (5, none)] | _ => []
def bO : List (Bool × List K) := [(false, [.sl 116]), (false, [.int .i64])]
def res : RP := .mj [116]
abbrev E : Env := { T := assoc lr, G := cK [], nt := 19, M := fb [(85, Z228.aK)], np := 1, mt := true }
theorem step_eq (I : bY) (p : Pt) : cz E live I (pid p) (bo Tryz.f83) (eN (live (pid p)) (bR p) (bQ p)) (bX E Tryz.f83 res) = step (fun q => I (pid q) (bR q) (bQ q)) p := by
 cases p <;> kernel_rfl
theorem start_eq (I : bY) (ls : List L) : ee E live I (bo Tryz.f83) (gm bO ls) (bX E Tryz.f83 res) = start (fun q => I (pid q) (bR q) (bQ q)) (ls.headD .hole).aG ((ar 1 ls).headD .hole).toInt := by kernel_rfl
theorem run_eq (n : Nat) (ls : List L) : ea E live Tryz.f83 res n (gm bO ls) = start (iter step n) (ls.headD .hole).aG ((ar 1 ls).headD .hole).toInt := bW (id := pid) (vs := bR) (hs := bQ) (step := step) (start := fun J => start J (ls.headD .hole).aG ((ar 1 ls).headD .hole).toInt) step_eq (fun I => start_eq I ls) n
def e1 (x : List aa) (k : Int) := Z228.md x k
def el (x : List aa) (k : Int) : Int × (List aa) := ((e1 x k).1, ((e1 x k).2))
theorem iC (x : List aa) (k : Int) (hk : dI k) : dI (el x k).1 := (Z228.iq hk)
def eD (x : List aa) : Nat := 0 + Z228.sum x
def sum (a : List (List aa)) : Nat := (a.map eD).sum
def md (a0 : List (List aa)) (a1 : Int) : Int × List (List aa) := ir el a0 a1
def gd (a0 : List (List aa)) (a1 : Int) : Prop := dI a1
def acc (ls : List L) : List (List L) × Int := ((ls.headD .hole).aG, ((ar 1 ls).headD .hole).toInt)
def R : (List (List L) × Int) → Option (Int × List (List L)) := RR (p2 gd) (u2 md)
theorem ai {a0 a1} (h : gd a0 a1) : R ((a0.map (cM aa.row)), a1) = some ((md a0 a1).1, ((md a0 a1).2.map (cM aa.row))) := aE (a := (a0, a1)) h
def aK : fN := MN bO acc R
theorem okF (a0 : List (List aa)) (a1 : Int) (hg : gd a0 a1) (h0 : a0.length ≤ maxLen) : ∃ n, start (iter step n) (a0.map (cM aa.row)) a1 = ret (((md a0 a1).1, ((md a0 a1).2.map (cM aa.row))) : Int × List (List L)) := by
  unfold gd at hg
  show ∃ n, iter step n (Pt.p0 a1 0 (a0.map (cM aa.row))) = _
  unfold md
  refine fU (el := el) (xs := a0) [] dI iC (pt := fun i k c => Pt.p0 k (i : Int) (c.map (cM aa.row))) (out := fun b => ret (b.1, b.2.map (cM aa.row))) (fun J i k c hi hc hk => ?_) (fun J k c hc => ?_) hg
  · have hm : c.length ≤ maxLen := hc ▸ h0
    simp only [step, SS]
    refine af (aD hi) ?_
    refine af ax ?_
    refine af (aD hi) ?_
    refine aN ((e1 (c.getD i []) k).1, ((e1 (c.getD i []) k).2.map aa.row)) (Z228.ai (a0 := c.getD i []) (a1 := k) hk) ?_
    rw [az hi hm]
    exact congrArg (fun q => J (Pt.p0 (el (c.getD i []) k).1 ((i + 1 : Nat) : Int) q)) (List.map_set (f := (cM aa.row)) (l := c) (i := i) (a := (el (c.getD i []) k).2)).symm
  · simp only [step, SS]
    refine bZ (by apply decide_eq_false; omega) ?_
    rfl
theorem ab : dR Tryz.prog Ev 83 aK := MV (run := fun n x => start (iter step n) x.1 x.2) mix au .nil (.cons Z228.ab .nil) Tryz.func83 (by kernel_rfl) run_eq (fun ls a hl e hg => okF a.1 a.2 hg (by have h : (ls.headD .hole).aG.length ≤ maxLen := (hl _ _ (.head _)).len; have e : a.1.map (cM aa.row) = (ls.headD .hole).aG := (congrArg (fun x => x.1) e.symm); rw [← e] at h; simpa using h))
theorem iq {a0 : List (List aa)} {a1 : Int} (h : dI a1) : dI (md a0 a1).1 := jv iC h
theorem oY (x : List aa) (k : Int) (h0 : 0 ≤ k) (hb : k + (eD x : Int) ≤ 4611686018427387904) : (el x k).1 = k + eD x := by
 simp only [eD, Int.natCast_add] at hb ⊢
 simp (disch := omega) only [el, e1, wi, Z228.kk]
 all_goals first | done | omega
theorem kk (a0 : List (List aa)) (a1 : Int) (h0 : 0 ≤ a1) (hb : a1 + (sum a0 : Int) ≤ 4611686018427387904) : (md a0 a1).1 = a1 + sum a0 := gh oY a0 a1 h0 hb
theorem sz (a : List (List aa)) : sum a ≤ 60 * (di (fun y : List aa => di (fun y : aa => aa.size y) y) a) := jz (fun x => by
  have := Z228.sz x
  try simp only [eD] at *
  omega) a
end Z229
namespace Z230
set_option maxHeartbeats 8000000
inductive Pt where
 | p0 (a : Int) (b : Int) (c : List (List L))
def pid : Pt → Nat
 | .p0 .. => 2
def bR : Pt → List V
 | .p0 a b c => [.own 0, .int .i64 a, .int .i64 b]
def bQ : Pt → List aI
 | .p0 a b c => [.row 204 c]
def step (J : Pt → ay) : Pt → ay
 | .p0 a b c => (cond (decide (b < (c.length : Int))) (m2 b (c.length : Int) (m2 b (c.length : Int) (bJ (Nat.beq (Int.toNat b) (Int.toNat b) && true) (m2 b (c.length : Int) (bJ (Nat.beq (Int.toNat b) (Int.toNat b) && true) (m2 b (c.length : Int) (bJ (Nat.beq (Int.toNat b) (Int.toNat b) && true) (m2 b (c.length : Int) (bJ (Nat.beq (Int.toNat b) (Int.toNat b) && true) (m2 b (c.length : Int) (bJ (Nat.beq (Int.toNat b) (Int.toNat b) && true) (m2 b (c.length : Int) (bJ (Nat.beq (Int.toNat b) (Int.toNat b) && true) (m2 b (c.length : Int) (bJ (Nat.beq (Int.toNat b) (Int.toNat b) && true) (m2 b (c.length : Int) (bJ (Nat.beq (Int.toNat b) (Int.toNat b) && true) (bJ (Nat.beq (Int.toNat b) (Int.toNat b) && true) (call (Z226.R ((aZ.at c (Int.toNat b)).av.ae.bh.aF, (i64.wrap ((i64.wrap ((i64.wrap ((i64.wrap ((i64.wrap ((i64.wrap ((i64.wrap ((i64.wrap (a + 1)) + 1)) + 1)) + 1)) + 1)) + 1)) + 1)) + 1)))) fun v1 => (m2 b (c.length : Int) (bJ (Nat.beq (Int.toNat b) (Int.toNat b) && true) (m2 b (c.length : Int) (bJ (Nat.beq (Int.toNat b) (Int.toNat b) && true) (bJ (Nat.beq (Int.toNat b) (Int.toNat b) && true) (call (Z226.R ((aZ.at c (Int.toNat b)).av.ae.aQ.aF, (i64.wrap (v1.1 + 1)))) fun v2 => (m2 b (c.length : Int) (bJ (Nat.beq (Int.toNat b) (Int.toNat b) && true) (m2 b (c.length : Int) (bJ (Nat.beq (Int.toNat b) (Int.toNat b) && true) (m2 b (c.length : Int) (bJ (Nat.beq (Int.toNat b) (Int.toNat b) && true) (bJ (Nat.beq (Int.toNat b) (Int.toNat b) && true) (call (Z226.R ((aZ.at c (Int.toNat b)).av.ae.aM.aF, (i64.wrap ((i64.wrap (v2.1 + 1)) + 1)))) fun v3 => (m2 b (c.length : Int) (bJ (Nat.beq (Int.toNat b) (Int.toNat b) && true) (m2 b (c.length : Int) (bJ (Nat.beq (Int.toNat b) (Int.toNat b) && true) (m2 b (c.length : Int) (bJ (Nat.beq (Int.toNat b) (Int.toNat b) && true) (bJ (Nat.beq (Int.toNat b) (Int.toNat b) && true) (call (Z227.R ((aZ.at c (Int.toNat b)).av.bC, (i64.wrap ((i64.wrap (v3.1 + 1)) + 1)))) fun v4 => (m2 b (c.length : Int) (bJ (Nat.beq (Int.toNat b) (Int.toNat b) && true) (m2 b (c.length : Int) (bJ (Nat.beq (Int.toNat b) (Int.toNat b) && true) (m2 b (c.length : Int) (bJ (Nat.beq (Int.toNat b) (Int.toNat b) && true) (m2 b (c.length : Int) (bJ (Nat.beq (Int.toNat b) (Int.toNat b) && true) (m2 b (c.length : Int) (bJ (Nat.beq (Int.toNat b) (Int.toNat b) && true) (m2 b (c.length : Int) (bJ (Nat.beq (Int.toNat b) (Int.toNat b) && true) (m2 b (c.length : Int) (bJ (Nat.beq (Int.toNat b) (Int.toNat b) && true) (m2 b (c.length : Int) (bJ (Nat.beq (Int.toNat b) (Int.toNat b) && true) (m2 b (c.length : Int) (bJ (Nat.beq (Int.toNat b) (Int.toNat b) && true) (bJ (Nat.beq (Int.toNat b) (Int.toNat b) && true) (call (Z226.R ((aZ.at c (Int.toNat b)).fA.ae.bh.aF, (i64.wrap ((i64.wrap ((i64.wrap ((i64.wrap ((i64.wrap ((i64.wrap ((i64.wrap ((i64.wrap (v4.1 + 1)) + 1)) + 1)) + 1)) + 1)) + 1)) + 1)) + 1)))) fun v5 => (m2 b (c.length : Int) (bJ (Nat.beq (Int.toNat b) (Int.toNat b) && true) (m2 b (c.length : Int) (bJ (Nat.beq (Int.toNat b) (Int.toNat b) && true) (bJ (Nat.beq (Int.toNat b) (Int.toNat b) && true) (call (Z226.R ((aZ.at c (Int.toNat b)).fA.ae.aQ.aF, (i64.wrap (v5.1 + 1)))) fun v6 => (m2 b (c.length : Int) (bJ (Nat.beq (Int.toNat b) (Int.toNat b) && true) (m2 b (c.length : Int) (bJ (Nat.beq (Int.toNat b) (Int.toNat b) && true) (m2 b (c.length : Int) (bJ (Nat.beq (Int.toNat b) (Int.toNat b) && true) (bJ (Nat.beq (Int.toNat b) (Int.toNat b) && true) (call (Z226.R ((aZ.at c (Int.toNat b)).fA.ae.aM.aF, (i64.wrap ((i64.wrap (v6.1 + 1)) + 1)))) fun v7 => (m2 b (c.length : Int) (bJ (Nat.beq (Int.toNat b) (Int.toNat b) && true) (m2 b (c.length : Int) (bJ (Nat.beq (Int.toNat b) (Int.toNat b) && true) (m2 b (c.length : Int) (bJ (Nat.beq (Int.toNat b) (Int.toNat b) && true) (bJ (Nat.beq (Int.toNat b) (Int.toNat b) && true) (call (Z227.R ((aZ.at c (Int.toNat b)).fA.bC, (i64.wrap ((i64.wrap (v7.1 + 1)) + 1)))) fun v8 => (m2 b (c.length : Int) (bJ (Nat.beq (Int.toNat b) (Int.toNat b) && true) (m2 b (c.length : Int) (bJ (Nat.beq (Int.toNat b) (Int.toNat b) && true) (m2 b (c.length : Int) (bJ (Nat.beq (Int.toNat b) (Int.toNat b) && true) (m2 b (c.length : Int) (bJ (Nat.beq (Int.toNat b) (Int.toNat b) && true) (m2 b (c.length : Int) (bJ (Nat.beq (Int.toNat b) (Int.toNat b) && true) (m2 b (c.length : Int) (bJ (Nat.beq (Int.toNat b) (Int.toNat b) && true) (m2 b (c.length : Int) (bJ (Nat.beq (Int.toNat b) (Int.toNat b) && true) (m2 b (c.length : Int) (bJ (Nat.beq (Int.toNat b) (Int.toNat b) && true) (m2 b (c.length : Int) (bJ (Nat.beq (Int.toNat b) (Int.toNat b) && true) (bJ (Nat.beq (Int.toNat b) (Int.toNat b) && true) (call (Z226.R ((aZ.at c (Int.toNat b)).fB.ae.bh.aF, (i64.wrap ((i64.wrap ((i64.wrap ((i64.wrap ((i64.wrap ((i64.wrap ((i64.wrap ((i64.wrap (v8.1 + 1)) + 1)) + 1)) + 1)) + 1)) + 1)) + 1)) + 1)))) fun v9 => (m2 b (c.length : Int) (bJ (Nat.beq (Int.toNat b) (Int.toNat b) && true) (m2 b (c.length : Int) (bJ (Nat.beq (Int.toNat b) (Int.toNat b) && true) (bJ (Nat.beq (Int.toNat b) (Int.toNat b) && true) (call (Z226.R ((aZ.at c (Int.toNat b)).fB.ae.aQ.aF, (i64.wrap (v9.1 + 1)))) fun v10 => (m2 b (c.length : Int) (bJ (Nat.beq (Int.toNat b) (Int.toNat b) && true) (m2 b (c.length : Int) (bJ (Nat.beq (Int.toNat b) (Int.toNat b) && true) (m2 b (c.length : Int) (bJ (Nat.beq (Int.toNat b) (Int.toNat b) && true) (bJ (Nat.beq (Int.toNat b) (Int.toNat b) && true) (call (Z226.R ((aZ.at c (Int.toNat b)).fB.ae.aM.aF, (i64.wrap ((i64.wrap (v10.1 + 1)) + 1)))) fun v11 => (m2 b (c.length : Int) (bJ (Nat.beq (Int.toNat b) (Int.toNat b) && true) (m2 b (c.length : Int) (bJ (Nat.beq (Int.toNat b) (Int.toNat b) && true) (m2 b (c.length : Int) (bJ (Nat.beq (Int.toNat b) (Int.toNat b) && true) (bJ (Nat.beq (Int.toNat b) (Int.toNat b) && true) (call (Z227.R ((aZ.at c (Int.toNat b)).fB.bC, (i64.wrap ((i64.wrap (v11.1 + 1)) + 1)))) fun v12 => J (.p0 v12.1 (i64.wrap (b + 1)) (List.set c (Int.toNat b) (aZ.enc (⟨(⟨(⟨a, (i64.wrap (a + 1)), (i64.wrap ((i64.wrap (a + 1)) + 1)), (i64.wrap ((i64.wrap ((i64.wrap (a + 1)) + 1)) + 1)), (i64.wrap ((i64.wrap ((i64.wrap ((i64.wrap (a + 1)) + 1)) + 1)) + 1)), (i64.wrap ((i64.wrap ((i64.wrap ((i64.wrap ((i64.wrap (a + 1)) + 1)) + 1)) + 1)) + 1)), (i64.wrap ((i64.wrap ((i64.wrap ((i64.wrap ((i64.wrap ((i64.wrap (a + 1)) + 1)) + 1)) + 1)) + 1)) + 1)), (i64.wrap ((i64.wrap ((i64.wrap ((i64.wrap ((i64.wrap ((i64.wrap ((i64.wrap (a + 1)) + 1)) + 1)) + 1)) + 1)) + 1)) + 1)), (⟨v1.2, v1.1⟩ : aO), (⟨v2.2, v2.1⟩ : aO), (i64.wrap (v2.1 + 1)), (⟨v3.2, v3.1⟩ : aO), ((Int.tmod (i64.wrap (v3.1 + 1)) 3) == 0)⟩ : bq), v4.2⟩ : aC), (⟨(⟨v4.1, (i64.wrap (v4.1 + 1)), (i64.wrap ((i64.wrap (v4.1 + 1)) + 1)), (i64.wrap ((i64.wrap ((i64.wrap (v4.1 + 1)) + 1)) + 1)), (i64.wrap ((i64.wrap ((i64.wrap ((i64.wrap (v4.1 + 1)) + 1)) + 1)) + 1)), (i64.wrap ((i64.wrap ((i64.wrap ((i64.wrap ((i64.wrap (v4.1 + 1)) + 1)) + 1)) + 1)) + 1)), (i64.wrap ((i64.wrap ((i64.wrap ((i64.wrap ((i64.wrap ((i64.wrap (v4.1 + 1)) + 1)) + 1)) + 1)) + 1)) + 1)), (i64.wrap ((i64.wrap ((i64.wrap ((i64.wrap ((i64.wrap ((i64.wrap ((i64.wrap (v4.1 + 1)) + 1)) + 1)) + 1)) + 1)) + 1)) + 1)), (⟨v5.2, v5.1⟩ : aO), (⟨v6.2, v6.1⟩ : aO), (i64.wrap (v6.1 + 1)), (⟨v7.2, v7.1⟩ : aO), ((Int.tmod (i64.wrap (v7.1 + 1)) 3) == 0)⟩ : bq), v8.2⟩ : aC), (⟨(⟨v8.1, (i64.wrap (v8.1 + 1)), (i64.wrap ((i64.wrap (v8.1 + 1)) + 1)), (i64.wrap ((i64.wrap ((i64.wrap (v8.1 + 1)) + 1)) + 1)), (i64.wrap ((i64.wrap ((i64.wrap ((i64.wrap (v8.1 + 1)) + 1)) + 1)) + 1)), (i64.wrap ((i64.wrap ((i64.wrap ((i64.wrap ((i64.wrap (v8.1 + 1)) + 1)) + 1)) + 1)) + 1)), (i64.wrap ((i64.wrap ((i64.wrap ((i64.wrap ((i64.wrap ((i64.wrap (v8.1 + 1)) + 1)) + 1)) + 1)) + 1)) + 1)), (i64.wrap ((i64.wrap ((i64.wrap ((i64.wrap ((i64.wrap ((i64.wrap ((i64.wrap (v8.1 + 1)) + 1)) + 1)) + 1)) + 1)) + 1)) + 1)), (⟨v9.2, v9.1⟩ : aO), (⟨v10.2, v10.1⟩ : aO), (i64.wrap (v10.1 + 1)), (⟨v11.2, v11.1⟩ : aO), ((Int.tmod (i64.wrap (v11.1 + 1)) 3) == 0)⟩ : bq), v12.2⟩ : aC)⟩ : aZ))))))))))))))))))))))))))))))))))))))))))))))))))))))))))))))))))))))))))))))))))))))))))))))))))))))))))))))))))))))))))))))))) (ret ((a, c) : Int × List (List L))))
def start (J : Pt → ay) (x0 : List (List L)) (x1 : Int) : ay := J (.p0 x1 0 x0)
def live : Nat → Live := fun i => match i with | 2 => [(0, none), (1, none), (5, none)] | _ => []
def bO : List (Bool × List K) := [(false, [.sl 204]), (false, [.int .i64])]
def res : RP := .mj [204]
abbrev E : Env := { T := assoc lr, G := cK [], nt := 493, M := fb [(87, Z226.aK), (153, Z227.aK)], np := 1, mt := true }
theorem step_eq (I : bY) (p : Pt) : cz E live I (pid p) (bo Tryz.f84) (eN (live (pid p)) (bR p) (bQ p)) (bX E Tryz.f84 res) = step (fun q => I (pid q) (bR q) (bQ q)) p := by
 cases p <;> kernel_rfl
theorem start_eq (I : bY) (ls : List L) : ee E live I (bo Tryz.f84) (gm bO ls) (bX E Tryz.f84 res) = start (fun q => I (pid q) (bR q) (bQ q)) (ls.headD .hole).aG ((ar 1 ls).headD .hole).toInt := by kernel_rfl
theorem run_eq (n : Nat) (ls : List L) : ea E live Tryz.f84 res n (gm bO ls) = start (iter step n) (ls.headD .hole).aG ((ar 1 ls).headD .hole).toInt := bW (id := pid) (vs := bR) (hs := bQ) (step := step) (start := fun J => start J (ls.headD .hole).aG ((ar 1 ls).headD .hole).toInt) step_eq (fun I => start_eq I ls) n
def e1 (x : ao) (k : Int) := Z226.md ((((x.av).ae).bh).aF) (i64.wrap ((i64.wrap ((i64.wrap ((i64.wrap ((i64.wrap ((i64.wrap ((i64.wrap ((i64.wrap (k + 1)) + 1)) + 1)) + 1)) + 1)) + 1)) + 1)) + 1))
def e2 (x : ao) (k : Int) := Z226.md ((((x.av).ae).aQ).aF) (i64.wrap ((e1 x k).1 + 1))
def e3 (x : ao) (k : Int) := Z226.md ((((x.av).ae).aM).aF) (i64.wrap ((i64.wrap ((e2 x k).1 + 1)) + 1))
def e4 (x : ao) (k : Int) := Z227.md ((x.av).bC) (i64.wrap ((i64.wrap ((e3 x k).1 + 1)) + 1))
def e5 (x : ao) (k : Int) := Z226.md ((((x.fA).ae).bh).aF) (i64.wrap ((i64.wrap ((i64.wrap ((i64.wrap ((i64.wrap ((i64.wrap ((i64.wrap ((i64.wrap ((e4 x k).1 + 1)) + 1)) + 1)) + 1)) + 1)) + 1)) + 1)) + 1))
def e6 (x : ao) (k : Int) := Z226.md ((((x.fA).ae).aQ).aF) (i64.wrap ((e5 x k).1 + 1))
def e7 (x : ao) (k : Int) := Z226.md ((((x.fA).ae).aM).aF) (i64.wrap ((i64.wrap ((e6 x k).1 + 1)) + 1))
def e8 (x : ao) (k : Int) := Z227.md ((x.fA).bC) (i64.wrap ((i64.wrap ((e7 x k).1 + 1)) + 1))
def e9 (x : ao) (k : Int) := Z226.md ((((x.fB).ae).bh).aF) (i64.wrap ((i64.wrap ((i64.wrap ((i64.wrap ((i64.wrap ((i64.wrap ((i64.wrap ((i64.wrap ((e8 x k).1 + 1)) + 1)) + 1)) + 1)) + 1)) + 1)) + 1)) + 1))
def qa (x : ao) (k : Int) := Z226.md ((((x.fB).ae).aQ).aF) (i64.wrap ((e9 x k).1 + 1))
def qP (x : ao) (k : Int) := Z226.md ((((x.fB).ae).aM).aF) (i64.wrap ((i64.wrap ((qa x k).1 + 1)) + 1))
def uk (x : ao) (k : Int) := Z227.md ((x.fB).bC) (i64.wrap ((i64.wrap ((qP x k).1 + 1)) + 1))
def el (x : ao) (k : Int) : Int × ao := ((uk x k).1, (⟨(⟨(⟨k, (i64.wrap (k + 1)), (i64.wrap ((i64.wrap (k + 1)) + 1)), (i64.wrap ((i64.wrap ((i64.wrap (k + 1)) + 1)) + 1)), (i64.wrap ((i64.wrap ((i64.wrap ((i64.wrap (k + 1)) + 1)) + 1)) + 1)), (i64.wrap ((i64.wrap ((i64.wrap ((i64.wrap ((i64.wrap (k + 1)) + 1)) + 1)) + 1)) + 1)), (i64.wrap ((i64.wrap ((i64.wrap ((i64.wrap ((i64.wrap ((i64.wrap (k + 1)) + 1)) + 1)) + 1)) + 1)) + 1)), (i64.wrap ((i64.wrap ((i64.wrap ((i64.wrap ((i64.wrap ((i64.wrap ((i64.wrap (k + 1)) + 1)) + 1)) + 1)) + 1)) + 1)) + 1)), (⟨(e1 x k).2, (e1 x k).1⟩ : aw), (⟨(e2 x k).2, (e2 x k).1⟩ : aw), (i64.wrap ((e2 x k).1 + 1)), (⟨(e3 x k).2, (e3 x k).1⟩ : aw), ((Int.tmod (i64.wrap ((e3 x k).1 + 1)) 3) == 0)⟩ : aq), (e4 x k).2⟩ : aa), (⟨(⟨(e4 x k).1, (i64.wrap ((e4 x k).1 + 1)), (i64.wrap ((i64.wrap ((e4 x k).1 + 1)) + 1)), (i64.wrap ((i64.wrap ((i64.wrap ((e4 x k).1 + 1)) + 1)) + 1)), (i64.wrap ((i64.wrap ((i64.wrap ((i64.wrap ((e4 x k).1 + 1)) + 1)) + 1)) + 1)), (i64.wrap ((i64.wrap ((i64.wrap ((i64.wrap ((i64.wrap ((e4 x k).1 + 1)) + 1)) + 1)) + 1)) + 1)), (i64.wrap ((i64.wrap ((i64.wrap ((i64.wrap ((i64.wrap ((i64.wrap ((e4 x k).1 + 1)) + 1)) + 1)) + 1)) + 1)) + 1)), (i64.wrap ((i64.wrap ((i64.wrap ((i64.wrap ((i64.wrap ((i64.wrap ((i64.wrap ((e4 x k).1 + 1)) + 1)) + 1)) + 1)) + 1)) + 1)) + 1)), (⟨(e5 x k).2, (e5 x k).1⟩ : aw), (⟨(e6 x k).2, (e6 x k).1⟩ : aw), (i64.wrap ((e6 x k).1 + 1)), (⟨(e7 x k).2, (e7 x k).1⟩ : aw), ((Int.tmod (i64.wrap ((e7 x k).1 + 1)) 3) == 0)⟩ : aq), (e8 x k).2⟩ : aa), (⟨(⟨(e8 x k).1, (i64.wrap ((e8 x k).1 + 1)), (i64.wrap ((i64.wrap ((e8 x k).1 + 1)) + 1)), (i64.wrap ((i64.wrap ((i64.wrap ((e8 x k).1 + 1)) + 1)) + 1)), (i64.wrap ((i64.wrap ((i64.wrap ((i64.wrap ((e8 x k).1 + 1)) + 1)) + 1)) + 1)), (i64.wrap ((i64.wrap ((i64.wrap ((i64.wrap ((i64.wrap ((e8 x k).1 + 1)) + 1)) + 1)) + 1)) + 1)), (i64.wrap ((i64.wrap ((i64.wrap ((i64.wrap ((i64.wrap ((i64.wrap ((e8 x k).1 + 1)) + 1)) + 1)) + 1)) + 1)) + 1)), (i64.wrap ((i64.wrap ((i64.wrap ((i64.wrap ((i64.wrap ((i64.wrap ((i64.wrap ((e8 x k).1 + 1)) + 1)) + 1)) + 1)) + 1)) + 1)) + 1)), (⟨(e9 x k).2, (e9 x k).1⟩ : aw), (⟨(qa x k).2, (qa x k).1⟩ : aw), (i64.wrap ((qa x k).1 + 1)), (⟨(qP x k).2, (qP x k).1⟩ : aw), ((Int.tmod (i64.wrap ((qP x k).1 + 1)) 3) == 0)⟩ : aq), (uk x k).2⟩ : aa)⟩ : ao))
theorem iC (x : ao) (k : Int) (hk : dI k) : dI (el x k).1 := (Z227.iq (bz _))
def eD (x : ao) : Nat := 39 + Z226.sum ((((x.av).ae).bh).aF) + Z226.sum ((((x.av).ae).aQ).aF) + Z226.sum ((((x.av).ae).aM).aF) + Z227.sum ((x.av).bC) + Z226.sum ((((x.fA).ae).bh).aF) + Z226.sum ((((x.fA).ae).aQ).aF) + Z226.sum ((((x.fA).ae).aM).aF) + Z227.sum ((x.fA).bC) + Z226.sum ((((x.fB).ae).bh).aF) + Z226.sum ((((x.fB).ae).aQ).aF) + Z226.sum ((((x.fB).ae).aM).aF) + Z227.sum ((x.fB).bC)
def sum (a : List ao) : Nat := (a.map eD).sum
def md (a0 : List ao) (a1 : Int) : Int × List ao := ir el a0 a1
def gd (a0 : List ao) (a1 : Int) : Prop := dI a1
def acc (ls : List L) : List (List L) × Int := ((ls.headD .hole).aG, ((ar 1 ls).headD .hole).toInt)
def R : (List (List L) × Int) → Option (Int × List (List L)) := RR (p2 gd) (u2 md)
theorem ai {a0 a1} (h : gd a0 a1) : R ((a0.map ao.row), a1) = some ((md a0 a1).1, ((md a0 a1).2.map ao.row)) := aE (a := (a0, a1)) h
def aK : fN := MN bO acc R
theorem okF (a0 : List ao) (a1 : Int) (hg : gd a0 a1) (h0 : a0.length ≤ maxLen) : ∃ n, start (iter step n) (a0.map ao.row) a1 = ret (((md a0 a1).1, ((md a0 a1).2.map ao.row)) : Int × List (List L)) := by
  unfold gd at hg
  show ∃ n, iter step n (Pt.p0 a1 0 (a0.map ao.row)) = _
  unfold md
  refine fU (el := el) (xs := a0) ao.zero dI iC (pt := fun i k c => Pt.p0 k (i : Int) (c.map ao.row)) (out := fun b => ret (b.1, b.2.map ao.row)) (fun J i k c hi hc hk => ?_) (fun J k c hc => ?_) hg
  · have hm : c.length ≤ maxLen := hc ▸ h0
    simp only [step, SS]
    refine af (aD hi) ?_
    repeat first | refine af ax ?_ | refine af (aD hi) ?_ | refine af (eB _) ?_
    refine aN ((e1 (c.getD i ao.zero) k).1, ((e1 (c.getD i ao.zero) k).2.map aP)) (Z226.ai (a0 := ((((c.getD i ao.zero).av).ae).bh).aF) (a1 := i64.wrap ((i64.wrap ((i64.wrap ((i64.wrap ((i64.wrap ((i64.wrap ((i64.wrap ((i64.wrap (k + 1)) + 1)) + 1)) + 1)) + 1)) + 1)) + 1)) + 1)) (bz _)) ?_
    repeat first | refine af ax ?_ | refine af (aD hi) ?_ | refine af (eB _) ?_
    refine aN ((e2 (c.getD i ao.zero) k).1, ((e2 (c.getD i ao.zero) k).2.map aP)) (Z226.ai (a0 := ((((c.getD i ao.zero).av).ae).aQ).aF) (a1 := i64.wrap ((e1 (c.getD i ao.zero) k).1 + 1)) (bz _)) ?_
    repeat first | refine af ax ?_ | refine af (aD hi) ?_ | refine af (eB _) ?_
    refine aN ((e3 (c.getD i ao.zero) k).1, ((e3 (c.getD i ao.zero) k).2.map aP)) (Z226.ai (a0 := ((((c.getD i ao.zero).av).ae).aM).aF) (a1 := i64.wrap ((i64.wrap ((e2 (c.getD i ao.zero) k).1 + 1)) + 1)) (bz _)) ?_
    repeat first | refine af ax ?_ | refine af (aD hi) ?_ | refine af (eB _) ?_
    refine aN ((e4 (c.getD i ao.zero) k).1, ((e4 (c.getD i ao.zero) k).2.map aJ.row)) (Z227.ai (a0 := ((c.getD i ao.zero).av).bC) (a1 := i64.wrap ((i64.wrap ((e3 (c.getD i ao.zero) k).1 + 1)) + 1)) (bz _)) ?_
    repeat first | refine af ax ?_ | refine af (aD hi) ?_ | refine af (eB _) ?_
    refine aN ((e5 (c.getD i ao.zero) k).1, ((e5 (c.getD i ao.zero) k).2.map aP)) (Z226.ai (a0 := ((((c.getD i ao.zero).fA).ae).bh).aF) (a1 := i64.wrap ((i64.wrap ((i64.wrap ((i64.wrap ((i64.wrap ((i64.wrap ((i64.wrap ((i64.wrap ((e4 (c.getD i ao.zero) k).1 + 1)) + 1)) + 1)) + 1)) + 1)) + 1)) + 1)) + 1)) (bz _)) ?_
    repeat first | refine af ax ?_ | refine af (aD hi) ?_ | refine af (eB _) ?_
    refine aN ((e6 (c.getD i ao.zero) k).1, ((e6 (c.getD i ao.zero) k).2.map aP)) (Z226.ai (a0 := ((((c.getD i ao.zero).fA).ae).aQ).aF) (a1 := i64.wrap ((e5 (c.getD i ao.zero) k).1 + 1)) (bz _)) ?_
    repeat first | refine af ax ?_ | refine af (aD hi) ?_ | refine af (eB _) ?_
    refine aN ((e7 (c.getD i ao.zero) k).1, ((e7 (c.getD i ao.zero) k).2.map aP)) (Z226.ai (a0 := ((((c.getD i ao.zero).fA).ae).aM).aF) (a1 := i64.wrap ((i64.wrap ((e6 (c.getD i ao.zero) k).1 + 1)) + 1)) (bz _)) ?_
    repeat first | refine af ax ?_ | refine af (aD hi) ?_ | refine af (eB _) ?_
    refine aN ((e8 (c.getD i ao.zero) k).1, ((e8 (c.getD i ao.zero) k).2.map aJ.row)) (Z227.ai (a0 := ((c.getD i ao.zero).fA).bC) (a1 := i64.wrap ((i64.wrap ((e7 (c.getD i ao.zero) k).1 + 1)) + 1)) (bz _)) ?_
    repeat first | refine af ax ?_ | refine af (aD hi) ?_ | refine af (eB _) ?_
    refine aN ((e9 (c.getD i ao.zero) k).1, ((e9 (c.getD i ao.zero) k).2.map aP)) (Z226.ai (a0 := ((((c.getD i ao.zero).fB).ae).bh).aF) (a1 := i64.wrap ((i64.wrap ((i64.wrap ((i64.wrap ((i64.wrap ((i64.wrap ((i64.wrap ((i64.wrap ((e8 (c.getD i ao.zero) k).1 + 1)) + 1)) + 1)) + 1)) + 1)) + 1)) + 1)) + 1)) (bz _)) ?_
    repeat first | refine af ax ?_ | refine af (aD hi) ?_ | refine af (eB _) ?_
    refine aN ((qa (c.getD i ao.zero) k).1, ((qa (c.getD i ao.zero) k).2.map aP)) (Z226.ai (a0 := ((((c.getD i ao.zero).fB).ae).aQ).aF) (a1 := i64.wrap ((e9 (c.getD i ao.zero) k).1 + 1)) (bz _)) ?_
    repeat first | refine af ax ?_ | refine af (aD hi) ?_ | refine af (eB _) ?_
    refine aN ((qP (c.getD i ao.zero) k).1, ((qP (c.getD i ao.zero) k).2.map aP)) (Z226.ai (a0 := ((((c.getD i ao.zero).fB).ae).aM).aF) (a1 := i64.wrap ((i64.wrap ((qa (c.getD i ao.zero) k).1 + 1)) + 1)) (bz _)) ?_
    repeat first | refine af ax ?_ | refine af (aD hi) ?_ | refine af (eB _) ?_
    refine aN ((uk (c.getD i ao.zero) k).1, ((uk (c.getD i ao.zero) k).2.map aJ.row)) (Z227.ai (a0 := ((c.getD i ao.zero).fB).bC) (a1 := i64.wrap ((i64.wrap ((qP (c.getD i ao.zero) k).1 + 1)) + 1)) (bz _)) ?_
    rw [az hi hm]
    exact congrArg (fun q => J (Pt.p0 (el (c.getD i ao.zero) k).1 ((i + 1 : Nat) : Int) q)) (List.map_set (f := ao.row) (l := c) (i := i) (a := (el (c.getD i ao.zero) k).2)).symm
  · simp only [step, SS]
    refine bZ (by apply decide_eq_false; omega) ?_
    rfl
theorem ab : dR Tryz.prog Ev 84 aK := MV (run := fun n x => start (iter step n) x.1 x.2) mix au .nil (.cons Z226.ab (.cons Z227.ab .nil)) Tryz.func84 (by kernel_rfl) run_eq (fun ls a hl e hg => okF a.1 a.2 hg (by have h : (ls.headD .hole).aG.length ≤ maxLen := (hl _ _ (.head _)).len; have e : a.1.map ao.row = (ls.headD .hole).aG := (congrArg (fun x => x.1) e.symm); rw [← e] at h; simpa using h))
theorem iq {a0 : List ao} {a1 : Int} (h : dI a1) : dI (md a0 a1).1 := jv iC h
theorem oY (x : ao) (k : Int) (h0 : 0 ≤ k) (hb : k + (eD x : Int) ≤ 4611686018427387904) : (el x k).1 = k + eD x := by
 simp only [eD, Int.natCast_add] at hb ⊢
 simp (disch := omega) only [el, e1, e2, e3, e4, e5, e6, e7, e8, e9, qa, qP, uk, wi, Z226.kk, Z227.kk]
 all_goals first | done | omega
theorem kk (a0 : List ao) (a1 : Int) (h0 : 0 ≤ a1) (hb : a1 + (sum a0 : Int) ≤ 4611686018427387904) : (md a0 a1).1 = a1 + sum a0 := gh oY a0 a1 h0 hb
theorem sz (a : List ao) : sum a ≤ 60 * (di (fun y : ao => ao.size y) a) := jz (fun x => by
  have := Z226.sz ((((x.av).ae).bh).aF)
  have := Z226.sz ((((x.av).ae).aQ).aF)
  have := Z226.sz ((((x.av).ae).aM).aF)
  have := Z227.sz ((x.av).bC)
  have := Z226.sz ((((x.fA).ae).bh).aF)
  have := Z226.sz ((((x.fA).ae).aQ).aF)
  have := Z226.sz ((((x.fA).ae).aM).aF)
  have := Z227.sz ((x.fA).bC)
  have := Z226.sz ((((x.fB).ae).bh).aF)
  have := Z226.sz ((((x.fB).ae).aQ).aF)
  have := Z226.sz ((((x.fB).ae).aM).aF)
  have := Z227.sz ((x.fB).bC)
  try simp only [eD, ao.size, aa.size, aq.size, aw.size] at *
  omega) a
end Z230
namespace Z231
set_option maxHeartbeats 8000000
def F (x0 : aW) (x1 : Int) : ay := (call (Z229.R (x0.aA, x1)) fun v1 => (call (Z230.R (x0.aR, v1.1)) fun v2 => ret ((v2.1, v1.2, v2.2) : Int × List (List L) × List (List L))))
def bO : List (Bool × List K) := [(true, [.sl 116, .sl 204]), (false, [.int .i64])]
def res : RP := .mj [116, 204]
def e1 (x : ah) (k : Int) := Z229.md x.aA k
def e2 (x : ah) (k : Int) := Z230.md x.aR ((e1 x k).1)
def sum (x : ah) : Nat := 0 + Z229.sum x.aA + Z230.sum x.aR
def md (a0 : ah) (a1 : Int) : Int × List (List aa) × List ao := ((e2 a0 a1).1, (e1 a0 a1).2, (e2 a0 a1).2)
def gd (a0 : ah) (a1 : Int) : Prop := dI a1
def acc (ls : List L) : aW × Int := ((aW.dec ls), ((ar 2 ls).headD .hole).toInt)
def R : (aW × Int) → Option (Int × List (List L) × List (List L)) := RR (p2 gd) (u2 md)
theorem ai {a0 a1} (h : gd a0 a1) : R ((ah.r a0), a1) = some ((md a0 a1).1, ((md a0 a1).2.1.map (cM aa.row)), ((md a0 a1).2.2.map ao.row)) := aE (a := (a0, a1)) h
def aK : fN := MN bO acc R
theorem okF (a0 : ah) (a1 : Int) (hg : gd a0 a1) : F (ah.r a0) a1 = ret (((md a0 a1).1, ((md a0 a1).2.1.map (cM aa.row)), ((md a0 a1).2.2.map ao.row)) : Int × List (List L) × List (List L)) := by
 unfold gd at hg
 simp only [F, SS]
 unfold md
 refine aN ((e1 a0 a1).1, ((e1 a0 a1).2.map (cM aa.row))) (Z229.ai (a0 := a0.aA) (a1 := a1) hg) ?_
 refine aN ((e2 a0 a1).1, ((e2 a0 a1).2.map ao.row)) (Z230.ai (a0 := a0.aR) (a1 := (e1 a0 a1).1) (Z229.iq hg)) ?_
 first | rfl | (simp only [SS]; rfl)
theorem ab : dR Tryz.prog Ev 19 aK := MV (live := fun _ => []) (nt := 14) (run := fun _ x => F x.1 x.2) mix au .nil (.cons Z229.ab (.cons Z230.ab .nil)) Tryz.func19 (by kernel_rfl) (fun _ _ => by kernel_rfl) (fun _ a _ _ hg => ⟨0, okF a.1 a.2 hg⟩)
theorem iq {a0 : ah} {a1 : Int} (hk : dI a1) : dI (md a0 a1).1 := (Z230.iq (Z229.iq hk))
theorem kk (x : ah) (k : Int) (h0 : 0 ≤ k) (hb : k + (sum x : Int) ≤ 4611686018427387904) : (md x k).1 = k + sum x := by
 simp only [sum, Int.natCast_add] at hb ⊢
 simp (disch := omega) only [md, e1, e2, wi, Z229.kk, Z230.kk]
 all_goals first | done | omega
theorem sz (x : ah) : sum x ≤ 60 * ah.size x := by
  have := Z229.sz x.aA
  have := Z230.sz x.aR
  try simp only [sum, ah.size] at *
  omega
def eM (x : ah) (k : Int) : ah := (⟨(md x k).2.1, (md x k).2.2⟩ : ah)
end Z231
namespace Z232
inductive Pt where
 | p0 (a : Int) (b : ByteArray)
def pid : Pt → Nat
 | .p0 .. => 4
def bR : Pt → List V
 | .p0 a b => [.int .i64 a, .str b]
def bQ : Pt → List aI
 | .p0 a b => []
def step (J : Pt → ay) : Pt → ay
 | .p0 a b => (cond (decide (a > 0)) (cond (decide ((((qo [[L.int (IntKind.u8.wrap (i64.wrap (48 + (Int.tmod a 10))))]]).size + b.size : Nat) : Int) > 9223372036854775807)) none (J (.p0 (i64.wrap (Int.tdiv a 10)) ((qo [[L.int (IntKind.u8.wrap (i64.wrap (48 + (Int.tmod a 10))))]]) ++ b)))) (cond (decide ((((⟨#[109]⟩ : ByteArray).size + b.size : Nat) : Int) > 9223372036854775807)) none (ret (((⟨#[109]⟩ : ByteArray) ++ b) : ByteArray))))
def start (J : Pt → ay) (x0 : Int) : ay := (cond (decide (x0 ≤ 0)) (ret ((⟨#[109, 48]⟩ : ByteArray) : ByteArray)) (J (.p0 x0 ⟨#[]⟩)))
def live : Nat → Live := fun i => match i with | 4 => [(0, none), (3, none)] | _ => []
def dg (a : Int) : ByteArray := qo [[L.int (IntKind.u8.wrap (i64.wrap (48 + (Int.tmod a 10))))]]
def wH : Nat → Int → ByteArray → ByteArray
 | 0, _, b => b
 | n + 1, a, b => bif decide (a > 0) then wH n (i64.wrap (Int.tdiv a 10)) (dg a ++ b) else b
theorem uT (a : Int) : (qo [[L.int (IntKind.u8.wrap (i64.wrap (48 + (Int.tmod a 10))))]]).size = 1 := rfl
theorem run : ∀ (n : Nat) (a : Int) (b : ByteArray), n ≤ 64 → a < 2 ^ n → dI a → b.size + n ≤ 1000 → ∃ m, iter step m (.p0 a b) = ret ((⟨#[109]⟩ : ByteArray) ++ wH n a b)
  | 0, a, b, _, h1, _, h3 => by
    refine ⟨1, ?_⟩
    show step _ (.p0 a b) = _
    have e1 : decide (a > 0) = false := decide_eq_false (by simp at h1; omega)
    have e2 : decide ((((⟨#[109]⟩ : ByteArray).size + b.size : Nat) : Int) > 9223372036854775807) = false := decide_eq_false (by have : (⟨#[109]⟩ : ByteArray).size = 1 := rfl; omega)
    simp only [step, e1, e2, cond_false]
    rfl
  | n + 1, a, b, hn, h1, h2, h3 => by
    by_cases hp : a > 0
    · have e1 : decide (a > 0) = true := decide_eq_true hp
      have hq : Int.tdiv a 10 = a / 10 := Int.tdiv_eq_ediv_of_nonneg (by omega)
      unfold dI at h2
      have hw : i64.wrap (Int.tdiv a 10) = a / 10 := by rw [hq]; exact wi _ (by omega)
      have hlt : a / 10 < 2 ^ n := by
        have : (2 : Int) ^ (n + 1) = 2 ^ n * 2 := Int.pow_succ 2 n
        omega
      have hs : (dg a ++ b).size = 1 + b.size := by rw [ByteArray.size_append]; rfl
      obtain ⟨m, hm⟩ := run n (a / 10) (dg a ++ b) (by omega) hlt ⟨by omega, by omega⟩ (by rw [hs]; omega)
      refine ⟨m + 1, ?_⟩
      show step _ (.p0 a b) = _
      have e2 : decide ((((qo [[L.int (IntKind.u8.wrap (i64.wrap (48 + (Int.tmod a 10))))]]).size + b.size : Nat) : Int) > 9223372036854775807) = false := decide_eq_false (by rw [uT]; omega)
      simp only [step, wH, e1, e2, cond_true, cond_false, hw]
      exact hm
    · refine ⟨1, ?_⟩
      show step _ (.p0 a b) = _
      have e1 : decide (a > 0) = false := decide_eq_false hp
      have e2 : decide ((((⟨#[109]⟩ : ByteArray).size + b.size : Nat) : Int) > 9223372036854775807) = false := decide_eq_false (by have : (⟨#[109]⟩ : ByteArray).size = 1 := rfl; omega)
      simp only [step, wH, e1, e2, cond_false]
def md (a0 : Int) : ByteArray := (cond (decide (a0 ≤ 0)) (⟨#[109, 48]⟩ : ByteArray) ((⟨#[109]⟩ : ByteArray) ++ wH 64 a0 ⟨#[]⟩))
def gd (a0 : Int) : Prop := dI a0
def R := RR gd md
theorem ai {a0} (h : gd a0) : R a0 = some (md a0) := aE (a := a0) h
def aK := CN [pI] oS RT.dec R
theorem okF (a0) (hg : gd a0) : ∃ n, start (iter step n) a0 = ret (md a0) := by
  unfold gd at hg
  unfold start md
  cases h : decide (a0 ≤ 0)
  · have h2 := hg.2
    have h3 : (2 : Int) ^ 64 = 18446744073709551616 := by decide
    obtain ⟨m, hm⟩ := run 64 a0 ⟨#[]⟩ (Nat.le_refl _) (by rw [h3]; omega) hg (by show 0 + 64 ≤ 1000; omega)
    exact ⟨m, hm⟩
  · exact ⟨0, rfl⟩
theorem ab : Valid Tryz.prog Ev 86 aK := L1 20 pid bR bQ live step start mix au okF .nil Tryz.func86
end Z232
namespace Z233
set_option maxHeartbeats 8000000
inductive Pt where
 | p0 (a : Int) (b : Int) (c : List (List L))
def pid : Pt → Nat
 | .p0 .. => 2
def bR : Pt → List V
 | .p0 a b c => [.own 0, .int .i64 a, .int .i64 b]
def bQ : Pt → List aI
 | .p0 a b c => [.row 9 c]
def step (J : Pt → ay) : Pt → ay
 | .p0 a b c => (cond (decide (b < (c.length : Int))) (call (Z232.R a) fun v1 => (m2 b (c.length : Int) (J (.p0 (i64.wrap (a + 1)) (i64.wrap (b + 1)) (List.set c (Int.toNat b) [L.str v1]))))) (ret ((a, c) : Int × List (List L))))
def start (J : Pt → ay) (x0 : List (List L)) (x1 : Int) : ay := J (.p0 x1 0 x0)
def live : Nat → Live := fun i => match i with | 2 => [(0, none), (1, none), (5, none)] | _ => []
def bO : List (Bool × List K) := [(false, [.sl 9]), (false, [.int .i64])]
def res : RP := .mj [9]
abbrev E : Env := { T := assoc lr, G := cK [(86, Z232.aK)], nt := 20, M := fb [], np := 1, mt := true }
theorem step_eq (I : bY) (p : Pt) : cz E live I (pid p) (bo Tryz.f33) (eN (live (pid p)) (bR p) (bQ p)) (bX E Tryz.f33 res) = step (fun q => I (pid q) (bR q) (bQ q)) p := by
 cases p <;> kernel_rfl
theorem start_eq (I : bY) (ls : List L) : ee E live I (bo Tryz.f33) (gm bO ls) (bX E Tryz.f33 res) = start (fun q => I (pid q) (bR q) (bQ q)) (ls.headD .hole).aG ((ar 1 ls).headD .hole).toInt := by kernel_rfl
theorem run_eq (n : Nat) (ls : List L) : ea E live Tryz.f33 res n (gm bO ls) = start (iter step n) (ls.headD .hole).aG ((ar 1 ls).headD .hole).toInt := bW (id := pid) (vs := bR) (hs := bQ) (step := step) (start := fun J => start J (ls.headD .hole).aG ((ar 1 ls).headD .hole).toInt) step_eq (fun I => start_eq I ls) n
def el (x : ByteArray) (k : Int) : Int × ByteArray := ((i64.wrap (k + 1)), (Z232.md k))
theorem iC (x : ByteArray) (k : Int) (hk : dI k) : dI (el x k).1 := (bz _)
def eD (x : ByteArray) : Nat := 1
def sum (a : List ByteArray) : Nat := (a.map eD).sum
def md (a0 : List ByteArray) (a1 : Int) : Int × List ByteArray := ir el a0 a1
def gd (a0 : List ByteArray) (a1 : Int) : Prop := dI a1
def acc (ls : List L) : List (List L) × Int := ((ls.headD .hole).aG, ((ar 1 ls).headD .hole).toInt)
def R : (List (List L) × Int) → Option (Int × List (List L)) := RR (p2 gd) (u2 md)
theorem ai {a0 a1} (h : gd a0 a1) : R ((a0.map cu), a1) = some ((md a0 a1).1, ((md a0 a1).2.map cu)) := aE (a := (a0, a1)) h
def aK : fN := MN bO acc R
theorem okF (a0 : List ByteArray) (a1 : Int) (hg : gd a0 a1) (h0 : a0.length ≤ maxLen) : ∃ n, start (iter step n) (a0.map cu) a1 = ret (((md a0 a1).1, ((md a0 a1).2.map cu)) : Int × List (List L)) := by
  unfold gd at hg
  show ∃ n, iter step n (Pt.p0 a1 0 (a0.map cu)) = _
  unfold md
  refine fU (el := el) (xs := a0) ⟨#[]⟩ dI iC (pt := fun i k c => Pt.p0 k (i : Int) (c.map cu)) (out := fun b => ret (b.1, b.2.map cu)) (fun J i k c hi hc hk => ?_) (fun J k c hc => ?_) hg
  · have hm : c.length ≤ maxLen := hc ▸ h0
    simp only [step, SS]
    refine af (aD hi) ?_
    refine aN (Z232.md k) (Z232.ai (a0 := k) hk) ?_
    refine af ax ?_
    refine af (aD hi) ?_
    rw [az hi hm]
    exact congrArg (fun q => J (Pt.p0 (el (c.getD i ⟨#[]⟩) k).1 ((i + 1 : Nat) : Int) q)) (List.map_set (f := cu) (l := c) (i := i) (a := (el (c.getD i ⟨#[]⟩) k).2)).symm
  · simp only [step, SS]
    refine bZ (by apply decide_eq_false; omega) ?_
    rfl
theorem ab : dR Tryz.prog Ev 33 aK := MV (run := fun n x => start (iter step n) x.1 x.2) mix au (.cons Z232.ab .nil) .nil Tryz.func33 (by kernel_rfl) run_eq (fun ls a hl e hg => okF a.1 a.2 hg (by have h : (ls.headD .hole).aG.length ≤ maxLen := (hl _ _ (.head _)).len; have e : a.1.map cu = (ls.headD .hole).aG := (congrArg (fun x => x.1) e.symm); rw [← e] at h; simpa using h))
theorem iq {a0 : List ByteArray} {a1 : Int} (h : dI a1) : dI (md a0 a1).1 := jv iC h
theorem oY (x : ByteArray) (k : Int) (h0 : 0 ≤ k) (hb : k + (eD x : Int) ≤ 4611686018427387904) : (el x k).1 = k + eD x := by
 simp only [eD, Int.natCast_add] at hb ⊢
 simp (disch := omega) only [el, wi]
 all_goals first | done | omega
theorem kk (a0 : List ByteArray) (a1 : Int) (h0 : 0 ≤ a1) (hb : a1 + (sum a0 : Int) ≤ 4611686018427387904) : (md a0 a1).1 = a1 + sum a0 := gh oY a0 a1 h0 hb
theorem sz (a : List ByteArray) : sum a ≤ 60 * (di (fun y : ByteArray => y.size) a) := jz (fun x => by
  try simp only [eD] at *
  omega) a
end Z233
namespace Z234
set_option maxHeartbeats 8000000
inductive Pt where
 | p0 (a : Int) (b : Int) (c : List (List L))
def pid : Pt → Nat
 | .p0 .. => 2
def bR : Pt → List V
 | .p0 a b c => [.own 0, .int .i64 a, .int .i64 b]
def bQ : Pt → List aI
 | .p0 a b c => [.row 121 c]
def step (J : Pt → ay) : Pt → ay
 | .p0 a b c => (cond (decide (b < (c.length : Int))) (m2 b (c.length : Int) (call (Z228.R ((bd.at c (Int.toNat b)).aL, a)) fun v1 => (m2 b (c.length : Int) (bJ (Nat.beq (Int.toNat b) (Int.toNat b) && true) (call (Z232.R (i64.wrap (v1.1 + 1))) fun v2 => (m2 b (c.length : Int) (bJ (Nat.beq (Int.toNat b) (Int.toNat b) && true) (m2 b (c.length : Int) (bJ (Nat.beq (Int.toNat b) (Int.toNat b) && true) (m2 b (c.length : Int) (bJ (Nat.beq (Int.toNat b) (Int.toNat b) && true) (m2 b (c.length : Int) (bJ (Nat.beq (Int.toNat b) (Int.toNat b) && true) (bJ (Nat.beq (Int.toNat b) (Int.toNat b) && true) (call (Z233.R ((bd.at c (Int.toNat b)).aH.aU, (i64.wrap ((i64.wrap ((i64.wrap ((i64.wrap (v1.1 + 1)) + 1)) + 1)) + 1)))) fun v3 => (m2 b (c.length : Int) (bJ (Nat.beq (Int.toNat b) (Int.toNat b) && true) (m2 b (c.length : Int) (bJ (Nat.beq (Int.toNat b) (Int.toNat b) && true) (bJ (Nat.beq (Int.toNat b) (Int.toNat b) && true) (call (Z226.R ((bd.at c (Int.toNat b)).cE.aU, (i64.wrap (v3.1 + 1)))) fun v4 => (m2 b (c.length : Int) (bJ (Nat.beq (Int.toNat b) (Int.toNat b) && true) (call (Z232.R (i64.wrap (v4.1 + 1))) fun v5 => (m2 b (c.length : Int) (bJ (Nat.beq (Int.toNat b) (Int.toNat b) && true) (m2 b (c.length : Int) (bJ (Nat.beq (Int.toNat b) (Int.toNat b) && true) (m2 b (c.length : Int) (bJ (Nat.beq (Int.toNat b) (Int.toNat b) && true) (m2 b (c.length : Int) (bJ (Nat.beq (Int.toNat b) (Int.toNat b) && true) (bJ (Nat.beq (Int.toNat b) (Int.toNat b) && true) (call (Z233.R ((bd.at c (Int.toNat b)).cL.av.aU, (i64.wrap ((i64.wrap ((i64.wrap ((i64.wrap (v4.1 + 1)) + 1)) + 1)) + 1)))) fun v6 => (call (Z232.R v6.1) fun v7 => (m2 b (c.length : Int) (bJ (Nat.beq (Int.toNat b) (Int.toNat b) && true) (m2 b (c.length : Int) (bJ (Nat.beq (Int.toNat b) (Int.toNat b) && true) (m2 b (c.length : Int) (bJ (Nat.beq (Int.toNat b) (Int.toNat b) && true) (m2 b (c.length : Int) (bJ (Nat.beq (Int.toNat b) (Int.toNat b) && true) (bJ (Nat.beq (Int.toNat b) (Int.toNat b) && true) (call (Z233.R ((bd.at c (Int.toNat b)).cL.bm.aU, (i64.wrap ((i64.wrap ((i64.wrap (v6.1 + 1)) + 1)) + 1)))) fun v8 => (m2 b (c.length : Int) (bJ (Nat.beq (Int.toNat b) (Int.toNat b) && true) (m2 b (c.length : Int) (bJ (Nat.beq (Int.toNat b) (Int.toNat b) && true) (bJ (Nat.beq (Int.toNat b) (Int.toNat b) && true) (call (Z226.R ((bd.at c (Int.toNat b)).cL.cq.aU, (i64.wrap (v8.1 + 1)))) fun v9 => (m2 b (c.length : Int) (bJ (Nat.beq (Int.toNat b) (Int.toNat b) && true) (m2 b (c.length : Int) (bJ (Nat.beq (Int.toNat b) (Int.toNat b) && true) (bJ (Nat.beq (Int.toNat b) (Int.toNat b) && true) (call (Z226.R ((bd.at c (Int.toNat b)).cL.bD.aU, (i64.wrap (v9.1 + 1)))) fun v10 => J (.p0 v10.1 (i64.wrap (b + 1)) (List.set c (Int.toNat b) (bd.enc (⟨v1.2, ((Int.tmod v1.1 3) == 0), (⟨v2, (i64.wrap ((i64.wrap (v1.1 + 1)) + 1)), (i64.wrap ((i64.wrap ((i64.wrap (v1.1 + 1)) + 1)) + 1)), v3.2⟩ : bA), (⟨v3.1, v4.2⟩ : cn), (⟨v4.1, (⟨v5, (i64.wrap ((i64.wrap (v4.1 + 1)) + 1)), (i64.wrap ((i64.wrap ((i64.wrap (v4.1 + 1)) + 1)) + 1)), v6.2⟩ : bA), (⟨v7, (i64.wrap (v6.1 + 1)), (i64.wrap ((i64.wrap (v6.1 + 1)) + 1)), v8.2⟩ : bA), (⟨v8.1, v9.2⟩ : cn), (⟨v9.1, v10.2⟩ : cn)⟩ : eI)⟩ : bd))))))))))))))))))))))))))))))))))))))))))))))))))))))))))))) (ret ((a, c) : Int × List (List L))))
def start (J : Pt → ay) (x0 : List (List L)) (x1 : Int) : ay := J (.p0 x1 0 x0)
def live : Nat → Live := fun i => match i with | 2 => [(0, none), (1, none), (5, none)] | _ => []
def bO : List (Bool × List K) := [(false, [.sl 121]), (false, [.int .i64])]
def res : RP := .mj [121]
abbrev E : Env := { T := assoc lr, G := cK [(86, Z232.aK)], nt := 196, M := fb [(85, Z228.aK), (33, Z233.aK), (87, Z226.aK)], np := 1, mt := true }
theorem step_eq (I : bY) (p : Pt) : cz E live I (pid p) (bo Tryz.f20) (eN (live (pid p)) (bR p) (bQ p)) (bX E Tryz.f20 res) = step (fun q => I (pid q) (bR q) (bQ q)) p := by
 cases p <;> kernel_rfl
theorem start_eq (I : bY) (ls : List L) : ee E live I (bo Tryz.f20) (gm bO ls) (bX E Tryz.f20 res) = start (fun q => I (pid q) (bR q) (bQ q)) (ls.headD .hole).aG ((ar 1 ls).headD .hole).toInt := by kernel_rfl
theorem run_eq (n : Nat) (ls : List L) : ea E live Tryz.f20 res n (gm bO ls) = start (iter step n) (ls.headD .hole).aG ((ar 1 ls).headD .hole).toInt := bW (id := pid) (vs := bR) (hs := bQ) (step := step) (start := fun J => start J (ls.headD .hole).aG ((ar 1 ls).headD .hole).toInt) step_eq (fun I => start_eq I ls) n
def e1 (x : ad) (k : Int) := Z228.md x.aL k
def e2 (x : ad) (k : Int) := Z233.md ((x.aH).aU) (i64.wrap ((i64.wrap ((i64.wrap ((i64.wrap ((e1 x k).1 + 1)) + 1)) + 1)) + 1))
def e3 (x : ad) (k : Int) := Z226.md ((x.cE).aU) (i64.wrap ((e2 x k).1 + 1))
def e4 (x : ad) (k : Int) := Z233.md (((x.cL).av).aU) (i64.wrap ((i64.wrap ((i64.wrap ((i64.wrap ((e3 x k).1 + 1)) + 1)) + 1)) + 1))
def e5 (x : ad) (k : Int) := Z233.md (((x.cL).bm).aU) (i64.wrap ((i64.wrap ((i64.wrap ((e4 x k).1 + 1)) + 1)) + 1))
def e6 (x : ad) (k : Int) := Z226.md (((x.cL).cq).aU) (i64.wrap ((e5 x k).1 + 1))
def e7 (x : ad) (k : Int) := Z226.md (((x.cL).bD).aU) (i64.wrap ((e6 x k).1 + 1))
def el (x : ad) (k : Int) : Int × ad := ((e7 x k).1, (⟨(e1 x k).2, ((Int.tmod (e1 x k).1 3) == 0), (⟨(Z232.md (i64.wrap ((e1 x k).1 + 1))), (i64.wrap ((i64.wrap ((e1 x k).1 + 1)) + 1)), (i64.wrap ((i64.wrap ((i64.wrap ((e1 x k).1 + 1)) + 1)) + 1)), (e2 x k).2⟩ : aj), (⟨(e2 x k).1, (e3 x k).2⟩ : aB), (⟨(e3 x k).1, (⟨(Z232.md (i64.wrap ((e3 x k).1 + 1))), (i64.wrap ((i64.wrap ((e3 x k).1 + 1)) + 1)), (i64.wrap ((i64.wrap ((i64.wrap ((e3 x k).1 + 1)) + 1)) + 1)), (e4 x k).2⟩ : aj), (⟨(Z232.md ((e4 x k).1)), (i64.wrap ((e4 x k).1 + 1)), (i64.wrap ((i64.wrap ((e4 x k).1 + 1)) + 1)), (e5 x k).2⟩ : aj), (⟨(e5 x k).1, (e6 x k).2⟩ : aB), (⟨(e6 x k).1, (e7 x k).2⟩ : aB)⟩ : bt)⟩ : ad))
theorem iC (x : ad) (k : Int) (hk : dI k) : dI (el x k).1 := (Z226.iq (bz _))
def eD (x : ad) : Nat := 14 + Z228.sum x.aL + Z233.sum ((x.aH).aU) + Z226.sum ((x.cE).aU) + Z233.sum (((x.cL).av).aU) + Z233.sum (((x.cL).bm).aU) + Z226.sum (((x.cL).cq).aU) + Z226.sum (((x.cL).bD).aU)
def sum (a : List ad) : Nat := (a.map eD).sum
def md (a0 : List ad) (a1 : Int) : Int × List ad := ir el a0 a1
def gd (a0 : List ad) (a1 : Int) : Prop := dI a1
def acc (ls : List L) : List (List L) × Int := ((ls.headD .hole).aG, ((ar 1 ls).headD .hole).toInt)
def R : (List (List L) × Int) → Option (Int × List (List L)) := RR (p2 gd) (u2 md)
theorem ai {a0 a1} (h : gd a0 a1) : R ((a0.map ad.row), a1) = some ((md a0 a1).1, ((md a0 a1).2.map ad.row)) := aE (a := (a0, a1)) h
def aK : fN := MN bO acc R
theorem okF (a0 : List ad) (a1 : Int) (hg : gd a0 a1) (h0 : a0.length ≤ maxLen) : ∃ n, start (iter step n) (a0.map ad.row) a1 = ret (((md a0 a1).1, ((md a0 a1).2.map ad.row)) : Int × List (List L)) := by
  unfold gd at hg
  show ∃ n, iter step n (Pt.p0 a1 0 (a0.map ad.row)) = _
  unfold md
  refine fU (el := el) (xs := a0) ad.zero dI iC (pt := fun i k c => Pt.p0 k (i : Int) (c.map ad.row)) (out := fun b => ret (b.1, b.2.map ad.row)) (fun J i k c hi hc hk => ?_) (fun J k c hc => ?_) hg
  · have hm : c.length ≤ maxLen := hc ▸ h0
    simp only [step, SS]
    refine af (aD hi) ?_
    refine af ax ?_
    refine af (aD hi) ?_
    refine aN ((e1 (c.getD i ad.zero) k).1, ((e1 (c.getD i ad.zero) k).2.map aa.row)) (Z228.ai (a0 := (c.getD i ad.zero).aL) (a1 := k) hk) ?_
    refine af ax ?_
    refine af (aD hi) ?_
    refine af (eB _) ?_
    refine aN (Z232.md (i64.wrap ((e1 (c.getD i ad.zero) k).1 + 1))) (Z232.ai (a0 := i64.wrap ((e1 (c.getD i ad.zero) k).1 + 1)) (bz _)) ?_
    repeat first | refine af ax ?_ | refine af (aD hi) ?_ | refine af (eB _) ?_
    refine aN ((e2 (c.getD i ad.zero) k).1, ((e2 (c.getD i ad.zero) k).2.map cu)) (Z233.ai (a0 := ((c.getD i ad.zero).aH).aU) (a1 := i64.wrap ((i64.wrap ((i64.wrap ((i64.wrap ((e1 (c.getD i ad.zero) k).1 + 1)) + 1)) + 1)) + 1)) (bz _)) ?_
    repeat first | refine af ax ?_ | refine af (aD hi) ?_ | refine af (eB _) ?_
    refine aN ((e3 (c.getD i ad.zero) k).1, ((e3 (c.getD i ad.zero) k).2.map aP)) (Z226.ai (a0 := ((c.getD i ad.zero).cE).aU) (a1 := i64.wrap ((e2 (c.getD i ad.zero) k).1 + 1)) (bz _)) ?_
    refine af ax ?_
    refine af (aD hi) ?_
    refine af (eB _) ?_
    refine aN (Z232.md (i64.wrap ((e3 (c.getD i ad.zero) k).1 + 1))) (Z232.ai (a0 := i64.wrap ((e3 (c.getD i ad.zero) k).1 + 1)) (bz _)) ?_
    repeat first | refine af ax ?_ | refine af (aD hi) ?_ | refine af (eB _) ?_
    refine aN ((e4 (c.getD i ad.zero) k).1, ((e4 (c.getD i ad.zero) k).2.map cu)) (Z233.ai (a0 := (((c.getD i ad.zero).cL).av).aU) (a1 := i64.wrap ((i64.wrap ((i64.wrap ((i64.wrap ((e3 (c.getD i ad.zero) k).1 + 1)) + 1)) + 1)) + 1)) (bz _)) ?_
    refine aN (Z232.md ((e4 (c.getD i ad.zero) k).1)) (Z232.ai (a0 := (e4 (c.getD i ad.zero) k).1) (Z233.iq (bz _))) ?_
    repeat first | refine af ax ?_ | refine af (aD hi) ?_ | refine af (eB _) ?_
    refine aN ((e5 (c.getD i ad.zero) k).1, ((e5 (c.getD i ad.zero) k).2.map cu)) (Z233.ai (a0 := (((c.getD i ad.zero).cL).bm).aU) (a1 := i64.wrap ((i64.wrap ((i64.wrap ((e4 (c.getD i ad.zero) k).1 + 1)) + 1)) + 1)) (bz _)) ?_
    repeat first | refine af ax ?_ | refine af (aD hi) ?_ | refine af (eB _) ?_
    refine aN ((e6 (c.getD i ad.zero) k).1, ((e6 (c.getD i ad.zero) k).2.map aP)) (Z226.ai (a0 := (((c.getD i ad.zero).cL).cq).aU) (a1 := i64.wrap ((e5 (c.getD i ad.zero) k).1 + 1)) (bz _)) ?_
    repeat first | refine af ax ?_ | refine af (aD hi) ?_ | refine af (eB _) ?_
    refine aN ((e7 (c.getD i ad.zero) k).1, ((e7 (c.getD i ad.zero) k).2.map aP)) (Z226.ai (a0 := (((c.getD i ad.zero).cL).bD).aU) (a1 := i64.wrap ((e6 (c.getD i ad.zero) k).1 + 1)) (bz _)) ?_
    rw [az hi hm]
    exact congrArg (fun q => J (Pt.p0 (el (c.getD i ad.zero) k).1 ((i + 1 : Nat) : Int) q)) (List.map_set (f := ad.row) (l := c) (i := i) (a := (el (c.getD i ad.zero) k).2)).symm
  · simp only [step, SS]
    refine bZ (by apply decide_eq_false; omega) ?_
    rfl
theorem ab : dR Tryz.prog Ev 20 aK := MV (run := fun n x => start (iter step n) x.1 x.2) mix au (.cons Z232.ab .nil) (.cons Z228.ab (.cons Z233.ab (.cons Z226.ab .nil))) Tryz.func20 (by kernel_rfl) run_eq (fun ls a hl e hg => okF a.1 a.2 hg (by have h : (ls.headD .hole).aG.length ≤ maxLen := (hl _ _ (.head _)).len; have e : a.1.map ad.row = (ls.headD .hole).aG := (congrArg (fun x => x.1) e.symm); rw [← e] at h; simpa using h))
theorem iq {a0 : List ad} {a1 : Int} (h : dI a1) : dI (md a0 a1).1 := jv iC h
theorem oY (x : ad) (k : Int) (h0 : 0 ≤ k) (hb : k + (eD x : Int) ≤ 4611686018427387904) : (el x k).1 = k + eD x := by
 simp only [eD, Int.natCast_add] at hb ⊢
 simp (disch := omega) only [el, e1, e2, e3, e4, e5, e6, e7, wi, Z228.kk, Z233.kk, Z226.kk]
 all_goals first | done | omega
theorem kk (a0 : List ad) (a1 : Int) (h0 : 0 ≤ a1) (hb : a1 + (sum a0 : Int) ≤ 4611686018427387904) : (md a0 a1).1 = a1 + sum a0 := gh oY a0 a1 h0 hb
theorem sz (a : List ad) : sum a ≤ 60 * (di (fun y : ad => ad.size y) a) := jz (fun x => by
  have := Z228.sz x.aL
  have := Z233.sz ((x.aH).aU)
  have := Z226.sz ((x.cE).aU)
  have := Z233.sz (((x.cL).av).aU)
  have := Z233.sz (((x.cL).bm).aU)
  have := Z226.sz (((x.cL).cq).aU)
  have := Z226.sz (((x.cL).bD).aU)
  try simp only [eD, ad.size, aj.size, aB.size, bt.size] at *
  omega) a
end Z234
namespace Z235
set_option maxHeartbeats 8000000
def F (x0 : bA) (x1 : Int) : ay := (call (Z233.R (x0.aU, x1)) fun v1 => ret ((v1.1, v1.2) : Int × List (List L)))
def bO : List (Bool × List K) := [(true, [.str, .int .i64, .int .i64, .sl 9]), (false, [.int .i64])]
def res : RP := .mj [9]
def e1 (x : aj) (k : Int) := Z233.md x.aU k
def sum (x : aj) : Nat := 0 + Z233.sum x.aU
def md (a0 : aj) (a1 : Int) : Int × List ByteArray := ((e1 a0 a1).1, (e1 a0 a1).2)
def gd (a0 : aj) (a1 : Int) : Prop := dI a1
def acc (ls : List L) : bA × Int := ((bA.dec ls), ((ar 4 ls).headD .hole).toInt)
def R : (bA × Int) → Option (Int × List (List L)) := RR (p2 gd) (u2 md)
theorem ai {a0 a1} (h : gd a0 a1) : R ((aj.r a0), a1) = some ((md a0 a1).1, ((md a0 a1).2.map cu)) := aE (a := (a0, a1)) h
def aK : fN := MN bO acc R
theorem okF (a0 : aj) (a1 : Int) (hg : gd a0 a1) : F (aj.r a0) a1 = ret (((md a0 a1).1, ((md a0 a1).2.map cu)) : Int × List (List L)) := by
 unfold gd at hg
 simp only [F, SS]
 unfold md
 refine aN ((e1 a0 a1).1, ((e1 a0 a1).2.map cu)) (Z233.ai (a0 := a0.aU) (a1 := a1) hg) ?_
 first | rfl | (simp only [SS]; rfl)
theorem ab : dR Tryz.prog Ev 88 aK := MV (live := fun _ => []) (nt := 10) (run := fun _ x => F x.1 x.2) mix au .nil (.cons Z233.ab .nil) Tryz.func88 (by kernel_rfl) (fun _ _ => by kernel_rfl) (fun _ a _ _ hg => ⟨0, okF a.1 a.2 hg⟩)
theorem iq {a0 : aj} {a1 : Int} (hk : dI a1) : dI (md a0 a1).1 := (Z233.iq hk)
theorem kk (x : aj) (k : Int) (h0 : 0 ≤ k) (hb : k + (sum x : Int) ≤ 4611686018427387904) : (md x k).1 = k + sum x := by
 simp only [sum, Int.natCast_add] at hb ⊢
 simp (disch := omega) only [md, e1, wi, Z233.kk]
 all_goals first | done | omega
theorem sz (x : aj) : sum x ≤ 60 * aj.size x := by
  have := Z233.sz x.aU
  try simp only [sum, aj.size] at *
  omega
def eM (x : aj) (k : Int) : aj := (⟨x.aV, x.bg, x.bE, (md x k).2⟩ : aj)
end Z235
namespace Z236
set_option maxHeartbeats 8000000
def F (x0 : bT) (x1 : Int) : ay := (call (Z231.R (x0.cy, x1)) fun v1 => (call (Z235.R (x0.aH, v1.1)) fun v2 => (call (Z226.R (x0.dq, v2.1)) fun v3 => ret ((v3.1, v1.2.1, v1.2.2, v2.2, v3.2) : Int × List (List L) × List (List L) × List (List L) × List (List L)))))
def bO : List (Bool × List K) := [(true, [.sl 116, .sl 204, .bool, .str, .int .i64, .int .i64, .sl 9, .bool, .sl 3]), (false, [.int .i64])]
def res : RP := .mj [116, 204, 9, 3]
def e1 (x : aX) (k : Int) := Z231.md x.cy k
def e2 (x : aX) (k : Int) := Z235.md x.aH ((e1 x k).1)
def e3 (x : aX) (k : Int) := Z226.md x.dq ((e2 x k).1)
def sum (x : aX) : Nat := 0 + Z231.sum x.cy + Z235.sum x.aH + Z226.sum x.dq
def md (a0 : aX) (a1 : Int) : Int × List (List aa) × List ao × List ByteArray × List Int := ((e3 a0 a1).1, (e1 a0 a1).2.1, (e1 a0 a1).2.2, (e2 a0 a1).2, (e3 a0 a1).2)
def gd (a0 : aX) (a1 : Int) : Prop := dI a1
def acc (ls : List L) : bT × Int := ((bT.dec ls), ((ar 9 ls).headD .hole).toInt)
def R : (bT × Int) → Option (Int × List (List L) × List (List L) × List (List L) × List (List L)) := RR (p2 gd) (u2 md)
theorem ai {a0 a1} (h : gd a0 a1) : R ((aX.r a0), a1) = some ((md a0 a1).1, ((md a0 a1).2.1.map (cM aa.row)), ((md a0 a1).2.2.1.map ao.row), ((md a0 a1).2.2.2.1.map cu), ((md a0 a1).2.2.2.2.map aP)) := aE (a := (a0, a1)) h
def aK : fN := MN bO acc R
theorem okF (a0 : aX) (a1 : Int) (hg : gd a0 a1) : F (aX.r a0) a1 = ret (((md a0 a1).1, ((md a0 a1).2.1.map (cM aa.row)), ((md a0 a1).2.2.1.map ao.row), ((md a0 a1).2.2.2.1.map cu), ((md a0 a1).2.2.2.2.map aP)) : Int × List (List L) × List (List L) × List (List L) × List (List L)) := by
 unfold gd at hg
 simp only [F, SS]
 unfold md
 refine aN ((e1 a0 a1).1, ((e1 a0 a1).2.1.map (cM aa.row)), ((e1 a0 a1).2.2.map ao.row)) (Z231.ai (a0 := a0.cy) (a1 := a1) hg) ?_
 refine aN ((e2 a0 a1).1, ((e2 a0 a1).2.map cu)) (Z235.ai (a0 := a0.aH) (a1 := (e1 a0 a1).1) (Z231.iq hg)) ?_
 refine aN ((e3 a0 a1).1, ((e3 a0 a1).2.map aP)) (Z226.ai (a0 := a0.dq) (a1 := (e2 a0 a1).1) (Z235.iq (Z231.iq hg))) ?_
 first | rfl | (simp only [SS]; rfl)
theorem ab : dR Tryz.prog Ev 21 aK := MV (live := fun _ => []) (nt := 18) (run := fun _ x => F x.1 x.2) mix au .nil (.cons Z231.ab (.cons Z235.ab (.cons Z226.ab .nil))) Tryz.func21 (by kernel_rfl) (fun _ _ => by kernel_rfl) (fun _ a _ _ hg => ⟨0, okF a.1 a.2 hg⟩)
theorem iq {a0 : aX} {a1 : Int} (hk : dI a1) : dI (md a0 a1).1 := (Z226.iq (Z235.iq (Z231.iq hk)))
theorem kk (x : aX) (k : Int) (h0 : 0 ≤ k) (hb : k + (sum x : Int) ≤ 4611686018427387904) : (md x k).1 = k + sum x := by
 simp only [sum, Int.natCast_add] at hb ⊢
 simp (disch := omega) only [md, e1, e2, e3, wi, Z231.kk, Z235.kk, Z226.kk]
 all_goals first | done | omega
theorem sz (x : aX) : sum x ≤ 60 * aX.size x := by
  have := Z231.sz x.cy
  have := Z235.sz x.aH
  have := Z226.sz x.dq
  try simp only [sum, aX.size, ah.size, aj.size] at *
  omega
def eM (x : aX) (k : Int) : aX := (⟨(⟨(md x k).2.1, (md x k).2.2.1⟩ : ah), x.bu, (⟨x.aH.aV, x.aH.bg, x.aH.bE, (md x k).2.2.2.1⟩ : aj), x.eL, (md x k).2.2.2.2⟩ : aX)
end Z236
namespace Z237
set_option maxHeartbeats 8000000
inductive Pt where
 | p0 (a : List (List L)) (b : Int) (c : Int)
def pid : Pt → Nat
 | .p0 .. => 2
def bR : Pt → List V
 | .p0 a b c => [.sl none 3 a, .int .i64 b, .int .i64 c]
def bQ : Pt → List aI
 | .p0 a b c => []
def step (J : Pt → ay) : Pt → ay
 | .p0 a b c => (cond (decide (c < (a.length : Int))) (m2 c (a.length : Int) (cond ((iu a (Int.toNat c)) != b) (ret ((-1) : Int)) (J (.p0 a (i64.wrap (b + 1)) (i64.wrap (c + 1)))))) (ret (b : Int)))
def start (J : Pt → ay) (x0 : List (List L)) (x1 : Int) : ay := J (.p0 x0 x1 0)
def live : Nat → Live := fun i => match i with | 2 => [(0, none), (1, none), (5, none)] | _ => []
def bO : List fE := [.rd (.sl 3), .rd (.int .i64)]
def res : RP := .one (.rd (.int .i64))
abbrev E : Env := { T := assoc lr, G := cK [], nt := 21 }
theorem step_eq (I : bY) (p : Pt) : cz E live I (pid p) (bo Tryz.f90) (eN (live (pid p)) (bR p) (bQ p)) (bX E Tryz.f90 res) = step (fun q => I (pid q) (bR q) (bQ q)) p := by
 cases p <;> kernel_rfl
theorem start_eq (I : bY) (ls : List L) : ee E live I (bo Tryz.f90) (cG bO ls) (bX E Tryz.f90 res) = start (fun q => I (pid q) (bR q) (bQ q)) (ls.headD .hole).aG ((ar 1 ls).headD .hole).toInt := by kernel_rfl
theorem run_eq (n : Nat) (ls : List L) : ea E live Tryz.f90 res n (cG bO ls) = start (iter step n) (ls.headD .hole).aG ((ar 1 ls).headD .hole).toInt := bW (id := pid) (vs := bR) (hs := bQ) (step := step) (start := fun J => start J (ls.headD .hole).aG ((ar 1 ls).headD .hole).toInt) step_eq (fun I => start_eq I ls) n
def f (x : Int) (k : Int) : Option Int := (cond (x != k) none (some (i64.wrap (k + 1))))
theorem pZ (x : Int) (k k2 : Int) (hk : dI k) (h : f x k = some k2) : dI k2 := by
 unfold f at h
 have h := bc h
 injection h with h
 subst h
 exact (bz _)
def md (a0 : List Int) (a1 : Int) : Int := gM f a0 a1
def gd (a0 : List Int) (a1 : Int) : Prop := dI a1
def acc (ls : List L) : List (List L) × Int := ((ls.headD .hole).aG, ((ar 1 ls).headD .hole).toInt)
def R : (List (List L) × Int) → Option Int := RR (p2 gd) (u2 md)
theorem ai {a0 a1} (h : gd a0 a1) : R ((a0.map aP), a1) = some (md a0 a1) := aE (a := (a0, a1)) h
def aK : fe := CN bO res acc R
theorem okF (a0 : List Int) (a1 : Int) (hg : gd a0 a1) (h0 : a0.length ≤ maxLen) : ∃ n, start (iter step n) (a0.map aP) a1 = ret ((md a0 a1) : Int) := by
  unfold gd at hg
  show ∃ n, iter step n (Pt.p0 (a0.map aP) a1 0) = _
  unfold md
  refine gG (f := f) (xs := a0) 0 dI pZ (pt := fun i k => Pt.p0 (a0.map aP) k (i : Int)) (fun J i k hi hk => ?_) (fun J k => ?_) hg
  · simp only [step, SS]
    refine af (aD hi) ?_
    refine af ax ?_
    refine af (aD hi) ?_
    refine bf rfl ?_
    rw [az hi h0]
    rfl
  · simp only [step, SS]
    refine bZ (by apply decide_eq_false; omega) ?_
    rfl
theorem ab : Valid Tryz.prog Ev 90 aK := VV (run := fun n x => start (iter step n) x.1 x.2) mix au .nil Tryz.func90 (by kernel_rfl) run_eq (fun ls a hl e hg => okF a.1 a.2 hg (by have h : (ls.headD .hole).aG.length ≤ maxLen := hl.1.len; have e : a.1.map aP = (ls.headD .hole).aG := (congrArg (fun x => x.1) e.symm); rw [← e] at h; simpa using h))
theorem iq {a0 : List Int} {a1 : Int} (h : dI a1) : dI (md a0 a1) := iH pZ gW h
theorem tI (x : Int) (k : Int) (h0 : 0 ≤ k) (hb : k + (Z226.eD x : Int) ≤ 4611686018427387904) : f (Z226.el x k).2 k = some (k + Z226.eD x) := by
 simp only [Z226.eD, Int.natCast_add] at hb ⊢
 simp (disch := omega) only [Z226.el, f, wi, bne_self_eq_false, beq_self_eq_true, eW, Bool.not_true, cond_false, ck]
 all_goals first | done | omega | (congr 1 <;> omega)
theorem mk (a0 : List Int) (a1 : Int) (h0 : 0 ≤ a1) (hb : a1 + (Z226.sum a0 : Int) ≤ 4611686018427387904) : md (Z226.md a0 a1).2 a1 = a1 + Z226.sum a0 := fW Z226.oY tI a0 a1 h0 hb
end Z237
namespace Z238
set_option maxHeartbeats 8000000
inductive Pt where
 | p0 (a : List (List L)) (b : Int) (c : Int)
def pid : Pt → Nat
 | .p0 .. => 2
def bR : Pt → List V
 | .p0 a b c => [.sl none 264 a, .int .i64 b, .int .i64 c]
def bQ : Pt → List aI
 | .p0 a b c => []
def step (J : Pt → ay) : Pt → ay
 | .p0 a b c => (cond (decide (c < (a.length : Int))) (m2 c (a.length : Int) (cond ((aJ.at a (Int.toNat c)).fq != b) (ret ((-1) : Int)) (m2 c (a.length : Int) (cond ((aJ.at a (Int.toNat c)).gN != (i64.wrap (b + 1))) (ret ((-1) : Int)) (J (.p0 a (i64.wrap ((i64.wrap (b + 1)) + 1)) (i64.wrap (c + 1)))))))) (ret (b : Int)))
def start (J : Pt → ay) (x0 : List (List L)) (x1 : Int) : ay := J (.p0 x0 x1 0)
def live : Nat → Live := fun i => match i with | 2 => [(0, none), (1, none), (5, none)] | _ => []
def bO : List fE := [.rd (.sl 264), .rd (.int .i64)]
def res : RP := .one (.rd (.int .i64))
abbrev E : Env := { T := assoc lr, G := cK [], nt := 31 }
theorem step_eq (I : bY) (p : Pt) : cz E live I (pid p) (bo Tryz.f169) (eN (live (pid p)) (bR p) (bQ p)) (bX E Tryz.f169 res) = step (fun q => I (pid q) (bR q) (bQ q)) p := by
 cases p <;> kernel_rfl
theorem start_eq (I : bY) (ls : List L) : ee E live I (bo Tryz.f169) (cG bO ls) (bX E Tryz.f169 res) = start (fun q => I (pid q) (bR q) (bQ q)) (ls.headD .hole).aG ((ar 1 ls).headD .hole).toInt := by kernel_rfl
theorem run_eq (n : Nat) (ls : List L) : ea E live Tryz.f169 res n (cG bO ls) = start (iter step n) (ls.headD .hole).aG ((ar 1 ls).headD .hole).toInt := bW (id := pid) (vs := bR) (hs := bQ) (step := step) (start := fun J => start J (ls.headD .hole).aG ((ar 1 ls).headD .hole).toInt) step_eq (fun I => start_eq I ls) n
def f (x : aJ) (k : Int) : Option Int := (cond (x.fq != k) none (cond (x.gN != (i64.wrap (k + 1))) none (some (i64.wrap ((i64.wrap (k + 1)) + 1)))))
theorem pZ (x : aJ) (k k2 : Int) (hk : dI k) (h : f x k = some k2) : dI k2 := by
 unfold f at h
 have h := bc h
 have h := bc h
 injection h with h
 subst h
 exact (bz _)
def md (a0 : List aJ) (a1 : Int) : Int := gM f a0 a1
def gd (a0 : List aJ) (a1 : Int) : Prop := dI a1
def acc (ls : List L) : List (List L) × Int := ((ls.headD .hole).aG, ((ar 1 ls).headD .hole).toInt)
def R : (List (List L) × Int) → Option Int := RR (p2 gd) (u2 md)
theorem ai {a0 a1} (h : gd a0 a1) : R ((a0.map aJ.row), a1) = some (md a0 a1) := aE (a := (a0, a1)) h
def aK : fe := CN bO res acc R
theorem okF (a0 : List aJ) (a1 : Int) (hg : gd a0 a1) (h0 : a0.length ≤ maxLen) : ∃ n, start (iter step n) (a0.map aJ.row) a1 = ret ((md a0 a1) : Int) := by
  unfold gd at hg
  show ∃ n, iter step n (Pt.p0 (a0.map aJ.row) a1 0) = _
  unfold md
  refine gG (f := f) (xs := a0) aJ.zero dI pZ (pt := fun i k => Pt.p0 (a0.map aJ.row) k (i : Int)) (fun J i k hi hk => ?_) (fun J k => ?_) hg
  · simp only [step, SS]
    refine af (aD hi) ?_
    refine af ax ?_
    refine af (aD hi) ?_
    refine bf rfl ?_
    refine af ax ?_
    refine af (aD hi) ?_
    refine bf rfl ?_
    rw [az hi h0]
    rfl
  · simp only [step, SS]
    refine bZ (by apply decide_eq_false; omega) ?_
    rfl
theorem ab : Valid Tryz.prog Ev 169 aK := VV (run := fun n x => start (iter step n) x.1 x.2) mix au .nil Tryz.func169 (by kernel_rfl) run_eq (fun ls a hl e hg => okF a.1 a.2 hg (by have h : (ls.headD .hole).aG.length ≤ maxLen := hl.1.len; have e : a.1.map aJ.row = (ls.headD .hole).aG := (congrArg (fun x => x.1) e.symm); rw [← e] at h; simpa using h))
theorem iq {a0 : List aJ} {a1 : Int} (h : dI a1) : dI (md a0 a1) := iH pZ gW h
theorem tI (x : aJ) (k : Int) (h0 : 0 ≤ k) (hb : k + (Z227.eD x : Int) ≤ 4611686018427387904) : f (Z227.el x k).2 k = some (k + Z227.eD x) := by
 simp only [Z227.eD, Int.natCast_add] at hb ⊢
 simp (disch := omega) only [Z227.el, f, wi, bne_self_eq_false, beq_self_eq_true, eW, Bool.not_true, cond_false, ck]
 all_goals first | done | omega | (congr 1 <;> omega)
theorem mk (a0 : List aJ) (a1 : Int) (h0 : 0 ≤ a1) (hb : a1 + (Z227.sum a0 : Int) ≤ 4611686018427387904) : md (Z227.md a0 a1).2 a1 = a1 + Z227.sum a0 := fW Z227.oY tI a0 a1 h0 hb
end Z238
namespace Z239
set_option maxHeartbeats 8000000
inductive Pt where
 | p0 (a : List (List L)) (b : Int) (c : Int)
def pid : Pt → Nat
 | .p0 .. => 2
def bR : Pt → List V
 | .p0 a b c => [.sl none 202 a, .int .i64 b, .int .i64 c]
def bQ : Pt → List aI
 | .p0 a b c => []
def step (J : Pt → ay) : Pt → ay
 | .p0 a b c => (cond (decide (c < (a.length : Int))) (m2 c (a.length : Int) (cond ((aC.at a (Int.toNat c)).ae.aT != b) (ret ((-1) : Int)) (m2 c (a.length : Int) (cond ((aC.at a (Int.toNat c)).ae.bN != (i64.wrap (b + 1))) (ret ((-1) : Int)) (m2 c (a.length : Int) (cond ((aC.at a (Int.toNat c)).ae.bg != (i64.wrap ((i64.wrap (b + 1)) + 1))) (ret ((-1) : Int)) (m2 c (a.length : Int) (cond ((aC.at a (Int.toNat c)).ae.bL != (i64.wrap ((i64.wrap ((i64.wrap (b + 1)) + 1)) + 1))) (ret ((-1) : Int)) (m2 c (a.length : Int) (cond ((aC.at a (Int.toNat c)).ae.bF != (i64.wrap ((i64.wrap ((i64.wrap ((i64.wrap (b + 1)) + 1)) + 1)) + 1))) (ret ((-1) : Int)) (m2 c (a.length : Int) (cond ((aC.at a (Int.toNat c)).ae.bG != (i64.wrap ((i64.wrap ((i64.wrap ((i64.wrap ((i64.wrap (b + 1)) + 1)) + 1)) + 1)) + 1))) (ret ((-1) : Int)) (m2 c (a.length : Int) (cond ((aC.at a (Int.toNat c)).ae.cj != (i64.wrap ((i64.wrap ((i64.wrap ((i64.wrap ((i64.wrap ((i64.wrap (b + 1)) + 1)) + 1)) + 1)) + 1)) + 1))) (ret ((-1) : Int)) (m2 c (a.length : Int) (cond ((aC.at a (Int.toNat c)).ae.cB != (i64.wrap ((i64.wrap ((i64.wrap ((i64.wrap ((i64.wrap ((i64.wrap ((i64.wrap (b + 1)) + 1)) + 1)) + 1)) + 1)) + 1)) + 1))) (ret ((-1) : Int)) (m2 c (a.length : Int) (call (Z237.R ((aC.at a (Int.toNat c)).ae.bh.aF, (i64.wrap ((i64.wrap ((i64.wrap ((i64.wrap ((i64.wrap ((i64.wrap ((i64.wrap ((i64.wrap (b + 1)) + 1)) + 1)) + 1)) + 1)) + 1)) + 1)) + 1)))) fun v1 => (cond (decide (v1 < 0)) (ret ((-1) : Int)) (m2 c (a.length : Int) (cond ((aC.at a (Int.toNat c)).ae.bh.bH != v1) (ret ((-1) : Int)) (m2 c (a.length : Int) (call (Z237.R ((aC.at a (Int.toNat c)).ae.aQ.aF, (i64.wrap (v1 + 1)))) fun v2 => (cond (decide (v2 < 0)) (ret ((-1) : Int)) (m2 c (a.length : Int) (cond ((aC.at a (Int.toNat c)).ae.aQ.bH != v2) (ret ((-1) : Int)) (m2 c (a.length : Int) (cond ((aC.at a (Int.toNat c)).ae.cf != (i64.wrap (v2 + 1))) (ret ((-1) : Int)) (m2 c (a.length : Int) (call (Z237.R ((aC.at a (Int.toNat c)).ae.aM.aF, (i64.wrap ((i64.wrap (v2 + 1)) + 1)))) fun v3 => (cond (decide (v3 < 0)) (ret ((-1) : Int)) (m2 c (a.length : Int) (cond ((aC.at a (Int.toNat c)).ae.aM.bH != v3) (ret ((-1) : Int)) (m2 c (a.length : Int) (cond (!((aC.at a (Int.toNat c)).ae.aS == ((Int.tmod (i64.wrap (v3 + 1)) 3) == 0))) (ret ((-1) : Int)) (m2 c (a.length : Int) (call (Z238.R ((aC.at a (Int.toNat c)).bC, (i64.wrap ((i64.wrap (v3 + 1)) + 1)))) fun v4 => (cond (decide (v4 < 0)) (ret ((-1) : Int)) (J (.p0 a v4 (i64.wrap (c + 1)))))))))))))))))))))))))))))))))))))))))) (ret (b : Int)))
def start (J : Pt → ay) (x0 : List (List L)) (x1 : Int) : ay := J (.p0 x0 x1 0)
def live : Nat → Live := fun i => match i with | 2 => [(0, none), (1, none), (5, none)] | _ => []
def bO : List fE := [.rd (.sl 202), .rd (.int .i64)]
def res : RP := .one (.rd (.int .i64))
abbrev E : Env := { T := assoc lr, G := cK [(90, Z237.aK), (169, Z238.aK)], nt := 190 }
theorem step_eq (I : bY) (p : Pt) : cz E live I (pid p) (bo Tryz.f168) (eN (live (pid p)) (bR p) (bQ p)) (bX E Tryz.f168 res) = step (fun q => I (pid q) (bR q) (bQ q)) p := by
 cases p <;> kernel_rfl
theorem start_eq (I : bY) (ls : List L) : ee E live I (bo Tryz.f168) (cG bO ls) (bX E Tryz.f168 res) = start (fun q => I (pid q) (bR q) (bQ q)) (ls.headD .hole).aG ((ar 1 ls).headD .hole).toInt := by kernel_rfl
theorem run_eq (n : Nat) (ls : List L) : ea E live Tryz.f168 res n (cG bO ls) = start (iter step n) (ls.headD .hole).aG ((ar 1 ls).headD .hole).toInt := bW (id := pid) (vs := bR) (hs := bQ) (step := step) (start := fun J => start J (ls.headD .hole).aG ((ar 1 ls).headD .hole).toInt) step_eq (fun I => start_eq I ls) n
def e1 (x : aa) (k : Int) := Z237.md (((x.ae).bh).aF) (i64.wrap ((i64.wrap ((i64.wrap ((i64.wrap ((i64.wrap ((i64.wrap ((i64.wrap ((i64.wrap (k + 1)) + 1)) + 1)) + 1)) + 1)) + 1)) + 1)) + 1))
def e2 (x : aa) (k : Int) := Z237.md (((x.ae).aQ).aF) (i64.wrap ((e1 x k) + 1))
def e3 (x : aa) (k : Int) := Z237.md (((x.ae).aM).aF) (i64.wrap ((i64.wrap ((e2 x k) + 1)) + 1))
def e4 (x : aa) (k : Int) := Z238.md x.bC (i64.wrap ((i64.wrap ((e3 x k) + 1)) + 1))
def f (x : aa) (k : Int) : Option Int := (cond ((x.ae).aT != k) none (cond ((x.ae).bN != (i64.wrap (k + 1))) none (cond ((x.ae).bg != (i64.wrap ((i64.wrap (k + 1)) + 1))) none (cond ((x.ae).bL != (i64.wrap ((i64.wrap ((i64.wrap (k + 1)) + 1)) + 1))) none (cond ((x.ae).bF != (i64.wrap ((i64.wrap ((i64.wrap ((i64.wrap (k + 1)) + 1)) + 1)) + 1))) none (cond ((x.ae).bG != (i64.wrap ((i64.wrap ((i64.wrap ((i64.wrap ((i64.wrap (k + 1)) + 1)) + 1)) + 1)) + 1))) none (cond ((x.ae).cj != (i64.wrap ((i64.wrap ((i64.wrap ((i64.wrap ((i64.wrap ((i64.wrap (k + 1)) + 1)) + 1)) + 1)) + 1)) + 1))) none (cond ((x.ae).cB != (i64.wrap ((i64.wrap ((i64.wrap ((i64.wrap ((i64.wrap ((i64.wrap ((i64.wrap (k + 1)) + 1)) + 1)) + 1)) + 1)) + 1)) + 1))) none (cond (decide ((e1 x k) < 0)) none (cond (((x.ae).bh).bH != (e1 x k)) none (cond (decide ((e2 x k) < 0)) none (cond (((x.ae).aQ).bH != (e2 x k)) none (cond ((x.ae).cf != (i64.wrap ((e2 x k) + 1))) none (cond (decide ((e3 x k) < 0)) none (cond (((x.ae).aM).bH != (e3 x k)) none (cond (!((x.ae).aS == ((Int.tmod (i64.wrap ((e3 x k) + 1)) 3) == 0))) none (cond (decide ((e4 x k) < 0)) none (some (e4 x k)))))))))))))))))))
theorem pZ (x : aa) (k k2 : Int) (hk : dI k) (h : f x k = some k2) : dI k2 := by
 unfold f at h
 have h := bc h
 have h := bc h
 have h := bc h
 have h := bc h
 have h := bc h
 have h := bc h
 have h := bc h
 have h := bc h
 have h := bc h
 have h := bc h
 have h := bc h
 have h := bc h
 have h := bc h
 have h := bc h
 have h := bc h
 have h := bc h
 have h := bc h
 injection h with h
 subst h
 exact (Z238.iq (bz _))
def md (a0 : List aa) (a1 : Int) : Int := gM f a0 a1
def gd (a0 : List aa) (a1 : Int) : Prop := dI a1
def acc (ls : List L) : List (List L) × Int := ((ls.headD .hole).aG, ((ar 1 ls).headD .hole).toInt)
def R : (List (List L) × Int) → Option Int := RR (p2 gd) (u2 md)
theorem ai {a0 a1} (h : gd a0 a1) : R ((a0.map aa.row), a1) = some (md a0 a1) := aE (a := (a0, a1)) h
def aK : fe := CN bO res acc R
theorem okF (a0 : List aa) (a1 : Int) (hg : gd a0 a1) (h0 : a0.length ≤ maxLen) : ∃ n, start (iter step n) (a0.map aa.row) a1 = ret ((md a0 a1) : Int) := by
  unfold gd at hg
  show ∃ n, iter step n (Pt.p0 (a0.map aa.row) a1 0) = _
  unfold md
  refine gG (f := f) (xs := a0) aa.zero dI pZ (pt := fun i k => Pt.p0 (a0.map aa.row) k (i : Int)) (fun J i k hi hk => ?_) (fun J k => ?_) hg
  · simp only [step, SS]
    refine af (aD hi) ?_
    refine af ax ?_
    refine af (aD hi) ?_
    refine bf rfl ?_
    refine af ax ?_
    refine af (aD hi) ?_
    refine bf rfl ?_
    refine af ax ?_
    refine af (aD hi) ?_
    refine bf rfl ?_
    refine af ax ?_
    refine af (aD hi) ?_
    refine bf rfl ?_
    refine af ax ?_
    refine af (aD hi) ?_
    refine bf rfl ?_
    refine af ax ?_
    refine af (aD hi) ?_
    refine bf rfl ?_
    refine af ax ?_
    refine af (aD hi) ?_
    refine bf rfl ?_
    refine af ax ?_
    refine af (aD hi) ?_
    refine bf rfl ?_
    refine af ax ?_
    refine af (aD hi) ?_
    refine aN (e1 (a0.getD i aa.zero) k) (Z237.ai (a0 := (((a0.getD i aa.zero).ae).bh).aF) (a1 := i64.wrap ((i64.wrap ((i64.wrap ((i64.wrap ((i64.wrap ((i64.wrap ((i64.wrap ((i64.wrap (k + 1)) + 1)) + 1)) + 1)) + 1)) + 1)) + 1)) + 1)) (bz _)) ?_
    refine bf rfl ?_
    refine af ax ?_
    refine af (aD hi) ?_
    refine bf rfl ?_
    refine af ax ?_
    refine af (aD hi) ?_
    refine aN (e2 (a0.getD i aa.zero) k) (Z237.ai (a0 := (((a0.getD i aa.zero).ae).aQ).aF) (a1 := i64.wrap ((e1 (a0.getD i aa.zero) k) + 1)) (bz _)) ?_
    refine bf rfl ?_
    refine af ax ?_
    refine af (aD hi) ?_
    refine bf rfl ?_
    refine af ax ?_
    refine af (aD hi) ?_
    refine bf rfl ?_
    refine af ax ?_
    refine af (aD hi) ?_
    refine aN (e3 (a0.getD i aa.zero) k) (Z237.ai (a0 := (((a0.getD i aa.zero).ae).aM).aF) (a1 := i64.wrap ((i64.wrap ((e2 (a0.getD i aa.zero) k) + 1)) + 1)) (bz _)) ?_
    refine bf rfl ?_
    refine af ax ?_
    refine af (aD hi) ?_
    refine bf rfl ?_
    refine af ax ?_
    refine af (aD hi) ?_
    refine bf rfl ?_
    refine af ax ?_
    refine af (aD hi) ?_
    refine aN (e4 (a0.getD i aa.zero) k) (Z238.ai (a0 := (a0.getD i aa.zero).bC) (a1 := i64.wrap ((i64.wrap ((e3 (a0.getD i aa.zero) k) + 1)) + 1)) (bz _)) ?_
    refine bf rfl ?_
    rw [az hi h0]
    rfl
  · simp only [step, SS]
    refine bZ (by apply decide_eq_false; omega) ?_
    rfl
theorem ab : Valid Tryz.prog Ev 168 aK := VV (run := fun n x => start (iter step n) x.1 x.2) mix au (.cons Z237.ab (.cons Z238.ab .nil)) Tryz.func168 (by kernel_rfl) run_eq (fun ls a hl e hg => okF a.1 a.2 hg (by have h : (ls.headD .hole).aG.length ≤ maxLen := hl.1.len; have e : a.1.map aa.row = (ls.headD .hole).aG := (congrArg (fun x => x.1) e.symm); rw [← e] at h; simpa using h))
theorem iq {a0 : List aa} {a1 : Int} (h : dI a1) : dI (md a0 a1) := iH pZ gW h
theorem tI (x : aa) (k : Int) (h0 : 0 ≤ k) (hb : k + (Z228.eD x : Int) ≤ 4611686018427387904) : f (Z228.el x k).2 k = some (k + Z228.eD x) := by
 simp only [Z228.eD, Int.natCast_add] at hb ⊢
 simp (disch := omega) only [Z228.el, f, Z228.e1, Z228.e2, Z228.e3, Z228.e4, e1, e2, e3, e4, wi, Z226.kk, Z237.mk, Z227.kk, Z238.mk, bne_self_eq_false, beq_self_eq_true, eW, Bool.not_true, cond_false, ck]
 all_goals first | done | omega | (congr 1 <;> omega)
theorem mk (a0 : List aa) (a1 : Int) (h0 : 0 ≤ a1) (hb : a1 + (Z228.sum a0 : Int) ≤ 4611686018427387904) : md (Z228.md a0 a1).2 a1 = a1 + Z228.sum a0 := fW Z228.oY tI a0 a1 h0 hb
end Z239
namespace Z240
set_option maxHeartbeats 8000000
inductive Pt where
 | p0 (a : List (List L)) (b : Int) (c : Int)
def pid : Pt → Nat
 | .p0 .. => 2
def bR : Pt → List V
 | .p0 a b c => [.sl none 116 a, .int .i64 b, .int .i64 c]
def bQ : Pt → List aI
 | .p0 a b c => []
def step (J : Pt → ay) : Pt → ay
 | .p0 a b c => (cond (decide (c < (a.length : Int))) (m2 c (a.length : Int) (call (Z239.R ((lA a (Int.toNat c)), b)) fun v1 => (cond (decide (v1 < 0)) (ret ((-1) : Int)) (J (.p0 a v1 (i64.wrap (c + 1))))))) (ret (b : Int)))
def start (J : Pt → ay) (x0 : List (List L)) (x1 : Int) : ay := J (.p0 x0 x1 0)
def live : Nat → Live := fun i => match i with | 2 => [(0, none), (1, none), (5, none)] | _ => []
def bO : List fE := [.rd (.sl 116), .rd (.int .i64)]
def res : RP := .one (.rd (.int .i64))
abbrev E : Env := { T := assoc lr, G := cK [(168, Z239.aK)], nt := 21 }
theorem step_eq (I : bY) (p : Pt) : cz E live I (pid p) (bo Tryz.f112) (eN (live (pid p)) (bR p) (bQ p)) (bX E Tryz.f112 res) = step (fun q => I (pid q) (bR q) (bQ q)) p := by
 cases p <;> kernel_rfl
theorem start_eq (I : bY) (ls : List L) : ee E live I (bo Tryz.f112) (cG bO ls) (bX E Tryz.f112 res) = start (fun q => I (pid q) (bR q) (bQ q)) (ls.headD .hole).aG ((ar 1 ls).headD .hole).toInt := by kernel_rfl
theorem run_eq (n : Nat) (ls : List L) : ea E live Tryz.f112 res n (cG bO ls) = start (iter step n) (ls.headD .hole).aG ((ar 1 ls).headD .hole).toInt := bW (id := pid) (vs := bR) (hs := bQ) (step := step) (start := fun J => start J (ls.headD .hole).aG ((ar 1 ls).headD .hole).toInt) step_eq (fun I => start_eq I ls) n
def e1 (x : List aa) (k : Int) := Z239.md x k
def f (x : List aa) (k : Int) : Option Int := (cond (decide ((e1 x k) < 0)) none (some (e1 x k)))
theorem pZ (x : List aa) (k k2 : Int) (hk : dI k) (h : f x k = some k2) : dI k2 := by
 unfold f at h
 have h := bc h
 injection h with h
 subst h
 exact (Z239.iq hk)
def md (a0 : List (List aa)) (a1 : Int) : Int := gM f a0 a1
def gd (a0 : List (List aa)) (a1 : Int) : Prop := dI a1
def acc (ls : List L) : List (List L) × Int := ((ls.headD .hole).aG, ((ar 1 ls).headD .hole).toInt)
def R : (List (List L) × Int) → Option Int := RR (p2 gd) (u2 md)
theorem ai {a0 a1} (h : gd a0 a1) : R ((a0.map (cM aa.row)), a1) = some (md a0 a1) := aE (a := (a0, a1)) h
def aK : fe := CN bO res acc R
theorem okF (a0 : List (List aa)) (a1 : Int) (hg : gd a0 a1) (h0 : a0.length ≤ maxLen) : ∃ n, start (iter step n) (a0.map (cM aa.row)) a1 = ret ((md a0 a1) : Int) := by
  unfold gd at hg
  show ∃ n, iter step n (Pt.p0 (a0.map (cM aa.row)) a1 0) = _
  unfold md
  refine gG (f := f) (xs := a0) [] dI pZ (pt := fun i k => Pt.p0 (a0.map (cM aa.row)) k (i : Int)) (fun J i k hi hk => ?_) (fun J k => ?_) hg
  · simp only [step, SS]
    refine af (aD hi) ?_
    refine af ax ?_
    refine af (aD hi) ?_
    refine aN (e1 (a0.getD i []) k) (Z239.ai (a0 := a0.getD i []) (a1 := k) hk) ?_
    refine bf rfl ?_
    rw [az hi h0]
    rfl
  · simp only [step, SS]
    refine bZ (by apply decide_eq_false; omega) ?_
    rfl
theorem ab : Valid Tryz.prog Ev 112 aK := VV (run := fun n x => start (iter step n) x.1 x.2) mix au (.cons Z239.ab .nil) Tryz.func112 (by kernel_rfl) run_eq (fun ls a hl e hg => okF a.1 a.2 hg (by have h : (ls.headD .hole).aG.length ≤ maxLen := hl.1.len; have e : a.1.map (cM aa.row) = (ls.headD .hole).aG := (congrArg (fun x => x.1) e.symm); rw [← e] at h; simpa using h))
theorem iq {a0 : List (List aa)} {a1 : Int} (h : dI a1) : dI (md a0 a1) := iH pZ gW h
theorem tI (x : List aa) (k : Int) (h0 : 0 ≤ k) (hb : k + (Z229.eD x : Int) ≤ 4611686018427387904) : f (Z229.el x k).2 k = some (k + Z229.eD x) := by
 simp only [Z229.eD, Int.natCast_add] at hb ⊢
 simp (disch := omega) only [Z229.el, f, Z229.e1, e1, wi, Z228.kk, Z239.mk, bne_self_eq_false, beq_self_eq_true, eW, Bool.not_true, cond_false, ck]
 all_goals first | done | omega | (congr 1 <;> omega)
theorem mk (a0 : List (List aa)) (a1 : Int) (h0 : 0 ≤ a1) (hb : a1 + (Z229.sum a0 : Int) ≤ 4611686018427387904) : md (Z229.md a0 a1).2 a1 = a1 + Z229.sum a0 := fW Z229.oY tI a0 a1 h0 hb
end Z240
namespace Z241
set_option maxHeartbeats 8000000
inductive Pt where
 | p0 (a : List (List L)) (b : Int) (c : Int)
def pid : Pt → Nat
 | .p0 .. => 2
def bR : Pt → List V
 | .p0 a b c => [.sl none 204 a, .int .i64 b, .int .i64 c]
def bQ : Pt → List aI
 | .p0 a b c => []
def step (J : Pt → ay) : Pt → ay
 | .p0 a b c => (cond (decide (c < (a.length : Int))) (m2 c (a.length : Int) (cond ((aZ.at a (Int.toNat c)).av.ae.aT != b) (ret ((-1) : Int)) (m2 c (a.length : Int) (cond ((aZ.at a (Int.toNat c)).av.ae.bN != (i64.wrap (b + 1))) (ret ((-1) : Int)) (m2 c (a.length : Int) (cond ((aZ.at a (Int.toNat c)).av.ae.bg != (i64.wrap ((i64.wrap (b + 1)) + 1))) (ret ((-1) : Int)) (m2 c (a.length : Int) (cond ((aZ.at a (Int.toNat c)).av.ae.bL != (i64.wrap ((i64.wrap ((i64.wrap (b + 1)) + 1)) + 1))) (ret ((-1) : Int)) (m2 c (a.length : Int) (cond ((aZ.at a (Int.toNat c)).av.ae.bF != (i64.wrap ((i64.wrap ((i64.wrap ((i64.wrap (b + 1)) + 1)) + 1)) + 1))) (ret ((-1) : Int)) (m2 c (a.length : Int) (cond ((aZ.at a (Int.toNat c)).av.ae.bG != (i64.wrap ((i64.wrap ((i64.wrap ((i64.wrap ((i64.wrap (b + 1)) + 1)) + 1)) + 1)) + 1))) (ret ((-1) : Int)) (m2 c (a.length : Int) (cond ((aZ.at a (Int.toNat c)).av.ae.cj != (i64.wrap ((i64.wrap ((i64.wrap ((i64.wrap ((i64.wrap ((i64.wrap (b + 1)) + 1)) + 1)) + 1)) + 1)) + 1))) (ret ((-1) : Int)) (m2 c (a.length : Int) (cond ((aZ.at a (Int.toNat c)).av.ae.cB != (i64.wrap ((i64.wrap ((i64.wrap ((i64.wrap ((i64.wrap ((i64.wrap ((i64.wrap (b + 1)) + 1)) + 1)) + 1)) + 1)) + 1)) + 1))) (ret ((-1) : Int)) (m2 c (a.length : Int) (call (Z237.R ((aZ.at a (Int.toNat c)).av.ae.bh.aF, (i64.wrap ((i64.wrap ((i64.wrap ((i64.wrap ((i64.wrap ((i64.wrap ((i64.wrap ((i64.wrap (b + 1)) + 1)) + 1)) + 1)) + 1)) + 1)) + 1)) + 1)))) fun v1 => (cond (decide (v1 < 0)) (ret ((-1) : Int)) (m2 c (a.length : Int) (cond ((aZ.at a (Int.toNat c)).av.ae.bh.bH != v1) (ret ((-1) : Int)) (m2 c (a.length : Int) (call (Z237.R ((aZ.at a (Int.toNat c)).av.ae.aQ.aF, (i64.wrap (v1 + 1)))) fun v2 => (cond (decide (v2 < 0)) (ret ((-1) : Int)) (m2 c (a.length : Int) (cond ((aZ.at a (Int.toNat c)).av.ae.aQ.bH != v2) (ret ((-1) : Int)) (m2 c (a.length : Int) (cond ((aZ.at a (Int.toNat c)).av.ae.cf != (i64.wrap (v2 + 1))) (ret ((-1) : Int)) (m2 c (a.length : Int) (call (Z237.R ((aZ.at a (Int.toNat c)).av.ae.aM.aF, (i64.wrap ((i64.wrap (v2 + 1)) + 1)))) fun v3 => (cond (decide (v3 < 0)) (ret ((-1) : Int)) (m2 c (a.length : Int) (cond ((aZ.at a (Int.toNat c)).av.ae.aM.bH != v3) (ret ((-1) : Int)) (m2 c (a.length : Int) (cond (!((aZ.at a (Int.toNat c)).av.ae.aS == ((Int.tmod (i64.wrap (v3 + 1)) 3) == 0))) (ret ((-1) : Int)) (m2 c (a.length : Int) (call (Z238.R ((aZ.at a (Int.toNat c)).av.bC, (i64.wrap ((i64.wrap (v3 + 1)) + 1)))) fun v4 => (cond (decide (v4 < 0)) (ret ((-1) : Int)) (m2 c (a.length : Int) (cond ((aZ.at a (Int.toNat c)).fA.ae.aT != v4) (ret ((-1) : Int)) (m2 c (a.length : Int) (cond ((aZ.at a (Int.toNat c)).fA.ae.bN != (i64.wrap (v4 + 1))) (ret ((-1) : Int)) (m2 c (a.length : Int) (cond ((aZ.at a (Int.toNat c)).fA.ae.bg != (i64.wrap ((i64.wrap (v4 + 1)) + 1))) (ret ((-1) : Int)) (m2 c (a.length : Int) (cond ((aZ.at a (Int.toNat c)).fA.ae.bL != (i64.wrap ((i64.wrap ((i64.wrap (v4 + 1)) + 1)) + 1))) (ret ((-1) : Int)) (m2 c (a.length : Int) (cond ((aZ.at a (Int.toNat c)).fA.ae.bF != (i64.wrap ((i64.wrap ((i64.wrap ((i64.wrap (v4 + 1)) + 1)) + 1)) + 1))) (ret ((-1) : Int)) (m2 c (a.length : Int) (cond ((aZ.at a (Int.toNat c)).fA.ae.bG != (i64.wrap ((i64.wrap ((i64.wrap ((i64.wrap ((i64.wrap (v4 + 1)) + 1)) + 1)) + 1)) + 1))) (ret ((-1) : Int)) (m2 c (a.length : Int) (cond ((aZ.at a (Int.toNat c)).fA.ae.cj != (i64.wrap ((i64.wrap ((i64.wrap ((i64.wrap ((i64.wrap ((i64.wrap (v4 + 1)) + 1)) + 1)) + 1)) + 1)) + 1))) (ret ((-1) : Int)) (m2 c (a.length : Int) (cond ((aZ.at a (Int.toNat c)).fA.ae.cB != (i64.wrap ((i64.wrap ((i64.wrap ((i64.wrap ((i64.wrap ((i64.wrap ((i64.wrap (v4 + 1)) + 1)) + 1)) + 1)) + 1)) + 1)) + 1))) (ret ((-1) : Int)) (m2 c (a.length : Int) (call (Z237.R ((aZ.at a (Int.toNat c)).fA.ae.bh.aF, (i64.wrap ((i64.wrap ((i64.wrap ((i64.wrap ((i64.wrap ((i64.wrap ((i64.wrap ((i64.wrap (v4 + 1)) + 1)) + 1)) + 1)) + 1)) + 1)) + 1)) + 1)))) fun v5 => (cond (decide (v5 < 0)) (ret ((-1) : Int)) (m2 c (a.length : Int) (cond ((aZ.at a (Int.toNat c)).fA.ae.bh.bH != v5) (ret ((-1) : Int)) (m2 c (a.length : Int) (call (Z237.R ((aZ.at a (Int.toNat c)).fA.ae.aQ.aF, (i64.wrap (v5 + 1)))) fun v6 => (cond (decide (v6 < 0)) (ret ((-1) : Int)) (m2 c (a.length : Int) (cond ((aZ.at a (Int.toNat c)).fA.ae.aQ.bH != v6) (ret ((-1) : Int)) (m2 c (a.length : Int) (cond ((aZ.at a (Int.toNat c)).fA.ae.cf != (i64.wrap (v6 + 1))) (ret ((-1) : Int)) (m2 c (a.length : Int) (call (Z237.R ((aZ.at a (Int.toNat c)).fA.ae.aM.aF, (i64.wrap ((i64.wrap (v6 + 1)) + 1)))) fun v7 => (cond (decide (v7 < 0)) (ret ((-1) : Int)) (m2 c (a.length : Int) (cond ((aZ.at a (Int.toNat c)).fA.ae.aM.bH != v7) (ret ((-1) : Int)) (m2 c (a.length : Int) (cond (!((aZ.at a (Int.toNat c)).fA.ae.aS == ((Int.tmod (i64.wrap (v7 + 1)) 3) == 0))) (ret ((-1) : Int)) (m2 c (a.length : Int) (call (Z238.R ((aZ.at a (Int.toNat c)).fA.bC, (i64.wrap ((i64.wrap (v7 + 1)) + 1)))) fun v8 => (cond (decide (v8 < 0)) (ret ((-1) : Int)) (m2 c (a.length : Int) (cond ((aZ.at a (Int.toNat c)).fB.ae.aT != v8) (ret ((-1) : Int)) (m2 c (a.length : Int) (cond ((aZ.at a (Int.toNat c)).fB.ae.bN != (i64.wrap (v8 + 1))) (ret ((-1) : Int)) (m2 c (a.length : Int) (cond ((aZ.at a (Int.toNat c)).fB.ae.bg != (i64.wrap ((i64.wrap (v8 + 1)) + 1))) (ret ((-1) : Int)) (m2 c (a.length : Int) (cond ((aZ.at a (Int.toNat c)).fB.ae.bL != (i64.wrap ((i64.wrap ((i64.wrap (v8 + 1)) + 1)) + 1))) (ret ((-1) : Int)) (m2 c (a.length : Int) (cond ((aZ.at a (Int.toNat c)).fB.ae.bF != (i64.wrap ((i64.wrap ((i64.wrap ((i64.wrap (v8 + 1)) + 1)) + 1)) + 1))) (ret ((-1) : Int)) (m2 c (a.length : Int) (cond ((aZ.at a (Int.toNat c)).fB.ae.bG != (i64.wrap ((i64.wrap ((i64.wrap ((i64.wrap ((i64.wrap (v8 + 1)) + 1)) + 1)) + 1)) + 1))) (ret ((-1) : Int)) (m2 c (a.length : Int) (cond ((aZ.at a (Int.toNat c)).fB.ae.cj != (i64.wrap ((i64.wrap ((i64.wrap ((i64.wrap ((i64.wrap ((i64.wrap (v8 + 1)) + 1)) + 1)) + 1)) + 1)) + 1))) (ret ((-1) : Int)) (m2 c (a.length : Int) (cond ((aZ.at a (Int.toNat c)).fB.ae.cB != (i64.wrap ((i64.wrap ((i64.wrap ((i64.wrap ((i64.wrap ((i64.wrap ((i64.wrap (v8 + 1)) + 1)) + 1)) + 1)) + 1)) + 1)) + 1))) (ret ((-1) : Int)) (m2 c (a.length : Int) (call (Z237.R ((aZ.at a (Int.toNat c)).fB.ae.bh.aF, (i64.wrap ((i64.wrap ((i64.wrap ((i64.wrap ((i64.wrap ((i64.wrap ((i64.wrap ((i64.wrap (v8 + 1)) + 1)) + 1)) + 1)) + 1)) + 1)) + 1)) + 1)))) fun v9 => (cond (decide (v9 < 0)) (ret ((-1) : Int)) (m2 c (a.length : Int) (cond ((aZ.at a (Int.toNat c)).fB.ae.bh.bH != v9) (ret ((-1) : Int)) (m2 c (a.length : Int) (call (Z237.R ((aZ.at a (Int.toNat c)).fB.ae.aQ.aF, (i64.wrap (v9 + 1)))) fun v10 => (cond (decide (v10 < 0)) (ret ((-1) : Int)) (m2 c (a.length : Int) (cond ((aZ.at a (Int.toNat c)).fB.ae.aQ.bH != v10) (ret ((-1) : Int)) (m2 c (a.length : Int) (cond ((aZ.at a (Int.toNat c)).fB.ae.cf != (i64.wrap (v10 + 1))) (ret ((-1) : Int)) (m2 c (a.length : Int) (call (Z237.R ((aZ.at a (Int.toNat c)).fB.ae.aM.aF, (i64.wrap ((i64.wrap (v10 + 1)) + 1)))) fun v11 => (cond (decide (v11 < 0)) (ret ((-1) : Int)) (m2 c (a.length : Int) (cond ((aZ.at a (Int.toNat c)).fB.ae.aM.bH != v11) (ret ((-1) : Int)) (m2 c (a.length : Int) (cond (!((aZ.at a (Int.toNat c)).fB.ae.aS == ((Int.tmod (i64.wrap (v11 + 1)) 3) == 0))) (ret ((-1) : Int)) (m2 c (a.length : Int) (call (Z238.R ((aZ.at a (Int.toNat c)).fB.bC, (i64.wrap ((i64.wrap (v11 + 1)) + 1)))) fun v12 => (cond (decide (v12 < 0)) (ret ((-1) : Int)) (J (.p0 a v12 (i64.wrap (c + 1)))))))))))))))))))))))))))))))))))))))))))))))))))))))))))))))))))))))))))))))))))))))))))))))))))))))))))))))))))))) (ret (b : Int)))
def start (J : Pt → ay) (x0 : List (List L)) (x1 : Int) : ay := J (.p0 x0 x1 0)
def live : Nat → Live := fun i => match i with | 2 => [(0, none), (1, none), (5, none)] | _ => []
def bO : List fE := [.rd (.sl 204), .rd (.int .i64)]
def res : RP := .one (.rd (.int .i64))
abbrev E : Env := { T := assoc lr, G := cK [(90, Z237.aK), (169, Z238.aK)], nt := 595 }
theorem step_eq (I : bY) (p : Pt) : cz E live I (pid p) (bo Tryz.f113) (eN (live (pid p)) (bR p) (bQ p)) (bX E Tryz.f113 res) = step (fun q => I (pid q) (bR q) (bQ q)) p := by
 cases p <;> kernel_rfl
theorem start_eq (I : bY) (ls : List L) : ee E live I (bo Tryz.f113) (cG bO ls) (bX E Tryz.f113 res) = start (fun q => I (pid q) (bR q) (bQ q)) (ls.headD .hole).aG ((ar 1 ls).headD .hole).toInt := by kernel_rfl
theorem run_eq (n : Nat) (ls : List L) : ea E live Tryz.f113 res n (cG bO ls) = start (iter step n) (ls.headD .hole).aG ((ar 1 ls).headD .hole).toInt := bW (id := pid) (vs := bR) (hs := bQ) (step := step) (start := fun J => start J (ls.headD .hole).aG ((ar 1 ls).headD .hole).toInt) step_eq (fun I => start_eq I ls) n
def e1 (x : ao) (k : Int) := Z237.md ((((x.av).ae).bh).aF) (i64.wrap ((i64.wrap ((i64.wrap ((i64.wrap ((i64.wrap ((i64.wrap ((i64.wrap ((i64.wrap (k + 1)) + 1)) + 1)) + 1)) + 1)) + 1)) + 1)) + 1))
def e2 (x : ao) (k : Int) := Z237.md ((((x.av).ae).aQ).aF) (i64.wrap ((e1 x k) + 1))
def e3 (x : ao) (k : Int) := Z237.md ((((x.av).ae).aM).aF) (i64.wrap ((i64.wrap ((e2 x k) + 1)) + 1))
def e4 (x : ao) (k : Int) := Z238.md ((x.av).bC) (i64.wrap ((i64.wrap ((e3 x k) + 1)) + 1))
def e5 (x : ao) (k : Int) := Z237.md ((((x.fA).ae).bh).aF) (i64.wrap ((i64.wrap ((i64.wrap ((i64.wrap ((i64.wrap ((i64.wrap ((i64.wrap ((i64.wrap ((e4 x k) + 1)) + 1)) + 1)) + 1)) + 1)) + 1)) + 1)) + 1))
def e6 (x : ao) (k : Int) := Z237.md ((((x.fA).ae).aQ).aF) (i64.wrap ((e5 x k) + 1))
def e7 (x : ao) (k : Int) := Z237.md ((((x.fA).ae).aM).aF) (i64.wrap ((i64.wrap ((e6 x k) + 1)) + 1))
def e8 (x : ao) (k : Int) := Z238.md ((x.fA).bC) (i64.wrap ((i64.wrap ((e7 x k) + 1)) + 1))
def e9 (x : ao) (k : Int) := Z237.md ((((x.fB).ae).bh).aF) (i64.wrap ((i64.wrap ((i64.wrap ((i64.wrap ((i64.wrap ((i64.wrap ((i64.wrap ((i64.wrap ((e8 x k) + 1)) + 1)) + 1)) + 1)) + 1)) + 1)) + 1)) + 1))
def qa (x : ao) (k : Int) := Z237.md ((((x.fB).ae).aQ).aF) (i64.wrap ((e9 x k) + 1))
def qP (x : ao) (k : Int) := Z237.md ((((x.fB).ae).aM).aF) (i64.wrap ((i64.wrap ((qa x k) + 1)) + 1))
def uk (x : ao) (k : Int) := Z238.md ((x.fB).bC) (i64.wrap ((i64.wrap ((qP x k) + 1)) + 1))
def f (x : ao) (k : Int) : Option Int := (cond (((x.av).ae).aT != k) none (cond (((x.av).ae).bN != (i64.wrap (k + 1))) none (cond (((x.av).ae).bg != (i64.wrap ((i64.wrap (k + 1)) + 1))) none (cond (((x.av).ae).bL != (i64.wrap ((i64.wrap ((i64.wrap (k + 1)) + 1)) + 1))) none (cond (((x.av).ae).bF != (i64.wrap ((i64.wrap ((i64.wrap ((i64.wrap (k + 1)) + 1)) + 1)) + 1))) none (cond (((x.av).ae).bG != (i64.wrap ((i64.wrap ((i64.wrap ((i64.wrap ((i64.wrap (k + 1)) + 1)) + 1)) + 1)) + 1))) none (cond (((x.av).ae).cj != (i64.wrap ((i64.wrap ((i64.wrap ((i64.wrap ((i64.wrap ((i64.wrap (k + 1)) + 1)) + 1)) + 1)) + 1)) + 1))) none (cond (((x.av).ae).cB != (i64.wrap ((i64.wrap ((i64.wrap ((i64.wrap ((i64.wrap ((i64.wrap ((i64.wrap (k + 1)) + 1)) + 1)) + 1)) + 1)) + 1)) + 1))) none (cond (decide ((e1 x k) < 0)) none (cond ((((x.av).ae).bh).bH != (e1 x k)) none (cond (decide ((e2 x k) < 0)) none (cond ((((x.av).ae).aQ).bH != (e2 x k)) none (cond (((x.av).ae).cf != (i64.wrap ((e2 x k) + 1))) none (cond (decide ((e3 x k) < 0)) none (cond ((((x.av).ae).aM).bH != (e3 x k)) none (cond (!(((x.av).ae).aS == ((Int.tmod (i64.wrap ((e3 x k) + 1)) 3) == 0))) none (cond (decide ((e4 x k) < 0)) none (cond (((x.fA).ae).aT != (e4 x k)) none (cond (((x.fA).ae).bN != (i64.wrap ((e4 x k) + 1))) none (cond (((x.fA).ae).bg != (i64.wrap ((i64.wrap ((e4 x k) + 1)) + 1))) none (cond (((x.fA).ae).bL != (i64.wrap ((i64.wrap ((i64.wrap ((e4 x k) + 1)) + 1)) + 1))) none (cond (((x.fA).ae).bF != (i64.wrap ((i64.wrap ((i64.wrap ((i64.wrap ((e4 x k) + 1)) + 1)) + 1)) + 1))) none (cond (((x.fA).ae).bG != (i64.wrap ((i64.wrap ((i64.wrap ((i64.wrap ((i64.wrap ((e4 x k) + 1)) + 1)) + 1)) + 1)) + 1))) none (cond (((x.fA).ae).cj != (i64.wrap ((i64.wrap ((i64.wrap ((i64.wrap ((i64.wrap ((i64.wrap ((e4 x k) + 1)) + 1)) + 1)) + 1)) + 1)) + 1))) none (cond (((x.fA).ae).cB != (i64.wrap ((i64.wrap ((i64.wrap ((i64.wrap ((i64.wrap ((i64.wrap ((i64.wrap ((e4 x k) + 1)) + 1)) + 1)) + 1)) + 1)) + 1)) + 1))) none (cond (decide ((e5 x k) < 0)) none (cond ((((x.fA).ae).bh).bH != (e5 x k)) none (cond (decide ((e6 x k) < 0)) none (cond ((((x.fA).ae).aQ).bH != (e6 x k)) none (cond (((x.fA).ae).cf != (i64.wrap ((e6 x k) + 1))) none (cond (decide ((e7 x k) < 0)) none (cond ((((x.fA).ae).aM).bH != (e7 x k)) none (cond (!(((x.fA).ae).aS == ((Int.tmod (i64.wrap ((e7 x k) + 1)) 3) == 0))) none (cond (decide ((e8 x k) < 0)) none (cond (((x.fB).ae).aT != (e8 x k)) none (cond (((x.fB).ae).bN != (i64.wrap ((e8 x k) + 1))) none (cond (((x.fB).ae).bg != (i64.wrap ((i64.wrap ((e8 x k) + 1)) + 1))) none (cond (((x.fB).ae).bL != (i64.wrap ((i64.wrap ((i64.wrap ((e8 x k) + 1)) + 1)) + 1))) none (cond (((x.fB).ae).bF != (i64.wrap ((i64.wrap ((i64.wrap ((i64.wrap ((e8 x k) + 1)) + 1)) + 1)) + 1))) none (cond (((x.fB).ae).bG != (i64.wrap ((i64.wrap ((i64.wrap ((i64.wrap ((i64.wrap ((e8 x k) + 1)) + 1)) + 1)) + 1)) + 1))) none (cond (((x.fB).ae).cj != (i64.wrap ((i64.wrap ((i64.wrap ((i64.wrap ((i64.wrap ((i64.wrap ((e8 x k) + 1)) + 1)) + 1)) + 1)) + 1)) + 1))) none (cond (((x.fB).ae).cB != (i64.wrap ((i64.wrap ((i64.wrap ((i64.wrap ((i64.wrap ((i64.wrap ((i64.wrap ((e8 x k) + 1)) + 1)) + 1)) + 1)) + 1)) + 1)) + 1))) none (cond (decide ((e9 x k) < 0)) none (cond ((((x.fB).ae).bh).bH != (e9 x k)) none (cond (decide ((qa x k) < 0)) none (cond ((((x.fB).ae).aQ).bH != (qa x k)) none (cond (((x.fB).ae).cf != (i64.wrap ((qa x k) + 1))) none (cond (decide ((qP x k) < 0)) none (cond ((((x.fB).ae).aM).bH != (qP x k)) none (cond (!(((x.fB).ae).aS == ((Int.tmod (i64.wrap ((qP x k) + 1)) 3) == 0))) none (cond (decide ((uk x k) < 0)) none (some (uk x k)))))))))))))))))))))))))))))))))))))))))))))))))))))
theorem pZ (x : ao) (k k2 : Int) (hk : dI k) (h : f x k = some k2) : dI k2 := by
 unfold f at h
 have h := bc h
 have h := bc h
 have h := bc h
 have h := bc h
 have h := bc h
 have h := bc h
 have h := bc h
 have h := bc h
 have h := bc h
 have h := bc h
 have h := bc h
 have h := bc h
 have h := bc h
 have h := bc h
 have h := bc h
 have h := bc h
 have h := bc h
 have h := bc h
 have h := bc h
 have h := bc h
 have h := bc h
 have h := bc h
 have h := bc h
 have h := bc h
 have h := bc h
 have h := bc h
 have h := bc h
 have h := bc h
 have h := bc h
 have h := bc h
 have h := bc h
 have h := bc h
 have h := bc h
 have h := bc h
 have h := bc h
 have h := bc h
 have h := bc h
 have h := bc h
 have h := bc h
 have h := bc h
 have h := bc h
 have h := bc h
 have h := bc h
 have h := bc h
 have h := bc h
 have h := bc h
 have h := bc h
 have h := bc h
 have h := bc h
 have h := bc h
 have h := bc h
 injection h with h
 subst h
 exact (Z238.iq (bz _))
def md (a0 : List ao) (a1 : Int) : Int := gM f a0 a1
def gd (a0 : List ao) (a1 : Int) : Prop := dI a1
def acc (ls : List L) : List (List L) × Int := ((ls.headD .hole).aG, ((ar 1 ls).headD .hole).toInt)
def R : (List (List L) × Int) → Option Int := RR (p2 gd) (u2 md)
theorem ai {a0 a1} (h : gd a0 a1) : R ((a0.map ao.row), a1) = some (md a0 a1) := aE (a := (a0, a1)) h
def aK : fe := CN bO res acc R
theorem okF (a0 : List ao) (a1 : Int) (hg : gd a0 a1) (h0 : a0.length ≤ maxLen) : ∃ n, start (iter step n) (a0.map ao.row) a1 = ret ((md a0 a1) : Int) := by
  unfold gd at hg
  show ∃ n, iter step n (Pt.p0 (a0.map ao.row) a1 0) = _
  unfold md
  refine gG (f := f) (xs := a0) ao.zero dI pZ (pt := fun i k => Pt.p0 (a0.map ao.row) k (i : Int)) (fun J i k hi hk => ?_) (fun J k => ?_) hg
  · simp only [step, SS]
    refine af (aD hi) ?_
    refine af ax ?_
    refine af (aD hi) ?_
    refine bf rfl ?_
    refine af ax ?_
    refine af (aD hi) ?_
    refine bf rfl ?_
    refine af ax ?_
    refine af (aD hi) ?_
    refine bf rfl ?_
    refine af ax ?_
    refine af (aD hi) ?_
    refine bf rfl ?_
    refine af ax ?_
    refine af (aD hi) ?_
    refine bf rfl ?_
    refine af ax ?_
    refine af (aD hi) ?_
    refine bf rfl ?_
    refine af ax ?_
    refine af (aD hi) ?_
    refine bf rfl ?_
    refine af ax ?_
    refine af (aD hi) ?_
    refine bf rfl ?_
    refine af ax ?_
    refine af (aD hi) ?_
    refine aN (e1 (a0.getD i ao.zero) k) (Z237.ai (a0 := ((((a0.getD i ao.zero).av).ae).bh).aF) (a1 := i64.wrap ((i64.wrap ((i64.wrap ((i64.wrap ((i64.wrap ((i64.wrap ((i64.wrap ((i64.wrap (k + 1)) + 1)) + 1)) + 1)) + 1)) + 1)) + 1)) + 1)) (bz _)) ?_
    refine bf rfl ?_
    refine af ax ?_
    refine af (aD hi) ?_
    refine bf rfl ?_
    refine af ax ?_
    refine af (aD hi) ?_
    refine aN (e2 (a0.getD i ao.zero) k) (Z237.ai (a0 := ((((a0.getD i ao.zero).av).ae).aQ).aF) (a1 := i64.wrap ((e1 (a0.getD i ao.zero) k) + 1)) (bz _)) ?_
    refine bf rfl ?_
    refine af ax ?_
    refine af (aD hi) ?_
    refine bf rfl ?_
    refine af ax ?_
    refine af (aD hi) ?_
    refine bf rfl ?_
    refine af ax ?_
    refine af (aD hi) ?_
    refine aN (e3 (a0.getD i ao.zero) k) (Z237.ai (a0 := ((((a0.getD i ao.zero).av).ae).aM).aF) (a1 := i64.wrap ((i64.wrap ((e2 (a0.getD i ao.zero) k) + 1)) + 1)) (bz _)) ?_
    refine bf rfl ?_
    refine af ax ?_
    refine af (aD hi) ?_
    refine bf rfl ?_
    refine af ax ?_
    refine af (aD hi) ?_
    refine bf rfl ?_
    refine af ax ?_
    refine af (aD hi) ?_
    refine aN (e4 (a0.getD i ao.zero) k) (Z238.ai (a0 := ((a0.getD i ao.zero).av).bC) (a1 := i64.wrap ((i64.wrap ((e3 (a0.getD i ao.zero) k) + 1)) + 1)) (bz _)) ?_
    refine bf rfl ?_
    refine af ax ?_
    refine af (aD hi) ?_
    refine bf rfl ?_
    refine af ax ?_
    refine af (aD hi) ?_
    refine bf rfl ?_
    refine af ax ?_
    refine af (aD hi) ?_
    refine bf rfl ?_
    refine af ax ?_
    refine af (aD hi) ?_
    refine bf rfl ?_
    refine af ax ?_
    refine af (aD hi) ?_
    refine bf rfl ?_
    refine af ax ?_
    refine af (aD hi) ?_
    refine bf rfl ?_
    refine af ax ?_
    refine af (aD hi) ?_
    refine bf rfl ?_
    refine af ax ?_
    refine af (aD hi) ?_
    refine bf rfl ?_
    refine af ax ?_
    refine af (aD hi) ?_
    refine aN (e5 (a0.getD i ao.zero) k) (Z237.ai (a0 := ((((a0.getD i ao.zero).fA).ae).bh).aF) (a1 := i64.wrap ((i64.wrap ((i64.wrap ((i64.wrap ((i64.wrap ((i64.wrap ((i64.wrap ((i64.wrap ((e4 (a0.getD i ao.zero) k) + 1)) + 1)) + 1)) + 1)) + 1)) + 1)) + 1)) + 1)) (bz _)) ?_
    refine bf rfl ?_
    refine af ax ?_
    refine af (aD hi) ?_
    refine bf rfl ?_
    refine af ax ?_
    refine af (aD hi) ?_
    refine aN (e6 (a0.getD i ao.zero) k) (Z237.ai (a0 := ((((a0.getD i ao.zero).fA).ae).aQ).aF) (a1 := i64.wrap ((e5 (a0.getD i ao.zero) k) + 1)) (bz _)) ?_
    refine bf rfl ?_
    refine af ax ?_
    refine af (aD hi) ?_
    refine bf rfl ?_
    refine af ax ?_
    refine af (aD hi) ?_
    refine bf rfl ?_
    refine af ax ?_
    refine af (aD hi) ?_
    refine aN (e7 (a0.getD i ao.zero) k) (Z237.ai (a0 := ((((a0.getD i ao.zero).fA).ae).aM).aF) (a1 := i64.wrap ((i64.wrap ((e6 (a0.getD i ao.zero) k) + 1)) + 1)) (bz _)) ?_
    refine bf rfl ?_
    refine af ax ?_
    refine af (aD hi) ?_
    refine bf rfl ?_
    refine af ax ?_
    refine af (aD hi) ?_
    refine bf rfl ?_
    refine af ax ?_
    refine af (aD hi) ?_
    refine aN (e8 (a0.getD i ao.zero) k) (Z238.ai (a0 := ((a0.getD i ao.zero).fA).bC) (a1 := i64.wrap ((i64.wrap ((e7 (a0.getD i ao.zero) k) + 1)) + 1)) (bz _)) ?_
    refine bf rfl ?_
    refine af ax ?_
    refine af (aD hi) ?_
    refine bf rfl ?_
    refine af ax ?_
    refine af (aD hi) ?_
    refine bf rfl ?_
    refine af ax ?_
    refine af (aD hi) ?_
    refine bf rfl ?_
    refine af ax ?_
    refine af (aD hi) ?_
    refine bf rfl ?_
    refine af ax ?_
    refine af (aD hi) ?_
    refine bf rfl ?_
    refine af ax ?_
    refine af (aD hi) ?_
    refine bf rfl ?_
    refine af ax ?_
    refine af (aD hi) ?_
    refine bf rfl ?_
    refine af ax ?_
    refine af (aD hi) ?_
    refine bf rfl ?_
    refine af ax ?_
    refine af (aD hi) ?_
    refine aN (e9 (a0.getD i ao.zero) k) (Z237.ai (a0 := ((((a0.getD i ao.zero).fB).ae).bh).aF) (a1 := i64.wrap ((i64.wrap ((i64.wrap ((i64.wrap ((i64.wrap ((i64.wrap ((i64.wrap ((i64.wrap ((e8 (a0.getD i ao.zero) k) + 1)) + 1)) + 1)) + 1)) + 1)) + 1)) + 1)) + 1)) (bz _)) ?_
    refine bf rfl ?_
    refine af ax ?_
    refine af (aD hi) ?_
    refine bf rfl ?_
    refine af ax ?_
    refine af (aD hi) ?_
    refine aN (qa (a0.getD i ao.zero) k) (Z237.ai (a0 := ((((a0.getD i ao.zero).fB).ae).aQ).aF) (a1 := i64.wrap ((e9 (a0.getD i ao.zero) k) + 1)) (bz _)) ?_
    refine bf rfl ?_
    refine af ax ?_
    refine af (aD hi) ?_
    refine bf rfl ?_
    refine af ax ?_
    refine af (aD hi) ?_
    refine bf rfl ?_
    refine af ax ?_
    refine af (aD hi) ?_
    refine aN (qP (a0.getD i ao.zero) k) (Z237.ai (a0 := ((((a0.getD i ao.zero).fB).ae).aM).aF) (a1 := i64.wrap ((i64.wrap ((qa (a0.getD i ao.zero) k) + 1)) + 1)) (bz _)) ?_
    refine bf rfl ?_
    refine af ax ?_
    refine af (aD hi) ?_
    refine bf rfl ?_
    refine af ax ?_
    refine af (aD hi) ?_
    refine bf rfl ?_
    refine af ax ?_
    refine af (aD hi) ?_
    refine aN (uk (a0.getD i ao.zero) k) (Z238.ai (a0 := ((a0.getD i ao.zero).fB).bC) (a1 := i64.wrap ((i64.wrap ((qP (a0.getD i ao.zero) k) + 1)) + 1)) (bz _)) ?_
    refine bf rfl ?_
    rw [az hi h0]
    rfl
  · simp only [step, SS]
    refine bZ (by apply decide_eq_false; omega) ?_
    rfl
theorem ab : Valid Tryz.prog Ev 113 aK := VV (run := fun n x => start (iter step n) x.1 x.2) mix au (.cons Z237.ab (.cons Z238.ab .nil)) Tryz.func113 (by kernel_rfl) run_eq (fun ls a hl e hg => okF a.1 a.2 hg (by have h : (ls.headD .hole).aG.length ≤ maxLen := hl.1.len; have e : a.1.map ao.row = (ls.headD .hole).aG := (congrArg (fun x => x.1) e.symm); rw [← e] at h; simpa using h))
theorem iq {a0 : List ao} {a1 : Int} (h : dI a1) : dI (md a0 a1) := iH pZ gW h
theorem tI (x : ao) (k : Int) (h0 : 0 ≤ k) (hb : k + (Z230.eD x : Int) ≤ 4611686018427387904) : f (Z230.el x k).2 k = some (k + Z230.eD x) := by
 simp only [Z230.eD, Int.natCast_add] at hb ⊢
 simp (disch := omega) only [Z230.el, f, Z230.e1, Z230.e2, Z230.e3, Z230.e4, Z230.e5, Z230.e6, Z230.e7, Z230.e8, Z230.e9, Z230.qa, Z230.qP, Z230.uk, e1, e2, e3, e4, e5, e6, e7, e8, e9, qa, qP, uk, wi, Z226.kk, Z237.mk, Z227.kk, Z238.mk, bne_self_eq_false, beq_self_eq_true, eW, Bool.not_true, cond_false, ck]
 all_goals first | done | omega | (congr 1 <;> omega)
theorem mk (a0 : List ao) (a1 : Int) (h0 : 0 ≤ a1) (hb : a1 + (Z230.sum a0 : Int) ≤ 4611686018427387904) : md (Z230.md a0 a1).2 a1 = a1 + Z230.sum a0 := fW Z230.oY tI a0 a1 h0 hb
end Z241
namespace Z242
set_option maxHeartbeats 8000000
def F (x0 : aW) (x1 : Int) : ay := (call (Z240.R (x0.aA, x1)) fun v1 => (cond (decide (v1 < 0)) (ret ((-1) : Int)) (call (Z241.R (x0.aR, v1)) fun v2 => (cond (decide (v2 < 0)) (ret ((-1) : Int)) (ret (v2 : Int))))))
def e1 (x : ah) (k : Int) := Z240.md x.aA k
def e2 (x : ah) (k : Int) := Z241.md x.aR (e1 x k)
def f (x : ah) (k : Int) : Option Int := (cond (decide ((e1 x k) < 0)) none (cond (decide ((e2 x k) < 0)) none (some ((e2 x k) : Int))))
def md (a0 : ah) (a1 : Int) : Int := mh (f a0 a1)
def gd (a0 : ah) (a1 : Int) : Prop := dI a1
def R := RR (p2 gd) (u2 md)
theorem ai {a0 a1} (h : gd a0 a1) : R ((ah.r a0), a1) = some (md a0 a1) := aE (a := (a0, a1)) h
def aK := CN [.agg rh, pI] oI RT.dec R
theorem okF (a0) (a1) (hg : gd a0 a1) : F (ah.r a0) a1 = ret (md a0 a1) := by
 unfold gd at hg
 simp only [F, SS]
 unfold md
 refine aN (e1 a0 a1) (Z240.ai (a0 := a0.aA) (a1 := a1) hg) ?_
 refine eY rfl ?_
 refine aN (e2 a0 a1) (Z241.ai (a0 := a0.aR) (a1 := e1 a0 a1) (Z240.iq hg)) ?_
 refine eY rfl ?_
 first | rfl | (simp only [SS]; rfl)
theorem ab : Valid Tryz.prog Ev 51 aK := W2 18 F mix au okF (.cons Z240.ab (.cons Z241.ab .nil)) Tryz.func51
theorem iq {a0 : ah} {a1 : Int} (hk : dI a1) : dI (md a0 a1) := by
 unfold md
 cases h : f a0 a1 with
 | none => exact gW
 | some k2 =>
  unfold f at h
  have h := bc h
  have h := bc h
  injection h with h
  subst h
  exact (Z241.iq (Z240.iq hk))
theorem mk (x : ah) (k : Int) (h0 : 0 ≤ k) (hb : k + (Z231.sum x : Int) ≤ 4611686018427387904) : md (Z231.eM x k) k = k + Z231.sum x := by
 simp only [Z231.sum, Int.natCast_add] at hb ⊢
 simp (disch := omega) only [Z231.md, Z231.eM, md, f, mh, Z231.e1, Z231.e2, e1, e2, wi, Z229.kk, Z240.mk, Z230.kk, Z241.mk, cond_false, ck]
 all_goals first | done | omega
end Z242
namespace Z243
set_option maxHeartbeats 8000000
inductive Pt where
 | p0 (a : List (List L)) (b : Int) (c : Int)
def pid : Pt → Nat
 | .p0 .. => 2
def bR : Pt → List V
 | .p0 a b c => [.sl none 9 a, .int .i64 b, .int .i64 c]
def bQ : Pt → List aI
 | .p0 a b c => []
def step (J : Pt → ay) : Pt → ay
 | .p0 a b c => (cond (decide (c < (a.length : Int))) (m2 c (a.length : Int) (call (Z232.R b) fun v1 => (cond (!((pc a (Int.toNat c)) == v1)) (ret ((-1) : Int)) (J (.p0 a (i64.wrap (b + 1)) (i64.wrap (c + 1))))))) (ret (b : Int)))
def start (J : Pt → ay) (x0 : List (List L)) (x1 : Int) : ay := J (.p0 x0 x1 0)
def live : Nat → Live := fun i => match i with | 2 => [(0, none), (1, none), (5, none)] | _ => []
def bO : List fE := [.rd (.sl 9), .rd (.int .i64)]
def res : RP := .one (.rd (.int .i64))
abbrev E : Env := { T := assoc lr, G := cK [(86, Z232.aK)], nt := 22 }
theorem step_eq (I : bY) (p : Pt) : cz E live I (pid p) (bo Tryz.f114) (eN (live (pid p)) (bR p) (bQ p)) (bX E Tryz.f114 res) = step (fun q => I (pid q) (bR q) (bQ q)) p := by
 cases p <;> kernel_rfl
theorem start_eq (I : bY) (ls : List L) : ee E live I (bo Tryz.f114) (cG bO ls) (bX E Tryz.f114 res) = start (fun q => I (pid q) (bR q) (bQ q)) (ls.headD .hole).aG ((ar 1 ls).headD .hole).toInt := by kernel_rfl
theorem run_eq (n : Nat) (ls : List L) : ea E live Tryz.f114 res n (cG bO ls) = start (iter step n) (ls.headD .hole).aG ((ar 1 ls).headD .hole).toInt := bW (id := pid) (vs := bR) (hs := bQ) (step := step) (start := fun J => start J (ls.headD .hole).aG ((ar 1 ls).headD .hole).toInt) step_eq (fun I => start_eq I ls) n
def f (x : ByteArray) (k : Int) : Option Int := (cond (!(x == (Z232.md k))) none (some (i64.wrap (k + 1))))
theorem pZ (x : ByteArray) (k k2 : Int) (hk : dI k) (h : f x k = some k2) : dI k2 := by
 unfold f at h
 have h := bc h
 injection h with h
 subst h
 exact (bz _)
def md (a0 : List ByteArray) (a1 : Int) : Int := gM f a0 a1
def gd (a0 : List ByteArray) (a1 : Int) : Prop := dI a1
def acc (ls : List L) : List (List L) × Int := ((ls.headD .hole).aG, ((ar 1 ls).headD .hole).toInt)
def R : (List (List L) × Int) → Option Int := RR (p2 gd) (u2 md)
theorem ai {a0 a1} (h : gd a0 a1) : R ((a0.map cu), a1) = some (md a0 a1) := aE (a := (a0, a1)) h
def aK : fe := CN bO res acc R
theorem okF (a0 : List ByteArray) (a1 : Int) (hg : gd a0 a1) (h0 : a0.length ≤ maxLen) : ∃ n, start (iter step n) (a0.map cu) a1 = ret ((md a0 a1) : Int) := by
  unfold gd at hg
  show ∃ n, iter step n (Pt.p0 (a0.map cu) a1 0) = _
  unfold md
  refine gG (f := f) (xs := a0) ⟨#[]⟩ dI pZ (pt := fun i k => Pt.p0 (a0.map cu) k (i : Int)) (fun J i k hi hk => ?_) (fun J k => ?_) hg
  · simp only [step, SS]
    refine af (aD hi) ?_
    refine af ax ?_
    refine af (aD hi) ?_
    refine aN (Z232.md k) (Z232.ai (a0 := k) hk) ?_
    refine bf rfl ?_
    rw [az hi h0]
    rfl
  · simp only [step, SS]
    refine bZ (by apply decide_eq_false; omega) ?_
    rfl
theorem ab : Valid Tryz.prog Ev 114 aK := VV (run := fun n x => start (iter step n) x.1 x.2) mix au (.cons Z232.ab .nil) Tryz.func114 (by kernel_rfl) run_eq (fun ls a hl e hg => okF a.1 a.2 hg (by have h : (ls.headD .hole).aG.length ≤ maxLen := hl.1.len; have e : a.1.map cu = (ls.headD .hole).aG := (congrArg (fun x => x.1) e.symm); rw [← e] at h; simpa using h))
theorem iq {a0 : List ByteArray} {a1 : Int} (h : dI a1) : dI (md a0 a1) := iH pZ gW h
theorem tI (x : ByteArray) (k : Int) (h0 : 0 ≤ k) (hb : k + (Z233.eD x : Int) ≤ 4611686018427387904) : f (Z233.el x k).2 k = some (k + Z233.eD x) := by
 simp only [Z233.eD, Int.natCast_add] at hb ⊢
 simp (disch := omega) only [Z233.el, f, wi, bne_self_eq_false, beq_self_eq_true, eW, Bool.not_true, cond_false, ck]
 all_goals first | done | omega | (congr 1 <;> omega)
theorem mk (a0 : List ByteArray) (a1 : Int) (h0 : 0 ≤ a1) (hb : a1 + (Z233.sum a0 : Int) ≤ 4611686018427387904) : md (Z233.md a0 a1).2 a1 = a1 + Z233.sum a0 := fW Z233.oY tI a0 a1 h0 hb
end Z243
namespace Z244
set_option maxHeartbeats 8000000
def F (x0 : bA) (x1 : Int) : ay := (call (Z243.R (x0.aU, x1)) fun v1 => (cond (decide (v1 < 0)) (ret ((-1) : Int)) (ret (v1 : Int))))
def e1 (x : aj) (k : Int) := Z243.md x.aU k
def f (x : aj) (k : Int) : Option Int := (cond (decide ((e1 x k) < 0)) none (some ((e1 x k) : Int)))
def md (a0 : aj) (a1 : Int) : Int := mh (f a0 a1)
def gd (a0 : aj) (a1 : Int) : Prop := dI a1
def R := RR (p2 gd) (u2 md)
theorem ai {a0 a1} (h : gd a0 a1) : R ((aj.r a0), a1) = some (md a0 a1) := aE (a := (a0, a1)) h
def aK := CN [.agg nM, pI] oI RT.dec R
theorem okF (a0) (a1) (hg : gd a0 a1) : F (aj.r a0) a1 = ret (md a0 a1) := by
 unfold gd at hg
 simp only [F, SS]
 unfold md
 refine aN (e1 a0 a1) (Z243.ai (a0 := a0.aU) (a1 := a1) hg) ?_
 refine eY rfl ?_
 first | rfl | (simp only [SS]; rfl)
theorem ab : Valid Tryz.prog Ev 89 aK := W2 12 F mix au okF (.cons Z243.ab .nil) Tryz.func89
theorem iq {a0 : aj} {a1 : Int} (hk : dI a1) : dI (md a0 a1) := by
 unfold md
 cases h : f a0 a1 with
 | none => exact gW
 | some k2 =>
  unfold f at h
  have h := bc h
  injection h with h
  subst h
  exact (Z243.iq hk)
theorem mk (x : aj) (k : Int) (h0 : 0 ≤ k) (hb : k + (Z235.sum x : Int) ≤ 4611686018427387904) : md (Z235.eM x k) k = k + Z235.sum x := by
 simp only [Z235.sum, Int.natCast_add] at hb ⊢
 simp (disch := omega) only [Z235.md, Z235.eM, md, f, mh, Z235.e1, e1, wi, Z233.kk, Z243.mk, cond_false, ck]
 all_goals first | done | omega
end Z244
namespace Z245
set_option maxHeartbeats 8000000
def F (x0 : bT) (x1 : Int) : ay := (call (Z242.R (x0.cy, x1)) fun v1 => (cond (decide (v1 < 0)) (ret ((-1) : Int)) (call (Z244.R (x0.aH, v1)) fun v2 => (cond (decide (v2 < 0)) (ret ((-1) : Int)) (call (Z237.R (x0.dq, v2)) fun v3 => (cond (decide (v3 < 0)) (ret ((-1) : Int)) (ret (v3 : Int))))))))
def e1 (x : aX) (k : Int) := Z242.md x.cy k
def e2 (x : aX) (k : Int) := Z244.md x.aH (e1 x k)
def e3 (x : aX) (k : Int) := Z237.md x.dq (e2 x k)
def f (x : aX) (k : Int) : Option Int := (cond (decide ((e1 x k) < 0)) none (cond (decide ((e2 x k) < 0)) none (cond (decide ((e3 x k) < 0)) none (some ((e3 x k) : Int)))))
def md (a0 : aX) (a1 : Int) : Int := mh (f a0 a1)
def gd (a0 : aX) (a1 : Int) : Prop := dI a1
def R := RR (p2 gd) (u2 md)
theorem ai {a0 a1} (h : gd a0 a1) : R ((aX.r a0), a1) = some (md a0 a1) := aE (a := (a0, a1)) h
def aK := CN [.agg xd, pI] oI RT.dec R
theorem okF (a0) (a1) (hg : gd a0 a1) : F (aX.r a0) a1 = ret (md a0 a1) := by
 unfold gd at hg
 simp only [F, SS]
 unfold md
 refine aN (e1 a0 a1) (Z242.ai (a0 := a0.cy) (a1 := a1) hg) ?_
 refine eY rfl ?_
 refine aN (e2 a0 a1) (Z244.ai (a0 := a0.aH) (a1 := e1 a0 a1) (Z242.iq hg)) ?_
 refine eY rfl ?_
 refine aN (e3 a0 a1) (Z237.ai (a0 := a0.dq) (a1 := e2 a0 a1) (Z244.iq (Z242.iq hg))) ?_
 refine eY rfl ?_
 first | rfl | (simp only [SS]; rfl)
theorem ab : Valid Tryz.prog Ev 22 aK := W2 24 F mix au okF (.cons Z242.ab (.cons Z244.ab (.cons Z237.ab .nil))) Tryz.func22
theorem mk (x : aX) (k : Int) (h0 : 0 ≤ k) (hb : k + (Z236.sum x : Int) ≤ 4611686018427387904) : md (Z236.eM x k) k = k + Z236.sum x := by
 simp only [Z236.sum, Int.natCast_add] at hb ⊢
 have heldKnown_ := @Z242.mk
 simp only [Z231.eM] at heldKnown_
 have heldEntry_ := @Z244.mk
 simp only [Z235.eM] at heldEntry_
 simp (disch := omega) only [Z236.md, Z236.eM, md, f, mh, Z236.e1, Z236.e2, Z236.e3, e1, e2, e3, wi, Z231.kk, heldKnown_, Z235.kk, heldEntry_, Z226.kk, Z237.mk, cond_false, ck]
 all_goals first | done | omega
end Z245
namespace Z246
def F (x0 : aW) (x1 : List (List L)) (x2 : Int) (x3 : ByteArray) (x4 : Int) : ay := (cond (decide ((x3.size : Int) > 1048576)) (ret (true : Bool)) (call (Z9.R (x0, 1048576)) fun v1 => (cond (decide (v1 < 0)) (ret (true : Bool)) (call (Z15.R (x1, v1)) fun v2 => (cond (decide (v2 < 0)) (ret (true : Bool)) (call (Z26.R x0) fun v3 => (call (Z32.R x1) fun v4 => (call (Z103.R (v3, v4, x2, x3, x4)) fun v5 => (call (Z26.R x0) fun v6 => (call (Z32.R x1) fun v7 => (call (Z207.R (v6, v7, x2, x3, x4)) fun v8 => (call (Z221.R (v8, v5)) fun v9 => (cond (!v9) (ret (false : Bool)) (call (Z26.R x0) fun v10 => (call (Z218.R (v6, v10)) fun v11 => (cond (!v11) (ret (false : Bool)) (call (Z32.R x1) fun v12 => (call (Z225.R (v7, v12)) fun v13 => (cond (!v13) (ret (false : Bool)) (call (Z231.R (v6, 1)) fun v14 => (call (Z234.R (v7, v14.1)) fun v15 => (cond (decide (v15.1 < 0)) (ret (false : Bool)) (call (Z221.R (v8, v5)) fun v16 => (cond (!v16) (ret (false : Bool)) (call (Z236.R (v8, 1)) fun v17 => (call (Z245.R ((⟨(⟨v17.2.1, v17.2.2.1⟩ : aW), v8.bu, (⟨v8.aH.aV, v8.aH.bg, v8.aH.bE, v17.2.2.2.1⟩ : bA), v8.eL, v17.2.2.2.2⟩ : bT), 1)) fun v18 => (cond (decide (v18 < 0)) (ret (false : Bool)) (cond (v18 != v17.1) (ret (false : Bool)) (call (Z26.R x0) fun v19 => (call (Z32.R x1) fun v20 => (call (Z207.R (v19, v20, x2, x3, x4)) fun v21 => (call (Z221.R (v21, v5)) fun v22 => (cond (!v22) (ret (false : Bool)) (call (Z245.R ((⟨(⟨v17.2.1, v17.2.2.1⟩ : aW), v8.bu, (⟨v8.aH.aV, v8.aH.bg, v8.aH.bE, v17.2.2.2.1⟩ : bA), v8.eL, v17.2.2.2.2⟩ : bT), 1)) fun v23 => (cond (decide (v23 < 0)) (ret (false : Bool)) (cond (v23 != v17.1) (ret (false : Bool)) (ret (true : Bool))))))))))))))))))))))))))))))))))))))
def bO : List fE := [.agg [.sl 107, .sl 195], .rd (.sl 114), .rd (.int .i64), .rd (.str), .rd (.int .i64)]
def res : RP := .one (.rd (.bool))
def md (a0 : ah) (a1 : List ad) (a2 : Int) (a3 : ByteArray) (a4 : Int) : Bool := true
def gd (a0 : ah) (a1 : List ad) (a2 : Int) (a3 : ByteArray) (a4 : Int) : Prop := (ah.Sm maxLen a0) ∧ (bw maxLen (fun y : ad => ad.Sm maxLen y) a1) ∧ (a3.size ≤ maxLen)
def acc (ls : List L) : aW × List (List L) × Int × ByteArray × Int := ((aW.dec ls), ((ar 2 ls).headD .hole).aG, ((ar 3 ls).headD .hole).toInt, ((ar 4 ls).headD .hole).toStr, ((ar 5 ls).headD .hole).toInt)
def R : (aW × List (List L) × Int × ByteArray × Int) → Option Bool := RR (p5 gd) (u5 md)
theorem ai {a0 a1 a2 a3 a4} (h : gd a0 a1 a2 a3 a4) : R ((ah.r a0), (a1.map ad.row), a2, a3, a4) = some (md a0 a1 a2 a3 a4) := aE (a := (a0, a1, a2, a3, a4)) h
def aK : fe := CN bO res acc R
theorem okF (a0 : ah) (a1 : List ad) (a2 : Int) (a3 : ByteArray) (a4 : Int) (hg : gd a0 a1 a2 a3 a4) : F (ah.r a0) (a1.map ad.row) a2 a3 a4 = ret ((md a0 a1 a2 a3 a4) : Bool) := by
  unfold md
  show (bif (decide ((a3.size : Int) > 1048576)) then ret (true : Bool) else (call (Z9.R ((ah.r a0), 1048576)) fun v1 => (bif (decide (v1 < 0)) then ret (true : Bool) else (call (Z15.R ((a1.map ad.row), v1)) fun v2 => (bif (decide (v2 < 0)) then ret (true : Bool) else (call (Z26.R (ah.r a0)) fun v3 => (call (Z32.R (a1.map ad.row)) fun v4 => (call (Z103.R (v3, v4, a2, a3, a4)) fun v5 => (call (Z26.R (ah.r a0)) fun v6 => (call (Z32.R (a1.map ad.row)) fun v7 => (call (Z207.R (v6, v7, a2, a3, a4)) fun v8 => (call (Z221.R (v8, v5)) fun v9 => (bif (!v9) then ret (false : Bool) else (call (Z26.R (ah.r a0)) fun v10 => (call (Z218.R (v6, v10)) fun v11 => (bif (!v11) then ret (false : Bool) else (call (Z32.R (a1.map ad.row)) fun v12 => (call (Z225.R (v7, v12)) fun v13 => (bif (!v13) then ret (false : Bool) else (call (Z231.R (v6, 1)) fun v14 => (call (Z234.R (v7, v14.1)) fun v15 => (bif (decide (v15.1 < 0)) then ret (false : Bool) else (call (Z221.R (v8, v5)) fun v16 => (bif (!v16) then ret (false : Bool) else (call (Z236.R (v8, 1)) fun v17 => (call (Z245.R ((⟨(⟨v17.2.1, v17.2.2.1⟩ : aW), v8.bu, (⟨v8.aH.aV, v8.aH.bg, v8.aH.bE, v17.2.2.2.1⟩ : bA), v8.eL, v17.2.2.2.2⟩ : bT), 1)) fun v18 => (bif (decide (v18 < 0)) then ret (false : Bool) else (bif (v18 != v17.1) then ret (false : Bool) else (call (Z26.R (ah.r a0)) fun v19 => (call (Z32.R (a1.map ad.row)) fun v20 => (call (Z207.R (v19, v20, a2, a3, a4)) fun v21 => (call (Z221.R (v21, v5)) fun v22 => (bif (!v22) then ret (false : Bool) else (call (Z245.R ((⟨(⟨v17.2.1, v17.2.2.1⟩ : aW), v8.bu, (⟨v8.aH.aV, v8.aH.bg, v8.aH.bE, v17.2.2.2.1⟩ : bA), v8.eL, v17.2.2.2.2⟩ : bT), 1)) fun v23 => (cond (decide (v23 < 0)) (ret (false : Bool)) (cond (v23 != v17.1) (ret (false : Bool)) (ret (true : Bool)))))))))))))))))))))))))))))))))))))) = _
  by_cases q3 : ((a3.size : Int) > 1048576)
  · rw [decide_eq_true q3]; rfl
  rw [decide_eq_false q3, cond_false]
  have s3 : a3.size ≤ 2 ^ 20 := by omega
  rw [ba (Z9.ai (a1 := (1048576 : Int)) ⟨hg.1, by omega, by omega⟩)]
  unfold Z9.md
  by_cases c0 : (1048576 : Int) < (((ah.size a0) : Nat) : Int)
  · rw [bK c0]; rfl
  rw [cm c0, ck (by omega)]
  simp only [cond_false]
  have s0 : ah.Sm (2 ^ 20) a0 := (ah.cP (by omega))
  rw [ba (Z15.ai (a1 := (1048576 - (((ah.size a0) : Nat) : Int) : Int)) ⟨hg.2.1, by omega, by omega⟩)]
  unfold Z15.md
  by_cases c1 : (1048576 - (((ah.size a0) : Nat) : Int) : Int) < (((di (fun y : ad => ad.size y) a1) : Nat) : Int)
  · rw [bK c1]; rfl
  rw [cm c1, ck (by omega)]
  simp only [cond_false]
  have s1 : bw (2 ^ 20) (fun y : ad => ad.Sm (2 ^ 20) y) a1 := (fv (f := fun y : ad => ad.size y) (by omega) (fun x hx => (ad.cP hx)))
  refine aN (ah.r a0) (Z26.ai (a0 := a0) (ah.bx (by decide) s0)) ?_
  refine aN (a1.map ad.row) (Z32.ai (a0 := a1) (s1.mono (by decide) (fun x hx => (ad.bx (by decide) hx)))) ?_
  refine aN (aX.r (Z103.md a0 a1 a2 a3 a4)) (Z103.ai (a0 := a0) (a1 := a1) (a2 := a2) (a3 := a3) (a4 := a4) (by
    have := And.intro trivial trivial
    unfold Z103.gd
    first | exact (ah.bx (by decide) s0) | refine ⟨(ah.bx (by decide) s0), (s1.mono (by decide) (fun x hx => (ad.bx (by decide) hx))), (Nat.le_trans s3 (by decide))⟩)) ?_
  refine aN (ah.r a0) (Z26.ai (a0 := a0) (ah.bx (by decide) s0)) ?_
  refine aN (a1.map ad.row) (Z32.ai (a0 := a1) (s1.mono (by decide) (fun x hx => (ad.bx (by decide) hx)))) ?_
  have r_ := Z207.ai (a0 := a0) (a1 := a1) (a2 := a2) (a3 := a3) (a4 := a4) (by
    have := And.intro trivial trivial
    unfold Z207.gd
    first | exact (ah.bx (by decide) s0) | refine ⟨(ah.bx (by decide) s0), (s1.mono (by decide) (fun x hx => (ad.bx (by decide) hx))), (Nat.le_trans s3 (by decide))⟩)
  rw [Z207.br] at r_
  refine aN (aX.r (Z103.md a0 a1 a2 a3 a4)) r_ ?_
  clear r_
  refine aN _ (Z221.ai (a0 := (Z103.md a0 a1 a2 a3 a4)) (a1 := (Z103.md a0 a1 a2 a3 a4)) trivial) ?_
  refine bZ (by first | (simp only [bne_self_eq_false, beq_self_eq_true, eW, eC, Bool.not_true, Z221.md]; done) | (refine bne_eq_false_iff_eq.2 ?_; omega)) ?_
  refine aN (ah.r a0) (Z26.ai (a0 := a0) (ah.bx (by decide) s0)) ?_
  refine aN _ (Z218.ai (a0 := a0) (a1 := a0) trivial) ?_
  refine bZ (by first | (simp only [bne_self_eq_false, beq_self_eq_true, eW, eC, Bool.not_true, Z221.md, Z218.md]; done) | (refine bne_eq_false_iff_eq.2 ?_; omega)) ?_
  refine aN (a1.map ad.row) (Z32.ai (a0 := a1) (s1.mono (by decide) (fun x hx => (ad.bx (by decide) hx)))) ?_
  refine aN _ (Z225.ai (a0 := a1) (a1 := a1) trivial) ?_
  refine bZ (by first | (simp only [bne_self_eq_false, beq_self_eq_true, eW, eC, Bool.not_true, Z221.md, Z218.md, Z225.md]; done) | (refine bne_eq_false_iff_eq.2 ?_; omega)) ?_
  have u1 := Z231.sz a0
  refine aN ((Z231.md a0 1).1, ((Z231.md a0 1).2.1.map (cM aa.row)), ((Z231.md a0 1).2.2.map ao.row)) (Z231.ai (a0 := a0) (a1 := 1) kQ) ?_
  have k2 := Z231.kk a0 1 (by omega) (by omega)
  have u3 := Z234.sz a1
  refine aN ((Z234.md a1 ((Z231.md a0 1).1)).1, ((Z234.md a1 ((Z231.md a0 1).1)).2.map ad.row)) (Z234.ai (a0 := a1) (a1 := (Z231.md a0 1).1) (Z231.iq kQ)) ?_
  have k4 := Z234.kk a1 ((Z231.md a0 1).1) (by omega) (by omega)
  refine bZ (ck (by omega)) ?_
  refine aN _ (Z221.ai (a0 := (Z103.md a0 a1 a2 a3 a4)) (a1 := (Z103.md a0 a1 a2 a3 a4)) trivial) ?_
  refine bZ (by first | (simp only [bne_self_eq_false, beq_self_eq_true, eW, eC, Bool.not_true, Z221.md, Z218.md, Z225.md]; done) | (refine bne_eq_false_iff_eq.2 ?_; omega)) ?_
  have u5 : Z236.sum (Z103.md a0 a1 a2 a3 a4) ≤ 1000000000000000000 := (by
    have h1 := Z236.sz (Z103.md a0 a1 a2 a3 a4)
    have hg := Z103.grow a2 a3 a4 a1 (a0.aA, a0.aR, [])
    rw [← Z103.pG] at hg
    obtain ⟨g1, g2, g3, g4⟩ := hg
    have hk : ah.size a0 = Z71.Cz a0.aA + Z71.Fz a0.aR := rfl
    have hl : a1.length ≤ di (fun y : ad => ad.size y) a1 := Nat.le_add_right _ _
    have hd : aX.size (Z103.md a0 a1 a2 a3 a4) = Z71.Cz (Z103.md a0 a1 a2 a3 a4).cy.aA + Z71.Fz (Z103.md a0 a1 a2 a3 a4).cy.aR + aj.size (Z103.md a0 a1 a2 a3 a4).aH + (Z103.md a0 a1 a2 a3 a4).dq.length := by
      unfold aX.size ah.size Z71.Cz Z71.Fz
      rw [re]
    simp only [List.length_nil] at g1 g2 g3 g4
    have hm : a1.length * (2 * (Z71.Cz a0.aA + di (fun y : ad => ad.size y) a1) + di (fun y : ad => ad.size y) a1) ≤ 2 ^ 20 * 2 ^ 23 := Nat.mul_le_mul (by omega) (by omega)
    omega)
  refine aN ((Z236.md (Z103.md a0 a1 a2 a3 a4) 1).1, ((Z236.md (Z103.md a0 a1 a2 a3 a4) 1).2.1.map (cM aa.row)), ((Z236.md (Z103.md a0 a1 a2 a3 a4) 1).2.2.1.map ao.row), ((Z236.md (Z103.md a0 a1 a2 a3 a4) 1).2.2.2.1.map cu), ((Z236.md (Z103.md a0 a1 a2 a3 a4) 1).2.2.2.2.map aP)) (Z236.ai (a0 := (Z103.md a0 a1 a2 a3 a4)) (a1 := 1) kQ) ?_
  have k6 := Z236.kk (Z103.md a0 a1 a2 a3 a4) 1 (by omega) (by omega)
  refine aN (Z245.md (⟨(⟨(Z236.md (Z103.md a0 a1 a2 a3 a4) 1).2.1, (Z236.md (Z103.md a0 a1 a2 a3 a4) 1).2.2.1⟩ : ah), (Z103.md a0 a1 a2 a3 a4).bu, (⟨(Z103.md a0 a1 a2 a3 a4).aH.aV, (Z103.md a0 a1 a2 a3 a4).aH.bg, (Z103.md a0 a1 a2 a3 a4).aH.bE, (Z236.md (Z103.md a0 a1 a2 a3 a4) 1).2.2.2.1⟩ : aj), (Z103.md a0 a1 a2 a3 a4).eL, (Z236.md (Z103.md a0 a1 a2 a3 a4) 1).2.2.2.2⟩ : aX) 1) (Z245.ai (a0 := (⟨(⟨(Z236.md (Z103.md a0 a1 a2 a3 a4) 1).2.1, (Z236.md (Z103.md a0 a1 a2 a3 a4) 1).2.2.1⟩ : ah), (Z103.md a0 a1 a2 a3 a4).bu, (⟨(Z103.md a0 a1 a2 a3 a4).aH.aV, (Z103.md a0 a1 a2 a3 a4).aH.bg, (Z103.md a0 a1 a2 a3 a4).aH.bE, (Z236.md (Z103.md a0 a1 a2 a3 a4) 1).2.2.2.1⟩ : aj), (Z103.md a0 a1 a2 a3 a4).eL, (Z236.md (Z103.md a0 a1 a2 a3 a4) 1).2.2.2.2⟩ : aX)) (a1 := 1) kQ) ?_
  have h7 : (Z245.md (⟨(⟨(Z236.md (Z103.md a0 a1 a2 a3 a4) 1).2.1, (Z236.md (Z103.md a0 a1 a2 a3 a4) 1).2.2.1⟩ : ah), (Z103.md a0 a1 a2 a3 a4).bu, (⟨(Z103.md a0 a1 a2 a3 a4).aH.aV, (Z103.md a0 a1 a2 a3 a4).aH.bg, (Z103.md a0 a1 a2 a3 a4).aH.bE, (Z236.md (Z103.md a0 a1 a2 a3 a4) 1).2.2.2.1⟩ : aj), (Z103.md a0 a1 a2 a3 a4).eL, (Z236.md (Z103.md a0 a1 a2 a3 a4) 1).2.2.2.2⟩ : aX) 1) = 1 + (Z236.sum (Z103.md a0 a1 a2 a3 a4) : Int) := Z245.mk (Z103.md a0 a1 a2 a3 a4) 1 (by omega) (by omega)
  refine bZ (ck (by omega)) ?_
  refine bZ (by first | (simp only [bne_self_eq_false, beq_self_eq_true, eW, eC, Bool.not_true, Z221.md, Z218.md, Z225.md]; done) | (refine bne_eq_false_iff_eq.2 ?_; omega)) ?_
  refine aN (ah.r a0) (Z26.ai (a0 := a0) (ah.bx (by decide) s0)) ?_
  refine aN (a1.map ad.row) (Z32.ai (a0 := a1) (s1.mono (by decide) (fun x hx => (ad.bx (by decide) hx)))) ?_
  have r_ := Z207.ai (a0 := a0) (a1 := a1) (a2 := a2) (a3 := a3) (a4 := a4) (by
    have := And.intro trivial trivial
    unfold Z207.gd
    first | exact (ah.bx (by decide) s0) | refine ⟨(ah.bx (by decide) s0), (s1.mono (by decide) (fun x hx => (ad.bx (by decide) hx))), (Nat.le_trans s3 (by decide))⟩)
  rw [Z207.br] at r_
  refine aN (aX.r (Z103.md a0 a1 a2 a3 a4)) r_ ?_
  clear r_
  refine aN _ (Z221.ai (a0 := (Z103.md a0 a1 a2 a3 a4)) (a1 := (Z103.md a0 a1 a2 a3 a4)) trivial) ?_
  refine bZ (by first | (simp only [bne_self_eq_false, beq_self_eq_true, eW, eC, Bool.not_true, Z221.md, Z218.md, Z225.md]; done) | (refine bne_eq_false_iff_eq.2 ?_; omega)) ?_
  refine aN (Z245.md (⟨(⟨(Z236.md (Z103.md a0 a1 a2 a3 a4) 1).2.1, (Z236.md (Z103.md a0 a1 a2 a3 a4) 1).2.2.1⟩ : ah), (Z103.md a0 a1 a2 a3 a4).bu, (⟨(Z103.md a0 a1 a2 a3 a4).aH.aV, (Z103.md a0 a1 a2 a3 a4).aH.bg, (Z103.md a0 a1 a2 a3 a4).aH.bE, (Z236.md (Z103.md a0 a1 a2 a3 a4) 1).2.2.2.1⟩ : aj), (Z103.md a0 a1 a2 a3 a4).eL, (Z236.md (Z103.md a0 a1 a2 a3 a4) 1).2.2.2.2⟩ : aX) 1) (Z245.ai (a0 := (⟨(⟨(Z236.md (Z103.md a0 a1 a2 a3 a4) 1).2.1, (Z236.md (Z103.md a0 a1 a2 a3 a4) 1).2.2.1⟩ : ah), (Z103.md a0 a1 a2 a3 a4).bu, (⟨(Z103.md a0 a1 a2 a3 a4).aH.aV, (Z103.md a0 a1 a2 a3 a4).aH.bg, (Z103.md a0 a1 a2 a3 a4).aH.bE, (Z236.md (Z103.md a0 a1 a2 a3 a4) 1).2.2.2.1⟩ : aj), (Z103.md a0 a1 a2 a3 a4).eL, (Z236.md (Z103.md a0 a1 a2 a3 a4) 1).2.2.2.2⟩ : aX)) (a1 := 1) kQ) ?_
  have h8 : (Z245.md (⟨(⟨(Z236.md (Z103.md a0 a1 a2 a3 a4) 1).2.1, (Z236.md (Z103.md a0 a1 a2 a3 a4) 1).2.2.1⟩ : ah), (Z103.md a0 a1 a2 a3 a4).bu, (⟨(Z103.md a0 a1 a2 a3 a4).aH.aV, (Z103.md a0 a1 a2 a3 a4).aH.bg, (Z103.md a0 a1 a2 a3 a4).aH.bE, (Z236.md (Z103.md a0 a1 a2 a3 a4) 1).2.2.2.1⟩ : aj), (Z103.md a0 a1 a2 a3 a4).eL, (Z236.md (Z103.md a0 a1 a2 a3 a4) 1).2.2.2.2⟩ : aX) 1) = 1 + (Z236.sum (Z103.md a0 a1 a2 a3 a4) : Int) := Z245.mk (Z103.md a0 a1 a2 a3 a4) 1 (by omega) (by omega)
  refine bZ (ck (by omega)) ?_
  refine bZ (by first | (simp only [bne_self_eq_false, beq_self_eq_true, eW, eC, Bool.not_true, Z221.md, Z218.md, Z225.md]; done) | (refine bne_eq_false_iff_eq.2 ?_; omega)) ?_
  rfl
theorem ab : Valid Tryz.prog Ev 3 aK := VS (live := fun _ => []) (nt := 110) (run := fun _ x => F x.1 x.2.1 x.2.2.1 x.2.2.2.1 x.2.2.2.2) mix au (.cons Z9.ab (.cons Z15.ab (.cons Z26.ab (.cons Z32.ab (.cons Z103.ab (.cons Z207.ab (.cons Z221.ab (.cons Z218.ab (.cons Z225.ab (.cons Z245.ab .nil)))))))))) (.cons Z231.ab (.cons Z234.ab (.cons Z236.ab .nil))) Tryz.func3 (by kernel_rfl) (fun _ _ => by kernel_rfl) (fun _ a _ _ hg => ⟨0, okF a.1 a.2.1 a.2.2.1 a.2.2.2.1 a.2.2.2.2 hg⟩)
theorem je (r : List L) (h : cQ Ev.cells [.sl 3, .int .i64] r) : ∃ x : aw, aw.row x = r ∧ aw.Sm maxLen x := by
 obtain ⟨l0, t0, rfl, g0, h1⟩ := h.cZ
 obtain ⟨x0, rfl, s0⟩ := gC (show Ev.cells 3 = [.int .i64] from by kernel_rfl) rW g0
 obtain ⟨l1, t1, rfl, g1, h2⟩ := h1.cZ
 obtain ⟨x1, rfl⟩ := ez g1
 obtain rfl := h2.hL
 exact ⟨⟨x0, x1⟩, rfl, s0⟩
theorem qx (r : List L) (h : cQ Ev.cells [.int .i64, .int .i64, .int .i64, .int .i64, .int .i64, .int .i64, .int .i64, .int .i64, .sl 3, .int .i64, .sl 3, .int .i64, .int .i64, .sl 3, .int .i64, .bool] r) : ∃ x : aq, aq.row x = r ∧ aq.Sm maxLen x := by
 obtain ⟨l0, t0, rfl, g0, h1⟩ := h.cZ
 obtain ⟨x0, rfl⟩ := ez g0
 obtain ⟨l1, t1, rfl, g1, h2⟩ := h1.cZ
 obtain ⟨x1, rfl⟩ := ez g1
 obtain ⟨l2, t2, rfl, g2, h3⟩ := h2.cZ
 obtain ⟨x2, rfl⟩ := ez g2
 obtain ⟨l3, t3, rfl, g3, h4⟩ := h3.cZ
 obtain ⟨x3, rfl⟩ := ez g3
 obtain ⟨l4, t4, rfl, g4, h5⟩ := h4.cZ
 obtain ⟨x4, rfl⟩ := ez g4
 obtain ⟨l5, t5, rfl, g5, h6⟩ := h5.cZ
 obtain ⟨x5, rfl⟩ := ez g5
 obtain ⟨l6, t6, rfl, g6, h7⟩ := h6.cZ
 obtain ⟨x6, rfl⟩ := ez g6
 obtain ⟨l7, t7, rfl, g7, h8⟩ := h7.cZ
 obtain ⟨x7, rfl⟩ := ez g7
 obtain ⟨r8, t8, rfl, g8, h9⟩ := cQ.gy (a := [.sl 3, .int .i64]) (b := [.sl 3, .int .i64, .int .i64, .sl 3, .int .i64, .bool]) h8
 obtain ⟨x8, rfl, s8⟩ := je _ g8
 obtain ⟨r9, t9, rfl, g9, h10⟩ := cQ.gy (a := [.sl 3, .int .i64]) (b := [.int .i64, .sl 3, .int .i64, .bool]) h9
 obtain ⟨x9, rfl, s9⟩ := je _ g9
 obtain ⟨l10, t10, rfl, g10, h11⟩ := h10.cZ
 obtain ⟨x10, rfl⟩ := ez g10
 obtain ⟨r11, t11, rfl, g11, h12⟩ := cQ.gy (a := [.sl 3, .int .i64]) (b := [.bool]) h11
 obtain ⟨x11, rfl, s11⟩ := je _ g11
 obtain ⟨l12, t12, rfl, g12, h13⟩ := h12.cZ
 obtain ⟨x12, rfl⟩ := sa g12
 obtain rfl := h13.hL
 exact ⟨⟨x0, x1, x2, x3, x4, x5, x6, x7, x8, x9, x10, x11, x12⟩, rfl, ⟨s8, s9, s11⟩⟩
theorem ru (r : List L) (h : cQ Ev.cells [.int .i64, .int .i64] r) : ∃ x : aJ, aJ.row x = r ∧ aJ.Sm maxLen x := by
 obtain ⟨l0, t0, rfl, g0, h1⟩ := h.cZ
 obtain ⟨x0, rfl⟩ := ez g0
 obtain ⟨l1, t1, rfl, g1, h2⟩ := h1.cZ
 obtain ⟨x1, rfl⟩ := ez g1
 obtain rfl := h2.hL
 exact ⟨⟨x0, x1⟩, rfl, trivial⟩
theorem fp (r : List L) (h : cQ Ev.cells [.int .i64, .int .i64, .int .i64, .int .i64, .int .i64, .int .i64, .int .i64, .int .i64, .sl 3, .int .i64, .sl 3, .int .i64, .int .i64, .sl 3, .int .i64, .bool, .sl 323] r) : ∃ x : aa, aa.row x = r ∧ aa.Sm maxLen x := by
 obtain ⟨r0, t0, rfl, g0, h1⟩ := cQ.gy (a := [.int .i64, .int .i64, .int .i64, .int .i64, .int .i64, .int .i64, .int .i64, .int .i64, .sl 3, .int .i64, .sl 3, .int .i64, .int .i64, .sl 3, .int .i64, .bool]) (b := [.sl 323]) h
 obtain ⟨x0, rfl, s0⟩ := qx _ g0
 obtain ⟨l1, t1, rfl, g1, h2⟩ := h1.cZ
 obtain ⟨x1, rfl, s1⟩ := gC (show Ev.cells 323 = [.int .i64, .int .i64] from by kernel_rfl) ru g1
 obtain rfl := h2.hL
 exact ⟨⟨x0, x1⟩, rfl, ⟨s0, s1⟩⟩
theorem ql (r : List L) (h : cQ Ev.cells [.int .i64, .int .i64, .int .i64, .int .i64, .int .i64, .int .i64, .int .i64, .int .i64, .sl 3, .int .i64, .sl 3, .int .i64, .int .i64, .sl 3, .int .i64, .bool, .sl 323, .int .i64, .int .i64, .int .i64, .int .i64, .int .i64, .int .i64, .int .i64, .int .i64, .sl 3, .int .i64, .sl 3, .int .i64, .int .i64, .sl 3, .int .i64, .bool, .sl 323, .int .i64, .int .i64, .int .i64, .int .i64, .int .i64, .int .i64, .int .i64, .int .i64, .sl 3, .int .i64, .sl 3, .int .i64, .int .i64, .sl 3, .int .i64, .bool, .sl 323] r) : ∃ x : ao, ao.row x = r ∧ ao.Sm maxLen x := by
 obtain ⟨r0, t0, rfl, g0, h1⟩ := cQ.gy (a := [.int .i64, .int .i64, .int .i64, .int .i64, .int .i64, .int .i64, .int .i64, .int .i64, .sl 3, .int .i64, .sl 3, .int .i64, .int .i64, .sl 3, .int .i64, .bool, .sl 323]) (b := [.int .i64, .int .i64, .int .i64, .int .i64, .int .i64, .int .i64, .int .i64, .int .i64, .sl 3, .int .i64, .sl 3, .int .i64, .int .i64, .sl 3, .int .i64, .bool, .sl 323, .int .i64, .int .i64, .int .i64, .int .i64, .int .i64, .int .i64, .int .i64, .int .i64, .sl 3, .int .i64, .sl 3, .int .i64, .int .i64, .sl 3, .int .i64, .bool, .sl 323]) h
 obtain ⟨x0, rfl, s0⟩ := fp _ g0
 obtain ⟨r1, t1, rfl, g1, h2⟩ := cQ.gy (a := [.int .i64, .int .i64, .int .i64, .int .i64, .int .i64, .int .i64, .int .i64, .int .i64, .sl 3, .int .i64, .sl 3, .int .i64, .int .i64, .sl 3, .int .i64, .bool, .sl 323]) (b := [.int .i64, .int .i64, .int .i64, .int .i64, .int .i64, .int .i64, .int .i64, .int .i64, .sl 3, .int .i64, .sl 3, .int .i64, .int .i64, .sl 3, .int .i64, .bool, .sl 323]) h1
 obtain ⟨x1, rfl, s1⟩ := fp _ g1
 obtain ⟨r2, t2, rfl, g2, h3⟩ := cQ.gy (a := [.int .i64, .int .i64, .int .i64, .int .i64, .int .i64, .int .i64, .int .i64, .int .i64, .sl 3, .int .i64, .sl 3, .int .i64, .int .i64, .sl 3, .int .i64, .bool, .sl 323]) (b := []) h2
 obtain ⟨x2, rfl, s2⟩ := fp _ g2
 obtain rfl := h3.hL
 exact ⟨⟨x0, x1, x2⟩, rfl, ⟨s0, s1, s2⟩⟩
theorem qk (r : List L) (h : cQ Ev.cells [.sl 107, .sl 195] r) : ∃ x : ah, ah.row x = r ∧ ah.Sm maxLen x := by
 obtain ⟨l0, t0, rfl, g0, h1⟩ := h.cZ
 obtain ⟨x0, rfl, s0⟩ := gC (show Ev.cells 107 = [.sl 193] from by kernel_rfl) (uU (show Ev.cells 193 = [.int .i64, .int .i64, .int .i64, .int .i64, .int .i64, .int .i64, .int .i64, .int .i64, .sl 3, .int .i64, .sl 3, .int .i64, .int .i64, .sl 3, .int .i64, .bool, .sl 323] from by kernel_rfl) fp) g0
 obtain ⟨l1, t1, rfl, g1, h2⟩ := h1.cZ
 obtain ⟨x1, rfl, s1⟩ := gC (show Ev.cells 195 = [.int .i64, .int .i64, .int .i64, .int .i64, .int .i64, .int .i64, .int .i64, .int .i64, .sl 3, .int .i64, .sl 3, .int .i64, .int .i64, .sl 3, .int .i64, .bool, .sl 323, .int .i64, .int .i64, .int .i64, .int .i64, .int .i64, .int .i64, .int .i64, .int .i64, .sl 3, .int .i64, .sl 3, .int .i64, .int .i64, .sl 3, .int .i64, .bool, .sl 323, .int .i64, .int .i64, .int .i64, .int .i64, .int .i64, .int .i64, .int .i64, .int .i64, .sl 3, .int .i64, .sl 3, .int .i64, .int .i64, .sl 3, .int .i64, .bool, .sl 323] from by kernel_rfl) ql g1
 obtain rfl := h2.hL
 exact ⟨⟨x0, x1⟩, rfl, ⟨s0, s1⟩⟩
theorem iJ (r : List L) (h : cQ Ev.cells [.str, .int .i64, .int .i64, .sl 9] r) : ∃ x : aj, aj.row x = r ∧ aj.Sm maxLen x := by
 obtain ⟨l0, t0, rfl, g0, h1⟩ := h.cZ
 obtain ⟨x0, rfl, s0⟩ := rk g0
 obtain ⟨l1, t1, rfl, g1, h2⟩ := h1.cZ
 obtain ⟨x1, rfl⟩ := ez g1
 obtain ⟨l2, t2, rfl, g2, h3⟩ := h2.cZ
 obtain ⟨x2, rfl⟩ := ez g2
 obtain ⟨l3, t3, rfl, g3, h4⟩ := h3.cZ
 obtain ⟨x3, rfl, s3⟩ := gC (show Ev.cells 9 = [.str] from by kernel_rfl) vm g3
 obtain rfl := h4.hL
 exact ⟨⟨x0, x1, x2, x3⟩, rfl, ⟨s0, s3⟩⟩
theorem iZ (r : List L) (h : cQ Ev.cells [.int .i64, .sl 3] r) : ∃ x : aB, aB.row x = r ∧ aB.Sm maxLen x := by
 obtain ⟨l0, t0, rfl, g0, h1⟩ := h.cZ
 obtain ⟨x0, rfl⟩ := ez g0
 obtain ⟨l1, t1, rfl, g1, h2⟩ := h1.cZ
 obtain ⟨x1, rfl, s1⟩ := gC (show Ev.cells 3 = [.int .i64] from by kernel_rfl) rW g1
 obtain rfl := h2.hL
 exact ⟨⟨x0, x1⟩, rfl, s1⟩
theorem rE (r : List L) (h : cQ Ev.cells [.int .i64, .str, .int .i64, .int .i64, .sl 9, .str, .int .i64, .int .i64, .sl 9, .int .i64, .sl 3, .int .i64, .sl 3] r) : ∃ x : bt, bt.row x = r ∧ bt.Sm maxLen x := by
 obtain ⟨l0, t0, rfl, g0, h1⟩ := h.cZ
 obtain ⟨x0, rfl⟩ := ez g0
 obtain ⟨r1, t1, rfl, g1, h2⟩ := cQ.gy (a := [.str, .int .i64, .int .i64, .sl 9]) (b := [.str, .int .i64, .int .i64, .sl 9, .int .i64, .sl 3, .int .i64, .sl 3]) h1
 obtain ⟨x1, rfl, s1⟩ := iJ _ g1
 obtain ⟨r2, t2, rfl, g2, h3⟩ := cQ.gy (a := [.str, .int .i64, .int .i64, .sl 9]) (b := [.int .i64, .sl 3, .int .i64, .sl 3]) h2
 obtain ⟨x2, rfl, s2⟩ := iJ _ g2
 obtain ⟨r3, t3, rfl, g3, h4⟩ := cQ.gy (a := [.int .i64, .sl 3]) (b := [.int .i64, .sl 3]) h3
 obtain ⟨x3, rfl, s3⟩ := iZ _ g3
 obtain ⟨r4, t4, rfl, g4, h5⟩ := cQ.gy (a := [.int .i64, .sl 3]) (b := []) h4
 obtain ⟨x4, rfl, s4⟩ := iZ _ g4
 obtain rfl := h5.hL
 exact ⟨⟨x0, x1, x2, x3, x4⟩, rfl, ⟨s1, s2, s3, s4⟩⟩
theorem nS (r : List L) (h : cQ Ev.cells [.sl 193, .bool, .str, .int .i64, .int .i64, .sl 9, .int .i64, .sl 3, .int .i64, .str, .int .i64, .int .i64, .sl 9, .str, .int .i64, .int .i64, .sl 9, .int .i64, .sl 3, .int .i64, .sl 3] r) : ∃ x : ad, ad.row x = r ∧ ad.Sm maxLen x := by
 obtain ⟨l0, t0, rfl, g0, h1⟩ := h.cZ
 obtain ⟨x0, rfl, s0⟩ := gC (show Ev.cells 193 = [.int .i64, .int .i64, .int .i64, .int .i64, .int .i64, .int .i64, .int .i64, .int .i64, .sl 3, .int .i64, .sl 3, .int .i64, .int .i64, .sl 3, .int .i64, .bool, .sl 323] from by kernel_rfl) fp g0
 obtain ⟨l1, t1, rfl, g1, h2⟩ := h1.cZ
 obtain ⟨x1, rfl⟩ := sa g1
 obtain ⟨r2, t2, rfl, g2, h3⟩ := cQ.gy (a := [.str, .int .i64, .int .i64, .sl 9]) (b := [.int .i64, .sl 3, .int .i64, .str, .int .i64, .int .i64, .sl 9, .str, .int .i64, .int .i64, .sl 9, .int .i64, .sl 3, .int .i64, .sl 3]) h2
 obtain ⟨x2, rfl, s2⟩ := iJ _ g2
 obtain ⟨r3, t3, rfl, g3, h4⟩ := cQ.gy (a := [.int .i64, .sl 3]) (b := [.int .i64, .str, .int .i64, .int .i64, .sl 9, .str, .int .i64, .int .i64, .sl 9, .int .i64, .sl 3, .int .i64, .sl 3]) h3
 obtain ⟨x3, rfl, s3⟩ := iZ _ g3
 obtain ⟨r4, t4, rfl, g4, h5⟩ := cQ.gy (a := [.int .i64, .str, .int .i64, .int .i64, .sl 9, .str, .int .i64, .int .i64, .sl 9, .int .i64, .sl 3, .int .i64, .sl 3]) (b := []) h4
 obtain ⟨x4, rfl, s4⟩ := rE _ g4
 obtain rfl := h5.hL
 exact ⟨⟨x0, x1, x2, x3, x4⟩, rfl, ⟨s0, s2, s3, s4⟩⟩
theorem holds (ls : List L) (h : cQ Ev.cells ([25, 26, 3, 9, 3].flatMap Ev.cells) ls) : aK.km ls = some [.bool true] := by
 have hk : [25, 26, 3, 9, 3].flatMap Ev.cells = [.sl 107, .sl 195, .sl 114, .int .i64, .str, .int .i64] := by kernel_rfl
 rw [hk] at h
 obtain ⟨r0, t0, rfl, g0, h1⟩ := cQ.gy (a := [.sl 107, .sl 195]) (b := [.sl 114, .int .i64, .str, .int .i64]) h
 obtain ⟨x0, rfl, s0⟩ := qk _ g0
 obtain ⟨l1, t1, rfl, g1, h2⟩ := h1.cZ
 obtain ⟨x1, rfl, s1⟩ := gC (show Ev.cells 114 = [.sl 193, .bool, .str, .int .i64, .int .i64, .sl 9, .int .i64, .sl 3, .int .i64, .str, .int .i64, .int .i64, .sl 9, .str, .int .i64, .int .i64, .sl 9, .int .i64, .sl 3, .int .i64, .sl 3] from by kernel_rfl) nS g1
 obtain ⟨l2, t2, rfl, g2, h3⟩ := h2.cZ
 obtain ⟨x2, rfl⟩ := ez g2
 obtain ⟨l3, t3, rfl, g3, h4⟩ := h3.cZ
 obtain ⟨x3, rfl, s3⟩ := rk g3
 obtain ⟨l4, t4, rfl, g4, h5⟩ := h4.cZ
 obtain ⟨x4, rfl⟩ := ez g4
 obtain rfl := h5.hL
 show (R ((ah.r x0), (x1.map ad.row), x2, x3, x4)).map RT.enc = _
 rw [ai ⟨s0, s1, s3⟩]
 rfl
end Z246
end Go.DM
end
