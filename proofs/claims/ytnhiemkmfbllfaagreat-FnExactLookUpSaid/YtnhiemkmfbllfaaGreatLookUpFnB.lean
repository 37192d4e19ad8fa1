/- What the functions compute that the law reaches, and that the law returns true. Conditions: none. -/
import Derived.Test.YtnhiemkmfbllfaaGreatLookUpTy
import Derived.Test.YtnhiemkmfbllfaaGreatLookUpFnA
import Derived.Test.YtnhiemkmfbllfaaGreatProg
import Derived.Lib.AppendZerosOnto
import Derived.Lib.Bytealg
import Derived.Laws.Externs
import Derived.Lib.Walk
import Derived.Lib.Hide
import Derived.Lib.Strings
set_option linter.all false
set_option maxRecDepth 100000
noncomputable section
namespace Go.DM
open Go.Proofs
open Go.IntKind (i64)
namespace Z103
inductive Pt where
 | p0 (a : List (List L)) (b : Int) (c : ByteArray) (d : Int) (e : Int) (f : Bool) (g : ByteArray) (h : Int) (i : Int) (j : Bool) (k : Bool) (l : ByteArray) (m : Int) (n : Int) (o : Bool) (p : List (List L)) (q : List (List L)) (s : List (List L))
def pid : Pt → Nat
 | .p0 .. => 3
def bR : Pt → List V
 | .p0 a b c d e f g h i j k l m n o p q s => [.sl none 121 a, .int .i64 b, .str c, .int .i64 d, .cC 0 0, .cC 1 0, .int .i64 e, .cC 1 0]
def bQ : Pt → List aI
 | .p0 a b c d e f g h i j k l m n o p q s => [.box [.nil, .nil, .bool f, .str g, .int .i64 h, .int .i64 i, .nil, .bool j, .nil], .box [.own 2, .own 3, .bool k, .str l, .int .i64 m, .int .i64 n, .nil, .bool o, .own 4], .row 116 p, .row 204 q, .row 3 s]
def step (J : Pt → ay) : Pt → ay
 | .p0 a b c d e f g h i j k l m n o p q s => (cond (decide (e < (a.length : Int))) (m2 e (a.length : Int) (call (Z65.R ((bd.at a (Int.toNat e)).aL)) fun v1 => (cond v1.2 (cond (v1.1.aT == b) (call (Z71.R ((⟨p, q⟩ : aW), (bd.at a (Int.toNat e)).aL)) fun v2 => (call (Z96.R (b, c, (bd.at a (Int.toNat e)), d)) fun v3 => (cond (v2.2 == 1) (cond (v3 == 1) (call (Z100.R (v2.1, b)) fun v4 => (cond v4 (bJ (dU (((s.length : Int) + 1) * 8)) (J (.p0 a b c d (i64.wrap (e + 1)) f g h i j k l m n o v2.1.aA v2.1.aR (s ++ [[L.int 3]])))) (bJ (dU (((s.length : Int) + 1) * 8)) (cond (v3 == 1) (call (Z102.R ((bd.at a (Int.toNat e)).aH)) fun v5 => ret ((⟨v2.1, (bd.at a (Int.toNat e)).bu, v5, true, (s ++ [[L.int v3]])⟩ : bT) : bT)) (J (.p0 a b c d (i64.wrap (e + 1)) f g h i j k l m n o v2.1.aA v2.1.aR (s ++ [[L.int v3]]))))))) (bJ (dU (((s.length : Int) + 1) * 8)) (cond (v3 == 1) (call (Z102.R ((bd.at a (Int.toNat e)).aH)) fun v6 => ret ((⟨v2.1, (bd.at a (Int.toNat e)).bu, v6, true, (s ++ [[L.int v3]])⟩ : bT) : bT)) (J (.p0 a b c d (i64.wrap (e + 1)) f g h i j k l m n o v2.1.aA v2.1.aR (s ++ [[L.int v3]])))))) (cond (v2.2 == 2) (cond (v3 == 1) (call (Z100.R (v2.1, b)) fun v7 => (cond v7 (bJ (dU (((s.length : Int) + 1) * 8)) (J (.p0 a b c d (i64.wrap (e + 1)) f g h i j k l m n o v2.1.aA v2.1.aR (s ++ [[L.int 3]])))) (bJ (dU (((s.length : Int) + 1) * 8)) (cond (v3 == 1) (call (Z102.R ((bd.at a (Int.toNat e)).aH)) fun v8 => ret ((⟨v2.1, (bd.at a (Int.toNat e)).bu, v8, true, (s ++ [[L.int v3]])⟩ : bT) : bT)) (J (.p0 a b c d (i64.wrap (e + 1)) f g h i j k l m n o v2.1.aA v2.1.aR (s ++ [[L.int v3]]))))))) (bJ (dU (((s.length : Int) + 1) * 8)) (cond (v3 == 1) (call (Z102.R ((bd.at a (Int.toNat e)).aH)) fun v9 => ret ((⟨v2.1, (bd.at a (Int.toNat e)).bu, v9, true, (s ++ [[L.int v3]])⟩ : bT) : bT)) (J (.p0 a b c d (i64.wrap (e + 1)) f g h i j k l m n o v2.1.aA v2.1.aR (s ++ [[L.int v3]])))))) (cond (v3 == 1) (cond (!(v2.2 == 3)) (bJ (dU (((s.length : Int) + 1) * 8)) (J (.p0 a b c d (i64.wrap (e + 1)) f g h i j k l m n o v2.1.aA v2.1.aR (s ++ [[L.int 3]])))) (call (Z100.R (v2.1, b)) fun v10 => (cond v10 (bJ (dU (((s.length : Int) + 1) * 8)) (J (.p0 a b c d (i64.wrap (e + 1)) f g h i j k l m n o v2.1.aA v2.1.aR (s ++ [[L.int 3]])))) (bJ (dU (((s.length : Int) + 1) * 8)) (cond (v3 == 1) (call (Z102.R ((bd.at a (Int.toNat e)).aH)) fun v11 => ret ((⟨v2.1, (bd.at a (Int.toNat e)).bu, v11, true, (s ++ [[L.int v3]])⟩ : bT) : bT)) (J (.p0 a b c d (i64.wrap (e + 1)) f g h i j k l m n o v2.1.aA v2.1.aR (s ++ [[L.int v3]])))))))) (bJ (dU (((s.length : Int) + 1) * 8)) (cond (v3 == 1) (call (Z102.R ((bd.at a (Int.toNat e)).aH)) fun v12 => ret ((⟨v2.1, (bd.at a (Int.toNat e)).bu, v12, true, (s ++ [[L.int v3]])⟩ : bT) : bT)) (J (.p0 a b c d (i64.wrap (e + 1)) f g h i j k l m n o v2.1.aA v2.1.aR (s ++ [[L.int v3]])))))))))) (call (Z96.R (b, c, (bd.at a (Int.toNat e)), d)) fun v13 => (cond (v13 == 1) (bJ (dU (((s.length : Int) + 1) * 8)) (J (.p0 a b c d (i64.wrap (e + 1)) f g h i j k l m n o p q (s ++ [[L.int 3]])))) (bJ (dU (((s.length : Int) + 1) * 8)) (cond (v13 == 1) (call (Z102.R ((bd.at a (Int.toNat e)).aH)) fun v14 => ret ((⟨(⟨p, q⟩ : aW), (bd.at a (Int.toNat e)).bu, v14, true, (s ++ [[L.int v13]])⟩ : bT) : bT)) (J (.p0 a b c d (i64.wrap (e + 1)) f g h i j k l m n o p q (s ++ [[L.int v13]])))))))) (call (Z96.R (b, c, (bd.at a (Int.toNat e)), d)) fun v15 => (cond (v15 == 1) (bJ (dU (((s.length : Int) + 1) * 8)) (J (.p0 a b c d (i64.wrap (e + 1)) f g h i j k l m n o p q (s ++ [[L.int 3]])))) (bJ (dU (((s.length : Int) + 1) * 8)) (cond (v15 == 1) (call (Z102.R ((bd.at a (Int.toNat e)).aH)) fun v16 => ret ((⟨(⟨p, q⟩ : aW), (bd.at a (Int.toNat e)).bu, v16, true, (s ++ [[L.int v15]])⟩ : bT) : bT)) (J (.p0 a b c d (i64.wrap (e + 1)) f g h i j k l m n o p q (s ++ [[L.int v15]])))))))))) (ret ((⟨(⟨p, q⟩ : aW), k, (⟨l, m, n, []⟩ : bA), o, s⟩ : bT) : bT)))
def start (J : Pt → ay) (x0 : aW) (x1 : List (List L)) (x2 : Int) (x3 : ByteArray) (x4 : Int) : ay := (call (Z38.R x0) fun v1 => J (.p0 x1 x2 x3 x4 0 false ⟨#[]⟩ 0 0 false false ⟨#[]⟩ 0 0 false v1.aA v1.aR []))
def live : Nat → Live := fun i => match i with | 3 => [(1, none), (2, none), (3, none), (4, none), (10, none), (11, none), (12, none), (11, some 8388611)] | _ => []
def md (a0 : ah) (a1 : List ad) (a2 : Int) (a3 : ByteArray) (a4 : Int) : aX := (dG (S := List (List aa) × List ao × List Int) (β := aX) (fun (y1 : ad) (s3 : List (List aa) × List ao × List Int) => (cond ((Z65.md (y1.aL)).2) (cond ((Z65.md (y1.aL)).1.aT == a2) (cond ((Z71.md (⟨s3.1, s3.2.1⟩ : ah) (y1.aL)).2 == 1) (cond ((Z96.md a2 a3 y1 a4) == 1) (cond (Z100.md ((Z71.md (⟨s3.1, s3.2.1⟩ : ah) (y1.aL)).1) a2) (.inl ((Z71.md (⟨s3.1, s3.2.1⟩ : ah) (y1.aL)).1.aA, (Z71.md (⟨s3.1, s3.2.1⟩ : ah) (y1.aL)).1.aR, (s3.2.2 ++ [3]))) (cond ((Z96.md a2 a3 y1 a4) == 1) (.inr (⟨(Z71.md (⟨s3.1, s3.2.1⟩ : ah) (y1.aL)).1, y1.bu, (y1.aH), true, (s3.2.2 ++ [(Z96.md a2 a3 y1 a4)])⟩ : aX)) (.inl ((Z71.md (⟨s3.1, s3.2.1⟩ : ah) (y1.aL)).1.aA, (Z71.md (⟨s3.1, s3.2.1⟩ : ah) (y1.aL)).1.aR, (s3.2.2 ++ [(Z96.md a2 a3 y1 a4)]))))) (cond ((Z96.md a2 a3 y1 a4) == 1) (.inr (⟨(Z71.md (⟨s3.1, s3.2.1⟩ : ah) (y1.aL)).1, y1.bu, (y1.aH), true, (s3.2.2 ++ [(Z96.md a2 a3 y1 a4)])⟩ : aX)) (.inl ((Z71.md (⟨s3.1, s3.2.1⟩ : ah) (y1.aL)).1.aA, (Z71.md (⟨s3.1, s3.2.1⟩ : ah) (y1.aL)).1.aR, (s3.2.2 ++ [(Z96.md a2 a3 y1 a4)]))))) (cond ((Z71.md (⟨s3.1, s3.2.1⟩ : ah) (y1.aL)).2 == 2) (cond ((Z96.md a2 a3 y1 a4) == 1) (cond (Z100.md ((Z71.md (⟨s3.1, s3.2.1⟩ : ah) (y1.aL)).1) a2) (.inl ((Z71.md (⟨s3.1, s3.2.1⟩ : ah) (y1.aL)).1.aA, (Z71.md (⟨s3.1, s3.2.1⟩ : ah) (y1.aL)).1.aR, (s3.2.2 ++ [3]))) (cond ((Z96.md a2 a3 y1 a4) == 1) (.inr (⟨(Z71.md (⟨s3.1, s3.2.1⟩ : ah) (y1.aL)).1, y1.bu, (y1.aH), true, (s3.2.2 ++ [(Z96.md a2 a3 y1 a4)])⟩ : aX)) (.inl ((Z71.md (⟨s3.1, s3.2.1⟩ : ah) (y1.aL)).1.aA, (Z71.md (⟨s3.1, s3.2.1⟩ : ah) (y1.aL)).1.aR, (s3.2.2 ++ [(Z96.md a2 a3 y1 a4)]))))) (cond ((Z96.md a2 a3 y1 a4) == 1) (.inr (⟨(Z71.md (⟨s3.1, s3.2.1⟩ : ah) (y1.aL)).1, y1.bu, (y1.aH), true, (s3.2.2 ++ [(Z96.md a2 a3 y1 a4)])⟩ : aX)) (.inl ((Z71.md (⟨s3.1, s3.2.1⟩ : ah) (y1.aL)).1.aA, (Z71.md (⟨s3.1, s3.2.1⟩ : ah) (y1.aL)).1.aR, (s3.2.2 ++ [(Z96.md a2 a3 y1 a4)]))))) (cond ((Z96.md a2 a3 y1 a4) == 1) (cond (!((Z71.md (⟨s3.1, s3.2.1⟩ : ah) (y1.aL)).2 == 3)) (.inl ((Z71.md (⟨s3.1, s3.2.1⟩ : ah) (y1.aL)).1.aA, (Z71.md (⟨s3.1, s3.2.1⟩ : ah) (y1.aL)).1.aR, (s3.2.2 ++ [3]))) (cond (Z100.md ((Z71.md (⟨s3.1, s3.2.1⟩ : ah) (y1.aL)).1) a2) (.inl ((Z71.md (⟨s3.1, s3.2.1⟩ : ah) (y1.aL)).1.aA, (Z71.md (⟨s3.1, s3.2.1⟩ : ah) (y1.aL)).1.aR, (s3.2.2 ++ [3]))) (cond ((Z96.md a2 a3 y1 a4) == 1) (.inr (⟨(Z71.md (⟨s3.1, s3.2.1⟩ : ah) (y1.aL)).1, y1.bu, (y1.aH), true, (s3.2.2 ++ [(Z96.md a2 a3 y1 a4)])⟩ : aX)) (.inl ((Z71.md (⟨s3.1, s3.2.1⟩ : ah) (y1.aL)).1.aA, (Z71.md (⟨s3.1, s3.2.1⟩ : ah) (y1.aL)).1.aR, (s3.2.2 ++ [(Z96.md a2 a3 y1 a4)])))))) (cond ((Z96.md a2 a3 y1 a4) == 1) (.inr (⟨(Z71.md (⟨s3.1, s3.2.1⟩ : ah) (y1.aL)).1, y1.bu, (y1.aH), true, (s3.2.2 ++ [(Z96.md a2 a3 y1 a4)])⟩ : aX)) (.inl ((Z71.md (⟨s3.1, s3.2.1⟩ : ah) (y1.aL)).1.aA, (Z71.md (⟨s3.1, s3.2.1⟩ : ah) (y1.aL)).1.aR, (s3.2.2 ++ [(Z96.md a2 a3 y1 a4)]))))))) (cond ((Z96.md a2 a3 y1 a4) == 1) (.inl (s3.1, s3.2.1, (s3.2.2 ++ [3]))) (cond ((Z96.md a2 a3 y1 a4) == 1) (.inr (⟨(⟨s3.1, s3.2.1⟩ : ah), y1.bu, (y1.aH), true, (s3.2.2 ++ [(Z96.md a2 a3 y1 a4)])⟩ : aX)) (.inl (s3.1, s3.2.1, (s3.2.2 ++ [(Z96.md a2 a3 y1 a4)])))))) (cond ((Z96.md a2 a3 y1 a4) == 1) (.inl (s3.1, s3.2.1, (s3.2.2 ++ [3]))) (cond ((Z96.md a2 a3 y1 a4) == 1) (.inr (⟨(⟨s3.1, s3.2.1⟩ : ah), y1.bu, (y1.aH), true, (s3.2.2 ++ [(Z96.md a2 a3 y1 a4)])⟩ : aX)) (.inl (s3.1, s3.2.1, (s3.2.2 ++ [(Z96.md a2 a3 y1 a4)]))))))) (fun (s3 : List (List aa) × List ao × List Int) => (⟨(⟨s3.1, s3.2.1⟩ : ah), false, (⟨(⟨#[]⟩ : ByteArray), 0, 0, []⟩ : aj), false, s3.2.2⟩ : aX)) a1 (a0.aA, a0.aR, []))
def gd (a0 : ah) (a1 : List ad) (a2 : Int) (a3 : ByteArray) (a4 : Int) : Prop := (ah.Sm (2 ^ 21) a0) ∧ (bw (2 ^ 21) (fun y : ad => ad.Sm (2 ^ 21) y) a1) ∧ (a3.size ≤ (2 ^ 21))
def R := RR (p5 gd) (u5 md)
theorem ai {a0 a1 a2 a3 a4} (h : gd a0 a1 a2 a3 a4) : R ((ah.r a0), (a1.map ad.row), a2, a3, a4) = some (aX.r (md a0 a1 a2 a3 a4)) := aE (a := (a0, a1, a2, a3, a4)) h
def aK := CN [.agg rh, pL 121, pI, pS, pI] (.agg f38) RT.dec R
theorem okF (a0) (a1) (a2) (a3) (a4) (hg : gd a0 a1 a2 a3 a4) : ∃ n, start (iter step n) (ah.r a0) (a1.map ad.row) a2 a3 a4 = ret (aX.r (md a0 a1 a2 a3 a4)) := by
  obtain ⟨H0, H1, H3⟩ := hg
  unfold start md
  try simp only [SS]
  refine cx (Z38.ai H0) ?_
  try simp only [SS]
  have Bh2 : a1.length ≤ maxLen := (by
      have := (H1).1
      try simp only [maxLen] at *
      omega)
  refine dV (out := (fun b : aX => ret ((aX.r b) : bT))) (dO (z := ad.zero)) ?_
  refine dk (p := Pt.p0 (a1.map ad.row) a2 a3 a4 0 false (⟨#[]⟩ : ByteArray) 0 0 false false (⟨#[]⟩ : ByteArray) 0 0 false (a0.aA.map (cM aa.row)) (a0.aR.map ao.row) ([].map aP)) fz ?_
  refine bP (pt := fun (i1 : Nat) (s3 : List (List aa) × List ao × List Int) => Pt.p0 (a1.map ad.row) a2 a3 a4 (i1 : Int) false (⟨#[]⟩ : ByteArray) 0 0 false false (⟨#[]⟩ : ByteArray) 0 0 false (s3.1.map (cM aa.row)) (s3.2.1.map ao.row) (s3.2.2.map aP)) (s := ((a0.aA, a0.aR, []) : List (List aa) × List ao × List Int)) (out := (fun b : aX => ret ((aX.r b) : bT))) (fun (i1 : Nat) (s3 : List (List aa) × List ao × List Int) => ah.Sm (2 ^ 21) (⟨s3.1, s3.2.1⟩ : ah) ∧ s3.2.2.length ≤ i1) (fun J i1 s3 h2 hih2 => ?_) (fun s3 hih2 => ?_) ⟨H0, Nat.zero_le _⟩
  · simp only [step, SS]
    have gr_ := hih2
    try simp only [LN] at gr_
    have bb_ := Bh2
    simp only [maxLen] at bb_
    have := (H1).1
    refine aY.yes (by apply decide_eq_true; omega) ?_
    refine aY.yes ax ?_
    refine aY.yes (aD h2) ?_
    refine cr (Z65.ai (bw.getD (z := ad.zero) H1 h2).1) ?_
    try simp only [SS]
    refine aY.bif (fun c4 => ?_) (fun c4 => ?_)
    · refine aY.bif (fun c5 => ?_) (fun c5 => ?_)
      · have dc5 := c5
        try simp only [DC] at dc5
        refine cr (Z71.ai (a0 := (⟨s3.1, s3.2.1⟩ : ah)) ⟨⟨hih2.1.1, hih2.1.2⟩, (bw.getD (z := ad.zero) H1 h2).1⟩) ?_
        try simp only [SS]
        refine cr (Z96.ai ⟨H3, (bw.getD (z := ad.zero) H1 h2)⟩) ?_
        refine aY.bif (fun c6 => ?_) (fun c6 => ?_)
        · have dc6 := c6
          try simp only [DC] at dc6
          refine aY.bif (fun c7 => ?_) (fun c7 => ?_)
          · have dc7 := c7
            try simp only [DC] at dc7
            refine cr (Z100.ai (a0 := (Z71.md (⟨s3.1, s3.2.1⟩ : ah) ((a1.getD i1 ad.zero).aL)).1) (Z71.gS (a0 := (⟨s3.1, s3.2.1⟩ : ah)) (a1 := (a1.getD i1 ad.zero).aL) ⟨⟨hih2.1.1, hih2.1.2⟩, (bw.getD (z := ad.zero) H1 h2).1⟩)) ?_
            refine aY.bif (fun c8 => ?_) (fun c8 => ?_)
            · refine aY.yes lm ?_
              refine aY.inl (by first | exact ⟨hih2.1, fM hih2.2⟩ | exact ⟨Z71.gS ⟨hih2.1, (bw.getD H1 h2).1⟩, fM hih2.2⟩) ?_
              rw [az h2 Bh2]
              all_goals exact fz
            · refine aY.yes lm ?_
              refine aY.bif (fun c9 => ?_) (fun c9 => ?_)
              · refine cr (Z102.ai (bw.getD (z := ad.zero) H1 h2).2.1) ?_
                try simp only [SS]
                refine aY.inr ?_
                all_goals exact fz
              · refine aY.inl (by first | exact ⟨hih2.1, fM hih2.2⟩ | exact ⟨Z71.gS ⟨hih2.1, (bw.getD H1 h2).1⟩, fM hih2.2⟩) ?_
                rw [az h2 Bh2]
                all_goals exact fz
          · have dc7 := c7
            try simp only [DC] at dc7
            refine aY.yes lm ?_
            refine aY.bif (fun c10 => ?_) (fun c10 => ?_)
            · refine cr (Z102.ai (bw.getD (z := ad.zero) H1 h2).2.1) ?_
              try simp only [SS]
              refine aY.inr ?_
              all_goals exact fz
            · refine aY.inl (by first | exact ⟨hih2.1, fM hih2.2⟩ | exact ⟨Z71.gS ⟨hih2.1, (bw.getD H1 h2).1⟩, fM hih2.2⟩) ?_
              rw [az h2 Bh2]
              all_goals exact fz
        · have dc6 := c6
          try simp only [DC] at dc6
          refine aY.bif (fun c11 => ?_) (fun c11 => ?_)
          · have dc11 := c11
            try simp only [DC] at dc11
            refine aY.bif (fun c12 => ?_) (fun c12 => ?_)
            · have dc12 := c12
              try simp only [DC] at dc12
              refine cr (Z100.ai (a0 := (Z71.md (⟨s3.1, s3.2.1⟩ : ah) ((a1.getD i1 ad.zero).aL)).1) (Z71.gS (a0 := (⟨s3.1, s3.2.1⟩ : ah)) (a1 := (a1.getD i1 ad.zero).aL) ⟨⟨hih2.1.1, hih2.1.2⟩, (bw.getD (z := ad.zero) H1 h2).1⟩)) ?_
              refine aY.bif (fun c13 => ?_) (fun c13 => ?_)
              · refine aY.yes lm ?_
                refine aY.inl (by first | exact ⟨hih2.1, fM hih2.2⟩ | exact ⟨Z71.gS ⟨hih2.1, (bw.getD H1 h2).1⟩, fM hih2.2⟩) ?_
                rw [az h2 Bh2]
                all_goals exact fz
              · refine aY.yes lm ?_
                refine aY.bif (fun c14 => ?_) (fun c14 => ?_)
                · refine cr (Z102.ai (bw.getD (z := ad.zero) H1 h2).2.1) ?_
                  try simp only [SS]
                  refine aY.inr ?_
                  all_goals exact fz
                · refine aY.inl (by first | exact ⟨hih2.1, fM hih2.2⟩ | exact ⟨Z71.gS ⟨hih2.1, (bw.getD H1 h2).1⟩, fM hih2.2⟩) ?_
                  rw [az h2 Bh2]
                  all_goals exact fz
            · have dc12 := c12
              try simp only [DC] at dc12
              refine aY.yes lm ?_
              refine aY.bif (fun c15 => ?_) (fun c15 => ?_)
              · refine cr (Z102.ai (bw.getD (z := ad.zero) H1 h2).2.1) ?_
                try simp only [SS]
                refine aY.inr ?_
                all_goals exact fz
              · refine aY.inl (by first | exact ⟨hih2.1, fM hih2.2⟩ | exact ⟨Z71.gS ⟨hih2.1, (bw.getD H1 h2).1⟩, fM hih2.2⟩) ?_
                rw [az h2 Bh2]
                all_goals exact fz
          · have dc11 := c11
            try simp only [DC] at dc11
            refine aY.bif (fun c16 => ?_) (fun c16 => ?_)
            · have dc16 := c16
              try simp only [DC] at dc16
              refine aY.bif (fun c17 => ?_) (fun c17 => ?_)
              · have dc17 := c17
                try simp only [DC] at dc17
                refine aY.yes lm ?_
                refine aY.inl (by first | exact ⟨hih2.1, fM hih2.2⟩ | exact ⟨Z71.gS ⟨hih2.1, (bw.getD H1 h2).1⟩, fM hih2.2⟩) ?_
                rw [az h2 Bh2]
                all_goals exact fz
              · have dc17 := c17
                try simp only [DC] at dc17
                refine cr (Z100.ai (a0 := (Z71.md (⟨s3.1, s3.2.1⟩ : ah) ((a1.getD i1 ad.zero).aL)).1) (Z71.gS (a0 := (⟨s3.1, s3.2.1⟩ : ah)) (a1 := (a1.getD i1 ad.zero).aL) ⟨⟨hih2.1.1, hih2.1.2⟩, (bw.getD (z := ad.zero) H1 h2).1⟩)) ?_
                refine aY.bif (fun c18 => ?_) (fun c18 => ?_)
                · refine aY.yes lm ?_
                  refine aY.inl (by first | exact ⟨hih2.1, fM hih2.2⟩ | exact ⟨Z71.gS ⟨hih2.1, (bw.getD H1 h2).1⟩, fM hih2.2⟩) ?_
                  rw [az h2 Bh2]
                  all_goals exact fz
                · refine aY.yes lm ?_
                  refine aY.bif (fun c19 => ?_) (fun c19 => ?_)
                  · refine cr (Z102.ai (bw.getD (z := ad.zero) H1 h2).2.1) ?_
                    try simp only [SS]
                    refine aY.inr ?_
                    all_goals exact fz
                  · refine aY.inl (by first | exact ⟨hih2.1, fM hih2.2⟩ | exact ⟨Z71.gS ⟨hih2.1, (bw.getD H1 h2).1⟩, fM hih2.2⟩) ?_
                    rw [az h2 Bh2]
                    all_goals exact fz
            · have dc16 := c16
              try simp only [DC] at dc16
              refine aY.yes lm ?_
              refine aY.bif (fun c20 => ?_) (fun c20 => ?_)
              · refine cr (Z102.ai (bw.getD (z := ad.zero) H1 h2).2.1) ?_
                try simp only [SS]
                refine aY.inr ?_
                all_goals exact fz
              · refine aY.inl (by first | exact ⟨hih2.1, fM hih2.2⟩ | exact ⟨Z71.gS ⟨hih2.1, (bw.getD H1 h2).1⟩, fM hih2.2⟩) ?_
                rw [az h2 Bh2]
                all_goals exact fz
      · have dc5 := c5
        try simp only [DC] at dc5
        refine cr (Z96.ai ⟨H3, (bw.getD (z := ad.zero) H1 h2)⟩) ?_
        refine aY.bif (fun c21 => ?_) (fun c21 => ?_)
        · have dc21 := c21
          try simp only [DC] at dc21
          refine aY.yes lm ?_
          refine aY.inl (by first | exact ⟨hih2.1, fM hih2.2⟩ | exact ⟨Z71.gS ⟨hih2.1, (bw.getD H1 h2).1⟩, fM hih2.2⟩) ?_
          rw [az h2 Bh2]
          all_goals exact fz
        · have dc21 := c21
          try simp only [DC] at dc21
          refine aY.yes lm ?_
          refine aY.bif (fun c22 => ?_) (fun c22 => ?_)
          · refine cr (Z102.ai (bw.getD (z := ad.zero) H1 h2).2.1) ?_
            try simp only [SS]
            refine aY.inr ?_
            all_goals exact fz
          · refine aY.inl (by first | exact ⟨hih2.1, fM hih2.2⟩ | exact ⟨Z71.gS ⟨hih2.1, (bw.getD H1 h2).1⟩, fM hih2.2⟩) ?_
            rw [az h2 Bh2]
            all_goals exact fz
    · refine cr (Z96.ai ⟨H3, (bw.getD (z := ad.zero) H1 h2)⟩) ?_
      refine aY.bif (fun c23 => ?_) (fun c23 => ?_)
      · have dc23 := c23
        try simp only [DC] at dc23
        refine aY.yes lm ?_
        refine aY.inl (by first | exact ⟨hih2.1, fM hih2.2⟩ | exact ⟨Z71.gS ⟨hih2.1, (bw.getD H1 h2).1⟩, fM hih2.2⟩) ?_
        rw [az h2 Bh2]
        all_goals exact fz
      · have dc23 := c23
        try simp only [DC] at dc23
        refine aY.yes lm ?_
        refine aY.bif (fun c24 => ?_) (fun c24 => ?_)
        · refine cr (Z102.ai (bw.getD (z := ad.zero) H1 h2).2.1) ?_
          try simp only [SS]
          refine aY.inr ?_
          all_goals exact fz
        · refine aY.inl (by first | exact ⟨hih2.1, fM hih2.2⟩ | exact ⟨Z71.gS ⟨hih2.1, (bw.getD H1 h2).1⟩, fM hih2.2⟩) ?_
          rw [az h2 Bh2]
          all_goals exact fz
  · simp only [step, SS]
    have gr_ := hih2
    try simp only [LN] at gr_
    have := (H1).1
    refine dh (by apply decide_eq_false; omega) ?_
    refine ⟨0, ?_⟩
    all_goals exact fz
theorem ab : Valid Tryz.prog Ev 12 aK := L5 99 pid bR bQ live step start mix au okF (.cons Z38.ab (.cons Z65.ab (.cons Z71.ab (.cons Z96.ab (.cons Z100.ab (.cons Z102.ab .nil)))))) Tryz.func12
def nO (z : Int) (l : ByteArray) (now : Int) (y : ad) (k : ah) : ah × Int :=
 let kn := bif (Z65.md y.aL).2 && ((Z65.md y.aL).1.aT == z) then Z71.md k y.aL else (k, 6)
 (kn.1, bif (Z96.md z l y now == 1) && !((kn.2 == 1 || (kn.2 == 2 || kn.2 == 3)) && !Z100.md kn.1 z) then 3 else Z96.md z l y now)
def so (z : Int) (l : ByteArray) (now : Int) (y : ad) (s : List (List aa) × List ao × List Int) : List (List aa) × List ao × List Int ⊕ aX :=
 bif (nO z l now y ⟨s.1, s.2.1⟩).2 == 1 then .inr ⟨(nO z l now y ⟨s.1, s.2.1⟩).1, y.bu, y.aH, true, s.2.2 ++ [(nO z l now y ⟨s.1, s.2.1⟩).2]⟩
 else .inl ((nO z l now y ⟨s.1, s.2.1⟩).1.aA, (nO z l now y ⟨s.1, s.2.1⟩).1.aR, s.2.2 ++ [(nO z l now y ⟨s.1, s.2.1⟩).2])
def fin (s : List (List aa) × List ao × List Int) : aX := ⟨⟨s.1, s.2.1⟩, false, ⟨⟨#[]⟩, 0, 0, []⟩, false, s.2.2⟩
theorem pG (a0 : ah) (a1 : List ad) (a2 : Int) (a3 : ByteArray) (a4 : Int) : md a0 a1 a2 a3 a4 = dG (so a2 a3 a4) fin a1 (a0.aA, a0.aR, []) := by
  unfold md
  refine ml (fun y _ s => ?_) (fun s => rfl)
  have h31 : ((3 : Int) == 1) = false := rfl
  have h61 : ((6 : Int) == 1) = false := rfl
  have h62 : ((6 : Int) == 2) = false := rfl
  have h63 : ((6 : Int) == 3) = false := rfl
  unfold so nO
  cases g1 : (Z65.md y.aL).2
  · cases g2 : (Z96.md a2 a3 y a4 == 1) <;> simp [g2, h31, h61, h62, h63]
  cases g3 : ((Z65.md y.aL).1.aT == a2)
  · cases g2 : (Z96.md a2 a3 y a4 == 1) <;> simp [g2, h31, h61, h62, h63]
  generalize Z71.md (⟨s.1, s.2.1⟩ : ah) y.aL = r
  cases g2 : (Z96.md a2 a3 y a4 == 1) <;> cases g4 : (r.2 == 1) <;> cases g5 : (r.2 == 2) <;> cases g6 : (r.2 == 3) <;> cases g7 : Z100.md r.1 a2 <;> simp [g2, g4, g5, g6, g7, h31]
theorem uf (z : Int) (l : ByteArray) (now : Int) (y : ad) (k : ah) : Z71.Cz (nO z l now y k).1.aA ≤ Z71.Cz k.aA + (ad.size y + 1) ∧
    Z71.Fz (nO z l now y k).1.aR ≤ Z71.Fz k.aR + (2 * Z71.Cz k.aA + ad.size y + 1) := by
  have h := Z71.grow k y.aL
  have hs : di (fun y : aa => aa.size y) y.aL ≤ ad.size y := by unfold ad.size; omega
  unfold nO
  cases (Z65.md y.aL).2 && ((Z65.md y.aL).1.aT == z)
  · simp only [cond_false]; omega
  · simp only [cond_true]; omega
theorem tk {α : Type} (f : α → Nat) (x : α) (xs : List α) : di f (x :: xs) = di f xs + (f x + 1) := by simp [di]; omega
theorem grow (z : Int) (l : ByteArray) (now : Int) : ∀ (xs : List ad) (s : List (List aa) × List ao × List Int),
    Z71.Cz (dG (so z l now) fin xs s).cy.aA ≤ Z71.Cz s.1 + di (fun y : ad => ad.size y) xs ∧
    Z71.Fz (dG (so z l now) fin xs s).cy.aR ≤ Z71.Fz s.2.1 + xs.length * (2 * (Z71.Cz s.1 + di (fun y : ad => ad.size y) xs) + di (fun y : ad => ad.size y) xs) ∧
    (dG (so z l now) fin xs s).dq.length ≤ s.2.2.length + xs.length ∧ aj.size (dG (so z l now) fin xs s).aH ≤ di (fun y : ad => ad.size y) xs
  | [], s => ⟨Nat.le_add_right _ _, Nat.le_add_right _ _, Nat.le_refl _, Nat.zero_le _⟩
  | y :: xs, s => by
    have hg := uf z l now y ⟨s.1, s.2.1⟩
    have hy : aj.size y.aH ≤ ad.size y := by unfold ad.size; omega
    rw [tk]
    unfold dG
    cases hb : (nO z l now y ⟨s.1, s.2.1⟩).2 == 1
    · have e : so z l now y s = .inl ((nO z l now y ⟨s.1, s.2.1⟩).1.aA, (nO z l now y ⟨s.1, s.2.1⟩).1.aR, s.2.2 ++ [(nO z l now y ⟨s.1, s.2.1⟩).2]) := by unfold so; rw [hb]; rfl
      rw [e]
      obtain ⟨h1, h2, h3, h4⟩ := grow z l now xs ((nO z l now y ⟨s.1, s.2.1⟩).1.aA, (nO z l now y ⟨s.1, s.2.1⟩).1.aR, s.2.2 ++ [(nO z l now y ⟨s.1, s.2.1⟩).2])
      simp only at h1 h2 h3 h4 hg ⊢
      generalize di (fun y : ad => ad.size y) xs = w at *
      generalize ad.size y = q at *
      generalize Z71.Cz (nO z l now y ⟨s.1, s.2.1⟩).1.aA = c1 at *
      generalize Z71.Cz s.1 = c0 at *
      have hm : xs.length * (2 * (c1 + w) + w) ≤ xs.length * (2 * (c0 + (w + (q + 1))) + (w + (q + 1))) := Nat.mul_le_mul_left _ (by omega)
      rw [List.length_cons, Nat.succ_mul]
      rw [List.length_append] at h3
      refine ⟨by omega, by omega, by simp only [List.length_cons, List.length_nil] at h3; omega, by omega⟩
    · have e : so z l now y s = .inr ⟨(nO z l now y ⟨s.1, s.2.1⟩).1, y.bu, y.aH, true, s.2.2 ++ [(nO z l now y ⟨s.1, s.2.1⟩).2]⟩ := by unfold so; rw [hb]; rfl
      rw [e]
      simp only at hg ⊢
      generalize di (fun y : ad => ad.size y) xs = w at *
      generalize ad.size y = q at *
      generalize Z71.Cz s.1 = c0 at *
      rw [List.length_cons, Nat.succ_mul, List.length_append]
      refine ⟨by omega, by omega, by simp only [List.length_cons, List.length_nil]; omega, by omega⟩
end Z103
namespace Z104
def F (x0 : List (List L)) : ay := (cond x0.isEmpty (either (ret ([] : List (List L))) ((bJ (dU ((x0.length : Int) * 8)) (ret (x0 : List (List L)))))) (bJ (dU ((x0.length : Int) * 8)) (ret (x0 : List (List L)))))
def md (a0 : List Int) : List Int := a0
def gd (a0 : List Int) : Prop := bw (2 ^ 38) (fun y : Int => True) a0
def R := RR gd md
theorem ai {a0} (h : gd a0) : R (a0.map aP) = some (a0.map aP) := aE (a := a0) h
def aK := CN [pL 3] (oL 3) RT.dec R
theorem okF (a0) (hg : gd a0) : F (a0.map aP) = ret ((md a0).map aP) := by
 have H0 := hg.1
 unfold F md
 have hl : dU (((a0.map aP).length : Int) * 8) = true := iD (by simp only [List.length_map]; omega)
 simp only [hl, cond_true]
 cases a0 with
 | nil => exact jo
 | cons x xs => rfl
theorem ab : Valid Tryz.prog Ev 266 aK := W1 8 F mix au okF .nil Tryz.func266
end Z104
namespace Z105
def F (x0 : aO) : ay := (call (Z104.R x0.aF) fun v1 => ret ((⟨v1, x0.bH⟩ : aO) : aO))
def md (a0 : aw) : aw := a0
def gd (a0 : aw) : Prop := (aw.Sm (2 ^ 21) a0)
def R := RR gd md
theorem ai {a0} (h : gd a0) : R (aw.r a0) = some (aw.r a0) := aE (a := a0) h
def aK := CN [.agg gz] (.agg f123) RT.dec R
theorem okF (a0) (hg : gd a0) : F (aw.r a0) = ret (aw.r (md a0)) := by
 unfold gd at hg
 have H0 := hg
 unfold F md
 try simp only [SS]
 refine ct (Z104.ai (H0.mono (by decide) (fun x hx => trivial))) ?_
 try simp only [SS]
 all_goals exact fz
theorem ab : Valid Tryz.prog Ev 308 aK := W1 9 F mix au okF (.cons Z104.ab .nil) Tryz.func308
end Z105
namespace Z106
def F (x0 : bq) : ay := (call (Z105.R x0.bh) fun v1 => (call (Z105.R x0.aQ) fun v2 => (call (Z105.R x0.aM) fun v3 => ret ((⟨x0.aT, x0.bN, x0.bg, x0.bL, x0.bF, x0.bG, x0.cj, x0.cB, v1, v2, x0.cf, v3, x0.aS⟩ : bq) : bq))))
def md (a0 : aq) : aq := a0
def gd (a0 : aq) : Prop := (aq.Sm (2 ^ 21) a0)
def R := RR gd md
theorem ai {a0} (h : gd a0) : R (aq.r a0) = some (aq.r a0) := aE (a := a0) h
def aK := CN [.agg eA] (.agg f125) RT.dec R
theorem okF (a0) (hg : gd a0) : F (aq.r a0) = ret (aq.r (md a0)) := by
 unfold gd at hg
 have H0 := hg
 unfold F md
 try simp only [SS]
 refine ct (Z105.ai H0.1) ?_
 try simp only [SS]
 refine ct (Z105.ai H0.2.1) ?_
 try simp only [SS]
 refine ct (Z105.ai H0.2.2) ?_
 try simp only [SS]
 all_goals exact fz
theorem ab : Valid Tryz.prog Ev 264 aK := W1 16 F mix au okF (.cons Z105.ab .nil) Tryz.func264
end Z106
namespace Z107
def F (x0 : List (List L)) : ay := (cond x0.isEmpty (either (ret ([] : List (List L))) ((bJ (dU ((x0.length : Int) * 16)) (ret (x0 : List (List L)))))) (bJ (dU ((x0.length : Int) * 16)) (ret (x0 : List (List L)))))
def md (a0 : List aJ) : List aJ := a0
def gd (a0 : List aJ) : Prop := bw (2 ^ 21) (fun y : aJ => aJ.Sm (2 ^ 21) y) a0
def R := RR gd md
theorem ai {a0} (h : gd a0) : R (a0.map aJ.row) = some (a0.map aJ.row) := aE (a := a0) h
def aK := CN [pL 264] (oL 264) RT.dec R
theorem okF (a0) (hg : gd a0) : F (a0.map aJ.row) = ret ((md a0).map aJ.row) := by
 have H0 := hg.1
 unfold F md
 have hl : dU (((a0.map aJ.row).length : Int) * 16) = true := iD (by simp only [List.length_map]; omega)
 simp only [hl, cond_true]
 cases a0 with
 | nil => exact jo
 | cons x xs => rfl
theorem ab : Valid Tryz.prog Ev 265 aK := W1 8 F mix au okF .nil Tryz.func265
end Z107
namespace Z108
def F (x0 : aC) : ay := (call (Z106.R x0.ae) fun v1 => (call (Z107.R x0.bC) fun v2 => ret ((⟨v1, v2⟩ : aC) : aC)))
def md (a0 : aa) : aa := a0
def gd (a0 : aa) : Prop := (aa.Sm (2 ^ 21) a0)
def R := RR gd md
theorem ai {a0} (h : gd a0) : R (aa.r a0) = some (aa.r a0) := aE (a := a0) h
def aK := CN [.agg iR] (.agg f202) RT.dec R
theorem okF (a0) (hg : gd a0) : F (aa.r a0) = ret (aa.r (md a0)) := by
 unfold gd at hg
 have H0 := hg
 unfold F md
 try simp only [SS]
 refine ct (Z106.ai H0.1) ?_
 try simp only [SS]
 refine ct (Z107.ai H0.2) ?_
 try simp only [SS]
 all_goals exact fz
theorem ab : Valid Tryz.prog Ev 212 aK := W1 10 F mix au okF (.cons Z106.ab (.cons Z107.ab .nil)) Tryz.func212
end Z108
namespace Z109
inductive Pt where
 | p0 (a : List (List L)) (b : Int) (c : Int) (d : List (List L))
def pid : Pt → Nat
 | .p0 .. => 3
def bR : Pt → List V
 | .p0 a b c d => [.own 0, .sl none 202 a, .int .i64 b, .int .i64 c]
def bQ : Pt → List aI
 | .p0 a b c d => [.row 202 d]
def step (J : Pt → ay) : Pt → ay
 | .p0 a b c d => (cond (decide (c < b)) (m2 c (a.length : Int) (call (Z108.R (aC.at a (Int.toNat c))) fun v1 => (bJ (dU (((d.length : Int) + 1) * 200)) (J (.p0 a b (i64.wrap (c + 1)) (d ++ [(aC.enc v1)])))))) (ret (d : List (List L))))
def start (J : Pt → ay) (x0 : List (List L)) : ay := J (.p0 x0 (x0.length : Int) 0 [])
def live : Nat → Live := fun i => match i with | 3 => [(3, some 202), (7, none), (8, none), (9, none)] | _ => []
def md (a0 : List aa) : List aa := a0
def gd (a0 : List aa) : Prop := (bw (2 ^ 21) (fun y : aa => aa.Sm (2 ^ 21) y) a0)
def R := RR gd md
theorem ai {a0} (h : gd a0) : R (a0.map aa.row) = some (a0.map aa.row) := aE (a := a0) h
def aK := CN [pL 202] (oL 202) RT.dec R
theorem okF (a0) (hg : gd a0) : ∃ n, start (iter step n) (a0.map aa.row) = ret ((md a0).map aa.row) := by
  unfold gd at hg
  have H0 := hg
  unfold start md
  try simp only [SS]
  have Bh2 : a0.length ≤ maxLen := (by
      have := (H0).1
      try simp only [maxLen] at *
      omega)
  refine dV (out := (fun b : List aa => ret ((b.map aa.row) : List (List L)))) (fV (xs := a0) (z := aa.zero) (t := fun s3 : List aa => s3)) ?_
  refine dk (p := Pt.p0 (a0.map aa.row) (a0.length : Int) 0 ([].map aa.row)) fz ?_
  refine bP (pt := fun (i1 : Nat) (s3 : List aa) => Pt.p0 (a0.map aa.row) (a0.length : Int) (i1 : Int) (s3.map aa.row)) (s := ([] : List aa)) (out := (fun b : List aa => ret ((b.map aa.row) : List (List L)))) (fun (i1 : Nat) (s3 : List aa) => s3.length ≤ ([] : List Int).length + 1 * i1) (fun J i1 s3 h2 hih2 => ?_) (fun s3 hih2 => ?_) (by simp)
  · simp only [step, SS]
    have gr_ := hih2
    try simp only [LN] at gr_
    have bb_ := Bh2
    simp only [maxLen] at bb_
    have := (H0).1
    refine aY.yes (by apply decide_eq_true; omega) ?_
    refine aY.yes ax ?_
    refine aY.yes (aD h2) ?_
    refine cr (Z108.ai (bw.getD (z := aa.zero) H0 h2)) ?_
    try simp only [SS]
    refine aY.yes lm ?_
    refine aY.inl (by
        have g_ := hih2
        try simp only [LN] at g_ ⊢
        first | omega | (simp; done) | (simp; omega)) ?_
    rw [az h2 Bh2]
    all_goals exact fz
  · simp only [step, SS]
    have gr_ := hih2
    try simp only [LN] at gr_
    have := (H0).1
    refine dh (by apply decide_eq_false; omega) ?_
    refine ⟨0, ?_⟩
    all_goals exact fz
theorem ab : Valid Tryz.prog Ev 166 aK := L1 20 pid bR bQ live step start mix au okF (.cons Z108.ab .nil) Tryz.func166
end Z109
namespace Z110
def F (x0 : aZ) : ay := (call (Z108.R x0.av) fun v1 => (call (Z108.R x0.fA) fun v2 => (call (Z108.R x0.fB) fun v3 => ret ((⟨v1, v2, v3⟩ : aZ) : aZ))))
def md (a0 : ao) : ao := a0
def gd (a0 : ao) : Prop := (ao.Sm (2 ^ 21) a0)
def R := RR gd md
theorem ai {a0} (h : gd a0) : R (ao.r a0) = some (ao.r a0) := aE (a := a0) h
def aK := CN [.agg pN] (.agg f204) RT.dec R
theorem okF (a0) (hg : gd a0) : F (ao.r a0) = ret (ao.r (md a0)) := by
 unfold gd at hg
 have H0 := hg
 unfold F md
 try simp only [SS]
 refine ct (Z108.ai H0.1) ?_
 try simp only [SS]
 refine ct (Z108.ai H0.2.1) ?_
 try simp only [SS]
 refine ct (Z108.ai H0.2.2) ?_
 try simp only [SS]
 all_goals exact fz
theorem ab : Valid Tryz.prog Ev 167 aK := W1 13 F mix au okF (.cons Z108.ab .nil) Tryz.func167
end Z110
namespace Z111
inductive Pt where
 | p0 (a : List (List L)) (b : Int) (c : Int) (d : aW) (e : List (List L))
 | p1 (a : List (List L)) (b : Int) (c : Int) (d : List (List L)) (e : List (List L))
def pid : Pt → Nat
 | .p0 .. => 3
 | .p1 .. => 8
def bR : Pt → List V
 | .p0 a b c d e => [.cC 0 0, .cC 1 0, .cC 2 0, .sl none 116 a, .int .i64 b, .int .i64 c, .cC 2 0]
 | .p1 a b c d e => [.cC 0 0, .cC 1 0, .sl none 204 a, .int .i64 b, .int .i64 c, .cC 1 0, .cC 1 0]
def bQ : Pt → List aI
 | .p0 a b c d e => [.box [.sl none 116 d.aA, .sl none 204 d.aR], .box [.nil, .nil], .box [.own 3, .nil], .row 116 e]
 | .p1 a b c d e => [.box [.nil, .nil], .box [.own 2, .own 3], .row 116 d, .row 204 e]
def step (J : Pt → ay) : Pt → ay
 | .p0 a b c d e => (cond (decide (c < b)) (m2 c (a.length : Int) (call (Z109.R (lA a (Int.toNat c))) fun v1 => (bJ (dU (((e.length : Int) + 1) * 24)) (J (.p0 a b (i64.wrap (c + 1)) d (e ++ [[L.sl v1]])))))) (J (.p1 d.aR (d.aR.length : Int) 0 e [])))
 | .p1 a b c d e => (cond (decide (c < b)) (m2 c (a.length : Int) (call (Z110.R (aZ.at a (Int.toNat c))) fun v1 => (bJ (dU (((e.length : Int) + 1) * 600)) (J (.p1 a b (i64.wrap (c + 1)) d (e ++ [(aZ.enc v1)])))))) (ret ((⟨d, e⟩ : aW) : aW)))
def start (J : Pt → ay) (x0 : aW) : ay := J (.p0 x0.aA (x0.aA.length : Int) 0 x0 [])
def live : Nat → Live := fun i => match i with | 3 => [(1, none), (2, none), (3, none), (10, none), (11, none), (12, none), (3, some 116)] | 8 => [(2, none), (3, none), (25, none), (26, none), (27, none), (3, some 116), (3, some 1048780)] | _ => []
def md (a0 : ah) : ah := a0
def gd (a0 : ah) : Prop := (ah.Sm (2 ^ 21) a0)
def R := RR gd md
theorem ai {a0} (h : gd a0) : R (ah.r a0) = some (ah.r a0) := aE (a := a0) h
def aK := CN [.agg rh] (.agg f32) RT.dec R
theorem okF (a0) (hg : gd a0) : ∃ n, start (iter step n) (ah.r a0) = ret (ah.r (md a0)) := by
  unfold gd at hg
  have H0 := hg
  unfold start md
  try simp only [SS]
  have Bh2 : a0.aA.length ≤ maxLen := (by
      have := (H0.1).1
      try simp only [maxLen] at *
      omega)
  refine dV (out := (fun b : ah => ret ((ah.r b) : aW))) (fV (xs := a0.aA) (z := []) (t := fun s3 : List (List aa) => (⟨s3, a0.aR⟩ : ah))) ?_
  refine dk (p := Pt.p0 (a0.aA.map (cM aa.row)) (a0.aA.length : Int) 0 (ah.r a0) ([].map (cM aa.row))) fz ?_
  refine bP (pt := fun (i1 : Nat) (s3 : List (List aa)) => Pt.p0 (a0.aA.map (cM aa.row)) (a0.aA.length : Int) (i1 : Int) (ah.r a0) (s3.map (cM aa.row))) (s := ([] : List (List aa))) (out := (fun b : ah => ret ((ah.r b) : aW))) (fun (i1 : Nat) (s3 : List (List aa)) => s3.length ≤ ([] : List Int).length + 1 * i1) (fun J i1 s3 h2 hih2 => ?_) (fun s3 hih2 => ?_) (by simp)
  · simp only [step, SS]
    have gr_ := hih2
    try simp only [LN] at gr_
    have bb_ := Bh2
    simp only [maxLen] at bb_
    have := (H0.1).1
    refine aY.yes (by apply decide_eq_true; omega) ?_
    refine aY.yes ax ?_
    refine aY.yes (aD h2) ?_
    refine cr (Z109.ai (bw.getD (z := []) H0.1 h2)) ?_
    try simp only [SS]
    refine aY.yes lm ?_
    refine aY.inl (by
        have g_ := hih2
        try simp only [LN] at g_ ⊢
        first | omega | (simp; done) | (simp; omega)) ?_
    rw [az h2 Bh2]
    all_goals exact fz
  · simp only [step, SS]
    have gr_ := hih2
    try simp only [LN] at gr_
    have := (H0.1).1
    refine dh (by apply decide_eq_false; omega) ?_
    have Bh5 : a0.aR.length ≤ maxLen := (by
        have := (H0.2).1
        try simp only [maxLen] at *
        omega)
    refine dV (out := (fun b : ah => ret ((ah.r b) : aW))) (fV (xs := a0.aR) (z := ao.zero) (t := fun s6 : List ao => (⟨s3, s6⟩ : ah))) ?_
    refine dk (p := Pt.p1 (a0.aR.map ao.row) (a0.aR.length : Int) 0 (s3.map (cM aa.row)) ([].map ao.row)) fz ?_
    refine bP (pt := fun (i4 : Nat) (s6 : List ao) => Pt.p1 (a0.aR.map ao.row) (a0.aR.length : Int) (i4 : Int) (s3.map (cM aa.row)) (s6.map ao.row)) (s := ([] : List ao)) (out := (fun b : ah => ret ((ah.r b) : aW))) (fun (i4 : Nat) (s6 : List ao) => s6.length ≤ ([] : List Int).length + 1 * i4) (fun J i4 s6 h5 hih5 => ?_) (fun s6 hih5 => ?_) (by simp)
    · simp only [step, SS]
      have gr_ := hih5
      try simp only [LN] at gr_
      have bb_ := Bh5
      simp only [maxLen] at bb_
      have := (H0.2).1
      refine aY.yes (by apply decide_eq_true; omega) ?_
      refine aY.yes ax ?_
      refine aY.yes (aD h5) ?_
      refine cr (Z110.ai (bw.getD (z := ao.zero) H0.2 h5)) ?_
      try simp only [SS]
      refine aY.yes lm ?_
      refine aY.inl (by
          have g_ := hih5
          try simp only [LN] at g_ ⊢
          first | omega | (simp; done) | (simp; omega)) ?_
      rw [az h5 Bh5]
      all_goals exact fz
    · simp only [step, SS]
      have gr_ := hih5
      try simp only [LN] at gr_
      have := (H0.2).1
      refine dh (by apply decide_eq_false; omega) ?_
      refine ⟨0, ?_⟩
      all_goals exact fz
theorem ab : Valid Tryz.prog Ev 107 aK := L1 40 pid bR bQ live step start mix au okF (.cons Z109.ab (.cons Z110.ab .nil)) Tryz.func107
end Z111
namespace Z112
def F (x0 : Int) (x1 : Int) (x2 : Int) : ay := (cond (decide (x1 ≤ x0)) (ret ((decide (x0 ≤ x2)) : Bool)) (ret (false : Bool)))
def md (a0 : Int) (a1 : Int) (a2 : Int) : Bool := (cond (decide (a1 ≤ a0)) ((decide (a0 ≤ a2)) : Bool) (false : Bool))
def gd (a0 : Int) (a1 : Int) (a2 : Int) : Prop := True
def R := RR (p3 gd) (u3 md)
theorem ai {a0 a1 a2} (h : gd a0 a1 a2) : R (a0, a1, a2) = some (md a0 a1 a2) := aE (a := (a0, a1, a2)) h
def aK := CN [pI, pI, pI] oB RT.dec R
theorem okF (a0) (a1) (a2) (hg : gd a0 a1 a2) : F a0 a1 a2 = ret (md a0 a1 a2) := by
 unfold F md
 try simp only [SS]
 refine ak ret (fun c1 => ?_) (fun _ => rfl)
 all_goals exact fz
theorem ab : Valid Tryz.prog Ev 196 aK := W3 15 F mix au okF .nil Tryz.func196
theorem br (a0 : Int) (a1 : Int) (a2 : Int) : md a0 a1 a2 = Z39.md a0 a1 a2 := by
 unfold md Z39.md
 first | rfl | (rw [Bool.eq_iff_iff]; simp)
end Z112
namespace Z113
def F (x0 : Int) : ay := (call (Z112.R (x0, 0, 2147483646)) fun v1 => ret (v1 : Bool))
def md (a0 : Int) : Bool := ((Z112.md a0 0 2147483646) : Bool)
def gd (a0 : Int) : Prop := True
def R := RR gd md
theorem ai {a0} (h : gd a0) : R a0 = some (md a0) := aE (a := a0) h
def aK := CN [pI] oB RT.dec R
theorem okF (a0) (hg : gd a0) : F a0 = ret (md a0) := by
 unfold F md
 try simp only [SS]
 refine ct (Z112.ai trivial) ?_
 all_goals exact fz
theorem ab : Valid Tryz.prog Ev 340 aK := W1 5 F mix au okF (.cons Z112.ab .nil) Tryz.func340
end Z113
namespace Z114
def F (x0 : bq) : ay := (cond (decide (x0.bL ≥ 0)) (cond (decide (x0.bL ≤ x0.bF)) (cond (decide (x0.bF ≤ 100000)) (ret ((decide ((i64.wrap (x0.bF - x0.bL)) ≤ 200)) : Bool)) (ret (false : Bool))) (ret (false : Bool))) (ret (false : Bool)))
def md (a0 : aq) : Bool := (cond (decide (a0.bL ≥ 0)) (cond (decide (a0.bL ≤ a0.bF)) (cond (decide (a0.bF ≤ 100000)) ((decide ((i64.wrap (a0.bF - a0.bL)) ≤ 200)) : Bool) (false : Bool)) (false : Bool)) (false : Bool))
def gd (a0 : aq) : Prop := True
def R := RR gd md
theorem ai {a0} (h : gd a0) : R (aq.r a0) = some (md a0) := aE (a := a0) h
def aK := CN [.agg eA] oB RT.dec R
theorem okF (a0) (hg : gd a0) : F (aq.r a0) = ret (md a0) := by
 unfold F md
 try simp only [SS]
 refine ak ret (fun c1 => ?_) (fun _ => rfl)
 refine ak ret (fun c2 => ?_) (fun _ => rfl)
 refine ak ret (fun c3 => ?_) (fun _ => rfl)
 all_goals exact fz
theorem ab : Valid Tryz.prog Ev 349 aK := W1 26 F mix au okF .nil Tryz.func349
end Z114
namespace Z115
inductive Pt where
 | p0 (a : List (List L)) (b : Int) (c : Int)
def pid : Pt → Nat
 | .p0 .. => 2
def bR : Pt → List V
 | .p0 a b c => [.sl none 3 a, .int .i64 b, .int .i64 c]
def bQ : Pt → List aI
 | .p0 a b c => []
def step (J : Pt → ay) : Pt → ay
 | .p0 a b c => (cond (decide (c < b)) (cond (decide (c > 0)) (m2 c (a.length : Int) (bJ (decide ((0 : Int) ≤ (i64.wrap (c - 1)))) (bJ (decide ((i64.wrap (c - 1)) < (a.length : Int))) (cond (decide ((iu a (Int.toNat c)) ≤ (iu a (Int.toNat (i64.wrap (c - 1)))))) (ret (false : Bool)) (J (.p0 a b (i64.wrap (c + 1)))))))) (J (.p0 a b (i64.wrap (c + 1))))) (ret (true : Bool)))
def start (J : Pt → ay) (x0 : List (List L)) : ay := J (.p0 x0 (x0.length : Int) 0)
def live : Nat → Live := fun i => match i with | 2 => [(0, none), (5, none), (6, none)] | _ => []
def md (a0 : List Int) : Bool := (dy (S := Unit) (β := Bool) (fun (i1 : Nat) (y1 : Int) (s3 : Unit) => (cond (decide ((i1 : Int) > 0)) (cond (decide (y1 ≤ (a0.getD (Int.toNat (i64.wrap ((i1 : Int) - 1))) 0))) (.inr (false : Bool)) (.inl ())) (.inl ()))) (fun (s3 : Unit) => (true : Bool)) 0 a0 ())
def gd (a0 : List Int) : Prop := (bw (2 ^ 38) (fun y : Int => True) a0)
def R := RR gd md
theorem ai {a0} (h : gd a0) : R (a0.map aP) = some (md a0) := aE (a := a0) h
def aK := CN [pL 3] oB RT.dec R
theorem okF (a0) (hg : gd a0) : ∃ n, start (iter step n) (a0.map aP) = ret (md a0) := by
  unfold gd at hg
  have H0 := hg
  unfold start md
  try simp only [SS]
  have Bh2 : a0.length ≤ maxLen := (by
      have := (H0).1
      try simp only [maxLen] at *
      omega)
  refine dV (out := ret) (cV (z := 0)) ?_
  refine dk (p := Pt.p0 (a0.map aP) (a0.length : Int) 0) fz ?_
  refine bP (pt := fun (i1 : Nat) (s3 : Unit) => Pt.p0 (a0.map aP) (a0.length : Int) (i1 : Int)) (s := (() : Unit)) (out := ret) (fun _ _ => True) (fun J i1 s3 h2 hih2 => ?_) (fun s3 hih2 => ?_) trivial
  · simp only [step, SS]
    have bb_ := Bh2
    simp only [maxLen] at bb_
    have := (H0).1
    refine aY.yes (by apply decide_eq_true; omega) ?_
    refine aY.bif (fun c4 => ?_) (fun c4 => ?_)
    · have dc4 := c4
      try simp only [DC] at dc4
      refine aY.yes ax ?_
      refine aY.yes (aD h2) ?_
      refine aY.yes dt ?_
      refine aY.yes (have := (H0).1; dt) ?_
      refine aY.bif (fun _ => aY.inr rfl) (fun c5 => ?_)
      refine aY.inl trivial ?_
      rw [az h2 Bh2]
      all_goals exact fz
    · refine aY.inl trivial ?_
      rw [az h2 Bh2]
      all_goals exact fz
  · simp only [step, SS]
    have := (H0).1
    refine dh (by apply decide_eq_false; omega) ?_
    refine ⟨0, ?_⟩
    all_goals exact fz
theorem ab : Valid Tryz.prog Ev 367 aK := L1 24 pid bR bQ live step start mix au okF .nil Tryz.func367
end Z115
namespace Z116
def F (x0 : Int) : ay := (call (Z112.R (x0, 1, 99)) fun v1 => ret (v1 : Bool))
def md (a0 : Int) : Bool := ((Z112.md a0 1 99) : Bool)
def gd (a0 : Int) : Prop := True
def R := RR gd md
theorem ai {a0} (h : gd a0) : R a0 = some (md a0) := aE (a := a0) h
def aK := CN [pI] oB RT.dec R
theorem okF (a0) (hg : gd a0) : F a0 = ret (md a0) := by
 unfold F md
 try simp only [SS]
 refine ct (Z112.ai trivial) ?_
 all_goals exact fz
theorem ab : Valid Tryz.prog Ev 368 aK := W1 5 F mix au okF (.cons Z112.ab .nil) Tryz.func368
end Z116
namespace Z117
def F (x0 : aO) : ay := (call (Z112.R ((x0.aF.length : Int), 1, 4)) fun v1 => (cond v1 (call (Z115.R x0.aF) fun v2 => (cond v2 (bJ (decide ((0 : Int) < (x0.aF.length : Int))) (call (Z116.R (iu x0.aF 0)) fun v3 => (cond v3 (bJ (decide ((0 : Int) ≤ (i64.wrap ((x0.aF.length : Int) - 1)))) (bJ (decide ((i64.wrap ((x0.aF.length : Int) - 1)) < (x0.aF.length : Int))) (call (Z116.R (iu x0.aF (Int.toNat (i64.wrap ((x0.aF.length : Int) - 1))))) fun v4 => (cond v4 (call (Z112.R (x0.bH, 1, (x0.aF.length : Int))) fun v5 => ret (v5 : Bool)) (ret (false : Bool)))))) (ret (false : Bool))))) (ret (false : Bool)))) (ret (false : Bool))))
def md (a0 : aw) : Bool := (cond (Z112.md (a0.aF.length : Int) 1 4) (cond (Z115.md a0.aF) (cond (Z116.md (a0.aF.getD 0 0)) (cond (Z116.md (a0.aF.getD (Int.toNat (i64.wrap ((a0.aF.length : Int) - 1))) 0)) ((Z112.md a0.bH 1 (a0.aF.length : Int)) : Bool) (false : Bool)) (false : Bool)) (false : Bool)) (false : Bool))
def gd (a0 : aw) : Prop := (aw.Sm (2 ^ 21) a0)
def R := RR gd md
theorem ai {a0} (h : gd a0) : R (aw.r a0) = some (md a0) := aE (a := a0) h
def aK := CN [.agg gz] oB RT.dec R
theorem okF (a0) (hg : gd a0) : F (aw.r a0) = ret (md a0) := by
 unfold gd at hg
 have H0 := hg
 unfold F md
 try simp only [SS]
 refine ct (Z112.ai trivial) ?_
 refine ak ret (fun c1 => ?_) (fun _ => rfl)
 have Dc1 := c1
 try simp [Z112.md] at Dc1
 refine ct (Z115.ai (H0.mono (by decide) (fun x hx => trivial))) ?_
 refine ak ret (fun c2 => ?_) (fun _ => rfl)
 refine af (have := (H0).1; dt) ?_
 refine ct (Z116.ai trivial) ?_
 refine ak ret (fun c3 => ?_) (fun _ => rfl)
 refine af (have := (H0).1; dt) ?_
 refine af (have := (H0).1; dt) ?_
 refine ct (Z116.ai trivial) ?_
 refine ak ret (fun c4 => ?_) (fun _ => rfl)
 refine ct (Z112.ai trivial) ?_
 all_goals exact fz
theorem ab : Valid Tryz.prog Ev 350 aK := W1 38 F mix au okF (.cons Z112.ab (.cons Z115.ab (.cons Z116.ab .nil))) Tryz.func350
-- uses Z40
theorem xt {l : List Int} (h : ∀ i : Nat, i < l.length → 0 < i → l.getD (i - 1) 0 < l.getD i 0) : ∀ (k i : Nat), i + k < l.length → l.getD i 0 ≤ l.getD (i + k) 0
 | 0, i, _ => Int.le_refl _
 | k + 1, i, hi => by
  have h1 := xt h k i (by omega)
  have h2 := h (i + (k + 1)) hi (by omega)
  rw [show i + (k + 1) - 1 = i + k by omega] at h2
  omega
theorem br (a0 : aw) : md a0 = Z40.md a0 := by
  unfold md Z40.md Z115.md
  simp only [Z112.br, Z116.md]
  by_cases hl : 1 ≤ a0.aF.length ∧ a0.aF.length ≤ 4
  · have e1 : Z39.md (a0.aF.length : Int) 1 4 = true := by simp [Z39.md]; omega
    rw [e1]
    have wp : ∀ i : Nat, 0 < i → i ≤ 4 → Int.toNat (i64.wrap ((i : Int) - 1)) = i - 1 := fun i h1 h2 => by
      rw [Go.IntWalk.i64_in _ (by omega)]; omega
    rw [wp _ (by omega) (by omega)]
    generalize a0.bH = n
    generalize a0.aF = l at *
    have i1 : ∀ x a b : Int, Z39.md x a b = true ↔ a ≤ x ∧ x ≤ b := fun x a b => by simp [Z39.md]
    have i2 : ∀ x a b : Int, Z39.md x a b = false ↔ ¬ (a ≤ x ∧ x ≤ b) := fun x a b => by rw [← i1]; simp
    have w2 : ∀ i : Nat, i < l.length → 0 < i → Int.toNat (i64.wrap ((i : Int) - 1)) = i - 1 := fun i h1 h2 => wp i h2 (by omega)
    rw [Bool.eq_iff_iff, ← cV (z := 0), ← cV (z := 0)]
    have e3 : ∀ a b c d : Bool, (cond true (cond a (cond b (cond c d false) false) false) false) = true ↔ a = true ∧ b = true ∧ c = true ∧ d = true := by
      intro a b c d; cases a <;> cases b <;> cases c <;> simp
    have pos : ∀ i : Nat, 0 < i → decide ((i : Int) > 0) = true := fun i h => by simpa using h
    have npos : ∀ i : Nat, ¬ 0 < i → decide ((i : Int) > 0) = false := fun i h => by simpa using h
    rw [e3]
    rw [gP (fun i => 0 < i → l.getD (i - 1) 0 < l.getD i 0) (fun i hi h => ?_) (fun i hi h => ?_), gP (fun i => (1 ≤ l.getD i 0 ∧ l.getD i 0 ≤ 99) ∧ (0 < i → l.getD (i - 1) 0 < l.getD i 0)) (fun i hi h => ?_) (fun i hi h => ?_)]
    · simp only [i1, and_true, cond_true]
      constructor
      · rintro ⟨h1, ⟨h2, h3⟩, ⟨h4, h5⟩, h6⟩
        refine ⟨fun i hi => ⟨⟨?_, ?_⟩, h1 i hi⟩, h6⟩
        · have := xt h1 i 0 (by omega)
          rw [Nat.zero_add] at this; omega
        · have := xt h1 (l.length - 1 - i) i (by omega)
          rw [show i + (l.length - 1 - i) = l.length - 1 by omega] at this; omega
      · rintro ⟨h1, h6⟩
        exact ⟨fun i hi => (h1 i hi).2, (h1 0 (by omega)).1, (h1 (l.length - 1) (by omega)).1, h6⟩
    · have e2 := (i1 (l.getD i 0) 1 99).2 h.1
      rw [e2]
      by_cases h0 : 0 < i
      · have := h.2 h0
        rw [pos i h0, w2 i hi h0, decide_eq_false (by omega)]; rfl
      · rw [npos i h0]; rfl
    · by_cases h1 : 1 ≤ l.getD i 0 ∧ l.getD i 0 ≤ 99
      · have e2 := (i1 (l.getD i 0) 1 99).2 h1
        have h0 : 0 < i := Classical.byContradiction fun hc => h ⟨h1, fun h => (hc h).elim⟩
        have h2 : ¬ l.getD (i - 1) 0 < l.getD i 0 := fun hc => h ⟨h1, fun _ => hc⟩
        rw [e2, pos i h0, w2 i hi h0, decide_eq_true (by omega)]; rfl
      · rw [(i2 _ _ _).2 h1]; rfl
    · by_cases h0 : 0 < i
      · have := h h0
        rw [pos i h0, w2 i hi h0, decide_eq_false (by omega)]; rfl
      · rw [npos i h0]; rfl
    · have h0 : 0 < i := Classical.byContradiction fun hc => h fun h => (hc h).elim
      have h2 : ¬ l.getD (i - 1) 0 < l.getD i 0 := fun hc => h fun _ => hc
      rw [pos i h0, w2 i hi h0, decide_eq_true (by omega)]; rfl
  · have e1 : Z39.md (a0.aF.length : Int) 1 4 = false := by simp [Z39.md]; omega
    rw [e1]
    simp only [cond_false]
    symm
    exact jF (by
      intro i x s b h
      revert h
      simp only [Bool.cond_eq_ite]
      repeat' split
      all_goals (intro h; first | (cases h; rfl) | cases h)) _ _ _
end Z117
namespace Z118
def F (x0 : aO) : ay := (cond (x0.bH == 0) (ret (((x0.aF.length : Int) == 0) : Bool)) (ret (false : Bool)))
def md (a0 : aw) : Bool := (cond (a0.bH == 0) (((a0.aF.length : Int) == 0) : Bool) (false : Bool))
def gd (a0 : aw) : Prop := True
def R := RR gd md
theorem ai {a0} (h : gd a0) : R (aw.r a0) = some (md a0) := aE (a := a0) h
def aK := CN [.agg gz] oB RT.dec R
theorem okF (a0) (hg : gd a0) : F (aw.r a0) = ret (md a0) := by
 unfold F md
 try simp only [SS]
 refine ak ret (fun c1 => ?_) (fun _ => rfl)
 all_goals exact fz
theorem ab : Valid Tryz.prog Ev 353 aK := W1 12 F mix au okF .nil Tryz.func353
theorem br (a0 : aw) : md a0 = Z41.md a0 := by
 unfold md Z41.md
 first
 | (simp only [id]; done)
 | (simp only [id]; rfl)
 | rfl
end Z118
namespace Z119
def F (x0 : aO) : ay := (call (Z118.R x0) fun v1 => (cond v1 (ret (true : Bool)) (call (Z117.R x0) fun v2 => ret (v2 : Bool))))
def md (a0 : aw) : Bool := (cond (Z118.md a0) (true : Bool) ((Z117.md a0) : Bool))
def gd (a0 : aw) : Prop := (aw.Sm (2 ^ 21) a0)
def R := RR gd md
theorem ai {a0} (h : gd a0) : R (aw.r a0) = some (md a0) := aE (a := a0) h
def aK := CN [.agg gz] oB RT.dec R
theorem okF (a0) (hg : gd a0) : F (aw.r a0) = ret (md a0) := by
 unfold gd at hg
 have H0 := hg
 unfold F md
 try simp only [SS]
 refine ct (Z118.ai trivial) ?_
 refine ak ret (fun _ => rfl) (fun c1 => ?_)
 refine ct (Z117.ai H0) ?_
 all_goals exact fz
theorem ab : Valid Tryz.prog Ev 351 aK := W1 9 F mix au okF (.cons Z118.ab (.cons Z117.ab .nil)) Tryz.func351
end Z119
namespace Z120
def F (x0 : Int) (x1 : aO) : ay := (call (Z118.R x1) fun v1 => (cond v1 (ret ((x0 == 0) : Bool)) (call (Z112.R (x0, 1, 500)) fun v2 => ret (v2 : Bool))))
def md (a0 : Int) (a1 : aw) : Bool := (cond (Z118.md a1) ((a0 == 0) : Bool) ((Z112.md a0 1 500) : Bool))
def gd (a0 : Int) (a1 : aw) : Prop := True
def R := RR (p2 gd) (u2 md)
theorem ai {a0 a1} (h : gd a0 a1) : R (a0, (aw.r a1)) = some (md a0 a1) := aE (a := (a0, a1)) h
def aK := CN [pI, .agg gz] oB RT.dec R
theorem okF (a0) (a1) (hg : gd a0 a1) : F a0 (aw.r a1) = ret (md a0 a1) := by
  unfold F md
  try simp only [SS]
  refine ct (Z118.ai trivial) ?_
  refine ak ret (fun c1 => ?_) (fun c1 => ?_)
  · all_goals exact fz
  · refine ct (Z112.ai trivial) ?_
    all_goals exact fz
theorem ab : Valid Tryz.prog Ev 352 aK := W2 11 F mix au okF (.cons Z118.ab (.cons Z112.ab .nil)) Tryz.func352
end Z120
namespace Z121
def F (x0 : bq) : ay := (call (Z113.R x0.aT) fun v1 => (cond v1 (call (Z113.R x0.cj) fun v2 => (cond v2 (call (Z113.R x0.cB) fun v3 => (cond v3 (call (Z112.R (x0.bN, 0, 200)) fun v4 => (cond v4 (call (Z112.R (x0.bg, 1, 3)) fun v5 => (cond v5 (call (Z114.R x0) fun v6 => (cond v6 (call (Z112.R (x0.bG, 0, 12)) fun v7 => (cond v7 (call (Z117.R x0.bh) fun v8 => (cond v8 (call (Z119.R x0.aQ) fun v9 => (cond v9 (call (Z119.R x0.aM) fun v10 => (cond v10 (call (Z120.R (x0.cf, x0.aQ)) fun v11 => (cond v11 (cond x0.aS (call (Z118.R x0.aM) fun v12 => ret ((!v12) : Bool)) (ret (true : Bool))) (ret (false : Bool)))) (ret (false : Bool)))) (ret (false : Bool)))) (ret (false : Bool)))) (ret (false : Bool)))) (ret (false : Bool)))) (ret (false : Bool)))) (ret (false : Bool)))) (ret (false : Bool)))) (ret (false : Bool)))) (ret (false : Bool))))
def md (a0 : aq) : Bool := (cond (Z113.md a0.aT) (cond (Z113.md a0.cj) (cond (Z113.md a0.cB) (cond (Z112.md a0.bN 0 200) (cond (Z112.md a0.bg 1 3) (cond (Z114.md a0) (cond (Z112.md a0.bG 0 12) (cond (Z117.md a0.bh) (cond (Z119.md a0.aQ) (cond (Z119.md a0.aM) (cond (Z120.md a0.cf a0.aQ) (cond a0.aS ((!(Z118.md a0.aM)) : Bool) (true : Bool)) (false : Bool)) (false : Bool)) (false : Bool)) (false : Bool)) (false : Bool)) (false : Bool)) (false : Bool)) (false : Bool)) (false : Bool)) (false : Bool)) (false : Bool))
def gd (a0 : aq) : Prop := (aq.Sm (2 ^ 21) a0)
def R := RR gd md
theorem ai {a0} (h : gd a0) : R (aq.r a0) = some (md a0) := aE (a := a0) h
def aK := CN [.agg eA] oB RT.dec R
theorem okF (a0) (hg : gd a0) : F (aq.r a0) = ret (md a0) := by
 unfold gd at hg
 have H0 := hg
 unfold F md
 try simp only [SS]
 refine ct (Z113.ai trivial) ?_
 refine ak ret (fun c1 => ?_) (fun _ => rfl)
 refine ct (Z113.ai trivial) ?_
 refine ak ret (fun c2 => ?_) (fun _ => rfl)
 refine ct (Z113.ai trivial) ?_
 refine ak ret (fun c3 => ?_) (fun _ => rfl)
 refine ct (Z112.ai trivial) ?_
 refine ak ret (fun c4 => ?_) (fun _ => rfl)
 refine ct (Z112.ai trivial) ?_
 refine ak ret (fun c5 => ?_) (fun _ => rfl)
 refine ct (Z114.ai trivial) ?_
 refine ak ret (fun c6 => ?_) (fun _ => rfl)
 refine ct (Z112.ai trivial) ?_
 refine ak ret (fun c7 => ?_) (fun _ => rfl)
 refine ct (Z117.ai H0.1) ?_
 refine ak ret (fun c8 => ?_) (fun _ => rfl)
 refine ct (Z119.ai H0.2.1) ?_
 refine ak ret (fun c9 => ?_) (fun _ => rfl)
 refine ct (Z119.ai H0.2.2) ?_
 refine ak ret (fun c10 => ?_) (fun _ => rfl)
 refine ct (Z120.ai trivial) ?_
 refine ak ret (fun c11 => ?_) (fun _ => rfl)
 refine ak ret (fun c12 => ?_) (fun _ => rfl)
 refine ct (Z118.ai trivial) ?_
 all_goals exact fz
theorem ab : Valid Tryz.prog Ev 328 aK := W1 67 F mix au okF (.cons Z113.ab (.cons Z112.ab (.cons Z114.ab (.cons Z117.ab (.cons Z119.ab (.cons Z120.ab (.cons Z118.ab .nil))))))) Tryz.func328
theorem br (a0 : aq) : md a0 = Z42.md a0 := by
 unfold md Z42.md
 simp only [Z117.br, Z112.br, Z113.md, Z119.md, Z120.md, Z118.br]
 have hs : Z114.md a0 = (Z39.md a0.bL 0 100000 && (Z39.md a0.bF a0.bL 100000 && !decide ((i64.wrap (a0.bF - a0.bL)) > 200))) := by
  rw [Bool.eq_iff_iff]
  simp [Z114.md, Z39.md]
  omega
 have hk : Z40.md a0.aM = true → Z41.md a0.aM = false := fun h => by
  have := Z40.tr h
  have e : ((a0.aM.aF.length : Int) == 0) = false := beq_eq_false_iff_ne.2 (by omega)
  unfold Z41.md
  rw [e]
  cases a0.aM.bH == 0 <;> rfl
 rw [hs]
 revert hk
 simp only [wU, vF, Bool.and_assoc]
 generalize Z39.md a0.aT 0 2147483646 = b1
 generalize Z39.md a0.cj 0 2147483646 = b2
 generalize Z39.md a0.cB 0 2147483646 = b3
 generalize Z39.md a0.bN 0 200 = b4
 generalize Z39.md a0.bg 1 3 = b5
 generalize Z39.md a0.bL 0 100000 = b6
 generalize Z39.md a0.bF a0.bL 100000 = b7
 generalize decide ((i64.wrap (a0.bF - a0.bL)) > 200) = b8
 generalize Z39.md a0.bG 0 12 = b9
 generalize Z40.md a0.bh = b10
 generalize Z40.md a0.aQ = kh
 generalize Z41.md a0.aQ = nh
 generalize Z40.md a0.aM = kj
 generalize Z41.md a0.aM = nj
 generalize Z39.md a0.cf 1 500 = lw
 have hw : (a0.cf != 0) = !(a0.cf == 0) := rfl
 rw [hw]
 generalize (a0.cf == 0) = w0
 generalize a0.aS = fz
 intro hk
 cases b1; · rfl
 cases b2; · rfl
 cases b3; · rfl
 cases b4; · rfl
 cases b5; · rfl
 cases b6; · rfl
 cases b7; · rfl
 cases b8; rotate_left; · rfl
 cases b9; · rfl
 cases b10; · rfl
 revert hk
 revert kh nh kj nj lw w0 fz
 decide
end Z121
namespace Z122
def F (x0 : aO) : ay := (bJ (dU (((2 : Int) + (x0.aF.length : Int)) * 8)) (ret (([[L.int x0.bH], [L.int (x0.aF.length : Int)]] ++ x0.aF) : List (List L))))
def md (a0 : aw) : List Int := ([a0.bH, (a0.aF.length : Int)] ++ a0.aF)
def gd (a0 : aw) : Prop := (aw.Sm (2 ^ 21) a0)
def R := RR gd md
theorem ai {a0} (h : gd a0) : R (aw.r a0) = some ((md a0).map aP) := aE (a := a0) h
def aK := CN [.agg gz] (oL 3) RT.dec R
theorem okF (a0) (hg : gd a0) : F (aw.r a0) = ret ((md a0).map aP) := by
 unfold gd at hg
 have H0 := hg
 unfold F md
 try simp only [SS]
 refine af (have := (H0).1; lm) ?_
 all_goals exact fz
theorem ab : Valid Tryz.prog Ev 354 aK := W1 12 F mix au okF .nil Tryz.func354
theorem len (a0 : aw) : (md a0).length = 2 + a0.aF.length := by simp [md]; omega
theorem br (a0 : aw) : md a0 = Z43.md a0 := by
 unfold md Z43.md
 first
 | (simp only [id]; done)
 | (simp only [id]; rfl)
 | rfl
end Z122
namespace Z123
def F (x0 : Int) (x1 : Int) : ay := (call (Z112.R (x1, 1, 1000000000000)) fun v1 => (cond (!v1) (ret (0 : Int)) (cond (decide (x1 = 0)) none (cond (decide (x1 = 0)) none (ret ((Int.tmod (i64.wrap ((Int.tmod x0 x1) + x1)) x1) : Int))))))
def md (a0 : Int) (a1 : Int) : Int := (cond (!(Z112.md a1 1 1000000000000)) (0 : Int) ((Int.tmod (i64.wrap ((Int.tmod a0 a1) + a1)) a1) : Int))
def gd (a0 : Int) (a1 : Int) : Prop := True
def R := RR (p2 gd) (u2 md)
theorem ai {a0 a1} (h : gd a0 a1) : R (a0, a1) = some (md a0 a1) := aE (a := (a0, a1)) h
def aK := CN [pI, pI] oI RT.dec R
theorem okF (a0) (a1) (hg : gd a0 a1) : F a0 a1 = ret (md a0 a1) := by
 unfold F md
 try simp only [SS]
 refine ct (Z112.ai trivial) ?_
 refine ak ret (fun _ => rfl) (fun c1 => ?_)
 have dc1 := c1
 try simp only [DC] at dc1
 have Dc1 := c1
 try simp [Z112.md] at Dc1
 refine bZ df ?_
 refine bZ df ?_
 all_goals exact fz
theorem ab : Valid Tryz.prog Ev 363 aK := W2 15 F mix au okF (.cons Z112.ab .nil) Tryz.func363
theorem br (a0 : Int) (a1 : Int) : md a0 a1 = Z44.md a0 a1 := by
 unfold md Z44.md
 first
 | (simp only [Z112.br]; done)
 | (simp only [Z112.br]; rfl)
 | rfl
end Z123
namespace Z124
inductive Pt where
 | p0 (a : Int) (b : List (List L)) (c : Int) (d : Int)
def pid : Pt → Nat
 | .p0 .. => 3
def bR : Pt → List V
 | .p0 a b c d => [.int .i64 a, .sl none 3 b, .int .i64 c, .int .i64 d]
def bQ : Pt → List aI
 | .p0 a b c d => []
def step (J : Pt → ay) : Pt → ay
 | .p0 a b c d => (cond (decide (d < c)) (m2 d (b.length : Int) (call (Z123.R ((iu b (Int.toNat d)), 2147483647)) fun v1 => J (.p0 (Int.tmod (i64.wrap ((i64.wrap ((i64.wrap (a * 1000003)) + v1)) + 13)) 2147483647) b c (i64.wrap (d + 1))))) (ret (a : Int)))
def start (J : Pt → ay) (x0 : List (List L)) : ay := J (.p0 11 x0 (x0.length : Int) 0)
def live : Nat → Live := fun i => match i with | 3 => [(3, none), (6, none), (7, none), (8, none)] | _ => []
def md (a0 : List Int) : Int := (dG (S := Int) (β := Int) (fun (y1 : Int) (s3 : Int) => (.inl (Int.tmod (i64.wrap ((i64.wrap ((i64.wrap (s3 * 1000003)) + (Z123.md y1 2147483647))) + 13)) 2147483647))) (fun (s3 : Int) => (s3 : Int)) a0 11)
def gd (a0 : List Int) : Prop := (bw (2 ^ 43) (fun y : Int => True) a0)
def R := RR gd md
theorem ai {a0} (h : gd a0) : R (a0.map aP) = some (md a0) := aE (a := a0) h
def aK := CN [pL 3] oI RT.dec R
theorem okF (a0) (hg : gd a0) : ∃ n, start (iter step n) (a0.map aP) = ret (md a0) := by
  unfold gd at hg
  have H0 := hg
  unfold start md
  try simp only [SS]
  have Bh2 : a0.length ≤ maxLen := (by
      have := (H0).1
      try simp only [maxLen] at *
      omega)
  refine dV (out := ret) (dO (z := 0)) ?_
  refine dk (p := Pt.p0 11 (a0.map aP) (a0.length : Int) 0) fz ?_
  refine bP (pt := fun (i1 : Nat) (s3 : Int) => Pt.p0 s3 (a0.map aP) (a0.length : Int) (i1 : Int)) (s := (11 : Int)) (out := ret) (fun _ _ => True) (fun J i1 s3 h2 hih2 => ?_) (fun s3 hih2 => ?_) trivial
  · simp only [step, SS]
    have bb_ := Bh2
    simp only [maxLen] at bb_
    have := (H0).1
    refine aY.yes (by apply decide_eq_true; omega) ?_
    refine aY.yes ax ?_
    refine aY.yes (aD h2) ?_
    refine cr (Z123.ai trivial) ?_
    refine aY.inl trivial ?_
    rw [az h2 Bh2]
    all_goals exact fz
  · simp only [step, SS]
    have := (H0).1
    refine dh (by apply decide_eq_false; omega) ?_
    refine ⟨0, ?_⟩
    all_goals exact fz
theorem ab : Valid Tryz.prog Ev 338 aK := L1 21 pid bR bQ live step start mix au okF (.cons Z123.ab .nil) Tryz.func338
theorem br (a0 : List Int) : md a0 = Z45.md a0 := by
 unfold md Z45.md
 first
 | (simp only [Z123.br]; done)
 | (simp only [Z123.br]; rfl)
 | rfl
end Z124
namespace Z125
def F (x0 : aO) (x1 : Int) : ay := (call (Z122.R x0) fun v1 => (bJ (dU (((2 : Int) + (v1.length : Int)) * 8)) (call (Z124.R ([[L.int 239], [L.int x1]] ++ v1)) fun v2 => ret (v2 : Int))))
def md (a0 : aw) (a1 : Int) : Int := ((Z124.md ([239, a1] ++ (Z122.md a0))) : Int)
def gd (a0 : aw) (a1 : Int) : Prop := (aw.Sm (2 ^ 21) a0)
def R := RR (p2 gd) (u2 md)
theorem ai {a0 a1} (h : gd a0 a1) : R ((aw.r a0), a1) = some (md a0 a1) := aE (a := (a0, a1)) h
def aK := CN [.agg gz, pI] oI RT.dec R
theorem okF (a0) (a1) (hg : gd a0 a1) : F (aw.r a0) a1 = ret (md a0 a1) := by
 unfold gd at hg
 have H0 := hg
 unfold F md
 try simp only [SS]
 refine ct (Z122.ai H0) ?_
 try simp only [SS]
 refine af (have := Z122.len a0; have := (H0).1; lm) ?_
 refine aN (Z124.md ([239, a1] ++ (Z122.md a0))) (rq (Z124.ai (a0 := ([239, a1] ++ (Z122.md a0))) ⟨(have := Z122.len a0; have := (H0).1; om), fun _ _ => trivial⟩)) ?_
 all_goals exact fz
theorem ab : Valid Tryz.prog Ev 329 aK := W2 11 F mix au okF (.cons Z122.ab (.cons Z124.ab .nil)) Tryz.func329
theorem br (a0 : aw) (a1 : Int) : md a0 a1 = Z46.md a0 a1 := by
 unfold md Z46.md
 first
 | (simp only [Z122.br, Z124.br]; done)
 | (simp only [Z122.br, Z124.br]; rfl)
 | rfl
end Z125
namespace Z126
def F (x0 : Bool) : ay := (cond x0 (ret (1 : Int)) (ret (0 : Int)))
def md (a0 : Bool) : Int := (cond a0 (1 : Int) (0 : Int))
def gd (a0 : Bool) : Prop := True
def R := RR gd md
theorem ai {a0} (h : gd a0) : R a0 = some (md a0) := aE (a := a0) h
def aK := CN [pB] oI RT.dec R
theorem okF (a0) (hg : gd a0) : F a0 = ret (md a0) := by
 unfold F md
 try simp only [SS]
 refine ak ret (fun _ => rfl) (fun _ => rfl)
theorem ab : Valid Tryz.prog Ev 361 aK := W1 4 F mix au okF .nil Tryz.func361
end Z126
namespace Z127
set_option maxHeartbeats 1000000 in
set_option maxRecDepth 100000 in
open Go.RowKit in
theorem wg (b : Option Addr) (w : World) : Calls Tryz.prog 372 #[.slice b 0 0, .int .i64 0] w fun e w' => e = .returned (.slice b 0 0) ∧ w' = w := by
 go_enter Tryz.func372, Tryz.ntmps372
 go_wp2
 go_ret
 exact ⟨rfl, rfl⟩
theorem wy : Tryz.t3.size = 1 := by kernel_rfl
theorem tL : Tryz.t3.bytes = 8 := by kernel_rfl
set_option maxHeartbeats 1000000 in
set_option maxRecDepth 100000 in
open Go.RowKit in
theorem vN (b : Option Addr) (n : Nat) (w : World) (h0 : 0 < n) (h1 : n * 8 ≤ 140737488355328) : Calls Tryz.prog 372 #[.slice b 0 0, .int .i64 n] w fun e w' => e = .returned (.slice (some ⟨w.heap.size, 0, none⟩) 0 (grownCap w n 0 3)) ∧ w' = (w.drew.alloc (.cells (Builtin.zeroCells #[.int .i64 0] n ++ Builtin.zeroCells #[.int .i64 0] (grownCap w n 0 3 - n)) 3)) := by
 have hp : (0 : Int) < n := by omega
 have hnn : ¬ ((n : Int) < 0) := by omega
 have hold : (Builtin.firstCells Tryz.t3.size 0 (.slice b 0 0)).run Tryz.prog w.drew = .ok ([] : List Value).toArray w.drew := by
  cases b with
  | none => exact run_firstCells_none _ _ _ _ _
  | some b => exact run_firstCells_some _ _ _ _ _ _ [] (by simp) (fun j v hj => by simp at hj)
 have H := fun ty => Lib.run_append_grow_zeros (P := Tryz.prog) w 36 3 ty 3 Tryz.t3 (.int .i64 0) .i64 .i64 (by kernel_rfl) (by kernel_rfl) (by kernel_rfl) (by kernel_rfl) b 0 0 [] hold n h0 (by rw [wy]; omega) (by omega) (by omega) (by rw [tL]; omega) (by
  rw [Nat.zero_add, nextslicecap_zero h0, tL]; omega)
 simp only [Nat.zero_add, Array.empty_append] at H
 have H2 := Lib.hid H
 clear H hold
 go_enter Tryz.func372, Tryz.ntmps372
 go_wp2_with (at_builtin; refine Lib.wpList_append_run _ rfl _ _ _ _ rfl _ _ rfl rfl _ _ (H2.out _) ?_)
 go_ret
 exact ⟨rfl, rfl⟩
def R (x0 : Int) : Option (List (List L)) := bif decide (0 ≤ x0) && decide (x0 * 8 ≤ 140737488355328) then some [] else none
theorem ai {a0 : Int} (h : 0 ≤ a0 ∧ a0 * 8 ≤ 140737488355328) : R a0 = some [] := by simp [R, h.1, h.2]
def km : List L → Option (List L)
 | [y0] => (R y0.toInt).map RT.enc
 | _ => none
def aK : fe := ⟨[.nil, .rd (.int .i64)], .one (.fr 3), km⟩
theorem vV : Ev.cells 3 = [.int .i64] := by kernel_rfl
theorem ab : Valid Tryz.prog Ev 372 aK := by
  refine sX ⟨Tryz.f372, Tryz.func372, by kernel_rfl, by kernel_rfl⟩ rfl fun ls r w vs Z hs hf => ?_
  simp only [aK] at hs
  unfold km at hs
  split at hs
  · rename_i y
    obtain ⟨v, hv, hq⟩ := map_some hs
    unfold R at hv
    cases hc : (decide (0 ≤ y.toInt) && decide (y.toInt * 8 ≤ 140737488355328)) <;> simp only [hc, cond_true, cond_false] at hv
    · cases hv
    injection hv with hv
    subst hv
    subst hq
    simp only [Bool.and_eq_true, decide_eq_true_eq] at hc
    cases hf with
    | cons h1 ht =>
      cases ht with
      | cons h2 ht =>
        cases ht
        obtain ⟨b, rfl⟩ := (show V0 Ev.cells w (A0 Z w) .nil _ from h1)
        have e2 : _ = Value.int .i64 y.toInt := h2
        subst e2
        obtain ⟨n, hn⟩ : ∃ n : Nat, y.toInt = n := ⟨y.toInt.toNat, by omega⟩
        rw [hn] at hc ⊢
        rcases Nat.eq_zero_or_pos n with h0 | h0
        · subst h0
          exact (wg b w).mono fun e w' ⟨h3, h4⟩ => ⟨_, fun _ => False, h3, by rw [h4]; exact Fr.refl _ _, fun b hb => hb.elim, .nil _ _ _ _ rfl⟩
        · refine (vN b n w h0 (by omega)).mono fun e w' ⟨h3, h4⟩ => ⟨_, fun b => b = w.heap.size, h3, ?_, fun b hb => ?_, ?_⟩
          · rw [h4]; exact ((Fr.refl w _).drew).alloc _
          · subst hb; rw [h4]; simp
          · have hge := grownCap_ge w n 0 3
            have hle : grownCap w n 0 3 ≤ maxLen := grownCap_le_maxLen w n 0 3 (by simp only [maxLen]; omega)
            rw [h4]
            refine .sl _ 3 0 _ w.heap.size 3 _ _ (fun _ _ => Go.undef) (fun _ _ _ => False) rfl (Nat.zero_le _) hle (heap_alloc_new w.drew _) ?_ rfl (fun _ _ _ h => h.elim) (fun _ _ _ _ _ h => h.elim) (fun i j k hi => by omega) (fun i j k hi => by omega)
            rw [vV]
            simp only [Array.size_append, size_zeroCells, List.length_singleton]
            simp
            omega
  · cases hs
end Z127
namespace Z128
inductive Pt where
 | p0 (a : List (List L)) (b : Int) (c : List (List L)) (d : Int) (e : Int)
 | p1 (a : List (List L)) (b : Int) (c : Int) (d : List (List L))
def pid : Pt → Nat
 | .p0 .. => 3
 | .p1 .. => 11
def bR : Pt → List V
 | .p0 a b c d e => [.sl none 36 a, .int .i64 b, .sl none 36 c, .int .i64 d, .int .i64 e]
 | .p1 a b c d => [.own 0, .sl none 36 a, .int .i64 b, .int .i64 c]
def bQ : Pt → List aI
 | .p0 a b c d e => []
 | .p1 a b c d => [.row 3 d]
def step (J : Pt → ay) : Pt → ay
 | .p0 a b c d e => (cond (decide (e < d)) (m2 e (c.length : Int) (cond (decide ((i64.wrap (b + ((lA c (Int.toNat e)).length : Int))) < 0)) none (J (.p0 a (i64.wrap (b + ((lA c (Int.toNat e)).length : Int))) c d (i64.wrap (e + 1)))))) (call (Z127.R b) fun v1 => J (.p1 a (a.length : Int) 0 v1)))
 | .p1 a b c d => (cond (decide (c < b)) (m2 c (a.length : Int) (bJ (dU (((d.length : Int) + ((lA a (Int.toNat c)).length : Int)) * 8)) (J (.p1 a b (i64.wrap (c + 1)) (d ++ (lA a (Int.toNat c))))))) (ret (d : List (List L))))
def start (J : Pt → ay) (x0 : List (List L)) : ay := J (.p0 x0 0 x0 (x0.length : Int) 0)
def live : Nat → Live := fun i => match i with | 3 => [(0, none), (3, none), (9, none), (10, none), (11, none)] | 11 => [(6, none), (25, none), (26, none), (27, none)] | _ => []
def md (a0 : List (List Int)) : List Int := a0.flatten
def gd (a0 : List (List Int)) : Prop := a0.length ≤ 8 ∧ ∀ x ∈ a0, x.length ≤ 2 ^ 40
def R := RR gd md
theorem ai {a0} (h : gd a0) : R (a0.map (cM aP)) = some ((md a0).map aP) := aE (a := a0) h
def aK := CN [pL 36] (oL 3) RT.dec R
theorem okF (a0) (hg : gd a0) : ∃ n, start (iter step n) (a0.map (cM aP)) = ret ((md a0).map aP) := by
  obtain ⟨hl, hx⟩ := hg
  have hs : ∀ i, i ≤ a0.length → ((a0.take i).map List.length).sum ≤ i * 2 ^ 40 := by
    intro i
    induction i with
    | zero => intro _; simp
    | succ i ih =>
      intro hi
      rw [List.take_succ_eq_append_getElem (by omega)]
      have h1 := hx a0[i] (List.getElem_mem _)
      have h2 := ih (by omega)
      simp only [List.map_append, List.map_cons, List.map_nil, List.sum_append, List.sum_cons, List.sum_nil]
      omega
  have hstep : ∀ i (h : i < a0.length), ((a0.take (i + 1)).map List.length).sum = ((a0.take i).map List.length).sum + a0[i].length := by
    intro i hi
    rw [List.take_succ_eq_append_getElem (by omega)]
    simp only [List.map_append, List.map_cons, List.map_nil, List.sum_append, List.sum_cons, List.sum_nil]
    omega
  have hf : ∀ i, (a0.take i).flatten.length = ((a0.take i).map List.length).sum := fun i => List.length_flatten
  have second : ∀ k i, i + k = a0.length → ∃ n, iter step n (Pt.p1 (a0.map (cM aP)) (a0.length : Int) (i : Int) ((a0.take i).flatten.map aP)) = ret (a0.flatten.map aP : List (List L)) := by
    intro k
    induction k with
    | zero =>
      intro i hi
      obtain rfl : i = a0.length := by omega
      refine ⟨1, ?_⟩
      show step (iter step 0) (Pt.p1 _ _ _ _) = _
      simp only [step]
      refine bZ (by simp) ?_
      rw [List.take_length]
    | succ k ih =>
      intro i hi
      obtain ⟨n, hn⟩ := ih (i + 1) (by omega)
      refine ⟨n + 1, ?_⟩
      show step (iter step n) (Pt.p1 _ _ _ _) = _
      have hlt : i < a0.length := by omega
      have b1 := hs (i + 1) (by omega)
      have b2 := hstep i hlt
      simp only [step, List.length_map, cg, nq]
      refine af (by simp; omega) (af (by simp) (af (by simp; omega) (af (iD ?_) ?_)))
      · rw [dx hlt, hf]; omega
      · rw [az hlt (by simp only [maxLen]; omega), dx hlt, ← List.map_append]
        have e : (a0.take i).flatten ++ a0[i] = (a0.take (i + 1)).flatten := by
          rw [List.take_succ_eq_append_getElem (by omega)]
          simp only [List.flatten_append, List.flatten_cons, List.flatten_nil, List.append_nil]
        rw [e]; exact hn
  have first : ∀ k i, i + k = a0.length → ∃ n, iter step n (Pt.p0 (a0.map (cM aP)) ((((a0.take i).map List.length).sum : Nat) : Int) (a0.map (cM aP)) (a0.length : Int) (i : Int)) = ret (a0.flatten.map aP : List (List L)) := by
    intro k
    induction k with
    | zero =>
      intro i hi
      obtain rfl : i = a0.length := by omega
      obtain ⟨n, hn⟩ := second a0.length 0 (by omega)
      refine ⟨n + 1, ?_⟩
      show step (iter step n) (Pt.p0 _ _ _ _ _) = _
      have b1 := hs a0.length (by omega)
      simp only [step]
      refine bZ (by simp) (aN [] (Z127.ai ⟨by omega, by omega⟩) ?_)
      simpa using hn
    | succ k ih =>
      intro i hi
      obtain ⟨n, hn⟩ := ih (i + 1) (by omega)
      refine ⟨n + 1, ?_⟩
      show step (iter step n) (Pt.p0 _ _ _ _ _) = _
      have hlt : i < a0.length := by omega
      have b1 := hs (i + 1) (by omega)
      have b2 := hstep i hlt
      simp only [step, List.length_map, cg, nq, dx hlt]
      have e : i64.wrap (((((a0.take i).map List.length).sum : Nat) : Int) + (a0[i].length : Int)) = ((((a0.take (i + 1)).map List.length).sum : Nat) : Int) := by
        rw [Go.IntWalk.i64_in _ (by omega)]; omega
      rw [e]
      refine af (by simp; omega) (af (by simp) (af (by simp; omega) (bZ (by simp) ?_)))
      rw [az hlt (by simp only [maxLen]; omega)]
      exact hn
  unfold md
  obtain ⟨n, hn⟩ := first a0.length 0 (by omega)
  refine ⟨n, ?_⟩
  unfold start
  simpa using hn
theorem ab : Valid Tryz.prog Ev 360 aK := L1 36 pid bR bQ live step start mix au okF (.cons Z127.ab .nil) Tryz.func360
theorem len (a0 : List (List Int)) : (md a0).length = (a0.map List.length).sum := by simp [md]
end Z128
namespace Z129
def F (x0 : bq) : ay := (call (Z122.R x0.bh) fun v1 => (call (Z122.R x0.aQ) fun v2 => (call (Z122.R x0.aM) fun v3 => (call (Z126.R x0.aS) fun v4 => (call (Z128.R [[L.sl [[L.int x0.aT], [L.int x0.bN], [L.int x0.bg], [L.int x0.bL], [L.int x0.bF], [L.int x0.bG], [L.int x0.cj], [L.int x0.cB]]], [L.sl v1], [L.sl v2], [L.sl [[L.int x0.cf]]], [L.sl v3], [L.sl [[L.int v4]]]]) fun v5 => ret (v5 : List (List L)))))))
def md (a0 : aq) : List Int := (Z128.md [[a0.aT, a0.bN, a0.bg, a0.bL, a0.bF, a0.bG, a0.cj, a0.cB], (Z122.md a0.bh), (Z122.md a0.aQ), [a0.cf], (Z122.md a0.aM), [(Z126.md a0.aS)]])
def gd (a0 : aq) : Prop := (aq.Sm (2 ^ 21) a0)
def R := RR gd md
theorem ai {a0} (h : gd a0) : R (aq.r a0) = some ((md a0).map aP) := aE (a := a0) h
def aK := CN [.agg eA] (oL 3) RT.dec R
theorem okF (a0) (hg : gd a0) : F (aq.r a0) = ret ((md a0).map aP) := by
 unfold gd at hg
 have H0 := hg
 unfold F md
 try simp only [SS]
 refine ct (Z122.ai H0.1) ?_
 try simp only [SS]
 refine ct (Z122.ai H0.2.1) ?_
 try simp only [SS]
 refine ct (Z122.ai H0.2.2) ?_
 try simp only [SS]
 refine ct (Z126.ai trivial) ?_
 refine aN ((Z128.md [[a0.aT, a0.bN, a0.bg, a0.bL, a0.bF, a0.bG, a0.cj, a0.cB], (Z122.md a0.bh), (Z122.md a0.aQ), [a0.cf], (Z122.md a0.aM), [(Z126.md a0.aS)]]).map aP) (rq (Z128.ai (a0 := [[a0.aT, a0.bN, a0.bg, a0.bL, a0.bF, a0.bG, a0.cj, a0.cB], (Z122.md a0.bh), (Z122.md a0.aQ), [a0.cf], (Z122.md a0.aM), [(Z126.md a0.aS)]]) ⟨(by simp), (by
   have := Z122.len a0.bh
   have := (H0.1).1
   have := Z122.len a0.aQ
   have := (H0.2.1).1
   have := Z122.len a0.aM
   have := (H0.2.2).1
   intro x_ hx_
   simp only [List.mem_cons, List.not_mem_nil, or_false] at hx_
   rcases hx_ with hx_ | hx_ | hx_ | hx_ | hx_ | hx_
   all_goals (subst hx_; first | omega | (simp only [LN]; omega)))⟩)) ?_
 try simp only [SS]
 all_goals exact fz
theorem ab : Valid Tryz.prog Ev 334 aK := W1 38 F mix au okF (.cons Z122.ab (.cons Z126.ab (.cons Z128.ab .nil))) Tryz.func334
theorem len (a0 : aq) : (md a0).length = 16 + a0.bh.aF.length + a0.aQ.aF.length + a0.aM.aF.length := by unfold md; simp [Z128.md, Z122.len]; omega
theorem br (a0 : aq) : md a0 = Z47.md a0 := by
 rw [Z47.pF]
 unfold md Z128.md
 simp only [Z122.br, Z126.md, List.flatten_cons, List.flatten_nil, List.cons_append, List.nil_append, List.append_nil]
end Z129
namespace Z130
def F (x0 : Int) (x1 : List (List L)) : ay := (call (Z128.R [[L.sl [[L.int x0]]], [L.sl x1], [L.sl [[L.int x0]]]]) fun v1 => (call (Z124.R v1) fun v2 => ret (v2 : Int)))
def md (a0 : Int) (a1 : List Int) : Int := ((Z124.md (Z128.md [[a0], a1, [a0]])) : Int)
def gd (a0 : Int) (a1 : List Int) : Prop := (bw (2 ^ 40) (fun y : Int => True) a1)
def R := RR (p2 gd) (u2 md)
theorem ai {a0 a1} (h : gd a0 a1) : R (a0, (a1.map aP)) = some (md a0 a1) := aE (a := (a0, a1)) h
def aK := CN [pI, pL 3] oI RT.dec R
theorem okF (a0) (a1) (hg : gd a0 a1) : F a0 (a1.map aP) = ret (md a0 a1) := by
 unfold gd at hg
 have H1 := hg
 unfold F md
 try simp only [SS]
 refine aN ((Z128.md [[a0], a1, [a0]]).map aP) (rq (Z128.ai (a0 := [[a0], a1, [a0]]) ⟨(by simp), (by
   have := (H1).1
   intro x_ hx_
   simp only [List.mem_cons, List.not_mem_nil, or_false] at hx_
   rcases hx_ with hx_ | hx_ | hx_
   all_goals (subst hx_; first | omega | (simp only [LN]; omega)))⟩)) ?_
 try simp only [SS]
 refine ct (Z124.ai ⟨(by
   have := Z128.len [[a0], a1, [a0]]
   try simp only [LN] at this
   have := (H1).1
   exact om), fun _ _ => trivial⟩) ?_
 all_goals exact fz
theorem ab : Valid Tryz.prog Ev 381 aK := W2 13 F mix au okF (.cons Z128.ab (.cons Z124.ab .nil)) Tryz.func381
theorem br (a0 : Int) (a1 : List Int) : md a0 a1 = Z48.md a0 a1 := by
 unfold md Z48.md
 first
 | (simp only [Z124.br]; done)
 | (simp only [Z124.br]; rfl)
 | rfl
end Z130
namespace Z131
def F (x0 : Int) (x1 : List (List L)) : ay := (bJ (dU (((1 : Int) + (x1.length : Int)) * 8)) (call (Z130.R (x0, ([[L.int 223]] ++ x1))) fun v1 => ret (v1 : Int)))
def md (a0 : Int) (a1 : List Int) : Int := ((Z130.md a0 ([223] ++ a1)) : Int)
def gd (a0 : Int) (a1 : List Int) : Prop := (bw (2 ^ 39) (fun y : Int => True) a1)
def R := RR (p2 gd) (u2 md)
theorem ai {a0 a1} (h : gd a0 a1) : R (a0, (a1.map aP)) = some (md a0 a1) := aE (a := (a0, a1)) h
def aK := CN [pI, pL 3] oI RT.dec R
theorem okF (a0) (a1) (hg : gd a0 a1) : F a0 (a1.map aP) = ret (md a0 a1) := by
 unfold gd at hg
 have H1 := hg
 unfold F md
 try simp only [SS]
 refine af (have := (H1).1; lm) ?_
 refine aN (Z130.md a0 ([223] ++ a1)) (rq (Z130.ai (a0 := a0) (a1 := ([223] ++ a1)) ⟨(have := (H1).1; om), fun _ _ => trivial⟩)) ?_
 all_goals exact fz
theorem ab : Valid Tryz.prog Ev 380 aK := W2 10 F mix au okF (.cons Z130.ab .nil) Tryz.func380
theorem br (a0 : Int) (a1 : List Int) : md a0 a1 = Z49.md a0 a1 := by
 unfold md Z49.md
 first
 | (simp only [Z130.br]; done)
 | (simp only [Z130.br]; rfl)
 | rfl
end Z131
namespace Z132
def F (x0 : aJ) (x1 : List (List L)) : ay := (call (Z116.R x0.fq) fun v1 => (cond v1 (call (Z131.R (x0.fq, x1)) fun v2 => ret ((x0.gN == v2) : Bool)) (ret (false : Bool))))
def md (a0 : aJ) (a1 : List Int) : Bool := (cond (Z116.md a0.fq) ((a0.gN == (Z131.md a0.fq a1)) : Bool) (false : Bool))
def gd (a0 : aJ) (a1 : List Int) : Prop := (bw (2 ^ 38) (fun y : Int => True) a1)
def R := RR (p2 gd) (u2 md)
theorem ai {a0 a1} (h : gd a0 a1) : R (a0, (a1.map aP)) = some (md a0 a1) := aE (a := (a0, a1)) h
def aK := CN [.agg tT, pL 3] oB RT.dec R
theorem okF (a0) (a1) (hg : gd a0 a1) : F a0 (a1.map aP) = ret (md a0 a1) := by
 unfold gd at hg
 have H1 := hg
 unfold F md
 try simp only [SS]
 refine ct (Z116.ai trivial) ?_
 refine ak ret (fun c1 => ?_) (fun _ => rfl)
 refine ct (Z131.ai (H1.mono (by decide) (fun x hx => trivial))) ?_
 all_goals exact fz
theorem ab : Valid Tryz.prog Ev 378 aK := W2 17 F mix au okF (.cons Z116.ab (.cons Z131.ab .nil)) Tryz.func378
theorem br (a0 : aJ) (a1 : List Int) : md a0 a1 = Z50.md a0 a1 := by
 unfold md Z50.md
 first
 | (simp only [Z131.br]; done)
 | (simp only [Z131.br]; rfl)
 | rfl
end Z132
namespace Z133
def F (x0 : aJ) (x1 : List L) (x2 : List L) : ay := (cond (x0.fq == (gq x1)) (call (Z132.R (x0, (nT x2))) fun v1 => ret (v1 : Bool)) (ret (false : Bool)))
def bO : List fE := [.agg [.int .i64, .int .i64], .ptr [.int .i64], .ptr [.sl 3]]
def res : RP := .one (.rd (.bool))
def md (a0 : aJ) (a1 : Int) (a2 : List Int) : Bool := (cond (a0.fq == a1) ((Z132.md a0 a2) : Bool) (false : Bool))
def gd (a0 : aJ) (a1 : Int) (a2 : List Int) : Prop := (bw (2 ^ 38) (fun y : Int => True) a2)
def acc (ls : List L) : aJ × Int × List (List L) := ((aJ.dec ls), (gq (cO 1 (ar 2 ls))), (nT (cO 1 (ar 3 ls))))
def R : (aJ × Int × List (List L)) → Option Bool := RR (p3 gd) (u3 md)
theorem ai {a0 a1 a2} (h : gd a0 a1 a2) : R (a0, a1, (a2.map aP)) = some (md a0 a1 a2) := aE (a := (a0, a1, a2)) h
def aK : fe := CN bO res acc R
theorem okF (a0 : aJ) (a1 : Int) (a2 : List Int) (p1 : List L) (p2 : List L) (e1 : a1 = (gq p1)) (e2 : (a2.map aP) = (nT p2)) (hg : gd a0 a1 a2) : F a0 p1 p2 = ret ((md a0 a1 a2) : Bool) := by
 unfold gd at hg
 have H2 := hg
 unfold F md
 try simp only [SS, ← e1, ← e2]
 refine ak ret (fun c1 => ?_) (fun _ => rfl)
 refine ct (Z132.ai H2) ?_
 all_goals exact fz
theorem rG (ls : List L) (a : aJ × Int × List Int) (e : acc ls = Im.im a) (hg : (p3 gd) a) : ∃ n : Nat, F (aJ.dec ls) (cO 1 (ar 2 ls)) (cO 1 (ar 3 ls)) = ret (Im.im ((u3 md) a)) := by
 have e0 : a.1 = (aJ.dec ls) := (congrArg (fun x => x.1) e.symm)
 have hn := okF a.1 a.2.1 a.2.2 (cO 1 (ar 2 ls)) (cO 1 (ar 3 ls)) (congrArg (fun x => x.2.1) e.symm) (congrArg (fun x => x.2.2) e.symm) hg
 refine ⟨0, ?_⟩
 rw [← e0]
 exact hn
theorem ab : Valid Tryz.prog Ev 377 aK := VP (live := fun _ => []) (nt := 14) (accr := fun ls => ((aJ.dec ls), (cO 1 (ar 2 ls)), (cO 1 (ar 3 ls)))) (run := fun _ x => F x.1 x.2.1 x.2.2) mix au (.cons Z132.ab .nil) Tryz.func377 (by kernel_rfl) (fun _ _ => by kernel_rfl) (fun ls a _ e hg => rG ls a e hg)
end Z133
namespace Z134
inductive Pt where
 | p0 (a : List (List L)) (b : List L) (c : List L) (d : Int) (e : Int)
def pid : Pt → Nat
 | .p0 .. => 2
def bR : Pt → List V
 | .p0 a b c d e => [.sl none 264 a, .fn 377 [.cY none [.int .i64] b 0, .cY none [.sl 3] c 0], .int .i64 d, .int .i64 e]
def bQ : Pt → List aI
 | .p0 a b c d e => []
def step (J : Pt → ay) : Pt → ay
 | .p0 a b c d e => (cond (decide (e < d)) (m2 e (a.length : Int) (call (Z133.R ((aJ.at a (Int.toNat e)), (gq b), (nT c))) fun v1 => (cond v1 (ret (e : Int)) (J (.p0 a b c d (i64.wrap (e + 1))))))) (ret ((-1) : Int)))
def start (J : Pt → ay) (x0 : List (List L)) (x1 : List L) (x2 : List L) : ay := J (.p0 x0 x1 x2 (x0.length : Int) 0)
def live : Nat → Live := fun i => match i with | 2 => [(0, none), (1, none), (7, none), (8, none)] | _ => []
def bO : List fE := [.rd (.sl 264), .fn 377 [[.int .i64], [.sl 3]]]
def res : RP := .one (.rd (.int .i64))
abbrev E : Env := { T := assoc lr, G := cK [(377, Z133.aK)], nt := 19 }
theorem step_eq (I : bY) (p : Pt) : cz E live I (pid p) (bo Tryz.f379) (eN (live (pid p)) (bR p) (bQ p)) (bX E Tryz.f379 res) = step (fun q => I (pid q) (bR q) (bQ q)) p := by
 cases p <;> kernel_rfl
theorem start_eq (I : bY) (ls : List L) : ee E live I (bo Tryz.f379) (cG bO ls) (bX E Tryz.f379 res) = start (fun q => I (pid q) (bR q) (bQ q)) (ls.headD .hole).aG (cO 1 (ar 1 ls)) (cO 1 (ar 2 ls)) := by kernel_rfl
theorem run_eq (n : Nat) (ls : List L) : ea E live Tryz.f379 res n (cG bO ls) = start (iter step n) (ls.headD .hole).aG (cO 1 (ar 1 ls)) (cO 1 (ar 2 ls)) := bW (id := pid) (vs := bR) (hs := bQ) (step := step) (start := fun J => start J (ls.headD .hole).aG (cO 1 (ar 1 ls)) (cO 1 (ar 2 ls))) step_eq (fun I => start_eq I ls) n
def md (a0 : List aJ) (a1 : Int) (a2 : List Int) : Int := (dy (S := Unit) (β := Int) (fun (i1 : Nat) (y1 : aJ) (s3 : Unit) => (cond (Z133.md y1 a1 a2) (.inr ((i1 : Int) : Int)) (.inl ()))) (fun (s3 : Unit) => ((-1) : Int)) 0 a0 ())
def gd (a0 : List aJ) (a1 : Int) (a2 : List Int) : Prop := (bw (2 ^ 21) (fun y : aJ => aJ.Sm (2 ^ 21) y) a0) ∧ (bw (2 ^ 38) (fun y : Int => True) a2)
def acc (ls : List L) : List (List L) × Int × List (List L) := ((ls.headD .hole).aG, (gq (cO 1 (ar 1 ls))), (nT (cO 1 (ar 2 ls))))
def R : (List (List L) × Int × List (List L)) → Option Int := RR (p3 gd) (u3 md)
theorem ai {a0 a1 a2} (h : gd a0 a1 a2) : R ((a0.map aJ.row), a1, (a2.map aP)) = some (md a0 a1 a2) := aE (a := (a0, a1, a2)) h
def aK : fe := CN bO res acc R
theorem okF (a0 : List aJ) (a1 : Int) (a2 : List Int) (p1 : List L) (p2 : List L) (e1 : a1 = (gq p1)) (e2 : (a2.map aP) = (nT p2)) (hg : gd a0 a1 a2) : ∃ n, start (iter step n) (a0.map aJ.row) p1 p2 = ret ((md a0 a1 a2) : Int) := by
  obtain ⟨H0, H2⟩ := hg
  unfold start md
  try simp only [SS, ← e1, ← e2]
  have Bh2 : a0.length ≤ maxLen := (by
      have := (H0).1
      try simp only [maxLen] at *
      omega)
  refine dV (out := ret) (cV (z := aJ.zero)) ?_
  refine dk (p := Pt.p0 (a0.map aJ.row) p1 p2 (a0.length : Int) 0) fz ?_
  refine bP (pt := fun (i1 : Nat) (s3 : Unit) => Pt.p0 (a0.map aJ.row) p1 p2 (a0.length : Int) (i1 : Int)) (s := (() : Unit)) (out := ret) (fun _ _ => True) (fun J i1 s3 h2 hih2 => ?_) (fun s3 hih2 => ?_) trivial
  · simp only [step, SS, ← e1, ← e2]
    have bb_ := Bh2
    simp only [maxLen] at bb_
    have := (H0).1
    refine aY.yes (by apply decide_eq_true; omega) ?_
    refine aY.yes ax ?_
    refine aY.yes (aD h2) ?_
    refine cr (Z133.ai H2) ?_
    refine aY.bif (fun c4 => ?_) (fun c4 => ?_)
    · refine aY.inr ?_
      all_goals exact fz
    · refine aY.inl trivial ?_
      rw [az h2 Bh2]
      all_goals exact fz
  · simp only [step, SS, ← e1, ← e2]
    have := (H0).1
    refine dh (by apply decide_eq_false; omega) ?_
    refine ⟨0, ?_⟩
    all_goals exact fz
theorem rG (ls : List L) (a : List aJ × Int × List Int) (e : acc ls = Im.im a) (hg : (p3 gd) a) : ∃ n : Nat, start (iter step n) ((ls.headD .hole).aG) (cO 1 (ar 1 ls)) (cO 1 (ar 2 ls)) = ret (Im.im ((u3 md) a)) := by
 have e0 : (a.1.map aJ.row) = (ls.headD .hole).aG := (congrArg (fun x => x.1) e.symm)
 obtain ⟨n, hn⟩ := okF a.1 a.2.1 a.2.2 (cO 1 (ar 1 ls)) (cO 1 (ar 2 ls)) (congrArg (fun x => x.2.1) e.symm) (congrArg (fun x => x.2.2) e.symm) hg
 refine ⟨n, ?_⟩
 rw [← e0]
 exact hn
theorem ab : Valid Tryz.prog Ev 379 aK := VP (accr := fun ls => ((ls.headD .hole).aG, (cO 1 (ar 1 ls)), (cO 1 (ar 2 ls)))) (run := fun n x => start (iter step n) x.1 x.2.1 x.2.2) mix au (.cons Z133.ab .nil) Tryz.func379 (by kernel_rfl) run_eq (fun ls a _ e hg => rG ls a e hg)
theorem fa (a0 : List aJ) (a1 : Int) (a2 : List Int) : -1 ≤ md a0 a1 a2 ∧ md a0 a1 a2 < (a0.length : Int) := by
 unfold md
 refine iy ?_ _ _
 all_goals
  intro i x s b h
  revert h
  simp only [Bool.cond_eq_ite]
  repeat' split
  all_goals (intro h; first | (cases h; rfl) | cases h)
theorem idx_eq (a0 : List aJ) (a1 : Int) (a2 : List Int) : md a0 a1 a2 = jb (fun y => Z133.md y a1 a2) 0 a0 := by
 unfold md
 exact gJ
end Z134
namespace Z135
def F (x0 : List (List L)) (x1 : List L) (x2 : List L) : ay := (call (Z134.R (x0, (gq x1), (nT x2))) fun v1 => ret ((decide (v1 ≥ 0)) : Bool))
def bO : List fE := [.rd (.sl 264), .fn 377 [[.int .i64], [.sl 3]]]
def res : RP := .one (.rd (.bool))
def md (a0 : List aJ) (a1 : Int) (a2 : List Int) : Bool := ((decide ((Z134.md a0 a1 a2) ≥ 0)) : Bool)
def gd (a0 : List aJ) (a1 : Int) (a2 : List Int) : Prop := (bw (2 ^ 21) (fun y : aJ => aJ.Sm (2 ^ 21) y) a0) ∧ (bw (2 ^ 38) (fun y : Int => True) a2)
def acc (ls : List L) : List (List L) × Int × List (List L) := ((ls.headD .hole).aG, (gq (cO 1 (ar 1 ls))), (nT (cO 1 (ar 2 ls))))
def R : (List (List L) × Int × List (List L)) → Option Bool := RR (p3 gd) (u3 md)
theorem ai {a0 a1 a2} (h : gd a0 a1 a2) : R ((a0.map aJ.row), a1, (a2.map aP)) = some (md a0 a1 a2) := aE (a := (a0, a1, a2)) h
def aK : fe := CN bO res acc R
theorem okF (a0 : List aJ) (a1 : Int) (a2 : List Int) (p1 : List L) (p2 : List L) (e1 : a1 = (gq p1)) (e2 : (a2.map aP) = (nT p2)) (hg : gd a0 a1 a2) : F (a0.map aJ.row) p1 p2 = ret ((md a0 a1 a2) : Bool) := by
 obtain ⟨H0, H2⟩ := hg
 unfold F md
 try simp only [SS, ← e1, ← e2]
 refine ct (Z134.ai ⟨H0, H2⟩) ?_
 have fv1_ := Z134.fa a0 a1 a2
 all_goals exact fz
theorem rG (ls : List L) (a : List aJ × Int × List Int) (e : acc ls = Im.im a) (hg : (p3 gd) a) : ∃ n : Nat, F ((ls.headD .hole).aG) (cO 1 (ar 1 ls)) (cO 1 (ar 2 ls)) = ret (Im.im ((u3 md) a)) := by
 have e0 : (a.1.map aJ.row) = (ls.headD .hole).aG := (congrArg (fun x => x.1) e.symm)
 have hn := okF a.1 a.2.1 a.2.2 (cO 1 (ar 1 ls)) (cO 1 (ar 2 ls)) (congrArg (fun x => x.2.1) e.symm) (congrArg (fun x => x.2.2) e.symm) hg
 refine ⟨0, ?_⟩
 rw [← e0]
 exact hn
theorem ab : Valid Tryz.prog Ev 376 aK := VP (live := fun _ => []) (nt := 9) (accr := fun ls => ((ls.headD .hole).aG, (cO 1 (ar 1 ls)), (cO 1 (ar 2 ls)))) (run := fun _ x => F x.1 x.2.1 x.2.2) mix au (.cons Z134.ab .nil) Tryz.func376 (by kernel_rfl) (fun _ _ => by kernel_rfl) (fun ls a _ e hg => rG ls a e hg)
theorem any_eq (a0 : List aJ) (a1 : Int) (a2 : List Int) : md a0 a1 a2 = a0.any (fun y => Z133.md y a1 a2) := by
 unfold md
 rw [Z134.idx_eq]
 exact mX
end Z135
namespace Z136
inductive Pt where
 | p0 (a : List (List L)) (b : Int) (c : List (List L)) (d : Int) (e : Int) (f : List (List L))
def pid : Pt → Nat
 | .p0 .. => 3
def bR : Pt → List V
 | .p0 a b c d e f => [.sl none 264 a, .cC 0 0, .int .i64 b, .sl none 3 c, .int .i64 d, .int .i64 e]
def bQ : Pt → List aI
 | .p0 a b c d e f => [.box [.sl none 3 f]]
def step (J : Pt → ay) : Pt → ay
 | .p0 a b c d e f => (cond (decide (e < d)) (m2 e (c.length : Int) (call (Z135.R (a, (iu c (Int.toNat e)), f)) fun v1 => (cond v1 (J (.p0 a (i64.wrap (b + 1)) c d (i64.wrap (e + 1)) f)) (J (.p0 a b c d (i64.wrap (e + 1)) f))))) (ret (b : Int)))
def start (J : Pt → ay) (x0 : aO) (x1 : List (List L)) (x2 : List (List L)) : ay := J (.p0 x2 0 x0.aF (x0.aF.length : Int) 0 x1)
def live : Nat → Live := fun i => match i with | 3 => [(2, none), (4, none), (7, none), (11, none), (12, none), (13, none)] | _ => []
def md (a0 : aw) (a1 : List Int) (a2 : List aJ) : Int := (dG (S := Int) (β := Int) (fun (y1 : Int) (s3 : Int) => (cond (Z135.md a2 y1 a1) (.inl (i64.wrap (s3 + 1))) (.inl s3))) (fun (s3 : Int) => (s3 : Int)) a0.aF 0)
def gd (a0 : aw) (a1 : List Int) (a2 : List aJ) : Prop := (aw.Sm (2 ^ 21) a0) ∧ (bw (2 ^ 38) (fun y : Int => True) a1) ∧ (bw (2 ^ 21) (fun y : aJ => aJ.Sm (2 ^ 21) y) a2)
def R := RR (p3 gd) (u3 md)
theorem ai {a0 a1 a2} (h : gd a0 a1 a2) : R ((aw.r a0), (a1.map aP), (a2.map aJ.row)) = some (md a0 a1 a2) := aE (a := (a0, a1, a2)) h
def aK := CN [.agg gz, pL 3, pL 264] oI RT.dec R
theorem okF (a0) (a1) (a2) (hg : gd a0 a1 a2) : ∃ n, start (iter step n) (aw.r a0) (a1.map aP) (a2.map aJ.row) = ret (md a0 a1 a2) := by
  obtain ⟨H0, H1, H2⟩ := hg
  unfold start md
  try simp only [SS]
  have Bh2 : a0.aF.length ≤ maxLen := (by
      have := (H0).1
      try simp only [maxLen] at *
      omega)
  refine dV (out := ret) (dO (z := 0)) ?_
  refine dk (p := Pt.p0 (a2.map aJ.row) 0 (a0.aF.map aP) (a0.aF.length : Int) 0 (a1.map aP)) fz ?_
  refine bP (pt := fun (i1 : Nat) (s3 : Int) => Pt.p0 (a2.map aJ.row) s3 (a0.aF.map aP) (a0.aF.length : Int) (i1 : Int) (a1.map aP)) (s := (0 : Int)) (out := ret) (fun _ _ => True) (fun J i1 s3 h2 hih2 => ?_) (fun s3 hih2 => ?_) trivial
  · simp only [step, SS]
    have bb_ := Bh2
    simp only [maxLen] at bb_
    have := (H0).1
    refine aY.yes (by apply decide_eq_true; omega) ?_
    refine aY.yes ax ?_
    refine aY.yes (aD h2) ?_
    refine cr (Z135.ai ⟨H2, H1⟩) ?_
    refine aY.bif (fun c4 => ?_) (fun c4 => ?_)
    · refine aY.inl trivial ?_
      rw [az h2 Bh2]
      all_goals exact fz
    · refine aY.inl trivial ?_
      rw [az h2 Bh2]
      all_goals exact fz
  · simp only [step, SS]
    have := (H0).1
    refine dh (by apply decide_eq_false; omega) ?_
    refine ⟨0, ?_⟩
    all_goals exact fz
theorem ab : Valid Tryz.prog Ev 369 aK := L3 24 pid bR bQ live step start mix au okF (.cons Z135.ab .nil) Tryz.func369
theorem br (a0 : aw) (a1 : List Int) (a2 : List aJ) : md a0 a1 a2 = Z51.md a0 a1 a2 := by
  unfold md Z51.md
  refine ml (fun x _ s => ?_) (fun s => rfl)
  rw [Z135.any_eq]
  refine Eq.trans ?_ (kt (β := Int ⊕ Int) (p := fun y => Z133.md y x a1) (b := Sum.inl (i64.wrap (s + 1))) (c := Sum.inl s) (fun y s' => ?_) a2 ()).symm
  · cases a2.any (fun y => Z133.md y x a1) <;> rfl
  · unfold Z133.md
    simp only [Z132.br]
    cases y.fq == x <;> cases Z50.md y a1 <;> rfl
end Z136
namespace Z137
def F (x0 : aO) (x1 : List (List L)) (x2 : List (List L)) : ay := (call (Z117.R x0) fun v1 => (cond v1 (call (Z136.R (x0, x1, x2)) fun v2 => ret ((decide (v2 ≥ x0.bH)) : Bool)) (ret (false : Bool))))
def md (a0 : aw) (a1 : List Int) (a2 : List aJ) : Bool := (cond (Z117.md a0) ((decide ((Z136.md a0 a1 a2) ≥ a0.bH)) : Bool) (false : Bool))
def gd (a0 : aw) (a1 : List Int) (a2 : List aJ) : Prop := (aw.Sm (2 ^ 21) a0) ∧ (bw (2 ^ 38) (fun y : Int => True) a1) ∧ (bw (2 ^ 21) (fun y : aJ => aJ.Sm (2 ^ 21) y) a2)
def R := RR (p3 gd) (u3 md)
theorem ai {a0 a1 a2} (h : gd a0 a1 a2) : R ((aw.r a0), (a1.map aP), (a2.map aJ.row)) = some (md a0 a1 a2) := aE (a := (a0, a1, a2)) h
def aK := CN [.agg gz, pL 3, pL 264] oB RT.dec R
theorem okF (a0) (a1) (a2) (hg : gd a0 a1 a2) : F (aw.r a0) (a1.map aP) (a2.map aJ.row) = ret (md a0 a1 a2) := by
 obtain ⟨H0, H1, H2⟩ := hg
 unfold F md
 try simp only [SS]
 refine ct (Z117.ai H0) ?_
 refine ak ret (fun c1 => ?_) (fun _ => rfl)
 refine ct (Z136.ai ⟨H0, H1, H2⟩) ?_
 all_goals exact fz
theorem ab : Valid Tryz.prog Ev 355 aK := W3 18 F mix au okF (.cons Z117.ab (.cons Z136.ab .nil)) Tryz.func355
theorem br (a0 : aw) (a1 : List Int) (a2 : List aJ) : md a0 a1 a2 = Z52.md a0 a1 a2 := by
 unfold md Z52.md
 first
 | (simp only [Z117.br, Z136.br]; done)
 | (simp only [Z117.br, Z136.br]; rfl)
 | rfl
end Z137
namespace Z138
def F (x0 : aC) (x1 : aO) : ay := (call (Z129.R x0.ae) fun v1 => (call (Z137.R (x1, v1, x0.bC)) fun v2 => ret (v2 : Bool)))
def md (a0 : aa) (a1 : aw) : Bool := ((Z137.md a1 (Z129.md a0.ae) a0.bC) : Bool)
def gd (a0 : aa) (a1 : aw) : Prop := (aa.Sm (2 ^ 21) a0) ∧ (aw.Sm (2 ^ 21) a1)
def R := RR (p2 gd) (u2 md)
theorem ai {a0 a1} (h : gd a0 a1) : R ((aa.r a0), (aw.r a1)) = some (md a0 a1) := aE (a := (a0, a1)) h
def aK := CN [.agg iR, .agg gz] oB RT.dec R
theorem okF (a0) (a1) (hg : gd a0 a1) : F (aa.r a0) (aw.r a1) = ret (md a0 a1) := by
 obtain ⟨H0, H1⟩ := hg
 unfold F md
 try simp only [SS]
 refine ct (Z129.ai H0.1) ?_
 try simp only [SS]
 refine ct (Z137.ai ⟨H1, ⟨(have := Z129.len a0.ae; have := (H0.1.1).1; have := (H0.1.2.1).1; have := (H0.1.2.2).1; om), fun _ _ => trivial⟩, H0.2⟩) ?_
 all_goals exact fz
theorem ab : Valid Tryz.prog Ev 330 aK := W2 12 F mix au okF (.cons Z129.ab (.cons Z137.ab .nil)) Tryz.func330
end Z138
namespace Z139
def F (x0 : aC) : ay := (call (Z121.R x0.ae) fun v1 => (cond v1 (cond (x0.ae.bN == 0) (cond (x0.ae.bg == 1) (cond (!x0.ae.aS) (call (Z125.R (x0.ae.bh, x0.ae.cB)) fun v2 => (cond (x0.ae.aT == v2) (call (Z138.R (x0, x0.ae.bh)) fun v3 => ret (v3 : Bool)) (ret (false : Bool)))) (ret (false : Bool))) (ret (false : Bool))) (ret (false : Bool))) (ret (false : Bool))))
def md (a0 : aa) : Bool := (cond (Z121.md a0.ae) (cond (a0.ae.bN == 0) (cond (a0.ae.bg == 1) (cond (!a0.ae.aS) (cond (a0.ae.aT == (Z125.md a0.ae.bh a0.ae.cB)) ((Z138.md a0 a0.ae.bh) : Bool) (false : Bool)) (false : Bool)) (false : Bool)) (false : Bool)) (false : Bool))
def gd (a0 : aa) : Prop := (aa.Sm (2 ^ 21) a0)
def R := RR gd md
theorem ai {a0} (h : gd a0) : R (aa.r a0) = some (md a0) := aE (a := a0) h
def aK := CN [.agg iR] oB RT.dec R
theorem okF (a0) (hg : gd a0) : F (aa.r a0) = ret (md a0) := by
 unfold gd at hg
 have H0 := hg
 unfold F md
 try simp only [SS]
 refine ct (Z121.ai H0.1) ?_
 refine ak ret (fun c1 => ?_) (fun _ => rfl)
 refine ak ret (fun c2 => ?_) (fun _ => rfl)
 refine ak ret (fun c3 => ?_) (fun _ => rfl)
 refine ak ret (fun c4 => ?_) (fun _ => rfl)
 refine ct (Z125.ai H0.1.1) ?_
 refine ak ret (fun c5 => ?_) (fun _ => rfl)
 refine ct (Z138.ai ⟨H0, H0.1.1⟩) ?_
 all_goals exact fz
theorem ab : Valid Tryz.prog Ev 287 aK := W1 39 F mix au okF (.cons Z121.ab (.cons Z125.ab (.cons Z138.ab .nil))) Tryz.func287
theorem br (a0 : aa) : md a0 = Z53.md a0 := by
 unfold md Z53.md
 simp only [Z138.md, Z137.br, Z129.br, Z121.br, Z125.br]
end Z139
namespace Z140
def F (x0 : bq) : ay := (call (Z129.R x0) fun v1 => (bJ (dU (((1 : Int) + (v1.length : Int)) * 8)) (call (Z124.R ([[L.int 233]] ++ v1)) fun v2 => ret (v2 : Int))))
def md (a0 : aq) : Int := ((Z124.md ([233] ++ (Z129.md a0))) : Int)
def gd (a0 : aq) : Prop := (aq.Sm (2 ^ 21) a0)
def R := RR gd md
theorem ai {a0} (h : gd a0) : R (aq.r a0) = some (md a0) := aE (a := a0) h
def aK := CN [.agg eA] oI RT.dec R
theorem okF (a0) (hg : gd a0) : F (aq.r a0) = ret (md a0) := by
 unfold gd at hg
 have H0 := hg
 unfold F md
 try simp only [SS]
 refine ct (Z129.ai H0) ?_
 try simp only [SS]
 refine af (have := Z129.len a0; have := (H0.1).1; have := (H0.2.1).1; have := (H0.2.2).1; lm) ?_
 refine aN (Z124.md ([233] ++ (Z129.md a0))) (rq (Z124.ai (a0 := ([233] ++ (Z129.md a0))) ⟨(have := Z129.len a0; have := (H0.1).1; have := (H0.2.1).1; have := (H0.2.2).1; om), fun _ _ => trivial⟩)) ?_
 all_goals exact fz
theorem ab : Valid Tryz.prog Ev 370 aK := W1 8 F mix au okF (.cons Z129.ab (.cons Z124.ab .nil)) Tryz.func370
theorem br (a0 : aq) : md a0 = Z54.md a0 := by
 unfold md Z54.md
 first
 | (simp only [Z129.br, Z124.br]; done)
 | (simp only [Z129.br, Z124.br]; rfl)
 | rfl
end Z140
namespace Z141
def F (x0 : bq) (x1 : bq) : ay := (cond (x1.aT == x0.aT) (cond (x1.bN == (i64.wrap (x0.bN + 1))) (call (Z140.R x0) fun v1 => (cond (x1.cB == v1) (ret ((decide (x1.bL ≥ x0.bL)) : Bool)) (ret (false : Bool)))) (ret (false : Bool))) (ret (false : Bool)))
def md (a0 : aq) (a1 : aq) : Bool := (cond (a1.aT == a0.aT) (cond (a1.bN == (i64.wrap (a0.bN + 1))) (cond (a1.cB == (Z140.md a0)) ((decide (a1.bL ≥ a0.bL)) : Bool) (false : Bool)) (false : Bool)) (false : Bool))
def gd (a0 : aq) (a1 : aq) : Prop := (aq.Sm (2 ^ 21) a0)
def R := RR (p2 gd) (u2 md)
theorem ai {a0 a1} (h : gd a0 a1) : R ((aq.r a0), (aq.r a1)) = some (md a0 a1) := aE (a := (a0, a1)) h
def aK := CN [.agg eA, .agg eA] oB RT.dec R
theorem okF (a0) (a1) (hg : gd a0 a1) : F (aq.r a0) (aq.r a1) = ret (md a0 a1) := by
 unfold gd at hg
 have H0 := hg
 unfold F md
 try simp only [SS]
 refine ak ret (fun c1 => ?_) (fun _ => rfl)
 refine ak ret (fun c2 => ?_) (fun _ => rfl)
 refine ct (Z140.ai H0) ?_
 refine ak ret (fun c3 => ?_) (fun _ => rfl)
 all_goals exact fz
theorem ab : Valid Tryz.prog Ev 356 aK := W2 32 F mix au okF (.cons Z140.ab .nil) Tryz.func356
end Z141
namespace Z142
def F (x0 : bq) (x1 : aC) : ay := (cond x0.aS (ret (4 : Int)) (cond x1.ae.aS (ret (6 : Int)) (call (Z138.R (x1, x0.bh)) fun v1 => (cond (!v1) (ret (7 : Int)) (ret (1 : Int))))))
def md (a0 : aq) (a1 : aa) : Int := (cond a0.aS (4 : Int) (cond a1.ae.aS (6 : Int) (cond (!(Z138.md a1 a0.bh)) (7 : Int) (1 : Int))))
def gd (a0 : aq) (a1 : aa) : Prop := (aq.Sm (2 ^ 21) a0) ∧ (aa.Sm (2 ^ 21) a1)
def R := RR (p2 gd) (u2 md)
theorem ai {a0 a1} (h : gd a0 a1) : R ((aq.r a0), (aa.r a1)) = some (md a0 a1) := aE (a := (a0, a1)) h
def aK := CN [.agg eA, .agg iR] oI RT.dec R
theorem okF (a0) (a1) (hg : gd a0 a1) : F (aq.r a0) (aa.r a1) = ret (md a0 a1) := by
 obtain ⟨H0, H1⟩ := hg
 unfold F md
 try simp only [SS]
 refine ak ret (fun _ => rfl) (fun c1 => ?_)
 refine ak ret (fun _ => rfl) (fun c2 => ?_)
 refine ct (Z138.ai ⟨H1, H0.1⟩) ?_
 refine ak ret (fun _ => rfl) (fun _ => rfl)
theorem ab : Valid Tryz.prog Ev 357 aK := W2 18 F mix au okF (.cons Z138.ab .nil) Tryz.func357
end Z142
namespace Z143
inductive Pt where
 | p0 (a : List (List L)) (b : List (List L)) (c : Int) (d : Int)
def pid : Pt → Nat
 | .p0 .. => 4
def bR : Pt → List V
 | .p0 a b c d => [.sl none 3 a, .sl none 3 b, .int .i64 c, .int .i64 d]
def bQ : Pt → List aI
 | .p0 a b c d => []
def step (J : Pt → ay) : Pt → ay
 | .p0 a b c d => (cond (decide (d < c)) (m2 d (a.length : Int) (m2 d (b.length : Int) (cond ((iu a (Int.toNat d)) != (iu b (Int.toNat d))) (ret (false : Bool)) (J (.p0 a b c (i64.wrap (d + 1))))))) (ret (true : Bool)))
def start (J : Pt → ay) (x0 : List (List L)) (x1 : List (List L)) : ay := (cond ((x0.length : Int) != (x1.length : Int)) (ret (false : Bool)) (J (.p0 x0 x1 (x0.length : Int) 0)))
def live : Nat → Live := fun i => match i with | 4 => [(0, none), (1, none), (12, none), (13, none)] | _ => []
def md (a0 : List Int) (a1 : List Int) : Bool := (bif ((a0.length : Int) != (a1.length : Int)) then (false : Bool) else (dc (S := Unit) (β := Bool) (fun (i2 : Nat) (s4 : Unit) => (cond ((a0.getD i2 0) != (a1.getD i2 0)) (.inr (false : Bool)) (.inl ()))) (fun (s4 : Unit) => (true : Bool)) a0.length 0 ()))
def gd (a0 : List Int) (a1 : List Int) : Prop := (bw (2 ^ 38) (fun y : Int => True) a0) ∧ (bw (2 ^ 38) (fun y : Int => True) a1)
def R := RR (p2 gd) (u2 md)
theorem ai {a0 a1} (h : gd a0 a1) : R ((a0.map aP), (a1.map aP)) = some (md a0 a1) := aE (a := (a0, a1)) h
def aK := CN [pL 3, pL 3] oB RT.dec R
theorem okF (a0) (a1) (hg : gd a0 a1) : ∃ n, start (iter step n) (a0.map aP) (a1.map aP) = ret (md a0 a1) := by
  obtain ⟨H0, H1⟩ := hg
  unfold start md
  try simp only [SS]
  refine fw ret (fun _ => ⟨0, rfl⟩) (fun c1 => ?_)
  have dc1 := c1
  try simp only [DC] at dc1
  have Bh3 : a0.length ≤ maxLen := (by
      have := (H0).1
      try simp only [maxLen] at *
      omega)
  refine dk (p := Pt.p0 (a0.map aP) (a1.map aP) (a0.length : Int) 0) fz ?_
  refine bP (pt := fun (i2 : Nat) (s4 : Unit) => Pt.p0 (a0.map aP) (a1.map aP) (a0.length : Int) (i2 : Int)) (s := (() : Unit)) (out := ret) (fun _ _ => True) (fun J i2 s4 h3 hih3 => ?_) (fun s4 hih3 => ?_) trivial
  · simp only [step, SS]
    have bb_ := Bh3
    simp only [maxLen] at bb_
    have := (H0).1
    refine aY.yes (by apply decide_eq_true; omega) ?_
    refine aY.yes ax ?_
    refine aY.yes (aD h3) ?_
    refine aY.yes ax ?_
    refine aY.yes (have := (H1).1; dt) ?_
    refine aY.bif (fun _ => aY.inr rfl) (fun c5 => ?_)
    refine aY.inl trivial ?_
    rw [az h3 Bh3]
    all_goals exact fz
  · simp only [step, SS]
    have := (H0).1
    refine dh (by apply decide_eq_false; omega) ?_
    refine ⟨0, ?_⟩
    all_goals exact fz
theorem ab : Valid Tryz.prog Ev 333 aK := L2 26 pid bR bQ live step start mix au okF .nil Tryz.func333
theorem cp (a0 : List Int) (a1 : List Int) : md a0 a1 = cU a0 a1 := by
 unfold md
 refine iG (0) (fun i s h h2 => ?_) (fun s => rfl)
 simp only [bne, dL, bool_beq, dA]
 cases cU _ _ <;> rfl
end Z143
namespace Z144
def F (x0 : aO) (x1 : aO) : ay := (call (Z143.R (x0.aF, x1.aF)) fun v1 => (cond v1 (ret ((x0.bH == x1.bH) : Bool)) (ret (false : Bool))))
def md (a0 : aw) (a1 : aw) : Bool := (cond (Z143.md a0.aF a1.aF) ((a0.bH == a1.bH) : Bool) (false : Bool))
def gd (a0 : aw) (a1 : aw) : Prop := (aw.Sm (2 ^ 21) a0) ∧ (aw.Sm (2 ^ 21) a1)
def R := RR (p2 gd) (u2 md)
theorem ai {a0 a1} (h : gd a0 a1) : R ((aw.r a0), (aw.r a1)) = some (md a0 a1) := aE (a := (a0, a1)) h
def aK := CN [.agg gz, .agg gz] oB RT.dec R
theorem okF (a0) (a1) (hg : gd a0 a1) : F (aw.r a0) (aw.r a1) = ret (md a0 a1) := by
 obtain ⟨H0, H1⟩ := hg
 unfold F md
 try simp only [SS]
 refine ct (Z143.ai ⟨(H0.mono (by decide) (fun x hx => trivial)), (H1.mono (by decide) (fun x hx => trivial))⟩) ?_
 refine ak ret (fun c1 => ?_) (fun _ => rfl)
 all_goals exact fz
theorem ab : Valid Tryz.prog Ev 332 aK := W2 17 F mix au okF (.cons Z143.ab .nil) Tryz.func332
theorem cp (a0 : aw) (a1 : aw) : md a0 a1 = cU a0 a1 := by
 unfold md
 cases a0; cases a1
 rw [Bool.eq_iff_iff]
 simp [ca, dA, aw.mk.injEq, Z143.cp]
 try (constructor <;> (intro h; simp_all))
end Z144
namespace Z145
def F (x0 : bq) (x1 : bq) : ay := (cond (x0.bG == x1.bG) (ret ((x0.cj == x1.cj) : Bool)) (ret (false : Bool)))
def md (a0 : aq) (a1 : aq) : Bool := (cond (a0.bG == a1.bG) ((a0.cj == a1.cj) : Bool) (false : Bool))
def gd (a0 : aq) (a1 : aq) : Prop := True
def R := RR (p2 gd) (u2 md)
theorem ai {a0 a1} (h : gd a0 a1) : R ((aq.r a0), (aq.r a1)) = some (md a0 a1) := aE (a := (a0, a1)) h
def aK := CN [.agg eA, .agg eA] oB RT.dec R
theorem okF (a0) (a1) (hg : gd a0 a1) : F (aq.r a0) (aq.r a1) = ret (md a0 a1) := by
 unfold F md
 try simp only [SS]
 refine ak ret (fun c1 => ?_) (fun _ => rfl)
 all_goals exact fz
theorem ab : Valid Tryz.prog Ev 371 aK := W2 17 F mix au okF .nil Tryz.func371
theorem br (a0 : aq) (a1 : aq) : md a0 a1 = Z58.md a0 a1 := by
 unfold md Z58.md
 first
 | (simp only [id]; done)
 | (simp only [id]; rfl)
 | rfl
end Z145
namespace Z146
def F (x0 : bq) (x1 : aC) : ay := (cond x0.aS (ret (4 : Int)) (call (Z118.R x0.aQ) fun v1 => (cond v1 (ret (5 : Int)) (cond (decide (x1.ae.bL < (i64.wrap (x0.bF + x0.cf)))) (ret (5 : Int)) (cond x1.ae.aS (ret (6 : Int)) (call (Z144.R (x1.ae.bh, x0.aQ)) fun v2 => (cond (!v2) (ret (6 : Int)) (call (Z145.R (x1.ae, x0)) fun v3 => (cond (!v3) (ret (6 : Int)) (call (Z138.R (x1, x0.aQ)) fun v4 => (cond (!v4) (ret (7 : Int)) (ret (1 : Int)))))))))))))
def md (a0 : aq) (a1 : aa) : Int := (cond a0.aS (4 : Int) (cond (Z118.md a0.aQ) (5 : Int) (cond (decide (a1.ae.bL < (i64.wrap (a0.bF + a0.cf)))) (5 : Int) (cond a1.ae.aS (6 : Int) (cond (!(Z144.md a1.ae.bh a0.aQ)) (6 : Int) (cond (!(Z145.md a1.ae a0)) (6 : Int) (cond (!(Z138.md a1 a0.aQ)) (7 : Int) (1 : Int))))))))
def gd (a0 : aq) (a1 : aa) : Prop := (aq.Sm (2 ^ 21) a0) ∧ (aa.Sm (2 ^ 21) a1)
def R := RR (p2 gd) (u2 md)
theorem ai {a0 a1} (h : gd a0 a1) : R ((aq.r a0), (aa.r a1)) = some (md a0 a1) := aE (a := (a0, a1)) h
def aK := CN [.agg eA, .agg iR] oI RT.dec R
theorem okF (a0) (a1) (hg : gd a0 a1) : F (aq.r a0) (aa.r a1) = ret (md a0 a1) := by
 obtain ⟨H0, H1⟩ := hg
 unfold F md
 try simp only [SS]
 refine ak ret (fun _ => rfl) (fun c1 => ?_)
 refine ct (Z118.ai trivial) ?_
 refine ak ret (fun _ => rfl) (fun c2 => ?_)
 refine ak ret (fun _ => rfl) (fun c3 => ?_)
 refine ak ret (fun _ => rfl) (fun c4 => ?_)
 refine ct (Z144.ai ⟨H1.1.1, H0.2.1⟩) ?_
 refine ak ret (fun _ => rfl) (fun c5 => ?_)
 refine ct (Z145.ai trivial) ?_
 refine ak ret (fun _ => rfl) (fun c6 => ?_)
 refine ct (Z138.ai ⟨H1, H0.2.1⟩) ?_
 refine ak ret (fun _ => rfl) (fun _ => rfl)
theorem ab : Valid Tryz.prog Ev 358 aK := W2 48 F mix au okF (.cons Z118.ab (.cons Z144.ab (.cons Z145.ab (.cons Z138.ab .nil)))) Tryz.func358
end Z146
namespace Z147
def F (x0 : bq) (x1 : aC) : ay := (call (Z145.R (x1.ae, x0)) fun v1 => (cond v1 (call (Z144.R (x1.ae.aM, x0.aM)) fun v2 => (cond v2 (call (Z144.R (x1.ae.aQ, x0.aQ)) fun v3 => (cond v3 (call (Z118.R x0.aM) fun v4 => (cond v4 (ret (5 : Int)) (cond (x1.ae.aS == x0.aS) (ret (6 : Int)) (cond (!(x1.ae.cf == x0.cf)) (ret (6 : Int)) (cond x1.ae.aS (call (Z144.R (x1.ae.bh, x0.bh)) fun v5 => (cond (!v5) (ret (6 : Int)) (call (Z138.R (x1, x0.aM)) fun v6 => (cond (!v6) (ret (7 : Int)) (ret (1 : Int)))))) (call (Z138.R (x1, x0.aM)) fun v7 => (cond (!v7) (ret (7 : Int)) (ret (1 : Int))))))))) (call (Z118.R x0.aM) fun v8 => (cond v8 (ret (5 : Int)) (cond (x1.ae.aS == x0.aS) (ret (6 : Int)) (ret (6 : Int))))))) (call (Z118.R x0.aM) fun v9 => (cond v9 (ret (5 : Int)) (cond (x1.ae.aS == x0.aS) (ret (6 : Int)) (ret (6 : Int))))))) (call (Z118.R x0.aM) fun v10 => (cond v10 (ret (5 : Int)) (cond (x1.ae.aS == x0.aS) (ret (6 : Int)) (ret (6 : Int)))))))
def md (a0 : aq) (a1 : aa) : Int := (cond (Z145.md a1.ae a0) (cond (Z144.md a1.ae.aM a0.aM) (cond (Z144.md a1.ae.aQ a0.aQ) (cond (Z118.md a0.aM) (5 : Int) (cond (a1.ae.aS == a0.aS) (6 : Int) (cond (!(a1.ae.cf == a0.cf)) (6 : Int) (cond a1.ae.aS (cond (!(Z144.md a1.ae.bh a0.bh)) (6 : Int) (cond (!(Z138.md a1 a0.aM)) (7 : Int) (1 : Int))) (cond (!(Z138.md a1 a0.aM)) (7 : Int) (1 : Int)))))) (cond (Z118.md a0.aM) (5 : Int) (cond (a1.ae.aS == a0.aS) (6 : Int) (6 : Int)))) (cond (Z118.md a0.aM) (5 : Int) (cond (a1.ae.aS == a0.aS) (6 : Int) (6 : Int)))) (cond (Z118.md a0.aM) (5 : Int) (cond (a1.ae.aS == a0.aS) (6 : Int) (6 : Int))))
def gd (a0 : aq) (a1 : aa) : Prop := (aq.Sm (2 ^ 21) a0) ∧ (aa.Sm (2 ^ 21) a1)
def R := RR (p2 gd) (u2 md)
theorem ai {a0 a1} (h : gd a0 a1) : R ((aq.r a0), (aa.r a1)) = some (md a0 a1) := aE (a := (a0, a1)) h
def aK := CN [.agg eA, .agg iR] oI RT.dec R
theorem okF (a0) (a1) (hg : gd a0 a1) : F (aq.r a0) (aa.r a1) = ret (md a0 a1) := by
  obtain ⟨H0, H1⟩ := hg
  unfold F md
  try simp only [SS]
  refine ct (Z145.ai trivial) ?_
  refine ak ret (fun c1 => ?_) (fun c1 => ?_)
  · refine ct (Z144.ai ⟨H1.1.2.2, H0.2.2⟩) ?_
    refine ak ret (fun c2 => ?_) (fun c2 => ?_)
    · refine ct (Z144.ai ⟨H1.1.2.1, H0.2.1⟩) ?_
      refine ak ret (fun c3 => ?_) (fun c3 => ?_)
      · refine ct (Z118.ai trivial) ?_
        refine ak ret (fun _ => rfl) (fun c4 => ?_)
        refine ak ret (fun _ => rfl) (fun c5 => ?_)
        refine ak ret (fun _ => rfl) (fun c6 => ?_)
        refine ak ret (fun c7 => ?_) (fun c7 => ?_)
        · refine ct (Z144.ai ⟨H1.1.1, H0.1⟩) ?_
          refine ak ret (fun _ => rfl) (fun c8 => ?_)
          refine ct (Z138.ai ⟨H1, H0.2.2⟩) ?_
          refine ak ret (fun _ => rfl) (fun _ => rfl)
        · refine ct (Z138.ai ⟨H1, H0.2.2⟩) ?_
          refine ak ret (fun _ => rfl) (fun _ => rfl)
      · refine ct (Z118.ai trivial) ?_
        refine ak ret (fun _ => rfl) (fun c11 => ?_)
        refine ak ret (fun _ => rfl) (fun _ => rfl)
    · refine ct (Z118.ai trivial) ?_
      refine ak ret (fun _ => rfl) (fun c13 => ?_)
      refine ak ret (fun _ => rfl) (fun _ => rfl)
  · refine ct (Z118.ai trivial) ?_
    refine ak ret (fun _ => rfl) (fun c15 => ?_)
    refine ak ret (fun _ => rfl) (fun _ => rfl)
theorem ab : Valid Tryz.prog Ev 359 aK := W2 65 F mix au okF (.cons Z145.ab (.cons Z144.ab (.cons Z118.ab (.cons Z138.ab .nil)))) Tryz.func359
end Z147
namespace Z148
def F (x0 : bq) (x1 : aC) : ay := (call (Z121.R x0) fun v1 => (cond (!v1) (ret (2 : Int)) (call (Z121.R x1.ae) fun v2 => (cond (!v2) (ret (2 : Int)) (call (Z141.R (x0, x1.ae)) fun v3 => (cond (!v3) (ret (3 : Int)) (cond (x1.ae.bg == 1) (call (Z142.R (x0, x1)) fun v4 => ret (v4 : Int)) (cond (x1.ae.bg == 2) (call (Z146.R (x0, x1)) fun v5 => ret (v5 : Int)) (call (Z147.R (x0, x1)) fun v6 => ret (v6 : Int))))))))))
def md (a0 : aq) (a1 : aa) : Int := (cond (!(Z121.md a0)) (2 : Int) (cond (!(Z121.md a1.ae)) (2 : Int) (cond (!(Z141.md a0 a1.ae)) (3 : Int) (cond (a1.ae.bg == 1) ((Z142.md a0 a1) : Int) (cond (a1.ae.bg == 2) ((Z146.md a0 a1) : Int) ((Z147.md a0 a1) : Int))))))
def gd (a0 : aq) (a1 : aa) : Prop := (aq.Sm (2 ^ 21) a0) ∧ (aa.Sm (2 ^ 21) a1)
def R := RR (p2 gd) (u2 md)
theorem ai {a0 a1} (h : gd a0 a1) : R ((aq.r a0), (aa.r a1)) = some (md a0 a1) := aE (a := (a0, a1)) h
def aK := CN [.agg eA, .agg iR] oI RT.dec R
theorem okF (a0) (a1) (hg : gd a0 a1) : F (aq.r a0) (aa.r a1) = ret (md a0 a1) := by
  obtain ⟨H0, H1⟩ := hg
  unfold F md
  try simp only [SS]
  refine ct (Z121.ai H0) ?_
  refine ak ret (fun _ => rfl) (fun c1 => ?_)
  refine ct (Z121.ai H1.1) ?_
  refine ak ret (fun _ => rfl) (fun c2 => ?_)
  refine ct (Z141.ai H0) ?_
  refine ak ret (fun _ => rfl) (fun c3 => ?_)
  refine ak ret (fun c4 => ?_) (fun c4 => ?_)
  · refine ct (Z142.ai ⟨H0, H1⟩) ?_
    all_goals exact fz
  · refine ak ret (fun c5 => ?_) (fun c5 => ?_)
    · refine ct (Z146.ai ⟨H0, H1⟩) ?_
      all_goals exact fz
    · refine ct (Z147.ai ⟨H0, H1⟩) ?_
      all_goals exact fz
theorem ab : Valid Tryz.prog Ev 331 aK := W2 40 F mix au okF (.cons Z121.ab (.cons Z141.ab (.cons Z142.ab (.cons Z146.ab (.cons Z147.ab .nil))))) Tryz.func331
theorem br (a0 : aq) (a1 : aa) : md a0 a1 = Z61.md a0 a1 := by
  unfold md Z61.md Z141.md Z142.md Z146.md Z147.md Z138.md Z55.md Z59.md Z60.md
  simp only [Z121.br, Z140.br, Z137.br, Z129.br, Z118.br, Z144.cp, Z57.cp, Z145.br, bne]
  cases Z42.md a0
  · rfl
  cases h2 : Z42.md a1.ae
  · rfl
  obtain ⟨⟨k1, k2⟩, _⟩ := Z42.tr h2
  have ht : decide (a1.ae.bL < a0.bL) = !decide (a1.ae.bL ≥ a0.bL) := by
    rw [Bool.eq_iff_iff]; simp
  rw [ht]
  cases a1.ae.aT == a0.aT
  · rfl
  cases a1.ae.bN == i64.wrap (a0.bN + 1)
  · rfl
  cases a1.ae.cB == Z54.md a0
  · rfl
  cases decide (a1.ae.bL ≥ a0.bL)
  · rfl
  have hk : a1.ae.bg = 1 ∨ a1.ae.bg = 2 ∨ a1.ae.bg = 3 := by omega
  generalize Z52.md a0.bh (Z47.md a1.ae) a1.bC = s1
  generalize Z52.md a0.aQ (Z47.md a1.ae) a1.bC = s2
  generalize Z52.md a0.aM (Z47.md a1.ae) a1.bC = s3
  generalize Z41.md a0.aQ = n1
  generalize Z41.md a0.aM = n2
  generalize decide (a1.ae.bL < i64.wrap (a0.bF + a0.cf)) = d1
  generalize cU a1.ae.bh a0.aQ = e1
  generalize cU a1.ae.aM a0.aM = e2
  generalize cU a1.ae.aQ a0.aQ = e3
  generalize cU a1.ae.bh a0.bh = e4
  generalize Z58.md a1.ae a0 = c1
  generalize (a1.ae.cf == a0.cf) = w1
  generalize a1.ae.aS = f1
  generalize a0.aS = f0
  rcases hk with hk | hk | hk <;> rw [hk]
  · cases f0 <;> cases f1 <;> cases s1 <;> rfl
  · cases f0 <;> cases n1 <;> cases d1 <;> cases f1 <;> cases e1 <;> cases c1 <;> cases s2 <;> rfl
  · cases n2
    · cases f1 <;> cases f0 <;> cases c1 <;> cases e2 <;> cases e3 <;> cases w1 <;> cases e4 <;> cases s3 <;> rfl
    · cases c1 <;> cases e2 <;> cases e3 <;> rfl
end Z148
namespace Z149
def F (x0 : bq) (x1 : aC) : ay := (call (Z148.R (x0, x1)) fun v1 => ret ((v1 == 1) : Bool))
def md (a0 : aq) (a1 : aa) : Bool := (((Z148.md a0 a1) == 1) : Bool)
def gd (a0 : aq) (a1 : aa) : Prop := (aq.Sm (2 ^ 21) a0) ∧ (aa.Sm (2 ^ 21) a1)
def R := RR (p2 gd) (u2 md)
theorem ai {a0 a1} (h : gd a0 a1) : R ((aq.r a0), (aa.r a1)) = some (md a0 a1) := aE (a := (a0, a1)) h
def aK := CN [.agg eA, .agg iR] oB RT.dec R
theorem okF (a0) (a1) (hg : gd a0 a1) : F (aq.r a0) (aa.r a1) = ret (md a0 a1) := by
 obtain ⟨H0, H1⟩ := hg
 unfold F md
 try simp only [SS]
 refine ct (Z148.ai ⟨H0, H1⟩) ?_
 all_goals exact fz
theorem ab : Valid Tryz.prog Ev 288 aK := W2 9 F mix au okF (.cons Z148.ab .nil) Tryz.func288
theorem br (a0 : aq) (a1 : aa) : md a0 a1 = Z62.md a0 a1 := by
 unfold md Z62.md
 first
 | (simp only [Z148.br]; done)
 | (simp only [Z148.br]; rfl)
 | rfl
end Z149
namespace Z150
inductive Pt where
 | p0 (a : List (List L)) (b : List (List L)) (c : Int) (d : Int)
def pid : Pt → Nat
 | .p0 .. => 2
def bR : Pt → List V
 | .p0 a b c d => [.sl none 202 a, .sl none 202 b, .int .i64 c, .int .i64 d]
def bQ : Pt → List aI
 | .p0 a b c d => []
def step (J : Pt → ay) : Pt → ay
 | .p0 a b c d => (cond (decide (d < c)) (m2 d (b.length : Int) (cond (d == 0) (call (Z139.R (aC.at b (Int.toNat d))) fun v1 => (cond (!v1) (ret (d : Int)) (cond (decide (d > 0)) (bJ (decide ((0 : Int) ≤ (i64.wrap (d - 1)))) (bJ (decide ((i64.wrap (d - 1)) < (a.length : Int))) (call (Z149.R ((aC.at a (Int.toNat (i64.wrap (d - 1)))).ae, (aC.at b (Int.toNat d)))) fun v2 => (cond (!v2) (ret (d : Int)) (J (.p0 a b c (i64.wrap (d + 1)))))))) (J (.p0 a b c (i64.wrap (d + 1))))))) (cond (decide (d > 0)) (bJ (decide ((0 : Int) ≤ (i64.wrap (d - 1)))) (bJ (decide ((i64.wrap (d - 1)) < (a.length : Int))) (call (Z149.R ((aC.at a (Int.toNat (i64.wrap (d - 1)))).ae, (aC.at b (Int.toNat d)))) fun v3 => (cond (!v3) (ret (d : Int)) (J (.p0 a b c (i64.wrap (d + 1)))))))) (J (.p0 a b c (i64.wrap (d + 1))))))) (ret ((-1) : Int)))
def start (J : Pt → ay) (x0 : List (List L)) : ay := J (.p0 x0 x0 (x0.length : Int) 0)
def live : Nat → Live := fun i => match i with | 2 => [(0, none), (5, none), (6, none), (7, none)] | _ => []
def md (a0 : List aa) : Int := (dy (S := Unit) (β := Int) (fun (i1 : Nat) (y1 : aa) (s3 : Unit) => (cond ((i1 : Int) == 0) (cond (!(Z139.md y1)) (.inr ((i1 : Int) : Int)) (cond (decide ((i1 : Int) > 0)) (cond (!(Z149.md ((a0.getD (Int.toNat (i64.wrap ((i1 : Int) - 1))) aa.zero).ae) y1)) (.inr ((i1 : Int) : Int)) (.inl ())) (.inl ()))) (cond (decide ((i1 : Int) > 0)) (cond (!(Z149.md ((a0.getD (Int.toNat (i64.wrap ((i1 : Int) - 1))) aa.zero).ae) y1)) (.inr ((i1 : Int) : Int)) (.inl ())) (.inl ())))) (fun (s3 : Unit) => ((-1) : Int)) 0 a0 ())
def gd (a0 : List aa) : Prop := (bw (2 ^ 21) (fun y : aa => aa.Sm (2 ^ 21) y) a0)
def R := RR gd md
theorem ai {a0} (h : gd a0) : R (a0.map aa.row) = some (md a0) := aE (a := a0) h
def aK := CN [pL 202] oI RT.dec R
theorem okF (a0) (hg : gd a0) : ∃ n, start (iter step n) (a0.map aa.row) = ret (md a0) := by
  unfold gd at hg
  have H0 := hg
  unfold start md
  try simp only [SS]
  have Bh2 : a0.length ≤ maxLen := (by
      have := (H0).1
      try simp only [maxLen] at *
      omega)
  refine dV (out := ret) (cV (z := aa.zero)) ?_
  refine dk (p := Pt.p0 (a0.map aa.row) (a0.map aa.row) (a0.length : Int) 0) fz ?_
  refine bP (pt := fun (i1 : Nat) (s3 : Unit) => Pt.p0 (a0.map aa.row) (a0.map aa.row) (a0.length : Int) (i1 : Int)) (s := (() : Unit)) (out := ret) (fun _ _ => True) (fun J i1 s3 h2 hih2 => ?_) (fun s3 hih2 => ?_) trivial
  · simp only [step, SS]
    have bb_ := Bh2
    simp only [maxLen] at bb_
    have := (H0).1
    refine aY.yes (by apply decide_eq_true; omega) ?_
    refine aY.yes ax ?_
    refine aY.yes (aD h2) ?_
    refine aY.bif (fun c4 => ?_) (fun c4 => ?_)
    · have dc4 := c4
      try simp only [DC] at dc4
      refine cr (Z139.ai (bw.getD (z := aa.zero) H0 h2)) ?_
      refine aY.bif (fun c5 => ?_) (fun c5 => ?_)
      · refine aY.inr ?_
        all_goals exact fz
      · have dc5 := c5
        try simp only [DC] at dc5
        refine aY.bif (fun c6 => ?_) (fun c6 => ?_)
        · have dc6 := c6
          try simp only [DC] at dc6
          refine aY.yes dt ?_
          refine aY.yes (have := (H0).1; dt) ?_
          refine cr (Z149.ai ⟨(bw.getD (z := aa.zero) H0 (by first | assumption | omega | (simp (disch := omega) only [wi]; omega) | (simp; omega))).1, (bw.getD (z := aa.zero) H0 h2)⟩) ?_
          refine aY.bif (fun c7 => ?_) (fun c7 => ?_)
          · refine aY.inr ?_
            all_goals exact fz
          · refine aY.inl trivial ?_
            rw [az h2 Bh2]
            all_goals exact fz
        · refine aY.inl trivial ?_
          rw [az h2 Bh2]
          all_goals exact fz
    · have dc4 := c4
      try simp only [DC] at dc4
      refine aY.bif (fun c8 => ?_) (fun c8 => ?_)
      · have dc8 := c8
        try simp only [DC] at dc8
        refine aY.yes dt ?_
        refine aY.yes (have := (H0).1; dt) ?_
        refine cr (Z149.ai ⟨(bw.getD (z := aa.zero) H0 (by first | assumption | omega | (simp (disch := omega) only [wi]; omega) | (simp; omega))).1, (bw.getD (z := aa.zero) H0 h2)⟩) ?_
        refine aY.bif (fun c9 => ?_) (fun c9 => ?_)
        · refine aY.inr ?_
          all_goals exact fz
        · refine aY.inl trivial ?_
          rw [az h2 Bh2]
          all_goals exact fz
      · refine aY.inl trivial ?_
        rw [az h2 Bh2]
        all_goals exact fz
  · simp only [step, SS]
    have := (H0).1
    refine dh (by apply decide_eq_false; omega) ?_
    refine ⟨0, ?_⟩
    all_goals exact fz
theorem ab : Valid Tryz.prog Ev 239 aK := L1 36 pid bR bQ live step start mix au okF (.cons Z139.ab (.cons Z149.ab .nil)) Tryz.func239
theorem br (a0 : List aa) : md a0 = Z63.md a0 := by
  unfold md Z63.md
  rw [← cV (z := aa.zero), ← cV (z := aa.zero)]
  refine qC (fun _ _ => True) (fun i s hi _ => ⟨?_, fun _ _ => trivial⟩) (fun _ _ => rfl) trivial
  simp only [Z139.br, Z149.br]
  by_cases h0 : i = 0
  · subst h0; rfl
  · have e : ((i : Int) == 0) = false := beq_eq_false_iff_ne.2 (by omega)
    simp only [e, cond_false]
end Z150
namespace Z151
def F (x0 : List (List L)) : ay := (call (Z112.R ((x0.length : Int), 1, 12)) fun v1 => (cond v1 (call (Z150.R x0) fun v2 => ret ((decide (v2 < 0)) : Bool)) (ret (false : Bool))))
def md (a0 : List aa) : Bool := (cond (Z112.md (a0.length : Int) 1 12) ((decide ((Z150.md a0) < 0)) : Bool) (false : Bool))
def gd (a0 : List aa) : Prop := (bw (2 ^ 21) (fun y : aa => aa.Sm (2 ^ 21) y) a0)
def R := RR gd md
theorem ai {a0} (h : gd a0) : R (a0.map aa.row) = some (md a0) := aE (a := a0) h
def aK := CN [pL 202] oB RT.dec R
theorem okF (a0) (hg : gd a0) : F (a0.map aa.row) = ret (md a0) := by
 unfold gd at hg
 have H0 := hg
 unfold F md
 try simp only [SS]
 refine ct (Z112.ai trivial) ?_
 refine ak ret (fun c1 => ?_) (fun _ => rfl)
 refine ct (Z150.ai H0) ?_
 all_goals exact fz
theorem ab : Valid Tryz.prog Ev 194 aK := W1 11 F mix au okF (.cons Z112.ab (.cons Z150.ab .nil)) Tryz.func194
theorem tr {a0 : List aa} (h : md a0 = true) : 1 ≤ a0.length ∧ a0.length ≤ 12 := by simp [md, Z112.md] at h; omega
theorem br (a0 : List aa) : md a0 = Z64.md a0 := by
 unfold md Z64.md
 first
 | (simp only [Z112.br, Z150.br]; done)
 | (simp only [Z112.br, Z150.br]; rfl)
 | rfl
end Z151
namespace Z152
def F (x0 : List (List L)) : ay := (bJ (decide ((0 : Int) ≤ (i64.wrap ((x0.length : Int) - 1)))) (bJ (decide ((i64.wrap ((x0.length : Int) - 1)) < (x0.length : Int))) (ret ((aC.at x0 (Int.toNat (i64.wrap ((x0.length : Int) - 1)))).ae : bq))))
def md (a0 : List aa) : aq := (a0.getD (Int.toNat (i64.wrap ((a0.length : Int) - 1))) aa.zero).ae
def gd (a0 : List aa) : Prop := (bw (2 ^ 21) (fun y : aa => aa.Sm (2 ^ 21) y) a0) ∧ (1 ≤ a0.length)
def R := RR gd md
theorem ai {a0} (h : gd a0) : R (a0.map aa.row) = some (aq.r (md a0)) := aE (a := a0) h
def aK := CN [pL 202] (.agg [.rd (.int .i64), .rd (.int .i64), .rd (.int .i64), .rd (.int .i64), .rd (.int .i64), .rd (.int .i64), .rd (.int .i64), .rd (.int .i64), .rd (.sl 3), .rd (.int .i64), .rd (.sl 3), .rd (.int .i64), .rd (.int .i64), .rd (.sl 3), .rd (.int .i64), .rd (.bool)]) RT.dec R
theorem okF (a0) (hg : gd a0) : F (a0.map aa.row) = ret (aq.r (md a0)) := by
 obtain ⟨H0, HX⟩ := hg
 unfold F md
 try simp only [SS]
 refine af (have := (H0).1; dt) ?_
 refine af (have := (H0).1; dt) ?_
 all_goals exact fz
theorem ab : Valid Tryz.prog Ev 267 aK := W1 10 F mix au okF .nil Tryz.func267
theorem gS {a0 : List aa} (hg : gd a0) : aq.Sm (2 ^ 21) (md a0) := by
 unfold gd at hg; unfold md
 have h1 := hg.1.1
 have h2 := hg.2
 exact (bw.getD hg.1 (by simp (disch := omega) only [Go.IntWalk.i64_in]; omega)).1
end Z152
namespace Z153
def F (x0 : List (List L)) : ay := (call (Z151.R x0) fun v1 => (cond (!v1) (ret (((⟨0, 0, 0, 0, 0, 0, 0, 0, (⟨[], 0⟩ : aO), (⟨[], 0⟩ : aO), 0, (⟨[], 0⟩ : aO), false⟩ : bq), false) : bq × Bool)) (call (Z152.R x0) fun v2 => (call (Z106.R v2) fun v3 => ret ((v3, true) : bq × Bool)))))
def md (a0 : List aa) : aq × Bool := (cond (!(Z151.md a0)) ((⟨0, 0, 0, 0, 0, 0, 0, 0, (⟨[], 0⟩ : aw), (⟨[], 0⟩ : aw), 0, (⟨[], 0⟩ : aw), false⟩ : aq), false) ((Z152.md a0), true))
def gd (a0 : List aa) : Prop := (bw (2 ^ 21) (fun y : aa => aa.Sm (2 ^ 21) y) a0)
def R := RR gd md
theorem ai {a0} (h : gd a0) : R (a0.map aa.row) = some ((aq.r (md a0).1), (md a0).2) := aE (a := a0) h
def aK := CN [pL 202] (.iw [(true, f125), (false, [fB])]) RT.dec R
theorem okF (a0) (hg : gd a0) : F (a0.map aa.row) = ret ((aq.r (md a0).1), (md a0).2) := by
  unfold gd at hg
  have H0 := hg
  unfold F md
  try simp only [SS]
  refine ct (Z151.ai H0) ?_
  refine ak (fun b : aq × Bool => ret (((aq.r b.1), b.2) : bq × Bool)) (fun c1 => ?_) (fun c1 => ?_)
  · all_goals exact fz
  · have dc1 := c1
    try simp only [DC] at dc1
    try have tc1 := Z151.tr (by simpa using c1)
    refine ct (Z152.ai ⟨H0, (by
        have := (H0).1
        first | assumption | exact om)⟩) ?_
    try simp only [SS]
    refine ct (Z106.ai (Z152.gS (a0 := a0) ⟨H0, (by
        have := (H0).1
        first | assumption | exact om)⟩)) ?_
    try simp only [SS]
    all_goals exact fz
theorem ab : Valid Tryz.prog Ev 219 aK := W1 11 F mix au okF (.cons Z151.ab (.cons Z152.ab (.cons Z106.ab .nil))) Tryz.func219
theorem br (a0 : List aa) : md a0 = Z65.md a0 := by
 unfold md Z65.md
 first
 | (simp only [Z151.br]; done)
 | (simp only [Z151.br]; rfl)
 | rfl
end Z153
namespace Z154
def F (x0 : bq) (x1 : Int) : ay := (call (Z112.R (x1, x0.bL, x0.bF)) fun v1 => ret (v1 : Bool))
def md (a0 : aq) (a1 : Int) : Bool := ((Z112.md a1 a0.bL a0.bF) : Bool)
def gd (a0 : aq) (a1 : Int) : Prop := True
def R := RR (p2 gd) (u2 md)
theorem ai {a0 a1} (h : gd a0 a1) : R ((aq.r a0), a1) = some (md a0 a1) := aE (a := (a0, a1)) h
def aK := CN [.agg eA, pI] oB RT.dec R
theorem okF (a0) (a1) (hg : gd a0 a1) : F (aq.r a0) a1 = ret (md a0 a1) := by
 unfold F md
 try simp only [SS]
 refine ct (Z112.ai trivial) ?_
 all_goals exact fz
theorem ab : Valid Tryz.prog Ev 220 aK := W2 11 F mix au okF (.cons Z112.ab .nil) Tryz.func220
theorem br (a0 : aq) (a1 : Int) : md a0 a1 = Z72.md a0 a1 := by
 unfold md Z72.md
 first
 | (simp only [Z112.br]; done)
 | (simp only [Z112.br]; rfl)
 | rfl
end Z154
namespace Z155
inductive Pt where
 | p0 (a : List (List L)) (b : Int) (c : Int) (d : List (List L))
def pid : Pt → Nat
 | .p0 .. => 3
def bR : Pt → List V
 | .p0 a b c d => [.own 0, .sl none 5 a, .int .i64 b, .int .i64 c]
def bQ : Pt → List aI
 | .p0 a b c d => [.row 3 d]
def step (J : Pt → ay) : Pt → ay
 | .p0 a b c d => (cond (decide (c < b)) (m2 c (a.length : Int) (bJ (dU (((d.length : Int) + 1) * 8)) (J (.p0 a b (i64.wrap (c + 1)) (d ++ [[L.int (i64.wrap (iu a (Int.toNat c)))]]))))) (ret (d : List (List L))))
def start (J : Pt → ay) (x0 : List (List L)) : ay := J (.p0 x0 (x0.length : Int) 0 [[L.int (x0.length : Int)]])
def live : Nat → Live := fun i => match i with | 3 => [(3, none), (9, none), (10, none), (11, none)] | _ => []
def md (a0 : List Int) : List Int := ([(a0.length : Int)] ++ a0.map (fun (y1 : Int) => (i64.wrap y1)))
def gd (a0 : List Int) : Prop := (bw (2 ^ 38) (fun y : Int => True) a0)
def R := RR gd md
theorem ai {a0} (h : gd a0) : R (a0.map aP) = some ((md a0).map aP) := aE (a := a0) h
def aK := CN [pL 5] (oL 3) RT.dec R
theorem okF (a0) (hg : gd a0) : ∃ n, start (iter step n) (a0.map aP) = ret ((md a0).map aP) := by
  unfold gd at hg
  have H0 := hg
  unfold start md
  try simp only [SS]
  have Bh2 : a0.length ≤ maxLen := (by
      have := (H0).1
      try simp only [maxLen] at *
      omega)
  refine dV (out := (fun b : List Int => ret ((b.map aP) : List (List L)))) (jJ (g := fun (y1 : Int) => (i64.wrap y1)) (z := 0) (t := fun (s3 : List Int) => s3) (s := [(a0.length : Int)])) ?_
  refine dk (p := Pt.p0 (a0.map aP) (a0.length : Int) 0 ([(a0.length : Int)].map aP)) fz ?_
  refine bP (pt := fun (i1 : Nat) (s3 : List Int) => Pt.p0 (a0.map aP) (a0.length : Int) (i1 : Int) (s3.map aP)) (s := ([(a0.length : Int)] : List Int)) (out := (fun b : List Int => ret ((b.map aP) : List (List L)))) (fun (i1 : Nat) (s3 : List Int) => s3.length ≤ [(a0.length : Int)].length + 1 * i1) (fun J i1 s3 h2 hih2 => ?_) (fun s3 hih2 => ?_) (by simp)
  · simp only [step, SS]
    have gr_ := hih2
    try simp only [LN] at gr_
    have := (H0).1
    have bb_ := Bh2
    simp only [maxLen] at bb_
    have := (H0).1
    refine aY.yes (by apply decide_eq_true; omega) ?_
    refine aY.yes ax ?_
    refine aY.yes (aD h2) ?_
    refine aY.yes lm ?_
    refine aY.inl (by
        have g_ := hih2
        try simp only [LN] at g_ ⊢
        first | omega | (simp; done) | (simp; omega)) ?_
    rw [az h2 Bh2]
    all_goals exact fz
  · simp only [step, SS]
    have gr_ := hih2
    try simp only [LN] at gr_
    have := (H0).1
    have := (H0).1
    refine dh (by apply decide_eq_false; omega) ?_
    refine ⟨0, ?_⟩
    all_goals exact fz
theorem ab : Valid Tryz.prog Ev 373 aK := L1 22 pid bR bQ live step start mix au okF .nil Tryz.func373
theorem len (a0 : List Int) : (md a0).length = 1 + a0.length := by simp [md]; omega
theorem br (a0 : List Int) : md a0 = Z73.md a0 := by
 unfold md Z73.md
 first
 | (simp only [id]; done)
 | (simp only [id]; rfl)
 | rfl
end Z155
namespace Z156
def F (x0 : ByteArray) : ay := (bJ (decide ((x0.size : Int) ≤ 140737488355328)) (call (Z155.R (fR x0)) fun v1 => ret (v1 : List (List L))))
def md (a0 : ByteArray) : List Int := (Z155.md (gu a0))
def gd (a0 : ByteArray) : Prop := (a0.size ≤ (2 ^ 21))
def R := RR gd md
theorem ai {a0} (h : gd a0) : R a0 = some ((md a0).map aP) := aE (a := a0) h
def aK := CN [pS] (oL 3) RT.dec R
theorem okF (a0) (hg : gd a0) : F a0 = ret ((md a0).map aP) := by
 unfold gd at hg
 have H0 := hg
 unfold F md
 try simp only [SS]
 refine af (have := H0; dt) ?_
 refine aN ((Z155.md (gu a0)).map aP) (rq (Z155.ai (a0 := (gu a0)) ⟨(have := fm a0; have := H0; om), fun _ _ => trivial⟩)) ?_
 try simp only [SS]
 all_goals exact fz
theorem ab : Valid Tryz.prog Ev 364 aK := W1 6 F mix au okF (.cons Z155.ab .nil) Tryz.func364
theorem len (a0 : ByteArray) : (md a0).length = 1 + a0.size := by simp [md, Z155.len, fm]
theorem br (a0 : ByteArray) : md a0 = Z74.md a0 := by
 unfold md Z74.md
 first
 | (simp only [Z155.br]; done)
 | (simp only [Z155.br]; rfl)
 | rfl
end Z156
namespace Z157
inductive Pt where
 | p0 (a : List (List L)) (b : Int) (c : Int) (d : List (List L))
def pid : Pt → Nat
 | .p0 .. => 3
def bR : Pt → List V
 | .p0 a b c d => [.own 0, .sl none 9 a, .int .i64 b, .int .i64 c]
def bQ : Pt → List aI
 | .p0 a b c d => [.row 3 d]
def step (J : Pt → ay) : Pt → ay
 | .p0 a b c d => (cond (decide (c < b)) (m2 c (a.length : Int) (call (Z156.R (pc a (Int.toNat c))) fun v1 => (bJ (dU (((d.length : Int) + (v1.length : Int)) * 8)) (J (.p0 a b (i64.wrap (c + 1)) (d ++ v1)))))) (ret (d : List (List L))))
def start (J : Pt → ay) (x0 : bA) : ay := (call (Z156.R x0.aV) fun v1 => (bJ (dU (((v1.length : Int) + 3) * 8)) (J (.p0 x0.aU (x0.aU.length : Int) 0 (v1 ++ [[L.int x0.bg], [L.int x0.bE], [L.int (x0.aU.length : Int)]])))))
def live : Nat → Live := fun i => match i with | 3 => [(3, none), (19, none), (20, none), (21, none)] | _ => []
def md (a0 : aj) : List Int := (((Z156.md a0.aV) ++ [a0.bg, a0.bE, (a0.aU.length : Int)]) ++ a0.aU.flatMap (fun (y1 : ByteArray) => (Z156.md y1)))
def gd (a0 : aj) : Prop := (aj.Sm (2 ^ 21) a0)
def R := RR gd md
theorem ai {a0} (h : gd a0) : R (aj.r a0) = some ((md a0).map aP) := aE (a := a0) h
def aK := CN [.agg nM] (oL 3) RT.dec R
theorem okF (a0) (hg : gd a0) : ∃ n, start (iter step n) (aj.r a0) = ret ((md a0).map aP) := by
  unfold gd at hg
  have H0 := hg
  unfold start md
  try simp only [SS]
  refine cx (Z156.ai H0.1) ?_
  try simp only [SS]
  refine eR (have := Z156.len a0.aV; have := H0.1; lm) ?_
  have Bh2 : a0.aU.length ≤ maxLen := (by
      have := (H0.2).1
      try simp only [maxLen] at *
      omega)
  refine dV (out := (fun b : List Int => ret ((b.map aP) : List (List L)))) (nC (g := fun (y1 : ByteArray) => (Z156.md y1)) (z := ⟨#[]⟩) (t := fun (s3 : List Int) => s3) (s := ((Z156.md a0.aV) ++ [a0.bg, a0.bE, (a0.aU.length : Int)]))) ?_
  refine dk (p := Pt.p0 (a0.aU.map cu) (a0.aU.length : Int) 0 (((Z156.md a0.aV) ++ [a0.bg, a0.bE, (a0.aU.length : Int)]).map aP)) fz ?_
  refine bP (pt := fun (i1 : Nat) (s3 : List Int) => Pt.p0 (a0.aU.map cu) (a0.aU.length : Int) (i1 : Int) (s3.map aP)) (s := (((Z156.md a0.aV) ++ [a0.bg, a0.bE, (a0.aU.length : Int)]) : List Int)) (out := (fun b : List Int => ret ((b.map aP) : List (List L)))) (fun (i1 : Nat) (s3 : List Int) => s3.length ≤ 4 + a0.aV.size + i1 * (2 ^ 21 + 1)) (fun J i1 s3 h2 hih2 => ?_) (fun s3 hih2 => ?_) (by
      have := (H0.2).1
      have := Z156.len a0.aV
      have := H0.1
      try simp only [LN]
      try simp
      try omega)
  · simp only [step, SS]
    have gr_ := hih2
    try simp only [LN] at gr_
    have := H0.1
    have bb_ := Bh2
    simp only [maxLen] at bb_
    have := (H0.2).1
    refine aY.yes (by apply decide_eq_true; omega) ?_
    refine aY.yes ax ?_
    refine aY.yes (aD h2) ?_
    refine cr (Z156.ai (bw.getD (z := ⟨#[]⟩) H0.2 h2)) ?_
    try simp only [SS]
    refine aY.yes (have := Z156.len (a0.aU.getD i1 ⟨#[]⟩); have := (bw.getD (z := ⟨#[]⟩) H0.2 h2); lm) ?_
    refine aY.inl (by
        have := Z156.len (a0.aU.getD i1 ⟨#[]⟩)
        have := (bw.getD (z := ⟨#[]⟩) H0.2 h2)
        have g_ := hih2
        try simp only [LN] at g_ ⊢
        first | omega | (simp; done) | (simp; omega)) ?_
    rw [az h2 Bh2]
    all_goals exact fz
  · simp only [step, SS]
    have gr_ := hih2
    try simp only [LN] at gr_
    have := H0.1
    have := (H0.2).1
    refine dh (by apply decide_eq_false; omega) ?_
    refine ⟨0, ?_⟩
    all_goals exact fz
theorem ab : Valid Tryz.prog Ev 339 aK := L1 31 pid bR bQ live step start mix au okF (.cons Z156.ab .nil) Tryz.func339
theorem gS {a0 : aj} (hg : gd a0) : bw (2 ^ 43 - 1) (fun y : Int => True) (md a0) := by
 unfold gd at hg
 refine ⟨?_, fun _ _ => trivial⟩
 unfold md
 have h1 := jE (xs := a0.aU) (g := fun y => Z156.md y) (n := 2 ^ 21 + 1) (fun x hx => by rw [Z156.len]; have := hg.2.2 x hx; omega)
 have h2 := hg.1
 have h3 := hg.2.1
 have h4 := Z156.len a0.aV
 simp only [List.length_append, List.length_cons, List.length_nil]
 omega
theorem br (a0 : aj) : md a0 = Z75.md a0 := by
 unfold md Z75.md
 first
 | (simp only [Z156.br]; done)
 | (simp only [Z156.br]; rfl)
 | rfl
end Z157
namespace Z158
def F (x0 : bA) : ay := (call (Z157.R x0) fun v1 => (bJ (dU (((1 : Int) + (v1.length : Int)) * 8)) (call (Z124.R ([[L.int 227]] ++ v1)) fun v2 => ret (v2 : Int))))
def md (a0 : aj) : Int := ((Z124.md ([227] ++ (Z157.md a0))) : Int)
def gd (a0 : aj) : Prop := (aj.Sm (2 ^ 21) a0)
def R := RR gd md
theorem ai {a0} (h : gd a0) : R (aj.r a0) = some (md a0) := aE (a := a0) h
def aK := CN [.agg nM] oI RT.dec R
theorem okF (a0) (hg : gd a0) : F (aj.r a0) = ret (md a0) := by
 unfold gd at hg
 have H0 := hg
 unfold F md
 try simp only [SS]
 refine ct (Z157.ai H0) ?_
 try simp only [SS]
 refine af (have := ((Z157.gS (a0 := a0) H0)).1; lm) ?_
 refine aN (Z124.md ([227] ++ (Z157.md a0))) (rq (Z124.ai (a0 := ([227] ++ (Z157.md a0))) ⟨(have := ((Z157.gS (a0 := a0) H0)).1; om), fun _ _ => trivial⟩)) ?_
 all_goals exact fz
theorem ab : Valid Tryz.prog Ev 310 aK := W1 8 F mix au okF (.cons Z157.ab (.cons Z124.ab .nil)) Tryz.func310
theorem br (a0 : aj) : md a0 = Z76.md a0 := by
 unfold md Z76.md
 first
 | (simp only [Z157.br, Z124.br]; done)
 | (simp only [Z157.br, Z124.br]; rfl)
 | rfl
end Z158
namespace Z159
def F (x0 : List (List L)) : ay := (call (Z124.R x0) fun v1 => ret (v1 : Int))
def md (a0 : List Int) : Int := ((Z124.md a0) : Int)
def gd (a0 : List Int) : Prop := (bw (2 ^ 42) (fun y : Int => True) a0)
def R := RR gd md
theorem ai {a0} (h : gd a0) : R (a0.map aP) = some (md a0) := aE (a := a0) h
def aK := CN [pL 3] oI RT.dec R
theorem okF (a0) (hg : gd a0) : F (a0.map aP) = ret (md a0) := by
 unfold gd at hg
 have H0 := hg
 unfold F md
 try simp only [SS]
 refine ct (Z124.ai (H0.mono (by decide) (fun x hx => trivial))) ?_
 all_goals exact fz
theorem ab : Valid Tryz.prog Ev 341 aK := W1 5 F mix au okF (.cons Z124.ab .nil) Tryz.func341
theorem br (a0 : List Int) : md a0 = Z45.md a0 := by
 unfold md
 exact Z124.br a0
end Z159
namespace Z160
def F (x0 : Int) (x1 : Int) : ay := (call (Z159.R [[L.int 229], [L.int x0], [L.int x1]]) fun v1 => ret (v1 : Int))
def md (a0 : Int) (a1 : Int) : Int := ((Z159.md [229, a0, a1]) : Int)
def gd (a0 : Int) (a1 : Int) : Prop := True
def R := RR (p2 gd) (u2 md)
theorem ai {a0 a1} (h : gd a0 a1) : R (a0, a1) = some (md a0 a1) := aE (a := (a0, a1)) h
def aK := CN [pI, pI] oI RT.dec R
theorem okF (a0) (a1) (hg : gd a0 a1) : F a0 a1 = ret (md a0 a1) := by
 unfold F md
 try simp only [SS]
 refine aN (Z159.md [229, a0, a1]) (rq (Z159.ai (a0 := [229, a0, a1]) ⟨(om), fun _ _ => trivial⟩)) ?_
 all_goals exact fz
theorem ab : Valid Tryz.prog Ev 337 aK := W2 9 F mix au okF (.cons Z159.ab .nil) Tryz.func337
theorem br (a0 : Int) (a1 : Int) : md a0 a1 = Z77.md a0 a1 := by
 unfold md Z77.md
 first
 | (simp only [Z159.br]; done)
 | (simp only [Z159.br]; rfl)
 | rfl
end Z160
namespace Z161
inductive Pt where
 | p0 (a : Int) (b : Int) (c : Int) (d : List (List L))
def pid : Pt → Nat
 | .p0 .. => 3
def bR : Pt → List V
 | .p0 a b c d => [.int .i64 a, .int .i64 b, .int .i64 c, .sl none 3 d]
def bQ : Pt → List aI
 | .p0 a b c d => []
def step (J : Pt → ay) : Pt → ay
 | .p0 a b c d => (cond (decide (c > 1)) (cond (decide ((sI .i64 b 1) ≥ c)) (J (.p0 a (i64.wrap (Int.tdiv b 2)) (i64.wrap (Int.tdiv (i64.wrap (c + 1)) 2)) d)) (cond ((d.length : Int) == 0) (ret ((0, false) : Int × Bool)) (cond ((Int.tmod b 2) == 0) (bJ (decide ((0 : Int) < (d.length : Int))) (call (Z160.R (a, (iu d 0))) fun v1 => (bJ (decide ((1 : Int) ≤ (d.length : Int))) (bJ (decide ((d.length : Int) ≤ (d.length : Int))) (J (.p0 v1 (i64.wrap (Int.tdiv b 2)) (i64.wrap (Int.tdiv (i64.wrap (c + 1)) 2)) (List.take (Int.toNat ((d.length : Int) - 1)) (List.drop 1 d)))))))) (bJ (decide ((0 : Int) < (d.length : Int))) (call (Z160.R ((iu d 0), a)) fun v2 => (bJ (decide ((1 : Int) ≤ (d.length : Int))) (bJ (decide ((d.length : Int) ≤ (d.length : Int))) (J (.p0 v2 (i64.wrap (Int.tdiv b 2)) (i64.wrap (Int.tdiv (i64.wrap (c + 1)) 2)) (List.take (Int.toNat ((d.length : Int) - 1)) (List.drop 1 d))))))))))) (cond (decide ((d.length : Int) > 0)) (ret ((0, false) : Int × Bool)) (ret ((a, true) : Int × Bool))))
def start (J : Pt → ay) (x0 : Int) (x1 : Int) (x2 : Int) (x3 : List (List L)) : ay := (cond (decide (x2 < 1)) (ret ((0, false) : Int × Bool)) (cond (decide (x2 > 12)) (ret ((0, false) : Int × Bool)) (call (Z112.R (x1, 0, (i64.wrap (x2 - 1)))) fun v1 => (cond (!v1) (ret ((0, false) : Int × Bool)) (J (.p0 x0 x1 x2 x3))))))
def live : Nat → Live := fun i => match i with | 3 => [(0, none), (1, none), (2, none), (3, none)] | _ => []
def md (a0 : Int) (a1 : Int) (a2 : Int) (a3 : List Int) : Int × Bool := Z78.md a0 a1 a2 a3
def gd (a0 : Int) (a1 : Int) (a2 : Int) (a3 : List Int) : Prop := bw (2 ^ 38) (fun y : Int => True) a3
def R := RR (p4 gd) (u4 md)
theorem ai {a0 a1 a2 a3} (h : gd a0 a1 a2 a3) : R (a0, a1, a2, (a3.map aP)) = some ((md a0 a1 a2 a3).1, (md a0 a1 a2 a3).2) := aE (a := (a0, a1, a2, a3)) h
def aK := CN [pI, pI, pI, pL 3] (.iw [(false, [fI]), (false, [fB])]) RT.dec R
theorem okF (a0) (a1) (a2) (a3) (hg : gd a0 a1 a2 a3) : ∃ n, start (iter step n) a0 a1 a2 (a3.map aP) = ret ((md a0 a1 a2 a3).1, (md a0 a1 a2 a3).2) := by
  have tm : ∀ b : Int, 0 ≤ b → b ≤ 11 → Int.tmod b 2 = b % 2 := fun b h1 h2 => Int.tmod_eq_emod_of_nonneg h1
  have td : ∀ b : Int, 0 ≤ b → b ≤ 13 → i64.wrap (Int.tdiv b 2) = b / 2 := fun b h1 h2 => by
    rw [Int.tdiv_eq_ediv_of_nonneg h1, Go.IntWalk.i64_in _ (by omega)]
  have t1 : ∀ b : Int, 0 ≤ b → b ≤ 13 → i64.wrap (b + 1) = b + 1 := fun b h1 h2 => Go.IntWalk.i64_in _ (by omega)
  have xr : ∀ b : Int, 0 ≤ b → b ≤ 11 → sI .i64 b 1 = if b % 2 = 0 then b + 1 else b - 1 := by
    intro b h1 h2
    have : b = 0 ∨ b = 1 ∨ b = 2 ∨ b = 3 ∨ b = 4 ∨ b = 5 ∨ b = 6 ∨ b = 7 ∨ b = 8 ∨ b = 9 ∨ b = 10 ∨ b = 11 := by omega
    rcases this with h | h | h | h | h | h | h | h | h | h | h | h <;> subst h <;> decide
  have key : ∀ (k : Nat) (leaf i n : Int) (p : List Int), p.length ≤ 2 ^ 38 → 0 ≤ i → i < n → n ≤ 12 → n ≤ 2 ^ k → ∃ m, iter step m (Pt.p0 leaf i n (p.map aP)) = ret ((Z78.tf (k + 1) leaf i n p).1, (Z78.tf (k + 1) leaf i n p).2) := by
    have fin : ∀ (leaf : Int) (p : List Int) (J : Pt → ay), step J (Pt.p0 leaf 0 1 (p.map aP)) = ret ((if p.isEmpty then (leaf, true) else (0, false)).1, (if p.isEmpty then (leaf, true) else (0, false)).2) := by
      intro leaf p J
      simp only [step, List.length_map]
      refine bZ (by decide) ?_
      cases p with
      | nil => rfl
      | cons x xs => exact af (decide_eq_true (by simp only [List.length_cons]; omega)) rfl
    intro k
    induction k with
    | zero =>
      intro leaf i n p hp h1 h2 h3 h4
      have hn : n = 1 := by omega
      subst hn
      have hi : i = 0 := by omega
      subst hi
      exact ⟨1, (fin leaf p _).trans rfl⟩
    | succ k ih =>
      intro leaf i n p hp h1 h2 h3 h4
      have hk : n ≤ 2 * 2 ^ k := by rw [Int.pow_succ] at h4; omega
      unfold Z78.tf
      by_cases hn : n > 1
      · have e1 := tm i h1 (by omega)
        have e2 := td i h1 (by omega)
        have e3 := t1 n (by omega) (by omega)
        have e4 := td (n + 1) (by omega) (by omega)
        have e6 := xr i h1 (by omega)
        rw [if_pos hn]
        by_cases hc : i % 2 = 1 ∨ i + 1 < n
        · have hx : decide (sI .i64 i 1 ≥ n) = false := by
            rw [e6]
            split
            · exact decide_eq_false (by omega)
            · exact decide_eq_false (by omega)
          rw [if_pos hc]
          cases p with
          | nil =>
            refine ⟨1, ?_⟩
            show step (iter step 0) (Pt.p0 _ _ _ _) = _
            simp only [step, hx]
            exact af (decide_eq_true (by omega)) (bZ rfl (af rfl rfl))
          | cons x xs =>
            simp only [List.length_cons] at hp
            obtain ⟨m, hm⟩ := ih (if i % 2 = 1 then Z77.md x leaf else Z77.md leaf x) (i / 2) ((n + 1) / 2) xs (by omega) (by omega) (by omega) (by omega) (by omega)
            refine ⟨m + 1, ?_⟩
            show step (iter step m) (Pt.p0 _ _ _ _) = _
            have ht : List.take (Int.toNat ((xs.length : Int) + 1 - 1)) (List.drop 1 ((x :: xs).map aP)) = xs.map aP := by
              simp only [List.map_cons, List.drop_succ_cons, List.drop_zero]
              exact List.take_of_length_le (by simp)
            have hl : (((x :: xs).map aP).length : Int) = (xs.length : Int) + 1 := by simp
            simp only [step, hx, e1, e2, e3, e4, ht, hl]
            refine af (decide_eq_true (by omega)) (bZ rfl (bZ (beq_eq_false_iff_ne.2 (by omega)) ?_))
            have hat : iu ((x :: xs).map aP) 0 = x := rfl
            rw [hat]
            by_cases hp : i % 2 = 1
            · rw [if_pos hp] at hm
              rw [hp]
              refine bZ rfl (af (decide_eq_true (by omega)) (aN (Z77.md x leaf) (by have := Z160.ai (a0 := x) (a1 := leaf) trivial; rw [Z160.br] at this; exact this) (af (decide_eq_true (by omega)) (af (decide_eq_true (by omega)) ?_))))
              rw [if_pos rfl]
              exact hm
            · rw [if_neg hp] at hm
              have h0 : i % 2 = 0 := by omega
              rw [h0]
              refine af rfl (af (decide_eq_true (by omega)) (aN (Z77.md leaf x) (by have := Z160.ai (a0 := leaf) (a1 := x) trivial; rw [Z160.br] at this; exact this) (af (decide_eq_true (by omega)) (af (decide_eq_true (by omega)) ?_))))
              rw [if_neg (by omega)]
              exact hm
        · have hx : decide (sI .i64 i 1 ≥ n) = true := by
            rw [e6, if_pos (by omega)]
            exact decide_eq_true (by omega)
          rw [if_neg hc]
          obtain ⟨m, hm⟩ := ih leaf (i / 2) ((n + 1) / 2) p hp (by omega) (by omega) (by omega) (by omega)
          refine ⟨m + 1, ?_⟩
          show step (iter step m) (Pt.p0 _ _ _ _) = _
          simp only [step, hx, e2, e3, e4]
          exact af (decide_eq_true (by omega)) (af rfl hm)
      · have hn1 : n = 1 := by omega
        subst hn1
        have hi : i = 0 := by omega
        subst hi
        refine ⟨1, (fin leaf p _).trans ?_⟩
        rw [if_neg (show ¬ (1 : Int) > 1 by omega)]
  unfold start md Z78.md
  obtain ⟨H3, _⟩ := hg
  by_cases c1 : a2 < 1
  · refine ⟨0, af (decide_eq_true c1) ?_⟩
    rw [show Z39.md a2 1 12 = false from by simp [Z39.md]; omega]; rfl
  refine dh (decide_eq_false c1) ?_
  by_cases c2 : a2 > 12
  · refine ⟨0, af (decide_eq_true c2) ?_⟩
    rw [show Z39.md a2 1 12 = false from by simp [Z39.md]; omega]; rfl
  refine dh (decide_eq_false c2) ?_
  rw [show Z39.md a2 1 12 = true from by simp [Z39.md]; omega]
  simp only [Bool.not_true, cond_false]
  refine dF (Z39.md a1 0 (i64.wrap (a2 - 1))) (by have := Z112.ai (a0 := a1) (a1 := 0) (a2 := i64.wrap (a2 - 1)) trivial; rw [Z112.br] at this; exact this) ?_
  cases hd : Z39.md a1 0 (i64.wrap (a2 - 1))
  · exact ⟨0, rfl⟩
  rw [Go.IntWalk.i64_in _ (by omega)] at hd
  have i2 : 0 ≤ a1 ∧ a1 ≤ a2 - 1 := by simpa [Z39.md] using hd
  exact key 4 a0 a1 a2 a3 H3 (by omega) (by omega) (by omega) (by omega)
theorem ab : Valid Tryz.prog Ev 309 aK := L4 56 pid bR bQ live step start mix au okF (.cons Z112.ab (.cons Z160.ab .nil)) Tryz.func309
theorem br (a0 : Int) (a1 : Int) (a2 : Int) (a3 : List Int) : md a0 a1 a2 a3 = Z78.md a0 a1 a2 a3 := by
 unfold md Z78.md
 first
 | (simp only [Z112.br, Z160.br]; done)
 | (simp only [Z112.br, Z160.br]; rfl)
 | rfl
end Z161
namespace Z162
inductive Pt where
 | p0 (a : ByteArray) (b : Int) (c : Int)
def pid : Pt → Nat
 | .p0 .. => 2
def bR : Pt → List V
 | .p0 a b c => [.str a, .int .i64 b, .int .i64 c]
def bQ : Pt → List aI
 | .p0 a b c => []
def step (J : Pt → ay) : Pt → ay
 | .p0 a b c => (cond (decide (c < b)) (m2 c (a.size : Int) (cond (decide ((db a (Int.toNat c)) ≥ 97)) (cond (decide ((db a (Int.toNat c)) ≤ 122)) (J (.p0 a b (i64.wrap (c + 1)))) (cond (decide ((db a (Int.toNat c)) ≥ 48)) (cond (decide ((db a (Int.toNat c)) ≤ 57)) (J (.p0 a b (i64.wrap (c + 1)))) (cond ((db a (Int.toNat c)) == 45) (cond (decide (c > 0)) (cond (!(decide (c < (i64.wrap ((a.size : Int) - 1))))) (ret (false : Bool)) (J (.p0 a b (i64.wrap (c + 1))))) (ret (false : Bool))) (ret (false : Bool)))) (cond ((db a (Int.toNat c)) == 45) (cond (decide (c > 0)) (cond (!(decide (c < (i64.wrap ((a.size : Int) - 1))))) (ret (false : Bool)) (J (.p0 a b (i64.wrap (c + 1))))) (ret (false : Bool))) (ret (false : Bool))))) (cond (decide ((db a (Int.toNat c)) ≥ 48)) (cond (decide ((db a (Int.toNat c)) ≤ 57)) (J (.p0 a b (i64.wrap (c + 1)))) (cond ((db a (Int.toNat c)) == 45) (cond (decide (c > 0)) (cond (!(decide (c < (i64.wrap ((a.size : Int) - 1))))) (ret (false : Bool)) (J (.p0 a b (i64.wrap (c + 1))))) (ret (false : Bool))) (ret (false : Bool)))) (cond ((db a (Int.toNat c)) == 45) (cond (decide (c > 0)) (cond (!(decide (c < (i64.wrap ((a.size : Int) - 1))))) (ret (false : Bool)) (J (.p0 a b (i64.wrap (c + 1))))) (ret (false : Bool))) (ret (false : Bool)))))) (call (Z112.R ((a.size : Int), 1, 8)) fun v1 => ret (v1 : Bool)))
def start (J : Pt → ay) (x0 : ByteArray) : ay := J (.p0 x0 (x0.size : Int) 0)
def live : Nat → Live := fun i => match i with | 2 => [(0, none), (6, none), (7, none)] | _ => []
def md (a0 : ByteArray) : Bool := (dc (S := Unit) (β := Bool) (fun (i1 : Nat) (s3 : Unit) => (cond (decide ((db a0 i1) ≥ 97)) (cond (decide ((db a0 i1) ≤ 122)) (.inl ()) (cond (decide ((db a0 i1) ≥ 48)) (cond (decide ((db a0 i1) ≤ 57)) (.inl ()) (cond ((db a0 i1) == 45) (cond (decide ((i1 : Int) > 0)) (cond (!(decide ((i1 : Int) < (i64.wrap ((a0.size : Int) - 1))))) (.inr (false : Bool)) (.inl ())) (.inr (false : Bool))) (.inr (false : Bool)))) (cond ((db a0 i1) == 45) (cond (decide ((i1 : Int) > 0)) (cond (!(decide ((i1 : Int) < (i64.wrap ((a0.size : Int) - 1))))) (.inr (false : Bool)) (.inl ())) (.inr (false : Bool))) (.inr (false : Bool))))) (cond (decide ((db a0 i1) ≥ 48)) (cond (decide ((db a0 i1) ≤ 57)) (.inl ()) (cond ((db a0 i1) == 45) (cond (decide ((i1 : Int) > 0)) (cond (!(decide ((i1 : Int) < (i64.wrap ((a0.size : Int) - 1))))) (.inr (false : Bool)) (.inl ())) (.inr (false : Bool))) (.inr (false : Bool)))) (cond ((db a0 i1) == 45) (cond (decide ((i1 : Int) > 0)) (cond (!(decide ((i1 : Int) < (i64.wrap ((a0.size : Int) - 1))))) (.inr (false : Bool)) (.inl ())) (.inr (false : Bool))) (.inr (false : Bool)))))) (fun (s3 : Unit) => ((Z112.md (a0.size : Int) 1 8) : Bool)) a0.size 0 ())
def gd (a0 : ByteArray) : Prop := (a0.size ≤ (2 ^ 21))
def R := RR gd md
theorem ai {a0} (h : gd a0) : R a0 = some (md a0) := aE (a := a0) h
def aK := CN [pS] oB RT.dec R
theorem okF (a0) (hg : gd a0) : ∃ n, start (iter step n) a0 = ret (md a0) := by
  unfold gd at hg
  have H0 := hg
  unfold start md
  try simp only [SS]
  have Bh2 : a0.size ≤ maxLen := (by
      have := H0
      try simp only [maxLen] at *
      omega)
  refine dk (p := Pt.p0 a0 (a0.size : Int) 0) fz ?_
  refine bP (pt := fun (i1 : Nat) (s3 : Unit) => Pt.p0 a0 (a0.size : Int) (i1 : Int)) (s := (() : Unit)) (out := ret) (fun _ _ => True) (fun J i1 s3 h2 hih2 => ?_) (fun s3 hih2 => ?_) trivial
  · simp only [step, SS]
    have bb_ := Bh2
    simp only [maxLen] at bb_
    have := H0
    refine aY.yes (by apply decide_eq_true; omega) ?_
    refine aY.yes ax ?_
    refine aY.yes (aD h2) ?_
    refine aY.bif (fun c4 => ?_) (fun c4 => ?_)
    · refine aY.bif (fun c5 => ?_) (fun c5 => ?_)
      · refine aY.inl trivial ?_
        rw [az h2 Bh2]
        all_goals exact fz
      · refine aY.bif (fun c6 => ?_) (fun c6 => ?_)
        · refine aY.bif (fun c7 => ?_) (fun c7 => ?_)
          · refine aY.inl trivial ?_
            rw [az h2 Bh2]
            all_goals exact fz
          · refine aY.bif (fun c8 => ?_) (fun _ => aY.inr rfl)
            refine aY.bif (fun c9 => ?_) (fun _ => aY.inr rfl)
            refine aY.bif (fun _ => aY.inr rfl) (fun c10 => ?_)
            refine aY.inl trivial ?_
            rw [az h2 Bh2]
            all_goals exact fz
        · refine aY.bif (fun c11 => ?_) (fun _ => aY.inr rfl)
          refine aY.bif (fun c12 => ?_) (fun _ => aY.inr rfl)
          refine aY.bif (fun _ => aY.inr rfl) (fun c13 => ?_)
          refine aY.inl trivial ?_
          rw [az h2 Bh2]
          all_goals exact fz
    · refine aY.bif (fun c14 => ?_) (fun c14 => ?_)
      · refine aY.bif (fun c15 => ?_) (fun c15 => ?_)
        · refine aY.inl trivial ?_
          rw [az h2 Bh2]
          all_goals exact fz
        · refine aY.bif (fun c16 => ?_) (fun _ => aY.inr rfl)
          refine aY.bif (fun c17 => ?_) (fun _ => aY.inr rfl)
          refine aY.bif (fun _ => aY.inr rfl) (fun c18 => ?_)
          refine aY.inl trivial ?_
          rw [az h2 Bh2]
          all_goals exact fz
      · refine aY.bif (fun c19 => ?_) (fun _ => aY.inr rfl)
        refine aY.bif (fun c20 => ?_) (fun _ => aY.inr rfl)
        refine aY.bif (fun _ => aY.inr rfl) (fun c21 => ?_)
        refine aY.inl trivial ?_
        rw [az h2 Bh2]
        all_goals exact fz
  · simp only [step, SS]
    have := H0
    refine dh (by apply decide_eq_false; omega) ?_
    refine cx (Z112.ai trivial) ?_
    refine ⟨0, ?_⟩
    all_goals exact fz
theorem ab : Valid Tryz.prog Ev 206 aK := L1 47 pid bR bQ live step start mix au okF (.cons Z112.ab .nil) Tryz.func206
theorem br (a0 : ByteArray) : md a0 = Z79.md a0 := by
  unfold md Z79.md
  by_cases hl : 1 ≤ a0.size ∧ a0.size ≤ 8
  · have e1 : Z39.md (a0.size : Int) 1 8 = true := by simp [Z39.md]; omega
    simp only [Z112.br, e1]
    have ew : i64.wrap ((a0.size : Int) - 1) = ((a0.size - 1 : Nat) : Int) := by
      rw [Go.IntWalk.i64_in _ (by omega)]; omega
    simp only [ew, cg]
    rw [Bool.eq_iff_iff]
    rw [gP (fun i => (97 ≤ db a0 i ∧ db a0 i ≤ 122) ∨ (48 ≤ db a0 i ∧ db a0 i ≤ 57) ∨ (db a0 i = 45 ∧ 0 < i ∧ i < a0.size - 1)) (fun i hi h => by simp; grind) (fun i hi h => by simp; grind)]
    have e2 := gP (n := a0.size) (f := fun (i4 : Nat) (s6 : Unit) => (cond (decide ((db a0 i4) < 97)) (cond (decide ((db a0 i4) < 48)) (cond ((db a0 i4) != 45) (.inr (false : Bool)) (.inl ())) (cond (decide ((db a0 i4) > 57)) (cond ((db a0 i4) != 45) (.inr (false : Bool)) (.inl ())) (.inl ()))) (cond (decide ((db a0 i4) > 122)) (cond (decide ((db a0 i4) < 48)) (cond ((db a0 i4) != 45) (.inr (false : Bool)) (.inl ())) (cond (decide ((db a0 i4) > 57)) (cond ((db a0 i4) != 45) (.inr (false : Bool)) (.inl ())) (.inl ()))) (.inl ())))) (t := fun _ => true)
      (fun i => (97 ≤ db a0 i ∧ db a0 i ≤ 122) ∨ (48 ≤ db a0 i ∧ db a0 i ≤ 57) ∨ db a0 i = 45) (fun i hi h => by simp; grind) (fun i hi h => by simp; grind)
    have e3 : ∀ b c d : Bool, (cond (!true) false (bif b then false else bif c then false else d)) = true ↔ b = false ∧ c = false ∧ d = true := by intro b c d; cases b <;> cases c <;> simp
    rw [e3, e2]
    simp only [beq_eq_false_iff_ne, ne_eq, and_true]
    constructor
    · intro h
      refine ⟨fun h0 => ?_, fun h0 => ?_, fun i hi => ?_⟩
      · have := h 0 (by omega); omega
      · have := h (a0.size - 1) (by omega); omega
      · have := h i hi; omega
    · intro ⟨h1, h2, h3⟩ i hi
      have := h3 i hi
      by_cases h0 : i = 0
      · subst h0; omega
      · by_cases h9 : i = a0.size - 1
        · subst h9; omega
        · omega
  · have e1 : Z39.md (a0.size : Int) 1 8 = false := by simp [Z39.md]; omega
    simp only [Z112.br, e1]
    refine lY ?_ _ _ _
    intro i s b h
    revert h
    simp only [Bool.cond_eq_ite]
    repeat' split
    all_goals (intro h; first | (cases h; rfl) | cases h)
end Z162
namespace Z163
def F (x0 : ByteArray) : ay := (call (Z162.R x0) fun v1 => ret ((!v1) : Bool))
def md (a0 : ByteArray) : Bool := ((!(Z162.md a0)) : Bool)
def gd (a0 : ByteArray) : Prop := (a0.size ≤ (2 ^ 21))
def R := RR gd md
theorem ai {a0} (h : gd a0) : R a0 = some (md a0) := aE (a := a0) h
def aK := CN [pS] oB RT.dec R
theorem okF (a0) (hg : gd a0) : F a0 = ret (md a0) := by
 unfold gd at hg
 have H0 := hg
 unfold F md
 try simp only [SS]
 refine ct (Z162.ai H0) ?_
 all_goals exact fz
theorem ab : Valid Tryz.prog Ev 205 aK := W1 6 F mix au okF (.cons Z162.ab .nil) Tryz.func205
end Z163
namespace Z164
inductive Pt where
 | p0 (a : List (List L)) (b : Int) (c : Int)
def pid : Pt → Nat
 | .p0 .. => 2
def bR : Pt → List V
 | .p0 a b c => [.sl none 9 a, .fn 205 [], .int .i64 b, .int .i64 c]
def bQ : Pt → List aI
 | .p0 a b c => []
def step (J : Pt → ay) : Pt → ay
 | .p0 a b c => (cond (decide (c < b)) (m2 c (a.length : Int) (call (Z163.R (pc a (Int.toNat c))) fun v1 => (cond v1 (ret (c : Int)) (J (.p0 a b (i64.wrap (c + 1))))))) (ret ((-1) : Int)))
def start (J : Pt → ay) (x0 : List (List L)) : ay := J (.p0 x0 (x0.length : Int) 0)
def live : Nat → Live := fun i => match i with | 2 => [(0, none), (1, none), (7, none), (8, none)] | _ => []
def bO : List fE := [.rd (.sl 9), .fn 205 []]
def res : RP := .one (.rd (.int .i64))
abbrev E : Env := { T := assoc lr, G := cK [(205, Z163.aK)], nt := 19 }
theorem step_eq (I : bY) (p : Pt) : cz E live I (pid p) (bo Tryz.f255) (eN (live (pid p)) (bR p) (bQ p)) (bX E Tryz.f255 res) = step (fun q => I (pid q) (bR q) (bQ q)) p := by
 cases p <;> kernel_rfl
theorem start_eq (I : bY) (ls : List L) : ee E live I (bo Tryz.f255) (cG bO ls) (bX E Tryz.f255 res) = start (fun q => I (pid q) (bR q) (bQ q)) (ls.headD .hole).aG := by kernel_rfl
theorem run_eq (n : Nat) (ls : List L) : ea E live Tryz.f255 res n (cG bO ls) = start (iter step n) (ls.headD .hole).aG := bW (id := pid) (vs := bR) (hs := bQ) (step := step) (start := fun J => start J (ls.headD .hole).aG) step_eq (fun I => start_eq I ls) n
def md (a0 : List ByteArray) : Int := (dy (S := Unit) (β := Int) (fun (i1 : Nat) (y1 : ByteArray) (s3 : Unit) => (cond (Z163.md y1) (.inr ((i1 : Int) : Int)) (.inl ()))) (fun (s3 : Unit) => ((-1) : Int)) 0 a0 ())
def gd (a0 : List ByteArray) : Prop := (bw (2 ^ 21) (fun y : ByteArray => y.size ≤ (2 ^ 21)) a0)
def acc (ls : List L) : List (List L) := (ls.headD .hole).aG
def R : (List (List L)) → Option Int := RR gd md
theorem ai {a0} (h : gd a0) : R (a0.map cu) = some (md a0) := aE (a := a0) h
def aK : fe := CN bO res acc R
theorem okF (a0 : List ByteArray) (hg : gd a0) : ∃ n, start (iter step n) (a0.map cu) = ret ((md a0) : Int) := by
  unfold gd at hg
  have H0 := hg
  unfold start md
  try simp only [SS]
  have Bh2 : a0.length ≤ maxLen := (by
      have := (H0).1
      try simp only [maxLen] at *
      omega)
  refine dV (out := ret) (cV (z := ⟨#[]⟩)) ?_
  refine dk (p := Pt.p0 (a0.map cu) (a0.length : Int) 0) fz ?_
  refine bP (pt := fun (i1 : Nat) (s3 : Unit) => Pt.p0 (a0.map cu) (a0.length : Int) (i1 : Int)) (s := (() : Unit)) (out := ret) (fun _ _ => True) (fun J i1 s3 h2 hih2 => ?_) (fun s3 hih2 => ?_) trivial
  · simp only [step, SS]
    have bb_ := Bh2
    simp only [maxLen] at bb_
    have := (H0).1
    refine aY.yes (by apply decide_eq_true; omega) ?_
    refine aY.yes ax ?_
    refine aY.yes (aD h2) ?_
    refine cr (Z163.ai (bw.getD (z := ⟨#[]⟩) H0 h2)) ?_
    refine aY.bif (fun c4 => ?_) (fun c4 => ?_)
    · refine aY.inr ?_
      all_goals exact fz
    · refine aY.inl trivial ?_
      rw [az h2 Bh2]
      all_goals exact fz
  · simp only [step, SS]
    have := (H0).1
    refine dh (by apply decide_eq_false; omega) ?_
    refine ⟨0, ?_⟩
    all_goals exact fz
theorem ab : Valid Tryz.prog Ev 255 aK := VV (run := fun n x => start (iter step n) x) mix au (.cons Z163.ab .nil) Tryz.func255 (by kernel_rfl) run_eq (fun _ a _ _ hg => okF a hg)
theorem fa (a0 : List ByteArray) : -1 ≤ md a0 ∧ md a0 < (a0.length : Int) := by
 unfold md
 refine iy ?_ _ _
 all_goals
  intro i x s b h
  revert h
  simp only [Bool.cond_eq_ite]
  repeat' split
  all_goals (intro h; first | (cases h; rfl) | cases h)
theorem idx_eq (a0 : List ByteArray) : md a0 = jb (fun y => Z163.md y) 0 a0 := by
 unfold md
 exact gJ
end Z164
namespace Z165
def F (x0 : List (List L)) : ay := (call (Z164.R x0) fun v1 => ret ((decide (v1 ≥ 0)) : Bool))
def bO : List fE := [.rd (.sl 9), .fn 205 []]
def res : RP := .one (.rd (.bool))
def md (a0 : List ByteArray) : Bool := ((decide ((Z164.md a0) ≥ 0)) : Bool)
def gd (a0 : List ByteArray) : Prop := (bw (2 ^ 21) (fun y : ByteArray => y.size ≤ (2 ^ 21)) a0)
def acc (ls : List L) : List (List L) := (ls.headD .hole).aG
def R : (List (List L)) → Option Bool := RR gd md
theorem ai {a0} (h : gd a0) : R (a0.map cu) = some (md a0) := aE (a := a0) h
def aK : fe := CN bO res acc R
theorem okF (a0 : List ByteArray) (hg : gd a0) : F (a0.map cu) = ret ((md a0) : Bool) := by
 unfold gd at hg
 have H0 := hg
 unfold F md
 try simp only [SS]
 refine ct (Z164.ai H0) ?_
 have fv1_ := Z164.fa a0
 all_goals exact fz
theorem ab : Valid Tryz.prog Ev 204 aK := VV (live := fun _ => []) (nt := 9) (run := fun _ x => F x) mix au (.cons Z164.ab .nil) Tryz.func204 (by kernel_rfl) (fun _ _ => by kernel_rfl) (fun _ a _ _ hg => ⟨0, okF a hg⟩)
theorem any_eq (a0 : List ByteArray) : md a0 = a0.any (fun y => Z163.md y) := by
 unfold md
 rw [Z164.idx_eq]
 exact mX
end Z165
namespace Z166
def F (x0 : List (List L)) : ay := (call (Z112.R ((x0.length : Int), 1, 4)) fun v1 => (cond v1 (call (Z165.R x0) fun v2 => ret ((!v2) : Bool)) (ret (false : Bool))))
def md (a0 : List ByteArray) : Bool := (cond (Z112.md (a0.length : Int) 1 4) ((!(Z165.md a0)) : Bool) (false : Bool))
def gd (a0 : List ByteArray) : Prop := (bw (2 ^ 21) (fun y : ByteArray => y.size ≤ (2 ^ 21)) a0)
def R := RR gd md
theorem ai {a0} (h : gd a0) : R (a0.map cu) = some (md a0) := aE (a := a0) h
def aK := CN [pL 9] oB RT.dec R
theorem okF (a0) (hg : gd a0) : F (a0.map cu) = ret (md a0) := by
 unfold gd at hg
 have H0 := hg
 unfold F md
 try simp only [SS]
 refine ct (Z112.ai trivial) ?_
 refine ak ret (fun c1 => ?_) (fun _ => rfl)
 refine ct (Z165.ai H0) ?_
 all_goals exact fz
theorem ab : Valid Tryz.prog Ev 159 aK := W1 11 F mix au okF (.cons Z112.ab (.cons Z165.ab .nil)) Tryz.func159
theorem br (a0 : List ByteArray) : md a0 = Z80.md a0 := by
 unfold md Z80.md
 rw [Z165.any_eq]
 have e := oa (p := fun y => !(Z79.md y)) (b := false) (c := Z39.md (a0.length : Int) 1 4) (xs := a0) (s := ())
 refine Eq.trans ?_ e.symm
 simp only [Z163.md, Z162.br, Z112.br]
 cases a0.any (fun y => !(Z79.md y)) <;> cases Z39.md (a0.length : Int) 1 4 <;> rfl
end Z166
namespace Z167
def F (x0 : bA) : ay := (call (Z162.R x0.aV) fun v1 => (cond (!v1) (ret (false : Bool)) (cond (x0.bg == 1) (call (Z112.R (x0.bE, 0, 999999)) fun v2 => (cond v2 (ret (((x0.aU.length : Int) == 0) : Bool)) (ret (false : Bool)))) (cond (x0.bg == 2) (call (Z113.R x0.bE) fun v3 => (cond v3 (ret (((x0.aU.length : Int) == 0) : Bool)) (ret (false : Bool)))) (cond (x0.bg == 3) (call (Z113.R x0.bE) fun v4 => (cond v4 (call (Z166.R x0.aU) fun v5 => ret (v5 : Bool)) (ret (false : Bool)))) (ret (false : Bool)))))))
def md (a0 : aj) : Bool := (cond (!(Z162.md a0.aV)) (false : Bool) (cond (a0.bg == 1) (cond (Z112.md a0.bE 0 999999) (((a0.aU.length : Int) == 0) : Bool) (false : Bool)) (cond (a0.bg == 2) (cond (Z113.md a0.bE) (((a0.aU.length : Int) == 0) : Bool) (false : Bool)) (cond (a0.bg == 3) (cond (Z113.md a0.bE) ((Z166.md a0.aU) : Bool) (false : Bool)) (false : Bool)))))
def gd (a0 : aj) : Prop := (aj.Sm (2 ^ 21) a0)
def R := RR gd md
theorem ai {a0} (h : gd a0) : R (aj.r a0) = some (md a0) := aE (a := a0) h
def aK := CN [.agg nM] oB RT.dec R
theorem okF (a0) (hg : gd a0) : F (aj.r a0) = ret (md a0) := by
  unfold gd at hg
  have H0 := hg
  unfold F md
  try simp only [SS]
  refine ct (Z162.ai H0.1) ?_
  refine ak ret (fun _ => rfl) (fun c1 => ?_)
  refine ak ret (fun c2 => ?_) (fun c2 => ?_)
  · refine ct (Z112.ai trivial) ?_
    refine ak ret (fun c3 => ?_) (fun _ => rfl)
    all_goals exact fz
  · refine ak ret (fun c4 => ?_) (fun c4 => ?_)
    · refine ct (Z113.ai trivial) ?_
      refine ak ret (fun c5 => ?_) (fun _ => rfl)
      all_goals exact fz
    · refine ak ret (fun c6 => ?_) (fun _ => rfl)
      refine ct (Z113.ai trivial) ?_
      refine ak ret (fun c7 => ?_) (fun _ => rfl)
      refine ct (Z166.ai H0.2) ?_
      all_goals exact fz
theorem ab : Valid Tryz.prog Ev 311 aK := W1 41 F mix au okF (.cons Z162.ab (.cons Z112.ab (.cons Z113.ab (.cons Z166.ab .nil)))) Tryz.func311
theorem br (a0 : aj) : md a0 = Z81.md a0 := by
 unfold md Z81.md
 simp only [Z162.br, Z112.br, Z113.md, Z166.br]
 cases Z79.md a0.aV <;> simp
end Z167
namespace Z168
def F (x0 : Int) (x1 : Int) : ay := (call (Z159.R [[L.int 231], [L.int x0], [L.int x1]]) fun v1 => ret (v1 : Int))
def md (a0 : Int) (a1 : Int) : Int := ((Z159.md [231, a0, a1]) : Int)
def gd (a0 : Int) (a1 : Int) : Prop := True
def R := RR (p2 gd) (u2 md)
theorem ai {a0 a1} (h : gd a0 a1) : R (a0, a1) = some (md a0 a1) := aE (a := (a0, a1)) h
def aK := CN [pI, pI] oI RT.dec R
theorem okF (a0) (a1) (hg : gd a0 a1) : F a0 a1 = ret (md a0 a1) := by
 unfold F md
 try simp only [SS]
 refine aN (Z159.md [231, a0, a1]) (rq (Z159.ai (a0 := [231, a0, a1]) ⟨(om), fun _ _ => trivial⟩)) ?_
 all_goals exact fz
theorem ab : Valid Tryz.prog Ev 312 aK := W2 9 F mix au okF (.cons Z159.ab .nil) Tryz.func312
theorem br (a0 : Int) (a1 : Int) : md a0 a1 = Z82.md a0 a1 := by
 unfold md Z82.md
 first
 | (simp only [Z159.br]; done)
 | (simp only [Z159.br]; rfl)
 | rfl
end Z168
namespace Z169
def F (x0 : Int) (x1 : Int) (x2 : bA) (x3 : cn) : ay := (call (Z158.R x2) fun v1 => (call (Z161.R (v1, x3.cX, x1, x3.aU)) fun v2 => (cond v2.2 (call (Z167.R x2) fun v3 => (cond v3 (call (Z168.R (x1, v2.1)) fun v4 => ret ((v4 == x0) : Bool)) (ret (false : Bool)))) (ret (false : Bool)))))
def md (a0 : Int) (a1 : Int) (a2 : aj) (a3 : aB) : Bool := (cond ((Z161.md (Z158.md a2) a3.cX a1 a3.aU).2) (cond (Z167.md a2) (((Z168.md a1 ((Z161.md (Z158.md a2) a3.cX a1 a3.aU).1)) == a0) : Bool) (false : Bool)) (false : Bool))
def gd (a0 : Int) (a1 : Int) (a2 : aj) (a3 : aB) : Prop := (aj.Sm (2 ^ 21) a2) ∧ (aB.Sm (2 ^ 21) a3)
def R := RR (p4 gd) (u4 md)
theorem ai {a0 a1 a2 a3} (h : gd a0 a1 a2 a3) : R (a0, a1, (aj.r a2), (aB.r a3)) = some (md a0 a1 a2 a3) := aE (a := (a0, a1, a2, a3)) h
def aK := CN [pI, pI, .agg nM, .agg mn] oB RT.dec R
theorem okF (a0) (a1) (a2) (a3) (hg : gd a0 a1 a2 a3) : F a0 a1 (aj.r a2) (aB.r a3) = ret (md a0 a1 a2 a3) := by
 obtain ⟨H2, H3⟩ := hg
 unfold F md
 try simp only [SS]
 refine ct (Z158.ai H2) ?_
 refine ct (Z161.ai (H3.mono (by decide) (fun x hx => trivial))) ?_
 refine ak ret (fun c1 => ?_) (fun _ => rfl)
 refine ct (Z167.ai H2) ?_
 refine ak ret (fun c2 => ?_) (fun _ => rfl)
 refine ct (Z168.ai trivial) ?_
 all_goals exact fz
theorem ab : Valid Tryz.prog Ev 268 aK := W4 34 F mix au okF (.cons Z158.ab (.cons Z161.ab (.cons Z167.ab (.cons Z168.ab .nil)))) Tryz.func268
theorem br (a0 : Int) (a1 : Int) (a2 : aj) (a3 : aB) : md a0 a1 a2 a3 = Z83.md a0 a1 a2 a3 := by
 unfold md Z83.md
 simp only [Z161.br, Z158.br, Z167.br, Z168.br]
 cases Z81.md a2 <;> cases (Z78.md (Z76.md a2) a3.cX a1 a3.aU).2 <;> rfl
end Z169
namespace Z170
inductive Pt where
 | p0 (a : List (List L)) (b : List (List L)) (c : Int) (d : Int)
def pid : Pt → Nat
 | .p0 .. => 4
def bR : Pt → List V
 | .p0 a b c d => [.sl none 9 a, .sl none 9 b, .int .i64 c, .int .i64 d]
def bQ : Pt → List aI
 | .p0 a b c d => []
def step (J : Pt → ay) : Pt → ay
 | .p0 a b c d => (cond (decide (d < c)) (m2 d (a.length : Int) (m2 d (b.length : Int) (cond (!((pc a (Int.toNat d)) == (pc b (Int.toNat d)))) (ret (false : Bool)) (J (.p0 a b c (i64.wrap (d + 1))))))) (ret (true : Bool)))
def start (J : Pt → ay) (x0 : List (List L)) (x1 : List (List L)) : ay := (cond ((x0.length : Int) != (x1.length : Int)) (ret (false : Bool)) (J (.p0 x0 x1 (x0.length : Int) 0)))
def live : Nat → Live := fun i => match i with | 4 => [(0, none), (1, none), (12, none), (13, none)] | _ => []
def md (a0 : List ByteArray) (a1 : List ByteArray) : Bool := (bif ((a0.length : Int) != (a1.length : Int)) then (false : Bool) else (dc (S := Unit) (β := Bool) (fun (i2 : Nat) (s4 : Unit) => (cond (!((a0.getD i2 ⟨#[]⟩) == (a1.getD i2 ⟨#[]⟩))) (.inr (false : Bool)) (.inl ()))) (fun (s4 : Unit) => (true : Bool)) a0.length 0 ()))
def gd (a0 : List ByteArray) (a1 : List ByteArray) : Prop := (bw (2 ^ 21) (fun y : ByteArray => y.size ≤ (2 ^ 21)) a0) ∧ (bw (2 ^ 21) (fun y : ByteArray => y.size ≤ (2 ^ 21)) a1)
def R := RR (p2 gd) (u2 md)
theorem ai {a0 a1} (h : gd a0 a1) : R ((a0.map cu), (a1.map cu)) = some (md a0 a1) := aE (a := (a0, a1)) h
def aK := CN [pL 9, pL 9] oB RT.dec R
theorem okF (a0) (a1) (hg : gd a0 a1) : ∃ n, start (iter step n) (a0.map cu) (a1.map cu) = ret (md a0 a1) := by
  obtain ⟨H0, H1⟩ := hg
  unfold start md
  try simp only [SS]
  refine fw ret (fun _ => ⟨0, rfl⟩) (fun c1 => ?_)
  have dc1 := c1
  try simp only [DC] at dc1
  have Bh3 : a0.length ≤ maxLen := (by
      have := (H0).1
      try simp only [maxLen] at *
      omega)
  refine dk (p := Pt.p0 (a0.map cu) (a1.map cu) (a0.length : Int) 0) fz ?_
  refine bP (pt := fun (i2 : Nat) (s4 : Unit) => Pt.p0 (a0.map cu) (a1.map cu) (a0.length : Int) (i2 : Int)) (s := (() : Unit)) (out := ret) (fun _ _ => True) (fun J i2 s4 h3 hih3 => ?_) (fun s4 hih3 => ?_) trivial
  · simp only [step, SS]
    have bb_ := Bh3
    simp only [maxLen] at bb_
    have := (H0).1
    refine aY.yes (by apply decide_eq_true; omega) ?_
    refine aY.yes ax ?_
    refine aY.yes (aD h3) ?_
    refine aY.yes ax ?_
    refine aY.yes (have := (H1).1; dt) ?_
    refine aY.bif (fun _ => aY.inr rfl) (fun c5 => ?_)
    refine aY.inl trivial ?_
    rw [az h3 Bh3]
    all_goals exact fz
  · simp only [step, SS]
    have := (H0).1
    refine dh (by apply decide_eq_false; omega) ?_
    refine ⟨0, ?_⟩
    all_goals exact fz
theorem ab : Valid Tryz.prog Ev 342 aK := L2 26 pid bR bQ live step start mix au okF .nil Tryz.func342
theorem cp (a0 : List ByteArray) (a1 : List ByteArray) : md a0 a1 = cU a0 a1 := by
 unfold md
 refine iG (⟨#[]⟩) (fun i s h h2 => ?_) (fun s => rfl)
 simp only [bne, dL, bool_beq, dA]
 cases cU _ _ <;> rfl
end Z170
namespace Z171
def F (x0 : bA) (x1 : bA) : ay := (cond (x0.aV == x1.aV) (cond (x0.bg == x1.bg) (cond (x0.bE == x1.bE) (call (Z170.R (x0.aU, x1.aU)) fun v1 => ret (v1 : Bool)) (ret (false : Bool))) (ret (false : Bool))) (ret (false : Bool)))
def md (a0 : aj) (a1 : aj) : Bool := (cond (a0.aV == a1.aV) (cond (a0.bg == a1.bg) (cond (a0.bE == a1.bE) ((Z170.md a0.aU a1.aU) : Bool) (false : Bool)) (false : Bool)) (false : Bool))
def gd (a0 : aj) (a1 : aj) : Prop := (aj.Sm (2 ^ 21) a0) ∧ (aj.Sm (2 ^ 21) a1)
def R := RR (p2 gd) (u2 md)
theorem ai {a0 a1} (h : gd a0 a1) : R ((aj.r a0), (aj.r a1)) = some (md a0 a1) := aE (a := (a0, a1)) h
def aK := CN [.agg nM, .agg nM] oB RT.dec R
theorem okF (a0) (a1) (hg : gd a0 a1) : F (aj.r a0) (aj.r a1) = ret (md a0 a1) := by
 obtain ⟨H0, H1⟩ := hg
 unfold F md
 try simp only [SS]
 refine ak ret (fun c1 => ?_) (fun _ => rfl)
 refine ak ret (fun c2 => ?_) (fun _ => rfl)
 refine ak ret (fun c3 => ?_) (fun _ => rfl)
 refine ct (Z170.ai ⟨H0.2, H1.2⟩) ?_
 all_goals exact fz
theorem ab : Valid Tryz.prog Ev 313 aK := W2 31 F mix au okF (.cons Z170.ab .nil) Tryz.func313
theorem cp (a0 : aj) (a1 : aj) : md a0 a1 = cU a0 a1 := by
 unfold md
 cases a0; cases a1
 rw [Bool.eq_iff_iff]
 simp [ca, dA, aj.mk.injEq, Z170.cp]
 try (constructor <;> (intro h; simp_all))
end Z171
namespace Z172
def F (x0 : cn) (x1 : cn) : ay := (cond (x0.cX == x1.cX) (call (Z143.R (x0.aU, x1.aU)) fun v1 => ret (v1 : Bool)) (ret (false : Bool)))
def md (a0 : aB) (a1 : aB) : Bool := (cond (a0.cX == a1.cX) ((Z143.md a0.aU a1.aU) : Bool) (false : Bool))
def gd (a0 : aB) (a1 : aB) : Prop := (aB.Sm (2 ^ 21) a0) ∧ (aB.Sm (2 ^ 21) a1)
def R := RR (p2 gd) (u2 md)
theorem ai {a0 a1} (h : gd a0 a1) : R ((aB.r a0), (aB.r a1)) = some (md a0 a1) := aE (a := (a0, a1)) h
def aK := CN [.agg mn, .agg mn] oB RT.dec R
theorem okF (a0) (a1) (hg : gd a0 a1) : F (aB.r a0) (aB.r a1) = ret (md a0 a1) := by
 obtain ⟨H0, H1⟩ := hg
 unfold F md
 try simp only [SS]
 refine ak ret (fun c1 => ?_) (fun _ => rfl)
 refine ct (Z143.ai ⟨(H0.mono (by decide) (fun x hx => trivial)), (H1.mono (by decide) (fun x hx => trivial))⟩) ?_
 all_goals exact fz
theorem ab : Valid Tryz.prog Ev 314 aK := W2 17 F mix au okF (.cons Z143.ab .nil) Tryz.func314
theorem cp (a0 : aB) (a1 : aB) : md a0 a1 = cU a0 a1 := by
 unfold md
 cases a0; cases a1
 rw [Bool.eq_iff_iff]
 simp [ca, dA, aB.mk.injEq, Z143.cp]
 try (constructor <;> (intro h; simp_all))
end Z172
namespace Z173
def F (x0 : eI) (x1 : eI) : ay := (cond (x0.cX == x1.cX) (call (Z171.R (x0.av, x1.av)) fun v1 => (cond v1 (call (Z171.R (x0.bm, x1.bm)) fun v2 => (cond v2 (call (Z172.R (x0.cq, x1.cq)) fun v3 => (cond v3 (call (Z172.R (x0.bD, x1.bD)) fun v4 => ret (v4 : Bool)) (ret (false : Bool)))) (ret (false : Bool)))) (ret (false : Bool)))) (ret (false : Bool)))
def md (a0 : bt) (a1 : bt) : Bool := (cond (a0.cX == a1.cX) (cond (Z171.md a0.av a1.av) (cond (Z171.md a0.bm a1.bm) (cond (Z172.md a0.cq a1.cq) ((Z172.md a0.bD a1.bD) : Bool) (false : Bool)) (false : Bool)) (false : Bool)) (false : Bool))
def gd (a0 : bt) (a1 : bt) : Prop := (bt.Sm (2 ^ 21) a0) ∧ (bt.Sm (2 ^ 21) a1)
def R := RR (p2 gd) (u2 md)
theorem ai {a0 a1} (h : gd a0 a1) : R ((bt.r a0), (bt.r a1)) = some (md a0 a1) := aE (a := (a0, a1)) h
def aK := CN [.agg pw, .agg pw] oB RT.dec R
theorem okF (a0) (a1) (hg : gd a0 a1) : F (bt.r a0) (bt.r a1) = ret (md a0 a1) := by
 obtain ⟨H0, H1⟩ := hg
 unfold F md
 try simp only [SS]
 refine ak ret (fun c1 => ?_) (fun _ => rfl)
 refine ct (Z171.ai ⟨H0.1, H1.1⟩) ?_
 refine ak ret (fun c2 => ?_) (fun _ => rfl)
 refine ct (Z171.ai ⟨H0.2.1, H1.2.1⟩) ?_
 refine ak ret (fun c3 => ?_) (fun _ => rfl)
 refine ct (Z172.ai ⟨H0.2.2.1, H1.2.2.1⟩) ?_
 refine ak ret (fun c4 => ?_) (fun _ => rfl)
 refine ct (Z172.ai ⟨H0.2.2.2, H1.2.2.2⟩) ?_
 all_goals exact fz
theorem ab : Valid Tryz.prog Ev 269 aK := W2 38 F mix au okF (.cons Z171.ab (.cons Z172.ab .nil)) Tryz.func269
theorem cp (a0 : bt) (a1 : bt) : md a0 a1 = cU a0 a1 := by
 unfold md
 cases a0; cases a1
 rw [Bool.eq_iff_iff]
 simp [ca, dA, bt.mk.injEq, Z171.cp, Z172.cp]
 try (constructor <;> (intro h; simp_all))
end Z173
namespace Z174
inductive Pt where
 | p0 (a : List (List L)) (b : Int) (c : Int) (d : List (List L))
def pid : Pt → Nat
 | .p0 .. => 3
def bR : Pt → List V
 | .p0 a b c d => [.own 0, .sl none 35 a, .int .i64 b, .int .i64 c]
def bQ : Pt → List aI
 | .p0 a b c d => [.row 3 d]
def step (J : Pt → ay) : Pt → ay
 | .p0 a b c d => (cond (decide (c < b)) (m2 c (a.length : Int) (call (Z158.R (bA.at a (Int.toNat c))) fun v1 => (bJ (dU (((d.length : Int) + 1) * 8)) (J (.p0 a b (i64.wrap (c + 1)) (d ++ [[L.int v1]])))))) (ret (d : List (List L))))
def start (J : Pt → ay) (x0 : List (List L)) : ay := J (.p0 x0 (x0.length : Int) 0 [])
def live : Nat → Live := fun i => match i with | 3 => [(3, some 3), (7, none), (8, none), (9, none)] | _ => []
def md (a0 : List aj) : List Int := (a0.map (fun (y1 : aj) => (Z158.md y1)))
def gd (a0 : List aj) : Prop := (bw (2 ^ 21) (fun y : aj => aj.Sm (2 ^ 21) y) a0)
def R := RR gd md
theorem ai {a0} (h : gd a0) : R (a0.map aj.row) = some ((md a0).map aP) := aE (a := a0) h
def aK := CN [pL 35] (oL 3) RT.dec R
theorem okF (a0) (hg : gd a0) : ∃ n, start (iter step n) (a0.map aj.row) = ret ((md a0).map aP) := by
  unfold gd at hg
  have H0 := hg
  unfold start md
  try simp only [SS]
  have Bh2 : a0.length ≤ maxLen := (by
      have := (H0).1
      try simp only [maxLen] at *
      omega)
  refine dV (out := (fun b : List Int => ret ((b.map aP) : List (List L)))) (mY (g := fun (y1 : aj) => (Z158.md y1)) (z := aj.zero) (t := fun (s3 : List Int) => s3)) ?_
  refine dk (p := Pt.p0 (a0.map aj.row) (a0.length : Int) 0 ([].map aP)) fz ?_
  refine bP (pt := fun (i1 : Nat) (s3 : List Int) => Pt.p0 (a0.map aj.row) (a0.length : Int) (i1 : Int) (s3.map aP)) (s := ([] : List Int)) (out := (fun b : List Int => ret ((b.map aP) : List (List L)))) (fun (i1 : Nat) (s3 : List Int) => s3.length ≤ ([] : List Int).length + 1 * i1) (fun J i1 s3 h2 hih2 => ?_) (fun s3 hih2 => ?_) (by simp)
  · simp only [step, SS]
    have gr_ := hih2
    try simp only [LN] at gr_
    have bb_ := Bh2
    simp only [maxLen] at bb_
    have := (H0).1
    refine aY.yes (by apply decide_eq_true; omega) ?_
    refine aY.yes ax ?_
    refine aY.yes (aD h2) ?_
    refine cr (Z158.ai (bw.getD (z := aj.zero) H0 h2)) ?_
    refine aY.yes lm ?_
    refine aY.inl (by
        have g_ := hih2
        try simp only [LN] at g_ ⊢
        first | omega | (simp; done) | (simp; omega)) ?_
    rw [az h2 Bh2]
    all_goals exact fz
  · simp only [step, SS]
    have gr_ := hih2
    try simp only [LN] at gr_
    have := (H0).1
    refine dh (by apply decide_eq_false; omega) ?_
    refine ⟨0, ?_⟩
    all_goals exact fz
theorem ab : Valid Tryz.prog Ev 305 aK := L1 20 pid bR bQ live step start mix au okF (.cons Z158.ab .nil) Tryz.func305
theorem len (a0 : List aj) : (md a0).length = a0.length := by simp [md]
theorem br (a0 : List aj) : md a0 = Z88.md a0 := by
 unfold md Z88.md
 first
 | (simp only [Z158.br]; done)
 | (simp only [Z158.br]; rfl)
 | rfl
end Z174
namespace Z175
inductive Pt where
 | p0 (a : List (List L)) (b : Int) (c : List (List L))
def pid : Pt → Nat
 | .p0 .. => 3
def bR : Pt → List V
 | .p0 a b c => [.sl none 3 a, .own 0, .int .i64 b]
def bQ : Pt → List aI
 | .p0 a b c => [.row 3 c]
def step (J : Pt → ay) : Pt → ay
 | .p0 a b c => (cond (decide (b < (a.length : Int))) (cond (decide ((i64.wrap (b + 1)) < (a.length : Int))) (m2 b (a.length : Int) (bJ (decide ((0 : Int) ≤ (i64.wrap (b + 1)))) (bJ (decide ((i64.wrap (b + 1)) < (a.length : Int))) (call (Z160.R ((iu a (Int.toNat b)), (iu a (Int.toNat (i64.wrap (b + 1)))))) fun v1 => (bJ (dU (((c.length : Int) + 1) * 8)) (J (.p0 a (i64.wrap (b + 2)) (c ++ [[L.int v1]])))))))) (m2 b (a.length : Int) (bJ (dU (((c.length : Int) + 1) * 8)) (J (.p0 a (i64.wrap (b + 2)) (c ++ [[L.int (iu a (Int.toNat b))]])))))) (ret (c : List (List L))))
def start (J : Pt → ay) (x0 : List (List L)) : ay := J (.p0 x0 0 [])
def live : Nat → Live := fun i => match i with | 3 => [(0, none), (3, some 3), (4, none)] | _ => []
def md (a0 : List Int) : List Int := Z89.md a0
def gd (a0 : List Int) : Prop := bw (2 ^ 38) (fun y : Int => True) a0
def R := RR gd md
theorem ai {a0} (h : gd a0) : R (a0.map aP) = some ((md a0).map aP) := aE (a := a0) h
def aK := CN [pL 3] (oL 3) RT.dec R
theorem okF (a0) (hg : gd a0) : ∃ n, start (iter step n) (a0.map aP) = ret ((md a0).map aP) := by
  obtain ⟨H1, _⟩ := hg
  have key : ∀ (k i : Nat) (c : List Int), i + k = a0.length → c.length ≤ i → ∃ n, iter step n (Pt.p0 (a0.map aP) (i : Int) (c.map aP)) = ret ((c ++ Z89.up (a0.drop i)).map aP : List (List L)) := by
    intro k
    induction k using Nat.strongRecOn with
    | _ k ih =>
    intro i c hi hc
    match k, hi, ih with
    | 0, hi, _ =>
      refine ⟨1, ?_⟩
      show step (iter step 0) (Pt.p0 _ _ _) = _
      simp only [step, List.length_map]
      refine bZ (decide_eq_false (by omega)) ?_
      rw [List.drop_eq_nil_of_le (by omega)]
      simp only [Z89.up, List.append_nil]
    | 1, hi, ih =>
      obtain ⟨n, hn⟩ := ih 0 (by omega) (i + 1) (c ++ [a0.getD i 0]) (by omega) (by simp; omega)
      have h2 : ∃ n, iter step n (Pt.p0 (a0.map aP) (i64.wrap ((i : Int) + 2)) ((c ++ [a0.getD i 0]).map aP)) = ret ((c ++ [a0.getD i 0]).map aP : List (List L)) := by
        refine ⟨1, ?_⟩
        show step (iter step 0) (Pt.p0 _ _ _) = _
        simp only [step, List.length_map]
        refine bZ (decide_eq_false ?_) rfl
        rw [Go.IntWalk.i64_in _ (by omega)]; omega
      obtain ⟨n, hn⟩ := h2
      refine ⟨n + 1, ?_⟩
      show step (iter step n) (Pt.p0 _ _ _) = _
      simp only [step, List.length_map, cg, gn]
      refine af (decide_eq_true (by omega)) (bZ (decide_eq_false ?_) (af (decide_eq_true (by omega)) (af (decide_eq_true (by omega)) (af (iD (by omega)) ?_))))
      · rw [Go.IntWalk.i64_in _ (by omega)]; omega
      · rw [List.map_append] at hn
        refine Eq.trans hn ?_
        rw [List.drop_eq_getElem_cons (by omega), List.drop_eq_nil_of_le (by omega), dx (by omega : i < a0.length)]
        simp only [Z89.up, List.map_append]
    | k + 2, hi, ih =>
      obtain ⟨n, hn⟩ := ih k (by omega) (i + 2) (c ++ [Z77.md (a0.getD i 0) (a0.getD (i + 1) 0)]) (by omega) (by simp; omega)
      refine ⟨n + 1, ?_⟩
      show step (iter step n) (Pt.p0 _ _ _) = _
      have w1 : i64.wrap ((i : Int) + 1) = ((i + 1 : Nat) : Int) := by rw [Go.IntWalk.i64_in _ (by omega)]; omega
      have w2 : i64.wrap ((i : Int) + 2) = ((i + 2 : Nat) : Int) := by rw [Go.IntWalk.i64_in _ (by omega)]; omega
      simp only [step, List.length_map, w1, w2, cg, gn]
      refine af (decide_eq_true (by omega)) (af (decide_eq_true (by omega)) (af (decide_eq_true (by omega)) (af (decide_eq_true (by omega)) (af (decide_eq_true (by omega)) (af (decide_eq_true (by omega)) ?_)))))
      refine aN (Z77.md (a0.getD i 0) (a0.getD (i + 1) 0)) (by have := Z160.ai (a0 := a0.getD i 0) (a1 := a0.getD (i + 1) 0) trivial; rw [Z160.br] at this; exact this) (af (iD (by omega)) ?_)
      rw [List.map_append] at hn
      refine Eq.trans hn ?_
      rw [List.drop_eq_getElem_cons (by omega : i < a0.length), List.drop_eq_getElem_cons (by omega : i + 1 < a0.length), dx (by omega : i < a0.length), dx (by omega : i + 1 < a0.length)]
      simp only [Z89.up, List.append_assoc, List.cons_append, List.nil_append]
  have := key a0.length 0 [] (by omega) (by simp)
  unfold start md Z89.md
  simpa using this
theorem ab : Valid Tryz.prog Ev 336 aK := L1 38 pid bR bQ live step start mix au okF (.cons Z160.ab .nil) Tryz.func336
theorem br (a0 : List Int) : md a0 = Z89.md a0 := by
 unfold md Z89.md
 first
 | (simp only [Z160.br]; done)
 | (simp only [Z160.br]; rfl)
 | rfl
end Z175
namespace Z176
inductive Pt where
 | p0 (a : List (List L))
 | p1 (a : List (List L))
def pid : Pt → Nat
 | .p0 .. => 3
 | .p1 .. => 3
def bR : Pt → List V
 | .p0 a => [.sl none 3 a]
 | .p1 a => [.own 0]
def bQ : Pt → List aI
 | .p0 a => []
 | .p1 a => [.row 3 a]
def step (J : Pt → ay) : Pt → ay
 | .p0 a => (cond (decide ((a.length : Int) > 1)) (call (Z175.R a) fun v1 => J (.p1 v1)) (bJ (decide ((0 : Int) < (a.length : Int))) (ret ((iu a 0) : Int))))
 | .p1 a => (cond (decide ((a.length : Int) > 1)) (call (Z175.R a) fun v1 => J (.p1 v1)) (bJ (decide ((0 : Int) < (a.length : Int))) (ret ((iu a 0) : Int))))
def start (J : Pt → ay) (x0 : List (List L)) : ay := (cond ((x0.length : Int) == 0) (call (Z159.R [[L.int 229]]) fun v1 => ret (v1 : Int)) (J (.p0 x0)))
def live : Nat → Live := fun i => match i with | 3 => [(0, none)] | _ => []
def md (a0 : List Int) : Int := Z90.md a0
def gd (a0 : List Int) : Prop := bw (2 ^ 38) (fun y : Int => True) a0
def R := RR gd md
theorem ai {a0} (h : gd a0) : R (a0.map aP) = some (md a0) := aE (a := a0) h
def aK := CN [pL 3] oI RT.dec R
theorem okF (a0) (hg : gd a0) : ∃ n, start (iter step n) (a0.map aP) = ret (md a0) := by
  have one : ∀ (l : List Int) (r : Int) (n : Nat), bw (2 ^ 38) (fun y : Int => True) l → 0 < l.length → (if l.length > 1 then iter step n (Pt.p1 ((Z89.up l).map aP)) = ret r else ret (l.getD 0 0 : Int) = ret r) → step (iter step n) (Pt.p0 (l.map aP)) = ret r ∧ step (iter step n) (Pt.p1 (l.map aP)) = ret r := by
    intro l r n hl hp h
    simp only [step, List.length_map, gn]
    by_cases h1 : l.length > 1
    · rw [if_pos h1] at h
      have hx : ∀ y : ay, (cond (decide ((l.length : Int) > 1)) (call (Z175.R (l.map aP)) (fun v1 => iter step n (Pt.p1 v1))) y) = ret r := fun y =>
        af (decide_eq_true (by omega)) (aN ((Z89.up l).map aP) (Z175.ai hl) h)
      exact ⟨hx _, hx _⟩
    · rw [if_neg h1] at h
      have hx : ∀ y : ay, (cond (decide ((l.length : Int) > 1)) y (cond (decide ((0 : Int) < (l.length : Int))) (ret (l.getD 0 0 : Int)) none)) = ret r := fun y =>
        bZ (decide_eq_false (by omega)) (af (decide_eq_true (by omega)) h)
      exact ⟨hx _, hx _⟩
  have key : ∀ (k : Nat) (l : List Int), bw (2 ^ 38) (fun y : Int => True) l → 0 < l.length → l.length ≤ k + 1 → ∃ n, step (iter step n) (Pt.p0 (l.map aP)) = ret (Z90.top k l) ∧ step (iter step n) (Pt.p1 (l.map aP)) = ret (Z90.top k l) := by
    intro k
    induction k with
    | zero =>
      intro l hl hp hk
      exact ⟨0, one l _ 0 hl hp (by rw [if_neg (by omega)]; rfl)⟩
    | succ k ih =>
      intro l hl hp hk
      by_cases h1 : l.length > 1
      · have hu := Z89.lE l
        have hl1 := hl.1
        obtain ⟨n, _, hn⟩ := ih (Z89.up l) ⟨by omega, fun _ _ => trivial⟩ (by omega) (by omega)
        refine ⟨n + 1, one l _ (n + 1) hl hp ?_⟩
        rw [if_pos h1]
        refine Eq.trans hn ?_
        unfold Z90.top
        rw [if_pos h1]
        cases k <;> rfl
      · refine ⟨0, one l _ 0 hl hp ?_⟩
        rw [if_neg h1]
        unfold Z90.top
        rw [if_neg h1]
  unfold md Z90.md
  unfold start
  simp only [List.length_map]
  by_cases h0 : a0.length = 0
  · have e : ((a0.length : Int) == 0) = true := by simpa using List.length_eq_zero_iff.1 h0
    refine ⟨0, ?_⟩
    rw [e]
    refine aN (Z45.md [229]) (by have := Z159.ai (a0 := [229]) ⟨by decide, fun _ _ => trivial⟩; rw [Z159.br] at this; exact this) ?_
    rw [if_pos h0]
  · have e : ((a0.length : Int) == 0) = false := beq_eq_false_iff_ne.2 (by omega)
    obtain ⟨n, hn, _⟩ := key a0.length a0 hg (by omega) (by omega)
    refine ⟨n + 1, ?_⟩
    rw [e, if_neg h0]
    exact hn
theorem ab : Valid Tryz.prog Ev 343 aK := L1 16 pid bR bQ live step start mix au okF (.cons Z159.ab (.cons Z175.ab .nil)) Tryz.func343
theorem br (a0 : List Int) : md a0 = Z90.md a0 := by
 unfold md Z90.md
 first
 | (simp only [Z159.br, Z175.br]; done)
 | (simp only [Z159.br, Z175.br]; rfl)
 | rfl
end Z176
namespace Z177
def F (x0 : List (List L)) : ay := (call (Z174.R x0) fun v1 => (call (Z176.R v1) fun v2 => (call (Z168.R ((x0.length : Int), v2)) fun v3 => ret (v3 : Int))))
def md (a0 : List aj) : Int := ((Z168.md (a0.length : Int) (Z176.md (Z174.md a0))) : Int)
def gd (a0 : List aj) : Prop := (bw (2 ^ 21) (fun y : aj => aj.Sm (2 ^ 21) y) a0)
def R := RR gd md
theorem ai {a0} (h : gd a0) : R (a0.map aj.row) = some (md a0) := aE (a := a0) h
def aK := CN [pL 35] oI RT.dec R
theorem okF (a0) (hg : gd a0) : F (a0.map aj.row) = ret (md a0) := by
 unfold gd at hg
 have H0 := hg
 unfold F md
 try simp only [SS]
 refine ct (Z174.ai H0) ?_
 try simp only [SS]
 refine ct (Z176.ai ⟨(have := Z174.len a0; have := (H0).1; om), fun _ _ => trivial⟩) ?_
 refine ct (Z168.ai trivial) ?_
 all_goals exact fz
theorem ab : Valid Tryz.prog Ev 315 aK := W1 9 F mix au okF (.cons Z174.ab (.cons Z176.ab (.cons Z168.ab .nil))) Tryz.func315
theorem br (a0 : List aj) : md a0 = Z91.md a0 := by
 unfold md Z91.md
 first
 | (simp only [Z174.br, Z176.br, Z168.br]; done)
 | (simp only [Z174.br, Z176.br, Z168.br]; rfl)
 | rfl
end Z177
namespace Z178
def F (x0 : bA) : ay := (call (Z171.R (x0, (⟨(⟨#[]⟩ : ByteArray), 0, 0, []⟩ : bA))) fun v1 => ret (v1 : Bool))
def md (a0 : aj) : Bool := ((Z171.md a0 (⟨((⟨#[]⟩ : ByteArray) : ByteArray), 0, 0, []⟩ : aj)) : Bool)
def gd (a0 : aj) : Prop := (aj.Sm (2 ^ 21) a0)
def R := RR gd md
theorem ai {a0} (h : gd a0) : R (aj.r a0) = some (md a0) := aE (a := a0) h
def aK := CN [.agg nM] oB RT.dec R
theorem okF (a0) (hg : gd a0) : F (aj.r a0) = ret (md a0) := by
 unfold gd at hg
 have H0 := hg
 unfold F md
 try simp only [SS]
 refine ct (Z171.ai (a1 := (⟨((⟨#[]⟩ : ByteArray) : ByteArray), 0, 0, []⟩ : aj)) ⟨H0, ⟨(by decide), bw.nil⟩⟩) ?_
 all_goals exact fz
theorem ab : Valid Tryz.prog Ev 271 aK := W1 6 F mix au okF (.cons Z171.ab .nil) Tryz.func271
end Z178
namespace Z179
def F (x0 : cn) : ay := (call (Z172.R (x0, (⟨0, []⟩ : cn))) fun v1 => ret (v1 : Bool))
def md (a0 : aB) : Bool := ((Z172.md a0 (⟨0, []⟩ : aB)) : Bool)
def gd (a0 : aB) : Prop := (aB.Sm (2 ^ 21) a0)
def R := RR gd md
theorem ai {a0} (h : gd a0) : R (aB.r a0) = some (md a0) := aE (a := a0) h
def aK := CN [.agg mn] oB RT.dec R
theorem okF (a0) (hg : gd a0) : F (aB.r a0) = ret (md a0) := by
 unfold gd at hg
 have H0 := hg
 unfold F md
 try simp only [SS]
 refine ct (Z172.ai (a1 := (⟨0, []⟩ : aB)) ⟨H0, bw.nil⟩) ?_
 all_goals exact fz
theorem ab : Valid Tryz.prog Ev 272 aK := W1 6 F mix au okF (.cons Z172.ab .nil) Tryz.func272
end Z179
namespace Z180
def F (x0 : Int) (x1 : Int) (x2 : bA) (x3 : cn) (x4 : Int) : ay := (call (Z112.R (x4, 0, (i64.wrap (x1 - 1)))) fun v1 => (cond (!v1) (call (Z178.R x2) fun v2 => (cond v2 (call (Z179.R x3) fun v3 => ret (v3 : Bool)) (ret (false : Bool)))) (call (Z169.R (x0, x1, x2, x3)) fun v4 => (cond v4 (ret ((x3.cX == x4) : Bool)) (ret (false : Bool))))))
def md (a0 : Int) (a1 : Int) (a2 : aj) (a3 : aB) (a4 : Int) : Bool := (cond (!(Z112.md a4 0 (i64.wrap (a1 - 1)))) (cond (Z178.md a2) ((Z179.md a3) : Bool) (false : Bool)) (cond (Z169.md a0 a1 a2 a3) ((a3.cX == a4) : Bool) (false : Bool)))
def gd (a0 : Int) (a1 : Int) (a2 : aj) (a3 : aB) (a4 : Int) : Prop := (aj.Sm (2 ^ 21) a2) ∧ (aB.Sm (2 ^ 21) a3)
def R := RR (p5 gd) (u5 md)
theorem ai {a0 a1 a2 a3 a4} (h : gd a0 a1 a2 a3 a4) : R (a0, a1, (aj.r a2), (aB.r a3), a4) = some (md a0 a1 a2 a3 a4) := aE (a := (a0, a1, a2, a3, a4)) h
def aK := CN [pI, pI, .agg nM, .agg mn, pI] oB RT.dec R
theorem okF (a0) (a1) (a2) (a3) (a4) (hg : gd a0 a1 a2 a3 a4) : F a0 a1 (aj.r a2) (aB.r a3) a4 = ret (md a0 a1 a2 a3 a4) := by
  obtain ⟨H2, H3⟩ := hg
  unfold F md
  try simp only [SS]
  refine ct (Z112.ai trivial) ?_
  refine ak ret (fun c1 => ?_) (fun c1 => ?_)
  · refine ct (Z178.ai H2) ?_
    refine ak ret (fun c2 => ?_) (fun _ => rfl)
    refine ct (Z179.ai H3) ?_
    all_goals exact fz
  · refine ct (Z169.ai ⟨H2, H3⟩) ?_
    refine ak ret (fun c3 => ?_) (fun _ => rfl)
    all_goals exact fz
theorem ab : Valid Tryz.prog Ev 316 aK := W5 33 F mix au okF (.cons Z112.ab (.cons Z178.ab (.cons Z179.ab (.cons Z169.ab .nil)))) Tryz.func316
end Z180
namespace Z181
set_option maxHeartbeats 1000000 in
set_option maxRecDepth 100000 in
open Go.RowKit in
theorem calls (a b : ByteArray) (w : World) : Calls Tryz.prog 365 #[.string a, .string b] w fun e w' => e = .returned (.int .i64 (Lib.compareBytes a.data.toList b.data.toList)) ∧ w' = w := by
 go_enter Tryz.func365, Tryz.ntmps365
 go_wp2
 rw [run_callFunc_extern Tryz.func374 (by kernel_rfl) (by kernel_rfl) (by kernel_rfl) (e := Extern.BytealgCompare.compare) (by kernel_rfl), Lib.run_compareString]
 simp only [Result.andThen]
 rw [Oper.upon_value]
 go_wp2
 go_ret
 exact ⟨rfl, rfl⟩
def md (a0 a1 : ByteArray) : Int := Lib.compareBytes a0.data.toList a1.data.toList
def R (x : ByteArray × ByteArray) : Option Int := some (md x.1 x.2)
theorem ai {a0 a1 : ByteArray} (_ : True) : R (a0, a1) = some (md a0 a1) := rfl
def km : List L → Option (List L)
 | [y0, y1] => (R (y0.toStr, y1.toStr)).map RT.enc
 | _ => none
def aK : fe := ⟨[.rd .str, .rd .str], .one (.rd (.int .i64)), km⟩
theorem ab : Valid Tryz.prog Ev 365 aK := by
  refine qA ⟨Tryz.f365, Tryz.func365, by kernel_rfl, by kernel_rfl⟩ rfl (fun _ => rfl) fun ls r w vs Z hs hf => ?_
  simp only [aK] at hs
  unfold km at hs
  split at hs
  · rename_i a b
    cases hf with
    | cons h1 ht =>
      cases ht with
      | cons h2 ht =>
        cases ht
        have e1 : _ = Value.string a.toStr := h1
        have e2 : _ = Value.string b.toStr := h2
        subst e1; subst e2
        refine (calls a.toStr b.toStr w).mono fun e w' ⟨h3, h4⟩ => ⟨_, h3, h4, ?_⟩
        injection hs with hs
        subst hs
        rfl
  · cases hs
end Z181
namespace Z182
def F (x0 : ByteArray) (x1 : ByteArray) : ay := (call (Z181.R (x0, x1)) fun v1 => ret (v1 : Int))
def md (a0 : ByteArray) (a1 : ByteArray) : Int := ((Z181.md a0 a1) : Int)
def gd (a0 : ByteArray) (a1 : ByteArray) : Prop := True
def R := RR (p2 gd) (u2 md)
theorem ai {a0 a1} (h : gd a0 a1) : R (a0, a1) = some (md a0 a1) := aE (a := (a0, a1)) h
def aK := CN [pS, pS] oI RT.dec R
theorem okF (a0) (a1) (hg : gd a0 a1) : F a0 a1 = ret (md a0 a1) := by
 unfold F md
 try simp only [SS]
 refine ct (Z181.ai trivial) ?_
 all_goals exact fz
theorem ab : Valid Tryz.prog Ev 344 aK := W2 8 F mix au okF (.cons Z181.ab .nil) Tryz.func344
end Z182
namespace Z183
def F (x0 : ByteArray) (x1 : ByteArray) : ay := (call (Z182.R (x0, x1)) fun v1 => ret (v1 : Int))
def md (a0 : ByteArray) (a1 : ByteArray) : Int := ((Z182.md a0 a1) : Int)
def gd (a0 : ByteArray) (a1 : ByteArray) : Prop := True
def R := RR (p2 gd) (u2 md)
theorem ai {a0 a1} (h : gd a0 a1) : R (a0, a1) = some (md a0 a1) := aE (a := (a0, a1)) h
def aK := CN [pS, pS] oI RT.dec R
theorem okF (a0) (a1) (hg : gd a0 a1) : F a0 a1 = ret (md a0 a1) := by
 unfold F md
 try simp only [SS]
 refine ct (Z182.ai trivial) ?_
 all_goals exact fz
theorem ab : Valid Tryz.prog Ev 317 aK := W2 8 F mix au okF (.cons Z182.ab .nil) Tryz.func317
theorem cmp : ∀ a b : List UInt8, Lib.compareBytes a b = (cond (Op.bytesLess a b) ((-1) : Int) (cond (!((Op.bytesLess a b) || (a == b))) (1 : Int) (0 : Int)))
  | [], [] => by simp [Lib.compareBytes, Op.bytesLess]
  | [], _ :: _ => by simp [Lib.compareBytes, Op.bytesLess]
  | _ :: _, [] => by simp [Lib.compareBytes, Op.bytesLess]
  | a :: xs, b :: ys => by
    simp only [Lib.compareBytes, Op.bytesLess]
    rw [cmp xs ys]
    by_cases h1 : a < b
    · simp [h1]
    · by_cases h2 : b < a
      · have hne : a ≠ b := fun e => by subst e; exact h1 h2
        have hb : (a == b) = false := beq_eq_false_iff_ne.2 hne
        simp [h1, h2, hb, hne]
      · have he : a = b := by
          have := UInt8.lt_or_eq_of_le (UInt8.not_lt.1 h1)
          rcases this with h | h
          · exact (h2 h).elim
          · exact h.symm
        subst he
        simp [h1]
theorem br (a0 : ByteArray) (a1 : ByteArray) : md a0 a1 = Z93.md a0 a1 := by
 unfold md Z93.md Z182.md Z181.md
 rw [cmp, ByteArray.toList_eq, ByteArray.toList_eq]
end Z183
namespace Z184
def F (x0 : Int) (x1 : Int) (x2 : ByteArray) (x3 : eI) : ay := (call (Z162.R x2) fun v1 => (cond (!v1) (ret (false : Bool)) (call (Z112.R (x3.cX, 0, x1)) fun v2 => (cond (!v2) (ret (false : Bool)) (cond (x1 == 0) (call (Z177.R []) fun v3 => (cond (x0 != v3) (ret (false : Bool)) (call (Z180.R (x0, x1, x3.av, x3.cq, (i64.wrap (x3.cX - 1)))) fun v4 => (cond (!v4) (ret (false : Bool)) (call (Z180.R (x0, x1, x3.bm, x3.bD, x3.cX)) fun v5 => (cond (!v5) (ret (false : Bool)) (cond (x3.cX == 0) (cond (x3.cX == x1) (ret (true : Bool)) (call (Z183.R (x3.bm.aV, x2)) fun v6 => ret ((decide (v6 > 0)) : Bool))) (call (Z183.R (x3.av.aV, x2)) fun v7 => (cond (decide (v7 < 0)) (cond (x3.cX == x1) (ret (true : Bool)) (call (Z183.R (x3.bm.aV, x2)) fun v8 => ret ((decide (v8 > 0)) : Bool))) (ret (false : Bool))))))))))) (call (Z180.R (x0, x1, x3.av, x3.cq, (i64.wrap (x3.cX - 1)))) fun v9 => (cond (!v9) (ret (false : Bool)) (call (Z180.R (x0, x1, x3.bm, x3.bD, x3.cX)) fun v10 => (cond (!v10) (ret (false : Bool)) (cond (x3.cX == 0) (cond (x3.cX == x1) (ret (true : Bool)) (call (Z183.R (x3.bm.aV, x2)) fun v11 => ret ((decide (v11 > 0)) : Bool))) (call (Z183.R (x3.av.aV, x2)) fun v12 => (cond (decide (v12 < 0)) (cond (x3.cX == x1) (ret (true : Bool)) (call (Z183.R (x3.bm.aV, x2)) fun v13 => ret ((decide (v13 > 0)) : Bool))) (ret (false : Bool))))))))))))))
def md (a0 : Int) (a1 : Int) (a2 : ByteArray) (a3 : bt) : Bool := (cond (!(Z162.md a2)) (false : Bool) (cond (!(Z112.md a3.cX 0 a1)) (false : Bool) (cond (a1 == 0) (cond (a0 != (Z177.md [])) (false : Bool) (cond (!(Z180.md a0 a1 a3.av a3.cq (i64.wrap (a3.cX - 1)))) (false : Bool) (cond (!(Z180.md a0 a1 a3.bm a3.bD a3.cX)) (false : Bool) (cond (a3.cX == 0) (cond (a3.cX == a1) (true : Bool) ((decide ((Z183.md a3.bm.aV a2) > 0)) : Bool)) (cond (decide ((Z183.md a3.av.aV a2) < 0)) (cond (a3.cX == a1) (true : Bool) ((decide ((Z183.md a3.bm.aV a2) > 0)) : Bool)) (false : Bool)))))) (cond (!(Z180.md a0 a1 a3.av a3.cq (i64.wrap (a3.cX - 1)))) (false : Bool) (cond (!(Z180.md a0 a1 a3.bm a3.bD a3.cX)) (false : Bool) (cond (a3.cX == 0) (cond (a3.cX == a1) (true : Bool) ((decide ((Z183.md a3.bm.aV a2) > 0)) : Bool)) (cond (decide ((Z183.md a3.av.aV a2) < 0)) (cond (a3.cX == a1) (true : Bool) ((decide ((Z183.md a3.bm.aV a2) > 0)) : Bool)) (false : Bool))))))))
def gd (a0 : Int) (a1 : Int) (a2 : ByteArray) (a3 : bt) : Prop := (a2.size ≤ (2 ^ 21)) ∧ (bt.Sm (2 ^ 21) a3)
def R := RR (p4 gd) (u4 md)
theorem ai {a0 a1 a2 a3} (h : gd a0 a1 a2 a3) : R (a0, a1, a2, (bt.r a3)) = some (md a0 a1 a2 a3) := aE (a := (a0, a1, a2, a3)) h
def aK := CN [pI, pI, pS, .agg pw] oB RT.dec R
theorem okF (a0) (a1) (a2) (a3) (hg : gd a0 a1 a2 a3) : F a0 a1 a2 (bt.r a3) = ret (md a0 a1 a2 a3) := by
  obtain ⟨H2, H3⟩ := hg
  unfold F md
  try simp only [SS]
  refine ct (Z162.ai H2) ?_
  refine ak ret (fun _ => rfl) (fun c1 => ?_)
  refine ct (Z112.ai trivial) ?_
  refine ak ret (fun _ => rfl) (fun c2 => ?_)
  refine ak ret (fun c3 => ?_) (fun c3 => ?_)
  · refine aN (Z177.md []) (rq (Z177.ai (a0 := []) bw.nil)) ?_
    refine ak ret (fun _ => rfl) (fun c4 => ?_)
    refine ct (Z180.ai ⟨H3.1, H3.2.2.1⟩) ?_
    refine ak ret (fun _ => rfl) (fun c5 => ?_)
    refine ct (Z180.ai ⟨H3.2.1, H3.2.2.2⟩) ?_
    refine ak ret (fun _ => rfl) (fun c6 => ?_)
    refine ak ret (fun c7 => ?_) (fun c7 => ?_)
    · refine ak ret (fun _ => rfl) (fun c8 => ?_)
      refine ct (Z183.ai trivial) ?_
      all_goals exact fz
    · refine ct (Z183.ai trivial) ?_
      refine ak ret (fun c9 => ?_) (fun _ => rfl)
      refine ak ret (fun _ => rfl) (fun c10 => ?_)
      refine ct (Z183.ai trivial) ?_
      all_goals exact fz
  · refine ct (Z180.ai ⟨H3.1, H3.2.2.1⟩) ?_
    refine ak ret (fun _ => rfl) (fun c11 => ?_)
    refine ct (Z180.ai ⟨H3.2.1, H3.2.2.2⟩) ?_
    refine ak ret (fun _ => rfl) (fun c12 => ?_)
    refine ak ret (fun c13 => ?_) (fun c13 => ?_)
    · refine ak ret (fun _ => rfl) (fun c14 => ?_)
      refine ct (Z183.ai trivial) ?_
      all_goals exact fz
    · refine ct (Z183.ai trivial) ?_
      refine ak ret (fun c15 => ?_) (fun _ => rfl)
      refine ak ret (fun _ => rfl) (fun c16 => ?_)
      refine ct (Z183.ai trivial) ?_
      all_goals exact fz
theorem ab : Valid Tryz.prog Ev 270 aK := W4 76 F mix au okF (.cons Z162.ab (.cons Z112.ab (.cons Z177.ab (.cons Z180.ab (.cons Z183.ab .nil))))) Tryz.func270
theorem xD (a0 : Int) (a1 : Int) (a2 : ByteArray) (a3 : bt) (hc : a1 ≤ 1000) : md a0 a1 a2 a3 = Z94.md a0 a1 a2 a3 := by
  unfold md Z94.md Z180.md Z92.md Z178.md Z179.md
  simp only [Z162.br, Z112.br, Z177.br, Z169.br, Z171.cp, Z85.cp, Z172.cp, Z86.cp, Z183.br, Z93.lt, Z93.gt]
  cases Z79.md a2
  · rfl
  cases hr : Z39.md a3.cX 0 a1
  · rfl
  have hi : 0 ≤ a3.cX ∧ a3.cX ≤ a1 := by simpa [Z39.md] using hr
  have w1 : i64.wrap (a1 - 1) = a1 - 1 := Go.IntWalk.i64_in _ (by omega)
  have w2 : i64.wrap (a3.cX - 1) = a3.cX - 1 := Go.IntWalk.i64_in _ (by omega)
  have e1 : Z39.md (a3.cX - 1) 0 (a1 - 1) = !(a3.cX == 0) := by
    rw [Bool.eq_iff_iff]; simp [Z39.md]; omega
  have e2 : Z39.md a3.cX 0 (a1 - 1) = !(a3.cX == a1) := by
    rw [Bool.eq_iff_iff]; simp [Z39.md]; omega
  simp only [w1, w2, e1, e2, bne]
  generalize (a3.cX == 0) = z
  generalize (a3.cX == a1) = e
  generalize (a1 == 0) = c0
  generalize (a0 == Z91.md []) = rt
  generalize cU a3.av _ = x1
  generalize cU a3.cq _ = x2
  generalize cU a3.bm _ = x3
  generalize cU a3.bD _ = x4
  generalize Z83.md a0 a1 a3.av a3.cq = k1
  generalize Z83.md a0 a1 a3.bm a3.bD = k2
  generalize (a3.cq.cX == a3.cX - 1) = p1
  generalize (a3.bD.cX == a3.cX) = p2
  generalize (Z93.md a3.av.aV a2 == -1) = m1
  generalize (Z93.md a3.bm.aV a2 == 1) = m2
  cases c0 <;> cases rt <;> cases z <;> cases e <;> cases x1 <;> cases x2 <;> cases k1 <;> cases p1 <;> cases m1 <;> first | rfl | (cases x3 <;> cases x4 <;> rfl) | (cases k2 <;> cases p2 <;> cases m2 <;> rfl)
end Z184
namespace Z185
def F (x0 : bq) (x1 : ByteArray) (x2 : bd) : ay := (cond x2.bu (cond (x2.aH.aV == x1) (call (Z169.R (x0.cj, x0.bG, x2.aH, x2.cE)) fun v1 => (cond v1 (call (Z173.R (x2.cL, (⟨0, (⟨(⟨#[]⟩ : ByteArray), 0, 0, []⟩ : bA), (⟨(⟨#[]⟩ : ByteArray), 0, 0, []⟩ : bA), (⟨0, []⟩ : cn), (⟨0, []⟩ : cn)⟩ : eI))) fun v2 => ret (v2 : Bool)) (ret (false : Bool)))) (ret (false : Bool))) (call (Z184.R (x0.cj, x0.bG, x1, x2.cL)) fun v3 => (cond v3 (call (Z178.R x2.aH) fun v4 => (cond v4 (call (Z179.R x2.cE) fun v5 => ret (v5 : Bool)) (ret (false : Bool)))) (ret (false : Bool)))))
def md (a0 : aq) (a1 : ByteArray) (a2 : ad) : Bool := (cond a2.bu (cond (a2.aH.aV == a1) (cond (Z169.md a0.cj a0.bG a2.aH a2.cE) ((Z173.md a2.cL (⟨0, (⟨((⟨#[]⟩ : ByteArray) : ByteArray), 0, 0, []⟩ : aj), (⟨((⟨#[]⟩ : ByteArray) : ByteArray), 0, 0, []⟩ : aj), (⟨0, []⟩ : aB), (⟨0, []⟩ : aB)⟩ : bt)) : Bool) (false : Bool)) (false : Bool)) (cond (Z184.md a0.cj a0.bG a1 a2.cL) (cond (Z178.md a2.aH) ((Z179.md a2.cE) : Bool) (false : Bool)) (false : Bool)))
def gd (a0 : aq) (a1 : ByteArray) (a2 : ad) : Prop := (a1.size ≤ (2 ^ 21)) ∧ (ad.Sm (2 ^ 21) a2)
def R := RR (p3 gd) (u3 md)
theorem ai {a0 a1 a2} (h : gd a0 a1 a2) : R ((aq.r a0), a1, (ad.r a2)) = some (md a0 a1 a2) := aE (a := (a0, a1, a2)) h
def aK := CN [.agg eA, pS, .agg rj] oB RT.dec R
theorem okF (a0) (a1) (a2) (hg : gd a0 a1 a2) : F (aq.r a0) a1 (ad.r a2) = ret (md a0 a1 a2) := by
  obtain ⟨H1, H2⟩ := hg
  unfold F md
  try simp only [SS]
  refine ak ret (fun c1 => ?_) (fun c1 => ?_)
  · refine ak ret (fun c2 => ?_) (fun _ => rfl)
    refine ct (Z169.ai ⟨H2.2.1, H2.2.2.1⟩) ?_
    refine ak ret (fun c3 => ?_) (fun _ => rfl)
    refine ct (Z173.ai (a1 := (⟨0, (⟨((⟨#[]⟩ : ByteArray) : ByteArray), 0, 0, []⟩ : aj), (⟨((⟨#[]⟩ : ByteArray) : ByteArray), 0, 0, []⟩ : aj), (⟨0, []⟩ : aB), (⟨0, []⟩ : aB)⟩ : bt)) ⟨H2.2.2.2, ⟨⟨(by decide), bw.nil⟩, ⟨(by decide), bw.nil⟩, bw.nil, bw.nil⟩⟩) ?_
    all_goals exact fz
  · refine ct (Z184.ai ⟨H1, H2.2.2.2⟩) ?_
    refine ak ret (fun c4 => ?_) (fun _ => rfl)
    refine ct (Z178.ai H2.2.1) ?_
    refine ak ret (fun c5 => ?_) (fun _ => rfl)
    refine ct (Z179.ai H2.2.2.1) ?_
    all_goals exact fz
theorem ab : Valid Tryz.prog Ev 221 aK := W3 49 F mix au okF (.cons Z169.ab (.cons Z173.ab (.cons Z184.ab (.cons Z178.ab (.cons Z179.ab .nil))))) Tryz.func221
theorem xD (a0 : aq) (a1 : ByteArray) (a2 : ad) (hc : a0.bG ≤ 1000) : md a0 a1 a2 = Z95.md a0 a1 a2 := by
 unfold md Z95.md Z92.md Z178.md Z179.md
 simp only [Z184.xD _ _ _ _ hc, Z169.br, Z171.cp, Z85.cp, Z172.cp, Z86.cp, Z173.cp, Z87.cp]
end Z185
namespace Z186
def F (x0 : Int) (x1 : ByteArray) (x2 : bd) (x3 : Int) : ay := (call (Z153.R x2.aL) fun v1 => (cond (!v1.2) (ret (3 : Int)) (cond (v1.1.aT != x0) (ret (2 : Int)) (call (Z154.R (v1.1, x3)) fun v2 => (cond (!v2) (ret (4 : Int)) (cond v1.1.aS (ret (5 : Int)) (call (Z185.R (v1.1, x1, x2)) fun v3 => (cond (!v3) (ret (6 : Int)) (ret (1 : Int))))))))))
def md (a0 : Int) (a1 : ByteArray) (a2 : ad) (a3 : Int) : Int := (cond (!(Z153.md a2.aL).2) (3 : Int) (cond ((Z153.md a2.aL).1.aT != a0) (2 : Int) (cond (!(Z154.md ((Z153.md a2.aL).1) a3)) (4 : Int) (cond ((Z153.md a2.aL).1.aS) (5 : Int) (cond (!(Z185.md ((Z153.md a2.aL).1) a1 a2)) (6 : Int) (1 : Int))))))
def gd (a0 : Int) (a1 : ByteArray) (a2 : ad) (a3 : Int) : Prop := (a1.size ≤ (2 ^ 21)) ∧ (ad.Sm (2 ^ 21) a2)
def R := RR (p4 gd) (u4 md)
theorem ai {a0 a1 a2 a3} (h : gd a0 a1 a2 a3) : R (a0, a1, (ad.r a2), a3) = some (md a0 a1 a2 a3) := aE (a := (a0, a1, a2, a3)) h
def aK := CN [pI, pS, .agg rj, pI] oI RT.dec R
theorem okF (a0) (a1) (a2) (a3) (hg : gd a0 a1 a2 a3) : F a0 a1 (ad.r a2) a3 = ret (md a0 a1 a2 a3) := by
 obtain ⟨H1, H2⟩ := hg
 unfold F md
 try simp only [SS]
 refine ct (Z153.ai H2.1) ?_
 try simp only [SS]
 refine ak ret (fun _ => rfl) (fun c1 => ?_)
 refine ak ret (fun _ => rfl) (fun c2 => ?_)
 refine ct (Z154.ai trivial) ?_
 refine ak ret (fun _ => rfl) (fun c3 => ?_)
 refine ak ret (fun _ => rfl) (fun c4 => ?_)
 refine ct (Z185.ai ⟨H1, H2⟩) ?_
 refine ak ret (fun _ => rfl) (fun _ => rfl)
theorem ab : Valid Tryz.prog Ev 178 aK := W4 39 F mix au okF (.cons Z153.ab (.cons Z154.ab (.cons Z185.ab .nil))) Tryz.func178
theorem br (a0 : Int) (a1 : ByteArray) (a2 : ad) (a3 : Int) : md a0 a1 a2 a3 = Z96.md a0 a1 a2 a3 := by
  unfold md Z96.md
  simp only [Z153.br, Z154.br]
  cases hok : (Z65.md a2.aL).2
  · rfl
  · have := Z42.tr (Z65.head hok).2.2
    rw [Z185.xD _ _ _ (by omega)]
end Z186
namespace Z187
def F (x0 : List (List L)) (x1 : List L) : ay := (cond (decide ((x0.length : Int) > 0)) (bJ (decide ((0 : Int) < (x0.length : Int))) (ret (((aC.at x0 0).ae.aT == (gq x1)) : Bool))) (ret (false : Bool)))
def bO : List fE := [.rd (.sl 202), .ptr [.int .i64]]
def res : RP := .one (.rd (.bool))
def md (a0 : List aa) (a1 : Int) : Bool := (cond (decide ((a0.length : Int) > 0)) ((((a0.getD 0 aa.zero).ae).aT == a1) : Bool) (false : Bool))
def gd (a0 : List aa) (a1 : Int) : Prop := (bw (2 ^ 21) (fun y : aa => aa.Sm (2 ^ 21) y) a0)
def acc (ls : List L) : List (List L) × Int := ((ls.headD .hole).aG, (gq (cO 1 (ar 1 ls))))
def R : (List (List L) × Int) → Option Bool := RR (p2 gd) (u2 md)
theorem ai {a0 a1} (h : gd a0 a1) : R ((a0.map aa.row), a1) = some (md a0 a1) := aE (a := (a0, a1)) h
def aK : fe := CN bO res acc R
theorem okF (a0 : List aa) (a1 : Int) (p1 : List L) (e1 : a1 = (gq p1)) (hg : gd a0 a1) : F (a0.map aa.row) p1 = ret ((md a0 a1) : Bool) := by
 unfold gd at hg
 have H0 := hg
 unfold F md
 try simp only [SS, ← e1]
 refine ak ret (fun c1 => ?_) (fun _ => rfl)
 have dc1 := c1
 try simp only [DC] at dc1
 refine af (have := (H0).1; dt) ?_
 all_goals exact fz
theorem rG (ls : List L) (a : List aa × Int) (e : acc ls = Im.im a) (hg : (p2 gd) a) : ∃ n : Nat, F ((ls.headD .hole).aG) (cO 1 (ar 1 ls)) = ret (Im.im ((u2 md) a)) := by
 have e0 : (a.1.map aa.row) = (ls.headD .hole).aG := (congrArg (fun x => x.1) e.symm)
 have hn := okF a.1 a.2 (cO 1 (ar 1 ls)) (congrArg (fun x => x.2) e.symm) hg
 refine ⟨0, ?_⟩
 rw [← e0]
 exact hn
theorem ab : Valid Tryz.prog Ev 291 aK := VP (live := fun _ => []) (nt := 16) (accr := fun ls => ((ls.headD .hole).aG, (cO 1 (ar 1 ls)))) (run := fun _ x => F x.1 x.2) mix au .nil Tryz.func291 (by kernel_rfl) (fun _ _ => by kernel_rfl) (fun ls a _ e hg => rG ls a e hg)
end Z187
namespace Z188
inductive Pt where
 | p0 (a : List (List L)) (b : List L) (c : Int) (d : Int)
def pid : Pt → Nat
 | .p0 .. => 2
def bR : Pt → List V
 | .p0 a b c d => [.sl none 116 a, .fn 291 [.cY none [.int .i64] b 0], .int .i64 c, .int .i64 d]
def bQ : Pt → List aI
 | .p0 a b c d => []
def step (J : Pt → ay) : Pt → ay
 | .p0 a b c d => (cond (decide (d < c)) (m2 d (a.length : Int) (call (Z187.R ((lA a (Int.toNat d)), (gq b))) fun v1 => (cond v1 (ret (d : Int)) (J (.p0 a b c (i64.wrap (d + 1))))))) (ret ((-1) : Int)))
def start (J : Pt → ay) (x0 : List (List L)) (x1 : List L) : ay := J (.p0 x0 x1 (x0.length : Int) 0)
def live : Nat → Live := fun i => match i with | 2 => [(0, none), (1, none), (7, none), (8, none)] | _ => []
def bO : List fE := [.rd (.sl 116), .fn 291 [[.int .i64]]]
def res : RP := .one (.rd (.int .i64))
abbrev E : Env := { T := assoc lr, G := cK [(291, Z187.aK)], nt := 19 }
theorem step_eq (I : bY) (p : Pt) : cz E live I (pid p) (bo Tryz.f290) (eN (live (pid p)) (bR p) (bQ p)) (bX E Tryz.f290 res) = step (fun q => I (pid q) (bR q) (bQ q)) p := by
 cases p <;> kernel_rfl
theorem start_eq (I : bY) (ls : List L) : ee E live I (bo Tryz.f290) (cG bO ls) (bX E Tryz.f290 res) = start (fun q => I (pid q) (bR q) (bQ q)) (ls.headD .hole).aG (cO 1 (ar 1 ls)) := by kernel_rfl
theorem run_eq (n : Nat) (ls : List L) : ea E live Tryz.f290 res n (cG bO ls) = start (iter step n) (ls.headD .hole).aG (cO 1 (ar 1 ls)) := bW (id := pid) (vs := bR) (hs := bQ) (step := step) (start := fun J => start J (ls.headD .hole).aG (cO 1 (ar 1 ls))) step_eq (fun I => start_eq I ls) n
def md (a0 : List (List aa)) (a1 : Int) : Int := (dy (S := Unit) (β := Int) (fun (i1 : Nat) (y1 : List aa) (s3 : Unit) => (cond (Z187.md y1 a1) (.inr ((i1 : Int) : Int)) (.inl ()))) (fun (s3 : Unit) => ((-1) : Int)) 0 a0 ())
def gd (a0 : List (List aa)) (a1 : Int) : Prop := (bw (2 ^ 21) (fun y : List aa => bw (2 ^ 21) (fun y : aa => aa.Sm (2 ^ 21) y) y) a0)
def acc (ls : List L) : List (List L) × Int := ((ls.headD .hole).aG, (gq (cO 1 (ar 1 ls))))
def R : (List (List L) × Int) → Option Int := RR (p2 gd) (u2 md)
theorem ai {a0 a1} (h : gd a0 a1) : R ((a0.map (cM aa.row)), a1) = some (md a0 a1) := aE (a := (a0, a1)) h
def aK : fe := CN bO res acc R
theorem okF (a0 : List (List aa)) (a1 : Int) (p1 : List L) (e1 : a1 = (gq p1)) (hg : gd a0 a1) : ∃ n, start (iter step n) (a0.map (cM aa.row)) p1 = ret ((md a0 a1) : Int) := by
  unfold gd at hg
  have H0 := hg
  unfold start md
  try simp only [SS, ← e1]
  have Bh2 : a0.length ≤ maxLen := (by
      have := (H0).1
      try simp only [maxLen] at *
      omega)
  refine dV (out := ret) (cV (z := [])) ?_
  refine dk (p := Pt.p0 (a0.map (cM aa.row)) p1 (a0.length : Int) 0) fz ?_
  refine bP (pt := fun (i1 : Nat) (s3 : Unit) => Pt.p0 (a0.map (cM aa.row)) p1 (a0.length : Int) (i1 : Int)) (s := (() : Unit)) (out := ret) (fun _ _ => True) (fun J i1 s3 h2 hih2 => ?_) (fun s3 hih2 => ?_) trivial
  · simp only [step, SS, ← e1]
    have bb_ := Bh2
    simp only [maxLen] at bb_
    have := (H0).1
    refine aY.yes (by apply decide_eq_true; omega) ?_
    refine aY.yes ax ?_
    refine aY.yes (aD h2) ?_
    refine cr (Z187.ai (bw.getD (z := []) H0 h2)) ?_
    refine aY.bif (fun c4 => ?_) (fun c4 => ?_)
    · refine aY.inr ?_
      all_goals exact fz
    · refine aY.inl trivial ?_
      rw [az h2 Bh2]
      all_goals exact fz
  · simp only [step, SS, ← e1]
    have := (H0).1
    refine dh (by apply decide_eq_false; omega) ?_
    refine ⟨0, ?_⟩
    all_goals exact fz
theorem rG (ls : List L) (a : List (List aa) × Int) (e : acc ls = Im.im a) (hg : (p2 gd) a) : ∃ n : Nat, start (iter step n) ((ls.headD .hole).aG) (cO 1 (ar 1 ls)) = ret (Im.im ((u2 md) a)) := by
 have e0 : (a.1.map (cM aa.row)) = (ls.headD .hole).aG := (congrArg (fun x => x.1) e.symm)
 obtain ⟨n, hn⟩ := okF a.1 a.2 (cO 1 (ar 1 ls)) (congrArg (fun x => x.2) e.symm) hg
 refine ⟨n, ?_⟩
 rw [← e0]
 exact hn
theorem ab : Valid Tryz.prog Ev 290 aK := VP (accr := fun ls => ((ls.headD .hole).aG, (cO 1 (ar 1 ls)))) (run := fun n x => start (iter step n) x.1 x.2) mix au (.cons Z187.ab .nil) Tryz.func290 (by kernel_rfl) run_eq (fun ls a _ e hg => rG ls a e hg)
theorem fa (a0 : List (List aa)) (a1 : Int) : -1 ≤ md a0 a1 ∧ md a0 a1 < (a0.length : Int) := by
 unfold md
 refine iy ?_ _ _
 all_goals
  intro i x s b h
  revert h
  simp only [Bool.cond_eq_ite]
  repeat' split
  all_goals (intro h; first | (cases h; rfl) | cases h)
theorem idx_eq (a0 : List (List aa)) (a1 : Int) : md a0 a1 = jb (fun y => Z187.md y a1) 0 a0 := by
 unfold md
 exact gJ
end Z188
namespace Z189
def F (x0 : aW) (x1 : Int) : ay := (call (Z188.R (x0.aA, x1)) fun v1 => ret (v1 : Int))
def md (a0 : ah) (a1 : Int) : Int := ((Z188.md a0.aA a1) : Int)
def gd (a0 : ah) (a1 : Int) : Prop := (ah.Sm (2 ^ 21) a0)
def R := RR (p2 gd) (u2 md)
theorem ai {a0 a1} (h : gd a0 a1) : R ((ah.r a0), a1) = some (md a0 a1) := aE (a := (a0, a1)) h
def aK := CN [.agg rh, pI] oI RT.dec R
theorem okF (a0) (a1) (hg : gd a0 a1) : F (ah.r a0) a1 = ret (md a0 a1) := by
 unfold gd at hg
 have H0 := hg
 unfold F md
 try simp only [SS]
 refine ct (Z188.ai H0.1) ?_
 have fv1_ := Z188.fa a0.aA a1
 all_goals exact fz
theorem ab : Valid Tryz.prog Ev 241 aK := W2 9 F mix au okF (.cons Z188.ab .nil) Tryz.func241
theorem fa (a0 : ah) (a1 : Int) : -1 ≤ md a0 a1 ∧ md a0 a1 < (a0.aA.length : Int) := by unfold md; exact Z188.fa _ _
theorem br (a0 : ah) (a1 : Int) : md a0 a1 = Z66.md a0 a1 := by
 unfold md Z66.md
 rw [Z188.idx_eq]
 symm
 refine lO (fun i x s => ?_) _ _ _
 unfold Z187.md
 cases decide ((x.length : Int) > 0) <;> first | rfl | (cases ((x.getD 0 aa.zero).ae).aT == a1 <;> rfl)
end Z189
namespace Z190
def F (x0 : bq) (x1 : bq) : ay := (call (Z144.R (x0.bh, x1.bh)) fun v1 => (cond v1 (call (Z144.R (x0.aQ, x1.aQ)) fun v2 => (cond v2 (call (Z144.R (x0.aM, x1.aM)) fun v3 => (cond v3 (call (Z129.R x0) fun v4 => (call (Z129.R x1) fun v5 => (call (Z143.R (v4, v5)) fun v6 => ret (v6 : Bool)))) (ret (false : Bool)))) (ret (false : Bool)))) (ret (false : Bool))))
def md (a0 : aq) (a1 : aq) : Bool := (cond (Z144.md a0.bh a1.bh) (cond (Z144.md a0.aQ a1.aQ) (cond (Z144.md a0.aM a1.aM) ((Z143.md (Z129.md a0) (Z129.md a1)) : Bool) (false : Bool)) (false : Bool)) (false : Bool))
def gd (a0 : aq) (a1 : aq) : Prop := (aq.Sm (2 ^ 21) a0) ∧ (aq.Sm (2 ^ 21) a1)
def R := RR (p2 gd) (u2 md)
theorem ai {a0 a1} (h : gd a0 a1) : R ((aq.r a0), (aq.r a1)) = some (md a0 a1) := aE (a := (a0, a1)) h
def aK := CN [.agg eA, .agg eA] oB RT.dec R
theorem okF (a0) (a1) (hg : gd a0 a1) : F (aq.r a0) (aq.r a1) = ret (md a0 a1) := by
 obtain ⟨H0, H1⟩ := hg
 unfold F md
 try simp only [SS]
 refine ct (Z144.ai ⟨H0.1, H1.1⟩) ?_
 refine ak ret (fun c1 => ?_) (fun _ => rfl)
 refine ct (Z144.ai ⟨H0.2.1, H1.2.1⟩) ?_
 refine ak ret (fun c2 => ?_) (fun _ => rfl)
 refine ct (Z144.ai ⟨H0.2.2, H1.2.2⟩) ?_
 refine ak ret (fun c3 => ?_) (fun _ => rfl)
 refine ct (Z129.ai H0) ?_
 try simp only [SS]
 refine ct (Z129.ai H1) ?_
 try simp only [SS]
 refine ct (Z143.ai ⟨⟨(have := Z129.len a0; have := (H0.1).1; have := (H0.2.1).1; have := (H0.2.2).1; om), fun _ _ => trivial⟩, ⟨(have := Z129.len a1; have := (H1.1).1; have := (H1.2.1).1; have := (H1.2.2).1; om), fun _ _ => trivial⟩⟩) ?_
 all_goals exact fz
theorem ab : Valid Tryz.prog Ev 292 aK := W2 31 F mix au okF (.cons Z144.ab (.cons Z129.ab (.cons Z143.ab .nil))) Tryz.func292
theorem cp (a0 : aq) (a1 : aq) : md a0 a1 = cU a0 a1 := by
  unfold md
  simp only [Z143.cp, Z144.cp, Z129.br]
  rw [Bool.eq_iff_iff]
  constructor
  · intro h
    simp only [vF, Bool.and_eq_true] at h
    exact ca.2 (Z47.inj (ca.1 h.2.2.2))
  · intro h
    rw [ca] at h
    rw [h]
    simp only [eC]; rfl
end Z190
namespace Z191
inductive Pt where
 | p0 (a : List (List L)) (b : List (List L)) (c : Int) (d : Int)
def pid : Pt → Nat
 | .p0 .. => 4
def bR : Pt → List V
 | .p0 a b c d => [.sl none 202 a, .sl none 202 b, .int .i64 c, .int .i64 d]
def bQ : Pt → List aI
 | .p0 a b c d => []
def step (J : Pt → ay) : Pt → ay
 | .p0 a b c d => (cond (decide (d < c)) (m2 d (b.length : Int) (m2 d (a.length : Int) (call (Z190.R ((aC.at b (Int.toNat d)).ae, (aC.at a (Int.toNat d)).ae)) fun v1 => (cond (!v1) (ret (false : Bool)) (J (.p0 a b c (i64.wrap (d + 1)))))))) (ret (true : Bool)))
def start (J : Pt → ay) (x0 : List (List L)) (x1 : List (List L)) : ay := (cond (decide ((x0.length : Int) > (x1.length : Int))) (ret (false : Bool)) (J (.p0 x1 x0 (x0.length : Int) 0)))
def live : Nat → Live := fun i => match i with | 4 => [(1, none), (12, none), (13, none), (14, none)] | _ => []
def md (a0 : List aa) (a1 : List aa) : Bool := (bif (decide ((a0.length : Int) > (a1.length : Int))) then (false : Bool) else (dc (S := Unit) (β := Bool) (fun (i2 : Nat) (s4 : Unit) => (cond (!(Z190.md ((a0.getD i2 aa.zero).ae) ((a1.getD i2 aa.zero).ae))) (.inr (false : Bool)) (.inl ()))) (fun (s4 : Unit) => (true : Bool)) a0.length 0 ()))
def gd (a0 : List aa) (a1 : List aa) : Prop := (bw (2 ^ 21) (fun y : aa => aa.Sm (2 ^ 21) y) a0) ∧ (bw (2 ^ 21) (fun y : aa => aa.Sm (2 ^ 21) y) a1)
def R := RR (p2 gd) (u2 md)
theorem ai {a0 a1} (h : gd a0 a1) : R ((a0.map aa.row), (a1.map aa.row)) = some (md a0 a1) := aE (a := (a0, a1)) h
def aK := CN [pL 202, pL 202] oB RT.dec R
theorem okF (a0) (a1) (hg : gd a0 a1) : ∃ n, start (iter step n) (a0.map aa.row) (a1.map aa.row) = ret (md a0 a1) := by
  obtain ⟨H0, H1⟩ := hg
  unfold start md
  try simp only [SS]
  refine fw ret (fun _ => ⟨0, rfl⟩) (fun c1 => ?_)
  have dc1 := c1
  try simp only [DC] at dc1
  have Bh3 : a0.length ≤ maxLen := (by
      have := (H0).1
      try simp only [maxLen] at *
      omega)
  refine dk (p := Pt.p0 (a1.map aa.row) (a0.map aa.row) (a0.length : Int) 0) fz ?_
  refine bP (pt := fun (i2 : Nat) (s4 : Unit) => Pt.p0 (a1.map aa.row) (a0.map aa.row) (a0.length : Int) (i2 : Int)) (s := (() : Unit)) (out := ret) (fun _ _ => True) (fun J i2 s4 h3 hih3 => ?_) (fun s4 hih3 => ?_) trivial
  · simp only [step, SS]
    have bb_ := Bh3
    simp only [maxLen] at bb_
    have := (H0).1
    refine aY.yes (by apply decide_eq_true; omega) ?_
    refine aY.yes ax ?_
    refine aY.yes (aD h3) ?_
    refine aY.yes ax ?_
    refine aY.yes (have := (H1).1; dt) ?_
    refine cr (Z190.ai ⟨(bw.getD (z := aa.zero) H0 h3).1, (bw.getD (z := aa.zero) H1 (by first | assumption | omega | (simp (disch := omega) only [wi]; omega) | (simp; omega))).1⟩) ?_
    refine aY.bif (fun _ => aY.inr rfl) (fun c5 => ?_)
    refine aY.inl trivial ?_
    rw [az h3 Bh3]
    all_goals exact fz
  · simp only [step, SS]
    have := (H0).1
    refine dh (by apply decide_eq_false; omega) ?_
    refine ⟨0, ?_⟩
    all_goals exact fz
theorem ab : Valid Tryz.prog Ev 289 aK := L2 29 pid bR bQ live step start mix au okF (.cons Z190.ab .nil) Tryz.func289
theorem br (a0 : List aa) (a1 : List aa) : md a0 a1 = Z68.md a0 a1 := by
 unfold md Z68.md
 first
 | (simp only [Z190.cp, Z67.cp]; done)
 | (simp only [Z190.cp, Z67.cp]; rfl)
 | rfl
end Z191
namespace Z192
def F (x0 : aW) (x1 : List (List L)) : ay := (call (Z151.R x1) fun v1 => (cond (!v1) (ret (6 : Int)) (bJ (decide ((0 : Int) < (x1.length : Int))) (call (Z189.R (x0, (aC.at x1 0).ae.aT)) fun v2 => (cond (decide (v2 < 0)) (ret (1 : Int)) (m2 v2 (x0.aA.length : Int) (call (Z191.R ((lA x0.aA (Int.toNat v2)), x1)) fun v3 => (m2 v2 (x0.aA.length : Int) (call (Z191.R (x1, (lA x0.aA (Int.toNat v2)))) fun v4 => (cond v3 (cond v4 (ret (2 : Int)) (cond v3 (ret (3 : Int)) (cond v4 (ret (4 : Int)) (ret (5 : Int))))) (cond v3 (ret (3 : Int)) (cond v4 (ret (4 : Int)) (ret (5 : Int))))))))))))))
def md (a0 : ah) (a1 : List aa) : Int := (cond (!(Z151.md a1)) (6 : Int) (cond (decide ((Z189.md a0 (((a1.getD 0 aa.zero).ae).aT)) < 0)) (1 : Int) (cond (Z191.md (a0.aA.getD (Int.toNat (Z189.md a0 (((a1.getD 0 aa.zero).ae).aT))) []) a1) (cond (Z191.md a1 (a0.aA.getD (Int.toNat (Z189.md a0 (((a1.getD 0 aa.zero).ae).aT))) [])) (2 : Int) (cond (Z191.md (a0.aA.getD (Int.toNat (Z189.md a0 (((a1.getD 0 aa.zero).ae).aT))) []) a1) (3 : Int) (cond (Z191.md a1 (a0.aA.getD (Int.toNat (Z189.md a0 (((a1.getD 0 aa.zero).ae).aT))) [])) (4 : Int) (5 : Int)))) (cond (Z191.md (a0.aA.getD (Int.toNat (Z189.md a0 (((a1.getD 0 aa.zero).ae).aT))) []) a1) (3 : Int) (cond (Z191.md a1 (a0.aA.getD (Int.toNat (Z189.md a0 (((a1.getD 0 aa.zero).ae).aT))) [])) (4 : Int) (5 : Int))))))
def gd (a0 : ah) (a1 : List aa) : Prop := (ah.Sm (2 ^ 21) a0) ∧ (bw (2 ^ 21) (fun y : aa => aa.Sm (2 ^ 21) y) a1)
def R := RR (p2 gd) (u2 md)
theorem ai {a0 a1} (h : gd a0 a1) : R ((ah.r a0), (a1.map aa.row)) = some (md a0 a1) := aE (a := (a0, a1)) h
def aK := CN [.agg rh, pL 202] oI RT.dec R
theorem okF (a0) (a1) (hg : gd a0 a1) : F (ah.r a0) (a1.map aa.row) = ret (md a0 a1) := by
  obtain ⟨H0, H1⟩ := hg
  unfold F md
  try simp only [SS]
  refine ct (Z151.ai H1) ?_
  refine ak ret (fun _ => rfl) (fun c1 => ?_)
  have dc1 := c1
  try simp only [DC] at dc1
  try have tc1 := Z151.tr (by simpa using c1)
  refine af (have := (H1).1; dt) ?_
  refine ct (Z189.ai H0) ?_
  have fv2_ := Z189.fa a0 (((a1.getD 0 aa.zero).ae).aT)
  refine ak ret (fun _ => rfl) (fun c2 => ?_)
  have dc2 := c2
  try simp only [DC] at dc2
  refine af dt ?_
  refine af (have := (H0.1).1; dt) ?_
  refine ct (Z191.ai ⟨(bw.getD (z := []) H0.1 (by first | assumption | omega | (simp (disch := omega) only [wi]; omega) | (simp; omega))), H1⟩) ?_
  refine af dt ?_
  refine af (have := (H0.1).1; dt) ?_
  refine ct (Z191.ai ⟨H1, (bw.getD (z := []) H0.1 (by first | assumption | omega | (simp (disch := omega) only [wi]; omega) | (simp; omega)))⟩) ?_
  refine ak ret (fun c3 => ?_) (fun c3 => ?_)
  · refine ak ret (fun _ => rfl) (fun c4 => ?_)
    refine ak ret (fun _ => rfl) (fun c5 => ?_)
    refine ak ret (fun _ => rfl) (fun _ => rfl)
  · refine ak ret (fun _ => rfl) (fun c7 => ?_)
    refine ak ret (fun _ => rfl) (fun _ => rfl)
theorem ab : Valid Tryz.prog Ev 240 aK := W2 43 F mix au okF (.cons Z151.ab (.cons Z189.ab (.cons Z191.ab .nil))) Tryz.func240
theorem fa (a0 : ah) (a1 : List aa) : (md a0 a1 = 3 → 1 ≤ a1.length ∧ 0 ≤ Z189.md a0 (a1.getD 0 aa.zero).ae.aT) ∧ (md a0 a1 = 5 → 1 ≤ a1.length ∧ 0 ≤ Z189.md a0 (a1.getD 0 aa.zero).ae.aT) := by
  unfold md
  cases h : Z151.md a1
  · exact ⟨fun h => by simp at h, fun h => by simp at h⟩
  · have t := Z151.tr h
    cases hf : decide (Z189.md a0 ((a1.getD 0 aa.zero).ae.aT) < 0)
    · have := of_decide_eq_false hf
      exact ⟨fun _ => ⟨t.1, by omega⟩, fun _ => ⟨t.1, by omega⟩⟩
    · exact ⟨fun h => by simp at h, fun h => by simp at h⟩
theorem br (a0 : ah) (a1 : List aa) : md a0 a1 = Z69.md a0 a1 := by
 unfold md Z69.md
 first
 | (simp only [Z151.br, Z189.br, Z191.br]; done)
 | (simp only [Z151.br, Z189.br, Z191.br]; rfl)
 | rfl
end Z192
namespace Z193
inductive Pt where
 | p0 (a : List (List L)) (b : List (List L)) (c : Int) (d : Int) (e : Int) (f : Int) (g : Int) (h : Int) (i : Int) (j : Int) (k : Int) (l : Int) (m : Int) (n : Int) (o : Int) (p : Bool) (q : Int) (s : Int) (t : Int) (u : Int) (v : Int) (w : Int) (y : Int) (z : Int) (w24 : Int) (w25 : Int) (w26 : Int) (w27 : Int) (w28 : Bool) (w29 : Int) (w30 : Int) (w31 : Int) (w32 : Int) (w33 : Int) (w34 : Int) (w35 : Int) (w36 : Int) (w37 : Int) (w38 : Int) (w39 : Int) (w40 : Int) (w41 : Bool)
def pid : Pt → Nat
 | .p0 .. => 4
def bR : Pt → List V
 | .p0 a b c d e f g h i j k l m n o p q s t u v w y z w24 w25 w26 w27 w28 w29 w30 w31 w32 w33 w34 w35 w36 w37 w38 w39 w40 w41 => [.sl none 202 a, .sl none 202 b, .cC 0 0, .int .i64 c]
def bQ : Pt → List aI
 | .p0 a b c d e f g h i j k l m n o p q s t u v w y z w24 w25 w26 w27 w28 w29 w30 w31 w32 w33 w34 w35 w36 w37 w38 w39 w40 w41 => [.box [.int .i64 d, .int .i64 e, .int .i64 f, .int .i64 g, .int .i64 h, .int .i64 i, .int .i64 j, .int .i64 k, .nil, .int .i64 l, .nil, .int .i64 m, .int .i64 n, .nil, .int .i64 o, .bool p, .nil, .int .i64 q, .int .i64 s, .int .i64 t, .int .i64 u, .int .i64 v, .int .i64 w, .int .i64 y, .int .i64 z, .nil, .int .i64 w24, .nil, .int .i64 w25, .int .i64 w26, .nil, .int .i64 w27, .bool w28, .nil, .int .i64 w29, .int .i64 w30, .int .i64 w31, .int .i64 w32, .int .i64 w33, .int .i64 w34, .int .i64 w35, .int .i64 w36, .nil, .int .i64 w37, .nil, .int .i64 w38, .int .i64 w39, .nil, .int .i64 w40, .bool w41, .nil]]
def step (J : Pt → ay) : Pt → ay
 | .p0 a b c d e f g h i j k l m n o p q s t u v w y z w24 w25 w26 w27 w28 w29 w30 w31 w32 w33 w34 w35 w36 w37 w38 w39 w40 w41 => (m2 c (a.length : Int) (m2 c (b.length : Int) (call (Z190.R ((aC.at a (Int.toNat c)).ae, (aC.at b (Int.toNat c)).ae)) fun v1 => (cond v1 (J (.p0 a b (i64.wrap (c + 1)) d e f g h i j k l m n o p q s t u v w y z w24 w25 w26 w27 w28 w29 w30 w31 w32 w33 w34 w35 w36 w37 w38 w39 w40 w41)) (m2 c (a.length : Int) (call (Z108.R (aC.at a (Int.toNat c))) fun v2 => (m2 c (b.length : Int) (call (Z108.R (aC.at b (Int.toNat c))) fun v3 => (cond (decide (c > 0)) (bJ (decide ((0 : Int) ≤ (i64.wrap (c - 1)))) (bJ (decide ((i64.wrap (c - 1)) < (a.length : Int))) (call (Z108.R (aC.at a (Int.toNat (i64.wrap (c - 1))))) fun v4 => ret (((⟨v4, v2, v3⟩ : aZ), true) : aZ × Bool)))) (ret (((⟨(⟨(⟨0, 0, 0, 0, 0, 0, 0, 0, (⟨[], 0⟩ : aO), (⟨[], 0⟩ : aO), 0, (⟨[], 0⟩ : aO), false⟩ : bq), []⟩ : aC), v2, v3⟩ : aZ), true) : aZ × Bool)))))))))))
def start (J : Pt → ay) (x0 : List (List L)) (x1 : List (List L)) : ay := (call (Z151.R x0) fun v1 => (cond (!v1) (ret (((⟨(⟨(⟨0, 0, 0, 0, 0, 0, 0, 0, (⟨[], 0⟩ : aO), (⟨[], 0⟩ : aO), 0, (⟨[], 0⟩ : aO), false⟩ : bq), []⟩ : aC), (⟨(⟨0, 0, 0, 0, 0, 0, 0, 0, (⟨[], 0⟩ : aO), (⟨[], 0⟩ : aO), 0, (⟨[], 0⟩ : aO), false⟩ : bq), []⟩ : aC), (⟨(⟨0, 0, 0, 0, 0, 0, 0, 0, (⟨[], 0⟩ : aO), (⟨[], 0⟩ : aO), 0, (⟨[], 0⟩ : aO), false⟩ : bq), []⟩ : aC)⟩ : aZ), false) : aZ × Bool)) (call (Z151.R x1) fun v2 => (cond (!v2) (ret (((⟨(⟨(⟨0, 0, 0, 0, 0, 0, 0, 0, (⟨[], 0⟩ : aO), (⟨[], 0⟩ : aO), 0, (⟨[], 0⟩ : aO), false⟩ : bq), []⟩ : aC), (⟨(⟨0, 0, 0, 0, 0, 0, 0, 0, (⟨[], 0⟩ : aO), (⟨[], 0⟩ : aO), 0, (⟨[], 0⟩ : aO), false⟩ : bq), []⟩ : aC), (⟨(⟨0, 0, 0, 0, 0, 0, 0, 0, (⟨[], 0⟩ : aO), (⟨[], 0⟩ : aO), 0, (⟨[], 0⟩ : aO), false⟩ : bq), []⟩ : aC)⟩ : aZ), false) : aZ × Bool)) (bJ (decide ((0 : Int) < (x0.length : Int))) (bJ (decide ((0 : Int) < (x1.length : Int))) (cond ((aC.at x0 0).ae.aT != (aC.at x1 0).ae.aT) (ret (((⟨(⟨(⟨0, 0, 0, 0, 0, 0, 0, 0, (⟨[], 0⟩ : aO), (⟨[], 0⟩ : aO), 0, (⟨[], 0⟩ : aO), false⟩ : bq), []⟩ : aC), (⟨(⟨0, 0, 0, 0, 0, 0, 0, 0, (⟨[], 0⟩ : aO), (⟨[], 0⟩ : aO), 0, (⟨[], 0⟩ : aO), false⟩ : bq), []⟩ : aC), (⟨(⟨0, 0, 0, 0, 0, 0, 0, 0, (⟨[], 0⟩ : aO), (⟨[], 0⟩ : aO), 0, (⟨[], 0⟩ : aO), false⟩ : bq), []⟩ : aC)⟩ : aZ), false) : aZ × Bool)) (call (Z191.R (x0, x1)) fun v3 => (cond v3 (ret (((⟨(⟨(⟨0, 0, 0, 0, 0, 0, 0, 0, (⟨[], 0⟩ : aO), (⟨[], 0⟩ : aO), 0, (⟨[], 0⟩ : aO), false⟩ : bq), []⟩ : aC), (⟨(⟨0, 0, 0, 0, 0, 0, 0, 0, (⟨[], 0⟩ : aO), (⟨[], 0⟩ : aO), 0, (⟨[], 0⟩ : aO), false⟩ : bq), []⟩ : aC), (⟨(⟨0, 0, 0, 0, 0, 0, 0, 0, (⟨[], 0⟩ : aO), (⟨[], 0⟩ : aO), 0, (⟨[], 0⟩ : aO), false⟩ : bq), []⟩ : aC)⟩ : aZ), false) : aZ × Bool)) (call (Z191.R (x1, x0)) fun v4 => (cond v4 (ret (((⟨(⟨(⟨0, 0, 0, 0, 0, 0, 0, 0, (⟨[], 0⟩ : aO), (⟨[], 0⟩ : aO), 0, (⟨[], 0⟩ : aO), false⟩ : bq), []⟩ : aC), (⟨(⟨0, 0, 0, 0, 0, 0, 0, 0, (⟨[], 0⟩ : aO), (⟨[], 0⟩ : aO), 0, (⟨[], 0⟩ : aO), false⟩ : bq), []⟩ : aC), (⟨(⟨0, 0, 0, 0, 0, 0, 0, 0, (⟨[], 0⟩ : aO), (⟨[], 0⟩ : aO), 0, (⟨[], 0⟩ : aO), false⟩ : bq), []⟩ : aC)⟩ : aZ), false) : aZ × Bool)) (J (.p0 x0 x1 0 0 0 0 0 0 0 0 0 0 0 0 0 false 0 0 0 0 0 0 0 0 0 0 0 0 false 0 0 0 0 0 0 0 0 0 0 0 0 false)))))))))))))
def live : Nat → Live := fun i => match i with | 4 => [(0, none), (1, none), (4, none), (6, none)] | _ => []
def pt (a b : List (List L)) (c : Int) : Pt := Pt.p0 a b c 0 0 0 0 0 0 0 0 0 0 0 0 false 0 0 0 0 0 0 0 0 0 0 0 0 false 0 0 0 0 0 0 0 0 0 0 0 0 false
def md (a0 : List aa) (a1 : List aa) : ao × Bool := (cond (!(Z151.md a0)) (ao.zero, false) (cond (!(Z151.md a1)) (ao.zero, false) (cond (((a0.getD 0 aa.zero).ae).aT != ((a1.getD 0 aa.zero).ae).aT) (ao.zero, false) (cond (Z191.md a0 a1) (ao.zero, false) (cond (Z191.md a1 a0) (ao.zero, false) (Z70.qL a0 a1 (Z70.fk a0 a1), true))))))
def gd (a0 : List aa) (a1 : List aa) : Prop := bw (2 ^ 21) (fun y : aa => aa.Sm (2 ^ 21) y) a0 ∧ bw (2 ^ 21) (fun y : aa => aa.Sm (2 ^ 21) y) a1
def R := RR (p2 gd) (u2 md)
theorem ai {a0 a1} (h : gd a0 a1) : R ((a0.map aa.row), (a1.map aa.row)) = some ((ao.r (md a0 a1).1), (md a0 a1).2) := aE (a := (a0, a1)) h
def aK := CN [pL 202, pL 202] (.iw [(true, f204), (false, [fB])]) RT.dec R
theorem okF (a0) (a1) (hg : gd a0 a1) : ∃ n, start (iter step n) (a0.map aa.row) (a1.map aa.row) = ret ((ao.r (md a0 a1).1), (md a0 a1).2) := by
  unfold gd at hg
  obtain ⟨H0, H1⟩ := hg
  have hl0 := H0.1
  have hl1 := H1.1
  have key : Z70.fk a0 a1 < a0.length → Z70.fk a0 a1 < a1.length → Z67.md (a0.getD (Z70.fk a0 a1) aa.zero).ae (a1.getD (Z70.fk a0 a1) aa.zero).ae = false → ∀ d k, k + d = Z70.fk a0 a1 → ∃ n, iter step n (pt (a0.map aa.row) (a1.map aa.row) (k : Int)) = ret ((ao.r (Z70.qL a0 a1 (Z70.fk a0 a1)), true) : aZ × Bool) := by
    intro hn0 hn1 hne d
    have hR : ∀ k, k < a0.length → k < a1.length → Z190.R (aq.r (a0.getD k aa.zero).ae, aq.r (a1.getD k aa.zero).ae) = some (Z67.md (a0.getD k aa.zero).ae (a1.getD k aa.zero).ae) := by
      intro k h0 h1
      rw [Z190.ai ⟨(bw.getD (z := aa.zero) H0 h0).1, (bw.getD (z := aa.zero) H1 h1).1⟩, Z190.cp, Z67.cp]
    induction d with
    | zero =>
      intro k hk
      obtain rfl : k = Z70.fk a0 a1 := by omega
      generalize hkk : Z70.fk a0 a1 = k at hn0 hn1 hne ⊢
      refine ⟨1, ?_⟩
      show step (iter step 0) _ = _
      have q1 : (0 : Int) ≤ (k : Int) := by omega
      have q2 : (k : Int) < (a0.length : Int) := by omega
      have q3 : (k : Int) < (a1.length : Int) := by omega
      simp only [pt, step, MM, S0, aa.rs, aq.rs, q1, q2, q3, decide_true, cond_true]
      rw [ba (hR k hn0 hn1), hne, cond_false, ba (Z108.ai (a0 := a0.getD k aa.zero) (bw.getD (z := aa.zero) H0 hn0)), ba (Z108.ai (a0 := a1.getD k aa.zero) (bw.getD (z := aa.zero) H1 hn1))]
      cases k with
      | zero => rfl
      | succ k =>
        have q4 : ((k + 1 : Nat) : Int) > 0 := by omega
        have q5 : i64.wrap (((k + 1 : Nat) : Int) - 1) = (k : Int) := by rw [wi _ (by omega)]; omega
        have q6 : (0 : Int) ≤ (k : Int) := by omega
        have q7 : (k : Int) < (a0.length : Int) := by omega
        simp only [q4, q5, q6, q7, decide_true, cond_true, S0, aa.rs]
        rw [ba (Z108.ai (a0 := a0.getD k aa.zero) (bw.getD (z := aa.zero) H0 (by omega)))]
        rfl
    | succ d ih =>
      intro k hk
      obtain ⟨n, hn⟩ := ih (k + 1) (by omega)
      refine ⟨n + 1, ?_⟩
      show step (iter step n) _ = _
      have q1 : (0 : Int) ≤ (k : Int) := by omega
      have q2 : (k : Int) < (a0.length : Int) := by omega
      have q3 : (k : Int) < (a1.length : Int) := by omega
      simp only [pt, step, MM, S0, aa.rs, aq.rs, q1, q2, q3, decide_true, cond_true]
      rw [ba (hR k (by omega) (by omega)), (Z70.mE a0 a1).1 k (by omega), cond_true, wi _ (by omega)]
      exact hn
  unfold start md
  simp only [S0, aa.rs, aq.rs]
  refine dF (Z151.md a0) (Z151.ai H0) ?_
  cases hc0 : Z151.md a0
  · exact ⟨0, rfl⟩
  simp only [Bool.not_true, cond_false]
  refine dF (Z151.md a1) (Z151.ai H1) ?_
  cases hc1 : Z151.md a1
  · exact ⟨0, rfl⟩
  have t0 := Z151.tr hc0
  have t1 := Z151.tr hc1
  simp only [Bool.not_true, cond_false]
  refine eR (decide_eq_true (by omega)) (eR (decide_eq_true (by omega)) ?_)
  cases ((a0.getD 0 aa.zero).ae.aT != (a1.getD 0 aa.zero).ae.aT)
  case true => exact ⟨0, rfl⟩
  simp only [cond_false]
  refine dF (Z191.md a0 a1) (Z191.ai ⟨H0, H1⟩) ?_
  cases hp0 : Z191.md a0 a1
  case true => exact ⟨0, rfl⟩
  simp only [cond_false]
  refine dF (Z191.md a1 a0) (Z191.ai ⟨H1, H0⟩) ?_
  cases hp1 : Z191.md a1 a0
  case true => exact ⟨0, rfl⟩
  simp only [cond_false]
  rw [Z191.br] at hp0 hp1
  obtain ⟨h1, h2, h3⟩ := Z70.jy hp0 hp1
  exact key h1 h2 h3 (Z70.fk a0 a1) 0 (by omega)
theorem ab : Valid Tryz.prog Ev 242 aK := L2 74 pid bR bQ live step start mix au okF (.cons Z151.ab (.cons Z191.ab (.cons Z190.ab (.cons Z108.ab .nil)))) Tryz.func242
theorem gS {a0 : List aa} {a1 : List aa} (hg : gd a0 a1) : ao.Sm (2 ^ 21) ((md a0 a1).1) := by
  unfold gd at hg; unfold md
  have z : ao.Sm (2 ^ 21) ao.zero := ⟨⟨⟨bw.nil, bw.nil, bw.nil⟩, bw.nil⟩, ⟨⟨bw.nil, bw.nil, bw.nil⟩, bw.nil⟩, ⟨⟨bw.nil, bw.nil, bw.nil⟩, bw.nil⟩⟩
  cases Z151.md a0
  · exact z
  cases Z151.md a1
  · exact z
  cases ((a0.getD 0 aa.zero).ae.aT != (a1.getD 0 aa.zero).ae.aT)
  case true => exact z
  cases h1 : Z191.md a0 a1
  case true => exact z
  cases h2 : Z191.md a1 a0
  case true => exact z
  rw [Z191.br] at h1 h2
  obtain ⟨h3, h4, _⟩ := Z70.jy h1 h2
  exact Z70.sj hg.1 hg.2 h3 h4
theorem br (a0 : List aa) (a1 : List aa) : md a0 a1 = Z70.md a0 a1 := by
 unfold md Z70.md
 first
 | (simp only [Z151.br, Z191.br, Z190.cp, Z67.cp]; done)
 | (simp only [Z151.br, Z191.br, Z190.cp, Z67.cp]; rfl)
 | rfl
end Z193
namespace Z194
def F (x0 : aW) (x1 : List (List L)) : ay := (call (Z111.R x0) fun v1 => (call (Z192.R (x0, x1)) fun v2 => (cond (v2 == 1) (cond (decide ((x0.aA.length : Int) ≥ 8)) (ret ((v1, 6) : aW × Int)) (call (Z109.R x1) fun v3 => (bJ (dU (((v1.aA.length : Int) + 1) * 24)) (ret (((⟨(v1.aA ++ [[L.sl v3]]), v1.aR⟩ : aW), v2) : aW × Int))))) (cond (v2 == 3) (bJ (decide ((0 : Int) < (x1.length : Int))) (call (Z189.R (x0, (aC.at x1 0).ae.aT)) fun v4 => (call (Z109.R x1) fun v5 => (m2 v4 (v1.aA.length : Int) (ret (((⟨(List.set v1.aA (Int.toNat v4) [L.sl v5]), v1.aR⟩ : aW), v2) : aW × Int)))))) (cond (v2 == 5) (bJ (decide ((0 : Int) < (x1.length : Int))) (call (Z189.R (x0, (aC.at x1 0).ae.aT)) fun v6 => (m2 v6 (x0.aA.length : Int) (call (Z193.R ((lA x0.aA (Int.toNat v6)), x1)) fun v7 => (cond v7.2 (cond (decide ((x0.aR.length : Int) < 8)) (bJ (dU (((v1.aR.length : Int) + 1) * 600)) (ret (((⟨v1.aA, (v1.aR ++ [(aZ.enc v7.1)])⟩ : aW), v2) : aW × Int))) (ret ((v1, v2) : aW × Int))) (ret ((v1, v2) : aW × Int))))))) (ret ((v1, v2) : aW × Int)))))))
def md (a0 : ah) (a1 : List aa) : ah × Int := (cond ((Z192.md a0 a1) == 1) (cond (decide ((a0.aA.length : Int) ≥ 8)) (a0, 6) ((⟨(a0.aA ++ [a1]), a0.aR⟩ : ah), (Z192.md a0 a1))) (cond ((Z192.md a0 a1) == 3) ((⟨(List.set a0.aA (Int.toNat (Z189.md a0 (((a1.getD 0 aa.zero).ae).aT))) a1), a0.aR⟩ : ah), (Z192.md a0 a1)) (cond ((Z192.md a0 a1) == 5) (cond ((Z193.md (a0.aA.getD (Int.toNat (Z189.md a0 (((a1.getD 0 aa.zero).ae).aT))) []) a1).2) (cond (decide ((a0.aR.length : Int) < 8)) ((⟨a0.aA, (a0.aR ++ [(Z193.md (a0.aA.getD (Int.toNat (Z189.md a0 (((a1.getD 0 aa.zero).ae).aT))) []) a1).1])⟩ : ah), (Z192.md a0 a1)) (a0, (Z192.md a0 a1))) (a0, (Z192.md a0 a1))) (a0, (Z192.md a0 a1)))))
def gd (a0 : ah) (a1 : List aa) : Prop := (ah.Sm (2 ^ 21) a0) ∧ (bw (2 ^ 21) (fun y : aa => aa.Sm (2 ^ 21) y) a1)
def R := RR (p2 gd) (u2 md)
theorem ai {a0 a1} (h : gd a0 a1) : R ((ah.r a0), (a1.map aa.row)) = some ((ah.r (md a0 a1).1), (md a0 a1).2) := aE (a := (a0, a1)) h
def aK := CN [.agg rh, pL 202] (.iw [(true, f32), (false, [fI])]) RT.dec R
theorem okF (a0) (a1) (hg : gd a0 a1) : F (ah.r a0) (a1.map aa.row) = ret ((ah.r (md a0 a1).1), (md a0 a1).2) := by
  obtain ⟨H0, H1⟩ := hg
  unfold F md
  try simp only [SS]
  refine ct (Z111.ai H0) ?_
  try simp only [SS]
  refine ct (Z192.ai ⟨H0, H1⟩) ?_
  have fv2_ := Z192.fa a0 a1
  refine ak (fun b : ah × Int => ret (((ah.r b.1), b.2) : aW × Int)) (fun c1 => ?_) (fun c1 => ?_)
  · have dc1 := c1
    try simp only [DC] at dc1
    refine ak (fun b : ah × Int => ret (((ah.r b.1), b.2) : aW × Int)) (fun c2 => ?_) (fun c2 => ?_)
    · all_goals exact fz
    · have dc2 := c2
      try simp only [DC] at dc2
      refine ct (Z109.ai H1) ?_
      try simp only [SS]
      refine af (have := (H0.1).1; lm) ?_
      all_goals exact fz
  · have dc1 := c1
    try simp only [DC] at dc1
    refine ak (fun b : ah × Int => ret (((ah.r b.1), b.2) : aW × Int)) (fun c3 => ?_) (fun c3 => ?_)
    · have dc3 := c3
      try simp only [DC] at dc3
      refine af (have := (H1).1; dt) ?_
      refine ct (Z189.ai H0) ?_
      have fv4_ := Z189.fa a0 (((a1.getD 0 aa.zero).ae).aT)
      refine ct (Z109.ai H1) ?_
      try simp only [SS]
      refine af dt ?_
      refine af (have := (H0.1).1; dt) ?_
      all_goals exact fz
    · have dc3 := c3
      try simp only [DC] at dc3
      refine ak (fun b : ah × Int => ret (((ah.r b.1), b.2) : aW × Int)) (fun c4 => ?_) (fun c4 => ?_)
      · have dc4 := c4
        try simp only [DC] at dc4
        refine af (have := (H1).1; dt) ?_
        refine ct (Z189.ai H0) ?_
        have fv6_ := Z189.fa a0 (((a1.getD 0 aa.zero).ae).aT)
        refine af dt ?_
        refine af (have := (H0.1).1; dt) ?_
        refine ct (Z193.ai ⟨(bw.getD (z := []) H0.1 (by first | assumption | omega | (simp (disch := omega) only [wi]; omega) | (simp; omega))), H1⟩) ?_
        try simp only [SS]
        refine ak (fun b : ah × Int => ret (((ah.r b.1), b.2) : aW × Int)) (fun c5 => ?_) (fun c5 => ?_)
        · refine ak (fun b : ah × Int => ret (((ah.r b.1), b.2) : aW × Int)) (fun c6 => ?_) (fun c6 => ?_)
          · have dc6 := c6
            try simp only [DC] at dc6
            refine af (have := (H0.2).1; lm) ?_
            all_goals exact fz
          · all_goals exact fz
        · all_goals exact fz
      · all_goals exact fz
theorem ab : Valid Tryz.prog Ev 195 aK := W2 77 F mix au okF (.cons Z111.ab (.cons Z192.ab (.cons Z109.ab (.cons Z189.ab (.cons Z193.ab .nil))))) Tryz.func195
theorem gS {a0 : ah} {a1 : List aa} (hg : gd a0 a1) : ah.Sm (2 ^ 21) ((md a0 a1).1) := by
 unfold gd at hg; unfold md
 obtain ⟨⟨h1, h2⟩, h3⟩ := hg
 simp only [Bool.cond_eq_ite]
 repeat' split
 all_goals (try simp only [decide_eq_true_eq, ge_iff_le] at *)
 all_goals first
  | exact ⟨h1, h2⟩
  | exact ⟨bw.app (a := 7) (b := 1) ⟨by omega, h1.2⟩ (bw.one h3) (by decide), h2⟩
  | exact ⟨bw.set h1 h3, h2⟩
  | exact ⟨h1, bw.app (a := 7) (b := 1) ⟨by omega, h2.2⟩ (bw.one (Z193.gS ⟨bw.wD h1 bw.nil, h3⟩)) (by decide)⟩
theorem br (a0 : ah) (a1 : List aa) : md a0 a1 = Z71.md a0 a1 := by
 unfold md Z71.md
 first
 | (simp only [Z192.br, Z189.br, Z193.br]; done)
 | (simp only [Z192.br, Z189.br, Z193.br]; rfl)
 | rfl
end Z194
namespace Z195
inductive Pt where
 | p0 (a : List (List L)) (b : List (List L)) (c : Int) (d : Int)
def pid : Pt → Nat
 | .p0 .. => 4
def bR : Pt → List V
 | .p0 a b c d => [.sl none 264 a, .sl none 264 b, .int .i64 c, .int .i64 d]
def bQ : Pt → List aI
 | .p0 a b c d => []
def step (J : Pt → ay) : Pt → ay
 | .p0 a b c d => (cond (decide (d < c)) (m2 d (a.length : Int) (m2 d (b.length : Int) (cond (!((((aJ.at a (Int.toNat d)).fq : Int) == (aJ.at b (Int.toNat d)).fq) && ((((aJ.at a (Int.toNat d)).gN : Int) == (aJ.at b (Int.toNat d)).gN) && true))) (ret (false : Bool)) (J (.p0 a b c (i64.wrap (d + 1))))))) (ret (true : Bool)))
def start (J : Pt → ay) (x0 : List (List L)) (x1 : List (List L)) : ay := (cond ((x0.length : Int) != (x1.length : Int)) (ret (false : Bool)) (J (.p0 x0 x1 (x0.length : Int) 0)))
def live : Nat → Live := fun i => match i with | 4 => [(0, none), (1, none), (12, none), (13, none)] | _ => []
def md (a0 : List aJ) (a1 : List aJ) : Bool := (bif ((a0.length : Int) != (a1.length : Int)) then (false : Bool) else (dc (S := Unit) (β := Bool) (fun (i2 : Nat) (s4 : Unit) => (cond (!((((a0.getD i2 aJ.zero).fq : Int) == (a1.getD i2 aJ.zero).fq) && ((((a0.getD i2 aJ.zero).gN : Int) == (a1.getD i2 aJ.zero).gN) && true))) (.inr (false : Bool)) (.inl ()))) (fun (s4 : Unit) => (true : Bool)) a0.length 0 ()))
def gd (a0 : List aJ) (a1 : List aJ) : Prop := (bw (2 ^ 21) (fun y : aJ => aJ.Sm (2 ^ 21) y) a0) ∧ (bw (2 ^ 21) (fun y : aJ => aJ.Sm (2 ^ 21) y) a1)
def R := RR (p2 gd) (u2 md)
theorem ai {a0 a1} (h : gd a0 a1) : R ((a0.map aJ.row), (a1.map aJ.row)) = some (md a0 a1) := aE (a := (a0, a1)) h
def aK := CN [pL 264, pL 264] oB RT.dec R
theorem okF (a0) (a1) (hg : gd a0 a1) : ∃ n, start (iter step n) (a0.map aJ.row) (a1.map aJ.row) = ret (md a0 a1) := by
  obtain ⟨H0, H1⟩ := hg
  unfold start md
  try simp only [SS]
  refine fw ret (fun _ => ⟨0, rfl⟩) (fun c1 => ?_)
  have dc1 := c1
  try simp only [DC] at dc1
  have Bh3 : a0.length ≤ maxLen := (by
      have := (H0).1
      try simp only [maxLen] at *
      omega)
  refine dk (p := Pt.p0 (a0.map aJ.row) (a1.map aJ.row) (a0.length : Int) 0) fz ?_
  refine bP (pt := fun (i2 : Nat) (s4 : Unit) => Pt.p0 (a0.map aJ.row) (a1.map aJ.row) (a0.length : Int) (i2 : Int)) (s := (() : Unit)) (out := ret) (fun _ _ => True) (fun J i2 s4 h3 hih3 => ?_) (fun s4 hih3 => ?_) trivial
  · simp only [step, SS]
    have bb_ := Bh3
    simp only [maxLen] at bb_
    have := (H0).1
    refine aY.yes (by apply decide_eq_true; omega) ?_
    refine aY.yes ax ?_
    refine aY.yes (aD h3) ?_
    refine aY.yes ax ?_
    refine aY.yes (have := (H1).1; dt) ?_
    refine aY.bif (fun _ => aY.inr rfl) (fun c5 => ?_)
    refine aY.inl trivial ?_
    rw [az h3 Bh3]
    all_goals exact fz
  · simp only [step, SS]
    have := (H0).1
    refine dh (by apply decide_eq_false; omega) ?_
    refine ⟨0, ?_⟩
    all_goals exact fz
theorem ab : Valid Tryz.prog Ev 362 aK := L2 26 pid bR bQ live step start mix au okF .nil Tryz.func362
theorem cp (a0 : List aJ) (a1 : List aJ) : md a0 a1 = cU a0 a1 := by
 unfold md
 refine iG (aJ.zero) (fun i s h h2 => ?_) (fun s => rfl)
 simp only [bne, dL, bool_beq, dA, aJ.xc]
 cases cU _ _ <;> rfl
end Z195
namespace Z196
def F (x0 : aC) (x1 : aC) : ay := (call (Z190.R (x0.ae, x1.ae)) fun v1 => (cond v1 (call (Z195.R (x0.bC, x1.bC)) fun v2 => ret (v2 : Bool)) (ret (false : Bool))))
def md (a0 : aa) (a1 : aa) : Bool := (cond (Z190.md a0.ae a1.ae) ((Z195.md a0.bC a1.bC) : Bool) (false : Bool))
def gd (a0 : aa) (a1 : aa) : Prop := (aa.Sm (2 ^ 21) a0) ∧ (aa.Sm (2 ^ 21) a1)
def R := RR (p2 gd) (u2 md)
theorem ai {a0 a1} (h : gd a0 a1) : R ((aa.r a0), (aa.r a1)) = some (md a0 a1) := aE (a := (a0, a1)) h
def aK := CN [.agg iR, .agg iR] oB RT.dec R
theorem okF (a0) (a1) (hg : gd a0 a1) : F (aa.r a0) (aa.r a1) = ret (md a0 a1) := by
 obtain ⟨H0, H1⟩ := hg
 unfold F md
 try simp only [SS]
 refine ct (Z190.ai ⟨H0.1, H1.1⟩) ?_
 refine ak ret (fun c1 => ?_) (fun _ => rfl)
 refine ct (Z195.ai ⟨H0.2, H1.2⟩) ?_
 all_goals exact fz
theorem ab : Valid Tryz.prog Ev 335 aK := W2 17 F mix au okF (.cons Z190.ab (.cons Z195.ab .nil)) Tryz.func335
theorem cp (a0 : aa) (a1 : aa) : md a0 a1 = cU a0 a1 := by
 unfold md
 cases a0; cases a1
 rw [Bool.eq_iff_iff]
 simp [ca, dA, aa.mk.injEq, Z190.cp, Z195.cp]
 try (constructor <;> (intro h; simp_all))
end Z196
namespace Z197
def F (x0 : aZ) : ay := (call (Z190.R (x0.fA.ae, x0.fB.ae)) fun v1 => (cond v1 (ret (false : Bool)) (call (Z196.R (x0.av, (⟨(⟨0, 0, 0, 0, 0, 0, 0, 0, (⟨[], 0⟩ : aO), (⟨[], 0⟩ : aO), 0, (⟨[], 0⟩ : aO), false⟩ : bq), []⟩ : aC))) fun v2 => (cond v2 (call (Z139.R x0.fA) fun v3 => (cond v3 (call (Z139.R x0.fB) fun v4 => (cond v4 (ret ((x0.fA.ae.aT == x0.fB.ae.aT) : Bool)) (ret (false : Bool)))) (ret (false : Bool)))) (call (Z149.R (x0.av.ae, x0.fA)) fun v5 => (cond v5 (call (Z149.R (x0.av.ae, x0.fB)) fun v6 => ret (v6 : Bool)) (ret (false : Bool))))))))
def md (a0 : ao) : Bool := (cond (Z190.md a0.fA.ae a0.fB.ae) (false : Bool) (cond (Z196.md a0.av (⟨(⟨0, 0, 0, 0, 0, 0, 0, 0, (⟨[], 0⟩ : aw), (⟨[], 0⟩ : aw), 0, (⟨[], 0⟩ : aw), false⟩ : aq), []⟩ : aa)) (cond (Z139.md a0.fA) (cond (Z139.md a0.fB) ((a0.fA.ae.aT == a0.fB.ae.aT) : Bool) (false : Bool)) (false : Bool)) (cond (Z149.md a0.av.ae a0.fA) ((Z149.md a0.av.ae a0.fB) : Bool) (false : Bool))))
def gd (a0 : ao) : Prop := (ao.Sm (2 ^ 21) a0)
def R := RR gd md
theorem ai {a0} (h : gd a0) : R (ao.r a0) = some (md a0) := aE (a := a0) h
def aK := CN [.agg pN] oB RT.dec R
theorem okF (a0) (hg : gd a0) : F (ao.r a0) = ret (md a0) := by
  unfold gd at hg
  have H0 := hg
  unfold F md
  try simp only [SS]
  refine ct (Z190.ai ⟨H0.2.1.1, H0.2.2.1⟩) ?_
  refine ak ret (fun _ => rfl) (fun c1 => ?_)
  refine ct (Z196.ai (a1 := (⟨(⟨0, 0, 0, 0, 0, 0, 0, 0, (⟨[], 0⟩ : aw), (⟨[], 0⟩ : aw), 0, (⟨[], 0⟩ : aw), false⟩ : aq), []⟩ : aa)) ⟨H0.1, ⟨⟨bw.nil, bw.nil, bw.nil⟩, bw.nil⟩⟩) ?_
  refine ak ret (fun c2 => ?_) (fun c2 => ?_)
  · refine ct (Z139.ai H0.2.1) ?_
    refine ak ret (fun c3 => ?_) (fun _ => rfl)
    refine ct (Z139.ai H0.2.2) ?_
    refine ak ret (fun c4 => ?_) (fun _ => rfl)
    all_goals exact fz
  · refine ct (Z149.ai ⟨H0.1.1, H0.2.1⟩) ?_
    refine ak ret (fun c5 => ?_) (fun _ => rfl)
    refine ct (Z149.ai ⟨H0.1.1, H0.2.2⟩) ?_
    all_goals exact fz
theorem ab : Valid Tryz.prog Ev 294 aK := W1 49 F mix au okF (.cons Z190.ab (.cons Z196.ab (.cons Z139.ab (.cons Z149.ab .nil)))) Tryz.func294
theorem br (a0 : ao) : md a0 = Z98.md a0 := by
 unfold md Z98.md
 first
 | (simp only [Z139.br, Z149.br, Z190.cp, Z196.cp, Z67.cp, Z97.cp]; done)
 | (simp only [Z139.br, Z149.br, Z190.cp, Z196.cp, Z67.cp, Z97.cp]; rfl)
 | rfl
end Z197
namespace Z198
def F (x0 : aZ) : ay := (call (Z197.R x0) fun v1 => (cond (!v1) (ret ((-1) : Int)) (ret (x0.fA.ae.aT : Int))))
def md (a0 : ao) : Int := (cond (!(Z197.md a0)) ((-1) : Int) (a0.fA.ae.aT : Int))
def gd (a0 : ao) : Prop := (ao.Sm (2 ^ 21) a0)
def R := RR gd md
theorem ai {a0} (h : gd a0) : R (ao.r a0) = some (md a0) := aE (a := a0) h
def aK := CN [.agg pN] oI RT.dec R
theorem okF (a0) (hg : gd a0) : F (ao.r a0) = ret (md a0) := by
 unfold gd at hg
 have H0 := hg
 unfold F md
 try simp only [SS]
 refine ct (Z197.ai H0) ?_
 refine ak ret (fun _ => rfl) (fun c1 => ?_)
 all_goals exact fz
theorem ab : Valid Tryz.prog Ev 245 aK := W1 10 F mix au okF (.cons Z197.ab .nil) Tryz.func245
theorem br (a0 : ao) : md a0 = Z99.md a0 := by
 unfold md Z99.md
 first
 | (simp only [Z197.br]; done)
 | (simp only [Z197.br]; rfl)
 | rfl
end Z198
namespace Z199
def F (x0 : aZ) (x1 : List L) : ay := (call (Z198.R x0) fun v1 => ret ((v1 == (gq x1)) : Bool))
def bO : List fE := [.agg [.int .i64, .int .i64, .int .i64, .int .i64, .int .i64, .int .i64, .int .i64, .int .i64, .sl 3, .int .i64, .sl 3, .int .i64, .int .i64, .sl 3, .int .i64, .bool, .sl 264, .int .i64, .int .i64, .int .i64, .int .i64, .int .i64, .int .i64, .int .i64, .int .i64, .sl 3, .int .i64, .sl 3, .int .i64, .int .i64, .sl 3, .int .i64, .bool, .sl 264, .int .i64, .int .i64, .int .i64, .int .i64, .int .i64, .int .i64, .int .i64, .int .i64, .sl 3, .int .i64, .sl 3, .int .i64, .int .i64, .sl 3, .int .i64, .bool, .sl 264], .ptr [.int .i64]]
def res : RP := .one (.rd (.bool))
def md (a0 : ao) (a1 : Int) : Bool := (((Z198.md a0) == a1) : Bool)
def gd (a0 : ao) (a1 : Int) : Prop := (ao.Sm (2 ^ 21) a0)
def acc (ls : List L) : aZ × Int := ((aZ.dec ls), (gq (cO 1 (ar 51 ls))))
def R : (aZ × Int) → Option Bool := RR (p2 gd) (u2 md)
theorem ai {a0 a1} (h : gd a0 a1) : R ((ao.r a0), a1) = some (md a0 a1) := aE (a := (a0, a1)) h
def aK : fe := CN bO res acc R
theorem okF (a0 : ao) (a1 : Int) (p1 : List L) (e1 : a1 = (gq p1)) (hg : gd a0 a1) : F (ao.r a0) p1 = ret ((md a0 a1) : Bool) := by
 unfold gd at hg
 have H0 := hg
 unfold F md
 try simp only [SS, ← e1]
 refine ct (Z198.ai H0) ?_
 all_goals exact fz
theorem rG (ls : List L) (a : ao × Int) (e : acc ls = Im.im a) (hg : (p2 gd) a) : ∃ n : Nat, F (aZ.dec ls) (cO 1 (ar 51 ls)) = ret (Im.im ((u2 md) a)) := by
 have e0 : (ao.r a.1) = (aZ.dec ls) := (congrArg (fun x => x.1) e.symm)
 have hn := okF a.1 a.2 (cO 1 (ar 51 ls)) (congrArg (fun x => x.2) e.symm) hg
 refine ⟨0, ?_⟩
 rw [← e0]
 exact hn
theorem ab : Valid Tryz.prog Ev 244 aK := VP (live := fun _ => []) (nt := 8) (accr := fun ls => ((aZ.dec ls), (cO 1 (ar 51 ls)))) (run := fun _ x => F x.1 x.2) mix au (.cons Z198.ab .nil) Tryz.func244 (by kernel_rfl) (fun _ _ => by kernel_rfl) (fun ls a _ e hg => rG ls a e hg)
end Z199
namespace Z200
inductive Pt where
 | p0 (a : List (List L)) (b : List L) (c : Int) (d : Int)
def pid : Pt → Nat
 | .p0 .. => 2
def bR : Pt → List V
 | .p0 a b c d => [.sl none 204 a, .fn 244 [.cY none [.int .i64] b 0], .int .i64 c, .int .i64 d]
def bQ : Pt → List aI
 | .p0 a b c d => []
def step (J : Pt → ay) : Pt → ay
 | .p0 a b c d => (cond (decide (d < c)) (m2 d (a.length : Int) (call (Z199.R ((aZ.at a (Int.toNat d)), (gq b))) fun v1 => (cond v1 (ret (d : Int)) (J (.p0 a b c (i64.wrap (d + 1))))))) (ret ((-1) : Int)))
def start (J : Pt → ay) (x0 : List (List L)) (x1 : List L) : ay := J (.p0 x0 x1 (x0.length : Int) 0)
def live : Nat → Live := fun i => match i with | 2 => [(0, none), (1, none), (7, none), (8, none)] | _ => []
def bO : List fE := [.rd (.sl 204), .fn 244 [[.int .i64]]]
def res : RP := .one (.rd (.int .i64))
abbrev E : Env := { T := assoc lr, G := cK [(244, Z199.aK)], nt := 19 }
theorem step_eq (I : bY) (p : Pt) : cz E live I (pid p) (bo Tryz.f293) (eN (live (pid p)) (bR p) (bQ p)) (bX E Tryz.f293 res) = step (fun q => I (pid q) (bR q) (bQ q)) p := by
 cases p <;> kernel_rfl
theorem start_eq (I : bY) (ls : List L) : ee E live I (bo Tryz.f293) (cG bO ls) (bX E Tryz.f293 res) = start (fun q => I (pid q) (bR q) (bQ q)) (ls.headD .hole).aG (cO 1 (ar 1 ls)) := by kernel_rfl
theorem run_eq (n : Nat) (ls : List L) : ea E live Tryz.f293 res n (cG bO ls) = start (iter step n) (ls.headD .hole).aG (cO 1 (ar 1 ls)) := bW (id := pid) (vs := bR) (hs := bQ) (step := step) (start := fun J => start J (ls.headD .hole).aG (cO 1 (ar 1 ls))) step_eq (fun I => start_eq I ls) n
def md (a0 : List ao) (a1 : Int) : Int := (dy (S := Unit) (β := Int) (fun (i1 : Nat) (y1 : ao) (s3 : Unit) => (cond (Z199.md y1 a1) (.inr ((i1 : Int) : Int)) (.inl ()))) (fun (s3 : Unit) => ((-1) : Int)) 0 a0 ())
def gd (a0 : List ao) (a1 : Int) : Prop := (bw (2 ^ 21) (fun y : ao => ao.Sm (2 ^ 21) y) a0)
def acc (ls : List L) : List (List L) × Int := ((ls.headD .hole).aG, (gq (cO 1 (ar 1 ls))))
def R : (List (List L) × Int) → Option Int := RR (p2 gd) (u2 md)
theorem ai {a0 a1} (h : gd a0 a1) : R ((a0.map ao.row), a1) = some (md a0 a1) := aE (a := (a0, a1)) h
def aK : fe := CN bO res acc R
theorem okF (a0 : List ao) (a1 : Int) (p1 : List L) (e1 : a1 = (gq p1)) (hg : gd a0 a1) : ∃ n, start (iter step n) (a0.map ao.row) p1 = ret ((md a0 a1) : Int) := by
  unfold gd at hg
  have H0 := hg
  unfold start md
  try simp only [SS, ← e1]
  have Bh2 : a0.length ≤ maxLen := (by
      have := (H0).1
      try simp only [maxLen] at *
      omega)
  refine dV (out := ret) (cV (z := ao.zero)) ?_
  refine dk (p := Pt.p0 (a0.map ao.row) p1 (a0.length : Int) 0) fz ?_
  refine bP (pt := fun (i1 : Nat) (s3 : Unit) => Pt.p0 (a0.map ao.row) p1 (a0.length : Int) (i1 : Int)) (s := (() : Unit)) (out := ret) (fun _ _ => True) (fun J i1 s3 h2 hih2 => ?_) (fun s3 hih2 => ?_) trivial
  · simp only [step, SS, ← e1]
    have bb_ := Bh2
    simp only [maxLen] at bb_
    have := (H0).1
    refine aY.yes (by apply decide_eq_true; omega) ?_
    refine aY.yes ax ?_
    refine aY.yes (aD h2) ?_
    refine cr (Z199.ai (bw.getD (z := ao.zero) H0 h2)) ?_
    refine aY.bif (fun c4 => ?_) (fun c4 => ?_)
    · refine aY.inr ?_
      all_goals exact fz
    · refine aY.inl trivial ?_
      rw [az h2 Bh2]
      all_goals exact fz
  · simp only [step, SS, ← e1]
    have := (H0).1
    refine dh (by apply decide_eq_false; omega) ?_
    refine ⟨0, ?_⟩
    all_goals exact fz
theorem rG (ls : List L) (a : List ao × Int) (e : acc ls = Im.im a) (hg : (p2 gd) a) : ∃ n : Nat, start (iter step n) ((ls.headD .hole).aG) (cO 1 (ar 1 ls)) = ret (Im.im ((u2 md) a)) := by
 have e0 : (a.1.map ao.row) = (ls.headD .hole).aG := (congrArg (fun x => x.1) e.symm)
 obtain ⟨n, hn⟩ := okF a.1 a.2 (cO 1 (ar 1 ls)) (congrArg (fun x => x.2) e.symm) hg
 refine ⟨n, ?_⟩
 rw [← e0]
 exact hn
theorem ab : Valid Tryz.prog Ev 293 aK := VP (accr := fun ls => ((ls.headD .hole).aG, (cO 1 (ar 1 ls)))) (run := fun n x => start (iter step n) x.1 x.2) mix au (.cons Z199.ab .nil) Tryz.func293 (by kernel_rfl) run_eq (fun ls a _ e hg => rG ls a e hg)
theorem fa (a0 : List ao) (a1 : Int) : -1 ≤ md a0 a1 ∧ md a0 a1 < (a0.length : Int) := by
 unfold md
 refine iy ?_ _ _
 all_goals
  intro i x s b h
  revert h
  simp only [Bool.cond_eq_ite]
  repeat' split
  all_goals (intro h; first | (cases h; rfl) | cases h)
theorem idx_eq (a0 : List ao) (a1 : Int) : md a0 a1 = jb (fun y => Z199.md y a1) 0 a0 := by
 unfold md
 exact gJ
end Z200
namespace Z201
def F (x0 : List (List L)) (x1 : List L) : ay := (call (Z200.R (x0, (gq x1))) fun v1 => ret ((decide (v1 ≥ 0)) : Bool))
def bO : List fE := [.rd (.sl 204), .fn 244 [[.int .i64]]]
def res : RP := .one (.rd (.bool))
def md (a0 : List ao) (a1 : Int) : Bool := ((decide ((Z200.md a0 a1) ≥ 0)) : Bool)
def gd (a0 : List ao) (a1 : Int) : Prop := (bw (2 ^ 21) (fun y : ao => ao.Sm (2 ^ 21) y) a0)
def acc (ls : List L) : List (List L) × Int := ((ls.headD .hole).aG, (gq (cO 1 (ar 1 ls))))
def R : (List (List L) × Int) → Option Bool := RR (p2 gd) (u2 md)
theorem ai {a0 a1} (h : gd a0 a1) : R ((a0.map ao.row), a1) = some (md a0 a1) := aE (a := (a0, a1)) h
def aK : fe := CN bO res acc R
theorem okF (a0 : List ao) (a1 : Int) (p1 : List L) (e1 : a1 = (gq p1)) (hg : gd a0 a1) : F (a0.map ao.row) p1 = ret ((md a0 a1) : Bool) := by
 unfold gd at hg
 have H0 := hg
 unfold F md
 try simp only [SS, ← e1]
 refine ct (Z200.ai H0) ?_
 have fv1_ := Z200.fa a0 a1
 all_goals exact fz
theorem rG (ls : List L) (a : List ao × Int) (e : acc ls = Im.im a) (hg : (p2 gd) a) : ∃ n : Nat, F ((ls.headD .hole).aG) (cO 1 (ar 1 ls)) = ret (Im.im ((u2 md) a)) := by
 have e0 : (a.1.map ao.row) = (ls.headD .hole).aG := (congrArg (fun x => x.1) e.symm)
 have hn := okF a.1 a.2 (cO 1 (ar 1 ls)) (congrArg (fun x => x.2) e.symm) hg
 refine ⟨0, ?_⟩
 rw [← e0]
 exact hn
theorem ab : Valid Tryz.prog Ev 243 aK := VP (live := fun _ => []) (nt := 9) (accr := fun ls => ((ls.headD .hole).aG, (cO 1 (ar 1 ls)))) (run := fun _ x => F x.1 x.2) mix au (.cons Z200.ab .nil) Tryz.func243 (by kernel_rfl) (fun _ _ => by kernel_rfl) (fun ls a _ e hg => rG ls a e hg)
theorem any_eq (a0 : List ao) (a1 : Int) : md a0 a1 = a0.any (fun y => Z199.md y a1) := by
 unfold md
 rw [Z200.idx_eq]
 exact mX
end Z201
namespace Z202
def F (x0 : aW) (x1 : Int) : ay := (cond (decide (x1 ≥ 0)) (call (Z201.R (x0.aR, x1)) fun v1 => ret (v1 : Bool)) (ret (false : Bool)))
def md (a0 : ah) (a1 : Int) : Bool := (cond (decide (a1 ≥ 0)) ((Z201.md a0.aR a1) : Bool) (false : Bool))
def gd (a0 : ah) (a1 : Int) : Prop := (ah.Sm (2 ^ 21) a0)
def R := RR (p2 gd) (u2 md)
theorem ai {a0 a1} (h : gd a0 a1) : R ((ah.r a0), a1) = some (md a0 a1) := aE (a := (a0, a1)) h
def aK := CN [.agg rh, pI] oB RT.dec R
theorem okF (a0) (a1) (hg : gd a0 a1) : F (ah.r a0) a1 = ret (md a0 a1) := by
 unfold gd at hg
 have H0 := hg
 unfold F md
 try simp only [SS]
 refine ak ret (fun c1 => ?_) (fun _ => rfl)
 refine ct (Z201.ai H0.2) ?_
 all_goals exact fz
theorem ab : Valid Tryz.prog Ev 197 aK := W2 13 F mix au okF (.cons Z201.ab .nil) Tryz.func197
theorem br (a0 : ah) (a1 : Int) : md a0 a1 = Z100.md a0 a1 := by
  unfold md Z100.md
  rw [Z201.any_eq]
  rw [kt (p := fun y => (Z99.md y == a1) && decide (a1 ≥ 0)) (fun x s => by
    cases (Z99.md x == a1) <;> cases decide (a1 ≥ 0) <;> rfl) a0.aR ()]
  have e : (fun y => Z199.md y a1) = fun y => Z99.md y == a1 := by
    funext y
    unfold Z199.md
    rw [Z198.br]
  rw [e]
  cases decide (a1 ≥ 0)
  · simp
  · simp
end Z202
namespace Z203
def F (x0 : List (List L)) : ay := (cond x0.isEmpty (either (ret ([] : List (List L))) ((bJ (dU ((x0.length : Int) * 16)) (ret (x0 : List (List L)))))) (bJ (dU ((x0.length : Int) * 16)) (ret (x0 : List (List L)))))
def md (a0 : List ByteArray) : List ByteArray := a0
def gd (a0 : List ByteArray) : Prop := bw (2 ^ 21) (fun y : ByteArray => y.size ≤ (2 ^ 21)) a0
def R := RR gd md
theorem ai {a0} (h : gd a0) : R (a0.map cu) = some (a0.map cu) := aE (a := a0) h
def aK := CN [pL 9] (oL 9) RT.dec R
theorem okF (a0) (hg : gd a0) : F (a0.map cu) = ret ((md a0).map cu) := by
 have H0 := hg.1
 unfold F md
 have hl : dU (((a0.map cu).length : Int) * 16) = true := iD (by simp only [List.length_map]; omega)
 simp only [hl, cond_true]
 cases a0 with
 | nil => exact jo
 | cons x xs => rfl
theorem ab : Valid Tryz.prog Ev 198 aK := W1 8 F mix au okF .nil Tryz.func198
end Z203
namespace Z204
def F (x0 : bA) : ay := (call (Z203.R x0.aU) fun v1 => ret ((⟨x0.aV, x0.bg, x0.bE, v1⟩ : bA) : bA))
def md (a0 : aj) : aj := a0
def gd (a0 : aj) : Prop := (aj.Sm (2 ^ 21) a0)
def R := RR gd md
theorem ai {a0} (h : gd a0) : R (aj.r a0) = some (aj.r a0) := aE (a := a0) h
def aK := CN [.agg nM] (.agg f35) RT.dec R
theorem okF (a0) (hg : gd a0) : F (aj.r a0) = ret (aj.r (md a0)) := by
 unfold gd at hg
 have H0 := hg
 unfold F md
 try simp only [SS]
 refine ct (Z203.ai H0.2) ?_
 try simp only [SS]
 all_goals exact fz
theorem ab : Valid Tryz.prog Ev 148 aK := W1 8 F mix au okF (.cons Z203.ab .nil) Tryz.func148
end Z204
namespace Z205
abbrev E : Env := { T := assoc lr, G := cK [(178, Z186.aK), (194, Z151.aK), (195, Z194.aK), (196, Z112.aK), (197, Z202.aK)], nt := 74, M := fb [], I := ni [] }
def ic : mw := inl E Tryz.f147
theorem vo : gr Tryz.prog Ev 147 ic := vO (mt := false) mix au (.cons Z186.ab (.cons Z151.ab (.cons Z194.ab (.cons Z112.ab (.cons Z202.ab .nil))))) .nil .nil Tryz.func147 (by kernel_rfl)
end Z205
end Go.DM
end
