/- What the functions compute that the law reaches, and that the law returns true. Conditions: none. -/
import Derived.Test.YtfghhicdmjiaaaaGreatKeepAnswerTy
import Derived.Test.YtfghhicdmjiaaaaGreatKeepAnswerFnA
import Derived.Test.YtfghhicdmjiaaaaGreatProg
import Derived.Lib.AppendZerosOnto
import Derived.Lib.Bytealg
import Derived.Laws.Externs
import Derived.Lib.Walk
import Derived.Lib.Hide
import Derived.Lib.Strings
set_option linter.all false
set_option maxRecDepth 100000
noncomputable section
namespace Go.DM
open Go.Proofs
namespace Z88
def F (x0 : Int) (x1 : Int) (x2 : ByteArray) (x3 : RGap) : Ans := (call (Z73.R x2) fun v1 => (bif (!v1) then ret (false : Bool) else (call (Z39.R (x3.fAt, 0, x1)) fun v2 => (bif (!v2) then ret (false : Bool) else (bif (x1 == 0) then (call (Z85.R []) fun v3 => (bif (x0 != v3) then ret (false : Bool) else (bif (x3.fAt == 0) then (call (Z86.R (x3.fBefore, x3.fLeft)) fun v4 => (bif (!v4) then ret (false : Bool) else (bif (x3.fAt == x1) then (call (Z86.R (x3.fAfter, x3.fRight)) fun v5 => ret (v5 : Bool)) else (call (Z77.R (x0, x1, x3.fAfter, x3.fRight)) fun v6 => (bif v6 then (bif (x3.fRight.fAt == x3.fAt) then (call (Z87.R (x3.fAfter.fLabel, x2)) fun v7 => ret ((v7 == 1) : Bool)) else ret (false : Bool)) else ret (false : Bool)))))) else (call (Z77.R (x0, x1, x3.fBefore, x3.fLeft)) fun v8 => (bif (!v8) then ret (false : Bool) else (bif (x3.fLeft.fAt != (IntKind.i64.wrap (x3.fAt - 1))) then ret (false : Bool) else (call (Z87.R (x3.fBefore.fLabel, x2)) fun v9 => (bif (v9 != (-1)) then ret (false : Bool) else (bif (x3.fAt == x1) then (call (Z86.R (x3.fAfter, x3.fRight)) fun v10 => ret (v10 : Bool)) else (call (Z77.R (x0, x1, x3.fAfter, x3.fRight)) fun v11 => (bif v11 then (bif (x3.fRight.fAt == x3.fAt) then (call (Z87.R (x3.fAfter.fLabel, x2)) fun v12 => ret ((v12 == 1) : Bool)) else ret (false : Bool)) else ret (false : Bool)))))))))))) else (bif (x3.fAt == 0) then (call (Z86.R (x3.fBefore, x3.fLeft)) fun v13 => (bif (!v13) then ret (false : Bool) else (bif (x3.fAt == x1) then (call (Z86.R (x3.fAfter, x3.fRight)) fun v14 => ret (v14 : Bool)) else (call (Z77.R (x0, x1, x3.fAfter, x3.fRight)) fun v15 => (bif v15 then (bif (x3.fRight.fAt == x3.fAt) then (call (Z87.R (x3.fAfter.fLabel, x2)) fun v16 => ret ((v16 == 1) : Bool)) else ret (false : Bool)) else ret (false : Bool)))))) else (call (Z77.R (x0, x1, x3.fBefore, x3.fLeft)) fun v17 => (bif (!v17) then ret (false : Bool) else (bif (x3.fLeft.fAt != (IntKind.i64.wrap (x3.fAt - 1))) then ret (false : Bool) else (call (Z87.R (x3.fBefore.fLabel, x2)) fun v18 => (bif (v18 != (-1)) then ret (false : Bool) else (bif (x3.fAt == x1) then (call (Z86.R (x3.fAfter, x3.fRight)) fun v19 => ret (v19 : Bool)) else (call (Z77.R (x0, x1, x3.fAfter, x3.fRight)) fun v20 => (bif v20 then (bif (x3.fRight.fAt == x3.fAt) then (call (Z87.R (x3.fAfter.fLabel, x2)) fun v21 => ret ((v21 == 1) : Bool)) else ret (false : Bool)) else ret (false : Bool)))))))))))))))
def pats : List Pat := [.rd (.int .i64), .rd (.int .i64), .rd (.str), .agg [.int .i64, .str, .int .i64, .int .i64, .sl 9, .str, .int .i64, .int .i64, .sl 9, .int .i64, .sl 3, .int .i64, .sl 3]]
def res : RP := .one (.rd (.bool))
def md (a0 : Int) (a1 : Int) (a2 : ByteArray) (a3 : MGap) : Bool := (bif (!(Z73.md a2)) then (false : Bool) else (bif (!(Z39.md a3.fAt 0 a1)) then (false : Bool) else (bif (a1 == 0) then (bif (a0 != (Z85.md [])) then (false : Bool) else (bif (a3.fAt == 0) then (bif (!(Z86.md a3.fBefore a3.fLeft)) then (false : Bool) else (bif (a3.fAt == a1) then ((Z86.md a3.fAfter a3.fRight) : Bool) else (bif (Z77.md a0 a1 a3.fAfter a3.fRight) then (bif (a3.fRight.fAt == a3.fAt) then (((Z87.md a3.fAfter.fLabel a2) == 1) : Bool) else (false : Bool)) else (false : Bool)))) else (bif (!(Z77.md a0 a1 a3.fBefore a3.fLeft)) then (false : Bool) else (bif (a3.fLeft.fAt != (IntKind.i64.wrap (a3.fAt - 1))) then (false : Bool) else (bif ((Z87.md a3.fBefore.fLabel a2) != (-1)) then (false : Bool) else (bif (a3.fAt == a1) then ((Z86.md a3.fAfter a3.fRight) : Bool) else (bif (Z77.md a0 a1 a3.fAfter a3.fRight) then (bif (a3.fRight.fAt == a3.fAt) then (((Z87.md a3.fAfter.fLabel a2) == 1) : Bool) else (false : Bool)) else (false : Bool)))))))) else (bif (a3.fAt == 0) then (bif (!(Z86.md a3.fBefore a3.fLeft)) then (false : Bool) else (bif (a3.fAt == a1) then ((Z86.md a3.fAfter a3.fRight) : Bool) else (bif (Z77.md a0 a1 a3.fAfter a3.fRight) then (bif (a3.fRight.fAt == a3.fAt) then (((Z87.md a3.fAfter.fLabel a2) == 1) : Bool) else (false : Bool)) else (false : Bool)))) else (bif (!(Z77.md a0 a1 a3.fBefore a3.fLeft)) then (false : Bool) else (bif (a3.fLeft.fAt != (IntKind.i64.wrap (a3.fAt - 1))) then (false : Bool) else (bif ((Z87.md a3.fBefore.fLabel a2) != (-1)) then (false : Bool) else (bif (a3.fAt == a1) then ((Z86.md a3.fAfter a3.fRight) : Bool) else (bif (Z77.md a0 a1 a3.fAfter a3.fRight) then (bif (a3.fRight.fAt == a3.fAt) then (((Z87.md a3.fAfter.fLabel a2) == 1) : Bool) else (false : Bool)) else (false : Bool))))))))))
def gd (a0 : Int) (a1 : Int) (a2 : ByteArray) (a3 : MGap) : Prop := (a2.size ≤ (2 ^ 21)) ∧ (MGap.Sm (2 ^ 21) a3)
def acc (ls : List L) : Int × Int × ByteArray × RGap := ((ls.headD .hole).toInt, ((dropT 1 ls).headD .hole).toInt, ((dropT 2 ls).headD .hole).toStr, (RGap.dec (dropT 3 ls)))
def R : (Int × Int × ByteArray × RGap) → Option Bool := RR (p4 gd) (u4 md)
theorem R_eq {a0} {a1} {a2} {a3} (h : gd a0 a1 a2 a3) : R (a0, a1, a2, (MGap.r a3)) = some (md a0 a1 a2 a3) := RR_eq (a := (a0, a1, a2, a3)) h
def con : Con := CN pats res acc R
theorem okF (a0 : Int) (a1 : Int) (a2 : ByteArray) (a3 : MGap) (hg : gd a0 a1 a2 a3) : F a0 a1 a2 (MGap.r a3) = ret ((md a0 a1 a2 a3) : Bool) := by
  unfold gd at hg
  obtain ⟨H2, H3⟩ := hg
  unfold F md
  try simp only [S0, MEntry.rs, MProof.rs, MGap.rs]
  refine call_to (Z73.md a2) (Z73.R_eq (a0 := a2) H2) ?_
  refine bif_out ret (fun _ => rfl) (fun c1 => ?_)
  refine call_to (Z39.md a3.fAt 0 a1) (Z39.R_eq (a0 := a3.fAt) (a1 := 0) (a2 := a1) trivial) ?_
  refine bif_out ret (fun _ => rfl) (fun c2 => ?_)
  refine bif_out ret (fun c3 => ?_) (fun c3 => ?_)
  · refine call_to (Z85.md []) ?_ ?_
    · have R_ := Z85.R_eq (a0 := []) SmL.nil
      first | exact R_ | (simp only [MP, S0, MEntry.rs, MProof.rs, MGap.rs] at R_ ⊢; first | exact R_ | (rw [← R_]; rfl))
    refine bif_out ret (fun _ => rfl) (fun c4 => ?_)
    refine bif_out ret (fun c5 => ?_) (fun c5 => ?_)
    · refine call_to (Z86.md a3.fBefore a3.fLeft) (Z86.R_eq (a0 := a3.fBefore) (a1 := a3.fLeft) ⟨H3.1, H3.2.2.1⟩) ?_
      refine bif_out ret (fun _ => rfl) (fun c6 => ?_)
      refine bif_out ret (fun c7 => ?_) (fun c7 => ?_)
      · refine call_to (Z86.md a3.fAfter a3.fRight) (Z86.R_eq (a0 := a3.fAfter) (a1 := a3.fRight) ⟨H3.2.1, H3.2.2.2⟩) ?_
        all_goals first | rfl | (simp only [S0, MEntry.rs, MProof.rs, MGap.rs, MP]; first | done | rfl)
      · refine call_to (Z77.md a0 a1 a3.fAfter a3.fRight) (Z77.R_eq (a0 := a0) (a1 := a1) (a2 := a3.fAfter) (a3 := a3.fRight) ⟨H3.2.1, H3.2.2.2⟩) ?_
        refine bif_out ret (fun c8 => ?_) (fun _ => rfl)
        refine bif_out ret (fun c9 => ?_) (fun _ => rfl)
        refine call_to (Z87.md a3.fAfter.fLabel a2) (Z87.R_eq (a0 := a3.fAfter.fLabel) (a1 := a2) trivial) ?_
        all_goals first | rfl | (simp only [S0, MEntry.rs, MProof.rs, MGap.rs, MP]; first | done | rfl)
    · refine call_to (Z77.md a0 a1 a3.fBefore a3.fLeft) (Z77.R_eq (a0 := a0) (a1 := a1) (a2 := a3.fBefore) (a3 := a3.fLeft) ⟨H3.1, H3.2.2.1⟩) ?_
      refine bif_out ret (fun _ => rfl) (fun c10 => ?_)
      refine bif_out ret (fun _ => rfl) (fun c11 => ?_)
      refine call_to (Z87.md a3.fBefore.fLabel a2) (Z87.R_eq (a0 := a3.fBefore.fLabel) (a1 := a2) trivial) ?_
      refine bif_out ret (fun _ => rfl) (fun c12 => ?_)
      refine bif_out ret (fun c13 => ?_) (fun c13 => ?_)
      · refine call_to (Z86.md a3.fAfter a3.fRight) (Z86.R_eq (a0 := a3.fAfter) (a1 := a3.fRight) ⟨H3.2.1, H3.2.2.2⟩) ?_
        all_goals first | rfl | (simp only [S0, MEntry.rs, MProof.rs, MGap.rs, MP]; first | done | rfl)
      · refine call_to (Z77.md a0 a1 a3.fAfter a3.fRight) (Z77.R_eq (a0 := a0) (a1 := a1) (a2 := a3.fAfter) (a3 := a3.fRight) ⟨H3.2.1, H3.2.2.2⟩) ?_
        refine bif_out ret (fun c14 => ?_) (fun _ => rfl)
        refine bif_out ret (fun c15 => ?_) (fun _ => rfl)
        refine call_to (Z87.md a3.fAfter.fLabel a2) (Z87.R_eq (a0 := a3.fAfter.fLabel) (a1 := a2) trivial) ?_
        all_goals first | rfl | (simp only [S0, MEntry.rs, MProof.rs, MGap.rs, MP]; first | done | rfl)
  · refine bif_out ret (fun c16 => ?_) (fun c16 => ?_)
    · refine call_to (Z86.md a3.fBefore a3.fLeft) (Z86.R_eq (a0 := a3.fBefore) (a1 := a3.fLeft) ⟨H3.1, H3.2.2.1⟩) ?_
      refine bif_out ret (fun _ => rfl) (fun c17 => ?_)
      refine bif_out ret (fun c18 => ?_) (fun c18 => ?_)
      · refine call_to (Z86.md a3.fAfter a3.fRight) (Z86.R_eq (a0 := a3.fAfter) (a1 := a3.fRight) ⟨H3.2.1, H3.2.2.2⟩) ?_
        all_goals first | rfl | (simp only [S0, MEntry.rs, MProof.rs, MGap.rs, MP]; first | done | rfl)
      · refine call_to (Z77.md a0 a1 a3.fAfter a3.fRight) (Z77.R_eq (a0 := a0) (a1 := a1) (a2 := a3.fAfter) (a3 := a3.fRight) ⟨H3.2.1, H3.2.2.2⟩) ?_
        refine bif_out ret (fun c19 => ?_) (fun _ => rfl)
        refine bif_out ret (fun c20 => ?_) (fun _ => rfl)
        refine call_to (Z87.md a3.fAfter.fLabel a2) (Z87.R_eq (a0 := a3.fAfter.fLabel) (a1 := a2) trivial) ?_
        all_goals first | rfl | (simp only [S0, MEntry.rs, MProof.rs, MGap.rs, MP]; first | done | rfl)
    · refine call_to (Z77.md a0 a1 a3.fBefore a3.fLeft) (Z77.R_eq (a0 := a0) (a1 := a1) (a2 := a3.fBefore) (a3 := a3.fLeft) ⟨H3.1, H3.2.2.1⟩) ?_
      refine bif_out ret (fun _ => rfl) (fun c21 => ?_)
      refine bif_out ret (fun _ => rfl) (fun c22 => ?_)
      refine call_to (Z87.md a3.fBefore.fLabel a2) (Z87.R_eq (a0 := a3.fBefore.fLabel) (a1 := a2) trivial) ?_
      refine bif_out ret (fun _ => rfl) (fun c23 => ?_)
      refine bif_out ret (fun c24 => ?_) (fun c24 => ?_)
      · refine call_to (Z86.md a3.fAfter a3.fRight) (Z86.R_eq (a0 := a3.fAfter) (a1 := a3.fRight) ⟨H3.2.1, H3.2.2.2⟩) ?_
        all_goals first | rfl | (simp only [S0, MEntry.rs, MProof.rs, MGap.rs, MP]; first | done | rfl)
      · refine call_to (Z77.md a0 a1 a3.fAfter a3.fRight) (Z77.R_eq (a0 := a0) (a1 := a1) (a2 := a3.fAfter) (a3 := a3.fRight) ⟨H3.2.1, H3.2.2.2⟩) ?_
        refine bif_out ret (fun c25 => ?_) (fun _ => rfl)
        refine bif_out ret (fun c26 => ?_) (fun _ => rfl)
        refine call_to (Z87.md a3.fAfter.fLabel a2) (Z87.R_eq (a0 := a3.fAfter.fLabel) (a1 := a2) trivial) ?_
        all_goals first | rfl | (simp only [S0, MEntry.rs, MProof.rs, MGap.rs, MP]; first | done | rfl)
theorem valid_ : Valid Tryz.prog Ev 197 con := VV (live := fun _ => []) (nt := 95) (run := fun _ x => F x.1 x.2.1 x.2.2.1 x.2.2.2) mix tab_ok (.cons Z73.valid_ (.cons Z39.valid_ (.cons Z85.valid_ (.cons Z86.valid_ (.cons Z77.valid_ (.cons Z87.valid_ .nil)))))) Tryz.func197 (by kernel_rfl) (fun _ _ => by kernel_rfl) (fun _ a _ _ hg => ⟨0, okF a.1 a.2.1 a.2.2.1 a.2.2.2 hg⟩)
end Z88
namespace Z89
def F (x0 : RHead) (x1 : ByteArray) (x2 : RAnswer) : Ans := (bif x2.fFound then (bif (x2.fEntry.fLabel == x1) then (call (Z77.R (x0.fRoot, x0.fCount, x2.fEntry, x2.fProof)) fun v1 => (bif v1 then (call (Z81.R (x2.fGap, (⟨0, (⟨(⟨#[]⟩ : ByteArray), 0, 0, []⟩ : REntry), (⟨(⟨#[]⟩ : ByteArray), 0, 0, []⟩ : REntry), (⟨0, []⟩ : RProof), (⟨0, []⟩ : RProof)⟩ : RGap))) fun v2 => ret (v2 : Bool)) else ret (false : Bool))) else ret (false : Bool)) else (call (Z88.R (x0.fRoot, x0.fCount, x1, x2.fGap)) fun v3 => (bif v3 then (call (Z86.R (x2.fEntry, x2.fProof)) fun v4 => ret (v4 : Bool)) else ret (false : Bool))))
def pats : List Pat := [.agg [.int .i64, .int .i64, .int .i64, .int .i64, .int .i64, .int .i64, .int .i64, .int .i64, .sl 3, .int .i64, .sl 3, .int .i64, .int .i64, .sl 3, .int .i64, .bool], .rd (.str), .agg [.sl 122, .bool, .str, .int .i64, .int .i64, .sl 9, .int .i64, .sl 3, .int .i64, .str, .int .i64, .int .i64, .sl 9, .str, .int .i64, .int .i64, .sl 9, .int .i64, .sl 3, .int .i64, .sl 3]]
def res : RP := .one (.rd (.bool))
def md (a0 : MHead) (a1 : ByteArray) (a2 : MAnswer) : Bool := (bif a2.fFound then (bif (a2.fEntry.fLabel == a1) then (bif (Z77.md a0.fRoot a0.fCount a2.fEntry a2.fProof) then ((Z81.md a2.fGap (⟨0, (⟨((⟨#[]⟩ : ByteArray) : ByteArray), 0, 0, []⟩ : MEntry), (⟨((⟨#[]⟩ : ByteArray) : ByteArray), 0, 0, []⟩ : MEntry), (⟨0, []⟩ : MProof), (⟨0, []⟩ : MProof)⟩ : MGap)) : Bool) else (false : Bool)) else (false : Bool)) else (bif (Z88.md a0.fRoot a0.fCount a1 a2.fGap) then ((Z86.md a2.fEntry a2.fProof) : Bool) else (false : Bool)))
def gd (a0 : MHead) (a1 : ByteArray) (a2 : MAnswer) : Prop := (a1.size ≤ (2 ^ 21)) ∧ (MAnswer.Sm (2 ^ 21) a2)
def acc (ls : List L) : RHead × ByteArray × RAnswer := ((RHead.dec ls), ((dropT 16 ls).headD .hole).toStr, (RAnswer.dec (dropT 17 ls)))
def R : (RHead × ByteArray × RAnswer) → Option Bool := RR (p3 gd) (u3 md)
theorem R_eq {a0} {a1} {a2} (h : gd a0 a1 a2) : R ((MHead.r a0), a1, (MAnswer.r a2)) = some (md a0 a1 a2) := RR_eq (a := (a0, a1, a2)) h
def con : Con := CN pats res acc R
theorem okF (a0 : MHead) (a1 : ByteArray) (a2 : MAnswer) (hg : gd a0 a1 a2) : F (MHead.r a0) a1 (MAnswer.r a2) = ret ((md a0 a1 a2) : Bool) := by
  unfold gd at hg
  obtain ⟨H1, H2⟩ := hg
  unfold F md
  try simp only [S0, MHead.rs, MEntry.rs, MAnswer.rs]
  refine bif_out ret (fun c1 => ?_) (fun c1 => ?_)
  · refine bif_out ret (fun c2 => ?_) (fun _ => rfl)
    refine call_to (Z77.md a0.fRoot a0.fCount a2.fEntry a2.fProof) (Z77.R_eq (a0 := a0.fRoot) (a1 := a0.fCount) (a2 := a2.fEntry) (a3 := a2.fProof) ⟨H2.2.1, H2.2.2.1⟩) ?_
    refine bif_out ret (fun c3 => ?_) (fun _ => rfl)
    refine call_to (Z81.md a2.fGap (⟨0, (⟨((⟨#[]⟩ : ByteArray) : ByteArray), 0, 0, []⟩ : MEntry), (⟨((⟨#[]⟩ : ByteArray) : ByteArray), 0, 0, []⟩ : MEntry), (⟨0, []⟩ : MProof), (⟨0, []⟩ : MProof)⟩ : MGap)) (Z81.R_eq (a0 := a2.fGap) (a1 := (⟨0, (⟨((⟨#[]⟩ : ByteArray) : ByteArray), 0, 0, []⟩ : MEntry), (⟨((⟨#[]⟩ : ByteArray) : ByteArray), 0, 0, []⟩ : MEntry), (⟨0, []⟩ : MProof), (⟨0, []⟩ : MProof)⟩ : MGap)) ⟨H2.2.2.2, ⟨⟨(by decide), SmL.nil⟩, ⟨(by decide), SmL.nil⟩, SmL.nil, SmL.nil⟩⟩) ?_
    all_goals first | rfl | (simp only [S0, MHead.rs, MEntry.rs, MAnswer.rs, MP]; first | done | rfl)
  · refine call_to (Z88.md a0.fRoot a0.fCount a1 a2.fGap) (Z88.R_eq (a0 := a0.fRoot) (a1 := a0.fCount) (a2 := a1) (a3 := a2.fGap) ⟨H1, H2.2.2.2⟩) ?_
    refine bif_out ret (fun c4 => ?_) (fun _ => rfl)
    refine call_to (Z86.md a2.fEntry a2.fProof) (Z86.R_eq (a0 := a2.fEntry) (a1 := a2.fProof) ⟨H2.2.1, H2.2.2.1⟩) ?_
    all_goals first | rfl | (simp only [S0, MHead.rs, MEntry.rs, MAnswer.rs, MP]; first | done | rfl)
theorem valid_ : Valid Tryz.prog Ev 155 con := VV (live := fun _ => []) (nt := 46) (run := fun _ x => F x.1 x.2.1 x.2.2) mix tab_ok (.cons Z77.valid_ (.cons Z81.valid_ (.cons Z88.valid_ (.cons Z86.valid_ .nil)))) Tryz.func155 (by kernel_rfl) (fun _ _ => by kernel_rfl) (fun _ a _ _ hg => ⟨0, okF a.1 a.2.1 a.2.2 hg⟩)
end Z89
namespace Z90
def F (x0 : Int) (x1 : ByteArray) (x2 : RAnswer) (x3 : Int) : Ans := (call (Z65.R x2.fChain) fun v1 => (bif (!v1.2) then ret (3 : Int) else (bif (v1.1.fZone != x0) then ret (2 : Int) else (call (Z66.R (v1.1, x3)) fun v2 => (bif (!v2) then ret (4 : Int) else (bif v1.1.fFrozen then ret (5 : Int) else (call (Z89.R (v1.1, x1, x2)) fun v3 => (bif (!v3) then ret (6 : Int) else ret (1 : Int)))))))))
def pats : List Pat := [.rd (.int .i64), .rd (.str), .agg [.sl 122, .bool, .str, .int .i64, .int .i64, .sl 9, .int .i64, .sl 3, .int .i64, .str, .int .i64, .int .i64, .sl 9, .str, .int .i64, .int .i64, .sl 9, .int .i64, .sl 3, .int .i64, .sl 3], .rd (.int .i64)]
def res : RP := .one (.rd (.int .i64))
def md (a0 : Int) (a1 : ByteArray) (a2 : MAnswer) (a3 : Int) : Int := (bif (!(Z65.md a2.fChain).2) then (3 : Int) else (bif ((Z65.md a2.fChain).1.fZone != a0) then (2 : Int) else (bif (!(Z66.md ((Z65.md a2.fChain).1) a3)) then (4 : Int) else (bif (Z65.md a2.fChain).1.fFrozen then (5 : Int) else (bif (!(Z89.md ((Z65.md a2.fChain).1) a1 a2)) then (6 : Int) else (1 : Int))))))
def gd (a0 : Int) (a1 : ByteArray) (a2 : MAnswer) (a3 : Int) : Prop := (a1.size ≤ (2 ^ 21)) ∧ (MAnswer.Sm (2 ^ 21) a2)
def acc (ls : List L) : Int × ByteArray × RAnswer × Int := ((ls.headD .hole).toInt, ((dropT 1 ls).headD .hole).toStr, (RAnswer.dec (dropT 2 ls)), ((dropT 23 ls).headD .hole).toInt)
def R : (Int × ByteArray × RAnswer × Int) → Option Int := RR (p4 gd) (u4 md)
theorem R_eq {a0} {a1} {a2} {a3} (h : gd a0 a1 a2 a3) : R (a0, a1, (MAnswer.r a2), a3) = some (md a0 a1 a2 a3) := RR_eq (a := (a0, a1, a2, a3)) h
def con : Con := CN pats res acc R
theorem okF (a0 : Int) (a1 : ByteArray) (a2 : MAnswer) (a3 : Int) (hg : gd a0 a1 a2 a3) : F a0 a1 (MAnswer.r a2) a3 = ret ((md a0 a1 a2 a3) : Int) := by
 unfold gd at hg
 obtain ⟨H1, H2⟩ := hg
 unfold F md
 try simp only [S0, MHead.rs, MAnswer.rs]
 refine call_to ((MHead.r (Z65.md a2.fChain).1), (Z65.md a2.fChain).2) (Z65.R_eq (a0 := a2.fChain) H2.1) ?_
 try simp only [S0, MHead.rs, MAnswer.rs]
 refine bif_out ret (fun _ => rfl) (fun c1 => ?_)
 refine bif_out ret (fun _ => rfl) (fun c2 => ?_)
 refine call_to (Z66.md ((Z65.md a2.fChain).1) a3) (Z66.R_eq (a0 := (Z65.md a2.fChain).1) (a1 := a3) trivial) ?_
 refine bif_out ret (fun _ => rfl) (fun c3 => ?_)
 refine bif_out ret (fun _ => rfl) (fun c4 => ?_)
 refine call_to (Z89.md ((Z65.md a2.fChain).1) a1 a2) (Z89.R_eq (a0 := (Z65.md a2.fChain).1) (a1 := a1) (a2 := a2) ⟨H1, H2⟩) ?_
 refine bif_out ret (fun _ => rfl) (fun _ => rfl)
theorem valid_ : Valid Tryz.prog Ev 93 con := VV (live := fun _ => []) (nt := 39) (run := fun _ x => F x.1 x.2.1 x.2.2.1 x.2.2.2) mix tab_ok (.cons Z65.valid_ (.cons Z66.valid_ (.cons Z89.valid_ .nil))) Tryz.func93 (by kernel_rfl) (fun _ _ => by kernel_rfl) (fun _ a _ _ hg => ⟨0, okF a.1 a.2.1 a.2.2.1 a.2.2.2 hg⟩)
end Z90
namespace Z91
inductive Pt where
 | p0 (a : Int) (b : ByteArray) (c : Int) (d : RCache)
def pid : Pt → Nat
 | .p0 .. => 2
def pvs : Pt → List V
 | .p0 a b c d => [.int .i64 a, .str b, .bptr 0 0, .int .i64 c]
def phs : Pt → List Root
 | .p0 a b c d => [.box [.sl none 148 d.fList]]
def step (J : Pt → Ans) : Pt → Ans
 | .p0 a b c d => (bif (decide (c < (d.fList.length : Int))) then (bif (decide ((0 : Int) ≤ c)) then (bif (decide (c < (d.fList.length : Int))) then (bif ((RStored.at d.fList (Int.toNat c)).fZone == a) then (bif (decide ((0 : Int) ≤ c)) then (bif (decide (c < (d.fList.length : Int))) then (bif ((RStored.at d.fList (Int.toNat c)).fLabel == b) then ret (c : Int) else J (.p0 a b (IntKind.i64.wrap (c + 1)) d)) else none) else none) else J (.p0 a b (IntKind.i64.wrap (c + 1)) d)) else none) else none) else ret ((-1) : Int))
def start (J : Pt → Ans) (x0 : RCache) (x1 : Int) (x2 : ByteArray) : Ans := J (.p0 x1 x2 0 x0)
def live : Nat → Live := fun i => match i with | 2 => [(1, none), (2, none), (3, none), (7, none)] | _ => []
def pats : List Pat := [.agg [.sl 148], .rd (.int .i64), .rd (.str)]
def res : RP := .one (.rd (.int .i64))
abbrev E : Env := { T := assoc Tab, G := conG [], nt := 34 }
theorem step_eq (I : Heads) (p : Pt) : enterC E live I (pid p) (bodyOf Tryz.f106) (stOf (live (pid p)) (pvs p) (phs p)) (doneK E Tryz.f106 res) = step (fun q => I (pid q) (pvs q) (phs q)) p := by
 cases p <;> kernel_rfl
theorem start_eq (I : Heads) (ls : List L) : runC E live I (bodyOf Tryz.f106) (initS pats ls) (doneK E Tryz.f106 res) = start (fun q => I (pid q) (pvs q) (phs q)) (RCache.dec ls) ((dropT 1 ls).headD .hole).toInt ((dropT 2 ls).headD .hole).toStr := by kernel_rfl
theorem run_eq (n : Nat) (ls : List L) : runF E live Tryz.f106 res n (initS pats ls) = start (iter step n) (RCache.dec ls) ((dropT 1 ls).headD .hole).toInt ((dropT 2 ls).headD .hole).toStr := runF_iter (id := pid) (vs := pvs) (hs := phs) (step := step) (start := fun J => start J (RCache.dec ls) ((dropT 1 ls).headD .hole).toInt ((dropT 2 ls).headD .hole).toStr) step_eq (fun I => start_eq I ls) n
def md (a0 : MCache) (a1 : Int) (a2 : ByteArray) : Int := (eachI (S := Unit) (β := Int) (fun (i1 : Nat) (y1 : MStored) (s3 : Unit) => (bif (y1.fZone == a1) then (bif (y1.fLabel == a2) then (.inr ((i1 : Int) : Int)) else (.inl ())) else (.inl ()))) (fun (s3 : Unit) => ((-1) : Int)) 0 a0.fList ())
def gd (a0 : MCache) (a1 : Int) (a2 : ByteArray) : Prop := (MCache.Sm (2 ^ 21) a0)
def acc (ls : List L) : RCache × Int × ByteArray := ((RCache.dec ls), ((dropT 1 ls).headD .hole).toInt, ((dropT 2 ls).headD .hole).toStr)
def R : (RCache × Int × ByteArray) → Option Int := RR (p3 gd) (u3 md)
theorem R_eq {a0} {a1} {a2} (h : gd a0 a1 a2) : R ((MCache.r a0), a1, a2) = some (md a0 a1 a2) := RR_eq (a := (a0, a1, a2)) h
def con : Con := CN pats res acc R
theorem okF (a0 : MCache) (a1 : Int) (a2 : ByteArray) (hg : gd a0 a1 a2) : ∃ n, start (iter step n) (MCache.r a0) a1 a2 = ret ((md a0 a1 a2) : Int) := by
  unfold gd at hg
  have H0 := hg
  unfold start md
  try simp only [S0, MKeys.rs, MHead.rs, MEntry.rs, MStored.rs, MCache.rs]
  have Bh2 : a0.fList.length ≤ maxLen := (by
      have := (H0).1
      try simp only [maxLen] at *
      omega)
  refine ex_eq (out := ret) (loopM_eachI (z := MStored.zero)) ?_
  refine ex_pt (p := Pt.p0 a1 a2 0 (MCache.r a0)) (by first | rfl | (simp only [S0, MKeys.rs, MHead.rs, MEntry.rs, MStored.rs, MCache.rs, MP]; done) | (simp only [MP]; rfl)) ?_
  refine loopM_ok (pt := fun (i1 : Nat) (s3 : Unit) => Pt.p0 a1 a2 (i1 : Int) (MCache.r a0)) (s := (() : Unit)) (out := ret) (fun _ _ => True) (fun J i1 s3 h2 hih2 => ?_) (fun s3 hih2 => ?_) trivial
  · simp only [step, S0, MKeys.rs, MHead.rs, MEntry.rs, MStored.rs, MCache.rs]
    have bb_ := Bh2
    simp only [maxLen] at bb_
    have := (H0).1
    refine Rnd.yes (by apply decide_eq_true; omega) ?_
    refine Rnd.yes zle_dec ?_
    refine Rnd.yes (lt_dec h2) ?_
    refine Rnd.bif (fun c4 => ?_) (fun c4 => ?_)
    · refine Rnd.yes zle_dec ?_
      refine Rnd.yes (lt_dec h2) ?_
      refine Rnd.bif (fun c5 => ?_) (fun c5 => ?_)
      · refine Rnd.inr ?_
        all_goals first | rfl | (simp only [S0, MKeys.rs, MHead.rs, MEntry.rs, MStored.rs, MCache.rs, MP]; first | done | rfl)
      · refine Rnd.inl trivial ?_
        rw [wrap_succ h2 Bh2]
        all_goals first | rfl | (simp only [S0, MKeys.rs, MHead.rs, MEntry.rs, MStored.rs, MCache.rs, MP]; first | done | rfl)
    · refine Rnd.inl trivial ?_
      rw [wrap_succ h2 Bh2]
      all_goals first | rfl | (simp only [S0, MKeys.rs, MHead.rs, MEntry.rs, MStored.rs, MCache.rs, MP]; first | done | rfl)
  · simp only [step, S0, MKeys.rs, MHead.rs, MEntry.rs, MStored.rs, MCache.rs]
    have := (H0).1
    refine ex_no (by apply decide_eq_false; omega) ?_
    refine ⟨0, ?_⟩
    all_goals first | rfl | (simp only [S0, MKeys.rs, MHead.rs, MEntry.rs, MStored.rs, MCache.rs, MP]; first | done | rfl)
theorem valid_ : Valid Tryz.prog Ev 106 con := VV (run := fun n x => start (iter step n) x.1 x.2.1 x.2.2) mix tab_ok .nil Tryz.func106 (by kernel_rfl) run_eq (fun _ a _ _ hg => okF a.1 a.2.1 a.2.2 hg)
theorem fa (a0 : MCache) (a1 : Int) (a2 : ByteArray) : -1 ≤ md a0 a1 a2 ∧ md a0 a1 a2 < (a0.fList.length : Int) := by
 unfold md
 refine eachI_fa0 ?_ _ _
 all_goals
  intro i x s b h
  revert h
  simp only [Bool.cond_eq_ite]
  repeat' split
  all_goals (intro h; first | (cases h; rfl) | cases h)
end Z91
namespace Z92
def F (x0 : RCache) (x1 : Int) (x2 : ByteArray) (x3 : RAnswer) (x4 : Int) : Ans := (call (Z38.R x0) fun v1 => (call (Z90.R (x1, x2, x3, x4)) fun v2 => (bif (v2 != 1) then ret (v1 : RCache) else (call (Z37.R x3) fun v3 => (call (Z91.R (x0, x1, x2)) fun v4 => (bif (decide (v4 ≥ 0)) then (bif (decide ((0 : Int) ≤ v4)) then (bif (decide (v4 < (v1.fList.length : Int))) then ret ((⟨(List.set v1.fList (Int.toNat v4) (RStored.enc (⟨x1, x2, v3⟩ : RStored)))⟩ : RCache) : RCache) else none) else none) else (bif (decide ((x0.fList.length : Int) < 16)) then (bif (lim (((v1.fList.length : Int) + 1) * 328)) then ret ((⟨(v1.fList ++ [(RStored.enc (⟨x1, x2, v3⟩ : RStored))])⟩ : RCache) : RCache) else none) else ret (v1 : RCache))))))))
def pats : List Pat := [.agg [.sl 148], .rd (.int .i64), .rd (.str), .agg [.sl 122, .bool, .str, .int .i64, .int .i64, .sl 9, .int .i64, .sl 3, .int .i64, .str, .int .i64, .int .i64, .sl 9, .str, .int .i64, .int .i64, .sl 9, .int .i64, .sl 3, .int .i64, .sl 3], .rd (.int .i64)]
def res : RP := .agg [.fr 148]
def md (a0 : MCache) (a1 : Int) (a2 : ByteArray) (a3 : MAnswer) (a4 : Int) : MCache := (bif ((Z90.md a1 a2 a3 a4) != 1) then a0 else (bif (decide ((Z91.md a0 a1 a2) ≥ 0)) then (⟨(List.set a0.fList (Int.toNat (Z91.md a0 a1 a2)) (⟨a1, a2, a3⟩ : MStored))⟩ : MCache) else (bif (decide ((a0.fList.length : Int) < 16)) then (⟨(a0.fList ++ [(⟨a1, a2, a3⟩ : MStored)])⟩ : MCache) else a0)))
def gd (a0 : MCache) (a1 : Int) (a2 : ByteArray) (a3 : MAnswer) (a4 : Int) : Prop := (MCache.Sm (2 ^ 21) a0) ∧ (a2.size ≤ (2 ^ 21)) ∧ (MAnswer.Sm (2 ^ 21) a3)
def acc (ls : List L) : RCache × Int × ByteArray × RAnswer × Int := ((RCache.dec ls), ((dropT 1 ls).headD .hole).toInt, ((dropT 2 ls).headD .hole).toStr, (RAnswer.dec (dropT 3 ls)), ((dropT 24 ls).headD .hole).toInt)
def R : (RCache × Int × ByteArray × RAnswer × Int) → Option RCache := RR (p5 gd) (u5 md)
theorem R_eq {a0} {a1} {a2} {a3} {a4} (h : gd a0 a1 a2 a3 a4) : R ((MCache.r a0), a1, a2, (MAnswer.r a3), a4) = some (MCache.r (md a0 a1 a2 a3 a4)) := RR_eq (a := (a0, a1, a2, a3, a4)) h
def con : Con := CN pats res acc R
theorem okF (a0 : MCache) (a1 : Int) (a2 : ByteArray) (a3 : MAnswer) (a4 : Int) (hg : gd a0 a1 a2 a3 a4) : F (MCache.r a0) a1 a2 (MAnswer.r a3) a4 = ret ((MCache.r (md a0 a1 a2 a3 a4)) : RCache) := by
  unfold gd at hg
  obtain ⟨H0, H2, H3⟩ := hg
  unfold F md
  try simp only [S0, MKeys.rs, MCache.rs]
  refine call_to (MCache.r a0) ?_ ?_
  · have R_ := Z38.R_eq (a0 := a0) H0
    simp only [Z38.md] at R_
    first | exact R_ | (simp only [MP, S0, MKeys.rs, MCache.rs] at R_ ⊢; first | exact R_ | (rw [← R_]; rfl))
  try simp only [S0, MKeys.rs, MCache.rs]
  refine call_to (Z90.md a1 a2 a3 a4) (Z90.R_eq (a0 := a1) (a1 := a2) (a2 := a3) (a3 := a4) ⟨H2, H3⟩) ?_
  refine bif_out (fun b : MCache => ret ((MCache.r b) : RCache)) (fun c1 => ?_) (fun c1 => ?_)
  · all_goals first | rfl | (simp only [S0, MKeys.rs, MCache.rs]; done) | (simp only [MP]; rfl) | (simp only [S0, MKeys.rs, MCache.rs, MP]; first | done | rfl) | (simp only [MCache.r, S0, MKeys.rs, MCache.rs, MP]; first | done | rfl)
  · have dc1 := c1
    try simp only [DC] at dc1
    refine call_to (MAnswer.r a3) ?_ ?_
    · have R_ := Z37.R_eq (a0 := a3) H3
      simp only [Z37.md] at R_
      first | exact R_ | (simp only [MP, S0, MKeys.rs, MCache.rs] at R_ ⊢; first | exact R_ | (rw [← R_]; rfl))
    try simp only [S0, MKeys.rs, MCache.rs]
    refine call_to (Z91.md a0 a1 a2) (Z91.R_eq (a0 := a0) (a1 := a1) (a2 := a2) H0) ?_
    have fv4_ := Z91.fa a0 a1 a2
    refine bif_out (fun b : MCache => ret ((MCache.r b) : RCache)) (fun c2 => ?_) (fun c2 => ?_)
    · have dc2 := c2
      try simp only [DC] at dc2
      refine yes_ret (by
          refine decide_eq_true ?_
          try simp (disch := omega) only [LN, wi]
          first | omega | (simp; done) | (simp; omega)) ?_
      refine yes_ret (by
          have := (H0).1
          refine decide_eq_true ?_
          try simp (disch := omega) only [LN, wi]
          first | omega | (simp; done) | (simp; omega)) ?_
      all_goals first | rfl | (simp only [S0, MKeys.rs, MCache.rs]; done) | (simp only [MP]; rfl) | (simp only [S0, MKeys.rs, MCache.rs, MP]; first | done | rfl) | (simp only [MCache.r, S0, MKeys.rs, MCache.rs, MP]; first | done | rfl)
    · have dc2 := c2
      try simp only [DC] at dc2
      refine bif_out (fun b : MCache => ret ((MCache.r b) : RCache)) (fun c3 => ?_) (fun c3 => ?_)
      · have dc3 := c3
        try simp only [DC] at dc3
        refine yes_ret (by
            have := (H0).1
            refine lim_t ?_
            try simp (disch := omega) only [LN, wi]
            first | omega | (simp; done) | (simp; omega)) ?_
        all_goals first | rfl | (simp only [S0, MKeys.rs, MCache.rs]; done) | (simp only [MP]; rfl) | (simp only [S0, MKeys.rs, MCache.rs, MP]; first | done | rfl) | (simp only [MCache.r, S0, MKeys.rs, MCache.rs, MP]; first | done | rfl)
      · all_goals first | rfl | (simp only [S0, MKeys.rs, MCache.rs]; done) | (simp only [MP]; rfl) | (simp only [S0, MKeys.rs, MCache.rs, MP]; first | done | rfl) | (simp only [MCache.r, S0, MKeys.rs, MCache.rs, MP]; first | done | rfl)
theorem valid_ : Valid Tryz.prog Ev 39 con := VV (live := fun _ => []) (nt := 50) (run := fun _ x => F x.1 x.2.1 x.2.2.1 x.2.2.2.1 x.2.2.2.2) mix tab_ok (.cons Z38.valid_ (.cons Z90.valid_ (.cons Z37.valid_ (.cons Z91.valid_ .nil)))) Tryz.func39 (by kernel_rfl) (fun _ _ => by kernel_rfl) (fun _ a _ _ hg => ⟨0, okF a.1 a.2.1 a.2.2.1 a.2.2.2.1 a.2.2.2.2 hg⟩)
end Z92
namespace Z93
def F (x0 : List (List L)) : Ans := (bif x0.isEmpty then (either (ret ([] : List (List L))) ((bif (lim ((x0.length : Int) * 8)) then ret (x0 : List (List L)) else none))) else (bif (lim ((x0.length : Int) * 8)) then ret (x0 : List (List L)) else none))
def pats : List Pat := [.rd (.sl 3)]
def res : RP := .one (.fr 3)
def md (a0 : List Int) : List Int := a0
def gd (a0 : List Int) : Prop := SmL (2 ^ 38) (fun y : Int => True) a0
def acc (ls : List L) : List (List L) := (ls.headD .hole).toSl
def R : (List (List L)) → Option (List (List L)) := RR gd md
theorem R_eq {a0} (h : gd a0) : R (a0.map iRow) = some ((md a0).map iRow) := RR_eq (a := a0) h
def con : Con := CN pats res acc R
theorem okF (a0 : List Int) (hg : gd a0) : F (a0.map iRow) = ret (((md a0).map iRow) : List (List L)) := by
 have H0 := hg.1
 unfold F md
 have hl : lim (((a0.map iRow).length : Int) * 8) = true := lim_t (by simp only [List.length_map]; omega)
 simp only [hl, cond_true]
 cases a0 with
 | nil => exact either_same
 | cons x xs => rfl
theorem valid_ : Valid Tryz.prog Ev 207 con := VV (live := fun _ => []) (nt := 8) (run := fun _ x => F x) mix tab_ok .nil Tryz.func207 (by kernel_rfl) (fun _ _ => by kernel_rfl) (fun _ a _ _ hg => ⟨0, okF a hg⟩)
end Z93
namespace Z94
def F (x0 : RKeys) : Ans := (call (Z93.R x0.fList) fun v1 => ret ((⟨v1, x0.fNeed⟩ : RKeys) : RKeys))
def pats : List Pat := [.agg [.sl 3, .int .i64]]
def res : RP := .agg [.fr 3, .rd (.int .i64)]
def md (a0 : MKeys) : MKeys := a0
def gd (a0 : MKeys) : Prop := (MKeys.Sm (2 ^ 21) a0)
def acc (ls : List L) : RKeys := (RKeys.dec ls)
def R : RKeys → Option RKeys := RR gd md
theorem R_eq {a0} (h : gd a0) : R (MKeys.r a0) = some (MKeys.r (md a0)) := RR_eq (a := a0) h
def con : Con := CN pats res acc R
theorem okF (a0 : MKeys) (hg : gd a0) : F (MKeys.r a0) = ret ((MKeys.r (md a0)) : RKeys) := by
  unfold gd at hg
  have H0 := hg
  unfold F md
  try simp only [S0, MKeys.rs]
  refine call_to (a0.fList.map iRow) ?_ ?_
  · have R_ := Z93.R_eq (a0 := a0.fList) (H0.mono (by decide) (fun x hx => trivial))
    simp only [Z93.md] at R_
    first | exact R_ | (simp only [MP, S0, MKeys.rs] at R_ ⊢; first | exact R_ | (rw [← R_]; rfl))
  try simp only [S0, MKeys.rs]
  all_goals first | rfl | (simp only [S0, MKeys.rs]; done) | (simp only [MP]; rfl) | (simp only [S0, MKeys.rs, MP]; first | done | rfl)
theorem valid_ : Valid Tryz.prog Ev 187 con := VV (live := fun _ => []) (nt := 9) (run := fun _ x => F x) mix tab_ok (.cons Z93.valid_ .nil) Tryz.func187 (by kernel_rfl) (fun _ _ => by kernel_rfl) (fun _ a _ _ hg => ⟨0, okF a hg⟩)
end Z94
namespace Z95
def F (x0 : RHead) : Ans := (call (Z94.R x0.fKeys) fun v1 => (call (Z94.R x0.fHeirs) fun v2 => (call (Z94.R x0.fJudge) fun v3 => ret ((⟨x0.fZone, x0.fEpoch, x0.fKind, x0.fTime, x0.fUntil, x0.fCount, x0.fRoot, x0.fPrev, v1, v2, x0.fWait, v3, x0.fFrozen⟩ : RHead) : RHead))))
def pats : List Pat := [.agg [.int .i64, .int .i64, .int .i64, .int .i64, .int .i64, .int .i64, .int .i64, .int .i64, .sl 3, .int .i64, .sl 3, .int .i64, .int .i64, .sl 3, .int .i64, .bool]]
def res : RP := .agg [.rd (.int .i64), .rd (.int .i64), .rd (.int .i64), .rd (.int .i64), .rd (.int .i64), .rd (.int .i64), .rd (.int .i64), .rd (.int .i64), .fr 3, .rd (.int .i64), .fr 3, .rd (.int .i64), .rd (.int .i64), .fr 3, .rd (.int .i64), .rd (.bool)]
def md (a0 : MHead) : MHead := a0
def gd (a0 : MHead) : Prop := (MHead.Sm (2 ^ 21) a0)
def acc (ls : List L) : RHead := (RHead.dec ls)
def R : RHead → Option RHead := RR gd md
theorem R_eq {a0} (h : gd a0) : R (MHead.r a0) = some (MHead.r (md a0)) := RR_eq (a := a0) h
def con : Con := CN pats res acc R
theorem okF (a0 : MHead) (hg : gd a0) : F (MHead.r a0) = ret ((MHead.r (md a0)) : RHead) := by
  unfold gd at hg
  have H0 := hg
  unfold F md
  try simp only [S0, MHead.rs]
  refine call_to (MKeys.r a0.fKeys) ?_ ?_
  · have R_ := Z94.R_eq (a0 := a0.fKeys) H0.1
    simp only [Z94.md] at R_
    first | exact R_ | (simp only [MP, S0, MHead.rs] at R_ ⊢; first | exact R_ | (rw [← R_]; rfl))
  try simp only [S0, MHead.rs]
  refine call_to (MKeys.r a0.fHeirs) ?_ ?_
  · have R_ := Z94.R_eq (a0 := a0.fHeirs) H0.2.1
    simp only [Z94.md] at R_
    first | exact R_ | (simp only [MP, S0, MHead.rs] at R_ ⊢; first | exact R_ | (rw [← R_]; rfl))
  try simp only [S0, MHead.rs]
  refine call_to (MKeys.r a0.fJudge) ?_ ?_
  · have R_ := Z94.R_eq (a0 := a0.fJudge) H0.2.2
    simp only [Z94.md] at R_
    first | exact R_ | (simp only [MP, S0, MHead.rs] at R_ ⊢; first | exact R_ | (rw [← R_]; rfl))
  try simp only [S0, MHead.rs]
  all_goals first | rfl | (simp only [S0, MHead.rs]; done) | (simp only [MP]; rfl) | (simp only [S0, MHead.rs, MP]; first | done | rfl)
theorem valid_ : Valid Tryz.prog Ev 134 con := VV (live := fun _ => []) (nt := 16) (run := fun _ x => F x) mix tab_ok (.cons Z94.valid_ .nil) Tryz.func134 (by kernel_rfl) (fun _ _ => by kernel_rfl) (fun _ a _ _ hg => ⟨0, okF a hg⟩)
end Z95
namespace Z96
def F (x0 : List (List L)) : Ans := (bif x0.isEmpty then (either (ret ([] : List (List L))) ((bif (lim ((x0.length : Int) * 16)) then ret (x0 : List (List L)) else none))) else (bif (lim ((x0.length : Int) * 16)) then ret (x0 : List (List L)) else none))
def pats : List Pat := [.rd (.sl 184)]
def res : RP := .one (.fr 184)
def md (a0 : List MSig) : List MSig := a0
def gd (a0 : List MSig) : Prop := SmL (2 ^ 21) (fun y : MSig => MSig.Sm (2 ^ 21) y) a0
def acc (ls : List L) : List (List L) := (ls.headD .hole).toSl
def R : (List (List L)) → Option (List (List L)) := RR gd md
theorem R_eq {a0} (h : gd a0) : R (a0.map MSig.row) = some ((md a0).map MSig.row) := RR_eq (a := a0) h
def con : Con := CN pats res acc R
theorem okF (a0 : List MSig) (hg : gd a0) : F (a0.map MSig.row) = ret (((md a0).map MSig.row) : List (List L)) := by
 have H0 := hg.1
 unfold F md
 have hl : lim (((a0.map MSig.row).length : Int) * 16) = true := lim_t (by simp only [List.length_map]; omega)
 simp only [hl, cond_true]
 cases a0 with
 | nil => exact either_same
 | cons x xs => rfl
theorem valid_ : Valid Tryz.prog Ev 191 con := VV (live := fun _ => []) (nt := 8) (run := fun _ x => F x) mix tab_ok .nil Tryz.func191 (by kernel_rfl) (fun _ _ => by kernel_rfl) (fun _ a _ _ hg => ⟨0, okF a hg⟩)
end Z96
namespace Z97
def F (x0 : RSigned) : Ans := (call (Z95.R x0.fHead) fun v1 => (call (Z96.R x0.fSigs) fun v2 => ret ((⟨v1, v2⟩ : RSigned) : RSigned)))
def pats : List Pat := [.agg [.int .i64, .int .i64, .int .i64, .int .i64, .int .i64, .int .i64, .int .i64, .int .i64, .sl 3, .int .i64, .sl 3, .int .i64, .int .i64, .sl 3, .int .i64, .bool, .sl 184]]
def res : RP := .agg [.rd (.int .i64), .rd (.int .i64), .rd (.int .i64), .rd (.int .i64), .rd (.int .i64), .rd (.int .i64), .rd (.int .i64), .rd (.int .i64), .fr 3, .rd (.int .i64), .fr 3, .rd (.int .i64), .rd (.int .i64), .fr 3, .rd (.int .i64), .rd (.bool), .fr 184]
def md (a0 : MSigned) : MSigned := a0
def gd (a0 : MSigned) : Prop := (MSigned.Sm (2 ^ 21) a0)
def acc (ls : List L) : RSigned := (RSigned.dec ls)
def R : RSigned → Option RSigned := RR gd md
theorem R_eq {a0} (h : gd a0) : R (MSigned.r a0) = some (MSigned.r (md a0)) := RR_eq (a := a0) h
def con : Con := CN pats res acc R
theorem okF (a0 : MSigned) (hg : gd a0) : F (MSigned.r a0) = ret ((MSigned.r (md a0)) : RSigned) := by
  unfold gd at hg
  have H0 := hg
  unfold F md
  try simp only [S0, MSigned.rs]
  refine call_to (MHead.r a0.fHead) ?_ ?_
  · have R_ := Z95.R_eq (a0 := a0.fHead) H0.1
    simp only [Z95.md] at R_
    first | exact R_ | (simp only [MP, S0, MSigned.rs] at R_ ⊢; first | exact R_ | (rw [← R_]; rfl))
  try simp only [S0, MSigned.rs]
  refine call_to (a0.fSigs.map MSig.row) ?_ ?_
  · have R_ := Z96.R_eq (a0 := a0.fSigs) H0.2
    simp only [Z96.md] at R_
    first | exact R_ | (simp only [MP, S0, MSigned.rs] at R_ ⊢; first | exact R_ | (rw [← R_]; rfl))
  try simp only [S0, MSigned.rs]
  all_goals first | rfl | (simp only [S0, MSigned.rs]; done) | (simp only [MP]; rfl) | (simp only [S0, MSigned.rs, MP]; first | done | rfl)
theorem valid_ : Valid Tryz.prog Ev 145 con := VV (live := fun _ => []) (nt := 10) (run := fun _ x => F x) mix tab_ok (.cons Z95.valid_ (.cons Z96.valid_ .nil)) Tryz.func145 (by kernel_rfl) (fun _ _ => by kernel_rfl) (fun _ a _ _ hg => ⟨0, okF a hg⟩)
end Z97
namespace Z98
inductive Pt where
 | p0 (a : List (List L)) (b : Int) (c : Int) (d : List (List L))
def pid : Pt → Nat
 | .p0 .. => 3
def pvs : Pt → List V
 | .p0 a b c d => [.own 0, .sl none 122 a, .int .i64 b, .int .i64 c]
def phs : Pt → List Root
 | .p0 a b c d => [.row 122 d]
def step (J : Pt → Ans) : Pt → Ans
 | .p0 a b c d => (bif (decide (c < b)) then (bif (decide ((0 : Int) ≤ c)) then (bif (decide (c < (a.length : Int))) then (call (Z97.R (RSigned.at a (Int.toNat c))) fun v1 => (bif (lim (((d.length : Int) + 1) * 200)) then J (.p0 a b (IntKind.i64.wrap (c + 1)) (d ++ [(RSigned.enc v1)])) else none)) else none) else none) else ret (d : List (List L)))
def start (J : Pt → Ans) (x0 : List (List L)) : Ans := J (.p0 x0 (x0.length : Int) 0 [])
def live : Nat → Live := fun i => match i with | 3 => [(3, some 122), (7, none), (8, none), (9, none)] | _ => []
def pats : List Pat := [.rd (.sl 122)]
def res : RP := .one (.fr 122)
abbrev E : Env := { T := assoc Tab, G := conG [(145, Z97.con)], nt := 20 }
theorem step_eq (I : Heads) (p : Pt) : enterC E live I (pid p) (bodyOf Tryz.f82) (stOf (live (pid p)) (pvs p) (phs p)) (doneK E Tryz.f82 res) = step (fun q => I (pid q) (pvs q) (phs q)) p := by
 cases p <;> kernel_rfl
theorem start_eq (I : Heads) (ls : List L) : runC E live I (bodyOf Tryz.f82) (initS pats ls) (doneK E Tryz.f82 res) = start (fun q => I (pid q) (pvs q) (phs q)) (ls.headD .hole).toSl := by kernel_rfl
theorem run_eq (n : Nat) (ls : List L) : runF E live Tryz.f82 res n (initS pats ls) = start (iter step n) (ls.headD .hole).toSl := runF_iter (id := pid) (vs := pvs) (hs := phs) (step := step) (start := fun J => start J (ls.headD .hole).toSl) step_eq (fun I => start_eq I ls) n
def md (a0 : List MSigned) : List MSigned := a0
def gd (a0 : List MSigned) : Prop := (SmL (2 ^ 21) (fun y : MSigned => MSigned.Sm (2 ^ 21) y) a0)
def acc (ls : List L) : List (List L) := (ls.headD .hole).toSl
def R : (List (List L)) → Option (List (List L)) := RR gd md
theorem R_eq {a0} (h : gd a0) : R (a0.map MSigned.row) = some ((md a0).map MSigned.row) := RR_eq (a := a0) h
def con : Con := CN pats res acc R
theorem okF (a0 : List MSigned) (hg : gd a0) : ∃ n, start (iter step n) (a0.map MSigned.row) = ret (((md a0).map MSigned.row) : List (List L)) := by
  unfold gd at hg
  have H0 := hg
  unfold start md
  try simp only [S0, MSigned.rs]
  have Bh2 : a0.length ≤ maxLen := (by
      have := (H0).1
      try simp only [maxLen] at *
      omega)
  refine ex_eq (out := (fun b : List MSigned => ret ((b.map MSigned.row) : List (List L)))) (loopM_copy (xs := a0) (z := MSigned.zero) (t := fun s3 : List MSigned => s3)) ?_
  refine ex_pt (p := Pt.p0 (a0.map MSigned.row) (a0.length : Int) 0 ([].map MSigned.row)) (by first | rfl | (simp only [S0, MSigned.rs, MP]; done) | (simp only [MP]; rfl)) ?_
  refine loopM_ok (pt := fun (i1 : Nat) (s3 : List MSigned) => Pt.p0 (a0.map MSigned.row) (a0.length : Int) (i1 : Int) (s3.map MSigned.row)) (s := ([] : List MSigned)) (out := (fun b : List MSigned => ret ((b.map MSigned.row) : List (List L)))) (fun (i1 : Nat) (s3 : List MSigned) => s3.length ≤ ([] : List Int).length + 1 * i1) (fun J i1 s3 h2 hih2 => ?_) (fun s3 hih2 => ?_) (by simp)
  · simp only [step, S0, MSigned.rs]
    have gr_ := hih2
    try simp only [LN] at gr_
    have bb_ := Bh2
    simp only [maxLen] at bb_
    have := (H0).1
    refine Rnd.yes (by apply decide_eq_true; omega) ?_
    refine Rnd.yes zle_dec ?_
    refine Rnd.yes (lt_dec h2) ?_
    refine Rnd.call_to (MSigned.r (a0.getD i1 MSigned.zero)) ?_ ?_
    · have R_ := Z97.R_eq (a0 := (a0.getD i1 MSigned.zero)) (SmL.getD (z := MSigned.zero) H0 h2)
      simp only [Z97.md] at R_
      first | exact R_ | (simp only [MP, S0, MSigned.rs] at R_ ⊢; first | exact R_ | (rw [← R_]; rfl))
    try simp only [S0, MSigned.rs]
    refine Rnd.yes (by
        refine lim_t ?_
        try simp (disch := omega) only [LN, wi]
        first | omega | (simp; done) | (simp; omega)) ?_
    refine Rnd.inl (by
        have g_ := hih2
        try simp only [LN] at g_ ⊢
        first | omega | (simp; done) | (simp; omega)) ?_
    rw [wrap_succ h2 Bh2]
    all_goals first | rfl | (simp only [S0, MSigned.rs]; done) | (simp only [MP]; rfl) | (simp only [S0, MSigned.rs, MP]; first | done | rfl)
  · simp only [step, S0, MSigned.rs]
    have gr_ := hih2
    try simp only [LN] at gr_
    have := (H0).1
    refine ex_no (by apply decide_eq_false; omega) ?_
    refine ⟨0, ?_⟩
    all_goals first | rfl | (simp only [S0, MSigned.rs]; done) | (simp only [MP]; rfl) | (simp only [S0, MSigned.rs, MP]; first | done | rfl)
theorem valid_ : Valid Tryz.prog Ev 82 con := VV (run := fun n x => start (iter step n) x) mix tab_ok (.cons Z97.valid_ .nil) Tryz.func82 (by kernel_rfl) run_eq (fun _ a _ _ hg => okF a hg)
end Z98
namespace Z99
def F (x0 : List (List L)) : Ans := (bif x0.isEmpty then (either (ret ([] : List (List L))) ((bif (lim ((x0.length : Int) * 16)) then ret (x0 : List (List L)) else none))) else (bif (lim ((x0.length : Int) * 16)) then ret (x0 : List (List L)) else none))
def pats : List Pat := [.rd (.sl 9)]
def res : RP := .one (.fr 9)
def md (a0 : List ByteArray) : List ByteArray := a0
def gd (a0 : List ByteArray) : Prop := SmL (2 ^ 21) (fun y : ByteArray => y.size ≤ (2 ^ 21)) a0
def acc (ls : List L) : List (List L) := (ls.headD .hole).toSl
def R : (List (List L)) → Option (List (List L)) := RR gd md
theorem R_eq {a0} (h : gd a0) : R (a0.map sRow) = some ((md a0).map sRow) := RR_eq (a := a0) h
def con : Con := CN pats res acc R
theorem okF (a0 : List ByteArray) (hg : gd a0) : F (a0.map sRow) = ret (((md a0).map sRow) : List (List L)) := by
 have H0 := hg.1
 unfold F md
 have hl : lim (((a0.map sRow).length : Int) * 16) = true := lim_t (by simp only [List.length_map]; omega)
 simp only [hl, cond_true]
 cases a0 with
 | nil => exact either_same
 | cons x xs => rfl
theorem valid_ : Valid Tryz.prog Ev 206 con := VV (live := fun _ => []) (nt := 8) (run := fun _ x => F x) mix tab_ok .nil Tryz.func206 (by kernel_rfl) (fun _ _ => by kernel_rfl) (fun _ a _ _ hg => ⟨0, okF a hg⟩)
end Z99
namespace Z100
def F (x0 : REntry) : Ans := (call (Z99.R x0.fPath) fun v1 => ret ((⟨x0.fLabel, x0.fKind, x0.fValue, v1⟩ : REntry) : REntry))
def pats : List Pat := [.agg [.str, .int .i64, .int .i64, .sl 9]]
def res : RP := .agg [.rd (.str), .rd (.int .i64), .rd (.int .i64), .fr 9]
def md (a0 : MEntry) : MEntry := a0
def gd (a0 : MEntry) : Prop := (MEntry.Sm (2 ^ 21) a0)
def acc (ls : List L) : REntry := (REntry.dec ls)
def R : REntry → Option REntry := RR gd md
theorem R_eq {a0} (h : gd a0) : R (MEntry.r a0) = some (MEntry.r (md a0)) := RR_eq (a := a0) h
def con : Con := CN pats res acc R
theorem okF (a0 : MEntry) (hg : gd a0) : F (MEntry.r a0) = ret ((MEntry.r (md a0)) : REntry) := by
  unfold gd at hg
  have H0 := hg
  unfold F md
  try simp only [S0, MEntry.rs]
  refine call_to (a0.fPath.map sRow) ?_ ?_
  · have R_ := Z99.R_eq (a0 := a0.fPath) H0.2
    simp only [Z99.md] at R_
    first | exact R_ | (simp only [MP, S0, MEntry.rs] at R_ ⊢; first | exact R_ | (rw [← R_]; rfl))
  try simp only [S0, MEntry.rs]
  all_goals first | rfl | (simp only [S0, MEntry.rs]; done) | (simp only [MP]; rfl) | (simp only [S0, MEntry.rs, MP]; first | done | rfl)
theorem valid_ : Valid Tryz.prog Ev 172 con := VV (live := fun _ => []) (nt := 8) (run := fun _ x => F x) mix tab_ok (.cons Z99.valid_ .nil) Tryz.func172 (by kernel_rfl) (fun _ _ => by kernel_rfl) (fun _ a _ _ hg => ⟨0, okF a hg⟩)
end Z100
namespace Z101
def F (x0 : RProof) : Ans := (call (Z93.R x0.fPath) fun v1 => ret ((⟨x0.fAt, v1⟩ : RProof) : RProof))
def pats : List Pat := [.agg [.int .i64, .sl 3]]
def res : RP := .agg [.rd (.int .i64), .fr 3]
def md (a0 : MProof) : MProof := a0
def gd (a0 : MProof) : Prop := (MProof.Sm (2 ^ 21) a0)
def acc (ls : List L) : RProof := (RProof.dec ls)
def R : RProof → Option RProof := RR gd md
theorem R_eq {a0} (h : gd a0) : R (MProof.r a0) = some (MProof.r (md a0)) := RR_eq (a := a0) h
def con : Con := CN pats res acc R
theorem okF (a0 : MProof) (hg : gd a0) : F (MProof.r a0) = ret ((MProof.r (md a0)) : RProof) := by
  unfold gd at hg
  have H0 := hg
  unfold F md
  try simp only [S0, MProof.rs]
  refine call_to (a0.fPath.map iRow) ?_ ?_
  · have R_ := Z93.R_eq (a0 := a0.fPath) (H0.mono (by decide) (fun x hx => trivial))
    simp only [Z93.md] at R_
    first | exact R_ | (simp only [MP, S0, MProof.rs] at R_ ⊢; first | exact R_ | (rw [← R_]; rfl))
  try simp only [S0, MProof.rs]
  all_goals first | rfl | (simp only [S0, MProof.rs]; done) | (simp only [MP]; rfl) | (simp only [S0, MProof.rs, MP]; first | done | rfl)
theorem valid_ : Valid Tryz.prog Ev 173 con := VV (live := fun _ => []) (nt := 9) (run := fun _ x => F x) mix tab_ok (.cons Z93.valid_ .nil) Tryz.func173 (by kernel_rfl) (fun _ _ => by kernel_rfl) (fun _ a _ _ hg => ⟨0, okF a hg⟩)
end Z101
namespace Z102
def F (x0 : RGap) : Ans := (call (Z100.R x0.fBefore) fun v1 => (call (Z100.R x0.fAfter) fun v2 => (call (Z101.R x0.fLeft) fun v3 => (call (Z101.R x0.fRight) fun v4 => ret ((⟨x0.fAt, v1, v2, v3, v4⟩ : RGap) : RGap)))))
def pats : List Pat := [.agg [.int .i64, .str, .int .i64, .int .i64, .sl 9, .str, .int .i64, .int .i64, .sl 9, .int .i64, .sl 3, .int .i64, .sl 3]]
def res : RP := .agg [.rd (.int .i64), .rd (.str), .rd (.int .i64), .rd (.int .i64), .fr 9, .rd (.str), .rd (.int .i64), .rd (.int .i64), .fr 9, .rd (.int .i64), .fr 3, .rd (.int .i64), .fr 3]
def md (a0 : MGap) : MGap := a0
def gd (a0 : MGap) : Prop := (MGap.Sm (2 ^ 21) a0)
def acc (ls : List L) : RGap := (RGap.dec ls)
def R : RGap → Option RGap := RR gd md
theorem R_eq {a0} (h : gd a0) : R (MGap.r a0) = some (MGap.r (md a0)) := RR_eq (a := a0) h
def con : Con := CN pats res acc R
theorem okF (a0 : MGap) (hg : gd a0) : F (MGap.r a0) = ret ((MGap.r (md a0)) : RGap) := by
  unfold gd at hg
  have H0 := hg
  unfold F md
  try simp only [S0, MProof.rs, MGap.rs]
  refine call_to (MEntry.r a0.fBefore) ?_ ?_
  · have R_ := Z100.R_eq (a0 := a0.fBefore) H0.1
    simp only [Z100.md] at R_
    first | exact R_ | (simp only [MP, S0, MProof.rs, MGap.rs] at R_ ⊢; first | exact R_ | (rw [← R_]; rfl))
  try simp only [S0, MProof.rs, MGap.rs]
  refine call_to (MEntry.r a0.fAfter) ?_ ?_
  · have R_ := Z100.R_eq (a0 := a0.fAfter) H0.2.1
    simp only [Z100.md] at R_
    first | exact R_ | (simp only [MP, S0, MProof.rs, MGap.rs] at R_ ⊢; first | exact R_ | (rw [← R_]; rfl))
  try simp only [S0, MProof.rs, MGap.rs]
  refine call_to (MProof.r a0.fLeft) ?_ ?_
  · have R_ := Z101.R_eq (a0 := a0.fLeft) H0.2.2.1
    simp only [Z101.md] at R_
    first | exact R_ | (simp only [MP, S0, MProof.rs, MGap.rs] at R_ ⊢; first | exact R_ | (rw [← R_]; rfl))
  try simp only [S0, MProof.rs, MGap.rs]
  refine call_to (MProof.r a0.fRight) ?_ ?_
  · have R_ := Z101.R_eq (a0 := a0.fRight) H0.2.2.2
    simp only [Z101.md] at R_
    first | exact R_ | (simp only [MP, S0, MProof.rs, MGap.rs] at R_ ⊢; first | exact R_ | (rw [← R_]; rfl))
  try simp only [S0, MProof.rs, MGap.rs]
  all_goals first | rfl | (simp only [S0, MProof.rs, MGap.rs]; done) | (simp only [MP]; rfl) | (simp only [S0, MProof.rs, MGap.rs, MP]; first | done | rfl)
theorem valid_ : Valid Tryz.prog Ev 174 con := VV (live := fun _ => []) (nt := 18) (run := fun _ x => F x) mix tab_ok (.cons Z100.valid_ (.cons Z101.valid_ .nil)) Tryz.func174 (by kernel_rfl) (fun _ _ => by kernel_rfl) (fun _ a _ _ hg => ⟨0, okF a hg⟩)
end Z102
namespace Z103
def F (x0 : RAnswer) : Ans := (call (Z98.R x0.fChain) fun v1 => (call (Z100.R x0.fEntry) fun v2 => (call (Z101.R x0.fProof) fun v3 => (call (Z102.R x0.fGap) fun v4 => ret ((⟨v1, x0.fFound, v2, v3, v4⟩ : RAnswer) : RAnswer)))))
def pats : List Pat := [.agg [.sl 122, .bool, .str, .int .i64, .int .i64, .sl 9, .int .i64, .sl 3, .int .i64, .str, .int .i64, .int .i64, .sl 9, .str, .int .i64, .int .i64, .sl 9, .int .i64, .sl 3, .int .i64, .sl 3]]
def res : RP := .agg [.fr 122, .rd (.bool), .rd (.str), .rd (.int .i64), .rd (.int .i64), .fr 9, .rd (.int .i64), .fr 3, .rd (.int .i64), .rd (.str), .rd (.int .i64), .rd (.int .i64), .fr 9, .rd (.str), .rd (.int .i64), .rd (.int .i64), .fr 9, .rd (.int .i64), .fr 3, .rd (.int .i64), .fr 3]
def md (a0 : MAnswer) : MAnswer := a0
def gd (a0 : MAnswer) : Prop := (MAnswer.Sm (2 ^ 21) a0)
def acc (ls : List L) : RAnswer := (RAnswer.dec ls)
def R : RAnswer → Option RAnswer := RR gd md
theorem R_eq {a0} (h : gd a0) : R (MAnswer.r a0) = some (MAnswer.r (md a0)) := RR_eq (a := a0) h
def con : Con := CN pats res acc R
theorem okF (a0 : MAnswer) (hg : gd a0) : F (MAnswer.r a0) = ret ((MAnswer.r (md a0)) : RAnswer) := by
  unfold gd at hg
  have H0 := hg
  unfold F md
  try simp only [S0, MAnswer.rs]
  refine call_to (a0.fChain.map MSigned.row) ?_ ?_
  · have R_ := Z98.R_eq (a0 := a0.fChain) H0.1
    simp only [Z98.md] at R_
    first | exact R_ | (simp only [MP, S0, MAnswer.rs] at R_ ⊢; first | exact R_ | (rw [← R_]; rfl))
  try simp only [S0, MAnswer.rs]
  refine call_to (MEntry.r a0.fEntry) ?_ ?_
  · have R_ := Z100.R_eq (a0 := a0.fEntry) H0.2.1
    simp only [Z100.md] at R_
    first | exact R_ | (simp only [MP, S0, MAnswer.rs] at R_ ⊢; first | exact R_ | (rw [← R_]; rfl))
  try simp only [S0, MAnswer.rs]
  refine call_to (MProof.r a0.fProof) ?_ ?_
  · have R_ := Z101.R_eq (a0 := a0.fProof) H0.2.2.1
    simp only [Z101.md] at R_
    first | exact R_ | (simp only [MP, S0, MAnswer.rs] at R_ ⊢; first | exact R_ | (rw [← R_]; rfl))
  try simp only [S0, MAnswer.rs]
  refine call_to (MGap.r a0.fGap) ?_ ?_
  · have R_ := Z102.R_eq (a0 := a0.fGap) H0.2.2.2
    simp only [Z102.md] at R_
    first | exact R_ | (simp only [MP, S0, MAnswer.rs] at R_ ⊢; first | exact R_ | (rw [← R_]; rfl))
  try simp only [S0, MAnswer.rs]
  all_goals first | rfl | (simp only [S0, MAnswer.rs]; done) | (simp only [MP]; rfl) | (simp only [S0, MAnswer.rs, MP]; first | done | rfl)
theorem valid_ : Valid Tryz.prog Ev 110 con := VV (live := fun _ => []) (nt := 18) (run := fun _ x => F x) mix tab_ok (.cons Z98.valid_ (.cons Z100.valid_ (.cons Z101.valid_ (.cons Z102.valid_ .nil)))) Tryz.func110 (by kernel_rfl) (fun _ _ => by kernel_rfl) (fun _ a _ _ hg => ⟨0, okF a hg⟩)
end Z103
namespace Z104
def F (x0 : RStored) : Ans := (call (Z103.R x0.fAnswer) fun v1 => ret ((⟨x0.fZone, x0.fLabel, v1⟩ : RStored) : RStored))
def pats : List Pat := [.agg [.int .i64, .str, .sl 122, .bool, .str, .int .i64, .int .i64, .sl 9, .int .i64, .sl 3, .int .i64, .str, .int .i64, .int .i64, .sl 9, .str, .int .i64, .int .i64, .sl 9, .int .i64, .sl 3, .int .i64, .sl 3]]
def res : RP := .agg [.rd (.int .i64), .rd (.str), .fr 122, .rd (.bool), .rd (.str), .rd (.int .i64), .rd (.int .i64), .fr 9, .rd (.int .i64), .fr 3, .rd (.int .i64), .rd (.str), .rd (.int .i64), .rd (.int .i64), .fr 9, .rd (.str), .rd (.int .i64), .rd (.int .i64), .fr 9, .rd (.int .i64), .fr 3, .rd (.int .i64), .fr 3]
def md (a0 : MStored) : MStored := a0
def gd (a0 : MStored) : Prop := (MStored.Sm (2 ^ 21) a0)
def acc (ls : List L) : RStored := (RStored.dec ls)
def R : RStored → Option RStored := RR gd md
theorem R_eq {a0} (h : gd a0) : R (MStored.r a0) = some (MStored.r (md a0)) := RR_eq (a := a0) h
def con : Con := CN pats res acc R
theorem okF (a0 : MStored) (hg : gd a0) : F (MStored.r a0) = ret ((MStored.r (md a0)) : RStored) := by
  unfold gd at hg
  have H0 := hg
  unfold F md
  try simp only [S0, MHead.rs, MEntry.rs, MStored.rs]
  refine call_to (MAnswer.r a0.fAnswer) ?_ ?_
  · have R_ := Z103.R_eq (a0 := a0.fAnswer) H0.2
    simp only [Z103.md] at R_
    first | exact R_ | (simp only [MP, S0, MHead.rs, MEntry.rs, MStored.rs] at R_ ⊢; first | exact R_ | (rw [← R_]; rfl))
  try simp only [S0, MHead.rs, MEntry.rs, MStored.rs]
  all_goals first | rfl | (simp only [S0, MHead.rs, MEntry.rs, MStored.rs]; done) | (simp only [MP]; rfl) | (simp only [S0, MHead.rs, MEntry.rs, MStored.rs, MP]; first | done | rfl)
theorem valid_ : Valid Tryz.prog Ev 157 con := VV (live := fun _ => []) (nt := 8) (run := fun _ x => F x) mix tab_ok (.cons Z103.valid_ .nil) Tryz.func157 (by kernel_rfl) (fun _ _ => by kernel_rfl) (fun _ a _ _ hg => ⟨0, okF a hg⟩)
end Z104
namespace Z105
inductive Pt where
 | p0 (a : List (List L)) (b : Int) (c : Int) (d : List (List L))
def pid : Pt → Nat
 | .p0 .. => 3
def pvs : Pt → List V
 | .p0 a b c d => [.bptr 0 0, .bptr 1 0, .sl none 148 a, .int .i64 b, .int .i64 c, .bptr 1 0]
def phs : Pt → List Root
 | .p0 a b c d => [.box [.nil], .box [.own 2], .row 148 d]
def step (J : Pt → Ans) : Pt → Ans
 | .p0 a b c d => (bif (decide (c < b)) then (bif (decide ((0 : Int) ≤ c)) then (bif (decide (c < (a.length : Int))) then (call (Z104.R (RStored.at a (Int.toNat c))) fun v1 => (bif (lim (((d.length : Int) + 1) * 328)) then J (.p0 a b (IntKind.i64.wrap (c + 1)) (d ++ [(RStored.enc v1)])) else none)) else none) else none) else ret ((⟨d⟩ : RCache) : RCache))
def start (J : Pt → Ans) (x0 : RCache) : Ans := J (.p0 x0.fList (x0.fList.length : Int) 0 [])
def live : Nat → Live := fun i => match i with | 3 => [(2, none), (3, none), (8, none), (9, none), (10, none), (3, some 148)] | _ => []
def pats : List Pat := [.agg [.sl 148]]
def res : RP := .agg [.fr 148]
abbrev E : Env := { T := assoc Tab, G := conG [(157, Z104.con)], nt := 23 }
theorem step_eq (I : Heads) (p : Pt) : enterC E live I (pid p) (bodyOf Tryz.f95) (stOf (live (pid p)) (pvs p) (phs p)) (doneK E Tryz.f95 res) = step (fun q => I (pid q) (pvs q) (phs q)) p := by
 cases p <;> kernel_rfl
theorem start_eq (I : Heads) (ls : List L) : runC E live I (bodyOf Tryz.f95) (initS pats ls) (doneK E Tryz.f95 res) = start (fun q => I (pid q) (pvs q) (phs q)) (RCache.dec ls) := by kernel_rfl
theorem run_eq (n : Nat) (ls : List L) : runF E live Tryz.f95 res n (initS pats ls) = start (iter step n) (RCache.dec ls) := runF_iter (id := pid) (vs := pvs) (hs := phs) (step := step) (start := fun J => start J (RCache.dec ls)) step_eq (fun I => start_eq I ls) n
def md (a0 : MCache) : MCache := a0
def gd (a0 : MCache) : Prop := (MCache.Sm (2 ^ 21) a0)
def acc (ls : List L) : RCache := (RCache.dec ls)
def R : RCache → Option RCache := RR gd md
theorem R_eq {a0} (h : gd a0) : R (MCache.r a0) = some (MCache.r (md a0)) := RR_eq (a := a0) h
def con : Con := CN pats res acc R
theorem okF (a0 : MCache) (hg : gd a0) : ∃ n, start (iter step n) (MCache.r a0) = ret ((MCache.r (md a0)) : RCache) := by
  unfold gd at hg
  have H0 := hg
  unfold start md
  try simp only [S0, MKeys.rs, MStored.rs, MCache.rs]
  have Bh2 : a0.fList.length ≤ maxLen := (by
      have := (H0).1
      try simp only [maxLen] at *
      omega)
  refine ex_eq (out := (fun b : MCache => ret ((MCache.r b) : RCache))) (loopM_copy (xs := a0.fList) (z := MStored.zero) (t := fun s3 : List MStored => (⟨s3⟩ : MCache))) ?_
  refine ex_pt (p := Pt.p0 (a0.fList.map MStored.row) (a0.fList.length : Int) 0 ([].map MStored.row)) (by first | rfl | (simp only [S0, MKeys.rs, MStored.rs, MCache.rs, MP]; done) | (simp only [MP]; rfl)) ?_
  refine loopM_ok (pt := fun (i1 : Nat) (s3 : List MStored) => Pt.p0 (a0.fList.map MStored.row) (a0.fList.length : Int) (i1 : Int) (s3.map MStored.row)) (s := ([] : List MStored)) (out := (fun b : MCache => ret ((MCache.r b) : RCache))) (fun (i1 : Nat) (s3 : List MStored) => s3.length ≤ ([] : List Int).length + 1 * i1) (fun J i1 s3 h2 hih2 => ?_) (fun s3 hih2 => ?_) (by simp)
  · simp only [step, S0, MKeys.rs, MStored.rs, MCache.rs]
    have gr_ := hih2
    try simp only [LN] at gr_
    have bb_ := Bh2
    simp only [maxLen] at bb_
    have := (H0).1
    refine Rnd.yes (by apply decide_eq_true; omega) ?_
    refine Rnd.yes zle_dec ?_
    refine Rnd.yes (lt_dec h2) ?_
    refine Rnd.call_to (MStored.r (a0.fList.getD i1 MStored.zero)) ?_ ?_
    · have R_ := Z104.R_eq (a0 := (a0.fList.getD i1 MStored.zero)) (SmL.getD (z := MStored.zero) H0 h2)
      simp only [Z104.md] at R_
      first | exact R_ | (simp only [MP, S0, MKeys.rs, MStored.rs, MCache.rs] at R_ ⊢; first | exact R_ | (rw [← R_]; rfl))
    try simp only [S0, MKeys.rs, MStored.rs, MCache.rs]
    refine Rnd.yes (by
        refine lim_t ?_
        try simp (disch := omega) only [LN, wi]
        first | omega | (simp; done) | (simp; omega)) ?_
    refine Rnd.inl (by
        have g_ := hih2
        try simp only [LN] at g_ ⊢
        first | omega | (simp; done) | (simp; omega)) ?_
    rw [wrap_succ h2 Bh2]
    all_goals first | rfl | (simp only [S0, MKeys.rs, MStored.rs, MCache.rs]; done) | (simp only [MP]; rfl) | (simp only [S0, MKeys.rs, MStored.rs, MCache.rs, MP]; first | done | rfl) | (simp only [MCache.r, S0, MKeys.rs, MStored.rs, MCache.rs, MP]; first | done | rfl)
  · simp only [step, S0, MKeys.rs, MStored.rs, MCache.rs]
    have gr_ := hih2
    try simp only [LN] at gr_
    have := (H0).1
    refine ex_no (by apply decide_eq_false; omega) ?_
    refine ⟨0, ?_⟩
    all_goals first | rfl | (simp only [S0, MKeys.rs, MStored.rs, MCache.rs]; done) | (simp only [MP]; rfl) | (simp only [S0, MKeys.rs, MStored.rs, MCache.rs, MP]; first | done | rfl) | (simp only [MCache.r, S0, MKeys.rs, MStored.rs, MCache.rs, MP]; first | done | rfl)
theorem valid_ : Valid Tryz.prog Ev 95 con := VV (run := fun n x => start (iter step n) x) mix tab_ok (.cons Z104.valid_ .nil) Tryz.func95 (by kernel_rfl) run_eq (fun _ a _ _ hg => okF a hg)
end Z105
namespace Z106
def F (x0 : Int) (x1 : Int) (x2 : Int) : Ans := (bif (decide (x1 ≤ x0)) then ret ((decide (x0 ≤ x2)) : Bool) else ret (false : Bool))
def pats : List Pat := [.rd (.int .i64), .rd (.int .i64), .rd (.int .i64)]
def res : RP := .one (.rd (.bool))
def md (a0 : Int) (a1 : Int) (a2 : Int) : Bool := (bif (decide (a1 ≤ a0)) then ((decide (a0 ≤ a2)) : Bool) else (false : Bool))
def gd (a0 : Int) (a1 : Int) (a2 : Int) : Prop := True
def acc (ls : List L) : Int × Int × Int := ((ls.headD .hole).toInt, ((dropT 1 ls).headD .hole).toInt, ((dropT 2 ls).headD .hole).toInt)
def R : (Int × Int × Int) → Option Bool := RR (p3 gd) (u3 md)
theorem R_eq {a0} {a1} {a2} (h : gd a0 a1 a2) : R (a0, a1, a2) = some (md a0 a1 a2) := RR_eq (a := (a0, a1, a2)) h
def con : Con := CN pats res acc R
theorem okF (a0 : Int) (a1 : Int) (a2 : Int) (hg : gd a0 a1 a2) : F a0 a1 a2 = ret ((md a0 a1 a2) : Bool) := by
 unfold F md
 try simp only [S0]
 refine bif_out ret (fun c1 => ?_) (fun _ => rfl)
 all_goals first | rfl | (simp only [S0, MP]; first | done | rfl)
theorem valid_ : Valid Tryz.prog Ev 177 con := VV (live := fun _ => []) (nt := 15) (run := fun _ x => F x.1 x.2.1 x.2.2) mix tab_ok .nil Tryz.func177 (by kernel_rfl) (fun _ _ => by kernel_rfl) (fun _ a _ _ hg => ⟨0, okF a.1 a.2.1 a.2.2 hg⟩)
theorem br (a0 : Int) (a1 : Int) (a2 : Int) : md a0 a1 a2 = Z39.md a0 a1 a2 := by
 unfold md Z39.md
 first | rfl | (rw [Bool.eq_iff_iff]; simp)
end Z106
namespace Z107
def F (x0 : Int) : Ans := (call (Z106.R (x0, 0, 2147483646)) fun v1 => ret (v1 : Bool))
def pats : List Pat := [.rd (.int .i64)]
def res : RP := .one (.rd (.bool))
def md (a0 : Int) : Bool := ((Z106.md a0 0 2147483646) : Bool)
def gd (a0 : Int) : Prop := True
def acc (ls : List L) : Int := (ls.headD .hole).toInt
def R : Int → Option Bool := RR gd md
theorem R_eq {a0} (h : gd a0) : R a0 = some (md a0) := RR_eq (a := a0) h
def con : Con := CN pats res acc R
theorem okF (a0 : Int) (hg : gd a0) : F a0 = ret ((md a0) : Bool) := by
 unfold F md
 try simp only [S0]
 refine call_to (Z106.md a0 0 2147483646) (Z106.R_eq (a0 := a0) (a1 := 0) (a2 := 2147483646) trivial) ?_
 all_goals first | rfl | (simp only [S0, MP]; first | done | rfl)
theorem valid_ : Valid Tryz.prog Ev 122 con := VV (live := fun _ => []) (nt := 5) (run := fun _ x => F x) mix tab_ok (.cons Z106.valid_ .nil) Tryz.func122 (by kernel_rfl) (fun _ _ => by kernel_rfl) (fun _ a _ _ hg => ⟨0, okF a hg⟩)
end Z107
namespace Z108
def F (x0 : RHead) : Ans := (bif (decide (x0.fTime ≥ 0)) then (bif (decide (x0.fTime ≤ x0.fUntil)) then (bif (decide (x0.fUntil ≤ 100000)) then ret ((decide ((IntKind.i64.wrap (x0.fUntil - x0.fTime)) ≤ 200)) : Bool) else ret (false : Bool)) else ret (false : Bool)) else ret (false : Bool))
def pats : List Pat := [.agg [.int .i64, .int .i64, .int .i64, .int .i64, .int .i64, .int .i64, .int .i64, .int .i64, .sl 3, .int .i64, .sl 3, .int .i64, .int .i64, .sl 3, .int .i64, .bool]]
def res : RP := .one (.rd (.bool))
def md (a0 : MHead) : Bool := (bif (decide (a0.fTime ≥ 0)) then (bif (decide (a0.fTime ≤ a0.fUntil)) then (bif (decide (a0.fUntil ≤ 100000)) then ((decide ((IntKind.i64.wrap (a0.fUntil - a0.fTime)) ≤ 200)) : Bool) else (false : Bool)) else (false : Bool)) else (false : Bool))
def gd (a0 : MHead) : Prop := True
def acc (ls : List L) : RHead := (RHead.dec ls)
def R : RHead → Option Bool := RR gd md
theorem R_eq {a0} (h : gd a0) : R (MHead.r a0) = some (md a0) := RR_eq (a := a0) h
def con : Con := CN pats res acc R
theorem okF (a0 : MHead) (hg : gd a0) : F (MHead.r a0) = ret ((md a0) : Bool) := by
 unfold F md
 try simp only [S0, MHead.rs]
 refine bif_out ret (fun c1 => ?_) (fun _ => rfl)
 refine bif_out ret (fun c2 => ?_) (fun _ => rfl)
 refine bif_out ret (fun c3 => ?_) (fun _ => rfl)
 all_goals first | rfl | (simp only [S0, MHead.rs, MP]; first | done | rfl)
theorem valid_ : Valid Tryz.prog Ev 275 con := VV (live := fun _ => []) (nt := 26) (run := fun _ x => F x) mix tab_ok .nil Tryz.func275 (by kernel_rfl) (fun _ _ => by kernel_rfl) (fun _ a _ _ hg => ⟨0, okF a hg⟩)
end Z108
namespace Z109
inductive Pt where
 | p0 (a : List (List L)) (b : Int) (c : Int)
def pid : Pt → Nat
 | .p0 .. => 2
def pvs : Pt → List V
 | .p0 a b c => [.sl none 3 a, .int .i64 b, .int .i64 c]
def phs : Pt → List Root
 | .p0 a b c => []
def step (J : Pt → Ans) : Pt → Ans
 | .p0 a b c => (bif (decide (c < b)) then (bif (decide (c > 0)) then (bif (decide ((0 : Int) ≤ c)) then (bif (decide (c < (a.length : Int))) then (bif (decide ((0 : Int) ≤ (IntKind.i64.wrap (c - 1)))) then (bif (decide ((IntKind.i64.wrap (c - 1)) < (a.length : Int))) then (bif (decide ((iAt a (Int.toNat c)) ≤ (iAt a (Int.toNat (IntKind.i64.wrap (c - 1)))))) then ret (false : Bool) else J (.p0 a b (IntKind.i64.wrap (c + 1)))) else none) else none) else none) else none) else J (.p0 a b (IntKind.i64.wrap (c + 1)))) else ret (true : Bool))
def start (J : Pt → Ans) (x0 : List (List L)) : Ans := J (.p0 x0 (x0.length : Int) 0)
def live : Nat → Live := fun i => match i with | 2 => [(0, none), (5, none), (6, none)] | _ => []
def pats : List Pat := [.rd (.sl 3)]
def res : RP := .one (.rd (.bool))
abbrev E : Env := { T := assoc Tab, G := conG [], nt := 24 }
theorem step_eq (I : Heads) (p : Pt) : enterC E live I (pid p) (bodyOf Tryz.f302) (stOf (live (pid p)) (pvs p) (phs p)) (doneK E Tryz.f302 res) = step (fun q => I (pid q) (pvs q) (phs q)) p := by
 cases p <;> kernel_rfl
theorem start_eq (I : Heads) (ls : List L) : runC E live I (bodyOf Tryz.f302) (initS pats ls) (doneK E Tryz.f302 res) = start (fun q => I (pid q) (pvs q) (phs q)) (ls.headD .hole).toSl := by kernel_rfl
theorem run_eq (n : Nat) (ls : List L) : runF E live Tryz.f302 res n (initS pats ls) = start (iter step n) (ls.headD .hole).toSl := runF_iter (id := pid) (vs := pvs) (hs := phs) (step := step) (start := fun J => start J (ls.headD .hole).toSl) step_eq (fun I => start_eq I ls) n
def md (a0 : List Int) : Bool := (eachI (S := Unit) (β := Bool) (fun (i1 : Nat) (y1 : Int) (s3 : Unit) => (bif (decide ((i1 : Int) > 0)) then (bif (decide (y1 ≤ (a0.getD (Int.toNat (IntKind.i64.wrap ((i1 : Int) - 1))) 0))) then (.inr (false : Bool)) else (.inl ())) else (.inl ()))) (fun (s3 : Unit) => (true : Bool)) 0 a0 ())
def gd (a0 : List Int) : Prop := (SmL (2 ^ 38) (fun y : Int => True) a0)
def acc (ls : List L) : List (List L) := (ls.headD .hole).toSl
def R : (List (List L)) → Option Bool := RR gd md
theorem R_eq {a0} (h : gd a0) : R (a0.map iRow) = some (md a0) := RR_eq (a := a0) h
def con : Con := CN pats res acc R
theorem okF (a0 : List Int) (hg : gd a0) : ∃ n, start (iter step n) (a0.map iRow) = ret ((md a0) : Bool) := by
  unfold gd at hg
  have H0 := hg
  unfold start md
  try simp only [S0]
  have Bh2 : a0.length ≤ maxLen := (by
      have := (H0).1
      try simp only [maxLen] at *
      omega)
  refine ex_eq (out := ret) (loopM_eachI (z := 0)) ?_
  refine ex_pt (p := Pt.p0 (a0.map iRow) (a0.length : Int) 0) (by first | rfl | (simp only [S0, MP]; done) | (simp only [MP]; rfl)) ?_
  refine loopM_ok (pt := fun (i1 : Nat) (s3 : Unit) => Pt.p0 (a0.map iRow) (a0.length : Int) (i1 : Int)) (s := (() : Unit)) (out := ret) (fun _ _ => True) (fun J i1 s3 h2 hih2 => ?_) (fun s3 hih2 => ?_) trivial
  · simp only [step, S0]
    have bb_ := Bh2
    simp only [maxLen] at bb_
    have := (H0).1
    refine Rnd.yes (by apply decide_eq_true; omega) ?_
    refine Rnd.bif (fun c4 => ?_) (fun c4 => ?_)
    · have dc4 := c4
      try simp only [DC] at dc4
      refine Rnd.yes zle_dec ?_
      refine Rnd.yes (lt_dec h2) ?_
      refine Rnd.yes (by
          refine decide_eq_true ?_
          try simp (disch := omega) only [LN, wi]
          first | omega | (simp; done) | (simp; omega)) ?_
      refine Rnd.yes (by
          have := (H0).1
          refine decide_eq_true ?_
          try simp (disch := omega) only [LN, wi]
          first | omega | (simp; done) | (simp; omega)) ?_
      refine Rnd.bif (fun _ => Rnd.inr rfl) (fun c5 => ?_)
      refine Rnd.inl trivial ?_
      rw [wrap_succ h2 Bh2]
      all_goals first | rfl | (simp only [S0, MP]; first | done | rfl)
    · refine Rnd.inl trivial ?_
      rw [wrap_succ h2 Bh2]
      all_goals first | rfl | (simp only [S0, MP]; first | done | rfl)
  · simp only [step, S0]
    have := (H0).1
    refine ex_no (by apply decide_eq_false; omega) ?_
    refine ⟨0, ?_⟩
    all_goals first | rfl | (simp only [S0, MP]; first | done | rfl)
theorem valid_ : Valid Tryz.prog Ev 302 con := VV (run := fun n x => start (iter step n) x) mix tab_ok .nil Tryz.func302 (by kernel_rfl) run_eq (fun _ a _ _ hg => okF a hg)
end Z109
namespace Z110
def F (x0 : Int) : Ans := (call (Z106.R (x0, 1, 99)) fun v1 => ret (v1 : Bool))
def pats : List Pat := [.rd (.int .i64)]
def res : RP := .one (.rd (.bool))
def md (a0 : Int) : Bool := ((Z106.md a0 1 99) : Bool)
def gd (a0 : Int) : Prop := True
def acc (ls : List L) : Int := (ls.headD .hole).toInt
def R : Int → Option Bool := RR gd md
theorem R_eq {a0} (h : gd a0) : R a0 = some (md a0) := RR_eq (a := a0) h
def con : Con := CN pats res acc R
theorem okF (a0 : Int) (hg : gd a0) : F a0 = ret ((md a0) : Bool) := by
 unfold F md
 try simp only [S0]
 refine call_to (Z106.md a0 1 99) (Z106.R_eq (a0 := a0) (a1 := 1) (a2 := 99) trivial) ?_
 all_goals first | rfl | (simp only [S0, MP]; first | done | rfl)
theorem valid_ : Valid Tryz.prog Ev 303 con := VV (live := fun _ => []) (nt := 5) (run := fun _ x => F x) mix tab_ok (.cons Z106.valid_ .nil) Tryz.func303 (by kernel_rfl) (fun _ _ => by kernel_rfl) (fun _ a _ _ hg => ⟨0, okF a hg⟩)
end Z110
namespace Z111
def F (x0 : RKeys) : Ans := (call (Z106.R ((x0.fList.length : Int), 1, 4)) fun v1 => (bif v1 then (call (Z109.R x0.fList) fun v2 => (bif v2 then (bif (decide ((0 : Int) < (x0.fList.length : Int))) then (call (Z110.R (iAt x0.fList 0)) fun v3 => (bif v3 then (bif (decide ((0 : Int) ≤ (IntKind.i64.wrap ((x0.fList.length : Int) - 1)))) then (bif (decide ((IntKind.i64.wrap ((x0.fList.length : Int) - 1)) < (x0.fList.length : Int))) then (call (Z110.R (iAt x0.fList (Int.toNat (IntKind.i64.wrap ((x0.fList.length : Int) - 1))))) fun v4 => (bif v4 then (call (Z106.R (x0.fNeed, 1, (x0.fList.length : Int))) fun v5 => ret (v5 : Bool)) else ret (false : Bool))) else none) else none) else ret (false : Bool))) else none) else ret (false : Bool))) else ret (false : Bool)))
def pats : List Pat := [.agg [.sl 3, .int .i64]]
def res : RP := .one (.rd (.bool))
def md (a0 : MKeys) : Bool := (bif (Z106.md (a0.fList.length : Int) 1 4) then (bif (Z109.md a0.fList) then (bif (Z110.md (a0.fList.getD 0 0)) then (bif (Z110.md (a0.fList.getD (Int.toNat (IntKind.i64.wrap ((a0.fList.length : Int) - 1))) 0)) then ((Z106.md a0.fNeed 1 (a0.fList.length : Int)) : Bool) else (false : Bool)) else (false : Bool)) else (false : Bool)) else (false : Bool))
def gd (a0 : MKeys) : Prop := (MKeys.Sm (2 ^ 21) a0)
def acc (ls : List L) : RKeys := (RKeys.dec ls)
def R : RKeys → Option Bool := RR gd md
theorem R_eq {a0} (h : gd a0) : R (MKeys.r a0) = some (md a0) := RR_eq (a := a0) h
def con : Con := CN pats res acc R
theorem okF (a0 : MKeys) (hg : gd a0) : F (MKeys.r a0) = ret ((md a0) : Bool) := by
 unfold gd at hg
 have H0 := hg
 unfold F md
 try simp only [S0, MKeys.rs]
 refine call_to (Z106.md (a0.fList.length : Int) 1 4) (Z106.R_eq (a0 := (a0.fList.length : Int)) (a1 := 1) (a2 := 4) trivial) ?_
 refine bif_out ret (fun c1 => ?_) (fun _ => rfl)
 have Dc1 := c1
 try simp [Z106.md] at Dc1
 refine call_to (Z109.md a0.fList) (Z109.R_eq (a0 := a0.fList) (H0.mono (by decide) (fun x hx => trivial))) ?_
 refine bif_out ret (fun c2 => ?_) (fun _ => rfl)
 refine yes_ret (by
   have := (H0).1
   refine decide_eq_true ?_
   try simp (disch := omega) only [LN, wi]
   first | omega | (simp; done) | (simp; omega)) ?_
 refine call_to (Z110.md (a0.fList.getD 0 0)) (Z110.R_eq (a0 := (a0.fList.getD 0 0)) trivial) ?_
 refine bif_out ret (fun c3 => ?_) (fun _ => rfl)
 refine yes_ret (by
   have := (H0).1
   refine decide_eq_true ?_
   try simp (disch := omega) only [LN, wi]
   first | omega | (simp; done) | (simp; omega)) ?_
 refine yes_ret (by
   have := (H0).1
   refine decide_eq_true ?_
   try simp (disch := omega) only [LN, wi]
   first | omega | (simp; done) | (simp; omega)) ?_
 refine call_to (Z110.md (a0.fList.getD (Int.toNat (IntKind.i64.wrap ((a0.fList.length : Int) - 1))) 0)) (Z110.R_eq (a0 := (a0.fList.getD (Int.toNat (IntKind.i64.wrap ((a0.fList.length : Int) - 1))) 0)) trivial) ?_
 refine bif_out ret (fun c4 => ?_) (fun _ => rfl)
 refine call_to (Z106.md a0.fNeed 1 (a0.fList.length : Int)) (Z106.R_eq (a0 := a0.fNeed) (a1 := 1) (a2 := (a0.fList.length : Int)) trivial) ?_
 all_goals first | rfl | (simp only [S0, MKeys.rs, MP]; first | done | rfl)
theorem valid_ : Valid Tryz.prog Ev 276 con := VV (live := fun _ => []) (nt := 38) (run := fun _ x => F x) mix tab_ok (.cons Z106.valid_ (.cons Z109.valid_ (.cons Z110.valid_ .nil))) Tryz.func276 (by kernel_rfl) (fun _ _ => by kernel_rfl) (fun _ a _ _ hg => ⟨0, okF a hg⟩)
-- uses Z40
theorem asc {l : List Int} (h : ∀ i : Nat, i < l.length → 0 < i → l.getD (i - 1) 0 < l.getD i 0) : ∀ (k i : Nat), i + k < l.length → l.getD i 0 ≤ l.getD (i + k) 0
 | 0, i, _ => Int.le_refl _
 | k + 1, i, hi => by
  have h1 := asc h k i (by omega)
  have h2 := h (i + (k + 1)) hi (by omega)
  rw [show i + (k + 1) - 1 = i + k by omega] at h2
  omega
theorem br (a0 : MKeys) : md a0 = Z40.md a0 := by
  unfold md Z40.md Z109.md
  simp only [Z106.br, Z110.md]
  by_cases hl : 1 ≤ a0.fList.length ∧ a0.fList.length ≤ 4
  · have e1 : Z39.md (a0.fList.length : Int) 1 4 = true := by simp [Z39.md]; omega
    rw [e1]
    have wp : ∀ i : Nat, 0 < i → i ≤ 4 → Int.toNat (IntKind.i64.wrap ((i : Int) - 1)) = i - 1 := fun i h1 h2 => by
      rw [Go.IntWalk.i64_in _ (by omega)]; omega
    rw [wp _ (by omega) (by omega)]
    generalize a0.fNeed = n
    generalize a0.fList = l at *
    have i1 : ∀ x a b : Int, Z39.md x a b = true ↔ a ≤ x ∧ x ≤ b := fun x a b => by simp [Z39.md]
    have i2 : ∀ x a b : Int, Z39.md x a b = false ↔ ¬ (a ≤ x ∧ x ≤ b) := fun x a b => by rw [← i1]; simp
    have w2 : ∀ i : Nat, i < l.length → 0 < i → Int.toNat (IntKind.i64.wrap ((i : Int) - 1)) = i - 1 := fun i h1 h2 => wp i h2 (by omega)
    rw [Bool.eq_iff_iff, ← loopM_eachI (z := 0), ← loopM_eachI (z := 0)]
    have e3 : ∀ a b c d : Bool, (bif true then (bif a then (bif b then (bif c then d else false) else false) else false) else false) = true ↔ a = true ∧ b = true ∧ c = true ∧ d = true := by
      intro a b c d; cases a <;> cases b <;> cases c <;> simp
    have pos : ∀ i : Nat, 0 < i → decide ((i : Int) > 0) = true := fun i h => by simpa using h
    have npos : ∀ i : Nat, ¬ 0 < i → decide ((i : Int) > 0) = false := fun i h => by simpa using h
    rw [e3]
    rw [loopM_true (fun i => 0 < i → l.getD (i - 1) 0 < l.getD i 0) (fun i hi h => ?_) (fun i hi h => ?_), loopM_true (fun i => (1 ≤ l.getD i 0 ∧ l.getD i 0 ≤ 99) ∧ (0 < i → l.getD (i - 1) 0 < l.getD i 0)) (fun i hi h => ?_) (fun i hi h => ?_)]
    · simp only [i1, and_true, cond_true]
      constructor
      · rintro ⟨h1, ⟨h2, h3⟩, ⟨h4, h5⟩, h6⟩
        refine ⟨fun i hi => ⟨⟨?_, ?_⟩, h1 i hi⟩, h6⟩
        · have := asc h1 i 0 (by omega)
          rw [Nat.zero_add] at this; omega
        · have := asc h1 (l.length - 1 - i) i (by omega)
          rw [show i + (l.length - 1 - i) = l.length - 1 by omega] at this; omega
      · rintro ⟨h1, h6⟩
        exact ⟨fun i hi => (h1 i hi).2, (h1 0 (by omega)).1, (h1 (l.length - 1) (by omega)).1, h6⟩
    · have e2 := (i1 (l.getD i 0) 1 99).2 h.1
      rw [e2]
      by_cases h0 : 0 < i
      · have := h.2 h0
        rw [pos i h0, w2 i hi h0, decide_eq_false (by omega)]; rfl
      · rw [npos i h0]; rfl
    · by_cases h1 : 1 ≤ l.getD i 0 ∧ l.getD i 0 ≤ 99
      · have e2 := (i1 (l.getD i 0) 1 99).2 h1
        have h0 : 0 < i := Classical.byContradiction fun hc => h ⟨h1, fun h => (hc h).elim⟩
        have h2 : ¬ l.getD (i - 1) 0 < l.getD i 0 := fun hc => h ⟨h1, fun _ => hc⟩
        rw [e2, pos i h0, w2 i hi h0, decide_eq_true (by omega)]; rfl
      · rw [(i2 _ _ _).2 h1]; rfl
    · by_cases h0 : 0 < i
      · have := h h0
        rw [pos i h0, w2 i hi h0, decide_eq_false (by omega)]; rfl
      · rw [npos i h0]; rfl
    · have h0 : 0 < i := Classical.byContradiction fun hc => h fun h => (hc h).elim
      have h2 : ¬ l.getD (i - 1) 0 < l.getD i 0 := fun hc => h fun _ => hc
      rw [pos i h0, w2 i hi h0, decide_eq_true (by omega)]; rfl
  · have e1 : Z39.md (a0.fList.length : Int) 1 4 = false := by simp [Z39.md]; omega
    rw [e1]
    simp only [cond_false]
    symm
    exact eachI_const (by
      intro i x s b h
      revert h
      simp only [Bool.cond_eq_ite]
      repeat' split
      all_goals (intro h; first | (cases h; rfl) | cases h)) _ _ _
end Z111
namespace Z112
def F (x0 : RKeys) : Ans := (bif (x0.fNeed == 0) then ret (((x0.fList.length : Int) == 0) : Bool) else ret (false : Bool))
def pats : List Pat := [.agg [.sl 3, .int .i64]]
def res : RP := .one (.rd (.bool))
def md (a0 : MKeys) : Bool := (bif (a0.fNeed == 0) then (((a0.fList.length : Int) == 0) : Bool) else (false : Bool))
def gd (a0 : MKeys) : Prop := True
def acc (ls : List L) : RKeys := (RKeys.dec ls)
def R : RKeys → Option Bool := RR gd md
theorem R_eq {a0} (h : gd a0) : R (MKeys.r a0) = some (md a0) := RR_eq (a := a0) h
def con : Con := CN pats res acc R
theorem okF (a0 : MKeys) (hg : gd a0) : F (MKeys.r a0) = ret ((md a0) : Bool) := by
 unfold F md
 try simp only [S0, MKeys.rs]
 refine bif_out ret (fun c1 => ?_) (fun _ => rfl)
 all_goals first | rfl | (simp only [S0, MKeys.rs, MP]; first | done | rfl)
theorem valid_ : Valid Tryz.prog Ev 279 con := VV (live := fun _ => []) (nt := 12) (run := fun _ x => F x) mix tab_ok .nil Tryz.func279 (by kernel_rfl) (fun _ _ => by kernel_rfl) (fun _ a _ _ hg => ⟨0, okF a hg⟩)
theorem br (a0 : MKeys) : md a0 = Z41.md a0 := by
 unfold md Z41.md
 first
 | (simp only [id]; done)
 | (simp only [id]; rfl)
 | rfl
end Z112
namespace Z113
def F (x0 : RKeys) : Ans := (call (Z112.R x0) fun v1 => (bif v1 then ret (true : Bool) else (call (Z111.R x0) fun v2 => ret (v2 : Bool))))
def pats : List Pat := [.agg [.sl 3, .int .i64]]
def res : RP := .one (.rd (.bool))
def md (a0 : MKeys) : Bool := (bif (Z112.md a0) then (true : Bool) else ((Z111.md a0) : Bool))
def gd (a0 : MKeys) : Prop := (MKeys.Sm (2 ^ 21) a0)
def acc (ls : List L) : RKeys := (RKeys.dec ls)
def R : RKeys → Option Bool := RR gd md
theorem R_eq {a0} (h : gd a0) : R (MKeys.r a0) = some (md a0) := RR_eq (a := a0) h
def con : Con := CN pats res acc R
theorem okF (a0 : MKeys) (hg : gd a0) : F (MKeys.r a0) = ret ((md a0) : Bool) := by
 unfold gd at hg
 have H0 := hg
 unfold F md
 try simp only [S0]
 refine call_to (Z112.md a0) (Z112.R_eq (a0 := a0) trivial) ?_
 refine bif_out ret (fun _ => rfl) (fun c1 => ?_)
 refine call_to (Z111.md a0) (Z111.R_eq (a0 := a0) H0) ?_
 all_goals first | rfl | (simp only [S0, MP]; first | done | rfl)
theorem valid_ : Valid Tryz.prog Ev 277 con := VV (live := fun _ => []) (nt := 9) (run := fun _ x => F x) mix tab_ok (.cons Z112.valid_ (.cons Z111.valid_ .nil)) Tryz.func277 (by kernel_rfl) (fun _ _ => by kernel_rfl) (fun _ a _ _ hg => ⟨0, okF a hg⟩)
end Z113
namespace Z114
def F (x0 : Int) (x1 : RKeys) : Ans := (call (Z112.R x1) fun v1 => (bif v1 then ret ((x0 == 0) : Bool) else (call (Z106.R (x0, 1, 500)) fun v2 => ret (v2 : Bool))))
def pats : List Pat := [.rd (.int .i64), .agg [.sl 3, .int .i64]]
def res : RP := .one (.rd (.bool))
def md (a0 : Int) (a1 : MKeys) : Bool := (bif (Z112.md a1) then ((a0 == 0) : Bool) else ((Z106.md a0 1 500) : Bool))
def gd (a0 : Int) (a1 : MKeys) : Prop := True
def acc (ls : List L) : Int × RKeys := ((ls.headD .hole).toInt, (RKeys.dec (dropT 1 ls)))
def R : (Int × RKeys) → Option Bool := RR (p2 gd) (u2 md)
theorem R_eq {a0} {a1} (h : gd a0 a1) : R (a0, (MKeys.r a1)) = some (md a0 a1) := RR_eq (a := (a0, a1)) h
def con : Con := CN pats res acc R
theorem okF (a0 : Int) (a1 : MKeys) (hg : gd a0 a1) : F a0 (MKeys.r a1) = ret ((md a0 a1) : Bool) := by
  unfold F md
  try simp only [S0]
  refine call_to (Z112.md a1) (Z112.R_eq (a0 := a1) trivial) ?_
  refine bif_out ret (fun c1 => ?_) (fun c1 => ?_)
  · all_goals first | rfl | (simp only [S0, MP]; first | done | rfl)
  · refine call_to (Z106.md a0 1 500) (Z106.R_eq (a0 := a0) (a1 := 1) (a2 := 500) trivial) ?_
    all_goals first | rfl | (simp only [S0, MP]; first | done | rfl)
theorem valid_ : Valid Tryz.prog Ev 278 con := VV (live := fun _ => []) (nt := 11) (run := fun _ x => F x.1 x.2) mix tab_ok (.cons Z112.valid_ (.cons Z106.valid_ .nil)) Tryz.func278 (by kernel_rfl) (fun _ _ => by kernel_rfl) (fun _ a _ _ hg => ⟨0, okF a.1 a.2 hg⟩)
end Z114
namespace Z115
def F (x0 : RHead) : Ans := (call (Z107.R x0.fZone) fun v1 => (bif v1 then (call (Z107.R x0.fRoot) fun v2 => (bif v2 then (call (Z107.R x0.fPrev) fun v3 => (bif v3 then (call (Z106.R (x0.fEpoch, 0, 200)) fun v4 => (bif v4 then (call (Z106.R (x0.fKind, 1, 3)) fun v5 => (bif v5 then (call (Z108.R x0) fun v6 => (bif v6 then (call (Z106.R (x0.fCount, 0, 12)) fun v7 => (bif v7 then (call (Z111.R x0.fKeys) fun v8 => (bif v8 then (call (Z113.R x0.fHeirs) fun v9 => (bif v9 then (call (Z113.R x0.fJudge) fun v10 => (bif v10 then (call (Z114.R (x0.fWait, x0.fHeirs)) fun v11 => (bif v11 then (bif x0.fFrozen then (call (Z112.R x0.fJudge) fun v12 => ret ((!v12) : Bool)) else ret (true : Bool)) else ret (false : Bool))) else ret (false : Bool))) else ret (false : Bool))) else ret (false : Bool))) else ret (false : Bool))) else ret (false : Bool))) else ret (false : Bool))) else ret (false : Bool))) else ret (false : Bool))) else ret (false : Bool))) else ret (false : Bool)))
def pats : List Pat := [.agg [.int .i64, .int .i64, .int .i64, .int .i64, .int .i64, .int .i64, .int .i64, .int .i64, .sl 3, .int .i64, .sl 3, .int .i64, .int .i64, .sl 3, .int .i64, .bool]]
def res : RP := .one (.rd (.bool))
def md (a0 : MHead) : Bool := (bif (Z107.md a0.fZone) then (bif (Z107.md a0.fRoot) then (bif (Z107.md a0.fPrev) then (bif (Z106.md a0.fEpoch 0 200) then (bif (Z106.md a0.fKind 1 3) then (bif (Z108.md a0) then (bif (Z106.md a0.fCount 0 12) then (bif (Z111.md a0.fKeys) then (bif (Z113.md a0.fHeirs) then (bif (Z113.md a0.fJudge) then (bif (Z114.md a0.fWait a0.fHeirs) then (bif a0.fFrozen then ((!(Z112.md a0.fJudge)) : Bool) else (true : Bool)) else (false : Bool)) else (false : Bool)) else (false : Bool)) else (false : Bool)) else (false : Bool)) else (false : Bool)) else (false : Bool)) else (false : Bool)) else (false : Bool)) else (false : Bool)) else (false : Bool))
def gd (a0 : MHead) : Prop := (MHead.Sm (2 ^ 21) a0)
def acc (ls : List L) : RHead := (RHead.dec ls)
def R : RHead → Option Bool := RR gd md
theorem R_eq {a0} (h : gd a0) : R (MHead.r a0) = some (md a0) := RR_eq (a := a0) h
def con : Con := CN pats res acc R
theorem okF (a0 : MHead) (hg : gd a0) : F (MHead.r a0) = ret ((md a0) : Bool) := by
 unfold gd at hg
 have H0 := hg
 unfold F md
 try simp only [S0, MHead.rs]
 refine call_to (Z107.md a0.fZone) (Z107.R_eq (a0 := a0.fZone) trivial) ?_
 refine bif_out ret (fun c1 => ?_) (fun _ => rfl)
 refine call_to (Z107.md a0.fRoot) (Z107.R_eq (a0 := a0.fRoot) trivial) ?_
 refine bif_out ret (fun c2 => ?_) (fun _ => rfl)
 refine call_to (Z107.md a0.fPrev) (Z107.R_eq (a0 := a0.fPrev) trivial) ?_
 refine bif_out ret (fun c3 => ?_) (fun _ => rfl)
 refine call_to (Z106.md a0.fEpoch 0 200) (Z106.R_eq (a0 := a0.fEpoch) (a1 := 0) (a2 := 200) trivial) ?_
 refine bif_out ret (fun c4 => ?_) (fun _ => rfl)
 refine call_to (Z106.md a0.fKind 1 3) (Z106.R_eq (a0 := a0.fKind) (a1 := 1) (a2 := 3) trivial) ?_
 refine bif_out ret (fun c5 => ?_) (fun _ => rfl)
 refine call_to (Z108.md a0) (Z108.R_eq (a0 := a0) trivial) ?_
 refine bif_out ret (fun c6 => ?_) (fun _ => rfl)
 refine call_to (Z106.md a0.fCount 0 12) (Z106.R_eq (a0 := a0.fCount) (a1 := 0) (a2 := 12) trivial) ?_
 refine bif_out ret (fun c7 => ?_) (fun _ => rfl)
 refine call_to (Z111.md a0.fKeys) (Z111.R_eq (a0 := a0.fKeys) H0.1) ?_
 refine bif_out ret (fun c8 => ?_) (fun _ => rfl)
 refine call_to (Z113.md a0.fHeirs) (Z113.R_eq (a0 := a0.fHeirs) H0.2.1) ?_
 refine bif_out ret (fun c9 => ?_) (fun _ => rfl)
 refine call_to (Z113.md a0.fJudge) (Z113.R_eq (a0 := a0.fJudge) H0.2.2) ?_
 refine bif_out ret (fun c10 => ?_) (fun _ => rfl)
 refine call_to (Z114.md a0.fWait a0.fHeirs) (Z114.R_eq (a0 := a0.fWait) (a1 := a0.fHeirs) trivial) ?_
 refine bif_out ret (fun c11 => ?_) (fun _ => rfl)
 refine bif_out ret (fun c12 => ?_) (fun _ => rfl)
 refine call_to (Z112.md a0.fJudge) (Z112.R_eq (a0 := a0.fJudge) trivial) ?_
 all_goals first | rfl | (simp only [S0, MHead.rs, MP]; first | done | rfl)
theorem valid_ : Valid Tryz.prog Ev 242 con := VV (live := fun _ => []) (nt := 67) (run := fun _ x => F x) mix tab_ok (.cons Z107.valid_ (.cons Z106.valid_ (.cons Z108.valid_ (.cons Z111.valid_ (.cons Z113.valid_ (.cons Z114.valid_ (.cons Z112.valid_ .nil))))))) Tryz.func242 (by kernel_rfl) (fun _ _ => by kernel_rfl) (fun _ a _ _ hg => ⟨0, okF a hg⟩)
theorem br (a0 : MHead) : md a0 = Z42.md a0 := by
 unfold md Z42.md
 simp only [Z111.br, Z106.br, Z107.md, Z113.md, Z114.md, Z112.br]
 have hs : Z108.md a0 = (Z39.md a0.fTime 0 100000 && (Z39.md a0.fUntil a0.fTime 100000 && !decide ((IntKind.i64.wrap (a0.fUntil - a0.fTime)) > 200))) := by
  rw [Bool.eq_iff_iff]
  simp [Z108.md, Z39.md]
  omega
 have hk : Z40.md a0.fJudge = true → Z41.md a0.fJudge = false := fun h => by
  have := Z40.tr h
  have e : ((a0.fJudge.fList.length : Int) == 0) = false := beq_eq_false_iff_ne.2 (by omega)
  unfold Z41.md
  rw [e]
  cases a0.fJudge.fNeed == 0 <;> rfl
 rw [hs]
 revert hk
 simp only [and_n, and_p, Bool.and_assoc]
 generalize Z39.md a0.fZone 0 2147483646 = b1
 generalize Z39.md a0.fRoot 0 2147483646 = b2
 generalize Z39.md a0.fPrev 0 2147483646 = b3
 generalize Z39.md a0.fEpoch 0 200 = b4
 generalize Z39.md a0.fKind 1 3 = b5
 generalize Z39.md a0.fTime 0 100000 = b6
 generalize Z39.md a0.fUntil a0.fTime 100000 = b7
 generalize decide ((IntKind.i64.wrap (a0.fUntil - a0.fTime)) > 200) = b8
 generalize Z39.md a0.fCount 0 12 = b9
 generalize Z40.md a0.fKeys = b10
 generalize Z40.md a0.fHeirs = kh
 generalize Z41.md a0.fHeirs = nh
 generalize Z40.md a0.fJudge = kj
 generalize Z41.md a0.fJudge = nj
 generalize Z39.md a0.fWait 1 500 = lw
 have hw : (a0.fWait != 0) = !(a0.fWait == 0) := rfl
 rw [hw]
 generalize (a0.fWait == 0) = w0
 generalize a0.fFrozen = fz
 intro hk
 cases b1; · rfl
 cases b2; · rfl
 cases b3; · rfl
 cases b4; · rfl
 cases b5; · rfl
 cases b6; · rfl
 cases b7; · rfl
 cases b8; rotate_left; · rfl
 cases b9; · rfl
 cases b10; · rfl
 revert hk
 revert kh nh kj nj lw w0 fz
 decide
end Z115
namespace Z116
def F (x0 : RKeys) : Ans := (bif (lim (((2 : Int) + (x0.fList.length : Int)) * 8)) then ret (([[L.int x0.fNeed], [L.int (x0.fList.length : Int)]] ++ x0.fList) : List (List L)) else none)
def pats : List Pat := [.agg [.sl 3, .int .i64]]
def res : RP := .one (.fr 3)
def md (a0 : MKeys) : List Int := ([a0.fNeed, (a0.fList.length : Int)] ++ a0.fList)
def gd (a0 : MKeys) : Prop := (MKeys.Sm (2 ^ 21) a0)
def acc (ls : List L) : RKeys := (RKeys.dec ls)
def R : RKeys → Option (List (List L)) := RR gd md
theorem R_eq {a0} (h : gd a0) : R (MKeys.r a0) = some ((md a0).map iRow) := RR_eq (a := a0) h
def con : Con := CN pats res acc R
theorem okF (a0 : MKeys) (hg : gd a0) : F (MKeys.r a0) = ret (((md a0).map iRow) : List (List L)) := by
 unfold gd at hg
 have H0 := hg
 unfold F md
 try simp only [S0, MKeys.rs]
 refine yes_ret (by
   have := (H0).1
   refine lim_t ?_
   try simp (disch := omega) only [LN, wi]
   first | omega | (simp; done) | (simp; omega)) ?_
 all_goals first | rfl | (simp only [S0, MKeys.rs]; done) | (simp only [MP]; rfl) | (simp only [S0, MKeys.rs, MP]; first | done | rfl)
theorem valid_ : Valid Tryz.prog Ev 218 con := VV (live := fun _ => []) (nt := 12) (run := fun _ x => F x) mix tab_ok .nil Tryz.func218 (by kernel_rfl) (fun _ _ => by kernel_rfl) (fun _ a _ _ hg => ⟨0, okF a hg⟩)
theorem len (a0 : MKeys) : (md a0).length = 2 + a0.fList.length := by simp [md]; omega
theorem br (a0 : MKeys) : md a0 = Z43.md a0 := by
 unfold md Z43.md
 first
 | (simp only [id]; done)
 | (simp only [id]; rfl)
 | rfl
end Z116
namespace Z117
def F (x0 : Int) (x1 : Int) : Ans := (call (Z106.R (x1, 1, 1000000000000)) fun v1 => (bif (!v1) then ret (0 : Int) else (bif (decide (x1 = 0)) then none else (bif (decide (x1 = 0)) then none else ret ((Int.tmod (IntKind.i64.wrap ((Int.tmod x0 x1) + x1)) x1) : Int)))))
def pats : List Pat := [.rd (.int .i64), .rd (.int .i64)]
def res : RP := .one (.rd (.int .i64))
def md (a0 : Int) (a1 : Int) : Int := (bif (!(Z106.md a1 1 1000000000000)) then (0 : Int) else ((Int.tmod (IntKind.i64.wrap ((Int.tmod a0 a1) + a1)) a1) : Int))
def gd (a0 : Int) (a1 : Int) : Prop := True
def acc (ls : List L) : Int × Int := ((ls.headD .hole).toInt, ((dropT 1 ls).headD .hole).toInt)
def R : (Int × Int) → Option Int := RR (p2 gd) (u2 md)
theorem R_eq {a0} {a1} (h : gd a0 a1) : R (a0, a1) = some (md a0 a1) := RR_eq (a := (a0, a1)) h
def con : Con := CN pats res acc R
theorem okF (a0 : Int) (a1 : Int) (hg : gd a0 a1) : F a0 a1 = ret ((md a0 a1) : Int) := by
 unfold F md
 try simp only [S0]
 refine call_to (Z106.md a1 1 1000000000000) (Z106.R_eq (a0 := a1) (a1 := 1) (a2 := 1000000000000) trivial) ?_
 refine bif_out ret (fun _ => rfl) (fun c1 => ?_)
 have dc1 := c1
 try simp only [DC] at dc1
 have Dc1 := c1
 try simp [Z106.md] at Dc1
 refine no_ret (by
   refine decide_eq_false ?_
   try simp (disch := omega) only [LN, wi]
   first | omega | (simp; done) | (simp; omega)) ?_
 refine no_ret (by
   refine decide_eq_false ?_
   try simp (disch := omega) only [LN, wi]
   first | omega | (simp; done) | (simp; omega)) ?_
 all_goals first | rfl | (simp only [S0, MP]; first | done | rfl)
theorem valid_ : Valid Tryz.prog Ev 288 con := VV (live := fun _ => []) (nt := 15) (run := fun _ x => F x.1 x.2) mix tab_ok (.cons Z106.valid_ .nil) Tryz.func288 (by kernel_rfl) (fun _ _ => by kernel_rfl) (fun _ a _ _ hg => ⟨0, okF a.1 a.2 hg⟩)
theorem br (a0 : Int) (a1 : Int) : md a0 a1 = Z44.md a0 a1 := by
 unfold md Z44.md
 first
 | (simp only [Z106.br]; done)
 | (simp only [Z106.br]; rfl)
 | rfl
end Z117
namespace Z118
inductive Pt where
 | p0 (a : Int) (b : List (List L)) (c : Int) (d : Int)
def pid : Pt → Nat
 | .p0 .. => 3
def pvs : Pt → List V
 | .p0 a b c d => [.int .i64 a, .sl none 3 b, .int .i64 c, .int .i64 d]
def phs : Pt → List Root
 | .p0 a b c d => []
def step (J : Pt → Ans) : Pt → Ans
 | .p0 a b c d => (bif (decide (d < c)) then (bif (decide ((0 : Int) ≤ d)) then (bif (decide (d < (b.length : Int))) then (call (Z117.R ((iAt b (Int.toNat d)), 2147483647)) fun v1 => J (.p0 (Int.tmod (IntKind.i64.wrap ((IntKind.i64.wrap ((IntKind.i64.wrap (a * 1000003)) + v1)) + 13)) 2147483647) b c (IntKind.i64.wrap (d + 1)))) else none) else none) else ret (a : Int))
def start (J : Pt → Ans) (x0 : List (List L)) : Ans := J (.p0 11 x0 (x0.length : Int) 0)
def live : Nat → Live := fun i => match i with | 3 => [(3, none), (6, none), (7, none), (8, none)] | _ => []
def pats : List Pat := [.rd (.sl 3)]
def res : RP := .one (.rd (.int .i64))
abbrev E : Env := { T := assoc Tab, G := conG [(288, Z117.con)], nt := 21 }
theorem step_eq (I : Heads) (p : Pt) : enterC E live I (pid p) (bodyOf Tryz.f255) (stOf (live (pid p)) (pvs p) (phs p)) (doneK E Tryz.f255 res) = step (fun q => I (pid q) (pvs q) (phs q)) p := by
 cases p <;> kernel_rfl
theorem start_eq (I : Heads) (ls : List L) : runC E live I (bodyOf Tryz.f255) (initS pats ls) (doneK E Tryz.f255 res) = start (fun q => I (pid q) (pvs q) (phs q)) (ls.headD .hole).toSl := by kernel_rfl
theorem run_eq (n : Nat) (ls : List L) : runF E live Tryz.f255 res n (initS pats ls) = start (iter step n) (ls.headD .hole).toSl := runF_iter (id := pid) (vs := pvs) (hs := phs) (step := step) (start := fun J => start J (ls.headD .hole).toSl) step_eq (fun I => start_eq I ls) n
def md (a0 : List Int) : Int := (eachM (S := Int) (β := Int) (fun (y1 : Int) (s3 : Int) => (.inl (Int.tmod (IntKind.i64.wrap ((IntKind.i64.wrap ((IntKind.i64.wrap (s3 * 1000003)) + (Z117.md y1 2147483647))) + 13)) 2147483647))) (fun (s3 : Int) => (s3 : Int)) a0 11)
def gd (a0 : List Int) : Prop := (SmL (2 ^ 43) (fun y : Int => True) a0)
def acc (ls : List L) : List (List L) := (ls.headD .hole).toSl
def R : (List (List L)) → Option Int := RR gd md
theorem R_eq {a0} (h : gd a0) : R (a0.map iRow) = some (md a0) := RR_eq (a := a0) h
def con : Con := CN pats res acc R
theorem okF (a0 : List Int) (hg : gd a0) : ∃ n, start (iter step n) (a0.map iRow) = ret ((md a0) : Int) := by
  unfold gd at hg
  have H0 := hg
  unfold start md
  try simp only [S0]
  have Bh2 : a0.length ≤ maxLen := (by
      have := (H0).1
      try simp only [maxLen] at *
      omega)
  refine ex_eq (out := ret) (loopM_eachM (z := 0)) ?_
  refine ex_pt (p := Pt.p0 11 (a0.map iRow) (a0.length : Int) 0) (by first | rfl | (simp only [S0, MP]; done) | (simp only [MP]; rfl)) ?_
  refine loopM_ok (pt := fun (i1 : Nat) (s3 : Int) => Pt.p0 s3 (a0.map iRow) (a0.length : Int) (i1 : Int)) (s := (11 : Int)) (out := ret) (fun _ _ => True) (fun J i1 s3 h2 hih2 => ?_) (fun s3 hih2 => ?_) trivial
  · simp only [step, S0]
    have bb_ := Bh2
    simp only [maxLen] at bb_
    have := (H0).1
    refine Rnd.yes (by apply decide_eq_true; omega) ?_
    refine Rnd.yes zle_dec ?_
    refine Rnd.yes (lt_dec h2) ?_
    refine Rnd.call_to (Z117.md (a0.getD i1 0) 2147483647) (Z117.R_eq (a0 := (a0.getD i1 0)) (a1 := 2147483647) trivial) ?_
    refine Rnd.inl trivial ?_
    rw [wrap_succ h2 Bh2]
    all_goals first | rfl | (simp only [S0, MP]; first | done | rfl)
  · simp only [step, S0]
    have := (H0).1
    refine ex_no (by apply decide_eq_false; omega) ?_
    refine ⟨0, ?_⟩
    all_goals first | rfl | (simp only [S0, MP]; first | done | rfl)
theorem valid_ : Valid Tryz.prog Ev 255 con := VV (run := fun n x => start (iter step n) x) mix tab_ok (.cons Z117.valid_ .nil) Tryz.func255 (by kernel_rfl) run_eq (fun _ a _ _ hg => okF a hg)
theorem br (a0 : List Int) : md a0 = Z45.md a0 := by
 unfold md Z45.md
 first
 | (simp only [Z117.br]; done)
 | (simp only [Z117.br]; rfl)
 | rfl
end Z118
namespace Z119
def F (x0 : RKeys) (x1 : Int) : Ans := (call (Z116.R x0) fun v1 => (bif (lim (((2 : Int) + (v1.length : Int)) * 8)) then (call (Z118.R ([[L.int 239], [L.int x1]] ++ v1)) fun v2 => ret (v2 : Int)) else none))
def pats : List Pat := [.agg [.sl 3, .int .i64], .rd (.int .i64)]
def res : RP := .one (.rd (.int .i64))
def md (a0 : MKeys) (a1 : Int) : Int := ((Z118.md ([239, a1] ++ (Z116.md a0))) : Int)
def gd (a0 : MKeys) (a1 : Int) : Prop := (MKeys.Sm (2 ^ 21) a0)
def acc (ls : List L) : RKeys × Int := ((RKeys.dec ls), ((dropT 2 ls).headD .hole).toInt)
def R : (RKeys × Int) → Option Int := RR (p2 gd) (u2 md)
theorem R_eq {a0} {a1} (h : gd a0 a1) : R ((MKeys.r a0), a1) = some (md a0 a1) := RR_eq (a := (a0, a1)) h
def con : Con := CN pats res acc R
theorem okF (a0 : MKeys) (a1 : Int) (hg : gd a0 a1) : F (MKeys.r a0) a1 = ret ((md a0 a1) : Int) := by
  unfold gd at hg
  have H0 := hg
  unfold F md
  try simp only [S0]
  refine call_to ((Z116.md a0).map iRow) (Z116.R_eq (a0 := a0) H0) ?_
  try simp only [S0]
  refine yes_ret (by
      have := Z116.len a0
      have := (H0).1
      refine lim_t ?_
      try simp (disch := omega) only [LN, wi]
      first | omega | (simp; done) | (simp; omega)) ?_
  refine call_to (Z118.md ([239, a1] ++ (Z116.md a0))) ?_ ?_
  · have R_ := Z118.R_eq (a0 := ([239, a1] ++ (Z116.md a0))) ⟨(by
        have := Z116.len a0
        have := (H0).1
        try simp (disch := omega) only [LN, wi]
        first | omega | (simp; done) | (simp; omega)), fun _ _ => trivial⟩
    first | exact R_ | (simp only [MP, S0] at R_ ⊢; first | exact R_ | (rw [← R_]; rfl))
  all_goals first | rfl | (simp only [S0, MP]; first | done | rfl)
theorem valid_ : Valid Tryz.prog Ev 243 con := VV (live := fun _ => []) (nt := 11) (run := fun _ x => F x.1 x.2) mix tab_ok (.cons Z116.valid_ (.cons Z118.valid_ .nil)) Tryz.func243 (by kernel_rfl) (fun _ _ => by kernel_rfl) (fun _ a _ _ hg => ⟨0, okF a.1 a.2 hg⟩)
theorem br (a0 : MKeys) (a1 : Int) : md a0 a1 = Z46.md a0 a1 := by
 unfold md Z46.md
 first
 | (simp only [Z116.br, Z118.br]; done)
 | (simp only [Z116.br, Z118.br]; rfl)
 | rfl
end Z119
namespace Z120
def F (x0 : Bool) : Ans := (bif x0 then ret (1 : Int) else ret (0 : Int))
def pats : List Pat := [.rd (.bool)]
def res : RP := .one (.rd (.int .i64))
def md (a0 : Bool) : Int := (bif a0 then (1 : Int) else (0 : Int))
def gd (a0 : Bool) : Prop := True
def acc (ls : List L) : Bool := (ls.headD .hole).toBool
def R : Bool → Option Int := RR gd md
theorem R_eq {a0} (h : gd a0) : R a0 = some (md a0) := RR_eq (a := a0) h
def con : Con := CN pats res acc R
theorem okF (a0 : Bool) (hg : gd a0) : F a0 = ret ((md a0) : Int) := by
 unfold F md
 try simp only [S0]
 refine bif_out ret (fun _ => rfl) (fun _ => rfl)
theorem valid_ : Valid Tryz.prog Ev 219 con := VV (live := fun _ => []) (nt := 4) (run := fun _ x => F x) mix tab_ok .nil Tryz.func219 (by kernel_rfl) (fun _ _ => by kernel_rfl) (fun _ a _ _ hg => ⟨0, okF a hg⟩)
end Z120
namespace Z121
set_option maxHeartbeats 1000000 in
set_option maxRecDepth 100000 in
open Go.RowKit in
theorem calls0 (b : Option Addr) (w : World) : Calls Tryz.prog 246 #[.slice b 0 0, .int .i64 0] w fun e w' => e = .returned (.slice b 0 0) ∧ w' = w := by
 go_enter Tryz.func246, Tryz.ntmps246
 go_wp2
 go_ret
 exact ⟨rfl, rfl⟩
theorem size3 : Tryz.t3.size = 1 := by kernel_rfl
theorem bytes3 : Tryz.t3.bytes = 8 := by kernel_rfl
set_option maxHeartbeats 1000000 in
set_option maxRecDepth 100000 in
open Go.RowKit in
theorem calls1 (b : Option Addr) (n : Nat) (w : World) (h0 : 0 < n) (h1 : n * 8 ≤ 140737488355328) : Calls Tryz.prog 246 #[.slice b 0 0, .int .i64 n] w fun e w' => e = .returned (.slice (some ⟨w.heap.size, 0, none⟩) 0 (grownCap w n 0 3)) ∧ w' = (w.drew.alloc (.cells (Builtin.zeroCells #[.int .i64 0] n ++ Builtin.zeroCells #[.int .i64 0] (grownCap w n 0 3 - n)) 3)) := by
 have hp : (0 : Int) < n := by omega
 have hnn : ¬ ((n : Int) < 0) := by omega
 have hold : (Builtin.firstCells Tryz.t3.size 0 (.slice b 0 0)).run Tryz.prog w.drew = .ok ([] : List Value).toArray w.drew := by
  cases b with
  | none => exact run_firstCells_none _ _ _ _ _
  | some b => exact run_firstCells_some _ _ _ _ _ _ [] (by simp) (fun j v hj => by simp at hj)
 have H := fun ty => Lib.run_append_grow_zeros (P := Tryz.prog) w 33 3 ty 3 Tryz.t3 (.int .i64 0) .i64 .i64 (by kernel_rfl) (by kernel_rfl) (by kernel_rfl) (by kernel_rfl) b 0 0 [] hold n h0 (by rw [size3]; omega) (by omega) (by omega) (by rw [bytes3]; omega) (by
  rw [Nat.zero_add, nextslicecap_zero h0, bytes3]; omega)
 simp only [Nat.zero_add, Array.empty_append] at H
 have H2 := Lib.hid H
 clear H hold
 go_enter Tryz.func246, Tryz.ntmps246
 go_wp2_with (at_builtin; refine Lib.wpList_append_run _ rfl _ _ _ _ rfl _ _ rfl rfl _ _ (H2.out _) ?_)
 go_ret
 exact ⟨rfl, rfl⟩
def R (x0 : Int) : Option (List (List L)) := bif decide (0 ≤ x0) && decide (x0 * 8 ≤ 140737488355328) then some [] else none
theorem R_eq {a0 : Int} (h : 0 ≤ a0 ∧ a0 * 8 ≤ 140737488355328) : R a0 = some [] := by simp [R, h.1, h.2]
def sem : List L → Option (List L)
 | [y0] => (R y0.toInt).map RT.enc
 | _ => none
def con : Con := ⟨[.nil, .rd (.int .i64)], .one (.fr 3), sem⟩
theorem cells3 : Ev.cells 3 = [.int .i64] := by kernel_rfl
theorem valid_ : Valid Tryz.prog Ev 246 con := by
  refine valid_row ⟨Tryz.f246, Tryz.func246, by kernel_rfl, by kernel_rfl⟩ rfl fun ls r w vs Z hs hf => ?_
  simp only [con] at hs
  unfold sem at hs
  split at hs
  · rename_i y
    obtain ⟨v, hv, hq⟩ := map_some hs
    unfold R at hv
    cases hc : (decide (0 ≤ y.toInt) && decide (y.toInt * 8 ≤ 140737488355328)) <;> simp only [hc, cond_true, cond_false] at hv
    · cases hv
    injection hv with hv
    subst hv
    subst hq
    simp only [Bool.and_eq_true, decide_eq_true_eq] at hc
    cases hf with
    | cons h1 ht =>
      cases ht with
      | cons h2 ht =>
        cases ht
        obtain ⟨b, rfl⟩ := (show V0 Ev.cells w (A0 Z w) .nil _ from h1)
        have e2 : _ = Value.int .i64 y.toInt := h2
        subst e2
        obtain ⟨n, hn⟩ : ∃ n : Nat, y.toInt = n := ⟨y.toInt.toNat, by omega⟩
        rw [hn] at hc ⊢
        rcases Nat.eq_zero_or_pos n with h0 | h0
        · subst h0
          exact (calls0 b w).mono fun e w' ⟨h3, h4⟩ => ⟨_, fun _ => False, h3, by rw [h4]; exact Fr.refl _ _, fun b hb => hb.elim, .nil _ _ _ _ rfl⟩
        · refine (calls1 b n w h0 (by omega)).mono fun e w' ⟨h3, h4⟩ => ⟨_, fun b => b = w.heap.size, h3, ?_, fun b hb => ?_, ?_⟩
          · rw [h4]; exact ((Fr.refl w _).drew).alloc _
          · subst hb; rw [h4]; simp
          · have hge := grownCap_ge w n 0 3
            have hle : grownCap w n 0 3 ≤ maxLen := grownCap_le_maxLen w n 0 3 (by simp only [maxLen]; omega)
            rw [h4]
            refine .sl _ 3 0 _ w.heap.size 3 _ _ (fun _ _ => Go.undef) (fun _ _ _ => False) rfl (Nat.zero_le _) hle (heap_alloc_new w.drew _) ?_ rfl (fun _ _ _ h => h.elim) (fun _ _ _ _ _ h => h.elim) (fun i j k hi => by omega) (fun i j k hi => by omega)
            rw [cells3]
            simp only [Array.size_append, size_zeroCells, List.length_singleton]
            simp
            omega
  · cases hs
end Z121
namespace Z122
inductive Pt where
 | p0 (a : List (List L)) (b : Int) (c : List (List L)) (d : Int) (e : Int)
 | p1 (a : List (List L)) (b : Int) (c : Int) (d : List (List L))
def pid : Pt → Nat
 | .p0 .. => 3
 | .p1 .. => 11
def pvs : Pt → List V
 | .p0 a b c d e => [.sl none 33 a, .int .i64 b, .sl none 33 c, .int .i64 d, .int .i64 e]
 | .p1 a b c d => [.own 0, .sl none 33 a, .int .i64 b, .int .i64 c]
def phs : Pt → List Root
 | .p0 a b c d e => []
 | .p1 a b c d => [.row 3 d]
def step (J : Pt → Ans) : Pt → Ans
 | .p0 a b c d e => (bif (decide (e < d)) then (bif (decide ((0 : Int) ≤ e)) then (bif (decide (e < (c.length : Int))) then (bif (decide ((IntKind.i64.wrap (b + ((lAt c (Int.toNat e)).length : Int))) < 0)) then none else J (.p0 a (IntKind.i64.wrap (b + ((lAt c (Int.toNat e)).length : Int))) c d (IntKind.i64.wrap (e + 1)))) else none) else none) else (call (Z121.R b) fun v1 => J (.p1 a (a.length : Int) 0 v1)))
 | .p1 a b c d => (bif (decide (c < b)) then (bif (decide ((0 : Int) ≤ c)) then (bif (decide (c < (a.length : Int))) then (bif (lim (((d.length : Int) + ((lAt a (Int.toNat c)).length : Int)) * 8)) then J (.p1 a b (IntKind.i64.wrap (c + 1)) (d ++ (lAt a (Int.toNat c)))) else none) else none) else none) else ret (d : List (List L)))
def start (J : Pt → Ans) (x0 : List (List L)) : Ans := J (.p0 x0 0 x0 (x0.length : Int) 0)
def live : Nat → Live := fun i => match i with | 3 => [(0, none), (3, none), (9, none), (10, none), (11, none)] | 11 => [(6, none), (25, none), (26, none), (27, none)] | _ => []
def pats : List Pat := [.rd (.sl 33)]
def res : RP := .one (.fr 3)
abbrev E : Env := { T := assoc Tab, G := conG [(246, Z121.con)], nt := 36 }
theorem step_eq (I : Heads) (p : Pt) : enterC E live I (pid p) (bodyOf Tryz.f217) (stOf (live (pid p)) (pvs p) (phs p)) (doneK E Tryz.f217 res) = step (fun q => I (pid q) (pvs q) (phs q)) p := by
 cases p <;> kernel_rfl
theorem start_eq (I : Heads) (ls : List L) : runC E live I (bodyOf Tryz.f217) (initS pats ls) (doneK E Tryz.f217 res) = start (fun q => I (pid q) (pvs q) (phs q)) (ls.headD .hole).toSl := by kernel_rfl
theorem run_eq (n : Nat) (ls : List L) : runF E live Tryz.f217 res n (initS pats ls) = start (iter step n) (ls.headD .hole).toSl := runF_iter (id := pid) (vs := pvs) (hs := phs) (step := step) (start := fun J => start J (ls.headD .hole).toSl) step_eq (fun I => start_eq I ls) n
def md (a0 : List (List Int)) : List Int := a0.flatten
def gd (a0 : List (List Int)) : Prop := a0.length ≤ 8 ∧ ∀ x ∈ a0, x.length ≤ 2 ^ 40
def acc (ls : List L) : List (List L) := (ls.headD .hole).toSl
def R : (List (List L)) → Option (List (List L)) := RR gd md
theorem R_eq {a0} (h : gd a0) : R (a0.map (lRow iRow)) = some ((md a0).map iRow) := RR_eq (a := a0) h
def con : Con := CN pats res acc R
theorem okF (a0 : List (List Int)) (hg : gd a0) : ∃ n, start (iter step n) (a0.map (lRow iRow)) = ret (((md a0).map iRow) : List (List L)) := by
  obtain ⟨hl, hx⟩ := hg
  have hs : ∀ i, i ≤ a0.length → ((a0.take i).map List.length).sum ≤ i * 2 ^ 40 := by
    intro i
    induction i with
    | zero => intro _; simp
    | succ i ih =>
      intro hi
      rw [List.take_succ_eq_append_getElem (by omega)]
      have h1 := hx a0[i] (List.getElem_mem _)
      have h2 := ih (by omega)
      simp only [List.map_append, List.map_cons, List.map_nil, List.sum_append, List.sum_cons, List.sum_nil]
      omega
  have hstep : ∀ i (h : i < a0.length), ((a0.take (i + 1)).map List.length).sum = ((a0.take i).map List.length).sum + a0[i].length := by
    intro i hi
    rw [List.take_succ_eq_append_getElem (by omega)]
    simp only [List.map_append, List.map_cons, List.map_nil, List.sum_append, List.sum_cons, List.sum_nil]
    omega
  have hf : ∀ i, (a0.take i).flatten.length = ((a0.take i).map List.length).sum := fun i => List.length_flatten
  have second : ∀ k i, i + k = a0.length → ∃ n, iter step n (Pt.p1 (a0.map (lRow iRow)) (a0.length : Int) (i : Int) ((a0.take i).flatten.map iRow)) = ret (a0.flatten.map iRow : List (List L)) := by
    intro k
    induction k with
    | zero =>
      intro i hi
      obtain rfl : i = a0.length := by omega
      refine ⟨1, ?_⟩
      show step (iter step 0) (Pt.p1 _ _ _ _) = _
      simp only [step]
      refine no_ret (by simp) ?_
      rw [List.take_length]
    | succ k ih =>
      intro i hi
      obtain ⟨n, hn⟩ := ih (i + 1) (by omega)
      refine ⟨n + 1, ?_⟩
      show step (iter step n) (Pt.p1 _ _ _ _) = _
      have hlt : i < a0.length := by omega
      have b1 := hs (i + 1) (by omega)
      have b2 := hstep i hlt
      simp only [step, List.length_map, toNat_nat, lAt_getD]
      refine yes_ret (by simp; omega) (yes_ret (by simp) (yes_ret (by simp; omega) (yes_ret (lim_t ?_) ?_)))
      · rw [getD_lt hlt, hf]; omega
      · rw [wrap_succ hlt (by simp only [maxLen]; omega), getD_lt hlt, ← List.map_append]
        have e : (a0.take i).flatten ++ a0[i] = (a0.take (i + 1)).flatten := by
          rw [List.take_succ_eq_append_getElem (by omega)]
          simp only [List.flatten_append, List.flatten_cons, List.flatten_nil, List.append_nil]
        rw [e]; exact hn
  have first : ∀ k i, i + k = a0.length → ∃ n, iter step n (Pt.p0 (a0.map (lRow iRow)) ((((a0.take i).map List.length).sum : Nat) : Int) (a0.map (lRow iRow)) (a0.length : Int) (i : Int)) = ret (a0.flatten.map iRow : List (List L)) := by
    intro k
    induction k with
    | zero =>
      intro i hi
      obtain rfl : i = a0.length := by omega
      obtain ⟨n, hn⟩ := second a0.length 0 (by omega)
      refine ⟨n + 1, ?_⟩
      show step (iter step n) (Pt.p0 _ _ _ _ _) = _
      have b1 := hs a0.length (by omega)
      simp only [step]
      refine no_ret (by simp) (call_to [] (Z121.R_eq ⟨by omega, by omega⟩) ?_)
      simpa using hn
    | succ k ih =>
      intro i hi
      obtain ⟨n, hn⟩ := ih (i + 1) (by omega)
      refine ⟨n + 1, ?_⟩
      show step (iter step n) (Pt.p0 _ _ _ _ _) = _
      have hlt : i < a0.length := by omega
      have b1 := hs (i + 1) (by omega)
      have b2 := hstep i hlt
      simp only [step, List.length_map, toNat_nat, lAt_getD, getD_lt hlt]
      have e : IntKind.i64.wrap (((((a0.take i).map List.length).sum : Nat) : Int) + (a0[i].length : Int)) = ((((a0.take (i + 1)).map List.length).sum : Nat) : Int) := by
        rw [Go.IntWalk.i64_in _ (by omega)]; omega
      rw [e]
      refine yes_ret (by simp; omega) (yes_ret (by simp) (yes_ret (by simp; omega) (no_ret (by simp) ?_)))
      rw [wrap_succ hlt (by simp only [maxLen]; omega)]
      exact hn
  unfold md
  obtain ⟨n, hn⟩ := first a0.length 0 (by omega)
  refine ⟨n, ?_⟩
  unfold start
  simpa using hn
theorem valid_ : Valid Tryz.prog Ev 217 con := VV (run := fun n x => start (iter step n) x) mix tab_ok (.cons Z121.valid_ .nil) Tryz.func217 (by kernel_rfl) run_eq (fun _ a _ _ hg => okF a hg)
theorem len (a0 : List (List Int)) : (md a0).length = (a0.map List.length).sum := by simp [md]
end Z122
namespace Z123
def F (x0 : RHead) : Ans := (call (Z116.R x0.fKeys) fun v1 => (call (Z116.R x0.fHeirs) fun v2 => (call (Z116.R x0.fJudge) fun v3 => (call (Z120.R x0.fFrozen) fun v4 => (call (Z122.R [[L.sl [[L.int x0.fZone], [L.int x0.fEpoch], [L.int x0.fKind], [L.int x0.fTime], [L.int x0.fUntil], [L.int x0.fCount], [L.int x0.fRoot], [L.int x0.fPrev]]], [L.sl v1], [L.sl v2], [L.sl [[L.int x0.fWait]]], [L.sl v3], [L.sl [[L.int v4]]]]) fun v5 => ret (v5 : List (List L)))))))
def pats : List Pat := [.agg [.int .i64, .int .i64, .int .i64, .int .i64, .int .i64, .int .i64, .int .i64, .int .i64, .sl 3, .int .i64, .sl 3, .int .i64, .int .i64, .sl 3, .int .i64, .bool]]
def res : RP := .one (.fr 3)
def md (a0 : MHead) : List Int := (Z122.md [[a0.fZone, a0.fEpoch, a0.fKind, a0.fTime, a0.fUntil, a0.fCount, a0.fRoot, a0.fPrev], (Z116.md a0.fKeys), (Z116.md a0.fHeirs), [a0.fWait], (Z116.md a0.fJudge), [(Z120.md a0.fFrozen)]])
def gd (a0 : MHead) : Prop := (MHead.Sm (2 ^ 21) a0)
def acc (ls : List L) : RHead := (RHead.dec ls)
def R : RHead → Option (List (List L)) := RR gd md
theorem R_eq {a0} (h : gd a0) : R (MHead.r a0) = some ((md a0).map iRow) := RR_eq (a := a0) h
def con : Con := CN pats res acc R
theorem okF (a0 : MHead) (hg : gd a0) : F (MHead.r a0) = ret (((md a0).map iRow) : List (List L)) := by
  unfold gd at hg
  have H0 := hg
  unfold F md
  try simp only [S0, MHead.rs]
  refine call_to ((Z116.md a0.fKeys).map iRow) (Z116.R_eq (a0 := a0.fKeys) H0.1) ?_
  try simp only [S0, MHead.rs]
  refine call_to ((Z116.md a0.fHeirs).map iRow) (Z116.R_eq (a0 := a0.fHeirs) H0.2.1) ?_
  try simp only [S0, MHead.rs]
  refine call_to ((Z116.md a0.fJudge).map iRow) (Z116.R_eq (a0 := a0.fJudge) H0.2.2) ?_
  try simp only [S0, MHead.rs]
  refine call_to (Z120.md a0.fFrozen) (Z120.R_eq (a0 := a0.fFrozen) trivial) ?_
  refine call_to ((Z122.md [[a0.fZone, a0.fEpoch, a0.fKind, a0.fTime, a0.fUntil, a0.fCount, a0.fRoot, a0.fPrev], (Z116.md a0.fKeys), (Z116.md a0.fHeirs), [a0.fWait], (Z116.md a0.fJudge), [(Z120.md a0.fFrozen)]]).map iRow) ?_ ?_
  · have R_ := Z122.R_eq (a0 := [[a0.fZone, a0.fEpoch, a0.fKind, a0.fTime, a0.fUntil, a0.fCount, a0.fRoot, a0.fPrev], (Z116.md a0.fKeys), (Z116.md a0.fHeirs), [a0.fWait], (Z116.md a0.fJudge), [(Z120.md a0.fFrozen)]]) ⟨(by simp), (by
        have := Z116.len a0.fKeys
        have := (H0.1).1
        have := Z116.len a0.fHeirs
        have := (H0.2.1).1
        have := Z116.len a0.fJudge
        have := (H0.2.2).1
        intro x_ hx_
        simp only [List.mem_cons, List.not_mem_nil, or_false] at hx_
        rcases hx_ with hx_ | hx_ | hx_ | hx_ | hx_ | hx_
        all_goals (subst hx_; first | omega | (simp only [LN]; omega)))⟩
    first | exact R_ | (simp only [MP, S0, MHead.rs] at R_ ⊢; first | exact R_ | (rw [← R_]; rfl))
  try simp only [S0, MHead.rs]
  all_goals first | rfl | (simp only [S0, MHead.rs]; done) | (simp only [MP]; rfl) | (simp only [S0, MHead.rs, MP]; first | done | rfl)
theorem valid_ : Valid Tryz.prog Ev 194 con := VV (live := fun _ => []) (nt := 38) (run := fun _ x => F x) mix tab_ok (.cons Z116.valid_ (.cons Z120.valid_ (.cons Z122.valid_ .nil))) Tryz.func194 (by kernel_rfl) (fun _ _ => by kernel_rfl) (fun _ a _ _ hg => ⟨0, okF a hg⟩)
theorem len (a0 : MHead) : (md a0).length = 16 + a0.fKeys.fList.length + a0.fHeirs.fList.length + a0.fJudge.fList.length := by unfold md; simp [Z122.md, Z116.len]; omega
theorem br (a0 : MHead) : md a0 = Z47.md a0 := by
 rw [Z47.md_form]
 unfold md Z122.md
 simp only [Z116.br, Z120.md, List.flatten_cons, List.flatten_nil, List.cons_append, List.nil_append, List.append_nil]
end Z123
namespace Z124
def F (x0 : Int) (x1 : List (List L)) : Ans := (call (Z122.R [[L.sl [[L.int x0]]], [L.sl x1], [L.sl [[L.int x0]]]]) fun v1 => (call (Z118.R v1) fun v2 => ret (v2 : Int)))
def pats : List Pat := [.rd (.int .i64), .rd (.sl 3)]
def res : RP := .one (.rd (.int .i64))
def md (a0 : Int) (a1 : List Int) : Int := ((Z118.md (Z122.md [[a0], a1, [a0]])) : Int)
def gd (a0 : Int) (a1 : List Int) : Prop := (SmL (2 ^ 40) (fun y : Int => True) a1)
def acc (ls : List L) : Int × List (List L) := ((ls.headD .hole).toInt, ((dropT 1 ls).headD .hole).toSl)
def R : (Int × List (List L)) → Option Int := RR (p2 gd) (u2 md)
theorem R_eq {a0} {a1} (h : gd a0 a1) : R (a0, (a1.map iRow)) = some (md a0 a1) := RR_eq (a := (a0, a1)) h
def con : Con := CN pats res acc R
theorem okF (a0 : Int) (a1 : List Int) (hg : gd a0 a1) : F a0 (a1.map iRow) = ret ((md a0 a1) : Int) := by
  unfold gd at hg
  have H1 := hg
  unfold F md
  try simp only [S0]
  refine call_to ((Z122.md [[a0], a1, [a0]]).map iRow) ?_ ?_
  · have R_ := Z122.R_eq (a0 := [[a0], a1, [a0]]) ⟨(by simp), (by
        have := (H1).1
        intro x_ hx_
        simp only [List.mem_cons, List.not_mem_nil, or_false] at hx_
        rcases hx_ with hx_ | hx_ | hx_
        all_goals (subst hx_; first | omega | (simp only [LN]; omega)))⟩
    first | exact R_ | (simp only [MP, S0] at R_ ⊢; first | exact R_ | (rw [← R_]; rfl))
  try simp only [S0]
  refine call_to (Z118.md (Z122.md [[a0], a1, [a0]])) (Z118.R_eq (a0 := (Z122.md [[a0], a1, [a0]])) ⟨(by
      have := Z122.len [[a0], a1, [a0]]
      try simp only [LN] at this
      have := (H1).1
      try simp (disch := omega) only [LN, wi]
      first | omega | (simp; done) | (simp; omega)), fun _ _ => trivial⟩) ?_
  all_goals first | rfl | (simp only [S0, MP]; first | done | rfl)
theorem valid_ : Valid Tryz.prog Ev 335 con := VV (live := fun _ => []) (nt := 13) (run := fun _ x => F x.1 x.2) mix tab_ok (.cons Z122.valid_ (.cons Z118.valid_ .nil)) Tryz.func335 (by kernel_rfl) (fun _ _ => by kernel_rfl) (fun _ a _ _ hg => ⟨0, okF a.1 a.2 hg⟩)
theorem br (a0 : Int) (a1 : List Int) : md a0 a1 = Z48.md a0 a1 := by
 unfold md Z48.md
 first
 | (simp only [Z118.br]; done)
 | (simp only [Z118.br]; rfl)
 | rfl
end Z124
namespace Z125
def F (x0 : Int) (x1 : List (List L)) : Ans := (bif (lim (((1 : Int) + (x1.length : Int)) * 8)) then (call (Z124.R (x0, ([[L.int 223]] ++ x1))) fun v1 => ret (v1 : Int)) else none)
def pats : List Pat := [.rd (.int .i64), .rd (.sl 3)]
def res : RP := .one (.rd (.int .i64))
def md (a0 : Int) (a1 : List Int) : Int := ((Z124.md a0 ([223] ++ a1)) : Int)
def gd (a0 : Int) (a1 : List Int) : Prop := (SmL (2 ^ 39) (fun y : Int => True) a1)
def acc (ls : List L) : Int × List (List L) := ((ls.headD .hole).toInt, ((dropT 1 ls).headD .hole).toSl)
def R : (Int × List (List L)) → Option Int := RR (p2 gd) (u2 md)
theorem R_eq {a0} {a1} (h : gd a0 a1) : R (a0, (a1.map iRow)) = some (md a0 a1) := RR_eq (a := (a0, a1)) h
def con : Con := CN pats res acc R
theorem okF (a0 : Int) (a1 : List Int) (hg : gd a0 a1) : F a0 (a1.map iRow) = ret ((md a0 a1) : Int) := by
  unfold gd at hg
  have H1 := hg
  unfold F md
  try simp only [S0]
  refine yes_ret (by
      have := (H1).1
      refine lim_t ?_
      try simp (disch := omega) only [LN, wi]
      first | omega | (simp; done) | (simp; omega)) ?_
  refine call_to (Z124.md a0 ([223] ++ a1)) ?_ ?_
  · have R_ := Z124.R_eq (a0 := a0) (a1 := ([223] ++ a1)) ⟨(by
        have := (H1).1
        try simp (disch := omega) only [LN, wi]
        first | omega | (simp; done) | (simp; omega)), fun _ _ => trivial⟩
    first | exact R_ | (simp only [MP, S0] at R_ ⊢; first | exact R_ | (rw [← R_]; rfl))
  all_goals first | rfl | (simp only [S0, MP]; first | done | rfl)
theorem valid_ : Valid Tryz.prog Ev 334 con := VV (live := fun _ => []) (nt := 10) (run := fun _ x => F x.1 x.2) mix tab_ok (.cons Z124.valid_ .nil) Tryz.func334 (by kernel_rfl) (fun _ _ => by kernel_rfl) (fun _ a _ _ hg => ⟨0, okF a.1 a.2 hg⟩)
theorem br (a0 : Int) (a1 : List Int) : md a0 a1 = Z49.md a0 a1 := by
 unfold md Z49.md
 first
 | (simp only [Z124.br]; done)
 | (simp only [Z124.br]; rfl)
 | rfl
end Z125
namespace Z126
def F (x0 : MSig) (x1 : List (List L)) : Ans := (call (Z110.R x0.fKey) fun v1 => (bif v1 then (call (Z125.R (x0.fKey, x1)) fun v2 => ret ((x0.fTag == v2) : Bool)) else ret (false : Bool)))
def pats : List Pat := [.agg [.int .i64, .int .i64], .rd (.sl 3)]
def res : RP := .one (.rd (.bool))
def md (a0 : MSig) (a1 : List Int) : Bool := (bif (Z110.md a0.fKey) then ((a0.fTag == (Z125.md a0.fKey a1)) : Bool) else (false : Bool))
def gd (a0 : MSig) (a1 : List Int) : Prop := (SmL (2 ^ 38) (fun y : Int => True) a1)
def acc (ls : List L) : MSig × List (List L) := ((MSig.dec ls), ((dropT 2 ls).headD .hole).toSl)
def R : (MSig × List (List L)) → Option Bool := RR (p2 gd) (u2 md)
theorem R_eq {a0} {a1} (h : gd a0 a1) : R (a0, (a1.map iRow)) = some (md a0 a1) := RR_eq (a := (a0, a1)) h
def con : Con := CN pats res acc R
theorem okF (a0 : MSig) (a1 : List Int) (hg : gd a0 a1) : F a0 (a1.map iRow) = ret ((md a0 a1) : Bool) := by
 unfold gd at hg
 have H1 := hg
 unfold F md
 try simp only [S0]
 refine call_to (Z110.md a0.fKey) (Z110.R_eq (a0 := a0.fKey) trivial) ?_
 refine bif_out ret (fun c1 => ?_) (fun _ => rfl)
 refine call_to (Z125.md a0.fKey a1) (Z125.R_eq (a0 := a0.fKey) (a1 := a1) (H1.mono (by decide) (fun x hx => trivial))) ?_
 all_goals first | rfl | (simp only [S0, MP]; first | done | rfl)
theorem valid_ : Valid Tryz.prog Ev 323 con := VV (live := fun _ => []) (nt := 17) (run := fun _ x => F x.1 x.2) mix tab_ok (.cons Z110.valid_ (.cons Z125.valid_ .nil)) Tryz.func323 (by kernel_rfl) (fun _ _ => by kernel_rfl) (fun _ a _ _ hg => ⟨0, okF a.1 a.2 hg⟩)
theorem br (a0 : MSig) (a1 : List Int) : md a0 a1 = Z50.md a0 a1 := by
 unfold md Z50.md
 first
 | (simp only [Z125.br]; done)
 | (simp only [Z125.br]; rfl)
 | rfl
end Z126
namespace Z127
def F (x0 : MSig) (x1 : List L) (x2 : List L) : Ans := (bif (x0.fKey == (iDec x1)) then (call (Z126.R (x0, (lDec x2))) fun v1 => ret (v1 : Bool)) else ret (false : Bool))
def pats : List Pat := [.agg [.int .i64, .int .i64], .ptr [.int .i64], .ptr [.sl 3]]
def res : RP := .one (.rd (.bool))
def md (a0 : MSig) (a1 : Int) (a2 : List Int) : Bool := (bif (a0.fKey == a1) then ((Z126.md a0 a2) : Bool) else (false : Bool))
def gd (a0 : MSig) (a1 : Int) (a2 : List Int) : Prop := (SmL (2 ^ 38) (fun y : Int => True) a2)
def acc (ls : List L) : MSig × Int × List (List L) := ((MSig.dec ls), (iDec (padL 1 (dropT 2 ls))), (lDec (padL 1 (dropT 3 ls))))
def R : (MSig × Int × List (List L)) → Option Bool := RR (p3 gd) (u3 md)
theorem R_eq {a0} {a1} {a2} (h : gd a0 a1 a2) : R (a0, a1, (a2.map iRow)) = some (md a0 a1 a2) := RR_eq (a := (a0, a1, a2)) h
def con : Con := CN pats res acc R
theorem okF (a0 : MSig) (a1 : Int) (a2 : List Int) (p1 : List L) (p2 : List L) (e1 : a1 = (iDec p1)) (e2 : (a2.map iRow) = (lDec p2)) (hg : gd a0 a1 a2) : F a0 p1 p2 = ret ((md a0 a1 a2) : Bool) := by
 unfold gd at hg
 have H2 := hg
 unfold F md
 try simp only [S0, ← e1, ← e2]
 refine bif_out ret (fun c1 => ?_) (fun _ => rfl)
 refine call_to (Z126.md a0 a2) (Z126.R_eq (a0 := a0) (a1 := a2) H2) ?_
 all_goals first | rfl | (simp only [S0, ← e1, ← e2, MP]; first | done | rfl)
theorem okV (ls : List L) (a : MSig × Int × List Int) (e : acc ls = Im.im a) (hg : (p3 gd) a) : ∃ n : Nat, F (MSig.dec ls) (padL 1 (dropT 2 ls)) (padL 1 (dropT 3 ls)) = ret (Im.im ((u3 md) a)) := by
 have e0 : a.1 = (MSig.dec ls) := (congrArg (fun x => x.1) e.symm)
 have hn := okF a.1 a.2.1 a.2.2 (padL 1 (dropT 2 ls)) (padL 1 (dropT 3 ls)) (congrArg (fun x => x.2.1) e.symm) (congrArg (fun x => x.2.2) e.symm) hg
 refine ⟨0, ?_⟩
 rw [← e0]
 exact hn
theorem valid_ : Valid Tryz.prog Ev 322 con := VP (live := fun _ => []) (nt := 14) (accr := fun ls => ((MSig.dec ls), (padL 1 (dropT 2 ls)), (padL 1 (dropT 3 ls)))) (run := fun _ x => F x.1 x.2.1 x.2.2) mix tab_ok (.cons Z126.valid_ .nil) Tryz.func322 (by kernel_rfl) (fun _ _ => by kernel_rfl) (fun ls a _ e hg => okV ls a e hg)
end Z127
namespace Z128
inductive Pt where
 | p0 (a : List (List L)) (b : List L) (c : List L) (d : Int) (e : Int)
def pid : Pt → Nat
 | .p0 .. => 2
def pvs : Pt → List V
 | .p0 a b c d e => [.sl none 184 a, .fn 322 [.cptr none [.int .i64] b 0, .cptr none [.sl 3] c 0], .int .i64 d, .int .i64 e]
def phs : Pt → List Root
 | .p0 a b c d e => []
def step (J : Pt → Ans) : Pt → Ans
 | .p0 a b c d e => (bif (decide (e < d)) then (bif (decide ((0 : Int) ≤ e)) then (bif (decide (e < (a.length : Int))) then (call (Z127.R ((MSig.at a (Int.toNat e)), (iDec b), (lDec c))) fun v1 => (bif v1 then ret (e : Int) else J (.p0 a b c d (IntKind.i64.wrap (e + 1))))) else none) else none) else ret ((-1) : Int))
def start (J : Pt → Ans) (x0 : List (List L)) (x1 : List L) (x2 : List L) : Ans := J (.p0 x0 x1 x2 (x0.length : Int) 0)
def live : Nat → Live := fun i => match i with | 2 => [(0, none), (1, none), (7, none), (8, none)] | _ => []
def pats : List Pat := [.rd (.sl 184), .fn 322 [[.int .i64], [.sl 3]]]
def res : RP := .one (.rd (.int .i64))
abbrev E : Env := { T := assoc Tab, G := conG [(322, Z127.con)], nt := 19 }
theorem step_eq (I : Heads) (p : Pt) : enterC E live I (pid p) (bodyOf Tryz.f333) (stOf (live (pid p)) (pvs p) (phs p)) (doneK E Tryz.f333 res) = step (fun q => I (pid q) (pvs q) (phs q)) p := by
 cases p <;> kernel_rfl
theorem start_eq (I : Heads) (ls : List L) : runC E live I (bodyOf Tryz.f333) (initS pats ls) (doneK E Tryz.f333 res) = start (fun q => I (pid q) (pvs q) (phs q)) (ls.headD .hole).toSl (padL 1 (dropT 1 ls)) (padL 1 (dropT 2 ls)) := by kernel_rfl
theorem run_eq (n : Nat) (ls : List L) : runF E live Tryz.f333 res n (initS pats ls) = start (iter step n) (ls.headD .hole).toSl (padL 1 (dropT 1 ls)) (padL 1 (dropT 2 ls)) := runF_iter (id := pid) (vs := pvs) (hs := phs) (step := step) (start := fun J => start J (ls.headD .hole).toSl (padL 1 (dropT 1 ls)) (padL 1 (dropT 2 ls))) step_eq (fun I => start_eq I ls) n
def md (a0 : List MSig) (a1 : Int) (a2 : List Int) : Int := (eachI (S := Unit) (β := Int) (fun (i1 : Nat) (y1 : MSig) (s3 : Unit) => (bif (Z127.md y1 a1 a2) then (.inr ((i1 : Int) : Int)) else (.inl ()))) (fun (s3 : Unit) => ((-1) : Int)) 0 a0 ())
def gd (a0 : List MSig) (a1 : Int) (a2 : List Int) : Prop := (SmL (2 ^ 21) (fun y : MSig => MSig.Sm (2 ^ 21) y) a0) ∧ (SmL (2 ^ 38) (fun y : Int => True) a2)
def acc (ls : List L) : List (List L) × Int × List (List L) := ((ls.headD .hole).toSl, (iDec (padL 1 (dropT 1 ls))), (lDec (padL 1 (dropT 2 ls))))
def R : (List (List L) × Int × List (List L)) → Option Int := RR (p3 gd) (u3 md)
theorem R_eq {a0} {a1} {a2} (h : gd a0 a1 a2) : R ((a0.map MSig.row), a1, (a2.map iRow)) = some (md a0 a1 a2) := RR_eq (a := (a0, a1, a2)) h
def con : Con := CN pats res acc R
theorem okF (a0 : List MSig) (a1 : Int) (a2 : List Int) (p1 : List L) (p2 : List L) (e1 : a1 = (iDec p1)) (e2 : (a2.map iRow) = (lDec p2)) (hg : gd a0 a1 a2) : ∃ n, start (iter step n) (a0.map MSig.row) p1 p2 = ret ((md a0 a1 a2) : Int) := by
  unfold gd at hg
  obtain ⟨H0, H2⟩ := hg
  unfold start md
  try simp only [S0, MSig.rs, ← e1, ← e2]
  have Bh2 : a0.length ≤ maxLen := (by
      have := (H0).1
      try simp only [maxLen] at *
      omega)
  refine ex_eq (out := ret) (loopM_eachI (z := MSig.zero)) ?_
  refine ex_pt (p := Pt.p0 (a0.map MSig.row) p1 p2 (a0.length : Int) 0) (by first | rfl | (simp only [S0, MSig.rs, ← e1, ← e2, MP]; done) | (simp only [MP]; rfl)) ?_
  refine loopM_ok (pt := fun (i1 : Nat) (s3 : Unit) => Pt.p0 (a0.map MSig.row) p1 p2 (a0.length : Int) (i1 : Int)) (s := (() : Unit)) (out := ret) (fun _ _ => True) (fun J i1 s3 h2 hih2 => ?_) (fun s3 hih2 => ?_) trivial
  · simp only [step, S0, MSig.rs, ← e1, ← e2]
    have bb_ := Bh2
    simp only [maxLen] at bb_
    have := (H0).1
    refine Rnd.yes (by apply decide_eq_true; omega) ?_
    refine Rnd.yes zle_dec ?_
    refine Rnd.yes (lt_dec h2) ?_
    refine Rnd.call_to (Z127.md (a0.getD i1 MSig.zero) a1 a2) (Z127.R_eq (a0 := (a0.getD i1 MSig.zero)) (a1 := a1) (a2 := a2) H2) ?_
    refine Rnd.bif (fun c4 => ?_) (fun c4 => ?_)
    · refine Rnd.inr ?_
      all_goals first | rfl | (simp only [S0, MSig.rs, ← e1, ← e2, MP]; first | done | rfl)
    · refine Rnd.inl trivial ?_
      rw [wrap_succ h2 Bh2]
      all_goals first | rfl | (simp only [S0, MSig.rs, ← e1, ← e2, MP]; first | done | rfl)
  · simp only [step, S0, MSig.rs, ← e1, ← e2]
    have := (H0).1
    refine ex_no (by apply decide_eq_false; omega) ?_
    refine ⟨0, ?_⟩
    all_goals first | rfl | (simp only [S0, MSig.rs, ← e1, ← e2, MP]; first | done | rfl)
theorem okV (ls : List L) (a : List MSig × Int × List Int) (e : acc ls = Im.im a) (hg : (p3 gd) a) : ∃ n : Nat, start (iter step n) ((ls.headD .hole).toSl) (padL 1 (dropT 1 ls)) (padL 1 (dropT 2 ls)) = ret (Im.im ((u3 md) a)) := by
 have e0 : (a.1.map MSig.row) = (ls.headD .hole).toSl := (congrArg (fun x => x.1) e.symm)
 obtain ⟨n, hn⟩ := okF a.1 a.2.1 a.2.2 (padL 1 (dropT 1 ls)) (padL 1 (dropT 2 ls)) (congrArg (fun x => x.2.1) e.symm) (congrArg (fun x => x.2.2) e.symm) hg
 refine ⟨n, ?_⟩
 rw [← e0]
 exact hn
theorem valid_ : Valid Tryz.prog Ev 333 con := VP (accr := fun ls => ((ls.headD .hole).toSl, (padL 1 (dropT 1 ls)), (padL 1 (dropT 2 ls)))) (run := fun n x => start (iter step n) x.1 x.2.1 x.2.2) mix tab_ok (.cons Z127.valid_ .nil) Tryz.func333 (by kernel_rfl) run_eq (fun ls a _ e hg => okV ls a e hg)
theorem fa (a0 : List MSig) (a1 : Int) (a2 : List Int) : -1 ≤ md a0 a1 a2 ∧ md a0 a1 a2 < (a0.length : Int) := by
 unfold md
 refine eachI_fa0 ?_ _ _
 all_goals
  intro i x s b h
  revert h
  simp only [Bool.cond_eq_ite]
  repeat' split
  all_goals (intro h; first | (cases h; rfl) | cases h)
theorem idx_eq (a0 : List MSig) (a1 : Int) (a2 : List Int) : md a0 a1 a2 = findI (fun y => Z127.md y a1 a2) 0 a0 := by
 unfold md
 exact eachI_find
end Z128
namespace Z129
def F (x0 : List (List L)) (x1 : List L) (x2 : List L) : Ans := (call (Z128.R (x0, (iDec x1), (lDec x2))) fun v1 => ret ((decide (v1 ≥ 0)) : Bool))
def pats : List Pat := [.rd (.sl 184), .fn 322 [[.int .i64], [.sl 3]]]
def res : RP := .one (.rd (.bool))
def md (a0 : List MSig) (a1 : Int) (a2 : List Int) : Bool := ((decide ((Z128.md a0 a1 a2) ≥ 0)) : Bool)
def gd (a0 : List MSig) (a1 : Int) (a2 : List Int) : Prop := (SmL (2 ^ 21) (fun y : MSig => MSig.Sm (2 ^ 21) y) a0) ∧ (SmL (2 ^ 38) (fun y : Int => True) a2)
def acc (ls : List L) : List (List L) × Int × List (List L) := ((ls.headD .hole).toSl, (iDec (padL 1 (dropT 1 ls))), (lDec (padL 1 (dropT 2 ls))))
def R : (List (List L) × Int × List (List L)) → Option Bool := RR (p3 gd) (u3 md)
theorem R_eq {a0} {a1} {a2} (h : gd a0 a1 a2) : R ((a0.map MSig.row), a1, (a2.map iRow)) = some (md a0 a1 a2) := RR_eq (a := (a0, a1, a2)) h
def con : Con := CN pats res acc R
theorem okF (a0 : List MSig) (a1 : Int) (a2 : List Int) (p1 : List L) (p2 : List L) (e1 : a1 = (iDec p1)) (e2 : (a2.map iRow) = (lDec p2)) (hg : gd a0 a1 a2) : F (a0.map MSig.row) p1 p2 = ret ((md a0 a1 a2) : Bool) := by
 unfold gd at hg
 obtain ⟨H0, H2⟩ := hg
 unfold F md
 try simp only [S0, ← e1, ← e2]
 refine call_to (Z128.md a0 a1 a2) (Z128.R_eq (a0 := a0) (a1 := a1) (a2 := a2) ⟨H0, H2⟩) ?_
 have fv1_ := Z128.fa a0 a1 a2
 all_goals first | rfl | (simp only [S0, ← e1, ← e2, MP]; first | done | rfl)
theorem okV (ls : List L) (a : List MSig × Int × List Int) (e : acc ls = Im.im a) (hg : (p3 gd) a) : ∃ n : Nat, F ((ls.headD .hole).toSl) (padL 1 (dropT 1 ls)) (padL 1 (dropT 2 ls)) = ret (Im.im ((u3 md) a)) := by
 have e0 : (a.1.map MSig.row) = (ls.headD .hole).toSl := (congrArg (fun x => x.1) e.symm)
 have hn := okF a.1 a.2.1 a.2.2 (padL 1 (dropT 1 ls)) (padL 1 (dropT 2 ls)) (congrArg (fun x => x.2.1) e.symm) (congrArg (fun x => x.2.2) e.symm) hg
 refine ⟨0, ?_⟩
 rw [← e0]
 exact hn
theorem valid_ : Valid Tryz.prog Ev 321 con := VP (live := fun _ => []) (nt := 9) (accr := fun ls => ((ls.headD .hole).toSl, (padL 1 (dropT 1 ls)), (padL 1 (dropT 2 ls)))) (run := fun _ x => F x.1 x.2.1 x.2.2) mix tab_ok (.cons Z128.valid_ .nil) Tryz.func321 (by kernel_rfl) (fun _ _ => by kernel_rfl) (fun ls a _ e hg => okV ls a e hg)
theorem any_eq (a0 : List MSig) (a1 : Int) (a2 : List Int) : md a0 a1 a2 = a0.any (fun y => Z127.md y a1 a2) := by
 unfold md
 rw [Z128.idx_eq]
 exact findI_ge
end Z129
namespace Z130
inductive Pt where
 | p0 (a : List (List L)) (b : Int) (c : List (List L)) (d : Int) (e : Int) (f : List (List L))
def pid : Pt → Nat
 | .p0 .. => 3
def pvs : Pt → List V
 | .p0 a b c d e f => [.sl none 184 a, .bptr 0 0, .int .i64 b, .sl none 3 c, .int .i64 d, .int .i64 e]
def phs : Pt → List Root
 | .p0 a b c d e f => [.box [.sl none 3 f]]
def step (J : Pt → Ans) : Pt → Ans
 | .p0 a b c d e f => (bif (decide (e < d)) then (bif (decide ((0 : Int) ≤ e)) then (bif (decide (e < (c.length : Int))) then (call (Z129.R (a, (iAt c (Int.toNat e)), f)) fun v1 => (bif v1 then J (.p0 a (IntKind.i64.wrap (b + 1)) c d (IntKind.i64.wrap (e + 1)) f) else J (.p0 a b c d (IntKind.i64.wrap (e + 1)) f))) else none) else none) else ret (b : Int))
def start (J : Pt → Ans) (x0 : RKeys) (x1 : List (List L)) (x2 : List (List L)) : Ans := J (.p0 x2 0 x0.fList (x0.fList.length : Int) 0 x1)
def live : Nat → Live := fun i => match i with | 3 => [(2, none), (4, none), (7, none), (11, none), (12, none), (13, none)] | _ => []
def pats : List Pat := [.agg [.sl 3, .int .i64], .rd (.sl 3), .rd (.sl 184)]
def res : RP := .one (.rd (.int .i64))
abbrev E : Env := { T := assoc Tab, G := conG [(321, Z129.con)], nt := 24 }
theorem step_eq (I : Heads) (p : Pt) : enterC E live I (pid p) (bodyOf Tryz.f304) (stOf (live (pid p)) (pvs p) (phs p)) (doneK E Tryz.f304 res) = step (fun q => I (pid q) (pvs q) (phs q)) p := by
 cases p <;> kernel_rfl
theorem start_eq (I : Heads) (ls : List L) : runC E live I (bodyOf Tryz.f304) (initS pats ls) (doneK E Tryz.f304 res) = start (fun q => I (pid q) (pvs q) (phs q)) (RKeys.dec ls) ((dropT 2 ls).headD .hole).toSl ((dropT 3 ls).headD .hole).toSl := by kernel_rfl
theorem run_eq (n : Nat) (ls : List L) : runF E live Tryz.f304 res n (initS pats ls) = start (iter step n) (RKeys.dec ls) ((dropT 2 ls).headD .hole).toSl ((dropT 3 ls).headD .hole).toSl := runF_iter (id := pid) (vs := pvs) (hs := phs) (step := step) (start := fun J => start J (RKeys.dec ls) ((dropT 2 ls).headD .hole).toSl ((dropT 3 ls).headD .hole).toSl) step_eq (fun I => start_eq I ls) n
def md (a0 : MKeys) (a1 : List Int) (a2 : List MSig) : Int := (eachM (S := Int) (β := Int) (fun (y1 : Int) (s3 : Int) => (bif (Z129.md a2 y1 a1) then (.inl (IntKind.i64.wrap (s3 + 1))) else (.inl s3))) (fun (s3 : Int) => (s3 : Int)) a0.fList 0)
def gd (a0 : MKeys) (a1 : List Int) (a2 : List MSig) : Prop := (MKeys.Sm (2 ^ 21) a0) ∧ (SmL (2 ^ 38) (fun y : Int => True) a1) ∧ (SmL (2 ^ 21) (fun y : MSig => MSig.Sm (2 ^ 21) y) a2)
def acc (ls : List L) : RKeys × List (List L) × List (List L) := ((RKeys.dec ls), ((dropT 2 ls).headD .hole).toSl, ((dropT 3 ls).headD .hole).toSl)
def R : (RKeys × List (List L) × List (List L)) → Option Int := RR (p3 gd) (u3 md)
theorem R_eq {a0} {a1} {a2} (h : gd a0 a1 a2) : R ((MKeys.r a0), (a1.map iRow), (a2.map MSig.row)) = some (md a0 a1 a2) := RR_eq (a := (a0, a1, a2)) h
def con : Con := CN pats res acc R
theorem okF (a0 : MKeys) (a1 : List Int) (a2 : List MSig) (hg : gd a0 a1 a2) : ∃ n, start (iter step n) (MKeys.r a0) (a1.map iRow) (a2.map MSig.row) = ret ((md a0 a1 a2) : Int) := by
  unfold gd at hg
  obtain ⟨H0, H1, H2⟩ := hg
  unfold start md
  try simp only [S0, MKeys.rs]
  have Bh2 : a0.fList.length ≤ maxLen := (by
      have := (H0).1
      try simp only [maxLen] at *
      omega)
  refine ex_eq (out := ret) (loopM_eachM (z := 0)) ?_
  refine ex_pt (p := Pt.p0 (a2.map MSig.row) 0 (a0.fList.map iRow) (a0.fList.length : Int) 0 (a1.map iRow)) (by first | rfl | (simp only [S0, MKeys.rs, MP]; done) | (simp only [MP]; rfl)) ?_
  refine loopM_ok (pt := fun (i1 : Nat) (s3 : Int) => Pt.p0 (a2.map MSig.row) s3 (a0.fList.map iRow) (a0.fList.length : Int) (i1 : Int) (a1.map iRow)) (s := (0 : Int)) (out := ret) (fun _ _ => True) (fun J i1 s3 h2 hih2 => ?_) (fun s3 hih2 => ?_) trivial
  · simp only [step, S0, MKeys.rs]
    have bb_ := Bh2
    simp only [maxLen] at bb_
    have := (H0).1
    refine Rnd.yes (by apply decide_eq_true; omega) ?_
    refine Rnd.yes zle_dec ?_
    refine Rnd.yes (lt_dec h2) ?_
    refine Rnd.call_to (Z129.md a2 (a0.fList.getD i1 0) a1) (Z129.R_eq (a0 := a2) (a1 := (a0.fList.getD i1 0)) (a2 := a1) ⟨H2, H1⟩) ?_
    refine Rnd.bif (fun c4 => ?_) (fun c4 => ?_)
    · refine Rnd.inl trivial ?_
      rw [wrap_succ h2 Bh2]
      all_goals first | rfl | (simp only [S0, MKeys.rs, MP]; first | done | rfl)
    · refine Rnd.inl trivial ?_
      rw [wrap_succ h2 Bh2]
      all_goals first | rfl | (simp only [S0, MKeys.rs, MP]; first | done | rfl)
  · simp only [step, S0, MKeys.rs]
    have := (H0).1
    refine ex_no (by apply decide_eq_false; omega) ?_
    refine ⟨0, ?_⟩
    all_goals first | rfl | (simp only [S0, MKeys.rs, MP]; first | done | rfl)
theorem valid_ : Valid Tryz.prog Ev 304 con := VV (run := fun n x => start (iter step n) x.1 x.2.1 x.2.2) mix tab_ok (.cons Z129.valid_ .nil) Tryz.func304 (by kernel_rfl) run_eq (fun _ a _ _ hg => okF a.1 a.2.1 a.2.2 hg)
theorem br (a0 : MKeys) (a1 : List Int) (a2 : List MSig) : md a0 a1 a2 = Z51.md a0 a1 a2 := by
  unfold md Z51.md
  refine eachM_congr (fun x _ s => ?_) (fun s => rfl)
  rw [Z129.any_eq]
  refine Eq.trans ?_ (eachM_any' (β := Int ⊕ Int) (p := fun y => Z127.md y x a1) (b := Sum.inl (IntKind.i64.wrap (s + 1))) (c := Sum.inl s) (fun y s' => ?_) a2 ()).symm
  · cases a2.any (fun y => Z127.md y x a1) <;> rfl
  · unfold Z127.md
    simp only [Z126.br]
    cases y.fKey == x <;> cases Z50.md y a1 <;> rfl
end Z130
namespace Z131
def F (x0 : RKeys) (x1 : List (List L)) (x2 : List (List L)) : Ans := (call (Z111.R x0) fun v1 => (bif v1 then (call (Z130.R (x0, x1, x2)) fun v2 => ret ((decide (v2 ≥ x0.fNeed)) : Bool)) else ret (false : Bool)))
def pats : List Pat := [.agg [.sl 3, .int .i64], .rd (.sl 3), .rd (.sl 184)]
def res : RP := .one (.rd (.bool))
def md (a0 : MKeys) (a1 : List Int) (a2 : List MSig) : Bool := (bif (Z111.md a0) then ((decide ((Z130.md a0 a1 a2) ≥ a0.fNeed)) : Bool) else (false : Bool))
def gd (a0 : MKeys) (a1 : List Int) (a2 : List MSig) : Prop := (MKeys.Sm (2 ^ 21) a0) ∧ (SmL (2 ^ 38) (fun y : Int => True) a1) ∧ (SmL (2 ^ 21) (fun y : MSig => MSig.Sm (2 ^ 21) y) a2)
def acc (ls : List L) : RKeys × List (List L) × List (List L) := ((RKeys.dec ls), ((dropT 2 ls).headD .hole).toSl, ((dropT 3 ls).headD .hole).toSl)
def R : (RKeys × List (List L) × List (List L)) → Option Bool := RR (p3 gd) (u3 md)
theorem R_eq {a0} {a1} {a2} (h : gd a0 a1 a2) : R ((MKeys.r a0), (a1.map iRow), (a2.map MSig.row)) = some (md a0 a1 a2) := RR_eq (a := (a0, a1, a2)) h
def con : Con := CN pats res acc R
theorem okF (a0 : MKeys) (a1 : List Int) (a2 : List MSig) (hg : gd a0 a1 a2) : F (MKeys.r a0) (a1.map iRow) (a2.map MSig.row) = ret ((md a0 a1 a2) : Bool) := by
 unfold gd at hg
 obtain ⟨H0, H1, H2⟩ := hg
 unfold F md
 try simp only [S0, MKeys.rs]
 refine call_to (Z111.md a0) (Z111.R_eq (a0 := a0) H0) ?_
 refine bif_out ret (fun c1 => ?_) (fun _ => rfl)
 refine call_to (Z130.md a0 a1 a2) (Z130.R_eq (a0 := a0) (a1 := a1) (a2 := a2) ⟨H0, H1, H2⟩) ?_
 all_goals first | rfl | (simp only [S0, MKeys.rs, MP]; first | done | rfl)
theorem valid_ : Valid Tryz.prog Ev 280 con := VV (live := fun _ => []) (nt := 18) (run := fun _ x => F x.1 x.2.1 x.2.2) mix tab_ok (.cons Z111.valid_ (.cons Z130.valid_ .nil)) Tryz.func280 (by kernel_rfl) (fun _ _ => by kernel_rfl) (fun _ a _ _ hg => ⟨0, okF a.1 a.2.1 a.2.2 hg⟩)
theorem br (a0 : MKeys) (a1 : List Int) (a2 : List MSig) : md a0 a1 a2 = Z52.md a0 a1 a2 := by
 unfold md Z52.md
 first
 | (simp only [Z111.br, Z130.br]; done)
 | (simp only [Z111.br, Z130.br]; rfl)
 | rfl
end Z131
namespace Z132
def F (x0 : RSigned) (x1 : RKeys) : Ans := (call (Z123.R x0.fHead) fun v1 => (call (Z131.R (x1, v1, x0.fSigs)) fun v2 => ret (v2 : Bool)))
def pats : List Pat := [.agg [.int .i64, .int .i64, .int .i64, .int .i64, .int .i64, .int .i64, .int .i64, .int .i64, .sl 3, .int .i64, .sl 3, .int .i64, .int .i64, .sl 3, .int .i64, .bool, .sl 184], .agg [.sl 3, .int .i64]]
def res : RP := .one (.rd (.bool))
def md (a0 : MSigned) (a1 : MKeys) : Bool := ((Z131.md a1 (Z123.md a0.fHead) a0.fSigs) : Bool)
def gd (a0 : MSigned) (a1 : MKeys) : Prop := (MSigned.Sm (2 ^ 21) a0) ∧ (MKeys.Sm (2 ^ 21) a1)
def acc (ls : List L) : RSigned × RKeys := ((RSigned.dec ls), (RKeys.dec (dropT 17 ls)))
def R : (RSigned × RKeys) → Option Bool := RR (p2 gd) (u2 md)
theorem R_eq {a0} {a1} (h : gd a0 a1) : R ((MSigned.r a0), (MKeys.r a1)) = some (md a0 a1) := RR_eq (a := (a0, a1)) h
def con : Con := CN pats res acc R
theorem okF (a0 : MSigned) (a1 : MKeys) (hg : gd a0 a1) : F (MSigned.r a0) (MKeys.r a1) = ret ((md a0 a1) : Bool) := by
 unfold gd at hg
 obtain ⟨H0, H1⟩ := hg
 unfold F md
 try simp only [S0, MSigned.rs]
 refine call_to ((Z123.md a0.fHead).map iRow) (Z123.R_eq (a0 := a0.fHead) H0.1) ?_
 try simp only [S0, MSigned.rs]
 refine call_to (Z131.md a1 (Z123.md a0.fHead) a0.fSigs) (Z131.R_eq (a0 := a1) (a1 := (Z123.md a0.fHead)) (a2 := a0.fSigs) ⟨H1, ⟨(by
   have := Z123.len a0.fHead
   have := (H0.1.1).1
   have := (H0.1.2.1).1
   have := (H0.1.2.2).1
   try simp (disch := omega) only [LN, wi]
   first | omega | (simp; done) | (simp; omega)), fun _ _ => trivial⟩, H0.2⟩) ?_
 all_goals first | rfl | (simp only [S0, MSigned.rs, MP]; first | done | rfl)
theorem valid_ : Valid Tryz.prog Ev 244 con := VV (live := fun _ => []) (nt := 12) (run := fun _ x => F x.1 x.2) mix tab_ok (.cons Z123.valid_ (.cons Z131.valid_ .nil)) Tryz.func244 (by kernel_rfl) (fun _ _ => by kernel_rfl) (fun _ a _ _ hg => ⟨0, okF a.1 a.2 hg⟩)
end Z132
namespace Z133
def F (x0 : RSigned) : Ans := (call (Z115.R x0.fHead) fun v1 => (bif v1 then (bif (x0.fHead.fEpoch == 0) then (bif (x0.fHead.fKind == 1) then (bif (!x0.fHead.fFrozen) then (call (Z119.R (x0.fHead.fKeys, x0.fHead.fPrev)) fun v2 => (bif (x0.fHead.fZone == v2) then (call (Z132.R (x0, x0.fHead.fKeys)) fun v3 => ret (v3 : Bool)) else ret (false : Bool))) else ret (false : Bool)) else ret (false : Bool)) else ret (false : Bool)) else ret (false : Bool)))
def pats : List Pat := [.agg [.int .i64, .int .i64, .int .i64, .int .i64, .int .i64, .int .i64, .int .i64, .int .i64, .sl 3, .int .i64, .sl 3, .int .i64, .int .i64, .sl 3, .int .i64, .bool, .sl 184]]
def res : RP := .one (.rd (.bool))
def md (a0 : MSigned) : Bool := (bif (Z115.md a0.fHead) then (bif (a0.fHead.fEpoch == 0) then (bif (a0.fHead.fKind == 1) then (bif (!a0.fHead.fFrozen) then (bif (a0.fHead.fZone == (Z119.md a0.fHead.fKeys a0.fHead.fPrev)) then ((Z132.md a0 a0.fHead.fKeys) : Bool) else (false : Bool)) else (false : Bool)) else (false : Bool)) else (false : Bool)) else (false : Bool))
def gd (a0 : MSigned) : Prop := (MSigned.Sm (2 ^ 21) a0)
def acc (ls : List L) : RSigned := (RSigned.dec ls)
def R : RSigned → Option Bool := RR gd md
theorem R_eq {a0} (h : gd a0) : R (MSigned.r a0) = some (md a0) := RR_eq (a := a0) h
def con : Con := CN pats res acc R
theorem okF (a0 : MSigned) (hg : gd a0) : F (MSigned.r a0) = ret ((md a0) : Bool) := by
 unfold gd at hg
 have H0 := hg
 unfold F md
 try simp only [S0, MHead.rs, MSigned.rs]
 refine call_to (Z115.md a0.fHead) (Z115.R_eq (a0 := a0.fHead) H0.1) ?_
 refine bif_out ret (fun c1 => ?_) (fun _ => rfl)
 refine bif_out ret (fun c2 => ?_) (fun _ => rfl)
 refine bif_out ret (fun c3 => ?_) (fun _ => rfl)
 refine bif_out ret (fun c4 => ?_) (fun _ => rfl)
 refine call_to (Z119.md a0.fHead.fKeys a0.fHead.fPrev) (Z119.R_eq (a0 := a0.fHead.fKeys) (a1 := a0.fHead.fPrev) H0.1.1) ?_
 refine bif_out ret (fun c5 => ?_) (fun _ => rfl)
 refine call_to (Z132.md a0 a0.fHead.fKeys) (Z132.R_eq (a0 := a0) (a1 := a0.fHead.fKeys) ⟨H0, H0.1.1⟩) ?_
 all_goals first | rfl | (simp only [S0, MHead.rs, MSigned.rs, MP]; first | done | rfl)
theorem valid_ : Valid Tryz.prog Ev 214 con := VV (live := fun _ => []) (nt := 39) (run := fun _ x => F x) mix tab_ok (.cons Z115.valid_ (.cons Z119.valid_ (.cons Z132.valid_ .nil))) Tryz.func214 (by kernel_rfl) (fun _ _ => by kernel_rfl) (fun _ a _ _ hg => ⟨0, okF a hg⟩)
theorem br (a0 : MSigned) : md a0 = Z53.md a0 := by
 unfold md Z53.md
 simp only [Z132.md, Z131.br, Z123.br, Z115.br, Z119.br]
end Z133
namespace Z134
def F (x0 : RHead) : Ans := (call (Z123.R x0) fun v1 => (bif (lim (((1 : Int) + (v1.length : Int)) * 8)) then (call (Z118.R ([[L.int 233]] ++ v1)) fun v2 => ret (v2 : Int)) else none))
def pats : List Pat := [.agg [.int .i64, .int .i64, .int .i64, .int .i64, .int .i64, .int .i64, .int .i64, .int .i64, .sl 3, .int .i64, .sl 3, .int .i64, .int .i64, .sl 3, .int .i64, .bool]]
def res : RP := .one (.rd (.int .i64))
def md (a0 : MHead) : Int := ((Z118.md ([233] ++ (Z123.md a0))) : Int)
def gd (a0 : MHead) : Prop := (MHead.Sm (2 ^ 21) a0)
def acc (ls : List L) : RHead := (RHead.dec ls)
def R : RHead → Option Int := RR gd md
theorem R_eq {a0} (h : gd a0) : R (MHead.r a0) = some (md a0) := RR_eq (a := a0) h
def con : Con := CN pats res acc R
theorem okF (a0 : MHead) (hg : gd a0) : F (MHead.r a0) = ret ((md a0) : Int) := by
  unfold gd at hg
  have H0 := hg
  unfold F md
  try simp only [S0]
  refine call_to ((Z123.md a0).map iRow) (Z123.R_eq (a0 := a0) H0) ?_
  try simp only [S0]
  refine yes_ret (by
      have := Z123.len a0
      have := (H0.1).1
      have := (H0.2.1).1
      have := (H0.2.2).1
      refine lim_t ?_
      try simp (disch := omega) only [LN, wi]
      first | omega | (simp; done) | (simp; omega)) ?_
  refine call_to (Z118.md ([233] ++ (Z123.md a0))) ?_ ?_
  · have R_ := Z118.R_eq (a0 := ([233] ++ (Z123.md a0))) ⟨(by
        have := Z123.len a0
        have := (H0.1).1
        have := (H0.2.1).1
        have := (H0.2.2).1
        try simp (disch := omega) only [LN, wi]
        first | omega | (simp; done) | (simp; omega)), fun _ _ => trivial⟩
    first | exact R_ | (simp only [MP, S0] at R_ ⊢; first | exact R_ | (rw [← R_]; rfl))
  all_goals first | rfl | (simp only [S0, MP]; first | done | rfl)
theorem valid_ : Valid Tryz.prog Ev 305 con := VV (live := fun _ => []) (nt := 8) (run := fun _ x => F x) mix tab_ok (.cons Z123.valid_ (.cons Z118.valid_ .nil)) Tryz.func305 (by kernel_rfl) (fun _ _ => by kernel_rfl) (fun _ a _ _ hg => ⟨0, okF a hg⟩)
theorem br (a0 : MHead) : md a0 = Z54.md a0 := by
 unfold md Z54.md
 first
 | (simp only [Z123.br, Z118.br]; done)
 | (simp only [Z123.br, Z118.br]; rfl)
 | rfl
end Z134
namespace Z135
def F (x0 : RHead) (x1 : RHead) : Ans := (bif (x1.fZone == x0.fZone) then (bif (x1.fEpoch == (IntKind.i64.wrap (x0.fEpoch + 1))) then (call (Z134.R x0) fun v1 => (bif (x1.fPrev == v1) then ret ((decide (x1.fTime ≥ x0.fTime)) : Bool) else ret (false : Bool))) else ret (false : Bool)) else ret (false : Bool))
def pats : List Pat := [.agg [.int .i64, .int .i64, .int .i64, .int .i64, .int .i64, .int .i64, .int .i64, .int .i64, .sl 3, .int .i64, .sl 3, .int .i64, .int .i64, .sl 3, .int .i64, .bool], .agg [.int .i64, .int .i64, .int .i64, .int .i64, .int .i64, .int .i64, .int .i64, .int .i64, .sl 3, .int .i64, .sl 3, .int .i64, .int .i64, .sl 3, .int .i64, .bool]]
def res : RP := .one (.rd (.bool))
def md (a0 : MHead) (a1 : MHead) : Bool := (bif (a1.fZone == a0.fZone) then (bif (a1.fEpoch == (IntKind.i64.wrap (a0.fEpoch + 1))) then (bif (a1.fPrev == (Z134.md a0)) then ((decide (a1.fTime ≥ a0.fTime)) : Bool) else (false : Bool)) else (false : Bool)) else (false : Bool))
def gd (a0 : MHead) (a1 : MHead) : Prop := (MHead.Sm (2 ^ 21) a0)
def acc (ls : List L) : RHead × RHead := ((RHead.dec ls), (RHead.dec (dropT 16 ls)))
def R : (RHead × RHead) → Option Bool := RR (p2 gd) (u2 md)
theorem R_eq {a0} {a1} (h : gd a0 a1) : R ((MHead.r a0), (MHead.r a1)) = some (md a0 a1) := RR_eq (a := (a0, a1)) h
def con : Con := CN pats res acc R
theorem okF (a0 : MHead) (a1 : MHead) (hg : gd a0 a1) : F (MHead.r a0) (MHead.r a1) = ret ((md a0 a1) : Bool) := by
 unfold gd at hg
 have H0 := hg
 unfold F md
 try simp only [S0, MHead.rs]
 refine bif_out ret (fun c1 => ?_) (fun _ => rfl)
 refine bif_out ret (fun c2 => ?_) (fun _ => rfl)
 refine call_to (Z134.md a0) (Z134.R_eq (a0 := a0) H0) ?_
 refine bif_out ret (fun c3 => ?_) (fun _ => rfl)
 all_goals first | rfl | (simp only [S0, MHead.rs, MP]; first | done | rfl)
theorem valid_ : Valid Tryz.prog Ev 281 con := VV (live := fun _ => []) (nt := 32) (run := fun _ x => F x.1 x.2) mix tab_ok (.cons Z134.valid_ .nil) Tryz.func281 (by kernel_rfl) (fun _ _ => by kernel_rfl) (fun _ a _ _ hg => ⟨0, okF a.1 a.2 hg⟩)
end Z135
namespace Z136
def F (x0 : RHead) (x1 : RSigned) : Ans := (bif x0.fFrozen then ret (4 : Int) else (bif x1.fHead.fFrozen then ret (6 : Int) else (call (Z132.R (x1, x0.fKeys)) fun v1 => (bif (!v1) then ret (7 : Int) else ret (1 : Int)))))
def pats : List Pat := [.agg [.int .i64, .int .i64, .int .i64, .int .i64, .int .i64, .int .i64, .int .i64, .int .i64, .sl 3, .int .i64, .sl 3, .int .i64, .int .i64, .sl 3, .int .i64, .bool], .agg [.int .i64, .int .i64, .int .i64, .int .i64, .int .i64, .int .i64, .int .i64, .int .i64, .sl 3, .int .i64, .sl 3, .int .i64, .int .i64, .sl 3, .int .i64, .bool, .sl 184]]
def res : RP := .one (.rd (.int .i64))
def md (a0 : MHead) (a1 : MSigned) : Int := (bif a0.fFrozen then (4 : Int) else (bif a1.fHead.fFrozen then (6 : Int) else (bif (!(Z132.md a1 a0.fKeys)) then (7 : Int) else (1 : Int))))
def gd (a0 : MHead) (a1 : MSigned) : Prop := (MHead.Sm (2 ^ 21) a0) ∧ (MSigned.Sm (2 ^ 21) a1)
def acc (ls : List L) : RHead × RSigned := ((RHead.dec ls), (RSigned.dec (dropT 16 ls)))
def R : (RHead × RSigned) → Option Int := RR (p2 gd) (u2 md)
theorem R_eq {a0} {a1} (h : gd a0 a1) : R ((MHead.r a0), (MSigned.r a1)) = some (md a0 a1) := RR_eq (a := (a0, a1)) h
def con : Con := CN pats res acc R
theorem okF (a0 : MHead) (a1 : MSigned) (hg : gd a0 a1) : F (MHead.r a0) (MSigned.r a1) = ret ((md a0 a1) : Int) := by
 unfold gd at hg
 obtain ⟨H0, H1⟩ := hg
 unfold F md
 try simp only [S0, MHead.rs, MSigned.rs]
 refine bif_out ret (fun _ => rfl) (fun c1 => ?_)
 refine bif_out ret (fun _ => rfl) (fun c2 => ?_)
 refine call_to (Z132.md a1 a0.fKeys) (Z132.R_eq (a0 := a1) (a1 := a0.fKeys) ⟨H1, H0.1⟩) ?_
 refine bif_out ret (fun _ => rfl) (fun _ => rfl)
theorem valid_ : Valid Tryz.prog Ev 282 con := VV (live := fun _ => []) (nt := 18) (run := fun _ x => F x.1 x.2) mix tab_ok (.cons Z132.valid_ .nil) Tryz.func282 (by kernel_rfl) (fun _ _ => by kernel_rfl) (fun _ a _ _ hg => ⟨0, okF a.1 a.2 hg⟩)
end Z136
namespace Z137
inductive Pt where
 | p0 (a : List (List L)) (b : List (List L)) (c : Int) (d : Int)
def pid : Pt → Nat
 | .p0 .. => 4
def pvs : Pt → List V
 | .p0 a b c d => [.sl none 3 a, .sl none 3 b, .int .i64 c, .int .i64 d]
def phs : Pt → List Root
 | .p0 a b c d => []
def step (J : Pt → Ans) : Pt → Ans
 | .p0 a b c d => (bif (decide (d < c)) then (bif (decide ((0 : Int) ≤ d)) then (bif (decide (d < (a.length : Int))) then (bif (decide ((0 : Int) ≤ d)) then (bif (decide (d < (b.length : Int))) then (bif ((iAt a (Int.toNat d)) != (iAt b (Int.toNat d))) then ret (false : Bool) else J (.p0 a b c (IntKind.i64.wrap (d + 1)))) else none) else none) else none) else none) else ret (true : Bool))
def start (J : Pt → Ans) (x0 : List (List L)) (x1 : List (List L)) : Ans := (bif ((x0.length : Int) != (x1.length : Int)) then ret (false : Bool) else J (.p0 x0 x1 (x0.length : Int) 0))
def live : Nat → Live := fun i => match i with | 4 => [(0, none), (1, none), (12, none), (13, none)] | _ => []
def pats : List Pat := [.rd (.sl 3), .rd (.sl 3)]
def res : RP := .one (.rd (.bool))
abbrev E : Env := { T := assoc Tab, G := conG [], nt := 26 }
theorem step_eq (I : Heads) (p : Pt) : enterC E live I (pid p) (bodyOf Tryz.f193) (stOf (live (pid p)) (pvs p) (phs p)) (doneK E Tryz.f193 res) = step (fun q => I (pid q) (pvs q) (phs q)) p := by
 cases p <;> kernel_rfl
theorem start_eq (I : Heads) (ls : List L) : runC E live I (bodyOf Tryz.f193) (initS pats ls) (doneK E Tryz.f193 res) = start (fun q => I (pid q) (pvs q) (phs q)) (ls.headD .hole).toSl ((dropT 1 ls).headD .hole).toSl := by kernel_rfl
theorem run_eq (n : Nat) (ls : List L) : runF E live Tryz.f193 res n (initS pats ls) = start (iter step n) (ls.headD .hole).toSl ((dropT 1 ls).headD .hole).toSl := runF_iter (id := pid) (vs := pvs) (hs := phs) (step := step) (start := fun J => start J (ls.headD .hole).toSl ((dropT 1 ls).headD .hole).toSl) step_eq (fun I => start_eq I ls) n
def md (a0 : List Int) (a1 : List Int) : Bool := (bif ((a0.length : Int) != (a1.length : Int)) then (false : Bool) else (loopM (S := Unit) (β := Bool) (fun (i2 : Nat) (s4 : Unit) => (bif ((a0.getD i2 0) != (a1.getD i2 0)) then (.inr (false : Bool)) else (.inl ()))) (fun (s4 : Unit) => (true : Bool)) a0.length 0 ()))
def gd (a0 : List Int) (a1 : List Int) : Prop := (SmL (2 ^ 38) (fun y : Int => True) a0) ∧ (SmL (2 ^ 38) (fun y : Int => True) a1)
def acc (ls : List L) : List (List L) × List (List L) := ((ls.headD .hole).toSl, ((dropT 1 ls).headD .hole).toSl)
def R : (List (List L) × List (List L)) → Option Bool := RR (p2 gd) (u2 md)
theorem R_eq {a0} {a1} (h : gd a0 a1) : R ((a0.map iRow), (a1.map iRow)) = some (md a0 a1) := RR_eq (a := (a0, a1)) h
def con : Con := CN pats res acc R
theorem okF (a0 : List Int) (a1 : List Int) (hg : gd a0 a1) : ∃ n, start (iter step n) (a0.map iRow) (a1.map iRow) = ret ((md a0 a1) : Bool) := by
  unfold gd at hg
  obtain ⟨H0, H1⟩ := hg
  unfold start md
  try simp only [S0]
  refine ex_bif ret (fun _ => ⟨0, rfl⟩) (fun c1 => ?_)
  have dc1 := c1
  try simp only [DC] at dc1
  have Bh3 : a0.length ≤ maxLen := (by
      have := (H0).1
      try simp only [maxLen] at *
      omega)
  refine ex_pt (p := Pt.p0 (a0.map iRow) (a1.map iRow) (a0.length : Int) 0) (by first | rfl | (simp only [S0, MP]; done) | (simp only [MP]; rfl)) ?_
  refine loopM_ok (pt := fun (i2 : Nat) (s4 : Unit) => Pt.p0 (a0.map iRow) (a1.map iRow) (a0.length : Int) (i2 : Int)) (s := (() : Unit)) (out := ret) (fun _ _ => True) (fun J i2 s4 h3 hih3 => ?_) (fun s4 hih3 => ?_) trivial
  · simp only [step, S0]
    have bb_ := Bh3
    simp only [maxLen] at bb_
    have := (H0).1
    refine Rnd.yes (by apply decide_eq_true; omega) ?_
    refine Rnd.yes zle_dec ?_
    refine Rnd.yes (lt_dec h3) ?_
    refine Rnd.yes zle_dec ?_
    refine Rnd.yes (by
        have := (H1).1
        refine decide_eq_true ?_
        try simp (disch := omega) only [LN, wi]
        first | omega | (simp; done) | (simp; omega)) ?_
    refine Rnd.bif (fun _ => Rnd.inr rfl) (fun c5 => ?_)
    refine Rnd.inl trivial ?_
    rw [wrap_succ h3 Bh3]
    all_goals first | rfl | (simp only [S0, MP]; first | done | rfl)
  · simp only [step, S0]
    have := (H0).1
    refine ex_no (by apply decide_eq_false; omega) ?_
    refine ⟨0, ?_⟩
    all_goals first | rfl | (simp only [S0, MP]; first | done | rfl)
theorem valid_ : Valid Tryz.prog Ev 193 con := VV (run := fun n x => start (iter step n) x.1 x.2) mix tab_ok .nil Tryz.func193 (by kernel_rfl) run_eq (fun _ a _ _ hg => okF a.1 a.2 hg)
theorem md_eq (a0 : List Int) (a1 : List Int) : md a0 a1 = eqB a0 a1 := by
 unfold md
 refine loop_eqB (0) (fun i s h h2 => ?_) (fun s => rfl)
 simp only [bne, int_beq, bool_beq, ba_beq]
 cases eqB _ _ <;> rfl
end Z137
namespace Z138
def F (x0 : RKeys) (x1 : RKeys) : Ans := (call (Z137.R (x0.fList, x1.fList)) fun v1 => (bif v1 then ret ((x0.fNeed == x1.fNeed) : Bool) else ret (false : Bool)))
def pats : List Pat := [.agg [.sl 3, .int .i64], .agg [.sl 3, .int .i64]]
def res : RP := .one (.rd (.bool))
def md (a0 : MKeys) (a1 : MKeys) : Bool := (bif (Z137.md a0.fList a1.fList) then ((a0.fNeed == a1.fNeed) : Bool) else (false : Bool))
def gd (a0 : MKeys) (a1 : MKeys) : Prop := (MKeys.Sm (2 ^ 21) a0) ∧ (MKeys.Sm (2 ^ 21) a1)
def acc (ls : List L) : RKeys × RKeys := ((RKeys.dec ls), (RKeys.dec (dropT 2 ls)))
def R : (RKeys × RKeys) → Option Bool := RR (p2 gd) (u2 md)
theorem R_eq {a0} {a1} (h : gd a0 a1) : R ((MKeys.r a0), (MKeys.r a1)) = some (md a0 a1) := RR_eq (a := (a0, a1)) h
def con : Con := CN pats res acc R
theorem okF (a0 : MKeys) (a1 : MKeys) (hg : gd a0 a1) : F (MKeys.r a0) (MKeys.r a1) = ret ((md a0 a1) : Bool) := by
 unfold gd at hg
 obtain ⟨H0, H1⟩ := hg
 unfold F md
 try simp only [S0, MKeys.rs]
 refine call_to (Z137.md a0.fList a1.fList) (Z137.R_eq (a0 := a0.fList) (a1 := a1.fList) ⟨(H0.mono (by decide) (fun x hx => trivial)), (H1.mono (by decide) (fun x hx => trivial))⟩) ?_
 refine bif_out ret (fun c1 => ?_) (fun _ => rfl)
 all_goals first | rfl | (simp only [S0, MKeys.rs, MP]; first | done | rfl)
theorem valid_ : Valid Tryz.prog Ev 192 con := VV (live := fun _ => []) (nt := 17) (run := fun _ x => F x.1 x.2) mix tab_ok (.cons Z137.valid_ .nil) Tryz.func192 (by kernel_rfl) (fun _ _ => by kernel_rfl) (fun _ a _ _ hg => ⟨0, okF a.1 a.2 hg⟩)
theorem md_eq (a0 : MKeys) (a1 : MKeys) : md a0 a1 = eqB a0 a1 := by
 unfold md
 cases a0; cases a1
 rw [Bool.eq_iff_iff]
 simp [eqB_iff, ba_beq, MKeys.mk.injEq, Z137.md_eq]
 try (constructor <;> (intro h; simp_all))
end Z138
namespace Z139
def F (x0 : RHead) (x1 : RHead) : Ans := (bif (x0.fCount == x1.fCount) then ret ((x0.fRoot == x1.fRoot) : Bool) else ret (false : Bool))
def pats : List Pat := [.agg [.int .i64, .int .i64, .int .i64, .int .i64, .int .i64, .int .i64, .int .i64, .int .i64, .sl 3, .int .i64, .sl 3, .int .i64, .int .i64, .sl 3, .int .i64, .bool], .agg [.int .i64, .int .i64, .int .i64, .int .i64, .int .i64, .int .i64, .int .i64, .int .i64, .sl 3, .int .i64, .sl 3, .int .i64, .int .i64, .sl 3, .int .i64, .bool]]
def res : RP := .one (.rd (.bool))
def md (a0 : MHead) (a1 : MHead) : Bool := (bif (a0.fCount == a1.fCount) then ((a0.fRoot == a1.fRoot) : Bool) else (false : Bool))
def gd (a0 : MHead) (a1 : MHead) : Prop := True
def acc (ls : List L) : RHead × RHead := ((RHead.dec ls), (RHead.dec (dropT 16 ls)))
def R : (RHead × RHead) → Option Bool := RR (p2 gd) (u2 md)
theorem R_eq {a0} {a1} (h : gd a0 a1) : R ((MHead.r a0), (MHead.r a1)) = some (md a0 a1) := RR_eq (a := (a0, a1)) h
def con : Con := CN pats res acc R
theorem okF (a0 : MHead) (a1 : MHead) (hg : gd a0 a1) : F (MHead.r a0) (MHead.r a1) = ret ((md a0 a1) : Bool) := by
 unfold F md
 try simp only [S0, MHead.rs]
 refine bif_out ret (fun c1 => ?_) (fun _ => rfl)
 all_goals first | rfl | (simp only [S0, MHead.rs, MP]; first | done | rfl)
theorem valid_ : Valid Tryz.prog Ev 306 con := VV (live := fun _ => []) (nt := 17) (run := fun _ x => F x.1 x.2) mix tab_ok .nil Tryz.func306 (by kernel_rfl) (fun _ _ => by kernel_rfl) (fun _ a _ _ hg => ⟨0, okF a.1 a.2 hg⟩)
theorem br (a0 : MHead) (a1 : MHead) : md a0 a1 = Z58.md a0 a1 := by
 unfold md Z58.md
 first
 | (simp only [id]; done)
 | (simp only [id]; rfl)
 | rfl
end Z139
namespace Z140
def F (x0 : RHead) (x1 : RSigned) : Ans := (bif x0.fFrozen then ret (4 : Int) else (call (Z112.R x0.fHeirs) fun v1 => (bif v1 then ret (5 : Int) else (bif (decide (x1.fHead.fTime < (IntKind.i64.wrap (x0.fUntil + x0.fWait)))) then ret (5 : Int) else (bif x1.fHead.fFrozen then ret (6 : Int) else (call (Z138.R (x1.fHead.fKeys, x0.fHeirs)) fun v2 => (bif (!v2) then ret (6 : Int) else (call (Z139.R (x1.fHead, x0)) fun v3 => (bif (!v3) then ret (6 : Int) else (call (Z132.R (x1, x0.fHeirs)) fun v4 => (bif (!v4) then ret (7 : Int) else ret (1 : Int))))))))))))
def pats : List Pat := [.agg [.int .i64, .int .i64, .int .i64, .int .i64, .int .i64, .int .i64, .int .i64, .int .i64, .sl 3, .int .i64, .sl 3, .int .i64, .int .i64, .sl 3, .int .i64, .bool], .agg [.int .i64, .int .i64, .int .i64, .int .i64, .int .i64, .int .i64, .int .i64, .int .i64, .sl 3, .int .i64, .sl 3, .int .i64, .int .i64, .sl 3, .int .i64, .bool, .sl 184]]
def res : RP := .one (.rd (.int .i64))
def md (a0 : MHead) (a1 : MSigned) : Int := (bif a0.fFrozen then (4 : Int) else (bif (Z112.md a0.fHeirs) then (5 : Int) else (bif (decide (a1.fHead.fTime < (IntKind.i64.wrap (a0.fUntil + a0.fWait)))) then (5 : Int) else (bif a1.fHead.fFrozen then (6 : Int) else (bif (!(Z138.md a1.fHead.fKeys a0.fHeirs)) then (6 : Int) else (bif (!(Z139.md a1.fHead a0)) then (6 : Int) else (bif (!(Z132.md a1 a0.fHeirs)) then (7 : Int) else (1 : Int))))))))
def gd (a0 : MHead) (a1 : MSigned) : Prop := (MHead.Sm (2 ^ 21) a0) ∧ (MSigned.Sm (2 ^ 21) a1)
def acc (ls : List L) : RHead × RSigned := ((RHead.dec ls), (RSigned.dec (dropT 16 ls)))
def R : (RHead × RSigned) → Option Int := RR (p2 gd) (u2 md)
theorem R_eq {a0} {a1} (h : gd a0 a1) : R ((MHead.r a0), (MSigned.r a1)) = some (md a0 a1) := RR_eq (a := (a0, a1)) h
def con : Con := CN pats res acc R
theorem okF (a0 : MHead) (a1 : MSigned) (hg : gd a0 a1) : F (MHead.r a0) (MSigned.r a1) = ret ((md a0 a1) : Int) := by
 unfold gd at hg
 obtain ⟨H0, H1⟩ := hg
 unfold F md
 try simp only [S0, MHead.rs, MSigned.rs]
 refine bif_out ret (fun _ => rfl) (fun c1 => ?_)
 refine call_to (Z112.md a0.fHeirs) (Z112.R_eq (a0 := a0.fHeirs) trivial) ?_
 refine bif_out ret (fun _ => rfl) (fun c2 => ?_)
 refine bif_out ret (fun _ => rfl) (fun c3 => ?_)
 refine bif_out ret (fun _ => rfl) (fun c4 => ?_)
 refine call_to (Z138.md a1.fHead.fKeys a0.fHeirs) (Z138.R_eq (a0 := a1.fHead.fKeys) (a1 := a0.fHeirs) ⟨H1.1.1, H0.2.1⟩) ?_
 refine bif_out ret (fun _ => rfl) (fun c5 => ?_)
 refine call_to (Z139.md a1.fHead a0) (Z139.R_eq (a0 := a1.fHead) (a1 := a0) trivial) ?_
 refine bif_out ret (fun _ => rfl) (fun c6 => ?_)
 refine call_to (Z132.md a1 a0.fHeirs) (Z132.R_eq (a0 := a1) (a1 := a0.fHeirs) ⟨H1, H0.2.1⟩) ?_
 refine bif_out ret (fun _ => rfl) (fun _ => rfl)
theorem valid_ : Valid Tryz.prog Ev 283 con := VV (live := fun _ => []) (nt := 48) (run := fun _ x => F x.1 x.2) mix tab_ok (.cons Z112.valid_ (.cons Z138.valid_ (.cons Z139.valid_ (.cons Z132.valid_ .nil)))) Tryz.func283 (by kernel_rfl) (fun _ _ => by kernel_rfl) (fun _ a _ _ hg => ⟨0, okF a.1 a.2 hg⟩)
end Z140
namespace Z141
def F (x0 : RHead) (x1 : RSigned) : Ans := (call (Z139.R (x1.fHead, x0)) fun v1 => (bif v1 then (call (Z138.R (x1.fHead.fJudge, x0.fJudge)) fun v2 => (bif v2 then (call (Z138.R (x1.fHead.fHeirs, x0.fHeirs)) fun v3 => (bif v3 then (call (Z112.R x0.fJudge) fun v4 => (bif v4 then ret (5 : Int) else (bif (x1.fHead.fFrozen == x0.fFrozen) then ret (6 : Int) else (bif (!(x1.fHead.fWait == x0.fWait)) then ret (6 : Int) else (bif x1.fHead.fFrozen then (call (Z138.R (x1.fHead.fKeys, x0.fKeys)) fun v5 => (bif (!v5) then ret (6 : Int) else (call (Z132.R (x1, x0.fJudge)) fun v6 => (bif (!v6) then ret (7 : Int) else ret (1 : Int))))) else (call (Z132.R (x1, x0.fJudge)) fun v7 => (bif (!v7) then ret (7 : Int) else ret (1 : Int)))))))) else (call (Z112.R x0.fJudge) fun v8 => (bif v8 then ret (5 : Int) else (bif (x1.fHead.fFrozen == x0.fFrozen) then ret (6 : Int) else ret (6 : Int)))))) else (call (Z112.R x0.fJudge) fun v9 => (bif v9 then ret (5 : Int) else (bif (x1.fHead.fFrozen == x0.fFrozen) then ret (6 : Int) else ret (6 : Int)))))) else (call (Z112.R x0.fJudge) fun v10 => (bif v10 then ret (5 : Int) else (bif (x1.fHead.fFrozen == x0.fFrozen) then ret (6 : Int) else ret (6 : Int))))))
def pats : List Pat := [.agg [.int .i64, .int .i64, .int .i64, .int .i64, .int .i64, .int .i64, .int .i64, .int .i64, .sl 3, .int .i64, .sl 3, .int .i64, .int .i64, .sl 3, .int .i64, .bool], .agg [.int .i64, .int .i64, .int .i64, .int .i64, .int .i64, .int .i64, .int .i64, .int .i64, .sl 3, .int .i64, .sl 3, .int .i64, .int .i64, .sl 3, .int .i64, .bool, .sl 184]]
def res : RP := .one (.rd (.int .i64))
def md (a0 : MHead) (a1 : MSigned) : Int := (bif (Z139.md a1.fHead a0) then (bif (Z138.md a1.fHead.fJudge a0.fJudge) then (bif (Z138.md a1.fHead.fHeirs a0.fHeirs) then (bif (Z112.md a0.fJudge) then (5 : Int) else (bif (a1.fHead.fFrozen == a0.fFrozen) then (6 : Int) else (bif (!(a1.fHead.fWait == a0.fWait)) then (6 : Int) else (bif a1.fHead.fFrozen then (bif (!(Z138.md a1.fHead.fKeys a0.fKeys)) then (6 : Int) else (bif (!(Z132.md a1 a0.fJudge)) then (7 : Int) else (1 : Int))) else (bif (!(Z132.md a1 a0.fJudge)) then (7 : Int) else (1 : Int)))))) else (bif (Z112.md a0.fJudge) then (5 : Int) else (bif (a1.fHead.fFrozen == a0.fFrozen) then (6 : Int) else (6 : Int)))) else (bif (Z112.md a0.fJudge) then (5 : Int) else (bif (a1.fHead.fFrozen == a0.fFrozen) then (6 : Int) else (6 : Int)))) else (bif (Z112.md a0.fJudge) then (5 : Int) else (bif (a1.fHead.fFrozen == a0.fFrozen) then (6 : Int) else (6 : Int))))
def gd (a0 : MHead) (a1 : MSigned) : Prop := (MHead.Sm (2 ^ 21) a0) ∧ (MSigned.Sm (2 ^ 21) a1)
def acc (ls : List L) : RHead × RSigned := ((RHead.dec ls), (RSigned.dec (dropT 16 ls)))
def R : (RHead × RSigned) → Option Int := RR (p2 gd) (u2 md)
theorem R_eq {a0} {a1} (h : gd a0 a1) : R ((MHead.r a0), (MSigned.r a1)) = some (md a0 a1) := RR_eq (a := (a0, a1)) h
def con : Con := CN pats res acc R
theorem okF (a0 : MHead) (a1 : MSigned) (hg : gd a0 a1) : F (MHead.r a0) (MSigned.r a1) = ret ((md a0 a1) : Int) := by
  unfold gd at hg
  obtain ⟨H0, H1⟩ := hg
  unfold F md
  try simp only [S0, MHead.rs, MSigned.rs]
  refine call_to (Z139.md a1.fHead a0) (Z139.R_eq (a0 := a1.fHead) (a1 := a0) trivial) ?_
  refine bif_out ret (fun c1 => ?_) (fun c1 => ?_)
  · refine call_to (Z138.md a1.fHead.fJudge a0.fJudge) (Z138.R_eq (a0 := a1.fHead.fJudge) (a1 := a0.fJudge) ⟨H1.1.2.2, H0.2.2⟩) ?_
    refine bif_out ret (fun c2 => ?_) (fun c2 => ?_)
    · refine call_to (Z138.md a1.fHead.fHeirs a0.fHeirs) (Z138.R_eq (a0 := a1.fHead.fHeirs) (a1 := a0.fHeirs) ⟨H1.1.2.1, H0.2.1⟩) ?_
      refine bif_out ret (fun c3 => ?_) (fun c3 => ?_)
      · refine call_to (Z112.md a0.fJudge) (Z112.R_eq (a0 := a0.fJudge) trivial) ?_
        refine bif_out ret (fun _ => rfl) (fun c4 => ?_)
        refine bif_out ret (fun _ => rfl) (fun c5 => ?_)
        refine bif_out ret (fun _ => rfl) (fun c6 => ?_)
        refine bif_out ret (fun c7 => ?_) (fun c7 => ?_)
        · refine call_to (Z138.md a1.fHead.fKeys a0.fKeys) (Z138.R_eq (a0 := a1.fHead.fKeys) (a1 := a0.fKeys) ⟨H1.1.1, H0.1⟩) ?_
          refine bif_out ret (fun _ => rfl) (fun c8 => ?_)
          refine call_to (Z132.md a1 a0.fJudge) (Z132.R_eq (a0 := a1) (a1 := a0.fJudge) ⟨H1, H0.2.2⟩) ?_
          refine bif_out ret (fun _ => rfl) (fun _ => rfl)
        · refine call_to (Z132.md a1 a0.fJudge) (Z132.R_eq (a0 := a1) (a1 := a0.fJudge) ⟨H1, H0.2.2⟩) ?_
          refine bif_out ret (fun _ => rfl) (fun _ => rfl)
      · refine call_to (Z112.md a0.fJudge) (Z112.R_eq (a0 := a0.fJudge) trivial) ?_
        refine bif_out ret (fun _ => rfl) (fun c11 => ?_)
        refine bif_out ret (fun _ => rfl) (fun _ => rfl)
    · refine call_to (Z112.md a0.fJudge) (Z112.R_eq (a0 := a0.fJudge) trivial) ?_
      refine bif_out ret (fun _ => rfl) (fun c13 => ?_)
      refine bif_out ret (fun _ => rfl) (fun _ => rfl)
  · refine call_to (Z112.md a0.fJudge) (Z112.R_eq (a0 := a0.fJudge) trivial) ?_
    refine bif_out ret (fun _ => rfl) (fun c15 => ?_)
    refine bif_out ret (fun _ => rfl) (fun _ => rfl)
theorem valid_ : Valid Tryz.prog Ev 284 con := VV (live := fun _ => []) (nt := 65) (run := fun _ x => F x.1 x.2) mix tab_ok (.cons Z139.valid_ (.cons Z138.valid_ (.cons Z112.valid_ (.cons Z132.valid_ .nil)))) Tryz.func284 (by kernel_rfl) (fun _ _ => by kernel_rfl) (fun _ a _ _ hg => ⟨0, okF a.1 a.2 hg⟩)
end Z141
namespace Z142
def F (x0 : RHead) (x1 : RSigned) : Ans := (call (Z115.R x0) fun v1 => (bif (!v1) then ret (2 : Int) else (call (Z115.R x1.fHead) fun v2 => (bif (!v2) then ret (2 : Int) else (call (Z135.R (x0, x1.fHead)) fun v3 => (bif (!v3) then ret (3 : Int) else (bif (x1.fHead.fKind == 1) then (call (Z136.R (x0, x1)) fun v4 => ret (v4 : Int)) else (bif (x1.fHead.fKind == 2) then (call (Z140.R (x0, x1)) fun v5 => ret (v5 : Int)) else (call (Z141.R (x0, x1)) fun v6 => ret (v6 : Int))))))))))
def pats : List Pat := [.agg [.int .i64, .int .i64, .int .i64, .int .i64, .int .i64, .int .i64, .int .i64, .int .i64, .sl 3, .int .i64, .sl 3, .int .i64, .int .i64, .sl 3, .int .i64, .bool], .agg [.int .i64, .int .i64, .int .i64, .int .i64, .int .i64, .int .i64, .int .i64, .int .i64, .sl 3, .int .i64, .sl 3, .int .i64, .int .i64, .sl 3, .int .i64, .bool, .sl 184]]
def res : RP := .one (.rd (.int .i64))
def md (a0 : MHead) (a1 : MSigned) : Int := (bif (!(Z115.md a0)) then (2 : Int) else (bif (!(Z115.md a1.fHead)) then (2 : Int) else (bif (!(Z135.md a0 a1.fHead)) then (3 : Int) else (bif (a1.fHead.fKind == 1) then ((Z136.md a0 a1) : Int) else (bif (a1.fHead.fKind == 2) then ((Z140.md a0 a1) : Int) else ((Z141.md a0 a1) : Int))))))
def gd (a0 : MHead) (a1 : MSigned) : Prop := (MHead.Sm (2 ^ 21) a0) ∧ (MSigned.Sm (2 ^ 21) a1)
def acc (ls : List L) : RHead × RSigned := ((RHead.dec ls), (RSigned.dec (dropT 16 ls)))
def R : (RHead × RSigned) → Option Int := RR (p2 gd) (u2 md)
theorem R_eq {a0} {a1} (h : gd a0 a1) : R ((MHead.r a0), (MSigned.r a1)) = some (md a0 a1) := RR_eq (a := (a0, a1)) h
def con : Con := CN pats res acc R
theorem okF (a0 : MHead) (a1 : MSigned) (hg : gd a0 a1) : F (MHead.r a0) (MSigned.r a1) = ret ((md a0 a1) : Int) := by
  unfold gd at hg
  obtain ⟨H0, H1⟩ := hg
  unfold F md
  try simp only [S0, MHead.rs, MSigned.rs]
  refine call_to (Z115.md a0) (Z115.R_eq (a0 := a0) H0) ?_
  refine bif_out ret (fun _ => rfl) (fun c1 => ?_)
  refine call_to (Z115.md a1.fHead) (Z115.R_eq (a0 := a1.fHead) H1.1) ?_
  refine bif_out ret (fun _ => rfl) (fun c2 => ?_)
  refine call_to (Z135.md a0 a1.fHead) (Z135.R_eq (a0 := a0) (a1 := a1.fHead) H0) ?_
  refine bif_out ret (fun _ => rfl) (fun c3 => ?_)
  refine bif_out ret (fun c4 => ?_) (fun c4 => ?_)
  · refine call_to (Z136.md a0 a1) (Z136.R_eq (a0 := a0) (a1 := a1) ⟨H0, H1⟩) ?_
    all_goals first | rfl | (simp only [S0, MHead.rs, MSigned.rs, MP]; first | done | rfl)
  · refine bif_out ret (fun c5 => ?_) (fun c5 => ?_)
    · refine call_to (Z140.md a0 a1) (Z140.R_eq (a0 := a0) (a1 := a1) ⟨H0, H1⟩) ?_
      all_goals first | rfl | (simp only [S0, MHead.rs, MSigned.rs, MP]; first | done | rfl)
    · refine call_to (Z141.md a0 a1) (Z141.R_eq (a0 := a0) (a1 := a1) ⟨H0, H1⟩) ?_
      all_goals first | rfl | (simp only [S0, MHead.rs, MSigned.rs, MP]; first | done | rfl)
theorem valid_ : Valid Tryz.prog Ev 245 con := VV (live := fun _ => []) (nt := 40) (run := fun _ x => F x.1 x.2) mix tab_ok (.cons Z115.valid_ (.cons Z135.valid_ (.cons Z136.valid_ (.cons Z140.valid_ (.cons Z141.valid_ .nil))))) Tryz.func245 (by kernel_rfl) (fun _ _ => by kernel_rfl) (fun _ a _ _ hg => ⟨0, okF a.1 a.2 hg⟩)
theorem br (a0 : MHead) (a1 : MSigned) : md a0 a1 = Z61.md a0 a1 := by
  unfold md Z61.md Z135.md Z136.md Z140.md Z141.md Z132.md Z55.md Z59.md Z60.md
  simp only [Z115.br, Z134.br, Z131.br, Z123.br, Z112.br, Z138.md_eq, Z57.md_eq, Z139.br, bne]
  cases Z42.md a0
  · rfl
  cases h2 : Z42.md a1.fHead
  · rfl
  obtain ⟨⟨k1, k2⟩, _⟩ := Z42.tr h2
  have ht : decide (a1.fHead.fTime < a0.fTime) = !decide (a1.fHead.fTime ≥ a0.fTime) := by
    rw [Bool.eq_iff_iff]; simp
  rw [ht]
  cases a1.fHead.fZone == a0.fZone
  · rfl
  cases a1.fHead.fEpoch == IntKind.i64.wrap (a0.fEpoch + 1)
  · rfl
  cases a1.fHead.fPrev == Z54.md a0
  · rfl
  cases decide (a1.fHead.fTime ≥ a0.fTime)
  · rfl
  have hk : a1.fHead.fKind = 1 ∨ a1.fHead.fKind = 2 ∨ a1.fHead.fKind = 3 := by omega
  generalize Z52.md a0.fKeys (Z47.md a1.fHead) a1.fSigs = s1
  generalize Z52.md a0.fHeirs (Z47.md a1.fHead) a1.fSigs = s2
  generalize Z52.md a0.fJudge (Z47.md a1.fHead) a1.fSigs = s3
  generalize Z41.md a0.fHeirs = n1
  generalize Z41.md a0.fJudge = n2
  generalize decide (a1.fHead.fTime < IntKind.i64.wrap (a0.fUntil + a0.fWait)) = d1
  generalize eqB a1.fHead.fKeys a0.fHeirs = e1
  generalize eqB a1.fHead.fJudge a0.fJudge = e2
  generalize eqB a1.fHead.fHeirs a0.fHeirs = e3
  generalize eqB a1.fHead.fKeys a0.fKeys = e4
  generalize Z58.md a1.fHead a0 = c1
  generalize (a1.fHead.fWait == a0.fWait) = w1
  generalize a1.fHead.fFrozen = f1
  generalize a0.fFrozen = f0
  rcases hk with hk | hk | hk <;> rw [hk]
  · cases f0 <;> cases f1 <;> cases s1 <;> rfl
  · cases f0 <;> cases n1 <;> cases d1 <;> cases f1 <;> cases e1 <;> cases c1 <;> cases s2 <;> rfl
  · cases n2
    · cases f1 <;> cases f0 <;> cases c1 <;> cases e2 <;> cases e3 <;> cases w1 <;> cases e4 <;> cases s3 <;> rfl
    · cases c1 <;> cases e2 <;> cases e3 <;> rfl
end Z142
namespace Z143
def F (x0 : RHead) (x1 : RSigned) : Ans := (call (Z142.R (x0, x1)) fun v1 => ret ((v1 == 1) : Bool))
def pats : List Pat := [.agg [.int .i64, .int .i64, .int .i64, .int .i64, .int .i64, .int .i64, .int .i64, .int .i64, .sl 3, .int .i64, .sl 3, .int .i64, .int .i64, .sl 3, .int .i64, .bool], .agg [.int .i64, .int .i64, .int .i64, .int .i64, .int .i64, .int .i64, .int .i64, .int .i64, .sl 3, .int .i64, .sl 3, .int .i64, .int .i64, .sl 3, .int .i64, .bool, .sl 184]]
def res : RP := .one (.rd (.bool))
def md (a0 : MHead) (a1 : MSigned) : Bool := (((Z142.md a0 a1) == 1) : Bool)
def gd (a0 : MHead) (a1 : MSigned) : Prop := (MHead.Sm (2 ^ 21) a0) ∧ (MSigned.Sm (2 ^ 21) a1)
def acc (ls : List L) : RHead × RSigned := ((RHead.dec ls), (RSigned.dec (dropT 16 ls)))
def R : (RHead × RSigned) → Option Bool := RR (p2 gd) (u2 md)
theorem R_eq {a0} {a1} (h : gd a0 a1) : R ((MHead.r a0), (MSigned.r a1)) = some (md a0 a1) := RR_eq (a := (a0, a1)) h
def con : Con := CN pats res acc R
theorem okF (a0 : MHead) (a1 : MSigned) (hg : gd a0 a1) : F (MHead.r a0) (MSigned.r a1) = ret ((md a0 a1) : Bool) := by
 unfold gd at hg
 obtain ⟨H0, H1⟩ := hg
 unfold F md
 try simp only [S0]
 refine call_to (Z142.md a0 a1) (Z142.R_eq (a0 := a0) (a1 := a1) ⟨H0, H1⟩) ?_
 all_goals first | rfl | (simp only [S0, MP]; first | done | rfl)
theorem valid_ : Valid Tryz.prog Ev 215 con := VV (live := fun _ => []) (nt := 9) (run := fun _ x => F x.1 x.2) mix tab_ok (.cons Z142.valid_ .nil) Tryz.func215 (by kernel_rfl) (fun _ _ => by kernel_rfl) (fun _ a _ _ hg => ⟨0, okF a.1 a.2 hg⟩)
theorem br (a0 : MHead) (a1 : MSigned) : md a0 a1 = Z62.md a0 a1 := by
 unfold md Z62.md
 first
 | (simp only [Z142.br]; done)
 | (simp only [Z142.br]; rfl)
 | rfl
end Z143
namespace Z144
inductive Pt where
 | p0 (a : List (List L)) (b : List (List L)) (c : Int) (d : Int)
def pid : Pt → Nat
 | .p0 .. => 2
def pvs : Pt → List V
 | .p0 a b c d => [.sl none 122 a, .sl none 122 b, .int .i64 c, .int .i64 d]
def phs : Pt → List Root
 | .p0 a b c d => []
def step (J : Pt → Ans) : Pt → Ans
 | .p0 a b c d => (bif (decide (d < c)) then (bif (decide ((0 : Int) ≤ d)) then (bif (decide (d < (b.length : Int))) then (bif (d == 0) then (call (Z133.R (RSigned.at b (Int.toNat d))) fun v1 => (bif (!v1) then ret (d : Int) else (bif (decide (d > 0)) then (bif (decide ((0 : Int) ≤ (IntKind.i64.wrap (d - 1)))) then (bif (decide ((IntKind.i64.wrap (d - 1)) < (a.length : Int))) then (call (Z143.R ((RSigned.at a (Int.toNat (IntKind.i64.wrap (d - 1)))).fHead, (RSigned.at b (Int.toNat d)))) fun v2 => (bif (!v2) then ret (d : Int) else J (.p0 a b c (IntKind.i64.wrap (d + 1))))) else none) else none) else J (.p0 a b c (IntKind.i64.wrap (d + 1)))))) else (bif (decide (d > 0)) then (bif (decide ((0 : Int) ≤ (IntKind.i64.wrap (d - 1)))) then (bif (decide ((IntKind.i64.wrap (d - 1)) < (a.length : Int))) then (call (Z143.R ((RSigned.at a (Int.toNat (IntKind.i64.wrap (d - 1)))).fHead, (RSigned.at b (Int.toNat d)))) fun v3 => (bif (!v3) then ret (d : Int) else J (.p0 a b c (IntKind.i64.wrap (d + 1))))) else none) else none) else J (.p0 a b c (IntKind.i64.wrap (d + 1))))) else none) else none) else ret ((-1) : Int))
def start (J : Pt → Ans) (x0 : List (List L)) : Ans := J (.p0 x0 x0 (x0.length : Int) 0)
def live : Nat → Live := fun i => match i with | 2 => [(0, none), (5, none), (6, none), (7, none)] | _ => []
def pats : List Pat := [.rd (.sl 122)]
def res : RP := .one (.rd (.int .i64))
abbrev E : Env := { T := assoc Tab, G := conG [(214, Z133.con), (215, Z143.con)], nt := 36 }
theorem step_eq (I : Heads) (p : Pt) : enterC E live I (pid p) (bodyOf Tryz.f186) (stOf (live (pid p)) (pvs p) (phs p)) (doneK E Tryz.f186 res) = step (fun q => I (pid q) (pvs q) (phs q)) p := by
 cases p <;> kernel_rfl
theorem start_eq (I : Heads) (ls : List L) : runC E live I (bodyOf Tryz.f186) (initS pats ls) (doneK E Tryz.f186 res) = start (fun q => I (pid q) (pvs q) (phs q)) (ls.headD .hole).toSl := by kernel_rfl
theorem run_eq (n : Nat) (ls : List L) : runF E live Tryz.f186 res n (initS pats ls) = start (iter step n) (ls.headD .hole).toSl := runF_iter (id := pid) (vs := pvs) (hs := phs) (step := step) (start := fun J => start J (ls.headD .hole).toSl) step_eq (fun I => start_eq I ls) n
def md (a0 : List MSigned) : Int := (eachI (S := Unit) (β := Int) (fun (i1 : Nat) (y1 : MSigned) (s3 : Unit) => (bif ((i1 : Int) == 0) then (bif (!(Z133.md y1)) then (.inr ((i1 : Int) : Int)) else (bif (decide ((i1 : Int) > 0)) then (bif (!(Z143.md ((a0.getD (Int.toNat (IntKind.i64.wrap ((i1 : Int) - 1))) MSigned.zero).fHead) y1)) then (.inr ((i1 : Int) : Int)) else (.inl ())) else (.inl ()))) else (bif (decide ((i1 : Int) > 0)) then (bif (!(Z143.md ((a0.getD (Int.toNat (IntKind.i64.wrap ((i1 : Int) - 1))) MSigned.zero).fHead) y1)) then (.inr ((i1 : Int) : Int)) else (.inl ())) else (.inl ())))) (fun (s3 : Unit) => ((-1) : Int)) 0 a0 ())
def gd (a0 : List MSigned) : Prop := (SmL (2 ^ 21) (fun y : MSigned => MSigned.Sm (2 ^ 21) y) a0)
def acc (ls : List L) : List (List L) := (ls.headD .hole).toSl
def R : (List (List L)) → Option Int := RR gd md
theorem R_eq {a0} (h : gd a0) : R (a0.map MSigned.row) = some (md a0) := RR_eq (a := a0) h
def con : Con := CN pats res acc R
theorem okF (a0 : List MSigned) (hg : gd a0) : ∃ n, start (iter step n) (a0.map MSigned.row) = ret ((md a0) : Int) := by
  unfold gd at hg
  have H0 := hg
  unfold start md
  try simp only [S0, MSigned.rs]
  have Bh2 : a0.length ≤ maxLen := (by
      have := (H0).1
      try simp only [maxLen] at *
      omega)
  refine ex_eq (out := ret) (loopM_eachI (z := MSigned.zero)) ?_
  refine ex_pt (p := Pt.p0 (a0.map MSigned.row) (a0.map MSigned.row) (a0.length : Int) 0) (by first | rfl | (simp only [S0, MSigned.rs, MP]; done) | (simp only [MP]; rfl)) ?_
  refine loopM_ok (pt := fun (i1 : Nat) (s3 : Unit) => Pt.p0 (a0.map MSigned.row) (a0.map MSigned.row) (a0.length : Int) (i1 : Int)) (s := (() : Unit)) (out := ret) (fun _ _ => True) (fun J i1 s3 h2 hih2 => ?_) (fun s3 hih2 => ?_) trivial
  · simp only [step, S0, MSigned.rs]
    have bb_ := Bh2
    simp only [maxLen] at bb_
    have := (H0).1
    refine Rnd.yes (by apply decide_eq_true; omega) ?_
    refine Rnd.yes zle_dec ?_
    refine Rnd.yes (lt_dec h2) ?_
    refine Rnd.bif (fun c4 => ?_) (fun c4 => ?_)
    · have dc4 := c4
      try simp only [DC] at dc4
      refine Rnd.call_to (Z133.md (a0.getD i1 MSigned.zero)) (Z133.R_eq (a0 := (a0.getD i1 MSigned.zero)) (SmL.getD (z := MSigned.zero) H0 h2)) ?_
      refine Rnd.bif (fun c5 => ?_) (fun c5 => ?_)
      · refine Rnd.inr ?_
        all_goals first | rfl | (simp only [S0, MSigned.rs, MP]; first | done | rfl)
      · have dc5 := c5
        try simp only [DC] at dc5
        refine Rnd.bif (fun c6 => ?_) (fun c6 => ?_)
        · have dc6 := c6
          try simp only [DC] at dc6
          refine Rnd.yes (by
              refine decide_eq_true ?_
              try simp (disch := omega) only [LN, wi]
              first | omega | (simp; done) | (simp; omega)) ?_
          refine Rnd.yes (by
              have := (H0).1
              refine decide_eq_true ?_
              try simp (disch := omega) only [LN, wi]
              first | omega | (simp; done) | (simp; omega)) ?_
          refine Rnd.call_to (Z143.md ((a0.getD (Int.toNat (IntKind.i64.wrap ((i1 : Int) - 1))) MSigned.zero).fHead) (a0.getD i1 MSigned.zero)) (Z143.R_eq (a0 := (a0.getD (Int.toNat (IntKind.i64.wrap ((i1 : Int) - 1))) MSigned.zero).fHead) (a1 := (a0.getD i1 MSigned.zero)) ⟨(SmL.getD (z := MSigned.zero) H0 (by first | assumption | omega | (simp (disch := omega) only [wi]; omega) | (simp; omega))).1, (SmL.getD (z := MSigned.zero) H0 h2)⟩) ?_
          refine Rnd.bif (fun c7 => ?_) (fun c7 => ?_)
          · refine Rnd.inr ?_
            all_goals first | rfl | (simp only [S0, MSigned.rs, MP]; first | done | rfl)
          · refine Rnd.inl trivial ?_
            rw [wrap_succ h2 Bh2]
            all_goals first | rfl | (simp only [S0, MSigned.rs, MP]; first | done | rfl)
        · refine Rnd.inl trivial ?_
          rw [wrap_succ h2 Bh2]
          all_goals first | rfl | (simp only [S0, MSigned.rs, MP]; first | done | rfl)
    · have dc4 := c4
      try simp only [DC] at dc4
      refine Rnd.bif (fun c8 => ?_) (fun c8 => ?_)
      · have dc8 := c8
        try simp only [DC] at dc8
        refine Rnd.yes (by
            refine decide_eq_true ?_
            try simp (disch := omega) only [LN, wi]
            first | omega | (simp; done) | (simp; omega)) ?_
        refine Rnd.yes (by
            have := (H0).1
            refine decide_eq_true ?_
            try simp (disch := omega) only [LN, wi]
            first | omega | (simp; done) | (simp; omega)) ?_
        refine Rnd.call_to (Z143.md ((a0.getD (Int.toNat (IntKind.i64.wrap ((i1 : Int) - 1))) MSigned.zero).fHead) (a0.getD i1 MSigned.zero)) (Z143.R_eq (a0 := (a0.getD (Int.toNat (IntKind.i64.wrap ((i1 : Int) - 1))) MSigned.zero).fHead) (a1 := (a0.getD i1 MSigned.zero)) ⟨(SmL.getD (z := MSigned.zero) H0 (by first | assumption | omega | (simp (disch := omega) only [wi]; omega) | (simp; omega))).1, (SmL.getD (z := MSigned.zero) H0 h2)⟩) ?_
        refine Rnd.bif (fun c9 => ?_) (fun c9 => ?_)
        · refine Rnd.inr ?_
          all_goals first | rfl | (simp only [S0, MSigned.rs, MP]; first | done | rfl)
        · refine Rnd.inl trivial ?_
          rw [wrap_succ h2 Bh2]
          all_goals first | rfl | (simp only [S0, MSigned.rs, MP]; first | done | rfl)
      · refine Rnd.inl trivial ?_
        rw [wrap_succ h2 Bh2]
        all_goals first | rfl | (simp only [S0, MSigned.rs, MP]; first | done | rfl)
  · simp only [step, S0, MSigned.rs]
    have := (H0).1
    refine ex_no (by apply decide_eq_false; omega) ?_
    refine ⟨0, ?_⟩
    all_goals first | rfl | (simp only [S0, MSigned.rs, MP]; first | done | rfl)
theorem valid_ : Valid Tryz.prog Ev 186 con := VV (run := fun n x => start (iter step n) x) mix tab_ok (.cons Z133.valid_ (.cons Z143.valid_ .nil)) Tryz.func186 (by kernel_rfl) run_eq (fun _ a _ _ hg => okF a hg)
theorem br (a0 : List MSigned) : md a0 = Z63.md a0 := by
  unfold md Z63.md
  rw [← loopM_eachI (z := MSigned.zero), ← loopM_eachI (z := MSigned.zero)]
  refine loopM_congr (fun _ _ => True) (fun i s hi _ => ⟨?_, fun _ _ => trivial⟩) (fun _ _ => rfl) trivial
  simp only [Z133.br, Z143.br]
  by_cases h0 : i = 0
  · subst h0; rfl
  · have e : ((i : Int) == 0) = false := beq_eq_false_iff_ne.2 (by omega)
    simp only [e, cond_false]
end Z144
namespace Z145
def F (x0 : List (List L)) : Ans := (call (Z106.R ((x0.length : Int), 1, 12)) fun v1 => (bif v1 then (call (Z144.R x0) fun v2 => ret ((decide (v2 < 0)) : Bool)) else ret (false : Bool)))
def pats : List Pat := [.rd (.sl 122)]
def res : RP := .one (.rd (.bool))
def md (a0 : List MSigned) : Bool := (bif (Z106.md (a0.length : Int) 1 12) then ((decide ((Z144.md a0) < 0)) : Bool) else (false : Bool))
def gd (a0 : List MSigned) : Prop := (SmL (2 ^ 21) (fun y : MSigned => MSigned.Sm (2 ^ 21) y) a0)
def acc (ls : List L) : List (List L) := (ls.headD .hole).toSl
def R : (List (List L)) → Option Bool := RR gd md
theorem R_eq {a0} (h : gd a0) : R (a0.map MSigned.row) = some (md a0) := RR_eq (a := a0) h
def con : Con := CN pats res acc R
theorem okF (a0 : List MSigned) (hg : gd a0) : F (a0.map MSigned.row) = ret ((md a0) : Bool) := by
 unfold gd at hg
 have H0 := hg
 unfold F md
 try simp only [S0]
 refine call_to (Z106.md (a0.length : Int) 1 12) (Z106.R_eq (a0 := (a0.length : Int)) (a1 := 1) (a2 := 12) trivial) ?_
 refine bif_out ret (fun c1 => ?_) (fun _ => rfl)
 refine call_to (Z144.md a0) (Z144.R_eq (a0 := a0) H0) ?_
 all_goals first | rfl | (simp only [S0, MP]; first | done | rfl)
theorem valid_ : Valid Tryz.prog Ev 133 con := VV (live := fun _ => []) (nt := 11) (run := fun _ x => F x) mix tab_ok (.cons Z106.valid_ (.cons Z144.valid_ .nil)) Tryz.func133 (by kernel_rfl) (fun _ _ => by kernel_rfl) (fun _ a _ _ hg => ⟨0, okF a hg⟩)
theorem tr {a0 : List MSigned} (h : md a0 = true) : 1 ≤ a0.length ∧ a0.length ≤ 12 := by simp [md, Z106.md] at h; omega
theorem br (a0 : List MSigned) : md a0 = Z64.md a0 := by
 unfold md Z64.md
 first
 | (simp only [Z106.br, Z144.br]; done)
 | (simp only [Z106.br, Z144.br]; rfl)
 | rfl
end Z145
namespace Z146
def F (x0 : List (List L)) : Ans := (bif (decide ((0 : Int) ≤ (IntKind.i64.wrap ((x0.length : Int) - 1)))) then (bif (decide ((IntKind.i64.wrap ((x0.length : Int) - 1)) < (x0.length : Int))) then ret ((RSigned.at x0 (Int.toNat (IntKind.i64.wrap ((x0.length : Int) - 1)))).fHead : RHead) else none) else none)
def pats : List Pat := [.rd (.sl 122)]
def res : RP := .agg [.rd (.int .i64), .rd (.int .i64), .rd (.int .i64), .rd (.int .i64), .rd (.int .i64), .rd (.int .i64), .rd (.int .i64), .rd (.int .i64), .rd (.sl 3), .rd (.int .i64), .rd (.sl 3), .rd (.int .i64), .rd (.int .i64), .rd (.sl 3), .rd (.int .i64), .rd (.bool)]
def md (a0 : List MSigned) : MHead := (a0.getD (Int.toNat (IntKind.i64.wrap ((a0.length : Int) - 1))) MSigned.zero).fHead
def gd (a0 : List MSigned) : Prop := (SmL (2 ^ 21) (fun y : MSigned => MSigned.Sm (2 ^ 21) y) a0) ∧ (1 ≤ a0.length)
def acc (ls : List L) : List (List L) := (ls.headD .hole).toSl
def R : (List (List L)) → Option RHead := RR gd md
theorem R_eq {a0} (h : gd a0) : R (a0.map MSigned.row) = some (MHead.r (md a0)) := RR_eq (a := a0) h
def con : Con := CN pats res acc R
theorem okF (a0 : List MSigned) (hg : gd a0) : F (a0.map MSigned.row) = ret ((MHead.r (md a0)) : RHead) := by
 unfold gd at hg
 obtain ⟨H0, HX⟩ := hg
 unfold F md
 try simp only [S0, MSigned.rs]
 refine yes_ret (by
   have := (H0).1
   refine decide_eq_true ?_
   try simp (disch := omega) only [LN, wi]
   first | omega | (simp; done) | (simp; omega)) ?_
 refine yes_ret (by
   have := (H0).1
   refine decide_eq_true ?_
   try simp (disch := omega) only [LN, wi]
   first | omega | (simp; done) | (simp; omega)) ?_
 all_goals first | rfl | (simp only [S0, MSigned.rs]; done) | (simp only [MP]; rfl) | (simp only [S0, MSigned.rs, MP]; first | done | rfl)
theorem valid_ : Valid Tryz.prog Ev 199 con := VV (live := fun _ => []) (nt := 10) (run := fun _ x => F x) mix tab_ok .nil Tryz.func199 (by kernel_rfl) (fun _ _ => by kernel_rfl) (fun _ a _ _ hg => ⟨0, okF a hg⟩)
theorem sm0 {a0 : List MSigned} (hg : gd a0) : MHead.Sm (2 ^ 21) (md a0) := by
 unfold gd at hg; unfold md
 have h1 := hg.1.1
 have h2 := hg.2
 exact (SmL.getD hg.1 (by simp (disch := omega) only [Go.IntWalk.i64_in]; omega)).1
end Z146
namespace Z147
def F (x0 : List (List L)) : Ans := (call (Z145.R x0) fun v1 => (bif (!v1) then ret (((⟨0, 0, 0, 0, 0, 0, 0, 0, (⟨[], 0⟩ : RKeys), (⟨[], 0⟩ : RKeys), 0, (⟨[], 0⟩ : RKeys), false⟩ : RHead), false) : RHead × Bool) else (call (Z146.R x0) fun v2 => (call (Z95.R v2) fun v3 => ret ((v3, true) : RHead × Bool)))))
def pats : List Pat := [.rd (.sl 122)]
def res : RP := .tup [(true, [.rd (.int .i64), .rd (.int .i64), .rd (.int .i64), .rd (.int .i64), .rd (.int .i64), .rd (.int .i64), .rd (.int .i64), .rd (.int .i64), .fr 3, .rd (.int .i64), .fr 3, .rd (.int .i64), .rd (.int .i64), .fr 3, .rd (.int .i64), .rd (.bool)]), (false, [.rd (.bool)])]
def md (a0 : List MSigned) : MHead × Bool := (bif (!(Z145.md a0)) then ((⟨0, 0, 0, 0, 0, 0, 0, 0, (⟨[], 0⟩ : MKeys), (⟨[], 0⟩ : MKeys), 0, (⟨[], 0⟩ : MKeys), false⟩ : MHead), false) else ((Z146.md a0), true))
def gd (a0 : List MSigned) : Prop := (SmL (2 ^ 21) (fun y : MSigned => MSigned.Sm (2 ^ 21) y) a0)
def acc (ls : List L) : List (List L) := (ls.headD .hole).toSl
def R : (List (List L)) → Option (RHead × Bool) := RR gd md
theorem R_eq {a0} (h : gd a0) : R (a0.map MSigned.row) = some ((MHead.r (md a0).1), (md a0).2) := RR_eq (a := a0) h
def con : Con := CN pats res acc R
theorem okF (a0 : List MSigned) (hg : gd a0) : F (a0.map MSigned.row) = ret (((MHead.r (md a0).1), (md a0).2) : RHead × Bool) := by
  unfold gd at hg
  have H0 := hg
  unfold F md
  try simp only [S0]
  refine call_to (Z145.md a0) (Z145.R_eq (a0 := a0) H0) ?_
  refine bif_out (fun b : MHead × Bool => ret (((MHead.r b.1), b.2) : RHead × Bool)) (fun c1 => ?_) (fun c1 => ?_)
  · all_goals first | rfl | (simp only [S0]; done) | (simp only [MP]; rfl) | (simp only [S0, MP]; first | done | rfl)
  · have dc1 := c1
    try simp only [DC] at dc1
    try have tc1 := Z145.tr (by simpa using c1)
    refine call_to (MHead.r (Z146.md a0)) (Z146.R_eq (a0 := a0) ⟨H0, (by
        have := (H0).1
        first | assumption | omega | (simp; done) | (simp; omega))⟩) ?_
    try simp only [S0]
    refine call_to (MHead.r (Z146.md a0)) ?_ ?_
    · have R_ := Z95.R_eq (a0 := (Z146.md a0)) (Z146.sm0 (a0 := a0) ⟨H0, (by
          have := (H0).1
          first | assumption | omega | (simp; done) | (simp; omega))⟩)
      simp only [Z95.md] at R_
      first | exact R_ | (simp only [MP, S0] at R_ ⊢; first | exact R_ | (rw [← R_]; rfl))
    try simp only [S0]
    all_goals first | rfl | (simp only [S0]; done) | (simp only [MP]; rfl) | (simp only [S0, MP]; first | done | rfl)
theorem valid_ : Valid Tryz.prog Ev 159 con := VV (live := fun _ => []) (nt := 11) (run := fun _ x => F x) mix tab_ok (.cons Z145.valid_ (.cons Z146.valid_ (.cons Z95.valid_ .nil))) Tryz.func159 (by kernel_rfl) (fun _ _ => by kernel_rfl) (fun _ a _ _ hg => ⟨0, okF a hg⟩)
theorem br (a0 : List MSigned) : md a0 = Z65.md a0 := by
 unfold md Z65.md
 first
 | (simp only [Z145.br]; done)
 | (simp only [Z145.br]; rfl)
 | rfl
end Z147
namespace Z148
def F (x0 : RHead) (x1 : Int) : Ans := (call (Z106.R (x1, x0.fTime, x0.fUntil)) fun v1 => ret (v1 : Bool))
def pats : List Pat := [.agg [.int .i64, .int .i64, .int .i64, .int .i64, .int .i64, .int .i64, .int .i64, .int .i64, .sl 3, .int .i64, .sl 3, .int .i64, .int .i64, .sl 3, .int .i64, .bool], .rd (.int .i64)]
def res : RP := .one (.rd (.bool))
def md (a0 : MHead) (a1 : Int) : Bool := ((Z106.md a1 a0.fTime a0.fUntil) : Bool)
def gd (a0 : MHead) (a1 : Int) : Prop := True
def acc (ls : List L) : RHead × Int := ((RHead.dec ls), ((dropT 16 ls).headD .hole).toInt)
def R : (RHead × Int) → Option Bool := RR (p2 gd) (u2 md)
theorem R_eq {a0} {a1} (h : gd a0 a1) : R ((MHead.r a0), a1) = some (md a0 a1) := RR_eq (a := (a0, a1)) h
def con : Con := CN pats res acc R
theorem okF (a0 : MHead) (a1 : Int) (hg : gd a0 a1) : F (MHead.r a0) a1 = ret ((md a0 a1) : Bool) := by
 unfold F md
 try simp only [S0, MHead.rs]
 refine call_to (Z106.md a1 a0.fTime a0.fUntil) (Z106.R_eq (a0 := a1) (a1 := a0.fTime) (a2 := a0.fUntil) trivial) ?_
 all_goals first | rfl | (simp only [S0, MHead.rs, MP]; first | done | rfl)
theorem valid_ : Valid Tryz.prog Ev 160 con := VV (live := fun _ => []) (nt := 11) (run := fun _ x => F x.1 x.2) mix tab_ok (.cons Z106.valid_ .nil) Tryz.func160 (by kernel_rfl) (fun _ _ => by kernel_rfl) (fun _ a _ _ hg => ⟨0, okF a.1 a.2 hg⟩)
theorem br (a0 : MHead) (a1 : Int) : md a0 a1 = Z66.md a0 a1 := by
 unfold md Z66.md
 first
 | (simp only [Z106.br]; done)
 | (simp only [Z106.br]; rfl)
 | rfl
end Z148
namespace Z149
inductive Pt where
 | p0 (a : List (List L)) (b : Int) (c : Int) (d : List (List L))
def pid : Pt → Nat
 | .p0 .. => 3
def pvs : Pt → List V
 | .p0 a b c d => [.own 0, .sl none 5 a, .int .i64 b, .int .i64 c]
def phs : Pt → List Root
 | .p0 a b c d => [.row 3 d]
def step (J : Pt → Ans) : Pt → Ans
 | .p0 a b c d => (bif (decide (c < b)) then (bif (decide ((0 : Int) ≤ c)) then (bif (decide (c < (a.length : Int))) then (bif (lim (((d.length : Int) + 1) * 8)) then J (.p0 a b (IntKind.i64.wrap (c + 1)) (d ++ [[L.int (IntKind.i64.wrap (iAt a (Int.toNat c)))]])) else none) else none) else none) else ret (d : List (List L)))
def start (J : Pt → Ans) (x0 : List (List L)) : Ans := J (.p0 x0 (x0.length : Int) 0 [[L.int (x0.length : Int)]])
def live : Nat → Live := fun i => match i with | 3 => [(3, none), (9, none), (10, none), (11, none)] | _ => []
def pats : List Pat := [.rd (.sl 5)]
def res : RP := .one (.fr 3)
abbrev E : Env := { T := assoc Tab, G := conG [], nt := 22 }
theorem step_eq (I : Heads) (p : Pt) : enterC E live I (pid p) (bodyOf Tryz.f308) (stOf (live (pid p)) (pvs p) (phs p)) (doneK E Tryz.f308 res) = step (fun q => I (pid q) (pvs q) (phs q)) p := by
 cases p <;> kernel_rfl
theorem start_eq (I : Heads) (ls : List L) : runC E live I (bodyOf Tryz.f308) (initS pats ls) (doneK E Tryz.f308 res) = start (fun q => I (pid q) (pvs q) (phs q)) (ls.headD .hole).toSl := by kernel_rfl
theorem run_eq (n : Nat) (ls : List L) : runF E live Tryz.f308 res n (initS pats ls) = start (iter step n) (ls.headD .hole).toSl := runF_iter (id := pid) (vs := pvs) (hs := phs) (step := step) (start := fun J => start J (ls.headD .hole).toSl) step_eq (fun I => start_eq I ls) n
def md (a0 : List Int) : List Int := ([(a0.length : Int)] ++ a0.map (fun (y1 : Int) => (IntKind.i64.wrap y1)))
def gd (a0 : List Int) : Prop := (SmL (2 ^ 38) (fun y : Int => True) a0)
def acc (ls : List L) : List (List L) := (ls.headD .hole).toSl
def R : (List (List L)) → Option (List (List L)) := RR gd md
theorem R_eq {a0} (h : gd a0) : R (a0.map iRow) = some ((md a0).map iRow) := RR_eq (a := a0) h
def con : Con := CN pats res acc R
theorem okF (a0 : List Int) (hg : gd a0) : ∃ n, start (iter step n) (a0.map iRow) = ret (((md a0).map iRow) : List (List L)) := by
  unfold gd at hg
  have H0 := hg
  unfold start md
  try simp only [S0]
  have Bh2 : a0.length ≤ maxLen := (by
      have := (H0).1
      try simp only [maxLen] at *
      omega)
  refine ex_eq (out := (fun b : List Int => ret ((b.map iRow) : List (List L)))) (loopM_map (g := fun (y1 : Int) => (IntKind.i64.wrap y1)) (z := 0) (t := fun (s3 : List Int) => s3) (s := [(a0.length : Int)])) ?_
  refine ex_pt (p := Pt.p0 (a0.map iRow) (a0.length : Int) 0 ([(a0.length : Int)].map iRow)) (by first | rfl | (simp only [S0, MP]; done) | (simp only [MP]; rfl)) ?_
  refine loopM_ok (pt := fun (i1 : Nat) (s3 : List Int) => Pt.p0 (a0.map iRow) (a0.length : Int) (i1 : Int) (s3.map iRow)) (s := ([(a0.length : Int)] : List Int)) (out := (fun b : List Int => ret ((b.map iRow) : List (List L)))) (fun (i1 : Nat) (s3 : List Int) => s3.length ≤ [(a0.length : Int)].length + 1 * i1) (fun J i1 s3 h2 hih2 => ?_) (fun s3 hih2 => ?_) (by simp)
  · simp only [step, S0]
    have gr_ := hih2
    try simp only [LN] at gr_
    have := (H0).1
    have bb_ := Bh2
    simp only [maxLen] at bb_
    have := (H0).1
    refine Rnd.yes (by apply decide_eq_true; omega) ?_
    refine Rnd.yes zle_dec ?_
    refine Rnd.yes (lt_dec h2) ?_
    refine Rnd.yes (by
        refine lim_t ?_
        try simp (disch := omega) only [LN, wi]
        first | omega | (simp; done) | (simp; omega)) ?_
    refine Rnd.inl (by
        have g_ := hih2
        try simp only [LN] at g_ ⊢
        first | omega | (simp; done) | (simp; omega)) ?_
    rw [wrap_succ h2 Bh2]
    all_goals first | rfl | (simp only [S0]; done) | (simp only [MP]; rfl) | (simp only [S0, MP]; first | done | rfl)
  · simp only [step, S0]
    have gr_ := hih2
    try simp only [LN] at gr_
    have := (H0).1
    have := (H0).1
    refine ex_no (by apply decide_eq_false; omega) ?_
    refine ⟨0, ?_⟩
    all_goals first | rfl | (simp only [S0]; done) | (simp only [MP]; rfl) | (simp only [S0, MP]; first | done | rfl)
theorem valid_ : Valid Tryz.prog Ev 308 con := VV (run := fun n x => start (iter step n) x) mix tab_ok .nil Tryz.func308 (by kernel_rfl) run_eq (fun _ a _ _ hg => okF a hg)
theorem len (a0 : List Int) : (md a0).length = 1 + a0.length := by simp [md]; omega
theorem br (a0 : List Int) : md a0 = Z67.md a0 := by
 unfold md Z67.md
 first
 | (simp only [id]; done)
 | (simp only [id]; rfl)
 | rfl
end Z149
namespace Z150
def F (x0 : ByteArray) : Ans := (bif (decide ((x0.size : Int) ≤ 140737488355328)) then (call (Z149.R (bytesL x0)) fun v1 => ret (v1 : List (List L))) else none)
def pats : List Pat := [.rd (.str)]
def res : RP := .one (.fr 3)
def md (a0 : ByteArray) : List Int := (Z149.md (bytesI a0))
def gd (a0 : ByteArray) : Prop := (a0.size ≤ (2 ^ 21))
def acc (ls : List L) : ByteArray := (ls.headD .hole).toStr
def R : ByteArray → Option (List (List L)) := RR gd md
theorem R_eq {a0} (h : gd a0) : R a0 = some ((md a0).map iRow) := RR_eq (a := a0) h
def con : Con := CN pats res acc R
theorem okF (a0 : ByteArray) (hg : gd a0) : F a0 = ret (((md a0).map iRow) : List (List L)) := by
  unfold gd at hg
  have H0 := hg
  unfold F md
  try simp only [S0]
  refine yes_ret (by
      have := H0
      refine decide_eq_true ?_
      try simp (disch := omega) only [LN, wi]
      first | omega | (simp; done) | (simp; omega)) ?_
  refine call_to ((Z149.md (bytesI a0)).map iRow) ?_ ?_
  · have R_ := Z149.R_eq (a0 := (bytesI a0)) ⟨(by
        have := bytesI_length a0
        have := H0
        try simp (disch := omega) only [LN, wi]
        first | omega | (simp; done) | (simp; omega)), fun _ _ => trivial⟩
    first | exact R_ | (simp only [MP, S0] at R_ ⊢; first | exact R_ | (rw [← R_]; rfl))
  try simp only [S0]
  all_goals first | rfl | (simp only [S0]; done) | (simp only [MP]; rfl) | (simp only [S0, MP]; first | done | rfl)
theorem valid_ : Valid Tryz.prog Ev 289 con := VV (live := fun _ => []) (nt := 6) (run := fun _ x => F x) mix tab_ok (.cons Z149.valid_ .nil) Tryz.func289 (by kernel_rfl) (fun _ _ => by kernel_rfl) (fun _ a _ _ hg => ⟨0, okF a hg⟩)
theorem len (a0 : ByteArray) : (md a0).length = 1 + a0.size := by simp [md, Z149.len, bytesI_length]
theorem br (a0 : ByteArray) : md a0 = Z68.md a0 := by
 unfold md Z68.md
 first
 | (simp only [Z149.br]; done)
 | (simp only [Z149.br]; rfl)
 | rfl
end Z150
namespace Z151
inductive Pt where
 | p0 (a : List (List L)) (b : Int) (c : Int) (d : List (List L))
def pid : Pt → Nat
 | .p0 .. => 3
def pvs : Pt → List V
 | .p0 a b c d => [.own 0, .sl none 9 a, .int .i64 b, .int .i64 c]
def phs : Pt → List Root
 | .p0 a b c d => [.row 3 d]
def step (J : Pt → Ans) : Pt → Ans
 | .p0 a b c d => (bif (decide (c < b)) then (bif (decide ((0 : Int) ≤ c)) then (bif (decide (c < (a.length : Int))) then (call (Z150.R (sAt a (Int.toNat c))) fun v1 => (bif (lim (((d.length : Int) + (v1.length : Int)) * 8)) then J (.p0 a b (IntKind.i64.wrap (c + 1)) (d ++ v1)) else none)) else none) else none) else ret (d : List (List L)))
def start (J : Pt → Ans) (x0 : REntry) : Ans := (call (Z150.R x0.fLabel) fun v1 => (bif (lim (((v1.length : Int) + 3) * 8)) then J (.p0 x0.fPath (x0.fPath.length : Int) 0 (v1 ++ [[L.int x0.fKind], [L.int x0.fValue], [L.int (x0.fPath.length : Int)]])) else none))
def live : Nat → Live := fun i => match i with | 3 => [(3, none), (19, none), (20, none), (21, none)] | _ => []
def pats : List Pat := [.agg [.str, .int .i64, .int .i64, .sl 9]]
def res : RP := .one (.fr 3)
abbrev E : Env := { T := assoc Tab, G := conG [(289, Z150.con)], nt := 31 }
theorem step_eq (I : Heads) (p : Pt) : enterC E live I (pid p) (bodyOf Tryz.f256) (stOf (live (pid p)) (pvs p) (phs p)) (doneK E Tryz.f256 res) = step (fun q => I (pid q) (pvs q) (phs q)) p := by
 cases p <;> kernel_rfl
theorem start_eq (I : Heads) (ls : List L) : runC E live I (bodyOf Tryz.f256) (initS pats ls) (doneK E Tryz.f256 res) = start (fun q => I (pid q) (pvs q) (phs q)) (REntry.dec ls) := by kernel_rfl
theorem run_eq (n : Nat) (ls : List L) : runF E live Tryz.f256 res n (initS pats ls) = start (iter step n) (REntry.dec ls) := runF_iter (id := pid) (vs := pvs) (hs := phs) (step := step) (start := fun J => start J (REntry.dec ls)) step_eq (fun I => start_eq I ls) n
def md (a0 : MEntry) : List Int := (((Z150.md a0.fLabel) ++ [a0.fKind, a0.fValue, (a0.fPath.length : Int)]) ++ a0.fPath.flatMap (fun (y1 : ByteArray) => (Z150.md y1)))
def gd (a0 : MEntry) : Prop := (MEntry.Sm (2 ^ 21) a0)
def acc (ls : List L) : REntry := (REntry.dec ls)
def R : REntry → Option (List (List L)) := RR gd md
theorem R_eq {a0} (h : gd a0) : R (MEntry.r a0) = some ((md a0).map iRow) := RR_eq (a := a0) h
def con : Con := CN pats res acc R
theorem okF (a0 : MEntry) (hg : gd a0) : ∃ n, start (iter step n) (MEntry.r a0) = ret (((md a0).map iRow) : List (List L)) := by
  unfold gd at hg
  have H0 := hg
  unfold start md
  try simp only [S0, MEntry.rs]
  refine ex_call_to ((Z150.md a0.fLabel).map iRow) (Z150.R_eq (a0 := a0.fLabel) H0.1) ?_
  try simp only [S0, MEntry.rs]
  refine ex_yes (by
      have := Z150.len a0.fLabel
      have := H0.1
      refine lim_t ?_
      try simp (disch := omega) only [LN, wi]
      first | omega | (simp; done) | (simp; omega)) ?_
  have Bh2 : a0.fPath.length ≤ maxLen := (by
      have := (H0.2).1
      try simp only [maxLen] at *
      omega)
  refine ex_eq (out := (fun b : List Int => ret ((b.map iRow) : List (List L)))) (loopM_flat (g := fun (y1 : ByteArray) => (Z150.md y1)) (z := ⟨#[]⟩) (t := fun (s3 : List Int) => s3) (s := ((Z150.md a0.fLabel) ++ [a0.fKind, a0.fValue, (a0.fPath.length : Int)]))) ?_
  refine ex_pt (p := Pt.p0 (a0.fPath.map sRow) (a0.fPath.length : Int) 0 (((Z150.md a0.fLabel) ++ [a0.fKind, a0.fValue, (a0.fPath.length : Int)]).map iRow)) (by first | rfl | (simp only [S0, MEntry.rs, MP]; done) | (simp only [MP]; rfl)) ?_
  refine loopM_ok (pt := fun (i1 : Nat) (s3 : List Int) => Pt.p0 (a0.fPath.map sRow) (a0.fPath.length : Int) (i1 : Int) (s3.map iRow)) (s := (((Z150.md a0.fLabel) ++ [a0.fKind, a0.fValue, (a0.fPath.length : Int)]) : List Int)) (out := (fun b : List Int => ret ((b.map iRow) : List (List L)))) (fun (i1 : Nat) (s3 : List Int) => s3.length ≤ 4 + a0.fLabel.size + i1 * (2 ^ 21 + 1)) (fun J i1 s3 h2 hih2 => ?_) (fun s3 hih2 => ?_) (by
      have := (H0.2).1
      have := Z150.len a0.fLabel
      have := H0.1
      try simp only [LN]
      try simp
      try omega)
  · simp only [step, S0, MEntry.rs]
    have gr_ := hih2
    try simp only [LN] at gr_
    have := H0.1
    have bb_ := Bh2
    simp only [maxLen] at bb_
    have := (H0.2).1
    refine Rnd.yes (by apply decide_eq_true; omega) ?_
    refine Rnd.yes zle_dec ?_
    refine Rnd.yes (lt_dec h2) ?_
    refine Rnd.call_to ((Z150.md (a0.fPath.getD i1 ⟨#[]⟩)).map iRow) (Z150.R_eq (a0 := (a0.fPath.getD i1 ⟨#[]⟩)) (SmL.getD (z := ⟨#[]⟩) H0.2 h2)) ?_
    try simp only [S0, MEntry.rs]
    refine Rnd.yes (by
        have := Z150.len (a0.fPath.getD i1 ⟨#[]⟩)
        have := (SmL.getD (z := ⟨#[]⟩) H0.2 h2)
        refine lim_t ?_
        try simp (disch := omega) only [LN, wi]
        first | omega | (simp; done) | (simp; omega)) ?_
    refine Rnd.inl (by
        have := Z150.len (a0.fPath.getD i1 ⟨#[]⟩)
        have := (SmL.getD (z := ⟨#[]⟩) H0.2 h2)
        have g_ := hih2
        try simp only [LN] at g_ ⊢
        first | omega | (simp; done) | (simp; omega)) ?_
    rw [wrap_succ h2 Bh2]
    all_goals first | rfl | (simp only [S0, MEntry.rs]; done) | (simp only [MP]; rfl) | (simp only [S0, MEntry.rs, MP]; first | done | rfl)
  · simp only [step, S0, MEntry.rs]
    have gr_ := hih2
    try simp only [LN] at gr_
    have := H0.1
    have := (H0.2).1
    refine ex_no (by apply decide_eq_false; omega) ?_
    refine ⟨0, ?_⟩
    all_goals first | rfl | (simp only [S0, MEntry.rs]; done) | (simp only [MP]; rfl) | (simp only [S0, MEntry.rs, MP]; first | done | rfl)
theorem valid_ : Valid Tryz.prog Ev 256 con := VV (run := fun n x => start (iter step n) x) mix tab_ok (.cons Z150.valid_ .nil) Tryz.func256 (by kernel_rfl) run_eq (fun _ a _ _ hg => okF a hg)
theorem sm0 {a0 : MEntry} (hg : gd a0) : SmL (2 ^ 43 - 1) (fun y : Int => True) (md a0) := by
 unfold gd at hg
 refine ⟨?_, fun _ _ => trivial⟩
 unfold md
 have h1 := flatMap_len (xs := a0.fPath) (g := fun y => Z150.md y) (n := 2 ^ 21 + 1) (fun x hx => by rw [Z150.len]; have := hg.2.2 x hx; omega)
 have h2 := hg.1
 have h3 := hg.2.1
 have h4 := Z150.len a0.fLabel
 simp only [List.length_append, List.length_cons, List.length_nil]
 omega
theorem br (a0 : MEntry) : md a0 = Z69.md a0 := by
 unfold md Z69.md
 first
 | (simp only [Z150.br]; done)
 | (simp only [Z150.br]; rfl)
 | rfl
end Z151
namespace Z152
def F (x0 : REntry) : Ans := (call (Z151.R x0) fun v1 => (bif (lim (((1 : Int) + (v1.length : Int)) * 8)) then (call (Z118.R ([[L.int 227]] ++ v1)) fun v2 => ret (v2 : Int)) else none))
def pats : List Pat := [.agg [.str, .int .i64, .int .i64, .sl 9]]
def res : RP := .one (.rd (.int .i64))
def md (a0 : MEntry) : Int := ((Z118.md ([227] ++ (Z151.md a0))) : Int)
def gd (a0 : MEntry) : Prop := (MEntry.Sm (2 ^ 21) a0)
def acc (ls : List L) : REntry := (REntry.dec ls)
def R : REntry → Option Int := RR gd md
theorem R_eq {a0} (h : gd a0) : R (MEntry.r a0) = some (md a0) := RR_eq (a := a0) h
def con : Con := CN pats res acc R
theorem okF (a0 : MEntry) (hg : gd a0) : F (MEntry.r a0) = ret ((md a0) : Int) := by
  unfold gd at hg
  have H0 := hg
  unfold F md
  try simp only [S0]
  refine call_to ((Z151.md a0).map iRow) (Z151.R_eq (a0 := a0) H0) ?_
  try simp only [S0]
  refine yes_ret (by
      have := ((Z151.sm0 (a0 := a0) H0)).1
      refine lim_t ?_
      try simp (disch := omega) only [LN, wi]
      first | omega | (simp; done) | (simp; omega)) ?_
  refine call_to (Z118.md ([227] ++ (Z151.md a0))) ?_ ?_
  · have R_ := Z118.R_eq (a0 := ([227] ++ (Z151.md a0))) ⟨(by
        have := ((Z151.sm0 (a0 := a0) H0)).1
        try simp (disch := omega) only [LN, wi]
        first | omega | (simp; done) | (simp; omega)), fun _ _ => trivial⟩
    first | exact R_ | (simp only [MP, S0] at R_ ⊢; first | exact R_ | (rw [← R_]; rfl))
  all_goals first | rfl | (simp only [S0, MP]; first | done | rfl)
theorem valid_ : Valid Tryz.prog Ev 228 con := VV (live := fun _ => []) (nt := 8) (run := fun _ x => F x) mix tab_ok (.cons Z151.valid_ (.cons Z118.valid_ .nil)) Tryz.func228 (by kernel_rfl) (fun _ _ => by kernel_rfl) (fun _ a _ _ hg => ⟨0, okF a hg⟩)
theorem br (a0 : MEntry) : md a0 = Z70.md a0 := by
 unfold md Z70.md
 first
 | (simp only [Z151.br, Z118.br]; done)
 | (simp only [Z151.br, Z118.br]; rfl)
 | rfl
end Z152
namespace Z153
def F (x0 : List (List L)) : Ans := (call (Z118.R x0) fun v1 => ret (v1 : Int))
def pats : List Pat := [.rd (.sl 3)]
def res : RP := .one (.rd (.int .i64))
def md (a0 : List Int) : Int := ((Z118.md a0) : Int)
def gd (a0 : List Int) : Prop := (SmL (2 ^ 42) (fun y : Int => True) a0)
def acc (ls : List L) : List (List L) := (ls.headD .hole).toSl
def R : (List (List L)) → Option Int := RR gd md
theorem R_eq {a0} (h : gd a0) : R (a0.map iRow) = some (md a0) := RR_eq (a := a0) h
def con : Con := CN pats res acc R
theorem okF (a0 : List Int) (hg : gd a0) : F (a0.map iRow) = ret ((md a0) : Int) := by
 unfold gd at hg
 have H0 := hg
 unfold F md
 try simp only [S0]
 refine call_to (Z118.md a0) (Z118.R_eq (a0 := a0) (H0.mono (by decide) (fun x hx => trivial))) ?_
 all_goals first | rfl | (simp only [S0, MP]; first | done | rfl)
theorem valid_ : Valid Tryz.prog Ev 258 con := VV (live := fun _ => []) (nt := 5) (run := fun _ x => F x) mix tab_ok (.cons Z118.valid_ .nil) Tryz.func258 (by kernel_rfl) (fun _ _ => by kernel_rfl) (fun _ a _ _ hg => ⟨0, okF a hg⟩)
theorem br (a0 : List Int) : md a0 = Z45.md a0 := by
 unfold md
 exact Z118.br a0
end Z153
namespace Z154
def F (x0 : Int) (x1 : Int) : Ans := (call (Z153.R [[L.int 229], [L.int x0], [L.int x1]]) fun v1 => ret (v1 : Int))
def pats : List Pat := [.rd (.int .i64), .rd (.int .i64)]
def res : RP := .one (.rd (.int .i64))
def md (a0 : Int) (a1 : Int) : Int := ((Z153.md [229, a0, a1]) : Int)
def gd (a0 : Int) (a1 : Int) : Prop := True
def acc (ls : List L) : Int × Int := ((ls.headD .hole).toInt, ((dropT 1 ls).headD .hole).toInt)
def R : (Int × Int) → Option Int := RR (p2 gd) (u2 md)
theorem R_eq {a0} {a1} (h : gd a0 a1) : R (a0, a1) = some (md a0 a1) := RR_eq (a := (a0, a1)) h
def con : Con := CN pats res acc R
theorem okF (a0 : Int) (a1 : Int) (hg : gd a0 a1) : F a0 a1 = ret ((md a0 a1) : Int) := by
  unfold F md
  try simp only [S0]
  refine call_to (Z153.md [229, a0, a1]) ?_ ?_
  · have R_ := Z153.R_eq (a0 := [229, a0, a1]) ⟨(by
        try simp (disch := omega) only [LN, wi]
        first | omega | (simp; done) | (simp; omega)), fun _ _ => trivial⟩
    first | exact R_ | (simp only [MP, S0] at R_ ⊢; first | exact R_ | (rw [← R_]; rfl))
  all_goals first | rfl | (simp only [S0, MP]; first | done | rfl)
theorem valid_ : Valid Tryz.prog Ev 254 con := VV (live := fun _ => []) (nt := 9) (run := fun _ x => F x.1 x.2) mix tab_ok (.cons Z153.valid_ .nil) Tryz.func254 (by kernel_rfl) (fun _ _ => by kernel_rfl) (fun _ a _ _ hg => ⟨0, okF a.1 a.2 hg⟩)
theorem br (a0 : Int) (a1 : Int) : md a0 a1 = Z71.md a0 a1 := by
 unfold md Z71.md
 first
 | (simp only [Z153.br]; done)
 | (simp only [Z153.br]; rfl)
 | rfl
end Z154
namespace Z155
inductive Pt where
 | p0 (a : Int) (b : Int) (c : Int) (d : List (List L))
def pid : Pt → Nat
 | .p0 .. => 3
def pvs : Pt → List V
 | .p0 a b c d => [.int .i64 a, .int .i64 b, .int .i64 c, .sl none 3 d]
def phs : Pt → List Root
 | .p0 a b c d => []
def step (J : Pt → Ans) : Pt → Ans
 | .p0 a b c d => (bif (decide (c > 1)) then (bif (decide ((xorI .i64 b 1) ≥ c)) then J (.p0 a (IntKind.i64.wrap (Int.tdiv b 2)) (IntKind.i64.wrap (Int.tdiv (IntKind.i64.wrap (c + 1)) 2)) d) else (bif ((d.length : Int) == 0) then ret ((0, false) : Int × Bool) else (bif ((Int.tmod b 2) == 0) then (bif (decide ((0 : Int) < (d.length : Int))) then (call (Z154.R (a, (iAt d 0))) fun v1 => (bif (decide ((1 : Int) ≤ (d.length : Int))) then (bif (decide ((d.length : Int) ≤ (d.length : Int))) then J (.p0 v1 (IntKind.i64.wrap (Int.tdiv b 2)) (IntKind.i64.wrap (Int.tdiv (IntKind.i64.wrap (c + 1)) 2)) (List.take (Int.toNat ((d.length : Int) - 1)) (List.drop 1 d))) else none) else none)) else none) else (bif (decide ((0 : Int) < (d.length : Int))) then (call (Z154.R ((iAt d 0), a)) fun v2 => (bif (decide ((1 : Int) ≤ (d.length : Int))) then (bif (decide ((d.length : Int) ≤ (d.length : Int))) then J (.p0 v2 (IntKind.i64.wrap (Int.tdiv b 2)) (IntKind.i64.wrap (Int.tdiv (IntKind.i64.wrap (c + 1)) 2)) (List.take (Int.toNat ((d.length : Int) - 1)) (List.drop 1 d))) else none) else none)) else none)))) else (bif (decide ((d.length : Int) > 0)) then ret ((0, false) : Int × Bool) else ret ((a, true) : Int × Bool)))
def start (J : Pt → Ans) (x0 : Int) (x1 : Int) (x2 : Int) (x3 : List (List L)) : Ans := (bif (decide (x2 < 1)) then ret ((0, false) : Int × Bool) else (bif (decide (x2 > 12)) then ret ((0, false) : Int × Bool) else (call (Z106.R (x1, 0, (IntKind.i64.wrap (x2 - 1)))) fun v1 => (bif (!v1) then ret ((0, false) : Int × Bool) else J (.p0 x0 x1 x2 x3)))))
def live : Nat → Live := fun i => match i with | 3 => [(0, none), (1, none), (2, none), (3, none)] | _ => []
def pats : List Pat := [.rd (.int .i64), .rd (.int .i64), .rd (.int .i64), .rd (.sl 3)]
def res : RP := .tup [(false, [.rd (.int .i64)]), (false, [.rd (.bool)])]
abbrev E : Env := { T := assoc Tab, G := conG [(177, Z106.con), (254, Z154.con)], nt := 56 }
theorem step_eq (I : Heads) (p : Pt) : enterC E live I (pid p) (bodyOf Tryz.f227) (stOf (live (pid p)) (pvs p) (phs p)) (doneK E Tryz.f227 res) = step (fun q => I (pid q) (pvs q) (phs q)) p := by
 cases p <;> kernel_rfl
theorem start_eq (I : Heads) (ls : List L) : runC E live I (bodyOf Tryz.f227) (initS pats ls) (doneK E Tryz.f227 res) = start (fun q => I (pid q) (pvs q) (phs q)) (ls.headD .hole).toInt ((dropT 1 ls).headD .hole).toInt ((dropT 2 ls).headD .hole).toInt ((dropT 3 ls).headD .hole).toSl := by kernel_rfl
theorem run_eq (n : Nat) (ls : List L) : runF E live Tryz.f227 res n (initS pats ls) = start (iter step n) (ls.headD .hole).toInt ((dropT 1 ls).headD .hole).toInt ((dropT 2 ls).headD .hole).toInt ((dropT 3 ls).headD .hole).toSl := runF_iter (id := pid) (vs := pvs) (hs := phs) (step := step) (start := fun J => start J (ls.headD .hole).toInt ((dropT 1 ls).headD .hole).toInt ((dropT 2 ls).headD .hole).toInt ((dropT 3 ls).headD .hole).toSl) step_eq (fun I => start_eq I ls) n
def md (a0 : Int) (a1 : Int) (a2 : Int) (a3 : List Int) : Int × Bool := Z72.md a0 a1 a2 a3
def gd (a0 : Int) (a1 : Int) (a2 : Int) (a3 : List Int) : Prop := SmL (2 ^ 38) (fun y : Int => True) a3
def acc (ls : List L) : Int × Int × Int × List (List L) := ((ls.headD .hole).toInt, ((dropT 1 ls).headD .hole).toInt, ((dropT 2 ls).headD .hole).toInt, ((dropT 3 ls).headD .hole).toSl)
def R : (Int × Int × Int × List (List L)) → Option (Int × Bool) := RR (p4 gd) (u4 md)
theorem R_eq {a0} {a1} {a2} {a3} (h : gd a0 a1 a2 a3) : R (a0, a1, a2, (a3.map iRow)) = some ((md a0 a1 a2 a3).1, (md a0 a1 a2 a3).2) := RR_eq (a := (a0, a1, a2, a3)) h
def con : Con := CN pats res acc R
theorem okF (a0 : Int) (a1 : Int) (a2 : Int) (a3 : List Int) (hg : gd a0 a1 a2 a3) : ∃ n, start (iter step n) a0 a1 a2 (a3.map iRow) = ret (((md a0 a1 a2 a3).1, (md a0 a1 a2 a3).2) : Int × Bool) := by
  have tm : ∀ b : Int, 0 ≤ b → b ≤ 11 → Int.tmod b 2 = b % 2 := fun b h1 h2 => Int.tmod_eq_emod_of_nonneg h1
  have td : ∀ b : Int, 0 ≤ b → b ≤ 13 → IntKind.i64.wrap (Int.tdiv b 2) = b / 2 := fun b h1 h2 => by
    rw [Int.tdiv_eq_ediv_of_nonneg h1, Go.IntWalk.i64_in _ (by omega)]
  have t1 : ∀ b : Int, 0 ≤ b → b ≤ 13 → IntKind.i64.wrap (b + 1) = b + 1 := fun b h1 h2 => Go.IntWalk.i64_in _ (by omega)
  have xr : ∀ b : Int, 0 ≤ b → b ≤ 11 → xorI .i64 b 1 = if b % 2 = 0 then b + 1 else b - 1 := by
    intro b h1 h2
    have : b = 0 ∨ b = 1 ∨ b = 2 ∨ b = 3 ∨ b = 4 ∨ b = 5 ∨ b = 6 ∨ b = 7 ∨ b = 8 ∨ b = 9 ∨ b = 10 ∨ b = 11 := by omega
    rcases this with h | h | h | h | h | h | h | h | h | h | h | h <;> subst h <;> decide
  have key : ∀ (k : Nat) (leaf i n : Int) (p : List Int), p.length ≤ 2 ^ 38 → 0 ≤ i → i < n → n ≤ 12 → n ≤ 2 ^ k → ∃ m, iter step m (Pt.p0 leaf i n (p.map iRow)) = ret ((Z72.tf (k + 1) leaf i n p).1, (Z72.tf (k + 1) leaf i n p).2) := by
    have fin : ∀ (leaf : Int) (p : List Int) (J : Pt → Ans), step J (Pt.p0 leaf 0 1 (p.map iRow)) = ret ((if p.isEmpty then (leaf, true) else (0, false)).1, (if p.isEmpty then (leaf, true) else (0, false)).2) := by
      intro leaf p J
      simp only [step, List.length_map]
      refine no_ret (by decide) ?_
      cases p with
      | nil => rfl
      | cons x xs => exact yes_ret (decide_eq_true (by simp only [List.length_cons]; omega)) rfl
    intro k
    induction k with
    | zero =>
      intro leaf i n p hp h1 h2 h3 h4
      have hn : n = 1 := by omega
      subst hn
      have hi : i = 0 := by omega
      subst hi
      exact ⟨1, (fin leaf p _).trans rfl⟩
    | succ k ih =>
      intro leaf i n p hp h1 h2 h3 h4
      have hk : n ≤ 2 * 2 ^ k := by rw [Int.pow_succ] at h4; omega
      unfold Z72.tf
      by_cases hn : n > 1
      · have e1 := tm i h1 (by omega)
        have e2 := td i h1 (by omega)
        have e3 := t1 n (by omega) (by omega)
        have e4 := td (n + 1) (by omega) (by omega)
        have e6 := xr i h1 (by omega)
        rw [if_pos hn]
        by_cases hc : i % 2 = 1 ∨ i + 1 < n
        · have hx : decide (xorI .i64 i 1 ≥ n) = false := by
            rw [e6]
            split
            · exact decide_eq_false (by omega)
            · exact decide_eq_false (by omega)
          rw [if_pos hc]
          cases p with
          | nil =>
            refine ⟨1, ?_⟩
            show step (iter step 0) (Pt.p0 _ _ _ _) = _
            simp only [step, hx]
            exact yes_ret (decide_eq_true (by omega)) (no_ret rfl (yes_ret rfl rfl))
          | cons x xs =>
            simp only [List.length_cons] at hp
            obtain ⟨m, hm⟩ := ih (if i % 2 = 1 then Z71.md x leaf else Z71.md leaf x) (i / 2) ((n + 1) / 2) xs (by omega) (by omega) (by omega) (by omega) (by omega)
            refine ⟨m + 1, ?_⟩
            show step (iter step m) (Pt.p0 _ _ _ _) = _
            have ht : List.take (Int.toNat ((xs.length : Int) + 1 - 1)) (List.drop 1 ((x :: xs).map iRow)) = xs.map iRow := by
              simp only [List.map_cons, List.drop_succ_cons, List.drop_zero]
              exact List.take_of_length_le (by simp)
            have hl : (((x :: xs).map iRow).length : Int) = (xs.length : Int) + 1 := by simp
            simp only [step, hx, e1, e2, e3, e4, ht, hl]
            refine yes_ret (decide_eq_true (by omega)) (no_ret rfl (no_ret (beq_eq_false_iff_ne.2 (by omega)) ?_))
            have hat : iAt ((x :: xs).map iRow) 0 = x := rfl
            rw [hat]
            by_cases hp : i % 2 = 1
            · rw [if_pos hp] at hm
              rw [hp]
              refine no_ret rfl (yes_ret (decide_eq_true (by omega)) (call_to (Z71.md x leaf) (by have := Z154.R_eq (a0 := x) (a1 := leaf) trivial; rw [Z154.br] at this; exact this) (yes_ret (decide_eq_true (by omega)) (yes_ret (decide_eq_true (by omega)) ?_))))
              rw [if_pos rfl]
              exact hm
            · rw [if_neg hp] at hm
              have h0 : i % 2 = 0 := by omega
              rw [h0]
              refine yes_ret rfl (yes_ret (decide_eq_true (by omega)) (call_to (Z71.md leaf x) (by have := Z154.R_eq (a0 := leaf) (a1 := x) trivial; rw [Z154.br] at this; exact this) (yes_ret (decide_eq_true (by omega)) (yes_ret (decide_eq_true (by omega)) ?_))))
              rw [if_neg (by omega)]
              exact hm
        · have hx : decide (xorI .i64 i 1 ≥ n) = true := by
            rw [e6, if_pos (by omega)]
            exact decide_eq_true (by omega)
          rw [if_neg hc]
          obtain ⟨m, hm⟩ := ih leaf (i / 2) ((n + 1) / 2) p hp (by omega) (by omega) (by omega) (by omega)
          refine ⟨m + 1, ?_⟩
          show step (iter step m) (Pt.p0 _ _ _ _) = _
          simp only [step, hx, e2, e3, e4]
          exact yes_ret (decide_eq_true (by omega)) (yes_ret rfl hm)
      · have hn1 : n = 1 := by omega
        subst hn1
        have hi : i = 0 := by omega
        subst hi
        refine ⟨1, (fin leaf p _).trans ?_⟩
        rw [if_neg (show ¬ (1 : Int) > 1 by omega)]
  unfold start md Z72.md
  obtain ⟨H3, _⟩ := hg
  by_cases c1 : a2 < 1
  · refine ⟨0, yes_ret (decide_eq_true c1) ?_⟩
    rw [show Z39.md a2 1 12 = false from by simp [Z39.md]; omega]; rfl
  refine ex_no (decide_eq_false c1) ?_
  by_cases c2 : a2 > 12
  · refine ⟨0, yes_ret (decide_eq_true c2) ?_⟩
    rw [show Z39.md a2 1 12 = false from by simp [Z39.md]; omega]; rfl
  refine ex_no (decide_eq_false c2) ?_
  rw [show Z39.md a2 1 12 = true from by simp [Z39.md]; omega]
  simp only [Bool.not_true, cond_false]
  refine ex_call_to (Z39.md a1 0 (IntKind.i64.wrap (a2 - 1))) (by have := Z106.R_eq (a0 := a1) (a1 := 0) (a2 := IntKind.i64.wrap (a2 - 1)) trivial; rw [Z106.br] at this; exact this) ?_
  cases hd : Z39.md a1 0 (IntKind.i64.wrap (a2 - 1))
  · exact ⟨0, rfl⟩
  rw [Go.IntWalk.i64_in _ (by omega)] at hd
  have i2 : 0 ≤ a1 ∧ a1 ≤ a2 - 1 := by simpa [Z39.md] using hd
  exact key 4 a0 a1 a2 a3 H3 (by omega) (by omega) (by omega) (by omega)
theorem valid_ : Valid Tryz.prog Ev 227 con := VV (run := fun n x => start (iter step n) x.1 x.2.1 x.2.2.1 x.2.2.2) mix tab_ok (.cons Z106.valid_ (.cons Z154.valid_ .nil)) Tryz.func227 (by kernel_rfl) run_eq (fun _ a _ _ hg => okF a.1 a.2.1 a.2.2.1 a.2.2.2 hg)
theorem br (a0 : Int) (a1 : Int) (a2 : Int) (a3 : List Int) : md a0 a1 a2 a3 = Z72.md a0 a1 a2 a3 := by
 unfold md Z72.md
 first
 | (simp only [Z106.br, Z154.br]; done)
 | (simp only [Z106.br, Z154.br]; rfl)
 | rfl
end Z155
namespace Z156
inductive Pt where
 | p0 (a : ByteArray) (b : Int) (c : Int)
def pid : Pt → Nat
 | .p0 .. => 2
def pvs : Pt → List V
 | .p0 a b c => [.str a, .int .i64 b, .int .i64 c]
def phs : Pt → List Root
 | .p0 a b c => []
def step (J : Pt → Ans) : Pt → Ans
 | .p0 a b c => (bif (decide (c < b)) then (bif (decide ((0 : Int) ≤ c)) then (bif (decide (c < (a.size : Int))) then (bif (decide ((chAt a (Int.toNat c)) ≥ 97)) then (bif (decide ((chAt a (Int.toNat c)) ≤ 122)) then J (.p0 a b (IntKind.i64.wrap (c + 1))) else (bif (decide ((chAt a (Int.toNat c)) ≥ 48)) then (bif (decide ((chAt a (Int.toNat c)) ≤ 57)) then J (.p0 a b (IntKind.i64.wrap (c + 1))) else (bif ((chAt a (Int.toNat c)) == 45) then (bif (decide (c > 0)) then (bif (!(decide (c < (IntKind.i64.wrap ((a.size : Int) - 1))))) then ret (false : Bool) else J (.p0 a b (IntKind.i64.wrap (c + 1)))) else ret (false : Bool)) else ret (false : Bool))) else (bif ((chAt a (Int.toNat c)) == 45) then (bif (decide (c > 0)) then (bif (!(decide (c < (IntKind.i64.wrap ((a.size : Int) - 1))))) then ret (false : Bool) else J (.p0 a b (IntKind.i64.wrap (c + 1)))) else ret (false : Bool)) else ret (false : Bool)))) else (bif (decide ((chAt a (Int.toNat c)) ≥ 48)) then (bif (decide ((chAt a (Int.toNat c)) ≤ 57)) then J (.p0 a b (IntKind.i64.wrap (c + 1))) else (bif ((chAt a (Int.toNat c)) == 45) then (bif (decide (c > 0)) then (bif (!(decide (c < (IntKind.i64.wrap ((a.size : Int) - 1))))) then ret (false : Bool) else J (.p0 a b (IntKind.i64.wrap (c + 1)))) else ret (false : Bool)) else ret (false : Bool))) else (bif ((chAt a (Int.toNat c)) == 45) then (bif (decide (c > 0)) then (bif (!(decide (c < (IntKind.i64.wrap ((a.size : Int) - 1))))) then ret (false : Bool) else J (.p0 a b (IntKind.i64.wrap (c + 1)))) else ret (false : Bool)) else ret (false : Bool)))) else none) else none) else (call (Z106.R ((a.size : Int), 1, 8)) fun v1 => ret (v1 : Bool)))
def start (J : Pt → Ans) (x0 : ByteArray) : Ans := J (.p0 x0 (x0.size : Int) 0)
def live : Nat → Live := fun i => match i with | 2 => [(0, none), (6, none), (7, none)] | _ => []
def pats : List Pat := [.rd (.str)]
def res : RP := .one (.rd (.bool))
abbrev E : Env := { T := assoc Tab, G := conG [(177, Z106.con)], nt := 47 }
theorem step_eq (I : Heads) (p : Pt) : enterC E live I (pid p) (bodyOf Tryz.f121) (stOf (live (pid p)) (pvs p) (phs p)) (doneK E Tryz.f121 res) = step (fun q => I (pid q) (pvs q) (phs q)) p := by
 cases p <;> kernel_rfl
theorem start_eq (I : Heads) (ls : List L) : runC E live I (bodyOf Tryz.f121) (initS pats ls) (doneK E Tryz.f121 res) = start (fun q => I (pid q) (pvs q) (phs q)) (ls.headD .hole).toStr := by kernel_rfl
theorem run_eq (n : Nat) (ls : List L) : runF E live Tryz.f121 res n (initS pats ls) = start (iter step n) (ls.headD .hole).toStr := runF_iter (id := pid) (vs := pvs) (hs := phs) (step := step) (start := fun J => start J (ls.headD .hole).toStr) step_eq (fun I => start_eq I ls) n
def md (a0 : ByteArray) : Bool := (loopM (S := Unit) (β := Bool) (fun (i1 : Nat) (s3 : Unit) => (bif (decide ((chAt a0 i1) ≥ 97)) then (bif (decide ((chAt a0 i1) ≤ 122)) then (.inl ()) else (bif (decide ((chAt a0 i1) ≥ 48)) then (bif (decide ((chAt a0 i1) ≤ 57)) then (.inl ()) else (bif ((chAt a0 i1) == 45) then (bif (decide ((i1 : Int) > 0)) then (bif (!(decide ((i1 : Int) < (IntKind.i64.wrap ((a0.size : Int) - 1))))) then (.inr (false : Bool)) else (.inl ())) else (.inr (false : Bool))) else (.inr (false : Bool)))) else (bif ((chAt a0 i1) == 45) then (bif (decide ((i1 : Int) > 0)) then (bif (!(decide ((i1 : Int) < (IntKind.i64.wrap ((a0.size : Int) - 1))))) then (.inr (false : Bool)) else (.inl ())) else (.inr (false : Bool))) else (.inr (false : Bool))))) else (bif (decide ((chAt a0 i1) ≥ 48)) then (bif (decide ((chAt a0 i1) ≤ 57)) then (.inl ()) else (bif ((chAt a0 i1) == 45) then (bif (decide ((i1 : Int) > 0)) then (bif (!(decide ((i1 : Int) < (IntKind.i64.wrap ((a0.size : Int) - 1))))) then (.inr (false : Bool)) else (.inl ())) else (.inr (false : Bool))) else (.inr (false : Bool)))) else (bif ((chAt a0 i1) == 45) then (bif (decide ((i1 : Int) > 0)) then (bif (!(decide ((i1 : Int) < (IntKind.i64.wrap ((a0.size : Int) - 1))))) then (.inr (false : Bool)) else (.inl ())) else (.inr (false : Bool))) else (.inr (false : Bool)))))) (fun (s3 : Unit) => ((Z106.md (a0.size : Int) 1 8) : Bool)) a0.size 0 ())
def gd (a0 : ByteArray) : Prop := (a0.size ≤ (2 ^ 21))
def acc (ls : List L) : ByteArray := (ls.headD .hole).toStr
def R : ByteArray → Option Bool := RR gd md
theorem R_eq {a0} (h : gd a0) : R a0 = some (md a0) := RR_eq (a := a0) h
def con : Con := CN pats res acc R
theorem okF (a0 : ByteArray) (hg : gd a0) : ∃ n, start (iter step n) a0 = ret ((md a0) : Bool) := by
  unfold gd at hg
  have H0 := hg
  unfold start md
  try simp only [S0]
  have Bh2 : a0.size ≤ maxLen := (by
      have := H0
      try simp only [maxLen] at *
      omega)
  refine ex_pt (p := Pt.p0 a0 (a0.size : Int) 0) (by first | rfl | (simp only [S0, MP]; done) | (simp only [MP]; rfl)) ?_
  refine loopM_ok (pt := fun (i1 : Nat) (s3 : Unit) => Pt.p0 a0 (a0.size : Int) (i1 : Int)) (s := (() : Unit)) (out := ret) (fun _ _ => True) (fun J i1 s3 h2 hih2 => ?_) (fun s3 hih2 => ?_) trivial
  · simp only [step, S0]
    have bb_ := Bh2
    simp only [maxLen] at bb_
    have := H0
    refine Rnd.yes (by apply decide_eq_true; omega) ?_
    refine Rnd.yes zle_dec ?_
    refine Rnd.yes (lt_dec h2) ?_
    refine Rnd.bif (fun c4 => ?_) (fun c4 => ?_)
    · refine Rnd.bif (fun c5 => ?_) (fun c5 => ?_)
      · refine Rnd.inl trivial ?_
        rw [wrap_succ h2 Bh2]
        all_goals first | rfl | (simp only [S0, MP]; first | done | rfl)
      · refine Rnd.bif (fun c6 => ?_) (fun c6 => ?_)
        · refine Rnd.bif (fun c7 => ?_) (fun c7 => ?_)
          · refine Rnd.inl trivial ?_
            rw [wrap_succ h2 Bh2]
            all_goals first | rfl | (simp only [S0, MP]; first | done | rfl)
          · refine Rnd.bif (fun c8 => ?_) (fun _ => Rnd.inr rfl)
            refine Rnd.bif (fun c9 => ?_) (fun _ => Rnd.inr rfl)
            refine Rnd.bif (fun _ => Rnd.inr rfl) (fun c10 => ?_)
            refine Rnd.inl trivial ?_
            rw [wrap_succ h2 Bh2]
            all_goals first | rfl | (simp only [S0, MP]; first | done | rfl)
        · refine Rnd.bif (fun c11 => ?_) (fun _ => Rnd.inr rfl)
          refine Rnd.bif (fun c12 => ?_) (fun _ => Rnd.inr rfl)
          refine Rnd.bif (fun _ => Rnd.inr rfl) (fun c13 => ?_)
          refine Rnd.inl trivial ?_
          rw [wrap_succ h2 Bh2]
          all_goals first | rfl | (simp only [S0, MP]; first | done | rfl)
    · refine Rnd.bif (fun c14 => ?_) (fun c14 => ?_)
      · refine Rnd.bif (fun c15 => ?_) (fun c15 => ?_)
        · refine Rnd.inl trivial ?_
          rw [wrap_succ h2 Bh2]
          all_goals first | rfl | (simp only [S0, MP]; first | done | rfl)
        · refine Rnd.bif (fun c16 => ?_) (fun _ => Rnd.inr rfl)
          refine Rnd.bif (fun c17 => ?_) (fun _ => Rnd.inr rfl)
          refine Rnd.bif (fun _ => Rnd.inr rfl) (fun c18 => ?_)
          refine Rnd.inl trivial ?_
          rw [wrap_succ h2 Bh2]
          all_goals first | rfl | (simp only [S0, MP]; first | done | rfl)
      · refine Rnd.bif (fun c19 => ?_) (fun _ => Rnd.inr rfl)
        refine Rnd.bif (fun c20 => ?_) (fun _ => Rnd.inr rfl)
        refine Rnd.bif (fun _ => Rnd.inr rfl) (fun c21 => ?_)
        refine Rnd.inl trivial ?_
        rw [wrap_succ h2 Bh2]
        all_goals first | rfl | (simp only [S0, MP]; first | done | rfl)
  · simp only [step, S0]
    have := H0
    refine ex_no (by apply decide_eq_false; omega) ?_
    refine ex_call_to (Z106.md (a0.size : Int) 1 8) (Z106.R_eq (a0 := (a0.size : Int)) (a1 := 1) (a2 := 8) trivial) ?_
    refine ⟨0, ?_⟩
    all_goals first | rfl | (simp only [S0, MP]; first | done | rfl)
theorem valid_ : Valid Tryz.prog Ev 121 con := VV (run := fun n x => start (iter step n) x) mix tab_ok (.cons Z106.valid_ .nil) Tryz.func121 (by kernel_rfl) run_eq (fun _ a _ _ hg => okF a hg)
theorem br (a0 : ByteArray) : md a0 = Z73.md a0 := by
  unfold md Z73.md
  by_cases hl : 1 ≤ a0.size ∧ a0.size ≤ 8
  · have e1 : Z39.md (a0.size : Int) 1 8 = true := by simp [Z39.md]; omega
    simp only [Z106.br, e1]
    have ew : IntKind.i64.wrap ((a0.size : Int) - 1) = ((a0.size - 1 : Nat) : Int) := by
      rw [Go.IntWalk.i64_in _ (by omega)]; omega
    simp only [ew, toNat_nat]
    rw [Bool.eq_iff_iff]
    rw [loopM_true (fun i => (97 ≤ chAt a0 i ∧ chAt a0 i ≤ 122) ∨ (48 ≤ chAt a0 i ∧ chAt a0 i ≤ 57) ∨ (chAt a0 i = 45 ∧ 0 < i ∧ i < a0.size - 1)) (fun i hi h => by simp; grind) (fun i hi h => by simp; grind)]
    have e2 := loopM_true (n := a0.size) (f := fun (i4 : Nat) (s6 : Unit) => (bif (decide ((chAt a0 i4) < 97)) then (bif (decide ((chAt a0 i4) < 48)) then (bif ((chAt a0 i4) != 45) then (.inr (false : Bool)) else (.inl ())) else (bif (decide ((chAt a0 i4) > 57)) then (bif ((chAt a0 i4) != 45) then (.inr (false : Bool)) else (.inl ())) else (.inl ()))) else (bif (decide ((chAt a0 i4) > 122)) then (bif (decide ((chAt a0 i4) < 48)) then (bif ((chAt a0 i4) != 45) then (.inr (false : Bool)) else (.inl ())) else (bif (decide ((chAt a0 i4) > 57)) then (bif ((chAt a0 i4) != 45) then (.inr (false : Bool)) else (.inl ())) else (.inl ()))) else (.inl ())))) (t := fun _ => true)
      (fun i => (97 ≤ chAt a0 i ∧ chAt a0 i ≤ 122) ∨ (48 ≤ chAt a0 i ∧ chAt a0 i ≤ 57) ∨ chAt a0 i = 45) (fun i hi h => by simp; grind) (fun i hi h => by simp; grind)
    have e3 : ∀ b c d : Bool, (bif !true then false else bif b then false else bif c then false else d) = true ↔ b = false ∧ c = false ∧ d = true := by intro b c d; cases b <;> cases c <;> simp
    rw [e3, e2]
    simp only [beq_eq_false_iff_ne, ne_eq, and_true]
    constructor
    · intro h
      refine ⟨fun h0 => ?_, fun h0 => ?_, fun i hi => ?_⟩
      · have := h 0 (by omega); omega
      · have := h (a0.size - 1) (by omega); omega
      · have := h i hi; omega
    · intro ⟨h1, h2, h3⟩ i hi
      have := h3 i hi
      by_cases h0 : i = 0
      · subst h0; omega
      · by_cases h9 : i = a0.size - 1
        · subst h9; omega
        · omega
  · have e1 : Z39.md (a0.size : Int) 1 8 = false := by simp [Z39.md]; omega
    simp only [Z106.br, e1]
    refine loopM_const ?_ _ _ _
    intro i s b h
    revert h
    simp only [Bool.cond_eq_ite]
    repeat' split
    all_goals (intro h; first | (cases h; rfl) | cases h)
end Z156
namespace Z157
def F (x0 : ByteArray) : Ans := (call (Z156.R x0) fun v1 => ret ((!v1) : Bool))
def pats : List Pat := [.rd (.str)]
def res : RP := .one (.rd (.bool))
def md (a0 : ByteArray) : Bool := ((!(Z156.md a0)) : Bool)
def gd (a0 : ByteArray) : Prop := (a0.size ≤ (2 ^ 21))
def acc (ls : List L) : ByteArray := (ls.headD .hole).toStr
def R : ByteArray → Option Bool := RR gd md
theorem R_eq {a0} (h : gd a0) : R a0 = some (md a0) := RR_eq (a := a0) h
def con : Con := CN pats res acc R
theorem okF (a0 : ByteArray) (hg : gd a0) : F a0 = ret ((md a0) : Bool) := by
 unfold gd at hg
 have H0 := hg
 unfold F md
 try simp only [S0]
 refine call_to (Z156.md a0) (Z156.R_eq (a0 := a0) H0) ?_
 all_goals first | rfl | (simp only [S0, MP]; first | done | rfl)
theorem valid_ : Valid Tryz.prog Ev 291 con := VV (live := fun _ => []) (nt := 6) (run := fun _ x => F x) mix tab_ok (.cons Z156.valid_ .nil) Tryz.func291 (by kernel_rfl) (fun _ _ => by kernel_rfl) (fun _ a _ _ hg => ⟨0, okF a hg⟩)
end Z157
namespace Z158
inductive Pt where
 | p0 (a : List (List L)) (b : Int) (c : Int)
def pid : Pt → Nat
 | .p0 .. => 2
def pvs : Pt → List V
 | .p0 a b c => [.sl none 9 a, .fn 291 [], .int .i64 b, .int .i64 c]
def phs : Pt → List Root
 | .p0 a b c => []
def step (J : Pt → Ans) : Pt → Ans
 | .p0 a b c => (bif (decide (c < b)) then (bif (decide ((0 : Int) ≤ c)) then (bif (decide (c < (a.length : Int))) then (call (Z157.R (sAt a (Int.toNat c))) fun v1 => (bif v1 then ret (c : Int) else J (.p0 a b (IntKind.i64.wrap (c + 1))))) else none) else none) else ret ((-1) : Int))
def start (J : Pt → Ans) (x0 : List (List L)) : Ans := J (.p0 x0 (x0.length : Int) 0)
def live : Nat → Live := fun i => match i with | 2 => [(0, none), (1, none), (7, none), (8, none)] | _ => []
def pats : List Pat := [.rd (.sl 9), .fn 291 []]
def res : RP := .one (.rd (.int .i64))
abbrev E : Env := { T := assoc Tab, G := conG [(291, Z157.con)], nt := 19 }
theorem step_eq (I : Heads) (p : Pt) : enterC E live I (pid p) (bodyOf Tryz.f309) (stOf (live (pid p)) (pvs p) (phs p)) (doneK E Tryz.f309 res) = step (fun q => I (pid q) (pvs q) (phs q)) p := by
 cases p <;> kernel_rfl
theorem start_eq (I : Heads) (ls : List L) : runC E live I (bodyOf Tryz.f309) (initS pats ls) (doneK E Tryz.f309 res) = start (fun q => I (pid q) (pvs q) (phs q)) (ls.headD .hole).toSl := by kernel_rfl
theorem run_eq (n : Nat) (ls : List L) : runF E live Tryz.f309 res n (initS pats ls) = start (iter step n) (ls.headD .hole).toSl := runF_iter (id := pid) (vs := pvs) (hs := phs) (step := step) (start := fun J => start J (ls.headD .hole).toSl) step_eq (fun I => start_eq I ls) n
def md (a0 : List ByteArray) : Int := (eachI (S := Unit) (β := Int) (fun (i1 : Nat) (y1 : ByteArray) (s3 : Unit) => (bif (Z157.md y1) then (.inr ((i1 : Int) : Int)) else (.inl ()))) (fun (s3 : Unit) => ((-1) : Int)) 0 a0 ())
def gd (a0 : List ByteArray) : Prop := (SmL (2 ^ 21) (fun y : ByteArray => y.size ≤ (2 ^ 21)) a0)
def acc (ls : List L) : List (List L) := (ls.headD .hole).toSl
def R : (List (List L)) → Option Int := RR gd md
theorem R_eq {a0} (h : gd a0) : R (a0.map sRow) = some (md a0) := RR_eq (a := a0) h
def con : Con := CN pats res acc R
theorem okF (a0 : List ByteArray) (hg : gd a0) : ∃ n, start (iter step n) (a0.map sRow) = ret ((md a0) : Int) := by
  unfold gd at hg
  have H0 := hg
  unfold start md
  try simp only [S0]
  have Bh2 : a0.length ≤ maxLen := (by
      have := (H0).1
      try simp only [maxLen] at *
      omega)
  refine ex_eq (out := ret) (loopM_eachI (z := ⟨#[]⟩)) ?_
  refine ex_pt (p := Pt.p0 (a0.map sRow) (a0.length : Int) 0) (by first | rfl | (simp only [S0, MP]; done) | (simp only [MP]; rfl)) ?_
  refine loopM_ok (pt := fun (i1 : Nat) (s3 : Unit) => Pt.p0 (a0.map sRow) (a0.length : Int) (i1 : Int)) (s := (() : Unit)) (out := ret) (fun _ _ => True) (fun J i1 s3 h2 hih2 => ?_) (fun s3 hih2 => ?_) trivial
  · simp only [step, S0]
    have bb_ := Bh2
    simp only [maxLen] at bb_
    have := (H0).1
    refine Rnd.yes (by apply decide_eq_true; omega) ?_
    refine Rnd.yes zle_dec ?_
    refine Rnd.yes (lt_dec h2) ?_
    refine Rnd.call_to (Z157.md (a0.getD i1 ⟨#[]⟩)) (Z157.R_eq (a0 := (a0.getD i1 ⟨#[]⟩)) (SmL.getD (z := ⟨#[]⟩) H0 h2)) ?_
    refine Rnd.bif (fun c4 => ?_) (fun c4 => ?_)
    · refine Rnd.inr ?_
      all_goals first | rfl | (simp only [S0, MP]; first | done | rfl)
    · refine Rnd.inl trivial ?_
      rw [wrap_succ h2 Bh2]
      all_goals first | rfl | (simp only [S0, MP]; first | done | rfl)
  · simp only [step, S0]
    have := (H0).1
    refine ex_no (by apply decide_eq_false; omega) ?_
    refine ⟨0, ?_⟩
    all_goals first | rfl | (simp only [S0, MP]; first | done | rfl)
theorem valid_ : Valid Tryz.prog Ev 309 con := VV (run := fun n x => start (iter step n) x) mix tab_ok (.cons Z157.valid_ .nil) Tryz.func309 (by kernel_rfl) run_eq (fun _ a _ _ hg => okF a hg)
theorem fa (a0 : List ByteArray) : -1 ≤ md a0 ∧ md a0 < (a0.length : Int) := by
 unfold md
 refine eachI_fa0 ?_ _ _
 all_goals
  intro i x s b h
  revert h
  simp only [Bool.cond_eq_ite]
  repeat' split
  all_goals (intro h; first | (cases h; rfl) | cases h)
theorem idx_eq (a0 : List ByteArray) : md a0 = findI (fun y => Z157.md y) 0 a0 := by
 unfold md
 exact eachI_find
end Z158
namespace Z159
def F (x0 : List (List L)) : Ans := (call (Z158.R x0) fun v1 => ret ((decide (v1 ≥ 0)) : Bool))
def pats : List Pat := [.rd (.sl 9), .fn 291 []]
def res : RP := .one (.rd (.bool))
def md (a0 : List ByteArray) : Bool := ((decide ((Z158.md a0) ≥ 0)) : Bool)
def gd (a0 : List ByteArray) : Prop := (SmL (2 ^ 21) (fun y : ByteArray => y.size ≤ (2 ^ 21)) a0)
def acc (ls : List L) : List (List L) := (ls.headD .hole).toSl
def R : (List (List L)) → Option Bool := RR gd md
theorem R_eq {a0} (h : gd a0) : R (a0.map sRow) = some (md a0) := RR_eq (a := a0) h
def con : Con := CN pats res acc R
theorem okF (a0 : List ByteArray) (hg : gd a0) : F (a0.map sRow) = ret ((md a0) : Bool) := by
 unfold gd at hg
 have H0 := hg
 unfold F md
 try simp only [S0]
 refine call_to (Z158.md a0) (Z158.R_eq (a0 := a0) H0) ?_
 have fv1_ := Z158.fa a0
 all_goals first | rfl | (simp only [S0, MP]; first | done | rfl)
theorem valid_ : Valid Tryz.prog Ev 290 con := VV (live := fun _ => []) (nt := 9) (run := fun _ x => F x) mix tab_ok (.cons Z158.valid_ .nil) Tryz.func290 (by kernel_rfl) (fun _ _ => by kernel_rfl) (fun _ a _ _ hg => ⟨0, okF a hg⟩)
theorem any_eq (a0 : List ByteArray) : md a0 = a0.any (fun y => Z157.md y) := by
 unfold md
 rw [Z158.idx_eq]
 exact findI_ge
end Z159
namespace Z160
def F (x0 : List (List L)) : Ans := (call (Z106.R ((x0.length : Int), 1, 4)) fun v1 => (bif v1 then (call (Z159.R x0) fun v2 => ret ((!v2) : Bool)) else ret (false : Bool)))
def pats : List Pat := [.rd (.sl 9)]
def res : RP := .one (.rd (.bool))
def md (a0 : List ByteArray) : Bool := (bif (Z106.md (a0.length : Int) 1 4) then ((!(Z159.md a0)) : Bool) else (false : Bool))
def gd (a0 : List ByteArray) : Prop := (SmL (2 ^ 21) (fun y : ByteArray => y.size ≤ (2 ^ 21)) a0)
def acc (ls : List L) : List (List L) := (ls.headD .hole).toSl
def R : (List (List L)) → Option Bool := RR gd md
theorem R_eq {a0} (h : gd a0) : R (a0.map sRow) = some (md a0) := RR_eq (a := a0) h
def con : Con := CN pats res acc R
theorem okF (a0 : List ByteArray) (hg : gd a0) : F (a0.map sRow) = ret ((md a0) : Bool) := by
 unfold gd at hg
 have H0 := hg
 unfold F md
 try simp only [S0]
 refine call_to (Z106.md (a0.length : Int) 1 4) (Z106.R_eq (a0 := (a0.length : Int)) (a1 := 1) (a2 := 4) trivial) ?_
 refine bif_out ret (fun c1 => ?_) (fun _ => rfl)
 refine call_to (Z159.md a0) (Z159.R_eq (a0 := a0) H0) ?_
 all_goals first | rfl | (simp only [S0, MP]; first | done | rfl)
theorem valid_ : Valid Tryz.prog Ev 257 con := VV (live := fun _ => []) (nt := 11) (run := fun _ x => F x) mix tab_ok (.cons Z106.valid_ (.cons Z159.valid_ .nil)) Tryz.func257 (by kernel_rfl) (fun _ _ => by kernel_rfl) (fun _ a _ _ hg => ⟨0, okF a hg⟩)
theorem br (a0 : List ByteArray) : md a0 = Z74.md a0 := by
 unfold md Z74.md
 rw [Z159.any_eq]
 have e := eachM_any (p := fun y => !(Z73.md y)) (b := false) (c := Z39.md (a0.length : Int) 1 4) (xs := a0) (s := ())
 refine Eq.trans ?_ e.symm
 simp only [Z157.md, Z156.br, Z106.br]
 cases a0.any (fun y => !(Z73.md y)) <;> cases Z39.md (a0.length : Int) 1 4 <;> rfl
end Z160
namespace Z161
def F (x0 : REntry) : Ans := (call (Z156.R x0.fLabel) fun v1 => (bif (!v1) then ret (false : Bool) else (bif (x0.fKind == 1) then (call (Z106.R (x0.fValue, 0, 999999)) fun v2 => (bif v2 then ret (((x0.fPath.length : Int) == 0) : Bool) else ret (false : Bool))) else (bif (x0.fKind == 2) then (call (Z107.R x0.fValue) fun v3 => (bif v3 then ret (((x0.fPath.length : Int) == 0) : Bool) else ret (false : Bool))) else (bif (x0.fKind == 3) then (call (Z107.R x0.fValue) fun v4 => (bif v4 then (call (Z160.R x0.fPath) fun v5 => ret (v5 : Bool)) else ret (false : Bool))) else ret (false : Bool))))))
def pats : List Pat := [.agg [.str, .int .i64, .int .i64, .sl 9]]
def res : RP := .one (.rd (.bool))
def md (a0 : MEntry) : Bool := (bif (!(Z156.md a0.fLabel)) then (false : Bool) else (bif (a0.fKind == 1) then (bif (Z106.md a0.fValue 0 999999) then (((a0.fPath.length : Int) == 0) : Bool) else (false : Bool)) else (bif (a0.fKind == 2) then (bif (Z107.md a0.fValue) then (((a0.fPath.length : Int) == 0) : Bool) else (false : Bool)) else (bif (a0.fKind == 3) then (bif (Z107.md a0.fValue) then ((Z160.md a0.fPath) : Bool) else (false : Bool)) else (false : Bool)))))
def gd (a0 : MEntry) : Prop := (MEntry.Sm (2 ^ 21) a0)
def acc (ls : List L) : REntry := (REntry.dec ls)
def R : REntry → Option Bool := RR gd md
theorem R_eq {a0} (h : gd a0) : R (MEntry.r a0) = some (md a0) := RR_eq (a := a0) h
def con : Con := CN pats res acc R
theorem okF (a0 : MEntry) (hg : gd a0) : F (MEntry.r a0) = ret ((md a0) : Bool) := by
  unfold gd at hg
  have H0 := hg
  unfold F md
  try simp only [S0, MEntry.rs]
  refine call_to (Z156.md a0.fLabel) (Z156.R_eq (a0 := a0.fLabel) H0.1) ?_
  refine bif_out ret (fun _ => rfl) (fun c1 => ?_)
  refine bif_out ret (fun c2 => ?_) (fun c2 => ?_)
  · refine call_to (Z106.md a0.fValue 0 999999) (Z106.R_eq (a0 := a0.fValue) (a1 := 0) (a2 := 999999) trivial) ?_
    refine bif_out ret (fun c3 => ?_) (fun _ => rfl)
    all_goals first | rfl | (simp only [S0, MEntry.rs, MP]; first | done | rfl)
  · refine bif_out ret (fun c4 => ?_) (fun c4 => ?_)
    · refine call_to (Z107.md a0.fValue) (Z107.R_eq (a0 := a0.fValue) trivial) ?_
      refine bif_out ret (fun c5 => ?_) (fun _ => rfl)
      all_goals first | rfl | (simp only [S0, MEntry.rs, MP]; first | done | rfl)
    · refine bif_out ret (fun c6 => ?_) (fun _ => rfl)
      refine call_to (Z107.md a0.fValue) (Z107.R_eq (a0 := a0.fValue) trivial) ?_
      refine bif_out ret (fun c7 => ?_) (fun _ => rfl)
      refine call_to (Z160.md a0.fPath) (Z160.R_eq (a0 := a0.fPath) H0.2) ?_
      all_goals first | rfl | (simp only [S0, MEntry.rs, MP]; first | done | rfl)
theorem valid_ : Valid Tryz.prog Ev 229 con := VV (live := fun _ => []) (nt := 41) (run := fun _ x => F x) mix tab_ok (.cons Z156.valid_ (.cons Z106.valid_ (.cons Z107.valid_ (.cons Z160.valid_ .nil)))) Tryz.func229 (by kernel_rfl) (fun _ _ => by kernel_rfl) (fun _ a _ _ hg => ⟨0, okF a hg⟩)
theorem br (a0 : MEntry) : md a0 = Z75.md a0 := by
 unfold md Z75.md
 simp only [Z156.br, Z106.br, Z107.md, Z160.br]
 cases Z73.md a0.fLabel <;> simp
end Z161
namespace Z162
def F (x0 : Int) (x1 : Int) : Ans := (call (Z153.R [[L.int 231], [L.int x0], [L.int x1]]) fun v1 => ret (v1 : Int))
def pats : List Pat := [.rd (.int .i64), .rd (.int .i64)]
def res : RP := .one (.rd (.int .i64))
def md (a0 : Int) (a1 : Int) : Int := ((Z153.md [231, a0, a1]) : Int)
def gd (a0 : Int) (a1 : Int) : Prop := True
def acc (ls : List L) : Int × Int := ((ls.headD .hole).toInt, ((dropT 1 ls).headD .hole).toInt)
def R : (Int × Int) → Option Int := RR (p2 gd) (u2 md)
theorem R_eq {a0} {a1} (h : gd a0 a1) : R (a0, a1) = some (md a0 a1) := RR_eq (a := (a0, a1)) h
def con : Con := CN pats res acc R
theorem okF (a0 : Int) (a1 : Int) (hg : gd a0 a1) : F a0 a1 = ret ((md a0 a1) : Int) := by
  unfold F md
  try simp only [S0]
  refine call_to (Z153.md [231, a0, a1]) ?_ ?_
  · have R_ := Z153.R_eq (a0 := [231, a0, a1]) ⟨(by
        try simp (disch := omega) only [LN, wi]
        first | omega | (simp; done) | (simp; omega)), fun _ _ => trivial⟩
    first | exact R_ | (simp only [MP, S0] at R_ ⊢; first | exact R_ | (rw [← R_]; rfl))
  all_goals first | rfl | (simp only [S0, MP]; first | done | rfl)
theorem valid_ : Valid Tryz.prog Ev 230 con := VV (live := fun _ => []) (nt := 9) (run := fun _ x => F x.1 x.2) mix tab_ok (.cons Z153.valid_ .nil) Tryz.func230 (by kernel_rfl) (fun _ _ => by kernel_rfl) (fun _ a _ _ hg => ⟨0, okF a.1 a.2 hg⟩)
theorem br (a0 : Int) (a1 : Int) : md a0 a1 = Z76.md a0 a1 := by
 unfold md Z76.md
 first
 | (simp only [Z153.br]; done)
 | (simp only [Z153.br]; rfl)
 | rfl
end Z162
namespace Z163
def F (x0 : Int) (x1 : Int) (x2 : REntry) (x3 : RProof) : Ans := (call (Z152.R x2) fun v1 => (call (Z155.R (v1, x3.fAt, x1, x3.fPath)) fun v2 => (bif v2.2 then (call (Z161.R x2) fun v3 => (bif v3 then (call (Z162.R (x1, v2.1)) fun v4 => ret ((v4 == x0) : Bool)) else ret (false : Bool))) else ret (false : Bool))))
def pats : List Pat := [.rd (.int .i64), .rd (.int .i64), .agg [.str, .int .i64, .int .i64, .sl 9], .agg [.int .i64, .sl 3]]
def res : RP := .one (.rd (.bool))
def md (a0 : Int) (a1 : Int) (a2 : MEntry) (a3 : MProof) : Bool := (bif (Z155.md (Z152.md a2) a3.fAt a1 a3.fPath).2 then (bif (Z161.md a2) then (((Z162.md a1 ((Z155.md (Z152.md a2) a3.fAt a1 a3.fPath).1)) == a0) : Bool) else (false : Bool)) else (false : Bool))
def gd (a0 : Int) (a1 : Int) (a2 : MEntry) (a3 : MProof) : Prop := (MEntry.Sm (2 ^ 21) a2) ∧ (MProof.Sm (2 ^ 21) a3)
def acc (ls : List L) : Int × Int × REntry × RProof := ((ls.headD .hole).toInt, ((dropT 1 ls).headD .hole).toInt, (REntry.dec (dropT 2 ls)), (RProof.dec (dropT 6 ls)))
def R : (Int × Int × REntry × RProof) → Option Bool := RR (p4 gd) (u4 md)
theorem R_eq {a0} {a1} {a2} {a3} (h : gd a0 a1 a2 a3) : R (a0, a1, (MEntry.r a2), (MProof.r a3)) = some (md a0 a1 a2 a3) := RR_eq (a := (a0, a1, a2, a3)) h
def con : Con := CN pats res acc R
theorem okF (a0 : Int) (a1 : Int) (a2 : MEntry) (a3 : MProof) (hg : gd a0 a1 a2 a3) : F a0 a1 (MEntry.r a2) (MProof.r a3) = ret ((md a0 a1 a2 a3) : Bool) := by
 unfold gd at hg
 obtain ⟨H2, H3⟩ := hg
 unfold F md
 try simp only [S0, MEntry.rs, MProof.rs]
 refine call_to (Z152.md a2) (Z152.R_eq (a0 := a2) H2) ?_
 refine call_to ((Z155.md (Z152.md a2) a3.fAt a1 a3.fPath).1, (Z155.md (Z152.md a2) a3.fAt a1 a3.fPath).2) (Z155.R_eq (a0 := (Z152.md a2)) (a1 := a3.fAt) (a2 := a1) (a3 := a3.fPath) (H3.mono (by decide) (fun x hx => trivial))) ?_
 refine bif_out ret (fun c1 => ?_) (fun _ => rfl)
 refine call_to (Z161.md a2) (Z161.R_eq (a0 := a2) H2) ?_
 refine bif_out ret (fun c2 => ?_) (fun _ => rfl)
 refine call_to (Z162.md a1 ((Z155.md (Z152.md a2) a3.fAt a1 a3.fPath).1)) (Z162.R_eq (a0 := a1) (a1 := (Z155.md (Z152.md a2) a3.fAt a1 a3.fPath).1) trivial) ?_
 all_goals first | rfl | (simp only [S0, MEntry.rs, MProof.rs, MP]; first | done | rfl)
theorem valid_ : Valid Tryz.prog Ev 200 con := VV (live := fun _ => []) (nt := 34) (run := fun _ x => F x.1 x.2.1 x.2.2.1 x.2.2.2) mix tab_ok (.cons Z152.valid_ (.cons Z155.valid_ (.cons Z161.valid_ (.cons Z162.valid_ .nil)))) Tryz.func200 (by kernel_rfl) (fun _ _ => by kernel_rfl) (fun _ a _ _ hg => ⟨0, okF a.1 a.2.1 a.2.2.1 a.2.2.2 hg⟩)
theorem br (a0 : Int) (a1 : Int) (a2 : MEntry) (a3 : MProof) : md a0 a1 a2 a3 = Z77.md a0 a1 a2 a3 := by
 unfold md Z77.md
 simp only [Z155.br, Z152.br, Z161.br, Z162.br]
 cases Z75.md a2 <;> cases (Z72.md (Z70.md a2) a3.fAt a1 a3.fPath).2 <;> rfl
end Z163
namespace Z164
inductive Pt where
 | p0 (a : List (List L)) (b : List (List L)) (c : Int) (d : Int)
def pid : Pt → Nat
 | .p0 .. => 4
def pvs : Pt → List V
 | .p0 a b c d => [.sl none 9 a, .sl none 9 b, .int .i64 c, .int .i64 d]
def phs : Pt → List Root
 | .p0 a b c d => []
def step (J : Pt → Ans) : Pt → Ans
 | .p0 a b c d => (bif (decide (d < c)) then (bif (decide ((0 : Int) ≤ d)) then (bif (decide (d < (a.length : Int))) then (bif (decide ((0 : Int) ≤ d)) then (bif (decide (d < (b.length : Int))) then (bif (!((sAt a (Int.toNat d)) == (sAt b (Int.toNat d)))) then ret (false : Bool) else J (.p0 a b c (IntKind.i64.wrap (d + 1)))) else none) else none) else none) else none) else ret (true : Bool))
def start (J : Pt → Ans) (x0 : List (List L)) (x1 : List (List L)) : Ans := (bif ((x0.length : Int) != (x1.length : Int)) then ret (false : Bool) else J (.p0 x0 x1 (x0.length : Int) 0))
def live : Nat → Live := fun i => match i with | 4 => [(0, none), (1, none), (12, none), (13, none)] | _ => []
def pats : List Pat := [.rd (.sl 9), .rd (.sl 9)]
def res : RP := .one (.rd (.bool))
abbrev E : Env := { T := assoc Tab, G := conG [], nt := 26 }
theorem step_eq (I : Heads) (p : Pt) : enterC E live I (pid p) (bodyOf Tryz.f259) (stOf (live (pid p)) (pvs p) (phs p)) (doneK E Tryz.f259 res) = step (fun q => I (pid q) (pvs q) (phs q)) p := by
 cases p <;> kernel_rfl
theorem start_eq (I : Heads) (ls : List L) : runC E live I (bodyOf Tryz.f259) (initS pats ls) (doneK E Tryz.f259 res) = start (fun q => I (pid q) (pvs q) (phs q)) (ls.headD .hole).toSl ((dropT 1 ls).headD .hole).toSl := by kernel_rfl
theorem run_eq (n : Nat) (ls : List L) : runF E live Tryz.f259 res n (initS pats ls) = start (iter step n) (ls.headD .hole).toSl ((dropT 1 ls).headD .hole).toSl := runF_iter (id := pid) (vs := pvs) (hs := phs) (step := step) (start := fun J => start J (ls.headD .hole).toSl ((dropT 1 ls).headD .hole).toSl) step_eq (fun I => start_eq I ls) n
def md (a0 : List ByteArray) (a1 : List ByteArray) : Bool := (bif ((a0.length : Int) != (a1.length : Int)) then (false : Bool) else (loopM (S := Unit) (β := Bool) (fun (i2 : Nat) (s4 : Unit) => (bif (!((a0.getD i2 ⟨#[]⟩) == (a1.getD i2 ⟨#[]⟩))) then (.inr (false : Bool)) else (.inl ()))) (fun (s4 : Unit) => (true : Bool)) a0.length 0 ()))
def gd (a0 : List ByteArray) (a1 : List ByteArray) : Prop := (SmL (2 ^ 21) (fun y : ByteArray => y.size ≤ (2 ^ 21)) a0) ∧ (SmL (2 ^ 21) (fun y : ByteArray => y.size ≤ (2 ^ 21)) a1)
def acc (ls : List L) : List (List L) × List (List L) := ((ls.headD .hole).toSl, ((dropT 1 ls).headD .hole).toSl)
def R : (List (List L) × List (List L)) → Option Bool := RR (p2 gd) (u2 md)
theorem R_eq {a0} {a1} (h : gd a0 a1) : R ((a0.map sRow), (a1.map sRow)) = some (md a0 a1) := RR_eq (a := (a0, a1)) h
def con : Con := CN pats res acc R
theorem okF (a0 : List ByteArray) (a1 : List ByteArray) (hg : gd a0 a1) : ∃ n, start (iter step n) (a0.map sRow) (a1.map sRow) = ret ((md a0 a1) : Bool) := by
  unfold gd at hg
  obtain ⟨H0, H1⟩ := hg
  unfold start md
  try simp only [S0]
  refine ex_bif ret (fun _ => ⟨0, rfl⟩) (fun c1 => ?_)
  have dc1 := c1
  try simp only [DC] at dc1
  have Bh3 : a0.length ≤ maxLen := (by
      have := (H0).1
      try simp only [maxLen] at *
      omega)
  refine ex_pt (p := Pt.p0 (a0.map sRow) (a1.map sRow) (a0.length : Int) 0) (by first | rfl | (simp only [S0, MP]; done) | (simp only [MP]; rfl)) ?_
  refine loopM_ok (pt := fun (i2 : Nat) (s4 : Unit) => Pt.p0 (a0.map sRow) (a1.map sRow) (a0.length : Int) (i2 : Int)) (s := (() : Unit)) (out := ret) (fun _ _ => True) (fun J i2 s4 h3 hih3 => ?_) (fun s4 hih3 => ?_) trivial
  · simp only [step, S0]
    have bb_ := Bh3
    simp only [maxLen] at bb_
    have := (H0).1
    refine Rnd.yes (by apply decide_eq_true; omega) ?_
    refine Rnd.yes zle_dec ?_
    refine Rnd.yes (lt_dec h3) ?_
    refine Rnd.yes zle_dec ?_
    refine Rnd.yes (by
        have := (H1).1
        refine decide_eq_true ?_
        try simp (disch := omega) only [LN, wi]
        first | omega | (simp; done) | (simp; omega)) ?_
    refine Rnd.bif (fun _ => Rnd.inr rfl) (fun c5 => ?_)
    refine Rnd.inl trivial ?_
    rw [wrap_succ h3 Bh3]
    all_goals first | rfl | (simp only [S0, MP]; first | done | rfl)
  · simp only [step, S0]
    have := (H0).1
    refine ex_no (by apply decide_eq_false; omega) ?_
    refine ⟨0, ?_⟩
    all_goals first | rfl | (simp only [S0, MP]; first | done | rfl)
theorem valid_ : Valid Tryz.prog Ev 259 con := VV (run := fun n x => start (iter step n) x.1 x.2) mix tab_ok .nil Tryz.func259 (by kernel_rfl) run_eq (fun _ a _ _ hg => okF a.1 a.2 hg)
theorem md_eq (a0 : List ByteArray) (a1 : List ByteArray) : md a0 a1 = eqB a0 a1 := by
 unfold md
 refine loop_eqB (⟨#[]⟩) (fun i s h h2 => ?_) (fun s => rfl)
 simp only [bne, int_beq, bool_beq, ba_beq]
 cases eqB _ _ <;> rfl
end Z164
namespace Z165
def F (x0 : REntry) (x1 : REntry) : Ans := (bif (x0.fLabel == x1.fLabel) then (bif (x0.fKind == x1.fKind) then (bif (x0.fValue == x1.fValue) then (call (Z164.R (x0.fPath, x1.fPath)) fun v1 => ret (v1 : Bool)) else ret (false : Bool)) else ret (false : Bool)) else ret (false : Bool))
def pats : List Pat := [.agg [.str, .int .i64, .int .i64, .sl 9], .agg [.str, .int .i64, .int .i64, .sl 9]]
def res : RP := .one (.rd (.bool))
def md (a0 : MEntry) (a1 : MEntry) : Bool := (bif (a0.fLabel == a1.fLabel) then (bif (a0.fKind == a1.fKind) then (bif (a0.fValue == a1.fValue) then ((Z164.md a0.fPath a1.fPath) : Bool) else (false : Bool)) else (false : Bool)) else (false : Bool))
def gd (a0 : MEntry) (a1 : MEntry) : Prop := (MEntry.Sm (2 ^ 21) a0) ∧ (MEntry.Sm (2 ^ 21) a1)
def acc (ls : List L) : REntry × REntry := ((REntry.dec ls), (REntry.dec (dropT 4 ls)))
def R : (REntry × REntry) → Option Bool := RR (p2 gd) (u2 md)
theorem R_eq {a0} {a1} (h : gd a0 a1) : R ((MEntry.r a0), (MEntry.r a1)) = some (md a0 a1) := RR_eq (a := (a0, a1)) h
def con : Con := CN pats res acc R
theorem okF (a0 : MEntry) (a1 : MEntry) (hg : gd a0 a1) : F (MEntry.r a0) (MEntry.r a1) = ret ((md a0 a1) : Bool) := by
 unfold gd at hg
 obtain ⟨H0, H1⟩ := hg
 unfold F md
 try simp only [S0, MEntry.rs]
 refine bif_out ret (fun c1 => ?_) (fun _ => rfl)
 refine bif_out ret (fun c2 => ?_) (fun _ => rfl)
 refine bif_out ret (fun c3 => ?_) (fun _ => rfl)
 refine call_to (Z164.md a0.fPath a1.fPath) (Z164.R_eq (a0 := a0.fPath) (a1 := a1.fPath) ⟨H0.2, H1.2⟩) ?_
 all_goals first | rfl | (simp only [S0, MEntry.rs, MP]; first | done | rfl)
theorem valid_ : Valid Tryz.prog Ev 231 con := VV (live := fun _ => []) (nt := 31) (run := fun _ x => F x.1 x.2) mix tab_ok (.cons Z164.valid_ .nil) Tryz.func231 (by kernel_rfl) (fun _ _ => by kernel_rfl) (fun _ a _ _ hg => ⟨0, okF a.1 a.2 hg⟩)
theorem md_eq (a0 : MEntry) (a1 : MEntry) : md a0 a1 = eqB a0 a1 := by
 unfold md
 cases a0; cases a1
 rw [Bool.eq_iff_iff]
 simp [eqB_iff, ba_beq, MEntry.mk.injEq, Z164.md_eq]
 try (constructor <;> (intro h; simp_all))
end Z165
namespace Z166
def F (x0 : RProof) (x1 : RProof) : Ans := (bif (x0.fAt == x1.fAt) then (call (Z137.R (x0.fPath, x1.fPath)) fun v1 => ret (v1 : Bool)) else ret (false : Bool))
def pats : List Pat := [.agg [.int .i64, .sl 3], .agg [.int .i64, .sl 3]]
def res : RP := .one (.rd (.bool))
def md (a0 : MProof) (a1 : MProof) : Bool := (bif (a0.fAt == a1.fAt) then ((Z137.md a0.fPath a1.fPath) : Bool) else (false : Bool))
def gd (a0 : MProof) (a1 : MProof) : Prop := (MProof.Sm (2 ^ 21) a0) ∧ (MProof.Sm (2 ^ 21) a1)
def acc (ls : List L) : RProof × RProof := ((RProof.dec ls), (RProof.dec (dropT 2 ls)))
def R : (RProof × RProof) → Option Bool := RR (p2 gd) (u2 md)
theorem R_eq {a0} {a1} (h : gd a0 a1) : R ((MProof.r a0), (MProof.r a1)) = some (md a0 a1) := RR_eq (a := (a0, a1)) h
def con : Con := CN pats res acc R
theorem okF (a0 : MProof) (a1 : MProof) (hg : gd a0 a1) : F (MProof.r a0) (MProof.r a1) = ret ((md a0 a1) : Bool) := by
 unfold gd at hg
 obtain ⟨H0, H1⟩ := hg
 unfold F md
 try simp only [S0, MProof.rs]
 refine bif_out ret (fun c1 => ?_) (fun _ => rfl)
 refine call_to (Z137.md a0.fPath a1.fPath) (Z137.R_eq (a0 := a0.fPath) (a1 := a1.fPath) ⟨(H0.mono (by decide) (fun x hx => trivial)), (H1.mono (by decide) (fun x hx => trivial))⟩) ?_
 all_goals first | rfl | (simp only [S0, MProof.rs, MP]; first | done | rfl)
theorem valid_ : Valid Tryz.prog Ev 232 con := VV (live := fun _ => []) (nt := 17) (run := fun _ x => F x.1 x.2) mix tab_ok (.cons Z137.valid_ .nil) Tryz.func232 (by kernel_rfl) (fun _ _ => by kernel_rfl) (fun _ a _ _ hg => ⟨0, okF a.1 a.2 hg⟩)
theorem md_eq (a0 : MProof) (a1 : MProof) : md a0 a1 = eqB a0 a1 := by
 unfold md
 cases a0; cases a1
 rw [Bool.eq_iff_iff]
 simp [eqB_iff, ba_beq, MProof.mk.injEq, Z137.md_eq]
 try (constructor <;> (intro h; simp_all))
end Z166
namespace Z167
def F (x0 : RGap) (x1 : RGap) : Ans := (bif (x0.fAt == x1.fAt) then (call (Z165.R (x0.fBefore, x1.fBefore)) fun v1 => (bif v1 then (call (Z165.R (x0.fAfter, x1.fAfter)) fun v2 => (bif v2 then (call (Z166.R (x0.fLeft, x1.fLeft)) fun v3 => (bif v3 then (call (Z166.R (x0.fRight, x1.fRight)) fun v4 => ret (v4 : Bool)) else ret (false : Bool))) else ret (false : Bool))) else ret (false : Bool))) else ret (false : Bool))
def pats : List Pat := [.agg [.int .i64, .str, .int .i64, .int .i64, .sl 9, .str, .int .i64, .int .i64, .sl 9, .int .i64, .sl 3, .int .i64, .sl 3], .agg [.int .i64, .str, .int .i64, .int .i64, .sl 9, .str, .int .i64, .int .i64, .sl 9, .int .i64, .sl 3, .int .i64, .sl 3]]
def res : RP := .one (.rd (.bool))
def md (a0 : MGap) (a1 : MGap) : Bool := (bif (a0.fAt == a1.fAt) then (bif (Z165.md a0.fBefore a1.fBefore) then (bif (Z165.md a0.fAfter a1.fAfter) then (bif (Z166.md a0.fLeft a1.fLeft) then ((Z166.md a0.fRight a1.fRight) : Bool) else (false : Bool)) else (false : Bool)) else (false : Bool)) else (false : Bool))
def gd (a0 : MGap) (a1 : MGap) : Prop := (MGap.Sm (2 ^ 21) a0) ∧ (MGap.Sm (2 ^ 21) a1)
def acc (ls : List L) : RGap × RGap := ((RGap.dec ls), (RGap.dec (dropT 13 ls)))
def R : (RGap × RGap) → Option Bool := RR (p2 gd) (u2 md)
theorem R_eq {a0} {a1} (h : gd a0 a1) : R ((MGap.r a0), (MGap.r a1)) = some (md a0 a1) := RR_eq (a := (a0, a1)) h
def con : Con := CN pats res acc R
theorem okF (a0 : MGap) (a1 : MGap) (hg : gd a0 a1) : F (MGap.r a0) (MGap.r a1) = ret ((md a0 a1) : Bool) := by
 unfold gd at hg
 obtain ⟨H0, H1⟩ := hg
 unfold F md
 try simp only [S0, MProof.rs, MGap.rs]
 refine bif_out ret (fun c1 => ?_) (fun _ => rfl)
 refine call_to (Z165.md a0.fBefore a1.fBefore) (Z165.R_eq (a0 := a0.fBefore) (a1 := a1.fBefore) ⟨H0.1, H1.1⟩) ?_
 refine bif_out ret (fun c2 => ?_) (fun _ => rfl)
 refine call_to (Z165.md a0.fAfter a1.fAfter) (Z165.R_eq (a0 := a0.fAfter) (a1 := a1.fAfter) ⟨H0.2.1, H1.2.1⟩) ?_
 refine bif_out ret (fun c3 => ?_) (fun _ => rfl)
 refine call_to (Z166.md a0.fLeft a1.fLeft) (Z166.R_eq (a0 := a0.fLeft) (a1 := a1.fLeft) ⟨H0.2.2.1, H1.2.2.1⟩) ?_
 refine bif_out ret (fun c4 => ?_) (fun _ => rfl)
 refine call_to (Z166.md a0.fRight a1.fRight) (Z166.R_eq (a0 := a0.fRight) (a1 := a1.fRight) ⟨H0.2.2.2, H1.2.2.2⟩) ?_
 all_goals first | rfl | (simp only [S0, MProof.rs, MGap.rs, MP]; first | done | rfl)
theorem valid_ : Valid Tryz.prog Ev 201 con := VV (live := fun _ => []) (nt := 38) (run := fun _ x => F x.1 x.2) mix tab_ok (.cons Z165.valid_ (.cons Z166.valid_ .nil)) Tryz.func201 (by kernel_rfl) (fun _ _ => by kernel_rfl) (fun _ a _ _ hg => ⟨0, okF a.1 a.2 hg⟩)
theorem md_eq (a0 : MGap) (a1 : MGap) : md a0 a1 = eqB a0 a1 := by
 unfold md
 cases a0; cases a1
 rw [Bool.eq_iff_iff]
 simp [eqB_iff, ba_beq, MGap.mk.injEq, Z165.md_eq, Z166.md_eq]
 try (constructor <;> (intro h; simp_all))
end Z167
namespace Z168
inductive Pt where
 | p0 (a : List (List L)) (b : Int) (c : Int) (d : List (List L))
def pid : Pt → Nat
 | .p0 .. => 3
def pvs : Pt → List V
 | .p0 a b c d => [.own 0, .sl none 83 a, .int .i64 b, .int .i64 c]
def phs : Pt → List Root
 | .p0 a b c d => [.row 3 d]
def step (J : Pt → Ans) : Pt → Ans
 | .p0 a b c d => (bif (decide (c < b)) then (bif (decide ((0 : Int) ≤ c)) then (bif (decide (c < (a.length : Int))) then (call (Z152.R (REntry.at a (Int.toNat c))) fun v1 => (bif (lim (((d.length : Int) + 1) * 8)) then J (.p0 a b (IntKind.i64.wrap (c + 1)) (d ++ [[L.int v1]])) else none)) else none) else none) else ret (d : List (List L)))
def start (J : Pt → Ans) (x0 : List (List L)) : Ans := J (.p0 x0 (x0.length : Int) 0 [])
def live : Nat → Live := fun i => match i with | 3 => [(3, some 3), (7, none), (8, none), (9, none)] | _ => []
def pats : List Pat := [.rd (.sl 83)]
def res : RP := .one (.fr 3)
abbrev E : Env := { T := assoc Tab, G := conG [(228, Z152.con)], nt := 20 }
theorem step_eq (I : Heads) (p : Pt) : enterC E live I (pid p) (bodyOf Tryz.f261) (stOf (live (pid p)) (pvs p) (phs p)) (doneK E Tryz.f261 res) = step (fun q => I (pid q) (pvs q) (phs q)) p := by
 cases p <;> kernel_rfl
theorem start_eq (I : Heads) (ls : List L) : runC E live I (bodyOf Tryz.f261) (initS pats ls) (doneK E Tryz.f261 res) = start (fun q => I (pid q) (pvs q) (phs q)) (ls.headD .hole).toSl := by kernel_rfl
theorem run_eq (n : Nat) (ls : List L) : runF E live Tryz.f261 res n (initS pats ls) = start (iter step n) (ls.headD .hole).toSl := runF_iter (id := pid) (vs := pvs) (hs := phs) (step := step) (start := fun J => start J (ls.headD .hole).toSl) step_eq (fun I => start_eq I ls) n
def md (a0 : List MEntry) : List Int := (a0.map (fun (y1 : MEntry) => (Z152.md y1)))
def gd (a0 : List MEntry) : Prop := (SmL (2 ^ 21) (fun y : MEntry => MEntry.Sm (2 ^ 21) y) a0)
def acc (ls : List L) : List (List L) := (ls.headD .hole).toSl
def R : (List (List L)) → Option (List (List L)) := RR gd md
theorem R_eq {a0} (h : gd a0) : R (a0.map MEntry.row) = some ((md a0).map iRow) := RR_eq (a := a0) h
def con : Con := CN pats res acc R
theorem okF (a0 : List MEntry) (hg : gd a0) : ∃ n, start (iter step n) (a0.map MEntry.row) = ret (((md a0).map iRow) : List (List L)) := by
  unfold gd at hg
  have H0 := hg
  unfold start md
  try simp only [S0, MEntry.rs]
  have Bh2 : a0.length ≤ maxLen := (by
      have := (H0).1
      try simp only [maxLen] at *
      omega)
  refine ex_eq (out := (fun b : List Int => ret ((b.map iRow) : List (List L)))) (loopM_map0 (g := fun (y1 : MEntry) => (Z152.md y1)) (z := MEntry.zero) (t := fun (s3 : List Int) => s3)) ?_
  refine ex_pt (p := Pt.p0 (a0.map MEntry.row) (a0.length : Int) 0 ([].map iRow)) (by first | rfl | (simp only [S0, MEntry.rs, MP]; done) | (simp only [MP]; rfl)) ?_
  refine loopM_ok (pt := fun (i1 : Nat) (s3 : List Int) => Pt.p0 (a0.map MEntry.row) (a0.length : Int) (i1 : Int) (s3.map iRow)) (s := ([] : List Int)) (out := (fun b : List Int => ret ((b.map iRow) : List (List L)))) (fun (i1 : Nat) (s3 : List Int) => s3.length ≤ ([] : List Int).length + 1 * i1) (fun J i1 s3 h2 hih2 => ?_) (fun s3 hih2 => ?_) (by simp)
  · simp only [step, S0, MEntry.rs]
    have gr_ := hih2
    try simp only [LN] at gr_
    have bb_ := Bh2
    simp only [maxLen] at bb_
    have := (H0).1
    refine Rnd.yes (by apply decide_eq_true; omega) ?_
    refine Rnd.yes zle_dec ?_
    refine Rnd.yes (lt_dec h2) ?_
    refine Rnd.call_to (Z152.md (a0.getD i1 MEntry.zero)) (Z152.R_eq (a0 := (a0.getD i1 MEntry.zero)) (SmL.getD (z := MEntry.zero) H0 h2)) ?_
    refine Rnd.yes (by
        refine lim_t ?_
        try simp (disch := omega) only [LN, wi]
        first | omega | (simp; done) | (simp; omega)) ?_
    refine Rnd.inl (by
        have g_ := hih2
        try simp only [LN] at g_ ⊢
        first | omega | (simp; done) | (simp; omega)) ?_
    rw [wrap_succ h2 Bh2]
    all_goals first | rfl | (simp only [S0, MEntry.rs]; done) | (simp only [MP]; rfl) | (simp only [S0, MEntry.rs, MP]; first | done | rfl)
  · simp only [step, S0, MEntry.rs]
    have gr_ := hih2
    try simp only [LN] at gr_
    have := (H0).1
    refine ex_no (by apply decide_eq_false; omega) ?_
    refine ⟨0, ?_⟩
    all_goals first | rfl | (simp only [S0, MEntry.rs]; done) | (simp only [MP]; rfl) | (simp only [S0, MEntry.rs, MP]; first | done | rfl)
theorem valid_ : Valid Tryz.prog Ev 261 con := VV (run := fun n x => start (iter step n) x) mix tab_ok (.cons Z152.valid_ .nil) Tryz.func261 (by kernel_rfl) run_eq (fun _ a _ _ hg => okF a hg)
theorem len (a0 : List MEntry) : (md a0).length = a0.length := by simp [md]
theorem br (a0 : List MEntry) : md a0 = Z82.md a0 := by
 unfold md Z82.md
 first
 | (simp only [Z152.br]; done)
 | (simp only [Z152.br]; rfl)
 | rfl
end Z168
namespace Z169
inductive Pt where
 | p0 (a : List (List L)) (b : Int) (c : List (List L))
def pid : Pt → Nat
 | .p0 .. => 3
def pvs : Pt → List V
 | .p0 a b c => [.sl none 3 a, .own 0, .int .i64 b]
def phs : Pt → List Root
 | .p0 a b c => [.row 3 c]
def step (J : Pt → Ans) : Pt → Ans
 | .p0 a b c => (bif (decide (b < (a.length : Int))) then (bif (decide ((IntKind.i64.wrap (b + 1)) < (a.length : Int))) then (bif (decide ((0 : Int) ≤ b)) then (bif (decide (b < (a.length : Int))) then (bif (decide ((0 : Int) ≤ (IntKind.i64.wrap (b + 1)))) then (bif (decide ((IntKind.i64.wrap (b + 1)) < (a.length : Int))) then (call (Z154.R ((iAt a (Int.toNat b)), (iAt a (Int.toNat (IntKind.i64.wrap (b + 1)))))) fun v1 => (bif (lim (((c.length : Int) + 1) * 8)) then J (.p0 a (IntKind.i64.wrap (b + 2)) (c ++ [[L.int v1]])) else none)) else none) else none) else none) else none) else (bif (decide ((0 : Int) ≤ b)) then (bif (decide (b < (a.length : Int))) then (bif (lim (((c.length : Int) + 1) * 8)) then J (.p0 a (IntKind.i64.wrap (b + 2)) (c ++ [[L.int (iAt a (Int.toNat b))]])) else none) else none) else none)) else ret (c : List (List L)))
def start (J : Pt → Ans) (x0 : List (List L)) : Ans := J (.p0 x0 0 [])
def live : Nat → Live := fun i => match i with | 3 => [(0, none), (3, some 3), (4, none)] | _ => []
def pats : List Pat := [.rd (.sl 3)]
def res : RP := .one (.fr 3)
abbrev E : Env := { T := assoc Tab, G := conG [(254, Z154.con)], nt := 38 }
theorem step_eq (I : Heads) (p : Pt) : enterC E live I (pid p) (bodyOf Tryz.f292) (stOf (live (pid p)) (pvs p) (phs p)) (doneK E Tryz.f292 res) = step (fun q => I (pid q) (pvs q) (phs q)) p := by
 cases p <;> kernel_rfl
theorem start_eq (I : Heads) (ls : List L) : runC E live I (bodyOf Tryz.f292) (initS pats ls) (doneK E Tryz.f292 res) = start (fun q => I (pid q) (pvs q) (phs q)) (ls.headD .hole).toSl := by kernel_rfl
theorem run_eq (n : Nat) (ls : List L) : runF E live Tryz.f292 res n (initS pats ls) = start (iter step n) (ls.headD .hole).toSl := runF_iter (id := pid) (vs := pvs) (hs := phs) (step := step) (start := fun J => start J (ls.headD .hole).toSl) step_eq (fun I => start_eq I ls) n
def md (a0 : List Int) : List Int := Z83.md a0
def gd (a0 : List Int) : Prop := SmL (2 ^ 38) (fun y : Int => True) a0
def acc (ls : List L) : List (List L) := (ls.headD .hole).toSl
def R : (List (List L)) → Option (List (List L)) := RR gd md
theorem R_eq {a0} (h : gd a0) : R (a0.map iRow) = some ((md a0).map iRow) := RR_eq (a := a0) h
def con : Con := CN pats res acc R
theorem okF (a0 : List Int) (hg : gd a0) : ∃ n, start (iter step n) (a0.map iRow) = ret (((md a0).map iRow) : List (List L)) := by
  obtain ⟨H1, _⟩ := hg
  have key : ∀ (k i : Nat) (c : List Int), i + k = a0.length → c.length ≤ i → ∃ n, iter step n (Pt.p0 (a0.map iRow) (i : Int) (c.map iRow)) = ret ((c ++ Z83.up (a0.drop i)).map iRow : List (List L)) := by
    intro k
    induction k using Nat.strongRecOn with
    | _ k ih =>
    intro i c hi hc
    match k, hi, ih with
    | 0, hi, _ =>
      refine ⟨1, ?_⟩
      show step (iter step 0) (Pt.p0 _ _ _) = _
      simp only [step, List.length_map]
      refine no_ret (decide_eq_false (by omega)) ?_
      rw [List.drop_eq_nil_of_le (by omega)]
      simp only [Z83.up, List.append_nil]
    | 1, hi, ih =>
      obtain ⟨n, hn⟩ := ih 0 (by omega) (i + 1) (c ++ [a0.getD i 0]) (by omega) (by simp; omega)
      have h2 : ∃ n, iter step n (Pt.p0 (a0.map iRow) (IntKind.i64.wrap ((i : Int) + 2)) ((c ++ [a0.getD i 0]).map iRow)) = ret ((c ++ [a0.getD i 0]).map iRow : List (List L)) := by
        refine ⟨1, ?_⟩
        show step (iter step 0) (Pt.p0 _ _ _) = _
        simp only [step, List.length_map]
        refine no_ret (decide_eq_false ?_) rfl
        rw [Go.IntWalk.i64_in _ (by omega)]; omega
      obtain ⟨n, hn⟩ := h2
      refine ⟨n + 1, ?_⟩
      show step (iter step n) (Pt.p0 _ _ _) = _
      simp only [step, List.length_map, toNat_nat, iAt_getD]
      refine yes_ret (decide_eq_true (by omega)) (no_ret (decide_eq_false ?_) (yes_ret (decide_eq_true (by omega)) (yes_ret (decide_eq_true (by omega)) (yes_ret (lim_t (by omega)) ?_))))
      · rw [Go.IntWalk.i64_in _ (by omega)]; omega
      · rw [List.map_append] at hn
        refine Eq.trans hn ?_
        rw [List.drop_eq_getElem_cons (by omega), List.drop_eq_nil_of_le (by omega), getD_lt (by omega : i < a0.length)]
        simp only [Z83.up, List.map_append]
    | k + 2, hi, ih =>
      obtain ⟨n, hn⟩ := ih k (by omega) (i + 2) (c ++ [Z71.md (a0.getD i 0) (a0.getD (i + 1) 0)]) (by omega) (by simp; omega)
      refine ⟨n + 1, ?_⟩
      show step (iter step n) (Pt.p0 _ _ _) = _
      have w1 : IntKind.i64.wrap ((i : Int) + 1) = ((i + 1 : Nat) : Int) := by rw [Go.IntWalk.i64_in _ (by omega)]; omega
      have w2 : IntKind.i64.wrap ((i : Int) + 2) = ((i + 2 : Nat) : Int) := by rw [Go.IntWalk.i64_in _ (by omega)]; omega
      simp only [step, List.length_map, w1, w2, toNat_nat, iAt_getD]
      refine yes_ret (decide_eq_true (by omega)) (yes_ret (decide_eq_true (by omega)) (yes_ret (decide_eq_true (by omega)) (yes_ret (decide_eq_true (by omega)) (yes_ret (decide_eq_true (by omega)) (yes_ret (decide_eq_true (by omega)) ?_)))))
      refine call_to (Z71.md (a0.getD i 0) (a0.getD (i + 1) 0)) (by have := Z154.R_eq (a0 := a0.getD i 0) (a1 := a0.getD (i + 1) 0) trivial; rw [Z154.br] at this; exact this) (yes_ret (lim_t (by omega)) ?_)
      rw [List.map_append] at hn
      refine Eq.trans hn ?_
      rw [List.drop_eq_getElem_cons (by omega : i < a0.length), List.drop_eq_getElem_cons (by omega : i + 1 < a0.length), getD_lt (by omega : i < a0.length), getD_lt (by omega : i + 1 < a0.length)]
      simp only [Z83.up, List.append_assoc, List.cons_append, List.nil_append]
  have := key a0.length 0 [] (by omega) (by simp)
  unfold start md Z83.md
  simpa using this
theorem valid_ : Valid Tryz.prog Ev 292 con := VV (run := fun n x => start (iter step n) x) mix tab_ok (.cons Z154.valid_ .nil) Tryz.func292 (by kernel_rfl) run_eq (fun _ a _ _ hg => okF a hg)
theorem br (a0 : List Int) : md a0 = Z83.md a0 := by
 unfold md Z83.md
 first
 | (simp only [Z154.br]; done)
 | (simp only [Z154.br]; rfl)
 | rfl
end Z169
namespace Z170
inductive Pt where
 | p0 (a : List (List L))
 | p1 (a : List (List L))
def pid : Pt → Nat
 | .p0 .. => 3
 | .p1 .. => 3
def pvs : Pt → List V
 | .p0 a => [.sl none 3 a]
 | .p1 a => [.own 0]
def phs : Pt → List Root
 | .p0 a => []
 | .p1 a => [.row 3 a]
def step (J : Pt → Ans) : Pt → Ans
 | .p0 a => (bif (decide ((a.length : Int) > 1)) then (call (Z169.R a) fun v1 => J (.p1 v1)) else (bif (decide ((0 : Int) < (a.length : Int))) then ret ((iAt a 0) : Int) else none))
 | .p1 a => (bif (decide ((a.length : Int) > 1)) then (call (Z169.R a) fun v1 => J (.p1 v1)) else (bif (decide ((0 : Int) < (a.length : Int))) then ret ((iAt a 0) : Int) else none))
def start (J : Pt → Ans) (x0 : List (List L)) : Ans := (bif ((x0.length : Int) == 0) then (call (Z153.R [[L.int 229]]) fun v1 => ret (v1 : Int)) else J (.p0 x0))
def live : Nat → Live := fun i => match i with | 3 => [(0, none)] | _ => []
def pats : List Pat := [.rd (.sl 3)]
def res : RP := .one (.rd (.int .i64))
abbrev E : Env := { T := assoc Tab, G := conG [(258, Z153.con), (292, Z169.con)], nt := 16 }
theorem step_eq (I : Heads) (p : Pt) : enterC E live I (pid p) (bodyOf Tryz.f260) (stOf (live (pid p)) (pvs p) (phs p)) (doneK E Tryz.f260 res) = step (fun q => I (pid q) (pvs q) (phs q)) p := by
 cases p <;> kernel_rfl
theorem start_eq (I : Heads) (ls : List L) : runC E live I (bodyOf Tryz.f260) (initS pats ls) (doneK E Tryz.f260 res) = start (fun q => I (pid q) (pvs q) (phs q)) (ls.headD .hole).toSl := by kernel_rfl
theorem run_eq (n : Nat) (ls : List L) : runF E live Tryz.f260 res n (initS pats ls) = start (iter step n) (ls.headD .hole).toSl := runF_iter (id := pid) (vs := pvs) (hs := phs) (step := step) (start := fun J => start J (ls.headD .hole).toSl) step_eq (fun I => start_eq I ls) n
def md (a0 : List Int) : Int := Z84.md a0
def gd (a0 : List Int) : Prop := SmL (2 ^ 38) (fun y : Int => True) a0
def acc (ls : List L) : List (List L) := (ls.headD .hole).toSl
def R : (List (List L)) → Option Int := RR gd md
theorem R_eq {a0} (h : gd a0) : R (a0.map iRow) = some (md a0) := RR_eq (a := a0) h
def con : Con := CN pats res acc R
theorem okF (a0 : List Int) (hg : gd a0) : ∃ n, start (iter step n) (a0.map iRow) = ret ((md a0) : Int) := by
  have one : ∀ (l : List Int) (r : Int) (n : Nat), SmL (2 ^ 38) (fun y : Int => True) l → 0 < l.length → (if l.length > 1 then iter step n (Pt.p1 ((Z83.up l).map iRow)) = ret r else ret (l.getD 0 0 : Int) = ret r) → step (iter step n) (Pt.p0 (l.map iRow)) = ret r ∧ step (iter step n) (Pt.p1 (l.map iRow)) = ret r := by
    intro l r n hl hp h
    simp only [step, List.length_map, iAt_getD]
    by_cases h1 : l.length > 1
    · rw [if_pos h1] at h
      have hx : ∀ y : Ans, (bif decide ((l.length : Int) > 1) then call (Z169.R (l.map iRow)) (fun v1 => iter step n (Pt.p1 v1)) else y) = ret r := fun y =>
        yes_ret (decide_eq_true (by omega)) (call_to ((Z83.up l).map iRow) (Z169.R_eq hl) h)
      exact ⟨hx _, hx _⟩
    · rw [if_neg h1] at h
      have hx : ∀ y : Ans, (bif decide ((l.length : Int) > 1) then y else (bif decide ((0 : Int) < (l.length : Int)) then ret (l.getD 0 0 : Int) else none)) = ret r := fun y =>
        no_ret (decide_eq_false (by omega)) (yes_ret (decide_eq_true (by omega)) h)
      exact ⟨hx _, hx _⟩
  have key : ∀ (k : Nat) (l : List Int), SmL (2 ^ 38) (fun y : Int => True) l → 0 < l.length → l.length ≤ k + 1 → ∃ n, step (iter step n) (Pt.p0 (l.map iRow)) = ret (Z84.top k l) ∧ step (iter step n) (Pt.p1 (l.map iRow)) = ret (Z84.top k l) := by
    intro k
    induction k with
    | zero =>
      intro l hl hp hk
      exact ⟨0, one l _ 0 hl hp (by rw [if_neg (by omega)]; rfl)⟩
    | succ k ih =>
      intro l hl hp hk
      by_cases h1 : l.length > 1
      · have hu := Z83.up_length l
        have hl1 := hl.1
        obtain ⟨n, _, hn⟩ := ih (Z83.up l) ⟨by omega, fun _ _ => trivial⟩ (by omega) (by omega)
        refine ⟨n + 1, one l _ (n + 1) hl hp ?_⟩
        rw [if_pos h1]
        refine Eq.trans hn ?_
        unfold Z84.top
        rw [if_pos h1]
        cases k <;> rfl
      · refine ⟨0, one l _ 0 hl hp ?_⟩
        rw [if_neg h1]
        unfold Z84.top
        rw [if_neg h1]
  unfold md Z84.md
  unfold start
  simp only [List.length_map]
  by_cases h0 : a0.length = 0
  · have e : ((a0.length : Int) == 0) = true := by simpa using List.length_eq_zero_iff.1 h0
    refine ⟨0, ?_⟩
    rw [e]
    refine call_to (Z45.md [229]) (by have := Z153.R_eq (a0 := [229]) ⟨by decide, fun _ _ => trivial⟩; rw [Z153.br] at this; exact this) ?_
    rw [if_pos h0]
  · have e : ((a0.length : Int) == 0) = false := beq_eq_false_iff_ne.2 (by omega)
    obtain ⟨n, hn, _⟩ := key a0.length a0 hg (by omega) (by omega)
    refine ⟨n + 1, ?_⟩
    rw [e, if_neg h0]
    exact hn
theorem valid_ : Valid Tryz.prog Ev 260 con := VV (run := fun n x => start (iter step n) x) mix tab_ok (.cons Z153.valid_ (.cons Z169.valid_ .nil)) Tryz.func260 (by kernel_rfl) run_eq (fun _ a _ _ hg => okF a hg)
theorem br (a0 : List Int) : md a0 = Z84.md a0 := by
 unfold md Z84.md
 first
 | (simp only [Z153.br, Z169.br]; done)
 | (simp only [Z153.br, Z169.br]; rfl)
 | rfl
end Z170
namespace Z171
def F (x0 : List (List L)) : Ans := (call (Z168.R x0) fun v1 => (call (Z170.R v1) fun v2 => (call (Z162.R ((x0.length : Int), v2)) fun v3 => ret (v3 : Int))))
def pats : List Pat := [.rd (.sl 83)]
def res : RP := .one (.rd (.int .i64))
def md (a0 : List MEntry) : Int := ((Z162.md (a0.length : Int) (Z170.md (Z168.md a0))) : Int)
def gd (a0 : List MEntry) : Prop := (SmL (2 ^ 21) (fun y : MEntry => MEntry.Sm (2 ^ 21) y) a0)
def acc (ls : List L) : List (List L) := (ls.headD .hole).toSl
def R : (List (List L)) → Option Int := RR gd md
theorem R_eq {a0} (h : gd a0) : R (a0.map MEntry.row) = some (md a0) := RR_eq (a := a0) h
def con : Con := CN pats res acc R
theorem okF (a0 : List MEntry) (hg : gd a0) : F (a0.map MEntry.row) = ret ((md a0) : Int) := by
 unfold gd at hg
 have H0 := hg
 unfold F md
 try simp only [S0]
 refine call_to ((Z168.md a0).map iRow) (Z168.R_eq (a0 := a0) H0) ?_
 try simp only [S0]
 refine call_to (Z170.md (Z168.md a0)) (Z170.R_eq (a0 := (Z168.md a0)) ⟨(by
   have := Z168.len a0
   have := (H0).1
   try simp (disch := omega) only [LN, wi]
   first | omega | (simp; done) | (simp; omega)), fun _ _ => trivial⟩) ?_
 refine call_to (Z162.md (a0.length : Int) (Z170.md (Z168.md a0))) (Z162.R_eq (a0 := (a0.length : Int)) (a1 := (Z170.md (Z168.md a0))) trivial) ?_
 all_goals first | rfl | (simp only [S0, MP]; first | done | rfl)
theorem valid_ : Valid Tryz.prog Ev 233 con := VV (live := fun _ => []) (nt := 9) (run := fun _ x => F x) mix tab_ok (.cons Z168.valid_ (.cons Z170.valid_ (.cons Z162.valid_ .nil))) Tryz.func233 (by kernel_rfl) (fun _ _ => by kernel_rfl) (fun _ a _ _ hg => ⟨0, okF a hg⟩)
theorem br (a0 : List MEntry) : md a0 = Z85.md a0 := by
 unfold md Z85.md
 first
 | (simp only [Z168.br, Z170.br, Z162.br]; done)
 | (simp only [Z168.br, Z170.br, Z162.br]; rfl)
 | rfl
end Z171
namespace Z172
def F (x0 : REntry) : Ans := (call (Z165.R (x0, (⟨(⟨#[]⟩ : ByteArray), 0, 0, []⟩ : REntry))) fun v1 => ret (v1 : Bool))
def pats : List Pat := [.agg [.str, .int .i64, .int .i64, .sl 9]]
def res : RP := .one (.rd (.bool))
def md (a0 : MEntry) : Bool := ((Z165.md a0 (⟨((⟨#[]⟩ : ByteArray) : ByteArray), 0, 0, []⟩ : MEntry)) : Bool)
def gd (a0 : MEntry) : Prop := (MEntry.Sm (2 ^ 21) a0)
def acc (ls : List L) : REntry := (REntry.dec ls)
def R : REntry → Option Bool := RR gd md
theorem R_eq {a0} (h : gd a0) : R (MEntry.r a0) = some (md a0) := RR_eq (a := a0) h
def con : Con := CN pats res acc R
theorem okF (a0 : MEntry) (hg : gd a0) : F (MEntry.r a0) = ret ((md a0) : Bool) := by
 unfold gd at hg
 have H0 := hg
 unfold F md
 try simp only [S0]
 refine call_to (Z165.md a0 (⟨((⟨#[]⟩ : ByteArray) : ByteArray), 0, 0, []⟩ : MEntry)) (Z165.R_eq (a0 := a0) (a1 := (⟨((⟨#[]⟩ : ByteArray) : ByteArray), 0, 0, []⟩ : MEntry)) ⟨H0, ⟨(by decide), SmL.nil⟩⟩) ?_
 all_goals first | rfl | (simp only [S0, MP]; first | done | rfl)
theorem valid_ : Valid Tryz.prog Ev 203 con := VV (live := fun _ => []) (nt := 6) (run := fun _ x => F x) mix tab_ok (.cons Z165.valid_ .nil) Tryz.func203 (by kernel_rfl) (fun _ _ => by kernel_rfl) (fun _ a _ _ hg => ⟨0, okF a hg⟩)
end Z172
namespace Z173
def F (x0 : RProof) : Ans := (call (Z166.R (x0, (⟨0, []⟩ : RProof))) fun v1 => ret (v1 : Bool))
def pats : List Pat := [.agg [.int .i64, .sl 3]]
def res : RP := .one (.rd (.bool))
def md (a0 : MProof) : Bool := ((Z166.md a0 (⟨0, []⟩ : MProof)) : Bool)
def gd (a0 : MProof) : Prop := (MProof.Sm (2 ^ 21) a0)
def acc (ls : List L) : RProof := (RProof.dec ls)
def R : RProof → Option Bool := RR gd md
theorem R_eq {a0} (h : gd a0) : R (MProof.r a0) = some (md a0) := RR_eq (a := a0) h
def con : Con := CN pats res acc R
theorem okF (a0 : MProof) (hg : gd a0) : F (MProof.r a0) = ret ((md a0) : Bool) := by
 unfold gd at hg
 have H0 := hg
 unfold F md
 try simp only [S0]
 refine call_to (Z166.md a0 (⟨0, []⟩ : MProof)) (Z166.R_eq (a0 := a0) (a1 := (⟨0, []⟩ : MProof)) ⟨H0, SmL.nil⟩) ?_
 all_goals first | rfl | (simp only [S0, MP]; first | done | rfl)
theorem valid_ : Valid Tryz.prog Ev 204 con := VV (live := fun _ => []) (nt := 6) (run := fun _ x => F x) mix tab_ok (.cons Z166.valid_ .nil) Tryz.func204 (by kernel_rfl) (fun _ _ => by kernel_rfl) (fun _ a _ _ hg => ⟨0, okF a hg⟩)
end Z173
namespace Z174
def F (x0 : Int) (x1 : Int) (x2 : REntry) (x3 : RProof) (x4 : Int) : Ans := (call (Z106.R (x4, 0, (IntKind.i64.wrap (x1 - 1)))) fun v1 => (bif (!v1) then (call (Z172.R x2) fun v2 => (bif v2 then (call (Z173.R x3) fun v3 => ret (v3 : Bool)) else ret (false : Bool))) else (call (Z163.R (x0, x1, x2, x3)) fun v4 => (bif v4 then ret ((x3.fAt == x4) : Bool) else ret (false : Bool)))))
def pats : List Pat := [.rd (.int .i64), .rd (.int .i64), .agg [.str, .int .i64, .int .i64, .sl 9], .agg [.int .i64, .sl 3], .rd (.int .i64)]
def res : RP := .one (.rd (.bool))
def md (a0 : Int) (a1 : Int) (a2 : MEntry) (a3 : MProof) (a4 : Int) : Bool := (bif (!(Z106.md a4 0 (IntKind.i64.wrap (a1 - 1)))) then (bif (Z172.md a2) then ((Z173.md a3) : Bool) else (false : Bool)) else (bif (Z163.md a0 a1 a2 a3) then ((a3.fAt == a4) : Bool) else (false : Bool)))
def gd (a0 : Int) (a1 : Int) (a2 : MEntry) (a3 : MProof) (a4 : Int) : Prop := (MEntry.Sm (2 ^ 21) a2) ∧ (MProof.Sm (2 ^ 21) a3)
def acc (ls : List L) : Int × Int × REntry × RProof × Int := ((ls.headD .hole).toInt, ((dropT 1 ls).headD .hole).toInt, (REntry.dec (dropT 2 ls)), (RProof.dec (dropT 6 ls)), ((dropT 8 ls).headD .hole).toInt)
def R : (Int × Int × REntry × RProof × Int) → Option Bool := RR (p5 gd) (u5 md)
theorem R_eq {a0} {a1} {a2} {a3} {a4} (h : gd a0 a1 a2 a3 a4) : R (a0, a1, (MEntry.r a2), (MProof.r a3), a4) = some (md a0 a1 a2 a3 a4) := RR_eq (a := (a0, a1, a2, a3, a4)) h
def con : Con := CN pats res acc R
theorem okF (a0 : Int) (a1 : Int) (a2 : MEntry) (a3 : MProof) (a4 : Int) (hg : gd a0 a1 a2 a3 a4) : F a0 a1 (MEntry.r a2) (MProof.r a3) a4 = ret ((md a0 a1 a2 a3 a4) : Bool) := by
  unfold gd at hg
  obtain ⟨H2, H3⟩ := hg
  unfold F md
  try simp only [S0, MProof.rs]
  refine call_to (Z106.md a4 0 (IntKind.i64.wrap (a1 - 1))) (Z106.R_eq (a0 := a4) (a1 := 0) (a2 := (IntKind.i64.wrap (a1 - 1))) trivial) ?_
  refine bif_out ret (fun c1 => ?_) (fun c1 => ?_)
  · refine call_to (Z172.md a2) (Z172.R_eq (a0 := a2) H2) ?_
    refine bif_out ret (fun c2 => ?_) (fun _ => rfl)
    refine call_to (Z173.md a3) (Z173.R_eq (a0 := a3) H3) ?_
    all_goals first | rfl | (simp only [S0, MProof.rs, MP]; first | done | rfl)
  · refine call_to (Z163.md a0 a1 a2 a3) (Z163.R_eq (a0 := a0) (a1 := a1) (a2 := a2) (a3 := a3) ⟨H2, H3⟩) ?_
    refine bif_out ret (fun c3 => ?_) (fun _ => rfl)
    all_goals first | rfl | (simp only [S0, MProof.rs, MP]; first | done | rfl)
theorem valid_ : Valid Tryz.prog Ev 234 con := VV (live := fun _ => []) (nt := 33) (run := fun _ x => F x.1 x.2.1 x.2.2.1 x.2.2.2.1 x.2.2.2.2) mix tab_ok (.cons Z106.valid_ (.cons Z172.valid_ (.cons Z173.valid_ (.cons Z163.valid_ .nil)))) Tryz.func234 (by kernel_rfl) (fun _ _ => by kernel_rfl) (fun _ a _ _ hg => ⟨0, okF a.1 a.2.1 a.2.2.1 a.2.2.2.1 a.2.2.2.2 hg⟩)
end Z174
namespace Z175
set_option maxHeartbeats 1000000 in
set_option maxRecDepth 100000 in
open Go.RowKit in
theorem calls (a b : ByteArray) (w : World) : Calls Tryz.prog 180 #[.string a, .string b] w fun e w' => e = .returned (.int .i64 (Lib.compareBytes a.data.toList b.data.toList)) ∧ w' = w := by
 go_enter Tryz.func180, Tryz.ntmps180
 go_wp2
 rw [run_callFunc_extern Tryz.func210 (by kernel_rfl) (by kernel_rfl) (by kernel_rfl) (e := Extern.BytealgCompare.compare) (by kernel_rfl), Lib.run_compareString]
 simp only [Result.andThen]
 rw [Oper.upon_value]
 go_wp2
 go_ret
 exact ⟨rfl, rfl⟩
def md (a0 a1 : ByteArray) : Int := Lib.compareBytes a0.data.toList a1.data.toList
def R (x : ByteArray × ByteArray) : Option Int := some (md x.1 x.2)
theorem R_eq {a0 a1 : ByteArray} (_ : True) : R (a0, a1) = some (md a0 a1) := rfl
def sem : List L → Option (List L)
 | [y0, y1] => (R (y0.toStr, y1.toStr)).map RT.enc
 | _ => none
def con : Con := ⟨[.rd .str, .rd .str], .one (.rd (.int .i64)), sem⟩
theorem valid_ : Valid Tryz.prog Ev 180 con := by
  refine valid_still ⟨Tryz.f180, Tryz.func180, by kernel_rfl, by kernel_rfl⟩ rfl (fun _ => rfl) fun ls r w vs Z hs hf => ?_
  simp only [con] at hs
  unfold sem at hs
  split at hs
  · rename_i a b
    cases hf with
    | cons h1 ht =>
      cases ht with
      | cons h2 ht =>
        cases ht
        have e1 : _ = Value.string a.toStr := h1
        have e2 : _ = Value.string b.toStr := h2
        subst e1; subst e2
        refine (calls a.toStr b.toStr w).mono fun e w' ⟨h3, h4⟩ => ⟨_, h3, h4, ?_⟩
        injection hs with hs
        subst hs
        rfl
  · cases hs
end Z175
namespace Z176
def F (x0 : ByteArray) (x1 : ByteArray) : Ans := (call (Z175.R (x0, x1)) fun v1 => ret (v1 : Int))
def pats : List Pat := [.rd (.str), .rd (.str)]
def res : RP := .one (.rd (.int .i64))
def md (a0 : ByteArray) (a1 : ByteArray) : Int := ((Z175.md a0 a1) : Int)
def gd (a0 : ByteArray) (a1 : ByteArray) : Prop := True
def acc (ls : List L) : ByteArray × ByteArray := ((ls.headD .hole).toStr, ((dropT 1 ls).headD .hole).toStr)
def R : (ByteArray × ByteArray) → Option Int := RR (p2 gd) (u2 md)
theorem R_eq {a0} {a1} (h : gd a0 a1) : R (a0, a1) = some (md a0 a1) := RR_eq (a := (a0, a1)) h
def con : Con := CN pats res acc R
theorem okF (a0 : ByteArray) (a1 : ByteArray) (hg : gd a0 a1) : F a0 a1 = ret ((md a0 a1) : Int) := by
 unfold F md
 try simp only [S0]
 refine call_to (Z175.md a0 a1) (Z175.R_eq (a0 := a0) (a1 := a1) trivial) ?_
 all_goals first | rfl | (simp only [S0, MP]; first | done | rfl)
theorem valid_ : Valid Tryz.prog Ev 124 con := VV (live := fun _ => []) (nt := 8) (run := fun _ x => F x.1 x.2) mix tab_ok (.cons Z175.valid_ .nil) Tryz.func124 (by kernel_rfl) (fun _ _ => by kernel_rfl) (fun _ a _ _ hg => ⟨0, okF a.1 a.2 hg⟩)
end Z176
namespace Z177
def F (x0 : ByteArray) (x1 : ByteArray) : Ans := (call (Z176.R (x0, x1)) fun v1 => ret (v1 : Int))
def pats : List Pat := [.rd (.str), .rd (.str)]
def res : RP := .one (.rd (.int .i64))
def md (a0 : ByteArray) (a1 : ByteArray) : Int := ((Z176.md a0 a1) : Int)
def gd (a0 : ByteArray) (a1 : ByteArray) : Prop := True
def acc (ls : List L) : ByteArray × ByteArray := ((ls.headD .hole).toStr, ((dropT 1 ls).headD .hole).toStr)
def R : (ByteArray × ByteArray) → Option Int := RR (p2 gd) (u2 md)
theorem R_eq {a0} {a1} (h : gd a0 a1) : R (a0, a1) = some (md a0 a1) := RR_eq (a := (a0, a1)) h
def con : Con := CN pats res acc R
theorem okF (a0 : ByteArray) (a1 : ByteArray) (hg : gd a0 a1) : F a0 a1 = ret ((md a0 a1) : Int) := by
 unfold F md
 try simp only [S0]
 refine call_to (Z176.md a0 a1) (Z176.R_eq (a0 := a0) (a1 := a1) trivial) ?_
 all_goals first | rfl | (simp only [S0, MP]; first | done | rfl)
theorem valid_ : Valid Tryz.prog Ev 57 con := VV (live := fun _ => []) (nt := 8) (run := fun _ x => F x.1 x.2) mix tab_ok (.cons Z176.valid_ .nil) Tryz.func57 (by kernel_rfl) (fun _ _ => by kernel_rfl) (fun _ a _ _ hg => ⟨0, okF a.1 a.2 hg⟩)
theorem cmp : ∀ a b : List UInt8, Lib.compareBytes a b = (bif Op.bytesLess a b then ((-1) : Int) else (bif (!((Op.bytesLess a b) || (a == b))) then (1 : Int) else (0 : Int)))
  | [], [] => by simp [Lib.compareBytes, Op.bytesLess]
  | [], _ :: _ => by simp [Lib.compareBytes, Op.bytesLess]
  | _ :: _, [] => by simp [Lib.compareBytes, Op.bytesLess]
  | a :: xs, b :: ys => by
    simp only [Lib.compareBytes, Op.bytesLess]
    rw [cmp xs ys]
    by_cases h1 : a < b
    · simp [h1]
    · by_cases h2 : b < a
      · have hne : a ≠ b := fun e => by subst e; exact h1 h2
        have hb : (a == b) = false := beq_eq_false_iff_ne.2 hne
        simp [h1, h2, hb, hne]
      · have he : a = b := by
          have := UInt8.lt_or_eq_of_le (UInt8.not_lt.1 h1)
          rcases this with h | h
          · exact (h2 h).elim
          · exact h.symm
        subst he
        simp [h1]
theorem br (a0 : ByteArray) (a1 : ByteArray) : md a0 a1 = Z87.md a0 a1 := by
 unfold md Z87.md Z176.md Z175.md
 rw [cmp, ByteArray.toList_eq, ByteArray.toList_eq]
end Z177
end Go.DM
end
