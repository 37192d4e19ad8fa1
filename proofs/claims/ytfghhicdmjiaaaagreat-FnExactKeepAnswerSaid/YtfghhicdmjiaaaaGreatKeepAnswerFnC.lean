/- What the functions compute that the law reaches, and that the law returns true. Conditions: none. -/
import Derived.Test.YtfghhicdmjiaaaaGreatKeepAnswerTy
import Derived.Test.YtfghhicdmjiaaaaGreatKeepAnswerFnB
import Derived.Test.YtfghhicdmjiaaaaGreatProg
import Derived.Lib.AppendZerosOnto
import Derived.Lib.Bytealg
import Derived.Laws.Externs
import Derived.Lib.Walk
import Derived.Lib.Hide
import Derived.Lib.Strings
set_option linter.all false
set_option maxRecDepth 100000
noncomputable section
namespace Go.DM
open Go.Proofs
namespace Z178
def F (x0 : Int) (x1 : Int) (x2 : ByteArray) (x3 : RGap) : Ans := (call (Z156.R x2) fun v1 => (bif (!v1) then ret (false : Bool) else (call (Z106.R (x3.fAt, 0, x1)) fun v2 => (bif (!v2) then ret (false : Bool) else (bif (x1 == 0) then (call (Z171.R []) fun v3 => (bif (x0 != v3) then ret (false : Bool) else (call (Z174.R (x0, x1, x3.fBefore, x3.fLeft, (IntKind.i64.wrap (x3.fAt - 1)))) fun v4 => (bif (!v4) then ret (false : Bool) else (call (Z174.R (x0, x1, x3.fAfter, x3.fRight, x3.fAt)) fun v5 => (bif (!v5) then ret (false : Bool) else (bif (x3.fAt == 0) then (bif (x3.fAt == x1) then ret (true : Bool) else (call (Z177.R (x3.fAfter.fLabel, x2)) fun v6 => ret ((decide (v6 > 0)) : Bool))) else (call (Z177.R (x3.fBefore.fLabel, x2)) fun v7 => (bif (decide (v7 < 0)) then (bif (x3.fAt == x1) then ret (true : Bool) else (call (Z177.R (x3.fAfter.fLabel, x2)) fun v8 => ret ((decide (v8 > 0)) : Bool))) else ret (false : Bool)))))))))) else (call (Z174.R (x0, x1, x3.fBefore, x3.fLeft, (IntKind.i64.wrap (x3.fAt - 1)))) fun v9 => (bif (!v9) then ret (false : Bool) else (call (Z174.R (x0, x1, x3.fAfter, x3.fRight, x3.fAt)) fun v10 => (bif (!v10) then ret (false : Bool) else (bif (x3.fAt == 0) then (bif (x3.fAt == x1) then ret (true : Bool) else (call (Z177.R (x3.fAfter.fLabel, x2)) fun v11 => ret ((decide (v11 > 0)) : Bool))) else (call (Z177.R (x3.fBefore.fLabel, x2)) fun v12 => (bif (decide (v12 < 0)) then (bif (x3.fAt == x1) then ret (true : Bool) else (call (Z177.R (x3.fAfter.fLabel, x2)) fun v13 => ret ((decide (v13 > 0)) : Bool))) else ret (false : Bool)))))))))))))
def pats : List Pat := [.rd (.int .i64), .rd (.int .i64), .rd (.str), .agg [.int .i64, .str, .int .i64, .int .i64, .sl 9, .str, .int .i64, .int .i64, .sl 9, .int .i64, .sl 3, .int .i64, .sl 3]]
def res : RP := .one (.rd (.bool))
def md (a0 : Int) (a1 : Int) (a2 : ByteArray) (a3 : MGap) : Bool := (bif (!(Z156.md a2)) then (false : Bool) else (bif (!(Z106.md a3.fAt 0 a1)) then (false : Bool) else (bif (a1 == 0) then (bif (a0 != (Z171.md [])) then (false : Bool) else (bif (!(Z174.md a0 a1 a3.fBefore a3.fLeft (IntKind.i64.wrap (a3.fAt - 1)))) then (false : Bool) else (bif (!(Z174.md a0 a1 a3.fAfter a3.fRight a3.fAt)) then (false : Bool) else (bif (a3.fAt == 0) then (bif (a3.fAt == a1) then (true : Bool) else ((decide ((Z177.md a3.fAfter.fLabel a2) > 0)) : Bool)) else (bif (decide ((Z177.md a3.fBefore.fLabel a2) < 0)) then (bif (a3.fAt == a1) then (true : Bool) else ((decide ((Z177.md a3.fAfter.fLabel a2) > 0)) : Bool)) else (false : Bool)))))) else (bif (!(Z174.md a0 a1 a3.fBefore a3.fLeft (IntKind.i64.wrap (a3.fAt - 1)))) then (false : Bool) else (bif (!(Z174.md a0 a1 a3.fAfter a3.fRight a3.fAt)) then (false : Bool) else (bif (a3.fAt == 0) then (bif (a3.fAt == a1) then (true : Bool) else ((decide ((Z177.md a3.fAfter.fLabel a2) > 0)) : Bool)) else (bif (decide ((Z177.md a3.fBefore.fLabel a2) < 0)) then (bif (a3.fAt == a1) then (true : Bool) else ((decide ((Z177.md a3.fAfter.fLabel a2) > 0)) : Bool)) else (false : Bool))))))))
def gd (a0 : Int) (a1 : Int) (a2 : ByteArray) (a3 : MGap) : Prop := (a2.size ≤ (2 ^ 21)) ∧ (MGap.Sm (2 ^ 21) a3)
def acc (ls : List L) : Int × Int × ByteArray × RGap := ((ls.headD .hole).toInt, ((dropT 1 ls).headD .hole).toInt, ((dropT 2 ls).headD .hole).toStr, (RGap.dec (dropT 3 ls)))
def R : (Int × Int × ByteArray × RGap) → Option Bool := RR (p4 gd) (u4 md)
theorem R_eq {a0} {a1} {a2} {a3} (h : gd a0 a1 a2 a3) : R (a0, a1, a2, (MGap.r a3)) = some (md a0 a1 a2 a3) := RR_eq (a := (a0, a1, a2, a3)) h
def con : Con := CN pats res acc R
theorem okF (a0 : Int) (a1 : Int) (a2 : ByteArray) (a3 : MGap) (hg : gd a0 a1 a2 a3) : F a0 a1 a2 (MGap.r a3) = ret ((md a0 a1 a2 a3) : Bool) := by
  unfold gd at hg
  obtain ⟨H2, H3⟩ := hg
  unfold F md
  try simp only [S0, MEntry.rs, MProof.rs, MGap.rs]
  refine call_to (Z156.md a2) (Z156.R_eq (a0 := a2) H2) ?_
  refine bif_out ret (fun _ => rfl) (fun c1 => ?_)
  refine call_to (Z106.md a3.fAt 0 a1) (Z106.R_eq (a0 := a3.fAt) (a1 := 0) (a2 := a1) trivial) ?_
  refine bif_out ret (fun _ => rfl) (fun c2 => ?_)
  refine bif_out ret (fun c3 => ?_) (fun c3 => ?_)
  · refine call_to (Z171.md []) ?_ ?_
    · have R_ := Z171.R_eq (a0 := []) SmL.nil
      first | exact R_ | (simp only [MP, S0, MEntry.rs, MProof.rs, MGap.rs] at R_ ⊢; first | exact R_ | (rw [← R_]; rfl))
    refine bif_out ret (fun _ => rfl) (fun c4 => ?_)
    refine call_to (Z174.md a0 a1 a3.fBefore a3.fLeft (IntKind.i64.wrap (a3.fAt - 1))) (Z174.R_eq (a0 := a0) (a1 := a1) (a2 := a3.fBefore) (a3 := a3.fLeft) (a4 := (IntKind.i64.wrap (a3.fAt - 1))) ⟨H3.1, H3.2.2.1⟩) ?_
    refine bif_out ret (fun _ => rfl) (fun c5 => ?_)
    refine call_to (Z174.md a0 a1 a3.fAfter a3.fRight a3.fAt) (Z174.R_eq (a0 := a0) (a1 := a1) (a2 := a3.fAfter) (a3 := a3.fRight) (a4 := a3.fAt) ⟨H3.2.1, H3.2.2.2⟩) ?_
    refine bif_out ret (fun _ => rfl) (fun c6 => ?_)
    refine bif_out ret (fun c7 => ?_) (fun c7 => ?_)
    · refine bif_out ret (fun _ => rfl) (fun c8 => ?_)
      refine call_to (Z177.md a3.fAfter.fLabel a2) (Z177.R_eq (a0 := a3.fAfter.fLabel) (a1 := a2) trivial) ?_
      all_goals first | rfl | (simp only [S0, MEntry.rs, MProof.rs, MGap.rs, MP]; first | done | rfl)
    · refine call_to (Z177.md a3.fBefore.fLabel a2) (Z177.R_eq (a0 := a3.fBefore.fLabel) (a1 := a2) trivial) ?_
      refine bif_out ret (fun c9 => ?_) (fun _ => rfl)
      refine bif_out ret (fun _ => rfl) (fun c10 => ?_)
      refine call_to (Z177.md a3.fAfter.fLabel a2) (Z177.R_eq (a0 := a3.fAfter.fLabel) (a1 := a2) trivial) ?_
      all_goals first | rfl | (simp only [S0, MEntry.rs, MProof.rs, MGap.rs, MP]; first | done | rfl)
  · refine call_to (Z174.md a0 a1 a3.fBefore a3.fLeft (IntKind.i64.wrap (a3.fAt - 1))) (Z174.R_eq (a0 := a0) (a1 := a1) (a2 := a3.fBefore) (a3 := a3.fLeft) (a4 := (IntKind.i64.wrap (a3.fAt - 1))) ⟨H3.1, H3.2.2.1⟩) ?_
    refine bif_out ret (fun _ => rfl) (fun c11 => ?_)
    refine call_to (Z174.md a0 a1 a3.fAfter a3.fRight a3.fAt) (Z174.R_eq (a0 := a0) (a1 := a1) (a2 := a3.fAfter) (a3 := a3.fRight) (a4 := a3.fAt) ⟨H3.2.1, H3.2.2.2⟩) ?_
    refine bif_out ret (fun _ => rfl) (fun c12 => ?_)
    refine bif_out ret (fun c13 => ?_) (fun c13 => ?_)
    · refine bif_out ret (fun _ => rfl) (fun c14 => ?_)
      refine call_to (Z177.md a3.fAfter.fLabel a2) (Z177.R_eq (a0 := a3.fAfter.fLabel) (a1 := a2) trivial) ?_
      all_goals first | rfl | (simp only [S0, MEntry.rs, MProof.rs, MGap.rs, MP]; first | done | rfl)
    · refine call_to (Z177.md a3.fBefore.fLabel a2) (Z177.R_eq (a0 := a3.fBefore.fLabel) (a1 := a2) trivial) ?_
      refine bif_out ret (fun c15 => ?_) (fun _ => rfl)
      refine bif_out ret (fun _ => rfl) (fun c16 => ?_)
      refine call_to (Z177.md a3.fAfter.fLabel a2) (Z177.R_eq (a0 := a3.fAfter.fLabel) (a1 := a2) trivial) ?_
      all_goals first | rfl | (simp only [S0, MEntry.rs, MProof.rs, MGap.rs, MP]; first | done | rfl)
theorem valid_ : Valid Tryz.prog Ev 202 con := VV (live := fun _ => []) (nt := 76) (run := fun _ x => F x.1 x.2.1 x.2.2.1 x.2.2.2) mix tab_ok (.cons Z156.valid_ (.cons Z106.valid_ (.cons Z171.valid_ (.cons Z174.valid_ (.cons Z177.valid_ .nil))))) Tryz.func202 (by kernel_rfl) (fun _ _ => by kernel_rfl) (fun _ a _ _ hg => ⟨0, okF a.1 a.2.1 a.2.2.1 a.2.2.2 hg⟩)
theorem brh (a0 : Int) (a1 : Int) (a2 : ByteArray) (a3 : MGap) (hc : a1 ≤ 1000) : md a0 a1 a2 a3 = Z88.md a0 a1 a2 a3 := by
  unfold md Z88.md Z174.md Z86.md Z172.md Z173.md
  simp only [Z156.br, Z106.br, Z171.br, Z163.br, Z165.md_eq, Z79.md_eq, Z166.md_eq, Z80.md_eq, Z177.br, Z87.lt, Z87.gt]
  cases Z73.md a2
  · rfl
  cases hr : Z39.md a3.fAt 0 a1
  · rfl
  have hi : 0 ≤ a3.fAt ∧ a3.fAt ≤ a1 := by simpa [Z39.md] using hr
  have w1 : IntKind.i64.wrap (a1 - 1) = a1 - 1 := Go.IntWalk.i64_in _ (by omega)
  have w2 : IntKind.i64.wrap (a3.fAt - 1) = a3.fAt - 1 := Go.IntWalk.i64_in _ (by omega)
  have e1 : Z39.md (a3.fAt - 1) 0 (a1 - 1) = !(a3.fAt == 0) := by
    rw [Bool.eq_iff_iff]; simp [Z39.md]; omega
  have e2 : Z39.md a3.fAt 0 (a1 - 1) = !(a3.fAt == a1) := by
    rw [Bool.eq_iff_iff]; simp [Z39.md]; omega
  simp only [w1, w2, e1, e2, bne]
  generalize (a3.fAt == 0) = z
  generalize (a3.fAt == a1) = e
  generalize (a1 == 0) = c0
  generalize (a0 == Z85.md []) = rt
  generalize eqB a3.fBefore _ = x1
  generalize eqB a3.fLeft _ = x2
  generalize eqB a3.fAfter _ = x3
  generalize eqB a3.fRight _ = x4
  generalize Z77.md a0 a1 a3.fBefore a3.fLeft = k1
  generalize Z77.md a0 a1 a3.fAfter a3.fRight = k2
  generalize (a3.fLeft.fAt == a3.fAt - 1) = p1
  generalize (a3.fRight.fAt == a3.fAt) = p2
  generalize (Z87.md a3.fBefore.fLabel a2 == -1) = m1
  generalize (Z87.md a3.fAfter.fLabel a2 == 1) = m2
  cases c0 <;> cases rt <;> cases z <;> cases e <;> cases x1 <;> cases x2 <;> cases k1 <;> cases p1 <;> cases m1 <;> first | rfl | (cases x3 <;> cases x4 <;> rfl) | (cases k2 <;> cases p2 <;> cases m2 <;> rfl)
end Z178
namespace Z179
def F (x0 : RHead) (x1 : ByteArray) (x2 : RAnswer) : Ans := (bif x2.fFound then (bif (x2.fEntry.fLabel == x1) then (call (Z163.R (x0.fRoot, x0.fCount, x2.fEntry, x2.fProof)) fun v1 => (bif v1 then (call (Z167.R (x2.fGap, (⟨0, (⟨(⟨#[]⟩ : ByteArray), 0, 0, []⟩ : REntry), (⟨(⟨#[]⟩ : ByteArray), 0, 0, []⟩ : REntry), (⟨0, []⟩ : RProof), (⟨0, []⟩ : RProof)⟩ : RGap))) fun v2 => ret (v2 : Bool)) else ret (false : Bool))) else ret (false : Bool)) else (call (Z178.R (x0.fRoot, x0.fCount, x1, x2.fGap)) fun v3 => (bif v3 then (call (Z172.R x2.fEntry) fun v4 => (bif v4 then (call (Z173.R x2.fProof) fun v5 => ret (v5 : Bool)) else ret (false : Bool))) else ret (false : Bool))))
def pats : List Pat := [.agg [.int .i64, .int .i64, .int .i64, .int .i64, .int .i64, .int .i64, .int .i64, .int .i64, .sl 3, .int .i64, .sl 3, .int .i64, .int .i64, .sl 3, .int .i64, .bool], .rd (.str), .agg [.sl 122, .bool, .str, .int .i64, .int .i64, .sl 9, .int .i64, .sl 3, .int .i64, .str, .int .i64, .int .i64, .sl 9, .str, .int .i64, .int .i64, .sl 9, .int .i64, .sl 3, .int .i64, .sl 3]]
def res : RP := .one (.rd (.bool))
def md (a0 : MHead) (a1 : ByteArray) (a2 : MAnswer) : Bool := (bif a2.fFound then (bif (a2.fEntry.fLabel == a1) then (bif (Z163.md a0.fRoot a0.fCount a2.fEntry a2.fProof) then ((Z167.md a2.fGap (⟨0, (⟨((⟨#[]⟩ : ByteArray) : ByteArray), 0, 0, []⟩ : MEntry), (⟨((⟨#[]⟩ : ByteArray) : ByteArray), 0, 0, []⟩ : MEntry), (⟨0, []⟩ : MProof), (⟨0, []⟩ : MProof)⟩ : MGap)) : Bool) else (false : Bool)) else (false : Bool)) else (bif (Z178.md a0.fRoot a0.fCount a1 a2.fGap) then (bif (Z172.md a2.fEntry) then ((Z173.md a2.fProof) : Bool) else (false : Bool)) else (false : Bool)))
def gd (a0 : MHead) (a1 : ByteArray) (a2 : MAnswer) : Prop := (a1.size ≤ (2 ^ 21)) ∧ (MAnswer.Sm (2 ^ 21) a2)
def acc (ls : List L) : RHead × ByteArray × RAnswer := ((RHead.dec ls), ((dropT 16 ls).headD .hole).toStr, (RAnswer.dec (dropT 17 ls)))
def R : (RHead × ByteArray × RAnswer) → Option Bool := RR (p3 gd) (u3 md)
theorem R_eq {a0} {a1} {a2} (h : gd a0 a1 a2) : R ((MHead.r a0), a1, (MAnswer.r a2)) = some (md a0 a1 a2) := RR_eq (a := (a0, a1, a2)) h
def con : Con := CN pats res acc R
theorem okF (a0 : MHead) (a1 : ByteArray) (a2 : MAnswer) (hg : gd a0 a1 a2) : F (MHead.r a0) a1 (MAnswer.r a2) = ret ((md a0 a1 a2) : Bool) := by
  unfold gd at hg
  obtain ⟨H1, H2⟩ := hg
  unfold F md
  try simp only [S0, MHead.rs, MEntry.rs, MAnswer.rs]
  refine bif_out ret (fun c1 => ?_) (fun c1 => ?_)
  · refine bif_out ret (fun c2 => ?_) (fun _ => rfl)
    refine call_to (Z163.md a0.fRoot a0.fCount a2.fEntry a2.fProof) (Z163.R_eq (a0 := a0.fRoot) (a1 := a0.fCount) (a2 := a2.fEntry) (a3 := a2.fProof) ⟨H2.2.1, H2.2.2.1⟩) ?_
    refine bif_out ret (fun c3 => ?_) (fun _ => rfl)
    refine call_to (Z167.md a2.fGap (⟨0, (⟨((⟨#[]⟩ : ByteArray) : ByteArray), 0, 0, []⟩ : MEntry), (⟨((⟨#[]⟩ : ByteArray) : ByteArray), 0, 0, []⟩ : MEntry), (⟨0, []⟩ : MProof), (⟨0, []⟩ : MProof)⟩ : MGap)) (Z167.R_eq (a0 := a2.fGap) (a1 := (⟨0, (⟨((⟨#[]⟩ : ByteArray) : ByteArray), 0, 0, []⟩ : MEntry), (⟨((⟨#[]⟩ : ByteArray) : ByteArray), 0, 0, []⟩ : MEntry), (⟨0, []⟩ : MProof), (⟨0, []⟩ : MProof)⟩ : MGap)) ⟨H2.2.2.2, ⟨⟨(by decide), SmL.nil⟩, ⟨(by decide), SmL.nil⟩, SmL.nil, SmL.nil⟩⟩) ?_
    all_goals first | rfl | (simp only [S0, MHead.rs, MEntry.rs, MAnswer.rs, MP]; first | done | rfl)
  · refine call_to (Z178.md a0.fRoot a0.fCount a1 a2.fGap) (Z178.R_eq (a0 := a0.fRoot) (a1 := a0.fCount) (a2 := a1) (a3 := a2.fGap) ⟨H1, H2.2.2.2⟩) ?_
    refine bif_out ret (fun c4 => ?_) (fun _ => rfl)
    refine call_to (Z172.md a2.fEntry) (Z172.R_eq (a0 := a2.fEntry) H2.2.1) ?_
    refine bif_out ret (fun c5 => ?_) (fun _ => rfl)
    refine call_to (Z173.md a2.fProof) (Z173.R_eq (a0 := a2.fProof) H2.2.2.1) ?_
    all_goals first | rfl | (simp only [S0, MHead.rs, MEntry.rs, MAnswer.rs, MP]; first | done | rfl)
theorem valid_ : Valid Tryz.prog Ev 161 con := VV (live := fun _ => []) (nt := 49) (run := fun _ x => F x.1 x.2.1 x.2.2) mix tab_ok (.cons Z163.valid_ (.cons Z167.valid_ (.cons Z178.valid_ (.cons Z172.valid_ (.cons Z173.valid_ .nil))))) Tryz.func161 (by kernel_rfl) (fun _ _ => by kernel_rfl) (fun _ a _ _ hg => ⟨0, okF a.1 a.2.1 a.2.2 hg⟩)
theorem brh (a0 : MHead) (a1 : ByteArray) (a2 : MAnswer) (hc : a0.fCount ≤ 1000) : md a0 a1 a2 = Z89.md a0 a1 a2 := by
 unfold md Z89.md Z86.md Z172.md Z173.md
 simp only [Z178.brh _ _ _ _ hc, Z163.br, Z165.md_eq, Z79.md_eq, Z166.md_eq, Z80.md_eq, Z167.md_eq, Z81.md_eq]
end Z179
namespace Z180
def F (x0 : Int) (x1 : ByteArray) (x2 : RAnswer) (x3 : Int) : Ans := (call (Z147.R x2.fChain) fun v1 => (bif (!v1.2) then ret (3 : Int) else (bif (v1.1.fZone != x0) then ret (2 : Int) else (call (Z148.R (v1.1, x3)) fun v2 => (bif (!v2) then ret (4 : Int) else (bif v1.1.fFrozen then ret (5 : Int) else (call (Z179.R (v1.1, x1, x2)) fun v3 => (bif (!v3) then ret (6 : Int) else ret (1 : Int)))))))))
def pats : List Pat := [.rd (.int .i64), .rd (.str), .agg [.sl 122, .bool, .str, .int .i64, .int .i64, .sl 9, .int .i64, .sl 3, .int .i64, .str, .int .i64, .int .i64, .sl 9, .str, .int .i64, .int .i64, .sl 9, .int .i64, .sl 3, .int .i64, .sl 3], .rd (.int .i64)]
def res : RP := .one (.rd (.int .i64))
def md (a0 : Int) (a1 : ByteArray) (a2 : MAnswer) (a3 : Int) : Int := (bif (!(Z147.md a2.fChain).2) then (3 : Int) else (bif ((Z147.md a2.fChain).1.fZone != a0) then (2 : Int) else (bif (!(Z148.md ((Z147.md a2.fChain).1) a3)) then (4 : Int) else (bif (Z147.md a2.fChain).1.fFrozen then (5 : Int) else (bif (!(Z179.md ((Z147.md a2.fChain).1) a1 a2)) then (6 : Int) else (1 : Int))))))
def gd (a0 : Int) (a1 : ByteArray) (a2 : MAnswer) (a3 : Int) : Prop := (a1.size ≤ (2 ^ 21)) ∧ (MAnswer.Sm (2 ^ 21) a2)
def acc (ls : List L) : Int × ByteArray × RAnswer × Int := ((ls.headD .hole).toInt, ((dropT 1 ls).headD .hole).toStr, (RAnswer.dec (dropT 2 ls)), ((dropT 23 ls).headD .hole).toInt)
def R : (Int × ByteArray × RAnswer × Int) → Option Int := RR (p4 gd) (u4 md)
theorem R_eq {a0} {a1} {a2} {a3} (h : gd a0 a1 a2 a3) : R (a0, a1, (MAnswer.r a2), a3) = some (md a0 a1 a2 a3) := RR_eq (a := (a0, a1, a2, a3)) h
def con : Con := CN pats res acc R
theorem okF (a0 : Int) (a1 : ByteArray) (a2 : MAnswer) (a3 : Int) (hg : gd a0 a1 a2 a3) : F a0 a1 (MAnswer.r a2) a3 = ret ((md a0 a1 a2 a3) : Int) := by
 unfold gd at hg
 obtain ⟨H1, H2⟩ := hg
 unfold F md
 try simp only [S0, MHead.rs, MAnswer.rs]
 refine call_to ((MHead.r (Z147.md a2.fChain).1), (Z147.md a2.fChain).2) (Z147.R_eq (a0 := a2.fChain) H2.1) ?_
 try simp only [S0, MHead.rs, MAnswer.rs]
 refine bif_out ret (fun _ => rfl) (fun c1 => ?_)
 refine bif_out ret (fun _ => rfl) (fun c2 => ?_)
 refine call_to (Z148.md ((Z147.md a2.fChain).1) a3) (Z148.R_eq (a0 := (Z147.md a2.fChain).1) (a1 := a3) trivial) ?_
 refine bif_out ret (fun _ => rfl) (fun c3 => ?_)
 refine bif_out ret (fun _ => rfl) (fun c4 => ?_)
 refine call_to (Z179.md ((Z147.md a2.fChain).1) a1 a2) (Z179.R_eq (a0 := (Z147.md a2.fChain).1) (a1 := a1) (a2 := a2) ⟨H1, H2⟩) ?_
 refine bif_out ret (fun _ => rfl) (fun _ => rfl)
theorem valid_ : Valid Tryz.prog Ev 98 con := VV (live := fun _ => []) (nt := 39) (run := fun _ x => F x.1 x.2.1 x.2.2.1 x.2.2.2) mix tab_ok (.cons Z147.valid_ (.cons Z148.valid_ (.cons Z179.valid_ .nil))) Tryz.func98 (by kernel_rfl) (fun _ _ => by kernel_rfl) (fun _ a _ _ hg => ⟨0, okF a.1 a.2.1 a.2.2.1 a.2.2.2 hg⟩)
theorem br (a0 : Int) (a1 : ByteArray) (a2 : MAnswer) (a3 : Int) : md a0 a1 a2 a3 = Z90.md a0 a1 a2 a3 := by
  unfold md Z90.md
  simp only [Z147.br, Z148.br]
  cases hok : (Z65.md a2.fChain).2
  · rfl
  · have := Z42.tr (Z65.head hok).2.2
    rw [Z179.brh _ _ _ (by omega)]
end Z180
namespace Z181
def F (x0 : RStored) (x1 : List L) (x2 : List L) : Ans := (bif (x0.fZone == (iDec x1)) then ret ((x0.fLabel == (sDec x2)) : Bool) else ret (false : Bool))
def pats : List Pat := [.agg [.int .i64, .str, .sl 122, .bool, .str, .int .i64, .int .i64, .sl 9, .int .i64, .sl 3, .int .i64, .str, .int .i64, .int .i64, .sl 9, .str, .int .i64, .int .i64, .sl 9, .int .i64, .sl 3, .int .i64, .sl 3], .ptr [.int .i64], .ptr [.str]]
def res : RP := .one (.rd (.bool))
def md (a0 : MStored) (a1 : Int) (a2 : ByteArray) : Bool := (bif (a0.fZone == a1) then ((a0.fLabel == a2) : Bool) else (false : Bool))
def gd (a0 : MStored) (a1 : Int) (a2 : ByteArray) : Prop := True
def acc (ls : List L) : RStored × Int × ByteArray := ((RStored.dec ls), (iDec (padL 1 (dropT 23 ls))), (sDec (padL 1 (dropT 24 ls))))
def R : (RStored × Int × ByteArray) → Option Bool := RR (p3 gd) (u3 md)
theorem R_eq {a0} {a1} {a2} (h : gd a0 a1 a2) : R ((MStored.r a0), a1, a2) = some (md a0 a1 a2) := RR_eq (a := (a0, a1, a2)) h
def con : Con := CN pats res acc R
theorem okF (a0 : MStored) (a1 : Int) (a2 : ByteArray) (p1 : List L) (p2 : List L) (e1 : a1 = (iDec p1)) (e2 : a2 = (sDec p2)) (hg : gd a0 a1 a2) : F (MStored.r a0) p1 p2 = ret ((md a0 a1 a2) : Bool) := by
 unfold F md
 try simp only [S0, MHead.rs, MEntry.rs, MStored.rs, ← e1, ← e2]
 refine bif_out ret (fun c1 => ?_) (fun _ => rfl)
 all_goals first | rfl | (simp only [S0, MHead.rs, MEntry.rs, MStored.rs, ← e1, ← e2, MP]; first | done | rfl)
theorem okV (ls : List L) (a : MStored × Int × ByteArray) (e : acc ls = Im.im a) (hg : (p3 gd) a) : ∃ n : Nat, F (RStored.dec ls) (padL 1 (dropT 23 ls)) (padL 1 (dropT 24 ls)) = ret (Im.im ((u3 md) a)) := by
 have e0 : (MStored.r a.1) = (RStored.dec ls) := (congrArg (fun x => x.1) e.symm)
 have hn := okF a.1 a.2.1 a.2.2 (padL 1 (dropT 23 ls)) (padL 1 (dropT 24 ls)) (congrArg (fun x => x.2.1) e.symm) (congrArg (fun x => x.2.2) e.symm) hg
 refine ⟨0, ?_⟩
 rw [← e0]
 exact hn
theorem valid_ : Valid Tryz.prog Ev 175 con := VP (live := fun _ => []) (nt := 15) (accr := fun ls => ((RStored.dec ls), (padL 1 (dropT 23 ls)), (padL 1 (dropT 24 ls)))) (run := fun _ x => F x.1 x.2.1 x.2.2) mix tab_ok .nil Tryz.func175 (by kernel_rfl) (fun _ _ => by kernel_rfl) (fun ls a _ e hg => okV ls a e hg)
end Z181
namespace Z182
inductive Pt where
 | p0 (a : List (List L)) (b : List L) (c : List L) (d : Int) (e : Int)
def pid : Pt → Nat
 | .p0 .. => 2
def pvs : Pt → List V
 | .p0 a b c d e => [.sl none 148 a, .fn 175 [.cptr none [.int .i64] b 0, .cptr none [.str] c 0], .int .i64 d, .int .i64 e]
def phs : Pt → List Root
 | .p0 a b c d e => []
def step (J : Pt → Ans) : Pt → Ans
 | .p0 a b c d e => (bif (decide (e < d)) then (bif (decide ((0 : Int) ≤ e)) then (bif (decide (e < (a.length : Int))) then (call (Z181.R ((RStored.at a (Int.toNat e)), (iDec b), (sDec c))) fun v1 => (bif v1 then ret (e : Int) else J (.p0 a b c d (IntKind.i64.wrap (e + 1))))) else none) else none) else ret ((-1) : Int))
def start (J : Pt → Ans) (x0 : List (List L)) (x1 : List L) (x2 : List L) : Ans := J (.p0 x0 x1 x2 (x0.length : Int) 0)
def live : Nat → Live := fun i => match i with | 2 => [(0, none), (1, none), (7, none), (8, none)] | _ => []
def pats : List Pat := [.rd (.sl 148), .fn 175 [[.int .i64], [.str]]]
def res : RP := .one (.rd (.int .i64))
abbrev E : Env := { T := assoc Tab, G := conG [(175, Z181.con)], nt := 19 }
theorem step_eq (I : Heads) (p : Pt) : enterC E live I (pid p) (bodyOf Tryz.f158) (stOf (live (pid p)) (pvs p) (phs p)) (doneK E Tryz.f158 res) = step (fun q => I (pid q) (pvs q) (phs q)) p := by
 cases p <;> kernel_rfl
theorem start_eq (I : Heads) (ls : List L) : runC E live I (bodyOf Tryz.f158) (initS pats ls) (doneK E Tryz.f158 res) = start (fun q => I (pid q) (pvs q) (phs q)) (ls.headD .hole).toSl (padL 1 (dropT 1 ls)) (padL 1 (dropT 2 ls)) := by kernel_rfl
theorem run_eq (n : Nat) (ls : List L) : runF E live Tryz.f158 res n (initS pats ls) = start (iter step n) (ls.headD .hole).toSl (padL 1 (dropT 1 ls)) (padL 1 (dropT 2 ls)) := runF_iter (id := pid) (vs := pvs) (hs := phs) (step := step) (start := fun J => start J (ls.headD .hole).toSl (padL 1 (dropT 1 ls)) (padL 1 (dropT 2 ls))) step_eq (fun I => start_eq I ls) n
def md (a0 : List MStored) (a1 : Int) (a2 : ByteArray) : Int := (eachI (S := Unit) (β := Int) (fun (i1 : Nat) (y1 : MStored) (s3 : Unit) => (bif (Z181.md y1 a1 a2) then (.inr ((i1 : Int) : Int)) else (.inl ()))) (fun (s3 : Unit) => ((-1) : Int)) 0 a0 ())
def gd (a0 : List MStored) (a1 : Int) (a2 : ByteArray) : Prop := (SmL (2 ^ 21) (fun y : MStored => MStored.Sm (2 ^ 21) y) a0)
def acc (ls : List L) : List (List L) × Int × ByteArray := ((ls.headD .hole).toSl, (iDec (padL 1 (dropT 1 ls))), (sDec (padL 1 (dropT 2 ls))))
def R : (List (List L) × Int × ByteArray) → Option Int := RR (p3 gd) (u3 md)
theorem R_eq {a0} {a1} {a2} (h : gd a0 a1 a2) : R ((a0.map MStored.row), a1, a2) = some (md a0 a1 a2) := RR_eq (a := (a0, a1, a2)) h
def con : Con := CN pats res acc R
theorem okF (a0 : List MStored) (a1 : Int) (a2 : ByteArray) (p1 : List L) (p2 : List L) (e1 : a1 = (iDec p1)) (e2 : a2 = (sDec p2)) (hg : gd a0 a1 a2) : ∃ n, start (iter step n) (a0.map MStored.row) p1 p2 = ret ((md a0 a1 a2) : Int) := by
  unfold gd at hg
  have H0 := hg
  unfold start md
  try simp only [S0, MStored.rs, ← e1, ← e2]
  have Bh2 : a0.length ≤ maxLen := (by
      have := (H0).1
      try simp only [maxLen] at *
      omega)
  refine ex_eq (out := ret) (loopM_eachI (z := MStored.zero)) ?_
  refine ex_pt (p := Pt.p0 (a0.map MStored.row) p1 p2 (a0.length : Int) 0) (by first | rfl | (simp only [S0, MStored.rs, ← e1, ← e2, MP]; done) | (simp only [MP]; rfl)) ?_
  refine loopM_ok (pt := fun (i1 : Nat) (s3 : Unit) => Pt.p0 (a0.map MStored.row) p1 p2 (a0.length : Int) (i1 : Int)) (s := (() : Unit)) (out := ret) (fun _ _ => True) (fun J i1 s3 h2 hih2 => ?_) (fun s3 hih2 => ?_) trivial
  · simp only [step, S0, MStored.rs, ← e1, ← e2]
    have bb_ := Bh2
    simp only [maxLen] at bb_
    have := (H0).1
    refine Rnd.yes (by apply decide_eq_true; omega) ?_
    refine Rnd.yes zle_dec ?_
    refine Rnd.yes (lt_dec h2) ?_
    refine Rnd.call_to (Z181.md (a0.getD i1 MStored.zero) a1 a2) (Z181.R_eq (a0 := (a0.getD i1 MStored.zero)) (a1 := a1) (a2 := a2) trivial) ?_
    refine Rnd.bif (fun c4 => ?_) (fun c4 => ?_)
    · refine Rnd.inr ?_
      all_goals first | rfl | (simp only [S0, MStored.rs, ← e1, ← e2, MP]; first | done | rfl)
    · refine Rnd.inl trivial ?_
      rw [wrap_succ h2 Bh2]
      all_goals first | rfl | (simp only [S0, MStored.rs, ← e1, ← e2, MP]; first | done | rfl)
  · simp only [step, S0, MStored.rs, ← e1, ← e2]
    have := (H0).1
    refine ex_no (by apply decide_eq_false; omega) ?_
    refine ⟨0, ?_⟩
    all_goals first | rfl | (simp only [S0, MStored.rs, ← e1, ← e2, MP]; first | done | rfl)
theorem okV (ls : List L) (a : List MStored × Int × ByteArray) (e : acc ls = Im.im a) (hg : (p3 gd) a) : ∃ n : Nat, start (iter step n) ((ls.headD .hole).toSl) (padL 1 (dropT 1 ls)) (padL 1 (dropT 2 ls)) = ret (Im.im ((u3 md) a)) := by
 have e0 : (a.1.map MStored.row) = (ls.headD .hole).toSl := (congrArg (fun x => x.1) e.symm)
 obtain ⟨n, hn⟩ := okF a.1 a.2.1 a.2.2 (padL 1 (dropT 1 ls)) (padL 1 (dropT 2 ls)) (congrArg (fun x => x.2.1) e.symm) (congrArg (fun x => x.2.2) e.symm) hg
 refine ⟨n, ?_⟩
 rw [← e0]
 exact hn
theorem valid_ : Valid Tryz.prog Ev 158 con := VP (accr := fun ls => ((ls.headD .hole).toSl, (padL 1 (dropT 1 ls)), (padL 1 (dropT 2 ls)))) (run := fun n x => start (iter step n) x.1 x.2.1 x.2.2) mix tab_ok (.cons Z181.valid_ .nil) Tryz.func158 (by kernel_rfl) run_eq (fun ls a _ e hg => okV ls a e hg)
theorem fa (a0 : List MStored) (a1 : Int) (a2 : ByteArray) : -1 ≤ md a0 a1 a2 ∧ md a0 a1 a2 < (a0.length : Int) := by
 unfold md
 refine eachI_fa0 ?_ _ _
 all_goals
  intro i x s b h
  revert h
  simp only [Bool.cond_eq_ite]
  repeat' split
  all_goals (intro h; first | (cases h; rfl) | cases h)
theorem idx_eq (a0 : List MStored) (a1 : Int) (a2 : ByteArray) : md a0 a1 a2 = findI (fun y => Z181.md y a1 a2) 0 a0 := by
 unfold md
 exact eachI_find
end Z182
namespace Z183
def F (x0 : RCache) (x1 : Int) (x2 : ByteArray) : Ans := (call (Z182.R (x0.fList, x1, x2)) fun v1 => ret (v1 : Int))
def pats : List Pat := [.agg [.sl 148], .rd (.int .i64), .rd (.str)]
def res : RP := .one (.rd (.int .i64))
def md (a0 : MCache) (a1 : Int) (a2 : ByteArray) : Int := ((Z182.md a0.fList a1 a2) : Int)
def gd (a0 : MCache) (a1 : Int) (a2 : ByteArray) : Prop := (MCache.Sm (2 ^ 21) a0)
def acc (ls : List L) : RCache × Int × ByteArray := ((RCache.dec ls), ((dropT 1 ls).headD .hole).toInt, ((dropT 2 ls).headD .hole).toStr)
def R : (RCache × Int × ByteArray) → Option Int := RR (p3 gd) (u3 md)
theorem R_eq {a0} {a1} {a2} (h : gd a0 a1 a2) : R ((MCache.r a0), a1, a2) = some (md a0 a1 a2) := RR_eq (a := (a0, a1, a2)) h
def con : Con := CN pats res acc R
theorem okF (a0 : MCache) (a1 : Int) (a2 : ByteArray) (hg : gd a0 a1 a2) : F (MCache.r a0) a1 a2 = ret ((md a0 a1 a2) : Int) := by
 unfold gd at hg
 have H0 := hg
 unfold F md
 try simp only [S0, MKeys.rs, MCache.rs]
 refine call_to (Z182.md a0.fList a1 a2) (Z182.R_eq (a0 := a0.fList) (a1 := a1) (a2 := a2) H0) ?_
 have fv1_ := Z182.fa a0.fList a1 a2
 all_goals first | rfl | (simp only [S0, MKeys.rs, MCache.rs, MP]; first | done | rfl)
theorem valid_ : Valid Tryz.prog Ev 111 con := VV (live := fun _ => []) (nt := 11) (run := fun _ x => F x.1 x.2.1 x.2.2) mix tab_ok (.cons Z182.valid_ .nil) Tryz.func111 (by kernel_rfl) (fun _ _ => by kernel_rfl) (fun _ a _ _ hg => ⟨0, okF a.1 a.2.1 a.2.2 hg⟩)
theorem fa (a0 : MCache) (a1 : Int) (a2 : ByteArray) : -1 ≤ md a0 a1 a2 ∧ md a0 a1 a2 < (a0.fList.length : Int) := by unfold md; exact Z182.fa _ _ _
theorem br (a0 : MCache) (a1 : Int) (a2 : ByteArray) : md a0 a1 a2 = Z91.md a0 a1 a2 := by
 unfold md Z91.md
 rw [Z182.idx_eq]
 symm
 refine eachI_find' (fun i x s => ?_) _ _ _
 unfold Z181.md
 cases x.fZone == a1 <;> cases x.fLabel == a2 <;> rfl
end Z183
namespace Z184
def F (x0 : RCache) (x1 : Int) (x2 : ByteArray) (x3 : RAnswer) (x4 : Int) : Ans := (call (Z105.R x0) fun v1 => (call (Z180.R (x1, x2, x3, x4)) fun v2 => (bif (v2 != 1) then ret (v1 : RCache) else (call (Z103.R x3) fun v3 => (call (Z183.R (x0, x1, x2)) fun v4 => (bif (decide (v4 ≥ 0)) then (bif (decide ((0 : Int) ≤ v4)) then (bif (decide (v4 < (v1.fList.length : Int))) then ret ((⟨(List.set v1.fList (Int.toNat v4) (RStored.enc (⟨x1, x2, v3⟩ : RStored)))⟩ : RCache) : RCache) else none) else none) else (bif (decide ((x0.fList.length : Int) < 16)) then (bif (lim (((v1.fList.length : Int) + 1) * 328)) then ret ((⟨(v1.fList ++ [(RStored.enc (⟨x1, x2, v3⟩ : RStored))])⟩ : RCache) : RCache) else none) else ret (v1 : RCache))))))))
def pats : List Pat := [.agg [.sl 148], .rd (.int .i64), .rd (.str), .agg [.sl 122, .bool, .str, .int .i64, .int .i64, .sl 9, .int .i64, .sl 3, .int .i64, .str, .int .i64, .int .i64, .sl 9, .str, .int .i64, .int .i64, .sl 9, .int .i64, .sl 3, .int .i64, .sl 3], .rd (.int .i64)]
def res : RP := .agg [.fr 148]
def md (a0 : MCache) (a1 : Int) (a2 : ByteArray) (a3 : MAnswer) (a4 : Int) : MCache := (bif ((Z180.md a1 a2 a3 a4) != 1) then a0 else (bif (decide ((Z183.md a0 a1 a2) ≥ 0)) then (⟨(List.set a0.fList (Int.toNat (Z183.md a0 a1 a2)) (⟨a1, a2, a3⟩ : MStored))⟩ : MCache) else (bif (decide ((a0.fList.length : Int) < 16)) then (⟨(a0.fList ++ [(⟨a1, a2, a3⟩ : MStored)])⟩ : MCache) else a0)))
def gd (a0 : MCache) (a1 : Int) (a2 : ByteArray) (a3 : MAnswer) (a4 : Int) : Prop := (MCache.Sm (2 ^ 21) a0) ∧ (a2.size ≤ (2 ^ 21)) ∧ (MAnswer.Sm (2 ^ 21) a3)
def acc (ls : List L) : RCache × Int × ByteArray × RAnswer × Int := ((RCache.dec ls), ((dropT 1 ls).headD .hole).toInt, ((dropT 2 ls).headD .hole).toStr, (RAnswer.dec (dropT 3 ls)), ((dropT 24 ls).headD .hole).toInt)
def R : (RCache × Int × ByteArray × RAnswer × Int) → Option RCache := RR (p5 gd) (u5 md)
theorem R_eq {a0} {a1} {a2} {a3} {a4} (h : gd a0 a1 a2 a3 a4) : R ((MCache.r a0), a1, a2, (MAnswer.r a3), a4) = some (MCache.r (md a0 a1 a2 a3 a4)) := RR_eq (a := (a0, a1, a2, a3, a4)) h
def con : Con := CN pats res acc R
theorem okF (a0 : MCache) (a1 : Int) (a2 : ByteArray) (a3 : MAnswer) (a4 : Int) (hg : gd a0 a1 a2 a3 a4) : F (MCache.r a0) a1 a2 (MAnswer.r a3) a4 = ret ((MCache.r (md a0 a1 a2 a3 a4)) : RCache) := by
  unfold gd at hg
  obtain ⟨H0, H2, H3⟩ := hg
  unfold F md
  try simp only [S0, MKeys.rs, MCache.rs]
  refine call_to (MCache.r a0) ?_ ?_
  · have R_ := Z105.R_eq (a0 := a0) H0
    simp only [Z105.md] at R_
    first | exact R_ | (simp only [MP, S0, MKeys.rs, MCache.rs] at R_ ⊢; first | exact R_ | (rw [← R_]; rfl))
  try simp only [S0, MKeys.rs, MCache.rs]
  refine call_to (Z180.md a1 a2 a3 a4) (Z180.R_eq (a0 := a1) (a1 := a2) (a2 := a3) (a3 := a4) ⟨H2, H3⟩) ?_
  refine bif_out (fun b : MCache => ret ((MCache.r b) : RCache)) (fun c1 => ?_) (fun c1 => ?_)
  · all_goals first | rfl | (simp only [S0, MKeys.rs, MCache.rs]; done) | (simp only [MP]; rfl) | (simp only [S0, MKeys.rs, MCache.rs, MP]; first | done | rfl) | (simp only [MCache.r, S0, MKeys.rs, MCache.rs, MP]; first | done | rfl)
  · have dc1 := c1
    try simp only [DC] at dc1
    refine call_to (MAnswer.r a3) ?_ ?_
    · have R_ := Z103.R_eq (a0 := a3) H3
      simp only [Z103.md] at R_
      first | exact R_ | (simp only [MP, S0, MKeys.rs, MCache.rs] at R_ ⊢; first | exact R_ | (rw [← R_]; rfl))
    try simp only [S0, MKeys.rs, MCache.rs]
    refine call_to (Z183.md a0 a1 a2) (Z183.R_eq (a0 := a0) (a1 := a1) (a2 := a2) H0) ?_
    have fv4_ := Z183.fa a0 a1 a2
    refine bif_out (fun b : MCache => ret ((MCache.r b) : RCache)) (fun c2 => ?_) (fun c2 => ?_)
    · have dc2 := c2
      try simp only [DC] at dc2
      refine yes_ret (by
          refine decide_eq_true ?_
          try simp (disch := omega) only [LN, wi]
          first | omega | (simp; done) | (simp; omega)) ?_
      refine yes_ret (by
          have := (H0).1
          refine decide_eq_true ?_
          try simp (disch := omega) only [LN, wi]
          first | omega | (simp; done) | (simp; omega)) ?_
      all_goals first | rfl | (simp only [S0, MKeys.rs, MCache.rs]; done) | (simp only [MP]; rfl) | (simp only [S0, MKeys.rs, MCache.rs, MP]; first | done | rfl) | (simp only [MCache.r, S0, MKeys.rs, MCache.rs, MP]; first | done | rfl)
    · have dc2 := c2
      try simp only [DC] at dc2
      refine bif_out (fun b : MCache => ret ((MCache.r b) : RCache)) (fun c3 => ?_) (fun c3 => ?_)
      · have dc3 := c3
        try simp only [DC] at dc3
        refine yes_ret (by
            have := (H0).1
            refine lim_t ?_
            try simp (disch := omega) only [LN, wi]
            first | omega | (simp; done) | (simp; omega)) ?_
        all_goals first | rfl | (simp only [S0, MKeys.rs, MCache.rs]; done) | (simp only [MP]; rfl) | (simp only [S0, MKeys.rs, MCache.rs, MP]; first | done | rfl) | (simp only [MCache.r, S0, MKeys.rs, MCache.rs, MP]; first | done | rfl)
      · all_goals first | rfl | (simp only [S0, MKeys.rs, MCache.rs]; done) | (simp only [MP]; rfl) | (simp only [S0, MKeys.rs, MCache.rs, MP]; first | done | rfl) | (simp only [MCache.r, S0, MKeys.rs, MCache.rs, MP]; first | done | rfl)
theorem valid_ : Valid Tryz.prog Ev 41 con := VV (live := fun _ => []) (nt := 50) (run := fun _ x => F x.1 x.2.1 x.2.2.1 x.2.2.2.1 x.2.2.2.2) mix tab_ok (.cons Z105.valid_ (.cons Z180.valid_ (.cons Z103.valid_ (.cons Z183.valid_ .nil)))) Tryz.func41 (by kernel_rfl) (fun _ _ => by kernel_rfl) (fun _ a _ _ hg => ⟨0, okF a.1 a.2.1 a.2.2.1 a.2.2.2.1 a.2.2.2.2 hg⟩)
theorem br (a0 : MCache) (a1 : Int) (a2 : ByteArray) (a3 : MAnswer) (a4 : Int) : md a0 a1 a2 a3 a4 = Z92.md a0 a1 a2 a3 a4 := by
 unfold md Z92.md
 first
 | (simp only [Z180.br, Z183.br]; done)
 | (simp only [Z180.br, Z183.br]; rfl)
 | rfl
end Z184
namespace Z185
inductive Pt where
 | p0 (a : List (List L)) (b : List (List L)) (c : Int)
def pid : Pt → Nat
 | .p0 .. => 4
def pvs : Pt → List V
 | .p0 a b c => [.sl none 3 a, .sl none 3 b, .int .i64 c]
def phs : Pt → List Root
 | .p0 a b c => []
def step (J : Pt → Ans) : Pt → Ans
 | .p0 a b c => (bif (decide (c < (a.length : Int))) then (bif (decide ((0 : Int) ≤ c)) then (bif (decide (c < (a.length : Int))) then (bif (decide ((0 : Int) ≤ c)) then (bif (decide (c < (b.length : Int))) then (bif ((iAt a (Int.toNat c)) != (iAt b (Int.toNat c))) then ret (false : Bool) else J (.p0 a b (IntKind.i64.wrap (c + 1)))) else none) else none) else none) else none) else ret (true : Bool))
def start (J : Pt → Ans) (x0 : List (List L)) (x1 : List (List L)) : Ans := (bif ((x0.length : Int) != (x1.length : Int)) then ret (false : Bool) else J (.p0 x0 x1 0))
def live : Nat → Live := fun i => match i with | 4 => [(0, none), (1, none), (5, none)] | _ => []
def pats : List Pat := [.rd (.sl 3), .rd (.sl 3)]
def res : RP := .one (.rd (.bool))
abbrev E : Env := { T := assoc Tab, G := conG [], nt := 26 }
theorem step_eq (I : Heads) (p : Pt) : enterC E live I (pid p) (bodyOf Tryz.f66) (stOf (live (pid p)) (pvs p) (phs p)) (doneK E Tryz.f66 res) = step (fun q => I (pid q) (pvs q) (phs q)) p := by
 cases p <;> kernel_rfl
theorem start_eq (I : Heads) (ls : List L) : runC E live I (bodyOf Tryz.f66) (initS pats ls) (doneK E Tryz.f66 res) = start (fun q => I (pid q) (pvs q) (phs q)) (ls.headD .hole).toSl ((dropT 1 ls).headD .hole).toSl := by kernel_rfl
theorem run_eq (n : Nat) (ls : List L) : runF E live Tryz.f66 res n (initS pats ls) = start (iter step n) (ls.headD .hole).toSl ((dropT 1 ls).headD .hole).toSl := runF_iter (id := pid) (vs := pvs) (hs := phs) (step := step) (start := fun J => start J (ls.headD .hole).toSl ((dropT 1 ls).headD .hole).toSl) step_eq (fun I => start_eq I ls) n
def md (a0 : List Int) (a1 : List Int) : Bool := eqB a0 a1
def gd (a0 : List Int) (a1 : List Int) : Prop := True
def acc (ls : List L) : List (List L) × List (List L) := ((ls.headD .hole).toSl, ((dropT 1 ls).headD .hole).toSl)
def R : (List (List L) × List (List L)) → Option Bool := RR (p2 gd) (u2 md)
theorem R_eq {a0} {a1} (h : gd a0 a1) : R ((a0.map iRow), (a1.map iRow)) = some (md a0 a1) := RR_eq (a := (a0, a1)) h
def con : Con := CN pats res acc R
theorem okF (a0 : List Int) (a1 : List Int) (hg : gd a0 a1) (h0 : a0.length ≤ maxLen) (h1 : a1.length ≤ maxLen) : ∃ n, start (iter step n) (a0.map iRow) (a1.map iRow) = ret ((md a0 a1) : Bool) := by
  unfold start md
  simp only [List.length_map]
  refine eq_list (pt := fun i => Pt.p0 (a0.map iRow) (a1.map iRow) (i : Int)) (fun hl J i h h2 => ?_) (fun J => ?_)
  · simp only [step, List.length_map, lt_dec h, lt_dec h2, zle_dec, cond_true, toNat_nat, iAt_row h, iAt_row h2]
    rw [wrap_succ h h0]
    simp only [bne, int_beq, bool_beq, ba_beq]
    cases eqB a0[i] a1[i] <;> rfl
  · simp only [step, List.length_map, nlt_dec, cond_false]
theorem valid_ : Valid Tryz.prog Ev 66 con := VV (run := fun n x => start (iter step n) x.1 x.2) mix tab_ok .nil Tryz.func66 (by kernel_rfl) run_eq (fun ls a hl e hg => okF a.1 a.2 hg (by have h : (ls.headD .hole).toSl.length ≤ maxLen := hl.1.len; have e : a.1.map iRow = (ls.headD .hole).toSl := (congrArg (fun x => x.1) e.symm); rw [← e] at h; simpa using h) (by have h : ((dropT 1 ls).headD .hole).toSl.length ≤ maxLen := hl.2.1.len; have e : a.2.map iRow = ((dropT 1 ls).headD .hole).toSl := (congrArg (fun x => x.2) e.symm); rw [← e] at h; simpa using h))
end Z185
namespace Z186
def F (x0 : RKeys) (x1 : RKeys) : Ans := (call (Z185.R (x0.fList, x1.fList)) fun v1 => (bif (!v1) then ret (false : Bool) else (bif (x0.fNeed != x1.fNeed) then ret (false : Bool) else ret (true : Bool))))
def pats : List Pat := [.agg [.sl 3, .int .i64], .agg [.sl 3, .int .i64]]
def res : RP := .one (.rd (.bool))
def md (a0 : MKeys) (a1 : MKeys) : Bool := eqB a0 a1
def gd (a0 : MKeys) (a1 : MKeys) : Prop := True
def acc (ls : List L) : RKeys × RKeys := ((RKeys.dec ls), (RKeys.dec (dropT 2 ls)))
def R : (RKeys × RKeys) → Option Bool := RR (p2 gd) (u2 md)
theorem R_eq {a0} {a1} (h : gd a0 a1) : R ((MKeys.r a0), (MKeys.r a1)) = some (md a0 a1) := RR_eq (a := (a0, a1)) h
def con : Con := CN pats res acc R
theorem okF (a0 : MKeys) (a1 : MKeys) (hg : gd a0 a1) : F (MKeys.r a0) (MKeys.r a1) = ret ((md a0 a1) : Bool) := by
 unfold md
 show (call (Z185.R ((a0.fList.map iRow), (a1.fList.map iRow))) fun v1 => (bif (!v1) then ret (false : Bool) else (bif (a0.fNeed != a1.fNeed) then ret (false : Bool) else ret (true : Bool)))) = _
 simp only [call_eq (Z185.R_eq (a0 := a0.fList) (a1 := a1.fList) trivial), Z185.md]
 try simp only [bne, int_beq, bool_beq, ba_beq]
 have e : eqB a0 a1 = (eqB a0.fList a1.fList && (eqB a0.fNeed a1.fNeed && true)) := by
  cases a0; cases a1
  rw [Bool.eq_iff_iff]
  simp only [eqB_iff, Bool.and_eq_true, MKeys.mk.injEq, and_true]
 rw [e]
 refine and_step fun _ => ?_
 refine and_step fun _ => ?_
 rfl
theorem valid_ : Valid Tryz.prog Ev 19 con := VV (live := fun _ => []) (nt := 16) (run := fun _ x => F x.1 x.2) mix tab_ok (.cons Z185.valid_ .nil) Tryz.func19 (by kernel_rfl) (fun _ _ => by kernel_rfl) (fun _ a _ _ hg => ⟨0, okF a.1 a.2 hg⟩)
end Z186
namespace Z187
def F (x0 : RHead) (x1 : RHead) : Ans := (bif (x0.fZone != x1.fZone) then ret (false : Bool) else (bif (x0.fEpoch != x1.fEpoch) then ret (false : Bool) else (bif (x0.fKind != x1.fKind) then ret (false : Bool) else (bif (x0.fTime != x1.fTime) then ret (false : Bool) else (bif (x0.fUntil != x1.fUntil) then ret (false : Bool) else (bif (x0.fCount != x1.fCount) then ret (false : Bool) else (bif (x0.fRoot != x1.fRoot) then ret (false : Bool) else (bif (x0.fPrev != x1.fPrev) then ret (false : Bool) else (call (Z186.R (x0.fKeys, x1.fKeys)) fun v1 => (bif (!v1) then ret (false : Bool) else (call (Z186.R (x0.fHeirs, x1.fHeirs)) fun v2 => (bif (!v2) then ret (false : Bool) else (bif (x0.fWait != x1.fWait) then ret (false : Bool) else (call (Z186.R (x0.fJudge, x1.fJudge)) fun v3 => (bif (!v3) then ret (false : Bool) else (bif (!(x0.fFrozen == x1.fFrozen)) then ret (false : Bool) else ret (true : Bool)))))))))))))))))
def pats : List Pat := [.agg [.int .i64, .int .i64, .int .i64, .int .i64, .int .i64, .int .i64, .int .i64, .int .i64, .sl 3, .int .i64, .sl 3, .int .i64, .int .i64, .sl 3, .int .i64, .bool], .agg [.int .i64, .int .i64, .int .i64, .int .i64, .int .i64, .int .i64, .int .i64, .int .i64, .sl 3, .int .i64, .sl 3, .int .i64, .int .i64, .sl 3, .int .i64, .bool]]
def res : RP := .one (.rd (.bool))
def md (a0 : MHead) (a1 : MHead) : Bool := eqB a0 a1
def gd (a0 : MHead) (a1 : MHead) : Prop := True
def acc (ls : List L) : RHead × RHead := ((RHead.dec ls), (RHead.dec (dropT 16 ls)))
def R : (RHead × RHead) → Option Bool := RR (p2 gd) (u2 md)
theorem R_eq {a0} {a1} (h : gd a0 a1) : R ((MHead.r a0), (MHead.r a1)) = some (md a0 a1) := RR_eq (a := (a0, a1)) h
def con : Con := CN pats res acc R
theorem okF (a0 : MHead) (a1 : MHead) (hg : gd a0 a1) : F (MHead.r a0) (MHead.r a1) = ret ((md a0 a1) : Bool) := by
 unfold md
 show (bif (a0.fZone != a1.fZone) then ret (false : Bool) else (bif (a0.fEpoch != a1.fEpoch) then ret (false : Bool) else (bif (a0.fKind != a1.fKind) then ret (false : Bool) else (bif (a0.fTime != a1.fTime) then ret (false : Bool) else (bif (a0.fUntil != a1.fUntil) then ret (false : Bool) else (bif (a0.fCount != a1.fCount) then ret (false : Bool) else (bif (a0.fRoot != a1.fRoot) then ret (false : Bool) else (bif (a0.fPrev != a1.fPrev) then ret (false : Bool) else (call (Z186.R ((MKeys.r a0.fKeys), (MKeys.r a1.fKeys))) fun v1 => (bif (!v1) then ret (false : Bool) else (call (Z186.R ((MKeys.r a0.fHeirs), (MKeys.r a1.fHeirs))) fun v2 => (bif (!v2) then ret (false : Bool) else (bif (a0.fWait != a1.fWait) then ret (false : Bool) else (call (Z186.R ((MKeys.r a0.fJudge), (MKeys.r a1.fJudge))) fun v3 => (bif (!v3) then ret (false : Bool) else (bif (!(a0.fFrozen == a1.fFrozen)) then ret (false : Bool) else ret (true : Bool))))))))))))))))) = _
 simp only [call_eq (Z186.R_eq (a0 := a0.fKeys) (a1 := a1.fKeys) trivial), Z186.md]
 simp only [call_eq (Z186.R_eq (a0 := a0.fHeirs) (a1 := a1.fHeirs) trivial), Z186.md]
 simp only [call_eq (Z186.R_eq (a0 := a0.fJudge) (a1 := a1.fJudge) trivial), Z186.md]
 try simp only [bne, int_beq, bool_beq, ba_beq]
 have e : eqB a0 a1 = (eqB a0.fZone a1.fZone && (eqB a0.fEpoch a1.fEpoch && (eqB a0.fKind a1.fKind && (eqB a0.fTime a1.fTime && (eqB a0.fUntil a1.fUntil && (eqB a0.fCount a1.fCount && (eqB a0.fRoot a1.fRoot && (eqB a0.fPrev a1.fPrev && (eqB a0.fKeys a1.fKeys && (eqB a0.fHeirs a1.fHeirs && (eqB a0.fWait a1.fWait && (eqB a0.fJudge a1.fJudge && (eqB a0.fFrozen a1.fFrozen && true))))))))))))) := by
  cases a0; cases a1
  rw [Bool.eq_iff_iff]
  simp only [eqB_iff, Bool.and_eq_true, MHead.mk.injEq, and_true]
 rw [e]
 refine and_step fun _ => ?_
 refine and_step fun _ => ?_
 refine and_step fun _ => ?_
 refine and_step fun _ => ?_
 refine and_step fun _ => ?_
 refine and_step fun _ => ?_
 refine and_step fun _ => ?_
 refine and_step fun _ => ?_
 refine and_step fun _ => ?_
 refine and_step fun _ => ?_
 refine and_step fun _ => ?_
 refine and_step fun _ => ?_
 refine and_step fun _ => ?_
 rfl
theorem valid_ : Valid Tryz.prog Ev 135 con := VV (live := fun _ => []) (nt := 73) (run := fun _ x => F x.1 x.2) mix tab_ok (.cons Z186.valid_ .nil) Tryz.func135 (by kernel_rfl) (fun _ _ => by kernel_rfl) (fun _ a _ _ hg => ⟨0, okF a.1 a.2 hg⟩)
end Z187
namespace Z188
def F (x0 : MSig) (x1 : MSig) : Ans := (bif (x0.fKey != x1.fKey) then ret (false : Bool) else (bif (x0.fTag != x1.fTag) then ret (false : Bool) else ret (true : Bool)))
def pats : List Pat := [.agg [.int .i64, .int .i64], .agg [.int .i64, .int .i64]]
def res : RP := .one (.rd (.bool))
def md (a0 : MSig) (a1 : MSig) : Bool := eqB a0 a1
def gd (a0 : MSig) (a1 : MSig) : Prop := True
def acc (ls : List L) : MSig × MSig := ((MSig.dec ls), (MSig.dec (dropT 2 ls)))
def R : (MSig × MSig) → Option Bool := RR (p2 gd) (u2 md)
theorem R_eq {a0} {a1} (h : gd a0 a1) : R (a0, a1) = some (md a0 a1) := RR_eq (a := (a0, a1)) h
def con : Con := CN pats res acc R
theorem okF (a0 : MSig) (a1 : MSig) (hg : gd a0 a1) : F a0 a1 = ret ((md a0 a1) : Bool) := by
 unfold md
 show (bif (a0.fKey != a1.fKey) then ret (false : Bool) else (bif (a0.fTag != a1.fTag) then ret (false : Bool) else ret (true : Bool))) = _
 try simp only [bne, int_beq, bool_beq, ba_beq]
 have e : eqB a0 a1 = (eqB a0.fKey a1.fKey && (eqB a0.fTag a1.fTag && true)) := by
  cases a0; cases a1
  rw [Bool.eq_iff_iff]
  simp only [eqB_iff, Bool.and_eq_true, MSig.mk.injEq, and_true]
 rw [e]
 refine and_step fun _ => ?_
 refine and_step fun _ => ?_
 rfl
theorem valid_ : Valid Tryz.prog Ev 188 con := VV (live := fun _ => []) (nt := 15) (run := fun _ x => F x.1 x.2) mix tab_ok .nil Tryz.func188 (by kernel_rfl) (fun _ _ => by kernel_rfl) (fun _ a _ _ hg => ⟨0, okF a.1 a.2 hg⟩)
end Z188
namespace Z189
inductive Pt where
 | p0 (a : List (List L)) (b : List (List L)) (c : Int)
def pid : Pt → Nat
 | .p0 .. => 4
def pvs : Pt → List V
 | .p0 a b c => [.sl none 184 a, .sl none 184 b, .int .i64 c]
def phs : Pt → List Root
 | .p0 a b c => []
def step (J : Pt → Ans) : Pt → Ans
 | .p0 a b c => (bif (decide (c < (a.length : Int))) then (bif (decide ((0 : Int) ≤ c)) then (bif (decide (c < (a.length : Int))) then (bif (decide ((0 : Int) ≤ c)) then (bif (decide (c < (b.length : Int))) then (call (Z188.R ((MSig.at a (Int.toNat c)), (MSig.at b (Int.toNat c)))) fun v1 => (bif (!v1) then ret (false : Bool) else J (.p0 a b (IntKind.i64.wrap (c + 1))))) else none) else none) else none) else none) else ret (true : Bool))
def start (J : Pt → Ans) (x0 : List (List L)) (x1 : List (List L)) : Ans := (bif ((x0.length : Int) != (x1.length : Int)) then ret (false : Bool) else J (.p0 x0 x1 0))
def live : Nat → Live := fun i => match i with | 4 => [(0, none), (1, none), (5, none)] | _ => []
def pats : List Pat := [.rd (.sl 184), .rd (.sl 184)]
def res : RP := .one (.rd (.bool))
abbrev E : Env := { T := assoc Tab, G := conG [(188, Z188.con)], nt := 27 }
theorem step_eq (I : Heads) (p : Pt) : enterC E live I (pid p) (bodyOf Tryz.f136) (stOf (live (pid p)) (pvs p) (phs p)) (doneK E Tryz.f136 res) = step (fun q => I (pid q) (pvs q) (phs q)) p := by
 cases p <;> kernel_rfl
theorem start_eq (I : Heads) (ls : List L) : runC E live I (bodyOf Tryz.f136) (initS pats ls) (doneK E Tryz.f136 res) = start (fun q => I (pid q) (pvs q) (phs q)) (ls.headD .hole).toSl ((dropT 1 ls).headD .hole).toSl := by kernel_rfl
theorem run_eq (n : Nat) (ls : List L) : runF E live Tryz.f136 res n (initS pats ls) = start (iter step n) (ls.headD .hole).toSl ((dropT 1 ls).headD .hole).toSl := runF_iter (id := pid) (vs := pvs) (hs := phs) (step := step) (start := fun J => start J (ls.headD .hole).toSl ((dropT 1 ls).headD .hole).toSl) step_eq (fun I => start_eq I ls) n
def md (a0 : List MSig) (a1 : List MSig) : Bool := eqB a0 a1
def gd (a0 : List MSig) (a1 : List MSig) : Prop := True
def acc (ls : List L) : List (List L) × List (List L) := ((ls.headD .hole).toSl, ((dropT 1 ls).headD .hole).toSl)
def R : (List (List L) × List (List L)) → Option Bool := RR (p2 gd) (u2 md)
theorem R_eq {a0} {a1} (h : gd a0 a1) : R ((a0.map MSig.row), (a1.map MSig.row)) = some (md a0 a1) := RR_eq (a := (a0, a1)) h
def con : Con := CN pats res acc R
theorem okF (a0 : List MSig) (a1 : List MSig) (hg : gd a0 a1) (h0 : a0.length ≤ maxLen) (h1 : a1.length ≤ maxLen) : ∃ n, start (iter step n) (a0.map MSig.row) (a1.map MSig.row) = ret ((md a0 a1) : Bool) := by
  unfold start md
  simp only [List.length_map]
  refine eq_list (pt := fun i => Pt.p0 (a0.map MSig.row) (a1.map MSig.row) (i : Int)) (fun hl J i h h2 => ?_) (fun J => ?_)
  · simp only [step, List.length_map, lt_dec h, lt_dec h2, zle_dec, cond_true, toNat_nat, MSig.at_row h, MSig.at_row h2]
    rw [wrap_succ h h0]
    rw [call_eq (Z188.R_eq (a0 := a0[i]) (a1 := a1[i]) trivial), Z188.md]
    cases eqB a0[i] a1[i] <;> rfl
  · simp only [step, List.length_map, nlt_dec, cond_false]
theorem valid_ : Valid Tryz.prog Ev 136 con := VV (run := fun n x => start (iter step n) x.1 x.2) mix tab_ok (.cons Z188.valid_ .nil) Tryz.func136 (by kernel_rfl) run_eq (fun ls a hl e hg => okF a.1 a.2 hg (by have h : (ls.headD .hole).toSl.length ≤ maxLen := hl.1.len; have e : a.1.map MSig.row = (ls.headD .hole).toSl := (congrArg (fun x => x.1) e.symm); rw [← e] at h; simpa using h) (by have h : ((dropT 1 ls).headD .hole).toSl.length ≤ maxLen := hl.2.1.len; have e : a.2.map MSig.row = ((dropT 1 ls).headD .hole).toSl := (congrArg (fun x => x.2) e.symm); rw [← e] at h; simpa using h))
end Z189
namespace Z190
def F (x0 : RSigned) (x1 : RSigned) : Ans := (call (Z187.R (x0.fHead, x1.fHead)) fun v1 => (bif (!v1) then ret (false : Bool) else (call (Z189.R (x0.fSigs, x1.fSigs)) fun v2 => (bif (!v2) then ret (false : Bool) else ret (true : Bool)))))
def pats : List Pat := [.agg [.int .i64, .int .i64, .int .i64, .int .i64, .int .i64, .int .i64, .int .i64, .int .i64, .sl 3, .int .i64, .sl 3, .int .i64, .int .i64, .sl 3, .int .i64, .bool, .sl 184], .agg [.int .i64, .int .i64, .int .i64, .int .i64, .int .i64, .int .i64, .int .i64, .int .i64, .sl 3, .int .i64, .sl 3, .int .i64, .int .i64, .sl 3, .int .i64, .bool, .sl 184]]
def res : RP := .one (.rd (.bool))
def md (a0 : MSigned) (a1 : MSigned) : Bool := eqB a0 a1
def gd (a0 : MSigned) (a1 : MSigned) : Prop := True
def acc (ls : List L) : RSigned × RSigned := ((RSigned.dec ls), (RSigned.dec (dropT 17 ls)))
def R : (RSigned × RSigned) → Option Bool := RR (p2 gd) (u2 md)
theorem R_eq {a0} {a1} (h : gd a0 a1) : R ((MSigned.r a0), (MSigned.r a1)) = some (md a0 a1) := RR_eq (a := (a0, a1)) h
def con : Con := CN pats res acc R
theorem okF (a0 : MSigned) (a1 : MSigned) (hg : gd a0 a1) : F (MSigned.r a0) (MSigned.r a1) = ret ((md a0 a1) : Bool) := by
 unfold md
 show (call (Z187.R ((MHead.r a0.fHead), (MHead.r a1.fHead))) fun v1 => (bif (!v1) then ret (false : Bool) else (call (Z189.R ((a0.fSigs.map MSig.row), (a1.fSigs.map MSig.row))) fun v2 => (bif (!v2) then ret (false : Bool) else ret (true : Bool))))) = _
 simp only [call_eq (Z187.R_eq (a0 := a0.fHead) (a1 := a1.fHead) trivial), Z187.md]
 simp only [call_eq (Z189.R_eq (a0 := a0.fSigs) (a1 := a1.fSigs) trivial), Z189.md]
 try simp only [bne, int_beq, bool_beq, ba_beq]
 have e : eqB a0 a1 = (eqB a0.fHead a1.fHead && (eqB a0.fSigs a1.fSigs && true)) := by
  cases a0; cases a1
  rw [Bool.eq_iff_iff]
  simp only [eqB_iff, Bool.and_eq_true, MSigned.mk.injEq, and_true]
 rw [e]
 refine and_step fun _ => ?_
 refine and_step fun _ => ?_
 rfl
theorem valid_ : Valid Tryz.prog Ev 67 con := VV (live := fun _ => []) (nt := 17) (run := fun _ x => F x.1 x.2) mix tab_ok (.cons Z187.valid_ (.cons Z189.valid_ .nil)) Tryz.func67 (by kernel_rfl) (fun _ _ => by kernel_rfl) (fun _ a _ _ hg => ⟨0, okF a.1 a.2 hg⟩)
end Z190
namespace Z191
inductive Pt where
 | p0 (a : List (List L)) (b : List (List L)) (c : Int)
def pid : Pt → Nat
 | .p0 .. => 4
def pvs : Pt → List V
 | .p0 a b c => [.sl none 122 a, .sl none 122 b, .int .i64 c]
def phs : Pt → List Root
 | .p0 a b c => []
def step (J : Pt → Ans) : Pt → Ans
 | .p0 a b c => (bif (decide (c < (a.length : Int))) then (bif (decide ((0 : Int) ≤ c)) then (bif (decide (c < (a.length : Int))) then (bif (decide ((0 : Int) ≤ c)) then (bif (decide (c < (b.length : Int))) then (call (Z190.R ((RSigned.at a (Int.toNat c)), (RSigned.at b (Int.toNat c)))) fun v1 => (bif (!v1) then ret (false : Bool) else J (.p0 a b (IntKind.i64.wrap (c + 1))))) else none) else none) else none) else none) else ret (true : Bool))
def start (J : Pt → Ans) (x0 : List (List L)) (x1 : List (List L)) : Ans := (bif ((x0.length : Int) != (x1.length : Int)) then ret (false : Bool) else J (.p0 x0 x1 0))
def live : Nat → Live := fun i => match i with | 4 => [(0, none), (1, none), (5, none)] | _ => []
def pats : List Pat := [.rd (.sl 122), .rd (.sl 122)]
def res : RP := .one (.rd (.bool))
abbrev E : Env := { T := assoc Tab, G := conG [(67, Z190.con)], nt := 27 }
theorem step_eq (I : Heads) (p : Pt) : enterC E live I (pid p) (bodyOf Tryz.f20) (stOf (live (pid p)) (pvs p) (phs p)) (doneK E Tryz.f20 res) = step (fun q => I (pid q) (pvs q) (phs q)) p := by
 cases p <;> kernel_rfl
theorem start_eq (I : Heads) (ls : List L) : runC E live I (bodyOf Tryz.f20) (initS pats ls) (doneK E Tryz.f20 res) = start (fun q => I (pid q) (pvs q) (phs q)) (ls.headD .hole).toSl ((dropT 1 ls).headD .hole).toSl := by kernel_rfl
theorem run_eq (n : Nat) (ls : List L) : runF E live Tryz.f20 res n (initS pats ls) = start (iter step n) (ls.headD .hole).toSl ((dropT 1 ls).headD .hole).toSl := runF_iter (id := pid) (vs := pvs) (hs := phs) (step := step) (start := fun J => start J (ls.headD .hole).toSl ((dropT 1 ls).headD .hole).toSl) step_eq (fun I => start_eq I ls) n
def md (a0 : List MSigned) (a1 : List MSigned) : Bool := eqB a0 a1
def gd (a0 : List MSigned) (a1 : List MSigned) : Prop := True
def acc (ls : List L) : List (List L) × List (List L) := ((ls.headD .hole).toSl, ((dropT 1 ls).headD .hole).toSl)
def R : (List (List L) × List (List L)) → Option Bool := RR (p2 gd) (u2 md)
theorem R_eq {a0} {a1} (h : gd a0 a1) : R ((a0.map MSigned.row), (a1.map MSigned.row)) = some (md a0 a1) := RR_eq (a := (a0, a1)) h
def con : Con := CN pats res acc R
theorem okF (a0 : List MSigned) (a1 : List MSigned) (hg : gd a0 a1) (h0 : a0.length ≤ maxLen) (h1 : a1.length ≤ maxLen) : ∃ n, start (iter step n) (a0.map MSigned.row) (a1.map MSigned.row) = ret ((md a0 a1) : Bool) := by
  unfold start md
  simp only [List.length_map]
  refine eq_list (pt := fun i => Pt.p0 (a0.map MSigned.row) (a1.map MSigned.row) (i : Int)) (fun hl J i h h2 => ?_) (fun J => ?_)
  · simp only [step, List.length_map, lt_dec h, lt_dec h2, zle_dec, cond_true, toNat_nat, MSigned.at_row h, MSigned.at_row h2]
    rw [wrap_succ h h0]
    rw [call_eq (Z190.R_eq (a0 := a0[i]) (a1 := a1[i]) trivial), Z190.md]
    cases eqB a0[i] a1[i] <;> rfl
  · simp only [step, List.length_map, nlt_dec, cond_false]
theorem valid_ : Valid Tryz.prog Ev 20 con := VV (run := fun n x => start (iter step n) x.1 x.2) mix tab_ok (.cons Z190.valid_ .nil) Tryz.func20 (by kernel_rfl) run_eq (fun ls a hl e hg => okF a.1 a.2 hg (by have h : (ls.headD .hole).toSl.length ≤ maxLen := hl.1.len; have e : a.1.map MSigned.row = (ls.headD .hole).toSl := (congrArg (fun x => x.1) e.symm); rw [← e] at h; simpa using h) (by have h : ((dropT 1 ls).headD .hole).toSl.length ≤ maxLen := hl.2.1.len; have e : a.2.map MSigned.row = ((dropT 1 ls).headD .hole).toSl := (congrArg (fun x => x.2) e.symm); rw [← e] at h; simpa using h))
end Z191
namespace Z192
inductive Pt where
 | p0 (a : List (List L)) (b : List (List L)) (c : Int)
def pid : Pt → Nat
 | .p0 .. => 4
def pvs : Pt → List V
 | .p0 a b c => [.sl none 9 a, .sl none 9 b, .int .i64 c]
def phs : Pt → List Root
 | .p0 a b c => []
def step (J : Pt → Ans) : Pt → Ans
 | .p0 a b c => (bif (decide (c < (a.length : Int))) then (bif (decide ((0 : Int) ≤ c)) then (bif (decide (c < (a.length : Int))) then (bif (decide ((0 : Int) ≤ c)) then (bif (decide (c < (b.length : Int))) then (bif (!((sAt a (Int.toNat c)) == (sAt b (Int.toNat c)))) then ret (false : Bool) else J (.p0 a b (IntKind.i64.wrap (c + 1)))) else none) else none) else none) else none) else ret (true : Bool))
def start (J : Pt → Ans) (x0 : List (List L)) (x1 : List (List L)) : Ans := (bif ((x0.length : Int) != (x1.length : Int)) then ret (false : Bool) else J (.p0 x0 x1 0))
def live : Nat → Live := fun i => match i with | 4 => [(0, none), (1, none), (5, none)] | _ => []
def pats : List Pat := [.rd (.sl 9), .rd (.sl 9)]
def res : RP := .one (.rd (.bool))
abbrev E : Env := { T := assoc Tab, G := conG [], nt := 26 }
theorem step_eq (I : Heads) (p : Pt) : enterC E live I (pid p) (bodyOf Tryz.f176) (stOf (live (pid p)) (pvs p) (phs p)) (doneK E Tryz.f176 res) = step (fun q => I (pid q) (pvs q) (phs q)) p := by
 cases p <;> kernel_rfl
theorem start_eq (I : Heads) (ls : List L) : runC E live I (bodyOf Tryz.f176) (initS pats ls) (doneK E Tryz.f176 res) = start (fun q => I (pid q) (pvs q) (phs q)) (ls.headD .hole).toSl ((dropT 1 ls).headD .hole).toSl := by kernel_rfl
theorem run_eq (n : Nat) (ls : List L) : runF E live Tryz.f176 res n (initS pats ls) = start (iter step n) (ls.headD .hole).toSl ((dropT 1 ls).headD .hole).toSl := runF_iter (id := pid) (vs := pvs) (hs := phs) (step := step) (start := fun J => start J (ls.headD .hole).toSl ((dropT 1 ls).headD .hole).toSl) step_eq (fun I => start_eq I ls) n
def md (a0 : List ByteArray) (a1 : List ByteArray) : Bool := eqB a0 a1
def gd (a0 : List ByteArray) (a1 : List ByteArray) : Prop := True
def acc (ls : List L) : List (List L) × List (List L) := ((ls.headD .hole).toSl, ((dropT 1 ls).headD .hole).toSl)
def R : (List (List L) × List (List L)) → Option Bool := RR (p2 gd) (u2 md)
theorem R_eq {a0} {a1} (h : gd a0 a1) : R ((a0.map sRow), (a1.map sRow)) = some (md a0 a1) := RR_eq (a := (a0, a1)) h
def con : Con := CN pats res acc R
theorem okF (a0 : List ByteArray) (a1 : List ByteArray) (hg : gd a0 a1) (h0 : a0.length ≤ maxLen) (h1 : a1.length ≤ maxLen) : ∃ n, start (iter step n) (a0.map sRow) (a1.map sRow) = ret ((md a0 a1) : Bool) := by
  unfold start md
  simp only [List.length_map]
  refine eq_list (pt := fun i => Pt.p0 (a0.map sRow) (a1.map sRow) (i : Int)) (fun hl J i h h2 => ?_) (fun J => ?_)
  · simp only [step, List.length_map, lt_dec h, lt_dec h2, zle_dec, cond_true, toNat_nat, sAt_row h, sAt_row h2]
    rw [wrap_succ h h0]
    simp only [bne, int_beq, bool_beq, ba_beq]
    cases eqB a0[i] a1[i] <;> rfl
  · simp only [step, List.length_map, nlt_dec, cond_false]
theorem valid_ : Valid Tryz.prog Ev 176 con := VV (run := fun n x => start (iter step n) x.1 x.2) mix tab_ok .nil Tryz.func176 (by kernel_rfl) run_eq (fun ls a hl e hg => okF a.1 a.2 hg (by have h : (ls.headD .hole).toSl.length ≤ maxLen := hl.1.len; have e : a.1.map sRow = (ls.headD .hole).toSl := (congrArg (fun x => x.1) e.symm); rw [← e] at h; simpa using h) (by have h : ((dropT 1 ls).headD .hole).toSl.length ≤ maxLen := hl.2.1.len; have e : a.2.map sRow = ((dropT 1 ls).headD .hole).toSl := (congrArg (fun x => x.2) e.symm); rw [← e] at h; simpa using h))
end Z192
namespace Z193
def F (x0 : REntry) (x1 : REntry) : Ans := (bif (!(x0.fLabel == x1.fLabel)) then ret (false : Bool) else (bif (x0.fKind != x1.fKind) then ret (false : Bool) else (bif (x0.fValue != x1.fValue) then ret (false : Bool) else (call (Z192.R (x0.fPath, x1.fPath)) fun v1 => (bif (!v1) then ret (false : Bool) else ret (true : Bool))))))
def pats : List Pat := [.agg [.str, .int .i64, .int .i64, .sl 9], .agg [.str, .int .i64, .int .i64, .sl 9]]
def res : RP := .one (.rd (.bool))
def md (a0 : MEntry) (a1 : MEntry) : Bool := eqB a0 a1
def gd (a0 : MEntry) (a1 : MEntry) : Prop := True
def acc (ls : List L) : REntry × REntry := ((REntry.dec ls), (REntry.dec (dropT 4 ls)))
def R : (REntry × REntry) → Option Bool := RR (p2 gd) (u2 md)
theorem R_eq {a0} {a1} (h : gd a0 a1) : R ((MEntry.r a0), (MEntry.r a1)) = some (md a0 a1) := RR_eq (a := (a0, a1)) h
def con : Con := CN pats res acc R
theorem okF (a0 : MEntry) (a1 : MEntry) (hg : gd a0 a1) : F (MEntry.r a0) (MEntry.r a1) = ret ((md a0 a1) : Bool) := by
 unfold md
 show (bif (!(a0.fLabel == a1.fLabel)) then ret (false : Bool) else (bif (a0.fKind != a1.fKind) then ret (false : Bool) else (bif (a0.fValue != a1.fValue) then ret (false : Bool) else (call (Z192.R ((a0.fPath.map sRow), (a1.fPath.map sRow))) fun v1 => (bif (!v1) then ret (false : Bool) else ret (true : Bool)))))) = _
 simp only [call_eq (Z192.R_eq (a0 := a0.fPath) (a1 := a1.fPath) trivial), Z192.md]
 try simp only [bne, int_beq, bool_beq, ba_beq]
 have e : eqB a0 a1 = (eqB a0.fLabel a1.fLabel && (eqB a0.fKind a1.fKind && (eqB a0.fValue a1.fValue && (eqB a0.fPath a1.fPath && true)))) := by
  cases a0; cases a1
  rw [Bool.eq_iff_iff]
  simp only [eqB_iff, Bool.and_eq_true, MEntry.mk.injEq, and_true]
 rw [e]
 refine and_step fun _ => ?_
 refine and_step fun _ => ?_
 refine and_step fun _ => ?_
 refine and_step fun _ => ?_
 rfl
theorem valid_ : Valid Tryz.prog Ev 112 con := VV (live := fun _ => []) (nt := 26) (run := fun _ x => F x.1 x.2) mix tab_ok (.cons Z192.valid_ .nil) Tryz.func112 (by kernel_rfl) (fun _ _ => by kernel_rfl) (fun _ a _ _ hg => ⟨0, okF a.1 a.2 hg⟩)
end Z193
namespace Z194
def F (x0 : RProof) (x1 : RProof) : Ans := (bif (x0.fAt != x1.fAt) then ret (false : Bool) else (call (Z185.R (x0.fPath, x1.fPath)) fun v1 => (bif (!v1) then ret (false : Bool) else ret (true : Bool))))
def pats : List Pat := [.agg [.int .i64, .sl 3], .agg [.int .i64, .sl 3]]
def res : RP := .one (.rd (.bool))
def md (a0 : MProof) (a1 : MProof) : Bool := eqB a0 a1
def gd (a0 : MProof) (a1 : MProof) : Prop := True
def acc (ls : List L) : RProof × RProof := ((RProof.dec ls), (RProof.dec (dropT 2 ls)))
def R : (RProof × RProof) → Option Bool := RR (p2 gd) (u2 md)
theorem R_eq {a0} {a1} (h : gd a0 a1) : R ((MProof.r a0), (MProof.r a1)) = some (md a0 a1) := RR_eq (a := (a0, a1)) h
def con : Con := CN pats res acc R
theorem okF (a0 : MProof) (a1 : MProof) (hg : gd a0 a1) : F (MProof.r a0) (MProof.r a1) = ret ((md a0 a1) : Bool) := by
 unfold md
 show (bif (a0.fAt != a1.fAt) then ret (false : Bool) else (call (Z185.R ((a0.fPath.map iRow), (a1.fPath.map iRow))) fun v1 => (bif (!v1) then ret (false : Bool) else ret (true : Bool)))) = _
 simp only [call_eq (Z185.R_eq (a0 := a0.fPath) (a1 := a1.fPath) trivial), Z185.md]
 try simp only [bne, int_beq, bool_beq, ba_beq]
 have e : eqB a0 a1 = (eqB a0.fAt a1.fAt && (eqB a0.fPath a1.fPath && true)) := by
  cases a0; cases a1
  rw [Bool.eq_iff_iff]
  simp only [eqB_iff, Bool.and_eq_true, MProof.mk.injEq, and_true]
 rw [e]
 refine and_step fun _ => ?_
 refine and_step fun _ => ?_
 rfl
theorem valid_ : Valid Tryz.prog Ev 113 con := VV (live := fun _ => []) (nt := 16) (run := fun _ x => F x.1 x.2) mix tab_ok (.cons Z185.valid_ .nil) Tryz.func113 (by kernel_rfl) (fun _ _ => by kernel_rfl) (fun _ a _ _ hg => ⟨0, okF a.1 a.2 hg⟩)
end Z194
namespace Z195
def F (x0 : RGap) (x1 : RGap) : Ans := (bif (x0.fAt != x1.fAt) then ret (false : Bool) else (call (Z193.R (x0.fBefore, x1.fBefore)) fun v1 => (bif (!v1) then ret (false : Bool) else (call (Z193.R (x0.fAfter, x1.fAfter)) fun v2 => (bif (!v2) then ret (false : Bool) else (call (Z194.R (x0.fLeft, x1.fLeft)) fun v3 => (bif (!v3) then ret (false : Bool) else (call (Z194.R (x0.fRight, x1.fRight)) fun v4 => (bif (!v4) then ret (false : Bool) else ret (true : Bool))))))))))
def pats : List Pat := [.agg [.int .i64, .str, .int .i64, .int .i64, .sl 9, .str, .int .i64, .int .i64, .sl 9, .int .i64, .sl 3, .int .i64, .sl 3], .agg [.int .i64, .str, .int .i64, .int .i64, .sl 9, .str, .int .i64, .int .i64, .sl 9, .int .i64, .sl 3, .int .i64, .sl 3]]
def res : RP := .one (.rd (.bool))
def md (a0 : MGap) (a1 : MGap) : Bool := eqB a0 a1
def gd (a0 : MGap) (a1 : MGap) : Prop := True
def acc (ls : List L) : RGap × RGap := ((RGap.dec ls), (RGap.dec (dropT 13 ls)))
def R : (RGap × RGap) → Option Bool := RR (p2 gd) (u2 md)
theorem R_eq {a0} {a1} (h : gd a0 a1) : R ((MGap.r a0), (MGap.r a1)) = some (md a0 a1) := RR_eq (a := (a0, a1)) h
def con : Con := CN pats res acc R
theorem okF (a0 : MGap) (a1 : MGap) (hg : gd a0 a1) : F (MGap.r a0) (MGap.r a1) = ret ((md a0 a1) : Bool) := by
 unfold md
 show (bif (a0.fAt != a1.fAt) then ret (false : Bool) else (call (Z193.R ((MEntry.r a0.fBefore), (MEntry.r a1.fBefore))) fun v1 => (bif (!v1) then ret (false : Bool) else (call (Z193.R ((MEntry.r a0.fAfter), (MEntry.r a1.fAfter))) fun v2 => (bif (!v2) then ret (false : Bool) else (call (Z194.R ((MProof.r a0.fLeft), (MProof.r a1.fLeft))) fun v3 => (bif (!v3) then ret (false : Bool) else (call (Z194.R ((MProof.r a0.fRight), (MProof.r a1.fRight))) fun v4 => (bif (!v4) then ret (false : Bool) else ret (true : Bool)))))))))) = _
 simp only [call_eq (Z193.R_eq (a0 := a0.fBefore) (a1 := a1.fBefore) trivial), Z193.md]
 simp only [call_eq (Z193.R_eq (a0 := a0.fAfter) (a1 := a1.fAfter) trivial), Z193.md]
 simp only [call_eq (Z194.R_eq (a0 := a0.fLeft) (a1 := a1.fLeft) trivial), Z194.md]
 simp only [call_eq (Z194.R_eq (a0 := a0.fRight) (a1 := a1.fRight) trivial), Z194.md]
 try simp only [bne, int_beq, bool_beq, ba_beq]
 have e : eqB a0 a1 = (eqB a0.fAt a1.fAt && (eqB a0.fBefore a1.fBefore && (eqB a0.fAfter a1.fAfter && (eqB a0.fLeft a1.fLeft && (eqB a0.fRight a1.fRight && true))))) := by
  cases a0; cases a1
  rw [Bool.eq_iff_iff]
  simp only [eqB_iff, Bool.and_eq_true, MGap.mk.injEq, and_true]
 rw [e]
 refine and_step fun _ => ?_
 refine and_step fun _ => ?_
 refine and_step fun _ => ?_
 refine and_step fun _ => ?_
 refine and_step fun _ => ?_
 rfl
theorem valid_ : Valid Tryz.prog Ev 114 con := VV (live := fun _ => []) (nt := 34) (run := fun _ x => F x.1 x.2) mix tab_ok (.cons Z193.valid_ (.cons Z194.valid_ .nil)) Tryz.func114 (by kernel_rfl) (fun _ _ => by kernel_rfl) (fun _ a _ _ hg => ⟨0, okF a.1 a.2 hg⟩)
end Z195
namespace Z196
def F (x0 : RAnswer) (x1 : RAnswer) : Ans := (call (Z191.R (x0.fChain, x1.fChain)) fun v1 => (bif (!v1) then ret (false : Bool) else (bif (!(x0.fFound == x1.fFound)) then ret (false : Bool) else (call (Z193.R (x0.fEntry, x1.fEntry)) fun v2 => (bif (!v2) then ret (false : Bool) else (call (Z194.R (x0.fProof, x1.fProof)) fun v3 => (bif (!v3) then ret (false : Bool) else (call (Z195.R (x0.fGap, x1.fGap)) fun v4 => (bif (!v4) then ret (false : Bool) else ret (true : Bool))))))))))
def pats : List Pat := [.agg [.sl 122, .bool, .str, .int .i64, .int .i64, .sl 9, .int .i64, .sl 3, .int .i64, .str, .int .i64, .int .i64, .sl 9, .str, .int .i64, .int .i64, .sl 9, .int .i64, .sl 3, .int .i64, .sl 3], .agg [.sl 122, .bool, .str, .int .i64, .int .i64, .sl 9, .int .i64, .sl 3, .int .i64, .str, .int .i64, .int .i64, .sl 9, .str, .int .i64, .int .i64, .sl 9, .int .i64, .sl 3, .int .i64, .sl 3]]
def res : RP := .one (.rd (.bool))
def md (a0 : MAnswer) (a1 : MAnswer) : Bool := eqB a0 a1
def gd (a0 : MAnswer) (a1 : MAnswer) : Prop := True
def acc (ls : List L) : RAnswer × RAnswer := ((RAnswer.dec ls), (RAnswer.dec (dropT 21 ls)))
def R : (RAnswer × RAnswer) → Option Bool := RR (p2 gd) (u2 md)
theorem R_eq {a0} {a1} (h : gd a0 a1) : R ((MAnswer.r a0), (MAnswer.r a1)) = some (md a0 a1) := RR_eq (a := (a0, a1)) h
def con : Con := CN pats res acc R
theorem okF (a0 : MAnswer) (a1 : MAnswer) (hg : gd a0 a1) : F (MAnswer.r a0) (MAnswer.r a1) = ret ((md a0 a1) : Bool) := by
 unfold md
 show (call (Z191.R ((a0.fChain.map MSigned.row), (a1.fChain.map MSigned.row))) fun v1 => (bif (!v1) then ret (false : Bool) else (bif (!(a0.fFound == a1.fFound)) then ret (false : Bool) else (call (Z193.R ((MEntry.r a0.fEntry), (MEntry.r a1.fEntry))) fun v2 => (bif (!v2) then ret (false : Bool) else (call (Z194.R ((MProof.r a0.fProof), (MProof.r a1.fProof))) fun v3 => (bif (!v3) then ret (false : Bool) else (call (Z195.R ((MGap.r a0.fGap), (MGap.r a1.fGap))) fun v4 => (bif (!v4) then ret (false : Bool) else ret (true : Bool)))))))))) = _
 simp only [call_eq (Z191.R_eq (a0 := a0.fChain) (a1 := a1.fChain) trivial), Z191.md]
 simp only [call_eq (Z193.R_eq (a0 := a0.fEntry) (a1 := a1.fEntry) trivial), Z193.md]
 simp only [call_eq (Z194.R_eq (a0 := a0.fProof) (a1 := a1.fProof) trivial), Z194.md]
 simp only [call_eq (Z195.R_eq (a0 := a0.fGap) (a1 := a1.fGap) trivial), Z195.md]
 try simp only [bne, int_beq, bool_beq, ba_beq]
 have e : eqB a0 a1 = (eqB a0.fChain a1.fChain && (eqB a0.fFound a1.fFound && (eqB a0.fEntry a1.fEntry && (eqB a0.fProof a1.fProof && (eqB a0.fGap a1.fGap && true))))) := by
  cases a0; cases a1
  rw [Bool.eq_iff_iff]
  simp only [eqB_iff, Bool.and_eq_true, MAnswer.mk.injEq, and_true]
 rw [e]
 refine and_step fun _ => ?_
 refine and_step fun _ => ?_
 refine and_step fun _ => ?_
 refine and_step fun _ => ?_
 refine and_step fun _ => ?_
 rfl
theorem valid_ : Valid Tryz.prog Ev 42 con := VV (live := fun _ => []) (nt := 34) (run := fun _ x => F x.1 x.2) mix tab_ok (.cons Z191.valid_ (.cons Z193.valid_ (.cons Z194.valid_ (.cons Z195.valid_ .nil)))) Tryz.func42 (by kernel_rfl) (fun _ _ => by kernel_rfl) (fun _ a _ _ hg => ⟨0, okF a.1 a.2 hg⟩)
end Z196
namespace Z197
def F (x0 : RStored) (x1 : RStored) : Ans := (bif (x0.fZone != x1.fZone) then ret (false : Bool) else (bif (!(x0.fLabel == x1.fLabel)) then ret (false : Bool) else (call (Z196.R (x0.fAnswer, x1.fAnswer)) fun v1 => (bif (!v1) then ret (false : Bool) else ret (true : Bool)))))
def pats : List Pat := [.agg [.int .i64, .str, .sl 122, .bool, .str, .int .i64, .int .i64, .sl 9, .int .i64, .sl 3, .int .i64, .str, .int .i64, .int .i64, .sl 9, .str, .int .i64, .int .i64, .sl 9, .int .i64, .sl 3, .int .i64, .sl 3], .agg [.int .i64, .str, .sl 122, .bool, .str, .int .i64, .int .i64, .sl 9, .int .i64, .sl 3, .int .i64, .str, .int .i64, .int .i64, .sl 9, .str, .int .i64, .int .i64, .sl 9, .int .i64, .sl 3, .int .i64, .sl 3]]
def res : RP := .one (.rd (.bool))
def md (a0 : MStored) (a1 : MStored) : Bool := eqB a0 a1
def gd (a0 : MStored) (a1 : MStored) : Prop := True
def acc (ls : List L) : RStored × RStored := ((RStored.dec ls), (RStored.dec (dropT 23 ls)))
def R : (RStored × RStored) → Option Bool := RR (p2 gd) (u2 md)
theorem R_eq {a0} {a1} (h : gd a0 a1) : R ((MStored.r a0), (MStored.r a1)) = some (md a0 a1) := RR_eq (a := (a0, a1)) h
def con : Con := CN pats res acc R
theorem okF (a0 : MStored) (a1 : MStored) (hg : gd a0 a1) : F (MStored.r a0) (MStored.r a1) = ret ((md a0 a1) : Bool) := by
 unfold md
 show (bif (a0.fZone != a1.fZone) then ret (false : Bool) else (bif (!(a0.fLabel == a1.fLabel)) then ret (false : Bool) else (call (Z196.R ((MAnswer.r a0.fAnswer), (MAnswer.r a1.fAnswer))) fun v1 => (bif (!v1) then ret (false : Bool) else ret (true : Bool))))) = _
 simp only [call_eq (Z196.R_eq (a0 := a0.fAnswer) (a1 := a1.fAnswer) trivial), Z196.md]
 try simp only [bne, int_beq, bool_beq, ba_beq]
 have e : eqB a0 a1 = (eqB a0.fZone a1.fZone && (eqB a0.fLabel a1.fLabel && (eqB a0.fAnswer a1.fAnswer && true))) := by
  cases a0; cases a1
  rw [Bool.eq_iff_iff]
  simp only [eqB_iff, Bool.and_eq_true, MStored.mk.injEq, and_true]
 rw [e]
 refine and_step fun _ => ?_
 refine and_step fun _ => ?_
 refine and_step fun _ => ?_
 rfl
theorem valid_ : Valid Tryz.prog Ev 162 con := VV (live := fun _ => []) (nt := 21) (run := fun _ x => F x.1 x.2) mix tab_ok (.cons Z196.valid_ .nil) Tryz.func162 (by kernel_rfl) (fun _ _ => by kernel_rfl) (fun _ a _ _ hg => ⟨0, okF a.1 a.2 hg⟩)
end Z197
namespace Z198
inductive Pt where
 | p0 (a : List (List L)) (b : List (List L)) (c : Int)
def pid : Pt → Nat
 | .p0 .. => 4
def pvs : Pt → List V
 | .p0 a b c => [.sl none 148 a, .sl none 148 b, .int .i64 c]
def phs : Pt → List Root
 | .p0 a b c => []
def step (J : Pt → Ans) : Pt → Ans
 | .p0 a b c => (bif (decide (c < (a.length : Int))) then (bif (decide ((0 : Int) ≤ c)) then (bif (decide (c < (a.length : Int))) then (bif (decide ((0 : Int) ≤ c)) then (bif (decide (c < (b.length : Int))) then (call (Z197.R ((RStored.at a (Int.toNat c)), (RStored.at b (Int.toNat c)))) fun v1 => (bif (!v1) then ret (false : Bool) else J (.p0 a b (IntKind.i64.wrap (c + 1))))) else none) else none) else none) else none) else ret (true : Bool))
def start (J : Pt → Ans) (x0 : List (List L)) (x1 : List (List L)) : Ans := (bif ((x0.length : Int) != (x1.length : Int)) then ret (false : Bool) else J (.p0 x0 x1 0))
def live : Nat → Live := fun i => match i with | 4 => [(0, none), (1, none), (5, none)] | _ => []
def pats : List Pat := [.rd (.sl 148), .rd (.sl 148)]
def res : RP := .one (.rd (.bool))
abbrev E : Env := { T := assoc Tab, G := conG [(162, Z197.con)], nt := 27 }
theorem step_eq (I : Heads) (p : Pt) : enterC E live I (pid p) (bodyOf Tryz.f99) (stOf (live (pid p)) (pvs p) (phs p)) (doneK E Tryz.f99 res) = step (fun q => I (pid q) (pvs q) (phs q)) p := by
 cases p <;> kernel_rfl
theorem start_eq (I : Heads) (ls : List L) : runC E live I (bodyOf Tryz.f99) (initS pats ls) (doneK E Tryz.f99 res) = start (fun q => I (pid q) (pvs q) (phs q)) (ls.headD .hole).toSl ((dropT 1 ls).headD .hole).toSl := by kernel_rfl
theorem run_eq (n : Nat) (ls : List L) : runF E live Tryz.f99 res n (initS pats ls) = start (iter step n) (ls.headD .hole).toSl ((dropT 1 ls).headD .hole).toSl := runF_iter (id := pid) (vs := pvs) (hs := phs) (step := step) (start := fun J => start J (ls.headD .hole).toSl ((dropT 1 ls).headD .hole).toSl) step_eq (fun I => start_eq I ls) n
def md (a0 : List MStored) (a1 : List MStored) : Bool := eqB a0 a1
def gd (a0 : List MStored) (a1 : List MStored) : Prop := True
def acc (ls : List L) : List (List L) × List (List L) := ((ls.headD .hole).toSl, ((dropT 1 ls).headD .hole).toSl)
def R : (List (List L) × List (List L)) → Option Bool := RR (p2 gd) (u2 md)
theorem R_eq {a0} {a1} (h : gd a0 a1) : R ((a0.map MStored.row), (a1.map MStored.row)) = some (md a0 a1) := RR_eq (a := (a0, a1)) h
def con : Con := CN pats res acc R
theorem okF (a0 : List MStored) (a1 : List MStored) (hg : gd a0 a1) (h0 : a0.length ≤ maxLen) (h1 : a1.length ≤ maxLen) : ∃ n, start (iter step n) (a0.map MStored.row) (a1.map MStored.row) = ret ((md a0 a1) : Bool) := by
  unfold start md
  simp only [List.length_map]
  refine eq_list (pt := fun i => Pt.p0 (a0.map MStored.row) (a1.map MStored.row) (i : Int)) (fun hl J i h h2 => ?_) (fun J => ?_)
  · simp only [step, List.length_map, lt_dec h, lt_dec h2, zle_dec, cond_true, toNat_nat, MStored.at_row h, MStored.at_row h2]
    rw [wrap_succ h h0]
    rw [call_eq (Z197.R_eq (a0 := a0[i]) (a1 := a1[i]) trivial), Z197.md]
    cases eqB a0[i] a1[i] <;> rfl
  · simp only [step, List.length_map, nlt_dec, cond_false]
theorem valid_ : Valid Tryz.prog Ev 99 con := VV (run := fun n x => start (iter step n) x.1 x.2) mix tab_ok (.cons Z197.valid_ .nil) Tryz.func99 (by kernel_rfl) run_eq (fun ls a hl e hg => okF a.1 a.2 hg (by have h : (ls.headD .hole).toSl.length ≤ maxLen := hl.1.len; have e : a.1.map MStored.row = (ls.headD .hole).toSl := (congrArg (fun x => x.1) e.symm); rw [← e] at h; simpa using h) (by have h : ((dropT 1 ls).headD .hole).toSl.length ≤ maxLen := hl.2.1.len; have e : a.2.map MStored.row = ((dropT 1 ls).headD .hole).toSl := (congrArg (fun x => x.2) e.symm); rw [← e] at h; simpa using h))
end Z198
namespace Z199
def F (x0 : RCache) (x1 : RCache) : Ans := (call (Z198.R (x0.fList, x1.fList)) fun v1 => (bif (!v1) then ret (false : Bool) else ret (true : Bool)))
def pats : List Pat := [.agg [.sl 148], .agg [.sl 148]]
def res : RP := .one (.rd (.bool))
def md (a0 : MCache) (a1 : MCache) : Bool := eqB a0 a1
def gd (a0 : MCache) (a1 : MCache) : Prop := True
def acc (ls : List L) : RCache × RCache := ((RCache.dec ls), (RCache.dec (dropT 1 ls)))
def R : (RCache × RCache) → Option Bool := RR (p2 gd) (u2 md)
theorem R_eq {a0} {a1} (h : gd a0 a1) : R ((MCache.r a0), (MCache.r a1)) = some (md a0 a1) := RR_eq (a := (a0, a1)) h
def con : Con := CN pats res acc R
theorem okF (a0 : MCache) (a1 : MCache) (hg : gd a0 a1) : F (MCache.r a0) (MCache.r a1) = ret ((md a0 a1) : Bool) := by
 unfold md
 show (call (Z198.R ((a0.fList.map MStored.row), (a1.fList.map MStored.row))) fun v1 => (bif (!v1) then ret (false : Bool) else ret (true : Bool))) = _
 simp only [call_eq (Z198.R_eq (a0 := a0.fList) (a1 := a1.fList) trivial), Z198.md]
 try simp only [bne, int_beq, bool_beq, ba_beq]
 have e : eqB a0 a1 = (eqB a0.fList a1.fList && true) := by
  cases a0; cases a1
  rw [Bool.eq_iff_iff]
  simp only [eqB_iff, Bool.and_eq_true, MCache.mk.injEq, and_true]
 rw [e]
 refine and_step fun _ => ?_
 rfl
theorem valid_ : Valid Tryz.prog Ev 35 con := VV (live := fun _ => []) (nt := 11) (run := fun _ x => F x.1 x.2) mix tab_ok (.cons Z198.valid_ .nil) Tryz.func35 (by kernel_rfl) (fun _ _ => by kernel_rfl) (fun _ a _ _ hg => ⟨0, okF a.1 a.2 hg⟩)
end Z199
namespace Z200
inductive Pt where
 | p0 (a : Int) (b : ByteArray)
def pid : Pt → Nat
 | .p0 .. => 4
def pvs : Pt → List V
 | .p0 a b => [.int .i64 a, .str b]
def phs : Pt → List Root
 | .p0 a b => []
def step (J : Pt → Ans) : Pt → Ans
 | .p0 a b => (bif (decide (a > 0)) then (bif (decide ((((strL [[L.int (IntKind.u8.wrap (IntKind.i64.wrap (48 + (Int.tmod a 10))))]]).size + b.size : Nat) : Int) > 9223372036854775807)) then none else J (.p0 (IntKind.i64.wrap (Int.tdiv a 10)) ((strL [[L.int (IntKind.u8.wrap (IntKind.i64.wrap (48 + (Int.tmod a 10))))]]) ++ b))) else (bif (decide ((((⟨#[109]⟩ : ByteArray).size + b.size : Nat) : Int) > 9223372036854775807)) then none else ret (((⟨#[109]⟩ : ByteArray) ++ b) : ByteArray)))
def start (J : Pt → Ans) (x0 : Int) : Ans := (bif (decide (x0 ≤ 0)) then ret ((⟨#[109, 48]⟩ : ByteArray) : ByteArray) else J (.p0 x0 ⟨#[]⟩))
def live : Nat → Live := fun i => match i with | 4 => [(0, none), (3, none)] | _ => []
def pats : List Pat := [.rd (.int .i64)]
def res : RP := .one (.rd (.str))
abbrev E : Env := { T := assoc Tab, G := conG [], nt := 20 }
theorem step_eq (I : Heads) (p : Pt) : enterC E live I (pid p) (bodyOf Tryz.f60) (stOf (live (pid p)) (pvs p) (phs p)) (doneK E Tryz.f60 res) = step (fun q => I (pid q) (pvs q) (phs q)) p := by
 cases p <;> kernel_rfl
theorem start_eq (I : Heads) (ls : List L) : runC E live I (bodyOf Tryz.f60) (initS pats ls) (doneK E Tryz.f60 res) = start (fun q => I (pid q) (pvs q) (phs q)) (ls.headD .hole).toInt := by kernel_rfl
theorem run_eq (n : Nat) (ls : List L) : runF E live Tryz.f60 res n (initS pats ls) = start (iter step n) (ls.headD .hole).toInt := runF_iter (id := pid) (vs := pvs) (hs := phs) (step := step) (start := fun J => start J (ls.headD .hole).toInt) step_eq (fun I => start_eq I ls) n
def dg (a : Int) : ByteArray := strL [[L.int (IntKind.u8.wrap (IntKind.i64.wrap (48 + (Int.tmod a 10))))]]
def txt : Nat → Int → ByteArray → ByteArray
 | 0, _, b => b
 | n + 1, a, b => bif decide (a > 0) then txt n (IntKind.i64.wrap (Int.tdiv a 10)) (dg a ++ b) else b
theorem dg_size (a : Int) : (strL [[L.int (IntKind.u8.wrap (IntKind.i64.wrap (48 + (Int.tmod a 10))))]]).size = 1 := rfl
theorem run : ∀ (n : Nat) (a : Int) (b : ByteArray), n ≤ 64 → a < 2 ^ n → I64 a → b.size + n ≤ 1000 → ∃ m, iter step m (.p0 a b) = ret ((⟨#[109]⟩ : ByteArray) ++ txt n a b)
  | 0, a, b, _, h1, _, h3 => by
    refine ⟨1, ?_⟩
    show step _ (.p0 a b) = _
    have e1 : decide (a > 0) = false := decide_eq_false (by simp at h1; omega)
    have e2 : decide ((((⟨#[109]⟩ : ByteArray).size + b.size : Nat) : Int) > 9223372036854775807) = false := decide_eq_false (by have : (⟨#[109]⟩ : ByteArray).size = 1 := rfl; omega)
    simp only [step, e1, e2, cond_false]
    rfl
  | n + 1, a, b, hn, h1, h2, h3 => by
    by_cases hp : a > 0
    · have e1 : decide (a > 0) = true := decide_eq_true hp
      have hq : Int.tdiv a 10 = a / 10 := Int.tdiv_eq_ediv_of_nonneg (by omega)
      unfold I64 at h2
      have hw : IntKind.i64.wrap (Int.tdiv a 10) = a / 10 := by rw [hq]; exact wi _ (by omega)
      have hlt : a / 10 < 2 ^ n := by
        have : (2 : Int) ^ (n + 1) = 2 ^ n * 2 := Int.pow_succ 2 n
        omega
      have hs : (dg a ++ b).size = 1 + b.size := by rw [ByteArray.size_append]; rfl
      obtain ⟨m, hm⟩ := run n (a / 10) (dg a ++ b) (by omega) hlt ⟨by omega, by omega⟩ (by rw [hs]; omega)
      refine ⟨m + 1, ?_⟩
      show step _ (.p0 a b) = _
      have e2 : decide ((((strL [[L.int (IntKind.u8.wrap (IntKind.i64.wrap (48 + (Int.tmod a 10))))]]).size + b.size : Nat) : Int) > 9223372036854775807) = false := decide_eq_false (by rw [dg_size]; omega)
      simp only [step, txt, e1, e2, cond_true, cond_false, hw]
      exact hm
    · refine ⟨1, ?_⟩
      show step _ (.p0 a b) = _
      have e1 : decide (a > 0) = false := decide_eq_false hp
      have e2 : decide ((((⟨#[109]⟩ : ByteArray).size + b.size : Nat) : Int) > 9223372036854775807) = false := decide_eq_false (by have : (⟨#[109]⟩ : ByteArray).size = 1 := rfl; omega)
      simp only [step, txt, e1, e2, cond_false]
def md (a0 : Int) : ByteArray := (bif decide (a0 ≤ 0) then (⟨#[109, 48]⟩ : ByteArray) else (⟨#[109]⟩ : ByteArray) ++ txt 64 a0 ⟨#[]⟩)
def gd (a0 : Int) : Prop := I64 a0
def acc (ls : List L) : Int := (ls.headD .hole).toInt
def R : Int → Option ByteArray := RR gd md
theorem R_eq {a0} (h : gd a0) : R a0 = some (md a0) := RR_eq (a := a0) h
def con : Con := CN pats res acc R
theorem okF (a0 : Int) (hg : gd a0) : ∃ n, start (iter step n) a0 = ret ((md a0) : ByteArray) := by
  unfold gd at hg
  unfold start md
  cases h : decide (a0 ≤ 0)
  · have h2 := hg.2
    have h3 : (2 : Int) ^ 64 = 18446744073709551616 := by decide
    obtain ⟨m, hm⟩ := run 64 a0 ⟨#[]⟩ (Nat.le_refl _) (by rw [h3]; omega) hg (by show 0 + 64 ≤ 1000; omega)
    exact ⟨m, hm⟩
  · exact ⟨0, rfl⟩
theorem valid_ : Valid Tryz.prog Ev 60 con := VV (run := fun n x => start (iter step n) x) mix tab_ok .nil Tryz.func60 (by kernel_rfl) run_eq (fun _ a _ _ hg => okF a hg)
end Z200
namespace Z201
set_option maxHeartbeats 8000000
inductive Pt where
 | p0 (a : Int) (b : Int) (c : List (List L))
def pid : Pt → Nat
 | .p0 .. => 2
def pvs : Pt → List V
 | .p0 a b c => [.own 0, .int .i64 a, .int .i64 b]
def phs : Pt → List Root
 | .p0 a b c => [.row 3 c]
def step (J : Pt → Ans) : Pt → Ans
 | .p0 a b c => (bif (decide (b < (c.length : Int))) then (bif (decide ((0 : Int) ≤ b)) then (bif (decide (b < (c.length : Int))) then J (.p0 (IntKind.i64.wrap (a + 1)) (IntKind.i64.wrap (b + 1)) (List.set c (Int.toNat b) [L.int a])) else none) else none) else ret ((a, c) : Int × List (List L)))
def start (J : Pt → Ans) (x0 : List (List L)) (x1 : Int) : Ans := J (.p0 x1 0 x0)
def live : Nat → Live := fun i => match i with | 2 => [(0, none), (1, none), (5, none)] | _ => []
def pats : List (Bool × List K) := [(false, [.sl 3]), (false, [.int .i64])]
def res : RP := .chg [3]
abbrev E : Env := { T := assoc Tab, G := conG [], nt := 19, M := conM [], np := 1, mt := true }
theorem step_eq (I : Heads) (p : Pt) : enterC E live I (pid p) (bodyOf Tryz.f68) (stOf (live (pid p)) (pvs p) (phs p)) (doneK E Tryz.f68 res) = step (fun q => I (pid q) (pvs q) (phs q)) p := by
 cases p <;> kernel_rfl
theorem start_eq (I : Heads) (ls : List L) : runC E live I (bodyOf Tryz.f68) (initM pats ls) (doneK E Tryz.f68 res) = start (fun q => I (pid q) (pvs q) (phs q)) (ls.headD .hole).toSl ((dropT 1 ls).headD .hole).toInt := by kernel_rfl
theorem run_eq (n : Nat) (ls : List L) : runF E live Tryz.f68 res n (initM pats ls) = start (iter step n) (ls.headD .hole).toSl ((dropT 1 ls).headD .hole).toInt := runF_iter (id := pid) (vs := pvs) (hs := phs) (step := step) (start := fun J => start J (ls.headD .hole).toSl ((dropT 1 ls).headD .hole).toInt) step_eq (fun I => start_eq I ls) n
def el (x : Int) (k : Int) : Int × Int := ((IntKind.i64.wrap (k + 1)), (k))
theorem el_I (x : Int) (k : Int) (hk : I64 k) : I64 (el x k).1 := (wrap_I64 _)
def cnt (x : Int) : Nat := 1
def sum (a : List Int) : Nat := (a.map cnt).sum
def md (a0 : List Int) (a1 : Int) : Int × List Int := accM el a0 a1
def gd (a0 : List Int) (a1 : Int) : Prop := I64 a1
def acc (ls : List L) : List (List L) × Int := ((ls.headD .hole).toSl, ((dropT 1 ls).headD .hole).toInt)
def R : (List (List L) × Int) → Option (Int × List (List L)) := RR (p2 gd) (u2 md)
theorem R_eq {a0} {a1} (h : gd a0 a1) : R ((a0.map iRow), a1) = some ((md a0 a1).1, ((md a0 a1).2.map iRow)) := RR_eq (a := (a0, a1)) h
def con : MCon := MN pats acc R
theorem okF (a0 : List Int) (a1 : Int) (hg : gd a0 a1) (h0 : a0.length ≤ maxLen) : ∃ n, start (iter step n) (a0.map iRow) a1 = ret (((md a0 a1).1, ((md a0 a1).2.map iRow)) : Int × List (List L)) := by
  unfold gd at hg
  show ∃ n, iter step n (Pt.p0 a1 0 (a0.map iRow)) = _
  unfold md
  refine mark_loop (el := el) (xs := a0) 0 I64 el_I (pt := fun i k c => Pt.p0 k (i : Int) (c.map iRow)) (out := fun b => ret (b.1, b.2.map iRow)) (fun J i k c hi hc hk => ?_) (fun J k c hc => ?_) hg
  · have hm : c.length ≤ maxLen := hc ▸ h0
    simp only [step, S0]
    refine yes_ret (lt_dec hi) ?_
    refine yes_ret zle_dec ?_
    refine yes_ret (lt_dec hi) ?_
    rw [wrap_succ hi hm]
    exact congrArg (fun q => J (Pt.p0 (el (c.getD i 0) k).1 ((i + 1 : Nat) : Int) q)) (List.map_set (f := iRow) (l := c) (i := i) (a := (el (c.getD i 0) k).2)).symm
  · simp only [step, S0]
    refine no_ret (by apply decide_eq_false; omega) ?_
    rfl
theorem valid_ : MValid Tryz.prog Ev 68 con := MV (run := fun n x => start (iter step n) x.1 x.2) mix tab_ok .nil .nil Tryz.func68 (by kernel_rfl) run_eq (fun ls a hl e hg => okF a.1 a.2 hg (by have h : (ls.headD .hole).toSl.length ≤ maxLen := (hl _ _ (.head _)).len; have e : a.1.map iRow = (ls.headD .hole).toSl := (congrArg (fun x => x.1) e.symm); rw [← e] at h; simpa using h))
theorem i64 {a0 : List Int} {a1 : Int} (h : I64 a1) : I64 (md a0 a1).1 := accM_I el_I h
theorem elk (x : Int) (k : Int) (h0 : 0 ≤ k) (hb : k + (cnt x : Int) ≤ 4611686018427387904) : (el x k).1 = k + cnt x := by
 simp only [cnt, Int.natCast_add] at hb ⊢
 simp (disch := omega) only [el, wi]
 all_goals first | done | omega
theorem kk (a0 : List Int) (a1 : Int) (h0 : 0 ≤ a1) (hb : a1 + (sum a0 : Int) ≤ 4611686018427387904) : (md a0 a1).1 = a1 + sum a0 := accM_sum elk a0 a1 h0 hb
theorem sz (a : List Int) : sum a ≤ 60 * (szL (fun y : Int => 0) a) := sum_le (fun x => by
  try simp only [cnt] at *
  omega) a
end Z201
namespace Z202
set_option maxHeartbeats 8000000
inductive Pt where
 | p0 (a : Int) (b : Int) (c : List (List L))
def pid : Pt → Nat
 | .p0 .. => 2
def pvs : Pt → List V
 | .p0 a b c => [.own 0, .int .i64 a, .int .i64 b]
def phs : Pt → List Root
 | .p0 a b c => [.row 184 c]
def step (J : Pt → Ans) : Pt → Ans
 | .p0 a b c => (bif (decide (b < (c.length : Int))) then (bif (decide ((0 : Int) ≤ b)) then (bif (decide (b < (c.length : Int))) then (bif (decide ((0 : Int) ≤ b)) then (bif (decide (b < (c.length : Int))) then (bif (Nat.beq (Int.toNat b) (Int.toNat b) && true) then J (.p0 (IntKind.i64.wrap ((IntKind.i64.wrap (a + 1)) + 1)) (IntKind.i64.wrap (b + 1)) (List.set c (Int.toNat b) (MSig.enc (⟨a, (IntKind.i64.wrap (a + 1))⟩ : MSig)))) else none) else none) else none) else none) else none) else ret ((a, c) : Int × List (List L)))
def start (J : Pt → Ans) (x0 : List (List L)) (x1 : Int) : Ans := J (.p0 x1 0 x0)
def live : Nat → Live := fun i => match i with | 2 => [(0, none), (1, none), (5, none)] | _ => []
def pats : List (Bool × List K) := [(false, [.sl 184]), (false, [.int .i64])]
def res : RP := .chg [184]
abbrev E : Env := { T := assoc Tab, G := conG [], nt := 27, M := conM [], np := 1, mt := true }
theorem step_eq (I : Heads) (p : Pt) : enterC E live I (pid p) (bodyOf Tryz.f69) (stOf (live (pid p)) (pvs p) (phs p)) (doneK E Tryz.f69 res) = step (fun q => I (pid q) (pvs q) (phs q)) p := by
 cases p <;> kernel_rfl
theorem start_eq (I : Heads) (ls : List L) : runC E live I (bodyOf Tryz.f69) (initM pats ls) (doneK E Tryz.f69 res) = start (fun q => I (pid q) (pvs q) (phs q)) (ls.headD .hole).toSl ((dropT 1 ls).headD .hole).toInt := by kernel_rfl
theorem run_eq (n : Nat) (ls : List L) : runF E live Tryz.f69 res n (initM pats ls) = start (iter step n) (ls.headD .hole).toSl ((dropT 1 ls).headD .hole).toInt := runF_iter (id := pid) (vs := pvs) (hs := phs) (step := step) (start := fun J => start J (ls.headD .hole).toSl ((dropT 1 ls).headD .hole).toInt) step_eq (fun I => start_eq I ls) n
def el (x : MSig) (k : Int) : Int × MSig := ((IntKind.i64.wrap ((IntKind.i64.wrap (k + 1)) + 1)), (⟨k, (IntKind.i64.wrap (k + 1))⟩ : MSig))
theorem el_I (x : MSig) (k : Int) (hk : I64 k) : I64 (el x k).1 := (wrap_I64 _)
def cnt (x : MSig) : Nat := 2
def sum (a : List MSig) : Nat := (a.map cnt).sum
def md (a0 : List MSig) (a1 : Int) : Int × List MSig := accM el a0 a1
def gd (a0 : List MSig) (a1 : Int) : Prop := I64 a1
def acc (ls : List L) : List (List L) × Int := ((ls.headD .hole).toSl, ((dropT 1 ls).headD .hole).toInt)
def R : (List (List L) × Int) → Option (Int × List (List L)) := RR (p2 gd) (u2 md)
theorem R_eq {a0} {a1} (h : gd a0 a1) : R ((a0.map MSig.row), a1) = some ((md a0 a1).1, ((md a0 a1).2.map MSig.row)) := RR_eq (a := (a0, a1)) h
def con : MCon := MN pats acc R
theorem okF (a0 : List MSig) (a1 : Int) (hg : gd a0 a1) (h0 : a0.length ≤ maxLen) : ∃ n, start (iter step n) (a0.map MSig.row) a1 = ret (((md a0 a1).1, ((md a0 a1).2.map MSig.row)) : Int × List (List L)) := by
  unfold gd at hg
  show ∃ n, iter step n (Pt.p0 a1 0 (a0.map MSig.row)) = _
  unfold md
  refine mark_loop (el := el) (xs := a0) MSig.zero I64 el_I (pt := fun i k c => Pt.p0 k (i : Int) (c.map MSig.row)) (out := fun b => ret (b.1, b.2.map MSig.row)) (fun J i k c hi hc hk => ?_) (fun J k c hc => ?_) hg
  · have hm : c.length ≤ maxLen := hc ▸ h0
    simp only [step, S0]
    refine yes_ret (lt_dec hi) ?_
    refine yes_ret zle_dec ?_
    refine yes_ret (lt_dec hi) ?_
    refine yes_ret zle_dec ?_
    refine yes_ret (lt_dec hi) ?_
    refine yes_ret (beq_t _) ?_
    rw [wrap_succ hi hm]
    exact congrArg (fun q => J (Pt.p0 (el (c.getD i MSig.zero) k).1 ((i + 1 : Nat) : Int) q)) (List.map_set (f := MSig.row) (l := c) (i := i) (a := (el (c.getD i MSig.zero) k).2)).symm
  · simp only [step, S0]
    refine no_ret (by apply decide_eq_false; omega) ?_
    rfl
theorem valid_ : MValid Tryz.prog Ev 69 con := MV (run := fun n x => start (iter step n) x.1 x.2) mix tab_ok .nil .nil Tryz.func69 (by kernel_rfl) run_eq (fun ls a hl e hg => okF a.1 a.2 hg (by have h : (ls.headD .hole).toSl.length ≤ maxLen := (hl _ _ (.head _)).len; have e : a.1.map MSig.row = (ls.headD .hole).toSl := (congrArg (fun x => x.1) e.symm); rw [← e] at h; simpa using h))
theorem i64 {a0 : List MSig} {a1 : Int} (h : I64 a1) : I64 (md a0 a1).1 := accM_I el_I h
theorem elk (x : MSig) (k : Int) (h0 : 0 ≤ k) (hb : k + (cnt x : Int) ≤ 4611686018427387904) : (el x k).1 = k + cnt x := by
 simp only [cnt, Int.natCast_add] at hb ⊢
 simp (disch := omega) only [el, wi]
 all_goals first | done | omega
theorem kk (a0 : List MSig) (a1 : Int) (h0 : 0 ≤ a1) (hb : a1 + (sum a0 : Int) ≤ 4611686018427387904) : (md a0 a1).1 = a1 + sum a0 := accM_sum elk a0 a1 h0 hb
theorem sz (a : List MSig) : sum a ≤ 60 * (szL (fun y : MSig => MSig.size y) a) := sum_le (fun x => by
  try simp only [cnt, MSig.size] at *
  omega) a
end Z202
namespace Z203
set_option maxHeartbeats 8000000
inductive Pt where
 | p0 (a : Int) (b : Int) (c : List (List L))
def pid : Pt → Nat
 | .p0 .. => 2
def pvs : Pt → List V
 | .p0 a b c => [.own 0, .int .i64 a, .int .i64 b]
def phs : Pt → List Root
 | .p0 a b c => [.row 122 c]
def step (J : Pt → Ans) : Pt → Ans
 | .p0 a b c => (bif (decide (b < (c.length : Int))) then (bif (decide ((0 : Int) ≤ b)) then (bif (decide (b < (c.length : Int))) then (bif (decide ((0 : Int) ≤ b)) then (bif (decide (b < (c.length : Int))) then (bif (Nat.beq (Int.toNat b) (Int.toNat b) && true) then (bif (decide ((0 : Int) ≤ b)) then (bif (decide (b < (c.length : Int))) then (bif (Nat.beq (Int.toNat b) (Int.toNat b) && true) then (bif (decide ((0 : Int) ≤ b)) then (bif (decide (b < (c.length : Int))) then (bif (Nat.beq (Int.toNat b) (Int.toNat b) && true) then (bif (decide ((0 : Int) ≤ b)) then (bif (decide (b < (c.length : Int))) then (bif (Nat.beq (Int.toNat b) (Int.toNat b) && true) then (bif (decide ((0 : Int) ≤ b)) then (bif (decide (b < (c.length : Int))) then (bif (Nat.beq (Int.toNat b) (Int.toNat b) && true) then (bif (decide ((0 : Int) ≤ b)) then (bif (decide (b < (c.length : Int))) then (bif (Nat.beq (Int.toNat b) (Int.toNat b) && true) then (bif (decide ((0 : Int) ≤ b)) then (bif (decide (b < (c.length : Int))) then (bif (Nat.beq (Int.toNat b) (Int.toNat b) && true) then (bif (decide ((0 : Int) ≤ b)) then (bif (decide (b < (c.length : Int))) then (bif (Nat.beq (Int.toNat b) (Int.toNat b) && true) then (bif (Nat.beq (Int.toNat b) (Int.toNat b) && true) then (call (Z201.R ((RSigned.at c (Int.toNat b)).fHead.fKeys.fList, (IntKind.i64.wrap ((IntKind.i64.wrap ((IntKind.i64.wrap ((IntKind.i64.wrap ((IntKind.i64.wrap ((IntKind.i64.wrap ((IntKind.i64.wrap ((IntKind.i64.wrap (a + 1)) + 1)) + 1)) + 1)) + 1)) + 1)) + 1)) + 1)))) fun v1 => (bif (decide ((0 : Int) ≤ b)) then (bif (decide (b < (c.length : Int))) then (bif (Nat.beq (Int.toNat b) (Int.toNat b) && true) then (bif (decide ((0 : Int) ≤ b)) then (bif (decide (b < (c.length : Int))) then (bif (Nat.beq (Int.toNat b) (Int.toNat b) && true) then (bif (Nat.beq (Int.toNat b) (Int.toNat b) && true) then (call (Z201.R ((RSigned.at c (Int.toNat b)).fHead.fHeirs.fList, (IntKind.i64.wrap (v1.1 + 1)))) fun v2 => (bif (decide ((0 : Int) ≤ b)) then (bif (decide (b < (c.length : Int))) then (bif (Nat.beq (Int.toNat b) (Int.toNat b) && true) then (bif (decide ((0 : Int) ≤ b)) then (bif (decide (b < (c.length : Int))) then (bif (Nat.beq (Int.toNat b) (Int.toNat b) && true) then (bif (decide ((0 : Int) ≤ b)) then (bif (decide (b < (c.length : Int))) then (bif (Nat.beq (Int.toNat b) (Int.toNat b) && true) then (bif (Nat.beq (Int.toNat b) (Int.toNat b) && true) then (call (Z201.R ((RSigned.at c (Int.toNat b)).fHead.fJudge.fList, (IntKind.i64.wrap ((IntKind.i64.wrap (v2.1 + 1)) + 1)))) fun v3 => (bif (decide ((0 : Int) ≤ b)) then (bif (decide (b < (c.length : Int))) then (bif (Nat.beq (Int.toNat b) (Int.toNat b) && true) then (bif (decide ((0 : Int) ≤ b)) then (bif (decide (b < (c.length : Int))) then (bif (Nat.beq (Int.toNat b) (Int.toNat b) && true) then (bif (decide ((0 : Int) ≤ b)) then (bif (decide (b < (c.length : Int))) then (bif (Nat.beq (Int.toNat b) (Int.toNat b) && true) then (bif (Nat.beq (Int.toNat b) (Int.toNat b) && true) then (call (Z202.R ((RSigned.at c (Int.toNat b)).fSigs, (IntKind.i64.wrap ((IntKind.i64.wrap (v3.1 + 1)) + 1)))) fun v4 => J (.p0 v4.1 (IntKind.i64.wrap (b + 1)) (List.set c (Int.toNat b) (RSigned.enc (⟨(⟨a, (IntKind.i64.wrap (a + 1)), (IntKind.i64.wrap ((IntKind.i64.wrap (a + 1)) + 1)), (IntKind.i64.wrap ((IntKind.i64.wrap ((IntKind.i64.wrap (a + 1)) + 1)) + 1)), (IntKind.i64.wrap ((IntKind.i64.wrap ((IntKind.i64.wrap ((IntKind.i64.wrap (a + 1)) + 1)) + 1)) + 1)), (IntKind.i64.wrap ((IntKind.i64.wrap ((IntKind.i64.wrap ((IntKind.i64.wrap ((IntKind.i64.wrap (a + 1)) + 1)) + 1)) + 1)) + 1)), (IntKind.i64.wrap ((IntKind.i64.wrap ((IntKind.i64.wrap ((IntKind.i64.wrap ((IntKind.i64.wrap ((IntKind.i64.wrap (a + 1)) + 1)) + 1)) + 1)) + 1)) + 1)), (IntKind.i64.wrap ((IntKind.i64.wrap ((IntKind.i64.wrap ((IntKind.i64.wrap ((IntKind.i64.wrap ((IntKind.i64.wrap ((IntKind.i64.wrap (a + 1)) + 1)) + 1)) + 1)) + 1)) + 1)) + 1)), (⟨v1.2, v1.1⟩ : RKeys), (⟨v2.2, v2.1⟩ : RKeys), (IntKind.i64.wrap (v2.1 + 1)), (⟨v3.2, v3.1⟩ : RKeys), ((Int.tmod (IntKind.i64.wrap (v3.1 + 1)) 3) == 0)⟩ : RHead), v4.2⟩ : RSigned))))) else none) else none) else none) else none) else none) else none) else none) else none) else none) else none)) else none) else none) else none) else none) else none) else none) else none) else none) else none) else none)) else none) else none) else none) else none) else none) else none) else none)) else none) else none) else none) else none) else none) else none) else none) else none) else none) else none) else none) else none) else none) else none) else none) else none) else none) else none) else none) else none) else none) else none) else none) else none) else none) else none) else none) else ret ((a, c) : Int × List (List L)))
def start (J : Pt → Ans) (x0 : List (List L)) (x1 : Int) : Ans := J (.p0 x1 0 x0)
def live : Nat → Live := fun i => match i with | 2 => [(0, none), (1, none), (5, none)] | _ => []
def pats : List (Bool × List K) := [(false, [.sl 122]), (false, [.int .i64])]
def res : RP := .chg [122]
abbrev E : Env := { T := assoc Tab, G := conG [], nt := 156, M := conM [(68, Z201.con), (69, Z202.con)], np := 1, mt := true }
theorem step_eq (I : Heads) (p : Pt) : enterC E live I (pid p) (bodyOf Tryz.f21) (stOf (live (pid p)) (pvs p) (phs p)) (doneK E Tryz.f21 res) = step (fun q => I (pid q) (pvs q) (phs q)) p := by
 cases p <;> kernel_rfl
theorem start_eq (I : Heads) (ls : List L) : runC E live I (bodyOf Tryz.f21) (initM pats ls) (doneK E Tryz.f21 res) = start (fun q => I (pid q) (pvs q) (phs q)) (ls.headD .hole).toSl ((dropT 1 ls).headD .hole).toInt := by kernel_rfl
theorem run_eq (n : Nat) (ls : List L) : runF E live Tryz.f21 res n (initM pats ls) = start (iter step n) (ls.headD .hole).toSl ((dropT 1 ls).headD .hole).toInt := runF_iter (id := pid) (vs := pvs) (hs := phs) (step := step) (start := fun J => start J (ls.headD .hole).toSl ((dropT 1 ls).headD .hole).toInt) step_eq (fun I => start_eq I ls) n
def e1 (x : MSigned) (k : Int) := Z201.md (((x.fHead).fKeys).fList) (IntKind.i64.wrap ((IntKind.i64.wrap ((IntKind.i64.wrap ((IntKind.i64.wrap ((IntKind.i64.wrap ((IntKind.i64.wrap ((IntKind.i64.wrap ((IntKind.i64.wrap (k + 1)) + 1)) + 1)) + 1)) + 1)) + 1)) + 1)) + 1))
def e2 (x : MSigned) (k : Int) := Z201.md (((x.fHead).fHeirs).fList) (IntKind.i64.wrap ((e1 x k).1 + 1))
def e3 (x : MSigned) (k : Int) := Z201.md (((x.fHead).fJudge).fList) (IntKind.i64.wrap ((IntKind.i64.wrap ((e2 x k).1 + 1)) + 1))
def e4 (x : MSigned) (k : Int) := Z202.md x.fSigs (IntKind.i64.wrap ((IntKind.i64.wrap ((e3 x k).1 + 1)) + 1))
def el (x : MSigned) (k : Int) : Int × MSigned := ((e4 x k).1, (⟨(⟨k, (IntKind.i64.wrap (k + 1)), (IntKind.i64.wrap ((IntKind.i64.wrap (k + 1)) + 1)), (IntKind.i64.wrap ((IntKind.i64.wrap ((IntKind.i64.wrap (k + 1)) + 1)) + 1)), (IntKind.i64.wrap ((IntKind.i64.wrap ((IntKind.i64.wrap ((IntKind.i64.wrap (k + 1)) + 1)) + 1)) + 1)), (IntKind.i64.wrap ((IntKind.i64.wrap ((IntKind.i64.wrap ((IntKind.i64.wrap ((IntKind.i64.wrap (k + 1)) + 1)) + 1)) + 1)) + 1)), (IntKind.i64.wrap ((IntKind.i64.wrap ((IntKind.i64.wrap ((IntKind.i64.wrap ((IntKind.i64.wrap ((IntKind.i64.wrap (k + 1)) + 1)) + 1)) + 1)) + 1)) + 1)), (IntKind.i64.wrap ((IntKind.i64.wrap ((IntKind.i64.wrap ((IntKind.i64.wrap ((IntKind.i64.wrap ((IntKind.i64.wrap ((IntKind.i64.wrap (k + 1)) + 1)) + 1)) + 1)) + 1)) + 1)) + 1)), (⟨(e1 x k).2, (e1 x k).1⟩ : MKeys), (⟨(e2 x k).2, (e2 x k).1⟩ : MKeys), (IntKind.i64.wrap ((e2 x k).1 + 1)), (⟨(e3 x k).2, (e3 x k).1⟩ : MKeys), ((Int.tmod (IntKind.i64.wrap ((e3 x k).1 + 1)) 3) == 0)⟩ : MHead), (e4 x k).2⟩ : MSigned))
theorem el_I (x : MSigned) (k : Int) (hk : I64 k) : I64 (el x k).1 := (Z202.i64 (wrap_I64 _))
def cnt (x : MSigned) : Nat := 13 + Z201.sum (((x.fHead).fKeys).fList) + Z201.sum (((x.fHead).fHeirs).fList) + Z201.sum (((x.fHead).fJudge).fList) + Z202.sum x.fSigs
def sum (a : List MSigned) : Nat := (a.map cnt).sum
def md (a0 : List MSigned) (a1 : Int) : Int × List MSigned := accM el a0 a1
def gd (a0 : List MSigned) (a1 : Int) : Prop := I64 a1
def acc (ls : List L) : List (List L) × Int := ((ls.headD .hole).toSl, ((dropT 1 ls).headD .hole).toInt)
def R : (List (List L) × Int) → Option (Int × List (List L)) := RR (p2 gd) (u2 md)
theorem R_eq {a0} {a1} (h : gd a0 a1) : R ((a0.map MSigned.row), a1) = some ((md a0 a1).1, ((md a0 a1).2.map MSigned.row)) := RR_eq (a := (a0, a1)) h
def con : MCon := MN pats acc R
theorem okF (a0 : List MSigned) (a1 : Int) (hg : gd a0 a1) (h0 : a0.length ≤ maxLen) : ∃ n, start (iter step n) (a0.map MSigned.row) a1 = ret (((md a0 a1).1, ((md a0 a1).2.map MSigned.row)) : Int × List (List L)) := by
  unfold gd at hg
  show ∃ n, iter step n (Pt.p0 a1 0 (a0.map MSigned.row)) = _
  unfold md
  refine mark_loop (el := el) (xs := a0) MSigned.zero I64 el_I (pt := fun i k c => Pt.p0 k (i : Int) (c.map MSigned.row)) (out := fun b => ret (b.1, b.2.map MSigned.row)) (fun J i k c hi hc hk => ?_) (fun J k c hc => ?_) hg
  · have hm : c.length ≤ maxLen := hc ▸ h0
    simp only [step, S0, MKeys.rs, MHead.rs, MSigned.rs]
    refine yes_ret (lt_dec hi) ?_
    refine yes_ret zle_dec ?_
    refine yes_ret (lt_dec hi) ?_
    refine yes_ret zle_dec ?_
    refine yes_ret (lt_dec hi) ?_
    refine yes_ret (beq_t _) ?_
    refine yes_ret zle_dec ?_
    refine yes_ret (lt_dec hi) ?_
    refine yes_ret (beq_t _) ?_
    refine yes_ret zle_dec ?_
    refine yes_ret (lt_dec hi) ?_
    refine yes_ret (beq_t _) ?_
    refine yes_ret zle_dec ?_
    refine yes_ret (lt_dec hi) ?_
    refine yes_ret (beq_t _) ?_
    refine yes_ret zle_dec ?_
    refine yes_ret (lt_dec hi) ?_
    refine yes_ret (beq_t _) ?_
    refine yes_ret zle_dec ?_
    refine yes_ret (lt_dec hi) ?_
    refine yes_ret (beq_t _) ?_
    refine yes_ret zle_dec ?_
    refine yes_ret (lt_dec hi) ?_
    refine yes_ret (beq_t _) ?_
    refine yes_ret zle_dec ?_
    refine yes_ret (lt_dec hi) ?_
    refine yes_ret (beq_t _) ?_
    refine yes_ret (beq_t _) ?_
    refine call_to ((e1 (c.getD i MSigned.zero) k).1, ((e1 (c.getD i MSigned.zero) k).2.map iRow)) (Z201.R_eq (a0 := (((c.getD i MSigned.zero).fHead).fKeys).fList) (a1 := IntKind.i64.wrap ((IntKind.i64.wrap ((IntKind.i64.wrap ((IntKind.i64.wrap ((IntKind.i64.wrap ((IntKind.i64.wrap ((IntKind.i64.wrap ((IntKind.i64.wrap (k + 1)) + 1)) + 1)) + 1)) + 1)) + 1)) + 1)) + 1)) (wrap_I64 _)) ?_
    refine yes_ret zle_dec ?_
    refine yes_ret (lt_dec hi) ?_
    refine yes_ret (beq_t _) ?_
    refine yes_ret zle_dec ?_
    refine yes_ret (lt_dec hi) ?_
    refine yes_ret (beq_t _) ?_
    refine yes_ret (beq_t _) ?_
    refine call_to ((e2 (c.getD i MSigned.zero) k).1, ((e2 (c.getD i MSigned.zero) k).2.map iRow)) (Z201.R_eq (a0 := (((c.getD i MSigned.zero).fHead).fHeirs).fList) (a1 := IntKind.i64.wrap ((e1 (c.getD i MSigned.zero) k).1 + 1)) (wrap_I64 _)) ?_
    refine yes_ret zle_dec ?_
    refine yes_ret (lt_dec hi) ?_
    refine yes_ret (beq_t _) ?_
    refine yes_ret zle_dec ?_
    refine yes_ret (lt_dec hi) ?_
    refine yes_ret (beq_t _) ?_
    refine yes_ret zle_dec ?_
    refine yes_ret (lt_dec hi) ?_
    refine yes_ret (beq_t _) ?_
    refine yes_ret (beq_t _) ?_
    refine call_to ((e3 (c.getD i MSigned.zero) k).1, ((e3 (c.getD i MSigned.zero) k).2.map iRow)) (Z201.R_eq (a0 := (((c.getD i MSigned.zero).fHead).fJudge).fList) (a1 := IntKind.i64.wrap ((IntKind.i64.wrap ((e2 (c.getD i MSigned.zero) k).1 + 1)) + 1)) (wrap_I64 _)) ?_
    refine yes_ret zle_dec ?_
    refine yes_ret (lt_dec hi) ?_
    refine yes_ret (beq_t _) ?_
    refine yes_ret zle_dec ?_
    refine yes_ret (lt_dec hi) ?_
    refine yes_ret (beq_t _) ?_
    refine yes_ret zle_dec ?_
    refine yes_ret (lt_dec hi) ?_
    refine yes_ret (beq_t _) ?_
    refine yes_ret (beq_t _) ?_
    refine call_to ((e4 (c.getD i MSigned.zero) k).1, ((e4 (c.getD i MSigned.zero) k).2.map MSig.row)) (Z202.R_eq (a0 := (c.getD i MSigned.zero).fSigs) (a1 := IntKind.i64.wrap ((IntKind.i64.wrap ((e3 (c.getD i MSigned.zero) k).1 + 1)) + 1)) (wrap_I64 _)) ?_
    rw [wrap_succ hi hm]
    exact congrArg (fun q => J (Pt.p0 (el (c.getD i MSigned.zero) k).1 ((i + 1 : Nat) : Int) q)) (List.map_set (f := MSigned.row) (l := c) (i := i) (a := (el (c.getD i MSigned.zero) k).2)).symm
  · simp only [step, S0, MKeys.rs, MHead.rs, MSigned.rs]
    refine no_ret (by apply decide_eq_false; omega) ?_
    rfl
theorem valid_ : MValid Tryz.prog Ev 21 con := MV (run := fun n x => start (iter step n) x.1 x.2) mix tab_ok .nil (.cons Z201.valid_ (.cons Z202.valid_ .nil)) Tryz.func21 (by kernel_rfl) run_eq (fun ls a hl e hg => okF a.1 a.2 hg (by have h : (ls.headD .hole).toSl.length ≤ maxLen := (hl _ _ (.head _)).len; have e : a.1.map MSigned.row = (ls.headD .hole).toSl := (congrArg (fun x => x.1) e.symm); rw [← e] at h; simpa using h))
theorem i64 {a0 : List MSigned} {a1 : Int} (h : I64 a1) : I64 (md a0 a1).1 := accM_I el_I h
theorem elk (x : MSigned) (k : Int) (h0 : 0 ≤ k) (hb : k + (cnt x : Int) ≤ 4611686018427387904) : (el x k).1 = k + cnt x := by
 simp only [cnt, Int.natCast_add] at hb ⊢
 simp (disch := omega) only [el, e1, e2, e3, e4, wi, Z201.kk, Z202.kk]
 all_goals first | done | omega
theorem kk (a0 : List MSigned) (a1 : Int) (h0 : 0 ≤ a1) (hb : a1 + (sum a0 : Int) ≤ 4611686018427387904) : (md a0 a1).1 = a1 + sum a0 := accM_sum elk a0 a1 h0 hb
theorem sz (a : List MSigned) : sum a ≤ 60 * (szL (fun y : MSigned => MSigned.size y) a) := sum_le (fun x => by
  have := Z201.sz (((x.fHead).fKeys).fList)
  have := Z201.sz (((x.fHead).fHeirs).fList)
  have := Z201.sz (((x.fHead).fJudge).fList)
  have := Z202.sz x.fSigs
  try simp only [cnt, MSigned.size, MHead.size, MKeys.size] at *
  omega) a
end Z203
namespace Z204
set_option maxHeartbeats 8000000
inductive Pt where
 | p0 (a : Int) (b : Int) (c : List (List L))
def pid : Pt → Nat
 | .p0 .. => 2
def pvs : Pt → List V
 | .p0 a b c => [.own 0, .int .i64 a, .int .i64 b]
def phs : Pt → List Root
 | .p0 a b c => [.row 9 c]
def step (J : Pt → Ans) : Pt → Ans
 | .p0 a b c => (bif (decide (b < (c.length : Int))) then (call (Z200.R a) fun v1 => (bif (decide ((0 : Int) ≤ b)) then (bif (decide (b < (c.length : Int))) then J (.p0 (IntKind.i64.wrap (a + 1)) (IntKind.i64.wrap (b + 1)) (List.set c (Int.toNat b) [L.str v1])) else none) else none)) else ret ((a, c) : Int × List (List L)))
def start (J : Pt → Ans) (x0 : List (List L)) (x1 : Int) : Ans := J (.p0 x1 0 x0)
def live : Nat → Live := fun i => match i with | 2 => [(0, none), (1, none), (5, none)] | _ => []
def pats : List (Bool × List K) := [(false, [.sl 9]), (false, [.int .i64])]
def res : RP := .chg [9]
abbrev E : Env := { T := assoc Tab, G := conG [(60, Z200.con)], nt := 20, M := conM [], np := 1, mt := true }
theorem step_eq (I : Heads) (p : Pt) : enterC E live I (pid p) (bodyOf Tryz.f163) (stOf (live (pid p)) (pvs p) (phs p)) (doneK E Tryz.f163 res) = step (fun q => I (pid q) (pvs q) (phs q)) p := by
 cases p <;> kernel_rfl
theorem start_eq (I : Heads) (ls : List L) : runC E live I (bodyOf Tryz.f163) (initM pats ls) (doneK E Tryz.f163 res) = start (fun q => I (pid q) (pvs q) (phs q)) (ls.headD .hole).toSl ((dropT 1 ls).headD .hole).toInt := by kernel_rfl
theorem run_eq (n : Nat) (ls : List L) : runF E live Tryz.f163 res n (initM pats ls) = start (iter step n) (ls.headD .hole).toSl ((dropT 1 ls).headD .hole).toInt := runF_iter (id := pid) (vs := pvs) (hs := phs) (step := step) (start := fun J => start J (ls.headD .hole).toSl ((dropT 1 ls).headD .hole).toInt) step_eq (fun I => start_eq I ls) n
def el (x : ByteArray) (k : Int) : Int × ByteArray := ((IntKind.i64.wrap (k + 1)), (Z200.md k))
theorem el_I (x : ByteArray) (k : Int) (hk : I64 k) : I64 (el x k).1 := (wrap_I64 _)
def cnt (x : ByteArray) : Nat := 1
def sum (a : List ByteArray) : Nat := (a.map cnt).sum
def md (a0 : List ByteArray) (a1 : Int) : Int × List ByteArray := accM el a0 a1
def gd (a0 : List ByteArray) (a1 : Int) : Prop := I64 a1
def acc (ls : List L) : List (List L) × Int := ((ls.headD .hole).toSl, ((dropT 1 ls).headD .hole).toInt)
def R : (List (List L) × Int) → Option (Int × List (List L)) := RR (p2 gd) (u2 md)
theorem R_eq {a0} {a1} (h : gd a0 a1) : R ((a0.map sRow), a1) = some ((md a0 a1).1, ((md a0 a1).2.map sRow)) := RR_eq (a := (a0, a1)) h
def con : MCon := MN pats acc R
theorem okF (a0 : List ByteArray) (a1 : Int) (hg : gd a0 a1) (h0 : a0.length ≤ maxLen) : ∃ n, start (iter step n) (a0.map sRow) a1 = ret (((md a0 a1).1, ((md a0 a1).2.map sRow)) : Int × List (List L)) := by
  unfold gd at hg
  show ∃ n, iter step n (Pt.p0 a1 0 (a0.map sRow)) = _
  unfold md
  refine mark_loop (el := el) (xs := a0) ⟨#[]⟩ I64 el_I (pt := fun i k c => Pt.p0 k (i : Int) (c.map sRow)) (out := fun b => ret (b.1, b.2.map sRow)) (fun J i k c hi hc hk => ?_) (fun J k c hc => ?_) hg
  · have hm : c.length ≤ maxLen := hc ▸ h0
    simp only [step, S0]
    refine yes_ret (lt_dec hi) ?_
    refine call_to (Z200.md k) (Z200.R_eq (a0 := k) hk) ?_
    refine yes_ret zle_dec ?_
    refine yes_ret (lt_dec hi) ?_
    rw [wrap_succ hi hm]
    exact congrArg (fun q => J (Pt.p0 (el (c.getD i ⟨#[]⟩) k).1 ((i + 1 : Nat) : Int) q)) (List.map_set (f := sRow) (l := c) (i := i) (a := (el (c.getD i ⟨#[]⟩) k).2)).symm
  · simp only [step, S0]
    refine no_ret (by apply decide_eq_false; omega) ?_
    rfl
theorem valid_ : MValid Tryz.prog Ev 163 con := MV (run := fun n x => start (iter step n) x.1 x.2) mix tab_ok (.cons Z200.valid_ .nil) .nil Tryz.func163 (by kernel_rfl) run_eq (fun ls a hl e hg => okF a.1 a.2 hg (by have h : (ls.headD .hole).toSl.length ≤ maxLen := (hl _ _ (.head _)).len; have e : a.1.map sRow = (ls.headD .hole).toSl := (congrArg (fun x => x.1) e.symm); rw [← e] at h; simpa using h))
theorem i64 {a0 : List ByteArray} {a1 : Int} (h : I64 a1) : I64 (md a0 a1).1 := accM_I el_I h
theorem elk (x : ByteArray) (k : Int) (h0 : 0 ≤ k) (hb : k + (cnt x : Int) ≤ 4611686018427387904) : (el x k).1 = k + cnt x := by
 simp only [cnt, Int.natCast_add] at hb ⊢
 simp (disch := omega) only [el, wi]
 all_goals first | done | omega
theorem kk (a0 : List ByteArray) (a1 : Int) (h0 : 0 ≤ a1) (hb : a1 + (sum a0 : Int) ≤ 4611686018427387904) : (md a0 a1).1 = a1 + sum a0 := accM_sum elk a0 a1 h0 hb
theorem sz (a : List ByteArray) : sum a ≤ 60 * (szL (fun y : ByteArray => y.size) a) := sum_le (fun x => by
  try simp only [cnt] at *
  omega) a
end Z204
namespace Z205
set_option maxHeartbeats 8000000
inductive Pt where
 | p0 (a : Int) (b : Int) (c : List (List L))
def pid : Pt → Nat
 | .p0 .. => 2
def pvs : Pt → List V
 | .p0 a b c => [.own 0, .int .i64 a, .int .i64 b]
def phs : Pt → List Root
 | .p0 a b c => [.row 148 c]
def step (J : Pt → Ans) : Pt → Ans
 | .p0 a b c => (bif (decide (b < (c.length : Int))) then (bif (decide ((0 : Int) ≤ b)) then (bif (decide (b < (c.length : Int))) then (call (Z200.R (IntKind.i64.wrap (a + 1))) fun v1 => (bif (decide ((0 : Int) ≤ b)) then (bif (decide (b < (c.length : Int))) then (bif (Nat.beq (Int.toNat b) (Int.toNat b) && true) then (bif (decide ((0 : Int) ≤ b)) then (bif (decide (b < (c.length : Int))) then (bif (Nat.beq (Int.toNat b) (Int.toNat b) && true) then (bif (Nat.beq (Int.toNat b) (Int.toNat b) && true) then (call (Z203.R ((RStored.at c (Int.toNat b)).fAnswer.fChain, (IntKind.i64.wrap ((IntKind.i64.wrap (a + 1)) + 1)))) fun v2 => (bif (decide ((0 : Int) ≤ b)) then (bif (decide (b < (c.length : Int))) then (bif (Nat.beq (Int.toNat b) (Int.toNat b) && true) then (call (Z200.R (IntKind.i64.wrap (v2.1 + 1))) fun v3 => (bif (decide ((0 : Int) ≤ b)) then (bif (decide (b < (c.length : Int))) then (bif (Nat.beq (Int.toNat b) (Int.toNat b) && true) then (bif (decide ((0 : Int) ≤ b)) then (bif (decide (b < (c.length : Int))) then (bif (Nat.beq (Int.toNat b) (Int.toNat b) && true) then (bif (decide ((0 : Int) ≤ b)) then (bif (decide (b < (c.length : Int))) then (bif (Nat.beq (Int.toNat b) (Int.toNat b) && true) then (bif (decide ((0 : Int) ≤ b)) then (bif (decide (b < (c.length : Int))) then (bif (Nat.beq (Int.toNat b) (Int.toNat b) && true) then (bif (Nat.beq (Int.toNat b) (Int.toNat b) && true) then (call (Z204.R ((RStored.at c (Int.toNat b)).fAnswer.fEntry.fPath, (IntKind.i64.wrap ((IntKind.i64.wrap ((IntKind.i64.wrap ((IntKind.i64.wrap (v2.1 + 1)) + 1)) + 1)) + 1)))) fun v4 => (bif (decide ((0 : Int) ≤ b)) then (bif (decide (b < (c.length : Int))) then (bif (Nat.beq (Int.toNat b) (Int.toNat b) && true) then (bif (decide ((0 : Int) ≤ b)) then (bif (decide (b < (c.length : Int))) then (bif (Nat.beq (Int.toNat b) (Int.toNat b) && true) then (bif (Nat.beq (Int.toNat b) (Int.toNat b) && true) then (call (Z201.R ((RStored.at c (Int.toNat b)).fAnswer.fProof.fPath, (IntKind.i64.wrap (v4.1 + 1)))) fun v5 => (bif (decide ((0 : Int) ≤ b)) then (bif (decide (b < (c.length : Int))) then (bif (Nat.beq (Int.toNat b) (Int.toNat b) && true) then (call (Z200.R (IntKind.i64.wrap (v5.1 + 1))) fun v6 => (bif (decide ((0 : Int) ≤ b)) then (bif (decide (b < (c.length : Int))) then (bif (Nat.beq (Int.toNat b) (Int.toNat b) && true) then (bif (decide ((0 : Int) ≤ b)) then (bif (decide (b < (c.length : Int))) then (bif (Nat.beq (Int.toNat b) (Int.toNat b) && true) then (bif (decide ((0 : Int) ≤ b)) then (bif (decide (b < (c.length : Int))) then (bif (Nat.beq (Int.toNat b) (Int.toNat b) && true) then (bif (decide ((0 : Int) ≤ b)) then (bif (decide (b < (c.length : Int))) then (bif (Nat.beq (Int.toNat b) (Int.toNat b) && true) then (bif (Nat.beq (Int.toNat b) (Int.toNat b) && true) then (call (Z204.R ((RStored.at c (Int.toNat b)).fAnswer.fGap.fBefore.fPath, (IntKind.i64.wrap ((IntKind.i64.wrap ((IntKind.i64.wrap ((IntKind.i64.wrap (v5.1 + 1)) + 1)) + 1)) + 1)))) fun v7 => (call (Z200.R v7.1) fun v8 => (bif (decide ((0 : Int) ≤ b)) then (bif (decide (b < (c.length : Int))) then (bif (Nat.beq (Int.toNat b) (Int.toNat b) && true) then (bif (decide ((0 : Int) ≤ b)) then (bif (decide (b < (c.length : Int))) then (bif (Nat.beq (Int.toNat b) (Int.toNat b) && true) then (bif (decide ((0 : Int) ≤ b)) then (bif (decide (b < (c.length : Int))) then (bif (Nat.beq (Int.toNat b) (Int.toNat b) && true) then (bif (decide ((0 : Int) ≤ b)) then (bif (decide (b < (c.length : Int))) then (bif (Nat.beq (Int.toNat b) (Int.toNat b) && true) then (bif (Nat.beq (Int.toNat b) (Int.toNat b) && true) then (call (Z204.R ((RStored.at c (Int.toNat b)).fAnswer.fGap.fAfter.fPath, (IntKind.i64.wrap ((IntKind.i64.wrap ((IntKind.i64.wrap (v7.1 + 1)) + 1)) + 1)))) fun v9 => (bif (decide ((0 : Int) ≤ b)) then (bif (decide (b < (c.length : Int))) then (bif (Nat.beq (Int.toNat b) (Int.toNat b) && true) then (bif (decide ((0 : Int) ≤ b)) then (bif (decide (b < (c.length : Int))) then (bif (Nat.beq (Int.toNat b) (Int.toNat b) && true) then (bif (Nat.beq (Int.toNat b) (Int.toNat b) && true) then (call (Z201.R ((RStored.at c (Int.toNat b)).fAnswer.fGap.fLeft.fPath, (IntKind.i64.wrap (v9.1 + 1)))) fun v10 => (bif (decide ((0 : Int) ≤ b)) then (bif (decide (b < (c.length : Int))) then (bif (Nat.beq (Int.toNat b) (Int.toNat b) && true) then (bif (decide ((0 : Int) ≤ b)) then (bif (decide (b < (c.length : Int))) then (bif (Nat.beq (Int.toNat b) (Int.toNat b) && true) then (bif (Nat.beq (Int.toNat b) (Int.toNat b) && true) then (call (Z201.R ((RStored.at c (Int.toNat b)).fAnswer.fGap.fRight.fPath, (IntKind.i64.wrap (v10.1 + 1)))) fun v11 => J (.p0 v11.1 (IntKind.i64.wrap (b + 1)) (List.set c (Int.toNat b) (RStored.enc (⟨a, v1, (⟨v2.2, ((Int.tmod v2.1 3) == 0), (⟨v3, (IntKind.i64.wrap ((IntKind.i64.wrap (v2.1 + 1)) + 1)), (IntKind.i64.wrap ((IntKind.i64.wrap ((IntKind.i64.wrap (v2.1 + 1)) + 1)) + 1)), v4.2⟩ : REntry), (⟨v4.1, v5.2⟩ : RProof), (⟨v5.1, (⟨v6, (IntKind.i64.wrap ((IntKind.i64.wrap (v5.1 + 1)) + 1)), (IntKind.i64.wrap ((IntKind.i64.wrap ((IntKind.i64.wrap (v5.1 + 1)) + 1)) + 1)), v7.2⟩ : REntry), (⟨v8, (IntKind.i64.wrap (v7.1 + 1)), (IntKind.i64.wrap ((IntKind.i64.wrap (v7.1 + 1)) + 1)), v9.2⟩ : REntry), (⟨v9.1, v10.2⟩ : RProof), (⟨v10.1, v11.2⟩ : RProof)⟩ : RGap)⟩ : RAnswer)⟩ : RStored))))) else none) else none) else none) else none) else none) else none) else none)) else none) else none) else none) else none) else none) else none) else none)) else none) else none) else none) else none) else none) else none) else none) else none) else none) else none) else none) else none) else none))) else none) else none) else none) else none) else none) else none) else none) else none) else none) else none) else none) else none) else none)) else none) else none) else none)) else none) else none) else none) else none) else none) else none) else none)) else none) else none) else none) else none) else none) else none) else none) else none) else none) else none) else none) else none) else none)) else none) else none) else none)) else none) else none) else none) else none) else none) else none) else none)) else none) else none) else ret ((a, c) : Int × List (List L)))
def start (J : Pt → Ans) (x0 : List (List L)) (x1 : Int) : Ans := J (.p0 x1 0 x0)
def live : Nat → Live := fun i => match i with | 2 => [(0, none), (1, none), (5, none)] | _ => []
def pats : List (Bool × List K) := [(false, [.sl 148]), (false, [.int .i64])]
def res : RP := .chg [148]
abbrev E : Env := { T := assoc Tab, G := conG [(60, Z200.con)], nt := 232, M := conM [(21, Z203.con), (163, Z204.con), (68, Z201.con)], np := 1, mt := true }
theorem step_eq (I : Heads) (p : Pt) : enterC E live I (pid p) (bodyOf Tryz.f100) (stOf (live (pid p)) (pvs p) (phs p)) (doneK E Tryz.f100 res) = step (fun q => I (pid q) (pvs q) (phs q)) p := by
 cases p <;> kernel_rfl
theorem start_eq (I : Heads) (ls : List L) : runC E live I (bodyOf Tryz.f100) (initM pats ls) (doneK E Tryz.f100 res) = start (fun q => I (pid q) (pvs q) (phs q)) (ls.headD .hole).toSl ((dropT 1 ls).headD .hole).toInt := by kernel_rfl
theorem run_eq (n : Nat) (ls : List L) : runF E live Tryz.f100 res n (initM pats ls) = start (iter step n) (ls.headD .hole).toSl ((dropT 1 ls).headD .hole).toInt := runF_iter (id := pid) (vs := pvs) (hs := phs) (step := step) (start := fun J => start J (ls.headD .hole).toSl ((dropT 1 ls).headD .hole).toInt) step_eq (fun I => start_eq I ls) n
def e1 (x : MStored) (k : Int) := Z203.md ((x.fAnswer).fChain) (IntKind.i64.wrap ((IntKind.i64.wrap (k + 1)) + 1))
def e2 (x : MStored) (k : Int) := Z204.md (((x.fAnswer).fEntry).fPath) (IntKind.i64.wrap ((IntKind.i64.wrap ((IntKind.i64.wrap ((IntKind.i64.wrap ((e1 x k).1 + 1)) + 1)) + 1)) + 1))
def e3 (x : MStored) (k : Int) := Z201.md (((x.fAnswer).fProof).fPath) (IntKind.i64.wrap ((e2 x k).1 + 1))
def e4 (x : MStored) (k : Int) := Z204.md ((((x.fAnswer).fGap).fBefore).fPath) (IntKind.i64.wrap ((IntKind.i64.wrap ((IntKind.i64.wrap ((IntKind.i64.wrap ((e3 x k).1 + 1)) + 1)) + 1)) + 1))
def e5 (x : MStored) (k : Int) := Z204.md ((((x.fAnswer).fGap).fAfter).fPath) (IntKind.i64.wrap ((IntKind.i64.wrap ((IntKind.i64.wrap ((e4 x k).1 + 1)) + 1)) + 1))
def e6 (x : MStored) (k : Int) := Z201.md ((((x.fAnswer).fGap).fLeft).fPath) (IntKind.i64.wrap ((e5 x k).1 + 1))
def e7 (x : MStored) (k : Int) := Z201.md ((((x.fAnswer).fGap).fRight).fPath) (IntKind.i64.wrap ((e6 x k).1 + 1))
def el (x : MStored) (k : Int) : Int × MStored := ((e7 x k).1, (⟨k, (Z200.md (IntKind.i64.wrap (k + 1))), (⟨(e1 x k).2, ((Int.tmod (e1 x k).1 3) == 0), (⟨(Z200.md (IntKind.i64.wrap ((e1 x k).1 + 1))), (IntKind.i64.wrap ((IntKind.i64.wrap ((e1 x k).1 + 1)) + 1)), (IntKind.i64.wrap ((IntKind.i64.wrap ((IntKind.i64.wrap ((e1 x k).1 + 1)) + 1)) + 1)), (e2 x k).2⟩ : MEntry), (⟨(e2 x k).1, (e3 x k).2⟩ : MProof), (⟨(e3 x k).1, (⟨(Z200.md (IntKind.i64.wrap ((e3 x k).1 + 1))), (IntKind.i64.wrap ((IntKind.i64.wrap ((e3 x k).1 + 1)) + 1)), (IntKind.i64.wrap ((IntKind.i64.wrap ((IntKind.i64.wrap ((e3 x k).1 + 1)) + 1)) + 1)), (e4 x k).2⟩ : MEntry), (⟨(Z200.md ((e4 x k).1)), (IntKind.i64.wrap ((e4 x k).1 + 1)), (IntKind.i64.wrap ((IntKind.i64.wrap ((e4 x k).1 + 1)) + 1)), (e5 x k).2⟩ : MEntry), (⟨(e5 x k).1, (e6 x k).2⟩ : MProof), (⟨(e6 x k).1, (e7 x k).2⟩ : MProof)⟩ : MGap)⟩ : MAnswer)⟩ : MStored))
theorem el_I (x : MStored) (k : Int) (hk : I64 k) : I64 (el x k).1 := (Z201.i64 (wrap_I64 _))
def cnt (x : MStored) : Nat := 16 + Z203.sum ((x.fAnswer).fChain) + Z204.sum (((x.fAnswer).fEntry).fPath) + Z201.sum (((x.fAnswer).fProof).fPath) + Z204.sum ((((x.fAnswer).fGap).fBefore).fPath) + Z204.sum ((((x.fAnswer).fGap).fAfter).fPath) + Z201.sum ((((x.fAnswer).fGap).fLeft).fPath) + Z201.sum ((((x.fAnswer).fGap).fRight).fPath)
def sum (a : List MStored) : Nat := (a.map cnt).sum
def md (a0 : List MStored) (a1 : Int) : Int × List MStored := accM el a0 a1
def gd (a0 : List MStored) (a1 : Int) : Prop := I64 a1
def acc (ls : List L) : List (List L) × Int := ((ls.headD .hole).toSl, ((dropT 1 ls).headD .hole).toInt)
def R : (List (List L) × Int) → Option (Int × List (List L)) := RR (p2 gd) (u2 md)
theorem R_eq {a0} {a1} (h : gd a0 a1) : R ((a0.map MStored.row), a1) = some ((md a0 a1).1, ((md a0 a1).2.map MStored.row)) := RR_eq (a := (a0, a1)) h
def con : MCon := MN pats acc R
theorem okF (a0 : List MStored) (a1 : Int) (hg : gd a0 a1) (h0 : a0.length ≤ maxLen) : ∃ n, start (iter step n) (a0.map MStored.row) a1 = ret (((md a0 a1).1, ((md a0 a1).2.map MStored.row)) : Int × List (List L)) := by
  unfold gd at hg
  show ∃ n, iter step n (Pt.p0 a1 0 (a0.map MStored.row)) = _
  unfold md
  refine mark_loop (el := el) (xs := a0) MStored.zero I64 el_I (pt := fun i k c => Pt.p0 k (i : Int) (c.map MStored.row)) (out := fun b => ret (b.1, b.2.map MStored.row)) (fun J i k c hi hc hk => ?_) (fun J k c hc => ?_) hg
  · have hm : c.length ≤ maxLen := hc ▸ h0
    simp only [step, S0, MEntry.rs, MProof.rs, MGap.rs, MAnswer.rs, MStored.rs]
    refine yes_ret (lt_dec hi) ?_
    refine yes_ret zle_dec ?_
    refine yes_ret (lt_dec hi) ?_
    refine call_to (Z200.md (IntKind.i64.wrap (k + 1))) (Z200.R_eq (a0 := IntKind.i64.wrap (k + 1)) (wrap_I64 _)) ?_
    refine yes_ret zle_dec ?_
    refine yes_ret (lt_dec hi) ?_
    refine yes_ret (beq_t _) ?_
    refine yes_ret zle_dec ?_
    refine yes_ret (lt_dec hi) ?_
    refine yes_ret (beq_t _) ?_
    refine yes_ret (beq_t _) ?_
    refine call_to ((e1 (c.getD i MStored.zero) k).1, ((e1 (c.getD i MStored.zero) k).2.map MSigned.row)) (Z203.R_eq (a0 := ((c.getD i MStored.zero).fAnswer).fChain) (a1 := IntKind.i64.wrap ((IntKind.i64.wrap (k + 1)) + 1)) (wrap_I64 _)) ?_
    refine yes_ret zle_dec ?_
    refine yes_ret (lt_dec hi) ?_
    refine yes_ret (beq_t _) ?_
    refine call_to (Z200.md (IntKind.i64.wrap ((e1 (c.getD i MStored.zero) k).1 + 1))) (Z200.R_eq (a0 := IntKind.i64.wrap ((e1 (c.getD i MStored.zero) k).1 + 1)) (wrap_I64 _)) ?_
    refine yes_ret zle_dec ?_
    refine yes_ret (lt_dec hi) ?_
    refine yes_ret (beq_t _) ?_
    refine yes_ret zle_dec ?_
    refine yes_ret (lt_dec hi) ?_
    refine yes_ret (beq_t _) ?_
    refine yes_ret zle_dec ?_
    refine yes_ret (lt_dec hi) ?_
    refine yes_ret (beq_t _) ?_
    refine yes_ret zle_dec ?_
    refine yes_ret (lt_dec hi) ?_
    refine yes_ret (beq_t _) ?_
    refine yes_ret (beq_t _) ?_
    refine call_to ((e2 (c.getD i MStored.zero) k).1, ((e2 (c.getD i MStored.zero) k).2.map sRow)) (Z204.R_eq (a0 := (((c.getD i MStored.zero).fAnswer).fEntry).fPath) (a1 := IntKind.i64.wrap ((IntKind.i64.wrap ((IntKind.i64.wrap ((IntKind.i64.wrap ((e1 (c.getD i MStored.zero) k).1 + 1)) + 1)) + 1)) + 1)) (wrap_I64 _)) ?_
    refine yes_ret zle_dec ?_
    refine yes_ret (lt_dec hi) ?_
    refine yes_ret (beq_t _) ?_
    refine yes_ret zle_dec ?_
    refine yes_ret (lt_dec hi) ?_
    refine yes_ret (beq_t _) ?_
    refine yes_ret (beq_t _) ?_
    refine call_to ((e3 (c.getD i MStored.zero) k).1, ((e3 (c.getD i MStored.zero) k).2.map iRow)) (Z201.R_eq (a0 := (((c.getD i MStored.zero).fAnswer).fProof).fPath) (a1 := IntKind.i64.wrap ((e2 (c.getD i MStored.zero) k).1 + 1)) (wrap_I64 _)) ?_
    refine yes_ret zle_dec ?_
    refine yes_ret (lt_dec hi) ?_
    refine yes_ret (beq_t _) ?_
    refine call_to (Z200.md (IntKind.i64.wrap ((e3 (c.getD i MStored.zero) k).1 + 1))) (Z200.R_eq (a0 := IntKind.i64.wrap ((e3 (c.getD i MStored.zero) k).1 + 1)) (wrap_I64 _)) ?_
    refine yes_ret zle_dec ?_
    refine yes_ret (lt_dec hi) ?_
    refine yes_ret (beq_t _) ?_
    refine yes_ret zle_dec ?_
    refine yes_ret (lt_dec hi) ?_
    refine yes_ret (beq_t _) ?_
    refine yes_ret zle_dec ?_
    refine yes_ret (lt_dec hi) ?_
    refine yes_ret (beq_t _) ?_
    refine yes_ret zle_dec ?_
    refine yes_ret (lt_dec hi) ?_
    refine yes_ret (beq_t _) ?_
    refine yes_ret (beq_t _) ?_
    refine call_to ((e4 (c.getD i MStored.zero) k).1, ((e4 (c.getD i MStored.zero) k).2.map sRow)) (Z204.R_eq (a0 := ((((c.getD i MStored.zero).fAnswer).fGap).fBefore).fPath) (a1 := IntKind.i64.wrap ((IntKind.i64.wrap ((IntKind.i64.wrap ((IntKind.i64.wrap ((e3 (c.getD i MStored.zero) k).1 + 1)) + 1)) + 1)) + 1)) (wrap_I64 _)) ?_
    refine call_to (Z200.md ((e4 (c.getD i MStored.zero) k).1)) (Z200.R_eq (a0 := (e4 (c.getD i MStored.zero) k).1) (Z204.i64 (wrap_I64 _))) ?_
    refine yes_ret zle_dec ?_
    refine yes_ret (lt_dec hi) ?_
    refine yes_ret (beq_t _) ?_
    refine yes_ret zle_dec ?_
    refine yes_ret (lt_dec hi) ?_
    refine yes_ret (beq_t _) ?_
    refine yes_ret zle_dec ?_
    refine yes_ret (lt_dec hi) ?_
    refine yes_ret (beq_t _) ?_
    refine yes_ret zle_dec ?_
    refine yes_ret (lt_dec hi) ?_
    refine yes_ret (beq_t _) ?_
    refine yes_ret (beq_t _) ?_
    refine call_to ((e5 (c.getD i MStored.zero) k).1, ((e5 (c.getD i MStored.zero) k).2.map sRow)) (Z204.R_eq (a0 := ((((c.getD i MStored.zero).fAnswer).fGap).fAfter).fPath) (a1 := IntKind.i64.wrap ((IntKind.i64.wrap ((IntKind.i64.wrap ((e4 (c.getD i MStored.zero) k).1 + 1)) + 1)) + 1)) (wrap_I64 _)) ?_
    refine yes_ret zle_dec ?_
    refine yes_ret (lt_dec hi) ?_
    refine yes_ret (beq_t _) ?_
    refine yes_ret zle_dec ?_
    refine yes_ret (lt_dec hi) ?_
    refine yes_ret (beq_t _) ?_
    refine yes_ret (beq_t _) ?_
    refine call_to ((e6 (c.getD i MStored.zero) k).1, ((e6 (c.getD i MStored.zero) k).2.map iRow)) (Z201.R_eq (a0 := ((((c.getD i MStored.zero).fAnswer).fGap).fLeft).fPath) (a1 := IntKind.i64.wrap ((e5 (c.getD i MStored.zero) k).1 + 1)) (wrap_I64 _)) ?_
    refine yes_ret zle_dec ?_
    refine yes_ret (lt_dec hi) ?_
    refine yes_ret (beq_t _) ?_
    refine yes_ret zle_dec ?_
    refine yes_ret (lt_dec hi) ?_
    refine yes_ret (beq_t _) ?_
    refine yes_ret (beq_t _) ?_
    refine call_to ((e7 (c.getD i MStored.zero) k).1, ((e7 (c.getD i MStored.zero) k).2.map iRow)) (Z201.R_eq (a0 := ((((c.getD i MStored.zero).fAnswer).fGap).fRight).fPath) (a1 := IntKind.i64.wrap ((e6 (c.getD i MStored.zero) k).1 + 1)) (wrap_I64 _)) ?_
    rw [wrap_succ hi hm]
    exact congrArg (fun q => J (Pt.p0 (el (c.getD i MStored.zero) k).1 ((i + 1 : Nat) : Int) q)) (List.map_set (f := MStored.row) (l := c) (i := i) (a := (el (c.getD i MStored.zero) k).2)).symm
  · simp only [step, S0, MEntry.rs, MProof.rs, MGap.rs, MAnswer.rs, MStored.rs]
    refine no_ret (by apply decide_eq_false; omega) ?_
    rfl
theorem valid_ : MValid Tryz.prog Ev 100 con := MV (run := fun n x => start (iter step n) x.1 x.2) mix tab_ok (.cons Z200.valid_ .nil) (.cons Z203.valid_ (.cons Z204.valid_ (.cons Z201.valid_ .nil))) Tryz.func100 (by kernel_rfl) run_eq (fun ls a hl e hg => okF a.1 a.2 hg (by have h : (ls.headD .hole).toSl.length ≤ maxLen := (hl _ _ (.head _)).len; have e : a.1.map MStored.row = (ls.headD .hole).toSl := (congrArg (fun x => x.1) e.symm); rw [← e] at h; simpa using h))
theorem i64 {a0 : List MStored} {a1 : Int} (h : I64 a1) : I64 (md a0 a1).1 := accM_I el_I h
theorem elk (x : MStored) (k : Int) (h0 : 0 ≤ k) (hb : k + (cnt x : Int) ≤ 4611686018427387904) : (el x k).1 = k + cnt x := by
 simp only [cnt, Int.natCast_add] at hb ⊢
 simp (disch := omega) only [el, e1, e2, e3, e4, e5, e6, e7, wi, Z203.kk, Z204.kk, Z201.kk]
 all_goals first | done | omega
theorem kk (a0 : List MStored) (a1 : Int) (h0 : 0 ≤ a1) (hb : a1 + (sum a0 : Int) ≤ 4611686018427387904) : (md a0 a1).1 = a1 + sum a0 := accM_sum elk a0 a1 h0 hb
theorem sz (a : List MStored) : sum a ≤ 60 * (szL (fun y : MStored => MStored.size y) a) := sum_le (fun x => by
  have := Z203.sz ((x.fAnswer).fChain)
  have := Z204.sz (((x.fAnswer).fEntry).fPath)
  have := Z201.sz (((x.fAnswer).fProof).fPath)
  have := Z204.sz ((((x.fAnswer).fGap).fBefore).fPath)
  have := Z204.sz ((((x.fAnswer).fGap).fAfter).fPath)
  have := Z201.sz ((((x.fAnswer).fGap).fLeft).fPath)
  have := Z201.sz ((((x.fAnswer).fGap).fRight).fPath)
  try simp only [cnt, MStored.size, MAnswer.size, MEntry.size, MProof.size, MGap.size] at *
  omega) a
end Z205
namespace Z206
set_option maxHeartbeats 8000000
def F (x0 : RCache) (x1 : Int) : Ans := (call (Z205.R (x0.fList, x1)) fun v1 => ret ((v1.1, v1.2) : Int × List (List L)))
def pats : List (Bool × List K) := [(true, [.sl 148]), (false, [.int .i64])]
def res : RP := .chg [148]
def e1 (x : MCache) (k : Int) := Z205.md x.fList k
def sum (x : MCache) : Nat := 0 + Z205.sum x.fList
def md (a0 : MCache) (a1 : Int) : Int × List MStored := ((e1 a0 a1).1, (e1 a0 a1).2)
def gd (a0 : MCache) (a1 : Int) : Prop := I64 a1
def acc (ls : List L) : RCache × Int := ((RCache.dec ls), ((dropT 1 ls).headD .hole).toInt)
def R : (RCache × Int) → Option (Int × List (List L)) := RR (p2 gd) (u2 md)
theorem R_eq {a0} {a1} (h : gd a0 a1) : R ((MCache.r a0), a1) = some ((md a0 a1).1, ((md a0 a1).2.map MStored.row)) := RR_eq (a := (a0, a1)) h
def con : MCon := MN pats acc R
theorem okF (a0 : MCache) (a1 : Int) (hg : gd a0 a1) : F (MCache.r a0) a1 = ret (((md a0 a1).1, ((md a0 a1).2.map MStored.row)) : Int × List (List L)) := by
 unfold gd at hg
 simp only [F, S0, MKeys.rs, MCache.rs]
 unfold md
 refine call_to ((e1 a0 a1).1, ((e1 a0 a1).2.map MStored.row)) (Z205.R_eq (a0 := a0.fList) (a1 := a1) hg) ?_
 first | rfl | (simp only [S0, MKeys.rs, MCache.rs]; rfl)
theorem valid_ : MValid Tryz.prog Ev 36 con := MV (live := fun _ => []) (nt := 10) (run := fun _ x => F x.1 x.2) mix tab_ok .nil (.cons Z205.valid_ .nil) Tryz.func36 (by kernel_rfl) (fun _ _ => by kernel_rfl) (fun _ a _ _ hg => ⟨0, okF a.1 a.2 hg⟩)
theorem i64 {a0 : MCache} {a1 : Int} (hk : I64 a1) : I64 (md a0 a1).1 := (Z205.i64 hk)
theorem kk (x : MCache) (k : Int) (h0 : 0 ≤ k) (hb : k + (sum x : Int) ≤ 4611686018427387904) : (md x k).1 = k + sum x := by
 simp only [sum, Int.natCast_add] at hb ⊢
 simp (disch := omega) only [md, e1, wi, Z205.kk]
 all_goals first | done | omega
theorem sz (x : MCache) : sum x ≤ 60 * MCache.size x := by
  have := Z205.sz x.fList
  try simp only [sum, MCache.size] at *
  omega
def upd (x : MCache) (k : Int) : MCache := (⟨(md x k).2⟩ : MCache)
end Z206
namespace Z207
set_option maxHeartbeats 8000000
def F (x0 : REntry) (x1 : Int) : Ans := (call (Z204.R (x0.fPath, x1)) fun v1 => ret ((v1.1, v1.2) : Int × List (List L)))
def pats : List (Bool × List K) := [(true, [.str, .int .i64, .int .i64, .sl 9]), (false, [.int .i64])]
def res : RP := .chg [9]
def e1 (x : MEntry) (k : Int) := Z204.md x.fPath k
def sum (x : MEntry) : Nat := 0 + Z204.sum x.fPath
def md (a0 : MEntry) (a1 : Int) : Int × List ByteArray := ((e1 a0 a1).1, (e1 a0 a1).2)
def gd (a0 : MEntry) (a1 : Int) : Prop := I64 a1
def acc (ls : List L) : REntry × Int := ((REntry.dec ls), ((dropT 4 ls).headD .hole).toInt)
def R : (REntry × Int) → Option (Int × List (List L)) := RR (p2 gd) (u2 md)
theorem R_eq {a0} {a1} (h : gd a0 a1) : R ((MEntry.r a0), a1) = some ((md a0 a1).1, ((md a0 a1).2.map sRow)) := RR_eq (a := (a0, a1)) h
def con : MCon := MN pats acc R
theorem okF (a0 : MEntry) (a1 : Int) (hg : gd a0 a1) : F (MEntry.r a0) a1 = ret (((md a0 a1).1, ((md a0 a1).2.map sRow)) : Int × List (List L)) := by
 unfold gd at hg
 simp only [F, S0, MEntry.rs]
 unfold md
 refine call_to ((e1 a0 a1).1, ((e1 a0 a1).2.map sRow)) (Z204.R_eq (a0 := a0.fPath) (a1 := a1) hg) ?_
 first | rfl | (simp only [S0, MEntry.rs]; rfl)
theorem valid_ : MValid Tryz.prog Ev 115 con := MV (live := fun _ => []) (nt := 10) (run := fun _ x => F x.1 x.2) mix tab_ok .nil (.cons Z204.valid_ .nil) Tryz.func115 (by kernel_rfl) (fun _ _ => by kernel_rfl) (fun _ a _ _ hg => ⟨0, okF a.1 a.2 hg⟩)
theorem i64 {a0 : MEntry} {a1 : Int} (hk : I64 a1) : I64 (md a0 a1).1 := (Z204.i64 hk)
theorem kk (x : MEntry) (k : Int) (h0 : 0 ≤ k) (hb : k + (sum x : Int) ≤ 4611686018427387904) : (md x k).1 = k + sum x := by
 simp only [sum, Int.natCast_add] at hb ⊢
 simp (disch := omega) only [md, e1, wi, Z204.kk]
 all_goals first | done | omega
theorem sz (x : MEntry) : sum x ≤ 60 * MEntry.size x := by
  have := Z204.sz x.fPath
  try simp only [sum, MEntry.size] at *
  omega
end Z207
namespace Z208
set_option maxHeartbeats 8000000
def F (x0 : RProof) (x1 : Int) : Ans := (call (Z201.R (x0.fPath, x1)) fun v1 => ret ((v1.1, v1.2) : Int × List (List L)))
def pats : List (Bool × List K) := [(true, [.int .i64, .sl 3]), (false, [.int .i64])]
def res : RP := .chg [3]
def e1 (x : MProof) (k : Int) := Z201.md x.fPath k
def sum (x : MProof) : Nat := 0 + Z201.sum x.fPath
def md (a0 : MProof) (a1 : Int) : Int × List Int := ((e1 a0 a1).1, (e1 a0 a1).2)
def gd (a0 : MProof) (a1 : Int) : Prop := I64 a1
def acc (ls : List L) : RProof × Int := ((RProof.dec ls), ((dropT 2 ls).headD .hole).toInt)
def R : (RProof × Int) → Option (Int × List (List L)) := RR (p2 gd) (u2 md)
theorem R_eq {a0} {a1} (h : gd a0 a1) : R ((MProof.r a0), a1) = some ((md a0 a1).1, ((md a0 a1).2.map iRow)) := RR_eq (a := (a0, a1)) h
def con : MCon := MN pats acc R
theorem okF (a0 : MProof) (a1 : Int) (hg : gd a0 a1) : F (MProof.r a0) a1 = ret (((md a0 a1).1, ((md a0 a1).2.map iRow)) : Int × List (List L)) := by
 unfold gd at hg
 simp only [F, S0, MProof.rs]
 unfold md
 refine call_to ((e1 a0 a1).1, ((e1 a0 a1).2.map iRow)) (Z201.R_eq (a0 := a0.fPath) (a1 := a1) hg) ?_
 first | rfl | (simp only [S0, MProof.rs]; rfl)
theorem valid_ : MValid Tryz.prog Ev 116 con := MV (live := fun _ => []) (nt := 10) (run := fun _ x => F x.1 x.2) mix tab_ok .nil (.cons Z201.valid_ .nil) Tryz.func116 (by kernel_rfl) (fun _ _ => by kernel_rfl) (fun _ a _ _ hg => ⟨0, okF a.1 a.2 hg⟩)
theorem i64 {a0 : MProof} {a1 : Int} (hk : I64 a1) : I64 (md a0 a1).1 := (Z201.i64 hk)
theorem kk (x : MProof) (k : Int) (h0 : 0 ≤ k) (hb : k + (sum x : Int) ≤ 4611686018427387904) : (md x k).1 = k + sum x := by
 simp only [sum, Int.natCast_add] at hb ⊢
 simp (disch := omega) only [md, e1, wi, Z201.kk]
 all_goals first | done | omega
theorem sz (x : MProof) : sum x ≤ 60 * MProof.size x := by
  have := Z201.sz x.fPath
  try simp only [sum, MProof.size] at *
  omega
end Z208
namespace Z209
set_option maxHeartbeats 8000000
def F (x0 : RGap) (x1 : Int) : Ans := (call (Z207.R (x0.fBefore, x1)) fun v1 => (call (Z207.R (x0.fAfter, v1.1)) fun v2 => (call (Z208.R (x0.fLeft, v2.1)) fun v3 => (call (Z208.R (x0.fRight, v3.1)) fun v4 => ret ((v4.1, v1.2, v2.2, v3.2, v4.2) : Int × List (List L) × List (List L) × List (List L) × List (List L))))))
def pats : List (Bool × List K) := [(true, [.int .i64, .str, .int .i64, .int .i64, .sl 9, .str, .int .i64, .int .i64, .sl 9, .int .i64, .sl 3, .int .i64, .sl 3]), (false, [.int .i64])]
def res : RP := .chg [9, 9, 3, 3]
def e1 (x : MGap) (k : Int) := Z207.md x.fBefore k
def e2 (x : MGap) (k : Int) := Z207.md x.fAfter ((e1 x k).1)
def e3 (x : MGap) (k : Int) := Z208.md x.fLeft ((e2 x k).1)
def e4 (x : MGap) (k : Int) := Z208.md x.fRight ((e3 x k).1)
def sum (x : MGap) : Nat := 0 + Z207.sum x.fBefore + Z207.sum x.fAfter + Z208.sum x.fLeft + Z208.sum x.fRight
def md (a0 : MGap) (a1 : Int) : Int × List ByteArray × List ByteArray × List Int × List Int := ((e4 a0 a1).1, (e1 a0 a1).2, (e2 a0 a1).2, (e3 a0 a1).2, (e4 a0 a1).2)
def gd (a0 : MGap) (a1 : Int) : Prop := I64 a1
def acc (ls : List L) : RGap × Int := ((RGap.dec ls), ((dropT 13 ls).headD .hole).toInt)
def R : (RGap × Int) → Option (Int × List (List L) × List (List L) × List (List L) × List (List L)) := RR (p2 gd) (u2 md)
theorem R_eq {a0} {a1} (h : gd a0 a1) : R ((MGap.r a0), a1) = some ((md a0 a1).1, ((md a0 a1).2.1.map sRow), ((md a0 a1).2.2.1.map sRow), ((md a0 a1).2.2.2.1.map iRow), ((md a0 a1).2.2.2.2.map iRow)) := RR_eq (a := (a0, a1)) h
def con : MCon := MN pats acc R
theorem okF (a0 : MGap) (a1 : Int) (hg : gd a0 a1) : F (MGap.r a0) a1 = ret (((md a0 a1).1, ((md a0 a1).2.1.map sRow), ((md a0 a1).2.2.1.map sRow), ((md a0 a1).2.2.2.1.map iRow), ((md a0 a1).2.2.2.2.map iRow)) : Int × List (List L) × List (List L) × List (List L) × List (List L)) := by
 unfold gd at hg
 simp only [F, S0, MGap.rs]
 unfold md
 refine call_to ((e1 a0 a1).1, ((e1 a0 a1).2.map sRow)) (Z207.R_eq (a0 := a0.fBefore) (a1 := a1) hg) ?_
 refine call_to ((e2 a0 a1).1, ((e2 a0 a1).2.map sRow)) (Z207.R_eq (a0 := a0.fAfter) (a1 := (e1 a0 a1).1) (Z207.i64 hg)) ?_
 refine call_to ((e3 a0 a1).1, ((e3 a0 a1).2.map iRow)) (Z208.R_eq (a0 := a0.fLeft) (a1 := (e2 a0 a1).1) (Z207.i64 (Z207.i64 hg))) ?_
 refine call_to ((e4 a0 a1).1, ((e4 a0 a1).2.map iRow)) (Z208.R_eq (a0 := a0.fRight) (a1 := (e3 a0 a1).1) (Z208.i64 (Z207.i64 (Z207.i64 hg)))) ?_
 first | rfl | (simp only [S0, MGap.rs]; rfl)
theorem valid_ : MValid Tryz.prog Ev 117 con := MV (live := fun _ => []) (nt := 22) (run := fun _ x => F x.1 x.2) mix tab_ok .nil (.cons Z207.valid_ (.cons Z208.valid_ .nil)) Tryz.func117 (by kernel_rfl) (fun _ _ => by kernel_rfl) (fun _ a _ _ hg => ⟨0, okF a.1 a.2 hg⟩)
theorem i64 {a0 : MGap} {a1 : Int} (hk : I64 a1) : I64 (md a0 a1).1 := (Z208.i64 (Z208.i64 (Z207.i64 (Z207.i64 hk))))
theorem kk (x : MGap) (k : Int) (h0 : 0 ≤ k) (hb : k + (sum x : Int) ≤ 4611686018427387904) : (md x k).1 = k + sum x := by
 simp only [sum, Int.natCast_add] at hb ⊢
 simp (disch := omega) only [md, e1, e2, e3, e4, wi, Z207.kk, Z208.kk]
 all_goals first | done | omega
theorem sz (x : MGap) : sum x ≤ 60 * MGap.size x := by
  have := Z207.sz x.fBefore
  have := Z207.sz x.fAfter
  have := Z208.sz x.fLeft
  have := Z208.sz x.fRight
  try simp only [sum, MGap.size, MEntry.size, MProof.size] at *
  omega
end Z209
namespace Z210
set_option maxHeartbeats 8000000
def F (x0 : RAnswer) (x1 : Int) : Ans := (call (Z203.R (x0.fChain, x1)) fun v1 => (call (Z207.R (x0.fEntry, v1.1)) fun v2 => (call (Z208.R (x0.fProof, v2.1)) fun v3 => (call (Z209.R (x0.fGap, v3.1)) fun v4 => ret ((v4.1, v1.2, v2.2, v3.2, v4.2.1, v4.2.2.1, v4.2.2.2.1, v4.2.2.2.2) : Int × List (List L) × List (List L) × List (List L) × List (List L) × List (List L) × List (List L) × List (List L))))))
def pats : List (Bool × List K) := [(true, [.sl 122, .bool, .str, .int .i64, .int .i64, .sl 9, .int .i64, .sl 3, .int .i64, .str, .int .i64, .int .i64, .sl 9, .str, .int .i64, .int .i64, .sl 9, .int .i64, .sl 3, .int .i64, .sl 3]), (false, [.int .i64])]
def res : RP := .chg [122, 9, 3, 9, 9, 3, 3]
def e1 (x : MAnswer) (k : Int) := Z203.md x.fChain k
def e2 (x : MAnswer) (k : Int) := Z207.md x.fEntry ((e1 x k).1)
def e3 (x : MAnswer) (k : Int) := Z208.md x.fProof ((e2 x k).1)
def e4 (x : MAnswer) (k : Int) := Z209.md x.fGap ((e3 x k).1)
def sum (x : MAnswer) : Nat := 0 + Z203.sum x.fChain + Z207.sum x.fEntry + Z208.sum x.fProof + Z209.sum x.fGap
def md (a0 : MAnswer) (a1 : Int) : Int × List MSigned × List ByteArray × List Int × List ByteArray × List ByteArray × List Int × List Int := ((e4 a0 a1).1, (e1 a0 a1).2, (e2 a0 a1).2, (e3 a0 a1).2, (e4 a0 a1).2.1, (e4 a0 a1).2.2.1, (e4 a0 a1).2.2.2.1, (e4 a0 a1).2.2.2.2)
def gd (a0 : MAnswer) (a1 : Int) : Prop := I64 a1
def acc (ls : List L) : RAnswer × Int := ((RAnswer.dec ls), ((dropT 21 ls).headD .hole).toInt)
def R : (RAnswer × Int) → Option (Int × List (List L) × List (List L) × List (List L) × List (List L) × List (List L) × List (List L) × List (List L)) := RR (p2 gd) (u2 md)
theorem R_eq {a0} {a1} (h : gd a0 a1) : R ((MAnswer.r a0), a1) = some ((md a0 a1).1, ((md a0 a1).2.1.map MSigned.row), ((md a0 a1).2.2.1.map sRow), ((md a0 a1).2.2.2.1.map iRow), ((md a0 a1).2.2.2.2.1.map sRow), ((md a0 a1).2.2.2.2.2.1.map sRow), ((md a0 a1).2.2.2.2.2.2.1.map iRow), ((md a0 a1).2.2.2.2.2.2.2.map iRow)) := RR_eq (a := (a0, a1)) h
def con : MCon := MN pats acc R
theorem okF (a0 : MAnswer) (a1 : Int) (hg : gd a0 a1) : F (MAnswer.r a0) a1 = ret (((md a0 a1).1, ((md a0 a1).2.1.map MSigned.row), ((md a0 a1).2.2.1.map sRow), ((md a0 a1).2.2.2.1.map iRow), ((md a0 a1).2.2.2.2.1.map sRow), ((md a0 a1).2.2.2.2.2.1.map sRow), ((md a0 a1).2.2.2.2.2.2.1.map iRow), ((md a0 a1).2.2.2.2.2.2.2.map iRow)) : Int × List (List L) × List (List L) × List (List L) × List (List L) × List (List L) × List (List L) × List (List L)) := by
 unfold gd at hg
 simp only [F, S0, MAnswer.rs]
 unfold md
 refine call_to ((e1 a0 a1).1, ((e1 a0 a1).2.map MSigned.row)) (Z203.R_eq (a0 := a0.fChain) (a1 := a1) hg) ?_
 refine call_to ((e2 a0 a1).1, ((e2 a0 a1).2.map sRow)) (Z207.R_eq (a0 := a0.fEntry) (a1 := (e1 a0 a1).1) (Z203.i64 hg)) ?_
 refine call_to ((e3 a0 a1).1, ((e3 a0 a1).2.map iRow)) (Z208.R_eq (a0 := a0.fProof) (a1 := (e2 a0 a1).1) (Z207.i64 (Z203.i64 hg))) ?_
 refine call_to ((e4 a0 a1).1, ((e4 a0 a1).2.1.map sRow), ((e4 a0 a1).2.2.1.map sRow), ((e4 a0 a1).2.2.2.1.map iRow), ((e4 a0 a1).2.2.2.2.map iRow)) (Z209.R_eq (a0 := a0.fGap) (a1 := (e3 a0 a1).1) (Z208.i64 (Z207.i64 (Z203.i64 hg)))) ?_
 first | rfl | (simp only [S0, MAnswer.rs]; rfl)
theorem valid_ : MValid Tryz.prog Ev 43 con := MV (live := fun _ => []) (nt := 22) (run := fun _ x => F x.1 x.2) mix tab_ok .nil (.cons Z203.valid_ (.cons Z207.valid_ (.cons Z208.valid_ (.cons Z209.valid_ .nil)))) Tryz.func43 (by kernel_rfl) (fun _ _ => by kernel_rfl) (fun _ a _ _ hg => ⟨0, okF a.1 a.2 hg⟩)
theorem i64 {a0 : MAnswer} {a1 : Int} (hk : I64 a1) : I64 (md a0 a1).1 := (Z209.i64 (Z208.i64 (Z207.i64 (Z203.i64 hk))))
theorem kk (x : MAnswer) (k : Int) (h0 : 0 ≤ k) (hb : k + (sum x : Int) ≤ 4611686018427387904) : (md x k).1 = k + sum x := by
 simp only [sum, Int.natCast_add] at hb ⊢
 simp (disch := omega) only [md, e1, e2, e3, e4, wi, Z203.kk, Z207.kk, Z208.kk, Z209.kk]
 all_goals first | done | omega
theorem sz (x : MAnswer) : sum x ≤ 60 * MAnswer.size x := by
  have := Z203.sz x.fChain
  have := Z207.sz x.fEntry
  have := Z208.sz x.fProof
  have := Z209.sz x.fGap
  try simp only [sum, MAnswer.size, MEntry.size, MProof.size, MGap.size] at *
  omega
end Z210
namespace Z211
set_option maxHeartbeats 8000000
inductive Pt where
 | p0 (a : List (List L)) (b : Int) (c : Int)
def pid : Pt → Nat
 | .p0 .. => 2
def pvs : Pt → List V
 | .p0 a b c => [.sl none 3 a, .int .i64 b, .int .i64 c]
def phs : Pt → List Root
 | .p0 a b c => []
def step (J : Pt → Ans) : Pt → Ans
 | .p0 a b c => (bif (decide (c < (a.length : Int))) then (bif (decide ((0 : Int) ≤ c)) then (bif (decide (c < (a.length : Int))) then (bif ((iAt a (Int.toNat c)) != b) then ret ((-1) : Int) else J (.p0 a (IntKind.i64.wrap (b + 1)) (IntKind.i64.wrap (c + 1)))) else none) else none) else ret (b : Int))
def start (J : Pt → Ans) (x0 : List (List L)) (x1 : Int) : Ans := J (.p0 x0 x1 0)
def live : Nat → Live := fun i => match i with | 2 => [(0, none), (1, none), (5, none)] | _ => []
def pats : List Pat := [.rd (.sl 3), .rd (.int .i64)]
def res : RP := .one (.rd (.int .i64))
abbrev E : Env := { T := assoc Tab, G := conG [], nt := 21 }
theorem step_eq (I : Heads) (p : Pt) : enterC E live I (pid p) (bodyOf Tryz.f70) (stOf (live (pid p)) (pvs p) (phs p)) (doneK E Tryz.f70 res) = step (fun q => I (pid q) (pvs q) (phs q)) p := by
 cases p <;> kernel_rfl
theorem start_eq (I : Heads) (ls : List L) : runC E live I (bodyOf Tryz.f70) (initS pats ls) (doneK E Tryz.f70 res) = start (fun q => I (pid q) (pvs q) (phs q)) (ls.headD .hole).toSl ((dropT 1 ls).headD .hole).toInt := by kernel_rfl
theorem run_eq (n : Nat) (ls : List L) : runF E live Tryz.f70 res n (initS pats ls) = start (iter step n) (ls.headD .hole).toSl ((dropT 1 ls).headD .hole).toInt := runF_iter (id := pid) (vs := pvs) (hs := phs) (step := step) (start := fun J => start J (ls.headD .hole).toSl ((dropT 1 ls).headD .hole).toInt) step_eq (fun I => start_eq I ls) n
def f (x : Int) (k : Int) : Option Int := (bif (x != k) then none else (some (IntKind.i64.wrap (k + 1))))
theorem f_I (x : Int) (k k2 : Int) (hk : I64 k) (h : f x k = some k2) : I64 k2 := by
 unfold f at h
 have h := bif_some h
 injection h with h
 subst h
 exact (wrap_I64 _)
def md (a0 : List Int) (a1 : Int) : Int := heldM f a0 a1
def gd (a0 : List Int) (a1 : Int) : Prop := I64 a1
def acc (ls : List L) : List (List L) × Int := ((ls.headD .hole).toSl, ((dropT 1 ls).headD .hole).toInt)
def R : (List (List L) × Int) → Option Int := RR (p2 gd) (u2 md)
theorem R_eq {a0} {a1} (h : gd a0 a1) : R ((a0.map iRow), a1) = some (md a0 a1) := RR_eq (a := (a0, a1)) h
def con : Con := CN pats res acc R
theorem okF (a0 : List Int) (a1 : Int) (hg : gd a0 a1) (h0 : a0.length ≤ maxLen) : ∃ n, start (iter step n) (a0.map iRow) a1 = ret ((md a0 a1) : Int) := by
  unfold gd at hg
  show ∃ n, iter step n (Pt.p0 (a0.map iRow) a1 0) = _
  unfold md
  refine held_loop (f := f) (xs := a0) 0 I64 f_I (pt := fun i k => Pt.p0 (a0.map iRow) k (i : Int)) (fun J i k hi hk => ?_) (fun J k => ?_) hg
  · simp only [step, S0]
    refine yes_ret (lt_dec hi) ?_
    refine yes_ret zle_dec ?_
    refine yes_ret (lt_dec hi) ?_
    refine held_bif rfl ?_
    rw [wrap_succ hi h0]
    rfl
  · simp only [step, S0]
    refine no_ret (by apply decide_eq_false; omega) ?_
    rfl
theorem valid_ : Valid Tryz.prog Ev 70 con := VV (run := fun n x => start (iter step n) x.1 x.2) mix tab_ok .nil Tryz.func70 (by kernel_rfl) run_eq (fun ls a hl e hg => okF a.1 a.2 hg (by have h : (ls.headD .hole).toSl.length ≤ maxLen := hl.1.len; have e : a.1.map iRow = (ls.headD .hole).toSl := (congrArg (fun x => x.1) e.symm); rw [← e] at h; simpa using h))
theorem i64 {a0 : List Int} {a1 : Int} (h : I64 a1) : I64 (md a0 a1) := heldM_I f_I I64_neg h
theorem elh (x : Int) (k : Int) (h0 : 0 ≤ k) (hb : k + (Z201.cnt x : Int) ≤ 4611686018427387904) : f (Z201.el x k).2 k = some (k + Z201.cnt x) := by
 simp only [Z201.cnt, Int.natCast_add] at hb ⊢
 simp (disch := omega) only [Z201.el, f, wi, bne_self_eq_false, beq_self_eq_true, ba_refl, Bool.not_true, cond_false, dec_neg]
 all_goals first | done | omega | (congr 1 <;> omega)
theorem mk (a0 : List Int) (a1 : Int) (h0 : 0 ≤ a1) (hb : a1 + (Z201.sum a0 : Int) ≤ 4611686018427387904) : md (Z201.md a0 a1).2 a1 = a1 + Z201.sum a0 := held_mark Z201.elk elh a0 a1 h0 hb
end Z211
namespace Z212
set_option maxHeartbeats 8000000
inductive Pt where
 | p0 (a : List (List L)) (b : Int) (c : Int)
def pid : Pt → Nat
 | .p0 .. => 2
def pvs : Pt → List V
 | .p0 a b c => [.sl none 184 a, .int .i64 b, .int .i64 c]
def phs : Pt → List Root
 | .p0 a b c => []
def step (J : Pt → Ans) : Pt → Ans
 | .p0 a b c => (bif (decide (c < (a.length : Int))) then (bif (decide ((0 : Int) ≤ c)) then (bif (decide (c < (a.length : Int))) then (bif ((MSig.at a (Int.toNat c)).fKey != b) then ret ((-1) : Int) else (bif (decide ((0 : Int) ≤ c)) then (bif (decide (c < (a.length : Int))) then (bif ((MSig.at a (Int.toNat c)).fTag != (IntKind.i64.wrap (b + 1))) then ret ((-1) : Int) else J (.p0 a (IntKind.i64.wrap ((IntKind.i64.wrap (b + 1)) + 1)) (IntKind.i64.wrap (c + 1)))) else none) else none)) else none) else none) else ret (b : Int))
def start (J : Pt → Ans) (x0 : List (List L)) (x1 : Int) : Ans := J (.p0 x0 x1 0)
def live : Nat → Live := fun i => match i with | 2 => [(0, none), (1, none), (5, none)] | _ => []
def pats : List Pat := [.rd (.sl 184), .rd (.int .i64)]
def res : RP := .one (.rd (.int .i64))
abbrev E : Env := { T := assoc Tab, G := conG [], nt := 31 }
theorem step_eq (I : Heads) (p : Pt) : enterC E live I (pid p) (bodyOf Tryz.f151) (stOf (live (pid p)) (pvs p) (phs p)) (doneK E Tryz.f151 res) = step (fun q => I (pid q) (pvs q) (phs q)) p := by
 cases p <;> kernel_rfl
theorem start_eq (I : Heads) (ls : List L) : runC E live I (bodyOf Tryz.f151) (initS pats ls) (doneK E Tryz.f151 res) = start (fun q => I (pid q) (pvs q) (phs q)) (ls.headD .hole).toSl ((dropT 1 ls).headD .hole).toInt := by kernel_rfl
theorem run_eq (n : Nat) (ls : List L) : runF E live Tryz.f151 res n (initS pats ls) = start (iter step n) (ls.headD .hole).toSl ((dropT 1 ls).headD .hole).toInt := runF_iter (id := pid) (vs := pvs) (hs := phs) (step := step) (start := fun J => start J (ls.headD .hole).toSl ((dropT 1 ls).headD .hole).toInt) step_eq (fun I => start_eq I ls) n
def f (x : MSig) (k : Int) : Option Int := (bif (x.fKey != k) then none else (bif (x.fTag != (IntKind.i64.wrap (k + 1))) then none else (some (IntKind.i64.wrap ((IntKind.i64.wrap (k + 1)) + 1)))))
theorem f_I (x : MSig) (k k2 : Int) (hk : I64 k) (h : f x k = some k2) : I64 k2 := by
 unfold f at h
 have h := bif_some h
 have h := bif_some h
 injection h with h
 subst h
 exact (wrap_I64 _)
def md (a0 : List MSig) (a1 : Int) : Int := heldM f a0 a1
def gd (a0 : List MSig) (a1 : Int) : Prop := I64 a1
def acc (ls : List L) : List (List L) × Int := ((ls.headD .hole).toSl, ((dropT 1 ls).headD .hole).toInt)
def R : (List (List L) × Int) → Option Int := RR (p2 gd) (u2 md)
theorem R_eq {a0} {a1} (h : gd a0 a1) : R ((a0.map MSig.row), a1) = some (md a0 a1) := RR_eq (a := (a0, a1)) h
def con : Con := CN pats res acc R
theorem okF (a0 : List MSig) (a1 : Int) (hg : gd a0 a1) (h0 : a0.length ≤ maxLen) : ∃ n, start (iter step n) (a0.map MSig.row) a1 = ret ((md a0 a1) : Int) := by
  unfold gd at hg
  show ∃ n, iter step n (Pt.p0 (a0.map MSig.row) a1 0) = _
  unfold md
  refine held_loop (f := f) (xs := a0) MSig.zero I64 f_I (pt := fun i k => Pt.p0 (a0.map MSig.row) k (i : Int)) (fun J i k hi hk => ?_) (fun J k => ?_) hg
  · simp only [step, S0, MSig.rs]
    refine yes_ret (lt_dec hi) ?_
    refine yes_ret zle_dec ?_
    refine yes_ret (lt_dec hi) ?_
    refine held_bif rfl ?_
    refine yes_ret zle_dec ?_
    refine yes_ret (lt_dec hi) ?_
    refine held_bif rfl ?_
    rw [wrap_succ hi h0]
    rfl
  · simp only [step, S0, MSig.rs]
    refine no_ret (by apply decide_eq_false; omega) ?_
    rfl
theorem valid_ : Valid Tryz.prog Ev 151 con := VV (run := fun n x => start (iter step n) x.1 x.2) mix tab_ok .nil Tryz.func151 (by kernel_rfl) run_eq (fun ls a hl e hg => okF a.1 a.2 hg (by have h : (ls.headD .hole).toSl.length ≤ maxLen := hl.1.len; have e : a.1.map MSig.row = (ls.headD .hole).toSl := (congrArg (fun x => x.1) e.symm); rw [← e] at h; simpa using h))
theorem i64 {a0 : List MSig} {a1 : Int} (h : I64 a1) : I64 (md a0 a1) := heldM_I f_I I64_neg h
theorem elh (x : MSig) (k : Int) (h0 : 0 ≤ k) (hb : k + (Z202.cnt x : Int) ≤ 4611686018427387904) : f (Z202.el x k).2 k = some (k + Z202.cnt x) := by
 simp only [Z202.cnt, Int.natCast_add] at hb ⊢
 simp (disch := omega) only [Z202.el, f, wi, bne_self_eq_false, beq_self_eq_true, ba_refl, Bool.not_true, cond_false, dec_neg]
 all_goals first | done | omega | (congr 1 <;> omega)
theorem mk (a0 : List MSig) (a1 : Int) (h0 : 0 ≤ a1) (hb : a1 + (Z202.sum a0 : Int) ≤ 4611686018427387904) : md (Z202.md a0 a1).2 a1 = a1 + Z202.sum a0 := held_mark Z202.elk elh a0 a1 h0 hb
end Z212
namespace Z213
set_option maxHeartbeats 8000000
inductive Pt where
 | p0 (a : List (List L)) (b : Int) (c : Int)
def pid : Pt → Nat
 | .p0 .. => 2
def pvs : Pt → List V
 | .p0 a b c => [.sl none 122 a, .int .i64 b, .int .i64 c]
def phs : Pt → List Root
 | .p0 a b c => []
def step (J : Pt → Ans) : Pt → Ans
 | .p0 a b c => (bif (decide (c < (a.length : Int))) then (bif (decide ((0 : Int) ≤ c)) then (bif (decide (c < (a.length : Int))) then (bif ((RSigned.at a (Int.toNat c)).fHead.fZone != b) then ret ((-1) : Int) else (bif (decide ((0 : Int) ≤ c)) then (bif (decide (c < (a.length : Int))) then (bif ((RSigned.at a (Int.toNat c)).fHead.fEpoch != (IntKind.i64.wrap (b + 1))) then ret ((-1) : Int) else (bif (decide ((0 : Int) ≤ c)) then (bif (decide (c < (a.length : Int))) then (bif ((RSigned.at a (Int.toNat c)).fHead.fKind != (IntKind.i64.wrap ((IntKind.i64.wrap (b + 1)) + 1))) then ret ((-1) : Int) else (bif (decide ((0 : Int) ≤ c)) then (bif (decide (c < (a.length : Int))) then (bif ((RSigned.at a (Int.toNat c)).fHead.fTime != (IntKind.i64.wrap ((IntKind.i64.wrap ((IntKind.i64.wrap (b + 1)) + 1)) + 1))) then ret ((-1) : Int) else (bif (decide ((0 : Int) ≤ c)) then (bif (decide (c < (a.length : Int))) then (bif ((RSigned.at a (Int.toNat c)).fHead.fUntil != (IntKind.i64.wrap ((IntKind.i64.wrap ((IntKind.i64.wrap ((IntKind.i64.wrap (b + 1)) + 1)) + 1)) + 1))) then ret ((-1) : Int) else (bif (decide ((0 : Int) ≤ c)) then (bif (decide (c < (a.length : Int))) then (bif ((RSigned.at a (Int.toNat c)).fHead.fCount != (IntKind.i64.wrap ((IntKind.i64.wrap ((IntKind.i64.wrap ((IntKind.i64.wrap ((IntKind.i64.wrap (b + 1)) + 1)) + 1)) + 1)) + 1))) then ret ((-1) : Int) else (bif (decide ((0 : Int) ≤ c)) then (bif (decide (c < (a.length : Int))) then (bif ((RSigned.at a (Int.toNat c)).fHead.fRoot != (IntKind.i64.wrap ((IntKind.i64.wrap ((IntKind.i64.wrap ((IntKind.i64.wrap ((IntKind.i64.wrap ((IntKind.i64.wrap (b + 1)) + 1)) + 1)) + 1)) + 1)) + 1))) then ret ((-1) : Int) else (bif (decide ((0 : Int) ≤ c)) then (bif (decide (c < (a.length : Int))) then (bif ((RSigned.at a (Int.toNat c)).fHead.fPrev != (IntKind.i64.wrap ((IntKind.i64.wrap ((IntKind.i64.wrap ((IntKind.i64.wrap ((IntKind.i64.wrap ((IntKind.i64.wrap ((IntKind.i64.wrap (b + 1)) + 1)) + 1)) + 1)) + 1)) + 1)) + 1))) then ret ((-1) : Int) else (bif (decide ((0 : Int) ≤ c)) then (bif (decide (c < (a.length : Int))) then (call (Z211.R ((RSigned.at a (Int.toNat c)).fHead.fKeys.fList, (IntKind.i64.wrap ((IntKind.i64.wrap ((IntKind.i64.wrap ((IntKind.i64.wrap ((IntKind.i64.wrap ((IntKind.i64.wrap ((IntKind.i64.wrap ((IntKind.i64.wrap (b + 1)) + 1)) + 1)) + 1)) + 1)) + 1)) + 1)) + 1)))) fun v1 => (bif (decide (v1 < 0)) then ret ((-1) : Int) else (bif (decide ((0 : Int) ≤ c)) then (bif (decide (c < (a.length : Int))) then (bif ((RSigned.at a (Int.toNat c)).fHead.fKeys.fNeed != v1) then ret ((-1) : Int) else (bif (decide ((0 : Int) ≤ c)) then (bif (decide (c < (a.length : Int))) then (call (Z211.R ((RSigned.at a (Int.toNat c)).fHead.fHeirs.fList, (IntKind.i64.wrap (v1 + 1)))) fun v2 => (bif (decide (v2 < 0)) then ret ((-1) : Int) else (bif (decide ((0 : Int) ≤ c)) then (bif (decide (c < (a.length : Int))) then (bif ((RSigned.at a (Int.toNat c)).fHead.fHeirs.fNeed != v2) then ret ((-1) : Int) else (bif (decide ((0 : Int) ≤ c)) then (bif (decide (c < (a.length : Int))) then (bif ((RSigned.at a (Int.toNat c)).fHead.fWait != (IntKind.i64.wrap (v2 + 1))) then ret ((-1) : Int) else (bif (decide ((0 : Int) ≤ c)) then (bif (decide (c < (a.length : Int))) then (call (Z211.R ((RSigned.at a (Int.toNat c)).fHead.fJudge.fList, (IntKind.i64.wrap ((IntKind.i64.wrap (v2 + 1)) + 1)))) fun v3 => (bif (decide (v3 < 0)) then ret ((-1) : Int) else (bif (decide ((0 : Int) ≤ c)) then (bif (decide (c < (a.length : Int))) then (bif ((RSigned.at a (Int.toNat c)).fHead.fJudge.fNeed != v3) then ret ((-1) : Int) else (bif (decide ((0 : Int) ≤ c)) then (bif (decide (c < (a.length : Int))) then (bif (!((RSigned.at a (Int.toNat c)).fHead.fFrozen == ((Int.tmod (IntKind.i64.wrap (v3 + 1)) 3) == 0))) then ret ((-1) : Int) else (bif (decide ((0 : Int) ≤ c)) then (bif (decide (c < (a.length : Int))) then (call (Z212.R ((RSigned.at a (Int.toNat c)).fSigs, (IntKind.i64.wrap ((IntKind.i64.wrap (v3 + 1)) + 1)))) fun v4 => (bif (decide (v4 < 0)) then ret ((-1) : Int) else J (.p0 a v4 (IntKind.i64.wrap (c + 1))))) else none) else none)) else none) else none)) else none) else none))) else none) else none)) else none) else none)) else none) else none))) else none) else none)) else none) else none))) else none) else none)) else none) else none)) else none) else none)) else none) else none)) else none) else none)) else none) else none)) else none) else none)) else none) else none)) else none) else none) else ret (b : Int))
def start (J : Pt → Ans) (x0 : List (List L)) (x1 : Int) : Ans := J (.p0 x0 x1 0)
def live : Nat → Live := fun i => match i with | 2 => [(0, none), (1, none), (5, none)] | _ => []
def pats : List Pat := [.rd (.sl 122), .rd (.int .i64)]
def res : RP := .one (.rd (.int .i64))
abbrev E : Env := { T := assoc Tab, G := conG [(70, Z211.con), (151, Z212.con)], nt := 190 }
theorem step_eq (I : Heads) (p : Pt) : enterC E live I (pid p) (bodyOf Tryz.f150) (stOf (live (pid p)) (pvs p) (phs p)) (doneK E Tryz.f150 res) = step (fun q => I (pid q) (pvs q) (phs q)) p := by
 cases p <;> kernel_rfl
theorem start_eq (I : Heads) (ls : List L) : runC E live I (bodyOf Tryz.f150) (initS pats ls) (doneK E Tryz.f150 res) = start (fun q => I (pid q) (pvs q) (phs q)) (ls.headD .hole).toSl ((dropT 1 ls).headD .hole).toInt := by kernel_rfl
theorem run_eq (n : Nat) (ls : List L) : runF E live Tryz.f150 res n (initS pats ls) = start (iter step n) (ls.headD .hole).toSl ((dropT 1 ls).headD .hole).toInt := runF_iter (id := pid) (vs := pvs) (hs := phs) (step := step) (start := fun J => start J (ls.headD .hole).toSl ((dropT 1 ls).headD .hole).toInt) step_eq (fun I => start_eq I ls) n
def e1 (x : MSigned) (k : Int) := Z211.md (((x.fHead).fKeys).fList) (IntKind.i64.wrap ((IntKind.i64.wrap ((IntKind.i64.wrap ((IntKind.i64.wrap ((IntKind.i64.wrap ((IntKind.i64.wrap ((IntKind.i64.wrap ((IntKind.i64.wrap (k + 1)) + 1)) + 1)) + 1)) + 1)) + 1)) + 1)) + 1))
def e2 (x : MSigned) (k : Int) := Z211.md (((x.fHead).fHeirs).fList) (IntKind.i64.wrap ((e1 x k) + 1))
def e3 (x : MSigned) (k : Int) := Z211.md (((x.fHead).fJudge).fList) (IntKind.i64.wrap ((IntKind.i64.wrap ((e2 x k) + 1)) + 1))
def e4 (x : MSigned) (k : Int) := Z212.md x.fSigs (IntKind.i64.wrap ((IntKind.i64.wrap ((e3 x k) + 1)) + 1))
def f (x : MSigned) (k : Int) : Option Int := (bif ((x.fHead).fZone != k) then none else (bif ((x.fHead).fEpoch != (IntKind.i64.wrap (k + 1))) then none else (bif ((x.fHead).fKind != (IntKind.i64.wrap ((IntKind.i64.wrap (k + 1)) + 1))) then none else (bif ((x.fHead).fTime != (IntKind.i64.wrap ((IntKind.i64.wrap ((IntKind.i64.wrap (k + 1)) + 1)) + 1))) then none else (bif ((x.fHead).fUntil != (IntKind.i64.wrap ((IntKind.i64.wrap ((IntKind.i64.wrap ((IntKind.i64.wrap (k + 1)) + 1)) + 1)) + 1))) then none else (bif ((x.fHead).fCount != (IntKind.i64.wrap ((IntKind.i64.wrap ((IntKind.i64.wrap ((IntKind.i64.wrap ((IntKind.i64.wrap (k + 1)) + 1)) + 1)) + 1)) + 1))) then none else (bif ((x.fHead).fRoot != (IntKind.i64.wrap ((IntKind.i64.wrap ((IntKind.i64.wrap ((IntKind.i64.wrap ((IntKind.i64.wrap ((IntKind.i64.wrap (k + 1)) + 1)) + 1)) + 1)) + 1)) + 1))) then none else (bif ((x.fHead).fPrev != (IntKind.i64.wrap ((IntKind.i64.wrap ((IntKind.i64.wrap ((IntKind.i64.wrap ((IntKind.i64.wrap ((IntKind.i64.wrap ((IntKind.i64.wrap (k + 1)) + 1)) + 1)) + 1)) + 1)) + 1)) + 1))) then none else (bif (decide ((e1 x k) < 0)) then none else (bif (((x.fHead).fKeys).fNeed != (e1 x k)) then none else (bif (decide ((e2 x k) < 0)) then none else (bif (((x.fHead).fHeirs).fNeed != (e2 x k)) then none else (bif ((x.fHead).fWait != (IntKind.i64.wrap ((e2 x k) + 1))) then none else (bif (decide ((e3 x k) < 0)) then none else (bif (((x.fHead).fJudge).fNeed != (e3 x k)) then none else (bif (!((x.fHead).fFrozen == ((Int.tmod (IntKind.i64.wrap ((e3 x k) + 1)) 3) == 0))) then none else (bif (decide ((e4 x k) < 0)) then none else (some (e4 x k)))))))))))))))))))
theorem f_I (x : MSigned) (k k2 : Int) (hk : I64 k) (h : f x k = some k2) : I64 k2 := by
 unfold f at h
 have h := bif_some h
 have h := bif_some h
 have h := bif_some h
 have h := bif_some h
 have h := bif_some h
 have h := bif_some h
 have h := bif_some h
 have h := bif_some h
 have h := bif_some h
 have h := bif_some h
 have h := bif_some h
 have h := bif_some h
 have h := bif_some h
 have h := bif_some h
 have h := bif_some h
 have h := bif_some h
 have h := bif_some h
 injection h with h
 subst h
 exact (Z212.i64 (wrap_I64 _))
def md (a0 : List MSigned) (a1 : Int) : Int := heldM f a0 a1
def gd (a0 : List MSigned) (a1 : Int) : Prop := I64 a1
def acc (ls : List L) : List (List L) × Int := ((ls.headD .hole).toSl, ((dropT 1 ls).headD .hole).toInt)
def R : (List (List L) × Int) → Option Int := RR (p2 gd) (u2 md)
theorem R_eq {a0} {a1} (h : gd a0 a1) : R ((a0.map MSigned.row), a1) = some (md a0 a1) := RR_eq (a := (a0, a1)) h
def con : Con := CN pats res acc R
theorem okF (a0 : List MSigned) (a1 : Int) (hg : gd a0 a1) (h0 : a0.length ≤ maxLen) : ∃ n, start (iter step n) (a0.map MSigned.row) a1 = ret ((md a0 a1) : Int) := by
  unfold gd at hg
  show ∃ n, iter step n (Pt.p0 (a0.map MSigned.row) a1 0) = _
  unfold md
  refine held_loop (f := f) (xs := a0) MSigned.zero I64 f_I (pt := fun i k => Pt.p0 (a0.map MSigned.row) k (i : Int)) (fun J i k hi hk => ?_) (fun J k => ?_) hg
  · simp only [step, S0, MKeys.rs, MHead.rs, MSigned.rs]
    refine yes_ret (lt_dec hi) ?_
    refine yes_ret zle_dec ?_
    refine yes_ret (lt_dec hi) ?_
    refine held_bif rfl ?_
    refine yes_ret zle_dec ?_
    refine yes_ret (lt_dec hi) ?_
    refine held_bif rfl ?_
    refine yes_ret zle_dec ?_
    refine yes_ret (lt_dec hi) ?_
    refine held_bif rfl ?_
    refine yes_ret zle_dec ?_
    refine yes_ret (lt_dec hi) ?_
    refine held_bif rfl ?_
    refine yes_ret zle_dec ?_
    refine yes_ret (lt_dec hi) ?_
    refine held_bif rfl ?_
    refine yes_ret zle_dec ?_
    refine yes_ret (lt_dec hi) ?_
    refine held_bif rfl ?_
    refine yes_ret zle_dec ?_
    refine yes_ret (lt_dec hi) ?_
    refine held_bif rfl ?_
    refine yes_ret zle_dec ?_
    refine yes_ret (lt_dec hi) ?_
    refine held_bif rfl ?_
    refine yes_ret zle_dec ?_
    refine yes_ret (lt_dec hi) ?_
    refine call_to (e1 (a0.getD i MSigned.zero) k) (Z211.R_eq (a0 := (((a0.getD i MSigned.zero).fHead).fKeys).fList) (a1 := IntKind.i64.wrap ((IntKind.i64.wrap ((IntKind.i64.wrap ((IntKind.i64.wrap ((IntKind.i64.wrap ((IntKind.i64.wrap ((IntKind.i64.wrap ((IntKind.i64.wrap (k + 1)) + 1)) + 1)) + 1)) + 1)) + 1)) + 1)) + 1)) (wrap_I64 _)) ?_
    refine held_bif rfl ?_
    refine yes_ret zle_dec ?_
    refine yes_ret (lt_dec hi) ?_
    refine held_bif rfl ?_
    refine yes_ret zle_dec ?_
    refine yes_ret (lt_dec hi) ?_
    refine call_to (e2 (a0.getD i MSigned.zero) k) (Z211.R_eq (a0 := (((a0.getD i MSigned.zero).fHead).fHeirs).fList) (a1 := IntKind.i64.wrap ((e1 (a0.getD i MSigned.zero) k) + 1)) (wrap_I64 _)) ?_
    refine held_bif rfl ?_
    refine yes_ret zle_dec ?_
    refine yes_ret (lt_dec hi) ?_
    refine held_bif rfl ?_
    refine yes_ret zle_dec ?_
    refine yes_ret (lt_dec hi) ?_
    refine held_bif rfl ?_
    refine yes_ret zle_dec ?_
    refine yes_ret (lt_dec hi) ?_
    refine call_to (e3 (a0.getD i MSigned.zero) k) (Z211.R_eq (a0 := (((a0.getD i MSigned.zero).fHead).fJudge).fList) (a1 := IntKind.i64.wrap ((IntKind.i64.wrap ((e2 (a0.getD i MSigned.zero) k) + 1)) + 1)) (wrap_I64 _)) ?_
    refine held_bif rfl ?_
    refine yes_ret zle_dec ?_
    refine yes_ret (lt_dec hi) ?_
    refine held_bif rfl ?_
    refine yes_ret zle_dec ?_
    refine yes_ret (lt_dec hi) ?_
    refine held_bif rfl ?_
    refine yes_ret zle_dec ?_
    refine yes_ret (lt_dec hi) ?_
    refine call_to (e4 (a0.getD i MSigned.zero) k) (Z212.R_eq (a0 := (a0.getD i MSigned.zero).fSigs) (a1 := IntKind.i64.wrap ((IntKind.i64.wrap ((e3 (a0.getD i MSigned.zero) k) + 1)) + 1)) (wrap_I64 _)) ?_
    refine held_bif rfl ?_
    rw [wrap_succ hi h0]
    rfl
  · simp only [step, S0, MKeys.rs, MHead.rs, MSigned.rs]
    refine no_ret (by apply decide_eq_false; omega) ?_
    rfl
theorem valid_ : Valid Tryz.prog Ev 150 con := VV (run := fun n x => start (iter step n) x.1 x.2) mix tab_ok (.cons Z211.valid_ (.cons Z212.valid_ .nil)) Tryz.func150 (by kernel_rfl) run_eq (fun ls a hl e hg => okF a.1 a.2 hg (by have h : (ls.headD .hole).toSl.length ≤ maxLen := hl.1.len; have e : a.1.map MSigned.row = (ls.headD .hole).toSl := (congrArg (fun x => x.1) e.symm); rw [← e] at h; simpa using h))
theorem i64 {a0 : List MSigned} {a1 : Int} (h : I64 a1) : I64 (md a0 a1) := heldM_I f_I I64_neg h
theorem elh (x : MSigned) (k : Int) (h0 : 0 ≤ k) (hb : k + (Z203.cnt x : Int) ≤ 4611686018427387904) : f (Z203.el x k).2 k = some (k + Z203.cnt x) := by
 simp only [Z203.cnt, Int.natCast_add] at hb ⊢
 simp (disch := omega) only [Z203.el, f, Z203.e1, Z203.e2, Z203.e3, Z203.e4, e1, e2, e3, e4, wi, Z201.kk, Z211.mk, Z202.kk, Z212.mk, bne_self_eq_false, beq_self_eq_true, ba_refl, Bool.not_true, cond_false, dec_neg]
 all_goals first | done | omega | (congr 1 <;> omega)
theorem mk (a0 : List MSigned) (a1 : Int) (h0 : 0 ≤ a1) (hb : a1 + (Z203.sum a0 : Int) ≤ 4611686018427387904) : md (Z203.md a0 a1).2 a1 = a1 + Z203.sum a0 := held_mark Z203.elk elh a0 a1 h0 hb
end Z213
namespace Z214
set_option maxHeartbeats 8000000
inductive Pt where
 | p0 (a : List (List L)) (b : Int) (c : Int)
def pid : Pt → Nat
 | .p0 .. => 2
def pvs : Pt → List V
 | .p0 a b c => [.sl none 9 a, .int .i64 b, .int .i64 c]
def phs : Pt → List Root
 | .p0 a b c => []
def step (J : Pt → Ans) : Pt → Ans
 | .p0 a b c => (bif (decide (c < (a.length : Int))) then (bif (decide ((0 : Int) ≤ c)) then (bif (decide (c < (a.length : Int))) then (call (Z200.R b) fun v1 => (bif (!((sAt a (Int.toNat c)) == v1)) then ret ((-1) : Int) else J (.p0 a (IntKind.i64.wrap (b + 1)) (IntKind.i64.wrap (c + 1))))) else none) else none) else ret (b : Int))
def start (J : Pt → Ans) (x0 : List (List L)) (x1 : Int) : Ans := J (.p0 x0 x1 0)
def live : Nat → Live := fun i => match i with | 2 => [(0, none), (1, none), (5, none)] | _ => []
def pats : List Pat := [.rd (.sl 9), .rd (.int .i64)]
def res : RP := .one (.rd (.int .i64))
abbrev E : Env := { T := assoc Tab, G := conG [(60, Z200.con)], nt := 22 }
theorem step_eq (I : Heads) (p : Pt) : enterC E live I (pid p) (bodyOf Tryz.f164) (stOf (live (pid p)) (pvs p) (phs p)) (doneK E Tryz.f164 res) = step (fun q => I (pid q) (pvs q) (phs q)) p := by
 cases p <;> kernel_rfl
theorem start_eq (I : Heads) (ls : List L) : runC E live I (bodyOf Tryz.f164) (initS pats ls) (doneK E Tryz.f164 res) = start (fun q => I (pid q) (pvs q) (phs q)) (ls.headD .hole).toSl ((dropT 1 ls).headD .hole).toInt := by kernel_rfl
theorem run_eq (n : Nat) (ls : List L) : runF E live Tryz.f164 res n (initS pats ls) = start (iter step n) (ls.headD .hole).toSl ((dropT 1 ls).headD .hole).toInt := runF_iter (id := pid) (vs := pvs) (hs := phs) (step := step) (start := fun J => start J (ls.headD .hole).toSl ((dropT 1 ls).headD .hole).toInt) step_eq (fun I => start_eq I ls) n
def f (x : ByteArray) (k : Int) : Option Int := (bif (!(x == (Z200.md k))) then none else (some (IntKind.i64.wrap (k + 1))))
theorem f_I (x : ByteArray) (k k2 : Int) (hk : I64 k) (h : f x k = some k2) : I64 k2 := by
 unfold f at h
 have h := bif_some h
 injection h with h
 subst h
 exact (wrap_I64 _)
def md (a0 : List ByteArray) (a1 : Int) : Int := heldM f a0 a1
def gd (a0 : List ByteArray) (a1 : Int) : Prop := I64 a1
def acc (ls : List L) : List (List L) × Int := ((ls.headD .hole).toSl, ((dropT 1 ls).headD .hole).toInt)
def R : (List (List L) × Int) → Option Int := RR (p2 gd) (u2 md)
theorem R_eq {a0} {a1} (h : gd a0 a1) : R ((a0.map sRow), a1) = some (md a0 a1) := RR_eq (a := (a0, a1)) h
def con : Con := CN pats res acc R
theorem okF (a0 : List ByteArray) (a1 : Int) (hg : gd a0 a1) (h0 : a0.length ≤ maxLen) : ∃ n, start (iter step n) (a0.map sRow) a1 = ret ((md a0 a1) : Int) := by
  unfold gd at hg
  show ∃ n, iter step n (Pt.p0 (a0.map sRow) a1 0) = _
  unfold md
  refine held_loop (f := f) (xs := a0) ⟨#[]⟩ I64 f_I (pt := fun i k => Pt.p0 (a0.map sRow) k (i : Int)) (fun J i k hi hk => ?_) (fun J k => ?_) hg
  · simp only [step, S0]
    refine yes_ret (lt_dec hi) ?_
    refine yes_ret zle_dec ?_
    refine yes_ret (lt_dec hi) ?_
    refine call_to (Z200.md k) (Z200.R_eq (a0 := k) hk) ?_
    refine held_bif rfl ?_
    rw [wrap_succ hi h0]
    rfl
  · simp only [step, S0]
    refine no_ret (by apply decide_eq_false; omega) ?_
    rfl
theorem valid_ : Valid Tryz.prog Ev 164 con := VV (run := fun n x => start (iter step n) x.1 x.2) mix tab_ok (.cons Z200.valid_ .nil) Tryz.func164 (by kernel_rfl) run_eq (fun ls a hl e hg => okF a.1 a.2 hg (by have h : (ls.headD .hole).toSl.length ≤ maxLen := hl.1.len; have e : a.1.map sRow = (ls.headD .hole).toSl := (congrArg (fun x => x.1) e.symm); rw [← e] at h; simpa using h))
theorem i64 {a0 : List ByteArray} {a1 : Int} (h : I64 a1) : I64 (md a0 a1) := heldM_I f_I I64_neg h
theorem elh (x : ByteArray) (k : Int) (h0 : 0 ≤ k) (hb : k + (Z204.cnt x : Int) ≤ 4611686018427387904) : f (Z204.el x k).2 k = some (k + Z204.cnt x) := by
 simp only [Z204.cnt, Int.natCast_add] at hb ⊢
 simp (disch := omega) only [Z204.el, f, wi, bne_self_eq_false, beq_self_eq_true, ba_refl, Bool.not_true, cond_false, dec_neg]
 all_goals first | done | omega | (congr 1 <;> omega)
theorem mk (a0 : List ByteArray) (a1 : Int) (h0 : 0 ≤ a1) (hb : a1 + (Z204.sum a0 : Int) ≤ 4611686018427387904) : md (Z204.md a0 a1).2 a1 = a1 + Z204.sum a0 := held_mark Z204.elk elh a0 a1 h0 hb
end Z214
namespace Z215
set_option maxHeartbeats 8000000
inductive Pt where
 | p0 (a : List (List L)) (b : Int) (c : Int)
def pid : Pt → Nat
 | .p0 .. => 2
def pvs : Pt → List V
 | .p0 a b c => [.sl none 148 a, .int .i64 b, .int .i64 c]
def phs : Pt → List Root
 | .p0 a b c => []
def step (J : Pt → Ans) : Pt → Ans
 | .p0 a b c => (bif (decide (c < (a.length : Int))) then (bif (decide ((0 : Int) ≤ c)) then (bif (decide (c < (a.length : Int))) then (bif ((RStored.at a (Int.toNat c)).fZone != b) then ret ((-1) : Int) else (bif (decide ((0 : Int) ≤ c)) then (bif (decide (c < (a.length : Int))) then (call (Z200.R (IntKind.i64.wrap (b + 1))) fun v1 => (bif (!((RStored.at a (Int.toNat c)).fLabel == v1)) then ret ((-1) : Int) else (bif (decide ((0 : Int) ≤ c)) then (bif (decide (c < (a.length : Int))) then (call (Z213.R ((RStored.at a (Int.toNat c)).fAnswer.fChain, (IntKind.i64.wrap ((IntKind.i64.wrap (b + 1)) + 1)))) fun v2 => (bif (decide (v2 < 0)) then ret ((-1) : Int) else (bif (decide ((0 : Int) ≤ c)) then (bif (decide (c < (a.length : Int))) then (bif (!((RStored.at a (Int.toNat c)).fAnswer.fFound == ((Int.tmod v2 3) == 0))) then ret ((-1) : Int) else (bif (decide ((0 : Int) ≤ c)) then (bif (decide (c < (a.length : Int))) then (call (Z200.R (IntKind.i64.wrap (v2 + 1))) fun v3 => (bif (!((RStored.at a (Int.toNat c)).fAnswer.fEntry.fLabel == v3)) then ret ((-1) : Int) else (bif (decide ((0 : Int) ≤ c)) then (bif (decide (c < (a.length : Int))) then (bif ((RStored.at a (Int.toNat c)).fAnswer.fEntry.fKind != (IntKind.i64.wrap ((IntKind.i64.wrap (v2 + 1)) + 1))) then ret ((-1) : Int) else (bif (decide ((0 : Int) ≤ c)) then (bif (decide (c < (a.length : Int))) then (bif ((RStored.at a (Int.toNat c)).fAnswer.fEntry.fValue != (IntKind.i64.wrap ((IntKind.i64.wrap ((IntKind.i64.wrap (v2 + 1)) + 1)) + 1))) then ret ((-1) : Int) else (bif (decide ((0 : Int) ≤ c)) then (bif (decide (c < (a.length : Int))) then (call (Z214.R ((RStored.at a (Int.toNat c)).fAnswer.fEntry.fPath, (IntKind.i64.wrap ((IntKind.i64.wrap ((IntKind.i64.wrap ((IntKind.i64.wrap (v2 + 1)) + 1)) + 1)) + 1)))) fun v4 => (bif (decide (v4 < 0)) then ret ((-1) : Int) else (bif (decide ((0 : Int) ≤ c)) then (bif (decide (c < (a.length : Int))) then (bif ((RStored.at a (Int.toNat c)).fAnswer.fProof.fAt != v4) then ret ((-1) : Int) else (bif (decide ((0 : Int) ≤ c)) then (bif (decide (c < (a.length : Int))) then (call (Z211.R ((RStored.at a (Int.toNat c)).fAnswer.fProof.fPath, (IntKind.i64.wrap (v4 + 1)))) fun v5 => (bif (decide (v5 < 0)) then ret ((-1) : Int) else (bif (decide ((0 : Int) ≤ c)) then (bif (decide (c < (a.length : Int))) then (bif ((RStored.at a (Int.toNat c)).fAnswer.fGap.fAt != v5) then ret ((-1) : Int) else (bif (decide ((0 : Int) ≤ c)) then (bif (decide (c < (a.length : Int))) then (call (Z200.R (IntKind.i64.wrap (v5 + 1))) fun v6 => (bif (!((RStored.at a (Int.toNat c)).fAnswer.fGap.fBefore.fLabel == v6)) then ret ((-1) : Int) else (bif (decide ((0 : Int) ≤ c)) then (bif (decide (c < (a.length : Int))) then (bif ((RStored.at a (Int.toNat c)).fAnswer.fGap.fBefore.fKind != (IntKind.i64.wrap ((IntKind.i64.wrap (v5 + 1)) + 1))) then ret ((-1) : Int) else (bif (decide ((0 : Int) ≤ c)) then (bif (decide (c < (a.length : Int))) then (bif ((RStored.at a (Int.toNat c)).fAnswer.fGap.fBefore.fValue != (IntKind.i64.wrap ((IntKind.i64.wrap ((IntKind.i64.wrap (v5 + 1)) + 1)) + 1))) then ret ((-1) : Int) else (bif (decide ((0 : Int) ≤ c)) then (bif (decide (c < (a.length : Int))) then (call (Z214.R ((RStored.at a (Int.toNat c)).fAnswer.fGap.fBefore.fPath, (IntKind.i64.wrap ((IntKind.i64.wrap ((IntKind.i64.wrap ((IntKind.i64.wrap (v5 + 1)) + 1)) + 1)) + 1)))) fun v7 => (bif (decide (v7 < 0)) then ret ((-1) : Int) else (bif (decide ((0 : Int) ≤ c)) then (bif (decide (c < (a.length : Int))) then (call (Z200.R v7) fun v8 => (bif (!((RStored.at a (Int.toNat c)).fAnswer.fGap.fAfter.fLabel == v8)) then ret ((-1) : Int) else (bif (decide ((0 : Int) ≤ c)) then (bif (decide (c < (a.length : Int))) then (bif ((RStored.at a (Int.toNat c)).fAnswer.fGap.fAfter.fKind != (IntKind.i64.wrap (v7 + 1))) then ret ((-1) : Int) else (bif (decide ((0 : Int) ≤ c)) then (bif (decide (c < (a.length : Int))) then (bif ((RStored.at a (Int.toNat c)).fAnswer.fGap.fAfter.fValue != (IntKind.i64.wrap ((IntKind.i64.wrap (v7 + 1)) + 1))) then ret ((-1) : Int) else (bif (decide ((0 : Int) ≤ c)) then (bif (decide (c < (a.length : Int))) then (call (Z214.R ((RStored.at a (Int.toNat c)).fAnswer.fGap.fAfter.fPath, (IntKind.i64.wrap ((IntKind.i64.wrap ((IntKind.i64.wrap (v7 + 1)) + 1)) + 1)))) fun v9 => (bif (decide (v9 < 0)) then ret ((-1) : Int) else (bif (decide ((0 : Int) ≤ c)) then (bif (decide (c < (a.length : Int))) then (bif ((RStored.at a (Int.toNat c)).fAnswer.fGap.fLeft.fAt != v9) then ret ((-1) : Int) else (bif (decide ((0 : Int) ≤ c)) then (bif (decide (c < (a.length : Int))) then (call (Z211.R ((RStored.at a (Int.toNat c)).fAnswer.fGap.fLeft.fPath, (IntKind.i64.wrap (v9 + 1)))) fun v10 => (bif (decide (v10 < 0)) then ret ((-1) : Int) else (bif (decide ((0 : Int) ≤ c)) then (bif (decide (c < (a.length : Int))) then (bif ((RStored.at a (Int.toNat c)).fAnswer.fGap.fRight.fAt != v10) then ret ((-1) : Int) else (bif (decide ((0 : Int) ≤ c)) then (bif (decide (c < (a.length : Int))) then (call (Z211.R ((RStored.at a (Int.toNat c)).fAnswer.fGap.fRight.fPath, (IntKind.i64.wrap (v10 + 1)))) fun v11 => (bif (decide (v11 < 0)) then ret ((-1) : Int) else J (.p0 a v11 (IntKind.i64.wrap (c + 1))))) else none) else none)) else none) else none))) else none) else none)) else none) else none))) else none) else none)) else none) else none)) else none) else none))) else none) else none))) else none) else none)) else none) else none)) else none) else none))) else none) else none)) else none) else none))) else none) else none)) else none) else none))) else none) else none)) else none) else none)) else none) else none))) else none) else none)) else none) else none))) else none) else none))) else none) else none)) else none) else none) else ret (b : Int))
def start (J : Pt → Ans) (x0 : List (List L)) (x1 : Int) : Ans := J (.p0 x0 x1 0)
def live : Nat → Live := fun i => match i with | 2 => [(0, none), (1, none), (5, none)] | _ => []
def pats : List Pat := [.rd (.sl 148), .rd (.int .i64)]
def res : RP := .one (.rd (.int .i64))
abbrev E : Env := { T := assoc Tab, G := conG [(60, Z200.con), (150, Z213.con), (164, Z214.con), (70, Z211.con)], nt := 278 }
theorem step_eq (I : Heads) (p : Pt) : enterC E live I (pid p) (bodyOf Tryz.f101) (stOf (live (pid p)) (pvs p) (phs p)) (doneK E Tryz.f101 res) = step (fun q => I (pid q) (pvs q) (phs q)) p := by
 cases p <;> kernel_rfl
theorem start_eq (I : Heads) (ls : List L) : runC E live I (bodyOf Tryz.f101) (initS pats ls) (doneK E Tryz.f101 res) = start (fun q => I (pid q) (pvs q) (phs q)) (ls.headD .hole).toSl ((dropT 1 ls).headD .hole).toInt := by kernel_rfl
theorem run_eq (n : Nat) (ls : List L) : runF E live Tryz.f101 res n (initS pats ls) = start (iter step n) (ls.headD .hole).toSl ((dropT 1 ls).headD .hole).toInt := runF_iter (id := pid) (vs := pvs) (hs := phs) (step := step) (start := fun J => start J (ls.headD .hole).toSl ((dropT 1 ls).headD .hole).toInt) step_eq (fun I => start_eq I ls) n
def e1 (x : MStored) (k : Int) := Z213.md ((x.fAnswer).fChain) (IntKind.i64.wrap ((IntKind.i64.wrap (k + 1)) + 1))
def e2 (x : MStored) (k : Int) := Z214.md (((x.fAnswer).fEntry).fPath) (IntKind.i64.wrap ((IntKind.i64.wrap ((IntKind.i64.wrap ((IntKind.i64.wrap ((e1 x k) + 1)) + 1)) + 1)) + 1))
def e3 (x : MStored) (k : Int) := Z211.md (((x.fAnswer).fProof).fPath) (IntKind.i64.wrap ((e2 x k) + 1))
def e4 (x : MStored) (k : Int) := Z214.md ((((x.fAnswer).fGap).fBefore).fPath) (IntKind.i64.wrap ((IntKind.i64.wrap ((IntKind.i64.wrap ((IntKind.i64.wrap ((e3 x k) + 1)) + 1)) + 1)) + 1))
def e5 (x : MStored) (k : Int) := Z214.md ((((x.fAnswer).fGap).fAfter).fPath) (IntKind.i64.wrap ((IntKind.i64.wrap ((IntKind.i64.wrap ((e4 x k) + 1)) + 1)) + 1))
def e6 (x : MStored) (k : Int) := Z211.md ((((x.fAnswer).fGap).fLeft).fPath) (IntKind.i64.wrap ((e5 x k) + 1))
def e7 (x : MStored) (k : Int) := Z211.md ((((x.fAnswer).fGap).fRight).fPath) (IntKind.i64.wrap ((e6 x k) + 1))
def f (x : MStored) (k : Int) : Option Int := (bif (x.fZone != k) then none else (bif (!(x.fLabel == (Z200.md (IntKind.i64.wrap (k + 1))))) then none else (bif (decide ((e1 x k) < 0)) then none else (bif (!((x.fAnswer).fFound == ((Int.tmod (e1 x k) 3) == 0))) then none else (bif (!(((x.fAnswer).fEntry).fLabel == (Z200.md (IntKind.i64.wrap ((e1 x k) + 1))))) then none else (bif (((x.fAnswer).fEntry).fKind != (IntKind.i64.wrap ((IntKind.i64.wrap ((e1 x k) + 1)) + 1))) then none else (bif (((x.fAnswer).fEntry).fValue != (IntKind.i64.wrap ((IntKind.i64.wrap ((IntKind.i64.wrap ((e1 x k) + 1)) + 1)) + 1))) then none else (bif (decide ((e2 x k) < 0)) then none else (bif (((x.fAnswer).fProof).fAt != (e2 x k)) then none else (bif (decide ((e3 x k) < 0)) then none else (bif (((x.fAnswer).fGap).fAt != (e3 x k)) then none else (bif (!((((x.fAnswer).fGap).fBefore).fLabel == (Z200.md (IntKind.i64.wrap ((e3 x k) + 1))))) then none else (bif ((((x.fAnswer).fGap).fBefore).fKind != (IntKind.i64.wrap ((IntKind.i64.wrap ((e3 x k) + 1)) + 1))) then none else (bif ((((x.fAnswer).fGap).fBefore).fValue != (IntKind.i64.wrap ((IntKind.i64.wrap ((IntKind.i64.wrap ((e3 x k) + 1)) + 1)) + 1))) then none else (bif (decide ((e4 x k) < 0)) then none else (bif (!((((x.fAnswer).fGap).fAfter).fLabel == (Z200.md (e4 x k)))) then none else (bif ((((x.fAnswer).fGap).fAfter).fKind != (IntKind.i64.wrap ((e4 x k) + 1))) then none else (bif ((((x.fAnswer).fGap).fAfter).fValue != (IntKind.i64.wrap ((IntKind.i64.wrap ((e4 x k) + 1)) + 1))) then none else (bif (decide ((e5 x k) < 0)) then none else (bif ((((x.fAnswer).fGap).fLeft).fAt != (e5 x k)) then none else (bif (decide ((e6 x k) < 0)) then none else (bif ((((x.fAnswer).fGap).fRight).fAt != (e6 x k)) then none else (bif (decide ((e7 x k) < 0)) then none else (some (e7 x k)))))))))))))))))))))))))
theorem f_I (x : MStored) (k k2 : Int) (hk : I64 k) (h : f x k = some k2) : I64 k2 := by
 unfold f at h
 have h := bif_some h
 have h := bif_some h
 have h := bif_some h
 have h := bif_some h
 have h := bif_some h
 have h := bif_some h
 have h := bif_some h
 have h := bif_some h
 have h := bif_some h
 have h := bif_some h
 have h := bif_some h
 have h := bif_some h
 have h := bif_some h
 have h := bif_some h
 have h := bif_some h
 have h := bif_some h
 have h := bif_some h
 have h := bif_some h
 have h := bif_some h
 have h := bif_some h
 have h := bif_some h
 have h := bif_some h
 have h := bif_some h
 injection h with h
 subst h
 exact (Z211.i64 (wrap_I64 _))
def md (a0 : List MStored) (a1 : Int) : Int := heldM f a0 a1
def gd (a0 : List MStored) (a1 : Int) : Prop := I64 a1
def acc (ls : List L) : List (List L) × Int := ((ls.headD .hole).toSl, ((dropT 1 ls).headD .hole).toInt)
def R : (List (List L) × Int) → Option Int := RR (p2 gd) (u2 md)
theorem R_eq {a0} {a1} (h : gd a0 a1) : R ((a0.map MStored.row), a1) = some (md a0 a1) := RR_eq (a := (a0, a1)) h
def con : Con := CN pats res acc R
theorem okF (a0 : List MStored) (a1 : Int) (hg : gd a0 a1) (h0 : a0.length ≤ maxLen) : ∃ n, start (iter step n) (a0.map MStored.row) a1 = ret ((md a0 a1) : Int) := by
  unfold gd at hg
  show ∃ n, iter step n (Pt.p0 (a0.map MStored.row) a1 0) = _
  unfold md
  refine held_loop (f := f) (xs := a0) MStored.zero I64 f_I (pt := fun i k => Pt.p0 (a0.map MStored.row) k (i : Int)) (fun J i k hi hk => ?_) (fun J k => ?_) hg
  · simp only [step, S0, MHead.rs, MEntry.rs, MProof.rs, MGap.rs, MAnswer.rs, MStored.rs]
    refine yes_ret (lt_dec hi) ?_
    refine yes_ret zle_dec ?_
    refine yes_ret (lt_dec hi) ?_
    refine held_bif rfl ?_
    refine yes_ret zle_dec ?_
    refine yes_ret (lt_dec hi) ?_
    refine call_to (Z200.md (IntKind.i64.wrap (k + 1))) (Z200.R_eq (a0 := IntKind.i64.wrap (k + 1)) (wrap_I64 _)) ?_
    refine held_bif rfl ?_
    refine yes_ret zle_dec ?_
    refine yes_ret (lt_dec hi) ?_
    refine call_to (e1 (a0.getD i MStored.zero) k) (Z213.R_eq (a0 := ((a0.getD i MStored.zero).fAnswer).fChain) (a1 := IntKind.i64.wrap ((IntKind.i64.wrap (k + 1)) + 1)) (wrap_I64 _)) ?_
    refine held_bif rfl ?_
    refine yes_ret zle_dec ?_
    refine yes_ret (lt_dec hi) ?_
    refine held_bif rfl ?_
    refine yes_ret zle_dec ?_
    refine yes_ret (lt_dec hi) ?_
    refine call_to (Z200.md (IntKind.i64.wrap ((e1 (a0.getD i MStored.zero) k) + 1))) (Z200.R_eq (a0 := IntKind.i64.wrap ((e1 (a0.getD i MStored.zero) k) + 1)) (wrap_I64 _)) ?_
    refine held_bif rfl ?_
    refine yes_ret zle_dec ?_
    refine yes_ret (lt_dec hi) ?_
    refine held_bif rfl ?_
    refine yes_ret zle_dec ?_
    refine yes_ret (lt_dec hi) ?_
    refine held_bif rfl ?_
    refine yes_ret zle_dec ?_
    refine yes_ret (lt_dec hi) ?_
    refine call_to (e2 (a0.getD i MStored.zero) k) (Z214.R_eq (a0 := (((a0.getD i MStored.zero).fAnswer).fEntry).fPath) (a1 := IntKind.i64.wrap ((IntKind.i64.wrap ((IntKind.i64.wrap ((IntKind.i64.wrap ((e1 (a0.getD i MStored.zero) k) + 1)) + 1)) + 1)) + 1)) (wrap_I64 _)) ?_
    refine held_bif rfl ?_
    refine yes_ret zle_dec ?_
    refine yes_ret (lt_dec hi) ?_
    refine held_bif rfl ?_
    refine yes_ret zle_dec ?_
    refine yes_ret (lt_dec hi) ?_
    refine call_to (e3 (a0.getD i MStored.zero) k) (Z211.R_eq (a0 := (((a0.getD i MStored.zero).fAnswer).fProof).fPath) (a1 := IntKind.i64.wrap ((e2 (a0.getD i MStored.zero) k) + 1)) (wrap_I64 _)) ?_
    refine held_bif rfl ?_
    refine yes_ret zle_dec ?_
    refine yes_ret (lt_dec hi) ?_
    refine held_bif rfl ?_
    refine yes_ret zle_dec ?_
    refine yes_ret (lt_dec hi) ?_
    refine call_to (Z200.md (IntKind.i64.wrap ((e3 (a0.getD i MStored.zero) k) + 1))) (Z200.R_eq (a0 := IntKind.i64.wrap ((e3 (a0.getD i MStored.zero) k) + 1)) (wrap_I64 _)) ?_
    refine held_bif rfl ?_
    refine yes_ret zle_dec ?_
    refine yes_ret (lt_dec hi) ?_
    refine held_bif rfl ?_
    refine yes_ret zle_dec ?_
    refine yes_ret (lt_dec hi) ?_
    refine held_bif rfl ?_
    refine yes_ret zle_dec ?_
    refine yes_ret (lt_dec hi) ?_
    refine call_to (e4 (a0.getD i MStored.zero) k) (Z214.R_eq (a0 := ((((a0.getD i MStored.zero).fAnswer).fGap).fBefore).fPath) (a1 := IntKind.i64.wrap ((IntKind.i64.wrap ((IntKind.i64.wrap ((IntKind.i64.wrap ((e3 (a0.getD i MStored.zero) k) + 1)) + 1)) + 1)) + 1)) (wrap_I64 _)) ?_
    refine held_bif rfl ?_
    refine yes_ret zle_dec ?_
    refine yes_ret (lt_dec hi) ?_
    refine call_to (Z200.md (e4 (a0.getD i MStored.zero) k)) (Z200.R_eq (a0 := e4 (a0.getD i MStored.zero) k) (Z214.i64 (wrap_I64 _))) ?_
    refine held_bif rfl ?_
    refine yes_ret zle_dec ?_
    refine yes_ret (lt_dec hi) ?_
    refine held_bif rfl ?_
    refine yes_ret zle_dec ?_
    refine yes_ret (lt_dec hi) ?_
    refine held_bif rfl ?_
    refine yes_ret zle_dec ?_
    refine yes_ret (lt_dec hi) ?_
    refine call_to (e5 (a0.getD i MStored.zero) k) (Z214.R_eq (a0 := ((((a0.getD i MStored.zero).fAnswer).fGap).fAfter).fPath) (a1 := IntKind.i64.wrap ((IntKind.i64.wrap ((IntKind.i64.wrap ((e4 (a0.getD i MStored.zero) k) + 1)) + 1)) + 1)) (wrap_I64 _)) ?_
    refine held_bif rfl ?_
    refine yes_ret zle_dec ?_
    refine yes_ret (lt_dec hi) ?_
    refine held_bif rfl ?_
    refine yes_ret zle_dec ?_
    refine yes_ret (lt_dec hi) ?_
    refine call_to (e6 (a0.getD i MStored.zero) k) (Z211.R_eq (a0 := ((((a0.getD i MStored.zero).fAnswer).fGap).fLeft).fPath) (a1 := IntKind.i64.wrap ((e5 (a0.getD i MStored.zero) k) + 1)) (wrap_I64 _)) ?_
    refine held_bif rfl ?_
    refine yes_ret zle_dec ?_
    refine yes_ret (lt_dec hi) ?_
    refine held_bif rfl ?_
    refine yes_ret zle_dec ?_
    refine yes_ret (lt_dec hi) ?_
    refine call_to (e7 (a0.getD i MStored.zero) k) (Z211.R_eq (a0 := ((((a0.getD i MStored.zero).fAnswer).fGap).fRight).fPath) (a1 := IntKind.i64.wrap ((e6 (a0.getD i MStored.zero) k) + 1)) (wrap_I64 _)) ?_
    refine held_bif rfl ?_
    rw [wrap_succ hi h0]
    rfl
  · simp only [step, S0, MHead.rs, MEntry.rs, MProof.rs, MGap.rs, MAnswer.rs, MStored.rs]
    refine no_ret (by apply decide_eq_false; omega) ?_
    rfl
theorem valid_ : Valid Tryz.prog Ev 101 con := VV (run := fun n x => start (iter step n) x.1 x.2) mix tab_ok (.cons Z200.valid_ (.cons Z213.valid_ (.cons Z214.valid_ (.cons Z211.valid_ .nil)))) Tryz.func101 (by kernel_rfl) run_eq (fun ls a hl e hg => okF a.1 a.2 hg (by have h : (ls.headD .hole).toSl.length ≤ maxLen := hl.1.len; have e : a.1.map MStored.row = (ls.headD .hole).toSl := (congrArg (fun x => x.1) e.symm); rw [← e] at h; simpa using h))
theorem i64 {a0 : List MStored} {a1 : Int} (h : I64 a1) : I64 (md a0 a1) := heldM_I f_I I64_neg h
theorem elh (x : MStored) (k : Int) (h0 : 0 ≤ k) (hb : k + (Z205.cnt x : Int) ≤ 4611686018427387904) : f (Z205.el x k).2 k = some (k + Z205.cnt x) := by
 simp only [Z205.cnt, Int.natCast_add] at hb ⊢
 simp (disch := omega) only [Z205.el, f, Z205.e1, Z205.e2, Z205.e3, Z205.e4, Z205.e5, Z205.e6, Z205.e7, e1, e2, e3, e4, e5, e6, e7, wi, Z203.kk, Z213.mk, Z204.kk, Z214.mk, Z201.kk, Z211.mk, bne_self_eq_false, beq_self_eq_true, ba_refl, Bool.not_true, cond_false, dec_neg]
 all_goals first | done | omega | (congr 1 <;> omega)
theorem mk (a0 : List MStored) (a1 : Int) (h0 : 0 ≤ a1) (hb : a1 + (Z205.sum a0 : Int) ≤ 4611686018427387904) : md (Z205.md a0 a1).2 a1 = a1 + Z205.sum a0 := held_mark Z205.elk elh a0 a1 h0 hb
end Z215
namespace Z216
set_option maxHeartbeats 8000000
def F (x0 : RCache) (x1 : Int) : Ans := (call (Z215.R (x0.fList, x1)) fun v1 => (bif (decide (v1 < 0)) then ret ((-1) : Int) else ret (v1 : Int)))
def pats : List Pat := [.agg [.sl 148], .rd (.int .i64)]
def res : RP := .one (.rd (.int .i64))
def e1 (x : MCache) (k : Int) := Z215.md x.fList k
def f (x : MCache) (k : Int) : Option Int := (bif (decide ((e1 x k) < 0)) then none else (some ((e1 x k) : Int)))
def md (a0 : MCache) (a1 : Int) : Int := heldO (f a0 a1)
def gd (a0 : MCache) (a1 : Int) : Prop := I64 a1
def acc (ls : List L) : RCache × Int := ((RCache.dec ls), ((dropT 1 ls).headD .hole).toInt)
def R : (RCache × Int) → Option Int := RR (p2 gd) (u2 md)
theorem R_eq {a0} {a1} (h : gd a0 a1) : R ((MCache.r a0), a1) = some (md a0 a1) := RR_eq (a := (a0, a1)) h
def con : Con := CN pats res acc R
theorem okF (a0 : MCache) (a1 : Int) (hg : gd a0 a1) : F (MCache.r a0) a1 = ret ((md a0 a1) : Int) := by
 unfold gd at hg
 simp only [F, S0, MKeys.rs, MCache.rs]
 unfold md
 refine call_to (e1 a0 a1) (Z215.R_eq (a0 := a0.fList) (a1 := a1) hg) ?_
 refine held_bif_ret rfl ?_
 first | rfl | (simp only [S0, MKeys.rs, MCache.rs]; rfl)
theorem valid_ : Valid Tryz.prog Ev 37 con := VV (live := fun _ => []) (nt := 12) (run := fun _ x => F x.1 x.2) mix tab_ok (.cons Z215.valid_ .nil) Tryz.func37 (by kernel_rfl) (fun _ _ => by kernel_rfl) (fun _ a _ _ hg => ⟨0, okF a.1 a.2 hg⟩)
theorem i64 {a0 : MCache} {a1 : Int} (hk : I64 a1) : I64 (md a0 a1) := by
 unfold md
 cases h : f a0 a1 with
 | none => exact I64_neg
 | some k2 =>
  unfold f at h
  have h := bif_some h
  injection h with h
  subst h
  exact (Z215.i64 hk)
theorem mk (x : MCache) (k : Int) (h0 : 0 ≤ k) (hb : k + (Z206.sum x : Int) ≤ 4611686018427387904) : md (Z206.upd x k) k = k + Z206.sum x := by
 simp only [Z206.sum, Int.natCast_add] at hb ⊢
 simp (disch := omega) only [Z206.md, Z206.upd, md, f, heldO, Z206.e1, e1, wi, Z205.kk, Z215.mk, cond_false, dec_neg]
 all_goals first | done | omega
end Z216
namespace Z217
def F (x0 : RCache) (x1 : Int) (x2 : ByteArray) (x3 : RAnswer) (x4 : Int) : Ans := (bif (decide ((x2.size : Int) > 1048576)) then ret (true : Bool) else (call (Z13.R (x0, 1048576)) fun v1 => (bif (decide (v1 < 0)) then ret (true : Bool) else (call (Z10.R (x3, v1)) fun v2 => (bif (decide (v2 < 0)) then ret (true : Bool) else (call (Z28.R x0) fun v3 => (call (Z25.R x3) fun v4 => (call (Z92.R (v3, x1, x2, v4, x4)) fun v5 => (call (Z28.R x0) fun v6 => (call (Z25.R x3) fun v7 => (call (Z184.R (v6, x1, x2, v7, x4)) fun v8 => (call (Z199.R (v8, v5)) fun v9 => (bif (!v9) then ret (false : Bool) else (call (Z28.R x0) fun v10 => (call (Z199.R (v6, v10)) fun v11 => (bif (!v11) then ret (false : Bool) else (call (Z25.R x3) fun v12 => (call (Z196.R (v7, v12)) fun v13 => (bif (!v13) then ret (false : Bool) else (call (Z206.R (v6, 1)) fun v14 => (call (Z210.R (v7, v14.1)) fun v15 => (bif (decide (v15.1 < 0)) then ret (false : Bool) else (call (Z199.R (v8, v5)) fun v16 => (bif (!v16) then ret (false : Bool) else (call (Z206.R (v8, 1)) fun v17 => (call (Z216.R ((⟨v17.2⟩ : RCache), 1)) fun v18 => (bif (decide (v18 < 0)) then ret (false : Bool) else (bif (v18 != v17.1) then ret (false : Bool) else (call (Z28.R x0) fun v19 => (call (Z25.R x3) fun v20 => (call (Z184.R (v19, x1, x2, v20, x4)) fun v21 => (call (Z199.R (v21, v5)) fun v22 => (bif (!v22) then ret (false : Bool) else (call (Z216.R ((⟨v17.2⟩ : RCache), 1)) fun v23 => (bif (decide (v23 < 0)) then ret (false : Bool) else (bif (v23 != v17.1) then ret (false : Bool) else ret (true : Bool)))))))))))))))))))))))))))))))))))))
def pats : List Pat := [.agg [.sl 195], .rd (.int .i64), .rd (.str), .agg [.sl 114, .bool, .str, .int .i64, .int .i64, .sl 9, .int .i64, .sl 3, .int .i64, .str, .int .i64, .int .i64, .sl 9, .str, .int .i64, .int .i64, .sl 9, .int .i64, .sl 3, .int .i64, .sl 3], .rd (.int .i64)]
def res : RP := .one (.rd (.bool))
def md (a0 : MCache) (a1 : Int) (a2 : ByteArray) (a3 : MAnswer) (a4 : Int) : Bool := true
def gd (a0 : MCache) (a1 : Int) (a2 : ByteArray) (a3 : MAnswer) (a4 : Int) : Prop := (MCache.Sm maxLen a0) ∧ (a2.size ≤ maxLen) ∧ (MAnswer.Sm maxLen a3)
def acc (ls : List L) : RCache × Int × ByteArray × RAnswer × Int := ((RCache.dec ls), ((dropT 1 ls).headD .hole).toInt, ((dropT 2 ls).headD .hole).toStr, (RAnswer.dec (dropT 3 ls)), ((dropT 24 ls).headD .hole).toInt)
def R : (RCache × Int × ByteArray × RAnswer × Int) → Option Bool := RR (p5 gd) (u5 md)
theorem R_eq {a0} {a1} {a2} {a3} {a4} (h : gd a0 a1 a2 a3 a4) : R ((MCache.r a0), a1, a2, (MAnswer.r a3), a4) = some (md a0 a1 a2 a3 a4) := RR_eq (a := (a0, a1, a2, a3, a4)) h
def con : Con := CN pats res acc R
theorem okF (a0 : MCache) (a1 : Int) (a2 : ByteArray) (a3 : MAnswer) (a4 : Int) (hg : gd a0 a1 a2 a3 a4) : F (MCache.r a0) a1 a2 (MAnswer.r a3) a4 = ret ((md a0 a1 a2 a3 a4) : Bool) := by
  unfold md
  show (bif (decide ((a2.size : Int) > 1048576)) then ret (true : Bool) else (call (Z13.R ((MCache.r a0), 1048576)) fun v1 => (bif (decide (v1 < 0)) then ret (true : Bool) else (call (Z10.R ((MAnswer.r a3), v1)) fun v2 => (bif (decide (v2 < 0)) then ret (true : Bool) else (call (Z28.R (MCache.r a0)) fun v3 => (call (Z25.R (MAnswer.r a3)) fun v4 => (call (Z92.R (v3, a1, a2, v4, a4)) fun v5 => (call (Z28.R (MCache.r a0)) fun v6 => (call (Z25.R (MAnswer.r a3)) fun v7 => (call (Z184.R (v6, a1, a2, v7, a4)) fun v8 => (call (Z199.R (v8, v5)) fun v9 => (bif (!v9) then ret (false : Bool) else (call (Z28.R (MCache.r a0)) fun v10 => (call (Z199.R (v6, v10)) fun v11 => (bif (!v11) then ret (false : Bool) else (call (Z25.R (MAnswer.r a3)) fun v12 => (call (Z196.R (v7, v12)) fun v13 => (bif (!v13) then ret (false : Bool) else (call (Z206.R (v6, 1)) fun v14 => (call (Z210.R (v7, v14.1)) fun v15 => (bif (decide (v15.1 < 0)) then ret (false : Bool) else (call (Z199.R (v8, v5)) fun v16 => (bif (!v16) then ret (false : Bool) else (call (Z206.R (v8, 1)) fun v17 => (call (Z216.R ((⟨v17.2⟩ : RCache), 1)) fun v18 => (bif (decide (v18 < 0)) then ret (false : Bool) else (bif (v18 != v17.1) then ret (false : Bool) else (call (Z28.R (MCache.r a0)) fun v19 => (call (Z25.R (MAnswer.r a3)) fun v20 => (call (Z184.R (v19, a1, a2, v20, a4)) fun v21 => (call (Z199.R (v21, v5)) fun v22 => (bif (!v22) then ret (false : Bool) else (call (Z216.R ((⟨v17.2⟩ : RCache), 1)) fun v23 => (bif (decide (v23 < 0)) then ret (false : Bool) else (bif (v23 != v17.1) then ret (false : Bool) else ret (true : Bool))))))))))))))))))))))))))))))))))))) = _
  by_cases q2 : ((a2.size : Int) > 1048576)
  · rw [decide_eq_true q2]; rfl
  rw [decide_eq_false q2, cond_false]
  have s2 : a2.size ≤ 2 ^ 20 := by omega
  rw [call_eq (Z13.R_eq (a1 := (1048576 : Int)) ⟨hg.1, by omega, by omega⟩)]
  unfold Z13.md
  by_cases c0 : (1048576 : Int) < (((MCache.size a0) : Nat) : Int)
  · rw [szM_neg c0]; rfl
  rw [szM_pos c0, dec_neg (by omega)]
  simp only [cond_false]
  have s0 : MCache.Sm (2 ^ 20) a0 := (MCache.Sm_of (by omega))
  rw [call_eq (Z10.R_eq (a1 := (1048576 - (((MCache.size a0) : Nat) : Int) : Int)) ⟨hg.2.2, by omega, by omega⟩)]
  unfold Z10.md
  by_cases c3 : (1048576 - (((MCache.size a0) : Nat) : Int) : Int) < (((MAnswer.size a3) : Nat) : Int)
  · rw [szM_neg c3]; rfl
  rw [szM_pos c3, dec_neg (by omega)]
  simp only [cond_false]
  have s3 : MAnswer.Sm (2 ^ 20) a3 := (MAnswer.Sm_of (by omega))
  refine call_to (MCache.r a0) (Z28.R_eq (a0 := a0) (MCache.Sm_mono (by decide) s0)) ?_
  refine call_to (MAnswer.r a3) (Z25.R_eq (a0 := a3) (MAnswer.Sm_mono (by decide) s3)) ?_
  refine call_to (MCache.r (Z92.md a0 a1 a2 a3 a4)) (Z92.R_eq (a0 := a0) (a1 := a1) (a2 := a2) (a3 := a3) (a4 := a4) (by
    have := And.intro trivial trivial
    unfold Z92.gd
    first | exact (MCache.Sm_mono (by decide) s0) | refine ⟨(MCache.Sm_mono (by decide) s0), (Nat.le_trans s2 (by decide)), (MAnswer.Sm_mono (by decide) s3)⟩)) ?_
  refine call_to (MCache.r a0) (Z28.R_eq (a0 := a0) (MCache.Sm_mono (by decide) s0)) ?_
  refine call_to (MAnswer.r a3) (Z25.R_eq (a0 := a3) (MAnswer.Sm_mono (by decide) s3)) ?_
  have r_ := Z184.R_eq (a0 := a0) (a1 := a1) (a2 := a2) (a3 := a3) (a4 := a4) (by
    have := And.intro trivial trivial
    unfold Z184.gd
    first | exact (MCache.Sm_mono (by decide) s0) | refine ⟨(MCache.Sm_mono (by decide) s0), (Nat.le_trans s2 (by decide)), (MAnswer.Sm_mono (by decide) s3)⟩)
  rw [Z184.br] at r_
  refine call_to (MCache.r (Z92.md a0 a1 a2 a3 a4)) r_ ?_
  clear r_
  refine call_to _ (Z199.R_eq (a0 := (Z92.md a0 a1 a2 a3 a4)) (a1 := (Z92.md a0 a1 a2 a3 a4)) trivial) ?_
  refine no_ret (by first | (simp only [bne_self_eq_false, beq_self_eq_true, ba_refl, eqB_refl, Bool.not_true, Z199.md]; done) | (refine bne_eq_false_iff_eq.2 ?_; omega)) ?_
  refine call_to (MCache.r a0) (Z28.R_eq (a0 := a0) (MCache.Sm_mono (by decide) s0)) ?_
  refine call_to _ (Z199.R_eq (a0 := a0) (a1 := a0) trivial) ?_
  refine no_ret (by first | (simp only [bne_self_eq_false, beq_self_eq_true, ba_refl, eqB_refl, Bool.not_true, Z199.md]; done) | (refine bne_eq_false_iff_eq.2 ?_; omega)) ?_
  refine call_to (MAnswer.r a3) (Z25.R_eq (a0 := a3) (MAnswer.Sm_mono (by decide) s3)) ?_
  refine call_to _ (Z196.R_eq (a0 := a3) (a1 := a3) trivial) ?_
  refine no_ret (by first | (simp only [bne_self_eq_false, beq_self_eq_true, ba_refl, eqB_refl, Bool.not_true, Z199.md, Z196.md]; done) | (refine bne_eq_false_iff_eq.2 ?_; omega)) ?_
  have u1 := Z206.sz a0
  refine call_to ((Z206.md a0 1).1, ((Z206.md a0 1).2.map MStored.row)) (Z206.R_eq (a0 := a0) (a1 := 1) I64_one) ?_
  have k2 := Z206.kk a0 1 (by omega) (by omega)
  have u3 := Z210.sz a3
  refine call_to ((Z210.md a3 ((Z206.md a0 1).1)).1, ((Z210.md a3 ((Z206.md a0 1).1)).2.1.map MSigned.row), ((Z210.md a3 ((Z206.md a0 1).1)).2.2.1.map sRow), ((Z210.md a3 ((Z206.md a0 1).1)).2.2.2.1.map iRow), ((Z210.md a3 ((Z206.md a0 1).1)).2.2.2.2.1.map sRow), ((Z210.md a3 ((Z206.md a0 1).1)).2.2.2.2.2.1.map sRow), ((Z210.md a3 ((Z206.md a0 1).1)).2.2.2.2.2.2.1.map iRow), ((Z210.md a3 ((Z206.md a0 1).1)).2.2.2.2.2.2.2.map iRow)) (Z210.R_eq (a0 := a3) (a1 := (Z206.md a0 1).1) (Z206.i64 I64_one)) ?_
  have k4 := Z210.kk a3 ((Z206.md a0 1).1) (by omega) (by omega)
  refine no_ret (dec_neg (by omega)) ?_
  refine call_to _ (Z199.R_eq (a0 := (Z92.md a0 a1 a2 a3 a4)) (a1 := (Z92.md a0 a1 a2 a3 a4)) trivial) ?_
  refine no_ret (by first | (simp only [bne_self_eq_false, beq_self_eq_true, ba_refl, eqB_refl, Bool.not_true, Z199.md, Z196.md]; done) | (refine bne_eq_false_iff_eq.2 ?_; omega)) ?_
  have u5 : Z206.sum (Z92.md a0 a1 a2 a3 a4) ≤ 1000000000000000000 := (by
    have h1 := Z206.sz (Z92.md a0 a1 a2 a3 a4)
    have h2 : MCache.size (Z92.md a0 a1 a2 a3 a4) ≤ MCache.size a0 + (MStored.size ⟨a1, a2, a3⟩ + 1) := by
      unfold MCache.size Z92.md
      generalize (Z90.md a1 a2 a3 a4 != 1) = b1
      generalize decide ((a0.fList.length : Int) < 16) = b3
      cases b1 <;> cases decide (Z91.md a0 a1 a2 ≥ 0) <;> cases b3 <;> simp only [cond_true, cond_false] <;> first | exact szL_set a0.fList _ _ | exact szL_app1 a0.fList _ | exact Nat.le_add_right _ _
    have h3 : MStored.size ⟨a1, a2, a3⟩ = a2.size + MAnswer.size a3 := by simp only [MStored.size]
    omega)
  refine call_to ((Z206.md (Z92.md a0 a1 a2 a3 a4) 1).1, ((Z206.md (Z92.md a0 a1 a2 a3 a4) 1).2.map MStored.row)) (Z206.R_eq (a0 := (Z92.md a0 a1 a2 a3 a4)) (a1 := 1) I64_one) ?_
  have k6 := Z206.kk (Z92.md a0 a1 a2 a3 a4) 1 (by omega) (by omega)
  refine call_to (Z216.md (⟨(Z206.md (Z92.md a0 a1 a2 a3 a4) 1).2⟩ : MCache) 1) (Z216.R_eq (a0 := (⟨(Z206.md (Z92.md a0 a1 a2 a3 a4) 1).2⟩ : MCache)) (a1 := 1) I64_one) ?_
  have h7 : (Z216.md (⟨(Z206.md (Z92.md a0 a1 a2 a3 a4) 1).2⟩ : MCache) 1) = 1 + (Z206.sum (Z92.md a0 a1 a2 a3 a4) : Int) := Z216.mk (Z92.md a0 a1 a2 a3 a4) 1 (by omega) (by omega)
  refine no_ret (dec_neg (by omega)) ?_
  refine no_ret (by first | (simp only [bne_self_eq_false, beq_self_eq_true, ba_refl, eqB_refl, Bool.not_true, Z199.md, Z196.md]; done) | (refine bne_eq_false_iff_eq.2 ?_; omega)) ?_
  refine call_to (MCache.r a0) (Z28.R_eq (a0 := a0) (MCache.Sm_mono (by decide) s0)) ?_
  refine call_to (MAnswer.r a3) (Z25.R_eq (a0 := a3) (MAnswer.Sm_mono (by decide) s3)) ?_
  have r_ := Z184.R_eq (a0 := a0) (a1 := a1) (a2 := a2) (a3 := a3) (a4 := a4) (by
    have := And.intro trivial trivial
    unfold Z184.gd
    first | exact (MCache.Sm_mono (by decide) s0) | refine ⟨(MCache.Sm_mono (by decide) s0), (Nat.le_trans s2 (by decide)), (MAnswer.Sm_mono (by decide) s3)⟩)
  rw [Z184.br] at r_
  refine call_to (MCache.r (Z92.md a0 a1 a2 a3 a4)) r_ ?_
  clear r_
  refine call_to _ (Z199.R_eq (a0 := (Z92.md a0 a1 a2 a3 a4)) (a1 := (Z92.md a0 a1 a2 a3 a4)) trivial) ?_
  refine no_ret (by first | (simp only [bne_self_eq_false, beq_self_eq_true, ba_refl, eqB_refl, Bool.not_true, Z199.md, Z196.md]; done) | (refine bne_eq_false_iff_eq.2 ?_; omega)) ?_
  refine call_to (Z216.md (⟨(Z206.md (Z92.md a0 a1 a2 a3 a4) 1).2⟩ : MCache) 1) (Z216.R_eq (a0 := (⟨(Z206.md (Z92.md a0 a1 a2 a3 a4) 1).2⟩ : MCache)) (a1 := 1) I64_one) ?_
  have h8 : (Z216.md (⟨(Z206.md (Z92.md a0 a1 a2 a3 a4) 1).2⟩ : MCache) 1) = 1 + (Z206.sum (Z92.md a0 a1 a2 a3 a4) : Int) := Z216.mk (Z92.md a0 a1 a2 a3 a4) 1 (by omega) (by omega)
  refine no_ret (dec_neg (by omega)) ?_
  refine no_ret (by first | (simp only [bne_self_eq_false, beq_self_eq_true, ba_refl, eqB_refl, Bool.not_true, Z199.md, Z196.md]; done) | (refine bne_eq_false_iff_eq.2 ?_; omega)) ?_
  rfl
theorem valid_ : Valid Tryz.prog Ev 7 con := VS (live := fun _ => []) (nt := 110) (run := fun _ x => F x.1 x.2.1 x.2.2.1 x.2.2.2.1 x.2.2.2.2) mix tab_ok (.cons Z13.valid_ (.cons Z10.valid_ (.cons Z28.valid_ (.cons Z25.valid_ (.cons Z92.valid_ (.cons Z184.valid_ (.cons Z199.valid_ (.cons Z196.valid_ (.cons Z216.valid_ .nil))))))))) (.cons Z206.valid_ (.cons Z210.valid_ .nil)) Tryz.func7 (by kernel_rfl) (fun _ _ => by kernel_rfl) (fun _ a _ _ hg => ⟨0, okF a.1 a.2.1 a.2.2.1 a.2.2.2.1 a.2.2.2.2 hg⟩)
theorem MKeys_wf109 (r : List L) (h : WfAll Ev.cells [.sl 3, .int .i64] r) : ∃ x : MKeys, MKeys.row x = r ∧ MKeys.Sm maxLen x := by
 obtain ⟨l0, t0, rfl, g0, h1⟩ := h.uncons
 obtain ⟨x0, rfl, s0⟩ := wf_list (show Ev.cells 3 = [.int .i64] from by kernel_rfl) wf_irow g0
 obtain ⟨l1, t1, rfl, g1, h2⟩ := h1.uncons
 obtain ⟨x1, rfl⟩ := wf_int g1
 obtain rfl := h2.isnil
 exact ⟨⟨x0, x1⟩, rfl, s0⟩
theorem MHead_wf111 (r : List L) (h : WfAll Ev.cells [.int .i64, .int .i64, .int .i64, .int .i64, .int .i64, .int .i64, .int .i64, .int .i64, .sl 3, .int .i64, .sl 3, .int .i64, .int .i64, .sl 3, .int .i64, .bool] r) : ∃ x : MHead, MHead.row x = r ∧ MHead.Sm maxLen x := by
 obtain ⟨l0, t0, rfl, g0, h1⟩ := h.uncons
 obtain ⟨x0, rfl⟩ := wf_int g0
 obtain ⟨l1, t1, rfl, g1, h2⟩ := h1.uncons
 obtain ⟨x1, rfl⟩ := wf_int g1
 obtain ⟨l2, t2, rfl, g2, h3⟩ := h2.uncons
 obtain ⟨x2, rfl⟩ := wf_int g2
 obtain ⟨l3, t3, rfl, g3, h4⟩ := h3.uncons
 obtain ⟨x3, rfl⟩ := wf_int g3
 obtain ⟨l4, t4, rfl, g4, h5⟩ := h4.uncons
 obtain ⟨x4, rfl⟩ := wf_int g4
 obtain ⟨l5, t5, rfl, g5, h6⟩ := h5.uncons
 obtain ⟨x5, rfl⟩ := wf_int g5
 obtain ⟨l6, t6, rfl, g6, h7⟩ := h6.uncons
 obtain ⟨x6, rfl⟩ := wf_int g6
 obtain ⟨l7, t7, rfl, g7, h8⟩ := h7.uncons
 obtain ⟨x7, rfl⟩ := wf_int g7
 obtain ⟨r8, t8, rfl, g8, h9⟩ := WfAll.unapp (a := [.sl 3, .int .i64]) (b := [.sl 3, .int .i64, .int .i64, .sl 3, .int .i64, .bool]) h8
 obtain ⟨x8, rfl, s8⟩ := MKeys_wf109 _ g8
 obtain ⟨r9, t9, rfl, g9, h10⟩ := WfAll.unapp (a := [.sl 3, .int .i64]) (b := [.int .i64, .sl 3, .int .i64, .bool]) h9
 obtain ⟨x9, rfl, s9⟩ := MKeys_wf109 _ g9
 obtain ⟨l10, t10, rfl, g10, h11⟩ := h10.uncons
 obtain ⟨x10, rfl⟩ := wf_int g10
 obtain ⟨r11, t11, rfl, g11, h12⟩ := WfAll.unapp (a := [.sl 3, .int .i64]) (b := [.bool]) h11
 obtain ⟨x11, rfl, s11⟩ := MKeys_wf109 _ g11
 obtain ⟨l12, t12, rfl, g12, h13⟩ := h12.uncons
 obtain ⟨x12, rfl⟩ := wf_bool g12
 obtain rfl := h13.isnil
 exact ⟨⟨x0, x1, x2, x3, x4, x5, x6, x7, x8, x9, x10, x11, x12⟩, rfl, ⟨s8, s9, s11⟩⟩
theorem MSig_wf216 (r : List L) (h : WfAll Ev.cells [.int .i64, .int .i64] r) : ∃ x : MSig, MSig.row x = r ∧ MSig.Sm maxLen x := by
 obtain ⟨l0, t0, rfl, g0, h1⟩ := h.uncons
 obtain ⟨x0, rfl⟩ := wf_int g0
 obtain ⟨l1, t1, rfl, g1, h2⟩ := h1.uncons
 obtain ⟨x1, rfl⟩ := wf_int g1
 obtain rfl := h2.isnil
 exact ⟨⟨x0, x1⟩, rfl, trivial⟩
theorem MSigned_wf114 (r : List L) (h : WfAll Ev.cells [.int .i64, .int .i64, .int .i64, .int .i64, .int .i64, .int .i64, .int .i64, .int .i64, .sl 3, .int .i64, .sl 3, .int .i64, .int .i64, .sl 3, .int .i64, .bool, .sl 216] r) : ∃ x : MSigned, MSigned.row x = r ∧ MSigned.Sm maxLen x := by
 obtain ⟨r0, t0, rfl, g0, h1⟩ := WfAll.unapp (a := [.int .i64, .int .i64, .int .i64, .int .i64, .int .i64, .int .i64, .int .i64, .int .i64, .sl 3, .int .i64, .sl 3, .int .i64, .int .i64, .sl 3, .int .i64, .bool]) (b := [.sl 216]) h
 obtain ⟨x0, rfl, s0⟩ := MHead_wf111 _ g0
 obtain ⟨l1, t1, rfl, g1, h2⟩ := h1.uncons
 obtain ⟨x1, rfl, s1⟩ := wf_list (show Ev.cells 216 = [.int .i64, .int .i64] from by kernel_rfl) MSig_wf216 g1
 obtain rfl := h2.isnil
 exact ⟨⟨x0, x1⟩, rfl, ⟨s0, s1⟩⟩
theorem MEntry_wf74 (r : List L) (h : WfAll Ev.cells [.str, .int .i64, .int .i64, .sl 9] r) : ∃ x : MEntry, MEntry.row x = r ∧ MEntry.Sm maxLen x := by
 obtain ⟨l0, t0, rfl, g0, h1⟩ := h.uncons
 obtain ⟨x0, rfl, s0⟩ := wf_str g0
 obtain ⟨l1, t1, rfl, g1, h2⟩ := h1.uncons
 obtain ⟨x1, rfl⟩ := wf_int g1
 obtain ⟨l2, t2, rfl, g2, h3⟩ := h2.uncons
 obtain ⟨x2, rfl⟩ := wf_int g2
 obtain ⟨l3, t3, rfl, g3, h4⟩ := h3.uncons
 obtain ⟨x3, rfl, s3⟩ := wf_list (show Ev.cells 9 = [.str] from by kernel_rfl) wf_srow g3
 obtain rfl := h4.isnil
 exact ⟨⟨x0, x1, x2, x3⟩, rfl, ⟨s0, s3⟩⟩
theorem MProof_wf76 (r : List L) (h : WfAll Ev.cells [.int .i64, .sl 3] r) : ∃ x : MProof, MProof.row x = r ∧ MProof.Sm maxLen x := by
 obtain ⟨l0, t0, rfl, g0, h1⟩ := h.uncons
 obtain ⟨x0, rfl⟩ := wf_int g0
 obtain ⟨l1, t1, rfl, g1, h2⟩ := h1.uncons
 obtain ⟨x1, rfl, s1⟩ := wf_list (show Ev.cells 3 = [.int .i64] from by kernel_rfl) wf_irow g1
 obtain rfl := h2.isnil
 exact ⟨⟨x0, x1⟩, rfl, s1⟩
theorem MGap_wf78 (r : List L) (h : WfAll Ev.cells [.int .i64, .str, .int .i64, .int .i64, .sl 9, .str, .int .i64, .int .i64, .sl 9, .int .i64, .sl 3, .int .i64, .sl 3] r) : ∃ x : MGap, MGap.row x = r ∧ MGap.Sm maxLen x := by
 obtain ⟨l0, t0, rfl, g0, h1⟩ := h.uncons
 obtain ⟨x0, rfl⟩ := wf_int g0
 obtain ⟨r1, t1, rfl, g1, h2⟩ := WfAll.unapp (a := [.str, .int .i64, .int .i64, .sl 9]) (b := [.str, .int .i64, .int .i64, .sl 9, .int .i64, .sl 3, .int .i64, .sl 3]) h1
 obtain ⟨x1, rfl, s1⟩ := MEntry_wf74 _ g1
 obtain ⟨r2, t2, rfl, g2, h3⟩ := WfAll.unapp (a := [.str, .int .i64, .int .i64, .sl 9]) (b := [.int .i64, .sl 3, .int .i64, .sl 3]) h2
 obtain ⟨x2, rfl, s2⟩ := MEntry_wf74 _ g2
 obtain ⟨r3, t3, rfl, g3, h4⟩ := WfAll.unapp (a := [.int .i64, .sl 3]) (b := [.int .i64, .sl 3]) h3
 obtain ⟨x3, rfl, s3⟩ := MProof_wf76 _ g3
 obtain ⟨r4, t4, rfl, g4, h5⟩ := WfAll.unapp (a := [.int .i64, .sl 3]) (b := []) h4
 obtain ⟨x4, rfl, s4⟩ := MProof_wf76 _ g4
 obtain rfl := h5.isnil
 exact ⟨⟨x0, x1, x2, x3, x4⟩, rfl, ⟨s1, s2, s3, s4⟩⟩
theorem MAnswer_wf80 (r : List L) (h : WfAll Ev.cells [.sl 114, .bool, .str, .int .i64, .int .i64, .sl 9, .int .i64, .sl 3, .int .i64, .str, .int .i64, .int .i64, .sl 9, .str, .int .i64, .int .i64, .sl 9, .int .i64, .sl 3, .int .i64, .sl 3] r) : ∃ x : MAnswer, MAnswer.row x = r ∧ MAnswer.Sm maxLen x := by
 obtain ⟨l0, t0, rfl, g0, h1⟩ := h.uncons
 obtain ⟨x0, rfl, s0⟩ := wf_list (show Ev.cells 114 = [.int .i64, .int .i64, .int .i64, .int .i64, .int .i64, .int .i64, .int .i64, .int .i64, .sl 3, .int .i64, .sl 3, .int .i64, .int .i64, .sl 3, .int .i64, .bool, .sl 216] from by kernel_rfl) MSigned_wf114 g0
 obtain ⟨l1, t1, rfl, g1, h2⟩ := h1.uncons
 obtain ⟨x1, rfl⟩ := wf_bool g1
 obtain ⟨r2, t2, rfl, g2, h3⟩ := WfAll.unapp (a := [.str, .int .i64, .int .i64, .sl 9]) (b := [.int .i64, .sl 3, .int .i64, .str, .int .i64, .int .i64, .sl 9, .str, .int .i64, .int .i64, .sl 9, .int .i64, .sl 3, .int .i64, .sl 3]) h2
 obtain ⟨x2, rfl, s2⟩ := MEntry_wf74 _ g2
 obtain ⟨r3, t3, rfl, g3, h4⟩ := WfAll.unapp (a := [.int .i64, .sl 3]) (b := [.int .i64, .str, .int .i64, .int .i64, .sl 9, .str, .int .i64, .int .i64, .sl 9, .int .i64, .sl 3, .int .i64, .sl 3]) h3
 obtain ⟨x3, rfl, s3⟩ := MProof_wf76 _ g3
 obtain ⟨r4, t4, rfl, g4, h5⟩ := WfAll.unapp (a := [.int .i64, .str, .int .i64, .int .i64, .sl 9, .str, .int .i64, .int .i64, .sl 9, .int .i64, .sl 3, .int .i64, .sl 3]) (b := []) h4
 obtain ⟨x4, rfl, s4⟩ := MGap_wf78 _ g4
 obtain rfl := h5.isnil
 exact ⟨⟨x0, x1, x2, x3, x4⟩, rfl, ⟨s0, s2, s3, s4⟩⟩
theorem MStored_wf195 (r : List L) (h : WfAll Ev.cells [.int .i64, .str, .sl 114, .bool, .str, .int .i64, .int .i64, .sl 9, .int .i64, .sl 3, .int .i64, .str, .int .i64, .int .i64, .sl 9, .str, .int .i64, .int .i64, .sl 9, .int .i64, .sl 3, .int .i64, .sl 3] r) : ∃ x : MStored, MStored.row x = r ∧ MStored.Sm maxLen x := by
 obtain ⟨l0, t0, rfl, g0, h1⟩ := h.uncons
 obtain ⟨x0, rfl⟩ := wf_int g0
 obtain ⟨l1, t1, rfl, g1, h2⟩ := h1.uncons
 obtain ⟨x1, rfl, s1⟩ := wf_str g1
 obtain ⟨r2, t2, rfl, g2, h3⟩ := WfAll.unapp (a := [.sl 114, .bool, .str, .int .i64, .int .i64, .sl 9, .int .i64, .sl 3, .int .i64, .str, .int .i64, .int .i64, .sl 9, .str, .int .i64, .int .i64, .sl 9, .int .i64, .sl 3, .int .i64, .sl 3]) (b := []) h2
 obtain ⟨x2, rfl, s2⟩ := MAnswer_wf80 _ g2
 obtain rfl := h3.isnil
 exact ⟨⟨x0, x1, x2⟩, rfl, ⟨s1, s2⟩⟩
theorem MCache_wf62 (r : List L) (h : WfAll Ev.cells [.sl 195] r) : ∃ x : MCache, MCache.row x = r ∧ MCache.Sm maxLen x := by
 obtain ⟨l0, t0, rfl, g0, h1⟩ := h.uncons
 obtain ⟨x0, rfl, s0⟩ := wf_list (show Ev.cells 195 = [.int .i64, .str, .sl 114, .bool, .str, .int .i64, .int .i64, .sl 9, .int .i64, .sl 3, .int .i64, .str, .int .i64, .int .i64, .sl 9, .str, .int .i64, .int .i64, .sl 9, .int .i64, .sl 3, .int .i64, .sl 3] from by kernel_rfl) MStored_wf195 g0
 obtain rfl := h1.isnil
 exact ⟨⟨x0⟩, rfl, s0⟩
theorem holds (ls : List L) (h : WfAll Ev.cells ([62, 3, 9, 80, 3].flatMap Ev.cells) ls) : con.sem ls = some [.bool true] := by
 have hk : [62, 3, 9, 80, 3].flatMap Ev.cells = [.sl 195, .int .i64, .str, .sl 114, .bool, .str, .int .i64, .int .i64, .sl 9, .int .i64, .sl 3, .int .i64, .str, .int .i64, .int .i64, .sl 9, .str, .int .i64, .int .i64, .sl 9, .int .i64, .sl 3, .int .i64, .sl 3, .int .i64] := by kernel_rfl
 rw [hk] at h
 obtain ⟨r0, t0, rfl, g0, h1⟩ := WfAll.unapp (a := [.sl 195]) (b := [.int .i64, .str, .sl 114, .bool, .str, .int .i64, .int .i64, .sl 9, .int .i64, .sl 3, .int .i64, .str, .int .i64, .int .i64, .sl 9, .str, .int .i64, .int .i64, .sl 9, .int .i64, .sl 3, .int .i64, .sl 3, .int .i64]) h
 obtain ⟨x0, rfl, s0⟩ := MCache_wf62 _ g0
 obtain ⟨l1, t1, rfl, g1, h2⟩ := h1.uncons
 obtain ⟨x1, rfl⟩ := wf_int g1
 obtain ⟨l2, t2, rfl, g2, h3⟩ := h2.uncons
 obtain ⟨x2, rfl, s2⟩ := wf_str g2
 obtain ⟨r3, t3, rfl, g3, h4⟩ := WfAll.unapp (a := [.sl 114, .bool, .str, .int .i64, .int .i64, .sl 9, .int .i64, .sl 3, .int .i64, .str, .int .i64, .int .i64, .sl 9, .str, .int .i64, .int .i64, .sl 9, .int .i64, .sl 3, .int .i64, .sl 3]) (b := [.int .i64]) h3
 obtain ⟨x3, rfl, s3⟩ := MAnswer_wf80 _ g3
 obtain ⟨l4, t4, rfl, g4, h5⟩ := h4.uncons
 obtain ⟨x4, rfl⟩ := wf_int g4
 obtain rfl := h5.isnil
 show (R ((MCache.r x0), x1, x2, (MAnswer.r x3), x4)).map RT.enc = _
 rw [R_eq ⟨s0, s2, s3⟩]
 rfl
end Z217
end Go.DM
end
