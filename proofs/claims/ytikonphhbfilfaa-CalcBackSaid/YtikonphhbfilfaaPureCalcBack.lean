/- CalcBack: for all two numbers of 64 bits, what Add and Mul tell fits and can be taken back, and what does not fit is beyond; no condition. -/
import Derived.Test.YtikonphhbfilfaaKCalcBackCalc
namespace Go.Proofs.Ytikonphhbfilfaa.Pure
open Go Go.RowKit Go.Proofs.YtikonphhbfilfaaW.PrintWords Go.Proofs.YtikonphhbfilfaaW.PrintLast Go.Proofs.YtikonphhbfilfaaW.PrintMore Go.Proofs.Ytikonphhbfilfaa.PCalcBack Go.Proofs.Ytikonphhbfilfaa.Kit Go.Proofs.Ytikonphhbfilfaa.KCalcBack

theorem begun_ev : Ev (fun k => hodmanlaw1_begun.f k) true := Ev.of hodmanlaw1_begun.mono (k := 20) (by decide +kernel)

/-- the last part of the law: what Mul told -/
theorem last {a b : Int} (ha : R64 a) (hb : R64 b) : Ev (fun k => hodmanlaw1_CalcBack.j1 k a b (mulS a b).1 (mulS a b).2 false) true := by
  refine Evc 1 (fun k => ?_)
  simp only [hodmanlaw1_CalcBack.j1, Bool.false_eq_true, if_false]
  unfold mulS
  by_cases h : R64 (a * b)
  · simp only [if_pos h, if_true]
    by_cases h0 : b = 0
    · rw [if_pos h0]
    · rw [if_neg h0, Int.mul_tmod_left, if_pos rfl, Int.mul_tdiv_cancel _ h0, wrap_in ha, if_pos rfl]
  · simp only [if_neg h, Bool.false_eq_true, if_false]
    have h1 : ¬ a = 0 := by rintro rfl; apply h; unfold R64; omega
    have h2 : ¬ b = 0 := by rintro rfl; apply h; unfold R64; omega
    rw [if_neg h1, if_neg h2]
    by_cases a1 : a > -2147483648
    · rw [if_pos a1]
      by_cases a2 : a < 2147483648
      · rw [if_pos a2]
        by_cases b1 : b > -2147483648
        · rw [if_pos b1]
          by_cases b2 : b < 2147483648
          · exfalso
            apply h
            have h3 : (a * b).natAbs ≤ 2147483648 * 2147483648 := by
              rw [Int.natAbs_mul]; exact Nat.mul_le_mul (by omega) (by omega)
            unfold R64; omega
          · simp [b2]
        · rw [if_neg b1]; rfl
      · rw [if_neg a2]; rfl
    · rw [if_neg a1]; rfl

theorem CalcBack : hodmanlaw1_CalcBack.Pure := by
  intro a b ha hb
  have ha : R64 a := wf64 ha
  have hb : R64 b := wf64 hb
  apply Ev.rounds
  unfold hodmanlaw1_CalcBack.f
  refine Ev.bind begun_ev ?_
  simp only [if_true, add_eq ha hb, add_eq hb ha, Option.bind_some]
  refine Ev.bind (mul_ev ha hb) ?_
  refine Ev.bind (mul_ev hb ha) ?_
  have e1 : addS b a = addS a b := by unfold addS; rw [Int.add_comm b a]
  have e2 : mulS b a = mulS a b := by unfold mulS; rw [Int.mul_comm b a]
  simp only [e1, e2, if_true, bne_self_eq_false, Bool.false_eq_true, if_false]
  have key : Ev (fun k => hodmanlaw1_CalcBack.j0 k a b (addS a b).1 (addS a b).2 (mulS a b).1 (mulS a b).2 false) true := by
    refine Ev.step (f := fun k => hodmanlaw1_CalcBack.j1 k a b (mulS a b).1 (mulS a b).2 false) (fun k => ?_) (last ha hb)
    simp only [hodmanlaw1_CalcBack.j0, Bool.false_eq_true, if_false]
    unfold R64 at ha hb
    by_cases h : R64 (a + b)
    · have e : addS a b = (a + b, true) := by unfold addS; rw [if_pos h]
      rw [e]
      simp only [if_true]
      rw [if_pos (by unfold wrap64; omega)]
      by_cases b0 : b > 0
      · rw [if_pos b0, if_neg (by omega), if_neg (by omega)]
      · rw [if_neg b0]
        by_cases b1 : b < 0
        · rw [if_pos b1, if_neg (by omega)]
        · rw [if_neg b1]
    · have e : addS a b = (0, false) := by unfold addS; rw [if_neg h]
      rw [e]
      simp only [Bool.false_eq_true, if_false]
      unfold R64 at h
      have : (decide (a ≥ 0) != decide (b ≥ 0)) = false := by
        by_cases a0 : a ≥ 0
        · have b0 : b ≥ 0 := by omega
          simp [a0, b0]
        · have b0 : ¬ b ≥ 0 := by omega
          simp [a0, b0]
      rw [this]
  have kA : (if (addS a b).1 = 0 then True else (addS a b).2 = true) := by
    unfold addS; split
    · split <;> trivial
    · simp
  have kM : (mulS a b).2 = false → (mulS a b).1 = 0 := by
    unfold mulS; split <;> simp
  have kA2 : (addS a b).2 = false → (addS a b).1 = 0 := by
    unfold addS; split <;> simp
  by_cases c1 : (addS a b).2 = true
  · simp only [if_pos c1]
    by_cases c2 : (mulS a b).2 = true
    · simp only [if_pos c2]; exact key
    · simp only [if_neg c2]
      have c3 : ((mulS a b).1 != 0) = false := by simpa using kM (by simpa using c2)
      simp only [c3]; exact key
  · simp only [if_neg c1, if_pos (kA2 (by simpa using c1))]
    by_cases c2 : (mulS a b).2 = true
    · simp only [if_pos c2]; exact key
    · simp only [if_neg c2]
      have c3 : ((mulS a b).1 != 0) = false := by simpa using kM (by simpa using c2)
      simp only [c3]; exact key

end Go.Proofs.Ytikonphhbfilfaa.Pure
