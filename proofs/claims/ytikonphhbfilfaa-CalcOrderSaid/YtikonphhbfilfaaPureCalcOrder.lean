/- CalcOrder: for all three numbers of 32 bits, sums of three are the same whichever two are added first, and products go with sums; no condition. -/
import Derived.Test.YtikonphhbfilfaaKCalcOrderCalc
namespace Go.Proofs.Ytikonphhbfilfaa.Pure
open Go Go.RowKit Go.Proofs.YtikonphhbfilfaaW.PrintWords Go.Proofs.YtikonphhbfilfaaW.PrintLast Go.Proofs.YtikonphhbfilfaaW.PrintMore Go.Proofs.Ytikonphhbfilfaa.PCalcOrder Go.Proofs.Ytikonphhbfilfaa.Kit Go.Proofs.Ytikonphhbfilfaa.KCalcOrder

theorem begun_ev : Ev (fun k => hodmanlaw1_begun.f k) true := Ev.of hodmanlaw1_begun.mono (k := 20) (by decide +kernel)

theorem wf32 {a : Int} (h : (Lit.int .i32 a).wf = true) : -2147483648 ≤ a ∧ a ≤ 2147483647 := by
  simp only [Lit.wf, IntKind.min, IntKind.max, IntKind.signed, IntKind.bits, Bool.and_eq_true, decide_eq_true_eq, if_true] at h
  omega

theorem CalcOrder : hodmanlaw1_CalcOrder.Pure := by
  intro a b c ha hb hc
  have ha := wf32 ha
  have hb := wf32 hb
  have hc := wf32 hc
  apply Ev.rounds
  unfold hodmanlaw1_CalcOrder.f
  refine Ev.bind begun_ev ?_
  simp only [if_true]
  have w1 : wrap64 a = a := by unfold wrap64; omega
  have w2 : wrap64 b = b := by unfold wrap64; omega
  have w3 : wrap64 c = c := by unfold wrap64; omega
  have ra : R64 a := by unfold R64; omega
  have rb : R64 b := by unfold R64; omega
  have rc : R64 c := by unfold R64; omega
  have rab : R64 (a + b) := by unfold R64; omega
  have rbc : R64 (b + c) := by unfold R64; omega
  have rabc : R64 (a + b + c) := by unfold R64; omega
  have rabc' : R64 (a + (b + c)) := by unfold R64; omega
  have pm : ∀ x y : Int, R64 (mulS x y).1 := by
    intro x y; unfold mulS; split
    · assumption
    · unfold R64; omega
  simp only [w1, w2, w3, add_eq ra rb, add_eq rb rc, Option.bind_some]
  have e1 : addS a b = (a + b, true) := by unfold addS; rw [if_pos rab]
  have e2 : addS b c = (b + c, true) := by unfold addS; rw [if_pos rbc]
  simp only [e1, e2, add_eq rab rc, add_eq ra rbc, Option.bind_some]
  have e3 : addS (a + b) c = (a + b + c, true) := by unfold addS; rw [if_pos rabc]
  have e4 : addS a (b + c) = (a + (b + c), true) := by unfold addS; rw [if_pos rabc']
  refine Ev.bind (mul_ev ra rbc) ?_
  refine Ev.bind (mul_ev ra rb) ?_
  refine Ev.bind (mul_ev ra rc) ?_
  simp only [e3, e4, add_eq (pm a b) (pm a c), Option.bind_some, if_true, if_pos (Int.add_assoc a b c)]
  unfold mulS
  by_cases h1 : R64 (a * (b + c))
  · by_cases h2 : R64 (a * b)
    · by_cases h3 : R64 (a * c)
      · have e : a * (b + c) = a * b + a * c := Int.mul_add a b c
        have h4 : R64 (a * b + a * c) := by rw [← e]; exact h1
        simp only [if_pos h1, if_pos h2, if_pos h3, if_true, addS, if_pos h4, e, beq_self_eq_true]
        exact Ev.now _
      · simp only [if_pos h1, if_pos h2, if_neg h3, if_true, Bool.false_eq_true, if_false]
        exact Ev.now _
    · simp only [if_pos h1, if_neg h2, if_true, Bool.false_eq_true, if_false]
      exact Ev.now _
  · simp only [if_neg h1, Bool.false_eq_true, if_false]
    exact Ev.now _

end Go.Proofs.Ytikonphhbfilfaa.Pure
