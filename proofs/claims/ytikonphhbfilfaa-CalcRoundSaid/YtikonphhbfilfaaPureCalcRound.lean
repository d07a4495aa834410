/- CalcRound: for all two numbers of 64 bits, what Round tells is a multiple, not below the number and less than one more above it, and where it says no there is none of 64 bits; no condition. -/
import Derived.Test.YtikonphhbfilfaaKCalcRoundCalc
namespace Go.Proofs.Ytikonphhbfilfaa.Pure
open Go Go.RowKit Go.Proofs.YtikonphhbfilfaaW.PrintWords Go.Proofs.YtikonphhbfilfaaW.PrintLast Go.Proofs.YtikonphhbfilfaaW.PrintMore Go.Proofs.Ytikonphhbfilfaa.PCalcRound Go.Proofs.Ytikonphhbfilfaa.Kit Go.Proofs.Ytikonphhbfilfaa.KCalcRound

theorem begun_ev : Ev (fun k => hodmanlaw1_begun.f k) true := Ev.of hodmanlaw1_begun.mono (k := 20) (by decide +kernel)

theorem CalcRound : hodmanlaw1_CalcRound.Pure := by
  intro v d hw1 hw2
  have hv := wf64 hw1
  have hd := wf64 hw2
  apply Ev.rounds
  unfold hodmanlaw1_CalcRound.f
  refine Ev.bind begun_ev ?_
  simp only [if_true]
  refine Ev.bind (round_ev (v := v) (d := d) hv hd) ?_
  unfold roundS
  by_cases h1 : v < 0
  · simp only [if_pos h1, Bool.false_eq_true, if_false, if_true]
    exact Ev.now _
  · by_cases h2 : d < 1
    · simp only [if_neg h1, if_pos h2, Bool.false_eq_true, if_false, if_true]
      exact Ev.now _
    · simp only [if_neg h1, if_neg h2]
      have h3 := Int.emod_nonneg v (b := d) (by omega)
      have h4 := Int.emod_lt_of_pos v (b := d) (by omega)
      by_cases h5 : v % d = 0
      · simp only [if_pos h5, if_true, if_pos (show v ≥ v by omega), if_neg (show ¬ d = 0 by omega)]
        rw [Int.tmod_eq_emod_of_nonneg (by omega), if_pos h5]
        have e : wrap64 (v - v) < d := by unfold wrap64; omega
        rw [decide_eq_true e]
        exact Ev.now _
      · simp only [if_neg h5]
        unfold addS
        by_cases h6 : R64 (v + (d - v % d))
        · simp only [if_pos h6, if_true, if_pos (show v + (d - v % d) ≥ v by omega), if_neg (show ¬ d = 0 by omega)]
          have h7 := Int.mul_ediv_add_emod v d
          have h8 : (v + (d - v % d)) % d = 0 := by
            have : v + (d - v % d) = d * (v / d + 1) := by rw [Int.mul_add]; omega
            rw [this, Int.mul_emod_right]
          rw [Int.tmod_eq_emod_of_nonneg (by omega), if_pos h8]
          have e : wrap64 (v + (d - v % d) - v) < d := by unfold wrap64; omega
          rw [decide_eq_true e]
          exact Ev.now _
        · simp only [if_neg h6, Bool.false_eq_true, if_false, if_true]
          have e : v > wrap64 (9223372036854775807 - d) := by unfold R64 at h6; unfold wrap64; omega
          rw [decide_eq_true e]
          exact Ev.now _

end Go.Proofs.Ytikonphhbfilfaa.Pure
