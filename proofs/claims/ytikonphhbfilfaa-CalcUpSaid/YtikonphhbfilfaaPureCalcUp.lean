/- CalcUp: for every whole number of 64 bits, Up is a power of two that is not below it with its half below, Log says which, and where Up says no the number is below 1 or above the greatest power of two; no condition. -/
import Derived.Test.YtikonphhbfilfaaKCalcUpCalc
namespace Go.Proofs.Ytikonphhbfilfaa.Pure
open Go Go.RowKit Go.Proofs.YtikonphhbfilfaaW.PrintWords Go.Proofs.YtikonphhbfilfaaW.PrintLast Go.Proofs.YtikonphhbfilfaaW.PrintMore Go.Proofs.Ytikonphhbfilfaa.PCalcUp Go.Proofs.Ytikonphhbfilfaa.Kit Go.Proofs.Ytikonphhbfilfaa.KCalcUp

theorem begun_ev : Ev (fun k => hodmanlaw1_begun.f k) true := Ev.of hodmanlaw1_begun.mono (k := 20) (by decide +kernel)

theorem CalcUp : hodmanlaw1_CalcUp.Pure := by
  intro v hw
  have hv := wf64 hw
  apply Ev.rounds
  unfold hodmanlaw1_CalcUp.f
  refine Ev.bind begun_ev ?_
  simp only [if_true]
  refine Ev.bind (up_ev v) ?_
  unfold upS
  by_cases h1 : v < 1
  · simp only [if_pos h1, Bool.false_eq_true, if_false, if_true]
    exact Ev.now _
  · by_cases h2 : v > 4611686018427387904
    · simp only [if_neg h1, if_pos h2, Bool.false_eq_true, if_false, if_true, decide_eq_true h2]
      exact Ev.now _
    · simp only [if_neg h1, if_neg h2, if_true]
      have hc : clog v.toNat ≤ 62 := clog_le (by simp; omega)
      have hp := pow62 hc
      have hpos := Nat.two_pow_pos (clog v.toNat)
      have hle := le_clog v.toNat
      refine Ev.bind (log_ev (v := ((2 ^ clog v.toNat : Nat) : Int)) (by unfold R64; omega)) ?_
      refine Ev.bind (log_ev (v := v) hv) ?_
      have e1 : logS ((2 ^ clog v.toNat : Nat) : Int) = ((clog v.toNat : Int), true) := by
        unfold logS
        rw [if_pos ⟨by omega, by rw [Int.toNat_natCast, Nat.log2_two_pow]⟩, Int.toNat_natCast, Nat.log2_two_pow]
      have e2 : shl .i64 1 (clog v.toNat : Int) = ((2 ^ clog v.toNat : Nat) : Int) := by
        unfold shl
        have : min ((clog v.toNat : Int)).toNat IntKind.i64.bits = clog v.toNat := by simp [IntKind.bits]; omega
        rw [this, IntKind.wrap_i64]
        have e3 : (1 : Int) * 2 ^ clog v.toNat = ((2 ^ clog v.toNat : Nat) : Int) := by simp
        rw [e3]; omega
      have e4 : (logS v).2 = (((2 ^ clog v.toNat : Nat) : Int) == v) := by
        unfold logS
        by_cases h3 : v = ((2 ^ clog v.toNat : Nat) : Int)
        · have h4 : v.toNat = 2 ^ clog v.toNat := by omega
          have h5 : Nat.log2 v.toNat = clog v.toNat := by
            have := congrArg Nat.log2 h4
            rwa [Nat.log2_two_pow] at this
          rw [h5, if_pos ⟨by omega, h3⟩]
          simp [← h3]
        · rw [if_neg]
          · symm; simpa using fun c => h3 c.symm
          · rintro ⟨_, h4⟩
            have h5 : v.toNat = 2 ^ Nat.log2 v.toNat := by omega
            have h6 := congrArg clog h5
            rw [clog_pow] at h6
            exact h3 (by rw [h6]; exact h4)
      simp only [e1, e2, e4]
      have h7 : ((2 ^ clog v.toNat : Nat) : Int) ≥ v := by omega
      simp only [if_pos h7, if_true, if_pos (show (clog v.toNat : Int) ≥ 0 by omega), if_pos (show (clog v.toNat : Int) < 63 by omega), beq_self_eq_true]
      by_cases h8 : ((2 ^ clog v.toNat : Nat) : Int) = 1
      · simp only [if_pos h8]; exact Ev.now _
      · simp only [if_neg h8]
        have h9 : wrap64 (Int.tdiv ((2 ^ clog v.toNat : Nat) : Int) 2) < v := by
          rcases Nat.eq_zero_or_pos (clog v.toNat) with h0 | h0
          · rw [h0] at h8; simp at h8
          · obtain ⟨c, hcc⟩ : ∃ c, clog v.toNat = c + 1 := ⟨clog v.toNat - 1, by omega⟩
            have h10 := lt_clog (n := v.toNat) (e := c) (by omega)
            rw [Int.tdiv_eq_ediv_of_nonneg (by omega), hcc, Nat.pow_succ]
            unfold wrap64
            omega
        simp only [if_pos h9]; exact Ev.now _

end Go.Proofs.Ytikonphhbfilfaa.Pure
