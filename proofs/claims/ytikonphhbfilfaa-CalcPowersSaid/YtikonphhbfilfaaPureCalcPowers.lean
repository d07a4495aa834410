/- CalcPowers: for every power of two up to 2 to the 60 and whatever more, Up of what is above it is twice it, and Log counts doublings; no condition. -/
import Derived.Test.YtikonphhbfilfaaKCalcPowersCalc
namespace Go.Proofs.Ytikonphhbfilfaa.Pure
open Go Go.RowKit Go.Proofs.YtikonphhbfilfaaW.PrintWords Go.Proofs.YtikonphhbfilfaaW.PrintLast Go.Proofs.YtikonphhbfilfaaW.PrintMore Go.Proofs.Ytikonphhbfilfaa.PCalcPowers Go.Proofs.Ytikonphhbfilfaa.Kit Go.Proofs.Ytikonphhbfilfaa.KCalcPowers

theorem begun_ev : Ev (fun k => hodmanlaw1_begun.f k) true := Ev.of hodmanlaw1_begun.mono (k := 20) (by decide +kernel)

theorem wf8 {a : Int} (h : (Lit.int .u8 a).wf = true) : 0 ≤ a ∧ a ≤ 255 := by
  simp [Lit.wf, IntKind.min, IntKind.max, IntKind.signed, IntKind.bits] at h
  omega

theorem and_mask (x : Int) (n : Nat) (hn : n ≤ 62) : Go.bits .and .i64 x (((2 ^ n : Nat) : Int) - 1) = x % ((2 ^ n : Nat) : Int) := by
  have hp := pow62 hn
  have hpos := Nat.two_pow_pos n
  have e : Go.bits .and .i64 x (((2 ^ n : Nat) : Int) - 1) = IntKind.i64.wrap (((BitVec.ofInt 64 x &&& BitVec.ofInt 64 (((2 ^ n : Nat) : Int) - 1)).toNat : Nat) : Int) := rfl
  rw [e, BitVec.toNat_and, ofInt_toNat, ofInt_toNat]
  have e2 : ((((2 ^ n : Nat) : Int) - 1) % 18446744073709551616).toNat = 2 ^ n - 1 := by omega
  rw [e2, Nat.and_two_pow_sub_one_eq_mod]
  have h1 : (x % 18446744073709551616).toNat % 2 ^ n < 2 ^ n := Nat.mod_lt _ hpos
  have h2 : ((((x % 18446744073709551616).toNat % 2 ^ n : Nat)) : Int) = x % ((2 ^ n : Nat) : Int) := by
    rw [Int.natCast_emod, Int.toNat_of_nonneg (by omega)]
    apply Int.emod_emod_of_dvd
    have : (18446744073709551616 : Int) = ((2 ^ n : Nat) : Int) * ((2 ^ (64 - n) : Nat) : Int) := by
      rw [← Int.natCast_mul, ← Nat.pow_add, show n + (64 - n) = 64 by omega]; rfl
    exact ⟨_, this⟩
  rw [← h2, IntKind.wrap_i64]
  omega

theorem CalcPowers : hodmanlaw1_CalcPowers.Pure := by
  intro kk more hk _
  have hk := wf8 hk
  apply Ev.rounds
  unfold hodmanlaw1_CalcPowers.f
  refine Ev.bind begun_ev ?_
  simp only [if_true]
  obtain ⟨n, hn⟩ : ∃ n : Nat, wrap64 (Int.tmod kk 61) = (n : Int) := by
    refine ⟨(wrap64 (Int.tmod kk 61)).toNat, ?_⟩
    rw [Int.tmod_eq_emod_of_nonneg (by omega)]
    unfold wrap64; omega
  have hn60 : n ≤ 60 := by
    rw [Int.tmod_eq_emod_of_nonneg (by omega)] at hn
    unfold wrap64 at hn; omega
  rw [hn]
  have e2 : shl .i64 1 (n : Int) = ((2 ^ n : Nat) : Int) := by
    unfold shl
    have : min ((n : Int)).toNat IntKind.i64.bits = n := by simp [IntKind.bits]; omega
    have hp := pow62 (e := n) (by omega)
    have hpos := Nat.two_pow_pos n
    rw [this, IntKind.wrap_i64]
    have e3 : (1 : Int) * 2 ^ n = ((2 ^ n : Nat) : Int) := by simp
    rw [e3]; omega
  have hp60 : 2 ^ n ≤ 1152921504606846976 := by
    have : (2 : Nat) ^ n ≤ 2 ^ 60 := Nat.pow_le_pow_right (by decide) hn60
    simpa using this
  have hpos := Nat.two_pow_pos n
  simp only [e2, if_pos (show (0 : Int) ≤ (n : Int) by omega)]
  have hs : (2 : Nat) ^ (n + 1) = 2 * 2 ^ n := by rw [Nat.pow_succ]; omega
  have w1 : wrap64 (((2 ^ n : Nat) : Int) + 1) = ((2 ^ n + 1 : Nat) : Int) := by unfold wrap64; omega
  have w2 : wrap64 (2 * ((2 ^ n : Nat) : Int)) = ((2 ^ (n + 1) : Nat) : Int) := by rw [hs]; unfold wrap64; omega
  have w3 : wrap64 (((2 ^ n : Nat) : Int) - 1) = ((2 ^ n : Nat) : Int) - 1 := by unfold wrap64; omega
  have w4 : wrap64 (-((2 ^ n : Nat) : Int)) = -((2 ^ n : Nat) : Int) := by unfold wrap64; omega
  have w5 : wrap64 ((n : Int) + 1) = ((n + 1 : Nat) : Int) := by unfold wrap64; omega
  have hm0 := Int.emod_nonneg more (b := ((2 ^ n : Nat) : Int)) (by omega)
  have hm1 := Int.emod_lt_of_pos more (b := ((2 ^ n : Nat) : Int)) (by omega)
  obtain ⟨r, hr⟩ : ∃ r : Nat, more % ((2 ^ n : Nat) : Int) = (r : Int) := ⟨_, (Int.toNat_of_nonneg hm0).symm⟩
  have w6 : wrap64 (((2 ^ n : Nat) : Int) + more % ((2 ^ n : Nat) : Int)) = ((2 ^ n + r : Nat) : Int) := by rw [hr]; unfold wrap64; omega
  simp only [w1, w2, w3, w4, w5, and_mask more n (by omega), w6]
  have up : ∀ m c : Nat, clog m = c → 1 ≤ m → (m : Int) ≤ 4611686018427387904 → upS (m : Int) = (((2 ^ c : Nat) : Int), true) := by
    intro m c hc h1 h2
    unfold upS
    rw [if_neg (by omega), if_neg (by omega), Int.toNat_natCast, hc]
  have lg : ∀ c : Nat, logS ((2 ^ c : Nat) : Int) = ((c : Int), true) := by
    intro c
    have := Nat.two_pow_pos c
    unfold logS
    rw [if_pos ⟨by omega, by rw [Int.toNat_natCast, Nat.log2_two_pow]⟩, Int.toNat_natCast, Nat.log2_two_pow]
  have cabove : ∀ q : Nat, 0 < q → q ≤ 2 ^ n → clog (2 ^ n + q) = n + 1 := by
    intro q h0 h1
    apply Nat.le_antisymm (clog_le (by rw [hs]; omega))
    rcases Nat.lt_or_ge (clog (2 ^ n + q)) (n + 1) with h | h
    · have h2 := le_clog (2 ^ n + q)
      have h3 : 2 ^ clog (2 ^ n + q) ≤ 2 ^ n := Nat.pow_le_pow_right (by decide) (by omega)
      omega
    · exact h
  refine Ev.bind (up_ev _) ?_
  refine Ev.bind (up_ev _) ?_
  refine Ev.bind (log_ev (by unfold R64; omega)) ?_
  refine Ev.bind (log_ev (by rw [hs]; unfold R64; omega)) ?_
  refine Ev.bind (up_ev _) ?_
  refine Ev.bind (log_ev (by unfold R64; omega)) ?_
  have u1 := up (2 ^ n) n (clog_pow n) (by omega) (by omega)
  have u2 := up (2 ^ n + 1) (n + 1) (cabove 1 (by omega) (by omega)) (by omega) (by omega)
  have l1 : (logS (-((2 ^ n : Nat) : Int))).2 = false := by unfold logS; rw [if_neg (by omega)]
  simp only [u1, u2, lg n, lg (n + 1), l1, if_true]
  by_cases h0 : r = 0
  · subst h0
    have u3 := up (2 ^ n + 0) n (by simpa using clog_pow n) (by omega) (by omega)
    simp only [u3, hr]
    simp
    exact Ev.now _
  · have u3 := up (2 ^ n + r) (n + 1) (cabove r (by omega) (by omega)) (by omega) (by omega)
    have ne : ¬ ((2 ^ (n + 1) : Nat) : Int) = ((2 ^ n : Nat) : Int) := by rw [hs]; omega
    have b1 : (((2 ^ (n + 1) : Nat) : Int) == ((2 ^ n : Nat) : Int)) = false := by simpa using ne
    have b2 : ((r : Int) == 0) = false := by simpa using h0
    simp only [u3, hr, b1, b2, if_neg ne, if_true, beq_self_eq_true, Bool.not_false]
    exact Ev.now _

end Go.Proofs.Ytikonphhbfilfaa.Pure
