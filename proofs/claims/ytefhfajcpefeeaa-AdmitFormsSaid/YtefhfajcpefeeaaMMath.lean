/- Plain lemmas on whole numbers of 64 bits with a sign, sums, products, powers of two. -/
import Derived.RowKit
import Derived.Laws.BitsLemmas
namespace Go.Proofs.Ytefhfajcpefeeaa.Kit
open Go Go.RowKit

theorem wf64 {a : Int} (h : (Lit.int .i64 a).wf = true) : -9223372036854775808 ≤ a ∧ a ≤ 9223372036854775807 := by
  simp only [Lit.wf, IntKind.min, IntKind.max, IntKind.signed, IntKind.bits, Bool.and_eq_true, decide_eq_true_eq, if_true] at h
  omega

theorem u64w (n : Int) : IntKind.u64.wrap n = n % 18446744073709551616 := by simp [IntKind.wrap, IntKind.bits, IntKind.signed]

theorem add_sum (a b : Int) : wrap64 (IntKind.u64.wrap ((IntKind.u64.wrap a) + (IntKind.u64.wrap b))) = wrap64 (a + b) := by
  simp only [u64w, wrap64]; omega

theorem mul_prod (a b : Int) : wrap64 (IntKind.u64.wrap ((IntKind.u64.wrap a) * (IntKind.u64.wrap b))) = wrap64 (a * b) := by
  simp only [u64w, wrap64]
  rw [← Int.mul_emod]
  omega

theorem ofInt_toNat (a : Int) : (BitVec.ofInt 64 a).toNat = (a % 18446744073709551616).toNat := by
  simp [BitVec.toNat_ofInt]

theorem ofInt_msb (a : Int) (h : -9223372036854775808 ≤ a ∧ a ≤ 9223372036854775807) : (BitVec.ofInt 64 a).msb = decide (a < 0) := by
  rw [BitVec.msb_eq_decide, ofInt_toNat]
  simp
  omega

theorem i64_neg (u : BitVec 64) : (IntKind.i64.wrap (u.toNat : Int) < 0) = (u.msb = true) := by
  rw [BitVec.msb_eq_decide, IntKind.wrap_i64]
  have := u.isLt
  simp
  omega

theorem and_neg (a b : Int) (ha : -9223372036854775808 ≤ a ∧ a ≤ 9223372036854775807) (hb : -9223372036854775808 ≤ b ∧ b ≤ 9223372036854775807) :
    (Go.bits .and .i64 a b < 0) ↔ (a < 0 ∧ b < 0) := by
  have e : Go.bits .and .i64 a b = IntKind.i64.wrap (((BitVec.ofInt 64 a &&& BitVec.ofInt 64 b).toNat : Nat) : Int) := rfl
  rw [e, i64_neg, BitVec.msb_and, ofInt_msb a ha, ofInt_msb b hb]
  simp

theorem i64_range (n : Int) : -9223372036854775808 ≤ IntKind.i64.wrap n ∧ IntKind.i64.wrap n ≤ 9223372036854775807 := by
  rw [IntKind.wrap_i64]; omega

theorem xor_neg (a b : Int) (ha : -9223372036854775808 ≤ a ∧ a ≤ 9223372036854775807) (hb : -9223372036854775808 ≤ b ∧ b ≤ 9223372036854775807) :
    (Go.bits .xor .i64 a b < 0) ↔ ¬ (a < 0 ↔ b < 0) := by
  have e : Go.bits .xor .i64 a b = IntKind.i64.wrap (((BitVec.ofInt 64 a ^^^ BitVec.ofInt 64 b).toNat : Nat) : Int) := rfl
  rw [e, i64_neg, BitVec.msb_xor, ofInt_msb a ha, ofInt_msb b hb]
  by_cases h1 : a < 0 <;> by_cases h2 : b < 0 <;> simp [h1, h2]

theorem xor_range (a b : Int) : -9223372036854775808 ≤ Go.bits .xor .i64 a b ∧ Go.bits .xor .i64 a b ≤ 9223372036854775807 := i64_range _

theorem add_test (a b : Int) (ha : -9223372036854775808 ≤ a ∧ a ≤ 9223372036854775807) (hb : -9223372036854775808 ≤ b ∧ b ≤ 9223372036854775807) :
    (Go.bits .and .i64 (Go.bits .xor .i64 a (wrap64 (a + b))) (Go.bits .xor .i64 b (wrap64 (a + b))) < 0) ↔ ¬ (-9223372036854775808 ≤ a + b ∧ a + b ≤ 9223372036854775807) := by
  have hs : -9223372036854775808 ≤ wrap64 (a + b) ∧ wrap64 (a + b) ≤ 9223372036854775807 := by unfold wrap64; omega
  rw [and_neg _ _ (xor_range _ _) (xor_range _ _), xor_neg _ _ ha hs, xor_neg _ _ hb hs]
  unfold wrap64; omega

theorem and_pow (v : Int) (h1 : 1 ≤ v) (h2 : v ≤ 9223372036854775807) : (Go.bits .and .i64 v (wrap64 (v - 1)) = 0) ↔ v.toNat.isPowerOfTwo := by
  obtain ⟨n, rfl⟩ : ∃ n : Nat, v = (n : Int) := ⟨v.toNat, by omega⟩
  have e : wrap64 ((n : Int) - 1) = ((n - 1 : Nat) : Int) := by unfold wrap64; omega
  rw [e, (bits_nat .i64 63 (by decide) (fun m h0 h => by rw [IntKind.wrap_i64]; omega) n (n - 1) (by omega) (by omega)).1]
  have := Nat.and_sub_one_eq_zero_iff_isPowerOfTwo (n := n) (by omega)
  simp only [Int.toNat_natCast]
  rw [← this]
  omega

def R64 (a : Int) : Prop := -9223372036854775808 ≤ a ∧ a ≤ 9223372036854775807
instance (a : Int) : Decidable (R64 a) := by unfold R64; infer_instance

def addS (a b : Int) : Int × Bool := if R64 (a + b) then (a + b, true) else (0, false)
def mulS (a b : Int) : Int × Bool := if R64 (a * b) then (a * b, true) else (0, false)

theorem wrap_in {a : Int} (h : R64 a) : wrap64 a = a := by unfold R64 at h; unfold wrap64; omega
theorem wrap_range (a : Int) : R64 (wrap64 a) := by unfold R64 wrap64; omega

theorem mul_back {a b : Int} (ha : R64 a) (hb : R64 b) (h0 : b ≠ 0) (h1 : ¬ (a = -1 ∧ b = -9223372036854775808)) (h2 : ¬ (b = -1 ∧ a = -9223372036854775808)) :
    (wrap64 (Int.tdiv (wrap64 (a * b)) b) = a) ↔ R64 (a * b) := by
  constructor
  · intro h
    by_cases hr : R64 (a * b)
    · exact hr
    · exfalso
      have hp := wrap_range (a * b)
      -- p = a*b + 2^64*m
      have hm : ∃ m, wrap64 (a * b) = a * b + 18446744073709551616 * m ∧ m ≠ 0 := by
        refine ⟨-((a * b + 9223372036854775808) / 18446744073709551616), ?_, ?_⟩
        · unfold wrap64; omega
        · intro h
          apply hr
          unfold R64; omega
      obtain ⟨m, hm, hm0⟩ := hm
      generalize hpp : wrap64 (a * b) = p at *
      by_cases hb1 : b = -1
      · subst hb1
        unfold R64 at *
        simp at h2
        omega
      · have hq : R64 (Int.tdiv p b) := by
          have h3 : (Int.tdiv p b).natAbs ≤ p.natAbs := by
            rw [Int.natAbs_tdiv]; exact Nat.div_le_self _ _
          unfold R64 at *
          by_cases hmin : Int.tdiv p b = 9223372036854775808
          · exfalso
            have h4 : (Int.tdiv p b).natAbs = p.natAbs / b.natAbs := Int.natAbs_tdiv p b
            rw [hmin] at h4
            have h5 : p.natAbs / b.natAbs ≤ 9223372036854775808 / 2 := by
              by_cases hb2 : b = 1
              · subst hb2
                simp at hmin
                omega
              · calc p.natAbs / b.natAbs ≤ 9223372036854775808 / b.natAbs := Nat.div_le_div_right (by omega)
                  _ ≤ 9223372036854775808 / 2 := Nat.div_le_div_left (by omega) (by omega)
            simp at h4 h5
            omega
          · omega
        rw [wrap_in hq] at h
        have h6 := Int.mul_tdiv_add_tmod p b
        have h7 : (Int.tmod p b).natAbs < b.natAbs := by
          rw [Int.natAbs_tmod]; exact Nat.mod_lt _ (by omega)
        rw [h, Int.mul_comm b a] at h6
        unfold R64 at *
        omega
  · intro h
    rw [wrap_in h, Int.mul_tdiv_cancel _ h0, wrap_in ha]

/-- the least exponent whose power of two is not below -/
def clog (n : Nat) : Nat := if n ≤ 1 then 0 else Nat.log2 (n - 1) + 1
theorem le_clog (n : Nat) : n ≤ 2 ^ clog n := by
  unfold clog
  split
  · simpa using (by assumption)
  · have := @Nat.lt_log2_self (n - 1); omega
theorem lt_clog {n e : Nat} (h : e < clog n) : 2 ^ e < n := by
  unfold clog at h
  split at h
  · omega
  · have h1 := Nat.log2_self_le (n := n - 1) (by omega)
    have h2 : 2 ^ e ≤ 2 ^ Nat.log2 (n - 1) := Nat.pow_le_pow_right (by decide) (by omega)
    omega
theorem clog_le {n c : Nat} (h : n ≤ 2 ^ c) : clog n ≤ c := by
  rcases Nat.lt_or_ge c (clog n) with h1 | h1
  · have := lt_clog h1; omega
  · exact h1
theorem clog_pow (c : Nat) : clog (2 ^ c) = c := by
  apply Nat.le_antisymm (clog_le (Nat.le_refl _))
  rcases Nat.lt_or_ge (clog (2 ^ c)) c with h | h
  · have h1 := le_clog (2 ^ c)
    have h2 : 2 ^ clog (2 ^ c) < 2 ^ c := Nat.pow_lt_pow_right (by decide) h
    omega
  · exact h

def upS (v : Int) : Int × Bool := if v < 1 then (0, false) else if v > 4611686018427387904 then (0, false) else (((2 ^ clog v.toNat : Nat) : Int), true)

theorem pow62 {e : Nat} (h : e ≤ 62) : (2 : Nat) ^ e ≤ 4611686018427387904 := by
  have : (2 : Nat) ^ e ≤ 2 ^ 62 := Nat.pow_le_pow_right (by decide) h
  simpa using this

def logS (v : Int) : Int × Bool := if 1 ≤ v ∧ v = ((2 ^ Nat.log2 v.toNat : Nat) : Int) then ((Nat.log2 v.toNat : Int), true) else (0, false)

theorem isPow_iff {n : Nat} : n.isPowerOfTwo ↔ n = 2 ^ Nat.log2 n := by
  constructor
  · rintro ⟨k, rfl⟩; rw [Nat.log2_two_pow]
  · intro h; exact ⟨_, h⟩

theorem log2_lt63 {v : Int} (h1 : 1 ≤ v) (h2 : v ≤ 9223372036854775807) : Nat.log2 v.toNat ≤ 62 := by
  have := (Nat.log2_lt (n := v.toNat) (k := 63) (by omega)).2 (by omega)
  omega

def roundS (v d : Int) : Int × Bool := if v < 0 then (0, false) else if d < 1 then (0, false) else if v % d = 0 then (v, true) else addS v (d - v % d)


end Go.Proofs.Ytefhfajcpefeeaa.Kit
