/- What the functions of calc come to, for all numbers of 64 bits. -/
import Derived.Test.YtefhfajcpefeeaaPAdmitFormsx5
import Derived.Test.YtefhfajcpefeeaaMMath
namespace Go.Proofs.Ytefhfajcpefeeaa.KAdmitForms
open Go Go.RowKit Go.Proofs.YtefhfajcpefeeaaW.PrintWords Go.Proofs.YtefhfajcpefeeaaW.PrintLast Go.Proofs.YtefhfajcpefeeaaW.PrintMore Go.Proofs.Ytefhfajcpefeeaa.PAdmitForms Go.Proofs.Ytefhfajcpefeeaa.Kit
/-- from so many rounds on -/
theorem Evc {α : Type} {g : Nat → Option α} {r : α} (K : Nat) (h : ∀ k, g (k + K) = some r) : Ev g r :=
  ⟨K, fun k hk => by have := h (k - K); rwa [Nat.sub_add_cancel hk] at this⟩

theorem add_eq {a b : Int} (ha : R64 a) (hb : R64 b) : calc_Add.f a b = some (addS a b) := by
  unfold calc_Add.f addS
  rw [add_sum]
  by_cases h : R64 (a + b)
  · rw [if_neg (fun c => (add_test a b ha hb).1 c h), if_pos h, wrap_in h]
  · rw [if_pos ((add_test a b ha hb).2 h), if_neg h]

theorem mul_ev {a b : Int} (ha : R64 a) (hb : R64 b) : Ev (fun k => calc_Mul.f k a b) (mulS a b) := by
  refine Evc 2 (fun k => ?_)
  unfold calc_Mul.f mulS
  by_cases h0 : a = 0
  · subst h0
    rw [if_pos rfl]
    simp [calc_Mul.j0, R64]
  · rw [if_neg h0]
    simp only [calc_Mul.j0, calc_Mul.j1, mul_prod]
    by_cases hb0 : b = 0
    · subst hb0; simp [R64]
    · have hbb : (b == 0) = false := by simpa using hb0
      rw [hbb]
      simp only [Bool.false_eq_true, if_false, if_true, if_neg hb0]
      by_cases h1 : a = -1 ∧ b = -9223372036854775808
      · obtain ⟨rfl, rfl⟩ := h1
        simp [R64]
      · by_cases h2 : b = -1 ∧ a = -9223372036854775808
        · obtain ⟨rfl, rfl⟩ := h2
          simp [R64]
        · have key := mul_back ha hb hb0 h1 h2
          have hmain : (if wrap64 ((wrap64 (a * b)).tdiv b) = a then some (wrap64 (a * b), true) else some (0, false)) = some (if R64 (a * b) then (a * b, true) else (0, false)) := by
            by_cases h : R64 (a * b)
            · rw [if_pos (key.2 h), if_pos h, wrap_in h]
            · rw [if_neg (fun c => h (key.1 c)), if_neg h]
          by_cases ha1 : a = -1
          · rw [if_pos ha1, if_neg (fun c => h1 ⟨ha1, c⟩)]
            by_cases hb1 : b = -1
            · rw [if_pos hb1]
              have : (a == -9223372036854775808) = false := by subst ha1; rfl
              rw [this]; simpa using hmain
            · rw [if_neg hb1]; exact hmain
          · rw [if_neg ha1]
            by_cases hb1 : b = -1
            · rw [if_pos hb1]
              have : (a == -9223372036854775808) = false := by
                have := fun c => h2 ⟨hb1, c⟩
                simpa using this
              rw [this]; simpa using hmain
            · rw [if_neg hb1]; exact hmain


theorem up_loop (v : Int) (h1 : 1 ≤ v) (h2 : v ≤ 4611686018427387904) (d : Nat) : ∀ (k e : Nat), e + d = clog v.toNat → d < k →
    calc_Up.l0 k v ((2 ^ e : Nat) : Int) = some (((2 ^ clog v.toNat : Nat) : Int), true) := by
  have hc : clog v.toNat ≤ 62 := clog_le (by simp; omega)
  induction d with
  | zero =>
    intro k e he hk
    obtain ⟨k, rfl⟩ : ∃ m, k = m + 1 := ⟨k - 1, by omega⟩
    obtain rfl : e = clog v.toNat := by omega
    have := le_clog v.toNat
    simp only [calc_Up.l0]
    rw [if_neg (by omega)]
  | succ d ih =>
    intro k e he hk
    obtain ⟨k, rfl⟩ : ∃ m, k = m + 1 := ⟨k - 1, by omega⟩
    have h3 := lt_clog (n := v.toNat) (e := e) (by omega)
    have h4 := pow62 (e := e) (by omega)
    simp only [calc_Up.l0]
    rw [if_pos (by omega)]
    have e1 : wrap64 (((2 ^ e : Nat) : Int) * 2) = ((2 ^ (e + 1) : Nat) : Int) := by
      rw [Nat.pow_succ]; unfold wrap64; omega
    rw [e1]
    exact ih k (e + 1) (by omega) (by omega)

theorem up_ev (v : Int) : Ev (fun k => calc_Up.f k v) (upS v) := by
  refine Evc 66 (fun k => ?_)
  unfold calc_Up.f upS
  by_cases h1 : v < 1
  · rw [if_pos h1, if_pos h1]; simp [calc_Up.j0]
  · rw [if_neg h1, if_neg h1]
    by_cases h2 : v > 4611686018427387904
    · rw [if_pos h2, decide_eq_true h2]; simp [calc_Up.j0]
    · rw [if_neg h2, decide_eq_false h2]
      have hc : clog v.toNat ≤ 62 := clog_le (by simp; omega)
      have := up_loop v (by omega) (by omega) (clog v.toNat) (k + 65) 0 (by omega) (by omega)
      simpa [calc_Up.j0] using this

theorem log_loop (e : Nat) : ∀ (k : Nat) (n : Int), 0 ≤ n → n + e ≤ 100 → e < k →
    calc_Log.l0 k ((2 ^ e : Nat) : Int) n = some (n + e, true) := by
  induction e with
  | zero =>
    intro k n h0 h1 hk
    obtain ⟨k, rfl⟩ : ∃ m, k = m + 1 := ⟨k - 1, by omega⟩
    simp [calc_Log.l0]
  | succ e ih =>
    intro k n h0 h1 hk
    obtain ⟨k, rfl⟩ : ∃ m, k = m + 1 := ⟨k - 1, by omega⟩
    have h3 : 0 < 2 ^ e := Nat.two_pow_pos e
    simp only [calc_Log.l0]
    rw [if_pos (by rw [Nat.pow_succ]; omega)]
    have e1 : ((2 ^ (e + 1) : Nat) : Int) / 2 = ((2 ^ e : Nat) : Int) := by rw [Nat.pow_succ]; omega
    rw [e1, show wrap64 (n + 1) = n + 1 by unfold wrap64; omega, ih k (n + 1) (by omega) (by omega) (by omega)]
    simp; omega

theorem log_ev {v : Int} (hv : R64 v) : Ev (fun k => calc_Log.f k v) (logS v) := by
  refine Evc 66 (fun k => ?_)
  unfold calc_Log.f logS
  by_cases h1 : v < 1
  · rw [if_pos h1, if_neg (by omega)]; simp [calc_Log.j0]
  · rw [if_neg h1]
    unfold R64 at hv
    have hp := and_pow v (by omega) (by omega)
    rw [isPow_iff] at hp
    have hl := log2_lt63 (v := v) (by omega) (by omega)
    by_cases h2 : v.toNat = 2 ^ Nat.log2 v.toNat
    · have h3 : v = ((2 ^ Nat.log2 v.toNat : Nat) : Int) := by omega
      rw [if_pos ⟨by omega, h3⟩]
      have h4 : (Go.bits .and .i64 v (wrap64 (v - 1)) != 0) = false := by simpa using hp.2 h2
      rw [h4]
      have h5 := log_loop (Nat.log2 v.toNat) (k + 65) 0 (by omega) (by omega) (by omega)
      rw [← h3] at h5
      simpa [calc_Log.j0] using h5
    · rw [if_neg (by rintro ⟨_, h⟩; exact h2 (by omega))]
      have h4 : (Go.bits .and .i64 v (wrap64 (v - 1)) != 0) = true := by simpa using (fun c => h2 (hp.1 c))
      rw [h4]; simp [calc_Log.j0]


end Go.Proofs.Ytefhfajcpefeeaa.KAdmitForms
