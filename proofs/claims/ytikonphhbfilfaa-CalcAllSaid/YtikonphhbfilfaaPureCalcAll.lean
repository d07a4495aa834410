/- CalcAll: for all two numbers of 64 bits, Add, Mul, Up, Log and Round come to what the document's own answer says; no condition. -/
import Derived.Test.YtikonphhbfilfaaKCalcAllCalc
namespace Go.Proofs.Ytikonphhbfilfaa.Pure
open Go Go.RowKit Go.Proofs.YtikonphhbfilfaaW.PrintWords Go.Proofs.YtikonphhbfilfaaW.PrintLast Go.Proofs.YtikonphhbfilfaaW.PrintMore Go.Proofs.Ytikonphhbfilfaa.PCalcAll Go.Proofs.Ytikonphhbfilfaa.Kit Go.Proofs.Ytikonphhbfilfaa.KCalcAll

theorem begun_ev : Ev (fun k => hodmanlaw1_begun.f k) true := Ev.of hodmanlaw1_begun.mono (k := 20) (by decide +kernel)

theorem radd_eq {a b : Int} (ha : R64 a) (hb : R64 b) : hodmanref1_Add.f a b = some (addS a b) := by
  unfold hodmanref1_Add.f addS
  unfold R64 at ha hb
  by_cases h : R64 (a + b)
  · rw [if_pos h, wrap_in h]
    unfold R64 at h
    by_cases b0 : b > 0
    · rw [if_pos b0, if_neg (by unfold wrap64; omega), if_neg (by omega)]
    · rw [if_neg b0]
      by_cases b1 : b < 0
      · rw [if_pos b1, if_neg (by unfold wrap64; omega)]
      · rw [if_neg b1]
  · rw [if_neg h]
    unfold R64 at h
    by_cases b0 : b > 0
    · rw [if_pos b0, if_pos (by unfold wrap64; omega)]
    · rw [if_neg b0]
      by_cases b1 : b < 0
      · rw [if_pos b1, if_pos (by unfold wrap64; omega)]
      · omega

theorem rmul_ev {a b : Int} (ha : R64 a) (hb : R64 b) : Ev (fun k => hodmanref1_Mul.f k a b) (mulS a b) := by
  refine Evc 1 (fun k => ?_)
  unfold hodmanref1_Mul.f mulS
  by_cases h0 : a = 0
  · subst h0
    rw [if_pos rfl]
    simp [hodmanref1_Mul.j0, R64]
  · rw [if_neg h0]
    simp only [hodmanref1_Mul.j0]
    by_cases hb0 : b = 0
    · subst hb0; simp [R64]
    · have hbb : (b == 0) = false := by simpa using hb0
      rw [hbb]
      simp only [Bool.false_eq_true, if_false, if_neg hb0]
      by_cases h1 : a = -1 ∧ b = -9223372036854775808
      · obtain ⟨rfl, rfl⟩ := h1
        simp [R64]
      · by_cases h2 : b = -1 ∧ a = -9223372036854775808
        · obtain ⟨rfl, rfl⟩ := h2
          simp [R64]
        · have key := mul_back ha hb hb0 h1 h2
          have hmain : (if wrap64 ((wrap64 (a * b)).tdiv b) = a then some (wrap64 (a * b), true) else some (0, false)) = some (if R64 (a * b) then (a * b, true) else (0, false)) := by
            by_cases h : R64 (a * b)
            · rw [if_pos (key.2 h), if_pos h, wrap_in h]
            · rw [if_neg (fun c => h (key.1 c)), if_neg h]
          by_cases ha1 : a = -1
          · rw [if_pos ha1, if_neg (fun c => h1 ⟨ha1, c⟩), if_neg (show ¬ a = -9223372036854775808 by omega)]
            by_cases hb1 : b = -1
            · rw [if_pos hb1]; exact hmain
            · rw [if_neg hb1]; exact hmain
          · rw [if_neg ha1]
            by_cases hb1 : b = -1
            · rw [if_pos hb1, if_neg (fun c => h2 ⟨hb1, c⟩)]; exact hmain
            · rw [if_neg hb1]; exact hmain

theorem rround_ev {v d : Int} (hv : R64 v) (ht : R64 d) : Ev (fun k => hodmanref1_Round.f k v d) (roundS v d) := by
  refine Evc 1 (fun k => ?_)
  unfold hodmanref1_Round.f roundS
  unfold R64 at hv ht
  by_cases h1 : v < 0
  · rw [if_pos h1, if_pos h1]; simp [hodmanref1_Round.j0]
  · rw [if_neg h1, if_neg h1]
    by_cases h2 : d < 1
    · rw [if_pos h2, decide_eq_true h2]; simp [hodmanref1_Round.j0]
    · rw [if_neg h2, decide_eq_false h2]
      have e1 : Int.tmod v d = v % d := Int.tmod_eq_emod_of_nonneg (by omega)
      have h3 := Int.emod_nonneg v (b := d) (by omega)
      have h4 := Int.emod_lt_of_pos v (b := d) (by omega)
      have h6 : v % d ≤ v := by
        have := Int.mul_ediv_add_emod v d
        have h7 := Int.ediv_nonneg (a := v) (b := d) (by omega) (by omega)
        have h8 := Int.mul_nonneg (show 0 ≤ d by omega) h7
        omega
      simp only [hodmanref1_Round.j0, e1]
      rw [if_neg (by simp), if_neg (by omega)]
      by_cases h5 : v % d = 0
      · rw [if_pos h5, if_pos h5]
      · rw [if_neg h5, if_neg h5, show wrap64 (v - v % d) = v - v % d by unfold wrap64; omega]
        rw [radd_eq (by unfold R64; omega) (by unfold R64; omega)]
        simp only [Option.bind_some, addS, show v - v % d + d = v + (d - v % d) by omega]

theorem rup_loop (v : Int) (h1 : 1 ≤ v) (h2 : v ≤ 4611686018427387904) (d : Nat) : ∀ (k e : Nat), e + d = clog v.toNat → d < k →
    hodmanref1_Up.l0 k v ((2 ^ e : Nat) : Int) = some (((2 ^ clog v.toNat : Nat) : Int), true) := by
  have hc : clog v.toNat ≤ 62 := clog_le (by simp; omega)
  induction d with
  | zero =>
    intro k e he hk
    obtain ⟨k, rfl⟩ : ∃ m, k = m + 1 := ⟨k - 1, by omega⟩
    obtain rfl : e = clog v.toNat := by omega
    have := le_clog v.toNat
    simp only [hodmanref1_Up.l0]
    rw [if_neg (by omega)]
  | succ d ih =>
    intro k e he hk
    obtain ⟨k, rfl⟩ : ∃ m, k = m + 1 := ⟨k - 1, by omega⟩
    have h3 := lt_clog (n := v.toNat) (e := e) (by omega)
    have h4 := pow62 (e := e) (by omega)
    simp only [hodmanref1_Up.l0]
    rw [if_pos (by omega)]
    have e1 : wrap64 (((2 ^ e : Nat) : Int) * 2) = ((2 ^ (e + 1) : Nat) : Int) := by
      rw [Nat.pow_succ]; unfold wrap64; omega
    rw [e1]
    exact ih k (e + 1) (by omega) (by omega)

theorem rup_ev (v : Int) : Ev (fun k => hodmanref1_Up.f k v) (upS v) := by
  refine Evc 66 (fun k => ?_)
  unfold hodmanref1_Up.f upS
  by_cases h1 : v < 1
  · rw [if_pos h1, if_pos h1]; simp [hodmanref1_Up.j0]
  · rw [if_neg h1, if_neg h1]
    by_cases h2 : v > 4611686018427387904
    · rw [if_pos h2, decide_eq_true h2]; simp [hodmanref1_Up.j0]
    · rw [if_neg h2, decide_eq_false h2]
      have hc : clog v.toNat ≤ 62 := clog_le (by simp; omega)
      have := rup_loop v (by omega) (by omega) (clog v.toNat) (k + 65) 0 (by omega) (by omega)
      simpa [hodmanref1_Up.j0] using this

theorem rlog_loop {v : Int} (hv : R64 v) (d : Nat) : ∀ (k n : Nat), n + d = 63 → d < k → (∀ m, m < n → v ≠ ((2 ^ m : Nat) : Int)) → n ≤ 62 →
    hodmanref1_Log.l0 k v ((2 ^ n : Nat) : Int) (n : Int) = some (logS v) := by
  induction d with
  | zero => intro k n hn _ _ h; omega
  | succ d ih =>
    intro k n hn hk hm h62
    obtain ⟨k, rfl⟩ : ∃ m, k = m + 1 := ⟨k - 1, by omega⟩
    have hpos := Nat.two_pow_pos n
    have h4 := pow62 (e := n) (by omega)
    simp only [hodmanref1_Log.l0]
    rw [if_pos (by omega)]
    by_cases h1 : ((2 ^ n : Nat) : Int) = v
    · rw [if_pos h1]
      have h2 : v.toNat = 2 ^ n := by omega
      unfold logS
      rw [h2, Nat.log2_two_pow, if_pos ⟨by omega, h1.symm⟩]
    · rw [if_neg h1]
      by_cases h2 : (n : Int) < 62
      · rw [if_pos h2]
        have e1 : wrap64 (((2 ^ n : Nat) : Int) * 2) = ((2 ^ (n + 1) : Nat) : Int) := by
          have h5 := pow62 (e := n + 1) (by omega)
          rw [Nat.pow_succ] at h5 ⊢; unfold wrap64; omega
        have e2 : wrap64 ((n : Int) + 1) = ((n + 1 : Nat) : Int) := by unfold wrap64; omega
        rw [e1, e2]
        refine ih k (n + 1) (by omega) (by omega) ?_ (by omega)
        intro m hmn
        by_cases hme : m = n
        · subst hme; exact fun c => h1 c.symm
        · exact hm m (by omega)
      · rw [if_neg h2]
        obtain ⟨k, rfl⟩ : ∃ m, k = m + 1 := ⟨k - 1, by omega⟩
        have e2 : wrap64 ((n : Int) + 1) = 63 := by unfold wrap64; omega
        rw [e2]
        simp only [hodmanref1_Log.l0]
        rw [if_neg (by omega)]
        unfold logS
        rw [if_neg]
        rintro ⟨h3, h5⟩
        unfold R64 at hv
        have h6 := log2_lt63 (v := v) h3 (by omega)
        by_cases h7 : Nat.log2 v.toNat = n
        · rw [h7] at h5; exact h1 h5.symm
        · exact hm _ (by omega) h5

theorem rlog_ev {v : Int} (hv : R64 v) : Ev (fun k => hodmanref1_Log.f k v) (logS v) := by
  refine Evc 66 (fun k => ?_)
  unfold hodmanref1_Log.f
  exact rlog_loop hv 63 (k + 66) 0 (by omega) (by omega) (fun m h => by omega) (by omega)

theorem rest (a b : Int) (ha : R64 a) : Ev (fun k => hodmanlaw1_CalcAll.l0 k a [a, b, a] [b, a, a] 3) true := by
  refine Ev.step (f := fun k => _) (fun k => by simp only [hodmanlaw1_CalcAll.l0]; rw [if_neg (by omega)]) ?_
  refine Ev.bind (up_ev a) ?_
  refine Ev.bind (rup_ev a) ?_
  refine Ev.bind (log_ev ha) ?_
  refine Ev.bind (rlog_ev ha) ?_
  simp only [if_true, beq_self_eq_true]
  exact Ev.now _

theorem round1 (a b x y : Int) (hx : R64 x) (hy : R64 y) (i : Int) (h0 : 0 ≤ i) (h3 : i < 3) (ex : rd [a, b, a] i = x) (ey : rd [b, a, a] i = y)
    (hr : Ev (fun k => hodmanlaw1_CalcAll.l0 k a [a, b, a] [b, a, a] (i + 1)) true) : Ev (fun k => hodmanlaw1_CalcAll.l0 k a [a, b, a] [b, a, a] i) true := by
  refine Ev.step (f := fun k => _) (fun k => by
    simp only [hodmanlaw1_CalcAll.l0]
    rw [if_pos h3, if_pos h0, if_pos (by simpa using h3), if_pos (by simpa using h3), ex, ey, show wrap64 (i + 1) = i + 1 by unfold wrap64; omega]) ?_
  simp only [add_eq hx hy, radd_eq hx hy, Option.bind_some]
  refine Ev.bind (mul_ev hx hy) ?_
  refine Ev.bind (rmul_ev hx hy) ?_
  refine Ev.bind (round_ev hx hy) ?_
  refine Ev.bind (rround_ev hx hy) ?_
  simp only [if_true, bne_self_eq_false, Bool.false_eq_true, if_false]
  exact hr

theorem CalcAll : hodmanlaw1_CalcAll.Pure := by
  intro a b ha hb
  have ha : R64 a := wf64 ha
  have hb : R64 b := wf64 hb
  apply Ev.rounds
  unfold hodmanlaw1_CalcAll.f
  refine Ev.bind begun_ev ?_
  simp only [if_true]
  refine round1 a b a b ha hb 0 (by omega) (by omega) rfl rfl ?_
  refine round1 a b b a hb ha 1 (by omega) (by omega) rfl rfl ?_
  refine round1 a b a a ha ha 2 (by omega) (by omega) rfl rfl ?_
  exact rest a b ha

end Go.Proofs.Ytikonphhbfilfaa.Pure
