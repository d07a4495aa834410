/- Texts of the proof (DRun, DRun2, DMark, LawTightStages); no condition. -/
import Derived.Test.YtbgnjpbcdkegoaaTightStagesh
import Derived.Test.YtbgnjpbcdkegoaaFb
set_option linter.unusedSimpArgs false
set_option linter.unusedVariables false
/- The script runs: what the model holds behind each of its steps. -/
set_option linter.unusedVariables false
namespace Go.Proofs.D.S
open Go Go.RowKit
variable {g l u : Nat}
theorem chSum_rowB (k : Nat) : ∀ n, chSum (rowB g l u k n) = ((leastN g k (tP l u k) n : Nat) : Int)
  | 0 => rfl
  | n + 1 => by
    rw [← rowB_snoc, chSum_app, chSum_rowB k n, leastN_elN, Int.natCast_add]
    simp [chSum, elB]
theorem commitP_fits {on met : List Bool} {f b mx : Int} (h : (met.length : Int) ≤ mx) : ∃ on' fr, commitP on met f b mx = some (on', fr) := by
  unfold commitP
  have h1 := cnt_le (needP met f b)
  have h2 : (needP met f b).length = met.length := by unfold needP; rw [tab_len]
  rw [if_neg (by omega)]
  exact ⟨_, _, rfl⟩
theorem placeM_fits {m : Mod} {l : List Blk} {n asked : Int} {j : Nat} (hP : (m.on.length : Int) ≤ m.c.P) (h : lowJ m.c.H l n = some j) : ∃ on' fr, placeM m l n asked = (setM m l ((j : Int) * n) n asked on' fr, (j : Int) * n, 0) := by
  have e : lowR m.c.H l n = ((j : Int) * n, true) := by unfold lowR; rw [h]
  unfold placeM
  rw [e, if_pos rfl]
  obtain ⟨on', fr, hc⟩ := commitP_fits (on := m.on) (met := metP m.c.Pg m.on.length l) (f := (pagesP m.c.Pg ((j : Int) * n) n).1) (b := (pagesP m.c.Pg ((j : Int) * n) n).2) (mx := m.c.P) (by unfold metP; rw [tab_len]; exact hP)
  refine ⟨on', fr, ?_⟩
  dsimp only
  rw [hc]
  rfl
theorem charge_pow {c : Cf} (ex : c.Ex g l) {k : Nat} (hk : k ≤ l) : chargeS c.G c.N ((2 ^ (g + k) : Nat) : Int) 1 = (((2 ^ (g + k) : Nat) : Int), 0) := by
  have z := Nat.two_pow_pos (g + k)
  have z2 : 2 ^ g ≤ 2 ^ (g + k) := Nat.pow_le_pow_right (by decide) (by omega)
  have z3 : 2 ^ (g + k) ≤ 2 ^ (g + l) := Nat.pow_le_pow_right (by decide) (by omega)
  unfold chargeS
  rw [ex.hG, ex.hN, show (logS 1).2 = true from by decide, if_neg (fun h => h.elim (fun h => by cases h) (fun h => by omega)), if_neg (by omega)]
  have e : (max (max ((2 ^ (g + k) : Nat) : Int) 1) ((2 ^ g : Nat) : Int)).toNat = 2 ^ (g + k) := by omega
  rw [e, clog_pow]
theorem fill_step {m : Mod} (tp : m.c.Tp g l u) (ok : m.Ok) (hP : (m.on.length : Int) ≤ m.c.P) {k n : Nat} (hk : k ≤ l) (h1 : low l u k ≤ n) (h2 : n < tP l u k * (2 + k)) (hbl : m.bl = rowB g l u k n) (hroom : m.live + ((2 ^ (g + k) : Nat) : Int) ≤ m.c.M) :
    (doM m ⟨1, 0, ((2 ^ (g + k) : Nat) : Int), 0, 0, 0⟩).2.err = 0 ∧ (doM m ⟨1, 0, ((2 ^ (g + k) : Nat) : Int), 0, 0, 0⟩).1.bl = rowB g l u k (n + 1) ∧ (doM m ⟨1, 0, ((2 ^ (g + k) : Nat) : Int), 0, 0, 0⟩).1.mark = max m.mark (((n + 1) * 2 ^ (g + k) : Nat) : Int) := by
  have hL := tp.ex.hL
  obtain ⟨_, cH, _⟩ := tp.ok.ceil (k := (k : Int)) (by omega) (by omega)
  rw [tp.ceil hk] at cH
  have h3 : (n + 1) * 2 ^ (g + k) ≤ tP l u k * (2 + k) * 2 ^ (g + k) := Nat.mul_le_mul_right _ h2
  have hlow := low_free (g := g) (l := l) (u := u) (k := k) (n := n) (H := m.c.H) (by omega)
  have hr : newS m.c.G m.c.N m.c.M m.live ((2 ^ (g + k) : Nat) : Int) 1 = (((2 ^ (g + k) : Nat) : Int), 0) := by
    unfold newS
    rw [charge_pow tp.ex hk, if_pos rfl, if_neg (by dsimp only; omega)]
  obtain ⟨on', fr, e⟩ := placeM_fits (m := m) (l := rowB g l u k n) (asked := ((2 ^ (g + k) : Nat) : Int)) hP hlow
  have hd : doM m ⟨1, 0, ((2 ^ (g + k) : Nat) : Int), 0, 0, 0⟩ = (setM m (rowB g l u k n) ((n : Int) * ((2 ^ (g + k) : Nat) : Int)) ((2 ^ (g + k) : Nat) : Int) ((2 ^ (g + k) : Nat) : Int) on' fr, ⟨0, (n : Int) * ((2 ^ (g + k) : Nat) : Int), 0, 0, 0, 0, 0, 0⟩) := by
    unfold doM giveM
    simp only [show ¬ ((1 : Int) = 2) by decide, show ¬ ((1 : Int) = 3) by decide, true_or, if_true, if_false, hr, hbl, e]
  rw [hd]
  refine ⟨rfl, ?_, ?_⟩
  · show putB (rowB g l u k n) _ = _
    refine putB_row k n _ ?_
    unfold elB
    rw [elN_own tp.hu h1 h2, Int.natCast_mul]
  · show max m.mark ((n : Int) * ((2 ^ (g + k) : Nat) : Int) + ((2 ^ (g + k) : Nat) : Int)) = _
    rw [Nat.succ_mul, Int.natCast_add, Int.natCast_mul]
theorem findB_at {a : Int} : ∀ {l : List Blk} {i : Nat} {b : Blk}, l[i]? = some b → b.at_ = a → (∀ j x, j < i → l[j]? = some x → x.at_ ≠ a) → findB l a = some i
  | [], i, b, h, _, _ => by simp at h
  | x :: l, 0, b, h, hb, _ => by
    simp at h; subst h
    unfold findB; rw [if_pos hb]
  | x :: l, i + 1, b, h, hb, hn => by
    have h0 := hn 0 x (by omega) rfl
    unfold findB
    rw [if_neg h0, findB_at (l := l) (i := i) (b := b) (by simpa using h) hb (fun j y hj hy => hn (j + 1) y (by omega) (by simpa using hy))]; rfl
theorem free_step {m : Mod} (tp : m.c.Tp g l u) (ok : m.Ok) {k j : Nat} (hk : k + 1 ≤ l) (hj : j < low l u (k + 1)) (hbl : m.bl = rowB g l u (k + 1) j ++ (rowB g l u k (2 * low l u (k + 1))).drop (2 * j)) :
    (doM m ⟨5, (((2 * j + 1) * 2 ^ (g + k) : Nat) : Int), 0, 0, 0, 0⟩).2.err = 0 ∧ (doM m ⟨5, (((2 * j + 1) * 2 ^ (g + k) : Nat) : Int), 0, 0, 0, 0⟩).1.bl = rowB g l u (k + 1) (j + 1) ++ (rowB g l u k (2 * low l u (k + 1))).drop (2 * (j + 1)) ∧ (doM m ⟨5, (((2 * j + 1) * 2 ^ (g + k) : Nat) : Int), 0, 0, 0, 0⟩).1.mark = m.mark := by
  have z := Nat.two_pow_pos (g + k)
  have hjl : j < tP l u (k + 1) * (2 + k) := by
    have : low l u (k + 1) = tP l u (k + 1) * (1 + (k + 1)) := by unfold low; rw [if_neg (by omega)]
    rw [this, show 1 + (k + 1) = 2 + k by omega] at hj; exact hj
  have e1 : (rowB g l u k (2 * low l u (k + 1))).drop (2 * j) = elB g l u k (2 * j) :: elB g l u k (2 * j + 1) :: (rowB g l u k (2 * low l u (k + 1))).drop (2 * (j + 1)) := by
    rw [List.drop_eq_getElem_cons (by rw [rowB_len]; omega), rowB_get, List.drop_eq_getElem_cons (by rw [rowB_len]; omega), rowB_get, show 2 * j + 1 + 1 = 2 * (j + 1) by omega]
  have e2 := elB_even (g := g) tp.hu hk hjl
  have hX := rowB_len (g := g) (l := l) (u := u) (k + 1) j
  have hb : m.bl = (rowB g l u (k + 1) j ++ [elB g l u (k + 1) j]) ++ elB g l u k (2 * j + 1) :: (rowB g l u k (2 * low l u (k + 1))).drop (2 * (j + 1)) := by
    rw [hbl, e1, e2]; simp
  rw [rowB_snoc] at hb
  have hlen : (rowB g l u (k + 1) (j + 1)).length = j + 1 := rowB_len _ _
  have hget : m.bl[j + 1]? = some (elB g l u k (2 * j + 1)) := by
    rw [hb, List.getElem?_append_right (by omega), hlen]; simp
  have hf : findB m.bl (((2 * j + 1) * 2 ^ (g + k) : Nat) : Int) = some (j + 1) := by
    refine findB_at hget rfl fun i x hi hx => ?_
    rw [hb, List.getElem?_append_left (by omega)] at hx
    obtain ⟨hi2, rfl⟩ := List.getElem?_eq_some_iff.1 hx
    rw [rowB_get]
    unfold elB
    dsimp only
    have : i * 2 ^ (g + (k + 1)) = 2 * i * 2 ^ (g + k) := by rw [show g + (k + 1) = (g + k) + 1 by omega, Nat.pow_succ, Nat.mul_comm (2 ^ (g + k)) 2, ← Nat.mul_assoc, Nat.mul_comm i 2]
    rw [this]
    have h4 : (2 * i) * 2 ^ (g + k) < (2 * j + 1) * 2 ^ (g + k) := (Nat.mul_lt_mul_right z).2 (by omega)
    omega
  obtain ⟨hA, _⟩ := findB_lt hf
  have hAe : m.bl[j + 1] = elB g l u k (2 * j + 1) := by
    have := List.getElem?_eq_getElem hA
    rw [hget] at this; exact (Option.some.inj this).symm
  have hd : doM m ⟨5, (((2 * j + 1) * 2 ^ (g + k) : Nat) : Int), 0, 0, 0, 0⟩ = ({ m with bl := m.bl.take (j + 1) ++ m.bl.drop (j + 1 + 1), live := m.live - (m.bl.getD (j + 1) ⟨0, 0, 0⟩).ch }, errA 0) := by
    unfold doM
    simp only [show ¬ ((5 : Int) = 1) by decide, show ¬ ((5 : Int) = 2) by decide, show ¬ ((5 : Int) = 3) by decide, show ¬ ((5 : Int) = 9) by decide, show ¬ ((5 : Int) = 10) by decide, show ¬ ((5 : Int) = 4) by decide, or_false, false_or, true_or, if_true, if_false]
    rw [hf]
    dsimp only
    unfold ofM
    simp only [show ¬ ((5 : Int) = 4) by decide, if_true, if_false]
  rw [hd]
  refine ⟨rfl, ?_, rfl⟩
  dsimp only
  have t1 : m.bl.take (j + 1) = rowB g l u (k + 1) (j + 1) := by rw [hb, List.take_left' hlen]
  have t2 : m.bl.drop (j + 1 + 1) = (rowB g l u k (2 * low l u (k + 1))).drop (2 * (j + 1)) := by
    rw [hb, ← List.drop_drop, List.drop_left' hlen]; rfl
  rw [t1, t2]
end Go.Proofs.D.S
/- The script as a whole: where its steps lie, and how many they are. -/
set_option linter.unusedVariables false
namespace Go.Proofs.D.S
open Go Go.RowKit
variable {g l u : Nat}
theorem opsTo_pre (k : Nat) : ∀ d, ∃ t, opsTo g l u (k + d) = opsTo g l u k ++ t
  | 0 => ⟨[], by simp⟩
  | d + 1 => by
    obtain ⟨t, h⟩ := opsTo_pre k d
    exact ⟨t ++ freeOps g (k + d) (low l u (k + d)) ++ fillOps g (k + d) (own l u (k + d)), by rw [← Nat.add_assoc]; simp only [opsTo]; rw [h]; simp⟩
theorem opsTo_succ_len (k : Nat) : (opsTo g l u (k + 1)).length = (opsTo g l u k).length + (tP l u k * (2 + k)) := by
  rw [← low_own]; simp only [opsTo]; simp [freeOps, fillOps]
theorem opsTo_free {k j : Nat} (hk : k ≤ l) (hj : j < low l u k) : (opsTo g l u (l + 1))[(opsTo g l u k).length + j]? = some ⟨5, (((2 * j + 1) * 2 ^ (g + (k - 1)) : Nat) : Int), 0, 0, 0, 0⟩ := by
  obtain ⟨t, h⟩ := opsTo_pre (g := g) (l := l) (u := u) (k + 1) (l - k)
  rw [show l + 1 = k + 1 + (l - k) by omega, h]
  simp only [opsTo]
  rw [List.append_assoc, List.append_assoc, List.getElem?_append_right (by omega), Nat.add_sub_cancel_left, List.getElem?_append_left (by simp [freeOps]; exact hj)]
  simp [freeOps, hj]
theorem opsTo_fill {k n : Nat} (hk : k ≤ l) (h1 : low l u k ≤ n) (h2 : n < tP l u k * (2 + k)) : (opsTo g l u (l + 1))[(opsTo g l u k).length + n]? = some ⟨1, 0, ((2 ^ (g + k) : Nat) : Int), 0, 0, 0⟩ := by
  obtain ⟨t, h⟩ := opsTo_pre (g := g) (l := l) (u := u) (k + 1) (l - k)
  have lo := low_own (l := l) (u := u) (k := k)
  rw [show l + 1 = k + 1 + (l - k) by omega, h]
  simp only [opsTo]
  have fl : (freeOps g k (low l u k)).length = low l u k := by simp [freeOps]
  have fl2 : (fillOps g k (own l u k)).length = own l u k := by simp [fillOps]
  rw [List.append_assoc, List.append_assoc, List.getElem?_append_right (by omega), Nat.add_sub_cancel_left, List.getElem?_append_right (by omega), fl, List.getElem?_append_left (by omega)]
  rw [List.getElem?_eq_getElem (by omega)]
  simp [fillOps]
theorem stTo_get : ∀ K k, k < K → (stTo g l u K)[k]? = some ((opsTo g l u (k + 1)).length : Int)
  | 0, k, h => by omega
  | K + 1, k, h => by
    have hl : (stTo g l u K).length = K := by
      have : ∀ K, (stTo g l u K).length = K := by
        intro K; induction K with
        | zero => rfl
        | succ K ih => simp [stTo, ih]
      exact this K
    simp only [stTo]
    rcases Nat.lt_or_ge k K with h2 | h2
    · rw [List.getElem?_append_left (by omega)]; exact stTo_get K k h2
    · rw [show k = K by omega, List.getElem?_append_right (by omega), hl]; simp
/-- Fewer than three times the units. -/
theorem opsTo_few (k : Nat) : k ≤ l → (opsTo g l u (k + 1)).length + tP l u k * (k + 4) = 6 * tP l u 0 := by
  induction k with
  | zero => intro _; rw [opsTo_succ_len]; simp [opsTo]; omega
  | succ k ih =>
    intro hk
    have h := ih (by omega)
    rw [opsTo_succ_len]
    have e := tP_succ (u := u) hk
    rw [e] at h
    have e1 : tP l u (k + 1) * (2 + (k + 1)) + tP l u (k + 1) * (k + 1 + 4) = 2 * tP l u (k + 1) * (k + 4) := by
      rw [← Nat.mul_add, Nat.mul_comm 2, Nat.mul_assoc]; congr 1; omega
    omega
/-- How much is live while a class is filled. -/
theorem live_fill (hu : 1 ≤ u) {k : Nat} (hk : k ≤ l) : ∀ i, i ≤ own l u k → leastN g k (tP l u k) (low l u k + i) + (own l u k - i) * 2 ^ (g + k) = 2 * (tP l u k * 2 ^ (g + k))
  | 0, _ => by
    rw [Nat.add_zero, Nat.sub_zero]
    by_cases h0 : k = 0
    · subst h0
      unfold low own
      rw [if_pos rfl, if_pos rfl, Nat.mul_assoc]; simp [leastN]
    · rw [sum_low hu (by omega) hk]
      unfold own
      rw [if_neg h0]; omega
  | i + 1, hi => by
    have ih := live_fill hu hk i (by omega)
    have lo := low_own (l := l) (u := u) (k := k)
    have e : leastN g k (tP l u k) (low l u k + (i + 1)) = leastN g k (tP l u k) (low l u k + i) + 2 ^ (g + k) := by
      rw [← Nat.add_assoc, leastN_elN, elN_own hu (by omega) (by omega)]
    have e2 : (own l u k - i) * 2 ^ (g + k) = (own l u k - (i + 1)) * 2 ^ (g + k) + 2 ^ (g + k) := by
      rw [show own l u k - i = (own l u k - (i + 1)) + 1 by omega, Nat.succ_mul]
    omega
end Go.Proofs.D.S
/- More on the script's states. -/
set_option linter.unusedVariables false
namespace Go.Proofs.D.S
open Go Go.RowKit
/-- The mark behind so many stages. -/
def mkC (c : Cf) (k : Nat) : Int := if k = 0 then 0 else c.ceil ((k : Int) - 1)
theorem mkC_le {c : Cf} {g l u : Nat} (tp : c.Tp g l u) {k : Nat} (hk : k ≤ l) : 0 ≤ mkC c k ∧ mkC c k ≤ c.ceil (k : Int) ∧ (k ≠ 0 → mkC c k = ((low l u k * 2 ^ (g + k) : Nat) : Int)) := by
  have h0 := tp.ceil hk
  unfold mkC
  by_cases h : k = 0
  · rw [if_pos h]; exact ⟨by omega, by rw [h0]; omega, fun e => absurd h e⟩
  · rw [if_neg h]
    obtain ⟨k', rfl⟩ : ∃ k', k = k' + 1 := ⟨k - 1, by omega⟩
    have e := tp.ceil_below hk
    rw [show ((k' + 1 : Nat) : Int) - 1 = (k' : Int) by omega, e]
    have lo : low l u (k' + 1) = tP l u (k' + 1) * (2 + k') := by unfold low; rw [if_neg h]; congr 1; omega
    have : tP l u (k' + 1) * (2 + k') * 2 ^ (g + (k' + 1)) ≤ tP l u (k' + 1) * (2 + (k' + 1)) * 2 ^ (g + (k' + 1)) := Nat.mul_le_mul_right _ (Nat.mul_le_mul_left _ (by omega))
    refine ⟨by omega, by rw [h0]; omega, fun _ => by rw [lo]⟩
theorem elN_lt {g l u k j : Nat} (hu : 1 ≤ u) (h : j < low l u k) : elN g l u k j < 2 ^ (g + k) := by
  have hk : k ≠ 0 := by rintro rfl; unfold low at h; rw [if_pos rfl] at h; omega
  unfold low at h
  rw [if_neg hk] at h
  have h2 : j / tP l u k < 1 + k := Nat.div_lt_of_lt_mul h
  unfold elN
  refine Nat.pow_lt_pow_right (by decide) ?_
  unfold ofP; omega
end Go.Proofs.D.S
/- TightStages: whatever the numbers, the law answers yes. -/
set_option linter.unusedVariables false
set_option linter.unusedSimpArgs false
namespace Go.Proofs.D.S
open Go Go.RowKit
theorem hodmanlaw21_TightStages.law {G : GH} (hG : Beg G) {id : Nat} {xs : List Int} (hs : Sl G eU8 id 0 xs) (hb : Bytes xs) : OkT (CW hodmanlaw21_TightStages.id [.c (.sl 1 id 0 xs.length)] G) := by
  obtain ⟨G1, e1, f1⟩ := hodmanlaw21_begun.sp hG
  rw [hodmanlaw21_TightStages.cw]
  unfold hodmanlaw21_TightStages.f
  simp only [e1, q_bs, q_I, q_B, q_P, q_S, q_M, q_c, q_a, q_gz, q_gs, q_gk, q_ct, q_cf, q_nt, q_nf, q_xt, q_xf, q_tt, q_ff, q_tf, q_ft, q_at, q_af]
  by_cases h6 : (xs.length : Int) > 6
  · rw [condD_pos h6]; exact ⟨_, rfl⟩
  rw [condD_neg h6]
  have h0 := Hp.refl f1.wf
  have p0 : PkOk G1 [] id 0 xs.length xs := ⟨.old (f1.sl _ _ _ _ hs), hb, rfl, by omega⟩
  obtain ⟨pid, G2, e2, h2⟩ := hodmanplay_Made.sp h0 id 0 xs.length
  obtain ⟨r, j, G3, e3, h3, rok, _, _⟩ := hodmanplay_Picks_Raw.sp h2 p0 (by omega) (by omega) true
  simp only [e2, e3, q_bs, q_I, q_B, q_P, q_S, q_M, q_c, q_a, q_gz, q_gs, q_gk, q_ct, q_cf, q_nt, q_nf, q_xt, q_xf, q_tt, q_ff, q_tf, q_ft, q_at, q_af, List.length_cons, List.length_nil, if_true]
  obtain ⟨g0, c0, q0, sm⟩ := rok.cfSmall
  have hof := rok.ofC
  have hw := h3.wf
  clear e1 e2 e3 h3 h2 p0 h0
  have ok := sm.ok
  have hP0 := sm.s.hP.1 rfl
  have hH2 := sm.s.hH2
  obtain ⟨oi, mi, G4, e4, h4, s4⟩ := hodmanref17_New.sp hw hof ok
  rw [e4]
  clear e4 sm rok hof
  generalize cfOf r = C at *
  obtain ⟨g, l, u, tp⟩ := ok.tp
  simp only [q_bs, q_I, q_B, q_P, q_S, q_M, q_c, q_a, q_gz, q_gs, q_gk, q_ct, q_cf, q_nt, q_nf, q_xt, q_xf, q_tt, q_ff, q_tf, q_ft, q_at, q_af, List.length_cons, List.length_nil, if_true, decide_true]
  obtain ⟨pi, G5, e5, h5⟩ := tight_Script.sp tp h4.wf
  obtain ⟨ti, G6, e6, h6'⟩ := tight_Stages.sp tp h5.wf
  have hsl := stTo_len (g := g) (l := l) (u := u) (l + 1)
  have hol := opsTo_len tp (l + 1) (by omega)
  have hL := tp.ex.hL
  have hgl := tp.ex.hgl
  have fs := ok.facts
  have z := Nat.two_pow_pos g
  simp only [newM] at e5 e6 ⊢
  rw [e5]
  simp only [q_bs, q_I, q_B, q_P, q_S, q_M, q_c, q_a, q_gz, q_gs, q_gk, q_ct, q_cf, q_nt, q_nf, q_xt, q_xf, q_tt, q_ff, q_tf, q_ft, q_at, q_af]
  rw [e6]
  simp only [q_bs, q_I, q_B, q_P, q_S, q_M, q_c, q_a, q_gz, q_gs, q_gk, q_ct, q_cf, q_nt, q_nf, q_xt, q_xf, q_tt, q_ff, q_tf, q_ft, q_at, q_af, hsl]
  have sO : Sl G6 eOp pi 0 (opsTo g l u (l + 1)) := h5.sl0.keep h6'
  have sT : Sl G6 eI ti 0 (stTo g l u (l + 1)) := h6'.sl0
  have s6 : Md G6 0 oi mi (newM C) := (s4.keep h5).keep h6'
  have okm := newM_ok ok
  have tpos := tP_pos (l := l) (k := l) tp.hu
  have w6 := h6'.wf
  have hceil0 : C.ceil (l : Int) = C.H := by
    obtain ⟨e, _, _⟩ := ok.ceil (k := (l : Int)) (by omega) (by omega)
    rw [e, ok.hH, hL]
  generalize hops : opsTo g l u (l + 1) = ops at *
  generalize hst : stTo g l u (l + 1) = st at *
  have ol : ops.length ≤ 1000000000 := by omega
  -- a check that is none
  have chk0 : ∀ (k i : Nat) (m : Mod) (bi oi mi : Nat) (G7 : GH), Hp G6 G7 [] → k ≤ l + 1 → i < ops.length → (∀ e, st[k]? = some e → e ≠ (i : Int) + 1) →
      OkT (hodmanlaw21_TightStages.L94 machW CW pi 0 ops.length ti 0 (l + 1) (k : Int) ((i + 1 : Nat) : Int) m.c.G m.c.N m.c.M m.c.L m.c.Pg m.c.P m.c.H m.c.Sd bi 0 m.bl.length m.live m.peak m.mark oi 0 m.on.length mi 0 m.mem.length C.G C.N C.M C.L C.Pg C.P C.H C.Sd G7) →
      OkT (hodmanlaw21_TightStages.L87 machW CW pi 0 ops.length ti 0 (l + 1) (k : Int) (i : Int) m.c.G m.c.N m.c.M m.c.L m.c.Pg m.c.P m.c.H m.c.Sd bi 0 m.bl.length m.live m.peak m.mark oi 0 m.on.length mi 0 m.mem.length C.G C.N C.M C.L C.Pg C.P C.H C.Sd G7) := by
    intro k i m bi oi mi G7 h hk hi hne hn
    rw [hodmanlaw21_TightStages.L87_eq]
    by_cases hkl : (k : Int) < ((l + 1 : Nat) : Int)
    · have hk2 : k < st.length := by omega
      have rd := (sT.keep h).ld k 0 hk2 (by omega)
      rw [Nat.add_zero] at rd
      have hne2 := hne _ (List.getElem?_eq_getElem hk2)
      rw [condD_pos hkl, guardD_of (by omega)]
      simp only [Int.toNat_natCast, rd, q_bs, q_I, q_B, q_P, q_S, q_M, q_c, q_a, q_gz, q_gs, q_gk, q_ct, q_cf, q_nt, q_nf, q_xt, q_xf, q_tt, q_ff, q_tf, q_ft, q_at, q_af, i64w, wrap_id (a := (i : Int) + 1) (by omega) (by omega)]
      rw [hodmanlaw21_TightStages.J37_eq, decide_eq_false hne2, q_cf, i64w, wrap_id (by omega) (by omega)]
      exact hn
    · rw [condD_neg hkl, hodmanlaw21_TightStages.J37_eq, q_cf, i64w, wrap_id (by omega) (by omega)]
      exact hn
  have chk1 : ∀ (k i : Nat) (m : Mod) (bi oi mi : Nat) (G7 : GH), Hp G6 G7 [] → k ≤ l → i < ops.length → st[k]? = some ((i : Int) + 1) → m.c = C → Md G7 bi oi mi m → m.bl = rowB g l u k (tP l u k * (2 + k)) →
      OkT (hodmanlaw21_TightStages.L87 machW CW pi 0 ops.length ti 0 (l + 1) ((k + 1 : Nat) : Int) (i : Int) m.c.G m.c.N m.c.M m.c.L m.c.Pg m.c.P m.c.H m.c.Sd bi 0 m.bl.length m.live m.peak m.mark oi 0 m.on.length mi 0 m.mem.length C.G C.N C.M C.L C.Pg C.P C.H C.Sd G7) →
      OkT (hodmanlaw21_TightStages.L87 machW CW pi 0 ops.length ti 0 (l + 1) (k : Int) (i : Int) m.c.G m.c.N m.c.M m.c.L m.c.Pg m.c.P m.c.H m.c.Sd bi 0 m.bl.length m.live m.peak m.mark oi 0 m.on.length mi 0 m.mem.length C.G C.N C.M C.L C.Pg C.P C.H C.Sd G7) := by
    intro k i m bi oi mi G7 h hk hi he hc sm hbl hn
    obtain ⟨hk2, he2⟩ := List.getElem?_eq_some_iff.1 he
    have rd := (sT.keep h).ld k 0 hk2 (by omega)
    rw [Nat.add_zero] at rd
    rw [hodmanlaw21_TightStages.L87_eq, condD_pos (by omega), guardD_of (by omega)]
    simp only [Int.toNat_natCast, rd, q_bs, q_I, q_B, q_P, q_S, q_M, q_c, q_a, q_gz, q_gs, q_gk, q_ct, q_cf, q_nt, q_nf, q_xt, q_xf, q_tt, q_ff, q_tf, q_ft, q_at, q_af, i64w, wrap_id (a := (i : Int) + 1) (by omega) (by omega), he2]
    rw [hodmanlaw21_TightStages.J37_eq, decide_true, q_ct, hodmanref1_Size.sp tp.ex.hG (by omega)]
    simp only [q_bs, q_I, q_B, q_P, q_S, q_M, q_c, q_a, q_gz, q_gs, q_gk, q_ct, q_cf, q_nt, q_nf, q_xt, q_xf, q_tt, q_ff, q_tf, q_ft, q_at, q_af]
    have z := Nat.two_pow_pos (g + k)
    have lo := low_own (l := l) (u := u) (k := k)
    have hfull := tp.full hk
    have lf := live_fill (g := g) tp.hu hk 0 (by omega)
    rw [Nat.add_zero, Nat.sub_zero] at lf
    have hM : C.M ≤ 65536 := fs.2.2.1.2
    have hll : m.bl.length = tP l u k * (2 + k) := by rw [hbl, rowB_len]
    have hsmall := tp.small hk
    have hlen : tP l u k * (2 + k) ≤ 65536 := Nat.le_trans (Nat.le_mul_of_pos_right _ z) hsmall
    have ownM : own l u k * 2 ^ (g + k) ≤ 65536 := by omega
    have lowM : leastN g k (tP l u k) (low l u k) ≤ 65536 := by omega
    have last : k = 0 ∧ leastN g k (tP l u k) (low l u k) = 0 ∨ k ≠ 0 ∧ own l u k * 2 ^ (g + k) = leastN g k (tP l u k) (low l u k) := by
      by_cases h0 : k = 0
      · subst h0; left; refine ⟨rfl, ?_⟩; unfold low; rw [if_pos rfl]; rfl
      · right; refine ⟨h0, ?_⟩; rw [sum_low tp.hu (by omega) hk]; unfold own; rw [if_neg h0]
    have j77 : ∀ t : Bool, t = false → OkT (hodmanlaw21_TightStages.J77 machW CW pi 0 ops.length ti 0 (l + 1) (k : Int) (i : Int) t m.c.G m.c.N m.c.M m.c.L m.c.Pg m.c.P m.c.H m.c.Sd bi 0 m.bl.length m.live m.peak m.mark oi 0 m.on.length mi 0 m.mem.length C.G C.N C.M C.L C.Pg C.P C.H C.Sd G7) := by
      rintro t rfl
      rw [hodmanlaw21_TightStages.J77_eq, q_cf, i64w, wrap_id (by omega) (by omega)]; exact hn
    -- the stage's own
    have ph2 : ∀ (d q : Nat), q + d = own l u k → ∀ t14 : Int, OkT (hodmanlaw21_TightStages.L69 machW CW pi 0 ops.length ti 0 (l + 1) (k : Int) (i : Int) ((2 ^ (g + k) : Nat) : Int) ((q * 2 ^ (g + k) : Nat) : Int) ((leastN g k (tP l u k) (low l u k) : Nat) : Int) t14 ((low l u k + q : Nat) : Int) m.c.G m.c.N m.c.M m.c.L m.c.Pg m.c.P m.c.H m.c.Sd bi 0 m.bl.length m.live m.peak m.mark oi 0 m.on.length mi 0 m.mem.length C.G C.N C.M C.L C.Pg C.P C.H C.Sd G7) := by
      intro d
      induction d with
      | zero =>
        intro q hq t14
        have hq : q = own l u k := by omega
        subst hq
        rw [hodmanlaw21_TightStages.L69_eq, condD_neg (by omega), i64w, wrap_id (by omega) (by omega), condN_neg (by rw [hfull]; omega)]
        rcases last with ⟨h0, h1⟩ | ⟨h0, h1⟩
        · rw [condD_pos (by omega), h1, condN_neg (by omega), condD_neg (by omega)]; exact j77 _ rfl
        · rw [condD_neg (by omega), condD_pos (by omega), h1, decide_eq_true rfl]; exact j77 _ rfl
      | succ d ih =>
        intro q hq t14
        have hj : low l u k + q < m.bl.length := by omega
        have zi : decide (0 ≤ ((low l u k + q : Nat) : Int) ∧ ((low l u k + q : Nat) : Int) < ((m.bl.length : Nat) : Int)) = true := decide_eq_true (by omega)
        have e : m.bl[low l u k + q] = elB g l u k (low l u k + q) := by simp only [hbl, rowB_get]
        have hown := elN_own (g := g) tp.hu (show low l u k ≤ low l u k + q by omega) (show low l u k + q < tP l u k * (2 + k) by omega)
        have hq2 : (q + 1) * 2 ^ (g + k) ≤ own l u k * 2 ^ (g + k) := Nat.mul_le_mul_right _ (by omega)
        have hq3 : (q + 1) * 2 ^ (g + k) = q * 2 ^ (g + k) + 2 ^ (g + k) := Nat.succ_mul _ _
        rw [hodmanlaw21_TightStages.L69_eq, condD_pos (by omega)]
        simp only [zi, Int.toNat_natCast, sm.bl.ld (low l u k + q) 0 hj (by omega), sm.bl.ld (low l u k + q) 1 hj (by omega), sm.bl.ld (low l u k + q) 2 hj (by omega), e, q_bs, q_I, q_B, q_P, q_S, q_M, q_c, q_a, q_gz, q_gs, q_gk, q_ct, q_cf, q_nt, q_nf, q_xt, q_xf, q_tt, q_ff, q_tf, q_ft, q_at, q_af]
        rw [condD_pos (by show ((elN g l u k (low l u k + q) : Nat) : Int) = _; rw [hown]), hodmanlaw21_TightStages.J66_eq, i64w, i64w, wrap_id (by omega) (by omega), wrap_id (by omega) (by omega)]
        have := ih (q + 1) (by omega) t14
        rw [hq3] at this
        exact this
    have ph1 : ∀ (d j : Nat), j + d = low l u k → OkT (hodmanlaw21_TightStages.L69 machW CW pi 0 ops.length ti 0 (l + 1) (k : Int) (i : Int) ((2 ^ (g + k) : Nat) : Int) 0 ((leastN g k (tP l u k) j : Nat) : Int) ((j : Int) - 1) (j : Int) m.c.G m.c.N m.c.M m.c.L m.c.Pg m.c.P m.c.H m.c.Sd bi 0 m.bl.length m.live m.peak m.mark oi 0 m.on.length mi 0 m.mem.length C.G C.N C.M C.L C.Pg C.P C.H C.Sd G7) := by
      intro d
      induction d with
      | zero =>
        intro j hj
        obtain rfl : j = low l u k := by omega
        have := ph2 (own l u k) 0 (by omega) (((low l u k : Nat) : Int) - 1)
        rw [Nat.zero_mul] at this
        exact this
      | succ d ih =>
        intro j hj
        have hjl : j < low l u k := by omega
        have hjm : j < m.bl.length := by omega
        have zi : decide (0 ≤ (j : Int) ∧ (j : Int) < ((m.bl.length : Nat) : Int)) = true := decide_eq_true (by omega)
        have e : m.bl[j] = elB g l u k j := by simp only [hbl, rowB_get]
        have lt := elN_lt (g := g) tp.hu hjl
        have mono : leastN g k (tP l u k) (j + 1) ≤ leastN g k (tP l u k) (low l u k) := leastN_mono g k (tP l u k) hjl
        have le := leastN_elN (g := g) (l := l) (u := u) k j
        have hat : j * 2 ^ (g + k) ≤ 65536 := Nat.le_trans (Nat.mul_le_mul_right _ (by omega)) hsmall
        have hquo : ((j * 2 ^ (g + k) : Nat) : Int).tdiv ((2 ^ (g + k) : Nat) : Int) = (j : Int) := by rw [tdiv_nat, Nat.mul_div_cancel _ z]
        rw [hodmanlaw21_TightStages.L69_eq, condD_pos (by omega)]
        simp only [zi, Int.toNat_natCast, sm.bl.ld j 0 hjm (by omega), sm.bl.ld j 1 hjm (by omega), sm.bl.ld j 2 hjm (by omega), e, q_bs, q_I, q_B, q_P, q_S, q_M, q_c, q_a, q_gz, q_gs, q_gk, q_ct, q_cf, q_nt, q_nf, q_xt, q_xf, q_tt, q_ff, q_tf, q_ft, q_at, q_af]
        have n1 : ¬ (((elN g l u k j : Nat) : Int) = ((2 ^ (g + k) : Nat) : Int)) := by omega
        have n2 : ¬ (((elN g l u k j : Nat) : Int) > ((2 ^ (g + k) : Nat) : Int)) := by omega
        have hat' : (elB g l u k j).at_ = ((j * 2 ^ (g + k) : Nat) : Int) := rfl
        have hch : (elB g l u k j).ch = ((elN g l u k j : Nat) : Int) := rfl
        rw [condD_neg (show ¬ (elB g l u k j).ch = _ from n1), binD_quo (by omega), hat', hquo, i64w, wrap_id (by omega) (by omega), q_bs, condD_neg (by omega), decide_eq_false (show ¬ (elB g l u k j).ch > _ from n2), hch, hodmanlaw21_TightStages.J57_eq, q_cf, binD_quo (by omega), hquo, i64w, wrap_id (a := (j : Int)) (by omega) (by omega), q_bs, hodmanlaw21_TightStages.J66_eq, i64w, i64w, wrap_id (by omega) (by omega), wrap_id (by omega) (by omega)]
        have := ih (j + 1) (by omega)
        rw [le, show ((j + 1 : Nat) : Int) - 1 = (j : Int) by omega] at this
        exact this
    exact ph1 (low l u k) 0 (by omega)
  -- one step
  have step : ∀ (k i : Nat) (o : OpV) (m : Mod) (bi oi mi : Nat) (G7 : GH), Hp G6 G7 [] → ops[i]? = some o → m.Ok → m.c = C → Md G7 bi oi mi m → (doM m o).2.err = 0 → o.s ≤ C.N → (o.k = 1 ∨ o.k = 5) → R64 o.s → R64 o.a → R64 o.n →
      (∀ (bi oi mi : Nat) (G8 : GH), Hp G6 G8 [] → Md G8 bi oi mi (doM m o).1 → OkT (hodmanlaw21_TightStages.L87 machW CW pi 0 ops.length ti 0 (l + 1) (k : Int) (i : Int) (doM m o).1.c.G (doM m o).1.c.N (doM m o).1.c.M (doM m o).1.c.L (doM m o).1.c.Pg (doM m o).1.c.P (doM m o).1.c.H (doM m o).1.c.Sd bi 0 (doM m o).1.bl.length (doM m o).1.live (doM m o).1.peak (doM m o).1.mark oi 0 (doM m o).1.on.length mi 0 (doM m o).1.mem.length C.G C.N C.M C.L C.Pg C.P C.H C.Sd G8)) →
      OkT (hodmanlaw21_TightStages.L94 machW CW pi 0 ops.length ti 0 (l + 1) (k : Int) (i : Int) m.c.G m.c.N m.c.M m.c.L m.c.Pg m.c.P m.c.H m.c.Sd bi 0 m.bl.length m.live m.peak m.mark oi 0 m.on.length mi 0 m.mem.length C.G C.N C.M C.L C.Pg C.P C.H C.Sd G7) := by
    intro k i o m bi oi mi G7 h hio okk hc s herr hsN hk15 rs ra rn cont
    obtain ⟨hi, hio2⟩ := List.getElem?_eq_some_iff.1 hio
    have zi : decide (0 ≤ (i : Int) ∧ (i : Int) < ((ops.length : Nat) : Int)) = true := decide_eq_true (by omega)
    have s7 := sO.keep h
    obtain ⟨bi', oi', mi', G8, e8, h8, s8⟩ := hodmanref17_Do.sp h.wf okk s rs ra rn
    have s8' := s7.keep h8
    obtain ⟨okd, hcd⟩ := doM_ok okk o
    have hlim := okd.lim
    rw [hcd, hc] at hlim
    have q0 := s7.ld i 0 hi (by omega)
    have q1 := s7.ld i 1 hi (by omega)
    have q2 := s7.ld i 2 hi (by omega)
    have q3 := s7.ld i 3 hi (by omega)
    have q4 := s7.ld i 4 hi (by omega)
    have q5 := s7.ld i 5 hi (by omega)
    have r0 := s8'.ld i 0 hi (by omega)
    have r2 := s8'.ld i 2 hi (by omega)
    rw [hio2] at q0 q1 q2 q3 q4 q5 r0 r2
    rw [hodmanlaw21_TightStages.L94_eq, condD_pos (by omega)]
    simp only [zi, Int.toNat_natCast, q0, q1, q2, q3, q4, q5, q_bs, q_I, q_B, q_P, q_S, q_M, q_c, q_a, q_gz, q_gs, q_gk, q_ct, q_cf, q_nt, q_nf, q_xt, q_xf, q_tt, q_ff, q_tf, q_ft, q_at, q_af]
    rw [e8]
    simp only [q_bs, q_I, q_B, q_P, q_S, q_M, q_c, q_a, q_gz, q_gs, q_gk, q_ct, q_cf, q_nt, q_nf, q_xt, q_xf, q_tt, q_ff, q_tf, q_ft, q_at, q_af, List.length_cons, List.length_nil, if_true]
    exact cont bi' oi' mi' G8 (h.trans0 h8) s8
  have opl : ∀ k, k ≤ l → (opsTo g l u (k + 1)).length = (opsTo g l u k).length + tP l u k * (2 + k) := fun k _ => opsTo_succ_len k
  have oplt : ∀ k n, k ≤ l → n < tP l u k * (2 + k) → ∀ o : OpV, ops[(opsTo g l u k).length + n]? = some o → (opsTo g l u k).length + n < ops.length := fun k n _ _ o h => (List.getElem?_eq_some_iff.1 h).1
  have pages : ∀ m : Mod, m.Ok → m.c = C → (m.on.length : Int) ≤ m.c.P := by
    intro m okk hc
    have h1 := okk.on
    have h2 : (m.on.length : Int) * 1 ≤ (m.on.length : Int) * m.c.Pg := Int.mul_le_mul_of_nonneg_left (by rw [hc]; omega) (by omega)
    rw [hc] at h1 h2 ⊢
    omega
  have main : ∀ (d k : Nat), k + d = l + 1 → ∀ (m : Mod) (bi oi mi : Nat) (G7 : GH), Hp G6 G7 [] → m.Ok → m.c = C → Md G7 bi oi mi m → m.bl = atB g l u k → m.mark = mkC C k →
      OkT (hodmanlaw21_TightStages.L94 machW CW pi 0 ops.length ti 0 (l + 1) (k : Int) (((opsTo g l u k).length : Nat) : Int) m.c.G m.c.N m.c.M m.c.L m.c.Pg m.c.P m.c.H m.c.Sd bi 0 m.bl.length m.live m.peak m.mark oi 0 m.on.length mi 0 m.mem.length C.G C.N C.M C.L C.Pg C.P C.H C.Sd G7) := by
    intro d
    induction d with
    | zero =>
      intro k hk m bi oi mi G7 h okk hc s hbl hmk
      obtain rfl : k = l + 1 := by omega
      rw [hodmanlaw21_TightStages.L94_eq, hops, condD_neg (by omega), condD_pos (by omega), i64w, wrap_id (by omega) (by omega), decide_eq_true (by omega)]
      exact ⟨_, rfl⟩
    | succ d ih =>
      intro k hk m bi oi mi G7 h okk hc s hbl hmk
      have hkl : k ≤ l := by omega
      have lo := low_own (l := l) (u := u) (k := k)
      obtain ⟨mk0, mk1, mk2⟩ := mkC_le tp hkl
      have zk := Nat.two_pow_pos (g + k)
      have y := pow16 (e := g + k) (by omega)
      have z3 : 2 ^ (g + k) ≤ 2 ^ (g + l) := Nat.pow_le_pow_right (by decide) (by omega)
      have hN := tp.ex.hN
      have R : ∀ {x : Int}, 0 ≤ x → x ≤ 65536 → R64 x := fun a b => by unfold R64; omega
      have hstk : st[k]? = some (((opsTo g l u (k + 1)).length : Nat) : Int) := by rw [← hst]; exact stTo_get (l + 1) k (by omega)
      have hfull := tp.full hkl
      -- the fills
      have fills : ∀ (d n : Nat), n + d = tP l u k * (2 + k) → 0 < d → low l u k ≤ n → ∀ (m : Mod) (bi oi mi : Nat) (G7 : GH), Hp G6 G7 [] → m.Ok → m.c = C → Md G7 bi oi mi m → m.bl = rowB g l u k n → m.mark = max (mkC C k) ((n * 2 ^ (g + k) : Nat) : Int) →
          OkT (hodmanlaw21_TightStages.L94 machW CW pi 0 ops.length ti 0 (l + 1) (k : Int) ((((opsTo g l u k).length + n : Nat)) : Int) m.c.G m.c.N m.c.M m.c.L m.c.Pg m.c.P m.c.H m.c.Sd bi 0 m.bl.length m.live m.peak m.mark oi 0 m.on.length mi 0 m.mem.length C.G C.N C.M C.L C.Pg C.P C.H C.Sd G7) := by
        intro d
        induction d with
        | zero => intro n _ h0; omega
        | succ d ihd =>
          intro n hn _ hlow m bi oi mi G7 h okk hc s hbl hmk
          have hnt : n < tP l u k * (2 + k) := by omega
          have hop := opsTo_fill (g := g) hkl hlow hnt
          rw [hops] at hop
          have hi := oplt k n hkl hnt _ hop
          have lf := live_fill (g := g) tp.hu hkl (n - low l u k) (by omega)
          have lf2 := live_fill (g := g) tp.hu hkl (n + 1 - low l u k) (by omega)
          rw [show low l u k + (n - low l u k) = n by omega] at lf
          rw [show low l u k + (n + 1 - low l u k) = n + 1 by omega] at lf2
          have e2 : (own l u k - (n - low l u k)) * 2 ^ (g + k) = (own l u k - (n + 1 - low l u k)) * 2 ^ (g + k) + 2 ^ (g + k) := by
            rw [show own l u k - (n - low l u k) = (own l u k - (n + 1 - low l u k)) + 1 by omega, Nat.succ_mul]
          have hlv := okk.live
          rw [hbl, chSum_rowB] at hlv
          have tpm : m.c.Tp g l u := by rw [hc]; exact tp
          obtain ⟨f1, f2, f3⟩ := fill_step tpm okk (pages m okk hc) hkl hlow hnt hbl (by rw [hlv, hc, hfull]; omega)
          obtain ⟨okd, hcd⟩ := doM_ok okk ⟨1, 0, ((2 ^ (g + k) : Nat) : Int), 0, 0, 0⟩
          refine step k _ _ m bi oi mi G7 h hop okk hc s f1 (by dsimp only; rw [hN]; omega) (.inl rfl) (R (by dsimp only; omega) (by dsimp only; omega)) (R (by dsimp only; omega) (by dsimp only; omega)) (R (by dsimp only; omega) (by dsimp only; omega)) fun bi oi mi G8 h8 s8 => ?_
          generalize doM m ⟨1, 0, ((2 ^ (g + k) : Nat) : Int), 0, 0, 0⟩ = dm at *
          have mkn : dm.1.mark = max (mkC C k) (((n + 1) * 2 ^ (g + k) : Nat) : Int) := by
            have : n * 2 ^ (g + k) ≤ (n + 1) * 2 ^ (g + k) := Nat.mul_le_mul_right _ (by omega)
            rw [f3, hmk]; omega
          by_cases hlast : n + 1 < tP l u k * (2 + k)
          · refine chk0 k _ dm.1 bi oi mi G8 h8 (by omega) hi (fun e he => ?_) ?_
            · rw [hstk] at he
              have := opl k hkl
              cases he; omega
            · rw [Nat.add_assoc]
              exact ihd (n + 1) (by omega) (by omega) (by omega) dm.1 bi oi mi G8 h8 okd (hcd.trans hc) s8 f2 mkn
          · have hlast : n + 1 = tP l u k * (2 + k) := by omega
            have ho := opl k hkl
            have mkc : dm.1.mark = C.ceil (k : Int) := by
              rw [mkn, hlast, ← tp.ceil hkl]; omega
            have lvd := okd.live
            rw [f2, chSum_rowB] at lvd
            have lvM : dm.1.live = C.M := by
              rw [show own l u k - (n + 1 - low l u k) = 0 by omega, Nat.zero_mul, Nat.add_zero] at lf2
              rw [lvd, hfull, ← lf2]
            refine chk1 k _ dm.1 bi oi mi G8 h8 hkl hi (by rw [hstk, ho]; congr 1; omega) (hcd.trans hc) s8 (by rw [f2, hlast]) ?_
            refine chk0 (k + 1) _ dm.1 bi oi mi G8 h8 (by omega) hi (fun e he => ?_) ?_
            · have hk2 : k + 1 < st.length := (List.getElem?_eq_some_iff.1 he).1
              have h3 : st[k + 1]? = some (((opsTo g l u (k + 1 + 1)).length : Nat) : Int) := by rw [← hst]; exact stTo_get (l + 1) (k + 1) (by omega)
              rw [h3] at he
              have ho2 := opl (k + 1) (by omega)
              have : 0 < tP l u (k + 1) * (2 + (k + 1)) := Nat.mul_pos (tP_pos tp.hu) (by omega)
              cases he; omega
            · have := ih (k + 1) (by omega) dm.1 bi oi mi G8 h8 okd (hcd.trans hc) s8 (by rw [f2, hlast]; rfl) (by rw [mkc]; unfold mkC; rw [if_neg (by omega)]; congr 1; omega)
              rw [ho] at this
              rw [show (opsTo g l u k).length + n + 1 = (opsTo g l u k).length + tP l u k * (2 + k) by omega]
              exact this
      have downto : 0 < own l u k := by
        unfold own
        have := tP_pos (l := l) (k := k) tp.hu
        have := tP_pos (l := l) (k := 0) tp.hu
        split <;> omega
      by_cases hk0 : k = 0
      · subst hk0
        have := fills (tP l u 0 * (2 + 0)) 0 (by omega) (by omega) (by unfold low; rw [if_pos rfl]; omega) m bi oi mi G7 h okk hc s (by rw [hbl]; rfl) (by rw [hmk, Nat.zero_mul]; unfold mkC; rw [if_pos rfl]; rfl)
        exact this
      · obtain ⟨k', rfl⟩ : ∃ k', k = k' + 1 := ⟨k - 1, by omega⟩
        have h2l : tP l u k' * (2 + k') = 2 * low l u (k' + 1) := by
          unfold low
          rw [if_neg (by omega), tP_succ hkl, Nat.mul_assoc, show 1 + (k' + 1) = 2 + k' by omega]
        have frees : ∀ (d j : Nat), j + d = low l u (k' + 1) → ∀ (m : Mod) (bi oi mi : Nat) (G7 : GH), Hp G6 G7 [] → m.Ok → m.c = C → Md G7 bi oi mi m → m.bl = rowB g l u (k' + 1) j ++ (rowB g l u k' (2 * low l u (k' + 1))).drop (2 * j) → m.mark = mkC C (k' + 1) →
            OkT (hodmanlaw21_TightStages.L94 machW CW pi 0 ops.length ti 0 (l + 1) ((k' + 1 : Nat) : Int) ((((opsTo g l u (k' + 1)).length + j : Nat)) : Int) m.c.G m.c.N m.c.M m.c.L m.c.Pg m.c.P m.c.H m.c.Sd bi 0 m.bl.length m.live m.peak m.mark oi 0 m.on.length mi 0 m.mem.length C.G C.N C.M C.L C.Pg C.P C.H C.Sd G7) := by
          intro d
          induction d with
          | zero =>
            intro j hj m bi oi mi G7 h okk hc s hbl hmk
            rw [List.drop_of_length_le (by rw [rowB_len]; omega), List.append_nil] at hbl
            refine fills (own l u (k' + 1)) j (by omega) downto (by omega) m bi oi mi G7 h okk hc s hbl ?_
            rw [hmk, mk2 (by omega), show j = low l u (k' + 1) by omega]; omega
          | succ d ihd =>
            intro j hj m bi oi mi G7 h okk hc s hbl hmk
            have hjl : j < low l u (k' + 1) := by omega
            have hop := opsTo_free (g := g) hkl hjl
            rw [hops] at hop
            have hi := oplt (k' + 1) j hkl (by omega) _ hop
            have tpm : m.c.Tp g l u := by rw [hc]; exact tp
            have hop : ops[(opsTo g l u (k' + 1)).length + j]? = some ⟨5, (((2 * j + 1) * 2 ^ (g + k') : Nat) : Int), 0, 0, 0, 0⟩ := hop
            obtain ⟨f1, f2, f3⟩ := free_step tpm okk hkl hjl hbl
            obtain ⟨okd, hcd⟩ := doM_ok okk ⟨5, (((2 * j + 1) * 2 ^ (g + k') : Nat) : Int), 0, 0, 0, 0⟩
            refine step (k' + 1) _ _ m bi oi mi G7 h hop okk hc s f1 (by dsimp only; omega) (.inr rfl) (R (by dsimp only; omega) (by dsimp only; omega)) (R (by dsimp only; omega) (by dsimp only; omega)) (R (by dsimp only; omega) (by dsimp only; omega)) fun bi oi mi G8 h8 s8 => ?_
            generalize doM m ⟨5, (((2 * j + 1) * 2 ^ (g + k') : Nat) : Int), 0, 0, 0, 0⟩ = dm at *
            refine chk0 (k' + 1) _ dm.1 bi oi mi G8 h8 (by omega) hi (fun e he => ?_) ?_
            · rw [hstk] at he
              have := opl (k' + 1) hkl
              cases he; omega
            · rw [Nat.add_assoc]
              exact ihd (j + 1) (by omega) dm.1 bi oi mi G8 h8 okd (hcd.trans hc) s8 f2 (by rw [f3, hmk])
        have := frees (low l u (k' + 1)) 0 (by omega) m bi oi mi G7 h okk hc s (by rw [hbl]; simp only [atB, Nat.mul_zero, List.drop_zero, h2l]; rfl) hmk
        exact this
  exact main (l + 1) 0 (by omega) (newM C) 0 oi mi G6 (Hp.refl w6) okm rfl s6 rfl rfl
end Go.Proofs.D.S
