/- Texts of the proof (DBin, DRun, DRun2, DMark, DRun3, LawTightLess); no condition. -/
import Derived.Test.YtbgnjpbcdkegoaaTightLessh
import Derived.Test.YtbgnjpbcdkegoaaFb
set_option linter.unusedSimpArgs false
set_option linter.unusedVariables false
/- Blocks below their ceilings: what the model places lies there. -/
set_option linter.unusedVariables false
namespace Go.Proofs.D.S
open Go Go.RowKit
theorem Bin.in {c : Cf} {g l u : Nat} (tp : c.Tp g l u) {b : Blk} (h : Bin g l u b) : inC c g l b = true := by
  obtain ⟨k, a, hk, hch, hat, ha⟩ := h
  unfold inC
  rw [hch, shiftS_pow hk]
  have e := tp.ceil hk
  have h1 : (a + 1) * 2 ^ (g + k) ≤ tP l u k * (2 + k) * 2 ^ (g + k) := Nat.mul_le_mul_right _ ha
  rw [Nat.succ_mul] at h1
  have h2 : ¬ b.at_ > c.ceil (k : Int) - ((2 ^ (g + k) : Nat) : Int) := by rw [e, hat]; omega
  rw [decide_eq_false h2]; rfl
theorem Bin.ok {c : Cf} {g l u : Nat} (tp : c.Tp g l u) {b : Blk} (h : Bin g l u b) : 0 ≤ b.at_ ∧ b.at_ ≤ 65536 ∧ 1 ≤ b.ch ∧ b.ch ≤ 65536 := by
  obtain ⟨k, a, hk, hch, hat, ha⟩ := h
  have z := Nat.two_pow_pos (g + k)
  have hs := tp.small hk
  have h1 : (a + 1) * 2 ^ (g + k) ≤ tP l u k * (2 + k) * 2 ^ (g + k) := Nat.mul_le_mul_right _ ha
  rw [Nat.succ_mul] at h1
  rw [hch, hat]; omega
theorem Bin.all {c : Cf} {g l u : Nat} (tp : c.Tp g l u) {bl : List Blk} (h : ∀ b ∈ bl, Bin g l u b) : bl.all (inC c g l) = true ∧ BlkOk bl := by
  refine ⟨List.all_eq_true.2 fun b hb => (h b hb).in tp, fun b hb => ?_⟩
  have := (h b hb).ok tp
  omega
theorem chargeS_ne7 (G N s a : Int) : (chargeS G N s a).2 ≠ 7 := by
  unfold chargeS
  by_cases h1 : (logS a).2 = false ∨ a > N
  · rw [if_pos h1]; show (3 : Int) ≠ 7; decide
  · rw [if_neg h1]
    by_cases h2 : s < 0 ∨ s > N
    · rw [if_pos h2]; show (4 : Int) ≠ 7; decide
    · rw [if_neg h2]; show (0 : Int) ≠ 7; decide
theorem newS_ne7 (G N M live s a : Int) : (newS G N M live s a).2 ≠ 7 := by
  unfold newS
  by_cases h : (chargeS G N s a).2 = 0
  · rw [if_pos h]
    by_cases h2 : live + (chargeS G N s a).1 > M
    · rw [if_pos h2]; show (5 : Int) ≠ 7; decide
    · rw [if_neg h2]; show (0 : Int) ≠ 7; decide
  · rw [if_neg h]; exact chargeS_ne7 _ _ _ _
theorem manyS_ne7 (G N M live n s : Int) : (manyS G N M live n s).2 ≠ 7 := by
  unfold manyS
  by_cases h : (productS N n s).2 = 0
  · rw [if_pos h]; exact newS_ne7 _ _ _ _ _ _
  · rw [if_neg h]
    unfold productS
    by_cases h1 : n < 0 ∨ s < 0
    · rw [if_pos h1]; show (2 : Int) ≠ 7; decide
    · rw [if_neg h1]
      by_cases h2 : n * s > N
      · rw [if_pos h2]; show (4 : Int) ≠ 7; decide
      · rw [if_neg h2]; show (0 : Int) ≠ 7; decide
/-- What was put in is found. -/
theorem findB_put {n a asked : Int} (hn : 1 ≤ n) : ∀ (l : List Blk), (∀ b ∈ l, 1 ≤ b.ch) → freeB l a n = true → ∃ (i : Nat) (b : Blk), findB (putB l ⟨a, n, asked⟩) a = some i ∧ (putB l ⟨a, n, asked⟩)[i]? = some b ∧ b.ch = n
  | [], _, _ => ⟨0, ⟨a, n, asked⟩, by simp [putB, findB], rfl, rfl⟩
  | x :: l, h, f => by
    unfold freeB at f
    rw [List.all_cons, Bool.and_eq_true] at f
    have hx := h x (by simp)
    have ne : x.at_ ≠ a := by
      intro e
      have := f.1
      unfold over at this
      rw [e, decide_eq_true (show a < a + x.ch by omega), decide_eq_true (show a < a + n by omega)] at this
      exact absurd this (by decide)
    by_cases hg : x.at_ > a
    · have e : putB (x :: l) ⟨a, n, asked⟩ = ⟨a, n, asked⟩ :: x :: l := by simp only [putB, if_pos hg]
      rw [e]
      exact ⟨0, ⟨a, n, asked⟩, by simp [findB], rfl, rfl⟩
    · have e : putB (x :: l) ⟨a, n, asked⟩ = x :: putB l ⟨a, n, asked⟩ := by simp only [putB, if_neg hg]
      rw [e]
      obtain ⟨i, b, h1, h2, h3⟩ := findB_put (asked := asked) hn l (fun b hb => h b (by simp [hb])) f.2
      refine ⟨i + 1, b, ?_, by simpa using h2, h3⟩
      unfold findB
      rw [if_neg ne, h1]; rfl
variable {g l u : Nat}
theorem placeM_bin {m : Mod} (tp : m.c.Tp g l u) (ok : m.Ok) {bl : List Blk} (hin : BlkIn m.c.H bl) (hb : ∀ b ∈ bl, Bin g l u b) {k : Nat} (hk : k ≤ l) (hs : chSum bl + ((2 ^ (g + k) : Nat) : Int) ≤ m.c.M) (asked : Int) :
    (placeM m bl ((2 ^ (g + k) : Nat) : Int) asked).2.2 ≠ 7 ∧ ((placeM m bl ((2 ^ (g + k) : Nat) : Int) asked).2.2 = 0 →
      (∀ b ∈ (placeM m bl ((2 ^ (g + k) : Nat) : Int) asked).1.bl, Bin g l u b) ∧ ∃ (j i : Nat) (b : Blk), (placeM m bl ((2 ^ (g + k) : Nat) : Int) asked).2.1 = ((j * 2 ^ (g + k) : Nat) : Int) ∧ (((j + 1) * 2 ^ (g + k) : Nat) : Int) ≤ m.c.H ∧ ((leastN g k (tP l u k) j : Nat) : Int) ≤ chSum bl ∧
        findB (placeM m bl ((2 ^ (g + k) : Nat) : Int) asked).1.bl (placeM m bl ((2 ^ (g + k) : Nat) : Int) asked).2.1 = some i ∧ (placeM m bl ((2 ^ (g + k) : Nat) : Int) asked).1.bl[i]? = some b ∧ b.ch = ((2 ^ (g + k) : Nat) : Int)) := by
  have z := Nat.two_pow_pos (g + k)
  have f := ok.c.facts
  obtain ⟨j, hj1, hj2, hj3⟩ := room tp hk hb hs
  have hfree := (lowJ_some (by omega) (by omega)).1 hj1
  rcases placeM_cases m bl (n := ((2 ^ (g + k) : Nat) : Int)) (asked := asked) (by omega) (by omega) with ⟨e, _⟩ | e | ⟨j', on', fr, h1, h2, h3, h4, _, _, e⟩
  · unfold lowR at e; rw [hj1] at e; cases e
  · rw [e]; exact ⟨by dsimp only; decide, fun h => absurd h (by dsimp only; decide)⟩
  · rw [hj1] at h1
    cases h1
    rw [e]
    refine ⟨by dsimp only; decide, fun _ => ⟨?_, ?_⟩⟩
    · intro b hbm
      rcases (putB_mem _ _ _).1 hbm with rfl | hbm
      · exact Bin.new hk hj2 asked
      · exact hb b hbm
    · obtain ⟨i, b, q1, q2, q3⟩ := findB_put (asked := asked) (show 1 ≤ ((2 ^ (g + k) : Nat) : Int) by omega) bl (fun b hb => (hin b hb).2.1) h4
      refine ⟨j, i, b, by dsimp only; rw [Int.natCast_mul], ?_, hj3, q1, q2, q3⟩
      rw [← Int.natCast_mul] at h3
      rw [Nat.succ_mul, Int.natCast_add]
      exact h3
/-- What is to be shown of a step. -/
def GoodStep (g l u : Nat) (m : Mod) (o : OpV) (r : Mod × AnsV) : Prop :=
  r.2.err ≠ 7 ∧ (∀ b ∈ r.1.bl, Bin g l u b) ∧ ((o.k = 1 ∨ o.k = 2 ∨ o.k = 3) → r.2.err = 0 → ∃ (k j i : Nat) (b : Blk), k ≤ l ∧ r.2.at_ = ((j * 2 ^ (g + k) : Nat) : Int) ∧ (((j + 1) * 2 ^ (g + k) : Nat) : Int) ≤ m.c.H ∧ ((leastN g k (tP l u k) j : Nat) : Int) ≤ chSum m.bl ∧
    findB r.1.bl r.2.at_ = some i ∧ r.1.bl[i]? = some b ∧ b.ch = ((2 ^ (g + k) : Nat) : Int))
theorem giveM_good {m : Mod} (tp : m.c.Tp g l u) (ok : m.Ok) (hb : ∀ b ∈ m.bl, Bin g l u b) (o : OpV) (ho : o.k = 1 ∨ o.k = 2 ∨ o.k = 3) : GoodStep g l u m o (giveM m o) := by
  unfold giveM
  dsimp only
  have hr : ∀ r : Int × Int, r.2 ≠ 7 → ((r.2 ≠ 0 ∧ r.1 = 0) ∨ (r.2 = 0 ∧ m.live + r.1 ≤ m.c.M ∧ ∃ k : Nat, k ≤ l ∧ r.1 = ((2 ^ (g + k) : Nat) : Int))) →
      ∀ s : Int, GoodStep g l u m o (if r.2 = 0 then (if (placeM m m.bl r.1 s).2.2 = 0 then ((if o.k = 2 then { (placeM m m.bl r.1 s).1 with mem := zeroP (placeM m m.bl r.1 s).1.mem (placeM m m.bl r.1 s).2.1 r.1 } else (placeM m m.bl r.1 s).1), (⟨0, (placeM m m.bl r.1 s).2.1, 0, 0, 0, 0, 0, 0⟩ : AnsV)) else (m, errA (placeM m m.bl r.1 s).2.2)) else (m, errA r.2)) := by
    intro r h7 hr s
    rcases hr with ⟨h, _⟩ | ⟨h, hM, k, hk, he⟩
    · rw [if_neg h]; exact ⟨h7, hb, fun _ h0 => absurd h0 h⟩
    · rw [if_pos h, he]
      rw [ok.live, he] at hM
      obtain ⟨p7, pz⟩ := placeM_bin tp ok ok.bl hb hk hM s
      by_cases hq : (placeM m m.bl ((2 ^ (g + k) : Nat) : Int) s).2.2 = 0
      · rw [if_pos hq]
        obtain ⟨b1, j, i, b, q1, q2, q3, q4, q5, q6⟩ := pz hq
        have eb : (if o.k = 2 then { (placeM m m.bl ((2 ^ (g + k) : Nat) : Int) s).1 with mem := zeroP (placeM m m.bl ((2 ^ (g + k) : Nat) : Int) s).1.mem (placeM m m.bl ((2 ^ (g + k) : Nat) : Int) s).2.1 ((2 ^ (g + k) : Nat) : Int) } else (placeM m m.bl ((2 ^ (g + k) : Nat) : Int) s).1 : Mod).bl = (placeM m m.bl ((2 ^ (g + k) : Nat) : Int) s).1.bl := by split <;> rfl
        refine ⟨by show (0 : Int) ≠ 7; decide, ?_, fun _ _ => ⟨k, j, i, b, hk, q1, q2, q3, ?_, ?_, q6⟩⟩
        · dsimp only; rw [eb]; exact b1
        · dsimp only; rw [eb]; exact q4
        · dsimp only; rw [eb]; exact q5
      · rw [if_neg hq]; exact ⟨p7, hb, fun _ h0 => absurd h0 hq⟩
  refine hr _ ?_ ?_ _
  · by_cases h2 : o.k = 2
    · rw [if_pos h2]; exact manyS_ne7 _ _ _ _ _ _
    · rw [if_neg h2]; exact newS_ne7 _ _ _ _ _ _
  · by_cases h2 : o.k = 2
    · rw [if_pos h2]; exact charge_many tp.ex _ _ _
    · rw [if_neg h2]; exact charge_new tp.ex _ _ _
theorem ofM_good {m : Mod} (tp : m.c.Tp g l u) (ok : m.Ok) (hb : ∀ b ∈ m.bl, Bin g l u b) (o : OpV) (ho : ¬ (o.k = 1 ∨ o.k = 2 ∨ o.k = 3)) {A : Nat} (hA : A < m.bl.length) : GoodStep g l u m o (ofM m o A m.bl[A]) := by
  have hrest := chSum_rest hA
  have hbr : ∀ b ∈ m.bl.take A ++ m.bl.drop (A + 1), Bin g l u b := by
    intro b h
    rcases List.mem_append.1 h with h | h
    · exact hb b (List.mem_of_mem_take h)
    · exact hb b (List.mem_of_mem_drop h)
  have z0 : (0 : Int) ≠ 7 := by decide
  unfold ofM
  dsimp only
  by_cases h4 : o.k = 4
  · rw [if_pos h4]
    rcases charge_new tp.ex (m.live - m.bl[A].ch) o.s 1 with ⟨h, _⟩ | ⟨h, hM, k, hk, he⟩
    · rw [if_neg h]; exact ⟨newS_ne7 _ _ _ _ _ _, hb, fun h => absurd h ho⟩
    · rw [if_pos h, he]
      have hl := ok.live
      rw [he] at hM
      obtain ⟨p7, pz⟩ := placeM_bin tp ok (ok.bl.rest A) hbr hk (by omega) o.s
      by_cases hq : (placeM m (m.bl.take A ++ m.bl.drop (A + 1)) ((2 ^ (g + k) : Nat) : Int) o.s).2.2 = 0
      · rw [if_pos hq]; exact ⟨z0, (pz hq).1, fun h => absurd h ho⟩
      · rw [if_neg hq]; exact ⟨p7, hb, fun h => absurd h ho⟩
  · rw [if_neg h4]
    by_cases h5 : o.k = 5
    · rw [if_pos h5]; exact ⟨z0, hbr, fun h => absurd h ho⟩
    · rw [if_neg h5]
      split
      · exact ⟨z0, hb, fun h => absurd h ho⟩
      · split
        · exact ⟨by show (9 : Int) ≠ 7; decide, hb, fun h => absurd h ho⟩
        · split
          · exact ⟨z0, hb, fun h => absurd h ho⟩
          · exact ⟨z0, hb, fun h => absurd h ho⟩
theorem doM_good {m : Mod} (tp : m.c.Tp g l u) (ok : m.Ok) (hb : ∀ b ∈ m.bl, Bin g l u b) (o : OpV) : GoodStep g l u m o (doM m o) := by
  have z0 : (0 : Int) ≠ 7 := by decide
  unfold doM
  by_cases ho : o.k = 1 ∨ o.k = 2 ∨ o.k = 3
  · rw [if_pos ho]; exact giveM_good tp ok hb o ho
  · rw [if_neg ho]
    split
    · exact ⟨z0, hb, fun h => absurd h ho⟩
    · split
      · exact ⟨z0, hb, fun h => absurd h ho⟩
      · split
        · cases h : findB m.bl o.p with
          | none => exact ⟨by show (8 : Int) ≠ 7; decide, hb, fun h => absurd h ho⟩
          | some A =>
            obtain ⟨hA, _⟩ := findB_lt h
            dsimp only
            rw [getD_lt _ hA]
            exact ofM_good tp ok hb o ho hA
        · exact ⟨by show (2 : Int) ≠ 7; decide, hb, fun h => absurd h ho⟩
end Go.Proofs.D.S
/- The script runs: what the model holds behind each of its steps. -/
set_option linter.unusedVariables false
namespace Go.Proofs.D.S
open Go Go.RowKit
variable {g l u : Nat}
theorem chSum_rowB (k : Nat) : ∀ n, chSum (rowB g l u k n) = ((leastN g k (tP l u k) n : Nat) : Int)
  | 0 => rfl
  | n + 1 => by
    rw [← rowB_snoc, chSum_app, chSum_rowB k n, leastN_elN, Int.natCast_add]
    simp [chSum, elB]
theorem commitP_fits {on met : List Bool} {f b mx : Int} (h : (met.length : Int) ≤ mx) : ∃ on' fr, commitP on met f b mx = some (on', fr) := by
  unfold commitP
  have h1 := cnt_le (needP met f b)
  have h2 : (needP met f b).length = met.length := by unfold needP; rw [tab_len]
  rw [if_neg (by omega)]
  exact ⟨_, _, rfl⟩
theorem placeM_fits {m : Mod} {l : List Blk} {n asked : Int} {j : Nat} (hP : (m.on.length : Int) ≤ m.c.P) (h : lowJ m.c.H l n = some j) : ∃ on' fr, placeM m l n asked = (setM m l ((j : Int) * n) n asked on' fr, (j : Int) * n, 0) := by
  have e : lowR m.c.H l n = ((j : Int) * n, true) := by unfold lowR; rw [h]
  unfold placeM
  rw [e, if_pos rfl]
  obtain ⟨on', fr, hc⟩ := commitP_fits (on := m.on) (met := metP m.c.Pg m.on.length l) (f := (pagesP m.c.Pg ((j : Int) * n) n).1) (b := (pagesP m.c.Pg ((j : Int) * n) n).2) (mx := m.c.P) (by unfold metP; rw [tab_len]; exact hP)
  refine ⟨on', fr, ?_⟩
  dsimp only
  rw [hc]
  rfl
theorem charge_pow {c : Cf} (ex : c.Ex g l) {k : Nat} (hk : k ≤ l) : chargeS c.G c.N ((2 ^ (g + k) : Nat) : Int) 1 = (((2 ^ (g + k) : Nat) : Int), 0) := by
  have z := Nat.two_pow_pos (g + k)
  have z2 : 2 ^ g ≤ 2 ^ (g + k) := Nat.pow_le_pow_right (by decide) (by omega)
  have z3 : 2 ^ (g + k) ≤ 2 ^ (g + l) := Nat.pow_le_pow_right (by decide) (by omega)
  unfold chargeS
  rw [ex.hG, ex.hN, show (logS 1).2 = true from by decide, if_neg (fun h => h.elim (fun h => by cases h) (fun h => by omega)), if_neg (by omega)]
  have e : (max (max ((2 ^ (g + k) : Nat) : Int) 1) ((2 ^ g : Nat) : Int)).toNat = 2 ^ (g + k) := by omega
  rw [e, clog_pow]
theorem fill_step {m : Mod} (tp : m.c.Tp g l u) (ok : m.Ok) (hP : (m.on.length : Int) ≤ m.c.P) {k n : Nat} (hk : k ≤ l) (h1 : low l u k ≤ n) (h2 : n < tP l u k * (2 + k)) (hbl : m.bl = rowB g l u k n) (hroom : m.live + ((2 ^ (g + k) : Nat) : Int) ≤ m.c.M) :
    (doM m ⟨1, 0, ((2 ^ (g + k) : Nat) : Int), 0, 0, 0⟩).2.err = 0 ∧ (doM m ⟨1, 0, ((2 ^ (g + k) : Nat) : Int), 0, 0, 0⟩).1.bl = rowB g l u k (n + 1) ∧ (doM m ⟨1, 0, ((2 ^ (g + k) : Nat) : Int), 0, 0, 0⟩).1.mark = max m.mark (((n + 1) * 2 ^ (g + k) : Nat) : Int) := by
  have hL := tp.ex.hL
  obtain ⟨_, cH, _⟩ := tp.ok.ceil (k := (k : Int)) (by omega) (by omega)
  rw [tp.ceil hk] at cH
  have h3 : (n + 1) * 2 ^ (g + k) ≤ tP l u k * (2 + k) * 2 ^ (g + k) := Nat.mul_le_mul_right _ h2
  have hlow := low_free (g := g) (l := l) (u := u) (k := k) (n := n) (H := m.c.H) (by omega)
  have hr : newS m.c.G m.c.N m.c.M m.live ((2 ^ (g + k) : Nat) : Int) 1 = (((2 ^ (g + k) : Nat) : Int), 0) := by
    unfold newS
    rw [charge_pow tp.ex hk, if_pos rfl, if_neg (by dsimp only; omega)]
  obtain ⟨on', fr, e⟩ := placeM_fits (m := m) (l := rowB g l u k n) (asked := ((2 ^ (g + k) : Nat) : Int)) hP hlow
  have hd : doM m ⟨1, 0, ((2 ^ (g + k) : Nat) : Int), 0, 0, 0⟩ = (setM m (rowB g l u k n) ((n : Int) * ((2 ^ (g + k) : Nat) : Int)) ((2 ^ (g + k) : Nat) : Int) ((2 ^ (g + k) : Nat) : Int) on' fr, ⟨0, (n : Int) * ((2 ^ (g + k) : Nat) : Int), 0, 0, 0, 0, 0, 0⟩) := by
    unfold doM giveM
    simp only [show ¬ ((1 : Int) = 2) by decide, show ¬ ((1 : Int) = 3) by decide, true_or, if_true, if_false, hr, hbl, e]
  rw [hd]
  refine ⟨rfl, ?_, ?_⟩
  · show putB (rowB g l u k n) _ = _
    refine putB_row k n _ ?_
    unfold elB
    rw [elN_own tp.hu h1 h2, Int.natCast_mul]
  · show max m.mark ((n : Int) * ((2 ^ (g + k) : Nat) : Int) + ((2 ^ (g + k) : Nat) : Int)) = _
    rw [Nat.succ_mul, Int.natCast_add, Int.natCast_mul]
theorem findB_at {a : Int} : ∀ {l : List Blk} {i : Nat} {b : Blk}, l[i]? = some b → b.at_ = a → (∀ j x, j < i → l[j]? = some x → x.at_ ≠ a) → findB l a = some i
  | [], i, b, h, _, _ => by simp at h
  | x :: l, 0, b, h, hb, _ => by
    simp at h; subst h
    unfold findB; rw [if_pos hb]
  | x :: l, i + 1, b, h, hb, hn => by
    have h0 := hn 0 x (by omega) rfl
    unfold findB
    rw [if_neg h0, findB_at (l := l) (i := i) (b := b) (by simpa using h) hb (fun j y hj hy => hn (j + 1) y (by omega) (by simpa using hy))]; rfl
theorem free_step {m : Mod} (tp : m.c.Tp g l u) (ok : m.Ok) {k j : Nat} (hk : k + 1 ≤ l) (hj : j < low l u (k + 1)) (hbl : m.bl = rowB g l u (k + 1) j ++ (rowB g l u k (2 * low l u (k + 1))).drop (2 * j)) :
    (doM m ⟨5, (((2 * j + 1) * 2 ^ (g + k) : Nat) : Int), 0, 0, 0, 0⟩).2.err = 0 ∧ (doM m ⟨5, (((2 * j + 1) * 2 ^ (g + k) : Nat) : Int), 0, 0, 0, 0⟩).1.bl = rowB g l u (k + 1) (j + 1) ++ (rowB g l u k (2 * low l u (k + 1))).drop (2 * (j + 1)) ∧ (doM m ⟨5, (((2 * j + 1) * 2 ^ (g + k) : Nat) : Int), 0, 0, 0, 0⟩).1.mark = m.mark := by
  have z := Nat.two_pow_pos (g + k)
  have hjl : j < tP l u (k + 1) * (2 + k) := by
    have : low l u (k + 1) = tP l u (k + 1) * (1 + (k + 1)) := by unfold low; rw [if_neg (by omega)]
    rw [this, show 1 + (k + 1) = 2 + k by omega] at hj; exact hj
  have e1 : (rowB g l u k (2 * low l u (k + 1))).drop (2 * j) = elB g l u k (2 * j) :: elB g l u k (2 * j + 1) :: (rowB g l u k (2 * low l u (k + 1))).drop (2 * (j + 1)) := by
    rw [List.drop_eq_getElem_cons (by rw [rowB_len]; omega), rowB_get, List.drop_eq_getElem_cons (by rw [rowB_len]; omega), rowB_get, show 2 * j + 1 + 1 = 2 * (j + 1) by omega]
  have e2 := elB_even (g := g) tp.hu hk hjl
  have hX := rowB_len (g := g) (l := l) (u := u) (k + 1) j
  have hb : m.bl = (rowB g l u (k + 1) j ++ [elB g l u (k + 1) j]) ++ elB g l u k (2 * j + 1) :: (rowB g l u k (2 * low l u (k + 1))).drop (2 * (j + 1)) := by
    rw [hbl, e1, e2]; simp
  rw [rowB_snoc] at hb
  have hlen : (rowB g l u (k + 1) (j + 1)).length = j + 1 := rowB_len _ _
  have hget : m.bl[j + 1]? = some (elB g l u k (2 * j + 1)) := by
    rw [hb, List.getElem?_append_right (by omega), hlen]; simp
  have hf : findB m.bl (((2 * j + 1) * 2 ^ (g + k) : Nat) : Int) = some (j + 1) := by
    refine findB_at hget rfl fun i x hi hx => ?_
    rw [hb, List.getElem?_append_left (by omega)] at hx
    obtain ⟨hi2, rfl⟩ := List.getElem?_eq_some_iff.1 hx
    rw [rowB_get]
    unfold elB
    dsimp only
    have : i * 2 ^ (g + (k + 1)) = 2 * i * 2 ^ (g + k) := by rw [show g + (k + 1) = (g + k) + 1 by omega, Nat.pow_succ, Nat.mul_comm (2 ^ (g + k)) 2, ← Nat.mul_assoc, Nat.mul_comm i 2]
    rw [this]
    have h4 : (2 * i) * 2 ^ (g + k) < (2 * j + 1) * 2 ^ (g + k) := (Nat.mul_lt_mul_right z).2 (by omega)
    omega
  obtain ⟨hA, _⟩ := findB_lt hf
  have hAe : m.bl[j + 1] = elB g l u k (2 * j + 1) := by
    have := List.getElem?_eq_getElem hA
    rw [hget] at this; exact (Option.some.inj this).symm
  have hd : doM m ⟨5, (((2 * j + 1) * 2 ^ (g + k) : Nat) : Int), 0, 0, 0, 0⟩ = ({ m with bl := m.bl.take (j + 1) ++ m.bl.drop (j + 1 + 1), live := m.live - (m.bl.getD (j + 1) ⟨0, 0, 0⟩).ch }, errA 0) := by
    unfold doM
    simp only [show ¬ ((5 : Int) = 1) by decide, show ¬ ((5 : Int) = 2) by decide, show ¬ ((5 : Int) = 3) by decide, show ¬ ((5 : Int) = 9) by decide, show ¬ ((5 : Int) = 10) by decide, show ¬ ((5 : Int) = 4) by decide, or_false, false_or, true_or, if_true, if_false]
    rw [hf]
    dsimp only
    unfold ofM
    simp only [show ¬ ((5 : Int) = 4) by decide, if_true, if_false]
  rw [hd]
  refine ⟨rfl, ?_, rfl⟩
  dsimp only
  have t1 : m.bl.take (j + 1) = rowB g l u (k + 1) (j + 1) := by rw [hb, List.take_left' hlen]
  have t2 : m.bl.drop (j + 1 + 1) = (rowB g l u k (2 * low l u (k + 1))).drop (2 * (j + 1)) := by
    rw [hb, ← List.drop_drop, List.drop_left' hlen]; rfl
  rw [t1, t2]
end Go.Proofs.D.S
/- The script as a whole: where its steps lie, and how many they are. -/
set_option linter.unusedVariables false
namespace Go.Proofs.D.S
open Go Go.RowKit
variable {g l u : Nat}
theorem opsTo_pre (k : Nat) : ∀ d, ∃ t, opsTo g l u (k + d) = opsTo g l u k ++ t
  | 0 => ⟨[], by simp⟩
  | d + 1 => by
    obtain ⟨t, h⟩ := opsTo_pre k d
    exact ⟨t ++ freeOps g (k + d) (low l u (k + d)) ++ fillOps g (k + d) (own l u (k + d)), by rw [← Nat.add_assoc]; simp only [opsTo]; rw [h]; simp⟩
theorem opsTo_succ_len (k : Nat) : (opsTo g l u (k + 1)).length = (opsTo g l u k).length + (tP l u k * (2 + k)) := by
  rw [← low_own]; simp only [opsTo]; simp [freeOps, fillOps]
theorem opsTo_free {k j : Nat} (hk : k ≤ l) (hj : j < low l u k) : (opsTo g l u (l + 1))[(opsTo g l u k).length + j]? = some ⟨5, (((2 * j + 1) * 2 ^ (g + (k - 1)) : Nat) : Int), 0, 0, 0, 0⟩ := by
  obtain ⟨t, h⟩ := opsTo_pre (g := g) (l := l) (u := u) (k + 1) (l - k)
  rw [show l + 1 = k + 1 + (l - k) by omega, h]
  simp only [opsTo]
  rw [List.append_assoc, List.append_assoc, List.getElem?_append_right (by omega), Nat.add_sub_cancel_left, List.getElem?_append_left (by simp [freeOps]; exact hj)]
  simp [freeOps, hj]
theorem opsTo_fill {k n : Nat} (hk : k ≤ l) (h1 : low l u k ≤ n) (h2 : n < tP l u k * (2 + k)) : (opsTo g l u (l + 1))[(opsTo g l u k).length + n]? = some ⟨1, 0, ((2 ^ (g + k) : Nat) : Int), 0, 0, 0⟩ := by
  obtain ⟨t, h⟩ := opsTo_pre (g := g) (l := l) (u := u) (k + 1) (l - k)
  have lo := low_own (l := l) (u := u) (k := k)
  rw [show l + 1 = k + 1 + (l - k) by omega, h]
  simp only [opsTo]
  have fl : (freeOps g k (low l u k)).length = low l u k := by simp [freeOps]
  have fl2 : (fillOps g k (own l u k)).length = own l u k := by simp [fillOps]
  rw [List.append_assoc, List.append_assoc, List.getElem?_append_right (by omega), Nat.add_sub_cancel_left, List.getElem?_append_right (by omega), fl, List.getElem?_append_left (by omega)]
  rw [List.getElem?_eq_getElem (by omega)]
  simp [fillOps]
theorem stTo_get : ∀ K k, k < K → (stTo g l u K)[k]? = some ((opsTo g l u (k + 1)).length : Int)
  | 0, k, h => by omega
  | K + 1, k, h => by
    have hl : (stTo g l u K).length = K := by
      have : ∀ K, (stTo g l u K).length = K := by
        intro K; induction K with
        | zero => rfl
        | succ K ih => simp [stTo, ih]
      exact this K
    simp only [stTo]
    rcases Nat.lt_or_ge k K with h2 | h2
    · rw [List.getElem?_append_left (by omega)]; exact stTo_get K k h2
    · rw [show k = K by omega, List.getElem?_append_right (by omega), hl]; simp
/-- Fewer than three times the units. -/
theorem opsTo_few (k : Nat) : k ≤ l → (opsTo g l u (k + 1)).length + tP l u k * (k + 4) = 6 * tP l u 0 := by
  induction k with
  | zero => intro _; rw [opsTo_succ_len]; simp [opsTo]; omega
  | succ k ih =>
    intro hk
    have h := ih (by omega)
    rw [opsTo_succ_len]
    have e := tP_succ (u := u) hk
    rw [e] at h
    have e1 : tP l u (k + 1) * (2 + (k + 1)) + tP l u (k + 1) * (k + 1 + 4) = 2 * tP l u (k + 1) * (k + 4) := by
      rw [← Nat.mul_add, Nat.mul_comm 2, Nat.mul_assoc]; congr 1; omega
    omega
/-- How much is live while a class is filled. -/
theorem live_fill (hu : 1 ≤ u) {k : Nat} (hk : k ≤ l) : ∀ i, i ≤ own l u k → leastN g k (tP l u k) (low l u k + i) + (own l u k - i) * 2 ^ (g + k) = 2 * (tP l u k * 2 ^ (g + k))
  | 0, _ => by
    rw [Nat.add_zero, Nat.sub_zero]
    by_cases h0 : k = 0
    · subst h0
      unfold low own
      rw [if_pos rfl, if_pos rfl, Nat.mul_assoc]; simp [leastN]
    · rw [sum_low hu (by omega) hk]
      unfold own
      rw [if_neg h0]; omega
  | i + 1, hi => by
    have ih := live_fill hu hk i (by omega)
    have lo := low_own (l := l) (u := u) (k := k)
    have e : leastN g k (tP l u k) (low l u k + (i + 1)) = leastN g k (tP l u k) (low l u k + i) + 2 ^ (g + k) := by
      rw [← Nat.add_assoc, leastN_elN, elN_own hu (by omega) (by omega)]
    have e2 : (own l u k - i) * 2 ^ (g + k) = (own l u k - (i + 1)) * 2 ^ (g + k) + 2 ^ (g + k) := by
      rw [show own l u k - i = (own l u k - (i + 1)) + 1 by omega, Nat.succ_mul]
    omega
end Go.Proofs.D.S
/- More on the script's states. -/
set_option linter.unusedVariables false
namespace Go.Proofs.D.S
open Go Go.RowKit
/-- The mark behind so many stages. -/
def mkC (c : Cf) (k : Nat) : Int := if k = 0 then 0 else c.ceil ((k : Int) - 1)
theorem mkC_le {c : Cf} {g l u : Nat} (tp : c.Tp g l u) {k : Nat} (hk : k ≤ l) : 0 ≤ mkC c k ∧ mkC c k ≤ c.ceil (k : Int) ∧ (k ≠ 0 → mkC c k = ((low l u k * 2 ^ (g + k) : Nat) : Int)) := by
  have h0 := tp.ceil hk
  unfold mkC
  by_cases h : k = 0
  · rw [if_pos h]; exact ⟨by omega, by rw [h0]; omega, fun e => absurd h e⟩
  · rw [if_neg h]
    obtain ⟨k', rfl⟩ : ∃ k', k = k' + 1 := ⟨k - 1, by omega⟩
    have e := tp.ceil_below hk
    rw [show ((k' + 1 : Nat) : Int) - 1 = (k' : Int) by omega, e]
    have lo : low l u (k' + 1) = tP l u (k' + 1) * (2 + k') := by unfold low; rw [if_neg h]; congr 1; omega
    have : tP l u (k' + 1) * (2 + k') * 2 ^ (g + (k' + 1)) ≤ tP l u (k' + 1) * (2 + (k' + 1)) * 2 ^ (g + (k' + 1)) := Nat.mul_le_mul_right _ (Nat.mul_le_mul_left _ (by omega))
    refine ⟨by omega, by rw [h0]; omega, fun _ => by rw [lo]⟩
theorem elN_lt {g l u k j : Nat} (hu : 1 ≤ u) (h : j < low l u k) : elN g l u k j < 2 ^ (g + k) := by
  have hk : k ≠ 0 := by rintro rfl; unfold low at h; rw [if_pos rfl] at h; omega
  unfold low at h
  rw [if_neg hk] at h
  have h2 : j / tP l u k < 1 + k := Nat.div_lt_of_lt_mul h
  unfold elN
  refine Nat.pow_lt_pow_right (by decide) ?_
  unfold ofP; omega
end Go.Proofs.D.S
/- The script's run, in plain values: for TightLess. -/
set_option linter.unusedVariables false
namespace Go.Proofs.D.S
open Go Go.RowKit
variable {g l u : Nat}
def runM (m : Mod) (ops : List OpV) : Mod := ops.foldl (fun m o => (doM m o).1) m
theorem runM_app (m : Mod) (a b : List OpV) : runM m (a ++ b) = runM (runM m a) b := by unfold runM; rw [List.foldl_append]
theorem runM_one (m : Mod) (o : OpV) : runM m [o] = (doM m o).1 := rfl
/-- A model in order, of this configuration, with these blocks. -/
structure RunSt (C : Cf) (m : Mod) (bl : List Blk) : Prop where
  ok : m.Ok
  c : m.c = C
  bl : m.bl = bl
theorem RunSt.pages {C : Cf} {m : Mod} {bl : List Blk} (s : RunSt C m bl) (hP : C.H ≤ C.P) : (m.on.length : Int) ≤ m.c.P := by
  have f := s.ok.c.facts
  have h1 := s.ok.on
  have h2 : (m.on.length : Int) * 1 ≤ (m.on.length : Int) * m.c.Pg := Int.mul_le_mul_of_nonneg_left (by omega) (by omega)
  rw [s.c] at h1 h2 ⊢
  omega
theorem run_frees {C : Cf} (tp : C.Tp g l u) {k : Nat} (hk : k + 1 ≤ l) {m : Mod} (s : RunSt C m (rowB g l u k (2 * low l u (k + 1)))) : ∀ j, j ≤ low l u (k + 1) → RunSt C (runM m (freeOps g (k + 1) j)) (rowB g l u (k + 1) j ++ (rowB g l u k (2 * low l u (k + 1))).drop (2 * j))
  | 0, _ => ⟨s.ok, s.c, by rw [Nat.mul_zero, List.drop_zero]; exact s.bl⟩
  | j + 1, hj => by
    have ih := run_frees tp hk s j (by omega)
    have e : freeOps g (k + 1) (j + 1) = freeOps g (k + 1) j ++ [⟨5, (((2 * j + 1) * 2 ^ (g + k) : Nat) : Int), 0, 0, 0, 0⟩] := by
      unfold freeOps; rw [List.range_succ, List.map_append]; rfl
    rw [e, runM_app, runM_one]
    have tpm : (runM m (freeOps g (k + 1) j)).c.Tp g l u := by rw [ih.c]; exact tp
    obtain ⟨_, f2, _⟩ := free_step tpm ih.ok hk (show j < low l u (k + 1) by omega) ih.bl
    obtain ⟨okd, hcd⟩ := doM_ok ih.ok ⟨5, (((2 * j + 1) * 2 ^ (g + k) : Nat) : Int), 0, 0, 0, 0⟩
    exact ⟨okd, hcd.trans ih.c, f2⟩
theorem run_fills {C : Cf} (tp : C.Tp g l u) (hP : C.H ≤ C.P) {k : Nat} (hk : k ≤ l) {m : Mod} (s : RunSt C m (rowB g l u k (low l u k))) : ∀ i, i ≤ own l u k → RunSt C (runM m (fillOps g k i)) (rowB g l u k (low l u k + i))
  | 0, _ => s
  | i + 1, hi => by
    have ih := run_fills tp hP hk s i (by omega)
    have lo := low_own (l := l) (u := u) (k := k)
    have e : fillOps g k (i + 1) = fillOps g k i ++ [⟨1, 0, ((2 ^ (g + k) : Nat) : Int), 0, 0, 0⟩] := by
      unfold fillOps; rw [List.range_succ, List.map_append]; rfl
    rw [e, runM_app, runM_one]
    have tpm : (runM m (fillOps g k i)).c.Tp g l u := by rw [ih.c]; exact tp
    have lf := live_fill (g := g) tp.hu hk i (by omega)
    have e2 : (own l u k - i) * 2 ^ (g + k) = (own l u k - (i + 1)) * 2 ^ (g + k) + 2 ^ (g + k) := by
      rw [show own l u k - i = (own l u k - (i + 1)) + 1 by omega, Nat.succ_mul]
    have hlv := ih.ok.live
    rw [ih.bl, chSum_rowB] at hlv
    have hfull := tp.full hk
    obtain ⟨_, f2, _⟩ := fill_step tpm ih.ok (ih.pages hP) hk (show low l u k ≤ low l u k + i by omega) (by omega) ih.bl (by rw [hlv, ih.c, hfull]; omega)
    obtain ⟨okd, hcd⟩ := doM_ok ih.ok ⟨1, 0, ((2 ^ (g + k) : Nat) : Int), 0, 0, 0⟩
    exact ⟨okd, hcd.trans ih.c, by rw [f2]; rfl⟩
/-- Behind a stage's frees. -/
theorem run_low {C : Cf} (tp : C.Tp g l u) {k : Nat} (hk : k ≤ l) {m : Mod} (s : RunSt C m (atB g l u k)) : RunSt C (runM m (freeOps g k (low l u k))) (rowB g l u k (low l u k)) := by
  cases k with
  | zero =>
    have e : low l u 0 = 0 := by unfold low; rw [if_pos rfl]
    rw [e]; exact s
  | succ k =>
    have h2l : tP l u k * (2 + k) = 2 * low l u (k + 1) := by
      unfold low
      rw [if_neg (by omega), tP_succ hk, Nat.mul_assoc, show 1 + (k + 1) = 2 + k by omega]
    have s' : RunSt C m (rowB g l u k (2 * low l u (k + 1))) := by rw [← h2l]; exact s
    have := run_frees tp hk s' (low l u (k + 1)) (Nat.le_refl _)
    rwa [List.drop_of_length_le (by rw [rowB_len]; omega), List.append_nil] at this
theorem run_to {C : Cf} (tp : C.Tp g l u) (hP : C.H ≤ C.P) {m : Mod} (s : RunSt C m []) : ∀ k, k ≤ l + 1 → RunSt C (runM m (opsTo g l u k)) (atB g l u k)
  | 0, _ => s
  | k + 1, hk => by
    have ih := run_to tp hP s k (by omega)
    have := run_fills tp hP (by omega) (run_low tp (by omega) ih) (own l u k) (Nat.le_refl _)
    simp only [opsTo]
    rw [runM_app, runM_app]
    rw [low_own] at this
    exact this
/-- All but the last. -/
theorem run_last {C : Cf} (tp : C.Tp g l u) (hP : C.H ≤ C.P) {m : Mod} (s : RunSt C m []) : RunSt C (runM m (opsTo g l u l ++ freeOps g l (low l u l) ++ fillOps g l (own l u l - 1))) (rowB g l u l (low l u l + (own l u l - 1))) := by
  rw [runM_app, runM_app]
  exact run_fills tp hP (Nat.le_refl _) (run_low tp (Nat.le_refl _) (run_to tp hP s l (by omega))) _ (by omega)
end Go.Proofs.D.S
/- TightLess: whatever the numbers, the law answers yes. -/
set_option linter.unusedVariables false
set_option linter.unusedSimpArgs false
namespace Go.Proofs.D.S
open Go Go.RowKit
theorem allM_run (m : Mod) : ∀ l : List OpV, (allM m l).1 = runM m l
  | [] => rfl
  | o :: l => by
    show (allM (doM m o).1 l).1 = _
    rw [allM_run _ l]; rfl
theorem hodmanlaw21_TightLess.law {G : GH} (hG : Beg G) {id : Nat} {xs : List Int} (hs : Sl G eU8 id 0 xs) (hb : Bytes xs) : OkT (CW hodmanlaw21_TightLess.id [.c (.sl 1 id 0 xs.length)] G) := by
  obtain ⟨G1, e1, f1⟩ := hodmanlaw21_begun.sp hG
  rw [hodmanlaw21_TightLess.cw]
  unfold hodmanlaw21_TightLess.f
  simp only [e1, q_bs, q_I, q_B, q_P, q_S, q_M, q_c, q_a, q_gz, q_gs, q_gk, q_ct, q_cf, q_nt, q_nf, q_xt, q_xf, q_tt, q_ff, q_tf, q_ft, q_at, q_af]
  by_cases h6 : (xs.length : Int) > 6
  · rw [condD_pos h6]; exact ⟨_, rfl⟩
  rw [condD_neg h6]
  have h0 := Hp.refl f1.wf
  have p0 : PkOk G1 [] id 0 xs.length xs := ⟨.old (f1.sl _ _ _ _ hs), hb, rfl, by omega⟩
  obtain ⟨pid, G2, e2, h2⟩ := hodmanplay_Made.sp h0 id 0 xs.length
  obtain ⟨r, j, G3, e3, h3, rok, _, _⟩ := hodmanplay_Picks_Raw.sp h2 p0 (by omega) (by omega) true
  simp only [e2, e3, q_bs, q_I, q_B, q_P, q_S, q_M, q_c, q_a, q_gz, q_gs, q_gk, q_ct, q_cf, q_nt, q_nf, q_xt, q_xf, q_tt, q_ff, q_tf, q_ft, q_at, q_af, List.length_cons, List.length_nil, if_true]
  obtain ⟨g0, c0, q0, sm⟩ := rok.cfSmall
  have hof := rok.ofC
  have hw := h3.wf
  clear e1 e2 e3 h3 h2 p0 h0
  have ok := sm.ok
  have hP0 := sm.s.hP.1 rfl
  have hH2 := sm.s.hH2
  obtain ⟨oi, mi, G4, e4, h4, s4, no, nm⟩ := hodmanref17_New.spV hw hof ok
  rw [e4]
  clear e4 sm rok hof
  generalize cfOf r = C at *
  obtain ⟨g, l, u, tp⟩ := ok.tp
  simp only [q_bs, q_I, q_B, q_P, q_S, q_M, q_c, q_a, q_gz, q_gs, q_gk, q_ct, q_cf, q_nt, q_nf, q_xt, q_xf, q_tt, q_ff, q_tf, q_ft, q_at, q_af, List.length_cons, List.length_nil, if_true, decide_true]
  obtain ⟨pi, G5, e5, h5⟩ := tight_Script.sp tp h4.wf
  have hL := tp.ex.hL
  have hgl := tp.ex.hgl
  have fs := ok.facts
  simp only [newM] at e5 ⊢
  rw [e5]
  simp only [q_bs, q_I, q_B, q_P, q_S, q_M, q_c, q_a, q_gz, q_gs, q_gk, q_ct, q_cf, q_nt, q_nf, q_xt, q_xf, q_tt, q_ff, q_tf, q_ft, q_at, q_af]
  have okm := newM_ok ok
  have s5 : Md G5 0 oi mi (newM C) := s4.keep h5
  have z := Nat.two_pow_pos (g + l)
  have y := pow16 (e := g + l) (by omega)
  have few := opsTo_few (g := g) (l := l) (u := u) l (Nat.le_refl _)
  have tpos := tP_pos (l := l) (k := l) tp.hu
  have t0 : tP l u 0 ≤ 65536 := by
    have := tp.small (k := 0) (by omega)
    have h1 : tP l u 0 * 1 ≤ tP l u 0 * (2 + 0) * 2 ^ (g + 0) := by
      rw [Nat.mul_assoc]; exact Nat.mul_le_mul_left _ (Nat.mul_pos (by omega) (Nat.two_pow_pos _))
    omega
  have own1 : 1 ≤ own l u l := by
    have := tP_pos (l := l) (k := 0) tp.hu
    unfold own; split <;> omega
  -- all but the last
  have hops : opsTo g l u (l + 1) = (opsTo g l u l ++ freeOps g l (low l u l) ++ fillOps g l (own l u l - 1)) ++ [⟨1, 0, ((2 ^ (g + l) : Nat) : Int), 0, 0, 0⟩] := by
    have e : fillOps g l (own l u l) = fillOps g l (own l u l - 1) ++ [⟨1, 0, ((2 ^ (g + l) : Nat) : Int), 0, 0, 0⟩] := by
      have : own l u l = (own l u l - 1) + 1 := by omega
      rw [this]; unfold fillOps; rw [List.range_succ, List.map_append]; rfl
    simp only [opsTo]; rw [e]; simp only [List.append_assoc]
  have sO : Sl G5 eOp pi 0 (opsTo g l u (l + 1)) := h5.sl0
  have rl := run_last tp (by omega) (m := newM C) ⟨okm, rfl, rfl⟩
  have hin : ∀ o ∈ opsTo g l u (l + 1), R64 o.s ∧ R64 o.a ∧ R64 o.n := by
    have key : ∀ k, k ≤ l + 1 → ∀ o ∈ opsTo g l u k, R64 o.s ∧ R64 o.a ∧ R64 o.n := by
      intro k
      induction k with
      | zero => intro _ o ho; cases ho
      | succ k ih =>
        intro hk o ho
        simp only [opsTo] at ho
        rcases List.mem_append.1 ho with ho | ho
        · rcases List.mem_append.1 ho with ho | ho
          · exact ih (by omega) o ho
          · obtain ⟨j, _, rfl⟩ := List.mem_map.1 ho
            refine ⟨?_, ?_, ?_⟩ <;> (unfold R64; dsimp only; omega)
        · obtain ⟨j, _, rfl⟩ := List.mem_map.1 ho
          have z := Nat.two_pow_pos (g + k)
          have y := pow16 (e := g + k) (by omega)
          refine ⟨?_, ?_, ?_⟩ <;> (unfold R64; dsimp only; omega)
    exact key (l + 1) (Nat.le_refl _)
  generalize hA : opsTo g l u l ++ freeOps g l (low l u l) ++ fillOps g l (own l u l - 1) = A at *
  generalize opsTo g l u (l + 1) = ops at *
  have ol : ops.length = A.length + 1 := by rw [hops]; simp
  have ob : ops.length ≤ 1000000000 := by omega
  have hlast : ∀ h : A.length < ops.length, ops[A.length] = ⟨1, 0, ((2 ^ (g + l) : Nat) : Int), 0, 0, 0⟩ := by
    subst hops; intro h; simp
  have htake : ops.take A.length = A := by rw [hops, List.take_left' rfl]
  have w1 : IntKind.i64.wrap (((ops.length : Nat) : Int) - 1) = ((A.length : Nat) : Int) := by rw [i64w, wrap_id (by omega) (by omega)]; omega
  rw [condD_neg (by omega)]
  simp only [w1, Int.toNat_natCast]
  rw [guardD_of (by omega)]
  have sA : Sl G5 eOp pi (0 + Int.toNat 0 * 6) A := by
    have := sO.sub 0 A.length (by omega)
    rw [List.drop_zero, htake] at this
    exact this
  have lt : ∀ {i : Nat}, Nw G3 G4 0 i → i < G5.next := fun h => by
    have h1 := h4.wf.2
    have h2 := h5.nx
    rcases h with h | h | ⟨a, b⟩ <;> omega
  obtain ⟨bi', oi', mi', ai, G6, e6, h6', s6, _⟩ := hodmanref17_All.sp h5.wf okm s5 ⟨by have := h5.wf.2; omega, lt no, lt nm⟩ (po := 0 + Int.toNat 0 * 6) sA (fun o ho => hin o (by rw [← htake] at ho; exact List.mem_of_mem_take ho)) (by omega)
  simp only [newM] at e6
  rw [show A.length - Int.toNat 0 = A.length from rfl, e6]
  clear e6
  rw [show (⟨C, [], 0, 0, 0, tab (C.H / C.Pg).toNat fun _ => false, tab C.H.toNat fun _ => (0 : Int)⟩ : Mod) = newM C from rfl]
  have okA := allM_ok okm A
  rw [← allM_run] at rl
  generalize allM (newM C) A = am at *
  obtain ⟨m, ans⟩ := am
  dsimp only at okA rl s6 h6' ⊢
  obtain ⟨ok1, hc, hbl⟩ := rl
  simp only [q_bs, q_I, q_B, q_P, q_S, q_M, q_c, q_a, q_gz, q_gs, q_gk, q_ct, q_cf, q_nt, q_nf, q_xt, q_xf, q_tt, q_ff, q_tf, q_ft, q_at, q_af, List.length_cons, List.length_nil, if_true]
  have sO6 := sO.keep h6'
  have q0 := sO6.ld A.length 0 (by omega) (by omega)
  have q1 := sO6.ld A.length 1 (by omega) (by omega)
  have q2 := sO6.ld A.length 2 (by omega) (by omega)
  have q3 := sO6.ld A.length 3 (by omega) (by omega)
  have q4 := sO6.ld A.length 4 (by omega) (by omega)
  have q5 := sO6.ld A.length 5 (by omega) (by omega)
  rw [hlast (by omega)] at q0 q1 q2 q3 q4 q5
  rw [guardD_of (by omega)]
  simp only [q0, q1, q2, q3, q4, q5, q_bs, q_I, q_B, q_P, q_S, q_M, q_c, q_a, q_gz, q_gs, q_gk, q_ct, q_cf, q_nt, q_nf, q_xt, q_xf, q_tt, q_ff, q_tf, q_ft, q_at, q_af]
  have okc : m.c.Ok := ok1.c
  rw [hodmanref1_Charge.sp (c := m.c) okc (by unfold R64; omega)]
  have hch : m.c.charge ((2 ^ (g + l) : Nat) : Int) 1 = (((2 ^ (g + l) : Nat) : Int), 0) := by
    unfold Cf.charge; rw [hc]; exact charge_pow tp.ex (Nat.le_refl _)
  rw [hch]
  simp only [q_bs, q_I, q_B, q_P, q_S, q_M, q_c, q_a, q_gz, q_gs, q_gk, q_ct, q_cf, q_nt, q_nf, q_xt, q_xf, q_tt, q_ff, q_tf, q_ft, q_at, q_af]
  have hlen := chSum_len ok1.bl
  have hlive := ok1.live
  have hlim := ok1.lim
  have hcM : m.c.M = C.M := by rw [hc]
  have hcH : m.c.H = C.H := by rw [hc]
  have lok := ok1.bl.ok (by omega)
  rw [hodmanref17_Lowest.sp (c := m.c) s6.bl lok (n := ((2 ^ (g + l) : Nat) : Int)) (by omega) (by omega) (by omega)]
  simp only [q_bs, q_I, q_B, q_P, q_S, q_M, q_c, q_a, q_gz, q_gs, q_gk, q_ct, q_cf, q_nt, q_nf, q_xt, q_xf, q_tt, q_ff, q_tf, q_ft, q_at, q_af]
  have e7 := hodmanref17_Lowest.sp (G := G6) (c := { m.c with H := m.c.H - 1 }) s6.bl lok (n := ((2 ^ (g + l) : Nat) : Int)) (by omega) (by dsimp only; omega) (by omega)
  dsimp only [cfC] at e7
  rw [i64w, wrap_id (a := m.c.H - 1) (by omega) (by omega), e7]
  simp only [q_bs, q_I, q_B, q_P, q_S, q_M, q_c, q_a, q_gz, q_gs, q_gk, q_ct, q_cf, q_nt, q_nf, q_xt, q_xf, q_tt, q_ff, q_tf, q_ft, q_at, q_af]
  have hL0 : tP l u l * (2 + l) = low l u l + (own l u l - 1) + 1 := by
    have := low_own (l := l) (u := u) (k := l); omega
  have hHe : C.H = ((tP l u l * (2 + l) * 2 ^ (g + l) : Nat) : Int) := by
    obtain ⟨e, _, _⟩ := ok.ceil (k := (l : Int)) (by omega) (by omega)
    rw [← tp.ceil (Nat.le_refl l), e, ok.hH, hL]
  have lf := live_fill (g := g) tp.hu (Nat.le_refl l) (own l u l - 1) (by omega)
  rw [show own l u l - (own l u l - 1) = 1 by omega, Nat.one_mul] at lf
  have hfull := tp.full (Nat.le_refl l)
  rw [hL0] at hHe
  generalize low l u l + (own l u l - 1) = n0 at *
  have hs1 : ((n0 + 1) * 2 ^ (g + l) : Nat) = n0 * 2 ^ (g + l) + 2 ^ (g + l) := Nat.succ_mul _ _
  have low1 : lowR m.c.H m.bl ((2 ^ (g + l) : Nat) : Int) = (((n0 * 2 ^ (g + l) : Nat) : Int), true) := by
    have h1 : lowJ m.c.H m.bl ((2 ^ (g + l) : Nat) : Int) = some n0 := by rw [hbl]; exact low_free (by rw [hcH, hHe]; omega)
    unfold lowR; rw [h1, Int.natCast_mul]
  have low2 : lowR (m.c.H - 1) m.bl ((2 ^ (g + l) : Nat) : Int) = (0, false) := by
    have h1 : lowJ m.c.H m.bl ((2 ^ (g + l) : Nat) : Int) = some n0 := by rw [hbl]; exact low_free (by rw [hcH, hHe]; omega)
    obtain ⟨_, _, h3⟩ := (lowJ_some (by omega) (by omega)).1 h1
    have h2 : lowJ (m.c.H - 1) m.bl ((2 ^ (g + l) : Nat) : Int) = none := by
      refine (lowJ_none (by omega) (by omega)).2 fun i hi => h3 i ?_
      rw [hcH, hHe, ← Int.natCast_mul] at hi
      have h4 : i * 2 ^ (g + l) < n0 * 2 ^ (g + l) := by omega
      exact Nat.lt_of_mul_lt_mul_right h4
    unfold lowR; rw [h2]
  rw [low1, low2]
  have hlv : m.live + ((2 ^ (g + l) : Nat) : Int) = C.M := by
    rw [hlive, hbl, chSum_rowB, hfull]; omega
  simp only [i64w, decide_true, q_ct]
  rw [wrap_id (by omega) (by omega), wrap_id (by omega) (by omega), condD_pos (by rw [hcH, hHe]; omega), q_nf, q_ct, decide_eq_true (by rw [hlv, hcM]; exact Int.le_refl _)]
  exact ⟨_, rfl⟩
end Go.Proofs.D.S
