/- Texts of the proof (DInvM, LawTopTight); no condition. -/
import Derived.Test.YtogdeblppihbnaaTopTighti
import Derived.Test.YtogdeblppihbnaaTopTighth
set_option linter.unusedSimpArgs false
set_option linter.unusedVariables false
/- What a heap's figures are bounded by. -/
set_option linter.unusedVariables false
namespace Go.Proofs.D.S
open Go Go.RowKit
theorem cnt_mono : ∀ {a b : List Bool}, a.length = b.length → (∀ i : Nat, a.getD i false = true → b.getD i false = true) → cnt a ≤ cnt b
  | [], [], _, _ => Nat.le_refl _
  | x :: a, y :: b, hl, h => by
    have ih := cnt_mono (a := a) (b := b) (by simpa using hl) fun i hi => by have := h (i + 1); simpa using this (by simpa using hi)
    have h0 := h 0
    simp only [List.getD_cons_zero] at h0
    unfold cnt
    cases x <;> cases y <;> simp_all <;> omega
  | [], _ :: _, hl, _ => by simp at hl
  | _ :: _, [], hl, _ => by simp at hl
/-- Only the first few may be true. -/
theorem cnt_first : ∀ {a : List Bool} {n : Nat}, (∀ i : Nat, a.getD i false = true → i < n) → cnt a ≤ n
  | [], n, _ => Nat.zero_le _
  | x :: a, 0, h => by
    have h0 := h 0
    have hx : x = false := by cases x with
      | false => rfl
      | true => exact absurd (h0 rfl) (by omega)
    have := cnt_first (a := a) (n := 0) fun i hi => absurd (h (i + 1) (by simpa using hi)) (by omega)
    subst hx
    unfold cnt; simp; omega
  | x :: a, n + 1, h => by
    have := cnt_first (a := a) (n := n) fun i hi => by have := h (i + 1) (by simpa using hi); omega
    unfold cnt
    cases x <;> simp <;> omega
structure Fig (m : Mod) (B : Int) : Prop where
  lp : m.live ≤ m.peak
  pM : m.peak ≤ m.c.M
  mar : m.mark ≤ B
  pg : ∀ i : Nat, m.on.getD i false = true → ((i : Int) + 1) * m.c.Pg ≤ B
  cp : (cnt m.on : Int) ≤ m.c.P
theorem Fig.mono {m : Mod} {B B' : Int} (h : Fig m B) (hB : B ≤ B') : Fig m B' := ⟨h.lp, h.pM, Int.le_trans h.mar hB, fun i hi => Int.le_trans (h.pg i hi) hB, h.cp⟩
theorem tab_false {n i : Nat} {f : Nat → Bool} (h : (tab n f).getD i false = true) : i < n ∧ f i = true := by
  by_cases hi : i < n
  · rw [tab_getD _ hi] at h; exact ⟨hi, h⟩
  · rw [List.getD_eq_getElem?_getD, List.getElem?_eq_none (by rw [tab_len]; omega)] at h; cases h
/-- Ceilings are of whole pages. -/
theorem Cf.Ok.ceilPg {c : Cf} (h : c.Ok) {k : Int} (h0 : 0 ≤ k) (h1 : k ≤ c.L) : ∃ x : Int, c.ceil k = x * c.Pg := by
  have e := (h.ceil h0 h1).1
  obtain ⟨⟨g, l, p, q, e1, e2, e3, e4, e5, e6, e7, e8, e9⟩, _⟩ := h
  have z : 2 ^ max (g + l) p = 2 ^ (max (g + l) p - p) * 2 ^ p := by rw [← Nat.pow_add]; congr 1; omega
  have m2 : c.M / 2 = ((q * 2 ^ max (g + l) p : Nat) : Int) := by
    rw [e7, Nat.pow_succ, ← Nat.mul_assoc]; omega
  have hM : c.M = 2 * (c.M / 2) := by rw [e7, Nat.pow_succ, ← Nat.mul_assoc]; omega
  refine ⟨(2 + k) * ((q * 2 ^ (max (g + l) p - p) : Nat) : Int), ?_⟩
  have : c.ceil k = (2 + k) * (c.M / 2) := by rw [e, Int.add_mul]; omega
  rw [this, m2, z, e4, ← Nat.mul_assoc]
  push_cast
  simp only [Int.mul_assoc]
/-- What is on behind a commit. -/
theorem commitP_on {on met on' : List Bool} {f b mx : Int} {fr : List Int} (hl : met.length = on.length) (h : commitP on met f b mx = some (on', fr)) :
    (cnt on' : Int) ≤ mx ∧ ∀ i : Nat, on'.getD i false = true → on.getD i false = true ∨ (f ≤ (i : Int) ∧ (i : Int) < b) := by
  have hall : ∀ i : Nat, (allP on f b).getD i false = true → on.getD i false = true ∨ (f ≤ (i : Int) ∧ (i : Int) < b) := by
    intro i hi
    unfold allP at hi
    obtain ⟨_, h2⟩ := tab_false hi
    rcases Bool.or_eq_true_iff.1 h2 with h3 | h3
    · exact .inl h3
    · unfold these at h3
      simp only [Bool.and_eq_true, decide_eq_true_eq] at h3
      exact .inr ⟨by omega, by omega⟩
  unfold commitP at h
  split at h
  · cases h
  · rename_i hn
    simp only [Option.some.injEq, Prod.mk.injEq] at h
    obtain ⟨rfl, _⟩ := h
    by_cases hc : (cnt (allP on f b) : Int) > mx
    · rw [if_pos hc]
      constructor
      · have : cnt (tab on.length fun i => (allP on f b).getD i false && (needP met f b).getD i false) ≤ cnt (needP met f b) := by
          refine cnt_mono (by unfold needP; rw [tab_len, tab_len, hl]) fun i hi => ?_
          obtain ⟨_, h2⟩ := tab_false hi
          exact (Bool.and_eq_true_iff.1 h2).2
        omega
      · intro i hi
        obtain ⟨_, h2⟩ := tab_false hi
        exact hall i (Bool.and_eq_true_iff.1 h2).1
    · rw [if_neg hc]
      exact ⟨by omega, hall⟩
section
variable {g l u : Nat}
theorem placeM_fig {m : Mod} {B : Int} (tp : m.c.Tp g l u) (ok : m.Ok) (fg : Fig m B) {bl : List Blk} (hb : ∀ b ∈ bl, Bin g l u b) {k : Nat} (hk : k ≤ l) (hs : chSum bl + ((2 ^ (g + k) : Nat) : Int) ≤ m.c.M) {asked : Int} (hB : m.c.ceil (k : Int) ≤ B)
    (h : (placeM m bl ((2 ^ (g + k) : Nat) : Int) asked).2.2 = 0) : Fig (placeM m bl ((2 ^ (g + k) : Nat) : Int) asked).1 B := by
  have z := Nat.two_pow_pos (g + k)
  have f := ok.c.facts
  obtain ⟨j, hj1, hj2, _⟩ := room tp hk hb hs
  rcases placeM_cases m bl (n := ((2 ^ (g + k) : Nat) : Int)) (asked := asked) (by omega) (by omega) with ⟨_, e⟩ | e | ⟨j', on', fr, h1, h2, h3, h4, ho, hc, e⟩
  · rw [e] at h; exact absurd h (by show ¬ (7 : Int) = 0; decide)
  · rw [e] at h; exact absurd h (by show ¬ (6 : Int) = 0; decide)
  · rw [hj1] at h1
    cases h1
    rw [e]
    have hend : (j : Int) * ((2 ^ (g + k) : Nat) : Int) + ((2 ^ (g + k) : Nat) : Int) ≤ m.c.ceil (k : Int) := by
      rw [tp.ceil hk, ← Int.natCast_mul, ← Int.natCast_add, Int.ofNat_le]
      have : (j + 1) * 2 ^ (g + k) ≤ tP l u k * (2 + k) * 2 ^ (g + k) := Nat.mul_le_mul_right _ hj2
      rw [Nat.add_mul, Nat.one_mul] at this
      exact this
    have hcs := chSum_put ⟨(j : Int) * ((2 ^ (g + k) : Nat) : Int), ((2 ^ (g + k) : Nat) : Int), asked⟩ bl
    dsimp only at hcs
    have hpM := fg.pM
    have hmk := fg.mar
    obtain ⟨c1, c2⟩ := commitP_on (by unfold metP; rw [tab_len]) hc
    refine ⟨?_, ?_, ?_, fun i hi => ?_, c1⟩
    · show chSum _ ≤ max m.peak (chSum _); omega
    · show max m.peak (chSum _) ≤ m.c.M; omega
    · show max m.mark _ ≤ B; omega
    · rcases c2 i hi with h5 | ⟨h5, h6⟩
      · exact fg.pg i h5
      · obtain ⟨x, hx⟩ := ok.c.ceilPg (k := (k : Int)) (by omega) (by rw [tp.ex.hL]; omega)
        show ((i : Int) + 1) * m.c.Pg ≤ B
        unfold pagesP at h6
        rw [if_neg (by omega)] at h6
        dsimp only at h6
        have h7 : (i : Int) ≤ ((j : Int) * ((2 ^ (g + k) : Nat) : Int) + ((2 ^ (g + k) : Nat) : Int) - 1) / m.c.Pg := by omega
        have h8 := (Int.le_ediv_iff_mul_le (show 0 < m.c.Pg by omega)).1 h7
        have h9 : (i : Int) * m.c.Pg < x * m.c.Pg := by rw [← hx]; omega
        have h10 := Int.lt_of_mul_lt_mul_right h9 (by omega)
        have h11 : ((i : Int) + 1) * m.c.Pg ≤ x * m.c.Pg := Int.mul_le_mul_of_nonneg_right (by omega) (by omega)
        omega
/-- Figures stay bounded. -/
theorem doM_fig {m : Mod} {B : Int} (tp : m.c.Tp g l u) (ok : m.Ok) (hb : ∀ b ∈ m.bl, Bin g l u b) (fg : Fig m B) (o : OpV) (hB : ∀ k : Nat, k ≤ l → (∃ b ∈ (doM m o).1.bl, b.ch = ((2 ^ (g + k) : Nat) : Int)) → m.c.ceil (k : Int) ≤ B) : Fig (doM m o).1 B := by
  have f := ok.c.facts
  have here : ∀ (bl : List Blk), (∀ b ∈ bl, Bin g l u b) → ∀ (k : Nat) (asked : Int), k ≤ l → chSum bl + ((2 ^ (g + k) : Nat) : Int) ≤ m.c.M → (placeM m bl ((2 ^ (g + k) : Nat) : Int) asked).2.2 = 0 → ∃ b ∈ (placeM m bl ((2 ^ (g + k) : Nat) : Int) asked).1.bl, b.ch = ((2 ^ (g + k) : Nat) : Int) := by
    intro bl hbl k asked hk hs h
    have z := Nat.two_pow_pos (g + k)
    rcases placeM_cases m bl (n := ((2 ^ (g + k) : Nat) : Int)) (asked := asked) (by omega) (by omega) with ⟨_, e⟩ | e | ⟨j', on', fr, h1, h2, h3, h4, ho, hc, e⟩
    · rw [e] at h; exact absurd h (by show ¬ (7 : Int) = 0; decide)
    · rw [e] at h; exact absurd h (by show ¬ (6 : Int) = 0; decide)
    · rw [e]; exact ⟨_, (putB_mem _ _ _).2 (.inl rfl), rfl⟩
  by_cases he : (doM m o).2.err ≠ 0
  · rw [doM_fail m o he]; exact fg
  have he : (doM m o).2.err = 0 := by omega
  unfold doM at hB he ⊢
  by_cases h1 : o.k = 1 ∨ o.k = 2 ∨ o.k = 3
  · rw [if_pos h1] at hB he ⊢
    unfold giveM at hB he ⊢
    dsimp only at hB he ⊢
    have hr : ((if o.k = 2 then manyS m.c.G m.c.N m.c.M m.live o.n o.s else newS m.c.G m.c.N m.c.M m.live o.s (if o.k = 3 then o.a else 1)).2 ≠ 0 ∧ (if o.k = 2 then manyS m.c.G m.c.N m.c.M m.live o.n o.s else newS m.c.G m.c.N m.c.M m.live o.s (if o.k = 3 then o.a else 1)).1 = 0) ∨ ((if o.k = 2 then manyS m.c.G m.c.N m.c.M m.live o.n o.s else newS m.c.G m.c.N m.c.M m.live o.s (if o.k = 3 then o.a else 1)).2 = 0 ∧ m.live + (if o.k = 2 then manyS m.c.G m.c.N m.c.M m.live o.n o.s else newS m.c.G m.c.N m.c.M m.live o.s (if o.k = 3 then o.a else 1)).1 ≤ m.c.M ∧ ∃ k : Nat, k ≤ l ∧ (if o.k = 2 then manyS m.c.G m.c.N m.c.M m.live o.n o.s else newS m.c.G m.c.N m.c.M m.live o.s (if o.k = 3 then o.a else 1)).1 = ((2 ^ (g + k) : Nat) : Int)) := by
      by_cases h2 : o.k = 2
      · simp only [if_pos h2]; exact charge_many tp.ex _ _ _
      · simp only [if_neg h2]; exact charge_new tp.ex _ _ _
    generalize (if o.k = 2 then manyS m.c.G m.c.N m.c.M m.live o.n o.s else newS m.c.G m.c.N m.c.M m.live o.s (if o.k = 3 then o.a else 1)) = r at *
    generalize (if o.k = 2 then wrap64 (o.n * o.s) else o.s) = s at *
    rcases hr with ⟨h2, _⟩ | ⟨h2, h3, k, hk, h4⟩
    · rw [if_neg h2] at he; exact absurd he h2
    · rw [if_pos h2, h4] at hB he ⊢
      rw [ok.live, h4] at h3
      by_cases hq : (placeM m m.bl ((2 ^ (g + k) : Nat) : Int) s).2.2 = 0
      · rw [if_pos hq] at hB he ⊢
        have hbl := here m.bl hb k s hk h3 hq
        have fgp := placeM_fig tp ok fg hb hk h3 (asked := s) (hB k hk (by
          dsimp only
          by_cases h2 : o.k = 2
          · rw [if_pos h2]; exact hbl
          · rw [if_neg h2]; exact hbl)) hq
        by_cases h2 : o.k = 2
        · simp only [if_pos h2]; exact ⟨fgp.lp, fgp.pM, fgp.mar, fgp.pg, fgp.cp⟩
        · simp only [if_neg h2]; exact fgp
      · rw [if_neg hq] at he; exact absurd he hq
  · rw [if_neg h1] at hB he ⊢
    by_cases h9 : o.k = 9
    · rw [if_pos h9]
      refine ⟨fg.lp, fg.pM, fg.mar, fun i hi => ?_, ?_⟩
      · obtain ⟨_, h2⟩ := tab_false hi
        exact fg.pg i (Bool.and_eq_true_iff.1 h2).1
      · have : cnt (trimP m.on (metP m.c.Pg m.on.length m.bl)) ≤ cnt m.on := cnt_mono (by unfold trimP; rw [tab_len]) fun i hi => by
          obtain ⟨_, h2⟩ := tab_false hi
          exact (Bool.and_eq_true_iff.1 h2).1
        have h2 := fg.cp
        show (cnt (trimP m.on (metP m.c.Pg m.on.length m.bl)) : Int) ≤ m.c.P
        omega
    · rw [if_neg h9] at hB he ⊢
      by_cases h10 : o.k = 10
      · rw [if_pos h10]; exact fg
      · rw [if_neg h10] at hB he ⊢
        by_cases h48 : o.k = 4 ∨ o.k = 5 ∨ o.k = 6 ∨ o.k = 7 ∨ o.k = 8
        · rw [if_pos h48] at hB he ⊢
          cases hf : findB m.bl o.p with
          | none => dsimp only; exact fg
          | some A =>
            rw [hf] at hB he
            obtain ⟨hA, _⟩ := findB_lt hf
            dsimp only at hB he ⊢
            rw [getD_lt _ hA] at hB he ⊢
            have hrest := chSum_rest hA
            have hbr : ∀ b ∈ m.bl.take A ++ m.bl.drop (A + 1), Bin g l u b := by
              intro b h
              rcases List.mem_append.1 h with h | h
              · exact hb b (List.mem_of_mem_take h)
              · exact hb b (List.mem_of_mem_drop h)
            have hl := ok.live
            have hc1 := (ok.bl _ (List.getElem_mem hA)).2.1
            unfold ofM at hB he ⊢
            dsimp only at hB he ⊢
            by_cases h4 : o.k = 4
            · rw [if_pos h4] at hB he ⊢
              have cr := charge_new tp.ex (m.live - m.bl[A].ch) o.s 1
              generalize newS m.c.G m.c.N m.c.M (m.live - m.bl[A].ch) o.s 1 = r at *
              rcases cr with ⟨h2, _⟩ | ⟨h2, h3, k, hk, h5⟩
              · rw [if_neg h2] at he; exact absurd he h2
              · rw [if_pos h2, h5] at hB he ⊢
                rw [h5] at h3
                by_cases hq : (placeM m (m.bl.take A ++ m.bl.drop (A + 1)) ((2 ^ (g + k) : Nat) : Int) o.s).2.2 = 0
                · rw [if_pos hq] at hB he ⊢
                  have hbl := here _ hbr k o.s hk (by omega) hq
                  have fgp := placeM_fig tp ok fg hbr hk (by omega) (asked := o.s) (hB k hk hbl) hq
                  exact ⟨fgp.lp, fgp.pM, fgp.mar, fgp.pg, fgp.cp⟩
                · rw [if_neg hq] at he; exact absurd he hq
            · rw [if_neg h4]
              by_cases h5 : o.k = 5
              · rw [if_pos h5]
                have h6 := fg.lp
                exact ⟨by dsimp only; omega, fg.pM, fg.mar, fg.pg, fg.cp⟩
              · rw [if_neg h5]
                split
                · exact fg
                · split
                  · exact fg
                  · split
                    · exact fg
                    · exact ⟨fg.lp, fg.pM, fg.mar, fg.pg, fg.cp⟩
        · rw [if_neg h48]; exact fg
theorem fig_new {c : Cf} (ok : c.Ok) {B : Int} (hB : 0 ≤ B) : Fig (newM c) B := by
  have f := ok.facts
  refine ⟨Int.le_refl _, by show (0 : Int) ≤ c.M; omega, hB, fun i hi => ?_, ?_⟩
  · obtain ⟨_, h2⟩ := tab_false hi
    cases h2
  · have : cnt (tab (c.H / c.Pg).toNat fun _ => false) ≤ 0 := cnt_first fun i hi => by
      obtain ⟨_, h2⟩ := tab_false hi
      cases h2
    show (cnt (tab (c.H / c.Pg).toNat fun _ => false) : Int) ≤ c.P
    omega
end
end Go.Proofs.D.S
/- TopTight: whatever the numbers, the law answers yes. -/
set_option linter.unusedVariables false
set_option linter.unusedSimpArgs false
namespace Go.Proofs.D.S
open Go Go.RowKit
theorem hodmantop_TopTight.law {G : GH} (hG : Beg G) {id : Nat} {xs : List Int} (hs : Sl G eU8 id 0 xs) (hb : Bytes xs) : OkT (CW hodmantop_TopTight.id [.c (.sl 1 id 0 xs.length)] G) := by
  obtain ⟨G1, e1, f1⟩ := hodmantop_begun.sp hG
  rw [hodmantop_TopTight.cw]
  unfold hodmantop_TopTight.f
  simp only [e1, q_bs, q_I, q_B, q_P, q_S, q_M, q_c, q_a, q_gz, q_gs, q_gk, q_ct, q_cf, q_nt, q_nf, q_xt, q_xf, q_tt, q_ff, q_tf, q_ft, q_at, q_af]
  by_cases h6 : (xs.length : Int) > 6
  · rw [condD_pos h6]; exact ⟨_, rfl⟩
  rw [condD_neg h6]
  have h0 := Hp.refl f1.wf
  have p0 : PkOk G1 [] id 0 xs.length xs := ⟨.old (f1.sl _ _ _ _ hs), hb, rfl, by omega⟩
  obtain ⟨pid, G2, e2, h2⟩ := hodmanplay_Made.sp h0 id 0 xs.length
  obtain ⟨r, j, G3, e3, h3, rok, _, _⟩ := hodmanplay_Picks_Raw.sp h2 p0 (by omega) (by omega) true
  simp only [e2, e3, q_bs, q_I, q_B, q_P, q_S, q_M, q_c, q_a, q_gz, q_gs, q_gk, q_ct, q_cf, q_nt, q_nf, q_xt, q_xf, q_tt, q_ff, q_tf, q_ft, q_at, q_af, List.length_cons, List.length_nil, if_true]
  obtain ⟨g0, c0, q0, sm⟩ := rok.cfSmall
  have hof := rok.ofC
  have hw := h3.wf
  clear e1 e2 e3 h3 h2 p0 h0
  have ok := sm.ok
  have hP0 := sm.s.hP.1 rfl
  have hH2 := sm.s.hH2
  obtain ⟨hid, s0, g, l, u, G4, e4, h4, hm4, _⟩ := heap_New.sp hw (r := r) (by rw [hof])
  rw [hof] at hm4
  simp only [rwC] at e4
  rw [e4]
  clear e4 sm rok hof
  generalize cfOf r = C at *
  have tp : C.Tp g l u := hm4.tp
  have hid0 := hm4.raw.h0
  simp only [q_bs, q_I, q_B, q_P, q_S, q_M, q_c, q_a, q_gz, q_gs, q_gk, q_ct, q_cf, q_nt, q_nf, q_xt, q_xf, q_tt, q_ff, q_tf, q_ft, q_at, q_af, List.length_cons, List.length_nil, if_true, decide_true]
  have J0 : OkT (hodmantop_TopTight.J22 machW CW hid 0 false G4) := by
    rw [hodmantop_TopTight.J22_eq, q_cf, heap_Heap_Conf.sp hm4.raw]
    have hc4 : s0.c = C := hm4.eq.c.symm
    rw [hc4]
    simp only [cfC, q_bs, q_I, q_B, q_P, q_S, q_M, q_c, q_a, q_gz, q_gs, q_gk, q_ct, q_cf, q_nt, q_nf, q_xt, q_xf, q_tt, q_ff, q_tf, q_ft, q_at, q_af, List.length_cons, List.length_nil, if_true]
    obtain ⟨pi, G5, e5, h5⟩ := tight_Script.sp tp h4.wf
    obtain ⟨ti, G6, e6, h6'⟩ := tight_Stages.sp tp h5.wf
    simp only [cfC] at e5 e6
    have hsl := stTo_len (g := g) (l := l) (u := u) (l + 1)
    have hol := opsTo_len tp (l + 1) (by omega)
    have hL := tp.ex.hL
    have hgl := tp.ex.hgl
    have fs := ok.facts
    have z := Nat.two_pow_pos g
    rw [e5]
    simp only [q_bs, q_I, q_B, q_P, q_S, q_M, q_c, q_a, q_gz, q_gs, q_gk, q_ct, q_cf, q_nt, q_nf, q_xt, q_xf, q_tt, q_ff, q_tf, q_ft, q_at, q_af]
    rw [e6]
    simp only [q_bs, q_I, q_B, q_P, q_S, q_M, q_c, q_a, q_gz, q_gs, q_gk, q_ct, q_cf, q_nt, q_nf, q_xt, q_xf, q_tt, q_ff, q_tf, q_ft, q_at, q_af, hsl]
    have hm5 := hm4.keep h5
    have hm6 := hm5.keep h6'
    have sO : Sx (s0.X hid) G6 eOp pi 0 (opsTo g l u (l + 1)) := (h5.sx (List.mem_cons_self ..) hm4.raw.ids).keep h6'
    have sT : Sx (s0.X hid) G6 eI ti 0 (stTo g l u (l + 1)) := h6'.sx (List.mem_cons_self ..) hm5.raw.ids
    have w6 := h6'.wf
    have hceil0 : C.ceil (l : Int) = C.H := by
      obtain ⟨e, _, _⟩ := ok.ceil (k := (l : Int)) (by omega) (by omega)
      rw [e, ok.hH, hL]
    generalize hX : s0.X hid = X at *
    generalize hops : opsTo g l u (l + 1) = ops at *
    generalize hst : stTo g l u (l + 1) = st at *
    have ol : ops.length ≤ 1000000000 := by omega
    have cl : ∀ k : Nat, k ≤ l → C.ceil (k : Int) ≤ C.H := fun k hk => (ok.ceil (k := (k : Int)) (by omega) (by omega)).2.1
    -- one step
    have step : ∀ (k i : Nat) (o : OpV) (m : Mod) (s : HS) (G7 : GH), FrX X G6 G7 → ops[i]? = some o → HM G7 hid s g l u m → s.X hid = X → m.c = C → Fig m C.H → (doM m o).2.err = 0 → R64 o.s → R64 o.a → R64 o.n → k ≤ l + 1 →
        (∀ (s' : HS) (G8 : GH), HM G8 hid s' g l u (doM m o).1 → s'.X hid = X → FrX X G6 G8 → (doM m o).1.c = C → Fig (doM m o).1 C.H →
          ∃ k' : Nat, OkT (hodmantop_TopTight.L60 machW CW hid 0 pi 0 ops.length ti 0 (l + 1) (k' : Int) ((i + 1 : Nat) : Int) C.G C.N C.M C.L C.Pg C.P C.H C.Sd G8) ∧
            ((k' = k ∧ ∀ e, st[k]? = some e → e ≠ (i : Int) + 1) ∨ (k' = k + 1 ∧ k ≤ l ∧ st[k]? = some ((i : Int) + 1) ∧ (doM m o).1.mark = C.ceil (k : Int) ∧ (doM m o).1.live = C.M))) →
        OkT (hodmantop_TopTight.L60 machW CW hid 0 pi 0 ops.length ti 0 (l + 1) (k : Int) (i : Int) C.G C.N C.M C.L C.Pg C.P C.H C.Sd G7) := by
      intro k i o m s G7 fr hio hm hsX hc fg herr rs ra rn hk cont
      obtain ⟨hi, hio2⟩ := List.getElem?_eq_some_iff.1 hio
      have zi : decide (0 ≤ (i : Int) ∧ (i : Int) < ((ops.length : Nat) : Int)) = true := decide_eq_true (by omega)
      have s7 := (sO.fr fr w6).1
      obtain ⟨G8, s', e8, hm8, f8, x8⟩ := heap_Heap_Do.sp hm o rs ra rn
      rw [hsX] at f8 x8
      have tpm : m.c.Tp g l u := by rw [hc]; exact tp
      obtain ⟨okd, hcd⟩ := doM_ok hm.ok o
      have fg8 : Fig (doM m o).1 C.H := doM_fig tpm hm.ok hm.bl.bin fg o fun k hk _ => by rw [hc]; exact cl k hk
      have hc8 := hcd.trans hc
      obtain ⟨k', hok, alt⟩ := cont s' G8 hm8 x8 (fr.trans f8) hc8 fg8
      have q0 := s7.ld i 0 hi (by omega)
      have q1 := s7.ld i 1 hi (by omega)
      have q2 := s7.ld i 2 hi (by omega)
      have q3 := s7.ld i 3 hi (by omega)
      have q4 := s7.ld i 4 hi (by omega)
      have q5 := s7.ld i 5 hi (by omega)
      rw [hio2] at q0 q1 q2 q3 q4 q5
      rw [hodmantop_TopTight.L60_eq, condD_pos (by omega), zi, q_gk]
      simp only [Int.toNat_natCast, q0, q1, q2, q3, q4, q5, q_bs, q_I, q_B, q_P, q_S, q_M, q_c, q_a, q_gz, q_gs, q_gk, q_ct, q_cf, q_nt, q_nf, q_xt, q_xf, q_tt, q_ff, q_tf, q_ft, q_at, q_af]
      rw [e8]
      simp only [q_bs, q_I, q_B, q_P, q_S, q_M, q_c, q_a, q_gz, q_gs, q_gk, q_ct, q_cf, q_nt, q_nf, q_xt, q_xf, q_tt, q_ff, q_tf, q_ft, q_at, q_af, List.length_cons, List.length_nil, if_true]
      rw [condN_neg herr]
      have sT8 := (sT.fr (fr.trans f8) w6).1
      have nof : OkT (hodmantop_TopTight.L60 machW CW hid 0 pi 0 ops.length ti 0 (l + 1) (k : Int) ((i + 1 : Nat) : Int) C.G C.N C.M C.L C.Pg C.P C.H C.Sd G8) → OkT (hodmantop_TopTight.J53 machW CW hid 0 pi 0 ops.length ti 0 (l + 1) (k : Int) (i : Int) false C.G C.N C.M C.L C.Pg C.P C.H C.Sd G8) := by
        intro h
        rw [hodmantop_TopTight.J53_eq, q_cf, hodmantop_TopTight.J57_eq, i64w, wrap_id (by omega) (by omega)]
        exact h
      by_cases hkl : (k : Int) < ((l + 1 : Nat) : Int)
      · have hk2 : k < st.length := by omega
        have rd := sT8.ld k 0 hk2 (by omega)
        rw [Nat.add_zero] at rd
        rw [condD_pos hkl, guardD_of (by omega)]
        simp only [Int.toNat_natCast, rd, q_bs, q_I, q_B, q_P, q_S, q_M, q_c, q_a, q_gz, q_gs, q_gk, q_ct, q_cf, q_nt, q_nf, q_xt, q_xf, q_tt, q_ff, q_tf, q_ft, q_at, q_af, i64w, wrap_id (a := (i : Int) + 1) (by omega) (by omega)]
        rcases alt with ⟨rfl, hne⟩ | ⟨rfl, hkl2, he, hmk, hlv⟩
        · rw [decide_eq_false (hne _ (List.getElem?_eq_getElem hk2))]
          exact nof hok
        · have he2 := (List.getElem?_eq_some_iff.1 he).2
          rw [he2, decide_eq_true (show (i : Int) + 1 = (i : Int) + 1 from rfl), hodmantop_TopTight.J53_eq, q_ct]
          have fgr := heap_Heap_Do.figures hm8.raw (by have := hm8.cf.onl; omega) (p := 0) (sz := 0) (a := 0) (n := 0) (b := 0)
          have cs := conf_Ceil.sp (G := G8) ok (k : Int)
          rw [cfC] at cs
          rw [fgr]
          simp only [q_bs, q_I, q_B, q_P, q_S, q_M, q_c, q_a, q_gz, q_gs, q_gk, q_ct, q_cf, q_nt, q_nf, q_xt, q_xf, q_tt, q_ff, q_tf, q_ft, q_at, q_af, List.length_cons, List.length_nil, if_true]
          rw [cs]
          simp only [q_bs, q_I, q_B, q_P, q_S, q_M, q_c, q_a, q_gz, q_gs, q_gk, q_ct, q_cf, q_nt, q_nf, q_xt, q_xf, q_tt, q_ff, q_tf, q_ft, q_at, q_af]
          have h1 := fg8.lp
          have h2 := fg8.pM
          rw [hlv] at h1
          rw [hc8] at h2
          rw [condN_neg (by rw [← hm8.eq.mark, hmk]), condN_neg (by rw [← hm8.live, hlv]), decide_eq_true (show s'.peak = C.M by rw [← hm8.eq.peak]; omega), q_nt, hodmantop_TopTight.J47_eq, q_cf, hodmantop_TopTight.J57_eq, i64w, wrap_id (by omega) (by omega), i64w, wrap_id (by omega) (by omega)]
          exact hok
      · rw [condD_neg hkl]
        rcases alt with ⟨rfl, _⟩ | ⟨_, hkl2, _⟩
        · exact nof hok
        · omega
    have opl : ∀ k, k ≤ l → (opsTo g l u (k + 1)).length = (opsTo g l u k).length + tP l u k * (2 + k) := fun k _ => opsTo_succ_len k
    have oplt : ∀ k n, k ≤ l → n < tP l u k * (2 + k) → ∀ o : OpV, ops[(opsTo g l u k).length + n]? = some o → (opsTo g l u k).length + n < ops.length := fun k n _ _ o h => (List.getElem?_eq_some_iff.1 h).1
    have pages : ∀ m : Mod, m.Ok → m.c = C → (m.on.length : Int) ≤ m.c.P := by
      intro m okk hc
      have h1 := okk.on
      have h2 : (m.on.length : Int) * 1 ≤ (m.on.length : Int) * m.c.Pg := Int.mul_le_mul_of_nonneg_left (by rw [hc]; omega) (by omega)
      rw [hc] at h1 h2 ⊢
      omega
    have main : ∀ (d k : Nat), k + d = l + 1 → ∀ (m : Mod) (s : HS) (G7 : GH), FrX X G6 G7 → HM G7 hid s g l u m → s.X hid = X → m.c = C → Fig m C.H → m.bl = atB g l u k → m.mark = mkC C k →
        OkT (hodmantop_TopTight.L60 machW CW hid 0 pi 0 ops.length ti 0 (l + 1) (k : Int) (((opsTo g l u k).length : Nat) : Int) C.G C.N C.M C.L C.Pg C.P C.H C.Sd G7) := by
      intro d
      induction d with
      | zero =>
        intro k hk m s G7 fr hm hsX hc fg hbl hmk
        obtain rfl : k = l + 1 := by omega
        rw [hodmantop_TopTight.L60_eq, hops, condD_neg (by omega), i64w, wrap_id (by omega) (by omega), condD_pos (by omega)]
        have fgr := heap_Heap_Do.figures hm.raw (by have := hm.cf.onl; omega) (p := 0) (sz := 0) (a := 0) (n := 0) (b := 0)
        rw [fgr]
        simp only [q_bs, q_I, q_B, q_P, q_S, q_M, q_c, q_a, q_gz, q_gs, q_gk, q_ct, q_cf, q_nt, q_nf, q_xt, q_xf, q_tt, q_ff, q_tf, q_ft, q_at, q_af, List.length_cons, List.length_nil, if_true]
        have : s.mark = C.H := by
          rw [← hm.eq.mark, hmk]
          unfold mkC
          rw [if_neg (by omega), show ((l + 1 : Nat) : Int) - 1 = (l : Int) by omega, hceil0]
        rw [decide_eq_true this]
        exact ⟨_, rfl⟩
      | succ d ih =>
        intro k hk m s G7 fr hm hsX hc fg hbl hmk
        have hkl : k ≤ l := by omega
        have lo := low_own (l := l) (u := u) (k := k)
        obtain ⟨mk0, mk1, mk2⟩ := mkC_le tp hkl
        have zk := Nat.two_pow_pos (g + k)
        have y := pow16 (e := g + k) (by omega)
        have z3 : 2 ^ (g + k) ≤ 2 ^ (g + l) := Nat.pow_le_pow_right (by decide) (by omega)
        have hN := tp.ex.hN
        have R : ∀ {x : Int}, 0 ≤ x → x ≤ 65536 → R64 x := fun a b => by unfold R64; omega
        have hstk : st[k]? = some (((opsTo g l u (k + 1)).length : Nat) : Int) := by rw [← hst]; exact stTo_get (l + 1) k (by omega)
        have hfull := tp.full hkl
        -- the fills
        have fills : ∀ (d n : Nat), n + d = tP l u k * (2 + k) → 0 < d → low l u k ≤ n → ∀ (m : Mod) (s : HS) (G7 : GH), FrX X G6 G7 → HM G7 hid s g l u m → s.X hid = X → m.c = C → Fig m C.H → m.bl = rowB g l u k n → m.mark = max (mkC C k) ((n * 2 ^ (g + k) : Nat) : Int) →
            OkT (hodmantop_TopTight.L60 machW CW hid 0 pi 0 ops.length ti 0 (l + 1) (k : Int) ((((opsTo g l u k).length + n : Nat)) : Int) C.G C.N C.M C.L C.Pg C.P C.H C.Sd G7) := by
          intro d
          induction d with
          | zero => intro n _ h0; omega
          | succ d ihd =>
            intro n hn _ hlow m s G7 fr hm hsX hc fg hbl hmk
            have hnt : n < tP l u k * (2 + k) := by omega
            have hop := opsTo_fill (g := g) hkl hlow hnt
            rw [hops] at hop
            have hi := oplt k n hkl hnt _ hop
            have lf := live_fill (g := g) tp.hu hkl (n - low l u k) (by omega)
            have lf2 := live_fill (g := g) tp.hu hkl (n + 1 - low l u k) (by omega)
            rw [show low l u k + (n - low l u k) = n by omega] at lf
            rw [show low l u k + (n + 1 - low l u k) = n + 1 by omega] at lf2
            have e2 : (own l u k - (n - low l u k)) * 2 ^ (g + k) = (own l u k - (n + 1 - low l u k)) * 2 ^ (g + k) + 2 ^ (g + k) := by
              rw [show own l u k - (n - low l u k) = (own l u k - (n + 1 - low l u k)) + 1 by omega, Nat.succ_mul]
            have hlv := hm.ok.live
            rw [hbl, chSum_rowB] at hlv
            have tpm : m.c.Tp g l u := by rw [hc]; exact tp
            obtain ⟨f1, f2, f3⟩ := fill_step tpm hm.ok (pages m hm.ok hc) hkl hlow hnt hbl (by rw [hlv, hc, hfull]; omega)
            obtain ⟨okd, hcd⟩ := doM_ok hm.ok ⟨1, 0, ((2 ^ (g + k) : Nat) : Int), 0, 0, 0⟩
            refine step k _ _ m s G7 fr hop hm hsX hc fg f1 (R (by dsimp only; omega) (by dsimp only; omega)) (R (by dsimp only; omega) (by dsimp only; omega)) (R (by dsimp only; omega) (by dsimp only; omega)) (by omega) fun s' G8 hm8 x8 fr8 hc8 fg8 => ?_
            generalize doM m ⟨1, 0, ((2 ^ (g + k) : Nat) : Int), 0, 0, 0⟩ = dm at *
            have mkn : dm.1.mark = max (mkC C k) (((n + 1) * 2 ^ (g + k) : Nat) : Int) := by
              have : n * 2 ^ (g + k) ≤ (n + 1) * 2 ^ (g + k) := Nat.mul_le_mul_right _ (by omega)
              rw [f3, hmk]; omega
            by_cases hlast : n + 1 < tP l u k * (2 + k)
            · refine ⟨k, ?_, .inl ⟨rfl, fun e he => ?_⟩⟩
              · rw [Nat.add_assoc]
                exact ihd (n + 1) (by omega) (by omega) (by omega) dm.1 s' G8 fr8 hm8 x8 hc8 fg8 f2 mkn
              · rw [hstk] at he
                have := opl k hkl
                cases he; omega
            · have hlast : n + 1 = tP l u k * (2 + k) := by omega
              have ho := opl k hkl
              have mkc : dm.1.mark = C.ceil (k : Int) := by
                rw [mkn, hlast, ← tp.ceil hkl]; omega
              have lvd := okd.live
              rw [f2, chSum_rowB] at lvd
              have lvM : dm.1.live = C.M := by
                rw [show own l u k - (n + 1 - low l u k) = 0 by omega, Nat.zero_mul, Nat.add_zero] at lf2
                rw [lvd, hfull, ← lf2]
              refine ⟨k + 1, ?_, .inr ⟨rfl, hkl, by rw [hstk, ho]; congr 1; omega, mkc, lvM⟩⟩
              have := ih (k + 1) (by omega) dm.1 s' G8 fr8 hm8 x8 hc8 fg8 (by rw [f2, hlast]; rfl) (by rw [mkc]; unfold mkC; rw [if_neg (by omega)]; congr 1; omega)
              rw [ho] at this
              rw [show (opsTo g l u k).length + n + 1 = (opsTo g l u k).length + tP l u k * (2 + k) by omega]
              exact this
        have downto : 0 < own l u k := by
          unfold own
          have := tP_pos (l := l) (k := k) tp.hu
          have := tP_pos (l := l) (k := 0) tp.hu
          split <;> omega
        by_cases hk0 : k = 0
        · subst hk0
          have := fills (tP l u 0 * (2 + 0)) 0 (by omega) (by omega) (by unfold low; rw [if_pos rfl]; omega) m s G7 fr hm hsX hc fg (by rw [hbl]; rfl) (by rw [hmk, Nat.zero_mul]; unfold mkC; rw [if_pos rfl]; rfl)
          exact this
        · obtain ⟨k', rfl⟩ : ∃ k', k = k' + 1 := ⟨k - 1, by omega⟩
          have h2l : tP l u k' * (2 + k') = 2 * low l u (k' + 1) := by
            unfold low
            rw [if_neg (by omega), tP_succ hkl, Nat.mul_assoc, show 1 + (k' + 1) = 2 + k' by omega]
          have frees : ∀ (d j : Nat), j + d = low l u (k' + 1) → ∀ (m : Mod) (s : HS) (G7 : GH), FrX X G6 G7 → HM G7 hid s g l u m → s.X hid = X → m.c = C → Fig m C.H → m.bl = rowB g l u (k' + 1) j ++ (rowB g l u k' (2 * low l u (k' + 1))).drop (2 * j) → m.mark = mkC C (k' + 1) →
              OkT (hodmantop_TopTight.L60 machW CW hid 0 pi 0 ops.length ti 0 (l + 1) ((k' + 1 : Nat) : Int) ((((opsTo g l u (k' + 1)).length + j : Nat)) : Int) C.G C.N C.M C.L C.Pg C.P C.H C.Sd G7) := by
            intro d
            induction d with
            | zero =>
              intro j hj m s G7 fr hm hsX hc fg hbl hmk
              rw [List.drop_of_length_le (by rw [rowB_len]; omega), List.append_nil] at hbl
              refine fills (own l u (k' + 1)) j (by omega) downto (by omega) m s G7 fr hm hsX hc fg hbl ?_
              rw [hmk, mk2 (by omega), show j = low l u (k' + 1) by omega]; omega
            | succ d ihd =>
              intro j hj m s G7 fr hm hsX hc fg hbl hmk
              have hjl : j < low l u (k' + 1) := by omega
              have hop := opsTo_free (g := g) hkl hjl
              rw [hops] at hop
              have hi := oplt (k' + 1) j hkl (by omega) _ hop
              have tpm : m.c.Tp g l u := by rw [hc]; exact tp
              have hop : ops[(opsTo g l u (k' + 1)).length + j]? = some ⟨5, (((2 * j + 1) * 2 ^ (g + k') : Nat) : Int), 0, 0, 0, 0⟩ := hop
              obtain ⟨f1, f2, f3⟩ := free_step tpm hm.ok hkl hjl hbl
              obtain ⟨okd, hcd⟩ := doM_ok hm.ok ⟨5, (((2 * j + 1) * 2 ^ (g + k') : Nat) : Int), 0, 0, 0, 0⟩
              refine step (k' + 1) _ _ m s G7 fr hop hm hsX hc fg f1 (R (by dsimp only; omega) (by dsimp only; omega)) (R (by dsimp only; omega) (by dsimp only; omega)) (R (by dsimp only; omega) (by dsimp only; omega)) (by omega) fun s' G8 hm8 x8 fr8 hc8 fg8 => ?_
              generalize doM m ⟨5, (((2 * j + 1) * 2 ^ (g + k') : Nat) : Int), 0, 0, 0, 0⟩ = dm at *
              refine ⟨k' + 1, ?_, .inl ⟨rfl, fun e he => ?_⟩⟩
              · rw [Nat.add_assoc]
                exact ihd (j + 1) (by omega) dm.1 s' G8 fr8 hm8 x8 hc8 fg8 f2 (by rw [f3, hmk])
              · rw [hstk] at he
                have := opl (k' + 1) hkl
                cases he; omega
          have := frees (low l u (k' + 1)) 0 (by omega) m s G7 fr hm hsX hc fg (by rw [hbl]; simp only [atB, Nat.mul_zero, List.drop_zero, h2l]; rfl) hmk
          exact this
    exact main (l + 1) 0 (by omega) (newM C) s0 G6 FrX.refl hm6 hX rfl (fig_new ok (by omega)) rfl rfl
  rw [nbf hid0]
  exact J0
end Go.Proofs.D.S
