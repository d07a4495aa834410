/- Texts of the proof (DFair, SpFair, DSame, SpSame, SpSame2, LawSameForms); no condition. -/
import Derived.Test.YtdanddamihficaaSameFormsi
set_option linter.unusedSimpArgs false
set_option linter.unusedVariables false
/- A modest client: what it holds is what is live, and it is never refused. -/
set_option linter.unusedVariables false
namespace Go.Proofs.D.S
open Go Go.RowKit
/-- Blocks that lie apart, rising. -/
def Srt (l : List Blk) : Prop := l.Pairwise fun a b => a.at_ + a.ch ≤ b.at_
theorem putB_perm (b : Blk) : ∀ l : List Blk, (putB l b).Perm (b :: l)
  | [] => .refl _
  | x :: l => by
    unfold putB
    split
    · exact .refl _
    · exact ((putB_perm b l).cons x).trans (.swap _ _ _)
theorem over_false {a n b m : Int} (h : over a n b m = false) : b + m ≤ a ∨ a + n ≤ b := by
  unfold over at h
  by_cases h1 : a < b + m
  · right
    rw [decide_eq_true h1, Bool.true_and] at h
    have := of_decide_eq_false h
    omega
  · left; omega
theorem freeB_apart {l : List Blk} {a n : Int} (h : freeB l a n = true) : ∀ b ∈ l, b.at_ + b.ch ≤ a ∨ a + n ≤ b.at_ := by
  intro b hb
  have := List.all_eq_true.1 h b hb
  simp only [Bool.not_eq_true'] at this
  exact over_false this
theorem srt_put {a n asked : Int} (hn : 1 ≤ n) : ∀ {l : List Blk}, Srt l → (∀ b ∈ l, 1 ≤ b.ch) → freeB l a n = true → Srt (putB l ⟨a, n, asked⟩)
  | [], _, _, _ => by unfold putB Srt; simp
  | x :: l, s, hc, f => by
    obtain ⟨s1, s2⟩ := List.pairwise_cons.1 s
    have hx := freeB_apart f x (by simp)
    have cx := hc x (by simp)
    unfold putB
    by_cases h : x.at_ > a
    · rw [if_pos h]
      refine List.pairwise_cons.2 ⟨fun b hb => ?_, s⟩
      dsimp only
      rcases List.mem_cons.1 hb with rfl | hb
      · omega
      · have := s1 b hb; omega
    · rw [if_neg h]
      have f2 : freeB l a n = true := by
        unfold freeB at f ⊢
        rw [List.all_cons, Bool.and_eq_true] at f
        exact f.2
      have h2 : x.at_ + x.ch ≤ a := by omega
      refine List.pairwise_cons.2 ⟨fun b hb => ?_, srt_put hn s2 (fun b hb => hc b (by simp [hb])) f2⟩
      rcases (putB_mem _ _ _).1 hb with rfl | hb
      · exact h2
      · exact s1 b hb
theorem Srt.put {a n asked : Int} {l : List Blk} (s : Srt l) (hn : 1 ≤ n) (h : ∀ b ∈ l, 1 ≤ b.ch) (f : freeB l a n = true) : Srt (putB l ⟨a, n, asked⟩) := srt_put hn s h f
theorem Srt.rest {l : List Blk} (s : Srt l) (A : Nat) : Srt (l.take A ++ l.drop (A + 1)) := by
  have e : (l.take A ++ l.drop (A + 1)).Sublist l := by
    have h2 : (l.drop (A + 1)).Sublist (l.drop A) := by
      rw [← List.drop_drop]; exact List.drop_sublist _ _
    have h := (List.Sublist.refl (l.take A)).append h2
    rwa [List.take_append_drop] at h
  exact s.sublist e
theorem rest_perm {l : List Blk} {A : Nat} (h : A < l.length) : l.Perm (l[A] :: (l.take A ++ l.drop (A + 1))) := by
  have e : l = l.take A ++ l[A] :: l.drop (A + 1) := by rw [← List.drop_eq_getElem_cons h, List.take_append_drop]
  have p : (l.take A ++ l[A] :: l.drop (A + 1)).Perm (l[A] :: (l.take A ++ l.drop (A + 1))) := List.perm_middle
  rw [← e] at p
  exact p
theorem sum_perm {a b : List Int} (p : a.Perm b) : a.sum = b.sum := by
  induction p with
  | nil => rfl
  | cons x _ ih => rw [List.sum_cons, List.sum_cons, ih]
  | swap x y l => simp only [List.sum_cons]; omega
  | trans _ _ h1 h2 => exact h1.trans h2
theorem chSum_perm {a b : List Blk} (p : a.Perm b) : chSum a = chSum b := by
  unfold chSum; exact sum_perm (p.map Blk.ch)
/-- One block begins there, at most. -/
theorem findB_mem : ∀ {l : List Blk} {b : Blk}, Srt l → (∀ b ∈ l, 1 ≤ b.ch) → b ∈ l → ∃ A, ∃ h : A < l.length, findB l b.at_ = some A ∧ l[A] = b
  | [], b, _, _, h => by cases h
  | x :: l, b, s, hc, h => by
    obtain ⟨s1, s2⟩ := List.pairwise_cons.1 s
    rcases List.mem_cons.1 h with rfl | h
    · exact ⟨0, by simp, by unfold findB; rw [if_pos rfl], rfl⟩
    · obtain ⟨A, hA, e1, e2⟩ := findB_mem s2 (fun y hy => hc y (by simp [hy])) h
      have c1 := s1 b h
      have c2 := hc x (by simp)
      exact ⟨A + 1, by simpa using hA, by unfold findB; rw [if_neg (by omega), e1]; rfl, by simpa using e2⟩
variable {g l u : Nat}
/-- What is charged for what may be asked for. -/
theorem charge_fair {c : Cf} (ex : c.Ex g l) {s : Int} (h1 : 1 ≤ s) (h2 : s ≤ c.N) (h3 : c.G ≤ 2 * s) :
    ∃ k : Nat, k ≤ l ∧ chargeS c.G c.N s 1 = (((2 ^ (g + k) : Nat) : Int), 0) ∧ ((2 ^ (g + k) : Nat) : Int) ≤ 2 * s ∧ s ≤ ((2 ^ (g + k) : Nat) : Int) := by
  have e : (chargeS c.G c.N s 1).2 = 0 := by
    unfold chargeS
    rw [show (logS 1).2 = true from by decide, if_neg (fun h => h.elim (fun h => by cases h) (fun h => by omega)), if_neg (by omega)]
  have e1 : (chargeS c.G c.N s 1).1 = ((2 ^ clog (max (max s 1) c.G).toNat : Nat) : Int) := by
    unfold chargeS
    rw [show (logS 1).2 = true from by decide, if_neg (fun h => h.elim (fun h => by cases h) (fun h => by omega)), if_neg (by omega)]
  have e' := e
  rw [ex.hG, ex.hN] at e'
  obtain ⟨q, q1, q2, q3, q4, _, _⟩ := chargeS_ok e' (by omega)
  rw [← ex.hG, ← ex.hN] at q3
  refine ⟨q - g, by omega, ?_, ?_, ?_⟩
  · rw [show g + (q - g) = q by omega, ← q3]
    exact Prod.ext rfl e
  · rw [show g + (q - g) = q by omega, ← q3, e1]
    generalize hn : (max (max s 1) c.G).toNat = n
    have z : (2 ^ clog n : Nat) = 1 ∨ 2 ^ clog n < 2 * n := by
      rcases Nat.eq_zero_or_pos (clog n) with h | h
      · left; rw [h]
      · right
        have := lt_clog (n := n) (e := clog n - 1) (by omega)
        have e3 : 2 ^ clog n = 2 ^ (clog n - 1) * 2 := by rw [← Nat.pow_succ]; congr 1; omega
        omega
    by_cases hs : c.G ≤ s
    · omega
    · have hG := ex.hG
      have : n = 2 ^ g := by omega
      rw [this, clog_pow]; omega
  · rw [show g + (q - g) = q by omega]; exact q4
/-- There is room, and pages. -/
theorem place_all {m : Mod} (tp : m.c.Tp g l u) (ok : m.Ok) (hP : (m.on.length : Int) ≤ m.c.P) {bl : List Blk} (hb : ∀ b ∈ bl, Bin g l u b) {k : Nat} (hk : k ≤ l) (hs : chSum bl + ((2 ^ (g + k) : Nat) : Int) ≤ m.c.M) (asked : Int) :
    ∃ (j : Nat) (on' : List Bool) (fr : List Int), j < tP l u k * (2 + k) ∧ freeB bl ((j : Int) * ((2 ^ (g + k) : Nat) : Int)) ((2 ^ (g + k) : Nat) : Int) = true ∧
      placeM m bl ((2 ^ (g + k) : Nat) : Int) asked = (setM m bl ((j : Int) * ((2 ^ (g + k) : Nat) : Int)) ((2 ^ (g + k) : Nat) : Int) asked on' fr, (j : Int) * ((2 ^ (g + k) : Nat) : Int), 0) := by
  have z := Nat.two_pow_pos (g + k)
  have f := ok.c.facts
  obtain ⟨j, hj1, hj2, _⟩ := room tp hk hb hs
  obtain ⟨_, h2, _⟩ := (lowJ_some (by omega) (by omega)).1 hj1
  obtain ⟨on', fr, e⟩ := placeM_fits (m := m) (l := bl) (asked := asked) hP hj1
  exact ⟨j, on', fr, hj2, h2, e⟩
structure Fa where
  held : List (Int × Int)
  all : Int
def Fa.asks (c : Cf) (f : Fa) (n s : Int) : Option Fa :=
  if 1 ≤ s ∧ s ≤ c.N ∧ c.G ≤ 2 * s ∧ s ≤ c.M / 2 - f.all then some ⟨aPut f.held n s, f.all + s⟩ else none
def Fa.goes (f : Fa) (n : Int) : Option Fa := (aGet f.held n).map fun s => ⟨aDel f.held n, f.all - s⟩
def Fa.does (c : Cf) (f : Fa) (n : Int) (o : OpV) : Option Fa :=
  if o.k = 1 then f.asks c n o.s
  else if o.k = 2 then (if (productS c.N o.n o.s).2 = 0 then f.asks c n (productS c.N o.n o.s).1 else none)
  else if o.k = 4 then (f.goes o.p).bind fun f => f.asks c n o.s
  else if o.k = 5 then f.goes o.p
  else if o.k = 6 then (if (aGet f.held o.p).isSome then some f else none)
  else if o.k = 7 ∨ o.k = 8 then (match aGet f.held o.p with | some s => if 0 ≤ o.n ∧ o.n < s then some f else none | none => none)
  else if o.k = 9 ∨ o.k = 10 then some f
  else none
def Fa.may (c : Cf) : Fa → Nat → List OpV → Bool
  | _, _, [] => true
  | f, i, o :: l => match f.does c (i : Int) o with
    | some f => f.may c (i + 1) l
    | none => false
def fa0 : Fa := ⟨[], 0⟩
structure FInv (c : Cf) (f : Fa) (i : Int) : Prop where
  keys : ∀ x ∈ f.held, 0 ≤ x.1 ∧ x.1 < i ∧ 1 ≤ x.2 ∧ x.2 ≤ c.N ∧ c.G ≤ 2 * x.2
  nd : NoDup f.held
  sum : f.all = (f.held.map Prod.snd).sum
  le : f.all ≤ c.M / 2
theorem sum_nonneg : ∀ {l : List Int}, (∀ x ∈ l, 0 ≤ x) → 0 ≤ l.sum
  | [], _ => by simp
  | x :: l, h => by
    have h1 := h x (by simp)
    have h2 := sum_nonneg (l := l) fun y hy => h y (by simp [hy])
    rw [List.sum_cons]; omega
theorem FInv.pos {c : Cf} {f : Fa} {i : Int} (h : FInv c f i) : 0 ≤ f.all := by
  rw [h.sum]
  refine sum_nonneg fun x hx => ?_
  obtain ⟨y, hy, rfl⟩ := List.mem_map.1 hx
  have := h.keys y hy; omega
theorem FInv.zero {c : Cf} (ok : c.Ok) : FInv c fa0 0 := ⟨fun x hx => (by cases hx), List.Pairwise.nil, rfl, by have := ok.facts; show (0 : Int) ≤ _; omega⟩
theorem FInv.mono {c : Cf} {f : Fa} {i j : Int} (h : FInv c f i) (hij : i ≤ j) : FInv c f j := ⟨fun x hx => by have := h.keys x hx; omega, h.nd, h.sum, h.le⟩
theorem FInv.free {c : Cf} {f : Fa} {i : Int} (h : FInv c f i) : aGet f.held i = none := aGet_none.2 fun x hx => by have := h.keys x hx; omega
theorem FInv.asks {c : Cf} {f f' : Fa} {i s : Int} (h : FInv c f i) (hi : 0 ≤ i) (e : f.asks c i s = some f') : FInv c f' (i + 1) ∧ f'.held = f.held ++ [(i, s)] ∧ f'.all = f.all + s ∧ 1 ≤ s ∧ s ≤ c.N ∧ c.G ≤ 2 * s ∧ f.all + s ≤ c.M / 2 := by
  unfold Fa.asks at e
  split at e
  · rename_i hs
    cases e
    have e1 := aPut_new (x := s) h.free
    refine ⟨⟨fun x hx => ?_, h.nd.put, ?_, by dsimp only; omega⟩, e1, rfl, hs.1, hs.2.1, hs.2.2.1, by omega⟩
    · dsimp only at hx
      rw [e1] at hx
      rcases List.mem_append.1 hx with hx | hx
      · have := h.keys x hx; omega
      · simp at hx; subst hx; dsimp only; omega
    · dsimp only
      rw [e1, List.map_append, List.sum_append, h.sum]; simp
  · cases e
theorem FInv.goes {c : Cf} {f f' : Fa} {i p : Int} (h : FInv c f i) (e : f.goes p = some f') : FInv c f' i ∧ ∃ s, aGet f.held p = some s ∧ f'.held = aDel f.held p ∧ f'.all = f.all - s ∧ f.held.Perm ((p, s) :: f'.held) := by
  unfold Fa.goes at e
  obtain ⟨s, hs, rfl⟩ := Option.map_eq_some_iff.1 e
  have q := aDel_perm hs
  have hsum : f.all = s + ((aDel f.held p).map Prod.snd).sum := by
    rw [h.sum, sum_perm (q.map Prod.snd)]; rfl
  have hk := h.keys _ (aGet_mem hs)
  dsimp only at hk
  have hle := h.le
  refine ⟨⟨fun x hx => h.keys x (aDel_ne h.nd hx).2, h.nd.del _, ?_, ?_⟩, s, hs, rfl, rfl, q⟩
  · dsimp only; omega
  · dsimp only; omega
/-- What is asked for is what is live. -/
structure FRel (g l u : Nat) (C : Cf) (m : Mod) (f : Fa) (i : Int) (ats : Int → Int) : Prop where
  ok : m.Ok
  c : m.c = C
  bin : ∀ b ∈ m.bl, Bin g l u b
  srt : Srt m.bl
  inv : FInv C f i
  perm : m.bl.Perm (f.held.map fun x => ⟨ats x.1, (chargeS C.G C.N x.2 1).1, x.2⟩)
theorem FRel.pages {C : Cf} {m : Mod} {f : Fa} {i : Int} {ats : Int → Int} (r : FRel g l u C m f i ats) (hP : C.H ≤ C.P) : (m.on.length : Int) ≤ m.c.P := by
  have fs := r.ok.c.facts
  have h1 := r.ok.on
  have h2 : (m.on.length : Int) * 1 ≤ (m.on.length : Int) * m.c.Pg := Int.mul_le_mul_of_nonneg_left (by omega) (by omega)
  rw [r.c] at h1 h2 ⊢
  omega
theorem sum_twice {C : Cf} (tp : C.Tp g l u) : ∀ {h : List (Int × Int)} (ats : Int → Int), (∀ x ∈ h, 1 ≤ x.2 ∧ x.2 ≤ C.N ∧ C.G ≤ 2 * x.2) → chSum (h.map fun x => ⟨ats x.1, (chargeS C.G C.N x.2 1).1, x.2⟩) ≤ 2 * (h.map Prod.snd).sum
  | [], _, _ => by simp [chSum]
  | x :: h, ats, hk => by
    have ih := sum_twice tp (h := h) ats fun y hy => hk y (by simp [hy])
    obtain ⟨h1, h2, h3⟩ := hk x (by simp)
    obtain ⟨k, _, e, e2, _⟩ := charge_fair tp.ex h1 h2 h3
    rw [List.map_cons, chSum_cons, List.map_cons, List.sum_cons]
    dsimp only
    rw [e]; dsimp only; omega
theorem FRel.live {C : Cf} (tp : C.Tp g l u) {m : Mod} {f : Fa} {i : Int} {ats : Int → Int} (r : FRel g l u C m f i ats) : m.live ≤ 2 * f.all := by
  rw [r.ok.live, chSum_perm r.perm, r.inv.sum]
  exact sum_twice tp ats fun x hx => by have := r.inv.keys x hx; omega
def upd (ats : Int → Int) (i v : Int) : Int → Int := fun j => if j = i then v else ats j
theorem upd_map {ats : Int → Int} {C : Cf} {i v : Int} {h : List (Int × Int)} (hk : ∀ x ∈ h, x.1 < i) : (h.map fun x => (⟨upd ats i v x.1, (chargeS C.G C.N x.2 1).1, x.2⟩ : Blk)) = h.map fun x => ⟨ats x.1, (chargeS C.G C.N x.2 1).1, x.2⟩ := by
  refine List.map_congr_left fun x hx => ?_
  unfold upd
  rw [if_neg (by have := hk x hx; omega)]
/-- What it holds at a call is live there. -/
theorem FRel.find {C : Cf} {m : Mod} {f : Fa} {i : Int} {ats : Int → Int} (r : FRel g l u C m f i ats) {p s : Int} (h : aGet f.held p = some s) :
    ∃ A, ∃ hA : A < m.bl.length, findB m.bl (ats p) = some A ∧ m.bl[A] = ⟨ats p, (chargeS C.G C.N s 1).1, s⟩ := by
  have hm : (⟨ats p, (chargeS C.G C.N s 1).1, s⟩ : Blk) ∈ m.bl := r.perm.mem_iff.2 (List.mem_map.2 ⟨(p, s), aGet_mem h, rfl⟩)
  exact findB_mem r.srt (fun b hb => (r.ok.bl b hb).2.1) hm
/-- Where a call's blocks are looked for. -/
def opAt (ats : Int → Int) (o : OpV) : OpV := if 4 ≤ o.k ∧ o.k ≤ 8 then { o with p := ats o.p } else o
theorem FRel.next {C : Cf} {m : Mod} {f : Fa} {i : Int} {ats : Int → Int} (r : FRel g l u C m f i ats) (v : Int) : FRel g l u C m f (i + 1) (upd ats i v) :=
  ⟨r.ok, r.c, r.bin, r.srt, r.inv.mono (by omega), by rw [upd_map fun x hx => (r.inv.keys x hx).2.1]; exact r.perm⟩
theorem doM_give {m : Mod} {o : OpV} (h : o.k = 1 ∨ o.k = 2 ∨ o.k = 3) : doM m o = giveM m o := by unfold doM; rw [if_pos h]
theorem FRel.gives {C : Cf} (tp : C.Tp g l u) (hP : C.H ≤ C.P) {m : Mod} {f f' : Fa} {i s : Int} {ats : Int → Int} (hi : 0 ≤ i) (r : FRel g l u C m f i ats) {o : OpV} (ho : o.k = 1 ∧ s = o.s ∨ o.k = 2 ∧ productS C.N o.n o.s = (s, 0) ∧ wrap64 (o.n * o.s) = s) (e : f.asks C i s = some f') :
    (doM m o).2.err = 0 ∧ FRel g l u C (doM m o).1 f' (i + 1) (upd ats i (doM m o).2.at_) := by
  obtain ⟨inv, e1, e2, s1, s2, s3, s4⟩ := r.inv.asks hi e
  obtain ⟨k, hk, hc, hc2, hc3⟩ := charge_fair tp.ex s1 s2 s3
  have hl := r.live tp
  have hlive := r.ok.live
  have tpm : m.c.Tp g l u := by rw [r.c]; exact tp
  have hM2 := tp.full (k := 0) (by omega)
  have z := Nat.two_pow_pos (g + k)
  have hnew : newS m.c.G m.c.N m.c.M m.live s 1 = (((2 ^ (g + k) : Nat) : Int), 0) := by
    unfold newS
    rw [r.c, hc, if_pos rfl, if_neg (by dsimp only; omega)]
  obtain ⟨j, on', fr, hj, hfree, hp⟩ := place_all tpm r.ok (r.pages hP) r.bin hk (by rw [← hlive, r.c]; omega) s
  have hdo : doM m o = giveM m o := doM_give (ho.elim (fun h => .inl h.1) (fun h => .inr (.inl h.1)))
  have hg : (giveM m o).2 = ⟨0, (j : Int) * ((2 ^ (g + k) : Nat) : Int), 0, 0, 0, 0, 0, 0⟩ ∧ (giveM m o).1.bl = putB m.bl ⟨(j : Int) * ((2 ^ (g + k) : Nat) : Int), ((2 ^ (g + k) : Nat) : Int), s⟩ := by
    unfold giveM
    rcases ho with ⟨h, rfl⟩ | ⟨h, h2, h3⟩
    · simp only [h, show ¬ ((1 : Int) = 2) by decide, show ¬ ((1 : Int) = 3) by decide, if_false, hnew, if_true, hp]
      exact ⟨trivial, rfl⟩
    · have hmany : manyS m.c.G m.c.N m.c.M m.live o.n o.s = (((2 ^ (g + k) : Nat) : Int), 0) := by
        unfold manyS
        have h2' : productS m.c.N o.n o.s = (s, 0) := by rw [r.c]; exact h2
        rw [h2', if_pos rfl]; exact hnew
      simp only [h, if_true, hmany, h3, hp]
      exact ⟨trivial, rfl⟩
  obtain ⟨okd, hcd⟩ := doM_ok r.ok o
  obtain ⟨_, bind, _⟩ := doM_good tpm r.ok r.bin o
  rw [hdo] at okd hcd bind ⊢
  rw [hg.1]
  have pb := putB_perm ⟨(j : Int) * ((2 ^ (g + k) : Nat) : Int), ((2 ^ (g + k) : Nat) : Int), s⟩ m.bl
  refine ⟨rfl, okd, hcd.trans r.c, bind, ?_, inv, ?_⟩
  · rw [hg.2]; exact r.srt.put (by omega) (fun b hb => (r.ok.bl b hb).2.1) hfree
  · rw [hg.2, e1, List.map_append, upd_map fun x hx => (r.inv.keys x hx).2.1]
    refine (pb.trans (r.perm.cons _)).trans ?_
    have e5 : [(i, s)].map (fun x => (⟨upd ats i ((j : Int) * ((2 ^ (g + k) : Nat) : Int)) x.1, (chargeS C.G C.N x.2 1).1, x.2⟩ : Blk)) = [⟨(j : Int) * ((2 ^ (g + k) : Nat) : Int), ((2 ^ (g + k) : Nat) : Int), s⟩] := by
      simp only [List.map_cons, List.map_nil, upd, if_true, hc]
    dsimp only at e5 ⊢
    rw [e5]
    exact List.perm_append_comm (l₁ := [_])
/-- A block that goes. -/
theorem FRel.rest {C : Cf} {m : Mod} {f f' : Fa} {i p s : Int} {ats : Int → Int} (r : FRel g l u C m f i ats) {A : Nat} (hA : A < m.bl.length) (hb : m.bl[A] = ⟨ats p, (chargeS C.G C.N s 1).1, s⟩) (hp : f.held.Perm ((p, s) :: f'.held)) :
    (m.bl.take A ++ m.bl.drop (A + 1)).Perm (f'.held.map fun x => ⟨ats x.1, (chargeS C.G C.N x.2 1).1, x.2⟩) := by
  have h1 := rest_perm hA
  have h2 := (h1.symm.trans r.perm).trans (hp.map _)
  rw [hb, List.map_cons] at h2
  exact h2.cons_inv
theorem FRel.step {C : Cf} (tp : C.Tp g l u) (hP : C.H ≤ C.P) {m : Mod} {f f' : Fa} {i : Int} {ats : Int → Int} (hi : 0 ≤ i) (r : FRel g l u C m f i ats) {o : OpV} (e : f.does C i o = some f') :
    (doM m (opAt ats o)).2.err = 0 ∧ FRel g l u C (doM m (opAt ats o)).1 f' (i + 1) (upd ats i (doM m (opAt ats o)).2.at_) ∧ (4 ≤ o.k ∧ o.k ≤ 8 → 0 ≤ o.p ∧ o.p < i) := by
  have fs := r.ok.c.facts
  have tpm : m.c.Tp g l u := by rw [r.c]; exact tp
  unfold Fa.does at e
  unfold opAt
  by_cases h1 : o.k = 1
  · rw [if_pos h1] at e
    rw [if_neg (by omega)]
    obtain ⟨a, b⟩ := r.gives tp hP hi (.inl ⟨h1, rfl⟩) e
    exact ⟨a, b, fun h => by omega⟩
  rw [if_neg h1] at e
  by_cases h2 : o.k = 2
  · rw [if_pos h2] at e
    rw [if_neg (by omega)]
    split at e
    · rename_i hp
      have hpe : (productS C.N o.n o.s).1 = o.n * o.s ∧ 0 ≤ o.n * o.s ∧ o.n * o.s ≤ C.N := by
        unfold productS at hp ⊢
        by_cases c1 : o.n < 0 ∨ o.s < 0
        · rw [if_pos c1] at hp; simp at hp
        · rw [if_neg c1] at hp ⊢
          by_cases c2 : o.n * o.s > C.N
          · rw [if_pos c2] at hp; simp at hp
          · rw [if_neg c2]; exact ⟨rfl, Int.mul_nonneg (by omega) (by omega), by omega⟩
      have fc := tp.ok.facts
      obtain ⟨a, b⟩ := r.gives tp hP hi (o := o) (.inr ⟨h2, Prod.ext rfl hp, by rw [wrap_id (by omega) (by omega)]; exact hpe.1.symm⟩) e
      exact ⟨a, b, fun h => by omega⟩
    · cases e
  rw [if_neg h2] at e
  have inC : ∀ {p s : Int}, aGet f.held p = some s → 0 ≤ p ∧ p < i := fun h => by have := r.inv.keys _ (aGet_mem h); exact ⟨this.1, this.2.1⟩
  by_cases h4 : o.k = 4
  · rw [if_pos h4] at e
    rw [if_pos (by omega)]
    obtain ⟨f1, g1, g2⟩ := Option.bind_eq_some_iff.1 e
    obtain ⟨inv1, s0, k1, k2, k3, k4⟩ := r.inv.goes g1
    obtain ⟨A, hA, hf, hb⟩ := r.find k1
    obtain ⟨inv, e1, e2, s1, s2, s3, s4⟩ := inv1.asks hi g2
    obtain ⟨k, hk, hc, hc2, hc3⟩ := charge_fair tp.ex s1 s2 s3
    have rp := r.rest hA hb k4
    have hrest := chSum_rest hA
    have hlive := r.ok.live
    have hM2 := tp.full (k := 0) (by omega)
    have z := Nat.two_pow_pos (g + k)
    have hl2 : chSum (m.bl.take A ++ m.bl.drop (A + 1)) ≤ 2 * f1.all := by
      rw [chSum_perm rp, inv1.sum]
      exact sum_twice tp ats fun x hx => by have := inv1.keys x hx; omega
    have hbr : ∀ b ∈ m.bl.take A ++ m.bl.drop (A + 1), Bin g l u b := by
      intro b h
      rcases List.mem_append.1 h with h | h
      · exact r.bin b (List.mem_of_mem_take h)
      · exact r.bin b (List.mem_of_mem_drop h)
    obtain ⟨j, on', fr, hj, hfree, hp⟩ := place_all tpm r.ok (r.pages hP) hbr hk (by rw [r.c]; omega) o.s
    have hnew : newS m.c.G m.c.N m.c.M (m.live - m.bl[A].ch) o.s 1 = (((2 ^ (g + k) : Nat) : Int), 0) := by
      unfold newS
      rw [r.c, hc, if_pos rfl, if_neg (by dsimp only; omega)]
    have hd : ∃ mem, doM m { o with p := ats o.p } = ({ setM m (m.bl.take A ++ m.bl.drop (A + 1)) ((j : Int) * ((2 ^ (g + k) : Nat) : Int)) ((2 ^ (g + k) : Nat) : Int) o.s on' fr with mem := mem }, ⟨0, (j : Int) * ((2 ^ (g + k) : Nat) : Int), 0, 0, 0, 0, 0, 0⟩) := by
      unfold doM
      simp only [h4, show ¬ ((4 : Int) = 1) by decide, show ¬ ((4 : Int) = 2) by decide, show ¬ ((4 : Int) = 3) by decide, show ¬ ((4 : Int) = 9) by decide, show ¬ ((4 : Int) = 10) by decide, or_false, true_or, if_true, if_false, hf, getD_lt _ hA]
      unfold ofM
      simp only [if_true, hnew, hp]
      exact ⟨_, rfl⟩
    obtain ⟨mem, hd⟩ := hd
    obtain ⟨okd, hcd⟩ := doM_ok r.ok { o with p := ats o.p }
    obtain ⟨_, bind, _⟩ := doM_good tpm r.ok r.bin { o with p := ats o.p }
    rw [hd] at okd hcd bind ⊢
    refine ⟨rfl, ⟨okd, hcd.trans r.c, bind, ?_, inv, ?_⟩, fun _ => inC k1⟩
    · exact (r.srt.rest A).put (by omega) (fun b hb => (r.ok.bl.rest A b hb).2.1) hfree
    · have pb := putB_perm ⟨(j : Int) * ((2 ^ (g + k) : Nat) : Int), ((2 ^ (g + k) : Nat) : Int), o.s⟩ (m.bl.take A ++ m.bl.drop (A + 1))
      rw [e1, List.map_append, upd_map fun x hx => (inv1.keys x hx).2.1]
      refine (pb.trans (rp.cons _)).trans ?_
      have e5 : [(i, o.s)].map (fun x => (⟨upd ats i ((j : Int) * ((2 ^ (g + k) : Nat) : Int)) x.1, (chargeS C.G C.N x.2 1).1, x.2⟩ : Blk)) = [⟨(j : Int) * ((2 ^ (g + k) : Nat) : Int), ((2 ^ (g + k) : Nat) : Int), o.s⟩] := by
        simp only [List.map_cons, List.map_nil, upd, if_true, hc]
      dsimp only at e5 ⊢
      rw [e5]
      exact List.perm_append_comm (l₁ := [_])
  rw [if_neg h4] at e
  by_cases h5 : o.k = 5
  · rw [if_pos h5] at e
    rw [if_pos (by omega)]
    obtain ⟨inv1, s0, k1, k2, k3, k4⟩ := r.inv.goes e
    obtain ⟨A, hA, hf, hb⟩ := r.find k1
    have rp := r.rest hA hb k4
    have hd : doM m { o with p := ats o.p } = ({ m with bl := m.bl.take A ++ m.bl.drop (A + 1), live := m.live - m.bl[A].ch }, errA 0) := by
      unfold doM
      simp only [h5, show ¬ ((5 : Int) = 1) by decide, show ¬ ((5 : Int) = 2) by decide, show ¬ ((5 : Int) = 3) by decide, show ¬ ((5 : Int) = 9) by decide, show ¬ ((5 : Int) = 10) by decide, or_false, or_true, true_or, if_true, if_false, hf, getD_lt _ hA]
      unfold ofM
      simp only [show ¬ ((5 : Int) = 4) by decide, if_true, if_false]
    obtain ⟨okd, hcd⟩ := doM_ok r.ok { o with p := ats o.p }
    obtain ⟨_, bind, _⟩ := doM_good tpm r.ok r.bin { o with p := ats o.p }
    rw [hd] at okd hcd bind ⊢
    exact ⟨rfl, ⟨okd, hcd.trans r.c, bind, r.srt.rest A, inv1.mono (by omega), by rw [upd_map fun x hx => (inv1.keys x hx).2.1]; exact rp⟩, fun _ => inC k1⟩
  rw [if_neg h5] at e
  by_cases h6 : o.k = 6
  · rw [if_pos h6] at e
    rw [if_pos (by omega)]
    split at e
    · rename_i hs
      cases e
      obtain ⟨s, k1⟩ := Option.isSome_iff_exists.1 hs
      obtain ⟨A, hA, hf, hb⟩ := r.find k1
      have hd : (doM m { o with p := ats o.p }).1 = m ∧ (doM m { o with p := ats o.p }).2.err = 0 := by
        unfold doM
        simp only [h6, show ¬ ((6 : Int) = 1) by decide, show ¬ ((6 : Int) = 2) by decide, show ¬ ((6 : Int) = 3) by decide, show ¬ ((6 : Int) = 9) by decide, show ¬ ((6 : Int) = 10) by decide, or_false, or_true, true_or, if_true, if_false, hf]
        unfold ofM
        simp only [show ¬ ((6 : Int) = 4) by decide, show ¬ ((6 : Int) = 5) by decide, if_true, if_false]
        exact ⟨trivial, trivial⟩
      rw [hd.1]
      exact ⟨hd.2, r.next _, fun _ => inC k1⟩
    · cases e
  rw [if_neg h6] at e
  by_cases h78 : o.k = 7 ∨ o.k = 8
  · rw [if_pos h78] at e
    rw [if_pos (by omega)]
    cases k1 : aGet f.held o.p with
    | none => rw [k1] at e; cases e
    | some s =>
      rw [k1] at e
      dsimp only at e
      split at e
      · rename_i hs
        cases e
        obtain ⟨A, hA, hf, hb⟩ := r.find k1
        have hk := r.inv.keys _ (aGet_mem k1)
        dsimp only at hk
        obtain ⟨k, hk', hc, hc2, hc3⟩ := charge_fair tp.ex hk.2.2.1 hk.2.2.2.1 hk.2.2.2.2
        have hbd : ¬ (o.n < 0 ∨ o.n ≥ m.bl[A].ch) := by rw [hb, hc]; dsimp only; omega
        rcases h78 with h7 | h8
        · have hd : (doM m { o with p := ats o.p }).1 = m ∧ (doM m { o with p := ats o.p }).2.err = 0 := by
            unfold doM
            simp only [h7, show ¬ ((7 : Int) = 1) by decide, show ¬ ((7 : Int) = 2) by decide, show ¬ ((7 : Int) = 3) by decide, show ¬ ((7 : Int) = 9) by decide, show ¬ ((7 : Int) = 10) by decide, or_false, or_true, true_or, if_true, if_false, hf, getD_lt _ hA]
            unfold ofM
            simp only [show ¬ ((7 : Int) = 4) by decide, show ¬ ((7 : Int) = 5) by decide, show ¬ ((7 : Int) = 6) by decide, if_true, if_false, if_neg hbd]
            exact ⟨trivial, trivial⟩
          rw [hd.1]
          exact ⟨hd.2, r.next _, fun _ => inC k1⟩
        · have hd : ∃ mem, doM m { o with p := ats o.p } = ({ m with mem := mem }, errA 0) := by
            unfold doM
            simp only [h8, show ¬ ((8 : Int) = 1) by decide, show ¬ ((8 : Int) = 2) by decide, show ¬ ((8 : Int) = 3) by decide, show ¬ ((8 : Int) = 9) by decide, show ¬ ((8 : Int) = 10) by decide, or_true, true_or, if_true, if_false, hf, getD_lt _ hA]
            unfold ofM
            simp only [show ¬ ((8 : Int) = 4) by decide, show ¬ ((8 : Int) = 5) by decide, show ¬ ((8 : Int) = 6) by decide, show ¬ ((8 : Int) = 7) by decide, if_false, if_neg hbd]
            exact ⟨_, rfl⟩
          obtain ⟨mem, hd⟩ := hd
          obtain ⟨okd, hcd⟩ := doM_ok r.ok { o with p := ats o.p }
          rw [hd] at okd hcd ⊢
          have r2 := r.next 0
          exact ⟨rfl, ⟨okd, hcd.trans r.c, r2.bin, r2.srt, r2.inv, (r.next _).perm⟩, fun _ => inC k1⟩
      · cases e
  rw [if_neg h78] at e
  by_cases h9 : o.k = 9 ∨ o.k = 10
  · rw [if_pos h9] at e
    rw [if_neg (by omega)]
    cases e
    rcases h9 with h9 | h10
    · have hd : ∃ on a, doM m o = ({ m with on := on }, ⟨0, 0, a, 0, 0, 0, 0, 0⟩) := by
        unfold doM
        simp only [h9, show ¬ ((9 : Int) = 1) by decide, show ¬ ((9 : Int) = 2) by decide, show ¬ ((9 : Int) = 3) by decide, or_false, if_true, if_false]
        exact ⟨_, _, rfl⟩
      obtain ⟨on, a, hd⟩ := hd
      obtain ⟨okd, hcd⟩ := doM_ok r.ok o
      rw [hd] at okd hcd ⊢
      have r2 := r.next 0
      exact ⟨rfl, ⟨okd, hcd.trans r.c, r2.bin, r2.srt, r2.inv, (r.next _).perm⟩, fun h => by omega⟩
    · have hd : (doM m o).1 = m ∧ (doM m o).2.err = 0 := by
        unfold doM
        simp only [h10, show ¬ ((10 : Int) = 1) by decide, show ¬ ((10 : Int) = 2) by decide, show ¬ ((10 : Int) = 3) by decide, show ¬ ((10 : Int) = 9) by decide, or_false, if_true, if_false]
        exact ⟨trivial, trivial⟩
      rw [hd.1]
      exact ⟨hd.2, r.next _, fun h => by omega⟩
  · rw [if_neg h9] at e; cases e
theorem FRel.congr {C : Cf} {m : Mod} {f : Fa} {i : Int} {ats ats' : Int → Int} (r : FRel g l u C m f i ats) (h : ∀ j, 0 ≤ j → j < i → ats j = ats' j) : FRel g l u C m f i ats' := by
  refine ⟨r.ok, r.c, r.bin, r.srt, r.inv, r.perm.trans (List.Perm.of_eq (List.map_congr_left fun x hx => ?_))⟩
  have := r.inv.keys x hx
  rw [h x.1 this.1 this.2.1]
theorem FRel.zero {C : Cf} (tp : C.Tp g l u) {m : Mod} (ok : m.Ok) (hc : m.c = C) (hbl : m.bl = []) (ats : Int → Int) : FRel g l u C m fa0 0 ats :=
  ⟨ok, hc, fun b hb => (by rw [hbl] at hb; cases hb), by rw [hbl]; exact List.Pairwise.nil, FInv.zero tp.ok, by rw [hbl]; exact List.Perm.nil⟩
/-- Where things lie, as a row tells it. -/
def atsF (l : List Int) : Int → Int := fun j => l.getD j.toNat 0
theorem atsF_set {l : List Int} {i : Nat} (h : i < l.length) (v : Int) (j : Int) (h0 : 0 ≤ j) : atsF (l.set i v) j = upd (atsF l) (i : Int) v j := by
  unfold atsF upd
  by_cases e : j = i
  · rw [if_pos e, e, Int.toNat_natCast, List.getD_eq_getElem?_getD, List.getElem?_set_self h]; rfl
  · rw [if_neg e]
    show (l.set i v).getD j.toNat 0 = l.getD j.toNat 0
    rw [List.getD_eq_getElem?_getD, List.getD_eq_getElem?_getD, List.getElem?_set_ne (by omega)]
def askSum (l : List Blk) : Int := (l.map Blk.asked).sum
theorem askSum_cons (b : Blk) (l : List Blk) : askSum (b :: l) = b.asked + askSum l := rfl
theorem FRel.asked {C : Cf} {m : Mod} {f : Fa} {i : Int} {ats : Int → Int} (r : FRel g l u C m f i ats) : askSum m.bl = f.all ∧ ∀ b ∈ m.bl, 0 ≤ b.asked := by
  refine ⟨?_, fun b hb => ?_⟩
  · unfold askSum
    rw [sum_perm (r.perm.map Blk.asked), r.inv.sum, List.map_map]; rfl
  · obtain ⟨x, hx, rfl⟩ := List.mem_map.1 (r.perm.mem_iff.1 hb)
    have := r.inv.keys x hx
    dsimp only; omega
end Go.Proofs.D.S
/- A modest client: the program's own May; and clients made of numbers. -/
set_option linter.unusedVariables false
set_option linter.unusedSimpArgs false
namespace Go.Proofs.D.S
open Go Go.RowKit
variable {G G0 : GH} {L : List (Nat × Obj)}
abbrev eKc (n : Int) : V1 := .agg [.int .i64 n]
abbrev eIc (n : Int) : V1 := .c (.int .i64 n)
theorem eKc_inj (a b : Int) (h : eKc a = eKc b) : a = b := by
  have h : V1.agg [.int .i64 a] = V1.agg [.int .i64 b] := h
  injection h with h; injection h with h _; injection h
theorem eIc_inj (a b : Int) (h : eIc a = eIc b) : a = b := by
  have h : V1.c (.int .i64 a) = V1.c (.int .i64 b) := h
  injection h with h; injection h
theorem getD_eIc (o : Option Int) : (o.map eIc).getD (.c (.int .i64 0)) = eIc (o.getD 0) := by cases o <;> rfl
theorem isSome_map' {α β : Type} (f : α → β) (o : Option α) : (o.map f).isSome = o.isSome := by cases o <;> rfl
/-- What a client is, as it lies. -/
abbrev faR (fid mid : Nat) (c : Cf) (all : Int) : Nat × Obj := (fid, .row [.int .i64 c.G, .int .i64 c.N, .int .i64 c.M, .int .i64 c.L, .int .i64 c.Pg, .int .i64 c.P, .int .i64 c.H, .int .i64 c.Sd, .map mid, .int .i64 all] false)
abbrev faM (mid : Nat) (held : List (Int × Int)) : Nat × Obj := (mid, .map (.agg [.int .i64]) (encM eKc eIc held))
/-- What a step of a client's leaves. -/
def FaOut (G0 : GH) (L : List (Nat × Obj)) (fid mid : Nat) (c : Cf) (r : Option Fa) (x : Option Res) : Prop :=
  ∃ G' f', x = some ([.c (.bool r.isSome)], G') ∧ Hp G0 G' (faR fid mid c f'.all :: faM mid f'.held :: L) ∧ (∀ f, r = some f → f' = f)
end Go.Proofs.D.S
/- What may not differ, plainly: the program's own reader. -/
set_option linter.unusedVariables false
namespace Go.Proofs.D.S
open Go Go.RowKit
section
variable {κ β γ : Type} [DecidableEq κ]
/-- Values seen otherwise. -/
def valM (f : β → γ) (l : List (κ × β)) : List (κ × γ) := l.map fun x => (x.1, f x.2)
variable {f : β → γ}
theorem aGet_val (k : κ) : ∀ l : List (κ × β), aGet (valM f l) k = (aGet l k).map f
  | [] => rfl
  | (a, b) :: l => by
    show (if a = k then some (f b) else aGet (valM f l) k) = (if a = k then some b else aGet l k).map f
    by_cases h : a = k
    · rw [if_pos h, if_pos h]; rfl
    · rw [if_neg h, if_neg h, aGet_val k l]
theorem aPut_val (k : κ) (x : β) : ∀ l : List (κ × β), aPut (valM f l) k (f x) = valM f (aPut l k x)
  | [] => rfl
  | (a, b) :: l => by
    show (if a = k then (k, f x) :: valM f l else (a, f b) :: aPut (valM f l) k (f x)) = valM f (if a = k then (k, x) :: l else (a, b) :: aPut l k x)
    by_cases h : a = k
    · rw [if_pos h, if_pos h]; rfl
    · rw [if_neg h, if_neg h, aPut_val k x l]; rfl
theorem aDel_val (k : κ) : ∀ l : List (κ × β), aDel (valM f l) k = valM f (aDel l k)
  | [] => rfl
  | (a, b) :: l => by
    show (if a = k then valM f l else (a, f b) :: aDel (valM f l) k) = valM f (if a = k then l else (a, b) :: aDel l k)
    by_cases h : a = k
    · rw [if_pos h, if_pos h]
    · rw [if_neg h, if_neg h, aDel_val k l]; rfl
theorem aPut_perm {k : κ} {x y : β} : ∀ {l : List (κ × β)}, aGet l k = some x → (aPut l k y).Perm ((k, y) :: aDel l k)
  | [], h => by cases h
  | (a, b) :: l, h => by
    unfold aGet at h
    unfold aDel aPut
    by_cases e : a = k
    · rw [if_pos e, if_pos e]
    · rw [if_neg e] at h
      rw [if_neg e, if_neg e]
      exact ((aPut_perm h).cons (a, b)).trans (.swap _ _ _)
theorem aDel_sub (k : κ) : ∀ l : List (κ × β), (aDel l k).Sublist l
  | [] => .refl _
  | (a, b) :: l => by
    unfold aDel
    by_cases e : a = k
    · rw [if_pos e]; exact List.sublist_cons_self _ _
    · rw [if_neg e]; exact (aDel_sub k l).cons_cons _
theorem aPut_mem {k : κ} {x : β} {y : κ × β} : ∀ {l : List (κ × β)}, y ∈ aPut l k x → y = (k, x) ∨ y ∈ l
  | [], h => by simp [aPut] at h; exact .inl h
  | (a, b) :: l, h => by
    unfold aPut at h
    by_cases e : a = k
    · rw [if_pos e] at h
      rcases List.mem_cons.1 h with h | h
      · exact .inl h
      · exact .inr (List.mem_cons_of_mem _ h)
    · rw [if_neg e] at h
      rcases List.mem_cons.1 h with h | h
      · exact .inr (by rw [h]; simp)
      · rcases aPut_mem h with h | h
        · exact .inl h
        · exact .inr (List.mem_cons_of_mem _ h)
end
/-- A block: how much is charged, up to where it is nought, which bytes else are known. -/
structure PB where
  (ch no : Int)
  tl : List Int
def PB.knows (b : PB) (n : Int) : Bool := decide (n < b.no) || b.tl.contains n
def knowsS (P : List (Int × PB)) (p n : Int) : Bool := match aGet P p with
  | some b => b.knows n
  | none => false
def chargeO (c : Cf) (o : OpV) : Int :=
  if o.k = 2 then (c.charge (productS c.N o.n o.s).1 1).1 else if o.k = 3 then (c.charge o.s o.a).1 else (c.charge o.s 1).1
def movedS (b : Option PB) (ch : Int) : PB := match b with
  | none => ⟨ch, 0, []⟩
  | some b => ⟨ch, min b.no ch, b.tl.filter fun n => decide (n < ch)⟩
def doesS (c : Cf) (P : List (Int × PB)) (o : OpV) (a : AnsV) : List (Int × PB) × AnsV :=
  if o.k = 1 ∨ o.k = 3 then (aPut P a.at_ ⟨chargeO c o, 0, []⟩, a)
  else if o.k = 2 then (aPut P a.at_ ⟨chargeO c o, chargeO c o, []⟩, a)
  else if o.k = 4 then (aPut (aDel P o.p) a.at_ (movedS (aGet P o.p) (chargeO c o)), a)
  else if o.k = 5 then (aDel P o.p, a)
  else if o.k = 8 then (match aGet P o.p with
    | some b => if b.knows o.n = true then (P, a) else (aPut P o.p { b with tl := b.tl ++ [o.n] }, a)
    | none => (P, a))
  else if o.k = 7 then (P, if knowsS P o.p o.n = true then a else { a with byte := 0 })
  else if o.k = 10 then (P, { a with pages := 0 })
  else (P, a)
def plainS (c : Cf) : List (Int × PB) → List OpV → List AnsV → List AnsV
  | P, o :: os, a :: az => if a.err = 0 ∧ o.k ≠ 9 then (doesS c P o a).2 :: plainS c (doesS c P o a).1 os az else plainS c P os az
  | _, _, _ => []
/-- What the program tells. -/
def plainP (c : Cf) (ops : List OpV) (ans : List AnsV) : List AnsV := if ops.length = ans.length then plainS c [] ops ans else []
end Go.Proofs.D.S
/- The program's same: what may not differ. -/
set_option linter.unusedVariables false
set_option linter.unusedSimpArgs false
namespace Go.Proofs.D.S
open Go Go.RowKit
variable {G G0 : GH} {L : List (Nat × Obj)}
theorem slices_Index_int_int.lp {i o : Nat} {l : List Int} (s : Sl G eI i o l) (hl : l.length ≤ 1000000000) (v : Int) : ∀ (d k : Nat), k + d = l.length → ∃ x : Int,
    slices_Index_int_int.L20 machW CW i o l.length v ((l.length : Nat) : Int) (k : Int) G = some ([.c (.int .i64 x)], G) ∧ (x ≥ 0 ↔ v ∈ l.drop k)
  | 0, k, hk => by
    rw [slices_Index_int_int.L20_eq, condD_neg (by omega), List.drop_of_length_le (by omega)]
    exact ⟨-1, rfl, by simp⟩
  | d + 1, k, hk => by
    have hkl : k < l.length := by omega
    have e : l.drop k = l[k] :: l.drop (k + 1) := List.drop_eq_getElem_cons hkl
    have z : decide (0 ≤ (k : Int) ∧ (k : Int) < ((l.length : Nat) : Int)) = true := decide_eq_true (by omega)
    have r := s.ld k 0 hkl (by omega)
    rw [Nat.add_zero] at r
    rw [slices_Index_int_int.L20_eq, condD_pos (by omega)]
    simp only [z, Int.toNat_natCast, r, q_bs, q_I, q_B, q_P, q_S, q_M, q_c, q_a, q_gz, q_gs, q_gk, q_ct, q_cf, q_nt, q_nf, q_xt, q_xf, q_tt, q_ff, q_tf, q_ft, q_at, q_af, i64w, wrap_id (a := (k : Int) + 1) (by omega) (by omega)]
    by_cases h : v = l[k]
    · rw [condD_pos h]; exact ⟨_, rfl, by rw [e, h]; exact ⟨fun _ => List.mem_cons_self .., fun _ => by omega⟩⟩
    · rw [condD_neg h]
      obtain ⟨x, ex, hx⟩ := slices_Index_int_int.lp s hl v d (k + 1) (by omega)
      exact ⟨x, ex, by rw [hx, e, List.mem_cons]; exact ⟨.inr, fun q => q.resolve_left h⟩⟩
theorem slices_Contains_int_int.sp {i o : Nat} {l : List Int} (s : Sl G eI i o l) (hl : l.length ≤ 1000000000) (v : Int) : CW slices_Contains_int_int.id [.c (.sl 1 i o l.length), .c (.int .i64 v)] G = some ([.c (.bool (l.contains v))], G) := by
  obtain ⟨x, ex, hx⟩ := slices_Index_int_int.lp s hl v l.length 0 (by omega)
  rw [slices_Contains_int_int.cw]
  unfold slices_Contains_int_int.f
  rw [slices_Index_int_int.cw]
  unfold slices_Index_int_int.f
  rw [show (0 : Int) = ((0 : Nat) : Int) from rfl, ex]
  simp only [q_bs, q_I, q_B, q_P, q_S, q_M, q_c, q_a, q_gz, q_gs, q_gk, q_ct, q_cf, q_nt, q_nf, q_xt, q_xf, q_tt, q_ff, q_tf, q_ft, q_at, q_af]
  rw [List.drop_zero] at hx
  have : decide (x ≥ 0) = l.contains v := by
    by_cases h : v ∈ l
    · rw [decide_eq_true (hx.2 h), List.contains_iff_mem.2 h]
    · rw [decide_eq_false (fun e => h (hx.1 e))]
      cases e : l.contains v with
      | false => rfl
      | true => exact absurd (List.contains_iff_mem.1 e) h
  rw [← this]; rfl
/-- A block of the reader's, as it lies. -/
structure KB where
  (bid tid : Nat)
  b : PB
abbrev kbR (k : KB) : List (Nat × Obj) := [(k.bid, .row [.int .i64 k.b.ch, .int .i64 k.b.no, .sl 1 k.tid 0 k.b.tl.length] false), rowE eI k.tid k.b.tl]
abbrev kbRs (K : List (Int × KB)) : List (Nat × Obj) := K.flatMap fun x => kbR x.2
abbrev eAt (a : Int) : V1 := .agg [.int .i64 a, .int .i64 0]
abbrev ePt (k : KB) : V1 := .c (.ptr k.bid 0)
abbrev kks : VS := .agg [.int .i64, .int .i64]
abbrev rdR (rid mid : Nat) (c : Cf) : Nat × Obj := (rid, .row [.int .i64 c.G, .int .i64 c.N, .int .i64 c.M, .int .i64 c.L, .int .i64 c.Pg, .int .i64 c.P, .int .i64 c.H, .int .i64 c.Sd, .map mid] false)
abbrev rdM (mid : Nat) (K : List (Int × KB)) : Nat × Obj := (mid, .map kks (encM eAt ePt K))
theorem eAt_inj (a b : Int) (h : eAt a = eAt b) : a = b := by
  have h : V1.agg [.int .i64 a, .int .i64 0] = V1.agg [.int .i64 b, .int .i64 0] := h
  injection h with h; injection h with h _; injection h
/-- The reader, as it lies: its row, its map, its blocks. -/
def Rdr (G0 G : GH) (L : List (Nat × Obj)) (rid mid : Nat) (c : Cf) (K : List (Int × KB)) : Prop := Hp G0 G (rdR rid mid c :: rdM mid K :: (kbRs K ++ L))
theorem perm3 {α : Type} (A B C : List α) : (A ++ (B ++ C)).Perm (B ++ (A ++ C)) := by
  rw [← List.append_assoc, ← List.append_assoc]
  exact List.perm_append_comm.append_right _
theorem kbRs_perm {K K' : List (Int × KB)} (p : K.Perm K') : (kbRs K).Perm (kbRs K') := p.flatMap_right _
theorem kbRs_sub {K K' : List (Int × KB)} (p : K.Sublist K') : (kbRs K).Sublist (kbRs K') := by
  induction p with
  | slnil => exact .refl _
  | cons a _ ih => exact ih.trans (List.sublist_append_right _ _)
  | cons_cons a _ ih => exact (List.Sublist.refl _).append ih
/-- A block put in, beside what there is. -/
theorem kbRs_put (k : Int) (b : KB) : ∀ K : List (Int × KB), ∃ M, (kbR b ++ kbRs K).Perm M ∧ (kbRs (aPut K k b)).Sublist M
  | [] => ⟨_, .refl _, by simp [kbRs, aPut]⟩
  | (a, x) :: K => by
    unfold aPut
    by_cases h : a = k
    · rw [if_pos h]
      refine ⟨_, .refl _, ?_⟩
      show (kbR b ++ kbRs K).Sublist (kbR b ++ (kbR x ++ kbRs K))
      exact (List.Sublist.refl _).append (List.sublist_append_right _ _)
    · rw [if_neg h]
      obtain ⟨M, p, q⟩ := kbRs_put k b K
      refine ⟨kbR x ++ M, ?_, (List.Sublist.refl _).append q⟩
      show (kbR b ++ (kbR x ++ kbRs K)).Perm (kbR x ++ M)
      exact (perm3 _ _ _).trans (p.append_left _)
theorem Hp.putK {A : List (Nat × Obj)} {k : Int} {b : KB} {K : List (Int × KB)} (h : Hp G0 G (A ++ (kbR b ++ (kbRs K ++ L)))) : Hp G0 G (A ++ (kbRs (aPut K k b) ++ L)) := by
  obtain ⟨M, p, q⟩ := kbRs_put k b K
  have h2 : Hp G0 G (A ++ (M ++ L)) := h.perm (by
    rw [← List.append_assoc (kbR b)]
    exact (p.append_right L).append_left A)
  exact h2.sub ((List.Sublist.refl A).append (q.append (.refl L)))
theorem Hp.delK {A : List (Nat × Obj)} {k : Int} {K : List (Int × KB)} (h : Hp G0 G (A ++ (kbRs K ++ L))) : Hp G0 G (A ++ (kbRs (aDel K k) ++ L)) :=
  h.sub ((List.Sublist.refl A).append ((kbRs_sub (aDel_sub k K)).append (.refl L)))
theorem Hp.getK {A : List (Nat × Obj)} {k : Int} {b : KB} {K : List (Int × KB)} (h : Hp G0 G (A ++ (kbRs K ++ L))) (e : aGet K k = some b) : Hp G0 G (kbR b ++ (A ++ (kbRs (aDel K k) ++ L))) := by
  refine h.perm ?_
  have p := kbRs_perm (aDel_perm e)
  have e1 : kbRs ((k, b) :: aDel K k) = kbR b ++ kbRs (aDel K k) := rfl
  rw [e1] at p
  have q : (A ++ (kbRs K ++ L)).Perm (A ++ (kbR b ++ (kbRs (aDel K k) ++ L))) := by
    rw [← List.append_assoc (kbR b)]
    exact (p.append_right L).append_left A
  exact q.trans (perm3 _ _ _)
theorem Hp.backK {A : List (Nat × Obj)} {k : Int} {b b' : KB} {K : List (Int × KB)} (h : Hp G0 G (kbR b' ++ (A ++ (kbRs (aDel K k) ++ L)))) (e : aGet K k = some b) : Hp G0 G (A ++ (kbRs (aPut K k b') ++ L)) := by
  refine h.perm ?_
  have p := kbRs_perm (aPut_perm (y := b') e)
  have e1 : kbRs ((k, b') :: aDel K k) = kbR b' ++ kbRs (aDel K k) := rfl
  rw [e1] at p
  have q : (A ++ (kbR b' ++ (kbRs (aDel K k) ++ L))).Perm (A ++ (kbRs (aPut K k b') ++ L)) := by
    rw [← List.append_assoc (kbR b')]
    exact (p.symm.append_right L).append_left A
  exact (perm3 _ _ _).trans q
/-- A block put in with the same beginning: the map is as it was. -/
theorem encM_same {k : Int} {b b' : KB} (hb : b'.bid = b.bid) : ∀ {K : List (Int × KB)}, aGet K k = some b → encM eAt ePt (aPut K k b') = encM eAt ePt K
  | [], h => by cases h
  | (a, x) :: K, h => by
    unfold aGet at h
    unfold aPut
    by_cases e : a = k
    · rw [if_pos e] at h
      rw [if_pos e]
      cases h
      show (eAt k, ePt b') :: _ = (eAt a, ePt b) :: _
      unfold ePt eAt
      rw [hb, e]
    · rw [if_neg e] at h
      rw [if_neg e]
      show (eAt a, ePt x) :: encM eAt ePt (aPut K k b') = (eAt a, ePt x) :: encM eAt ePt K
      rw [encM_same hb h]
def bidO : Option KB → Nat
  | some b => b.bid
  | none => 0
theorem getD_ePt (o : Option KB) : (o.map ePt).getD (.c (.ptr 0 0)) = .c (.ptr (bidO o) 0) := by cases o <;> rfl
abbrev prt (K : List (Int × KB)) : List (Int × PB) := valM KB.b K
/-- How long told rows are. -/
def Tl (K : List (Int × KB)) (n : Nat) : Prop := ∀ x ∈ K, x.2.b.tl.length ≤ n
theorem Tl.get {K : List (Int × KB)} {n : Nat} (t : Tl K n) {k : Int} {b : KB} (h : aGet K k = some b) : b.b.tl.length ≤ n := t _ (aGet_mem h)
theorem Tl.put {K : List (Int × KB)} {n m : Nat} (t : Tl K n) (hm : n ≤ m) (k : Int) {b : KB} (h : b.b.tl.length ≤ m) : Tl (aPut K k b) m := fun x hx => by
  rcases aPut_mem hx with rfl | hx
  · exact h
  · exact Nat.le_trans (t x hx) hm
theorem Tl.del {K : List (Int × KB)} {n : Nat} (t : Tl K n) (k : Int) : Tl (aDel K k) n := fun x hx => t x ((aDel_sub k K).subset hx)
theorem same_reader_charge.sp {rid mid : Nat} {c : Cf} (ok : c.Ok) (h : Hp G0 G (rdR rid mid c :: L)) {o : OpV} (hs : R64 o.s) (ha : R64 o.a) (hn : R64 o.n) : CW same_reader_charge.id [.c (.ptr rid 0), .agg (eOp o)] G = some ([.c (.int .i64 (chargeO c o))], G) := by
  have hp := h.ne
  have ld := fun off => h.ld (off := off) hp
  have one : R64 1 := by unfold R64; omega
  rw [same_reader_charge.cw]
  unfold same_reader_charge.f chargeO
  have mid : ∀ s a : Int, R64 a → same_reader_charge.J18 machW CW rid 0 s a G = some ([.c (.int .i64 (c.charge s a).1)], G) := by
    intro s a ha
    rw [same_reader_charge.J18_eq]
    simp only [guardN hp, ld, q_bs, q_I, q_B, q_P, q_S, q_M, q_c, q_a, q_gz, q_gs, q_gk, q_ct, q_cf, q_nt, q_nf, q_xt, q_xf, q_tt, q_ff, q_tf, q_ft, q_at, q_af, Nat.zero_add]
    rw [class_Charge.sp ok ha]
    simp only [q_bs, q_I, q_B, q_P, q_S, q_M, q_c, q_a, q_gz, q_gs, q_gk, q_ct, q_cf, q_nt, q_nf, q_xt, q_xf, q_tt, q_ff, q_tf, q_ft, q_at, q_af]
  by_cases h2 : o.k = 2
  · rw [condD_pos h2, if_pos h2]
    simp only [guardN hp, ld, q_bs, q_I, q_B, q_P, q_S, q_M, q_c, q_a, q_gz, q_gs, q_gk, q_ct, q_cf, q_nt, q_nf, q_xt, q_xf, q_tt, q_ff, q_tf, q_ft, q_at, q_af, Nat.zero_add]
    rw [class_Product.sp ok hn hs]
    simp only [q_bs, q_I, q_B, q_P, q_S, q_M, q_c, q_a, q_gz, q_gs, q_gk, q_ct, q_cf, q_nt, q_nf, q_xt, q_xf, q_tt, q_ff, q_tf, q_ft, q_at, q_af]
    exact mid _ _ one
  · rw [condD_neg h2, if_neg h2]
    by_cases h3 : o.k = 3
    · rw [condD_pos h3, if_pos h3]; exact mid _ _ ha
    · rw [condD_neg h3, if_neg h3]; exact mid _ _ one
theorem same_reader_knows.sp {rid mid : Nat} {c : Cf} {K : List (Int × KB)} (h : Rdr G0 G L rid mid c K) {tn : Nat} (t : Tl K tn) (htn : tn ≤ 1000000000) (p n : Int) : CW same_reader_knows.id [.c (.ptr rid 0), .c (.int .i64 p), .c (.int .i64 n)] G = some ([.c (.bool (knowsS (prt K) p n))], G) := by
  have h0 : Hp G0 G (rdR rid mid c :: rdM mid K :: (kbRs K ++ L)) := h
  have hp := h0.ne
  have ld := fun off => h0.ld (off := off) hp
  obtain ⟨m0, m1, m2⟩ := Hp.ents (ks := kks) (h0.pick 1)
  rw [same_reader_knows.cw]
  unfold same_reader_knows.f knowsS
  simp only [guardN hp, ld, q_bs, q_I, q_B, q_P, q_S, q_M, q_c, q_a, q_gz, q_gs, q_gk, q_ct, q_cf, q_nt, q_nf, q_xt, q_xf, q_tt, q_ff, q_tf, q_ft, q_at, q_af, Nat.zero_add, m2]
  rw [show V1.agg [Cell.int .i64 p, Cell.int .i64 0] = eAt p from rfl, mapGet_enc eAt_inj, getD_ePt, isSome_map', aGet_val]
  simp only [q_bs, q_I, q_B, q_P, q_S, q_M, q_c, q_a, q_gz, q_gs, q_gk, q_ct, q_cf, q_nt, q_nf, q_xt, q_xf, q_tt, q_ff, q_tf, q_ft, q_at, q_af]
  cases e : aGet K p with
  | none => rfl
  | some b =>
    have h1 : Hp G0 G (kbR b ++ ([rdR rid mid c, rdM mid K] ++ (kbRs (aDel K p) ++ L))) := Hp.getK (A := [rdR rid mid c, rdM mid K]) h0 e
    have hb := h1.ne
    have lb := fun off => h1.ld (off := off) hb
    have st := h1.sl (e := eI) (id := b.tid) (xs := b.b.tl) (by simp)
    have tl := t.get e
    rw [Option.isSome_some, q_ct]
    simp only [bidO, guardN hb, lb, q_bs, q_I, q_B, q_P, q_S, q_M, q_c, q_a, q_gz, q_gs, q_gk, q_ct, q_cf, q_nt, q_nf, q_xt, q_xf, q_tt, q_ff, q_tf, q_ft, q_at, q_af, Nat.zero_add]
    show _ = some ([V1.c (.bool (b.b.knows n))], G)
    unfold PB.knows
    by_cases hn : n < b.b.no
    · rw [condD_pos hn, decide_eq_true hn]; rfl
    · rw [condD_neg hn, decide_eq_false hn, slices_Contains_int_int.sp st (by omega)]
      simp only [q_bs, q_I, q_B, q_P, q_S, q_M, q_c, q_a, q_gz, q_gs, q_gk, q_ct, q_cf, q_nt, q_nf, q_xt, q_xf, q_tt, q_ff, q_tf, q_ft, q_at, q_af, Bool.false_or]
theorem same_moved.sp (h : Hp G0 G L) {ob : Option KB} (hb : ∀ b, ob = some b → ∃ M, L = kbR b ++ M ∧ b.b.tl.length ≤ 1000000000) (ch : Int) :
    ∃ (k : KB) (G' : GH), CW same_moved.id [.c (.ptr (bidO ob) 0), .c (.int .i64 ch)] G = some ([.c (.ptr k.bid 0)], G') ∧ Hp G0 G' (kbR k ++ L) ∧ k.b = movedS (ob.map KB.b) ch := by
  have hm : (1000000001 : Nat) ≤ most := by unfold most; decide
  have h1 := h.alloc (.row [.int .i64 ch, .int .i64 0, .sl 1 0 0 0] false)
  rw [same_moved.cw]
  unfold same_moved.f
  dsimp only
  have h2 : Hp G0 (G.alloc (.row [.int .i64 ch, .int .i64 0, .sl 1 0 0 0] false)) (kbR ⟨G.next, 0, ⟨ch, 0, []⟩⟩ ++ L) := (h1.nil0 (e := eI)).pick 1
  generalize G.alloc (.row [.int .i64 ch, .int .i64 0, .sl 1 0 0 0] false) = G1 at h1 h2 ⊢
  generalize G.next = nid at h1 h2 ⊢
  have hnid := h1.ne
  cases ob with
  | none =>
    simp only [bidO]
    rw [show Nat.beq 0 0 = true from rfl, q_xf, q_ct]
    exact ⟨⟨nid, 0, ⟨ch, 0, []⟩⟩, G1, rfl, h2, rfl⟩
  | some b =>
    obtain ⟨M, rfl, hl⟩ := hb b rfl
    simp only [bidO]
    have hbid : b.bid ≠ 0 := h.ne
    have h2' := h2.pick 2
    have lb := fun off => h2'.ld (off := off) hbid
    have hb0 : Nat.beq b.bid 0 = false := by
      have := nbeq hbid
      simpa using this
    rw [hb0, q_xf, q_cf]
    simp only [guardN hbid, guardN hnid, lb, q_bs, q_I, q_B, q_P, q_S, q_M, q_c, q_a, q_gz, q_gs, q_gk, q_ct, q_cf, q_nt, q_nf, q_xt, q_xf, q_tt, q_ff, q_tf, q_ft, q_at, q_af, Nat.zero_add]
    obtain ⟨G2, h3, e3⟩ := h2.sts (off := 1) (new := [.int .i64 (mn2 b.b.no ch)]) hnid (by simp)
    have h3 : Hp G0 G2 (kbR ⟨nid, 0, ⟨ch, mn2 b.b.no ch, []⟩⟩ ++ (kbR b ++ M)) := h3
    rw [e3]
    have lb3 := fun off => (h3.pick 2).ld (off := off) hbid
    simp only [q_bs, q_I, q_B, q_P, q_S, q_M, q_c, q_a, q_gz, q_gs, q_gk, q_ct, q_cf, q_nt, q_nf, q_xt, q_xf, q_tt, q_ff, q_tf, q_ft, q_at, q_af, lb3]
    have lp : ∀ (d i : Nat) (tid : Nat) (acc : List Int) (G3 : GH), i + d = b.b.tl.length → acc.length ≤ i → Hp G0 G3 (kbR ⟨nid, tid, ⟨ch, mn2 b.b.no ch, acc⟩⟩ ++ (kbR b ++ M)) → acc ++ (b.b.tl.drop i).filter (fun n => decide (n < ch)) = b.b.tl.filter (fun n => decide (n < ch)) →
        ∃ (k : KB) (G' : GH), same_moved.L27 machW CW ch nid 0 b.tid 0 b.b.tl.length ((b.b.tl.length : Nat) : Int) (i : Int) G3 = some ([.c (.ptr k.bid 0)], G') ∧ Hp G0 G' (kbR k ++ (kbR b ++ M)) ∧ k.b = movedS ((some b).map KB.b) ch := by
      intro d
      induction d with
      | zero =>
        intro i tid acc G3 hi ha h e
        rw [List.drop_of_length_le (by omega), List.filter_nil, List.append_nil] at e
        rw [same_moved.L27_eq, condD_neg (by omega)]
        exact ⟨⟨nid, tid, ⟨ch, mn2 b.b.no ch, acc⟩⟩, G3, rfl, h, by subst e; rw [mn2_eq]; rfl⟩
      | succ d ih =>
        intro i tid acc G3 hi ha h e
        have hil : i < b.b.tl.length := by omega
        have ed : b.b.tl.drop i = b.b.tl[i] :: b.b.tl.drop (i + 1) := List.drop_eq_getElem_cons hil
        have zi : decide (0 ≤ (i : Int) ∧ (i : Int) < ((b.b.tl.length : Nat) : Int)) = true := decide_eq_true (by omega)
        have st := h.sl (e := eI) (id := b.tid) (xs := b.b.tl) (by simp)
        have r := st.ld i 0 hil (by omega)
        rw [Nat.add_zero] at r
        rw [ed, List.filter_cons] at e
        rw [same_moved.L27_eq, condD_pos (by omega)]
        simp only [zi, Int.toNat_natCast, r, q_bs, q_I, q_B, q_P, q_S, q_M, q_c, q_a, q_gz, q_gs, q_gk, q_ct, q_cf, q_nt, q_nf, q_xt, q_xf, q_tt, q_ff, q_tf, q_ft, q_at, q_af]
        have lo := fun off => h.ld (off := off) hnid
        have go : ∀ (tid : Nat) (acc : List Int) (G3 : GH), acc.length ≤ i + 1 → Hp G0 G3 (kbR ⟨nid, tid, ⟨ch, mn2 b.b.no ch, acc⟩⟩ ++ (kbR b ++ M)) → acc ++ (b.b.tl.drop (i + 1)).filter (fun n => decide (n < ch)) = b.b.tl.filter (fun n => decide (n < ch)) →
            ∃ (k : KB) (G' : GH), same_moved.J23 machW CW ch nid 0 b.tid 0 b.b.tl.length ((b.b.tl.length : Nat) : Int) (i : Int) G3 = some ([.c (.ptr k.bid 0)], G') ∧ Hp G0 G' (kbR k ++ (kbR b ++ M)) ∧ k.b = movedS ((some b).map KB.b) ch := by
          intro tid acc G3 ha h e
          rw [same_moved.J23_eq, i64w, wrap_id (by omega) (by omega)]
          exact ih (i + 1) tid acc G3 (by omega) ha h e
        by_cases hlt : b.b.tl[i] < ch
        · rw [condD_pos hlt]
          rw [if_pos (decide_eq_true hlt)] at e
          simp only [guardN hnid, lo, q_bs, q_I, q_B, q_P, q_S, q_M, q_c, q_a, q_gz, q_gs, q_gk, q_ct, q_cf, q_nt, q_nf, q_xt, q_xf, q_tt, q_ff, q_tf, q_ft, q_at, q_af, Nat.zero_add]
          have hq : Hp G0 G3 (rowE eI tid acc :: (nid, .row [.int .i64 ch, .int .i64 (mn2 b.b.no ch), .sl 1 tid 0 acc.length] false) :: (kbR b ++ M)) := h.pick 1
          obtain ⟨tid2, G4, h4, k4⟩ := Hp.app1 (S := Res) (e := eI) hq b.b.tl[i] (n := acc.length) rfl (by omega)
          rw [k4]
          dsimp only
          have h5 := h4.back 1
          obtain ⟨G5, h6, e6⟩ := h5.sts (off := 2) (new := [.sl 1 tid2 0 (acc.length + 1)]) hnid (by simp)
          rw [e6, q_bs]
          have e7 : (acc ++ [b.b.tl[i]]).length = acc.length + 1 := by simp
          rw [← e7] at h6
          exact go tid2 (acc ++ [b.b.tl[i]]) G5 (by omega) h6 (by rw [← e]; simp)
        · rw [condD_neg hlt]
          rw [if_neg (by simpa using hlt)] at e
          exact go tid acc G3 (by omega) h e
    exact lp b.b.tl.length 0 0 [] G2 (by omega) (by simp) h3 (by rw [List.drop_zero]; rfl)
end Go.Proofs.D.S
/- The program's same: a call's step, a whole history, rows that are alike. -/
set_option linter.unusedVariables false
set_option linter.unusedSimpArgs false
namespace Go.Proofs.D.S
open Go Go.RowKit
variable {G G0 : GH} {L : List (Nat × Obj)}
/-- The map of the reader's, with something in it changed. -/
theorem Hp.setM {rid mid : Nat} {c : Cf} {k : KB} {es es' : List (V1 × V1)} {X : List (Nat × Obj)} (h : Hp G0 G (kbR k ++ (rdR rid mid c :: (mid, .map kks es) :: X))) :
    G.ents kks mid = some es ∧ Hp G0 (G.set mid (some (.map kks es'))) (kbR k ++ (rdR rid mid c :: (mid, .map kks es') :: X)) := by
  have h1 : Hp G0 G ((mid, .map kks es) :: _) := h.pick 3
  obtain ⟨m0, m1, _⟩ := Hp.ents (ks := kks) h1
  exact ⟨m1, (h1.set (o' := .map kks es') m0).back 3⟩
theorem Rdr.fin {rid mid : Nat} {c : Cf} {K : List (Int × KB)} {k : KB} {a : Int} (h : Hp G0 G (kbR k ++ (rdR rid mid c :: (mid, .map kks (mapPut (encM eAt ePt K) (eAt a) (ePt k))) :: (kbRs K ++ L)))) : Rdr G0 G L rid mid c (aPut K a k) := by
  rw [mapPut_enc eAt_inj] at h
  have h2 : Hp G0 G ([rdR rid mid c, rdM mid (aPut K a k)] ++ (kbR k ++ (kbRs K ++ L))) := h.perm (perm3 (kbR k) [rdR rid mid c, rdM mid (aPut K a k)] (kbRs K ++ L))
  exact h2.putK
/-- A new block's rows. -/
theorem Hp.newK (h : Hp G0 G L) (ch no : Int) : Hp G0 (G.alloc (.row [.int .i64 ch, .int .i64 no, .sl 1 0 0 0] false)) (kbR ⟨G.next, 0, ⟨ch, no, []⟩⟩ ++ L) :=
  ((h.alloc (.row [.int .i64 ch, .int .i64 no, .sl 1 0 0 0] false)).nil0 (e := eI)).pick 1
/-- What a step of the reader's leaves. -/
def DoOut (G0 : GH) (L : List (Nat × Obj)) (rid mid : Nat) (c : Cf) (tn : Nat) (r : List (Int × PB) × AnsV) (x : Option Res) : Prop :=
  ∃ (G' : GH) (K' : List (Int × KB)), x = some ([.agg (eAns r.2)], G') ∧ Rdr G0 G' L rid mid c K' ∧ prt K' = r.1 ∧ Tl K' (tn + 1)
theorem same_reader_does.sp {rid mid : Nat} {c : Cf} (ok : c.Ok) {K : List (Int × KB)} (h : Rdr G0 G L rid mid c K) {tn : Nat} (t : Tl K tn) (htn : tn ≤ 999999999) {o : OpV} (hs : R64 o.s) (ha : R64 o.a) (hn : R64 o.n) (a : AnsV) :
    DoOut G0 L rid mid c tn (doesS c (prt K) o a) (CW same_reader_does.id [.c (.ptr rid 0), .agg (eOp o), .agg (eAns a)] G) := by
  have hm : (1000000001 : Nat) ≤ most := by unfold most; decide
  have h0 : Hp G0 G (rdR rid mid c :: rdM mid K :: (kbRs K ++ L)) := h
  have hp := h0.ne
  have ld := fun off => h0.ld (off := off) hp
  obtain ⟨m0, m1, m2⟩ := Hp.ents (ks := kks) (h0.pick 1)
  have t1 : Tl K (tn + 1) := fun x hx => Nat.le_succ_of_le (t x hx)
  have ch := same_reader_charge.sp ok h0 (o := o) hs ha hn
  -- nothing of the reader's changes
  have same : ∀ a' : AnsV, doesS c (prt K) o a = (prt K, a') → DoOut G0 L rid mid c tn (doesS c (prt K) o a) (same_reader_does.J56 machW CW a'.err a'.at_ a'.n a'.byte a'.live a'.peak a'.mark a'.pages 0 0 0 0 0 0 0 0 G) := by
    intro a' e
    rw [e, same_reader_does.J56_eq]
    exact ⟨G, K, rfl, h, rfl, t1⟩
  have fin : ∀ (G' : GH) (K' : List (Int × KB)), Rdr G0 G' L rid mid c K' → doesS c (prt K) o a = (prt K', a) → Tl K' (tn + 1) → DoOut G0 L rid mid c tn (doesS c (prt K) o a) (same_reader_does.J56 machW CW a.err a.at_ a.n a.byte a.live a.peak a.mark a.pages 0 0 0 0 0 0 0 0 G') := by
    intro G' K' h' e t'
    rw [e, same_reader_does.J56_eq]
    exact ⟨G', K', rfl, h', rfl, t'⟩
  have news : ∀ no : Int, doesS c (prt K) o a = (aPut (prt K) a.at_ ⟨chargeO c o, no, []⟩, a) →
      (G.alloc (.row [.int .i64 (chargeO c o), .int .i64 no, .sl 1 0 0 0] false)).ents kks mid = some (encM eAt ePt K) ∧
      DoOut G0 L rid mid c tn (doesS c (prt K) o a) (same_reader_does.J56 machW CW a.err a.at_ a.n a.byte a.live a.peak a.mark a.pages 0 0 0 0 0 0 0 0 ((G.alloc (.row [.int .i64 (chargeO c o), .int .i64 no, .sl 1 0 0 0] false)).set mid (some (.map kks (mapPut (encM eAt ePt K) (eAt a.at_) (.c (.ptr G.next 0))))))) := by
    intro no e
    have h1 := h0.newK (chargeO c o) no
    obtain ⟨e1, h2⟩ := h1.setM (es' := mapPut (encM eAt ePt K) (eAt a.at_) (ePt ⟨G.next, 0, ⟨chargeO c o, no, []⟩⟩))
    refine ⟨e1, fin _ _ (Rdr.fin h2) ?_ (t.put (by omega) _ (by simp))⟩
    rw [e]
    show (aPut (valM KB.b K) a.at_ (KB.b ⟨G.next, 0, ⟨chargeO c o, no, []⟩⟩), a) = _
    rw [aPut_val]
  have main : ∀ tb : Bool, tb = decide (o.k = 1 ∨ o.k = 3) → DoOut G0 L rid mid c tn (doesS c (prt K) o a) (same_reader_does.J50 machW CW rid 0 o.k tb o.k o.p o.s o.a o.n o.b a.err a.at_ a.n a.byte a.live a.peak a.mark a.pages 0 0 0 0 0 0 0 0 o.p 0 G) := by
    intro tb htb
    subst htb
    rw [same_reader_does.J50_eq]
    by_cases k13 : o.k = 1 ∨ o.k = 3
    · rw [condD_pos k13]
      simp only [guardN hp, ld, q_bs, q_I, q_B, q_P, q_S, q_M, q_c, q_a, q_gz, q_gs, q_gk, q_ct, q_cf, q_nt, q_nf, q_xt, q_xf, q_tt, q_ff, q_tf, q_ft, q_at, q_af, Nat.zero_add]
      rw [ch]
      simp only [q_bs, q_I, q_B, q_P, q_S, q_M, q_c, q_a, q_gz, q_gs, q_gk, q_ct, q_cf, q_nt, q_nf, q_xt, q_xf, q_tt, q_ff, q_tf, q_ft, q_at, q_af, ld]
      rw [guardD_of trivial]
      obtain ⟨e1, e2⟩ := news 0 (by unfold doesS; rw [if_pos k13])
      rw [e1, q_bs]
      exact e2
    rw [condD_neg k13]
    by_cases k2 : o.k = 2
    · rw [condD_pos k2, ch]
      simp only [guardN hp, ld, q_bs, q_I, q_B, q_P, q_S, q_M, q_c, q_a, q_gz, q_gs, q_gk, q_ct, q_cf, q_nt, q_nf, q_xt, q_xf, q_tt, q_ff, q_tf, q_ft, q_at, q_af, Nat.zero_add]
      obtain ⟨e1, e2⟩ := news (chargeO c o) (by unfold doesS; rw [if_neg k13, if_pos k2])
      rw [e1, q_bs]
      exact e2
    rw [condD_neg k2]
    have getp : ∀ es, es = encM eAt ePt K → (mapGet es (.agg [.int .i64 o.p, .int .i64 0])).getD (.c (.ptr 0 0)) = .c (.ptr (bidO (aGet K o.p)) 0) := by
      intro es e
      subst e
      rw [show V1.agg [Cell.int .i64 o.p, Cell.int .i64 0] = eAt o.p from rfl, mapGet_enc eAt_inj, getD_ePt]
    by_cases k4 : o.k = 4
    · rw [condD_pos k4]
      simp only [guardN hp, ld, q_bs, q_I, q_B, q_P, q_S, q_M, q_c, q_a, q_gz, q_gs, q_gk, q_ct, q_cf, q_nt, q_nf, q_xt, q_xf, q_tt, q_ff, q_tf, q_ft, q_at, q_af, Nat.zero_add, m2]
      rw [getp _ rfl]
      simp only [q_bs, q_I, q_B, q_P, q_S, q_M, q_c, q_a, q_gz, q_gs, q_gk, q_ct, q_cf, q_nt, q_nf, q_xt, q_xf, q_tt, q_ff, q_tf, q_ft, q_at, q_af]
      rw [ch]
      simp only [q_bs, q_I, q_B, q_P, q_S, q_M, q_c, q_a, q_gz, q_gs, q_gk, q_ct, q_cf, q_nt, q_nf, q_xt, q_xf, q_tt, q_ff, q_tf, q_ft, q_at, q_af, ld]
      rw [guardD_of trivial]
      simp only [m2, q_bs, q_I, q_B, q_P, q_S, q_M, q_c, q_a, q_gz, q_gs, q_gk, q_ct, q_cf, q_nt, q_nf, q_xt, q_xf, q_tt, q_ff, q_tf, q_ft, q_at, q_af]
      rw [getp _ rfl]
      simp only [q_bs, q_I, q_B, q_P, q_S, q_M, q_c, q_a, q_gz, q_gs, q_gk, q_ct, q_cf, q_nt, q_nf, q_xt, q_xf, q_tt, q_ff, q_tf, q_ft, q_at, q_af]
      rw [guardD_of trivial]
      have hX : ∃ X, Hp G0 G (X ++ ([rdR rid mid c, rdM mid K] ++ (kbRs (aDel K o.p) ++ L))) ∧ ∀ b, aGet K o.p = some b → X = kbR b := by
        cases e : aGet K o.p with
        | none => exact ⟨[], by rw [aDel_none e]; exact h0, fun b hb => by cases hb⟩
        | some b => exact ⟨kbR b, Hp.getK (A := [rdR rid mid c, rdM mid K]) h0 e, fun b' hb => by cases hb; rfl⟩
      obtain ⟨X, hX, hXb⟩ := hX
      obtain ⟨k, G1, e1, h1, hk⟩ := same_moved.sp hX (ob := aGet K o.p) (fun b hb => ⟨_, by rw [hXb b hb], by have := t.get hb; omega⟩) (chargeO c o)
      have e1' : CW same_moved.id [.c (.ptr (bidO (aGet K o.p)) 0), .c (.int .i64 (chargeO c o))] G = some ([.c (.ptr k.bid 0)], G1) := e1
      rw [e1']
      simp only [q_bs, q_I, q_B, q_P, q_S, q_M, q_c, q_a, q_gz, q_gs, q_gk, q_ct, q_cf, q_nt, q_nf, q_xt, q_xf, q_tt, q_ff, q_tf, q_ft, q_at, q_af]
      have h2 : Hp G0 G1 (kbR k ++ (rdR rid mid c :: rdM mid K :: (kbRs (aDel K o.p) ++ L))) := h1.sub ((List.Sublist.refl _).append (List.sublist_append_right _ _))
      have ld2 := fun off => (h2.pick 2).ld (off := off) hp
      obtain ⟨e3, h3⟩ := h2.setM (es' := mapDel (encM eAt ePt K) (eAt o.p))
      have ld3 := fun off => (h3.pick 2).ld (off := off) hp
      simp only [ld2, q_bs, q_I, q_B, q_P, q_S, q_M, q_c, q_a, q_gz, q_gs, q_gk, q_ct, q_cf, q_nt, q_nf, q_xt, q_xf, q_tt, q_ff, q_tf, q_ft, q_at, q_af]
      rw [e3, q_bs]
      have ld3' : ∀ off, (G1.set mid (some (.map kks (mapDel (encM eAt ePt K) (.agg [.int .i64 o.p, .int .i64 0]))))).ld rid off = _ := ld3
      simp only [guardN hp, ld3', q_bs, q_I, q_B, q_P, q_S, q_M, q_c, q_a, q_gz, q_gs, q_gk, q_ct, q_cf, q_nt, q_nf, q_xt, q_xf, q_tt, q_ff, q_tf, q_ft, q_at, q_af]
      obtain ⟨e4, h4⟩ := h3.setM (es' := mapPut (encM eAt ePt (aDel K o.p)) (eAt a.at_) (ePt k))
      rw [mapDel_enc eAt_inj] at e4 h4
      have e4' : (G1.set mid (some (.map kks (mapDel (encM eAt ePt K) (.agg [.int .i64 o.p, .int .i64 0]))))).ents kks mid = some (encM eAt ePt (aDel K o.p)) := by
        rw [show V1.agg [Cell.int .i64 o.p, Cell.int .i64 0] = eAt o.p from rfl, mapDel_enc eAt_inj]; exact e4
      rw [e4', q_bs]
      rw [show V1.agg [Cell.int .i64 o.p, Cell.int .i64 0] = eAt o.p from rfl, mapDel_enc eAt_inj]
      have hkl : k.b.tl.length ≤ tn := by
        rw [hk]
        cases e : aGet K o.p with
        | none => simp [movedS]
        | some b => exact Nat.le_trans (List.length_filter_le _ _) (t.get e)
      refine fin _ _ (Rdr.fin h4) ?_ ((t.del _).put (by omega) _ (by omega))
      unfold doesS
      rw [if_neg k13, if_neg k2, if_pos k4, aDel_val, aGet_val, ← hk, aPut_val]
    rw [condD_neg k4]
    by_cases k5 : o.k = 5
    · rw [condD_pos k5]
      simp only [guardN hp, ld, q_bs, q_I, q_B, q_P, q_S, q_M, q_c, q_a, q_gz, q_gs, q_gk, q_ct, q_cf, q_nt, q_nf, q_xt, q_xf, q_tt, q_ff, q_tf, q_ft, q_at, q_af, Nat.zero_add, m1]
      have h1 := ((h0.pick 1).set (o' := .map kks (mapDel (encM eAt ePt K) (eAt o.p))) m0).pick 1
      rw [mapDel_enc eAt_inj] at h1
      have h2 : Rdr G0 (G.set mid (some (.map kks (encM eAt ePt (aDel K o.p))))) L rid mid c (aDel K o.p) := Hp.delK (A := [rdR rid mid c, rdM mid (aDel K o.p)]) h1
      rw [show V1.agg [Cell.int .i64 o.p, Cell.int .i64 0] = eAt o.p from rfl, mapDel_enc eAt_inj]
      refine fin _ _ h2 ?_ (t1.del _)
      unfold doesS
      rw [if_neg k13, if_neg k2, if_neg k4, if_pos k5, aDel_val]
    rw [condD_neg k5]
    by_cases k8 : o.k = 8
    · rw [condD_pos k8]
      simp only [guardN hp, ld, q_bs, q_I, q_B, q_P, q_S, q_M, q_c, q_a, q_gz, q_gs, q_gk, q_ct, q_cf, q_nt, q_nf, q_xt, q_xf, q_tt, q_ff, q_tf, q_ft, q_at, q_af, Nat.zero_add, m2]
      rw [getp _ rfl, show V1.agg [Cell.int .i64 o.p, Cell.int .i64 0] = eAt o.p from rfl, mapGet_enc eAt_inj, isSome_map']
      simp only [q_bs, q_I, q_B, q_P, q_S, q_M, q_c, q_a, q_gz, q_gs, q_gk, q_ct, q_cf, q_nt, q_nf, q_xt, q_xf, q_tt, q_ff, q_tf, q_ft, q_at, q_af]
      have ds : doesS c (prt K) o a = (match aGet (prt K) o.p with
          | some b => if b.knows o.n = true then (prt K, a) else (aPut (prt K) o.p { b with tl := b.tl ++ [o.n] }, a)
          | none => (prt K, a)) := by
        unfold doesS
        (rw [if_neg k13, if_neg k2, if_neg k4, if_neg k5, if_pos k8]) <;> rfl
      cases e : aGet K o.p with
      | none =>
        rw [Option.isSome_none, q_cf, same_reader_does.J26_eq, q_cf]
        refine same a ?_
        rw [ds, aGet_val, e]; rfl
      | some b =>
        rw [Option.isSome_some, q_ct, same_reader_knows.sp h t (by omega)]
        simp only [q_bs, q_I, q_B, q_P, q_S, q_M, q_c, q_a, q_gz, q_gs, q_gk, q_ct, q_cf, q_nt, q_nf, q_xt, q_xf, q_tt, q_ff, q_tf, q_ft, q_at, q_af]
        have kn : knowsS (prt K) o.p o.n = b.b.knows o.n := by unfold knowsS; rw [aGet_val, e]; rfl
        rw [kn, same_reader_does.J26_eq]
        have ds2 : doesS c (prt K) o a = if b.b.knows o.n = true then (prt K, a) else (aPut (prt K) o.p { b.b with tl := b.b.tl ++ [o.n] }, a) := by
          rw [ds, aGet_val, e]; rfl
        cases hk : b.b.knows o.n with
        | true =>
          rw [q_nt, q_cf]
          refine same a ?_
          rw [ds2, hk, if_pos rfl]
        | false =>
          rw [q_nf, q_ct]
          have h1 : Hp G0 G (kbR b ++ ([rdR rid mid c, rdM mid K] ++ (kbRs (aDel K o.p) ++ L))) := Hp.getK (A := [rdR rid mid c, rdM mid K]) h0 e
          have hb := h1.ne
          have lb := fun off => h1.ld (off := off) hb
          have tl := t.get e
          simp only [bidO, guardN hb, lb, q_bs, q_I, q_B, q_P, q_S, q_M, q_c, q_a, q_gz, q_gs, q_gk, q_ct, q_cf, q_nt, q_nf, q_xt, q_xf, q_tt, q_ff, q_tf, q_ft, q_at, q_af, Nat.zero_add]
          have hq : Hp G0 G (rowE eI b.tid b.b.tl :: (b.bid, .row [.int .i64 b.b.ch, .int .i64 b.b.no, .sl 1 b.tid 0 b.b.tl.length] false) :: ([rdR rid mid c, rdM mid K] ++ (kbRs (aDel K o.p) ++ L))) := h1.pick 1
          obtain ⟨tid2, G4, h4, k4'⟩ := Hp.app1 (S := Res) (e := eI) hq o.n (n := b.b.tl.length) rfl (by omega)
          rw [k4']
          dsimp only
          have h5 := h4.back 1
          obtain ⟨G5, h6, e6⟩ := h5.sts (off := 2) (new := [.sl 1 tid2 0 (b.b.tl.length + 1)]) hb (by simp)
          have e7 : (b.b.tl ++ [o.n]).length = b.b.tl.length + 1 := by simp
          rw [e6, q_bs]
          rw [← e7] at h6
          have h7 : Hp G0 G5 (kbR ⟨b.bid, tid2, ⟨b.b.ch, b.b.no, b.b.tl ++ [o.n]⟩⟩ ++ ([rdR rid mid c, rdM mid K] ++ (kbRs (aDel K o.p) ++ L))) := h6
          have h8 := Hp.backK (A := [rdR rid mid c, rdM mid K]) h7 e
          have h9 : Rdr G0 G5 L rid mid c (aPut K o.p ⟨b.bid, tid2, ⟨b.b.ch, b.b.no, b.b.tl ++ [o.n]⟩⟩) := by
            unfold Rdr rdM
            rw [encM_same (b := b) (b' := ⟨b.bid, tid2, ⟨b.b.ch, b.b.no, b.b.tl ++ [o.n]⟩⟩) rfl e]
            exact h8
          refine fin _ _ h9 ?_ (t.put (by omega) _ (by dsimp only; rw [e7]; omega))
          rw [ds2, hk, if_neg (by decide)]
          show (aPut (valM KB.b K) o.p (KB.b ⟨b.bid, tid2, ⟨b.b.ch, b.b.no, b.b.tl ++ [o.n]⟩⟩), a) = _
          rw [aPut_val]
    rw [condD_neg k8]
    by_cases k7 : o.k = 7
    · rw [condD_pos k7, same_reader_knows.sp h t (by omega)]
      simp only [q_bs, q_I, q_B, q_P, q_S, q_M, q_c, q_a, q_gz, q_gs, q_gk, q_ct, q_cf, q_nt, q_nf, q_xt, q_xf, q_tt, q_ff, q_tf, q_ft, q_at, q_af]
      have ds : doesS c (prt K) o a = (prt K, if knowsS (prt K) o.p o.n = true then a else { a with byte := 0 }) := by
        unfold doesS
        rw [if_neg k13, if_neg k2, if_neg k4, if_neg k5, if_neg k8, if_pos k7]
      cases hk : knowsS (prt K) o.p o.n with
      | true =>
        rw [q_nt, q_cf]
        exact same a (by rw [ds, hk, if_pos rfl])
      | false =>
        rw [q_nf, q_ct]
        exact same { a with byte := 0 } (by rw [ds, hk, if_neg (by decide)])
    rw [condD_neg k7]
    by_cases k10 : o.k = 10
    · rw [condD_pos k10]
      refine same { a with pages := 0 } ?_
      unfold doesS
      rw [if_neg k13, if_neg k2, if_neg k4, if_neg k5, if_neg k8, if_neg k7, if_pos k10]
    · rw [condD_neg k10]
      refine same a ?_
      unfold doesS
      rw [if_neg k13, if_neg k2, if_neg k4, if_neg k5, if_neg k8, if_neg k7, if_neg k10]
  rw [same_reader_does.cw]
  unfold same_reader_does.f
  by_cases k1 : o.k = 1
  · rw [condD_pos k1]; exact main _ (by rw [decide_eq_true k1, decide_eq_true (.inl k1)])
  · rw [condD_neg k1]; exact main _ (by simp only [k1, false_or])
theorem same_Plain.sp (h : Hp G0 G L) {c : Cf} (ok : c.Ok) {pi po ai ao : Nat} {ops : List OpV} {ans : List AnsV} (so : Rd G0 L eOp pi po ops) (sa : Rd G0 L eAns ai ao ans) (hin : ∀ o ∈ ops, R64 o.s ∧ R64 o.a ∧ R64 o.n) (hl : ops.length ≤ 100000000) (hla : ans.length ≤ 100000000) :
    ∃ oi G', CW same_Plain.id [.agg (cfC c), .c (.sl 6 pi po ops.length), .c (.sl 8 ai ao ans.length)] G = some ([.c (.sl 8 oi 0 (plainP c ops ans).length)], G') ∧ Hp G0 G' (rowE eAns oi (plainP c ops ans) :: L) := by
  have hm : (1000000001 : Nat) ≤ most := by unfold most; decide
  rw [same_Plain.cw]
  unfold same_Plain.f plainP
  by_cases hlen : ops.length = ans.length
  · rw [condN_neg (by omega), if_pos hlen]
    dsimp only
    have h1 := (h.alloc (.map kks (encM eAt ePt [])))
    have hG1' : G.alloc (.map (.agg [.int .i64, .int .i64]) []) = G.alloc (.map kks (encM eAt ePt [])) := rfl
    rw [hG1']
    generalize G.alloc (.map kks (encM eAt ePt [])) = G1 at h1 ⊢
    have h2 : Hp G0 _ (rdR G1.next G.next c :: rdM G.next [] :: L) := h1.alloc _
    have eG2 : G1.alloc (.row [.int .i64 c.G, .int .i64 c.N, .int .i64 c.M, .int .i64 c.L, .int .i64 c.Pg, .int .i64 c.P, .int .i64 c.H, .int .i64 c.Sd, .map G.next] false) = G1.alloc (rdR G1.next G.next c).2 := rfl
    rw [eG2]
    generalize G1.alloc (rdR G1.next G.next c).2 = G2 at h2 ⊢
    generalize G1.next = rid at *
    generalize G.next = mid at *
    have lp : ∀ (d i : Nat) (K : List (Int × KB)) (oi : Nat) (acc : List AnsV) (G3 : GH), i + d = ops.length → acc.length ≤ i → Rdr G0 G3 (rowE eAns oi acc :: L) rid mid c K → Tl K i → acc ++ plainS c (prt K) (ops.drop i) (ans.drop i) = plainS c [] ops ans →
        ∃ oi' G', same_Plain.L26 machW CW ai ao ans.length oi 0 acc.length rid 0 pi po ops.length ((ops.length : Nat) : Int) (i : Int) G3 = some ([.c (.sl 8 oi' 0 (plainS c [] ops ans).length)], G') ∧ Hp G0 G' (rowE eAns oi' (plainS c [] ops ans) :: L) := by
      intro d
      induction d with
      | zero =>
        intro i K oi acc G3 hi ha h3 t e
        rw [List.drop_of_length_le (by omega)] at e
        have e0 : plainS c (prt K) ([] : List OpV) (ans.drop i) = [] := by unfold plainS; rfl
        rw [e0, List.append_nil] at e
        rw [same_Plain.L26_eq, condD_neg (by omega), ← e]
        have h4 : Hp G0 G3 (rdR rid mid c :: rdM mid K :: (kbRs K ++ (rowE eAns oi acc :: L))) := h3
        exact ⟨oi, G3, rfl, h4.sub (.cons _ (.cons _ (List.sublist_append_right _ _)))⟩
      | succ d ih =>
        intro i K oi acc G3 hi ha h3 t e
        have hil : i < ops.length := by omega
        have hia : i < ans.length := by omega
        have ed : ops.drop i = ops[i] :: ops.drop (i + 1) := List.drop_eq_getElem_cons hil
        have ea : ans.drop i = ans[i] :: ans.drop (i + 1) := List.drop_eq_getElem_cons hia
        have zi : decide (0 ≤ (i : Int) ∧ (i : Int) < ((ops.length : Nat) : Int)) = true := decide_eq_true (by omega)
        have za : decide (0 ≤ (i : Int) ∧ (i : Int) < ((ans.length : Nat) : Int)) = true := decide_eq_true (by omega)
        have h4 : Hp G0 G3 (rdR rid mid c :: rdM mid K :: (kbRs K ++ (rowE eAns oi acc :: L))) := h3
        have hL : Hp G0 G3 L := h4.sub (.cons _ (.cons _ ((List.sublist_cons_self _ _).trans (List.sublist_append_right _ _))))
        have so3 := so _ hL
        have sa3 := sa _ hL
        have ho := hin _ (List.getElem_mem hil)
        rw [ed, ea] at e
        simp only [plainS] at e
        have q0 := so3.ld i 0 hil (by omega)
        have q1 := so3.ld i 1 hil (by omega)
        have q2 := so3.ld i 2 hil (by omega)
        have q3 := so3.ld i 3 hil (by omega)
        have q4 := so3.ld i 4 hil (by omega)
        have q5 := so3.ld i 5 hil (by omega)
        have r0 := sa3.ld i 0 hia (by omega)
        have r1 := sa3.ld i 1 hia (by omega)
        have r2 := sa3.ld i 2 hia (by omega)
        have r3 := sa3.ld i 3 hia (by omega)
        have r4 := sa3.ld i 4 hia (by omega)
        have r5 := sa3.ld i 5 hia (by omega)
        have r6 := sa3.ld i 6 hia (by omega)
        have r7 := sa3.ld i 7 hia (by omega)
        generalize ops[i] = o at *
        generalize ans[i] = a at *
        rw [same_Plain.L26_eq, condD_pos (by omega)]
        simp only [zi, za, Int.toNat_natCast, q0, q1, q2, q3, q4, q5, r0, q_bs, q_I, q_B, q_P, q_S, q_M, q_c, q_a, q_gz, q_gs, q_gk, q_ct, q_cf, q_nt, q_nf, q_xt, q_xf, q_tt, q_ff, q_tf, q_ft, q_at, q_af]
        have nxt : ∀ (K : List (Int × KB)) (oi : Nat) (acc : List AnsV) (G3 : GH), acc.length ≤ i + 1 → Rdr G0 G3 (rowE eAns oi acc :: L) rid mid c K → Tl K (i + 1) → acc ++ plainS c (prt K) (ops.drop (i + 1)) (ans.drop (i + 1)) = plainS c [] ops ans →
            ∃ oi' G', same_Plain.J22 machW CW ai ao ans.length oi 0 acc.length rid 0 pi po ops.length ((ops.length : Nat) : Int) (i : Int) G3 = some ([.c (.sl 8 oi' 0 (plainS c [] ops ans).length)], G') ∧ Hp G0 G' (rowE eAns oi' (plainS c [] ops ans) :: L) := by
          intro K oi acc G3 ha h3 t e
          rw [same_Plain.J22_eq, i64w, wrap_id (by omega) (by omega)]
          exact ih (i + 1) K oi acc G3 (by omega) ha h3 t e
        have mid2 : ∀ tb : Bool, tb = decide (a.err = 0 ∧ o.k ≠ 9) → ∃ oi' G', same_Plain.J18 machW CW ai ao ans.length oi 0 acc.length rid 0 (i : Int) pi po ops.length ((ops.length : Nat) : Int) (i : Int) tb o.k o.p o.s o.a o.n o.b G3 = some ([.c (.sl 8 oi' 0 (plainS c [] ops ans).length)], G') ∧ Hp G0 G' (rowE eAns oi' (plainS c [] ops ans) :: L) := by
          intro tb htb
          subst htb
          rw [same_Plain.J18_eq]
          by_cases hc : a.err = 0 ∧ o.k ≠ 9
          · rw [condD_pos hc]
            rw [if_pos hc] at e
            simp only [za, Int.toNat_natCast, r0, r1, r2, r3, r4, r5, r6, r7, q_bs, q_I, q_B, q_P, q_S, q_M, q_c, q_a, q_gz, q_gs, q_gk, q_ct, q_cf, q_nt, q_nf, q_xt, q_xf, q_tt, q_ff, q_tf, q_ft, q_at, q_af]
            obtain ⟨G4, K4, e4, h4, p4, t4⟩ := same_reader_does.sp ok h3 t (by omega) (o := o) ho.1 ho.2.1 ho.2.2 a
            rw [e4]
            simp only [q_bs, q_I, q_B, q_P, q_S, q_M, q_c, q_a, q_gz, q_gs, q_gk, q_ct, q_cf, q_nt, q_nf, q_xt, q_xf, q_tt, q_ff, q_tf, q_ft, q_at, q_af, List.length_cons, List.length_nil, if_true]
            have h5 : Hp G0 G4 ((rdR rid mid c :: rdM mid K4 :: kbRs K4) ++ (rowE eAns oi acc :: L)) := h4
            have h6 : Hp G0 G4 (rowE eAns oi acc :: ((rdR rid mid c :: rdM mid K4 :: kbRs K4) ++ L)) := h5.perm (perm3 _ [rowE eAns oi acc] L)
            obtain ⟨oi2, G5, h7, k7⟩ := Hp.app1 (S := Res) h6 (doesS c (prt K) o a).2 (n := acc.length) rfl (by omega)
            rw [k7]
            dsimp only
            have h8 : Hp G0 G5 ((rdR rid mid c :: rdM mid K4 :: kbRs K4) ++ (rowE eAns oi2 (acc ++ [(doesS c (prt K) o a).2]) :: L)) := h7.perm (perm3 [rowE eAns oi2 (acc ++ [(doesS c (prt K) o a).2])] (rdR rid mid c :: rdM mid K4 :: kbRs K4) L)
            have e9 : (acc ++ [(doesS c (prt K) o a).2]).length = acc.length + 1 := by simp
            rw [← e9]
            exact nxt K4 oi2 _ G5 (by omega) h8 t4 (by rw [← e, p4, List.append_assoc]; rfl)
          · rw [condD_neg hc]
            rw [if_neg hc] at e
            exact nxt K oi acc G3 (by omega) h3 (fun x hx => Nat.le_succ_of_le (t x hx)) e
        by_cases he : a.err = 0
        · rw [condD_pos he]; exact mid2 _ (by simp [he])
        · rw [condD_neg he]; exact mid2 _ (by simp [he])
    exact lp ops.length 0 [] 0 [] G2 (by omega) (by simp) (by
      have := (h2.nil0 (e := eAns)).back 2
      exact this) (fun x hx => by cases hx) (by rw [List.drop_zero, List.drop_zero]; rfl)
  · rw [condN_pos (by omega), if_neg hlen]
    exact ⟨0, G, rfl, h.nil0⟩
/-- Are rows alike? -/
theorem ans_eq (a b : AnsV) : (decide (a.err = b.err) && (decide (a.at_ = b.at_) && (decide (a.n = b.n) && (decide (a.byte = b.byte) && (decide (a.live = b.live) && (decide (a.peak = b.peak) && (decide (a.mark = b.mark) && (decide (a.pages = b.pages) && true)))))))) = decide (a = b) := by
  cases a; cases b
  simp [AnsV.mk.injEq, Bool.decide_and]
theorem api_Ans.lp {ai ao bi bo : Nat} {a b : List AnsV} (sa : Sl G eAns ai ao a) (sb : Sl G eAns bi bo b) (hl : a.length = b.length) (hn : a.length ≤ 1000000000) : ∀ (d k : Nat), k + d = a.length →
    api_Ans.L27 machW CW ai ao a.length bi bo b.length ((a.length : Nat) : Int) (k : Int) G = some ([.c (.bool (decide (a.drop k = b.drop k)))], G)
  | 0, k, hk => by
    rw [api_Ans.L27_eq, condD_neg (by omega), List.drop_of_length_le (by omega), List.drop_of_length_le (by omega), decide_eq_true rfl]
  | d + 1, k, hk => by
    have ha : k < a.length := by omega
    have hb : k < b.length := by omega
    have ea : a.drop k = a[k] :: a.drop (k + 1) := List.drop_eq_getElem_cons ha
    have eb : b.drop k = b[k] :: b.drop (k + 1) := List.drop_eq_getElem_cons hb
    have za : decide (0 ≤ (k : Int) ∧ (k : Int) < ((a.length : Nat) : Int)) = true := decide_eq_true (by omega)
    have zb : decide (0 ≤ (k : Int) ∧ (k : Int) < ((b.length : Nat) : Int)) = true := decide_eq_true (by omega)
    rw [api_Ans.L27_eq, condD_pos (by omega)]
    simp only [za, zb, Int.toNat_natCast, sa.ld k 0 ha (by omega), sa.ld k 1 ha (by omega), sa.ld k 2 ha (by omega), sa.ld k 3 ha (by omega), sa.ld k 4 ha (by omega), sa.ld k 5 ha (by omega), sa.ld k 6 ha (by omega), sa.ld k 7 ha (by omega), sb.ld k 0 hb (by omega), sb.ld k 1 hb (by omega), sb.ld k 2 hb (by omega), sb.ld k 3 hb (by omega), sb.ld k 4 hb (by omega), sb.ld k 5 hb (by omega), sb.ld k 6 hb (by omega), sb.ld k 7 hb (by omega), q_bs, q_I, q_B, q_P, q_S, q_M, q_c, q_a, q_gz, q_gs, q_gk, q_ct, q_cf, q_nt, q_nf, q_xt, q_xf, q_tt, q_ff, q_tf, q_ft, q_at, q_af]
    rw [ans_eq, ea, eb, i64w, wrap_id (by omega) (by omega)]
    by_cases h : a[k] = b[k]
    · rw [decide_eq_true h, q_nt, q_cf]
      have := api_Ans.lp sa sb hl hn d (k + 1) (by omega)
      have e2 : decide (a[k] :: a.drop (k + 1) = b[k] :: b.drop (k + 1)) = decide (a.drop (k + 1) = b.drop (k + 1)) := decide_eq_decide.2 ⟨fun e => (List.cons.inj e).2, fun e => by rw [h, e]⟩
      rw [show (k : Int) + 1 = ((k + 1 : Nat) : Int) by omega, this, e2]
    · rw [decide_eq_false h, q_nf, q_ct, decide_eq_false (fun e => h (List.cons.inj e).1)]
theorem api_Ans.sp {ai ao bi bo : Nat} {a b : List AnsV} (sa : Sl G eAns ai ao a) (sb : Sl G eAns bi bo b) (hn : a.length ≤ 1000000000) : CW api_Ans.id [.c (.sl 8 ai ao a.length), .c (.sl 8 bi bo b.length)] G = some ([.c (.bool (decide (a = b)))], G) := by
  rw [api_Ans.cw]
  unfold api_Ans.f
  by_cases h : a.length = b.length
  · rw [condN_neg (by omega)]
    exact api_Ans.lp sa sb h hn a.length 0 (by omega)
  · rw [condN_pos (by omega), decide_eq_false (fun e => h (by rw [e]))]
theorem same_Same.sp {ai ao bi bo : Nat} {a b : List AnsV} (sa : Sl G eAns ai ao a) (sb : Sl G eAns bi bo b) (hn : a.length ≤ 1000000000) : CW same_Same.id [.c (.sl 8 ai ao a.length), .c (.sl 8 bi bo b.length)] G = some ([.c (.bool (decide (a = b)))], G) := by
  rw [same_Same.cw]
  unfold same_Same.f
  rw [api_Ans.sp sa sb hn]
  simp only [q_bs, q_I, q_B, q_P, q_S, q_M, q_c, q_a, q_gz, q_gs, q_gk, q_ct, q_cf, q_nt, q_nf, q_xt, q_xf, q_tt, q_ff, q_tf, q_ft, q_at, q_af]
end Go.Proofs.D.S
/- SameForms: the law answers yes. -/
set_option linter.unusedVariables false
set_option linter.unusedSimpArgs false
namespace Go.Proofs.D.S
open Go Go.RowKit
def opsF : List OpV := [⟨2, 0, 3, 0, 1, 0⟩, ⟨7, 0, 0, 0, 3, 0⟩, ⟨1, 0, 2, 0, 0, 0⟩, ⟨8, 4, 0, 0, 1, 7⟩, ⟨4, 4, 8, 0, 0, 0⟩, ⟨7, 8, 0, 0, 1, 0⟩, ⟨7, 8, 0, 0, 0, 0⟩, ⟨4, 0, 8, 0, 0, 0⟩, ⟨7, 0, 0, 0, 3, 0⟩, ⟨7, 0, 0, 0, 4, 0⟩, ⟨5, 8, 0, 0, 0, 0⟩, ⟨1, 0, 8, 0, 0, 0⟩, ⟨7, 8, 0, 0, 1, 0⟩]
def ansF : List AnsV := [⟨0, 0, 0, 0, 0, 0, 0, 0⟩, ⟨0, 0, 0, 0, 0, 0, 0, 0⟩, ⟨0, 4, 0, 0, 0, 0, 0, 0⟩, ⟨0, 0, 0, 0, 0, 0, 0, 0⟩, ⟨0, 8, 0, 0, 0, 0, 0, 0⟩, ⟨0, 0, 0, 7, 0, 0, 0, 0⟩, ⟨0, 0, 0, 32, 0, 0, 0, 0⟩, ⟨0, 0, 0, 0, 0, 0, 0, 0⟩, ⟨0, 0, 0, 0, 0, 0, 0, 0⟩, ⟨0, 0, 0, 32, 0, 0, 0, 0⟩, ⟨0, 0, 0, 0, 0, 0, 0, 0⟩, ⟨0, 8, 0, 0, 0, 0, 0, 0⟩, ⟨0, 0, 0, 7, 0, 0, 0, 0⟩]
def outF : List AnsV := [⟨0, 0, 0, 0, 0, 0, 0, 0⟩, ⟨0, 0, 0, 0, 0, 0, 0, 0⟩, ⟨0, 4, 0, 0, 0, 0, 0, 0⟩, ⟨0, 0, 0, 0, 0, 0, 0, 0⟩, ⟨0, 8, 0, 0, 0, 0, 0, 0⟩, ⟨0, 0, 0, 7, 0, 0, 0, 0⟩, ⟨0, 0, 0, 0, 0, 0, 0, 0⟩, ⟨0, 0, 0, 0, 0, 0, 0, 0⟩, ⟨0, 0, 0, 0, 0, 0, 0, 0⟩, ⟨0, 0, 0, 0, 0, 0, 0, 0⟩, ⟨0, 0, 0, 0, 0, 0, 0, 0⟩, ⟨0, 8, 0, 0, 0, 0, 0, 0⟩, ⟨0, 0, 0, 0, 0, 0, 0, 0⟩]
def cF : Cf := ⟨1, 8, 16, 3, 8, 99, 40, 3⟩
theorem cF_of : ofC ⟨1, 8, 16, 8, 99, 3⟩ = (cF, 0) := by kernel_rfl
theorem cF_ok : cF.Ok := by
  have h := ofC_ok (r := ⟨1, 8, 16, 8, 99, 3⟩) (by rw [cF_of])
  rw [cF_of] at h; exact h
theorem ansF_eq : (allM (newM cF) opsF).2 = ansF := by kernel_rfl
theorem outF_eq : plainP cF opsF ansF = outF := by kernel_rfl
theorem outF_none : plainP cF opsF (ansF.take 5) = [] := by kernel_rfl
theorem hodmanlaw24_SameForms.law {G : GH} (hG : Beg G) : OkT (CW hodmanlaw24_SameForms.id [] G) := by
  obtain ⟨G1, e1, f1⟩ := hodmanlaw24_begun.sp hG
  rw [hodmanlaw24_SameForms.cw]
  unfold hodmanlaw24_SameForms.f
  simp only [e1, q_bs, q_I, q_B, q_P, q_S, q_M, q_c, q_a, q_gz, q_gs, q_gk, q_ct, q_cf, q_nt, q_nf, q_xt, q_xf, q_tt, q_ff, q_tf, q_ft, q_at, q_af]
  have ok := cF_ok
  obtain ⟨oi, mi, G4, e4, h4, s4, no, nm⟩ := hodmanref17_New.spV f1.wf cF_of ok
  have e4' : CW hodmanref17_New.id [.agg [.int .i64 1, .int .i64 8, .int .i64 16, .int .i64 8, .int .i64 99, .int .i64 3]] G1 = _ := e4
  rw [e4']
  clear e4 e4'
  simp only [q_bs, q_I, q_B, q_P, q_S, q_M, q_c, q_a, q_gz, q_gs, q_gk, q_ct, q_cf, q_nt, q_nf, q_xt, q_xf, q_tt, q_ff, q_tf, q_ft, q_at, q_af, List.length_cons, List.length_nil, if_true]
  have okm := newM_ok ok
  have hin : ∀ o ∈ opsF, R64 o.s ∧ R64 o.a ∧ R64 o.n := by decide +kernel
  have h5 := (Hp.refl h4.wf).alloc (.row (cells eOp opsF) false)
  have eo : G4.alloc (.row [.int .i64 2, .int .i64 0, .int .i64 3, .int .i64 0, .int .i64 1, .int .u8 0, .int .i64 7, .int .i64 0, .int .i64 0, .int .i64 0, .int .i64 3, .int .u8 0, .int .i64 1, .int .i64 0, .int .i64 2, .int .i64 0, .int .i64 0, .int .u8 0, .int .i64 8, .int .i64 4, .int .i64 0, .int .i64 0, .int .i64 1, .int .u8 7, .int .i64 4, .int .i64 4, .int .i64 8, .int .i64 0, .int .i64 0, .int .u8 0, .int .i64 7, .int .i64 8, .int .i64 0, .int .i64 0, .int .i64 1, .int .u8 0, .int .i64 7, .int .i64 8, .int .i64 0, .int .i64 0, .int .i64 0, .int .u8 0, .int .i64 4, .int .i64 0, .int .i64 8, .int .i64 0, .int .i64 0, .int .u8 0, .int .i64 7, .int .i64 0, .int .i64 0, .int .i64 0, .int .i64 3, .int .u8 0, .int .i64 7, .int .i64 0, .int .i64 0, .int .i64 0, .int .i64 4, .int .u8 0, .int .i64 5, .int .i64 8, .int .i64 0, .int .i64 0, .int .i64 0, .int .u8 0, .int .i64 1, .int .i64 0, .int .i64 8, .int .i64 0, .int .i64 0, .int .u8 0, .int .i64 7, .int .i64 8, .int .i64 0, .int .i64 0, .int .i64 1, .int .u8 0] false) = G4.alloc (.row (cells eOp opsF) false) := rfl
  rw [eo]
  have s5 := s4.keep h5
  have so : Sl (G4.alloc (.row (cells eOp opsF) false)) eOp G4.next 0 opsF := h5.sl0
  have ids : 0 < (G4.alloc (.row (cells eOp opsF) false)).next ∧ oi < (G4.alloc (.row (cells eOp opsF) false)).next ∧ mi < (G4.alloc (.row (cells eOp opsF) false)).next := by
    have w := h5.wf.2
    have x := h4.wf.2
    have y := h5.nx
    have q : ∀ {i : Nat}, Nw G1 G4 0 i → i < (G4.alloc (.row (cells eOp opsF) false)).next := fun h => by
      rcases h with h | h | ⟨a, b⟩ <;> omega
    exact ⟨by omega, q no, q nm⟩
  generalize G4.alloc (.row (cells eOp opsF) false) = G5 at *
  generalize G4.next = oid at *
  obtain ⟨bi', oi', mi', ai, G7, e7, h7, s7, _⟩ := hodmanref17_All.sp h5.wf okm s5 ids so hin (by decide)
  have ol : opsF.length = 13 := rfl
  have al : ansF.length = 13 := rfl
  have xl : outF.length = 13 := rfl
  rw [ansF_eq, ol] at e7
  rw [ansF_eq] at h7
  simp only [newM] at e7 ⊢
  rw [e7]
  clear e7
  simp only [q_bs, q_I, q_B, q_P, q_S, q_M, q_c, q_a, q_gz, q_gs, q_gk, q_ct, q_cf, q_nt, q_nf, q_xt, q_xf, q_tt, q_ff, q_tf, q_ft, q_at, q_af, List.length_cons, List.length_nil, if_true]
  have h8 := h5.trans h7
  obtain ⟨xi, G9, e9, h9⟩ := same_Plain.sp h8 ok (pi := oid) (po := 0) (ai := ai) (ao := 0) (ops := opsF) (ans := ansF) (fun G h => h.sl (by simp)) (fun G h => h.sl (by simp)) hin (by decide) (by decide)
  rw [outF_eq, ol] at e9
  rw [outF_eq] at h9
  rw [e9]
  simp only [q_bs, q_I, q_B, q_P, q_S, q_M, q_c, q_a, q_gz, q_gs, q_gk, q_ct, q_cf, q_nt, q_nf, q_xt, q_xf, q_tt, q_ff, q_tf, q_ft, q_at, q_af]
  have sa := h9.sl (e := eAns) (id := ai) (xs := ansF) (by simp)
  have sx := h9.sl0
  have good : ∀ i (h : i < 13), (ansF[i]'h).err = 0 ∧ (outF[i]'h).at_ = (ansF[i]'h).at_ := by decide
  rw [al, xl] at *
  rw [condN_neg (by decide), hodmanlaw24_SameForms.J17_eq, show decide (((13 : Nat) : Int) = 13) = true from rfl, q_nt, q_cf]
  have lp : ∀ (d i : Nat), i + d = 13 → OkT (hodmanlaw24_SameForms.L36 machW CW oid 0 13 ai 0 13 xi 0 13 (i : Int) cF.G cF.N cF.M cF.L cF.Pg cF.P cF.H cF.Sd 0 0 ([] : List Blk).length 0 0 0 oi 0 (tab (cF.H / cF.Pg).toNat fun _ => false).length mi 0 (tab cF.H.toNat fun _ => (0 : Int)).length G9) := by
    intro d
    induction d with
    | zero =>
      intro i hi
      obtain rfl : i = 13 := by omega
      rw [hodmanlaw24_SameForms.L36_eq, condD_neg (by decide)]
      have a4 : G9.ld ai (0 + Int.toNat 4 * 8 + 1) = some (.int .i64 8) := sa.ld 4 1 (by decide) (by decide)
      have x1 : G9.ld xi (0 + Int.toNat 1 * 8 + 3) = some (.int .u8 0) := sx.ld 1 3 (by decide) (by decide)
      have x5 : G9.ld xi (0 + Int.toNat 5 * 8 + 3) = some (.int .u8 7) := sx.ld 5 3 (by decide) (by decide)
      have x6 : G9.ld xi (0 + Int.toNat 6 * 8 + 3) = some (.int .u8 0) := sx.ld 6 3 (by decide) (by decide)
      have x8 : G9.ld xi (0 + Int.toNat 8 * 8 + 3) = some (.int .u8 0) := sx.ld 8 3 (by decide) (by decide)
      have x9 : G9.ld xi (0 + Int.toNat 9 * 8 + 3) = some (.int .u8 0) := sx.ld 9 3 (by decide) (by decide)
      have x12 : G9.ld xi (0 + Int.toNat 12 * 8 + 3) = some (.int .u8 0) := sx.ld 12 3 (by decide) (by decide)
      have a12 : G9.ld ai (0 + Int.toNat 12 * 8 + 3) = some (.int .u8 7) := sa.ld 12 3 (by decide) (by decide)
      rw [guardD_of (by decide), a4]
      simp only [q_bs, q_I, q_B, q_P, q_S, q_M, q_c, q_a, q_gz, q_gs, q_gk, q_ct, q_cf, q_nt, q_nf, q_xt, q_xf, q_tt, q_ff, q_tf, q_ft, q_at, q_af, decide_true]
      rw [guardD_of (by decide), x1]
      simp only [q_bs, q_I, q_B, q_P, q_S, q_M, q_c, q_a, q_gz, q_gs, q_gk, q_ct, q_cf, q_nt, q_nf, q_xt, q_xf, q_tt, q_ff, q_tf, q_ft, q_at, q_af, decide_true]
      rw [guardD_of (by decide), x5]
      simp only [q_bs, q_I, q_B, q_P, q_S, q_M, q_c, q_a, q_gz, q_gs, q_gk, q_ct, q_cf, q_nt, q_nf, q_xt, q_xf, q_tt, q_ff, q_tf, q_ft, q_at, q_af, decide_true]
      rw [guardD_of (by decide), x6]
      simp only [q_bs, q_I, q_B, q_P, q_S, q_M, q_c, q_a, q_gz, q_gs, q_gk, q_ct, q_cf, q_nt, q_nf, q_xt, q_xf, q_tt, q_ff, q_tf, q_ft, q_at, q_af, decide_true]
      rw [guardD_of (by decide), x8]
      simp only [q_bs, q_I, q_B, q_P, q_S, q_M, q_c, q_a, q_gz, q_gs, q_gk, q_ct, q_cf, q_nt, q_nf, q_xt, q_xf, q_tt, q_ff, q_tf, q_ft, q_at, q_af, decide_true]
      rw [guardD_of (by decide), x9]
      simp only [q_bs, q_I, q_B, q_P, q_S, q_M, q_c, q_a, q_gz, q_gs, q_gk, q_ct, q_cf, q_nt, q_nf, q_xt, q_xf, q_tt, q_ff, q_tf, q_ft, q_at, q_af, decide_true]
      rw [guardD_of (by decide), x12]
      simp only [q_bs, q_I, q_B, q_P, q_S, q_M, q_c, q_a, q_gz, q_gs, q_gk, q_ct, q_cf, q_nt, q_nf, q_xt, q_xf, q_tt, q_ff, q_tf, q_ft, q_at, q_af, decide_true]
      rw [guardD_of (by decide), a12]
      simp only [q_bs, q_I, q_B, q_P, q_S, q_M, q_c, q_a, q_gz, q_gs, q_gk, q_ct, q_cf, q_nt, q_nf, q_xt, q_xf, q_tt, q_ff, q_tf, q_ft, q_at, q_af, decide_true]
      rw [guardD_of (by decide)]
      obtain ⟨zi, G10, e10, h10⟩ := same_Plain.sp h9 ok (pi := oid) (po := 0) (ai := ai) (ao := 0 + Int.toNat 0 * 8) (ops := opsF) (ans := ansF.take 5) (fun G h => h.sl (by simp)) (fun G h => (h.sl (e := eAns) (id := ai) (xs := ansF) (by simp)).sub 0 5 (by decide)) hin (by decide) (by decide)
      rw [outF_none, ol] at e10
      rw [show Int.toNat 5 - Int.toNat 0 = (ansF.take 5).length from rfl, e10]
      simp only [q_bs, q_I, q_B, q_P, q_S, q_M, q_c, q_a, q_gz, q_gs, q_gk, q_ct, q_cf, q_nt, q_nf, q_xt, q_xf, q_tt, q_ff, q_tf, q_ft, q_at, q_af, List.length_nil]
      exact ⟨_, rfl⟩
    | succ d ih =>
      intro i hi
      have hil : i < 13 := by omega
      obtain ⟨g1, g2⟩ := good i hil
      rw [hodmanlaw24_SameForms.L36_eq, condD_pos (by omega), guardD_of (by omega), Int.toNat_natCast, sa.ld i 0 hil (by omega)]
      simp only [q_bs, q_I, q_B, q_P, q_S, q_M, q_c, q_a, q_gz, q_gs, q_gk, q_ct, q_cf, q_nt, q_nf, q_xt, q_xf, q_tt, q_ff, q_tf, q_ft, q_at, q_af]
      rw [condN_neg g1, guardD_of (by omega), sx.ld i 1 hil (by omega)]
      simp only [q_bs, q_I, q_B, q_P, q_S, q_M, q_c, q_a, q_gz, q_gs, q_gk, q_ct, q_cf, q_nt, q_nf, q_xt, q_xf, q_tt, q_ff, q_tf, q_ft, q_at, q_af]
      rw [guardD_of (by omega), sa.ld i 1 hil (by omega)]
      simp only [q_bs, q_I, q_B, q_P, q_S, q_M, q_c, q_a, q_gz, q_gs, q_gk, q_ct, q_cf, q_nt, q_nf, q_xt, q_xf, q_tt, q_ff, q_tf, q_ft, q_at, q_af]
      rw [decide_eq_true g2, q_nt, hodmanlaw24_SameForms.J30_eq, q_cf, i64w, wrap_id (by omega) (by omega)]
      exact ih (i + 1) (by omega)
  exact lp 13 0 (by omega)
end Go.Proofs.D.S
