/- Texts of the proof (DMap, SpMapC, DSrt, DSame, SpSame, SpSame2, DFail, SpRefPlain, DPut, SpRefPlain2, DAlike, DAlike2, DAlike3, DRefSame, LawSameAll, DPair, DAgg, DAns8); no condition. -/
import Derived.Test.YtdanddamihficaaSameAlli
import Derived.Deep.Slices
import Derived.OpenShut
import Derived.Test.YtdanddamihficaaFb
import Derived.Lib.SmallJoins
set_option linter.unusedSimpArgs false
set_option linter.unusedVariables false
/- Maps as rows of pairs. -/
set_option linter.unusedVariables false
namespace Go.Proofs.D.S
open Go
section
variable {κ β : Type}
/-- No key twice. -/
def NoDup (l : List (κ × β)) : Prop := l.Pairwise fun a b => a.1 ≠ b.1
theorem NoDup.perm {l l' : List (κ × β)} (d : NoDup l) (p : l.Perm l') : NoDup l' := (p.pairwise_iff (R := fun a b : κ × β => a.1 ≠ b.1) (fun {a b} h => Ne.symm h)).1 d
end
section
variable {κ β : Type} [DecidableEq κ]
def aGet : List (κ × β) → κ → Option β
  | [], _ => none
  | (a, b) :: l, k => if a = k then some b else aGet l k
def aPut : List (κ × β) → κ → β → List (κ × β)
  | [], k, x => [(k, x)]
  | (a, b) :: l, k, x => if a = k then (k, x) :: l else (a, b) :: aPut l k x
def aDel : List (κ × β) → κ → List (κ × β)
  | [], _ => []
  | (a, b) :: l, k => if a = k then l else (a, b) :: aDel l k
def encM (ek : κ → V1) (ev : β → V1) (l : List (κ × β)) : List (V1 × V1) := l.map fun x => (ek x.1, ev x.2)
variable {ek : κ → V1} {ev : β → V1}
theorem mapGet_enc (hk : ∀ a b, ek a = ek b → a = b) (k : κ) : ∀ l : List (κ × β), mapGet (encM ek ev l) (ek k) = (aGet l k).map ev
  | [] => rfl
  | (a, b) :: l => by
    show (if ek a = ek k then some (ev b) else mapGet (encM ek ev l) (ek k)) = (if a = k then some b else aGet l k).map ev
    by_cases h : a = k
    · rw [if_pos (by rw [h]), if_pos h]; rfl
    · rw [if_neg (fun e => h (hk _ _ e)), if_neg h, mapGet_enc hk k l]
theorem mapPut_enc (hk : ∀ a b, ek a = ek b → a = b) (k : κ) (x : β) : ∀ l : List (κ × β), mapPut (encM ek ev l) (ek k) (ev x) = encM ek ev (aPut l k x)
  | [] => rfl
  | (a, b) :: l => by
    show (if ek a = ek k then (ek k, ev x) :: encM ek ev l else (ek a, ev b) :: mapPut (encM ek ev l) (ek k) (ev x)) = encM ek ev (if a = k then (k, x) :: l else (a, b) :: aPut l k x)
    by_cases h : a = k
    · rw [if_pos (by rw [h]), if_pos h]; rfl
    · rw [if_neg (fun e => h (hk _ _ e)), if_neg h, mapPut_enc hk k x l]; rfl
theorem mapDel_enc (hk : ∀ a b, ek a = ek b → a = b) (k : κ) : ∀ l : List (κ × β), mapDel (encM ek ev l) (ek k) = encM ek ev (aDel l k)
  | [] => rfl
  | (a, b) :: l => by
    show (if ek a = ek k then encM ek ev l else (ek a, ev b) :: mapDel (encM ek ev l) (ek k)) = encM ek ev (if a = k then l else (a, b) :: aDel l k)
    by_cases h : a = k
    · rw [if_pos (by rw [h]), if_pos h]
    · rw [if_neg (fun e => h (hk _ _ e)), if_neg h, mapDel_enc hk k l]; rfl
theorem aGet_mem {k : κ} {x : β} : ∀ {l : List (κ × β)}, aGet l k = some x → (k, x) ∈ l
  | [], h => by cases h
  | (a, b) :: l, h => by
    unfold aGet at h
    by_cases e : a = k
    · rw [if_pos e] at h; cases h; subst e; simp
    · rw [if_neg e] at h; exact List.mem_cons_of_mem _ (aGet_mem h)
theorem aGet_of {k : κ} {x : β} : ∀ {l : List (κ × β)}, NoDup l → (k, x) ∈ l → aGet l k = some x
  | [], _, h => by cases h
  | (a, b) :: l, d, h => by
    obtain ⟨d1, d2⟩ := List.pairwise_cons.1 d
    unfold aGet
    rcases List.mem_cons.1 h with e | h
    · cases e; rw [if_pos rfl]
    · rw [if_neg (d1 _ h)]; exact aGet_of d2 h
theorem aGet_none {k : κ} : ∀ {l : List (κ × β)}, aGet l k = none ↔ ∀ x ∈ l, x.1 ≠ k
  | [] => by simp [aGet]
  | (a, b) :: l => by
    unfold aGet
    by_cases e : a = k
    · rw [if_pos e]; simp [e]
    · rw [if_neg e, aGet_none]; simp [e]
theorem aPut_new {k : κ} {x : β} : ∀ {l : List (κ × β)}, aGet l k = none → aPut l k x = l ++ [(k, x)]
  | [], _ => rfl
  | (a, b) :: l, h => by
    unfold aGet at h
    by_cases e : a = k
    · rw [if_pos e] at h; cases h
    · rw [if_neg e] at h
      unfold aPut
      rw [if_neg e, aPut_new h]; rfl
theorem aDel_perm {k : κ} {x : β} : ∀ {l : List (κ × β)}, aGet l k = some x → l.Perm ((k, x) :: aDel l k)
  | [], h => by cases h
  | (a, b) :: l, h => by
    unfold aGet at h
    unfold aDel
    by_cases e : a = k
    · rw [if_pos e] at h; cases h; subst e; rw [if_pos rfl]
    · rw [if_neg e] at h
      rw [if_neg e]
      exact ((aDel_perm h).cons (a, b)).trans (.swap _ _ _)
theorem aDel_none {k : κ} : ∀ {l : List (κ × β)}, aGet l k = none → aDel l k = l
  | [], _ => rfl
  | (a, b) :: l, h => by
    unfold aGet at h
    by_cases e : a = k
    · rw [if_pos e] at h; cases h
    · rw [if_neg e] at h
      unfold aDel
      rw [if_neg e, aDel_none h]
theorem NoDup.del {l : List (κ × β)} (d : NoDup l) (k : κ) : NoDup (aDel l k) := by
  cases h : aGet l k with
  | none => rw [aDel_none h]; exact d
  | some x => exact (List.pairwise_cons.1 (d.perm (aDel_perm h))).2
theorem aDel_ne {l : List (κ × β)} (d : NoDup l) {k : κ} {y : κ × β} (h : y ∈ aDel l k) : y.1 ≠ k ∧ y ∈ l := by
  cases e : aGet l k with
  | none => rw [aDel_none e] at h; exact ⟨aGet_none.1 e y h, h⟩
  | some x =>
    have p := aDel_perm e
    obtain ⟨d1, _⟩ := List.pairwise_cons.1 (d.perm p)
    exact ⟨fun e2 => d1 _ h e2.symm, p.mem_iff.2 (List.mem_cons_of_mem _ h)⟩
theorem aGet_del {l : List (κ × β)} (d : NoDup l) (k k' : κ) : aGet (aDel l k) k' = if k' = k then none else aGet l k' := by
  by_cases h : k' = k
  · rw [if_pos h, h]; exact aGet_none.2 fun y hy => (aDel_ne d hy).1
  · rw [if_neg h]
    cases e : aGet l k' with
    | none => exact aGet_none.2 fun y hy => aGet_none.1 e y (aDel_ne d hy).2
    | some x =>
      refine aGet_of (d.del k) ?_
      have hm := aGet_mem e
      cases e2 : aGet l k with
      | none => rw [aDel_none e2]; exact hm
      | some z =>
        rcases List.mem_cons.1 ((aDel_perm e2).mem_iff.1 hm) with e3 | e3
        · cases e3; exact absurd rfl h
        · exact e3
theorem aGet_put (k : κ) (x : β) (k' : κ) : ∀ l : List (κ × β), aGet (aPut l k x) k' = if k' = k then some x else aGet l k'
  | [] => by
    unfold aPut aGet
    by_cases h : k = k'
    · rw [if_pos h, if_pos h.symm]
    · rw [if_neg h, if_neg (fun e => h e.symm)]; rfl
  | (a, b) :: l => by
    unfold aPut
    by_cases h : a = k
    · rw [if_pos h]
      unfold aGet
      by_cases h2 : k = k'
      · rw [if_pos h2, if_pos h2.symm]
      · rw [if_neg h2, if_neg (fun e => h2 e.symm), if_neg (fun e => h2 (h.symm.trans e))]
    · rw [if_neg h]
      unfold aGet
      by_cases h2 : a = k'
      · rw [if_pos h2, if_neg (fun e => h (h2.trans e)), if_pos h2]
      · rw [if_neg h2, aGet_put k x k' l, if_neg h2]
theorem noDup_put {k : κ} {x : β} : ∀ {l : List (κ × β)}, NoDup l → NoDup (aPut l k x)
  | [], _ => by unfold aPut; exact List.pairwise_cons.2 ⟨by simp, List.Pairwise.nil⟩
  | (a, b) :: l, d => by
    obtain ⟨d1, d2⟩ := List.pairwise_cons.1 d
    unfold aPut
    by_cases h : a = k
    · rw [if_pos h]; exact List.pairwise_cons.2 ⟨fun y hy => by have := d1 y hy; rw [h] at this; exact this, d2⟩
    · rw [if_neg h]
      refine List.pairwise_cons.2 ⟨fun y hy => ?_, noDup_put d2⟩
      intro e
      have hd : aGet (aPut l k x) y.1 = some y.2 := aGet_of (noDup_put d2) (show (y.1, y.2) ∈ aPut l k x from hy)
      rw [aGet_put] at hd
      by_cases h2 : y.1 = k
      · exact h (e.trans h2)
      · rw [if_neg h2] at hd
        exact d1 _ (aGet_mem hd) e
theorem NoDup.put {k : κ} {x : β} {l : List (κ × β)} (d : NoDup l) : NoDup (aPut l k x) := noDup_put d
end
end Go.Proofs.D.S
/- Keys and values of maps, as cells. -/
set_option linter.unusedVariables false
namespace Go.Proofs.D.S
open Go
abbrev eKc (n : Int) : V1 := .agg [.int .i64 n]
abbrev eIc (n : Int) : V1 := .c (.int .i64 n)
theorem eKc_inj (a b : Int) (h : eKc a = eKc b) : a = b := by
  have h : V1.agg [.int .i64 a] = V1.agg [.int .i64 b] := h
  injection h with h; injection h with h _; injection h
theorem eIc_inj (a b : Int) (h : eIc a = eIc b) : a = b := by
  have h : V1.c (.int .i64 a) = V1.c (.int .i64 b) := h
  injection h with h; injection h
theorem getD_eIc (o : Option Int) : (o.map eIc).getD (.c (.int .i64 0)) = eIc (o.getD 0) := by cases o <;> rfl
theorem isSome_map' {α β : Type} (f : α → β) (o : Option α) : (o.map f).isSome = o.isSome := by cases o <;> rfl
end Go.Proofs.D.S
/- Blocks that lie apart. -/
set_option linter.unusedVariables false
namespace Go.Proofs.D.S
open Go Go.RowKit
/-- Blocks that lie apart, rising. -/
def Srt (l : List Blk) : Prop := l.Pairwise fun a b => a.at_ + a.ch ≤ b.at_
theorem putB_perm (b : Blk) : ∀ l : List Blk, (putB l b).Perm (b :: l)
  | [] => .refl _
  | x :: l => by
    unfold putB
    split
    · exact .refl _
    · exact ((putB_perm b l).cons x).trans (.swap _ _ _)
theorem over_false {a n b m : Int} (h : over a n b m = false) : b + m ≤ a ∨ a + n ≤ b := by
  unfold over at h
  by_cases h1 : a < b + m
  · right
    rw [decide_eq_true h1, Bool.true_and] at h
    have := of_decide_eq_false h
    omega
  · left; omega
theorem freeB_apart {l : List Blk} {a n : Int} (h : freeB l a n = true) : ∀ b ∈ l, b.at_ + b.ch ≤ a ∨ a + n ≤ b.at_ := by
  intro b hb
  have := List.all_eq_true.1 h b hb
  simp only [Bool.not_eq_true'] at this
  exact over_false this
theorem srt_put {a n asked : Int} (hn : 1 ≤ n) : ∀ {l : List Blk}, Srt l → (∀ b ∈ l, 1 ≤ b.ch) → freeB l a n = true → Srt (putB l ⟨a, n, asked⟩)
  | [], _, _, _ => by unfold putB Srt; simp
  | x :: l, s, hc, f => by
    obtain ⟨s1, s2⟩ := List.pairwise_cons.1 s
    have hx := freeB_apart f x (by simp)
    have cx := hc x (by simp)
    unfold putB
    by_cases h : x.at_ > a
    · rw [if_pos h]
      refine List.pairwise_cons.2 ⟨fun b hb => ?_, s⟩
      dsimp only
      rcases List.mem_cons.1 hb with rfl | hb
      · omega
      · have := s1 b hb; omega
    · rw [if_neg h]
      have f2 : freeB l a n = true := by
        unfold freeB at f ⊢
        rw [List.all_cons, Bool.and_eq_true] at f
        exact f.2
      have h2 : x.at_ + x.ch ≤ a := by omega
      refine List.pairwise_cons.2 ⟨fun b hb => ?_, srt_put hn s2 (fun b hb => hc b (by simp [hb])) f2⟩
      rcases (putB_mem _ _ _).1 hb with rfl | hb
      · exact h2
      · exact s1 b hb
theorem Srt.put {a n asked : Int} {l : List Blk} (s : Srt l) (hn : 1 ≤ n) (h : ∀ b ∈ l, 1 ≤ b.ch) (f : freeB l a n = true) : Srt (putB l ⟨a, n, asked⟩) := srt_put hn s h f
theorem Srt.rest {l : List Blk} (s : Srt l) (A : Nat) : Srt (l.take A ++ l.drop (A + 1)) := by
  have e : (l.take A ++ l.drop (A + 1)).Sublist l := by
    have h2 : (l.drop (A + 1)).Sublist (l.drop A) := by
      rw [← List.drop_drop]; exact List.drop_sublist _ _
    have h := (List.Sublist.refl (l.take A)).append h2
    rwa [List.take_append_drop] at h
  exact s.sublist e
theorem rest_perm {l : List Blk} {A : Nat} (h : A < l.length) : l.Perm (l[A] :: (l.take A ++ l.drop (A + 1))) := by
  have e : l = l.take A ++ l[A] :: l.drop (A + 1) := by rw [← List.drop_eq_getElem_cons h, List.take_append_drop]
  have p : (l.take A ++ l[A] :: l.drop (A + 1)).Perm (l[A] :: (l.take A ++ l.drop (A + 1))) := List.perm_middle
  rw [← e] at p
  exact p
theorem sum_perm {a b : List Int} (p : a.Perm b) : a.sum = b.sum := by
  induction p with
  | nil => rfl
  | cons x _ ih => rw [List.sum_cons, List.sum_cons, ih]
  | swap x y l => simp only [List.sum_cons]; omega
  | trans _ _ h1 h2 => exact h1.trans h2
theorem chSum_perm {a b : List Blk} (p : a.Perm b) : chSum a = chSum b := by
  unfold chSum; exact sum_perm (p.map Blk.ch)
/-- One block begins there, at most. -/
theorem findB_mem : ∀ {l : List Blk} {b : Blk}, Srt l → (∀ b ∈ l, 1 ≤ b.ch) → b ∈ l → ∃ A, ∃ h : A < l.length, findB l b.at_ = some A ∧ l[A] = b
  | [], b, _, _, h => by cases h
  | x :: l, b, s, hc, h => by
    obtain ⟨s1, s2⟩ := List.pairwise_cons.1 s
    rcases List.mem_cons.1 h with rfl | h
    · exact ⟨0, by simp, by unfold findB; rw [if_pos rfl], rfl⟩
    · obtain ⟨A, hA, e1, e2⟩ := findB_mem s2 (fun y hy => hc y (by simp [hy])) h
      have c1 := s1 b h
      have c2 := hc x (by simp)
      exact ⟨A + 1, by simpa using hA, by unfold findB; rw [if_neg (by omega), e1]; rfl, by simpa using e2⟩
end Go.Proofs.D.S
/- What may not differ, plainly: the program's own reader. -/
set_option linter.unusedVariables false
namespace Go.Proofs.D.S
open Go Go.RowKit
section
variable {κ β γ : Type} [DecidableEq κ]
/-- Values seen otherwise. -/
def valM (f : β → γ) (l : List (κ × β)) : List (κ × γ) := l.map fun x => (x.1, f x.2)
variable {f : β → γ}
theorem aGet_val (k : κ) : ∀ l : List (κ × β), aGet (valM f l) k = (aGet l k).map f
  | [] => rfl
  | (a, b) :: l => by
    show (if a = k then some (f b) else aGet (valM f l) k) = (if a = k then some b else aGet l k).map f
    by_cases h : a = k
    · rw [if_pos h, if_pos h]; rfl
    · rw [if_neg h, if_neg h, aGet_val k l]
theorem aPut_val (k : κ) (x : β) : ∀ l : List (κ × β), aPut (valM f l) k (f x) = valM f (aPut l k x)
  | [] => rfl
  | (a, b) :: l => by
    show (if a = k then (k, f x) :: valM f l else (a, f b) :: aPut (valM f l) k (f x)) = valM f (if a = k then (k, x) :: l else (a, b) :: aPut l k x)
    by_cases h : a = k
    · rw [if_pos h, if_pos h]; rfl
    · rw [if_neg h, if_neg h, aPut_val k x l]; rfl
theorem aDel_val (k : κ) : ∀ l : List (κ × β), aDel (valM f l) k = valM f (aDel l k)
  | [] => rfl
  | (a, b) :: l => by
    show (if a = k then valM f l else (a, f b) :: aDel (valM f l) k) = valM f (if a = k then l else (a, b) :: aDel l k)
    by_cases h : a = k
    · rw [if_pos h, if_pos h]
    · rw [if_neg h, if_neg h, aDel_val k l]; rfl
theorem aPut_perm {k : κ} {x y : β} : ∀ {l : List (κ × β)}, aGet l k = some x → (aPut l k y).Perm ((k, y) :: aDel l k)
  | [], h => by cases h
  | (a, b) :: l, h => by
    unfold aGet at h
    unfold aDel aPut
    by_cases e : a = k
    · rw [if_pos e, if_pos e]
    · rw [if_neg e] at h
      rw [if_neg e, if_neg e]
      exact ((aPut_perm h).cons (a, b)).trans (.swap _ _ _)
theorem aDel_sub (k : κ) : ∀ l : List (κ × β), (aDel l k).Sublist l
  | [] => .refl _
  | (a, b) :: l => by
    unfold aDel
    by_cases e : a = k
    · rw [if_pos e]; exact List.sublist_cons_self _ _
    · rw [if_neg e]; exact (aDel_sub k l).cons_cons _
theorem aPut_mem {k : κ} {x : β} {y : κ × β} : ∀ {l : List (κ × β)}, y ∈ aPut l k x → y = (k, x) ∨ y ∈ l
  | [], h => by simp [aPut] at h; exact .inl h
  | (a, b) :: l, h => by
    unfold aPut at h
    by_cases e : a = k
    · rw [if_pos e] at h
      rcases List.mem_cons.1 h with h | h
      · exact .inl h
      · exact .inr (List.mem_cons_of_mem _ h)
    · rw [if_neg e] at h
      rcases List.mem_cons.1 h with h | h
      · exact .inr (by rw [h]; simp)
      · rcases aPut_mem h with h | h
        · exact .inl h
        · exact .inr (List.mem_cons_of_mem _ h)
end
/-- A block: how much is charged, up to where it is nought, which bytes else are known. -/
structure PB where
  (ch no : Int)
  tl : List Int
def PB.knows (b : PB) (n : Int) : Bool := decide (n < b.no) || b.tl.contains n
def knowsS (P : List (Int × PB)) (p n : Int) : Bool := match aGet P p with
  | some b => b.knows n
  | none => false
def chargeO (c : Cf) (o : OpV) : Int :=
  if o.k = 2 then (c.charge (productS c.N o.n o.s).1 1).1 else if o.k = 3 then (c.charge o.s o.a).1 else (c.charge o.s 1).1
def movedS (b : Option PB) (ch : Int) : PB := match b with
  | none => ⟨ch, 0, []⟩
  | some b => ⟨ch, min b.no ch, b.tl.filter fun n => decide (n < ch)⟩
def doesS (c : Cf) (P : List (Int × PB)) (o : OpV) (a : AnsV) : List (Int × PB) × AnsV :=
  if o.k = 1 ∨ o.k = 3 then (aPut P a.at_ ⟨chargeO c o, 0, []⟩, a)
  else if o.k = 2 then (aPut P a.at_ ⟨chargeO c o, chargeO c o, []⟩, a)
  else if o.k = 4 then (aPut (aDel P o.p) a.at_ (movedS (aGet P o.p) (chargeO c o)), a)
  else if o.k = 5 then (aDel P o.p, a)
  else if o.k = 8 then (match aGet P o.p with
    | some b => if b.knows o.n = true then (P, a) else (aPut P o.p { b with tl := b.tl ++ [o.n] }, a)
    | none => (P, a))
  else if o.k = 7 then (P, if knowsS P o.p o.n = true then a else { a with byte := 0 })
  else if o.k = 10 then (P, { a with pages := 0 })
  else (P, a)
def plainS (c : Cf) : List (Int × PB) → List OpV → List AnsV → List AnsV
  | P, o :: os, a :: az => if a.err = 0 ∧ o.k ≠ 9 then (doesS c P o a).2 :: plainS c (doesS c P o a).1 os az else plainS c P os az
  | _, _, _ => []
/-- What the program tells. -/
def plainP (c : Cf) (ops : List OpV) (ans : List AnsV) : List AnsV := if ops.length = ans.length then plainS c [] ops ans else []
end Go.Proofs.D.S
/- The program's same: what may not differ. -/
set_option linter.unusedVariables false
set_option linter.unusedSimpArgs false
namespace Go.Proofs.D.S
open Go Go.RowKit
variable {G G0 : GH} {L : List (Nat × Obj)}
theorem slices_Index_int_int.lp {i o : Nat} {l : List Int} (s : Sl G eI i o l) (hl : l.length ≤ 1000000000) (v : Int) : ∀ (d k : Nat), k + d = l.length → ∃ x : Int,
    slices_Index_int_int.L20 machW CW i o l.length v ((l.length : Nat) : Int) (k : Int) G = some ([.c (.int .i64 x)], G) ∧ (x ≥ 0 ↔ v ∈ l.drop k)
  | 0, k, hk => by
    rw [slices_Index_int_int.L20_eq, condD_neg (by omega), List.drop_of_length_le (by omega)]
    exact ⟨-1, rfl, by simp⟩
  | d + 1, k, hk => by
    have hkl : k < l.length := by omega
    have e : l.drop k = l[k] :: l.drop (k + 1) := List.drop_eq_getElem_cons hkl
    have z : decide (0 ≤ (k : Int) ∧ (k : Int) < ((l.length : Nat) : Int)) = true := decide_eq_true (by omega)
    have r := s.ld k 0 hkl (by omega)
    rw [Nat.add_zero] at r
    rw [slices_Index_int_int.L20_eq, condD_pos (by omega)]
    simp only [z, Int.toNat_natCast, r, q_bs, q_I, q_B, q_P, q_S, q_M, q_c, q_a, q_gz, q_gs, q_gk, q_ct, q_cf, q_nt, q_nf, q_xt, q_xf, q_tt, q_ff, q_tf, q_ft, q_at, q_af, i64w, wrap_id (a := (k : Int) + 1) (by omega) (by omega)]
    by_cases h : v = l[k]
    · rw [condD_pos h]; exact ⟨_, rfl, by rw [e, h]; exact ⟨fun _ => List.mem_cons_self .., fun _ => by omega⟩⟩
    · rw [condD_neg h]
      obtain ⟨x, ex, hx⟩ := slices_Index_int_int.lp s hl v d (k + 1) (by omega)
      exact ⟨x, ex, by rw [hx, e, List.mem_cons]; exact ⟨.inr, fun q => q.resolve_left h⟩⟩
theorem slices_Contains_int_int.sp {i o : Nat} {l : List Int} (s : Sl G eI i o l) (hl : l.length ≤ 1000000000) (v : Int) : CW slices_Contains_int_int.id [.c (.sl 1 i o l.length), .c (.int .i64 v)] G = some ([.c (.bool (l.contains v))], G) := by
  obtain ⟨x, ex, hx⟩ := slices_Index_int_int.lp s hl v l.length 0 (by omega)
  rw [slices_Contains_int_int.cw]
  unfold slices_Contains_int_int.f
  rw [slices_Index_int_int.cw]
  unfold slices_Index_int_int.f
  rw [show (0 : Int) = ((0 : Nat) : Int) from rfl, ex]
  simp only [q_bs, q_I, q_B, q_P, q_S, q_M, q_c, q_a, q_gz, q_gs, q_gk, q_ct, q_cf, q_nt, q_nf, q_xt, q_xf, q_tt, q_ff, q_tf, q_ft, q_at, q_af]
  rw [List.drop_zero] at hx
  have : decide (x ≥ 0) = l.contains v := by
    by_cases h : v ∈ l
    · rw [decide_eq_true (hx.2 h), List.contains_iff_mem.2 h]
    · rw [decide_eq_false (fun e => h (hx.1 e))]
      cases e : l.contains v with
      | false => rfl
      | true => exact absurd (List.contains_iff_mem.1 e) h
  rw [← this]; rfl
/-- A block of the reader's, as it lies. -/
structure KB where
  (bid tid : Nat)
  b : PB
abbrev kbR (k : KB) : List (Nat × Obj) := [(k.bid, .row [.int .i64 k.b.ch, .int .i64 k.b.no, .sl 1 k.tid 0 k.b.tl.length] false), rowE eI k.tid k.b.tl]
abbrev kbRs (K : List (Int × KB)) : List (Nat × Obj) := K.flatMap fun x => kbR x.2
abbrev eAt (a : Int) : V1 := .agg [.int .i64 a, .int .i64 0]
abbrev ePt (k : KB) : V1 := .c (.ptr k.bid 0)
abbrev kks : VS := .agg [.int .i64, .int .i64]
abbrev rdR (rid mid : Nat) (c : Cf) : Nat × Obj := (rid, .row [.int .i64 c.G, .int .i64 c.N, .int .i64 c.M, .int .i64 c.L, .int .i64 c.Pg, .int .i64 c.P, .int .i64 c.H, .int .i64 c.Sd, .map mid] false)
abbrev rdM (mid : Nat) (K : List (Int × KB)) : Nat × Obj := (mid, .map kks (encM eAt ePt K))
theorem eAt_inj (a b : Int) (h : eAt a = eAt b) : a = b := by
  have h : V1.agg [.int .i64 a, .int .i64 0] = V1.agg [.int .i64 b, .int .i64 0] := h
  injection h with h; injection h with h _; injection h
/-- The reader, as it lies: its row, its map, its blocks. -/
def Rdr (G0 G : GH) (L : List (Nat × Obj)) (rid mid : Nat) (c : Cf) (K : List (Int × KB)) : Prop := Hp G0 G (rdR rid mid c :: rdM mid K :: (kbRs K ++ L))
theorem perm3 {α : Type} (A B C : List α) : (A ++ (B ++ C)).Perm (B ++ (A ++ C)) := by
  rw [← List.append_assoc, ← List.append_assoc]
  exact List.perm_append_comm.append_right _
theorem kbRs_perm {K K' : List (Int × KB)} (p : K.Perm K') : (kbRs K).Perm (kbRs K') := p.flatMap_right _
theorem kbRs_sub {K K' : List (Int × KB)} (p : K.Sublist K') : (kbRs K).Sublist (kbRs K') := by
  induction p with
  | slnil => exact .refl _
  | cons a _ ih => exact ih.trans (List.sublist_append_right _ _)
  | cons_cons a _ ih => exact (List.Sublist.refl _).append ih
/-- A block put in, beside what there is. -/
theorem kbRs_put (k : Int) (b : KB) : ∀ K : List (Int × KB), ∃ M, (kbR b ++ kbRs K).Perm M ∧ (kbRs (aPut K k b)).Sublist M
  | [] => ⟨_, .refl _, by simp [kbRs, aPut]⟩
  | (a, x) :: K => by
    unfold aPut
    by_cases h : a = k
    · rw [if_pos h]
      refine ⟨_, .refl _, ?_⟩
      show (kbR b ++ kbRs K).Sublist (kbR b ++ (kbR x ++ kbRs K))
      exact (List.Sublist.refl _).append (List.sublist_append_right _ _)
    · rw [if_neg h]
      obtain ⟨M, p, q⟩ := kbRs_put k b K
      refine ⟨kbR x ++ M, ?_, (List.Sublist.refl _).append q⟩
      show (kbR b ++ (kbR x ++ kbRs K)).Perm (kbR x ++ M)
      exact (perm3 _ _ _).trans (p.append_left _)
theorem Hp.putK {A : List (Nat × Obj)} {k : Int} {b : KB} {K : List (Int × KB)} (h : Hp G0 G (A ++ (kbR b ++ (kbRs K ++ L)))) : Hp G0 G (A ++ (kbRs (aPut K k b) ++ L)) := by
  obtain ⟨M, p, q⟩ := kbRs_put k b K
  have h2 : Hp G0 G (A ++ (M ++ L)) := h.perm (by
    rw [← List.append_assoc (kbR b)]
    exact (p.append_right L).append_left A)
  exact h2.sub ((List.Sublist.refl A).append (q.append (.refl L)))
theorem Hp.delK {A : List (Nat × Obj)} {k : Int} {K : List (Int × KB)} (h : Hp G0 G (A ++ (kbRs K ++ L))) : Hp G0 G (A ++ (kbRs (aDel K k) ++ L)) :=
  h.sub ((List.Sublist.refl A).append ((kbRs_sub (aDel_sub k K)).append (.refl L)))
theorem Hp.getK {A : List (Nat × Obj)} {k : Int} {b : KB} {K : List (Int × KB)} (h : Hp G0 G (A ++ (kbRs K ++ L))) (e : aGet K k = some b) : Hp G0 G (kbR b ++ (A ++ (kbRs (aDel K k) ++ L))) := by
  refine h.perm ?_
  have p := kbRs_perm (aDel_perm e)
  have e1 : kbRs ((k, b) :: aDel K k) = kbR b ++ kbRs (aDel K k) := rfl
  rw [e1] at p
  have q : (A ++ (kbRs K ++ L)).Perm (A ++ (kbR b ++ (kbRs (aDel K k) ++ L))) := by
    rw [← List.append_assoc (kbR b)]
    exact (p.append_right L).append_left A
  exact q.trans (perm3 _ _ _)
theorem Hp.backK {A : List (Nat × Obj)} {k : Int} {b b' : KB} {K : List (Int × KB)} (h : Hp G0 G (kbR b' ++ (A ++ (kbRs (aDel K k) ++ L)))) (e : aGet K k = some b) : Hp G0 G (A ++ (kbRs (aPut K k b') ++ L)) := by
  refine h.perm ?_
  have p := kbRs_perm (aPut_perm (y := b') e)
  have e1 : kbRs ((k, b') :: aDel K k) = kbR b' ++ kbRs (aDel K k) := rfl
  rw [e1] at p
  have q : (A ++ (kbR b' ++ (kbRs (aDel K k) ++ L))).Perm (A ++ (kbRs (aPut K k b') ++ L)) := by
    rw [← List.append_assoc (kbR b')]
    exact (p.symm.append_right L).append_left A
  exact (perm3 _ _ _).trans q
/-- A block put in with the same beginning: the map is as it was. -/
theorem encM_same {k : Int} {b b' : KB} (hb : b'.bid = b.bid) : ∀ {K : List (Int × KB)}, aGet K k = some b → encM eAt ePt (aPut K k b') = encM eAt ePt K
  | [], h => by cases h
  | (a, x) :: K, h => by
    unfold aGet at h
    unfold aPut
    by_cases e : a = k
    · rw [if_pos e] at h
      rw [if_pos e]
      cases h
      show (eAt k, ePt b') :: _ = (eAt a, ePt b) :: _
      unfold ePt eAt
      rw [hb, e]
    · rw [if_neg e] at h
      rw [if_neg e]
      show (eAt a, ePt x) :: encM eAt ePt (aPut K k b') = (eAt a, ePt x) :: encM eAt ePt K
      rw [encM_same hb h]
def bidO : Option KB → Nat
  | some b => b.bid
  | none => 0
theorem getD_ePt (o : Option KB) : (o.map ePt).getD (.c (.ptr 0 0)) = .c (.ptr (bidO o) 0) := by cases o <;> rfl
abbrev prt (K : List (Int × KB)) : List (Int × PB) := valM KB.b K
/-- How long told rows are. -/
def Tl (K : List (Int × KB)) (n : Nat) : Prop := ∀ x ∈ K, x.2.b.tl.length ≤ n
theorem Tl.get {K : List (Int × KB)} {n : Nat} (t : Tl K n) {k : Int} {b : KB} (h : aGet K k = some b) : b.b.tl.length ≤ n := t _ (aGet_mem h)
theorem Tl.put {K : List (Int × KB)} {n m : Nat} (t : Tl K n) (hm : n ≤ m) (k : Int) {b : KB} (h : b.b.tl.length ≤ m) : Tl (aPut K k b) m := fun x hx => by
  rcases aPut_mem hx with rfl | hx
  · exact h
  · exact Nat.le_trans (t x hx) hm
theorem Tl.del {K : List (Int × KB)} {n : Nat} (t : Tl K n) (k : Int) : Tl (aDel K k) n := fun x hx => t x ((aDel_sub k K).subset hx)
theorem same_reader_charge.sp {rid mid : Nat} {c : Cf} (ok : c.Ok) (h : Hp G0 G (rdR rid mid c :: L)) {o : OpV} (hs : R64 o.s) (ha : R64 o.a) (hn : R64 o.n) : CW same_reader_charge.id [.c (.ptr rid 0), .agg (eOp o)] G = some ([.c (.int .i64 (chargeO c o))], G) := by
  have hp := h.ne
  have ld := fun off => h.ld (off := off) hp
  have one : R64 1 := by unfold R64; omega
  rw [same_reader_charge.cw]
  unfold same_reader_charge.f chargeO
  have mid : ∀ s a : Int, R64 a → same_reader_charge.J18 machW CW rid 0 s a G = some ([.c (.int .i64 (c.charge s a).1)], G) := by
    intro s a ha
    rw [same_reader_charge.J18_eq]
    simp only [guardN hp, ld, q_bs, q_I, q_B, q_P, q_S, q_M, q_c, q_a, q_gz, q_gs, q_gk, q_ct, q_cf, q_nt, q_nf, q_xt, q_xf, q_tt, q_ff, q_tf, q_ft, q_at, q_af, Nat.zero_add]
    rw [class_Charge.sp ok ha]
    simp only [q_bs, q_I, q_B, q_P, q_S, q_M, q_c, q_a, q_gz, q_gs, q_gk, q_ct, q_cf, q_nt, q_nf, q_xt, q_xf, q_tt, q_ff, q_tf, q_ft, q_at, q_af]
  by_cases h2 : o.k = 2
  · rw [condD_pos h2, if_pos h2]
    simp only [guardN hp, ld, q_bs, q_I, q_B, q_P, q_S, q_M, q_c, q_a, q_gz, q_gs, q_gk, q_ct, q_cf, q_nt, q_nf, q_xt, q_xf, q_tt, q_ff, q_tf, q_ft, q_at, q_af, Nat.zero_add]
    rw [class_Product.sp ok hn hs]
    simp only [q_bs, q_I, q_B, q_P, q_S, q_M, q_c, q_a, q_gz, q_gs, q_gk, q_ct, q_cf, q_nt, q_nf, q_xt, q_xf, q_tt, q_ff, q_tf, q_ft, q_at, q_af]
    exact mid _ _ one
  · rw [condD_neg h2, if_neg h2]
    by_cases h3 : o.k = 3
    · rw [condD_pos h3, if_pos h3]; exact mid _ _ ha
    · rw [condD_neg h3, if_neg h3]; exact mid _ _ one
theorem same_reader_knows.sp {rid mid : Nat} {c : Cf} {K : List (Int × KB)} (h : Rdr G0 G L rid mid c K) {tn : Nat} (t : Tl K tn) (htn : tn ≤ 1000000000) (p n : Int) : CW same_reader_knows.id [.c (.ptr rid 0), .c (.int .i64 p), .c (.int .i64 n)] G = some ([.c (.bool (knowsS (prt K) p n))], G) := by
  have h0 : Hp G0 G (rdR rid mid c :: rdM mid K :: (kbRs K ++ L)) := h
  have hp := h0.ne
  have ld := fun off => h0.ld (off := off) hp
  obtain ⟨m0, m1, m2⟩ := Hp.ents (ks := kks) (h0.pick 1)
  rw [same_reader_knows.cw]
  unfold same_reader_knows.f knowsS
  simp only [guardN hp, ld, q_bs, q_I, q_B, q_P, q_S, q_M, q_c, q_a, q_gz, q_gs, q_gk, q_ct, q_cf, q_nt, q_nf, q_xt, q_xf, q_tt, q_ff, q_tf, q_ft, q_at, q_af, Nat.zero_add, m2]
  rw [show V1.agg [Cell.int .i64 p, Cell.int .i64 0] = eAt p from rfl, mapGet_enc eAt_inj, getD_ePt, isSome_map', aGet_val]
  simp only [q_bs, q_I, q_B, q_P, q_S, q_M, q_c, q_a, q_gz, q_gs, q_gk, q_ct, q_cf, q_nt, q_nf, q_xt, q_xf, q_tt, q_ff, q_tf, q_ft, q_at, q_af]
  cases e : aGet K p with
  | none => rfl
  | some b =>
    have h1 : Hp G0 G (kbR b ++ ([rdR rid mid c, rdM mid K] ++ (kbRs (aDel K p) ++ L))) := Hp.getK (A := [rdR rid mid c, rdM mid K]) h0 e
    have hb := h1.ne
    have lb := fun off => h1.ld (off := off) hb
    have st := h1.sl (e := eI) (id := b.tid) (xs := b.b.tl) (by simp)
    have tl := t.get e
    rw [Option.isSome_some, q_ct]
    simp only [bidO, guardN hb, lb, q_bs, q_I, q_B, q_P, q_S, q_M, q_c, q_a, q_gz, q_gs, q_gk, q_ct, q_cf, q_nt, q_nf, q_xt, q_xf, q_tt, q_ff, q_tf, q_ft, q_at, q_af, Nat.zero_add]
    show _ = some ([V1.c (.bool (b.b.knows n))], G)
    unfold PB.knows
    by_cases hn : n < b.b.no
    · rw [condD_pos hn, decide_eq_true hn]; rfl
    · rw [condD_neg hn, decide_eq_false hn, slices_Contains_int_int.sp st (by omega)]
      simp only [q_bs, q_I, q_B, q_P, q_S, q_M, q_c, q_a, q_gz, q_gs, q_gk, q_ct, q_cf, q_nt, q_nf, q_xt, q_xf, q_tt, q_ff, q_tf, q_ft, q_at, q_af, Bool.false_or]
theorem same_moved.sp (h : Hp G0 G L) {ob : Option KB} (hb : ∀ b, ob = some b → ∃ M, L = kbR b ++ M ∧ b.b.tl.length ≤ 1000000000) (ch : Int) :
    ∃ (k : KB) (G' : GH), CW same_moved.id [.c (.ptr (bidO ob) 0), .c (.int .i64 ch)] G = some ([.c (.ptr k.bid 0)], G') ∧ Hp G0 G' (kbR k ++ L) ∧ k.b = movedS (ob.map KB.b) ch := by
  have hm : (1000000001 : Nat) ≤ most := by unfold most; decide
  have h1 := h.alloc (.row [.int .i64 ch, .int .i64 0, .sl 1 0 0 0] false)
  rw [same_moved.cw]
  unfold same_moved.f
  dsimp only
  have h2 : Hp G0 (G.alloc (.row [.int .i64 ch, .int .i64 0, .sl 1 0 0 0] false)) (kbR ⟨G.next, 0, ⟨ch, 0, []⟩⟩ ++ L) := (h1.nil0 (e := eI)).pick 1
  generalize G.alloc (.row [.int .i64 ch, .int .i64 0, .sl 1 0 0 0] false) = G1 at h1 h2 ⊢
  generalize G.next = nid at h1 h2 ⊢
  have hnid := h1.ne
  cases ob with
  | none =>
    simp only [bidO]
    rw [show Nat.beq 0 0 = true from rfl, q_xf, q_ct]
    exact ⟨⟨nid, 0, ⟨ch, 0, []⟩⟩, G1, rfl, h2, rfl⟩
  | some b =>
    obtain ⟨M, rfl, hl⟩ := hb b rfl
    simp only [bidO]
    have hbid : b.bid ≠ 0 := h.ne
    have h2' := h2.pick 2
    have lb := fun off => h2'.ld (off := off) hbid
    have hb0 : Nat.beq b.bid 0 = false := by
      have := nbeq hbid
      simpa using this
    rw [hb0, q_xf, q_cf]
    simp only [guardN hbid, guardN hnid, lb, q_bs, q_I, q_B, q_P, q_S, q_M, q_c, q_a, q_gz, q_gs, q_gk, q_ct, q_cf, q_nt, q_nf, q_xt, q_xf, q_tt, q_ff, q_tf, q_ft, q_at, q_af, Nat.zero_add]
    obtain ⟨G2, h3, e3⟩ := h2.sts (off := 1) (new := [.int .i64 (mn2 b.b.no ch)]) hnid (by simp)
    have h3 : Hp G0 G2 (kbR ⟨nid, 0, ⟨ch, mn2 b.b.no ch, []⟩⟩ ++ (kbR b ++ M)) := h3
    rw [e3]
    have lb3 := fun off => (h3.pick 2).ld (off := off) hbid
    simp only [q_bs, q_I, q_B, q_P, q_S, q_M, q_c, q_a, q_gz, q_gs, q_gk, q_ct, q_cf, q_nt, q_nf, q_xt, q_xf, q_tt, q_ff, q_tf, q_ft, q_at, q_af, lb3]
    have lp : ∀ (d i : Nat) (tid : Nat) (acc : List Int) (G3 : GH), i + d = b.b.tl.length → acc.length ≤ i → Hp G0 G3 (kbR ⟨nid, tid, ⟨ch, mn2 b.b.no ch, acc⟩⟩ ++ (kbR b ++ M)) → acc ++ (b.b.tl.drop i).filter (fun n => decide (n < ch)) = b.b.tl.filter (fun n => decide (n < ch)) →
        ∃ (k : KB) (G' : GH), same_moved.L27 machW CW ch nid 0 b.tid 0 b.b.tl.length ((b.b.tl.length : Nat) : Int) (i : Int) G3 = some ([.c (.ptr k.bid 0)], G') ∧ Hp G0 G' (kbR k ++ (kbR b ++ M)) ∧ k.b = movedS ((some b).map KB.b) ch := by
      intro d
      induction d with
      | zero =>
        intro i tid acc G3 hi ha h e
        rw [List.drop_of_length_le (by omega), List.filter_nil, List.append_nil] at e
        rw [same_moved.L27_eq, condD_neg (by omega)]
        exact ⟨⟨nid, tid, ⟨ch, mn2 b.b.no ch, acc⟩⟩, G3, rfl, h, by subst e; rw [mn2_eq]; rfl⟩
      | succ d ih =>
        intro i tid acc G3 hi ha h e
        have hil : i < b.b.tl.length := by omega
        have ed : b.b.tl.drop i = b.b.tl[i] :: b.b.tl.drop (i + 1) := List.drop_eq_getElem_cons hil
        have zi : decide (0 ≤ (i : Int) ∧ (i : Int) < ((b.b.tl.length : Nat) : Int)) = true := decide_eq_true (by omega)
        have st := h.sl (e := eI) (id := b.tid) (xs := b.b.tl) (by simp)
        have r := st.ld i 0 hil (by omega)
        rw [Nat.add_zero] at r
        rw [ed, List.filter_cons] at e
        rw [same_moved.L27_eq, condD_pos (by omega)]
        simp only [zi, Int.toNat_natCast, r, q_bs, q_I, q_B, q_P, q_S, q_M, q_c, q_a, q_gz, q_gs, q_gk, q_ct, q_cf, q_nt, q_nf, q_xt, q_xf, q_tt, q_ff, q_tf, q_ft, q_at, q_af]
        have lo := fun off => h.ld (off := off) hnid
        have go : ∀ (tid : Nat) (acc : List Int) (G3 : GH), acc.length ≤ i + 1 → Hp G0 G3 (kbR ⟨nid, tid, ⟨ch, mn2 b.b.no ch, acc⟩⟩ ++ (kbR b ++ M)) → acc ++ (b.b.tl.drop (i + 1)).filter (fun n => decide (n < ch)) = b.b.tl.filter (fun n => decide (n < ch)) →
            ∃ (k : KB) (G' : GH), same_moved.J23 machW CW ch nid 0 b.tid 0 b.b.tl.length ((b.b.tl.length : Nat) : Int) (i : Int) G3 = some ([.c (.ptr k.bid 0)], G') ∧ Hp G0 G' (kbR k ++ (kbR b ++ M)) ∧ k.b = movedS ((some b).map KB.b) ch := by
          intro tid acc G3 ha h e
          rw [same_moved.J23_eq, i64w, wrap_id (by omega) (by omega)]
          exact ih (i + 1) tid acc G3 (by omega) ha h e
        by_cases hlt : b.b.tl[i] < ch
        · rw [condD_pos hlt]
          rw [if_pos (decide_eq_true hlt)] at e
          simp only [guardN hnid, lo, q_bs, q_I, q_B, q_P, q_S, q_M, q_c, q_a, q_gz, q_gs, q_gk, q_ct, q_cf, q_nt, q_nf, q_xt, q_xf, q_tt, q_ff, q_tf, q_ft, q_at, q_af, Nat.zero_add]
          have hq : Hp G0 G3 (rowE eI tid acc :: (nid, .row [.int .i64 ch, .int .i64 (mn2 b.b.no ch), .sl 1 tid 0 acc.length] false) :: (kbR b ++ M)) := h.pick 1
          obtain ⟨tid2, G4, h4, k4⟩ := Hp.app1 (S := Res) (e := eI) hq b.b.tl[i] (n := acc.length) rfl (by omega)
          rw [k4]
          dsimp only
          have h5 := h4.back 1
          obtain ⟨G5, h6, e6⟩ := h5.sts (off := 2) (new := [.sl 1 tid2 0 (acc.length + 1)]) hnid (by simp)
          rw [e6, q_bs]
          have e7 : (acc ++ [b.b.tl[i]]).length = acc.length + 1 := by simp
          rw [← e7] at h6
          exact go tid2 (acc ++ [b.b.tl[i]]) G5 (by omega) h6 (by rw [← e]; simp)
        · rw [condD_neg hlt]
          rw [if_neg (by simpa using hlt)] at e
          exact go tid acc G3 (by omega) h e
    exact lp b.b.tl.length 0 0 [] G2 (by omega) (by simp) h3 (by rw [List.drop_zero]; rfl)
end Go.Proofs.D.S
/- The program's same: a call's step, a whole history, rows that are alike. -/
set_option linter.unusedVariables false
set_option linter.unusedSimpArgs false
namespace Go.Proofs.D.S
open Go Go.RowKit
variable {G G0 : GH} {L : List (Nat × Obj)}
/-- The map of the reader's, with something in it changed. -/
theorem Hp.setM {rid mid : Nat} {c : Cf} {k : KB} {es es' : List (V1 × V1)} {X : List (Nat × Obj)} (h : Hp G0 G (kbR k ++ (rdR rid mid c :: (mid, .map kks es) :: X))) :
    G.ents kks mid = some es ∧ Hp G0 (G.set mid (some (.map kks es'))) (kbR k ++ (rdR rid mid c :: (mid, .map kks es') :: X)) := by
  have h1 : Hp G0 G ((mid, .map kks es) :: _) := h.pick 3
  obtain ⟨m0, m1, _⟩ := Hp.ents (ks := kks) h1
  exact ⟨m1, (h1.set (o' := .map kks es') m0).back 3⟩
theorem Rdr.fin {rid mid : Nat} {c : Cf} {K : List (Int × KB)} {k : KB} {a : Int} (h : Hp G0 G (kbR k ++ (rdR rid mid c :: (mid, .map kks (mapPut (encM eAt ePt K) (eAt a) (ePt k))) :: (kbRs K ++ L)))) : Rdr G0 G L rid mid c (aPut K a k) := by
  rw [mapPut_enc eAt_inj] at h
  have h2 : Hp G0 G ([rdR rid mid c, rdM mid (aPut K a k)] ++ (kbR k ++ (kbRs K ++ L))) := h.perm (perm3 (kbR k) [rdR rid mid c, rdM mid (aPut K a k)] (kbRs K ++ L))
  exact h2.putK
/-- A new block's rows. -/
theorem Hp.newK (h : Hp G0 G L) (ch no : Int) : Hp G0 (G.alloc (.row [.int .i64 ch, .int .i64 no, .sl 1 0 0 0] false)) (kbR ⟨G.next, 0, ⟨ch, no, []⟩⟩ ++ L) :=
  ((h.alloc (.row [.int .i64 ch, .int .i64 no, .sl 1 0 0 0] false)).nil0 (e := eI)).pick 1
/-- What a step of the reader's leaves. -/
def DoOut (G0 : GH) (L : List (Nat × Obj)) (rid mid : Nat) (c : Cf) (tn : Nat) (r : List (Int × PB) × AnsV) (x : Option Res) : Prop :=
  ∃ (G' : GH) (K' : List (Int × KB)), x = some ([.agg (eAns r.2)], G') ∧ Rdr G0 G' L rid mid c K' ∧ prt K' = r.1 ∧ Tl K' (tn + 1)
theorem same_reader_does.sp {rid mid : Nat} {c : Cf} (ok : c.Ok) {K : List (Int × KB)} (h : Rdr G0 G L rid mid c K) {tn : Nat} (t : Tl K tn) (htn : tn ≤ 999999999) {o : OpV} (hs : R64 o.s) (ha : R64 o.a) (hn : R64 o.n) (a : AnsV) :
    DoOut G0 L rid mid c tn (doesS c (prt K) o a) (CW same_reader_does.id [.c (.ptr rid 0), .agg (eOp o), .agg (eAns a)] G) := by
  have hm : (1000000001 : Nat) ≤ most := by unfold most; decide
  have h0 : Hp G0 G (rdR rid mid c :: rdM mid K :: (kbRs K ++ L)) := h
  have hp := h0.ne
  have ld := fun off => h0.ld (off := off) hp
  obtain ⟨m0, m1, m2⟩ := Hp.ents (ks := kks) (h0.pick 1)
  have t1 : Tl K (tn + 1) := fun x hx => Nat.le_succ_of_le (t x hx)
  have ch := same_reader_charge.sp ok h0 (o := o) hs ha hn
  -- nothing of the reader's changes
  have same : ∀ a' : AnsV, doesS c (prt K) o a = (prt K, a') → DoOut G0 L rid mid c tn (doesS c (prt K) o a) (same_reader_does.J56 machW CW a'.err a'.at_ a'.n a'.byte a'.live a'.peak a'.mark a'.pages 0 0 0 0 0 0 0 0 G) := by
    intro a' e
    rw [e, same_reader_does.J56_eq]
    exact ⟨G, K, rfl, h, rfl, t1⟩
  have fin : ∀ (G' : GH) (K' : List (Int × KB)), Rdr G0 G' L rid mid c K' → doesS c (prt K) o a = (prt K', a) → Tl K' (tn + 1) → DoOut G0 L rid mid c tn (doesS c (prt K) o a) (same_reader_does.J56 machW CW a.err a.at_ a.n a.byte a.live a.peak a.mark a.pages 0 0 0 0 0 0 0 0 G') := by
    intro G' K' h' e t'
    rw [e, same_reader_does.J56_eq]
    exact ⟨G', K', rfl, h', rfl, t'⟩
  have news : ∀ no : Int, doesS c (prt K) o a = (aPut (prt K) a.at_ ⟨chargeO c o, no, []⟩, a) →
      (G.alloc (.row [.int .i64 (chargeO c o), .int .i64 no, .sl 1 0 0 0] false)).ents kks mid = some (encM eAt ePt K) ∧
      DoOut G0 L rid mid c tn (doesS c (prt K) o a) (same_reader_does.J56 machW CW a.err a.at_ a.n a.byte a.live a.peak a.mark a.pages 0 0 0 0 0 0 0 0 ((G.alloc (.row [.int .i64 (chargeO c o), .int .i64 no, .sl 1 0 0 0] false)).set mid (some (.map kks (mapPut (encM eAt ePt K) (eAt a.at_) (.c (.ptr G.next 0))))))) := by
    intro no e
    have h1 := h0.newK (chargeO c o) no
    obtain ⟨e1, h2⟩ := h1.setM (es' := mapPut (encM eAt ePt K) (eAt a.at_) (ePt ⟨G.next, 0, ⟨chargeO c o, no, []⟩⟩))
    refine ⟨e1, fin _ _ (Rdr.fin h2) ?_ (t.put (by omega) _ (by simp))⟩
    rw [e]
    show (aPut (valM KB.b K) a.at_ (KB.b ⟨G.next, 0, ⟨chargeO c o, no, []⟩⟩), a) = _
    rw [aPut_val]
  have main : ∀ tb : Bool, tb = decide (o.k = 1 ∨ o.k = 3) → DoOut G0 L rid mid c tn (doesS c (prt K) o a) (same_reader_does.J50 machW CW rid 0 o.k tb o.k o.p o.s o.a o.n o.b a.err a.at_ a.n a.byte a.live a.peak a.mark a.pages 0 0 0 0 0 0 0 0 o.p 0 G) := by
    intro tb htb
    subst htb
    rw [same_reader_does.J50_eq]
    by_cases k13 : o.k = 1 ∨ o.k = 3
    · rw [condD_pos k13]
      simp only [guardN hp, ld, q_bs, q_I, q_B, q_P, q_S, q_M, q_c, q_a, q_gz, q_gs, q_gk, q_ct, q_cf, q_nt, q_nf, q_xt, q_xf, q_tt, q_ff, q_tf, q_ft, q_at, q_af, Nat.zero_add]
      rw [ch]
      simp only [q_bs, q_I, q_B, q_P, q_S, q_M, q_c, q_a, q_gz, q_gs, q_gk, q_ct, q_cf, q_nt, q_nf, q_xt, q_xf, q_tt, q_ff, q_tf, q_ft, q_at, q_af, ld]
      rw [guardD_of trivial]
      obtain ⟨e1, e2⟩ := news 0 (by unfold doesS; rw [if_pos k13])
      rw [e1, q_bs]
      exact e2
    rw [condD_neg k13]
    by_cases k2 : o.k = 2
    · rw [condD_pos k2, ch]
      simp only [guardN hp, ld, q_bs, q_I, q_B, q_P, q_S, q_M, q_c, q_a, q_gz, q_gs, q_gk, q_ct, q_cf, q_nt, q_nf, q_xt, q_xf, q_tt, q_ff, q_tf, q_ft, q_at, q_af, Nat.zero_add]
      obtain ⟨e1, e2⟩ := news (chargeO c o) (by unfold doesS; rw [if_neg k13, if_pos k2])
      rw [e1, q_bs]
      exact e2
    rw [condD_neg k2]
    have getp : ∀ es, es = encM eAt ePt K → (mapGet es (.agg [.int .i64 o.p, .int .i64 0])).getD (.c (.ptr 0 0)) = .c (.ptr (bidO (aGet K o.p)) 0) := by
      intro es e
      subst e
      rw [show V1.agg [Cell.int .i64 o.p, Cell.int .i64 0] = eAt o.p from rfl, mapGet_enc eAt_inj, getD_ePt]
    by_cases k4 : o.k = 4
    · rw [condD_pos k4]
      simp only [guardN hp, ld, q_bs, q_I, q_B, q_P, q_S, q_M, q_c, q_a, q_gz, q_gs, q_gk, q_ct, q_cf, q_nt, q_nf, q_xt, q_xf, q_tt, q_ff, q_tf, q_ft, q_at, q_af, Nat.zero_add, m2]
      rw [getp _ rfl]
      simp only [q_bs, q_I, q_B, q_P, q_S, q_M, q_c, q_a, q_gz, q_gs, q_gk, q_ct, q_cf, q_nt, q_nf, q_xt, q_xf, q_tt, q_ff, q_tf, q_ft, q_at, q_af]
      rw [ch]
      simp only [q_bs, q_I, q_B, q_P, q_S, q_M, q_c, q_a, q_gz, q_gs, q_gk, q_ct, q_cf, q_nt, q_nf, q_xt, q_xf, q_tt, q_ff, q_tf, q_ft, q_at, q_af, ld]
      rw [guardD_of trivial]
      simp only [m2, q_bs, q_I, q_B, q_P, q_S, q_M, q_c, q_a, q_gz, q_gs, q_gk, q_ct, q_cf, q_nt, q_nf, q_xt, q_xf, q_tt, q_ff, q_tf, q_ft, q_at, q_af]
      rw [getp _ rfl]
      simp only [q_bs, q_I, q_B, q_P, q_S, q_M, q_c, q_a, q_gz, q_gs, q_gk, q_ct, q_cf, q_nt, q_nf, q_xt, q_xf, q_tt, q_ff, q_tf, q_ft, q_at, q_af]
      rw [guardD_of trivial]
      have hX : ∃ X, Hp G0 G (X ++ ([rdR rid mid c, rdM mid K] ++ (kbRs (aDel K o.p) ++ L))) ∧ ∀ b, aGet K o.p = some b → X = kbR b := by
        cases e : aGet K o.p with
        | none => exact ⟨[], by rw [aDel_none e]; exact h0, fun b hb => by cases hb⟩
        | some b => exact ⟨kbR b, Hp.getK (A := [rdR rid mid c, rdM mid K]) h0 e, fun b' hb => by cases hb; rfl⟩
      obtain ⟨X, hX, hXb⟩ := hX
      obtain ⟨k, G1, e1, h1, hk⟩ := same_moved.sp hX (ob := aGet K o.p) (fun b hb => ⟨_, by rw [hXb b hb], by have := t.get hb; omega⟩) (chargeO c o)
      have e1' : CW same_moved.id [.c (.ptr (bidO (aGet K o.p)) 0), .c (.int .i64 (chargeO c o))] G = some ([.c (.ptr k.bid 0)], G1) := e1
      rw [e1']
      simp only [q_bs, q_I, q_B, q_P, q_S, q_M, q_c, q_a, q_gz, q_gs, q_gk, q_ct, q_cf, q_nt, q_nf, q_xt, q_xf, q_tt, q_ff, q_tf, q_ft, q_at, q_af]
      have h2 : Hp G0 G1 (kbR k ++ (rdR rid mid c :: rdM mid K :: (kbRs (aDel K o.p) ++ L))) := h1.sub ((List.Sublist.refl _).append (List.sublist_append_right _ _))
      have ld2 := fun off => (h2.pick 2).ld (off := off) hp
      obtain ⟨e3, h3⟩ := h2.setM (es' := mapDel (encM eAt ePt K) (eAt o.p))
      have ld3 := fun off => (h3.pick 2).ld (off := off) hp
      simp only [ld2, q_bs, q_I, q_B, q_P, q_S, q_M, q_c, q_a, q_gz, q_gs, q_gk, q_ct, q_cf, q_nt, q_nf, q_xt, q_xf, q_tt, q_ff, q_tf, q_ft, q_at, q_af]
      rw [e3, q_bs]
      have ld3' : ∀ off, (G1.set mid (some (.map kks (mapDel (encM eAt ePt K) (.agg [.int .i64 o.p, .int .i64 0]))))).ld rid off = _ := ld3
      simp only [guardN hp, ld3', q_bs, q_I, q_B, q_P, q_S, q_M, q_c, q_a, q_gz, q_gs, q_gk, q_ct, q_cf, q_nt, q_nf, q_xt, q_xf, q_tt, q_ff, q_tf, q_ft, q_at, q_af]
      obtain ⟨e4, h4⟩ := h3.setM (es' := mapPut (encM eAt ePt (aDel K o.p)) (eAt a.at_) (ePt k))
      rw [mapDel_enc eAt_inj] at e4 h4
      have e4' : (G1.set mid (some (.map kks (mapDel (encM eAt ePt K) (.agg [.int .i64 o.p, .int .i64 0]))))).ents kks mid = some (encM eAt ePt (aDel K o.p)) := by
        rw [show V1.agg [Cell.int .i64 o.p, Cell.int .i64 0] = eAt o.p from rfl, mapDel_enc eAt_inj]; exact e4
      rw [e4', q_bs]
      rw [show V1.agg [Cell.int .i64 o.p, Cell.int .i64 0] = eAt o.p from rfl, mapDel_enc eAt_inj]
      have hkl : k.b.tl.length ≤ tn := by
        rw [hk]
        cases e : aGet K o.p with
        | none => simp [movedS]
        | some b => exact Nat.le_trans (List.length_filter_le _ _) (t.get e)
      refine fin _ _ (Rdr.fin h4) ?_ ((t.del _).put (by omega) _ (by omega))
      unfold doesS
      rw [if_neg k13, if_neg k2, if_pos k4, aDel_val, aGet_val, ← hk, aPut_val]
    rw [condD_neg k4]
    by_cases k5 : o.k = 5
    · rw [condD_pos k5]
      simp only [guardN hp, ld, q_bs, q_I, q_B, q_P, q_S, q_M, q_c, q_a, q_gz, q_gs, q_gk, q_ct, q_cf, q_nt, q_nf, q_xt, q_xf, q_tt, q_ff, q_tf, q_ft, q_at, q_af, Nat.zero_add, m1]
      have h1 := ((h0.pick 1).set (o' := .map kks (mapDel (encM eAt ePt K) (eAt o.p))) m0).pick 1
      rw [mapDel_enc eAt_inj] at h1
      have h2 : Rdr G0 (G.set mid (some (.map kks (encM eAt ePt (aDel K o.p))))) L rid mid c (aDel K o.p) := Hp.delK (A := [rdR rid mid c, rdM mid (aDel K o.p)]) h1
      rw [show V1.agg [Cell.int .i64 o.p, Cell.int .i64 0] = eAt o.p from rfl, mapDel_enc eAt_inj]
      refine fin _ _ h2 ?_ (t1.del _)
      unfold doesS
      rw [if_neg k13, if_neg k2, if_neg k4, if_pos k5, aDel_val]
    rw [condD_neg k5]
    by_cases k8 : o.k = 8
    · rw [condD_pos k8]
      simp only [guardN hp, ld, q_bs, q_I, q_B, q_P, q_S, q_M, q_c, q_a, q_gz, q_gs, q_gk, q_ct, q_cf, q_nt, q_nf, q_xt, q_xf, q_tt, q_ff, q_tf, q_ft, q_at, q_af, Nat.zero_add, m2]
      rw [getp _ rfl, show V1.agg [Cell.int .i64 o.p, Cell.int .i64 0] = eAt o.p from rfl, mapGet_enc eAt_inj, isSome_map']
      simp only [q_bs, q_I, q_B, q_P, q_S, q_M, q_c, q_a, q_gz, q_gs, q_gk, q_ct, q_cf, q_nt, q_nf, q_xt, q_xf, q_tt, q_ff, q_tf, q_ft, q_at, q_af]
      have ds : doesS c (prt K) o a = (match aGet (prt K) o.p with
          | some b => if b.knows o.n = true then (prt K, a) else (aPut (prt K) o.p { b with tl := b.tl ++ [o.n] }, a)
          | none => (prt K, a)) := by
        unfold doesS
        (rw [if_neg k13, if_neg k2, if_neg k4, if_neg k5, if_pos k8]) <;> rfl
      cases e : aGet K o.p with
      | none =>
        rw [Option.isSome_none, q_cf, same_reader_does.J26_eq, q_cf]
        refine same a ?_
        rw [ds, aGet_val, e]; rfl
      | some b =>
        rw [Option.isSome_some, q_ct, same_reader_knows.sp h t (by omega)]
        simp only [q_bs, q_I, q_B, q_P, q_S, q_M, q_c, q_a, q_gz, q_gs, q_gk, q_ct, q_cf, q_nt, q_nf, q_xt, q_xf, q_tt, q_ff, q_tf, q_ft, q_at, q_af]
        have kn : knowsS (prt K) o.p o.n = b.b.knows o.n := by unfold knowsS; rw [aGet_val, e]; rfl
        rw [kn, same_reader_does.J26_eq]
        have ds2 : doesS c (prt K) o a = if b.b.knows o.n = true then (prt K, a) else (aPut (prt K) o.p { b.b with tl := b.b.tl ++ [o.n] }, a) := by
          rw [ds, aGet_val, e]; rfl
        cases hk : b.b.knows o.n with
        | true =>
          rw [q_nt, q_cf]
          refine same a ?_
          rw [ds2, hk, if_pos rfl]
        | false =>
          rw [q_nf, q_ct]
          have h1 : Hp G0 G (kbR b ++ ([rdR rid mid c, rdM mid K] ++ (kbRs (aDel K o.p) ++ L))) := Hp.getK (A := [rdR rid mid c, rdM mid K]) h0 e
          have hb := h1.ne
          have lb := fun off => h1.ld (off := off) hb
          have tl := t.get e
          simp only [bidO, guardN hb, lb, q_bs, q_I, q_B, q_P, q_S, q_M, q_c, q_a, q_gz, q_gs, q_gk, q_ct, q_cf, q_nt, q_nf, q_xt, q_xf, q_tt, q_ff, q_tf, q_ft, q_at, q_af, Nat.zero_add]
          have hq : Hp G0 G (rowE eI b.tid b.b.tl :: (b.bid, .row [.int .i64 b.b.ch, .int .i64 b.b.no, .sl 1 b.tid 0 b.b.tl.length] false) :: ([rdR rid mid c, rdM mid K] ++ (kbRs (aDel K o.p) ++ L))) := h1.pick 1
          obtain ⟨tid2, G4, h4, k4'⟩ := Hp.app1 (S := Res) (e := eI) hq o.n (n := b.b.tl.length) rfl (by omega)
          rw [k4']
          dsimp only
          have h5 := h4.back 1
          obtain ⟨G5, h6, e6⟩ := h5.sts (off := 2) (new := [.sl 1 tid2 0 (b.b.tl.length + 1)]) hb (by simp)
          have e7 : (b.b.tl ++ [o.n]).length = b.b.tl.length + 1 := by simp
          rw [e6, q_bs]
          rw [← e7] at h6
          have h7 : Hp G0 G5 (kbR ⟨b.bid, tid2, ⟨b.b.ch, b.b.no, b.b.tl ++ [o.n]⟩⟩ ++ ([rdR rid mid c, rdM mid K] ++ (kbRs (aDel K o.p) ++ L))) := h6
          have h8 := Hp.backK (A := [rdR rid mid c, rdM mid K]) h7 e
          have h9 : Rdr G0 G5 L rid mid c (aPut K o.p ⟨b.bid, tid2, ⟨b.b.ch, b.b.no, b.b.tl ++ [o.n]⟩⟩) := by
            unfold Rdr rdM
            rw [encM_same (b := b) (b' := ⟨b.bid, tid2, ⟨b.b.ch, b.b.no, b.b.tl ++ [o.n]⟩⟩) rfl e]
            exact h8
          refine fin _ _ h9 ?_ (t.put (by omega) _ (by dsimp only; rw [e7]; omega))
          rw [ds2, hk, if_neg (by decide)]
          show (aPut (valM KB.b K) o.p (KB.b ⟨b.bid, tid2, ⟨b.b.ch, b.b.no, b.b.tl ++ [o.n]⟩⟩), a) = _
          rw [aPut_val]
    rw [condD_neg k8]
    by_cases k7 : o.k = 7
    · rw [condD_pos k7, same_reader_knows.sp h t (by omega)]
      simp only [q_bs, q_I, q_B, q_P, q_S, q_M, q_c, q_a, q_gz, q_gs, q_gk, q_ct, q_cf, q_nt, q_nf, q_xt, q_xf, q_tt, q_ff, q_tf, q_ft, q_at, q_af]
      have ds : doesS c (prt K) o a = (prt K, if knowsS (prt K) o.p o.n = true then a else { a with byte := 0 }) := by
        unfold doesS
        rw [if_neg k13, if_neg k2, if_neg k4, if_neg k5, if_neg k8, if_pos k7]
      cases hk : knowsS (prt K) o.p o.n with
      | true =>
        rw [q_nt, q_cf]
        exact same a (by rw [ds, hk, if_pos rfl])
      | false =>
        rw [q_nf, q_ct]
        exact same { a with byte := 0 } (by rw [ds, hk, if_neg (by decide)])
    rw [condD_neg k7]
    by_cases k10 : o.k = 10
    · rw [condD_pos k10]
      refine same { a with pages := 0 } ?_
      unfold doesS
      rw [if_neg k13, if_neg k2, if_neg k4, if_neg k5, if_neg k8, if_neg k7, if_pos k10]
    · rw [condD_neg k10]
      refine same a ?_
      unfold doesS
      rw [if_neg k13, if_neg k2, if_neg k4, if_neg k5, if_neg k8, if_neg k7, if_neg k10]
  rw [same_reader_does.cw]
  unfold same_reader_does.f
  by_cases k1 : o.k = 1
  · rw [condD_pos k1]; exact main _ (by rw [decide_eq_true k1, decide_eq_true (.inl k1)])
  · rw [condD_neg k1]; exact main _ (by simp only [k1, false_or])
theorem same_Plain.sp (h : Hp G0 G L) {c : Cf} (ok : c.Ok) {pi po ai ao : Nat} {ops : List OpV} {ans : List AnsV} (so : Rd G0 L eOp pi po ops) (sa : Rd G0 L eAns ai ao ans) (hin : ∀ o ∈ ops, R64 o.s ∧ R64 o.a ∧ R64 o.n) (hl : ops.length ≤ 100000000) (hla : ans.length ≤ 100000000) :
    ∃ oi G', CW same_Plain.id [.agg (cfC c), .c (.sl 6 pi po ops.length), .c (.sl 8 ai ao ans.length)] G = some ([.c (.sl 8 oi 0 (plainP c ops ans).length)], G') ∧ Hp G0 G' (rowE eAns oi (plainP c ops ans) :: L) := by
  have hm : (1000000001 : Nat) ≤ most := by unfold most; decide
  rw [same_Plain.cw]
  unfold same_Plain.f plainP
  by_cases hlen : ops.length = ans.length
  · rw [condN_neg (by omega), if_pos hlen]
    dsimp only
    have h1 := (h.alloc (.map kks (encM eAt ePt [])))
    have hG1' : G.alloc (.map (.agg [.int .i64, .int .i64]) []) = G.alloc (.map kks (encM eAt ePt [])) := rfl
    rw [hG1']
    generalize G.alloc (.map kks (encM eAt ePt [])) = G1 at h1 ⊢
    have h2 : Hp G0 _ (rdR G1.next G.next c :: rdM G.next [] :: L) := h1.alloc _
    have eG2 : G1.alloc (.row [.int .i64 c.G, .int .i64 c.N, .int .i64 c.M, .int .i64 c.L, .int .i64 c.Pg, .int .i64 c.P, .int .i64 c.H, .int .i64 c.Sd, .map G.next] false) = G1.alloc (rdR G1.next G.next c).2 := rfl
    rw [eG2]
    generalize G1.alloc (rdR G1.next G.next c).2 = G2 at h2 ⊢
    generalize G1.next = rid at *
    generalize G.next = mid at *
    have lp : ∀ (d i : Nat) (K : List (Int × KB)) (oi : Nat) (acc : List AnsV) (G3 : GH), i + d = ops.length → acc.length ≤ i → Rdr G0 G3 (rowE eAns oi acc :: L) rid mid c K → Tl K i → acc ++ plainS c (prt K) (ops.drop i) (ans.drop i) = plainS c [] ops ans →
        ∃ oi' G', same_Plain.L26 machW CW ai ao ans.length oi 0 acc.length rid 0 pi po ops.length ((ops.length : Nat) : Int) (i : Int) G3 = some ([.c (.sl 8 oi' 0 (plainS c [] ops ans).length)], G') ∧ Hp G0 G' (rowE eAns oi' (plainS c [] ops ans) :: L) := by
      intro d
      induction d with
      | zero =>
        intro i K oi acc G3 hi ha h3 t e
        rw [List.drop_of_length_le (by omega)] at e
        have e0 : plainS c (prt K) ([] : List OpV) (ans.drop i) = [] := by unfold plainS; rfl
        rw [e0, List.append_nil] at e
        rw [same_Plain.L26_eq, condD_neg (by omega), ← e]
        have h4 : Hp G0 G3 (rdR rid mid c :: rdM mid K :: (kbRs K ++ (rowE eAns oi acc :: L))) := h3
        exact ⟨oi, G3, rfl, h4.sub (.cons _ (.cons _ (List.sublist_append_right _ _)))⟩
      | succ d ih =>
        intro i K oi acc G3 hi ha h3 t e
        have hil : i < ops.length := by omega
        have hia : i < ans.length := by omega
        have ed : ops.drop i = ops[i] :: ops.drop (i + 1) := List.drop_eq_getElem_cons hil
        have ea : ans.drop i = ans[i] :: ans.drop (i + 1) := List.drop_eq_getElem_cons hia
        have zi : decide (0 ≤ (i : Int) ∧ (i : Int) < ((ops.length : Nat) : Int)) = true := decide_eq_true (by omega)
        have za : decide (0 ≤ (i : Int) ∧ (i : Int) < ((ans.length : Nat) : Int)) = true := decide_eq_true (by omega)
        have h4 : Hp G0 G3 (rdR rid mid c :: rdM mid K :: (kbRs K ++ (rowE eAns oi acc :: L))) := h3
        have hL : Hp G0 G3 L := h4.sub (.cons _ (.cons _ ((List.sublist_cons_self _ _).trans (List.sublist_append_right _ _))))
        have so3 := so _ hL
        have sa3 := sa _ hL
        have ho := hin _ (List.getElem_mem hil)
        rw [ed, ea] at e
        simp only [plainS] at e
        have q0 := so3.ld i 0 hil (by omega)
        have q1 := so3.ld i 1 hil (by omega)
        have q2 := so3.ld i 2 hil (by omega)
        have q3 := so3.ld i 3 hil (by omega)
        have q4 := so3.ld i 4 hil (by omega)
        have q5 := so3.ld i 5 hil (by omega)
        have r0 := sa3.ld i 0 hia (by omega)
        have r1 := sa3.ld i 1 hia (by omega)
        have r2 := sa3.ld i 2 hia (by omega)
        have r3 := sa3.ld i 3 hia (by omega)
        have r4 := sa3.ld i 4 hia (by omega)
        have r5 := sa3.ld i 5 hia (by omega)
        have r6 := sa3.ld i 6 hia (by omega)
        have r7 := sa3.ld i 7 hia (by omega)
        generalize ops[i] = o at *
        generalize ans[i] = a at *
        rw [same_Plain.L26_eq, condD_pos (by omega)]
        simp only [zi, za, Int.toNat_natCast, q0, q1, q2, q3, q4, q5, r0, q_bs, q_I, q_B, q_P, q_S, q_M, q_c, q_a, q_gz, q_gs, q_gk, q_ct, q_cf, q_nt, q_nf, q_xt, q_xf, q_tt, q_ff, q_tf, q_ft, q_at, q_af]
        have nxt : ∀ (K : List (Int × KB)) (oi : Nat) (acc : List AnsV) (G3 : GH), acc.length ≤ i + 1 → Rdr G0 G3 (rowE eAns oi acc :: L) rid mid c K → Tl K (i + 1) → acc ++ plainS c (prt K) (ops.drop (i + 1)) (ans.drop (i + 1)) = plainS c [] ops ans →
            ∃ oi' G', same_Plain.J22 machW CW ai ao ans.length oi 0 acc.length rid 0 pi po ops.length ((ops.length : Nat) : Int) (i : Int) G3 = some ([.c (.sl 8 oi' 0 (plainS c [] ops ans).length)], G') ∧ Hp G0 G' (rowE eAns oi' (plainS c [] ops ans) :: L) := by
          intro K oi acc G3 ha h3 t e
          rw [same_Plain.J22_eq, i64w, wrap_id (by omega) (by omega)]
          exact ih (i + 1) K oi acc G3 (by omega) ha h3 t e
        have mid2 : ∀ tb : Bool, tb = decide (a.err = 0 ∧ o.k ≠ 9) → ∃ oi' G', same_Plain.J18 machW CW ai ao ans.length oi 0 acc.length rid 0 (i : Int) pi po ops.length ((ops.length : Nat) : Int) (i : Int) tb o.k o.p o.s o.a o.n o.b G3 = some ([.c (.sl 8 oi' 0 (plainS c [] ops ans).length)], G') ∧ Hp G0 G' (rowE eAns oi' (plainS c [] ops ans) :: L) := by
          intro tb htb
          subst htb
          rw [same_Plain.J18_eq]
          by_cases hc : a.err = 0 ∧ o.k ≠ 9
          · rw [condD_pos hc]
            rw [if_pos hc] at e
            simp only [za, Int.toNat_natCast, r0, r1, r2, r3, r4, r5, r6, r7, q_bs, q_I, q_B, q_P, q_S, q_M, q_c, q_a, q_gz, q_gs, q_gk, q_ct, q_cf, q_nt, q_nf, q_xt, q_xf, q_tt, q_ff, q_tf, q_ft, q_at, q_af]
            obtain ⟨G4, K4, e4, h4, p4, t4⟩ := same_reader_does.sp ok h3 t (by omega) (o := o) ho.1 ho.2.1 ho.2.2 a
            rw [e4]
            simp only [q_bs, q_I, q_B, q_P, q_S, q_M, q_c, q_a, q_gz, q_gs, q_gk, q_ct, q_cf, q_nt, q_nf, q_xt, q_xf, q_tt, q_ff, q_tf, q_ft, q_at, q_af, List.length_cons, List.length_nil, if_true]
            have h5 : Hp G0 G4 ((rdR rid mid c :: rdM mid K4 :: kbRs K4) ++ (rowE eAns oi acc :: L)) := h4
            have h6 : Hp G0 G4 (rowE eAns oi acc :: ((rdR rid mid c :: rdM mid K4 :: kbRs K4) ++ L)) := h5.perm (perm3 _ [rowE eAns oi acc] L)
            obtain ⟨oi2, G5, h7, k7⟩ := Hp.app1 (S := Res) h6 (doesS c (prt K) o a).2 (n := acc.length) rfl (by omega)
            rw [k7]
            dsimp only
            have h8 : Hp G0 G5 ((rdR rid mid c :: rdM mid K4 :: kbRs K4) ++ (rowE eAns oi2 (acc ++ [(doesS c (prt K) o a).2]) :: L)) := h7.perm (perm3 [rowE eAns oi2 (acc ++ [(doesS c (prt K) o a).2])] (rdR rid mid c :: rdM mid K4 :: kbRs K4) L)
            have e9 : (acc ++ [(doesS c (prt K) o a).2]).length = acc.length + 1 := by simp
            rw [← e9]
            exact nxt K4 oi2 _ G5 (by omega) h8 t4 (by rw [← e, p4, List.append_assoc]; rfl)
          · rw [condD_neg hc]
            rw [if_neg hc] at e
            exact nxt K oi acc G3 (by omega) h3 (fun x hx => Nat.le_succ_of_le (t x hx)) e
        by_cases he : a.err = 0
        · rw [condD_pos he]; exact mid2 _ (by simp [he])
        · rw [condD_neg he]; exact mid2 _ (by simp [he])
    exact lp ops.length 0 [] 0 [] G2 (by omega) (by simp) (by
      have := (h2.nil0 (e := eAns)).back 2
      exact this) (fun x hx => by cases hx) (by rw [List.drop_zero, List.drop_zero]; rfl)
  · rw [condN_pos (by omega), if_neg hlen]
    exact ⟨0, G, rfl, h.nil0⟩
/-- Are rows alike? -/
theorem ans_eq (a b : AnsV) : (decide (a.err = b.err) && (decide (a.at_ = b.at_) && (decide (a.n = b.n) && (decide (a.byte = b.byte) && (decide (a.live = b.live) && (decide (a.peak = b.peak) && (decide (a.mark = b.mark) && (decide (a.pages = b.pages) && true)))))))) = decide (a = b) := by
  cases a; cases b
  simp [AnsV.mk.injEq, Bool.decide_and]
theorem api_Ans.lp {ai ao bi bo : Nat} {a b : List AnsV} (sa : Sl G eAns ai ao a) (sb : Sl G eAns bi bo b) (hl : a.length = b.length) (hn : a.length ≤ 1000000000) : ∀ (d k : Nat), k + d = a.length →
    api_Ans.L27 machW CW ai ao a.length bi bo b.length ((a.length : Nat) : Int) (k : Int) G = some ([.c (.bool (decide (a.drop k = b.drop k)))], G)
  | 0, k, hk => by
    rw [api_Ans.L27_eq, condD_neg (by omega), List.drop_of_length_le (by omega), List.drop_of_length_le (by omega), decide_eq_true rfl]
  | d + 1, k, hk => by
    have ha : k < a.length := by omega
    have hb : k < b.length := by omega
    have ea : a.drop k = a[k] :: a.drop (k + 1) := List.drop_eq_getElem_cons ha
    have eb : b.drop k = b[k] :: b.drop (k + 1) := List.drop_eq_getElem_cons hb
    have za : decide (0 ≤ (k : Int) ∧ (k : Int) < ((a.length : Nat) : Int)) = true := decide_eq_true (by omega)
    have zb : decide (0 ≤ (k : Int) ∧ (k : Int) < ((b.length : Nat) : Int)) = true := decide_eq_true (by omega)
    rw [api_Ans.L27_eq, condD_pos (by omega)]
    simp only [za, zb, Int.toNat_natCast, sa.ld k 0 ha (by omega), sa.ld k 1 ha (by omega), sa.ld k 2 ha (by omega), sa.ld k 3 ha (by omega), sa.ld k 4 ha (by omega), sa.ld k 5 ha (by omega), sa.ld k 6 ha (by omega), sa.ld k 7 ha (by omega), sb.ld k 0 hb (by omega), sb.ld k 1 hb (by omega), sb.ld k 2 hb (by omega), sb.ld k 3 hb (by omega), sb.ld k 4 hb (by omega), sb.ld k 5 hb (by omega), sb.ld k 6 hb (by omega), sb.ld k 7 hb (by omega), q_bs, q_I, q_B, q_P, q_S, q_M, q_c, q_a, q_gz, q_gs, q_gk, q_ct, q_cf, q_nt, q_nf, q_xt, q_xf, q_tt, q_ff, q_tf, q_ft, q_at, q_af]
    rw [ans_eq, ea, eb, i64w, wrap_id (by omega) (by omega)]
    by_cases h : a[k] = b[k]
    · rw [decide_eq_true h, q_nt, q_cf]
      have := api_Ans.lp sa sb hl hn d (k + 1) (by omega)
      have e2 : decide (a[k] :: a.drop (k + 1) = b[k] :: b.drop (k + 1)) = decide (a.drop (k + 1) = b.drop (k + 1)) := decide_eq_decide.2 ⟨fun e => (List.cons.inj e).2, fun e => by rw [h, e]⟩
      rw [show (k : Int) + 1 = ((k + 1 : Nat) : Int) by omega, this, e2]
    · rw [decide_eq_false h, q_nf, q_ct, decide_eq_false (fun e => h (List.cons.inj e).1)]
theorem api_Ans.sp {ai ao bi bo : Nat} {a b : List AnsV} (sa : Sl G eAns ai ao a) (sb : Sl G eAns bi bo b) (hn : a.length ≤ 1000000000) : CW api_Ans.id [.c (.sl 8 ai ao a.length), .c (.sl 8 bi bo b.length)] G = some ([.c (.bool (decide (a = b)))], G) := by
  rw [api_Ans.cw]
  unfold api_Ans.f
  by_cases h : a.length = b.length
  · rw [condN_neg (by omega)]
    exact api_Ans.lp sa sb h hn a.length 0 (by omega)
  · rw [condN_pos (by omega), decide_eq_false (fun e => h (by rw [e]))]
theorem same_Same.sp {ai ao bi bo : Nat} {a b : List AnsV} (sa : Sl G eAns ai ao a) (sb : Sl G eAns bi bo b) (hn : a.length ≤ 1000000000) : CW same_Same.id [.c (.sl 8 ai ao a.length), .c (.sl 8 bi bo b.length)] G = some ([.c (.bool (decide (a = b)))], G) := by
  rw [same_Same.cw]
  unfold same_Same.f
  rw [api_Ans.sp sa sb hn]
  simp only [q_bs, q_I, q_B, q_P, q_S, q_M, q_c, q_a, q_gz, q_gs, q_gk, q_ct, q_cf, q_nt, q_nf, q_xt, q_xf, q_tt, q_ff, q_tf, q_ft, q_at, q_af]
end Go.Proofs.D.S
/- Calls that fail change nothing. -/
set_option linter.unusedVariables false
namespace Go.Proofs.D.S
open Go Go.RowKit
theorem placeM_fail (m : Mod) (l : List Blk) (n asked : Int) (h : (placeM m l n asked).2.2 ≠ 0) : (placeM m l n asked).1 = m := by
  unfold placeM at h ⊢
  by_cases h1 : (lowR m.c.H l n).2 = true
  · rw [if_pos h1] at h ⊢
    cases hc : commitP m.on (metP m.c.Pg m.on.length l) (pagesP m.c.Pg (lowR m.c.H l n).1 n).1 (pagesP m.c.Pg (lowR m.c.H l n).1 n).2 m.c.P with
    | none => rfl
    | some p => rw [hc] at h; exact absurd rfl h
  · rw [if_neg h1]
theorem giveM_fail (m : Mod) (o : OpV) (h : (giveM m o).2.err ≠ 0) : (giveM m o).1 = m := by
  unfold giveM at h ⊢
  dsimp only at h ⊢
  generalize (if o.k = 2 then manyS m.c.G m.c.N m.c.M m.live o.n o.s else newS m.c.G m.c.N m.c.M m.live o.s (if o.k = 3 then o.a else 1)) = r at h ⊢
  generalize (if o.k = 2 then wrap64 (o.n * o.s) else o.s) = s at h ⊢
  by_cases h1 : r.2 = 0
  · rw [if_pos h1] at h ⊢
    by_cases h2 : (placeM m m.bl r.1 s).2.2 = 0
    · rw [if_pos h2] at h; exact absurd rfl h
    · rw [if_neg h2]
  · rw [if_neg h1]
theorem ofM_fail (m : Mod) (o : OpV) (A : Nat) (b : Blk) (h : (ofM m o A b).2.err ≠ 0) : (ofM m o A b).1 = m := by
  unfold ofM at h ⊢
  dsimp only at h ⊢
  by_cases h4 : o.k = 4
  · rw [if_pos h4] at h ⊢
    by_cases h1 : (newS m.c.G m.c.N m.c.M (m.live - b.ch) o.s 1).2 = 0
    · rw [if_pos h1] at h ⊢
      by_cases h2 : (placeM m (m.bl.take A ++ m.bl.drop (A + 1)) (newS m.c.G m.c.N m.c.M (m.live - b.ch) o.s 1).1 o.s).2.2 = 0
      · rw [if_pos h2] at h; exact absurd rfl h
      · rw [if_neg h2]
    · rw [if_neg h1]
  · rw [if_neg h4] at h ⊢
    by_cases h5 : o.k = 5
    · rw [if_pos h5] at h; exact absurd rfl h
    · rw [if_neg h5] at h ⊢
      by_cases h6 : o.k = 6
      · rw [if_pos h6]
      · rw [if_neg h6] at h ⊢
        by_cases h7 : o.n < 0 ∨ o.n ≥ b.ch
        · rw [if_pos h7]
        · rw [if_neg h7] at h ⊢
          by_cases h8 : o.k = 7
          · rw [if_pos h8]
          · rw [if_neg h8] at h; exact absurd rfl h
theorem doM_fail (m : Mod) (o : OpV) (h : (doM m o).2.err ≠ 0) : (doM m o).1 = m := by
  unfold doM at h ⊢
  by_cases h1 : o.k = 1 ∨ o.k = 2 ∨ o.k = 3
  · rw [if_pos h1] at h ⊢; exact giveM_fail m o h
  · rw [if_neg h1] at h ⊢
    by_cases h9 : o.k = 9
    · rw [if_pos h9] at h; exact absurd rfl h
    · rw [if_neg h9] at h ⊢
      by_cases h10 : o.k = 10
      · rw [if_pos h10]
      · rw [if_neg h10] at h ⊢
        by_cases h4 : o.k = 4 ∨ o.k = 5 ∨ o.k = 6 ∨ o.k = 7 ∨ o.k = 8
        · rw [if_pos h4] at h ⊢
          cases e : findB m.bl o.p with
          | none => rfl
          | some A => rw [e] at h; exact ofM_fail m o A _ h
        · rw [if_neg h4]
/-- The calls that were told OK. -/
def okOps : List OpV → List AnsV → List OpV
  | o :: os, a :: az => if a.err = 0 then o :: okOps os az else okOps os az
  | _, _ => []
theorem okOps_sub : ∀ (os : List OpV) (az : List AnsV), (okOps os az).Sublist os
  | [], az => by unfold okOps; exact .refl _
  | o :: os, [] => by unfold okOps; exact List.nil_sublist _
  | o :: os, a :: az => by
    unfold okOps
    split
    · exact (okOps_sub os az).cons_cons _
    · exact (okOps_sub os az).cons _
end Go.Proofs.D.S
/- The reference's Plain: rows of what is known. -/
set_option linter.unusedVariables false
set_option linter.unusedSimpArgs false
namespace Go.Proofs.D.S
open Go Go.RowKit
variable {G G0 : GH} {L : List (Nat × Obj)}
def chargedR (c : Cf) (o : OpV) : Int × Int :=
  if o.k = 1 ∨ o.k = 4 then c.charge o.s 1 else if o.k = 3 then c.charge o.s o.a
  else if o.k = 2 then (if (productS c.N o.n o.s).2 = 0 then c.charge (productS c.N o.n o.s).1 1 else (0, (productS c.N o.n o.s).2)) else (0, 0)
theorem chargedR_range {c : Cf} (ok : c.Ok) (o : OpV) : 0 ≤ (chargedR c o).1 ∧ (chargedR c o).1 ≤ 65536 := by
  have f := ok.facts
  unfold chargedR
  split
  · have := chargeS_range ok o.s 1; omega
  · split
    · have := chargeS_range ok o.s o.a; omega
    · split
      · split
        · have := chargeS_range ok (productS c.N o.n o.s).1 1; omega
        · dsimp only; omega
      · dsimp only; omega
/-- A step of the reference's. -/
def doesR (c : Cf) (R : List (Int × List Bool)) (o : OpV) (a : AnsV) : List (Int × List Bool) × AnsV :=
  if o.k = 1 ∨ o.k = 3 ∨ o.k = 2 then (aPut R a.at_ (tab (chargedR c o).1.toNat fun _ => decide (o.k = 2)), a)
  else if o.k = 4 ∨ o.k = 5 then (match aGet R o.p with
    | none => (R, a)
    | some was => if o.k = 4 then (aPut (aDel R o.p) a.at_ (tab (chargedR c o).1.toNat fun k => was.getD k false), a) else (aDel R o.p, a))
  else if o.k = 8 then (match aGet R o.p with
    | none => (R, a)
    | some has => if 0 ≤ o.n ∧ o.n < has.length then (aPut R o.p (has.set o.n.toNat true), a) else (R, a))
  else if o.k = 7 then (R, match aGet R o.p with
    | none => { a with byte := 0 }
    | some has => if 0 ≤ o.n ∧ o.n < has.length ∧ has.getD o.n.toNat false = true then a else { a with byte := 0 })
  else if o.k = 10 then (R, { a with pages := 0 })
  else (R, a)
def plainR (c : Cf) : List (Int × List Bool) → List OpV → List AnsV → List AnsV
  | R, o :: os, a :: az => if a.err = 0 ∧ o.k ≠ 9 then (doesR c R o a).2 :: plainR c (doesR c R o a).1 os az else plainR c R os az
  | _, _, _ => []
/-- New blocks begin where none does. -/
def RunOk (c : Cf) : List (Int × List Bool) → List OpV → List AnsV → Prop
  | R, o :: os, a :: az => if a.err = 0 ∧ o.k ≠ 9 then ((o.k = 1 ∨ o.k = 3 ∨ o.k = 2) → aGet R a.at_ = none) ∧ (o.k = 4 → aGet (aDel R o.p) a.at_ = none) ∧ RunOk c (doesR c R o a).1 os az else RunOk c R os az
  | _, _, _ => True
/-- What is known of a block, as it lies. -/
structure KR where
  hid : Nat
  at_ : Int
  has : List Bool
abbrev eKR (k : KR) : List Cell := [.int .i64 k.at_, .sl 1 k.hid 0 k.has.length]
instance : Wide 2 eKR := ⟨fun _ => rfl, by decide⟩
abbrev hrs (ks : List KR) : List (Nat × Obj) := ks.map fun k => rowE eB k.hid k.has
abbrev prr (ks : List KR) : List (Int × List Bool) := ks.map fun k => (k.at_, k.has)
theorem hrs_set (k : KR) : ∀ (ks : List KR) (A : Nat), ∃ M, (rowE eB k.hid k.has :: hrs ks).Perm M ∧ (hrs (ks.set A k)).Sublist M
  | [], A => ⟨_, .refl _, by simp [hrs]⟩
  | x :: ks, 0 => ⟨_, .refl _, by
    show (rowE eB k.hid k.has :: hrs ks).Sublist (rowE eB k.hid k.has :: rowE eB x.hid x.has :: hrs ks)
    exact (List.sublist_cons_self _ _).cons_cons _⟩
  | x :: ks, A + 1 => by
    obtain ⟨M, p, q⟩ := hrs_set k ks A
    refine ⟨rowE eB x.hid x.has :: M, ?_, ?_⟩
    · show (rowE eB k.hid k.has :: rowE eB x.hid x.has :: hrs ks).Perm _
      exact (List.Perm.swap _ _ _).trans (p.cons _)
    · show (rowE eB x.hid x.has :: hrs (ks.set A k)).Sublist _
      exact q.cons_cons _
theorem prr_set (k : KR) : ∀ (ks : List KR) (A : Nat) (hA : A < ks.length), NoDup (prr ks) → k.at_ = ks[A].at_ → prr (ks.set A k) = aPut (prr ks) k.at_ k.has
  | [], A, hA, _, _ => by simp at hA
  | x :: ks, 0, hA, nd, e => by
    have e : k.at_ = x.at_ := e
    show (k.at_, k.has) :: prr ks = aPut ((x.at_, x.has) :: prr ks) k.at_ k.has
    unfold aPut
    rw [if_pos e.symm]
  | x :: ks, A + 1, hA, nd, e => by
    have hA : A < ks.length := by simpa using hA
    have e : k.at_ = ks[A].at_ := e
    obtain ⟨d1, d2⟩ := List.pairwise_cons.1 nd
    have ne : x.at_ ≠ k.at_ := by
      have := d1 (ks[A].at_, ks[A].has) (List.mem_map.2 ⟨ks[A], List.getElem_mem hA, rfl⟩)
      rw [e]; exact this
    show (x.at_, x.has) :: prr (ks.set A k) = aPut ((x.at_, x.has) :: prr ks) k.at_ k.has
    unfold aPut
    rw [if_neg ne, prr_set k ks A hA d2 e]
theorem prr_del : ∀ (ks : List KR) (A : Nat) (hA : A < ks.length), NoDup (prr ks) → prr (ks.take A ++ ks.drop (A + 1)) = aDel (prr ks) ks[A].at_
  | [], A, hA, _ => by simp at hA
  | x :: ks, 0, hA, nd => by
    show prr ks = aDel ((x.at_, x.has) :: prr ks) x.at_
    unfold aDel
    rw [if_pos rfl]
  | x :: ks, A + 1, hA, nd => by
    have hA : A < ks.length := by simpa using hA
    obtain ⟨d1, d2⟩ := List.pairwise_cons.1 nd
    have ne : x.at_ ≠ ks[A].at_ := d1 (ks[A].at_, ks[A].has) (List.mem_map.2 ⟨ks[A], List.getElem_mem hA, rfl⟩)
    show (x.at_, x.has) :: prr (ks.take A ++ ks.drop (A + 1)) = aDel ((x.at_, x.has) :: prr ks) ks[A].at_
    unfold aDel
    rw [if_neg ne, prr_del ks A hA d2]
theorem rest_sub {α : Type} (l : List α) (A : Nat) : (l.take A ++ l.drop (A + 1)).Sublist l := by
  have h2 : (l.drop (A + 1)).Sublist (l.drop A) := by
    rw [← List.drop_drop]; exact List.drop_sublist _ _
  have h := (List.Sublist.refl (l.take A)).append h2
  rwa [List.take_append_drop] at h
theorem hodmanref17_charged.sp {c : Cf} (ok : c.Ok) {o : OpV} (hs : R64 o.s) (ha : R64 o.a) (hn : R64 o.n) : CW hodmanref17_charged.id [.agg (cfC c), .agg (eOp o)] G = some ([.c (.int .i64 (chargedR c o).1), .c (.int .i64 (chargedR c o).2)], G) := by
  have one : R64 1 := by unfold R64; omega
  have mid : ∀ t : Bool, t = decide (o.k = 1 ∨ o.k = 4) → hodmanref17_charged.J33 machW CW o.k t c.G c.N c.M c.L c.Pg c.P c.H c.Sd o.k o.p o.s o.a o.n o.b G = some ([.c (.int .i64 (chargedR c o).1), .c (.int .i64 (chargedR c o).2)], G) := by
    intro t ht
    subst ht
    rw [hodmanref17_charged.J33_eq]
    unfold chargedR
    by_cases h1 : o.k = 1 ∨ o.k = 4
    · rw [condD_pos h1, if_pos h1, hodmanref1_Charge.sp ok one]
      simp only [q_bs, q_I, q_B, q_P, q_S, q_M, q_c, q_a, q_gz, q_gs, q_gk, q_ct, q_cf, q_nt, q_nf, q_xt, q_xf, q_tt, q_ff, q_tf, q_ft, q_at, q_af]
    rw [condD_neg h1, if_neg h1]
    by_cases h3 : o.k = 3
    · rw [condD_pos h3, if_pos h3, hodmanref1_Charge.sp ok ha]
      simp only [q_bs, q_I, q_B, q_P, q_S, q_M, q_c, q_a, q_gz, q_gs, q_gk, q_ct, q_cf, q_nt, q_nf, q_xt, q_xf, q_tt, q_ff, q_tf, q_ft, q_at, q_af]
    rw [condD_neg h3, if_neg h3]
    by_cases h2 : o.k = 2
    · rw [condD_pos h2, if_pos h2, hodmanref1_Product.sp ok hn hs]
      simp only [q_bs, q_I, q_B, q_P, q_S, q_M, q_c, q_a, q_gz, q_gs, q_gk, q_ct, q_cf, q_nt, q_nf, q_xt, q_xf, q_tt, q_ff, q_tf, q_ft, q_at, q_af]
      by_cases z : (productS c.N o.n o.s).2 = 0
      · rw [condN_neg z, if_pos z, hodmanref1_Charge.sp ok one]
        simp only [q_bs, q_I, q_B, q_P, q_S, q_M, q_c, q_a, q_gz, q_gs, q_gk, q_ct, q_cf, q_nt, q_nf, q_xt, q_xf, q_tt, q_ff, q_tf, q_ft, q_at, q_af]
      · rw [condN_pos z, if_neg z]
    · rw [condD_neg h2, if_neg h2]
  rw [hodmanref17_charged.cw]
  unfold hodmanref17_charged.f
  by_cases h1 : o.k = 1
  · rw [condD_pos h1]; exact mid _ (by rw [decide_eq_true h1, decide_eq_true (.inl h1)])
  · rw [condD_neg h1]; exact mid _ (by simp only [h1, false_or])
theorem hodmanref17_SameAns.lp {ai ao bi bo : Nat} {a b : List AnsV} (sa : Sl G eAns ai ao a) (sb : Sl G eAns bi bo b) (hl : a.length = b.length) (hn : a.length ≤ 1000000000) : ∀ (d k : Nat), k + d = a.length →
    hodmanref17_SameAns.L25 machW CW ai ao a.length bi bo b.length (k : Int) G = some ([.c (.bool (decide (a.drop k = b.drop k)))], G)
  | 0, k, hk => by
    rw [hodmanref17_SameAns.L25_eq, condD_neg (by omega), List.drop_of_length_le (by omega), List.drop_of_length_le (by omega), decide_eq_true rfl]
  | d + 1, k, hk => by
    have ha : k < a.length := by omega
    have hb : k < b.length := by omega
    have ea : a.drop k = a[k] :: a.drop (k + 1) := List.drop_eq_getElem_cons ha
    have eb : b.drop k = b[k] :: b.drop (k + 1) := List.drop_eq_getElem_cons hb
    have za : decide (0 ≤ (k : Int) ∧ (k : Int) < ((a.length : Nat) : Int)) = true := decide_eq_true (by omega)
    have zb : decide (0 ≤ (k : Int) ∧ (k : Int) < ((b.length : Nat) : Int)) = true := decide_eq_true (by omega)
    rw [hodmanref17_SameAns.L25_eq, condD_pos (by omega)]
    simp only [za, zb, Int.toNat_natCast, sa.ld k 0 ha (by omega), sa.ld k 1 ha (by omega), sa.ld k 2 ha (by omega), sa.ld k 3 ha (by omega), sa.ld k 4 ha (by omega), sa.ld k 5 ha (by omega), sa.ld k 6 ha (by omega), sa.ld k 7 ha (by omega), sb.ld k 0 hb (by omega), sb.ld k 1 hb (by omega), sb.ld k 2 hb (by omega), sb.ld k 3 hb (by omega), sb.ld k 4 hb (by omega), sb.ld k 5 hb (by omega), sb.ld k 6 hb (by omega), sb.ld k 7 hb (by omega), q_bs, q_I, q_B, q_P, q_S, q_M, q_c, q_a, q_gz, q_gs, q_gk, q_ct, q_cf, q_nt, q_nf, q_xt, q_xf, q_tt, q_ff, q_tf, q_ft, q_at, q_af]
    rw [ans_eq, ea, eb, i64w, wrap_id (by omega) (by omega)]
    by_cases h : a[k] = b[k]
    · rw [decide_eq_true h, q_nt, q_cf]
      have := hodmanref17_SameAns.lp sa sb hl hn d (k + 1) (by omega)
      have e2 : decide (a[k] :: a.drop (k + 1) = b[k] :: b.drop (k + 1)) = decide (a.drop (k + 1) = b.drop (k + 1)) := decide_eq_decide.2 ⟨fun e => (List.cons.inj e).2, fun e => by rw [h, e]⟩
      rw [show (k : Int) + 1 = ((k + 1 : Nat) : Int) by omega, this, e2]
    · rw [decide_eq_false h, q_nf, q_ct, decide_eq_false (fun e => h (List.cons.inj e).1)]
theorem hodmanref17_SameAns.sp {ai ao bi bo : Nat} {a b : List AnsV} (sa : Sl G eAns ai ao a) (sb : Sl G eAns bi bo b) (hn : a.length ≤ 1000000000) : CW hodmanref17_SameAns.id [.c (.sl 8 ai ao a.length), .c (.sl 8 bi bo b.length)] G = some ([.c (.bool (decide (a = b)))], G) := by
  rw [hodmanref17_SameAns.cw]
  unfold hodmanref17_SameAns.f
  by_cases h : a.length = b.length
  · rw [condN_neg (by omega)]
    exact hodmanref17_SameAns.lp sa sb h hn a.length 0 (by omega)
  · rw [condN_pos (by omega), decide_eq_false (fun e => h (by rw [e]))]
end Go.Proofs.D.S
/- One cell of an element's put in. -/
set_option linter.unusedVariables false
namespace Go.Proofs.D.S
open Go
theorem cells_cell {α : Type} {k : Nat} {e : α → List Cell} [W : Wide k e] {c : Cell} {x : α} {j : Nat} (hj : j < k) : ∀ (xs : List α) (i : Nat) (hi : i < xs.length), e x = (e xs[i]).set j c → (cells e xs).set (i * k + j) c = cells e (xs.set i x)
  | [], i, hi, _ => by simp at hi
  | y :: xs, 0, hi, h => by
    have h : e x = (e y).set j c := h
    show (e y ++ cells e xs).set (0 * k + j) c = e x ++ cells e xs
    rw [Nat.zero_mul, Nat.zero_add, List.set_append_left _ _ (by rw [W.len]; exact hj), h]
  | y :: xs, i + 1, hi, h => by
    have hi : i < xs.length := by simpa using hi
    have h : e x = (e xs[i]).set j c := h
    have ih := cells_cell hj xs i hi h
    show (e y ++ cells e xs).set ((i + 1) * k + j) c = e y ++ cells e (xs.set i x)
    rw [List.set_append_right _ _ (by rw [W.len, Nat.succ_mul]; omega), W.len, show (i + 1) * k + j - k = i * k + j by rw [Nat.succ_mul]; omega, ih]
theorem splice_one {cs : List Cell} {i : Nat} {c : Cell} (h : i < cs.length) : splice cs i [c] = cs.set i c := by
  unfold splice
  rw [List.set_eq_take_append_cons_drop, if_pos h]; simp
theorem Hp.put1 {α : Type} {k : Nat} {e : α → List Cell} [W : Wide k e] {G0 G : GH} {L : List (Nat × Obj)} {id i j : Nat} {xs : List α} (h : Hp G0 G (rowE e id xs :: L)) (hi : i < xs.length) (hj : j < k) {c : Cell} {x : α} (hx : e x = (e xs[i]).set j c) {off : Nat} (ho : off = i * k + j) :
    ∃ G', Hp G0 G' (rowE e id (xs.set i x) :: L) ∧ G.sts id off [c] = some G' := by
  have hid : id ≠ 0 := by
    rintro rfl
    rcases h.ok _ (List.mem_cons_self ..) with ⟨_, b⟩ | ⟨_, b, _⟩
    · simp only [rowE, Obj.row.injEq, and_true] at b; have := cells_nil b; subst this; simp at hi
    · simp at b
  subst ho
  have hl : i * k + j < (cells e xs).length := by
    rw [cells_len]
    have : (i + 1) * k ≤ xs.length * k := Nat.mul_le_mul_right _ hi
    rw [Nat.succ_mul] at this; omega
  obtain ⟨G', h1, h2⟩ := Hp.sts h hid (off := i * k + j) (new := [c]) (by rw [List.length_singleton]; exact hl)
  rw [splice_one hl, cells_cell hj xs i hi hx] at h1
  exact ⟨G', h1, h2⟩
end Go.Proofs.D.S
/- The reference's Plain, as a whole. -/
set_option linter.unusedVariables false
set_option linter.unusedSimpArgs false
namespace Go.Proofs.D.S
open Go Go.RowKit
variable {G G0 : GH} {L : List (Nat × Obj)}
theorem doesR_nd {c : Cf} {R : List (Int × List Bool)} (nd : NoDup R) (o : OpV) (a : AnsV) : NoDup (doesR c R o a).1 := by
  unfold doesR
  split
  · exact nd.put
  · split
    · split
      · exact nd
      · split
        · exact (nd.del _).put
        · exact nd.del _
    · split
      · split
        · exact nd
        · split
          · exact nd.put
          · exact nd
      · split
        · exact nd
        · split <;> exact nd
theorem prr_snoc (ks : List KR) (k : KR) : prr (ks ++ [k]) = prr ks ++ [(k.at_, k.has)] := by unfold prr; rw [List.map_append]; rfl
theorem Hp.snocR {x y : Nat × Obj} {k : KR} {ks rest : List KR} (h : Hp G0 G (x :: rowE eB k.hid k.has :: y :: (hrs ks ++ L))) (s : (hrs rest).Sublist (hrs ks)) : Hp G0 G (x :: y :: (hrs (rest ++ [k]) ++ L)) := by
  have h1 : Hp G0 G (x :: rowE eB k.hid k.has :: y :: (hrs rest ++ L)) := h.sub (((s.append (.refl L)).cons_cons _).cons_cons _ |>.cons_cons _)
  refine h1.perm (List.Perm.cons _ ((List.Perm.swap _ _ _).trans (List.Perm.cons _ ?_)))
  have e : hrs (rest ++ [k]) ++ L = hrs rest ++ rowE eB k.hid k.has :: L := by unfold hrs; rw [List.map_append]; simp
  rw [e]
  exact List.perm_middle.symm
theorem hodmanref17_Plain.sp (h : Hp G0 G L) {c : Cf} (ok : c.Ok) {pi po ai ao : Nat} {ops : List OpV} {ans : List AnsV} (so : Rd G0 L eOp pi po ops) (sa : Rd G0 L eAns ai ao ans) (hin : ∀ o ∈ ops, R64 o.s ∧ R64 o.a ∧ R64 o.n) (hl : ops.length ≤ 100000000) (hla : ans.length ≤ 100000000) (hrun : ops.length = ans.length → RunOk c [] ops ans) :
    ∃ (res : List AnsV) (oi : Nat) (G' : GH), res = (if ops.length = ans.length then plainR c [] ops ans else []) ∧ CW hodmanref17_Plain.id [.agg (cfC c), .c (.sl 6 pi po ops.length), .c (.sl 8 ai ao ans.length)] G = some ([.c (.sl 8 oi 0 res.length)], G') ∧ Hp G0 G' (rowE eAns oi res :: L) := by
  have hm : (1000000001 : Nat) ≤ most := by unfold most; decide
  have fs := ok.facts
  rw [hodmanref17_Plain.cw]
  unfold hodmanref17_Plain.f
  by_cases hne : ops.length ≠ ans.length
  · rw [condN_pos (by omega)]
    exact ⟨[], 0, G, by rw [if_neg hne], rfl, h.nil0⟩
  have hlen : ops.length = ans.length := Decidable.not_not.1 hne
  rw [condN_neg (by omega), if_pos hlen]
  have lp : ∀ (d i : Nat) (tid : Nat) (ks : List KR) (oid : Nat) (out : List AnsV) (G1 : GH), i + d = ops.length → out.length ≤ i → ks.length ≤ i → (∀ k ∈ ks, k.has.length ≤ 65536) → Hp G0 G1 (rowE eKR tid ks :: rowE eAns oid out :: (hrs ks ++ L)) → NoDup (prr ks) → RunOk c (prr ks) (ops.drop i) (ans.drop i) → out ++ plainR c (prr ks) (ops.drop i) (ans.drop i) = plainR c [] ops ans →
      ∃ (oi : Nat) (G' : GH), hodmanref17_Plain.L151 machW CW pi po ops.length ai ao ans.length tid 0 ks.length oid 0 out.length (i : Int) c.G c.N c.M c.L c.Pg c.P c.H c.Sd G1 = some ([.c (.sl 8 oi 0 (plainR c [] ops ans).length)], G') ∧ Hp G0 G' (rowE eAns oi (plainR c [] ops ans) :: L) := by
    intro d
    induction d with
    | zero =>
      intro i tid ks oid out G1 hi ho hk hh h nd run e
      rw [List.drop_of_length_le (by omega)] at e
      have e0 : plainR c (prr ks) ([] : List OpV) (ans.drop i) = [] := by unfold plainR; rfl
      rw [e0, List.append_nil] at e
      rw [hodmanref17_Plain.L151_eq, condD_neg (by omega), ← e]
      exact ⟨oid, G1, rfl, h.sub (.cons _ (.cons_cons _ (List.sublist_append_right _ _)))⟩
    | succ d ih =>
      intro i tid ks oid out G1 hi ho hk hh h nd run e
      have hil : i < ops.length := by omega
      have hia : i < ans.length := by omega
      have ed : ops.drop i = ops[i] :: ops.drop (i + 1) := List.drop_eq_getElem_cons hil
      have ea : ans.drop i = ans[i] :: ans.drop (i + 1) := List.drop_eq_getElem_cons hia
      have zi : decide (0 ≤ (i : Int) ∧ (i : Int) < ((ops.length : Nat) : Int)) = true := decide_eq_true (by omega)
      have za : decide (0 ≤ (i : Int) ∧ (i : Int) < ((ans.length : Nat) : Int)) = true := decide_eq_true (by omega)
      have hL : Hp G0 G1 L := h.sub (.cons _ (.cons _ (List.sublist_append_right _ _)))
      have so3 := so _ hL
      have sa3 := sa _ hL
      have hoo := hin _ (List.getElem_mem hil)
      rw [ed, ea] at e run
      simp only [plainR] at e
      simp only [RunOk] at run
      have q0 := so3.ld i 0 hil (by omega)
      have q1 := so3.ld i 1 hil (by omega)
      have q2 := so3.ld i 2 hil (by omega)
      have q3 := so3.ld i 3 hil (by omega)
      have q4 := so3.ld i 4 hil (by omega)
      have q5 := so3.ld i 5 hil (by omega)
      have r0 := sa3.ld i 0 hia (by omega)
      have r1 := sa3.ld i 1 hia (by omega)
      have r2 := sa3.ld i 2 hia (by omega)
      have r3 := sa3.ld i 3 hia (by omega)
      have r4 := sa3.ld i 4 hia (by omega)
      have r5 := sa3.ld i 5 hia (by omega)
      have r6 := sa3.ld i 6 hia (by omega)
      have r7 := sa3.ld i 7 hia (by omega)
      generalize ops[i] = o at *
      generalize ans[i] = a at *
      rw [hodmanref17_Plain.L151_eq, condD_pos (by omega)]
      simp only [zi, za, Int.toNat_natCast, q0, q1, q2, q3, q4, q5, r0, r1, r2, r3, r4, r5, r6, r7, q_bs, q_I, q_B, q_P, q_S, q_M, q_c, q_a, q_gz, q_gs, q_gk, q_ct, q_cf, q_nt, q_nf, q_xt, q_xf, q_tt, q_ff, q_tf, q_ft, q_at, q_af]
      have nxt : ∀ (tid : Nat) (ks : List KR) (oid : Nat) (out : List AnsV) (G1 : GH), out.length ≤ i + 1 → ks.length ≤ i + 1 → (∀ k ∈ ks, k.has.length ≤ 65536) → Hp G0 G1 (rowE eKR tid ks :: rowE eAns oid out :: (hrs ks ++ L)) → NoDup (prr ks) → RunOk c (prr ks) (ops.drop (i + 1)) (ans.drop (i + 1)) → out ++ plainR c (prr ks) (ops.drop (i + 1)) (ans.drop (i + 1)) = plainR c [] ops ans →
          ∃ (oi : Nat) (G' : GH), hodmanref17_Plain.J148 machW CW pi po ops.length ai ao ans.length tid 0 ks.length oid 0 out.length (i : Int) c.G c.N c.M c.L c.Pg c.P c.H c.Sd G1 = some ([.c (.sl 8 oi 0 (plainR c [] ops ans).length)], G') ∧ Hp G0 G' (rowE eAns oi (plainR c [] ops ans) :: L) := by
        intro tid ks oid out G1 ho hk hh h nd run e
        rw [hodmanref17_Plain.J148_eq, i64w, wrap_id (by omega) (by omega)]
        exact ih (i + 1) tid ks oid out G1 (by omega) ho hk hh h nd run e
      by_cases hnc : ¬ (a.err = 0 ∧ o.k ≠ 9)
      · rw [if_neg hnc] at e run
        have skip : ∃ (oi : Nat) (G' : GH), hodmanref17_Plain.J20 machW CW pi po ops.length ai ao ans.length tid 0 ks.length oid 0 out.length (i : Int) true c.G c.N c.M c.L c.Pg c.P c.H c.Sd o.k o.p o.s o.a o.n o.b a.err a.at_ a.n a.byte a.live a.peak a.mark a.pages G1 = some ([.c (.sl 8 oi 0 (plainR c [] ops ans).length)], G') ∧ Hp G0 G' (rowE eAns oi (plainR c [] ops ans) :: L) := by
          rw [hodmanref17_Plain.J20_eq, q_ct]
          exact nxt tid ks oid out G1 (by omega) (by omega) hh h nd run e
        by_cases he : a.err = 0
        · have h9 : o.k = 9 := Decidable.not_not.1 fun h => hnc ⟨he, h⟩
          rw [condN_neg he, decide_eq_true h9]; exact skip
        · rw [condN_pos he]; exact skip
      have hc : a.err = 0 ∧ o.k ≠ 9 := Decidable.not_not.1 hnc
      rw [if_pos hc] at e run
      obtain ⟨run1, run2, run3⟩ := run
      -- what is told
      have told : ∀ (tid : Nat) (ks' : List KR) (a' : AnsV) (G1 : GH), ks'.length ≤ i + 1 → (∀ k ∈ ks', k.has.length ≤ 65536) → Hp G0 G1 (rowE eKR tid ks' :: rowE eAns oid out :: (hrs ks' ++ L)) → doesR c (prr ks) o a = (prr ks', a') →
          ∃ (oi : Nat) (G' : GH), hodmanref17_Plain.J141 machW CW pi po ops.length ai ao ans.length tid 0 ks'.length oid 0 out.length (i : Int) c.G c.N c.M c.L c.Pg c.P c.H c.Sd a'.err a'.at_ a'.n a'.byte a'.live a'.peak a'.mark a'.pages G1 = some ([.c (.sl 8 oi 0 (plainR c [] ops ans).length)], G') ∧ Hp G0 G' (rowE eAns oi (plainR c [] ops ans) :: L) := by
        intro tid ks' a' G1 hk hh h ed
        rw [ed] at e run3
        have nd' := doesR_nd (c := c) nd o a
        rw [ed] at nd'
        rw [hodmanref17_Plain.J141_eq]
        obtain ⟨oid2, G5, h7, k7⟩ := Hp.app1 (S := Res) (e := eAns) (h.pick 1) a' (n := out.length) rfl (by omega)
        dsimp only
        rw [k7]
        dsimp only
        have e9 : (out ++ [a']).length = out.length + 1 := by simp
        rw [← e9]
        exact nxt tid ks' oid2 _ G5 (by omega) hk hh (h7.back 1) nd' run3 (by rw [← e, List.append_assoc]; rfl)
      -- which of the blocks
      have Fin : ∀ t : Int, ((t = -1 ∧ aGet (prr ks) o.p = none) ∨ (∃ (A : Nat) (hA : A < ks.length), t = A ∧ ks[A].at_ = o.p ∧ aGet (prr ks) o.p = some ks[A].has)) → ∀ tb : Bool, tb = decide (o.k = 1 ∨ o.k = 3 ∨ o.k = 2) →
          ∃ (oi : Nat) (G' : GH), hodmanref17_Plain.J137 machW CW pi po ops.length ai ao ans.length tid 0 ks.length oid 0 out.length (i : Int) t o.k tb c.G c.N c.M c.L c.Pg c.P c.H c.Sd o.k o.p o.s o.a o.n o.b a.err a.at_ a.n a.byte a.live a.peak a.mark a.pages G1 = some ([.c (.sl 8 oi 0 (plainR c [] ops ans).length)], G') ∧ Hp G0 G' (rowE eAns oi (plainR c [] ops ans) :: L) := by
        intro t ht tb htb
        subst htb
        obtain ⟨nr0, nr1⟩ := chargedR_range ok o
        rw [hodmanref17_Plain.J137_eq]
        by_cases h132 : o.k = 1 ∨ o.k = 3 ∨ o.k = 2
        · rw [condD_pos h132, hodmanref17_charged.sp ok hoo.1 hoo.2.1 hoo.2.2]
          simp only [q_bs, q_I, q_B, q_P, q_S, q_M, q_c, q_a, q_gz, q_gs, q_gk, q_ct, q_cf, q_nt, q_nf, q_xt, q_xf, q_tt, q_ff, q_tf, q_ft, q_at, q_af]
          have dr : doesR c (prr ks) o a = (aPut (prr ks) a.at_ (tab (chargedR c o).1.toNat fun _ => decide (o.k = 2)), a) := by unfold doesR; rw [if_pos h132]
          generalize (chargedR c o).1 = n at nr0 nr1 dr ⊢
          obtain ⟨m, rfl⟩ : ∃ m : Nat, n = m := ⟨n.toNat, (Int.toNat_of_nonneg nr0).symm⟩
          rw [guardD_of (by omega), Int.toNat_natCast]
          rw [Int.toNat_natCast] at dr
          have h2 := h.alloc (.row (reps m [.bool false]) false)
          rw [reps_tab (e := eB) m false] at h2 ⊢
          generalize G1.alloc (.row (cells eB (tab m fun _ => false)) false) = G2 at h2 ⊢
          generalize G1.next = hid at h2 ⊢
          have lp2 : ∀ (d j : Nat) (G2 : GH), j + d = m → Hp G0 G2 (rowE eB hid (tab m fun x => if x < j then decide (o.k = 2) else false) :: rowE eKR tid ks :: rowE eAns oid out :: (hrs ks ++ L)) →
              ∃ (oi : Nat) (G' : GH), hodmanref17_Plain.L64 machW CW pi po ops.length ai ao ans.length tid 0 ks.length oid 0 out.length (i : Int) (m : Int) (j : Int) c.G c.N c.M c.L c.Pg c.P c.H c.Sd o.k o.p o.s o.a o.n o.b a.err a.at_ a.n a.byte a.live a.peak a.mark a.pages a.at_ hid 0 m G2 = some ([.c (.sl 8 oi 0 (plainR c [] ops ans).length)], G') ∧ Hp G0 G' (rowE eAns oi (plainR c [] ops ans) :: L) := by
            intro d
            induction d with
            | zero =>
              intro j G2 hj h2
              rw [hodmanref17_Plain.L64_eq, condD_neg (by omega)]
              have et : (tab m fun x => if x < j then decide (o.k = 2) else false) = tab m fun _ => decide (o.k = 2) := tab_congr fun x hx => by rw [if_pos (by omega)]
              rw [et] at h2
              obtain ⟨tid2, G3, h3, k3⟩ := Hp.app1 (S := Res) (e := eKR) (h2.pick 1) ⟨hid, a.at_, tab m fun _ => decide (o.k = 2)⟩ (n := ks.length) rfl (by omega)
              rw [show eKR ⟨hid, a.at_, tab m fun _ => decide (o.k = 2)⟩ = [.int .i64 a.at_, .sl 1 hid 0 m] by unfold eKR; dsimp only; rw [tab_len]] at k3
              dsimp only
              rw [k3]
              dsimp only
              have e9 : (ks ++ [(⟨hid, a.at_, tab m fun _ => decide (o.k = 2)⟩ : KR)]).length = ks.length + 1 := by simp
              rw [← e9]
              refine told tid2 _ a G3 (by omega) (fun k hk => ?_) (h3.snocR (.refl _)) ?_
              · rcases List.mem_append.1 hk with hk | hk
                · exact hh k hk
                · simp at hk; subst hk; dsimp only; rw [tab_len]; omega
              · rw [dr, prr_snoc, aPut_new (run1 h132)]
            | succ d ihd =>
              intro j G2 hj h2
              obtain ⟨G3, h3, e3⟩ := h2.put (i := j) (by rw [tab_len]; omega) (decide (o.k = 2)) (off := 0 + j * 1) (by omega) rfl
              rw [hodmanref17_Plain.L64_eq, condD_pos (by omega), guardD_of (by omega), Int.toNat_natCast, e3, q_bs, i64w, wrap_id (by omega) (by omega)]
              rw [set_tab (g := fun x => if x < j + 1 then decide (o.k = 2) else false) (fun _ => by rw [if_pos (by omega)]) (fun x hx hne => by
                by_cases hlt : x < j
                · rw [if_pos (by omega), if_pos hlt]
                · rw [if_neg (by omega), if_neg hlt])] at h3
              exact ihd (j + 1) G3 (by omega) h3
          exact lp2 m 0 G2 (by omega) (by
            have et : (tab m fun x => if x < 0 then decide (o.k = 2) else false) = tab m fun _ => false := tab_congr fun x hx => by rw [if_neg (by omega)]
            rw [et]; exact h2)
        rw [condD_neg h132]
        have mid : ∀ tb : Bool, tb = decide (o.k = 4 ∨ o.k = 5) →
            ∃ (oi : Nat) (G' : GH), hodmanref17_Plain.J135 machW CW pi po ops.length ai ao ans.length tid 0 ks.length oid 0 out.length (i : Int) t o.k tb c.G c.N c.M c.L c.Pg c.P c.H c.Sd o.k o.p o.s o.a o.n o.b a.err a.at_ a.n a.byte a.live a.peak a.mark a.pages G1 = some ([.c (.sl 8 oi 0 (plainR c [] ops ans).length)], G') ∧ Hp G0 G' (rowE eAns oi (plainR c [] ops ans) :: L) := by
          intro tb htb
          subst htb
          have rd := h.sl0
          rw [hodmanref17_Plain.J135_eq]
          by_cases h45 : o.k = 4 ∨ o.k = 5
          · rw [condD_pos h45]
            have dr : doesR c (prr ks) o a = (match aGet (prr ks) o.p with
                | none => (prr ks, a)
                | some was => if o.k = 4 then (aPut (aDel (prr ks) o.p) a.at_ (tab (chargedR c o).1.toNat fun k => was.getD k false), a) else (aDel (prr ks) o.p, a)) := by
              unfold doesR; (rw [if_neg h132, if_pos h45]) <;> rfl
            rcases ht with ⟨rfl, hn⟩ | ⟨A, hA, rfl, hat, hg⟩
            · rw [condD_pos (by decide)]
              exact told tid ks a G1 (by omega) hh h (by rw [dr, hn])
            · rw [condD_neg (by omega), guardD_of (by omega), Int.toNat_natCast, rd.ld A 0 hA (by omega)]
              simp only [q_bs, q_I, q_B, q_P, q_S, q_M, q_c, q_a, q_gz, q_gs, q_gk, q_ct, q_cf, q_nt, q_nf, q_xt, q_xf, q_tt, q_ff, q_tf, q_ft, q_at, q_af]
              rw [rd.ld A 1 hA (by omega)]
              simp only [q_bs, q_I, q_B, q_P, q_S, q_M, q_c, q_a, q_gz, q_gs, q_gk, q_ct, q_cf, q_nt, q_nf, q_xt, q_xf, q_tt, q_ff, q_tf, q_ft, q_at, q_af]
              have st : (ks.take A).length = A := by rw [List.length_take]; omega
              have sd : (ks.drop (A + 1)).length = ks.length - (A + 1) := List.length_drop
              have s1 : Sl G1 eKR tid (0 + Int.toNat 0 * 2) (ks.take A) := rd.sub 0 A (by omega)
              obtain ⟨i1, G2, h2, k2⟩ := h.copy (S := Res) s1 (m := A - Int.toNat 0) (by rw [st]; rfl) (by omega)
              have s2 : Sl G2 eKR tid (0 + (A + 1) * 2) (ks.drop (A + 1)) := by
                have := (h2.sl (e := eKR) (id := tid) (xs := ks) (by simp)).sub (A + 1) (ks.length - (A + 1)) (by omega)
                rwa [List.take_of_length_le (by omega)] at this
              obtain ⟨i2, G3, h3, k3⟩ := h2.app (S := Res) s2 (n := 0 + (A - Int.toNat 0)) (m := ks.length - (A + 1)) (by rw [st, Nat.zero_add]; rfl) sd.symm (by omega)
              have tA : Int.toNat ((A : Int) + 1) = A + 1 := by omega
              rw [guardD_of (by omega), k2]
              dsimp only
              rw [i64w, wrap_id (a := (A : Int) + 1) (by omega) (by omega), guardD_of (by omega), tA, Int.toNat_natCast, k3]
              dsimp only
              have rl : (0 + (A - Int.toNat 0)) + (ks.length - (A + 1)) = (ks.take A ++ ks.drop (A + 1)).length := by rw [List.length_append, st, sd, Nat.zero_add]; rfl
              rw [rl]
              have rll : (ks.take A ++ ks.drop (A + 1)).length ≤ i := by rw [← rl]; show 0 + (A - 0) + _ ≤ _; omega
              have h3 : Hp G0 G3 (rowE eKR i2 (ks.take A ++ ks.drop (A + 1)) :: rowE eAns oid out :: (hrs ks ++ L)) := h3.sub (.cons_cons _ (.cons _ (.refl _)))
              have subr : (hrs (ks.take A ++ ks.drop (A + 1))).Sublist (hrs ks) := (rest_sub ks A).map _
              have hhr : ∀ k ∈ ks.take A ++ ks.drop (A + 1), k.has.length ≤ 65536 := fun k hk => hh k ((rest_sub ks A).subset hk)
              have pd := prr_del ks A hA nd
              rw [hat] at pd
              by_cases k4 : o.k = 4
              · rw [condD_pos k4, hodmanref17_charged.sp ok hoo.1 hoo.2.1 hoo.2.2]
                simp only [q_bs, q_I, q_B, q_P, q_S, q_M, q_c, q_a, q_gz, q_gs, q_gk, q_ct, q_cf, q_nt, q_nf, q_xt, q_xf, q_tt, q_ff, q_tf, q_ft, q_at, q_af]
                have dr : doesR c (prr ks) o a = (aPut (aDel (prr ks) o.p) a.at_ (tab (chargedR c o).1.toNat fun k => ks[A].has.getD k false), a) := by
                  rw [dr, hg]; dsimp only; rw [if_pos k4]
                generalize (chargedR c o).1 = n at nr0 nr1 dr ⊢
                obtain ⟨m, rfl⟩ : ∃ m : Nat, n = m := ⟨n.toNat, (Int.toNat_of_nonneg nr0).symm⟩
                rw [guardD_of (by omega), Int.toNat_natCast]
                rw [Int.toNat_natCast] at dr
                have hw := hh _ (List.getElem_mem hA)
                have h4 := h3.alloc (.row (reps m [.bool false]) false)
                rw [reps_tab (e := eB) m false] at h4 ⊢
                generalize G3.alloc (.row (cells eB (tab m fun _ => false)) false) = G4 at h4 ⊢
                generalize G3.next = hid at h4 ⊢
                have mem : rowE eB ks[A].hid ks[A].has ∈ hrs ks := List.mem_map.2 ⟨ks[A], List.getElem_mem hA, rfl⟩
                generalize ks[A] = was at *
                have lp2 : ∀ (d j : Nat) (G2 : GH), j + d = m → j ≤ was.has.length → Hp G0 G2 (rowE eB hid (tab m fun x => if x < j then was.has.getD x false else false) :: rowE eKR i2 (ks.take A ++ ks.drop (A + 1)) :: rowE eAns oid out :: (hrs ks ++ L)) →
                    ∃ (oi : Nat) (G' : GH), hodmanref17_Plain.L97 machW CW pi po ops.length ai ao ans.length i2 0 (ks.take A ++ ks.drop (A + 1)).length oid 0 out.length (i : Int) (m : Int) (j : Int) c.G c.N c.M c.L c.Pg c.P c.H c.Sd a.err a.at_ a.n a.byte a.live a.peak a.mark a.pages was.at_ was.hid 0 was.has.length a.at_ hid 0 m G2 = some ([.c (.sl 8 oi 0 (plainR c [] ops ans).length)], G') ∧ Hp G0 G' (rowE eAns oi (plainR c [] ops ans) :: L) := by
                  intro d
                  have fin : ∀ (j : Nat) (G2 : GH), (m ≤ j ∨ was.has.length ≤ j) → Hp G0 G2 (rowE eB hid (tab m fun x => if x < j then was.has.getD x false else false) :: rowE eKR i2 (ks.take A ++ ks.drop (A + 1)) :: rowE eAns oid out :: (hrs ks ++ L)) →
                      ∃ (oi : Nat) (G' : GH), hodmanref17_Plain.J90 machW CW pi po ops.length ai ao ans.length i2 0 (ks.take A ++ ks.drop (A + 1)).length oid 0 out.length (i : Int) (m : Int) (j : Int) false c.G c.N c.M c.L c.Pg c.P c.H c.Sd a.err a.at_ a.n a.byte a.live a.peak a.mark a.pages was.at_ was.hid 0 was.has.length a.at_ hid 0 m G2 = some ([.c (.sl 8 oi 0 (plainR c [] ops ans).length)], G') ∧ Hp G0 G' (rowE eAns oi (plainR c [] ops ans) :: L) := by
                    intro j G2 hj h2
                    rw [hodmanref17_Plain.J90_eq, q_cf]
                    have et : (tab m fun x => if x < j then was.has.getD x false else false) = tab m fun x => was.has.getD x false := tab_congr fun x hx => by
                      by_cases hlt : x < j
                      · rw [if_pos hlt]
                      · rw [if_neg hlt, List.getD_eq_getElem?_getD, List.getElem?_eq_none (by omega)]; rfl
                    rw [et] at h2
                    obtain ⟨tid2, G3, h3, k3⟩ := Hp.app1 (S := Res) (e := eKR) (h2.pick 1) ⟨hid, a.at_, tab m fun x => was.has.getD x false⟩ (n := (ks.take A ++ ks.drop (A + 1)).length) rfl (by omega)
                    rw [show eKR ⟨hid, a.at_, tab m fun x => was.has.getD x false⟩ = [.int .i64 a.at_, .sl 1 hid 0 m] by unfold eKR; dsimp only; rw [tab_len]] at k3
                    dsimp only
                    rw [k3]
                    dsimp only
                    have e9 : ((ks.take A ++ ks.drop (A + 1)) ++ [(⟨hid, a.at_, tab m fun x => was.has.getD x false⟩ : KR)]).length = (ks.take A ++ ks.drop (A + 1)).length + 1 := by rw [List.length_append, List.length_singleton]
                    rw [← e9]
                    refine told tid2 _ a G3 (by omega) (fun k hk => ?_) (h3.snocR subr) ?_
                    · rcases List.mem_append.1 hk with hk | hk
                      · exact hhr k hk
                      · simp at hk; subst hk; dsimp only; rw [tab_len]; omega
                    · rw [dr, prr_snoc, pd, aPut_new (run2 k4)]
                  induction d with
                  | zero =>
                    intro j G2 hj hjw h2
                    rw [hodmanref17_Plain.L97_eq, condD_neg (by omega)]
                    exact fin j G2 (.inl (by omega)) h2
                  | succ d ihd =>
                    intro j G2 hj hjw h2
                    rw [hodmanref17_Plain.L97_eq, condD_pos (by omega)]
                    by_cases hlt : (j : Int) < ((was.has.length : Nat) : Int)
                    · have hjl : j < was.has.length := by omega
                      have sw := h2.sl (e := eB) (id := was.hid) (xs := was.has) (List.mem_cons_of_mem _ (List.mem_cons_of_mem _ (List.mem_cons_of_mem _ (List.mem_append_left _ mem))))
                      have r0 := sw.ld j 0 hjl (by omega)
                      rw [Nat.add_zero] at r0
                      rw [decide_eq_true hlt, hodmanref17_Plain.J90_eq, q_ct, guardD_of (by omega), Int.toNat_natCast, r0]
                      simp only [q_bs, q_I, q_B, q_P, q_S, q_M, q_c, q_a, q_gz, q_gs, q_gk, q_ct, q_cf, q_nt, q_nf, q_xt, q_xf, q_tt, q_ff, q_tf, q_ft, q_at, q_af]
                      obtain ⟨G3, h3, e3⟩ := h2.put (i := j) (by rw [tab_len]; omega) was.has[j] (off := 0 + j * 1) (by omega) rfl
                      rw [guardD_of (by omega), e3, q_bs, i64w, wrap_id (by omega) (by omega)]
                      rw [set_tab (g := fun x => if x < j + 1 then was.has.getD x false else false) (fun _ => by rw [if_pos (by omega), getD_lt false hjl]) (fun x hx hne => by
                        by_cases hlt : x < j
                        · rw [if_pos (by omega), if_pos hlt]
                        · rw [if_neg (by omega), if_neg hlt])] at h3
                      exact ihd (j + 1) G3 (by omega) (by omega) h3
                    · rw [decide_eq_false hlt]
                      exact fin j G2 (.inr (by omega)) h2
                exact lp2 m 0 G4 (by omega) (by omega) (by
                  have et : (tab m fun x => if x < 0 then was.has.getD x false else false) = tab m fun _ => false := tab_congr fun x hx => by rw [if_neg (by omega)]
                  rw [et]; exact h4)
              · rw [condD_neg k4]
                exact told i2 _ a G3 (by omega) hhr (h3.sub (((subr.append (.refl L)).cons_cons _).cons_cons _)) (by rw [dr, hg, pd]; dsimp only; rw [if_neg k4])
          rw [condD_neg h45]
          by_cases k8 : o.k = 8
          · rw [condD_pos k8]
            have dr : doesR c (prr ks) o a = (match aGet (prr ks) o.p with
                | none => (prr ks, a)
                | some has => if 0 ≤ o.n ∧ o.n < has.length then (aPut (prr ks) o.p (has.set o.n.toNat true), a) else (prr ks, a)) := by
              unfold doesR; (rw [if_neg h132, if_neg h45, if_pos k8]) <;> rfl
            have no : doesR c (prr ks) o a = (prr ks, a) → ∃ (oi : Nat) (G' : GH), hodmanref17_Plain.J118 machW CW pi po ops.length ai ao ans.length tid 0 ks.length oid 0 out.length (i : Int) t false c.G c.N c.M c.L c.Pg c.P c.H c.Sd o.k o.p o.s o.a o.n o.b a.err a.at_ a.n a.byte a.live a.peak a.mark a.pages G1 = some ([.c (.sl 8 oi 0 (plainR c [] ops ans).length)], G') ∧ Hp G0 G' (rowE eAns oi (plainR c [] ops ans) :: L) := by
              intro hd
              rw [hodmanref17_Plain.J118_eq, q_cf]
              exact told tid ks a G1 (by omega) hh h hd
            rcases ht with ⟨rfl, hn⟩ | ⟨A, hA, rfl, hat, hg⟩
            · rw [condD_neg (by decide)]
              exact no (by rw [dr, hn])
            · rw [hg] at dr
              dsimp only at dr
              rw [condD_pos (by omega)]
              by_cases n0 : o.n ≥ 0
              · rw [condD_pos n0, guardD_of (by omega), Int.toNat_natCast, rd.ld A 1 hA (by omega)]
                simp only [q_bs, q_I, q_B, q_P, q_S, q_M, q_c, q_a, q_gz, q_gs, q_gk, q_ct, q_cf, q_nt, q_nf, q_xt, q_xf, q_tt, q_ff, q_tf, q_ft, q_at, q_af]
                by_cases n1 : o.n < ((ks[A].has.length : Nat) : Int)
                · rw [decide_eq_true n1, hodmanref17_Plain.J118_eq, q_ct, guardD_of (by omega), Int.toNat_natCast]
                  rw [if_pos ⟨n0, n1⟩] at dr
                  have hw := hh _ (List.getElem_mem hA)
                  have mem : rowE eB ks[A].hid ks[A].has ∈ hrs ks := List.mem_map.2 ⟨ks[A], List.getElem_mem hA, rfl⟩
                  have sw := h.sl (e := eB) (id := ks[A].hid) (xs := ks[A].has) (List.mem_cons_of_mem _ (List.mem_cons_of_mem _ (List.mem_append_left _ mem)))
                  have x0 := (Hp.refl h.wf).alloc (.row [] false)
                  rw [(rd.keep x0).ld A 1 hA (by omega)]
                  simp only [q_bs, q_I, q_B, q_P, q_S, q_M, q_c, q_a, q_gz, q_gs, q_gk, q_ct, q_cf, q_nt, q_nf, q_xt, q_xf, q_tt, q_ff, q_tf, q_ft, q_at, q_af]
                  obtain ⟨nid, G2, h2, k2⟩ := h.copy (S := Res) sw (m := ks[A].has.length) rfl (by omega)
                  rw [k2]
                  dsimp only
                  rw [Nat.zero_add, guardD_of (by omega)]
                  obtain ⟨G3, h3, e3⟩ := h2.put (i := o.n.toNat) (by omega) true (off := 0 + o.n.toNat * 1) (by omega) rfl
                  rw [e3, q_bs, guardD_of (by omega)]
                  have hls : (ks[A].has.set o.n.toNat true).length = ks[A].has.length := List.length_set
                  obtain ⟨G4, h4, e4⟩ := Hp.put1 (e := eKR) (h3.pick 1) hA (j := 1) (by omega) (c := .sl 1 nid 0 ks[A].has.length) (x := ⟨nid, ks[A].at_, ks[A].has.set o.n.toNat true⟩) (by unfold eKR; dsimp only; rw [hls]; rfl) (off := 0 + A * 2 + 1) (by omega)
                  rw [e4, q_bs]
                  have lset : (ks.set A ⟨nid, ks[A].at_, ks[A].has.set o.n.toNat true⟩).length = ks.length := List.length_set
                  rw [← lset]
                  refine told tid _ a G4 (by omega) (fun k hk => ?_) ?_ ?_
                  · rcases List.mem_or_eq_of_mem_set hk with hk | rfl
                    · exact hh k hk
                    · dsimp only; rw [hls]; exact hw
                  · obtain ⟨M, p, q⟩ := hrs_set ⟨nid, ks[A].at_, ks[A].has.set o.n.toNat true⟩ ks A
                    have h5 : Hp G0 G4 (rowE eKR tid (ks.set A ⟨nid, ks[A].at_, ks[A].has.set o.n.toNat true⟩) :: rowE eAns oid out :: (M ++ L)) := h4.perm (List.Perm.cons _ ((List.Perm.swap _ _ _).trans (List.Perm.cons _ (p.append_right L))))
                    exact h5.sub (((q.append (.refl L)).cons_cons _).cons_cons _)
                  · rw [dr, prr_set ⟨nid, ks[A].at_, ks[A].has.set o.n.toNat true⟩ ks A hA nd rfl, hat]
                · rw [decide_eq_false n1]
                  exact no (by rw [dr, if_neg (fun h => n1 h.2)])
              · rw [condD_neg n0]
                exact no (by rw [dr, if_neg (fun h => n0 h.1)])
          rw [condD_neg k8]
          by_cases k7 : o.k = 7
          · rw [condD_pos k7]
            have dr : doesR c (prr ks) o a = (prr ks, match aGet (prr ks) o.p with
                | none => { a with byte := 0 }
                | some has => if 0 ≤ o.n ∧ o.n < has.length ∧ has.getD o.n.toNat false = true then a else { a with byte := 0 }) := by
              unfold doesR; (rw [if_neg h132, if_neg h45, if_neg k8, if_pos k7]) <;> rfl
            have fin : ∀ tb : Bool, doesR c (prr ks) o a = (prr ks, if tb = true then { a with byte := 0 } else a) → ∃ (oi : Nat) (G' : GH), hodmanref17_Plain.J124 machW CW pi po ops.length ai ao ans.length tid 0 ks.length oid 0 out.length (i : Int) tb c.G c.N c.M c.L c.Pg c.P c.H c.Sd a.err a.at_ a.n a.byte a.live a.peak a.mark a.pages G1 = some ([.c (.sl 8 oi 0 (plainR c [] ops ans).length)], G') ∧ Hp G0 G' (rowE eAns oi (plainR c [] ops ans) :: L) := by
              intro tb hd
              rw [hodmanref17_Plain.J124_eq]
              cases tb with
              | true => rw [q_ct]; exact told tid ks { a with byte := 0 } G1 (by omega) hh h (by rw [hd, if_pos rfl])
              | false => rw [q_cf]; exact told tid ks a G1 (by omega) hh h (by rw [hd, if_neg (by decide)])
            rcases ht with ⟨rfl, hn⟩ | ⟨A, hA, rfl, hat, hg⟩
            · rw [condD_pos (by decide)]
              exact fin true (by rw [dr, hn, if_pos rfl])
            · rw [hg] at dr
              dsimp only at dr
              rw [condD_neg (by omega)]
              by_cases n0 : o.n < 0
              · rw [condD_pos n0]
                exact fin true (by rw [dr, if_pos rfl, if_neg (by omega)])
              · rw [condD_neg n0, guardD_of (by omega), Int.toNat_natCast, rd.ld A 1 hA (by omega)]
                simp only [q_bs, q_I, q_B, q_P, q_S, q_M, q_c, q_a, q_gz, q_gs, q_gk, q_ct, q_cf, q_nt, q_nf, q_xt, q_xf, q_tt, q_ff, q_tf, q_ft, q_at, q_af]
                by_cases n1 : o.n ≥ ((ks[A].has.length : Nat) : Int)
                · rw [condD_pos n1]
                  exact fin true (by rw [dr, if_pos rfl, if_neg (by omega)])
                · have mem : rowE eB ks[A].hid ks[A].has ∈ hrs ks := List.mem_map.2 ⟨ks[A], List.getElem_mem hA, rfl⟩
                  have sw := h.sl (e := eB) (id := ks[A].hid) (xs := ks[A].has) (List.mem_cons_of_mem _ (List.mem_cons_of_mem _ (List.mem_append_left _ mem)))
                  have hnl : o.n.toNat < ks[A].has.length := by omega
                  have r0 := sw.ld o.n.toNat 0 hnl (by omega)
                  rw [Nat.add_zero] at r0
                  rw [condD_neg n1, guardD_of (by omega), guardD_of (by omega), r0]
                  simp only [q_bs, q_I, q_B, q_P, q_S, q_M, q_c, q_a, q_gz, q_gs, q_gk, q_ct, q_cf, q_nt, q_nf, q_xt, q_xf, q_tt, q_ff, q_tf, q_ft, q_at, q_af]
                  refine fin _ ?_
                  rw [dr, getD_lt false hnl]
                  cases ks[A].has[o.n.toNat] with
                  | true => rw [if_pos ⟨by omega, by omega, rfl⟩, q_nt, if_neg (by decide)]
                  | false => rw [if_neg (fun h => by cases h.2.2), q_nf, if_pos rfl]
          rw [condD_neg k7]
          by_cases k10 : o.k = 10
          · rw [condD_pos k10]
            exact told tid ks { a with pages := 0 } G1 (by omega) hh h (by unfold doesR; rw [if_neg h132, if_neg h45, if_neg k8, if_neg k7, if_pos k10])
          · rw [condD_neg k10]
            exact told tid ks a G1 (by omega) hh h (by unfold doesR; rw [if_neg h132, if_neg h45, if_neg k8, if_neg k7, if_neg k10])
        by_cases k4 : o.k = 4
        · rw [condD_pos k4]; exact mid _ (by rw [decide_eq_true k4, decide_eq_true (.inl k4)])
        · rw [condD_neg k4]; exact mid _ (by simp only [k4, false_or])
      have find : ∀ (d j : Nat) (t : Int), j + d = ks.length → ((t = -1 ∧ ∀ x (hx : x < ks.length), x < j → ks[x].at_ ≠ o.p) ∨ (∃ (A : Nat) (hA : A < ks.length), A < j ∧ t = A ∧ ks[A].at_ = o.p)) →
          ∃ (oi : Nat) (G' : GH), hodmanref17_Plain.L38 machW CW pi po ops.length ai ao ans.length tid 0 ks.length oid 0 out.length (i : Int) t (j : Int) c.G c.N c.M c.L c.Pg c.P c.H c.Sd o.k o.p o.s o.a o.n o.b a.err a.at_ a.n a.byte a.live a.peak a.mark a.pages G1 = some ([.c (.sl 8 oi 0 (plainR c [] ops ans).length)], G') ∧ Hp G0 G' (rowE eAns oi (plainR c [] ops ans) :: L) := by
        intro d
        induction d with
        | zero =>
          intro j t hj ht
          have ht2 : (t = -1 ∧ aGet (prr ks) o.p = none) ∨ (∃ (A : Nat) (hA : A < ks.length), t = A ∧ ks[A].at_ = o.p ∧ aGet (prr ks) o.p = some ks[A].has) := by
            rcases ht with ⟨a1, a2⟩ | ⟨A, hA, _, a1, a2⟩
            · refine .inl ⟨a1, aGet_none.2 fun x hx => ?_⟩
              obtain ⟨k, hk, rfl⟩ := List.mem_map.1 hx
              obtain ⟨y, hy, rfl⟩ := List.getElem_of_mem hk
              exact a2 y hy (by omega)
            · exact .inr ⟨A, hA, a1, a2, aGet_of nd (List.mem_map.2 ⟨ks[A], List.getElem_mem hA, by rw [a2]⟩)⟩
          rw [hodmanref17_Plain.L38_eq, condD_neg (by omega)]
          by_cases k1 : o.k = 1
          · rw [condD_pos k1]; exact Fin t ht2 _ (by rw [decide_eq_true k1, decide_eq_true (.inl k1)])
          rw [condD_neg k1]
          by_cases k3 : o.k = 3
          · rw [condD_pos k3]; exact Fin t ht2 _ (by rw [decide_eq_true k3, decide_eq_true (.inr (.inl k3))])
          rw [condD_neg k3]
          exact Fin t ht2 _ (by simp only [k1, k3, false_or])
        | succ d ihd =>
          intro j t hj ht
          have hjl : j < ks.length := by omega
          rw [hodmanref17_Plain.L38_eq, condD_pos (by omega), guardD_of (by omega), Int.toNat_natCast, h.sl0.ld j 0 hjl (by omega)]
          simp only [q_bs, q_I, q_B, q_P, q_S, q_M, q_c, q_a, q_gz, q_gs, q_gk, q_ct, q_cf, q_nt, q_nf, q_xt, q_xf, q_tt, q_ff, q_tf, q_ft, q_at, q_af]
          by_cases he : ks[j].at_ = o.p
          · rw [condD_pos he, hodmanref17_Plain.J35_eq, i64w, wrap_id (by omega) (by omega)]
            exact ihd (j + 1) _ (by omega) (.inr ⟨j, hjl, by omega, rfl, he⟩)
          · rw [condD_neg he, hodmanref17_Plain.J35_eq, i64w, wrap_id (by omega) (by omega)]
            refine ihd (j + 1) t (by omega) ?_
            rcases ht with ⟨a1, a2⟩ | ⟨A, hA, a0, a1, a2⟩
            · refine .inl ⟨a1, fun x hx hxj => ?_⟩
              by_cases hxe : x = j
              · subst hxe; exact he
              · exact a2 x hx (by omega)
            · exact .inr ⟨A, hA, by omega, a1, a2⟩
      have go := find ks.length 0 (-1) (by omega) (.inl ⟨rfl, fun x hx h => by omega⟩)
      have j20 : ∃ (oi : Nat) (G' : GH), hodmanref17_Plain.J20 machW CW pi po ops.length ai ao ans.length tid 0 ks.length oid 0 out.length (i : Int) false c.G c.N c.M c.L c.Pg c.P c.H c.Sd o.k o.p o.s o.a o.n o.b a.err a.at_ a.n a.byte a.live a.peak a.mark a.pages G1 = some ([.c (.sl 8 oi 0 (plainR c [] ops ans).length)], G') ∧ Hp G0 G' (rowE eAns oi (plainR c [] ops ans) :: L) := by
        rw [hodmanref17_Plain.J20_eq, q_cf]; exact go
      rw [condN_neg hc.1, decide_eq_false hc.2]
      exact j20
  obtain ⟨oi, G', e1, e2⟩ := lp ops.length 0 0 [] 0 [] G (by omega) (by simp) (by simp) (fun k hk => by cases hk) ((h.nil0 (e := eAns)).nil0 (e := eKR)) List.Pairwise.nil (by rw [List.drop_zero, List.drop_zero]; exact hrun hlen) (by rw [List.drop_zero, List.drop_zero]; rfl)
  exact ⟨_, oi, G', rfl, e1, e2⟩
end Go.Proofs.D.S
/- Two models that are alike, but for what nobody stored. -/
set_option linter.unusedVariables false
namespace Go.Proofs.D.S
open Go Go.RowKit
/-- Another seed, other pages, other bytes. -/
def withS (m : Mod) (sd : Int) (on : List Bool) (mem : List Int) : Mod := { m with c := { m.c with Sd := sd }, on := on, mem := mem }
/-- Alike in what is told of blocks. -/
def Sim (m m2 : Mod) : Prop := m2 = withS m m2.c.Sd m2.on m2.mem ∧ m2.on.length = m.on.length
theorem Sim.mk' {m : Mod} {sd : Int} {on : List Bool} {mem : List Int} (h : on.length = m.on.length) : Sim m (withS m sd on mem) := ⟨rfl, h⟩
theorem commitP_ind (on on2 met : List Bool) (f b mx : Int) : (commitP on met f b mx = none ∧ commitP on2 met f b mx = none) ∨ ∃ p p2, commitP on met f b mx = some p ∧ commitP on2 met f b mx = some p2 := by
  unfold commitP
  by_cases h : (cnt (needP met f b) : Int) > mx
  · rw [if_pos h, if_pos h]; exact .inl ⟨rfl, rfl⟩
  · rw [if_neg h, if_neg h]; exact .inr ⟨_, _, rfl, rfl⟩
theorem sim_place {m : Mod} {sd : Int} {on : List Bool} {mem : List Int} (h : on.length = m.on.length) (l : List Blk) (n asked : Int) :
    (placeM (withS m sd on mem) l n asked).2 = (placeM m l n asked).2 ∧ Sim (placeM m l n asked).1 (placeM (withS m sd on mem) l n asked).1 := by
  have e : placeM (withS m sd on mem) l n asked = ((if (lowR m.c.H l n).2 = true then
      match commitP on (metP m.c.Pg on.length l) (pagesP m.c.Pg (lowR m.c.H l n).1 n).1 (pagesP m.c.Pg (lowR m.c.H l n).1 n).2 m.c.P with
      | none => (withS m sd on mem, 0, 6)
      | some (on', fr) => (⟨{ m.c with Sd := sd }, putB l ⟨(lowR m.c.H l n).1, n, asked⟩, chSum (putB l ⟨(lowR m.c.H l n).1, n, asked⟩), max m.peak (chSum (putB l ⟨(lowR m.c.H l n).1, n, asked⟩)), max m.mark ((lowR m.c.H l n).1 + n), on', fr.foldl (fun mem p => fillP mem sd p m.c.Pg) mem⟩, (lowR m.c.H l n).1, 0)
    else (withS m sd on mem, 0, 7)) : Mod × Int × Int) := rfl
  rw [e]
  unfold placeM
  by_cases h1 : (lowR m.c.H l n).2 = true
  · rw [if_pos h1, if_pos h1, h]
    rcases commitP_ind m.on on (metP m.c.Pg m.on.length l) (pagesP m.c.Pg (lowR m.c.H l n).1 n).1 (pagesP m.c.Pg (lowR m.c.H l n).1 n).2 m.c.P with ⟨a, b⟩ | ⟨⟨o1, f1⟩, ⟨o2, f2⟩, a, b⟩
    · rw [a, b]; exact ⟨rfl, .mk' h⟩
    · rw [a, b]
      exact ⟨rfl, rfl, by dsimp only; rw [(commitP_some a).1, (commitP_some b).1, h]⟩
  · rw [if_neg h1, if_neg h1]; exact ⟨rfl, .mk' h⟩
/-- What may differ in an answer, left out. -/
def maskA (o : OpV) (a : AnsV) : AnsV := if o.k = 7 then { a with byte := 0 } else if o.k = 9 then { a with n := 0 } else if o.k = 10 then { a with pages := 0 } else a
theorem sim_give {m : Mod} {sd : Int} {on : List Bool} {mem : List Int} (h : on.length = m.on.length) (o : OpV) :
    (giveM (withS m sd on mem) o).2 = (giveM m o).2 ∧ Sim (giveM m o).1 (giveM (withS m sd on mem) o).1 := by
  have e : giveM (withS m sd on mem) o =
    (let r := if o.k = 2 then manyS m.c.G m.c.N m.c.M m.live o.n o.s else newS m.c.G m.c.N m.c.M m.live o.s (if o.k = 3 then o.a else 1)
     let s := if o.k = 2 then wrap64 (o.n * o.s) else o.s
     if r.2 = 0 then
       let q := placeM (withS m sd on mem) m.bl r.1 s
       if q.2.2 = 0 then ((if o.k = 2 then { q.1 with mem := zeroP q.1.mem q.2.1 r.1 } else q.1), ⟨0, q.2.1, 0, 0, 0, 0, 0, 0⟩) else (withS m sd on mem, errA q.2.2)
     else (withS m sd on mem, errA r.2)) := rfl
  rw [e]
  unfold giveM
  dsimp only
  generalize (if o.k = 2 then manyS m.c.G m.c.N m.c.M m.live o.n o.s else newS m.c.G m.c.N m.c.M m.live o.s (if o.k = 3 then o.a else 1)) = r
  generalize (if o.k = 2 then wrap64 (o.n * o.s) else o.s) = s
  by_cases h1 : r.2 = 0
  · rw [if_pos h1, if_pos h1]
    obtain ⟨e1, e2⟩ := sim_place h (sd := sd) (mem := mem) m.bl r.1 s
    rw [e1]
    by_cases h2 : (placeM m m.bl r.1 s).2.2 = 0
    · rw [if_pos h2, if_pos h2]
      refine ⟨rfl, ?_⟩
      by_cases h3 : o.k = 2
      · simp only [if_pos h3]
        obtain ⟨a, b⟩ := e2
        refine ⟨?_, b⟩
        generalize placeM (withS m sd on mem) m.bl r.1 s = q2 at *
        generalize placeM m m.bl r.1 s = q1 at *
        dsimp only at a ⊢
        rw [a]; rfl
      · simp only [if_neg h3]; exact e2
    · rw [if_neg h2, if_neg h2]; exact ⟨rfl, .mk' h⟩
  · rw [if_neg h1, if_neg h1]; exact ⟨rfl, .mk' h⟩
theorem sim_of {m : Mod} {sd : Int} {on : List Bool} {mem : List Int} (h : on.length = m.on.length) (o : OpV) (A : Nat) (b : Blk) :
    maskA o (ofM (withS m sd on mem) o A b).2 = maskA o (ofM m o A b).2 ∧ Sim (ofM m o A b).1 (ofM (withS m sd on mem) o A b).1 := by
  have e : ofM (withS m sd on mem) o A b =
    (let rest := m.bl.take A ++ m.bl.drop (A + 1)
     if o.k = 4 then
       let r := newS m.c.G m.c.N m.c.M (m.live - b.ch) o.s 1
       if r.2 = 0 then
         let q := placeM (withS m sd on mem) rest r.1 o.s
         if q.2.2 = 0 then ({ q.1 with mem := q.1.mem.take q.2.1.toNat ++ (mem.drop b.at_.toNat).take (min r.1 b.ch).toNat ++ q.1.mem.drop (q.2.1 + min r.1 b.ch).toNat }, ⟨0, q.2.1, 0, 0, 0, 0, 0, 0⟩) else (withS m sd on mem, errA q.2.2)
       else (withS m sd on mem, errA r.2)
     else if o.k = 5 then ({ withS m sd on mem with bl := rest, live := m.live - b.ch }, errA 0)
     else if o.k = 6 then (withS m sd on mem, ⟨0, 0, b.ch, 0, 0, 0, 0, 0⟩)
     else if o.n < 0 ∨ o.n ≥ b.ch then (withS m sd on mem, errA 9)
     else if o.k = 7 then (withS m sd on mem, ⟨0, 0, 0, mem.getD (b.at_ + o.n).toNat 0, 0, 0, 0, 0⟩)
     else ({ withS m sd on mem with mem := mem.set (b.at_ + o.n).toNat o.b }, errA 0)) := rfl
  rw [e]
  unfold ofM
  dsimp only
  by_cases h4 : o.k = 4
  · rw [if_pos h4, if_pos h4]
    generalize newS m.c.G m.c.N m.c.M (m.live - b.ch) o.s 1 = r
    by_cases h1 : r.2 = 0
    · rw [if_pos h1, if_pos h1]
      obtain ⟨e1, e2⟩ := sim_place h (sd := sd) (mem := mem) (m.bl.take A ++ m.bl.drop (A + 1)) r.1 o.s
      rw [e1]
      by_cases h2 : (placeM m (m.bl.take A ++ m.bl.drop (A + 1)) r.1 o.s).2.2 = 0
      · rw [if_pos h2, if_pos h2]
        refine ⟨rfl, ?_⟩
        obtain ⟨a, c⟩ := e2
        refine ⟨?_, c⟩
        generalize placeM (withS m sd on mem) (m.bl.take A ++ m.bl.drop (A + 1)) r.1 o.s = q2 at *
        generalize placeM m (m.bl.take A ++ m.bl.drop (A + 1)) r.1 o.s = q1 at *
        dsimp only at a ⊢
        rw [a]; rfl
      · rw [if_neg h2, if_neg h2]; exact ⟨rfl, .mk' h⟩
    · rw [if_neg h1, if_neg h1]; exact ⟨rfl, .mk' h⟩
  · rw [if_neg h4, if_neg h4]
    by_cases h5 : o.k = 5
    · rw [if_pos h5, if_pos h5]; exact ⟨rfl, rfl, h⟩
    · rw [if_neg h5, if_neg h5]
      by_cases h6 : o.k = 6
      · rw [if_pos h6, if_pos h6]; exact ⟨rfl, .mk' h⟩
      · rw [if_neg h6, if_neg h6]
        by_cases hb : o.n < 0 ∨ o.n ≥ b.ch
        · rw [if_pos hb, if_pos hb]; exact ⟨rfl, .mk' h⟩
        · rw [if_neg hb, if_neg hb]
          by_cases h7 : o.k = 7
          · rw [if_pos h7, if_pos h7]
            refine ⟨?_, .mk' h⟩
            unfold maskA; rw [if_pos h7, if_pos h7]
          · rw [if_neg h7, if_neg h7]; exact ⟨rfl, rfl, h⟩
theorem sim_do {m m2 : Mod} (s : Sim m m2) (o : OpV) : maskA o (doM m2 o).2 = maskA o (doM m o).2 ∧ Sim (doM m o).1 (doM m2 o).1 := by
  obtain ⟨e, h⟩ := s
  generalize m2.c.Sd = sd at e
  generalize m2.on = on at e h
  generalize m2.mem = mem at e
  subst e
  have e : doM (withS m sd on mem) o =
    (if o.k = 1 ∨ o.k = 2 ∨ o.k = 3 then giveM (withS m sd on mem) o
     else if o.k = 9 then ({ withS m sd on mem with on := trimP on (metP m.c.Pg on.length m.bl) }, ⟨0, 0, goneP on (metP m.c.Pg on.length m.bl) on.length, 0, 0, 0, 0, 0⟩)
     else if o.k = 10 then (withS m sd on mem, ⟨0, 0, 0, 0, m.live, m.peak, m.mark, cnt on⟩)
     else if o.k = 4 ∨ o.k = 5 ∨ o.k = 6 ∨ o.k = 7 ∨ o.k = 8 then
       match findB m.bl o.p with
       | some A => ofM (withS m sd on mem) o A (m.bl.getD A ⟨0, 0, 0⟩)
       | none => (withS m sd on mem, errA 8)
     else (withS m sd on mem, errA 2)) := rfl
  rw [e]
  unfold doM
  by_cases h1 : o.k = 1 ∨ o.k = 2 ∨ o.k = 3
  · rw [if_pos h1, if_pos h1]
    obtain ⟨a, b⟩ := sim_give h (sd := sd) (mem := mem) o
    rw [a]; exact ⟨rfl, b⟩
  · rw [if_neg h1, if_neg h1]
    by_cases h9 : o.k = 9
    · rw [if_pos h9, if_pos h9]
      refine ⟨?_, rfl, by dsimp only; unfold trimP; rw [tab_len, tab_len, h]⟩
      unfold maskA; rw [if_neg (by omega), if_pos h9, if_neg (by omega), if_pos h9]
    · rw [if_neg h9, if_neg h9]
      by_cases h10 : o.k = 10
      · rw [if_pos h10, if_pos h10]
        refine ⟨?_, .mk' h⟩
        unfold maskA; rw [if_neg (by omega), if_neg h9, if_pos h10, if_neg (by omega), if_neg h9, if_pos h10]
      · rw [if_neg h10, if_neg h10]
        by_cases h4 : o.k = 4 ∨ o.k = 5 ∨ o.k = 6 ∨ o.k = 7 ∨ o.k = 8
        · rw [if_pos h4, if_pos h4]
          cases hf : findB m.bl o.p with
          | none => exact ⟨rfl, .mk' h⟩
          | some A => exact sim_of h o A _
        · rw [if_neg h4, if_neg h4]; exact ⟨rfl, .mk' h⟩
end Go.Proofs.D.S
/- What bytes become of a call. -/
set_option linter.unusedVariables false
namespace Go.Proofs.D.S
open Go Go.RowKit
def byteAt (m : Mod) (a x : Int) : Int := m.mem.getD (a + x).toNat 0
/-- All pages of a block are there. -/
def onB (m : Mod) (b : Blk) : Prop := ∀ y, b.at_ ≤ y → y < b.at_ + b.ch → m.on.getD (y / m.c.Pg).toNat false = true
structure Inv (m : Mod) : Prop where
  ok : m.Ok
  srt : Srt m.bl
  on : ∀ b ∈ m.bl, onB m b
theorem inv_nil {m : Mod} (ok : m.Ok) (h : m.bl = []) : Inv m := ⟨ok, by rw [h]; exact List.Pairwise.nil, fun b hb => (by rw [h] at hb; cases hb)⟩
theorem fillP_getD (mem : List Int) (sd p pg : Int) (i : Nat) (h : ((i : Int) / pg) ≠ p) : (fillP mem sd p pg).getD i 0 = mem.getD i 0 := by
  unfold fillP
  by_cases hi : i < mem.length
  · rw [tab_getD 0 hi, if_neg h]
  · rw [List.getD_eq_getElem?_getD, List.getD_eq_getElem?_getD, List.getElem?_eq_none (by rw [tab_len]; omega), List.getElem?_eq_none (by omega)]
theorem fills_getD (sd pg : Int) (i : Nat) : ∀ (fr : List Int) (mem : List Int), ((i : Int) / pg) ∉ fr → (fr.foldl (fun mem p => fillP mem sd p pg) mem).getD i 0 = mem.getD i 0
  | [], _, _ => rfl
  | p :: fr, mem, h => by
    rw [List.foldl_cons, fills_getD sd pg i fr _ (fun e => h (List.mem_cons_of_mem _ e)), fillP_getD]
    exact fun e => h (by rw [e]; simp)
theorem fresh_off {on : List Bool} {f b : Int} {k : Nat} {x : Int} (h : x ∈ freshP on f b k) : on.getD x.toNat false = false := by
  unfold freshP at h
  obtain ⟨i, hi, rfl⟩ := List.mem_map.1 h
  obtain ⟨_, h2⟩ := List.mem_filter.1 hi
  rw [Bool.and_eq_true] at h2
  have := h2.2
  show on.getD (Int.ofNat i).toNat false = false
  rw [show (Int.ofNat i).toNat = i from rfl]
  simpa using this
/-- The page of a byte is met by the block in which it lies. -/
theorem met_of {pg : Int} (hpg : 1 ≤ pg) {k : Nat} {l : List Blk} {b : Blk} (hb : b ∈ l) {y : Int} (h0 : 0 ≤ y) (h1 : b.at_ ≤ y) (h2 : y < b.at_ + b.ch) (hk : (y / pg).toNat < k) : (metP pg k l).getD (y / pg).toNat false = true := by
  unfold metP
  rw [tab_getD false hk, List.any_eq_true]
  refine ⟨b, hb, ?_⟩
  have e0 := Int.ediv_nonneg h0 (show 0 ≤ pg by omega)
  have e1 : (((y / pg).toNat : Nat) : Int) = y / pg := Int.toNat_of_nonneg e0
  have e2 := Int.mul_ediv_add_emod y pg
  have e3 := Int.emod_nonneg y (show pg ≠ 0 by omega)
  have e4 := Int.emod_lt_of_pos y (show 0 < pg by omega)
  rw [e1, Int.mul_comm]
  unfold over
  rw [decide_eq_true (by omega), decide_eq_true (by omega)]; rfl
theorem these_of {pg a n y : Int} (hpg : 1 ≤ pg) (hn : 1 ≤ n) (ha : 0 ≤ a) (h1 : a ≤ y) (h2 : y < a + n) : these (pagesP pg a n).1 (pagesP pg a n).2 (y / pg).toNat = true := by
  have e0 := Int.ediv_nonneg (show 0 ≤ y by omega) (show 0 ≤ pg by omega)
  have e1 : (((y / pg).toNat : Nat) : Int) = y / pg := Int.toNat_of_nonneg e0
  have e2 : a / pg ≤ y / pg := Int.ediv_le_ediv (by omega) h1
  have e3 : y / pg ≤ (a + n - 1) / pg := Int.ediv_le_ediv (by omega) (by omega)
  unfold these pagesP
  rw [if_neg (by omega), e1]
  dsimp only
  rw [decide_eq_true (by omega), decide_eq_true (by omega)]; rfl
/-- A block is placed. -/
structure Placed (m : Mod) (l : List Blk) (n asked a : Int) (m' : Mod) : Prop where
  c : m'.c = m.c
  bl : m'.bl = putB l ⟨a, n, asked⟩
  at_ : 0 ≤ a ∧ a + n ≤ m.c.H
  free : freeB l a n = true
  keep : ∀ b ∈ l, onB m b → ∀ x, 0 ≤ x → x < b.ch → byteAt m' b.at_ x = byteAt m b.at_ x
  on1 : ∀ b ∈ l, onB m b → onB m' b
  on2 : onB m' ⟨a, n, asked⟩
theorem Mod.Ok.page {m : Mod} (ok : m.Ok) {y : Int} (h0 : 0 ≤ y) (h1 : y < m.c.H) : (y / m.c.Pg).toNat < m.on.length := by
  have f := ok.c.facts
  have h := ok.on
  have h2 : y / m.c.Pg < m.on.length := Int.ediv_lt_of_lt_mul (by omega) (by omega)
  have h3 := Int.ediv_nonneg h0 (show 0 ≤ m.c.Pg by omega)
  omega
theorem place_out {m : Mod} (ok : m.Ok) {l : List Blk} (hl : BlkIn m.c.H l) {n asked : Int} (hn : 1 ≤ n) (h : (placeM m l n asked).2.2 = 0) :
    Placed m l n asked (placeM m l n asked).2.1 (placeM m l n asked).1 := by
  have f := ok.c.facts
  rcases placeM_cases m l (asked := asked) hn (by omega) with ⟨_, e⟩ | e | ⟨j, on', fr, _, h0, h1, hf, ho, hc, e⟩
  · rw [e] at h; simp at h
  · rw [e] at h; simp at h
  · rw [e]
    dsimp only
    generalize (j : Int) * n = a at *
    have hfr := (commitP_some hc).2
    have ion : ∀ i, i < m.on.length → (allP m.on (pagesP m.c.Pg a n).1 (pagesP m.c.Pg a n).2).getD i false = true → (needP (metP m.c.Pg m.on.length l) (pagesP m.c.Pg a n).1 (pagesP m.c.Pg a n).2).getD i false = true → on'.getD i false = true := by
      intro i hi h1 h2
      unfold commitP at hc
      split at hc
      · cases hc
      · injection hc with hc
        injection hc with hc _
        rw [← hc]
        split
        · rw [tab_getD false hi, h1, h2]; rfl
        · exact h1
    have old : ∀ b ∈ l, ∀ y, b.at_ ≤ y → y < b.at_ + b.ch → m.on.getD (y / m.c.Pg).toNat false = true → on'.getD (y / m.c.Pg).toNat false = true := by
      intro b hb y y1 y2 hy
      have ib := hl b hb
      have hp := ok.page (y := y) (by omega) (by omega)
      refine ion _ hp ?_ ?_
      · unfold allP
        rw [tab_getD false hp, hy]; rfl
      · unfold needP
        have hp2 : (y / m.c.Pg).toNat < (metP m.c.Pg m.on.length l).length := by unfold metP; rw [tab_len]; exact hp
        rw [tab_getD false hp2, met_of (by omega) hb (by omega) y1 y2 hp]; rfl
    refine ⟨rfl, rfl, ⟨h0, h1⟩, hf, fun b hb hon x x0 x1 => ?_, fun b hb hon y y1 y2 => old b hb y y1 y2 (hon y y1 y2), fun y y1 y2 => ?_⟩
    · have ib := hl b hb
      show (fr.foldl (fun mem p => fillP mem m.c.Sd p m.c.Pg) m.mem).getD (b.at_ + x).toNat 0 = m.mem.getD (b.at_ + x).toNat 0
      refine fills_getD _ _ _ _ _ fun hin => ?_
      have et : (((b.at_ + x).toNat : Nat) : Int) = b.at_ + x := Int.toNat_of_nonneg (by omega)
      rw [et, hfr] at hin
      have h5 := fresh_off hin
      rw [hon (b.at_ + x) (by omega) (by omega)] at h5
      cases h5
    · dsimp only at y1 y2
      have hp := ok.page (y := y) (by omega) (by omega)
      have ht := these_of (pg := m.c.Pg) (a := a) (n := n) (y := y) (by omega) hn h0 y1 y2
      show on'.getD (y / m.c.Pg).toNat false = true
      refine ion _ hp ?_ ?_
      · unfold allP
        rw [tab_getD false hp, ht, Bool.or_true]
      · unfold needP
        have hp2 : (y / m.c.Pg).toNat < (metP m.c.Pg m.on.length l).length := by unfold metP; rw [tab_len]; exact hp
        rw [tab_getD false hp2, ht, Bool.or_true]
/-- Bytes of what is placed do not matter to others. -/
theorem Placed.mem {m m' : Mod} {l : List Blk} {n asked a : Int} (p : Placed m l n asked a m') (hl : BlkIn m.c.H l) {mem : List Int} (h : ∀ i : Nat, ((i : Int) < a ∨ a + n ≤ (i : Int)) → (i : Int) < m.c.H → mem.getD i 0 = m'.mem.getD i 0) : Placed m l n asked a { m' with mem := mem } := by
  refine ⟨p.c, p.bl, p.at_, p.free, fun b hb hon x x0 x1 => ?_, p.on1, p.on2⟩
  have ib := hl b hb
  have ap := freeB_apart p.free b hb
  rw [← p.keep b hb hon x x0 x1]
  have et : (((b.at_ + x).toNat : Nat) : Int) = b.at_ + x := Int.toNat_of_nonneg (by omega)
  exact h _ (by rw [et]; omega) (by rw [et]; omega)
theorem Placed.inv {m m' : Mod} {l : List Blk} {n asked a : Int} (p : Placed m l n asked a m') (ok : m'.Ok) (s : Srt l) (hl : BlkIn m.c.H l) (hon : ∀ b ∈ l, onB m b) (hn : 1 ≤ n) : Inv m' := by
  refine ⟨ok, ?_, fun b hb => ?_⟩
  · rw [p.bl]; exact s.put hn (fun b hb => (hl b hb).2.1) p.free
  · rw [p.bl] at hb
    rcases (putB_mem _ _ _).1 hb with rfl | hb
    · exact p.on2
    · exact p.on1 b hb (hon b hb)
theorem zeroP_getD (mem : List Int) (a n : Int) (i : Nat) : (zeroP mem a n).getD i 0 = if a ≤ (i : Int) ∧ (i : Int) < a + n then 0 else mem.getD i 0 := by
  unfold zeroP
  by_cases hi : i < mem.length
  · rw [tab_getD 0 hi]
  · rw [List.getD_eq_getElem?_getD, List.getD_eq_getElem?_getD, List.getElem?_eq_none (by rw [tab_len]; omega), List.getElem?_eq_none (by omega)]; simp
/-- What is charged, of who is let in. -/
theorem new_charge {c : Cf} {live s a : Int} (h : (newS c.G c.N c.M live s a).2 = 0) : (newS c.G c.N c.M live s a).1 = (c.charge s a).1 := by
  unfold newS at h ⊢
  unfold Cf.charge
  by_cases h1 : (chargeS c.G c.N s a).2 = 0
  · rw [if_pos h1] at h ⊢
    by_cases h2 : live + (chargeS c.G c.N s a).1 > c.M
    · rw [if_pos h2] at h; simp at h
    · rw [if_neg h2]
  · rw [if_neg h1] at h; exact absurd h h1
theorem give_out {m : Mod} (i : Inv m) (o : OpV) (ho : o.k = 1 ∨ o.k = 2 ∨ o.k = 3) (h : (giveM m o).2.err = 0) :
    1 ≤ chargeO m.c o ∧ (giveM m o).2 = ⟨0, (giveM m o).2.at_, 0, 0, 0, 0, 0, 0⟩ ∧ (∃ asked, Placed m m.bl (chargeO m.c o) asked (giveM m o).2.at_ (giveM m o).1) ∧ (o.k = 2 → ∀ x, 0 ≤ x → x < chargeO m.c o → byteAt (giveM m o).1 (giveM m o).2.at_ x = 0) := by
  obtain ⟨g, l, ex⟩ := i.ok.c.exs
  have hr : ((if o.k = 2 then manyS m.c.G m.c.N m.c.M m.live o.n o.s else newS m.c.G m.c.N m.c.M m.live o.s (if o.k = 3 then o.a else 1)).2 = 0 → (if o.k = 2 then manyS m.c.G m.c.N m.c.M m.live o.n o.s else newS m.c.G m.c.N m.c.M m.live o.s (if o.k = 3 then o.a else 1)).1 = chargeO m.c o ∧ 1 ≤ chargeO m.c o) := by
    intro h0
    have e : (if o.k = 2 then manyS m.c.G m.c.N m.c.M m.live o.n o.s else newS m.c.G m.c.N m.c.M m.live o.s (if o.k = 3 then o.a else 1)).1 = chargeO m.c o := by
      unfold chargeO
      by_cases h2 : o.k = 2
      · rw [if_pos h2] at h0 ⊢
        rw [if_pos h2]
        unfold manyS at h0 ⊢
        by_cases hp : (productS m.c.N o.n o.s).2 = 0
        · rw [if_pos hp] at h0 ⊢; exact new_charge h0
        · rw [if_neg hp] at h0; exact absurd h0 hp
      · rw [if_neg h2] at h0 ⊢
        rw [if_neg h2]
        by_cases h3 : o.k = 3
        · rw [if_pos h3] at h0 ⊢
          rw [if_pos h3]; exact new_charge h0
        · rw [if_neg h3] at h0 ⊢
          rw [if_neg h3]; exact new_charge h0
    refine ⟨e, ?_⟩
    rw [← e]
    have cn : ∀ r : Int × Int, (r.2 ≠ 0 ∧ r.1 = 0) ∨ (r.2 = 0 ∧ m.live + r.1 ≤ m.c.M ∧ ∃ k : Nat, k ≤ l ∧ r.1 = ((2 ^ (g + k) : Nat) : Int)) → r.2 = 0 → 1 ≤ r.1 := by
      rintro r (⟨h, _⟩ | ⟨_, _, k, _, e⟩) h0
      · exact absurd h0 h
      · have := Nat.two_pow_pos (g + k); omega
    refine cn _ ?_ h0
    by_cases h2 : o.k = 2
    · rw [if_pos h2]; exact charge_many ex _ _ _
    · rw [if_neg h2]; exact charge_new ex _ _ _
  unfold giveM at h ⊢
  dsimp only at h ⊢
  generalize (if o.k = 2 then manyS m.c.G m.c.N m.c.M m.live o.n o.s else newS m.c.G m.c.N m.c.M m.live o.s (if o.k = 3 then o.a else 1)) = r at h hr ⊢
  generalize (if o.k = 2 then wrap64 (o.n * o.s) else o.s) = s at h ⊢
  by_cases h1 : r.2 = 0
  · rw [if_pos h1] at h ⊢
    obtain ⟨e, hpos⟩ := hr h1
    rw [e] at h ⊢
    by_cases h2 : (placeM m m.bl (chargeO m.c o) s).2.2 = 0
    · rw [if_pos h2]
      have pl := place_out i.ok i.ok.bl (asked := s) hpos h2
      refine ⟨hpos, rfl, ⟨s, ?_⟩, fun k2 x x0 x1 => ?_⟩
      · by_cases k2 : o.k = 2
        · simp only [if_pos k2]
          refine pl.mem i.ok.bl fun j hj _ => ?_
          rw [zeroP_getD, if_neg (by omega)]
        · simp only [if_neg k2]; exact pl
      · simp only [if_pos k2]
        unfold byteAt
        dsimp only
        have et : ((((placeM m m.bl (chargeO m.c o) s).2.1 + x).toNat : Nat) : Int) = (placeM m m.bl (chargeO m.c o) s).2.1 + x := Int.toNat_of_nonneg (by have := pl.at_; omega)
        rw [zeroP_getD, if_pos (by omega)]
    · rw [if_neg h2] at h; exact absurd h h2
  · rw [if_neg h1] at h; exact absurd h h1
theorem splice_getD {q m : List Int} {p a c : Nat} (h1 : p + c ≤ q.length) (h2 : a + c ≤ m.length) (i : Nat) :
    (q.take p ++ (m.drop a).take c ++ q.drop (p + c)).getD i 0 = if p ≤ i ∧ i < p + c then m.getD (a + (i - p)) 0 else q.getD i 0 := by
  have l1 : (q.take p).length = p := by rw [List.length_take]; omega
  have l2 : ((m.drop a).take c).length = c := by rw [List.length_take, List.length_drop]; omega
  simp only [List.getD_eq_getElem?_getD]
  by_cases h3 : i < p
  · rw [if_neg (by omega), List.append_assoc, List.getElem?_append_left (by omega), List.getElem?_take, if_pos h3]
  · by_cases h4 : i < p + c
    · rw [if_pos ⟨by omega, h4⟩, List.getElem?_append_left (by rw [List.length_append]; omega), List.getElem?_append_right (by omega), l1, List.getElem?_take, if_pos (by omega), List.getElem?_drop]
    · rw [if_neg (by omega), List.getElem?_append_right (by rw [List.length_append]; omega), List.length_append, l1, l2, List.getElem?_drop, show p + c + (i - (p + c)) = i by omega]
theorem realloc_out {m : Mod} (i : Inv m) (o : OpV) {A : Nat} (hA : A < m.bl.length) (h4 : o.k = 4) (h : (ofM m o A m.bl[A]).2.err = 0) :
    1 ≤ chargeO m.c o ∧ (ofM m o A m.bl[A]).2 = ⟨0, (ofM m o A m.bl[A]).2.at_, 0, 0, 0, 0, 0, 0⟩ ∧ (∃ asked, Placed m (m.bl.take A ++ m.bl.drop (A + 1)) (chargeO m.c o) asked (ofM m o A m.bl[A]).2.at_ (ofM m o A m.bl[A]).1) ∧
      ∀ x, 0 ≤ x → x < chargeO m.c o → x < m.bl[A].ch → byteAt (ofM m o A m.bl[A]).1 (ofM m o A m.bl[A]).2.at_ x = byteAt m m.bl[A].at_ x := by
  obtain ⟨g, l, ex⟩ := i.ok.c.exs
  have f := i.ok.c.facts
  have hb := i.ok.bl _ (List.getElem_mem hA)
  have hrest := chSum_rest hA
  have hin := i.ok.bl.rest A
  have hrl := chSum_len hin
  have hlive := i.ok.live
  have hmem := i.ok.mem
  have hr : (newS m.c.G m.c.N m.c.M (m.live - m.bl[A].ch) o.s 1).2 = 0 → (newS m.c.G m.c.N m.c.M (m.live - m.bl[A].ch) o.s 1).1 = chargeO m.c o ∧ 1 ≤ chargeO m.c o ∧ m.live - m.bl[A].ch + chargeO m.c o ≤ m.c.M := by
    intro h0
    have e : (newS m.c.G m.c.N m.c.M (m.live - m.bl[A].ch) o.s 1).1 = chargeO m.c o := by
      unfold chargeO; rw [if_neg (by omega), if_neg (by omega)]; exact new_charge h0
    refine ⟨e, ?_⟩
    rw [← e]
    rcases charge_new ex (m.live - m.bl[A].ch) o.s 1 with ⟨h, _⟩ | ⟨_, h2, k, _, e⟩
    · exact absurd h0 h
    · have := Nat.two_pow_pos (g + k); omega
  unfold ofM at h ⊢
  simp only [if_pos h4] at h ⊢
  generalize newS m.c.G m.c.N m.c.M (m.live - m.bl[A].ch) o.s 1 = r at h hr ⊢
  by_cases h1 : r.2 = 0
  · rw [if_pos h1] at h ⊢
    obtain ⟨e, hpos, hlim⟩ := hr h1
    rw [e] at h ⊢
    by_cases h2 : (placeM m (m.bl.take A ++ m.bl.drop (A + 1)) (chargeO m.c o) o.s).2.2 = 0
    · rw [if_pos h2]
      have pl := place_out i.ok hin (asked := o.s) hpos h2
      obtain ⟨y1, y2, _, _⟩ := placeM_ok i.ok (asked := o.s) hpos hin (by omega) h2
      have ym : ((placeM m (m.bl.take A ++ m.bl.drop (A + 1)) (chargeO m.c o) o.s).1.mem.length : Int) = m.c.H := y1.mem.trans (congrArg Cf.H y2)
      have hat := pl.at_
      generalize placeM m (m.bl.take A ++ m.bl.drop (A + 1)) (chargeO m.c o) o.s = q at *
      obtain ⟨p, hp⟩ : ∃ p : Nat, q.2.1 = p := ⟨q.2.1.toNat, (Int.toNat_of_nonneg hat.1).symm⟩
      obtain ⟨a, ha⟩ : ∃ a : Nat, m.bl[A].at_ = a := ⟨m.bl[A].at_.toNat, (Int.toNat_of_nonneg hb.1).symm⟩
      obtain ⟨c, hc⟩ : ∃ c : Nat, min (chargeO m.c o) m.bl[A].ch = c := ⟨(min (chargeO m.c o) m.bl[A].ch).toNat, (Int.toNat_of_nonneg (by omega)).symm⟩
      have emem : q.1.mem.take q.2.1.toNat ++ (m.mem.drop m.bl[A].at_.toNat).take (min (chargeO m.c o) m.bl[A].ch).toNat ++ q.1.mem.drop (q.2.1 + min (chargeO m.c o) m.bl[A].ch).toNat = q.1.mem.take p ++ (m.mem.drop a).take c ++ q.1.mem.drop (p + c) := by
        rw [hp, ha, hc, Int.toNat_natCast, Int.toNat_natCast, Int.toNat_natCast, show ((p : Int) + (c : Int)).toNat = p + c by omega]
      rw [emem]
      have sp := fun i => splice_getD (q := q.1.mem) (m := m.mem) (p := p) (a := a) (c := c) (by omega) (by omega) i
      refine ⟨hpos, rfl, ⟨o.s, pl.mem hin fun j hj _ => ?_⟩, fun x x0 x1 x2 => ?_⟩
      · rw [sp, if_neg (by omega)]
      · unfold byteAt
        dsimp only
        rw [hp, ha, sp, if_pos (by omega)]
        congr 1
        omega
    · rw [if_neg h2] at h; exact absurd h h2
  · rw [if_neg h1] at h; exact absurd h h1
end Go.Proofs.D.S
/- Two models that are alike stay so, and tell the same of what is known. -/
set_option linter.unusedVariables false
namespace Go.Proofs.D.S
open Go Go.RowKit
theorem doM_cases (m : Mod) (o : OpV) :
    ((o.k = 1 ∨ o.k = 2 ∨ o.k = 3) ∧ doM m o = giveM m o) ∨ (o.k = 9 ∧ doM m o = ({ m with on := trimP m.on (metP m.c.Pg m.on.length m.bl) }, ⟨0, 0, goneP m.on (metP m.c.Pg m.on.length m.bl) m.on.length, 0, 0, 0, 0, 0⟩)) ∨
    (o.k = 10 ∧ doM m o = (m, ⟨0, 0, 0, 0, m.live, m.peak, m.mark, cnt m.on⟩)) ∨
    ((o.k = 4 ∨ o.k = 5 ∨ o.k = 6 ∨ o.k = 7 ∨ o.k = 8) ∧ ∃ (A : Nat) (hA : A < m.bl.length), findB m.bl o.p = some A ∧ m.bl[A].at_ = o.p ∧ doM m o = ofM m o A m.bl[A]) ∨ (doM m o).2.err ≠ 0 := by
  unfold doM
  by_cases h1 : o.k = 1 ∨ o.k = 2 ∨ o.k = 3
  · rw [if_pos h1]; exact .inl ⟨h1, rfl⟩
  rw [if_neg h1]
  by_cases h9 : o.k = 9
  · rw [if_pos h9]; exact .inr (.inl ⟨h9, rfl⟩)
  rw [if_neg h9]
  by_cases h10 : o.k = 10
  · rw [if_pos h10]; exact .inr (.inr (.inl ⟨h10, rfl⟩))
  rw [if_neg h10]
  by_cases h4 : o.k = 4 ∨ o.k = 5 ∨ o.k = 6 ∨ o.k = 7 ∨ o.k = 8
  · rw [if_pos h4]
    cases hf : findB m.bl o.p with
    | none => exact .inr (.inr (.inr (.inr (by show (8 : Int) ≠ 0; decide))))
    | some A =>
      obtain ⟨hA, ha⟩ := findB_lt hf
      refine .inr (.inr (.inr (.inl ⟨h4, A, hA, rfl, ha, ?_⟩)))
      dsimp only
      rw [getD_lt _ hA]
  · rw [if_neg h4]; exact .inr (.inr (.inr (.inr (by show (2 : Int) ≠ 0; decide))))
theorem ofM_cases (m : Mod) (o : OpV) (A : Nat) (b : Blk) (ho : o.k = 5 ∨ o.k = 6 ∨ o.k = 7 ∨ o.k = 8) :
    (o.k = 5 ∧ ofM m o A b = ({ m with bl := m.bl.take A ++ m.bl.drop (A + 1), live := m.live - b.ch }, errA 0)) ∨ (o.k = 6 ∧ ofM m o A b = (m, ⟨0, 0, b.ch, 0, 0, 0, 0, 0⟩)) ∨
    (o.k = 7 ∧ (0 ≤ o.n ∧ o.n < b.ch) ∧ ofM m o A b = (m, ⟨0, 0, 0, m.mem.getD (b.at_ + o.n).toNat 0, 0, 0, 0, 0⟩)) ∨
    (o.k = 8 ∧ (0 ≤ o.n ∧ o.n < b.ch) ∧ ofM m o A b = ({ m with mem := m.mem.set (b.at_ + o.n).toNat o.b }, errA 0)) ∨ (ofM m o A b).2.err ≠ 0 := by
  unfold ofM
  dsimp only
  rw [if_neg (by omega)]
  by_cases h5 : o.k = 5
  · rw [if_pos h5]; exact .inl ⟨h5, rfl⟩
  rw [if_neg h5]
  by_cases h6 : o.k = 6
  · rw [if_pos h6]; exact .inr (.inl ⟨h6, rfl⟩)
  rw [if_neg h6]
  by_cases hb : o.n < 0 ∨ o.n ≥ b.ch
  · rw [if_pos hb]; exact .inr (.inr (.inr (.inr (by show (9 : Int) ≠ 0; decide))))
  rw [if_neg hb]
  by_cases h7 : o.k = 7
  · rw [if_pos h7]; exact .inr (.inr (.inl ⟨h7, by omega, rfl⟩))
  · rw [if_neg h7]; exact .inr (.inr (.inr (.inl ⟨by omega, by omega, rfl⟩)))
theorem mem_rest {l : List Blk} {A : Nat} {b : Blk} (h : b ∈ l.take A ++ l.drop (A + 1)) : b ∈ l := by
  rcases List.mem_append.1 h with h | h
  · exact List.mem_of_mem_take h
  · exact List.mem_of_mem_drop h
theorem inv_trim {m : Mod} (i : Inv m) {o : OpV} (h : o.k = 9) : Inv (doM m o).1 := by
  have f := i.ok.c.facts
  obtain ⟨okd, _⟩ := doM_ok i.ok o
  rcases doM_cases m o with ⟨h1, _⟩ | ⟨_, e⟩ | ⟨h1, _⟩ | ⟨h1, _⟩ | he
  · omega
  · rw [e] at okd ⊢
    refine ⟨okd, i.srt, fun b hb y y1 y2 => ?_⟩
    have ib := i.ok.bl b hb
    have hp := i.ok.page (y := y) (by omega) (by omega)
    show (trimP m.on (metP m.c.Pg m.on.length m.bl)).getD (y / m.c.Pg).toNat false = true
    unfold trimP
    rw [tab_getD false hp, i.on b hb y y1 y2, met_of (by omega) hb (by omega) y1 y2 hp]; rfl
  · omega
  · omega
  · rw [doM_fail m o he]; exact i
theorem inv_do {m : Mod} (i : Inv m) (o : OpV) : Inv (doM m o).1 := by
  have f := i.ok.c.facts
  by_cases hne : (doM m o).2.err ≠ 0
  · rw [doM_fail m o hne]; exact i
  have he : (doM m o).2.err = 0 := Decidable.not_not.1 hne
  obtain ⟨okd, hcd⟩ := doM_ok i.ok o
  rcases doM_cases m o with ⟨h1, e⟩ | ⟨h9, e⟩ | ⟨_, e⟩ | ⟨h4, A, hA, hf, ha, e⟩ | h
  · rw [e] at he okd ⊢
    obtain ⟨g1, _, ⟨_, pl⟩, _⟩ := give_out i o h1 he
    exact pl.inv okd i.srt i.ok.bl i.on g1
  · exact inv_trim i h9
  · rw [e]; exact i
  · rw [e] at he okd ⊢
    by_cases k4 : o.k = 4
    · obtain ⟨g1, _, ⟨_, pl⟩, _⟩ := realloc_out i o hA k4 he
      exact pl.inv okd (i.srt.rest A) (i.ok.bl.rest A) (fun b hb => i.on b (mem_rest hb)) g1
    · rcases ofM_cases m o A m.bl[A] (by omega) with ⟨_, e⟩ | ⟨_, e⟩ | ⟨_, _, e⟩ | ⟨_, _, e⟩ | h
      · rw [e] at okd ⊢; exact ⟨okd, i.srt.rest A, fun b hb => i.on b (mem_rest hb)⟩
      · rw [e]; exact i
      · rw [e]; exact i
      · rw [e] at okd ⊢; exact ⟨okd, i.srt, i.on⟩
      · exact absurd he h
  · exact absurd he h
/-- A block of the reader's, and what is live there, in both. -/
def KOk (m1 m2 : Mod) (x : Int × PB) : Prop := ∃ b ∈ m1.bl, b.at_ = x.1 ∧ b.ch = x.2.ch ∧ x.2.no ≤ x.2.ch ∧ (∀ n ∈ x.2.tl, n < x.2.ch) ∧ ∀ n, 0 ≤ n → x.2.knows n = true → byteAt m1 x.1 n = byteAt m2 x.1 n
theorem knows_lt {b : PB} {n : Int} (h1 : b.no ≤ b.ch) (h2 : ∀ n ∈ b.tl, n < b.ch) (h : b.knows n = true) : n < b.ch := by
  unfold PB.knows at h
  rw [Bool.or_eq_true, decide_eq_true_eq] at h
  rcases h with h | h
  · omega
  · exact h2 n (List.contains_iff_mem.1 h)
structure Alike (m1 m2 : Mod) (P : List (Int × PB)) : Prop where
  s : Sim m1 m2
  i1 : Inv m1
  i2 : Inv m2
  nd : NoDup P
  k : ∀ x ∈ P, KOk m1 m2 x
theorem Sim.bl {m1 m2 : Mod} (s : Sim m1 m2) : m2.bl = m1.bl := (congrArg Mod.bl s.1 : m2.bl = (withS m1 m2.c.Sd m2.on m2.mem).bl).trans rfl
theorem Sim.c {m1 m2 : Mod} (s : Sim m1 m2) : m2.c = { m1.c with Sd := m2.c.Sd } := (congrArg Mod.c s.1 : m2.c = (withS m1 m2.c.Sd m2.on m2.mem).c).trans rfl
theorem Sim.charge {m1 m2 : Mod} (s : Sim m1 m2) (o : OpV) : chargeO m2.c o = chargeO m1.c o := by rw [s.c]; rfl
theorem Alike.trim1 {m1 m2 : Mod} {P : List (Int × PB)} (a : Alike m1 m2 P) {o : OpV} (h : o.k = 9) : Alike (doM m1 o).1 m2 P := by
  have i := inv_trim a.i1 h
  have e : doM m1 o = ({ m1 with on := trimP m1.on (metP m1.c.Pg m1.on.length m1.bl) }, ⟨0, 0, goneP m1.on (metP m1.c.Pg m1.on.length m1.bl) m1.on.length, 0, 0, 0, 0, 0⟩) := by
    unfold doM; rw [if_neg (by omega), if_pos h]
  rw [e] at i ⊢
  refine ⟨⟨a.s.1, ?_⟩, i, a.i2, a.nd, a.k⟩
  have := a.s.2
  dsimp only
  unfold trimP
  rw [tab_len]; exact this
theorem Alike.trim2 {m1 m2 : Mod} {P : List (Int × PB)} (a : Alike m1 m2 P) {o : OpV} (h : o.k = 9) : Alike m1 (doM m2 o).1 P := by
  have i := inv_trim a.i2 h
  have e : doM m2 o = ({ m2 with on := trimP m2.on (metP m2.c.Pg m2.on.length m2.bl) }, ⟨0, 0, goneP m2.on (metP m2.c.Pg m2.on.length m2.bl) m2.on.length, 0, 0, 0, 0, 0⟩) := by
    unfold doM; rw [if_neg (by omega), if_pos h]
  rw [e] at i ⊢
  refine ⟨⟨?_, ?_⟩, a.i1, i, a.nd, a.k⟩
  · have := a.s.1
    show ({ m2 with on := trimP m2.on (metP m2.c.Pg m2.on.length m2.bl) } : Mod) = withS m1 m2.c.Sd (trimP m2.on (metP m2.c.Pg m2.on.length m2.bl)) m2.mem
    generalize trimP m2.on (metP m2.c.Pg m2.on.length m2.bl) = z
    rw [this]; rfl
  · have := a.s.2
    dsimp only
    unfold trimP
    rw [tab_len]; exact this
theorem KOk.keep {m1 m2 m1' m2' : Mod} {x : Int × PB} (h : KOk m1 m2 x) (hb : ∀ b ∈ m1.bl, b.at_ = x.1 → b ∈ m1'.bl ∧ (∀ n, 0 ≤ n → n < b.ch → byteAt m1' b.at_ n = byteAt m1 b.at_ n) ∧ (∀ n, 0 ≤ n → n < b.ch → byteAt m2' b.at_ n = byteAt m2 b.at_ n)) : KOk m1' m2' x := by
  obtain ⟨b, b1, b2, b3, b4, b5, b6⟩ := h
  obtain ⟨c1, c2, c3⟩ := hb b b1 b2
  refine ⟨b, c1, b2, b3, b4, b5, fun n n0 hn => ?_⟩
  have hl := knows_lt b4 b5 hn
  have e1 := c2 n n0 (by omega)
  have e2 := c3 n n0 (by omega)
  rw [b2] at e1 e2
  rw [e1, e2, b6 n n0 hn]
theorem set_getD {l : List Int} {i j : Nat} {v : Int} (h : i < l.length) : (l.set i v).getD j 0 = if j = i then v else l.getD j 0 := by
  rw [List.getD_eq_getElem?_getD, List.getD_eq_getElem?_getD]
  by_cases e : j = i
  · subst e; rw [if_pos rfl, List.getElem?_set_self h]; rfl
  · rw [if_neg e, List.getElem?_set_ne (fun x => e x.symm)]
theorem new_knows {ch no n : Int} (h : n ≥ no) : (⟨ch, no, []⟩ : PB).knows n = false := by
  unfold PB.knows
  rw [decide_eq_false (by dsimp only; omega)]; rfl
theorem same_block {l : List Blk} (s : Srt l) (hc : ∀ b ∈ l, 1 ≤ b.ch) {b b2 : Blk} (h : b ∈ l) (h2 : b2 ∈ l) (e : b.at_ = b2.at_) : b = b2 := by
  obtain ⟨A, hA, f1, e1⟩ := findB_mem s hc h
  obtain ⟨B, hB, f2, e2⟩ := findB_mem s hc h2
  rw [e, f2] at f1
  cases f1
  rw [← e1, ← e2]
theorem mem_or_rest {l : List Blk} {A : Nat} (hA : A < l.length) {b : Blk} (h : b ∈ l) : b = l[A] ∨ b ∈ l.take A ++ l.drop (A + 1) := List.mem_cons.1 ((rest_perm hA).mem_iff.1 h)
theorem alike_do {m1 m2 : Mod} {P : List (Int × PB)} (al : Alike m1 m2 P) (o : OpV) (he : (doM m1 o).2.err = 0) (h9 : o.k ≠ 9) :
    (doesS m1.c P o (doM m1 o).2).2 = (doesS m2.c P o (doM m2 o).2).2 ∧ (doesS m1.c P o (doM m1 o).2).1 = (doesS m2.c P o (doM m2 o).2).1 ∧ Alike (doM m1 o).1 (doM m2 o).1 (doesS m1.c P o (doM m1 o).2).1 := by
  obtain ⟨hmask, hsim⟩ := sim_do al.s o
  have j1 := inv_do al.i1 o
  have j2 := inv_do al.i2 o
  have hch := al.s.charge o
  have hbl := al.s.bl
  have pos1 : ∀ b ∈ m1.bl, 1 ≤ b.ch := fun b hb => (al.i1.ok.bl b hb).2.1
  -- answers that are the same
  have same : o.k ≠ 7 → o.k ≠ 10 → (doM m2 o).2 = (doM m1 o).2 := by
    intro h7 h10
    unfold maskA at hmask
    rwa [if_neg h7, if_neg h9, if_neg h10, if_neg h7, if_neg h9, if_neg h10] at hmask
  have he2 : (doM m2 o).2.err = 0 := by
    have : (maskA o (doM m2 o).2).err = (maskA o (doM m1 o).2).err := by rw [hmask]
    have e : ∀ a, (maskA o a).err = a.err := by
      intro a; unfold maskA
      by_cases z7 : o.k = 7
      · rw [if_pos z7]
      · rw [if_neg z7, if_neg h9]
        by_cases z10 : o.k = 10
        · rw [if_pos z10]
        · rw [if_neg z10]
    rw [e, e] at this
    rw [this]; exact he
  rcases doM_cases m1 o with ⟨h1, e⟩ | ⟨h, _⟩ | ⟨h10, e⟩ | ⟨h4, A, hA, hf, ha, e⟩ | h
  · -- a block is given
    have sm := same (by omega) (by omega)
    have e2 : doM m2 o = giveM m2 o := by unfold doM; rw [if_pos h1]
    have ge := he
    have ge2 := he2
    rw [e] at ge
    rw [e2] at ge2
    obtain ⟨g1, _, ⟨_, p1⟩, z1⟩ := give_out al.i1 o h1 ge
    obtain ⟨g2, _, ⟨_, p2⟩, z2⟩ := give_out al.i2 o h1 ge2
    rw [← e] at p1 z1
    rw [← e2] at p2 z2
    rw [sm] at p2 z2
    rw [hch] at p2 z2
    have key : ∀ no : Int, no ≤ chargeO m1.c o → (o.k = 2 ∨ no = 0) → Alike (doM m1 o).1 (doM m2 o).1 (aPut P (doM m1 o).2.at_ ⟨chargeO m1.c o, no, []⟩) := by
      intro no hno hk
      refine ⟨hsim, j1, j2, al.nd.put, fun x hx => ?_⟩
      rcases aPut_mem hx with rfl | hx
      · refine ⟨_, by rw [p1.bl]; exact (putB_mem _ _ _).2 (.inl rfl), rfl, rfl, hno, (fun n hn => (by cases hn)), fun n n0 hn => ?_⟩
        dsimp only at hn ⊢
        by_cases hlt : n < no
        · rcases hk with k2 | k0
          · rw [z1 k2 n n0 (by omega), z2 k2 n n0 (by omega)]
          · omega
        · rw [new_knows (by omega)] at hn; cases hn
      · refine (al.k x hx).keep fun b hb _ => ⟨by rw [p1.bl]; exact (putB_mem _ _ _).2 (.inr hb), p1.keep b hb (al.i1.on b hb), p2.keep b (by rw [hbl]; exact hb) (al.i2.on b (by rw [hbl]; exact hb))⟩
    rw [sm]
    by_cases k2 : o.k = 2
    · have d : ∀ c, doesS c P o (doM m1 o).2 = (aPut P (doM m1 o).2.at_ ⟨chargeO c o, chargeO c o, []⟩, (doM m1 o).2) := by
        intro c; unfold doesS; rw [if_neg (by omega), if_pos k2]
      rw [d, d, hch]
      exact ⟨rfl, rfl, key _ (Int.le_refl _) (.inl k2)⟩
    · have d : ∀ c, doesS c P o (doM m1 o).2 = (aPut P (doM m1 o).2.at_ ⟨chargeO c o, 0, []⟩, (doM m1 o).2) := by
        intro c; unfold doesS; rw [if_pos (by omega)]
      rw [d, d, hch]
      exact ⟨rfl, rfl, key 0 (by omega) (.inr rfl)⟩
  · exact absurd h h9
  · -- figures
    have e2 : (doM m2 o).1 = m2 := by
      unfold doM; rw [if_neg (by omega), if_neg h9, if_pos h10]
    have d : ∀ c a, doesS c P o a = (P, { a with pages := 0 }) := by
      intro c a; unfold doesS
      rw [if_neg (by omega), if_neg (by omega), if_neg (by omega), if_neg (by omega), if_neg (by omega), if_neg (by omega), if_pos h10]
    have e1 : (doM m1 o).1 = m1 := by rw [e]
    unfold maskA at hmask
    rw [if_neg (by omega), if_neg h9, if_pos h10, if_neg (by omega), if_neg h9, if_pos h10] at hmask
    rw [d, d, e1, e2]
    exact ⟨hmask.symm, rfl, al⟩
  · -- a block is asked about
    have hA2 : A < m2.bl.length := by rw [hbl]; exact hA
    have eA : m2.bl[A] = m1.bl[A] := by
      have : m2.bl[A]? = m1.bl[A]? := by rw [hbl]
      rw [List.getElem?_eq_getElem hA2, List.getElem?_eq_getElem hA] at this
      exact Option.some.inj this
    have hf2 : findB m2.bl o.p = some A := by rw [hbl]; exact hf
    have e2 : doM m2 o = ofM m2 o A m2.bl[A] := by
      unfold doM
      rw [if_neg (by omega), if_neg h9, if_neg (by omega), if_pos h4, hf2]
      dsimp only
      rw [getD_lt _ hA2]
    have hbA : m1.bl[A] ∈ m1.bl := List.getElem_mem hA
    have inA := al.i1.ok.bl _ hbA
    -- what the reader knows of it
    have kA : ∀ pb, aGet P o.p = some pb → KOk m1 m2 (o.p, pb) ∧ pb.ch = m1.bl[A].ch := by
      intro pb hp
      have k := al.k _ (aGet_mem hp)
      refine ⟨k, ?_⟩
      obtain ⟨b, b1, b2, b3, _⟩ := k
      rw [← same_block al.i1.srt pos1 b1 hbA (by rw [b2]; exact ha.symm)]
      exact b3.symm
    by_cases k4 : o.k = 4
    · have sm := same (by omega) (by omega)
      have ge := he
      have ge2 := he2
      rw [e] at ge
      rw [e2] at ge2
      obtain ⟨g1, _, ⟨ask, p1⟩, z1⟩ := realloc_out al.i1 o hA k4 ge
      obtain ⟨g2, _, ⟨_, p2⟩, z2⟩ := realloc_out al.i2 o hA2 k4 ge2
      rw [← e] at p1 z1
      rw [← e2] at p2 z2
      rw [sm] at p2 z2
      rw [hch] at p2 z2
      rw [eA, ha] at z2
      rw [ha] at z1
      have d : ∀ c, doesS c P o (doM m1 o).2 = (aPut (aDel P o.p) (doM m1 o).2.at_ (movedS (aGet P o.p) (chargeO c o)), (doM m1 o).2) := by
        intro c; unfold doesS; rw [if_neg (by omega), if_neg (by omega), if_pos k4]
      rw [sm, d, d, hch]
      refine ⟨rfl, rfl, hsim, j1, j2, (al.nd.del _).put, fun x hx => ?_⟩
      dsimp only at hx
      rcases aPut_mem hx with rfl | hx
      · have hnew : (⟨(doM m1 o).2.at_, chargeO m1.c o, ask⟩ : Blk) ∈ (doM m1 o).1.bl := by rw [p1.bl]; exact (putB_mem _ _ _).2 (.inl rfl)
        refine ⟨_, hnew, rfl, ?_, ?_, ?_, fun n n0 hn => ?_⟩
        · dsimp only; cases aGet P o.p <;> rfl
        · dsimp only
          cases aGet P o.p with
          | none => show (0 : Int) ≤ chargeO m1.c o; omega
          | some pb => show min pb.no (chargeO m1.c o) ≤ chargeO m1.c o; omega
        · dsimp only
          cases aGet P o.p with
          | none => intro n hn; cases hn
          | some pb =>
            intro n hn
            have hn : n ∈ pb.tl.filter fun n => decide (n < chargeO m1.c o) := hn
            have := (List.mem_filter.1 hn).2
            show n < chargeO m1.c o
            exact of_decide_eq_true this
        · dsimp only at hn ⊢
          cases hp : aGet P o.p with
          | none =>
            rw [hp] at hn
            have hn : (⟨chargeO m1.c o, 0, []⟩ : PB).knows n = true := hn
            rw [new_knows (by omega)] at hn; cases hn
          | some pb =>
            rw [hp] at hn
            obtain ⟨⟨b, _, _, _, b4, b5, b6⟩, kc⟩ := kA pb hp
            dsimp only at b4 b5 b6
            have hk : pb.knows n = true ∧ n < chargeO m1.c o := by
              have hn : (⟨chargeO m1.c o, min pb.no (chargeO m1.c o), pb.tl.filter fun n => decide (n < chargeO m1.c o)⟩ : PB).knows n = true := hn
              unfold PB.knows at hn ⊢
              rw [Bool.or_eq_true, decide_eq_true_eq] at hn ⊢
              dsimp only at hn
              rcases hn with h | h
              · exact ⟨.inl (by omega), by omega⟩
              · have h2 := List.mem_filter.1 (List.contains_iff_mem.1 h)
                exact ⟨.inr (List.contains_iff_mem.2 h2.1), by simpa using h2.2⟩
            have hlt := knows_lt b4 b5 hk.1
            rw [z1 n n0 hk.2 (by omega), z2 n n0 hk.2 (by omega)]
            exact b6 n n0 hk.1
      · obtain ⟨x1, x2⟩ := aDel_ne al.nd hx
        refine (al.k x x2).keep fun b hb hbx => ?_
        have hr : b ∈ m1.bl.take A ++ m1.bl.drop (A + 1) := by
          rcases mem_or_rest hA hb with rfl | h
          · exact absurd (hbx.symm.trans ha) x1
          · exact h
        have hr2 : b ∈ m2.bl.take A ++ m2.bl.drop (A + 1) := by rw [hbl]; exact hr
        exact ⟨by rw [p1.bl]; exact (putB_mem _ _ _).2 (.inr hr), p1.keep b hr (al.i1.on b hb), p2.keep b hr2 (al.i2.on b (mem_rest hr2))⟩
    · have ge := he
      rw [e] at ge
      rcases ofM_cases m1 o A m1.bl[A] (by omega) with ⟨k5, f1⟩ | ⟨k6, f1⟩ | ⟨k7, hn, f1⟩ | ⟨k8, hn, f1⟩ | h
      · -- it goes
        have sm := same (by omega) (by omega)
        have f2 : ofM m2 o A m2.bl[A] = ({ m2 with bl := m2.bl.take A ++ m2.bl.drop (A + 1), live := m2.live - m2.bl[A].ch }, errA 0) := by
          unfold ofM; dsimp only; rw [if_neg (by omega), if_pos k5]
        have d : ∀ c a, doesS c P o a = (aDel P o.p, a) := by
          intro c a; unfold doesS; rw [if_neg (by omega), if_neg (by omega), if_neg (by omega), if_pos k5]
        rw [sm, d, d]
        refine ⟨rfl, rfl, hsim, j1, j2, al.nd.del _, fun x hx => ?_⟩
        dsimp only at hx
        obtain ⟨x1, x2⟩ := aDel_ne al.nd hx
        refine (al.k x x2).keep fun b hb hbx => ?_
        have hr : b ∈ m1.bl.take A ++ m1.bl.drop (A + 1) := by
          rcases mem_or_rest hA hb with rfl | h
          · exact absurd (hbx.symm.trans ha) x1
          · exact h
        rw [e, f1, e2, f2]
        exact ⟨hr, fun _ _ _ => rfl, fun _ _ _ => rfl⟩
      · have sm := same (by omega) (by omega)
        have f2 : (ofM m2 o A m2.bl[A]).1 = m2 := by
          unfold ofM; dsimp only; rw [if_neg (by omega), if_neg (by omega), if_pos k6]
        have d : ∀ c a, doesS c P o a = (P, a) := by
          intro c a; unfold doesS; rw [if_neg (by omega), if_neg (by omega), if_neg (by omega), if_neg (by omega), if_neg (by omega), if_neg (by omega), if_neg (by omega)]
        rw [sm, d, d]
        rw [e, f1, e2, f2]
        exact ⟨rfl, rfl, al⟩
      · -- a byte is told
        have f2 : ofM m2 o A m2.bl[A] = (m2, ⟨0, 0, 0, m2.mem.getD (m2.bl[A].at_ + o.n).toNat 0, 0, 0, 0, 0⟩) := by
          unfold ofM; dsimp only; rw [if_neg (by omega), if_neg (by omega), if_neg (by omega), if_neg (by rw [eA]; omega), if_pos k7]
        have d : ∀ c a, doesS c P o a = (P, if knowsS P o.p o.n = true then a else { a with byte := 0 }) := by
          intro c a; unfold doesS; rw [if_neg (by omega), if_neg (by omega), if_neg (by omega), if_neg (by omega), if_neg (by omega), if_pos k7]
        rw [d, d]
        rw [e, f1, e2, f2]
        refine ⟨?_, rfl, al⟩
        dsimp only
        by_cases kn : knowsS P o.p o.n = true
        · rw [if_pos kn, if_pos kn]
          unfold knowsS at kn
          cases hp : aGet P o.p with
          | none => rw [hp] at kn; cases kn
          | some pb =>
            rw [hp] at kn
            obtain ⟨⟨b, _, _, _, _, _, b6⟩, _⟩ := kA pb hp
            have := b6 o.n hn.1 kn
            unfold byteAt at this
            dsimp only at this
            rw [eA, ha, this]
        · rw [if_neg kn, if_neg kn]
      · -- a byte is stored
        have sm := same (by omega) (by omega)
        have f2 : ofM m2 o A m2.bl[A] = ({ m2 with mem := m2.mem.set (m2.bl[A].at_ + o.n).toNat o.b }, errA 0) := by
          unfold ofM; dsimp only; rw [if_neg (by omega), if_neg (by omega), if_neg (by omega), if_neg (by rw [eA]; omega), if_neg (by omega)]
        have l1 := al.i1.ok.mem
        have l2 := al.i2.ok.mem
        have hH : m2.c.H = m1.c.H := by rw [al.s.c]
        rw [eA] at e2
        rw [eA, ha] at f2
        rw [ha] at f1
        have by1 : ∀ a n, byteAt (doM m1 o).1 a n = if (a + n).toNat = (o.p + o.n).toNat then o.b else byteAt m1 a n := by
          intro a n; rw [e, f1]; unfold byteAt; dsimp only; rw [set_getD (by omega)]
        have by2 : ∀ a n, byteAt (doM m2 o).1 a n = if (a + n).toNat = (o.p + o.n).toNat then o.b else byteAt m2 a n := by
          intro a n; rw [e2, f2]; unfold byteAt; dsimp only; rw [set_getD (by omega)]
        have b1 : (doM m1 o).1.bl = m1.bl := by rw [e, f1]
        have kk : ∀ x ∈ P, KOk (doM m1 o).1 (doM m2 o).1 x := by
          intro x hx
          obtain ⟨b, c1, c2, c3, c4, c5, c6⟩ := al.k x hx
          refine ⟨b, by rw [b1]; exact c1, c2, c3, c4, c5, fun n n0 hn => ?_⟩
          rw [by1, by2, c6 n n0 hn]
        have d : ∀ c a, doesS c P o a = (match aGet P o.p with
            | some b => if b.knows o.n = true then (P, a) else (aPut P o.p { b with tl := b.tl ++ [o.n] }, a)
            | none => (P, a)) := by
          intro c a; unfold doesS; (rw [if_neg (by omega), if_neg (by omega), if_neg (by omega), if_neg (by omega), if_pos k8]) <;> rfl
        rw [sm, d, d]
        cases hp : aGet P o.p with
        | none => exact ⟨rfl, rfl, hsim, j1, j2, al.nd, kk⟩
        | some pb =>
          dsimp only
          by_cases kn : pb.knows o.n = true
          · rw [if_pos kn]; exact ⟨rfl, rfl, hsim, j1, j2, al.nd, kk⟩
          · rw [if_neg kn]
            refine ⟨rfl, rfl, hsim, j1, j2, al.nd.put, fun x hx => ?_⟩
            dsimp only at hx
            rcases aPut_mem hx with rfl | hx
            · obtain ⟨⟨b, c1, c2, c3, c4, c5, c6⟩, kc⟩ := kA pb hp
              dsimp only at c2 c3 c4 c5 c6
              refine ⟨b, by rw [b1]; exact c1, c2, c3, c4, fun n hn => ?_, fun n n0 hn => ?_⟩
              · rcases List.mem_append.1 hn with h | h
                · exact c5 n h
                · simp at h; subst h; dsimp only; omega
              · dsimp only at hn ⊢
                rw [by1, by2]
                by_cases hq : (o.p + n).toNat = (o.p + o.n).toNat
                · rw [if_pos hq, if_pos hq]
                · rw [if_neg hq, if_neg hq]
                  refine c6 n n0 ?_
                  unfold PB.knows at hn ⊢
                  rw [Bool.or_eq_true] at hn ⊢
                  rcases hn with h | h
                  · exact .inl h
                  · right
                    rcases List.mem_append.1 (List.contains_iff_mem.1 h) with h | h
                    · exact List.contains_iff_mem.2 h
                    · simp at h; subst h; exact absurd rfl hq
            · exact kk x hx
      · exact absurd ge h
  · exact absurd he h
theorem alike_fail {m1 m2 : Mod} {P : List (Int × PB)} (al : Alike m1 m2 P) (o : OpV) : ((doM m1 o).2.err = 0 ↔ (doM m2 o).2.err = 0) := by
  obtain ⟨hmask, _⟩ := sim_do al.s o
  have : (maskA o (doM m2 o).2).err = (maskA o (doM m1 o).2).err := by rw [hmask]
  have e : ∀ a, (maskA o a).err = a.err := by
    intro a; unfold maskA
    by_cases z7 : o.k = 7
    · rw [if_pos z7]
    · rw [if_neg z7]
      by_cases z9 : o.k = 9
      · rw [if_pos z9]
      · rw [if_neg z9]
        by_cases z10 : o.k = 10
        · rw [if_pos z10]
        · rw [if_neg z10]
  rw [e, e] at this
  rw [this]
/-- All but Trims. -/
def noTrim (l : List OpV) : List OpV := l.filter fun o => decide (o.k ≠ 9)
theorem plainS_cons (c : Cf) (P : List (Int × PB)) (o : OpV) (l : List OpV) (a : AnsV) (az : List AnsV) : plainS c P (o :: l) (a :: az) = if a.err = 0 ∧ o.k ≠ 9 then (doesS c P o a).2 :: plainS c (doesS c P o a).1 l az else plainS c P l az := rfl
/-- Trims left out of the second. -/
theorem alike_trims (allM : Mod → List OpV → Mod × List AnsV) (hn : ∀ m, allM m [] = (m, [])) (hc : ∀ m o l, allM m (o :: l) = ((allM (doM m o).1 l).1, (doM m o).2 :: (allM (doM m o).1 l).2)) (c : Cf) :
    ∀ (ops : List OpV) (m1 m2 : Mod) (P : List (Int × PB)), Alike m1 m2 P → m1.c = c → plainS c P ops (allM m1 ops).2 = plainS m2.c P (noTrim ops) (allM m2 (noTrim ops)).2
  | [], m1, m2, P, al, h => by
    unfold noTrim
    rw [List.filter_nil, hn, hn]; rfl
  | o :: ops, m1, m2, P, al, h => by
    have c1 := (doM_ok al.i1.ok o).2
    have c2 := (doM_ok al.i2.ok o).2
    unfold noTrim
    rw [List.filter_cons]
    by_cases h9 : o.k = 9
    · rw [if_neg (by simp [h9]), hc, plainS_cons, if_neg (fun e => e.2 h9)]
      exact alike_trims allM hn hc c ops _ m2 P (al.trim1 h9) (c1.trans h)
    · rw [if_pos (by simp [h9]), hc, hc, plainS_cons, plainS_cons]
      by_cases he : (doM m1 o).2.err = 0
      · have he2 := (alike_fail al o).1 he
        obtain ⟨a1, a2, a3⟩ := alike_do al o he h9
        rw [if_pos ⟨he, h9⟩, if_pos ⟨he2, h9⟩]
        rw [h] at a1 a2 a3
        rw [a1, ← a2]
        have ih := alike_trims allM hn hc c ops _ _ _ a3 (c1.trans h)
        rw [c2] at ih
        rw [ih]; rfl
      · have he2 : ¬ (doM m2 o).2.err = 0 := fun e => he ((alike_fail al o).2 e)
        rw [if_neg (fun e => he e.1), if_neg (fun e => he2 e.1), doM_fail m1 o he, doM_fail m2 o he2]
        exact alike_trims allM hn hc c ops m1 m2 P al h
/-- Both, the same calls. -/
theorem alike_both (allM : Mod → List OpV → Mod × List AnsV) (hn : ∀ m, allM m [] = (m, [])) (hc : ∀ m o l, allM m (o :: l) = ((allM (doM m o).1 l).1, (doM m o).2 :: (allM (doM m o).1 l).2)) :
    ∀ (ops : List OpV) (m1 m2 : Mod) (P : List (Int × PB)), Alike m1 m2 P → plainS m1.c P ops (allM m1 ops).2 = plainS m2.c P ops (allM m2 ops).2
  | [], m1, m2, P, al => by rw [hn, hn]; rfl
  | o :: ops, m1, m2, P, al => by
    have c1 := (doM_ok al.i1.ok o).2
    have c2 := (doM_ok al.i2.ok o).2
    rw [hc, hc, plainS_cons, plainS_cons]
    by_cases h9 : o.k = 9
    · rw [if_neg (fun e => e.2 h9), if_neg (fun e => e.2 h9)]
      have ih := alike_both allM hn hc ops _ _ P ((al.trim1 h9).trim2 h9)
      rw [c1, c2] at ih
      exact ih
    · by_cases he : (doM m1 o).2.err = 0
      · have he2 := (alike_fail al o).1 he
        obtain ⟨a1, a2, a3⟩ := alike_do al o he h9
        rw [if_pos ⟨he, h9⟩, if_pos ⟨he2, h9⟩, a1, ← a2]
        have ih := alike_both allM hn hc ops _ _ _ a3
        rw [c1, c2] at ih
        rw [ih]
      · have he2 : ¬ (doM m2 o).2.err = 0 := fun e => he ((alike_fail al o).2 e)
        rw [if_neg (fun e => he e.1), if_neg (fun e => he2 e.1), doM_fail m1 o he, doM_fail m2 o he2]
        exact alike_both allM hn hc ops m1 m2 P al
end Go.Proofs.D.S
/- The reference and the program tell the same of a run. -/
set_option linter.unusedVariables false
namespace Go.Proofs.D.S
open Go Go.RowKit
/-- The same is known of a block. -/
def KE (pb : PB) (has : List Bool) : Prop := (has.length : Int) = pb.ch ∧ ∀ n : Nat, n < has.length → has.getD n false = pb.knows (n : Int)
structure SR (m : Mod) (P : List (Int × PB)) (R : List (Int × List Bool)) : Prop where
  al : Alike m m P
  all : ∀ b ∈ m.bl, aGet P b.at_ ≠ none
  nd : NoDup R
  eq : ∀ a, (aGet P a = none ∧ aGet R a = none) ∨ ∃ pb has, aGet P a = some pb ∧ aGet R a = some has ∧ KE pb has
theorem SR.ne {m : Mod} {P : List (Int × PB)} {R : List (Int × List Bool)} (s : SR m P R) {a : Int} (h : ∀ b ∈ m.bl, b.at_ ≠ a) : aGet P a = none ∧ aGet R a = none := by
  rcases s.eq a with h1 | ⟨pb, has, h1, _, _⟩
  · exact h1
  · obtain ⟨b, b1, b2, _⟩ := s.al.k _ (aGet_mem h1)
    exact absurd b2 (h b b1)
theorem SR.put {m' : Mod} {P : List (Int × PB)} {R : List (Int × List Bool)} {a : Int} {pb : PB} {has : List Bool} (hal : Alike m' m' (aPut P a pb)) (hall : ∀ b ∈ m'.bl, b.at_ = a ∨ aGet P b.at_ ≠ none) (nd : NoDup R)
    (eq : ∀ x, x ≠ a → (aGet P x = none ∧ aGet R x = none) ∨ ∃ pb has, aGet P x = some pb ∧ aGet R x = some has ∧ KE pb has) (k : KE pb has) : SR m' (aPut P a pb) (aPut R a has) := by
  refine ⟨hal, fun b hb => ?_, nd.put, fun x => ?_⟩
  · rw [aGet_put]
    rcases hall b hb with h | h
    · rw [if_pos h]; simp
    · split
      · simp
      · exact h
  · rw [aGet_put, aGet_put]
    by_cases h : x = a
    · rw [if_pos h, if_pos h]; exact .inr ⟨_, _, rfl, rfl, k⟩
    · rw [if_neg h, if_neg h]; exact eq x h
theorem free_ne {l : List Blk} {a n : Int} (hn : 1 ≤ n) (hc : ∀ b ∈ l, 1 ≤ b.ch) (f : freeB l a n = true) : ∀ b ∈ l, b.at_ ≠ a := by
  intro b hb e
  have := freeB_apart f b hb
  have := hc b hb
  omega
theorem charged_many {m : Mod} {o : OpV} (h2 : o.k = 2) (h : (giveM m o).2.err = 0) : (productS m.c.N o.n o.s).2 = 0 := by
  refine Decidable.byContradiction fun hne => ?_
  unfold giveM manyS at h
  simp only [if_pos h2, if_neg hne] at h
  exact hne h
theorem same_step {m : Mod} {P : List (Int × PB)} {R : List (Int × List Bool)} (s : SR m P R) (o : OpV) (he : (doM m o).2.err = 0) (h9 : o.k ≠ 9) :
    (doesS m.c P o (doM m o).2).2 = (doesR m.c R o (doM m o).2).2 ∧ SR (doM m o).1 (doesS m.c P o (doM m o).2).1 (doesR m.c R o (doM m o).2).1 ∧
      ((o.k = 1 ∨ o.k = 3 ∨ o.k = 2) → aGet R (doM m o).2.at_ = none) ∧ (o.k = 4 → aGet (aDel R o.p) (doM m o).2.at_ = none) := by
  obtain ⟨_, _, al'⟩ := alike_do s.al o he h9
  have i := s.al.i1
  have posb : ∀ b ∈ m.bl, 1 ≤ b.ch := fun b hb => (i.ok.bl b hb).2.1
  rcases doM_cases m o with ⟨h1, e⟩ | ⟨h, _⟩ | ⟨h10, e⟩ | ⟨h4, A, hA, hf, ha, e⟩ | h
  · have ge := he
    rw [e] at ge
    obtain ⟨g1, _, ⟨ask, p1⟩, _⟩ := give_out i o h1 ge
    rw [← e] at p1
    have fr := free_ne g1 posb p1.free
    obtain ⟨n1, n2⟩ := s.ne fr
    have ch : (chargedR m.c o).1 = chargeO m.c o := by
      unfold chargedR chargeO
      by_cases k2 : o.k = 2
      · rw [if_neg (by omega), if_neg (by omega), if_pos k2, if_pos k2, if_pos (charged_many k2 ge)]
      · by_cases k3 : o.k = 3
        · rw [if_neg (by omega), if_pos k3, if_neg k2, if_pos k3]
        · rw [if_pos (by omega), if_neg k2, if_neg k3]
    have hall : ∀ b ∈ (doM m o).1.bl, b.at_ = (doM m o).2.at_ ∨ aGet P b.at_ ≠ none := by
      intro b hb
      rw [p1.bl] at hb
      rcases (putB_mem _ _ _).1 hb with rfl | hb
      · exact .inl rfl
      · exact .inr (s.all b hb)
    have dR : doesR m.c R o (doM m o).2 = (aPut R (doM m o).2.at_ (tab (chargeO m.c o).toNat fun _ => decide (o.k = 2)), (doM m o).2) := by
      unfold doesR; rw [if_pos (by omega), ch]
    have et : (((chargeO m.c o).toNat : Nat) : Int) = chargeO m.c o := Int.toNat_of_nonneg (by omega)
    rw [dR]
    by_cases k2 : o.k = 2
    · have d : doesS m.c P o (doM m o).2 = (aPut P (doM m o).2.at_ ⟨chargeO m.c o, chargeO m.c o, []⟩, (doM m o).2) := by
        unfold doesS; rw [if_neg (by omega), if_pos k2]
      rw [d] at al' ⊢
      refine ⟨rfl, SR.put al' hall s.nd (fun x _ => s.eq x) ⟨by rw [tab_len]; exact et, fun n hn => ?_⟩, fun _ => n2, fun h => by omega⟩
      rw [tab_len] at hn
      rw [tab_getD false hn, decide_eq_true k2]
      unfold PB.knows
      rw [decide_eq_true (by dsimp only; omega)]; rfl
    · have d : doesS m.c P o (doM m o).2 = (aPut P (doM m o).2.at_ ⟨chargeO m.c o, 0, []⟩, (doM m o).2) := by
        unfold doesS; rw [if_pos (by omega)]
      rw [d] at al' ⊢
      refine ⟨rfl, SR.put al' hall s.nd (fun x _ => s.eq x) ⟨by rw [tab_len]; exact et, fun n hn => ?_⟩, fun _ => n2, fun h => by omega⟩
      rw [tab_len] at hn
      rw [tab_getD false hn, decide_eq_false k2, new_knows (by omega)]
  · exact absurd h h9
  · have e1 : (doM m o).1 = m := by rw [e]
    have d : ∀ a, doesS m.c P o a = (P, { a with pages := 0 }) := by
      intro a; unfold doesS
      rw [if_neg (by omega), if_neg (by omega), if_neg (by omega), if_neg (by omega), if_neg (by omega), if_neg (by omega), if_pos h10]
    have dR : ∀ a, doesR m.c R o a = (R, { a with pages := 0 }) := by
      intro a; unfold doesR
      rw [if_neg (by omega), if_neg (by omega), if_neg (by omega), if_neg (by omega), if_pos h10]
    rw [d, dR, e1]
    exact ⟨rfl, s, fun h => by omega, fun h => by omega⟩
  · have hbA : m.bl[A] ∈ m.bl := List.getElem_mem hA
    -- what is known of it
    obtain ⟨pb, has, hp, hr, ke⟩ : ∃ pb has, aGet P o.p = some pb ∧ aGet R o.p = some has ∧ KE pb has := by
      rcases s.eq o.p with ⟨h1, _⟩ | h1
      · have := s.all _ hbA
        rw [ha] at this
        exact absurd h1 this
      · exact h1
    obtain ⟨b, b1, b2, b3, b4, b5, _⟩ := s.al.k _ (aGet_mem hp)
    dsimp only at b2 b3 b4 b5
    have bA : b = m.bl[A] := same_block i.srt posb b1 hbA (by rw [b2, ha])
    have chA : pb.ch = m.bl[A].ch := by rw [← bA, b3]
    by_cases k4 : o.k = 4
    · have ge := he
      rw [e] at ge
      obtain ⟨g1, _, ⟨ask, p1⟩, _⟩ := realloc_out i o hA k4 ge
      rw [← e] at p1
      have fr := free_ne g1 (fun b hb => posb b (mem_rest hb)) p1.free
      have ch : (chargedR m.c o).1 = chargeO m.c o := by
        unfold chargedR chargeO
        rw [if_pos (by omega), if_neg (by omega), if_neg (by omega)]
      have et : (((chargeO m.c o).toNat : Nat) : Int) = chargeO m.c o := Int.toNat_of_nonneg (by omega)
      have dR : doesR m.c R o (doM m o).2 = (aPut (aDel R o.p) (doM m o).2.at_ (tab (chargeO m.c o).toNat fun k => has.getD k false), (doM m o).2) := by
        unfold doesR; rw [if_neg (by omega), if_pos (by omega), hr]; dsimp only; rw [if_pos k4, ch]
      have d : doesS m.c P o (doM m o).2 = (aPut (aDel P o.p) (doM m o).2.at_ (movedS (some pb) (chargeO m.c o)), (doM m o).2) := by
        unfold doesS; rw [if_neg (by omega), if_neg (by omega), if_pos k4, hp]
      have eqd : ∀ x, (aGet (aDel P o.p) x = none ∧ aGet (aDel R o.p) x = none) ∨ ∃ pb has, aGet (aDel P o.p) x = some pb ∧ aGet (aDel R o.p) x = some has ∧ KE pb has := by
        intro x
        rw [aGet_del s.al.nd, aGet_del s.nd]
        by_cases hx : x = o.p
        · rw [if_pos hx, if_pos hx]; exact .inl ⟨rfl, rfl⟩
        · rw [if_neg hx, if_neg hx]; exact s.eq x
      rw [d] at al' ⊢
      rw [dR]
      refine ⟨rfl, SR.put al' (fun b hb => ?_) (s.nd.del _) (fun x _ => eqd x) ⟨by rw [tab_len]; exact et, fun n hn => ?_⟩, fun h => by omega, fun _ => ?_⟩
      · rw [p1.bl] at hb
        rcases (putB_mem _ _ _).1 hb with rfl | hb
        · exact .inl rfl
        · right
          have hne : b.at_ ≠ o.p := by
            have sr := (rest_perm hA).pairwise_iff (R := fun a b : Blk => a.at_ ≠ b.at_) (fun {a b} h => Ne.symm h)
            have hp := sr.1 (i.srt.imp_of_mem fun {a b} hm hb h => by have := posb a hm; omega)
            have := (List.pairwise_cons.1 hp).1 b hb
            rw [ha] at this
            exact fun h => this h.symm
          rw [aGet_del s.al.nd, if_neg hne]
          exact s.all b (mem_rest hb)
      · rw [tab_len] at hn
        rw [tab_getD false hn]
        have e1 : (movedS (some pb) (chargeO m.c o)).knows (n : Int) = pb.knows (n : Int) := by
          show (decide ((n : Int) < min pb.no (chargeO m.c o)) || (pb.tl.filter fun n => decide (n < chargeO m.c o)).contains (n : Int)) = (decide ((n : Int) < pb.no) || pb.tl.contains (n : Int))
          have c1 : (decide ((n : Int) < min pb.no (chargeO m.c o))) = decide ((n : Int) < pb.no) := decide_eq_decide.2 (by omega)
          have c2 : (pb.tl.filter fun n => decide (n < chargeO m.c o)).contains (n : Int) = pb.tl.contains (n : Int) := by
            rw [Bool.eq_iff_iff, List.contains_iff_mem, List.contains_iff_mem, List.mem_filter]
            exact ⟨fun h => h.1, fun h => ⟨h, decide_eq_true (by omega)⟩⟩
          rw [c1, c2]
        rw [e1]
        by_cases hl : n < has.length
        · exact ke.2 n hl
        · have : has.getD n false = false := by rw [List.getD_eq_getElem?_getD, List.getElem?_eq_none (by omega)]; rfl
          rw [this]
          cases hk : pb.knows (n : Int) with
          | false => rfl
          | true =>
            have := knows_lt b4 b5 hk
            have := ke.1
            omega
      · rw [aGet_del s.nd]
        by_cases hx : (doM m o).2.at_ = o.p
        · rw [if_pos hx]
        · rw [if_neg hx]
          refine (s.ne fun b hb hbe => ?_).2
          rcases mem_or_rest hA hb with rfl | hr
          · exact hx (hbe.symm.trans ha)
          · exact fr b hr hbe
    · have ge := he
      rw [e] at ge
      rcases ofM_cases m o A m.bl[A] (by omega) with ⟨k5, f1⟩ | ⟨k6, f1⟩ | ⟨k7, hn, f1⟩ | ⟨k8, hn, f1⟩ | h
      · have d : doesS m.c P o (doM m o).2 = (aDel P o.p, (doM m o).2) := by
          unfold doesS; rw [if_neg (by omega), if_neg (by omega), if_neg (by omega), if_pos k5]
        have dR : doesR m.c R o (doM m o).2 = (aDel R o.p, (doM m o).2) := by
          unfold doesR; rw [if_neg (by omega), if_pos (by omega), hr]; dsimp only; rw [if_neg k4]
        rw [d] at al' ⊢
        rw [dR]
        refine ⟨rfl, ⟨al', fun b hb => ?_, s.nd.del _, fun x => ?_⟩, fun h => by omega, fun h => by omega⟩
        · rw [e, f1] at hb
          have hne : b.at_ ≠ o.p := by
            have sr := (rest_perm hA).pairwise_iff (R := fun a b : Blk => a.at_ ≠ b.at_) (fun {a b} h => Ne.symm h)
            have hp := sr.1 (i.srt.imp_of_mem fun {a b} hm hb h => by have := posb a hm; omega)
            have := (List.pairwise_cons.1 hp).1 b hb
            rw [ha] at this
            exact fun h => this h.symm
          rw [aGet_del s.al.nd, if_neg hne]
          exact s.all b (mem_rest hb)
        · rw [aGet_del s.al.nd, aGet_del s.nd]
          by_cases hx : x = o.p
          · rw [if_pos hx, if_pos hx]; exact .inl ⟨rfl, rfl⟩
          · rw [if_neg hx, if_neg hx]; exact s.eq x
      · have d : doesS m.c P o (doM m o).2 = (P, (doM m o).2) := by
          unfold doesS; rw [if_neg (by omega), if_neg (by omega), if_neg (by omega), if_neg (by omega), if_neg (by omega), if_neg (by omega), if_neg (by omega)]
        have dR : doesR m.c R o (doM m o).2 = (R, (doM m o).2) := by
          unfold doesR; rw [if_neg (by omega), if_neg (by omega), if_neg (by omega), if_neg (by omega), if_neg (by omega)]
        rw [d, dR, e, f1]
        exact ⟨rfl, s, fun h => by omega, fun h => by omega⟩
      · have d : ∀ a, doesS m.c P o a = (P, if knowsS P o.p o.n = true then a else { a with byte := 0 }) := by
          intro a; unfold doesS; rw [if_neg (by omega), if_neg (by omega), if_neg (by omega), if_neg (by omega), if_neg (by omega), if_pos k7]
        have dR : ∀ a, doesR m.c R o a = (R, if 0 ≤ o.n ∧ o.n < has.length ∧ has.getD o.n.toNat false = true then a else { a with byte := 0 }) := by
          intro a; unfold doesR; rw [if_neg (by omega), if_neg (by omega), if_neg (by omega), if_pos k7, hr]
        rw [d, dR, e, f1]
        refine ⟨?_, s, fun h => by omega, fun h => by omega⟩
        have kl := ke.1
        have kn := ke.2 o.n.toNat (by omega)
        rw [Int.toNat_of_nonneg hn.1] at kn
        have ks : knowsS P o.p o.n = pb.knows o.n := by unfold knowsS; rw [hp]
        dsimp only
        rw [ks, kn]
        by_cases hk : pb.knows o.n = true
        · rw [if_pos hk, if_pos ⟨hn.1, by omega, hk⟩]
        · rw [if_neg hk, if_neg (fun h => hk h.2.2)]
      · have d : doesS m.c P o (doM m o).2 = if pb.knows o.n = true then (P, (doM m o).2) else (aPut P o.p { pb with tl := pb.tl ++ [o.n] }, (doM m o).2) := by
          unfold doesS; rw [if_neg (by omega), if_neg (by omega), if_neg (by omega), if_neg (by omega), if_pos k8, hp]
        have kl := ke.1
        have dR : doesR m.c R o (doM m o).2 = (aPut R o.p (has.set o.n.toNat true), (doM m o).2) := by
          unfold doesR; rw [if_neg (by omega), if_neg (by omega), if_pos k8, hr]; dsimp only; rw [if_pos ⟨hn.1, by omega⟩]
        have bl' : (doM m o).1.bl = m.bl := by rw [e, f1]
        have getset : ∀ n : Nat, (has.set o.n.toNat true).getD n false = if n = o.n.toNat then true else has.getD n false := by
          intro n
          rw [List.getD_eq_getElem?_getD, List.getD_eq_getElem?_getD]
          by_cases hx : n = o.n.toNat
          · subst hx; rw [if_pos rfl, List.getElem?_set_self (by omega)]; rfl
          · rw [if_neg hx, List.getElem?_set_ne (fun h => hx h.symm)]
        rw [d] at al' ⊢
        rw [dR]
        by_cases hk : pb.knows o.n = true
        · rw [if_pos hk] at al' ⊢
          refine ⟨rfl, ⟨al', fun b hb => by rw [bl'] at hb; exact s.all b hb, s.nd.put, fun x => ?_⟩, fun h => by omega, fun h => by omega⟩
          dsimp only
          rw [aGet_put]
          by_cases hx : x = o.p
          · rw [if_pos hx, hx]
            refine .inr ⟨pb, _, hp, rfl, by rw [List.length_set]; exact ke.1, fun n hl => ?_⟩
            rw [List.length_set] at hl
            rw [getset]
            by_cases hn2 : n = o.n.toNat
            · rw [if_pos hn2, hn2, Int.toNat_of_nonneg hn.1, hk]
            · rw [if_neg hn2]; exact ke.2 n hl
          · rw [if_neg hx]; exact s.eq x
        · rw [if_neg hk] at al' ⊢
          refine ⟨rfl, SR.put al' (fun b hb => .inr (by rw [bl'] at hb; exact s.all b hb)) s.nd (fun x _ => s.eq x) ⟨by rw [List.length_set]; exact ke.1, fun n hl => ?_⟩, fun h => by omega, fun h => by omega⟩
          rw [List.length_set] at hl
          rw [getset]
          have e1 : (⟨pb.ch, pb.no, pb.tl ++ [o.n]⟩ : PB).knows (n : Int) = (pb.knows (n : Int) || decide ((n : Int) = o.n)) := by
            unfold PB.knows
            dsimp only
            rw [Bool.eq_iff_iff, Bool.or_eq_true, Bool.or_eq_true, Bool.or_eq_true, List.contains_iff_mem, List.contains_iff_mem, List.mem_append, List.mem_singleton, decide_eq_true_eq, decide_eq_true_eq, or_assoc]
          rw [e1]
          by_cases hn2 : n = o.n.toNat
          · rw [if_pos hn2, decide_eq_true (by omega), Bool.or_true]
          · rw [if_neg hn2, decide_eq_false (by omega), Bool.or_false]; exact ke.2 n hl
      · exact absurd ge h
  · exact absurd he h
theorem same_run (allM : Mod → List OpV → Mod × List AnsV) (hn : ∀ m, allM m [] = (m, [])) (hc : ∀ m o l, allM m (o :: l) = ((allM (doM m o).1 l).1, (doM m o).2 :: (allM (doM m o).1 l).2)) (c : Cf) :
    ∀ (ops : List OpV) (m : Mod) (P : List (Int × PB)) (R : List (Int × List Bool)), SR m P R → m.c = c → plainS c P ops (allM m ops).2 = plainR c R ops (allM m ops).2 ∧ RunOk c R ops (allM m ops).2
  | [], m, P, R, s, h => by rw [hn]; exact ⟨rfl, trivial⟩
  | o :: ops, m, P, R, s, h => by
    have c1 := (doM_ok s.al.i1.ok o).2
    rw [hc]
    simp only [plainS, plainR, RunOk]
    by_cases h9 : o.k = 9
    · rw [if_neg (fun e => e.2 h9), if_neg (fun e => e.2 h9), if_neg (fun e => e.2 h9)]
      refine same_run allM hn hc c ops _ P R ⟨(s.al.trim1 h9).trim2 h9, fun b hb => ?_, s.nd, s.eq⟩ (c1.trans h)
      have e : (doM m o).1.bl = m.bl := by unfold doM; rw [if_neg (by omega), if_pos h9]
      rw [e] at hb
      exact s.all b hb
    · by_cases he : (doM m o).2.err = 0
      · obtain ⟨a1, a2, a3, a4⟩ := same_step s o he h9
        rw [if_pos ⟨he, h9⟩, if_pos ⟨he, h9⟩, if_pos ⟨he, h9⟩]
        rw [h] at a1 a2
        obtain ⟨i1, i2⟩ := same_run allM hn hc c ops _ _ _ a2 (c1.trans h)
        exact ⟨by rw [a1, i1], a3, a4, i2⟩
      · rw [if_neg (fun e => he e.1), if_neg (fun e => he e.1), if_neg (fun e => he e.1), doM_fail m o he]
        exact same_run allM hn hc c ops m P R s h
end Go.Proofs.D.S
/- SameAll: whatever the numbers, the law answers yes. -/
set_option linter.unusedVariables false
set_option linter.unusedSimpArgs false
namespace Go.Proofs.D.S
open Go Go.RowKit
theorem hodmanlaw24_begun.sp4 {G : GH} (hG : Beg4 G) : ∃ G', CW hodmanlaw24_begun.id [] G = some ([.c (.bool true)], G') ∧ From G G' :=
  beg_run4 90 (by intro a b c d; kernel_rfl) hG
theorem plainS_len (C : Cf) : ∀ (ops : List OpV) (az : List AnsV) (P : List (Int × PB)), (plainS C P ops az).length ≤ ops.length
  | [], az, P => by unfold plainS; simp
  | o :: os, [], P => by unfold plainS; simp
  | o :: os, a :: az, P => by
    simp only [plainS]
    split
    · simp only [List.length_cons]; have := plainS_len C os az (doesS C P o a).1; omega
    · have := plainS_len C os az P; simp only [List.length_cons]; omega
theorem plainP_len (C : Cf) (ops : List OpV) (az : List AnsV) : (plainP C ops az).length ≤ ops.length := by
  unfold plainP
  split
  · exact plainS_len C ops az []
  · simp
theorem hodmanlaw24_SameAll.law {G : GH} (hG : Beg4 G) {id : Nat} {xs : List Int} (hs : Sl G eU8 id 0 xs) (hb : Bytes xs) {id2 : Nat} {ys : List Int} (hs2 : Sl G eU8 id2 0 ys) (hb2 : Bytes ys) {id3 : Nat} {us : List AnsV} (hs3 : Sl G eAns id3 0 us) {id4 : Nat} {vs : List AnsV} (hs4 : Sl G eAns id4 0 vs) {cut : Int} (hcut : 0 ≤ cut ∧ cut ≤ 255) :
    OkT (CW hodmanlaw24_SameAll.id [.c (.sl 1 id 0 xs.length), .c (.sl 1 id2 0 ys.length), .c (.sl 8 id3 0 us.length), .c (.sl 8 id4 0 vs.length), .c (.int .u8 cut)] G) := by
  obtain ⟨G1, e1, f1⟩ := hodmanlaw24_begun.sp4 hG
  rw [hodmanlaw24_SameAll.cw]
  unfold hodmanlaw24_SameAll.f
  simp only [e1, q_bs, q_I, q_B, q_P, q_S, q_M, q_c, q_a, q_gz, q_gs, q_gk, q_ct, q_cf, q_nt, q_nf, q_xt, q_xf, q_tt, q_ff, q_tf, q_ft, q_at, q_af]
  by_cases h6 : (xs.length : Int) > 6
  · rw [condD_pos h6, hodmanlaw24_SameAll.J13_eq, q_ct]; exact ⟨_, rfl⟩
  rw [condD_neg h6]
  by_cases h40 : (ys.length : Int) > 200
  · rw [condD_pos h40, hodmanlaw24_SameAll.J13_eq, q_ct]; exact ⟨_, rfl⟩
  rw [condD_neg h40]
  by_cases hu10 : (us.length : Int) > 10
  · rw [condD_pos hu10, hodmanlaw24_SameAll.J13_eq, q_ct]; exact ⟨_, rfl⟩
  rw [condD_neg hu10, hodmanlaw24_SameAll.J13_eq]
  by_cases hv10 : (vs.length : Int) > 10
  · rw [condD_pos hv10]; exact ⟨_, rfl⟩
  rw [condD_neg hv10]
  have h0 := Hp.refl f1.wf
  have p0 : PkOk G1 [] id 0 xs.length xs := ⟨.old (f1.sl _ _ _ _ hs), hb, rfl, by omega⟩
  obtain ⟨pid, G2, e2, h2⟩ := hodmanplay_Made.sp h0 id 0 xs.length
  obtain ⟨r, j, G3, e3, h3, rok, _, _⟩ := hodmanplay_Picks_Raw.sp h2 p0 (by omega) (by omega) false
  simp only [e2, e3, q_bs, q_I, q_B, q_P, q_S, q_M, q_c, q_a, q_gz, q_gs, q_gk, q_ct, q_cf, q_nt, q_nf, q_xt, q_xf, q_tt, q_ff, q_tf, q_ft, q_at, q_af, List.length_cons, List.length_nil, if_true]
  obtain ⟨g0, c0, q0, sm⟩ := rok.cfSmall
  have hof := rok.ofC
  have sl2 : Sl G3 eU8 id2 0 ys := (f1.sl _ _ _ _ hs2).keep h3
  have sl3 : Sl G3 eAns id3 0 us := (f1.sl _ _ _ _ hs3).keep h3
  have sl4 : Sl G3 eAns id4 0 vs := (f1.sl _ _ _ _ hs4).keep h3
  have hw := h3.wf
  have hpl : ys.length ≤ 200 := by omega
  clear e1 e2 e3 h3 h2 p0 h0
  have ok := sm.ok
  obtain ⟨oi, mi, G4, e4, h4, s4, no, nm⟩ := hodmanref17_New.spV hw hof ok
  rw [e4]
  clear e4 sm rok
  generalize cfOf r = C at *
  have fs := ok.facts
  simp only [q_bs, q_I, q_B, q_P, q_S, q_M, q_c, q_a, q_gz, q_gs, q_gk, q_ct, q_cf, q_nt, q_nf, q_xt, q_xf, q_tt, q_ff, q_tf, q_ft, q_at, q_af, List.length_cons, List.length_nil, if_true, decide_true]
  have hm : (1000000001 : Nat) ≤ most := by unfold most; decide
  obtain ⟨pd, G5, e5, h5⟩ := hodmanplay_Made.sp (Hp.refl h4.wf) id2 0 ys.length
  have pp : PkOk G4 [] id2 0 ys.length ys := ⟨.old (sl2.keep h4), hb2, rfl, by omega⟩
  rw [e5]
  simp only [q_bs, q_I, q_B, q_P, q_S, q_M, q_c, q_a, q_gz, q_gs, q_gk, q_ct, q_cf, q_nt, q_nf, q_xt, q_xf, q_tt, q_ff, q_tf, q_ft, q_at, q_af]
  obtain ⟨oid, ops, j6, G6, e6, h6', hops, hol⟩ := hodmanplay_Picks_Ops.sp h5 pp (by omega) (by omega) hof ok (A := 60) (by omega)
  rw [e6]
  simp only [q_bs, q_I, q_B, q_P, q_S, q_M, q_c, q_a, q_gz, q_gs, q_gk, q_ct, q_cf, q_nt, q_nf, q_xt, q_xf, q_tt, q_ff, q_tf, q_ft, q_at, q_af]
  have okm := newM_ok ok
  have hin : ∀ o ∈ ops, R64 o.s ∧ R64 o.a ∧ R64 o.n := fun o ho => ⟨(hops o ho).1, (hops o ho).2.1, (hops o ho).2.2.1⟩
  have ids : ∀ {G' : GH} {R : List (Nat × Obj)}, Hp G4 G' R → 0 < G'.next ∧ oi < G'.next ∧ mi < G'.next := fun {G' R} h => by
    have w := h.wf.2
    have x := h4.wf.2
    have y := h.nx
    have q : ∀ {i : Nat}, Nw G3 G4 0 i → i < G'.next := fun h => by
      rcases h with h | h | ⟨a, b⟩ <;> omega
    exact ⟨by omega, q no, q nm⟩
  obtain ⟨bi', oi', mi', ai, G7, e7, h7, s7, _⟩ := hodmanref17_All.sp h6'.wf okm (s4.keep h6') (ids h6') h6'.sl0 hin (by omega)
  simp only [newM] at e7 ⊢
  rw [e7]
  clear e7
  rw [show (⟨C, [], 0, 0, 0, tab (C.H / C.Pg).toNat fun _ => false, tab C.H.toNat fun _ => (0 : Int)⟩ : Mod) = newM C from rfl]
  simp only [q_bs, q_I, q_B, q_P, q_S, q_M, q_c, q_a, q_gz, q_gs, q_gk, q_ct, q_cf, q_nt, q_nf, q_xt, q_xf, q_tt, q_ff, q_tf, q_ft, q_at, q_af, List.length_cons, List.length_nil, if_true]
  have alen := allM_len (newM C) ops
  have h8 := h6'.trans h7
  have sr0 : SR (newM C) [] [] := ⟨⟨⟨rfl, rfl⟩, inv_nil okm rfl, inv_nil okm rfl, List.Pairwise.nil, (fun x hx => by cases hx)⟩, (fun b hb => by cases hb), List.Pairwise.nil, fun a => .inl ⟨rfl, rfl⟩⟩
  obtain ⟨key, run⟩ := same_run allM (fun _ => rfl) (fun _ _ _ => rfl) C ops (newM C) [] [] sr0 rfl
  generalize hans : (allM (newM C) ops).2 = ans at *
  obtain ⟨p1, G9, e9, h9⟩ := same_Plain.sp h8 ok (pi := oid) (po := 0) (ai := ai) (ao := 0) (ops := ops) (ans := ans) (fun G h => h.sl (by simp)) (fun G h => h.sl (by simp)) hin (by omega) (by omega)
  rw [e9]
  simp only [q_bs, q_I, q_B, q_P, q_S, q_M, q_c, q_a, q_gz, q_gs, q_gk, q_ct, q_cf, q_nt, q_nf, q_xt, q_xf, q_tt, q_ff, q_tf, q_ft, q_at, q_af]
  obtain ⟨res, p2, G10, hres, e10, h10⟩ := hodmanref17_Plain.sp h9 ok (pi := oid) (po := 0) (ai := ai) (ao := 0) (ops := ops) (ans := ans) (fun G h => h.sl (by simp)) (fun G h => h.sl (by simp)) hin (by omega) (by omega) (fun _ => run)
  rw [e10]
  simp only [q_bs, q_I, q_B, q_P, q_S, q_M, q_c, q_a, q_gz, q_gs, q_gk, q_ct, q_cf, q_nt, q_nf, q_xt, q_xf, q_tt, q_ff, q_tf, q_ft, q_at, q_af]
  have eres : plainP C ops ans = res := by
    rw [hres]; unfold plainP
    rw [if_pos (by omega), if_pos (by omega), key]
  have pl := plainP_len C ops ans
  rw [hodmanref17_SameAns.sp (a := plainP C ops ans) (b := res) (h10.sl (by simp)) h10.sl0 (by omega)]
  simp only [q_bs, q_I, q_B, q_P, q_S, q_M, q_c, q_a, q_gz, q_gs, q_gk, q_ct, q_cf, q_nt, q_nf, q_xt, q_xf, q_tt, q_ff, q_tf, q_ft, q_at, q_af]
  rw [decide_eq_true eres, q_ct]
  -- some of the answers
  have t0 : cut.tmod 3 = cut % 3 := Int.tmod_eq_emod_of_nonneg hcut.1
  have t1 := Int.emod_nonneg cut (b := 3) (by decide)
  have t2 := Int.emod_lt_of_pos cut (b := 3) (by decide)
  rw [t0, mn2_eq, i64w, i64w, wrap_id (a := cut % 3) (by omega) (by omega), wrap_id (by omega) (by omega)]
  obtain ⟨k, hk⟩ : ∃ k : Nat, ((ops.length : Nat) : Int) - min ((ops.length : Nat) : Int) (cut % 3) = k := ⟨(((ops.length : Nat) : Int) - min ((ops.length : Nat) : Int) (cut % 3)).toNat, (Int.toNat_of_nonneg (by omega)).symm⟩
  rw [hk, guardD_of (by omega), Int.toNat_natCast]
  have lk : k - Int.toNat 0 = (ans.take k).length := by rw [List.length_take]; show k - 0 = _; omega
  rw [lk]
  have run2 : ops.length = (ans.take k).length → RunOk C [] ops (ans.take k) := by
    intro h
    rw [List.length_take] at h
    rw [List.take_of_length_le (by omega)]; exact run
  obtain ⟨p3, G11, e11, h11⟩ := same_Plain.sp h10 ok (pi := oid) (po := 0) (ai := ai) (ao := 0 + Int.toNat 0 * 8) (ops := ops) (ans := ans.take k) (fun G h => h.sl (by simp)) (fun G h => (h.sl (e := eAns) (id := ai) (xs := ans) (by simp)).sub 0 k (by omega)) hin (by omega) (by rw [List.length_take]; omega)
  rw [e11]
  simp only [q_bs, q_I, q_B, q_P, q_S, q_M, q_c, q_a, q_gz, q_gs, q_gk, q_ct, q_cf, q_nt, q_nf, q_xt, q_xf, q_tt, q_ff, q_tf, q_ft, q_at, q_af]
  rw [guardD_of (by omega)]
  obtain ⟨res2, p4, G12, hres2, e12, h12⟩ := hodmanref17_Plain.sp h11 ok (pi := oid) (po := 0) (ai := ai) (ao := 0 + Int.toNat 0 * 8) (ops := ops) (ans := ans.take k) (fun G h => h.sl (by simp)) (fun G h => (h.sl (e := eAns) (id := ai) (xs := ans) (by simp)).sub 0 k (by omega)) hin (by omega) (by rw [List.length_take]; omega) run2
  rw [e12]
  simp only [q_bs, q_I, q_B, q_P, q_S, q_M, q_c, q_a, q_gz, q_gs, q_gk, q_ct, q_cf, q_nt, q_nf, q_xt, q_xf, q_tt, q_ff, q_tf, q_ft, q_at, q_af]
  have eres2 : plainP C ops (ans.take k) = res2 := by
    rw [hres2]; unfold plainP
    by_cases hl : ops.length = (ans.take k).length
    · rw [if_pos hl, if_pos hl]
      have : ans.take k = ans := by
        rw [List.length_take] at hl
        exact List.take_of_length_le (by omega)
      rw [this, key]
    · rw [if_neg hl, if_neg hl]
  have pl2 := plainP_len C ops (ans.take k)
  rw [hodmanref17_SameAns.sp (a := plainP C ops (ans.take k)) (b := res2) (h12.sl (by simp)) h12.sl0 (by omega)]
  simp only [q_bs, q_I, q_B, q_P, q_S, q_M, q_c, q_a, q_gz, q_gs, q_gk, q_ct, q_cf, q_nt, q_nf, q_xt, q_xf, q_tt, q_ff, q_tf, q_ft, q_at, q_af]
  rw [decide_eq_true eres2, q_ct]
  have su := (sl3.keep h4).keep h12
  have sv := (sl4.keep h4).keep h12
  rw [same_Same.sp su sv (by omega)]
  simp only [q_bs, q_I, q_B, q_P, q_S, q_M, q_c, q_a, q_gz, q_gs, q_gk, q_ct, q_cf, q_nt, q_nf, q_xt, q_xf, q_tt, q_ff, q_tf, q_ft, q_at, q_af]
  rw [hodmanref17_SameAns.sp su sv (by omega)]
  simp only [q_bs, q_I, q_B, q_P, q_S, q_M, q_c, q_a, q_gz, q_gs, q_gk, q_ct, q_cf, q_nt, q_nf, q_xt, q_xf, q_tt, q_ff, q_tf, q_ft, q_at, q_af]
  have bb : ∀ b : Bool, (b == b) = true := by intro b; cases b <;> rfl
  rw [bb, q_ct, same_Same.sp su su (by omega)]
  simp only [q_bs, q_I, q_B, q_P, q_S, q_M, q_c, q_a, q_gz, q_gs, q_gk, q_ct, q_cf, q_nt, q_nf, q_xt, q_xf, q_tt, q_ff, q_tf, q_ft, q_at, q_af, decide_true]
  exact ⟨_, rfl⟩
end Go.Proofs.D.S
/- A slice of pairs of bytes that a law is given. -/
set_option linter.unusedVariables false
namespace Go.Proofs.D
open Go Go.ChangeShapes Go.WideShapes Go.RowKit Go.Deep
namespace S
abbrev eP (p : Int × Int) : List Cell := [.int .u8 p.1, .int .u8 p.2]
theorem eP_len : ∀ l : List (Int × Int), (cells eP l).length = l.length * 2
  | [] => rfl
  | p :: l => by show (eP p ++ cells eP l).length = _; rw [List.length_append, eP_len l, List.length_cons]; simp; omega
theorem eP_get : ∀ (l : List (Int × Int)) (i : Nat) (y : Cell), (cells eP l)[i]? = some y → ∃ p, l[i / 2]? = some p ∧ (i % 2 = 0 ∧ y = .int .u8 p.1 ∨ i % 2 = 1 ∧ y = .int .u8 p.2)
  | [], i, y, h => by simp [cells] at h
  | p :: l, 0, y, h => ⟨p, rfl, .inl ⟨rfl, (Option.some.inj h).symm⟩⟩
  | p :: l, 1, y, h => ⟨p, rfl, .inr ⟨rfl, (Option.some.inj h).symm⟩⟩
  | p :: l, i + 2, y, h => by
    obtain ⟨q, h1, h2⟩ := eP_get l i y h
    exact ⟨q, by rw [show (i + 2) / 2 = i / 2 + 1 by omega]; exact h1, by rw [show (i + 2) % 2 = i % 2 by omega]; exact h2⟩
theorem eP_nil {l : List (Int × Int)} (h : cells eP l = []) : l = [] := by
  cases l with
  | nil => rfl
  | cons p l => exact absurd h (by show ¬ (eP p ++ cells eP l) = []; simp)
end S
theorem arg_pairs {H : Type} {enc : TypeId × Value → H} {P : Program} {W : World} {base : Nat} {held : Bool} {t e b : TypeId} {v : Value} {d : DataW H} {p : List MemPlace}
    (ht : P.underlying t = some (.slice e)) (he : P.underlying e = some (.array 2 b)) (hc : P.cellsOf e = 2) (hb : P.underlying b = some (.int .u8)) (hb1 : P.cellsOf b = 1) (hv : Value.okWide P W .any base t v) (h : DataW.Trod enc P W 0 (fun _ => true) held t v d p) :
    ∃ a n cap zs, v = .slice a n cap ∧ IsArg W a n cap 2 (S.cells S.eP zs) ∧ zs.length = n ∧ ∀ x ∈ zs, (0 ≤ x.1 ∧ x.1 ≤ 255) ∧ (0 ≤ x.2 ∧ x.2 ≤ 255) := by
  obtain ⟨a, n, cap, rfl⟩ := okWide_slice ht hv
  have hsp : ∀ x, a = some x → x.spot = none := by
    rintro x rfl
    simp only [Value.okWide, ht, Cell.okWide, Cell.ok] at hv
    exact hv.2.2.2.1
  obtain ⟨fuel, hf⟩ := h
  rcases open_slice ht hf with ⟨hcs, _⟩ | ⟨x, l, c, m, k, D, Pl, hcs, _, hl, _, hm, _, hx⟩
  · simp [Value.cells] at hcs
    obtain ⟨rfl, rfl, rfl⟩ := hcs
    exact ⟨_, _, _, [], rfl, .inl ⟨rfl, rfl, rfl, rfl⟩, rfl, by simp⟩
  · simp [Value.cells] at hcs
    obtain ⟨rfl, rfl, rfl⟩ := hcs
    have hm : m = cap := by simpa using hm
    subst hm
    have each : ∀ i, i < m → ∃ q : Int × Int, W.cell? (x.add (i * 2)) = some (.int .u8 q.1) ∧ W.cell? (x.add (i * 2 + 1)) = some (.int .u8 q.2) ∧ (0 ≤ q.1 ∧ q.1 ≤ 255) ∧ (0 ≤ q.2 ∧ q.2 ≤ 255) := by
      intro i hi
      obtain ⟨cs', h1, h2⟩ := hx i hi
      rw [hc] at h1
      obtain ⟨_, hlen, hcell⟩ := World.cells?_some h1
      obtain ⟨xs, k', _, _, _, hxl, hel⟩ := DataW.trod_array he h2
      rw [hb1] at hel
      match xs, hxl, cs', hlen with
      | [y0, y1], _, [v0, v1], _ =>
        have g0 : DataW.trod enc P W 0 (fun _ => true) held k' b [v0] = some y0 := by simpa using hel 0 (by omega)
        have g1 : DataW.trod enc P W 0 (fun _ => true) held k' b [v1] = some y1 := by simpa using hel 1 (by omega)
        obtain ⟨a0, e0, _, w0⟩ := DataW.trod_int hb g0
        obtain ⟨a1, e1, _, w1⟩ := DataW.trod_int hb g1
        simp only [List.cons.injEq, and_true] at e0 e1
        subst e0 e1
        have c0 := hcell 0 (by omega)
        have c1 := hcell 1 (by omega)
        rw [add_add] at c0 c1
        exact ⟨(a0, a1), by simpa using c0, by simpa using c1, wf8 w0, wf8 w1⟩
    obtain ⟨q, hq⟩ := choose_lt each
    refine ⟨_, _, _, (List.range n).map q, rfl, .inr ⟨x, rfl, hsp x rfl, hl, ?_, fun i hi => ?_, fun i y hy => ?_⟩, by simp, fun y hy => ?_⟩
    · rw [S.eP_len]; simp
    · rcases Nat.mod_two_eq_zero_or_one i with h2 | h2
      · have := (hq (i / 2) (by omega)).1; rw [show i / 2 * 2 = i by omega] at this; exact ⟨_, this⟩
      · have := (hq (i / 2) (by omega)).2.1; rw [show i / 2 * 2 + 1 = i by omega] at this; exact ⟨_, this⟩
    · obtain ⟨z, h1, h2⟩ := S.eP_get _ i y hy
      obtain ⟨j, hj, hz, hji⟩ : ∃ j, j < n ∧ q j = z ∧ j = i / 2 := by
        rw [List.getElem?_map] at h1
        obtain ⟨j, hj, e⟩ := Option.map_eq_some_iff.1 h1
        have := (List.getElem?_eq_some_iff.1 hj).1
        rw [List.length_range] at this
        rw [List.getElem?_range this] at hj
        cases hj
        exact ⟨_, this, e, rfl⟩
      subst hz
      have g := hq j (by omega)
      rcases h2 with ⟨h2, rfl⟩ | ⟨h2, rfl⟩
      · have := g.1; rw [show j * 2 = i by omega] at this; exact ⟨_, this, fun φ => rfl⟩
      · have := g.2.1; rw [show j * 2 + 1 = i by omega] at this; exact ⟨_, this, fun φ => rfl⟩
    · obtain ⟨j, hj, rfl⟩ := List.mem_map.1 hy
      exact (hq j (by have := List.mem_range.1 hj; omega)).2.2
end Go.Proofs.D
/- A struct of six whole numbers that comes in by value: it reads as six numbers of 64 bits. -/
namespace Go.Proofs.D
open Go Go.Joins Go.ChangeShapes Go.WideShapes Go.RowKit Go.Deep
section
variable {H : Type} {enc : TypeId × Value → H} {P : Program} {w : World} {base : Nat} {spare : Nat → Bool} {held : Bool}

theorem ints6 {r : Reach} {b0 : Nat} {t u : TypeId} {f0 f1 f2 f3 f4 f5 : Field} {v : Value} {d : DataW H} {p : List MemPlace} (hs : P.underlying t = some (.struct #[f0, f1, f2, f3, f4, f5])) (hone : oneCellFields P #[f0, f1, f2, f3, f4, f5] = true) (hC : P.cellsOf t = 6)
    (hu : P.underlying u = some (.int .i64)) (hf0 : f0.type = u) (hf1 : f1.type = u) (hf2 : f2.type = u) (hf3 : f3.type = u) (hf4 : f4.type = u) (hf5 : f5.type = u)
    (hv : Value.okWide P w r b0 t v) (h : DataW.Trod enc P w base spare held t v d p) :
    ∃ (a0 a1 a2 a3 a4 a5 : Int), v = .agg #[.int .i64 a0, .int .i64 a1, .int .i64 a2, .int .i64 a3, .int .i64 a4, .int .i64 a5] ∧
      (Lit.int .i64 a0).wf = true ∧ (Lit.int .i64 a1).wf = true ∧ (Lit.int .i64 a2).wf = true ∧ (Lit.int .i64 a3).wf = true ∧ (Lit.int .i64 a4).wf = true ∧ (Lit.int .i64 a5).wf = true := by
  obtain ⟨cs, rfl, hsz⟩ := okWide_struct hs hv
  obtain ⟨l⟩ := cs
  match l, hsz.trans hC with
  | [c0, c1, c2, c3, c4, c5], _ =>
    obtain ⟨fuel, hf⟩ := h
    obtain ⟨xs, n, _, hx, _, hlen, hg⟩ := DataW.trod_struct hs hf
    obtain ⟨o0, k0⟩ := hone_of hone 0 f0 rfl
    obtain ⟨o1, k1⟩ := hone_of hone 1 f1 rfl
    obtain ⟨o2, k2⟩ := hone_of hone 2 f2 rfl
    obtain ⟨o3, k3⟩ := hone_of hone 3 f3 rfl
    obtain ⟨o4, k4⟩ := hone_of hone 4 f4 rfl
    obtain ⟨o5, k5⟩ := hone_of hone 5 f5 rfl
    match xs, hlen with
    | [y0, y1, y2, y3, y4, y5], _ =>
      have g0 : DataW.trod enc P w base spare held n f0.type [c0] = some y0 := by simpa [Value.cells, o0, k0] using hg 0 f0 rfl
      have g1 : DataW.trod enc P w base spare held n f1.type [c1] = some y1 := by simpa [Value.cells, o1, k1] using hg 1 f1 rfl
      have g2 : DataW.trod enc P w base spare held n f2.type [c2] = some y2 := by simpa [Value.cells, o2, k2] using hg 2 f2 rfl
      have g3 : DataW.trod enc P w base spare held n f3.type [c3] = some y3 := by simpa [Value.cells, o3, k3] using hg 3 f3 rfl
      have g4 : DataW.trod enc P w base spare held n f4.type [c4] = some y4 := by simpa [Value.cells, o4, k4] using hg 4 f4 rfl
      have g5 : DataW.trod enc P w base spare held n f5.type [c5] = some y5 := by simpa [Value.cells, o5, k5] using hg 5 f5 rfl
      obtain ⟨a0, e0, _, w0⟩ := DataW.trod_int (by rw [hf0]; exact hu) g0
      obtain ⟨a1, e1, _, w1⟩ := DataW.trod_int (by rw [hf1]; exact hu) g1
      obtain ⟨a2, e2, _, w2⟩ := DataW.trod_int (by rw [hf2]; exact hu) g2
      obtain ⟨a3, e3, _, w3⟩ := DataW.trod_int (by rw [hf3]; exact hu) g3
      obtain ⟨a4, e4, _, w4⟩ := DataW.trod_int (by rw [hf4]; exact hu) g4
      obtain ⟨a5, e5, _, w5⟩ := DataW.trod_int (by rw [hf5]; exact hu) g5
      simp only [List.cons.injEq, and_true] at e0 e1 e2 e3 e4 e5
      subst e0 e1 e2 e3 e4 e5
      exact ⟨a0, a1, a2, a3, a4, a5, rfl, w0, w1, w2, w3, w4, w5⟩
end
theorem agg6_rel {φ : Phi} {a0 a1 a2 a3 a4 a5 : Int} : V1Rel φ (.agg (S.rwC ⟨a0, a1, a2, a3, a4, a5⟩)) (.agg #[.int .i64 a0, .int .i64 a1, .int .i64 a2, .int .i64 a3, .int .i64 a4, .int .i64 a5]) :=
  ⟨_, rfl, R2.cons rfl (R2.cons rfl (R2.cons rfl (R2.cons rfl (R2.cons rfl (R2.cons rfl R2.nil)))))⟩
end Go.Proofs.D
/- A slice of answers that a law is given: structs of eight whole numbers. -/
namespace Go.Proofs.D
open Go Go.Joins Go.ChangeShapes Go.WideShapes Go.RowKit Go.Deep
instance : Inhabited S.AnsV := ⟨⟨0, 0, 0, 0, 0, 0, 0, 0⟩⟩
theorem arg_ans {H : Type} {enc : TypeId × Value → H} {P : Program} {W : World} {base : Nat} {held : Bool} {t e : TypeId} {f0 f1 f2 f3 f4 f5 f6 f7 : Field} {v : Value} {d : DataW H} {p : List MemPlace}
    (ht : P.underlying t = some (.slice e)) (hs : P.underlying e = some (.struct #[f0, f1, f2, f3, f4, f5, f6, f7])) (hone : oneCellFields P #[f0, f1, f2, f3, f4, f5, f6, f7] = true) (hc : P.cellsOf e = 8)
    (u0 : P.underlying f0.type = some (.int .i64)) (u1 : P.underlying f1.type = some (.int .i64)) (u2 : P.underlying f2.type = some (.int .i64)) (u3 : P.underlying f3.type = some (.int .u8)) (u4 : P.underlying f4.type = some (.int .i64)) (u5 : P.underlying f5.type = some (.int .i64)) (u6 : P.underlying f6.type = some (.int .i64)) (u7 : P.underlying f7.type = some (.int .i64))
    (hv : Value.okWide P W .any base t v) (h : DataW.Trod enc P W 0 (fun _ => true) held t v d p) :
    ∃ a n cap zs, v = .slice a n cap ∧ IsArg W a n cap 8 (S.cells S.eAns zs) ∧ zs.length = n := by
  obtain ⟨a, n, cap, rfl⟩ := okWide_slice ht hv
  have hsp : ∀ x, a = some x → x.spot = none := by
    rintro x rfl
    simp only [Value.okWide, ht, Cell.okWide, Cell.ok] at hv
    exact hv.2.2.2.1
  obtain ⟨fuel, hf⟩ := h
  rcases open_slice ht hf with ⟨hcs, _⟩ | ⟨x, l, c, m, k, D, Pl, hcs, _, hl, _, hm, _, hx⟩
  · simp [Value.cells] at hcs
    obtain ⟨rfl, rfl, rfl⟩ := hcs
    exact ⟨_, _, _, [], rfl, .inl ⟨rfl, rfl, rfl, rfl⟩, rfl⟩
  · simp [Value.cells] at hcs
    obtain ⟨rfl, rfl, rfl⟩ := hcs
    have hm : m = cap := by simpa using hm
    subst hm
    have each : ∀ i, i < m → ∃ q : S.AnsV, ∀ j y, (S.eAns q)[j]? = some y → ∃ v, W.cell? (x.add (i * 8 + j)) = some v ∧ ∀ φ, CRel φ y v := by
      intro i hi
      obtain ⟨cs', h1, h2⟩ := hx i hi
      rw [hc] at h1
      obtain ⟨_, hlen, hcell⟩ := World.cells?_some h1
      obtain ⟨xs, k', _, _, _, hxl, hg⟩ := DataW.trod_struct hs h2
      obtain ⟨o0, k0⟩ := hone_of hone 0 f0 rfl
      obtain ⟨o1, k1⟩ := hone_of hone 1 f1 rfl
      obtain ⟨o2, k2⟩ := hone_of hone 2 f2 rfl
      obtain ⟨o3, k3⟩ := hone_of hone 3 f3 rfl
      obtain ⟨o4, k4⟩ := hone_of hone 4 f4 rfl
      obtain ⟨o5, k5⟩ := hone_of hone 5 f5 rfl
      obtain ⟨o6, k6⟩ := hone_of hone 6 f6 rfl
      obtain ⟨o7, k7⟩ := hone_of hone 7 f7 rfl
      match xs, hxl, cs', hlen with
      | [y0, y1, y2, y3, y4, y5, y6, y7], _, [c0, c1, c2, c3, c4, c5, c6, c7], _ =>
        have g0 : DataW.trod enc P W 0 (fun _ => true) held k' f0.type [c0] = some y0 := by simpa [o0, k0] using hg 0 f0 rfl
        have g1 : DataW.trod enc P W 0 (fun _ => true) held k' f1.type [c1] = some y1 := by simpa [o1, k1] using hg 1 f1 rfl
        have g2 : DataW.trod enc P W 0 (fun _ => true) held k' f2.type [c2] = some y2 := by simpa [o2, k2] using hg 2 f2 rfl
        have g3 : DataW.trod enc P W 0 (fun _ => true) held k' f3.type [c3] = some y3 := by simpa [o3, k3] using hg 3 f3 rfl
        have g4 : DataW.trod enc P W 0 (fun _ => true) held k' f4.type [c4] = some y4 := by simpa [o4, k4] using hg 4 f4 rfl
        have g5 : DataW.trod enc P W 0 (fun _ => true) held k' f5.type [c5] = some y5 := by simpa [o5, k5] using hg 5 f5 rfl
        have g6 : DataW.trod enc P W 0 (fun _ => true) held k' f6.type [c6] = some y6 := by simpa [o6, k6] using hg 6 f6 rfl
        have g7 : DataW.trod enc P W 0 (fun _ => true) held k' f7.type [c7] = some y7 := by simpa [o7, k7] using hg 7 f7 rfl
        obtain ⟨a0, e0, _, _⟩ := DataW.trod_int u0 g0
        obtain ⟨a1, e1, _, _⟩ := DataW.trod_int u1 g1
        obtain ⟨a2, e2, _, _⟩ := DataW.trod_int u2 g2
        obtain ⟨a3, e3, _, _⟩ := DataW.trod_int u3 g3
        obtain ⟨a4, e4, _, _⟩ := DataW.trod_int u4 g4
        obtain ⟨a5, e5, _, _⟩ := DataW.trod_int u5 g5
        obtain ⟨a6, e6, _, _⟩ := DataW.trod_int u6 g6
        obtain ⟨a7, e7, _, _⟩ := DataW.trod_int u7 g7
        simp only [List.cons.injEq, and_true] at e0 e1 e2 e3 e4 e5 e6 e7
        subst e0 e1 e2 e3 e4 e5 e6 e7
        refine ⟨⟨a0, a1, a2, a3, a4, a5, a6, a7⟩, fun j y hy => ?_⟩
        have hj : j < 8 := (List.getElem?_eq_some_iff.1 hy).1
        have cj := hcell j hj
        rw [add_add] at cj
        match j, hj, hy, cj with
        | 0, _, hy, cj => exact ⟨_, by simpa using cj, fun φ => by simp at hy; subst hy; rfl⟩
        | 1, _, hy, cj => exact ⟨_, by simpa using cj, fun φ => by simp at hy; subst hy; rfl⟩
        | 2, _, hy, cj => exact ⟨_, by simpa using cj, fun φ => by simp at hy; subst hy; rfl⟩
        | 3, _, hy, cj => exact ⟨_, by simpa using cj, fun φ => by simp at hy; subst hy; rfl⟩
        | 4, _, hy, cj => exact ⟨_, by simpa using cj, fun φ => by simp at hy; subst hy; rfl⟩
        | 5, _, hy, cj => exact ⟨_, by simpa using cj, fun φ => by simp at hy; subst hy; rfl⟩
        | 6, _, hy, cj => exact ⟨_, by simpa using cj, fun φ => by simp at hy; subst hy; rfl⟩
        | 7, _, hy, cj => exact ⟨_, by simpa using cj, fun φ => by simp at hy; subst hy; rfl⟩
    obtain ⟨q, hq⟩ := choose_lt each
    refine ⟨_, _, _, (List.range n).map q, rfl, .inr ⟨x, rfl, hsp x rfl, hl, ?_, fun i hi => ?_, fun i y hy => ?_⟩, by simp⟩
    · rw [S.cells_len]; simp
    · obtain ⟨v, hv, _⟩ := hq (i / 8) (by omega) (i % 8) _ (List.getElem?_eq_getElem (by show i % 8 < 8; omega))
      rw [show i / 8 * 8 + i % 8 = i by omega] at hv
      exact ⟨v, hv⟩
    · have hi : i < n * 8 := by
        have := (List.getElem?_eq_some_iff.1 hy).1
        rw [S.cells_len] at this; simpa using this
      have hd : i / 8 < ((List.range n).map q).length := by simp; omega
      have := S.cells_get (e := S.eAns) ((List.range n).map q) (i / 8) (i % 8) hd (by omega)
      rw [show i / 8 * 8 + i % 8 = i by omega, hy] at this
      rw [List.getElem_map, List.getElem_range] at this
      obtain ⟨v, hv, hr⟩ := hq (i / 8) (by omega) (i % 8) y this.symm
      rw [show i / 8 * 8 + i % 8 = i by omega] at hv
      exact ⟨v, hv, hr⟩
end Go.Proofs.D
