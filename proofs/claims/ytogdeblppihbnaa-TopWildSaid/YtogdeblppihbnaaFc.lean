/- Texts of the proof (DRaw, DBeg, DRow); no condition. -/
import Derived.Test.YtogdeblppihbnaaFb
import Derived.KernelRfl
import Derived.Test.YtogdeblppihbnaaFa
import Derived.Below
import Derived.WideShapes
import Derived.ChangeSlices
import Derived.ChangeShapes
set_option linter.unusedSimpArgs false
set_option linter.unusedVariables false
/- What is read out of numbers, in small. -/
set_option linter.unusedVariables false
namespace Go.Proofs.D.S
open Go Go.RowKit
/-- what is asked for, small -/
structure RawOk (b : Bool) (g la li pa bu se : Int) : Prop where
  hg : 1 ≤ g ∧ g ≤ 9
  hla : g ≤ la ∧ la ≤ 108
  hli : 1 ≤ li ∧ li ≤ 150
  hpa : 1 ≤ pa ∧ pa ≤ 30
  hbt : b = true → bu = 5000
  hbf : b = false → 1 ≤ bu ∧ bu ≤ 20
  hse : 0 ≤ se ∧ se ≤ 199

theorem RawOk.inS {b : Bool} {g la li pa bu se : Int} (h : RawOk b g la li pa bu se) : InS g la li pa bu se := by
  obtain ⟨⟨h1, h2⟩, ⟨h3, h4⟩, ⟨h5, h6⟩, ⟨h7, h8⟩, h9, h10, h11, h12⟩ := h
  have hb : 0 ≤ bu ∧ bu ≤ 65536 := by
    cases b with
    | true => have := h9 rfl; omega
    | false => have := h10 rfl; omega
  unfold InS; omega

/-- the sizes of what is small -/
theorem RawOk.small {b : Bool} {g la li pa bu se : Int} (h : RawOk b g la li pa bu se) :
    eG g ≤ 4 ∧ eN g la ≤ 7 ∧ ePg g pa ≤ 5 ∧ mS g la li pa ≤ 406 ∧ lS g la ≤ 7 ∧ hS g la li pa ≤ 2000 := by
  have hin := h.inS
  obtain ⟨⟨h1, h2⟩, ⟨h3, h4⟩, ⟨h5, h6⟩, ⟨h7, h8⟩, h9, h10, h11, h12⟩ := h
  obtain ⟨⟨g1, g2⟩, ⟨l1, l2⟩, ⟨i1, i2⟩, ⟨p1, p2⟩, hb, hs⟩ := hin
  have b0 : eG g ≤ 4 := clog_le (by omega)
  have b1 : clog la.toNat ≤ 7 := clog_le (by omega)
  have b2 : clog pa.toNat ≤ 5 := clog_le (by omega)
  have c1 : eN g la ≤ 7 := by unfold eN; omega
  have c2 : ePg g pa ≤ 5 := by unfold ePg; omega
  obtain ⟨a1, a2, a3, a4, a5⟩ := mS_facts (g := g) (la := la) (pa := pa) i1 i2 g2 l2 p2
  have hw : wS g la pa ≤ 256 := by
    unfold wS
    have : (2 : Nat) ^ (max (eN g la) (ePg g pa) + 1) ≤ 2 ^ 8 := Nat.pow_le_pow_right (by decide) (by omega)
    omega
  have hl : lS g la ≤ 7 := by unfold lS; omega
  have hl0 : 0 ≤ lS g la := by unfold lS; omega
  have c3 : lS g la * (mS g la li pa / 2) ≤ 7 * 203 := Int.mul_le_mul hl (by omega) (by omega) (by omega)
  refine ⟨b0, c1, c2, by omega, hl, ?_⟩
  unfold hS; omega

theorem RawOk.ofC {b : Bool} {r : Rw} (h : RawOk b r.g r.la r.li r.pa r.bu r.se) : ofC r = (cfOf r, 0) := by
  have h1 : r.In := h.inS
  obtain ⟨_, _, _, _, _, h2⟩ := h.small
  unfold S.ofC
  rw [if_pos h1, if_neg (by omega)]
theorem RawOk.ok {b : Bool} {r : Rw} (h : RawOk b r.g r.la r.li r.pa r.bu r.se) : (cfOf r).Ok := by
  have h1 := ofC_ok (r := r) (by rw [h.ofC])
  rw [h.ofC] at h1
  exact h1
/-- what is read out of numbers, in small -/
structure Small (b : Bool) (g l p : Nat) (M P H Sd : Int) : Prop where
  hg : g ≤ 4
  hl : g + l ≤ 7
  hp : g ≤ p ∧ p ≤ 5
  hM : 1 ≤ M ∧ M ≤ 406
  hMN : M % ((2 ^ (g + l + 1) : Nat) : Int) = 0
  hMP : M % ((2 ^ (p + 1) : Nat) : Int) = 0
  hH : H = M + (l : Int) * (M / 2)
  hH2 : H ≤ 2000
  hP : (b = true → P = 5000) ∧ (b = false → 1 ≤ P ∧ P ≤ 20)
  hSd : 0 ≤ Sd ∧ Sd ≤ 199

theorem Small.q {b : Bool} {g l p : Nat} {M P H Sd : Int} (h : Small b g l p M P H Sd) : ∃ q : Nat, 1 ≤ q ∧ M = ((q * 2 ^ (g + l + 1) : Nat) : Int) := by
  have hM := h.hM
  have z1 := Nat.two_pow_pos (g + l + 1)
  have hq : M = (((M / ((2 ^ (g + l + 1) : Nat) : Int)).toNat * 2 ^ (g + l + 1) : Nat) : Int) := by
    have h1 := Int.mul_ediv_add_emod M ((2 ^ (g + l + 1) : Nat) : Int)
    have h2 := h.hMN
    have h3 := Int.ediv_nonneg (a := M) (b := ((2 ^ (g + l + 1) : Nat) : Int)) (by omega) (by omega)
    rw [Int.natCast_mul, Int.toNat_of_nonneg h3, Int.mul_comm]
    omega
  refine ⟨_, ?_, hq⟩
  generalize (M / ((2 ^ (g + l + 1) : Nat) : Int)).toNat = q at hq
  rcases Nat.eq_zero_or_pos q with h | h
  · subst h; simp at hq; omega
  · exact h

/-- A small configuration: what the picks come to. -/
structure Cf.Small (b : Bool) (c : Cf) (g l p : Nat) : Prop where
  ok : c.Ok
  hG : c.G = ((2 ^ g : Nat) : Int)
  hN : c.N = ((2 ^ (g + l) : Nat) : Int)
  hL : c.L = (l : Int)
  hPg : c.Pg = ((2 ^ p : Nat) : Int)
  s : S.Small b g l p c.M c.P c.H c.Sd
end Go.Proofs.D.S
/- What a law begins with: rows that stay. -/
set_option linter.unusedVariables false
namespace Go.Proofs.D.S
open Go Go.RowKit
/-- Room for a row, with or without one. -/
def put1 (G : GH) (o : Option (List Cell)) : GH := { tree := G.tree.set (G.next + 1) G.next (o.map fun cs => .row cs true), next := G.next + 1 }
def GE : GH := ⟨.e, 1⟩
/-- At most three rows, all of arguments. -/
def Beg (G : GH) : Prop := ∃ a b c, G = put1 (put1 (put1 GE a) b) c
def Fz (G : GH) : Prop := G.wf ∧ ∀ id o, G.get id = some o → ∃ cs, o = .row cs true
theorem put1_get (G : GH) (o : Option (List Cell)) (j : Nat) : (put1 G o).get j = if j = G.next then o.map (fun cs => .row cs true) else G.get j := Tr.get_set _ _ _ _ _ (Nat.lt_succ_self _)
theorem Fz.row {G : GH} (z : Fz G) {id : Nat} {cs : List Cell} (h : G.row id = some cs) : G.get id = some (.row cs true) := by
  obtain ⟨o, hg, ho⟩ := row_get h
  obtain ⟨cs', rfl⟩ := z.2 _ _ hg
  rcases ho with h | ⟨fz, h⟩ <;> cases h
  exact hg
theorem Fz.put1 {G : GH} (h : Fz G) (o : Option (List Cell)) : Fz (put1 G o) := by
  refine ⟨⟨fun id hid => ?_, by have := h.1.2; show 1 ≤ G.next + 1; omega⟩, fun id x hx => ?_⟩
  · have hid : G.next + 1 ≤ id := hid
    rw [put1_get, if_neg (by omega)]; exact h.1.1 id (by omega)
  · rw [put1_get] at hx
    split at hx
    · cases o with
      | none => cases hx
      | some cs => cases hx; exact ⟨_, rfl⟩
    · exact h.2 id x hx
theorem Beg.fz {G : GH} (h : Beg G) : Fz G := by
  obtain ⟨a, b, c, rfl⟩ := h
  exact (((show Fz GE from ⟨⟨fun id _ => by unfold GH.get GE; rfl, Nat.le_refl _⟩, fun id o h => by unfold GH.get GE at h; cases h⟩).put1 a).put1 b).put1 c
/-- A law's answer: yes. -/
def OkT (x : Option Res) : Prop := ∃ G', x = some ([.c (.bool true)], G')
/-- What stays of it. -/
structure From (G G' : GH) : Prop where
  wf : G'.wf
  sl : ∀ {α : Type} (e : α → List Cell) (id off : Nat) (xs : List α), Sl G e id off xs → Sl G' e id off xs
theorem Beg.frz {G G' : GH} (h : Beg G) (f : Frz G G') : From G G' := by
  have z := h.fz
  refine ⟨(f.1 z.1).1, fun e id off xs s => ?_⟩
  rcases s with s | ⟨cs, a, b, c⟩
  · exact .inl s
  · exact .inr ⟨cs, row_row (f.2 z.1 _ _ (z.row a)), b, c⟩
theorem Beg.wf {G : GH} (h : Beg G) : G.wf := h.fz.1
theorem beg_run {T : Nat → Option (Nat × DFn)} {f : Nat} (n : Nat) {vs : List V1} (h0 : ∀ a b c, (callD T n f [] (put1 (put1 (put1 GE a) b) c)).map Prod.fst = some vs)
    {G : GH} (hG : Beg G) : ∃ G', callW T f [] G = some (vs, G') ∧ From G G' := by
  have key : (callD T n f [] G).map Prod.fst = some vs := by
    obtain ⟨a, b, c, rfl⟩ := hG
    exact h0 a b c
  obtain ⟨⟨vs', G'⟩, h, e⟩ := Option.map_eq_some_iff.1 key
  cases e
  have := callW_of h
  exact ⟨G', this, hG.frz (callW_frz this)⟩
end Go.Proofs.D.S
/- A call of the small machine, told of the model's world, for the given rows. -/
set_option linter.unusedVariables false
namespace Go.Proofs.D
open Go Go.RowKit Go.ChangeShapes Go.WideShapes
open Go.Proofs.D.S (put1 GE put1_get)
/-- A row of an argument's, as it lies. -/
structure FzRow (W : World) (cs : List Cell) (L : Loc) : Prop where
  ex : ∃ c e r, W.heap[L.blk]? = some (.cells c e r) ∧ L.sh + cs.length ≤ L.lim ∧ L.lim ≤ c.size ∧ ∀ (φ : Phi) i x, cs[i]? = some x → ∃ v, c[L.sh + i]? = some v ∧ CRel φ x v
/-- What the machine begins with: arguments' rows alone. -/
structure Start (W : World) (φ : Phi) (G : GH) : Prop where
  H : HRel W.heap.size φ G.get W
  wf : G.wf
  fresh : ∀ id, G.next ≤ id → φ id = none
  no : ∀ id o, G.get id = some o → o.own = false
theorem GE_get (id : Nat) : GE.get id = none := by unfold GH.get GE; rfl
theorem Start.nil (W : World) : Start W (fun _ => none) GE :=
  ⟨⟨rfl, fun id o h => (by rw [GE_get] at h; cases h), fun i j oi oj L M h => (by rw [GE_get] at h; cases h)⟩, ⟨fun id _ => GE_get id, Nat.le_refl _⟩, fun _ _ => rfl, fun id o h => (by rw [GE_get] at h; cases h)⟩
theorem Start.row {W : World} {φ : Phi} {G : GH} (s : Start W φ G) {cs : List Cell} {L : Loc} (f : FzRow W cs L) : Start W (φ.put G.next L) (G.alloc (.row cs true)) := by
  obtain ⟨c, e, r, h1, h2, h3, h4⟩ := f.ex
  have hlt : L.blk < W.heap.size := (Array.getElem?_eq_some_iff.1 h1).1
  have le := Phi.le_put (φ := φ) L (s.fresh G.next (Nat.le_refl _))
  have get : ∀ id, (G.alloc (.row cs true)).get id = if id = G.next then some (.row cs true) else G.get id := fun id => GH.get_alloc G id _
  refine ⟨⟨?_, fun id o h => ?_, fun i j oi oj L M hi hj ki kj _ _ _ => ?_⟩, wf_alloc s.wf _, fun id hid => ?_, fun id o h => ?_⟩
  · rw [get, if_neg (by have := s.wf.2; omega)]; exact s.H.zero
  · rw [get] at h
    split at h
    · rename_i e1; subst e1; cases h
      exact ⟨L, Phi.put_self _ _ _, c, e, r, h1, h2, h3, fun i x hx => h4 _ i x hx, fun h => (by cases h), fun _ => hlt⟩
    · obtain ⟨M, hM, k⟩ := s.H.obj id o h
      exact ⟨M, le _ _ hM, k.keep le rfl⟩
  · exfalso
    rw [get] at hi
    split at hi
    · cases hi; simp [Obj.own] at ki
    · rw [s.no _ _ hi] at ki; cases ki
  · rw [GH.next_alloc] at hid
    unfold Phi.put; rw [if_neg (by omega)]; exact s.fresh id (by omega)
  · rw [get] at h
    split at h
    · cases h; rfl
    · exact s.no _ _ h
theorem Start.room {W : World} {φ : Phi} {G : GH} (s : Start W φ G) (L : Option Loc) : Start W (match L with | some L => φ.put G.next L | none => φ) (put1 G none) := by
  have fr := s.fresh G.next (Nat.le_refl _)
  have get : ∀ id, (put1 G none).get id = if id = G.next then none else G.get id := fun id => put1_get G none id
  have get2 : ∀ id o, (put1 G none).get id = some o → G.get id = some o := fun id o h => by
    rw [get] at h
    split at h
    · cases h
    · exact h
  have H2 : HRel W.heap.size φ (put1 G none).get W := s.H.restrict get2
  have wf2 : (put1 G none).wf := ⟨fun id hid => by
    have hid : G.next + 1 ≤ id := hid
    rw [get, if_neg (by omega)]; exact s.wf.1 id (by omega), by show 1 ≤ G.next + 1; omega⟩
  cases L with
  | none => exact ⟨H2, wf2, fun id hid => s.fresh id (Nat.le_trans (Nat.le_succ _) hid), fun id o h => s.no id o (get2 id o h)⟩
  | some L =>
    have le := Phi.le_put (φ := φ) L fr
    refine ⟨H2.keep le fun _ _ _ _ _ => rfl, wf2, fun id hid => ?_, fun id o h => s.no id o (get2 id o h)⟩
    have hid : G.next + 1 ≤ id := hid
    show Phi.put φ G.next L id = none
    unfold Phi.put; rw [if_neg (by omega)]; exact s.fresh id (by omega)
theorem Start.room0 {W : World} {φ : Phi} {G : GH} (s : Start W φ G) : Start W φ (put1 G none) := s.room none
theorem cell_add {W : World} {x : Addr} (hx : x.spot = none) (i : Nat) {v : Value} (h : W.cell? (x.add i) = some v) : ∃ c e r, W.heap[x.block]? = some (.cells c e r) ∧ c[x.off + i]? = some v := by
  have e1 : x.add i = ⟨x.block, x.off + i, none⟩ := by
    unfold Addr.add
    split
    · rename_i e; subst e; cases x; simp at hx; subst hx; rfl
    · rfl
  rw [e1] at h
  unfold World.cell? at h
  split at h
  · rename_i c e r hh; exact ⟨c, e, r, hh, by simpa using h⟩
  · cases h
/-- An argument's slice, as the machine tells it. -/
def IsArg (W : World) (a : Option Addr) (n cap es : Nat) (cs : List Cell) : Prop :=
  (a = none ∧ n = 0 ∧ cap = 0 ∧ cs = []) ∨ ∃ x, a = some x ∧ x.spot = none ∧ n ≤ cap ∧ cs.length = n * es ∧ (∀ i, i < cap * es → ∃ v, W.cell? (x.add i) = some v) ∧ ∀ i c, cs[i]? = some c → ∃ v, W.cell? (x.add i) = some v ∧ ∀ φ, CRel φ c v
theorem Start.arg {W : World} {φ : Phi} {G : GH} (s : Start W φ G) {a : Option Addr} {n cap es : Nat} {cs : List Cell} (h : IsArg W a n cap es cs) :
    ∃ φ' id o, Start W φ' (put1 G o) ∧ φ.le φ' ∧ V1Rel φ' (.c (.sl es id 0 n)) (.slice a n cap) ∧ (cs = [] ∨ (put1 G o).row id = some cs) := by
  rcases h with ⟨rfl, rfl, rfl, rfl⟩ | ⟨x, rfl, hsp, hn, hl, hcap, hcs⟩
  · exact ⟨φ, 0, none, s.room none, .refl _, .inl ⟨rfl, rfl, rfl, rfl⟩, .inl rfl⟩
  · have fr := s.fresh G.next (Nat.le_refl _)
    have le := Phi.le_put (φ := φ) ⟨x.block, x.off, x.off + cap * es⟩ fr
    have e0 : x = ⟨x.block, x.off, none⟩ := by cases x; simp at hsp; subst hsp; rfl
    have v1 : V1Rel (φ.put G.next ⟨x.block, x.off, x.off + cap * es⟩) (.c (.sl es G.next 0 n)) (.slice (some x) n cap) := by
      refine .inr ⟨by have := s.wf.2; omega, ⟨x.block, x.off, x.off + cap * es⟩, x.off, cap, Phi.put_self _ _ _, by rw [← e0], hn, .inl ⟨rfl, rfl⟩⟩
    by_cases hnil : cs = []
    · exact ⟨_, G.next, none, s.room (some ⟨x.block, x.off, x.off + cap * es⟩), le, v1, .inl hnil⟩
    · have hpos : 0 < cs.length := by cases cs with | nil => exact absurd rfl hnil | cons => simp
      have hle : n * es ≤ cap * es := Nat.mul_le_mul_right _ hn
      obtain ⟨v, hv, _⟩ := hcs 0 _ (List.getElem?_eq_getElem hpos)
      obtain ⟨c, e, r, hh, _⟩ := cell_add hsp 0 hv
      obtain ⟨u, hu⟩ := hcap (cap * es - 1) (by omega)
      obtain ⟨c', e', r', hh', hu'⟩ := cell_add hsp _ hu
      rw [hh] at hh'; cases hh'
      have hsz := (Array.getElem?_eq_some_iff.1 hu').1
      refine ⟨_, G.next, some cs, s.row (cs := cs) (L := ⟨x.block, x.off, x.off + cap * es⟩) ⟨c, e, r, hh, by dsimp only; omega, by dsimp only; omega, fun φ i y hy => ?_⟩, le, v1, .inr ?_⟩
      · obtain ⟨v, hv, hr⟩ := hcs i y hy
        obtain ⟨c', e', r', hh', hv'⟩ := cell_add hsp i hv
        rw [hh] at hh'; cases hh'
        exact ⟨v, hv', hr φ⟩
      · unfold GH.row; rw [put1_get, if_pos rfl]; rfl
theorem arg_keep {G : GH} {o : Option (List Cell)} {id : Nat} {cs : List Cell} (w : G.wf) (h : cs = [] ∨ G.row id = some cs) : cs = [] ∨ (put1 G o).row id = some cs := by
  rcases h with h | h
  · exact .inl h
  · right
    have := S.row_lt w h
    exact S.row_cong h (by rw [put1_get, if_neg (by omega)])
theorem wf64 {a : Int} (h : (Lit.int .i64 a).wf = true) : S.R64 a := by
  simp only [Lit.wf, IntKind.min, IntKind.max, IntKind.signed, IntKind.bits, Bool.and_eq_true, decide_eq_true_eq, if_true] at h
  unfold S.R64; omega
/-- As the row reads, so does the slice. -/
theorem arg_sl {α : Type} {G : GH} {e : α → List Cell} {id : Nat} {xs : List α} (h : S.cells e xs = [] ∨ G.row id = some (S.cells e xs)) (h0 : S.cells e xs = [] → xs = []) : S.Sl G e id 0 xs := by
  rcases h with h | h
  · exact .inl (h0 h)
  · exact .inr ⟨_, h, by omega, by rw [List.drop_zero, List.take_length]⟩
theorem Start.calls {P : Program} {T : Nat → Option (Nat × DFn)} {W : World} {φ : Phi} {G G' : GH} (s : Start W φ G) (hmix : P.follows .mixedOrders = true) (hT : ∀ f p d, T f = some (p, d) → OkF P f p d) {f : Nat} {args : List V1} {argv : Array Value}
    (ra : R2 (V1Rel φ) args argv.toList) (h : callW T f args G = some ([.c (.bool true)], G')) : Calls P f argv W fun e W' => e = .returned (.bool true) ∧ Below W.heap.size W W' := by
  obtain ⟨n, h⟩ := callW_some.1 h
  refine ((callD_sound (base := W.heap.size) hmix hT n _ _ _ _ _ h).2 φ W argv s.H s.wf (Nat.le_refl _) (fun id a _ => s.fresh id a) ra).mono fun e W' ⟨φ', v, he, hv, g⟩ => ?_
  have hv : v = .bool true := hv
  subst hv
  refine ⟨he, g.os, g.tape, g.output, g.sz, fun b hb => g.keep b hb ?_⟩
  rintro ⟨id, o, L, h1, h2, _⟩
  rw [s.no id o h1] at h2; cases h2
end Go.Proofs.D
