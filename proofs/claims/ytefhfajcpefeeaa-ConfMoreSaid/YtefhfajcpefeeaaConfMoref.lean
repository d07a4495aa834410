/- Texts of the proof (OKT, SpCalc, SpConf, SpClass, SpPicks, BegB, LawConfMore); no condition. -/
import Derived.Test.YtefhfajcpefeeaaFb
import Derived.Test.YtefhfajcpefeeaaConfMored
import Derived.Test.YtefhfajcpefeeaaConfMoree
import Derived.Test.YtefhfajcpefeeaaConfMorec
set_option linter.unusedSimpArgs false
set_option linter.unusedVariables false
/- All functions pass the check. -/
set_option maxRecDepth 100000
namespace Go.Proofs.D
open Go
theorem tab_ok : ∀ x ∈ tab, okF Try.prog x.1 x.2.1 x.2.2 = true := by
  unfold tab
  exact List.forall_mem_cons.2 ⟨calc_Log.ok, List.forall_mem_cons.2 ⟨calc_Up.ok, List.forall_mem_cons.2 ⟨conf_Shift.ok, List.forall_mem_cons.2 ⟨hodmanplay_Made.ok, List.forall_mem_cons.2 ⟨hodmanplay_Picks_Num.ok, List.forall_mem_cons.2 ⟨hodmanplay_Picks_Raw.ok, List.forall_mem_cons.2 ⟨conf_within.ok, List.forall_mem_cons.2 ⟨calc_Add.ok, List.forall_mem_cons.2 ⟨calc_Round.ok, List.forall_mem_cons.2 ⟨conf_Of.ok, List.forall_mem_cons.2 ⟨conf_Ceil.ok, List.forall_mem_cons.2 ⟨hodmanlaw2_begun.ok, List.forall_mem_cons.2 ⟨hodmanlaw2_ConfMore.ok, List.forall_mem_nil _⟩⟩⟩⟩⟩⟩⟩⟩⟩⟩⟩⟩⟩
theorem T_ok : ∀ f p d, T f = some (p, d) → okF Try.prog f p d = true := by
  intro f p d h
  unfold T at h
  obtain ⟨x, hx, e⟩ := Option.map_eq_some_iff.1 h
  have h1 := List.mem_of_find?_eq_some hx
  have h2 := List.find?_some hx
  have h3 : x.1 = f := by simpa using h2
  have := tab_ok x h1
  rw [h3, e] at this
  exact this
theorem mixed : Try.prog.follows .mixedOrders = true := by kernel_rfl
end Go.Proofs.D
/- What the functions of calc and of the first reference come to. -/
set_option linter.unusedVariables false
set_option linter.unusedSimpArgs false
namespace Go.Proofs.D.S
open Go Go.RowKit
variable {G : GH}
theorem band_eq (x y : Int) : Go.bits .and .i64 x y = IntKind.i64.wrap (((BitVec.ofInt IntKind.i64.bits x) &&& (BitVec.ofInt IntKind.i64.bits y)).toNat : Int) := rfl
theorem bxor_eq (x y : Int) : Go.bits .xor .i64 x y = IntKind.i64.wrap (((BitVec.ofInt IntKind.i64.bits x) ^^^ (BitVec.ofInt IntKind.i64.bits y)).toNat : Int) := rfl
theorem calc_Add.sp {a b : Int} (ha : R64 a) (hb : R64 b) : CW calc_Add.id [.c (.int .i64 a), .c (.int .i64 b)] G = some ([.c (.int .i64 (addS a b).1), .c (.bool (addS a b).2)], G) := by
  rw [calc_Add.cw]
  have e : IntKind.i64.wrap (IntKind.u64.wrap (IntKind.u64.wrap a + IntKind.u64.wrap b)) = wrap64 (a + b) := by rw [i64w]; exact add_sum a b
  have t := add_test a b ha hb
  rw [band_eq, bxor_eq, bxor_eq] at t
  simp only [calc_Add.f, e, Bool.cond_decide]
  generalize (IntKind.i64.wrap (((BitVec.ofInt IntKind.i64.bits (IntKind.i64.wrap (((BitVec.ofInt IntKind.i64.bits a) ^^^ (BitVec.ofInt IntKind.i64.bits (wrap64 (a + b)))).toNat : Int))) &&& (BitVec.ofInt IntKind.i64.bits (IntKind.i64.wrap (((BitVec.ofInt IntKind.i64.bits b) ^^^ (BitVec.ofInt IntKind.i64.bits (wrap64 (a + b)))).toNat : Int)))).toNat : Int)) = X at t ⊢
  unfold addS
  by_cases h : R64 (a + b)
  · rw [if_neg (fun c => t.1 c h), if_pos h, wrap_in h]
  · rw [if_pos (t.2 h), if_neg h]
theorem calc_Up.lp (v : Int) (h1 : 1 ≤ v) (h2 : v ≤ 4611686018427387904) (d : Nat) : ∀ (e : Nat), e + d = clog v.toNat →
    calc_Up.L17 machW CW v ((2 ^ e : Nat) : Int) G = some ([.c (.int .i64 ((2 ^ clog v.toNat : Nat) : Int)), .c (.bool true)], G) := by
  have hc : clog v.toNat ≤ 62 := clog_le (by simp; omega)
  induction d with
  | zero =>
    intro e he
    obtain rfl : e = clog v.toNat := by omega
    have := le_clog v.toNat
    rw [calc_Up.L17_eq, condD_neg (by omega)]
  | succ d ih =>
    intro e he
    have h3 := lt_clog (n := v.toNat) (e := e) (by omega)
    have h4 := pow62 (e := e) (by omega)
    have h5 := pow62 (e := e + 1) (by omega)
    have e1 : IntKind.i64.wrap (((2 ^ e : Nat) : Int) * 2 ^ (min (1 : Int).toNat IntKind.i64.bits)) = ((2 ^ (e + 1) : Nat) : Int) := by
      have : (2 : Int) ^ (min (1 : Int).toNat IntKind.i64.bits) = 2 := by decide
      rw [this, i64w, wrap_id] <;> rw [Nat.pow_succ] at * <;> omega
    rw [calc_Up.L17_eq, condD_pos (by omega), e1]
    exact ih (e + 1) (by omega)
theorem calc_Up.sp (v : Int) : CW calc_Up.id [.c (.int .i64 v)] G = some ([.c (.int .i64 (upS v).1), .c (.bool (upS v).2)], G) := by
  rw [calc_Up.cw]
  unfold calc_Up.f upS
  by_cases h1 : v < 1
  · rw [if_pos h1, condD_pos h1, calc_Up.J6_eq]; rfl
  · rw [if_neg h1, condD_neg h1]
    by_cases h2 : v > 4611686018427387904
    · rw [if_pos h2, decide_eq_true h2, calc_Up.J6_eq]; rfl
    · rw [if_neg h2, decide_eq_false h2, calc_Up.J6_eq]
      exact calc_Up.lp v (by omega) (by omega) (clog v.toNat) 0 (by omega)
theorem calc_Log.lp (e : Nat) : ∀ (n : Int), 0 ≤ n → n + e ≤ 100 →
    calc_Log.L18 machW CW ((2 ^ e : Nat) : Int) n G = some ([.c (.int .i64 (n + e)), .c (.bool true)], G) := by
  induction e with
  | zero => intro n h0 h1; rw [calc_Log.L18_eq, condD_neg (by decide)]; simp
  | succ e ih =>
    intro n h0 h1
    have h3 : 0 < 2 ^ e := Nat.two_pow_pos e
    have e1 : Int.fdiv ((2 ^ (e + 1) : Nat) : Int) (2 ^ (min (1 : Int).toNat IntKind.i64.bits)) = ((2 ^ e : Nat) : Int) := by
      have : (2 : Int) ^ (min (1 : Int).toNat IntKind.i64.bits) = 2 := by decide
      rw [this, Int.fdiv_eq_ediv_of_nonneg _ (by omega), Nat.pow_succ]; omega
    rw [calc_Log.L18_eq, condD_pos (by rw [Nat.pow_succ]; omega), e1, i64w, wrap_id (by omega) (by omega), ih (n + 1) (by omega) (by omega)]
    simp; omega
theorem calc_Log.sp {v : Int} (hv : R64 v) : CW calc_Log.id [.c (.int .i64 v)] G = some ([.c (.int .i64 (logS v).1), .c (.bool (logS v).2)], G) := by
  rw [calc_Log.cw]
  unfold calc_Log.f logS
  by_cases h1 : v < 1
  · rw [condD_pos h1, if_neg (by omega), calc_Log.J6_eq]; rfl
  · rw [condD_neg h1]
    unfold R64 at hv
    have hp := and_pow v (by omega) (by omega)
    rw [isPow_iff] at hp
    rw [band_eq, ← i64w (v - 1)] at hp
    have hl := log2_lt63 (v := v) (by omega) (by omega)
    by_cases h2 : v.toNat = 2 ^ Nat.log2 v.toNat
    · have h3 : v = ((2 ^ Nat.log2 v.toNat : Nat) : Int) := by omega
      rw [if_pos ⟨by omega, h3⟩, decide_eq_true (hp.2 h2), calc_Log.J6_eq]
      have h5 := calc_Log.lp (G := G) (Nat.log2 v.toNat) 0 (by omega) (by omega)
      rw [← h3] at h5
      simpa using h5
    · rw [if_neg (by rintro ⟨_, h⟩; exact h2 (by omega)), decide_eq_false (fun c => h2 (hp.1 c)), calc_Log.J6_eq]; rfl
theorem calc_Round.sp {v d : Int} (hv : R64 v) (ht : R64 d) : CW calc_Round.id [.c (.int .i64 v), .c (.int .i64 d)] G = some ([.c (.int .i64 (roundS v d).1), .c (.bool (roundS v d).2)], G) := by
  rw [calc_Round.cw]
  unfold calc_Round.f roundS
  have hv' := hv
  unfold R64 at hv ht
  by_cases h1 : v < 0
  · rw [condD_pos h1, if_pos h1, calc_Round.J6_eq]; rfl
  · rw [condD_neg h1, if_neg h1]
    by_cases h2 : d < 1
    · rw [if_pos h2, decide_eq_true h2, calc_Round.J6_eq]; rfl
    · rw [if_neg h2, decide_eq_false h2, calc_Round.J6_eq]
      have e1 : Int.tmod v d = v % d := Int.tmod_eq_emod_of_nonneg (by omega)
      have h3 := Int.emod_nonneg v (b := d) (by omega)
      have h4 := Int.emod_lt_of_pos v (b := d) (by omega)
      rw [binD_rem (by omega), e1]
      by_cases h5 : v % d = 0
      · rw [if_pos h5]; simp only [q_bs, q_I, q_B, q_P, q_S, q_M, q_c, q_a, q_gz, q_gs, q_gk, q_ct, q_cf, q_nt, q_nf, q_xt, q_xf, q_tt, q_ff, q_tf, q_ft, q_at, q_af, decide_eq_true h5]
      · rw [if_neg h5]
        simp only [q_bs, q_I, q_B, q_P, q_S, q_M, q_c, q_a, q_gz, q_gs, q_gk, q_ct, q_cf, q_nt, q_nf, q_xt, q_xf, q_tt, q_ff, q_tf, q_ft, q_at, q_af, decide_eq_false h5]
        rw [i64w, wrap_id (by omega) (by omega), calc_Add.sp hv' (by unfold R64; omega)]
        rfl
end Go.Proofs.D.S
/- What the functions of conf, class, admit and of the first reference come to, and what is read out of numbers. -/
set_option linter.unusedVariables false
set_option linter.unusedSimpArgs false
namespace Go.Proofs.D.S
open Go Go.RowKit
variable {G G0 : GH}
theorem Hp.ne {id : Nat} {c : Cell} {cs : List Cell} {L : List (Nat × Obj)} (h : Hp G0 G ((id, .row (c :: cs) false) :: L)) : id ≠ 0 := by
  rcases h.ok _ (List.mem_cons_self ..) with ⟨_, b⟩ | ⟨_, b, _⟩
  · simp at b
  · dsimp only at b; omega
theorem nbeq {n : Nat} (h : n ≠ 0) : (!Nat.beq n 0) = true := by
  cases n with
  | zero => exact absurd rfl h
  | succ n => rfl
theorem guardN {R : Type} {n : Nat} (h : n ≠ 0) (K : Option R) : guardK (!Nat.beq n 0) K = K := guardK_of (nbeq h) K
/-- The sizes that Of comes to, one by one. -/
theorem of_steps {r : Rw} (hin : r.In) :
    upS r.g = (((2 ^ eG r.g : Nat) : Int), true) ∧ upS (mx2 r.la ((2 ^ eG r.g : Nat) : Int)) = (((2 ^ eN r.g r.la : Nat) : Int), true) ∧ upS (mx2 r.pa ((2 ^ eG r.g : Nat) : Int)) = (((2 ^ ePg r.g r.pa : Nat) : Int), true) ∧
    (mx2 ((2 ^ eN r.g r.la : Nat) : Int) ((2 ^ ePg r.g r.pa : Nat) : Int)) * 2 = wS r.g r.la r.pa ∧ R64 (wS r.g r.la r.pa) ∧ R64 r.li ∧ roundS r.li (wS r.g r.la r.pa) = (mS r.g r.la r.li r.pa, true) ∧ ((2 ^ eG r.g : Nat) : Int) ≠ 0 ∧
    wrap64 (Int.tdiv ((2 ^ eN r.g r.la : Nat) : Int) ((2 ^ eG r.g : Nat) : Int)) = ((2 ^ (eN r.g r.la - eG r.g) : Nat) : Int) ∧ R64 ((2 ^ (eN r.g r.la - eG r.g) : Nat) : Int) ∧
    0 ≤ mS r.g r.la r.li r.pa ∧ R64 (mS r.g r.la r.li r.pa / 2) ∧ wrap64 (((eN r.g r.la - eG r.g : Nat) : Int) * (mS r.g r.la r.li r.pa / 2)) = lS r.g r.la * (mS r.g r.la r.li r.pa / 2) ∧ wrap64 (mS r.g r.la r.li r.pa + lS r.g r.la * (mS r.g r.la r.li r.pa / 2)) = hS r.g r.la r.li r.pa := by
  obtain ⟨g, la, li, pa, bu, se⟩ := r
  obtain ⟨⟨g1, g2⟩, ⟨l1, l2⟩, ⟨i1, i2⟩, ⟨p1, p2⟩, hb, hs⟩ := hin
  dsimp only at *
  have b0 := eG_le g2
  have b1 := eN_le g2 l2
  have b2 := ePg_le g2 p2
  have q0 := pow16 b0
  have q1 := pow16 b1
  have q2 := pow16 b2
  have z0 := Nat.two_pow_pos (eG g)
  have z1 := Nat.two_pow_pos (eN g la)
  have z2 := Nat.two_pow_pos (ePg g pa)
  have mxi : ∀ a b : Int, mx2 a b = if a < b then b else a := fun a b => by rw [mx2_eq, max_if]
  have eN' : clog (mx2 la ((2 ^ eG g : Nat) : Int)).toNat = eN g la := clog_toMax la (eG g) _ (mxi _ _)
  have eP' : clog (mx2 pa ((2 ^ eG g : Nat) : Int)).toNat = ePg g pa := clog_toMax pa (eG g) _ (mxi _ _)
  have mb : ∀ a : Int, 1 ≤ a → a ≤ 65536 → 1 ≤ mx2 a ((2 ^ eG g : Nat) : Int) ∧ mx2 a ((2 ^ eG g : Nat) : Int) ≤ 65536 := by
    intro a h1 h2
    rw [mx2_eq]; omega
  have m1 := mb la l1 l2
  have m2 := mb pa p1 p2
  obtain ⟨a1, a2, a3, a4, a5⟩ := mS_facts (g := g) (la := la) (pa := pa) i1 i2 g2 l2 p2
  obtain ⟨r1, r2, r3, r4⟩ := hS_range (g := g) (la := la) (pa := pa) i1 i2 g2 l2 p2
  have hge : eG g ≤ eN g la := by unfold eN; omega
  have h5 := pow16 (e := eN g la - eG g) (by omega)
  have h4 := Nat.two_pow_pos (eN g la - eG g)
  refine ⟨upS_in g1 (by omega), by rw [upS_in m1.1 (Int.le_trans m1.2 (by decide)), eN'], by rw [upS_in m2.1 (Int.le_trans m2.2 (by decide)), eP'], ?_, by unfold R64; omega, by unfold R64; omega, round_mS i1 i2 g2 l2 p2, by omega, ?_, by unfold R64; omega, by omega, by unfold R64; omega, ?_, ?_⟩
  · rw [mx2_eq]
    unfold wS
    rcases Nat.le_total (eN g la) (ePg g pa) with h | h
    · have : (2 : Nat) ^ eN g la ≤ 2 ^ ePg g pa := Nat.pow_le_pow_right (by decide) h
      rw [Nat.max_eq_right h, Nat.pow_succ]; omega
    · have : (2 : Nat) ^ ePg g pa ≤ 2 ^ eN g la := Nat.pow_le_pow_right (by decide) h
      rw [Nat.max_eq_left h, Nat.pow_succ]; omega
  · have h1 : (2 : Nat) ^ eN g la = 2 ^ eG g * 2 ^ (eN g la - eG g) := by rw [← Nat.pow_add, show eG g + (eN g la - eG g) = eN g la by omega]
    have h2 : Int.tdiv ((2 ^ eN g la : Nat) : Int) ((2 ^ eG g : Nat) : Int) = ((2 ^ (eN g la - eG g) : Nat) : Int) := by
      rw [h1, Int.natCast_mul, Int.mul_tdiv_cancel_left _ (by omega)]
    rw [h2, wrap_id (by omega) (by omega)]
  · exact wrap_id (by show _ ≤ lS g la * (mS g la li pa / 2); omega) (by show lS g la * (mS g la li pa / 2) ≤ _; omega)
  · exact wrap_id (by show _ ≤ hS g la li pa; omega) (by show hS g la li pa ≤ _; omega)
theorem pow1 : (2 : Int) ^ (min (1 : Int).toNat IntKind.i64.bits) = 2 := by decide
theorem conf_within.sp {a b c d : Int} {id : Nat} {L : List (Nat × Obj)} (h : Hp G0 G ((id, .row [.int .i64 a, .int .i64 b, .int .i64 c, .int .i64 d] false) :: L)) :
    CW conf_within.id [.c (.sl 1 id 0 4)] G = some ([.c (.bool (decide ((1 ≤ a ∧ a ≤ 65536) ∧ (1 ≤ b ∧ b ≤ 65536) ∧ (1 ≤ c ∧ c ≤ 65536) ∧ (1 ≤ d ∧ d ≤ 65536))))], G) := by
  have ld := fun off => h.ld (off := off) h.ne
  rw [conf_within.cw]
  simp only [conf_within.f]
  have out : ∀ (i : Nat) (x : Int), i < 4 → [Cell.int .i64 a, .int .i64 b, .int .i64 c, .int .i64 d][i]? = some (.int .i64 x) → ¬ (1 ≤ x ∧ x ≤ 65536) → ¬ ((1 ≤ a ∧ a ≤ 65536) ∧ (1 ≤ b ∧ b ≤ 65536) ∧ (1 ≤ c ∧ c ≤ 65536) ∧ (1 ≤ d ∧ d ≤ 65536)) →
      conf_within.L20 machW CW id 0 4 ((4 : Nat) : Int) (i : Int) G = some ([.c (.bool (decide ((1 ≤ a ∧ a ≤ 65536) ∧ (1 ≤ b ∧ b ≤ 65536) ∧ (1 ≤ c ∧ c ≤ 65536) ∧ (1 ≤ d ∧ d ≤ 65536))))], G) := by
    intro i x hi hx hn hno
    rw [decide_eq_false hno, conf_within.L20_eq, condD_pos (by omega), guardD_of (by omega), ld, show 0 + Int.toNat (i : Int) * 1 = i by omega, hx]
    simp only [q_bs, q_I, q_B, q_P, q_S, q_M, q_c, q_a, q_gz, q_gs, q_gk, q_ct, q_cf, q_nt, q_nf, q_xt, q_xf, q_tt, q_ff, q_tf, q_ft, q_at, q_af]
    by_cases h1 : x < 1
    · rw [condD_pos h1, conf_within.J12_eq]; rfl
    · rw [condD_neg h1, decide_eq_true (by omega : x > 65536), conf_within.J12_eq]; rfl
  have on : ∀ (i : Nat) (x : Int) (R : Option Res), i < 4 → [Cell.int .i64 a, .int .i64 b, .int .i64 c, .int .i64 d][i]? = some (.int .i64 x) → (1 ≤ x ∧ x ≤ 65536) →
      conf_within.L20 machW CW id 0 4 ((4 : Nat) : Int) ((i + 1 : Nat) : Int) G = R → conf_within.L20 machW CW id 0 4 ((4 : Nat) : Int) (i : Int) G = R := by
    intro i x R hi hx hn hno
    rw [conf_within.L20_eq, condD_pos (by omega), guardD_of (by omega), ld, show 0 + Int.toNat (i : Int) * 1 = i by omega, hx]
    simp only [q_bs, q_I, q_B, q_P, q_S, q_M, q_c, q_a, q_gz, q_gs, q_gk, q_ct, q_cf, q_nt, q_nf, q_xt, q_xf, q_tt, q_ff, q_tf, q_ft, q_at, q_af]
    rw [condD_neg (by omega), decide_eq_false (by omega : ¬ x > 65536), conf_within.J12_eq, i64w, wrap_id (by omega) (by omega)]
    exact hno
  show conf_within.L20 machW CW id 0 4 ((4 : Nat) : Int) ((0 : Nat) : Int) G = _
  by_cases hg : 1 ≤ a ∧ a ≤ 65536
  · refine on 0 a _ (by omega) rfl hg ?_
    by_cases hl : 1 ≤ b ∧ b ≤ 65536
    · refine on 1 b _ (by omega) rfl hl ?_
      by_cases hi : 1 ≤ c ∧ c ≤ 65536
      · refine on 2 c _ (by omega) rfl hi ?_
        by_cases hp : 1 ≤ d ∧ d ≤ 65536
        · refine on 3 d _ (by omega) rfl hp ?_
          rw [decide_eq_true ⟨hg, hl, hi, hp⟩, conf_within.L20_eq, condD_neg (by omega)]
        · exact out 3 d (by omega) rfl hp (by omega)
      · exact out 2 c (by omega) rfl hi (by omega)
    · exact out 1 b (by omega) rfl hl (by omega)
  · exact out 0 a (by omega) rfl hg (by omega)
theorem conf_Of.done {r : Rw} (hin : r.In) : conf_Of.J6 machW CW false r.g r.la r.li r.pa r.bu r.se 0 0 0 0 0 0 0 0 G = some ([.agg (cfC (ofC r).1), .c (.int .i64 (ofC r).2)], G) := by
  obtain ⟨u0, u1, u2, eW, rw1, rw2, rd, ez, eD, rD, m0, rm, eL, eH⟩ := of_steps hin
  have eM2 : Int.fdiv (mS r.g r.la r.li r.pa) 2 = mS r.g r.la r.li r.pa / 2 := by
    rw [Int.fdiv_eq_ediv_of_nonneg _ (by omega)]
  rw [conf_Of.J6_eq]
  simp only [q_bs, q_I, q_B, q_P, q_S, q_M, q_c, q_a, q_gz, q_gs, q_gk, q_ct, q_cf, q_nt, q_nf, q_xt, q_xf, q_tt, q_ff, q_tf, q_ft, q_at, q_af, calc_Up.sp, u0, u1, u2, i64w]
  rw [pow1, eW, wrap_in rw1, calc_Round.sp rw2 rw1, rd]
  simp only [q_bs, q_I, q_B, q_P, q_S, q_M, q_c, q_a, q_gz, q_gs, q_gk, q_ct, q_cf, q_nt, q_nf, q_xt, q_xf, q_tt, q_ff, q_tf, q_ft, q_at, q_af, binD_quo ez, i64w, eD]
  rw [calc_Log.sp rD, logS_pow]
  simp only [q_bs, q_I, q_B, q_P, q_S, q_M, q_c, q_a, q_gz, q_gs, q_gk, q_ct, q_cf, q_nt, q_nf, q_xt, q_xf, q_tt, q_ff, q_tf, q_ft, q_at, q_af, i64w, eM2, eL, eH]
  unfold ofC
  rw [if_pos hin]
  by_cases h6 : hS r.g r.la r.li r.pa > 65536
  · rw [condD_pos h6, if_pos h6]; rfl
  · rw [condD_neg h6, if_neg h6]; rfl
theorem conf_Of.sp (r : Rw) (w : G.wf) : ∃ G', CW conf_Of.id [.agg (rwC r)] G = some ([.agg (cfC (ofC r).1), .c (.int .i64 (ofC r).2)], G') ∧ Hp G G' [] := by
  have h := (Hp.refl w).alloc (.row [.int .i64 r.g, .int .i64 r.la, .int .i64 r.li, .int .i64 r.pa] false)
  refine ⟨_, ?_, h.tl⟩
  have sp := conf_within.sp h
  rw [conf_Of.cw]
  simp only [conf_Of.f, sp, q_bs, q_I, q_B, q_P, q_S, q_M, q_c, q_a, q_gz, q_gs, q_gk, q_ct, q_cf, q_nt, q_nf, q_xt, q_xf, q_tt, q_ff, q_tf, q_ft, q_at, q_af]
  generalize G.alloc _ = G1 at h sp ⊢
  have bad : ¬ r.In → conf_Of.J6 machW CW true r.g r.la r.li r.pa r.bu r.se 0 0 0 0 0 0 0 0 G1 = some ([.agg (cfC (ofC r).1), .c (.int .i64 (ofC r).2)], G1) := fun h => by rw [conf_Of.J6_eq]; unfold ofC; rw [if_neg h]; rfl
  by_cases h0 : (1 ≤ r.g ∧ r.g ≤ 65536) ∧ (1 ≤ r.la ∧ r.la ≤ 65536) ∧ (1 ≤ r.li ∧ r.li ≤ 65536) ∧ (1 ≤ r.pa ∧ r.pa ≤ 65536)
  · rw [condN_neg h0]
    by_cases h1 : r.bu < 0
    · rw [condD_pos h1]; exact bad (by unfold Rw.In InS; omega)
    · rw [condD_neg h1]
      by_cases h2 : r.bu > 65536
      · rw [condD_pos h2]; exact bad (by unfold Rw.In InS; omega)
      · rw [condD_neg h2]
        by_cases h3 : r.se < 0
        · rw [condD_pos h3]; exact bad (by unfold Rw.In InS; omega)
        · rw [condD_neg h3]
          by_cases h4 : r.se > 255
          · rw [decide_eq_true h4]; exact bad (by unfold Rw.In InS; omega)
          · rw [decide_eq_false h4]; exact conf_Of.done (by unfold Rw.In InS; omega)
  · rw [condN_pos h0]; exact bad (by unfold Rw.In InS; omega)
theorem conf_Ceil.sp {c : Cf} (h : c.Ok) (k : Int) : CW conf_Ceil.id [.agg (cfC c), .c (.int .i64 k)] G = some ([.c (.int .i64 (c.ceil k))], G) := by
  rw [conf_Ceil.cw]
  unfold conf_Ceil.f
  by_cases h1 : k < 0
  · rw [condD_pos h1, conf_Ceil.J6_eq]; unfold Cf.ceil ceilS; rw [if_pos h1]; rfl
  · rw [condD_neg h1, conf_Ceil.J6_eq]
    by_cases h2 : k > c.L
    · rw [decide_eq_true h2]; unfold Cf.ceil ceilS; rw [if_neg h1, if_pos h2]; rfl
    · rw [decide_eq_false h2]
      simp only [q_bs, q_I, q_B, q_P, q_S, q_M, q_c, q_a, q_gz, q_gs, q_gk, q_ct, q_cf, q_nt, q_nf, q_xt, q_xf, q_tt, q_ff, q_tf, q_ft, q_at, q_af, i64w, pow1, Int.fdiv_eq_ediv_of_nonneg _ (show (0 : Int) ≤ 2 by omega), ceil_wrap h (show 0 ≤ k by omega) (show k ≤ c.L by omega)]
end Go.Proofs.D.S
/- What the functions of class, admit and the first reference's come to. -/
set_option linter.unusedVariables false
set_option linter.unusedSimpArgs false
namespace Go.Proofs.D.S
open Go Go.RowKit
variable {G G0 : GH}
theorem conf_Shift.sp {c : Cf} {g l : Nat} (e : c.Ex g l) {ch : Int} (hc : R64 ch) : CW conf_Shift.id [.agg (cfC c), .c (.int .i64 ch)] G = some ([.c (.int .i64 (shiftS g l ch).1), .c (.bool (shiftS g l ch).2)], G) := by
  have z0 := Nat.two_pow_pos g
  have hG := e.hG
  have hL := e.hL
  rw [conf_Shift.cw]
  unfold conf_Shift.f
  have no : (∀ k, k ≤ l → ch ≠ ((2 ^ (g + k) : Nat) : Int)) → conf_Shift.J6 machW CW ch true c.G c.N c.M c.L c.Pg c.P c.H c.Sd G = some ([.c (.int .i64 (shiftS g l ch).1), .c (.bool (shiftS g l ch).2)], G) := fun h => by
    rw [shiftS_none h, conf_Shift.J6_eq]; rfl
  have ge : ∀ k : Nat, ((2 ^ g : Nat) : Int) ≤ ((2 ^ (g + k) : Nat) : Int) := fun k => by
    have : (2 : Nat) ^ g ≤ 2 ^ (g + k) := Nat.pow_le_pow_right (by decide) (by omega)
    omega
  have dv : ∀ k : Nat, ((2 ^ (g + k) : Nat) : Int) % ((2 ^ g : Nat) : Int) = 0 := fun k => by
    rw [Nat.pow_add, Int.natCast_mul, Int.mul_emod_right]
  rw [condD_neg (by omega)]
  by_cases h1 : ch < c.G
  · rw [condD_pos h1]
    exact no (fun k _ e => by have := ge k; omega)
  · rw [condD_neg h1, binD_rem (by omega), Int.tmod_eq_emod_of_nonneg (show 0 ≤ ch by omega)]
    simp only [q_bs, q_I, q_B, q_P, q_S, q_M, q_c, q_a, q_gz, q_gs, q_gk, q_ct, q_cf, q_nt, q_nf, q_xt, q_xf, q_tt, q_ff, q_tf, q_ft, q_at, q_af]
    by_cases h2 : ch % c.G = 0
    · rw [decide_eq_true h2, Bool.not_true, conf_Shift.J6_eq, binD_quo (by omega)]
      simp only [q_bs, q_I, q_B, q_P, q_S, q_M, q_c, q_a, q_gz, q_gs, q_gk, q_ct, q_cf, q_nt, q_nf, q_xt, q_xf, q_tt, q_ff, q_tf, q_ft, q_at, q_af, i64w]
      have h3 : ch = ((2 ^ g : Nat) : Int) * (ch / ((2 ^ g : Nat) : Int)) := by have := Int.mul_ediv_add_emod ch ((2 ^ g : Nat) : Int); rw [hG] at h2; omega
      have h4 : 1 ≤ ch / ((2 ^ g : Nat) : Int) := by
        rcases Int.lt_or_le (ch / ((2 ^ g : Nat) : Int)) 1 with h | h
        · have h9 : ((2 ^ g : Nat) : Int) * (ch / ((2 ^ g : Nat) : Int)) ≤ 0 := Int.mul_nonpos_of_nonneg_of_nonpos (by omega) (by omega)
          omega
        · exact h
      have h5 : ch / ((2 ^ g : Nat) : Int) ≤ ch := Int.ediv_le_self _ (by omega)
      unfold R64 at hc
      rw [Int.tdiv_eq_ediv_of_nonneg (by omega), hG, wrap_id (by omega) (by omega), calc_Log.sp (by unfold R64; omega)]
      simp only [q_bs, q_I, q_B, q_P, q_S, q_M, q_c, q_a, q_gz, q_gs, q_gk, q_ct, q_cf, q_nt, q_nf, q_xt, q_xf, q_tt, q_ff, q_tf, q_ft, q_at, q_af]
      generalize hq : ch / ((2 ^ g : Nat) : Int) = q at *
      by_cases h6 : q = ((2 ^ Nat.log2 q.toNat : Nat) : Int)
      · have hlog : logS q = (((Nat.log2 q.toNat : Nat) : Int), true) := by unfold logS; rw [if_pos ⟨h4, h6⟩]
        rw [hlog]
        have h7 : ch = ((2 ^ (g + Nat.log2 q.toNat) : Nat) : Int) := by rw [h3, Nat.pow_add, Int.natCast_mul, ← h6]
        simp only [q_bs, q_I, q_B, q_P, q_S, q_M, q_c, q_a, q_gz, q_gs, q_gk, q_ct, q_cf, q_nt, q_nf, q_xt, q_xf, q_tt, q_ff, q_tf, q_ft, q_at, q_af, conf_Shift.J14_eq]
        by_cases h8 : Nat.log2 q.toNat ≤ l
        · rw [condD_neg (by omega), h7, shiftS_pow h8]
        · rw [condD_pos (by omega), shiftS_none]
          intro k hk e
          rw [h7] at e
          have e' : (2 : Nat) ^ (g + Nat.log2 q.toNat) = 2 ^ (g + k) := by omega
          have := congrArg Nat.log2 e'
          rw [Nat.log2_two_pow, Nat.log2_two_pow] at this
          omega
      · have hlog : logS q = (0, false) := by unfold logS; rw [if_neg (fun c => h6 c.2)]
        rw [hlog]
        simp only [q_bs, q_I, q_B, q_P, q_S, q_M, q_c, q_a, q_gz, q_gs, q_gk, q_ct, q_cf, q_nt, q_nf, q_xt, q_xf, q_tt, q_ff, q_tf, q_ft, q_at, q_af, conf_Shift.J14_eq]
        rw [shiftS_none]
        intro k hk e
        apply h6
        have h7 : q = ((2 ^ k : Nat) : Int) := by
          have h8 : ((2 ^ g : Nat) : Int) * q = ((2 ^ g : Nat) : Int) * ((2 ^ k : Nat) : Int) := by rw [← h3, e, Nat.pow_add, Int.natCast_mul]
          exact Int.eq_of_mul_eq_mul_left (by omega) h8
        rw [h7, Int.toNat_natCast, Nat.log2_two_pow]
    · rw [decide_eq_false h2]
      exact no (fun k _ e => h2 (by rw [hG, e]; exact dv k))
end Go.Proofs.D.S
/- What is read out of numbers. -/
set_option linter.unusedVariables false
set_option linter.unusedSimpArgs false
namespace Go.Proofs.D.S
open Go Go.RowKit
variable {G G0 : GH} {L : List (Nat × Obj)}
/-- The numbers, and how far they were read. -/
abbrev pk (pid lid lo n : Nat) (i : Int) : Nat × Obj := (pid, .row [.sl 1 lid lo n, .int .i64 i] false)
/-- What there is of the numbers. -/
structure PkOk (G0 : GH) (L : List (Nat × Obj)) (lid lo n : Nat) (xs : List Int) : Prop where
  rd : Rd G0 L eU8 lid lo xs
  by_ : Bytes xs
  len : n = xs.length
  small : n ≤ 1000000000
theorem PkOk.cons {lid lo n : Nat} {xs : List Int} (h : PkOk G0 L lid lo n xs) (x : Nat × Obj) : PkOk G0 (x :: L) lid lo n xs := ⟨h.rd.cons, h.by_, h.len, h.small⟩
theorem PkOk.sub {lid lo n : Nat} {xs : List Int} {L' : List (Nat × Obj)} (h : PkOk G0 L lid lo n xs) (s : L.Sublist L') : PkOk G0 L' lid lo n xs := ⟨h.rd.sub s, h.by_, h.len, h.small⟩
theorem hodmanplay_Made.sp (h : Hp G0 G L) (lid lo n : Nat) : ∃ pid G', CW hodmanplay_Made.id [.c (.sl 1 lid lo n)] G = some ([.c (.ptr pid 0)], G') ∧ Hp G0 G' (pk pid lid lo n 0 :: L) := by
  refine ⟨_, _, ?_, h.alloc _⟩
  rw [hodmanplay_Made.cw]
  rfl
/-- A choice: below m, and one further on, or none left. -/
theorem hodmanplay_Picks_Num.sp {pid lid lo n : Nat} {i : Int} {xs : List Int} (h : Hp G0 G (pk pid lid lo n i :: L)) (p : PkOk G0 L lid lo n xs) (h0 : 0 ≤ i) (h1 : i ≤ n) (m : Int) :
    ∃ v j G', CW hodmanplay_Picks_Num.id [.c (.ptr pid 0), .c (.int .i64 m)] G = some ([.c (.int .i64 v)], G') ∧ Hp G0 G' (pk pid lid lo n j :: L) ∧ 0 ≤ v ∧ v ≤ 255 ∧ (1 ≤ m → v < m) ∧ i ≤ j ∧ j ≤ n ∧ (m < 1 → v = 0) := by
  have hp := h.ne
  have hl := p.len
  have hs := p.small
  have ld := fun off => h.ld (off := off) hp
  rw [hodmanplay_Picks_Num.cw]
  unfold hodmanplay_Picks_Num.f
  simp only [guardN hp, ld, q_bs, q_I, q_B, q_P, q_S, q_M, q_c, q_a, q_gz, q_gs, q_gk, q_ct, q_cf, q_nt, q_nf, q_xt, q_xf, q_tt, q_ff, q_tf, q_ft, q_at, q_af, Nat.zero_add]
  by_cases a1 : i ≥ (n : Int)
  · rw [condD_pos a1, hodmanplay_Picks_Num.J6_eq]
    exact ⟨0, i, G, rfl, h, by omega, by omega, by omega, by omega, by omega, fun _ => rfl⟩
  · rw [condD_neg a1, hodmanplay_Picks_Num.J6_eq]
    by_cases a2 : m < 1
    · rw [condD_pos a2]
      exact ⟨0, i, G, rfl, h, by omega, by omega, by omega, by omega, by omega, fun _ => rfl⟩
    · rw [condD_neg a2]
      obtain ⟨G1, h2, e⟩ := h.sts (off := 1) (new := [.int .i64 (i + 1)]) hp (by simp)
      have h2 : Hp G0 G1 (pk pid lid lo n (i + 1) :: L) := h2
      have ld2 := fun off => h2.ld (off := off) hp
      have rd := p.rd _ h2.tl
      simp only [ld, q_bs, q_I, q_B, q_P, q_S, q_M, q_c, q_a, q_gz, q_gs, q_gk, q_ct, q_cf, q_nt, q_nf, q_xt, q_xf, q_tt, q_ff, q_tf, q_ft, q_at, q_af, Nat.zero_add, guardN hp, i64w, wrap_id (a := i + 1) (by omega) (by omega), e, ld2, show i + 1 - 1 = i by omega, wrap_id (a := i) (by omega) (by omega)]
      rw [guardD_of (by omega)]
      have hit : i.toNat < xs.length := by omega
      have r := rd.ld i.toNat 0 hit (by omega)
      rw [Nat.add_zero] at r
      rw [r]
      have hb := p.by_ _ (List.getElem_mem hit)
      simp only [q_bs, q_I, q_B, q_P, q_S, q_M, q_c, q_a, q_gz, q_gs, q_gk, q_ct, q_cf, q_nt, q_nf, q_xt, q_xf, q_tt, q_ff, q_tf, q_ft, q_at, q_af, i64w, wrap_id (a := xs[i.toNat]) (by omega) (by omega), binD_rem (show m ≠ 0 by omega), Int.tmod_eq_emod_of_nonneg hb.1]
      have h3 := Int.emod_nonneg xs[i.toNat] (b := m) (by omega)
      have h4 := Int.emod_lt_of_pos xs[i.toNat] (b := m) (by omega)
      have h5 : xs[i.toNat] % m ≤ xs[i.toNat] := by
        have h6 := Int.mul_ediv_add_emod xs[i.toNat] m
        have h7 := Int.mul_nonneg (show 0 ≤ m by omega) (Int.ediv_nonneg (a := xs[i.toNat]) (b := m) (by omega) (by omega))
        omega
      exact ⟨_, _, _, rfl, h2, h3, by omega, by omega, by omega, by omega, by omega⟩
theorem hodmanplay_Picks_Raw.sp {pid lid lo n : Nat} {i : Int} {xs : List Int} (h : Hp G0 G (pk pid lid lo n i :: L)) (p : PkOk G0 L lid lo n xs) (h0 : 0 ≤ i) (h1 : i ≤ n) (b : Bool) :
    ∃ (r : Rw) (j : Int) (G' : GH), CW hodmanplay_Picks_Raw.id [.c (.ptr pid 0), .c (.bool b)] G = some ([.agg (rwC r)], G') ∧ Hp G0 G' (pk pid lid lo n j :: L) ∧ RawOk b r.g r.la r.li r.pa r.bu r.se ∧ i ≤ j ∧ j ≤ n := by
  obtain ⟨v1, j1, G1, e1, k1, a1, b1, c1, d1, f1, _⟩ := hodmanplay_Picks_Num.sp h p h0 h1 9
  obtain ⟨v2, j2, G2, e2, k2, a2, b2, c2, d2, f2, _⟩ := hodmanplay_Picks_Num.sp k1 p (by omega) f1 12
  obtain ⟨v3, j3, G3, e3, k3, a3, b3, c3, d3, f3, _⟩ := hodmanplay_Picks_Num.sp k2 p (by omega) f2 150
  obtain ⟨v4, j4, G4, e4, k4, a4, b4, c4, d4, f4, _⟩ := hodmanplay_Picks_Num.sp k3 p (by omega) f3 30
  obtain ⟨v5, j5, G5, e5, k5, a5, b5, c5, d5, f5, _⟩ := hodmanplay_Picks_Num.sp k4 p (by omega) f4 200
  obtain ⟨v6, j6, G6, e6, k6, a6, b6, c6, d6, f6, _⟩ := hodmanplay_Picks_Num.sp k5 p (by omega) f5 20
  have c1 := c1 (by omega)
  have c2 := c2 (by omega)
  have c3 := c3 (by omega)
  have c4 := c4 (by omega)
  have c5 := c5 (by omega)
  have c6 := c6 (by omega)
  have p1 : 1 + v1 ≤ (1 + v1) * (1 + v2) := by
    have := Int.mul_nonneg (show 0 ≤ 1 + v1 by omega) a2
    rw [Int.mul_add]; omega
  have p2 : (1 + v1) * (1 + v2) ≤ 9 * 12 := Int.mul_le_mul (by omega) (by omega) (by omega) (by omega)
  rw [hodmanplay_Picks_Raw.cw]
  unfold hodmanplay_Picks_Raw.f
  simp only [e1, e2, e3, e4, e5, e6, q_bs, q_I, q_B, q_P, q_S, q_M, q_c, q_a, q_gz, q_gs, q_gk, q_ct, q_cf, q_nt, q_nf, q_xt, q_xf, q_tt, q_ff, q_tf, q_ft, q_at, q_af, i64w, wrap_id (a := 1 + v1) (by omega) (by omega), wrap_id (a := 1 + v2) (by omega) (by omega), wrap_id (a := 1 + v3) (by omega) (by omega), wrap_id (a := 1 + v4) (by omega) (by omega), wrap_id (a := 1 + v6) (by omega) (by omega), wrap_id (a := (1 + v1) * (1 + v2)) (by omega) (by omega), hodmanplay_Picks_Raw.J10_eq]
  cases b with
  | true => exact ⟨⟨1 + v1, (1 + v1) * (1 + v2), 1 + v3, 1 + v4, 5000, v5⟩, _, _, rfl, k6, ⟨by dsimp only; omega, ⟨p1, by dsimp only; omega⟩, by dsimp only; omega, by dsimp only; omega, fun _ => rfl, by simp, by dsimp only; omega⟩, by omega, f6⟩
  | false => exact ⟨⟨1 + v1, (1 + v1) * (1 + v2), 1 + v3, 1 + v4, 1 + v6, v5⟩, _, _, rfl, k6, ⟨by dsimp only; omega, ⟨p1, by dsimp only; omega⟩, by dsimp only; omega, by dsimp only; omega, by simp, fun _ => by dsimp only; omega, by dsimp only; omega⟩, by omega, f6⟩
/-- The configuration that a law reads out of its numbers. -/
theorem conf_of (h : Hp G0 G L) {lid lo n : Nat} {xs : List Int} (p : PkOk G0 L lid lo n xs) (b : Bool) :
    ∃ (pid : Nat) (G1 : GH), CW hodmanplay_Made.id [.c (.sl 1 lid lo n)] G = some ([.c (.ptr pid 0)], G1) ∧ Hp G0 G1 (pk pid lid lo n 0 :: L) := hodmanplay_Made.sp h lid lo n
end Go.Proofs.D.S
/- The laws' own trials. -/
set_option linter.unusedVariables false
namespace Go.Proofs.D.S
open Go Go.RowKit
variable {G : GH}
theorem hodmanlaw2_begun.sp (hG : Beg G) : ∃ G', CW hodmanlaw2_begun.id [] G = some ([.c (.bool true)], G') ∧ From G G' :=
  beg_run 90 (by intro a b c; kernel_rfl) hG
end Go.Proofs.D.S
/- ConfMore: whatever the numbers, the law answers yes. -/
set_option linter.unusedVariables false
set_option linter.unusedSimpArgs false
namespace Go.Proofs.D.S
open Go Go.RowKit
theorem up_mult {w a b : Int} (hw : 0 < w) (ha : a % w = 0) (hb : b % w = 0) (h : a < b + w) : a ≤ b := by
  have h1 := Int.mul_ediv_add_emod a w
  have h2 := Int.mul_ediv_add_emod b w
  rcases Int.lt_or_le (b / w) (a / w) with h3 | h3
  · have h4 : w * (b / w + 1) ≤ w * (a / w) := Int.mul_le_mul_of_nonneg_left (by omega) (by omega)
    rw [Int.mul_add] at h4; omega
  · have h4 : w * (a / w) ≤ w * (b / w) := Int.mul_le_mul_of_nonneg_left h3 (by omega)
    omega
theorem ofC_in {r : Rw} (h1 : r.In) (h2 : hS r.g r.la r.li r.pa ≤ 65536) : ofC r = (cfOf r, 0) := by
  unfold ofC
  rw [if_pos h1, if_neg (by omega)]
theorem eW_ {g la pa : Int} (h1 : eN g la ≤ 16) (h2 : ePg g pa ≤ 16) : 2 * max ((2 ^ eN g la : Nat) : Int) ((2 ^ ePg g pa : Nat) : Int) = wS g la pa := by
  unfold wS
  rcases Nat.le_total (eN g la) (ePg g pa) with h | h
  · have : (2 : Nat) ^ eN g la ≤ 2 ^ ePg g pa := Nat.pow_le_pow_right (by decide) h
    rw [Nat.max_eq_right h, Nat.pow_succ]; omega
  · have : (2 : Nat) ^ ePg g pa ≤ 2 ^ eN g la := Nat.pow_le_pow_right (by decide) h
    rw [Nat.max_eq_left h, Nat.pow_succ]; omega
theorem hodmanlaw2_ConfMore.law {G : GH} (hG : Beg G) {id : Nat} {xs : List Int} (hs : Sl G eU8 id 0 xs) (hb : Bytes xs) {m : Int} {s : Int} {u : Int} (hm : 0 ≤ m ∧ m ≤ 255) (hs_ : 0 ≤ s ∧ s ≤ 255) (hu : 0 ≤ u ∧ u ≤ 255) : OkT (CW hodmanlaw2_ConfMore.id [.c (.sl 1 id 0 xs.length), .c (.int .u8 m), .c (.int .u8 s), .c (.int .u8 u)] G) := by
  obtain ⟨G1, e1, f1⟩ := hodmanlaw2_begun.sp hG
  rw [hodmanlaw2_ConfMore.cw]
  unfold hodmanlaw2_ConfMore.f
  simp only [e1, q_bs, q_I, q_B, q_P, q_S, q_M, q_c, q_a, q_gz, q_gs, q_gk, q_ct, q_cf, q_nt, q_nf, q_xt, q_xf, q_tt, q_ff, q_tf, q_ft, q_at, q_af]
  by_cases h6 : (xs.length : Int) > 6
  · rw [condD_pos h6]; exact ⟨_, rfl⟩
  rw [condD_neg h6]
  have h0 := Hp.refl f1.wf
  have p0 : PkOk G1 [] id 0 xs.length xs := ⟨.old (f1.sl _ _ _ _ hs), hb, rfl, by omega⟩
  obtain ⟨pid, G2, e2, h2⟩ := hodmanplay_Made.sp h0 id 0 xs.length
  obtain ⟨r, j, G3, e3, h3, rok, _, _⟩ := hodmanplay_Picks_Raw.sp h2 p0 (by omega) (by omega) false
  have hin := rok.inS
  obtain ⟨s1, s2, s3, s4, s5, s6⟩ := rok.small
  simp only [e2, e3, q_bs, q_I, q_B, q_P, q_S, q_M, q_c, q_a, q_gz, q_gs, q_gk, q_ct, q_cf, q_nt, q_nf, q_xt, q_xf, q_tt, q_ff, q_tf, q_ft, q_at, q_af, List.length_cons, List.length_nil, if_true, i64w, wrap_id (a := m) (by omega) (by omega), wrap_id (a := s) (by omega) (by omega), wrap_id (a := u) (by omega) (by omega)]
  obtain ⟨g, la, li, pa, bu, se⟩ := r
  dsimp only at *
  obtain ⟨⟨hg1, hg2⟩, ⟨h3a, h4⟩, ⟨h5, h7⟩, ⟨h8, h9⟩, _, hbf, h12⟩ := rok
  have hbu := hbf rfl
  have in1 : (Rw.mk g la li pa bu se).In := hin
  have in2 : (Rw.mk g la (li + m) pa bu se).In := by unfold Rw.In InS at *; dsimp only at *; omega
  have in3 : (Rw.mk g la li pa u s).In := by unfold Rw.In InS at *; dsimp only at *; omega
  obtain ⟨a1, a2, a3, a4, a5⟩ := mS_facts (g := g) (la := la) (pa := pa) (li := li) h5 (by omega) (by omega) (by omega) (by omega)
  obtain ⟨b1, b2, b3, b4, b5⟩ := mS_facts (g := g) (la := la) (pa := pa) (li := li + m) (by omega) (by omega) (by omega) (by omega) (by omega)
  have hw : wS g la pa ≤ 256 := by
    unfold wS
    have : (2 : Nat) ^ (max (eN g la) (ePg g pa) + 1) ≤ 2 ^ 8 := Nat.pow_le_pow_right (by decide) (by omega)
    omega
  have hl0 : 0 ≤ lS g la := by unfold lS; omega
  have hmm : mS g la li pa ≤ mS g la (li + m) pa := up_mult (by omega) a3 b3 (by omega)
  have hH2 : hS g la (li + m) pa ≤ 65536 := by
    have : lS g la * (mS g la (li + m) pa / 2) ≤ 7 * 400 := Int.mul_le_mul s5 (by omega) (by omega) (by omega)
    unfold hS; omega
  have hHH : hS g la li pa ≤ hS g la (li + m) pa := by
    have : lS g la * (mS g la li pa / 2) ≤ lS g la * (mS g la (li + m) pa / 2) := Int.mul_le_mul_of_nonneg_left (by omega) hl0
    unfold hS; omega
  obtain ⟨G4, e4, h4_⟩ := conf_Of.sp ⟨g, la, li, pa, bu, se⟩ h3.wf
  obtain ⟨G5, e5, h5_⟩ := conf_Of.sp ⟨g, la, li + m, pa, bu, se⟩ h4_.wf
  obtain ⟨G6, e6, h6_⟩ := conf_Of.sp ⟨g, la, li, pa, u, s⟩ h5_.wf
  rw [ofC_in in1 (by dsimp only; omega)] at e4
  rw [ofC_in in2 hH2] at e5
  rw [ofC_in in3 (by dsimp only; omega)] at e6
  have q1 := pow16 (e := eN g la) (by omega)
  have q2 := pow16 (e := ePg g pa) (by omega)
  have z1 := Nat.two_pow_pos (eN g la)
  have z2 := Nat.two_pow_pos (ePg g pa)
  have eW := eW_ (g := g) (la := la) (pa := pa) (by omega) (by omega)
  have eD : Int.tmod (wrap64 (mS g la (li + m) pa - mS g la li pa)) (wS g la pa) = 0 := by
    rw [wrap_id (by omega) (by omega), Int.tmod_eq_emod_of_nonneg (by omega), Int.sub_emod, b3, a3]; simp
  unfold cfOf at e4 e5 e6
  dsimp only at e4 e5 e6
  simp only [e4, q_bs, q_I, q_B, q_P, q_S, q_M, q_c, q_a, q_gz, q_gs, q_gk, q_ct, q_cf, q_nt, q_nf, q_xt, q_xf, q_tt, q_ff, q_tf, q_ft, q_at, q_af, List.length_cons, List.length_nil, if_true, wrap_id (a := li + m) (by omega) (by omega), e5, e6, q_cn, hodmanlaw2_ConfMore.J27_eq, q_cd]
  rw [mx2_eq, eW]
  simp only [wrap_id (a := wS g la pa) (by omega) (by omega), binD_rem (show wS g la pa ≠ 0 by omega), i64w, eD, q_bs, q_I, q_B, q_P, q_S, q_M, q_c, q_a, q_gz, q_gs, q_gk, q_ct, q_cf, q_nt, q_nf, q_xt, q_xf, q_tt, q_ff, q_tf, q_ft, q_at, q_af, if_true, if_pos (show mS g la (li + m) pa ≥ mS g la li pa by omega), if_pos (show hS g la (li + m) pa ≥ hS g la li pa by omega), decide_true, wrap_id (a := s) (by omega) (by omega), wrap_id (a := u) (by omega) (by omega)]
  exact ⟨_, rfl⟩
end Go.Proofs.D.S
