/- Texts of the proof (OKT, SpCalc, SpConf, SpClass, SpPicks, BegB, LawConfWhole, DAgg); no condition. -/
import Derived.Test.YtefhfajcpefeeaaFb
import Derived.Test.YtefhfajcpefeeaaConfWholed
import Derived.Test.YtefhfajcpefeeaaConfWholee
import Derived.Test.YtefhfajcpefeeaaConfWholec
import Derived.Lib.SmallJoins
set_option linter.unusedSimpArgs false
set_option linter.unusedVariables false
/- All functions pass the check. -/
set_option maxRecDepth 100000
namespace Go.Proofs.D
open Go
theorem tab_ok : ∀ x ∈ tab, okF Try.prog x.1 x.2.1 x.2.2 = true := by
  unfold tab
  exact List.forall_mem_cons.2 ⟨calc_Log.ok, List.forall_mem_cons.2 ⟨calc_Up.ok, List.forall_mem_cons.2 ⟨conf_Shift.ok, List.forall_mem_cons.2 ⟨conf_within.ok, List.forall_mem_cons.2 ⟨calc_Add.ok, List.forall_mem_cons.2 ⟨calc_Round.ok, List.forall_mem_cons.2 ⟨conf_Of.ok, List.forall_mem_cons.2 ⟨conf_Ceil.ok, List.forall_mem_cons.2 ⟨hodmanlaw2_begun.ok, List.forall_mem_cons.2 ⟨hodmanlaw2_ConfWhole.ok, List.forall_mem_nil _⟩⟩⟩⟩⟩⟩⟩⟩⟩⟩
theorem T_ok : ∀ f p d, T f = some (p, d) → okF Try.prog f p d = true := by
  intro f p d h
  unfold T at h
  obtain ⟨x, hx, e⟩ := Option.map_eq_some_iff.1 h
  have h1 := List.mem_of_find?_eq_some hx
  have h2 := List.find?_some hx
  have h3 : x.1 = f := by simpa using h2
  have := tab_ok x h1
  rw [h3, e] at this
  exact this
theorem mixed : Try.prog.follows .mixedOrders = true := by kernel_rfl
end Go.Proofs.D
/- What the functions of calc and of the first reference come to. -/
set_option linter.unusedVariables false
set_option linter.unusedSimpArgs false
namespace Go.Proofs.D.S
open Go Go.RowKit
variable {G : GH}
theorem band_eq (x y : Int) : Go.bits .and .i64 x y = IntKind.i64.wrap (((BitVec.ofInt IntKind.i64.bits x) &&& (BitVec.ofInt IntKind.i64.bits y)).toNat : Int) := rfl
theorem bxor_eq (x y : Int) : Go.bits .xor .i64 x y = IntKind.i64.wrap (((BitVec.ofInt IntKind.i64.bits x) ^^^ (BitVec.ofInt IntKind.i64.bits y)).toNat : Int) := rfl
theorem calc_Add.sp {a b : Int} (ha : R64 a) (hb : R64 b) : CW calc_Add.id [.c (.int .i64 a), .c (.int .i64 b)] G = some ([.c (.int .i64 (addS a b).1), .c (.bool (addS a b).2)], G) := by
  rw [calc_Add.cw]
  have e : IntKind.i64.wrap (IntKind.u64.wrap (IntKind.u64.wrap a + IntKind.u64.wrap b)) = wrap64 (a + b) := by rw [i64w]; exact add_sum a b
  have t := add_test a b ha hb
  rw [band_eq, bxor_eq, bxor_eq] at t
  simp only [calc_Add.f, e, Bool.cond_decide]
  generalize (IntKind.i64.wrap (((BitVec.ofInt IntKind.i64.bits (IntKind.i64.wrap (((BitVec.ofInt IntKind.i64.bits a) ^^^ (BitVec.ofInt IntKind.i64.bits (wrap64 (a + b)))).toNat : Int))) &&& (BitVec.ofInt IntKind.i64.bits (IntKind.i64.wrap (((BitVec.ofInt IntKind.i64.bits b) ^^^ (BitVec.ofInt IntKind.i64.bits (wrap64 (a + b)))).toNat : Int)))).toNat : Int)) = X at t ⊢
  unfold addS
  by_cases h : R64 (a + b)
  · rw [if_neg (fun c => t.1 c h), if_pos h, wrap_in h]
  · rw [if_pos (t.2 h), if_neg h]
theorem calc_Up.lp (v : Int) (h1 : 1 ≤ v) (h2 : v ≤ 4611686018427387904) (d : Nat) : ∀ (e : Nat), e + d = clog v.toNat →
    calc_Up.L17 machW CW v ((2 ^ e : Nat) : Int) G = some ([.c (.int .i64 ((2 ^ clog v.toNat : Nat) : Int)), .c (.bool true)], G) := by
  have hc : clog v.toNat ≤ 62 := clog_le (by simp; omega)
  induction d with
  | zero =>
    intro e he
    obtain rfl : e = clog v.toNat := by omega
    have := le_clog v.toNat
    rw [calc_Up.L17_eq, condD_neg (by omega)]
  | succ d ih =>
    intro e he
    have h3 := lt_clog (n := v.toNat) (e := e) (by omega)
    have h4 := pow62 (e := e) (by omega)
    have h5 := pow62 (e := e + 1) (by omega)
    have e1 : IntKind.i64.wrap (((2 ^ e : Nat) : Int) * 2 ^ (min (1 : Int).toNat IntKind.i64.bits)) = ((2 ^ (e + 1) : Nat) : Int) := by
      have : (2 : Int) ^ (min (1 : Int).toNat IntKind.i64.bits) = 2 := by decide
      rw [this, i64w, wrap_id] <;> rw [Nat.pow_succ] at * <;> omega
    rw [calc_Up.L17_eq, condD_pos (by omega), e1]
    exact ih (e + 1) (by omega)
theorem calc_Up.sp (v : Int) : CW calc_Up.id [.c (.int .i64 v)] G = some ([.c (.int .i64 (upS v).1), .c (.bool (upS v).2)], G) := by
  rw [calc_Up.cw]
  unfold calc_Up.f upS
  by_cases h1 : v < 1
  · rw [if_pos h1, condD_pos h1, calc_Up.J6_eq]; rfl
  · rw [if_neg h1, condD_neg h1]
    by_cases h2 : v > 4611686018427387904
    · rw [if_pos h2, decide_eq_true h2, calc_Up.J6_eq]; rfl
    · rw [if_neg h2, decide_eq_false h2, calc_Up.J6_eq]
      exact calc_Up.lp v (by omega) (by omega) (clog v.toNat) 0 (by omega)
theorem calc_Log.lp (e : Nat) : ∀ (n : Int), 0 ≤ n → n + e ≤ 100 →
    calc_Log.L18 machW CW ((2 ^ e : Nat) : Int) n G = some ([.c (.int .i64 (n + e)), .c (.bool true)], G) := by
  induction e with
  | zero => intro n h0 h1; rw [calc_Log.L18_eq, condD_neg (by decide)]; simp
  | succ e ih =>
    intro n h0 h1
    have h3 : 0 < 2 ^ e := Nat.two_pow_pos e
    have e1 : Int.fdiv ((2 ^ (e + 1) : Nat) : Int) (2 ^ (min (1 : Int).toNat IntKind.i64.bits)) = ((2 ^ e : Nat) : Int) := by
      have : (2 : Int) ^ (min (1 : Int).toNat IntKind.i64.bits) = 2 := by decide
      rw [this, Int.fdiv_eq_ediv_of_nonneg _ (by omega), Nat.pow_succ]; omega
    rw [calc_Log.L18_eq, condD_pos (by rw [Nat.pow_succ]; omega), e1, i64w, wrap_id (by omega) (by omega), ih (n + 1) (by omega) (by omega)]
    simp; omega
theorem calc_Log.sp {v : Int} (hv : R64 v) : CW calc_Log.id [.c (.int .i64 v)] G = some ([.c (.int .i64 (logS v).1), .c (.bool (logS v).2)], G) := by
  rw [calc_Log.cw]
  unfold calc_Log.f logS
  by_cases h1 : v < 1
  · rw [condD_pos h1, if_neg (by omega), calc_Log.J6_eq]; rfl
  · rw [condD_neg h1]
    unfold R64 at hv
    have hp := and_pow v (by omega) (by omega)
    rw [isPow_iff] at hp
    rw [band_eq, ← i64w (v - 1)] at hp
    have hl := log2_lt63 (v := v) (by omega) (by omega)
    by_cases h2 : v.toNat = 2 ^ Nat.log2 v.toNat
    · have h3 : v = ((2 ^ Nat.log2 v.toNat : Nat) : Int) := by omega
      rw [if_pos ⟨by omega, h3⟩, decide_eq_true (hp.2 h2), calc_Log.J6_eq]
      have h5 := calc_Log.lp (G := G) (Nat.log2 v.toNat) 0 (by omega) (by omega)
      rw [← h3] at h5
      simpa using h5
    · rw [if_neg (by rintro ⟨_, h⟩; exact h2 (by omega)), decide_eq_false (fun c => h2 (hp.1 c)), calc_Log.J6_eq]; rfl
theorem calc_Round.sp {v d : Int} (hv : R64 v) (ht : R64 d) : CW calc_Round.id [.c (.int .i64 v), .c (.int .i64 d)] G = some ([.c (.int .i64 (roundS v d).1), .c (.bool (roundS v d).2)], G) := by
  rw [calc_Round.cw]
  unfold calc_Round.f roundS
  have hv' := hv
  unfold R64 at hv ht
  by_cases h1 : v < 0
  · rw [condD_pos h1, if_pos h1, calc_Round.J6_eq]; rfl
  · rw [condD_neg h1, if_neg h1]
    by_cases h2 : d < 1
    · rw [if_pos h2, decide_eq_true h2, calc_Round.J6_eq]; rfl
    · rw [if_neg h2, decide_eq_false h2, calc_Round.J6_eq]
      have e1 : Int.tmod v d = v % d := Int.tmod_eq_emod_of_nonneg (by omega)
      have h3 := Int.emod_nonneg v (b := d) (by omega)
      have h4 := Int.emod_lt_of_pos v (b := d) (by omega)
      rw [binD_rem (by omega), e1]
      by_cases h5 : v % d = 0
      · rw [if_pos h5]; simp only [q_bs, q_I, q_B, q_P, q_S, q_M, q_c, q_a, q_gz, q_gs, q_gk, q_ct, q_cf, q_nt, q_nf, q_xt, q_xf, q_tt, q_ff, q_tf, q_ft, q_at, q_af, decide_eq_true h5]
      · rw [if_neg h5]
        simp only [q_bs, q_I, q_B, q_P, q_S, q_M, q_c, q_a, q_gz, q_gs, q_gk, q_ct, q_cf, q_nt, q_nf, q_xt, q_xf, q_tt, q_ff, q_tf, q_ft, q_at, q_af, decide_eq_false h5]
        rw [i64w, wrap_id (by omega) (by omega), calc_Add.sp hv' (by unfold R64; omega)]
        rfl
end Go.Proofs.D.S
/- What the functions of conf, class, admit and of the first reference come to, and what is read out of numbers. -/
set_option linter.unusedVariables false
set_option linter.unusedSimpArgs false
namespace Go.Proofs.D.S
open Go Go.RowKit
variable {G G0 : GH}
theorem Hp.ne {id : Nat} {c : Cell} {cs : List Cell} {L : List (Nat × Obj)} (h : Hp G0 G ((id, .row (c :: cs) false) :: L)) : id ≠ 0 := by
  rcases h.ok _ (List.mem_cons_self ..) with ⟨_, b⟩ | ⟨_, b, _⟩
  · simp at b
  · dsimp only at b; omega
theorem nbeq {n : Nat} (h : n ≠ 0) : (!Nat.beq n 0) = true := by
  cases n with
  | zero => exact absurd rfl h
  | succ n => rfl
theorem guardN {R : Type} {n : Nat} (h : n ≠ 0) (K : Option R) : guardK (!Nat.beq n 0) K = K := guardK_of (nbeq h) K
/-- The sizes that Of comes to, one by one. -/
theorem of_steps {r : Rw} (hin : r.In) :
    upS r.g = (((2 ^ eG r.g : Nat) : Int), true) ∧ upS (mx2 r.la ((2 ^ eG r.g : Nat) : Int)) = (((2 ^ eN r.g r.la : Nat) : Int), true) ∧ upS (mx2 r.pa ((2 ^ eG r.g : Nat) : Int)) = (((2 ^ ePg r.g r.pa : Nat) : Int), true) ∧
    (mx2 ((2 ^ eN r.g r.la : Nat) : Int) ((2 ^ ePg r.g r.pa : Nat) : Int)) * 2 = wS r.g r.la r.pa ∧ R64 (wS r.g r.la r.pa) ∧ R64 r.li ∧ roundS r.li (wS r.g r.la r.pa) = (mS r.g r.la r.li r.pa, true) ∧ ((2 ^ eG r.g : Nat) : Int) ≠ 0 ∧
    wrap64 (Int.tdiv ((2 ^ eN r.g r.la : Nat) : Int) ((2 ^ eG r.g : Nat) : Int)) = ((2 ^ (eN r.g r.la - eG r.g) : Nat) : Int) ∧ R64 ((2 ^ (eN r.g r.la - eG r.g) : Nat) : Int) ∧
    0 ≤ mS r.g r.la r.li r.pa ∧ R64 (mS r.g r.la r.li r.pa / 2) ∧ wrap64 (((eN r.g r.la - eG r.g : Nat) : Int) * (mS r.g r.la r.li r.pa / 2)) = lS r.g r.la * (mS r.g r.la r.li r.pa / 2) ∧ wrap64 (mS r.g r.la r.li r.pa + lS r.g r.la * (mS r.g r.la r.li r.pa / 2)) = hS r.g r.la r.li r.pa := by
  obtain ⟨g, la, li, pa, bu, se⟩ := r
  obtain ⟨⟨g1, g2⟩, ⟨l1, l2⟩, ⟨i1, i2⟩, ⟨p1, p2⟩, hb, hs⟩ := hin
  dsimp only at *
  have b0 := eG_le g2
  have b1 := eN_le g2 l2
  have b2 := ePg_le g2 p2
  have q0 := pow16 b0
  have q1 := pow16 b1
  have q2 := pow16 b2
  have z0 := Nat.two_pow_pos (eG g)
  have z1 := Nat.two_pow_pos (eN g la)
  have z2 := Nat.two_pow_pos (ePg g pa)
  have mxi : ∀ a b : Int, mx2 a b = if a < b then b else a := fun a b => by rw [mx2_eq, max_if]
  have eN' : clog (mx2 la ((2 ^ eG g : Nat) : Int)).toNat = eN g la := clog_toMax la (eG g) _ (mxi _ _)
  have eP' : clog (mx2 pa ((2 ^ eG g : Nat) : Int)).toNat = ePg g pa := clog_toMax pa (eG g) _ (mxi _ _)
  have mb : ∀ a : Int, 1 ≤ a → a ≤ 65536 → 1 ≤ mx2 a ((2 ^ eG g : Nat) : Int) ∧ mx2 a ((2 ^ eG g : Nat) : Int) ≤ 65536 := by
    intro a h1 h2
    rw [mx2_eq]; omega
  have m1 := mb la l1 l2
  have m2 := mb pa p1 p2
  obtain ⟨a1, a2, a3, a4, a5⟩ := mS_facts (g := g) (la := la) (pa := pa) i1 i2 g2 l2 p2
  obtain ⟨r1, r2, r3, r4⟩ := hS_range (g := g) (la := la) (pa := pa) i1 i2 g2 l2 p2
  have hge : eG g ≤ eN g la := by unfold eN; omega
  have h5 := pow16 (e := eN g la - eG g) (by omega)
  have h4 := Nat.two_pow_pos (eN g la - eG g)
  refine ⟨upS_in g1 (by omega), by rw [upS_in m1.1 (Int.le_trans m1.2 (by decide)), eN'], by rw [upS_in m2.1 (Int.le_trans m2.2 (by decide)), eP'], ?_, by unfold R64; omega, by unfold R64; omega, round_mS i1 i2 g2 l2 p2, by omega, ?_, by unfold R64; omega, by omega, by unfold R64; omega, ?_, ?_⟩
  · rw [mx2_eq]
    unfold wS
    rcases Nat.le_total (eN g la) (ePg g pa) with h | h
    · have : (2 : Nat) ^ eN g la ≤ 2 ^ ePg g pa := Nat.pow_le_pow_right (by decide) h
      rw [Nat.max_eq_right h, Nat.pow_succ]; omega
    · have : (2 : Nat) ^ ePg g pa ≤ 2 ^ eN g la := Nat.pow_le_pow_right (by decide) h
      rw [Nat.max_eq_left h, Nat.pow_succ]; omega
  · have h1 : (2 : Nat) ^ eN g la = 2 ^ eG g * 2 ^ (eN g la - eG g) := by rw [← Nat.pow_add, show eG g + (eN g la - eG g) = eN g la by omega]
    have h2 : Int.tdiv ((2 ^ eN g la : Nat) : Int) ((2 ^ eG g : Nat) : Int) = ((2 ^ (eN g la - eG g) : Nat) : Int) := by
      rw [h1, Int.natCast_mul, Int.mul_tdiv_cancel_left _ (by omega)]
    rw [h2, wrap_id (by omega) (by omega)]
  · exact wrap_id (by show _ ≤ lS g la * (mS g la li pa / 2); omega) (by show lS g la * (mS g la li pa / 2) ≤ _; omega)
  · exact wrap_id (by show _ ≤ hS g la li pa; omega) (by show hS g la li pa ≤ _; omega)
theorem pow1 : (2 : Int) ^ (min (1 : Int).toNat IntKind.i64.bits) = 2 := by decide
theorem conf_within.sp {a b c d : Int} {id : Nat} {L : List (Nat × Obj)} (h : Hp G0 G ((id, .row [.int .i64 a, .int .i64 b, .int .i64 c, .int .i64 d] false) :: L)) :
    CW conf_within.id [.c (.sl 1 id 0 4)] G = some ([.c (.bool (decide ((1 ≤ a ∧ a ≤ 65536) ∧ (1 ≤ b ∧ b ≤ 65536) ∧ (1 ≤ c ∧ c ≤ 65536) ∧ (1 ≤ d ∧ d ≤ 65536))))], G) := by
  have ld := fun off => h.ld (off := off) h.ne
  rw [conf_within.cw]
  simp only [conf_within.f]
  have out : ∀ (i : Nat) (x : Int), i < 4 → [Cell.int .i64 a, .int .i64 b, .int .i64 c, .int .i64 d][i]? = some (.int .i64 x) → ¬ (1 ≤ x ∧ x ≤ 65536) → ¬ ((1 ≤ a ∧ a ≤ 65536) ∧ (1 ≤ b ∧ b ≤ 65536) ∧ (1 ≤ c ∧ c ≤ 65536) ∧ (1 ≤ d ∧ d ≤ 65536)) →
      conf_within.L20 machW CW id 0 4 ((4 : Nat) : Int) (i : Int) G = some ([.c (.bool (decide ((1 ≤ a ∧ a ≤ 65536) ∧ (1 ≤ b ∧ b ≤ 65536) ∧ (1 ≤ c ∧ c ≤ 65536) ∧ (1 ≤ d ∧ d ≤ 65536))))], G) := by
    intro i x hi hx hn hno
    rw [decide_eq_false hno, conf_within.L20_eq, condD_pos (by omega), guardD_of (by omega), ld, show 0 + Int.toNat (i : Int) * 1 = i by omega, hx]
    simp only [q_bs, q_I, q_B, q_P, q_S, q_M, q_c, q_a, q_gz, q_gs, q_gk, q_ct, q_cf, q_nt, q_nf, q_xt, q_xf, q_tt, q_ff, q_tf, q_ft, q_at, q_af]
    by_cases h1 : x < 1
    · rw [condD_pos h1, conf_within.J12_eq]; rfl
    · rw [condD_neg h1, decide_eq_true (by omega : x > 65536), conf_within.J12_eq]; rfl
  have on : ∀ (i : Nat) (x : Int) (R : Option Res), i < 4 → [Cell.int .i64 a, .int .i64 b, .int .i64 c, .int .i64 d][i]? = some (.int .i64 x) → (1 ≤ x ∧ x ≤ 65536) →
      conf_within.L20 machW CW id 0 4 ((4 : Nat) : Int) ((i + 1 : Nat) : Int) G = R → conf_within.L20 machW CW id 0 4 ((4 : Nat) : Int) (i : Int) G = R := by
    intro i x R hi hx hn hno
    rw [conf_within.L20_eq, condD_pos (by omega), guardD_of (by omega), ld, show 0 + Int.toNat (i : Int) * 1 = i by omega, hx]
    simp only [q_bs, q_I, q_B, q_P, q_S, q_M, q_c, q_a, q_gz, q_gs, q_gk, q_ct, q_cf, q_nt, q_nf, q_xt, q_xf, q_tt, q_ff, q_tf, q_ft, q_at, q_af]
    rw [condD_neg (by omega), decide_eq_false (by omega : ¬ x > 65536), conf_within.J12_eq, i64w, wrap_id (by omega) (by omega)]
    exact hno
  show conf_within.L20 machW CW id 0 4 ((4 : Nat) : Int) ((0 : Nat) : Int) G = _
  by_cases hg : 1 ≤ a ∧ a ≤ 65536
  · refine on 0 a _ (by omega) rfl hg ?_
    by_cases hl : 1 ≤ b ∧ b ≤ 65536
    · refine on 1 b _ (by omega) rfl hl ?_
      by_cases hi : 1 ≤ c ∧ c ≤ 65536
      · refine on 2 c _ (by omega) rfl hi ?_
        by_cases hp : 1 ≤ d ∧ d ≤ 65536
        · refine on 3 d _ (by omega) rfl hp ?_
          rw [decide_eq_true ⟨hg, hl, hi, hp⟩, conf_within.L20_eq, condD_neg (by omega)]
        · exact out 3 d (by omega) rfl hp (by omega)
      · exact out 2 c (by omega) rfl hi (by omega)
    · exact out 1 b (by omega) rfl hl (by omega)
  · exact out 0 a (by omega) rfl hg (by omega)
theorem conf_Of.done {r : Rw} (hin : r.In) : conf_Of.J6 machW CW false r.g r.la r.li r.pa r.bu r.se 0 0 0 0 0 0 0 0 G = some ([.agg (cfC (ofC r).1), .c (.int .i64 (ofC r).2)], G) := by
  obtain ⟨u0, u1, u2, eW, rw1, rw2, rd, ez, eD, rD, m0, rm, eL, eH⟩ := of_steps hin
  have eM2 : Int.fdiv (mS r.g r.la r.li r.pa) 2 = mS r.g r.la r.li r.pa / 2 := by
    rw [Int.fdiv_eq_ediv_of_nonneg _ (by omega)]
  rw [conf_Of.J6_eq]
  simp only [q_bs, q_I, q_B, q_P, q_S, q_M, q_c, q_a, q_gz, q_gs, q_gk, q_ct, q_cf, q_nt, q_nf, q_xt, q_xf, q_tt, q_ff, q_tf, q_ft, q_at, q_af, calc_Up.sp, u0, u1, u2, i64w]
  rw [pow1, eW, wrap_in rw1, calc_Round.sp rw2 rw1, rd]
  simp only [q_bs, q_I, q_B, q_P, q_S, q_M, q_c, q_a, q_gz, q_gs, q_gk, q_ct, q_cf, q_nt, q_nf, q_xt, q_xf, q_tt, q_ff, q_tf, q_ft, q_at, q_af, binD_quo ez, i64w, eD]
  rw [calc_Log.sp rD, logS_pow]
  simp only [q_bs, q_I, q_B, q_P, q_S, q_M, q_c, q_a, q_gz, q_gs, q_gk, q_ct, q_cf, q_nt, q_nf, q_xt, q_xf, q_tt, q_ff, q_tf, q_ft, q_at, q_af, i64w, eM2, eL, eH]
  unfold ofC
  rw [if_pos hin]
  by_cases h6 : hS r.g r.la r.li r.pa > 65536
  · rw [condD_pos h6, if_pos h6]; rfl
  · rw [condD_neg h6, if_neg h6]; rfl
theorem conf_Of.sp (r : Rw) (w : G.wf) : ∃ G', CW conf_Of.id [.agg (rwC r)] G = some ([.agg (cfC (ofC r).1), .c (.int .i64 (ofC r).2)], G') ∧ Hp G G' [] := by
  have h := (Hp.refl w).alloc (.row [.int .i64 r.g, .int .i64 r.la, .int .i64 r.li, .int .i64 r.pa] false)
  refine ⟨_, ?_, h.tl⟩
  have sp := conf_within.sp h
  rw [conf_Of.cw]
  simp only [conf_Of.f, sp, q_bs, q_I, q_B, q_P, q_S, q_M, q_c, q_a, q_gz, q_gs, q_gk, q_ct, q_cf, q_nt, q_nf, q_xt, q_xf, q_tt, q_ff, q_tf, q_ft, q_at, q_af]
  generalize G.alloc _ = G1 at h sp ⊢
  have bad : ¬ r.In → conf_Of.J6 machW CW true r.g r.la r.li r.pa r.bu r.se 0 0 0 0 0 0 0 0 G1 = some ([.agg (cfC (ofC r).1), .c (.int .i64 (ofC r).2)], G1) := fun h => by rw [conf_Of.J6_eq]; unfold ofC; rw [if_neg h]; rfl
  by_cases h0 : (1 ≤ r.g ∧ r.g ≤ 65536) ∧ (1 ≤ r.la ∧ r.la ≤ 65536) ∧ (1 ≤ r.li ∧ r.li ≤ 65536) ∧ (1 ≤ r.pa ∧ r.pa ≤ 65536)
  · rw [condN_neg h0]
    by_cases h1 : r.bu < 0
    · rw [condD_pos h1]; exact bad (by unfold Rw.In InS; omega)
    · rw [condD_neg h1]
      by_cases h2 : r.bu > 65536
      · rw [condD_pos h2]; exact bad (by unfold Rw.In InS; omega)
      · rw [condD_neg h2]
        by_cases h3 : r.se < 0
        · rw [condD_pos h3]; exact bad (by unfold Rw.In InS; omega)
        · rw [condD_neg h3]
          by_cases h4 : r.se > 255
          · rw [decide_eq_true h4]; exact bad (by unfold Rw.In InS; omega)
          · rw [decide_eq_false h4]; exact conf_Of.done (by unfold Rw.In InS; omega)
  · rw [condN_pos h0]; exact bad (by unfold Rw.In InS; omega)
theorem conf_Ceil.sp {c : Cf} (h : c.Ok) (k : Int) : CW conf_Ceil.id [.agg (cfC c), .c (.int .i64 k)] G = some ([.c (.int .i64 (c.ceil k))], G) := by
  rw [conf_Ceil.cw]
  unfold conf_Ceil.f
  by_cases h1 : k < 0
  · rw [condD_pos h1, conf_Ceil.J6_eq]; unfold Cf.ceil ceilS; rw [if_pos h1]; rfl
  · rw [condD_neg h1, conf_Ceil.J6_eq]
    by_cases h2 : k > c.L
    · rw [decide_eq_true h2]; unfold Cf.ceil ceilS; rw [if_neg h1, if_pos h2]; rfl
    · rw [decide_eq_false h2]
      simp only [q_bs, q_I, q_B, q_P, q_S, q_M, q_c, q_a, q_gz, q_gs, q_gk, q_ct, q_cf, q_nt, q_nf, q_xt, q_xf, q_tt, q_ff, q_tf, q_ft, q_at, q_af, i64w, pow1, Int.fdiv_eq_ediv_of_nonneg _ (show (0 : Int) ≤ 2 by omega), ceil_wrap h (show 0 ≤ k by omega) (show k ≤ c.L by omega)]
end Go.Proofs.D.S
/- What the functions of class, admit and the first reference's come to. -/
set_option linter.unusedVariables false
set_option linter.unusedSimpArgs false
namespace Go.Proofs.D.S
open Go Go.RowKit
variable {G G0 : GH}
theorem conf_Shift.sp {c : Cf} {g l : Nat} (e : c.Ex g l) {ch : Int} (hc : R64 ch) : CW conf_Shift.id [.agg (cfC c), .c (.int .i64 ch)] G = some ([.c (.int .i64 (shiftS g l ch).1), .c (.bool (shiftS g l ch).2)], G) := by
  have z0 := Nat.two_pow_pos g
  have hG := e.hG
  have hL := e.hL
  rw [conf_Shift.cw]
  unfold conf_Shift.f
  have no : (∀ k, k ≤ l → ch ≠ ((2 ^ (g + k) : Nat) : Int)) → conf_Shift.J6 machW CW ch true c.G c.N c.M c.L c.Pg c.P c.H c.Sd G = some ([.c (.int .i64 (shiftS g l ch).1), .c (.bool (shiftS g l ch).2)], G) := fun h => by
    rw [shiftS_none h, conf_Shift.J6_eq]; rfl
  have ge : ∀ k : Nat, ((2 ^ g : Nat) : Int) ≤ ((2 ^ (g + k) : Nat) : Int) := fun k => by
    have : (2 : Nat) ^ g ≤ 2 ^ (g + k) := Nat.pow_le_pow_right (by decide) (by omega)
    omega
  have dv : ∀ k : Nat, ((2 ^ (g + k) : Nat) : Int) % ((2 ^ g : Nat) : Int) = 0 := fun k => by
    rw [Nat.pow_add, Int.natCast_mul, Int.mul_emod_right]
  rw [condD_neg (by omega)]
  by_cases h1 : ch < c.G
  · rw [condD_pos h1]
    exact no (fun k _ e => by have := ge k; omega)
  · rw [condD_neg h1, binD_rem (by omega), Int.tmod_eq_emod_of_nonneg (show 0 ≤ ch by omega)]
    simp only [q_bs, q_I, q_B, q_P, q_S, q_M, q_c, q_a, q_gz, q_gs, q_gk, q_ct, q_cf, q_nt, q_nf, q_xt, q_xf, q_tt, q_ff, q_tf, q_ft, q_at, q_af]
    by_cases h2 : ch % c.G = 0
    · rw [decide_eq_true h2, Bool.not_true, conf_Shift.J6_eq, binD_quo (by omega)]
      simp only [q_bs, q_I, q_B, q_P, q_S, q_M, q_c, q_a, q_gz, q_gs, q_gk, q_ct, q_cf, q_nt, q_nf, q_xt, q_xf, q_tt, q_ff, q_tf, q_ft, q_at, q_af, i64w]
      have h3 : ch = ((2 ^ g : Nat) : Int) * (ch / ((2 ^ g : Nat) : Int)) := by have := Int.mul_ediv_add_emod ch ((2 ^ g : Nat) : Int); rw [hG] at h2; omega
      have h4 : 1 ≤ ch / ((2 ^ g : Nat) : Int) := by
        rcases Int.lt_or_le (ch / ((2 ^ g : Nat) : Int)) 1 with h | h
        · have h9 : ((2 ^ g : Nat) : Int) * (ch / ((2 ^ g : Nat) : Int)) ≤ 0 := Int.mul_nonpos_of_nonneg_of_nonpos (by omega) (by omega)
          omega
        · exact h
      have h5 : ch / ((2 ^ g : Nat) : Int) ≤ ch := Int.ediv_le_self _ (by omega)
      unfold R64 at hc
      rw [Int.tdiv_eq_ediv_of_nonneg (by omega), hG, wrap_id (by omega) (by omega), calc_Log.sp (by unfold R64; omega)]
      simp only [q_bs, q_I, q_B, q_P, q_S, q_M, q_c, q_a, q_gz, q_gs, q_gk, q_ct, q_cf, q_nt, q_nf, q_xt, q_xf, q_tt, q_ff, q_tf, q_ft, q_at, q_af]
      generalize hq : ch / ((2 ^ g : Nat) : Int) = q at *
      by_cases h6 : q = ((2 ^ Nat.log2 q.toNat : Nat) : Int)
      · have hlog : logS q = (((Nat.log2 q.toNat : Nat) : Int), true) := by unfold logS; rw [if_pos ⟨h4, h6⟩]
        rw [hlog]
        have h7 : ch = ((2 ^ (g + Nat.log2 q.toNat) : Nat) : Int) := by rw [h3, Nat.pow_add, Int.natCast_mul, ← h6]
        simp only [q_bs, q_I, q_B, q_P, q_S, q_M, q_c, q_a, q_gz, q_gs, q_gk, q_ct, q_cf, q_nt, q_nf, q_xt, q_xf, q_tt, q_ff, q_tf, q_ft, q_at, q_af, conf_Shift.J14_eq]
        by_cases h8 : Nat.log2 q.toNat ≤ l
        · rw [condD_neg (by omega), h7, shiftS_pow h8]
        · rw [condD_pos (by omega), shiftS_none]
          intro k hk e
          rw [h7] at e
          have e' : (2 : Nat) ^ (g + Nat.log2 q.toNat) = 2 ^ (g + k) := by omega
          have := congrArg Nat.log2 e'
          rw [Nat.log2_two_pow, Nat.log2_two_pow] at this
          omega
      · have hlog : logS q = (0, false) := by unfold logS; rw [if_neg (fun c => h6 c.2)]
        rw [hlog]
        simp only [q_bs, q_I, q_B, q_P, q_S, q_M, q_c, q_a, q_gz, q_gs, q_gk, q_ct, q_cf, q_nt, q_nf, q_xt, q_xf, q_tt, q_ff, q_tf, q_ft, q_at, q_af, conf_Shift.J14_eq]
        rw [shiftS_none]
        intro k hk e
        apply h6
        have h7 : q = ((2 ^ k : Nat) : Int) := by
          have h8 : ((2 ^ g : Nat) : Int) * q = ((2 ^ g : Nat) : Int) * ((2 ^ k : Nat) : Int) := by rw [← h3, e, Nat.pow_add, Int.natCast_mul]
          exact Int.eq_of_mul_eq_mul_left (by omega) h8
        rw [h7, Int.toNat_natCast, Nat.log2_two_pow]
    · rw [decide_eq_false h2]
      exact no (fun k _ e => h2 (by rw [hG, e]; exact dv k))
end Go.Proofs.D.S
/- What is read out of numbers. -/
set_option linter.unusedVariables false
set_option linter.unusedSimpArgs false
namespace Go.Proofs.D.S
open Go Go.RowKit
variable {G G0 : GH} {L : List (Nat × Obj)}
/-- The numbers, and how far they were read. -/
abbrev pk (pid lid lo n : Nat) (i : Int) : Nat × Obj := (pid, .row [.sl 1 lid lo n, .int .i64 i] false)
/-- What there is of the numbers. -/
structure PkOk (G0 : GH) (L : List (Nat × Obj)) (lid lo n : Nat) (xs : List Int) : Prop where
  rd : Rd G0 L eU8 lid lo xs
  by_ : Bytes xs
  len : n = xs.length
  small : n ≤ 1000000000
theorem PkOk.cons {lid lo n : Nat} {xs : List Int} (h : PkOk G0 L lid lo n xs) (x : Nat × Obj) : PkOk G0 (x :: L) lid lo n xs := ⟨h.rd.cons, h.by_, h.len, h.small⟩
theorem PkOk.sub {lid lo n : Nat} {xs : List Int} {L' : List (Nat × Obj)} (h : PkOk G0 L lid lo n xs) (s : L.Sublist L') : PkOk G0 L' lid lo n xs := ⟨h.rd.sub s, h.by_, h.len, h.small⟩
end Go.Proofs.D.S
/- The laws' own trials. -/
set_option linter.unusedVariables false
namespace Go.Proofs.D.S
open Go Go.RowKit
variable {G : GH}
theorem hodmanlaw2_begun.sp (hG : Beg G) : ∃ G', CW hodmanlaw2_begun.id [] G = some ([.c (.bool true)], G') ∧ From G G' :=
  beg_run 90 (by intro a b c; kernel_rfl) hG
end Go.Proofs.D.S
/- ConfWhole: whatever the numbers, the law answers yes. -/
set_option linter.unusedVariables false
set_option linter.unusedSimpArgs false
namespace Go.Proofs.D.S
open Go Go.RowKit
theorem up_mult {w a b : Int} (hw : 0 < w) (ha : a % w = 0) (hb : b % w = 0) (h : a < b + w) : a ≤ b := by
  have h1 := Int.mul_ediv_add_emod a w
  have h2 := Int.mul_ediv_add_emod b w
  rcases Int.lt_or_le (b / w) (a / w) with h3 | h3
  · have h4 : w * (b / w + 1) ≤ w * (a / w) := Int.mul_le_mul_of_nonneg_left (by omega) (by omega)
    rw [Int.mul_add] at h4; omega
  · have h4 : w * (a / w) ≤ w * (b / w) := Int.mul_le_mul_of_nonneg_left h3 (by omega)
    omega
theorem ofC_in {r : Rw} (h1 : r.In) (h2 : hS r.g r.la r.li r.pa ≤ 65536) : ofC r = (cfOf r, 0) := by
  unfold ofC
  rw [if_pos h1, if_neg (by omega)]
theorem eW_ {g la pa : Int} (h1 : eN g la ≤ 16) (h2 : ePg g pa ≤ 16) : 2 * max ((2 ^ eN g la : Nat) : Int) ((2 ^ ePg g pa : Nat) : Int) = wS g la pa := by
  unfold wS
  rcases Nat.le_total (eN g la) (ePg g pa) with h | h
  · have : (2 : Nat) ^ eN g la ≤ 2 ^ ePg g pa := Nat.pow_le_pow_right (by decide) h
    rw [Nat.max_eq_right h, Nat.pow_succ]; omega
  · have : (2 : Nat) ^ ePg g pa ≤ 2 ^ eN g la := Nat.pow_le_pow_right (by decide) h
    rw [Nat.max_eq_left h, Nat.pow_succ]; omega
theorem half_mult {M z : Int} (k : Nat) (_ : 0 < z) (h : M % (2 * z) = 0) : (M + (k : Int) * (M / 2)) % z = 0 := by
  have h1 := Int.mul_ediv_add_emod M (2 * z)
  rw [h, Int.add_zero] at h1
  have h2 : M = 2 * (z * (M / (2 * z))) := by rw [← Int.mul_assoc]; exact h1.symm
  have h3 : M / 2 = z * (M / (2 * z)) := by
    generalize z * (M / (2 * z)) = y at h2
    omega
  rw [h3]
  have h4 : M + (k : Int) * (z * (M / (2 * z))) = z * (2 * (M / (2 * z)) + (k : Int) * (M / (2 * z))) := by
    rw [Int.mul_add, ← Int.mul_assoc z, Int.mul_comm z 2, Int.mul_assoc 2 z, ← h2, ← Int.mul_assoc (k : Int), Int.mul_comm (k : Int) z, Int.mul_assoc z]
  rw [h4, Int.mul_emod_right]
theorem clog_twice {x : Nat} (h : 1 ≤ x) : 2 ^ clog x < 2 * x := by
  rcases Nat.eq_zero_or_pos (clog x) with h0 | h0
  · rw [h0]; simp; omega
  · have h7 := lt_clog (n := x) (e := clog x - 1) (by omega)
    have h8 : (2 : Nat) ^ clog x = 2 ^ (clog x - 1) * 2 := by rw [← Nat.pow_succ, show (clog x - 1).succ = clog x by omega]
    omega
theorem pow_and {e : Nat} (h : e ≤ 16) : wrap64 (((BitVec.ofInt IntKind.i64.bits ((2 ^ e : Nat) : Int)) &&& (BitVec.ofInt IntKind.i64.bits (wrap64 (((2 ^ e : Nat) : Int) - 1)))).toNat : Int) = 0 := by
  have z := Nat.two_pow_pos e
  have y := pow16 h
  have := (and_pow ((2 ^ e : Nat) : Int) (by omega) (by omega)).2 (by rw [Int.toNat_natCast]; exact ⟨e, rfl⟩)
  rw [band_eq, i64w] at this
  exact this
theorem round {G : GH} {c : Cf} (ok : c.Ok) {g l p : Nat} (ex : c.Ex g l) (hp : c.Pg = ((2 ^ p : Nat) : Int)) (_ : p ≤ 16) (hN : c.M % (2 * ((2 ^ (g + l) : Nat) : Int)) = 0) (hP : c.M % (2 * ((2 ^ p : Nat) : Int)) = 0) (d : Nat) :
    ∀ k : Nat, k + d = l + 1 → OkT (hodmanlaw2_ConfWhole.L52 machW CW (k : Int) c.G c.N c.M c.L c.Pg c.P c.H c.Sd G) := by
  have f := ok.facts
  have zN := Nat.two_pow_pos (g + l)
  have zP := Nat.two_pow_pos p
  have zG := Nat.two_pow_pos g
  have hL := ex.hL
  have hg := ex.hgl
  have eN_ := ex.hN
  induction d with
  | zero =>
    intro k hk
    rw [hodmanlaw2_ConfWhole.L52_eq, condD_neg (by omega), conf_Ceil.sp ok]
    simp only [q_bs, q_I, q_B, q_P, q_S, q_M, q_c, q_a, q_gz, q_gs, q_gk, q_ct, q_cf, q_nt, q_nf, q_xt, q_xf, q_tt, q_ff, q_tf, q_ft, q_at, q_af]
    obtain ⟨e, _, _⟩ := ok.ceil (k := c.L) (by omega) (by omega)
    have h2 : c.H = c.M + c.L * (c.M / 2) := ok.hH
    rw [condD_pos (by rw [e, h2]), decide_eq_true f.2.2.2.2.2.1.2]
    exact ⟨_, rfl⟩
  | succ d ih =>
    intro k hk
    have y0 := pow16 (e := g + k) (by omega)
    have z0 := Nat.two_pow_pos (g + k)
    obtain ⟨e, c1, c2⟩ := ok.ceil (k := (k : Int)) (by omega) (by omega)
    have b0 : 0 ≤ (k : Int) * (c.M / 2) := Int.mul_nonneg (by omega) (by omega)
    have h1 : Int.tmod (c.ceil k) c.Pg = 0 := by rw [Int.tmod_eq_emod_of_nonneg (by omega), e, hp]; exact half_mult k (by omega) hP
    have h2 : Int.tmod (c.ceil k) c.N = 0 := by rw [Int.tmod_eq_emod_of_nonneg (by omega), e, eN_]; exact half_mult k (by omega) hN
    have ev : c.M = 2 * (c.M / 2) := by
      have h4 := Int.mul_ediv_add_emod c.M (2 * ((2 ^ p : Nat) : Int))
      rw [hP, Int.mul_assoc] at h4
      generalize ((2 ^ p : Nat) : Int) * (c.M / (2 * ((2 ^ p : Nat) : Int))) = y at h4
      omega
    have h5 : wrap64 (2 * wrap64 (c.ceil k - c.M)) = wrap64 ((k : Int) * c.M) := by
      have h6 : (k : Int) * c.M = 2 * ((k : Int) * (c.M / 2)) := by
        rw [← Int.mul_assoc, Int.mul_comm 2 (k : Int), Int.mul_assoc, ← ev]
      rw [wrap_id (a := c.ceil k - c.M) (by omega) (by omega), h6, show c.ceil k - c.M = (k : Int) * (c.M / 2) by omega]
    rw [hodmanlaw2_ConfWhole.L52_eq, condD_pos (by omega), conf_Ceil.sp ok]
    simp only [q_bs, q_I, q_B, q_P, q_S, q_M, q_c, q_a, q_gz, q_gs, q_gk, q_ct, q_cf, q_nt, q_nf, q_xt, q_xf, q_tt, q_ff, q_tf, q_ft, q_at, q_af, binD_rem (show c.Pg ≠ 0 by omega), binD_rem (show c.N ≠ 0 by omega), h1, h2, i64w, h5, decide_true, hodmanlaw2_ConfWhole.J35_eq]
    rw [ex.hG, shl_pow g k (by omega), ← ex.hG]
    simp only [q_bs, q_I, q_B, q_P, q_S, q_M, q_c, q_a, q_gz, q_gs, q_gk, q_ct, q_cf, q_nt, q_nf, q_xt, q_xf, q_tt, q_ff, q_tf, q_ft, q_at, q_af]
    rw [conf_Shift.sp ex (by unfold R64; omega), shiftS_pow (by omega)]
    simp only [q_bs, q_I, q_B, q_P, q_S, q_M, q_c, q_a, q_gz, q_gs, q_gk, q_ct, q_cf, q_nt, q_nf, q_xt, q_xf, q_tt, q_ff, q_tf, q_ft, q_at, q_af, decide_true, hodmanlaw2_ConfWhole.J43_eq, i64w, wrap_id (a := (k : Int) + 1) (by omega) (by omega)]
    exact ih (k + 1) (by omega)
theorem hodmanlaw2_ConfWhole.law {G : GH} (hG : Beg G) (r : Rw) : OkT (CW hodmanlaw2_ConfWhole.id [.agg (rwC r)] G) := by
  obtain ⟨G1, e1, f1⟩ := hodmanlaw2_begun.sp hG
  rw [hodmanlaw2_ConfWhole.cw]
  unfold hodmanlaw2_ConfWhole.f
  simp only [e1, q_bs, q_I, q_B, q_P, q_S, q_M, q_c, q_a, q_gz, q_gs, q_gk, q_ct, q_cf, q_nt, q_nf, q_xt, q_xf, q_tt, q_ff, q_tf, q_ft, q_at, q_af]
  obtain ⟨G2, e2, h2⟩ := conf_Of.sp r f1.wf
  simp only [e2, q_bs, q_I, q_B, q_P, q_S, q_M, q_c, q_a, q_gz, q_gs, q_gk, q_ct, q_cf, q_nt, q_nf, q_xt, q_xf, q_tt, q_ff, q_tf, q_ft, q_at, q_af, List.length_cons, List.length_nil, if_true]
  clear e1 e2
  by_cases hin : r.In ∧ hS r.g r.la r.li r.pa ≤ 65536
  · obtain ⟨hin, hH2⟩ := hin
    rw [ofC_in hin hH2]
    obtain ⟨g, la, li, pa, bu, se⟩ := r
    unfold cfOf
    dsimp only at *
    have hin' := hin
    obtain ⟨⟨g1, g2⟩, ⟨l1, l2⟩, ⟨i1, i2⟩, ⟨p1, p2⟩, hb, hs⟩ := hin
    dsimp only at *
    obtain ⟨a1, a2, a3, a4, a5⟩ := mS_facts (g := g) (la := la) (pa := pa) i1 i2 g2 l2 p2
    have b0 := eG_le g2
    have b1 := eN_le g2 l2
    have b2 := ePg_le g2 p2
    have q0 := pow16 b0
    have q1 := pow16 b1
    have q2 := pow16 b2
    have z0 := Nat.two_pow_pos (eG g)
    have z1 := Nat.two_pow_pos (eN g la)
    have z2 := Nat.two_pow_pos (ePg g pa)
    have lg := le_clog g.toNat
    have tg := clog_twice (x := g.toNat) (by omega)
    have hge : eG g ≤ eN g la := by unfold eN; omega
    have hgp : eG g ≤ ePg g pa := by unfold ePg; omega
    have pGN : (2 : Nat) ^ eG g ≤ 2 ^ eN g la := Nat.pow_le_pow_right (by decide) hge
    have pGP : (2 : Nat) ^ eG g ≤ 2 ^ ePg g pa := Nat.pow_le_pow_right (by decide) hgp
    have pow_max : ∀ a : Int, 1 ≤ a → a ≤ 65536 → a ≤ ((2 ^ max (clog a.toNat) (eG g) : Nat) : Int) ∧ ((2 ^ max (clog a.toNat) (eG g) : Nat) : Int) < 2 * max a ((2 ^ eG g : Nat) : Int) := by
      intro a h1 h2
      have h3 := le_clog a.toNat
      have h4 := clog_twice (x := a.toNat) (by omega)
      rcases Nat.le_total (clog a.toNat) (eG g) with h | h
      · have h5 : (2 : Nat) ^ clog a.toNat ≤ 2 ^ eG g := Nat.pow_le_pow_right (by decide) h
        rw [Nat.max_eq_right h]; omega
      · rw [Nat.max_eq_left h]; omega
    obtain ⟨n1, n2⟩ := pow_max la l1 l2
    obtain ⟨m1, m2⟩ := pow_max pa p1 p2
    have n1 : la ≤ ((2 ^ eN g la : Nat) : Int) := n1
    have n2 : ((2 ^ eN g la : Nat) : Int) < 2 * max la ((2 ^ eG g : Nat) : Int) := n2
    have m1 : pa ≤ ((2 ^ ePg g pa : Nat) : Int) := m1
    have m2 : ((2 ^ ePg g pa : Nat) : Int) < 2 * max pa ((2 ^ eG g : Nat) : Int) := m2
    have lg : (g.toNat) ≤ 2 ^ eG g := lg
    have tg : 2 ^ eG g < 2 * g.toNat := tg
    have eW := eW_ (g := g) (la := la) (pa := pa) b1 b2
    have dv : ∀ x : Nat, x ≤ max (eN g la) (ePg g pa) → mS g la li pa % (2 * ((2 ^ x : Nat) : Int)) = 0 := by
      intro x hx
      have h1 : wS g la pa = (2 * ((2 ^ x : Nat) : Int)) * ((2 ^ (max (eN g la) (ePg g pa) - x) : Nat) : Int) := by
        unfold wS
        rw [Int.mul_assoc, ← Int.natCast_mul, ← Nat.pow_add, show x + (max (eN g la) (ePg g pa) - x) = max (eN g la) (ePg g pa) by omega, Nat.pow_succ]
        omega
      have h2 : (2 * ((2 ^ x : Nat) : Int)) ∣ wS g la pa := ⟨_, h1⟩
      exact Int.emod_eq_zero_of_dvd (Int.dvd_trans h2 (Int.dvd_of_emod_eq_zero a3))
    obtain ⟨r1, r2, r3, r4⟩ := hS_range (g := g) (la := la) (pa := pa) i1 i2 g2 l2 p2
    have hMle : mS g la li pa ≤ 65536 := by
      have : hS g la li pa = mS g la li pa + lS g la * (mS g la li pa / 2) := rfl
      omega
    have hL : lS g la = ((eN g la - eG g : Nat) : Int) := rfl
    have sh : binD .shl .i64 ((2 ^ eG g : Nat) : Int) (lS g la) = some ((2 ^ eN g la : Nat) : Int) := by
      rw [hL, shl_pow _ _ (by omega), show eG g + (eN g la - eG g) = eN g la by omega]
    have fin : OkT (hodmanlaw2_ConfWhole.L52 machW CW ((0 : Nat) : Int) ((2 ^ eG g : Nat) : Int) ((2 ^ (eG g + (eN g la - eG g)) : Nat) : Int) (mS g la li pa) ((eN g la - eG g : Nat) : Int) ((2 ^ ePg g pa : Nat) : Int) bu (hS g la li pa) se G2) := by
      have ok : (Cf.mk ((2 ^ eG g : Nat) : Int) ((2 ^ (eG g + (eN g la - eG g)) : Nat) : Int) (mS g la li pa) ((eN g la - eG g : Nat) : Int) ((2 ^ ePg g pa : Nat) : Int) bu (hS g la li pa) se).Ok := by
        have := ofC_ok (r := ⟨g, la, li, pa, bu, se⟩) (by rw [ofC_in hin' hH2])
        rw [ofC_in hin' hH2] at this
        rw [show eG g + (eN g la - eG g) = eN g la by omega]
        exact this
      exact round ok ⟨rfl, rfl, rfl, by omega⟩ (p := ePg g pa) rfl b2 (by dsimp only; rw [show eG g + (eN g la - eG g) = eN g la by omega]; exact dv _ (by omega)) (dv _ (by omega)) (eN g la - eG g + 1) 0 (by omega)
    rw [show eG g + (eN g la - eG g) = eN g la by omega] at fin
    simp only [q_cn, q_cd, if_true, mx2_eq, i64w, eW, wrap_id (a := 2 * g) (by omega) (by omega), wrap_id (a := 2 * max la ((2 ^ eG g : Nat) : Int)) (by omega) (by omega), wrap_id (a := 2 * max pa ((2 ^ eG g : Nat) : Int)) (by omega) (by omega), wrap_id (a := mS g la li pa - li) (by omega) (by omega), wrap_id (a := wS g la pa) (by omega) (by omega), if_neg (show ¬ ((2 ^ eG g : Nat) : Int) < g by omega), if_neg (show ¬ ((2 ^ eN g la : Nat) : Int) < la by omega), if_neg (show ¬ ((2 ^ eN g la : Nat) : Int) < ((2 ^ eG g : Nat) : Int) by omega),
      if_neg (show ¬ ((2 ^ ePg g pa : Nat) : Int) < ((2 ^ eG g : Nat) : Int) by omega), if_neg (show ¬ ((2 ^ ePg g pa : Nat) : Int) < pa by omega), if_neg (show ¬ mS g la li pa < li by omega), if_neg (show ¬ ((2 ^ eG g : Nat) : Int) ≥ 2 * g by omega),
      if_neg (show ¬ ((2 ^ eN g la : Nat) : Int) ≥ 2 * max la ((2 ^ eG g : Nat) : Int) by omega), if_neg (show ¬ ((2 ^ ePg g pa : Nat) : Int) ≥ 2 * max pa ((2 ^ eG g : Nat) : Int) by omega), if_neg (show ¬ mS g la li pa - li ≥ wS g la pa by omega)]
    rw [if_pos (pow_and b0), if_pos (pow_and b1), if_pos (pow_and b2), sh]
    simp only [q_bs, q_I, q_B, q_P, q_S, q_M, q_c, q_a, q_gz, q_gs, q_gk, q_ct, q_cf, q_nt, q_nf, q_xt, q_xf, q_tt, q_ff, q_tf, q_ft, q_at, q_af, decide_true, hodmanlaw2_ConfWhole.J21_eq]
    exact fin
  · have e : ofC r = (cf0, 1) := by
      unfold ofC
      by_cases h : r.In
      · rw [if_pos h, if_pos (show hS r.g r.la r.li r.pa > 65536 from Int.not_le.1 (fun c => hin ⟨h, c⟩))]
      · rw [if_neg h]
    simp only [e, q_cn, q_cd, if_neg (show ¬ (1 : Int) = 0 by omega), if_true, cf0, decide_true, q_bs, q_I, q_B, q_P, q_S, q_M, q_c, q_a, q_gz, q_gs, q_gk, q_ct, q_cf, q_nt, q_nf, q_xt, q_xf, q_tt, q_ff, q_tf, q_ft, q_at, q_af]
    exact ⟨_, rfl⟩
end Go.Proofs.D.S
/- A struct of six whole numbers that comes in by value: it reads as six numbers of 64 bits. -/
namespace Go.Proofs.D
open Go Go.Joins Go.ChangeShapes Go.WideShapes Go.RowKit Go.Deep
section
variable {H : Type} {enc : TypeId × Value → H} {P : Program} {w : World} {base : Nat} {spare : Nat → Bool} {held : Bool}

theorem ints6 {r : Reach} {b0 : Nat} {t u : TypeId} {f0 f1 f2 f3 f4 f5 : Field} {v : Value} {d : DataW H} {p : List MemPlace} (hs : P.underlying t = some (.struct #[f0, f1, f2, f3, f4, f5])) (hone : oneCellFields P #[f0, f1, f2, f3, f4, f5] = true) (hC : P.cellsOf t = 6)
    (hu : P.underlying u = some (.int .i64)) (hf0 : f0.type = u) (hf1 : f1.type = u) (hf2 : f2.type = u) (hf3 : f3.type = u) (hf4 : f4.type = u) (hf5 : f5.type = u)
    (hv : Value.okWide P w r b0 t v) (h : DataW.Trod enc P w base spare held t v d p) :
    ∃ (a0 a1 a2 a3 a4 a5 : Int), v = .agg #[.int .i64 a0, .int .i64 a1, .int .i64 a2, .int .i64 a3, .int .i64 a4, .int .i64 a5] ∧
      (Lit.int .i64 a0).wf = true ∧ (Lit.int .i64 a1).wf = true ∧ (Lit.int .i64 a2).wf = true ∧ (Lit.int .i64 a3).wf = true ∧ (Lit.int .i64 a4).wf = true ∧ (Lit.int .i64 a5).wf = true := by
  obtain ⟨cs, rfl, hsz⟩ := okWide_struct hs hv
  obtain ⟨l⟩ := cs
  match l, hsz.trans hC with
  | [c0, c1, c2, c3, c4, c5], _ =>
    obtain ⟨fuel, hf⟩ := h
    obtain ⟨xs, n, _, hx, _, hlen, hg⟩ := DataW.trod_struct hs hf
    obtain ⟨o0, k0⟩ := hone_of hone 0 f0 rfl
    obtain ⟨o1, k1⟩ := hone_of hone 1 f1 rfl
    obtain ⟨o2, k2⟩ := hone_of hone 2 f2 rfl
    obtain ⟨o3, k3⟩ := hone_of hone 3 f3 rfl
    obtain ⟨o4, k4⟩ := hone_of hone 4 f4 rfl
    obtain ⟨o5, k5⟩ := hone_of hone 5 f5 rfl
    match xs, hlen with
    | [y0, y1, y2, y3, y4, y5], _ =>
      have g0 : DataW.trod enc P w base spare held n f0.type [c0] = some y0 := by simpa [Value.cells, o0, k0] using hg 0 f0 rfl
      have g1 : DataW.trod enc P w base spare held n f1.type [c1] = some y1 := by simpa [Value.cells, o1, k1] using hg 1 f1 rfl
      have g2 : DataW.trod enc P w base spare held n f2.type [c2] = some y2 := by simpa [Value.cells, o2, k2] using hg 2 f2 rfl
      have g3 : DataW.trod enc P w base spare held n f3.type [c3] = some y3 := by simpa [Value.cells, o3, k3] using hg 3 f3 rfl
      have g4 : DataW.trod enc P w base spare held n f4.type [c4] = some y4 := by simpa [Value.cells, o4, k4] using hg 4 f4 rfl
      have g5 : DataW.trod enc P w base spare held n f5.type [c5] = some y5 := by simpa [Value.cells, o5, k5] using hg 5 f5 rfl
      obtain ⟨a0, e0, _, w0⟩ := DataW.trod_int (by rw [hf0]; exact hu) g0
      obtain ⟨a1, e1, _, w1⟩ := DataW.trod_int (by rw [hf1]; exact hu) g1
      obtain ⟨a2, e2, _, w2⟩ := DataW.trod_int (by rw [hf2]; exact hu) g2
      obtain ⟨a3, e3, _, w3⟩ := DataW.trod_int (by rw [hf3]; exact hu) g3
      obtain ⟨a4, e4, _, w4⟩ := DataW.trod_int (by rw [hf4]; exact hu) g4
      obtain ⟨a5, e5, _, w5⟩ := DataW.trod_int (by rw [hf5]; exact hu) g5
      simp only [List.cons.injEq, and_true] at e0 e1 e2 e3 e4 e5
      subst e0 e1 e2 e3 e4 e5
      exact ⟨a0, a1, a2, a3, a4, a5, rfl, w0, w1, w2, w3, w4, w5⟩
end
theorem agg6_rel {φ : Phi} {a0 a1 a2 a3 a4 a5 : Int} : V1Rel φ (.agg (S.rwC ⟨a0, a1, a2, a3, a4, a5⟩)) (.agg #[.int .i64 a0, .int .i64 a1, .int .i64 a2, .int .i64 a3, .int .i64 a4, .int .i64 a5]) :=
  ⟨_, rfl, R2.cons rfl (R2.cons rfl (R2.cons rfl (R2.cons rfl (R2.cons rfl (R2.cons rfl R2.nil)))))⟩
end Go.Proofs.D
