/- Texts of the proof (OKT, SpCalc, SpConf, SpClass, SpPicks, BegB, LawConfAll, DAgg); no condition. -/
import Derived.Test.YtefhfajcpefeeaaFb
import Derived.Test.YtefhfajcpefeeaaConfAlld
import Derived.Test.YtefhfajcpefeeaaConfAlle
import Derived.Test.YtefhfajcpefeeaaConfAllc
import Derived.Lib.SmallJoins
set_option linter.unusedSimpArgs false
set_option linter.unusedVariables false
/- All functions pass the check. -/
set_option maxRecDepth 100000
namespace Go.Proofs.D
open Go
theorem tab_ok : ∀ x ∈ tab, okF Try.prog x.1 x.2.1 x.2.2 = true := by
  unfold tab
  exact List.forall_mem_cons.2 ⟨calc_Log.ok, List.forall_mem_cons.2 ⟨calc_Up.ok, List.forall_mem_cons.2 ⟨conf_Shift.ok, List.forall_mem_cons.2 ⟨hodmanref1_Log.ok, List.forall_mem_cons.2 ⟨hodmanref1_Up.ok, List.forall_mem_cons.2 ⟨hodmanref1_Add.ok, List.forall_mem_cons.2 ⟨hodmanref1_Round.ok, List.forall_mem_cons.2 ⟨hodmanref1_Of.ok, List.forall_mem_cons.2 ⟨hodmanplay_Made.ok, List.forall_mem_cons.2 ⟨hodmanplay_Picks_Num.ok, List.forall_mem_cons.2 ⟨hodmanplay_Picks_Raw.ok, List.forall_mem_cons.2 ⟨hodmanref1_Size.ok, List.forall_mem_cons.2 ⟨hodmanref1_Shift.ok, List.forall_mem_cons.2 ⟨conf_within.ok, List.forall_mem_cons.2 ⟨calc_Add.ok, List.forall_mem_cons.2 ⟨calc_Round.ok, List.forall_mem_cons.2 ⟨conf_Of.ok, List.forall_mem_cons.2 ⟨conf_Ceil.ok, List.forall_mem_cons.2 ⟨hodmanlaw2_begun.ok, List.forall_mem_cons.2 ⟨hodmanref1_Ceil.ok, List.forall_mem_cons.2 ⟨hodmanlaw2_ConfAll.ok, List.forall_mem_nil _⟩⟩⟩⟩⟩⟩⟩⟩⟩⟩⟩⟩⟩⟩⟩⟩⟩⟩⟩⟩⟩
theorem T_ok : ∀ f p d, T f = some (p, d) → okF Try.prog f p d = true := by
  intro f p d h
  unfold T at h
  obtain ⟨x, hx, e⟩ := Option.map_eq_some_iff.1 h
  have h1 := List.mem_of_find?_eq_some hx
  have h2 := List.find?_some hx
  have h3 : x.1 = f := by simpa using h2
  have := tab_ok x h1
  rw [h3, e] at this
  exact this
theorem mixed : Try.prog.follows .mixedOrders = true := by kernel_rfl
end Go.Proofs.D
/- What the functions of calc and of the first reference come to. -/
set_option linter.unusedVariables false
set_option linter.unusedSimpArgs false
namespace Go.Proofs.D.S
open Go Go.RowKit
variable {G : GH}
theorem band_eq (x y : Int) : Go.bits .and .i64 x y = IntKind.i64.wrap (((BitVec.ofInt IntKind.i64.bits x) &&& (BitVec.ofInt IntKind.i64.bits y)).toNat : Int) := rfl
theorem bxor_eq (x y : Int) : Go.bits .xor .i64 x y = IntKind.i64.wrap (((BitVec.ofInt IntKind.i64.bits x) ^^^ (BitVec.ofInt IntKind.i64.bits y)).toNat : Int) := rfl
theorem calc_Add.sp {a b : Int} (ha : R64 a) (hb : R64 b) : CW calc_Add.id [.c (.int .i64 a), .c (.int .i64 b)] G = some ([.c (.int .i64 (addS a b).1), .c (.bool (addS a b).2)], G) := by
  rw [calc_Add.cw]
  have e : IntKind.i64.wrap (IntKind.u64.wrap (IntKind.u64.wrap a + IntKind.u64.wrap b)) = wrap64 (a + b) := by rw [i64w]; exact add_sum a b
  have t := add_test a b ha hb
  rw [band_eq, bxor_eq, bxor_eq] at t
  simp only [calc_Add.f, e, Bool.cond_decide]
  generalize (IntKind.i64.wrap (((BitVec.ofInt IntKind.i64.bits (IntKind.i64.wrap (((BitVec.ofInt IntKind.i64.bits a) ^^^ (BitVec.ofInt IntKind.i64.bits (wrap64 (a + b)))).toNat : Int))) &&& (BitVec.ofInt IntKind.i64.bits (IntKind.i64.wrap (((BitVec.ofInt IntKind.i64.bits b) ^^^ (BitVec.ofInt IntKind.i64.bits (wrap64 (a + b)))).toNat : Int)))).toNat : Int)) = X at t ⊢
  unfold addS
  by_cases h : R64 (a + b)
  · rw [if_neg (fun c => t.1 c h), if_pos h, wrap_in h]
  · rw [if_pos (t.2 h), if_neg h]
theorem calc_Up.lp (v : Int) (h1 : 1 ≤ v) (h2 : v ≤ 4611686018427387904) (d : Nat) : ∀ (e : Nat), e + d = clog v.toNat →
    calc_Up.L17 machW CW v ((2 ^ e : Nat) : Int) G = some ([.c (.int .i64 ((2 ^ clog v.toNat : Nat) : Int)), .c (.bool true)], G) := by
  have hc : clog v.toNat ≤ 62 := clog_le (by simp; omega)
  induction d with
  | zero =>
    intro e he
    obtain rfl : e = clog v.toNat := by omega
    have := le_clog v.toNat
    rw [calc_Up.L17_eq, condD_neg (by omega)]
  | succ d ih =>
    intro e he
    have h3 := lt_clog (n := v.toNat) (e := e) (by omega)
    have h4 := pow62 (e := e) (by omega)
    have h5 := pow62 (e := e + 1) (by omega)
    have e1 : IntKind.i64.wrap (((2 ^ e : Nat) : Int) * 2 ^ (min (1 : Int).toNat IntKind.i64.bits)) = ((2 ^ (e + 1) : Nat) : Int) := by
      have : (2 : Int) ^ (min (1 : Int).toNat IntKind.i64.bits) = 2 := by decide
      rw [this, i64w, wrap_id] <;> rw [Nat.pow_succ] at * <;> omega
    rw [calc_Up.L17_eq, condD_pos (by omega), e1]
    exact ih (e + 1) (by omega)
theorem calc_Up.sp (v : Int) : CW calc_Up.id [.c (.int .i64 v)] G = some ([.c (.int .i64 (upS v).1), .c (.bool (upS v).2)], G) := by
  rw [calc_Up.cw]
  unfold calc_Up.f upS
  by_cases h1 : v < 1
  · rw [if_pos h1, condD_pos h1, calc_Up.J6_eq]; rfl
  · rw [if_neg h1, condD_neg h1]
    by_cases h2 : v > 4611686018427387904
    · rw [if_pos h2, decide_eq_true h2, calc_Up.J6_eq]; rfl
    · rw [if_neg h2, decide_eq_false h2, calc_Up.J6_eq]
      exact calc_Up.lp v (by omega) (by omega) (clog v.toNat) 0 (by omega)
theorem calc_Log.lp (e : Nat) : ∀ (n : Int), 0 ≤ n → n + e ≤ 100 →
    calc_Log.L18 machW CW ((2 ^ e : Nat) : Int) n G = some ([.c (.int .i64 (n + e)), .c (.bool true)], G) := by
  induction e with
  | zero => intro n h0 h1; rw [calc_Log.L18_eq, condD_neg (by decide)]; simp
  | succ e ih =>
    intro n h0 h1
    have h3 : 0 < 2 ^ e := Nat.two_pow_pos e
    have e1 : Int.fdiv ((2 ^ (e + 1) : Nat) : Int) (2 ^ (min (1 : Int).toNat IntKind.i64.bits)) = ((2 ^ e : Nat) : Int) := by
      have : (2 : Int) ^ (min (1 : Int).toNat IntKind.i64.bits) = 2 := by decide
      rw [this, Int.fdiv_eq_ediv_of_nonneg _ (by omega), Nat.pow_succ]; omega
    rw [calc_Log.L18_eq, condD_pos (by rw [Nat.pow_succ]; omega), e1, i64w, wrap_id (by omega) (by omega), ih (n + 1) (by omega) (by omega)]
    simp; omega
theorem calc_Log.sp {v : Int} (hv : R64 v) : CW calc_Log.id [.c (.int .i64 v)] G = some ([.c (.int .i64 (logS v).1), .c (.bool (logS v).2)], G) := by
  rw [calc_Log.cw]
  unfold calc_Log.f logS
  by_cases h1 : v < 1
  · rw [condD_pos h1, if_neg (by omega), calc_Log.J6_eq]; rfl
  · rw [condD_neg h1]
    unfold R64 at hv
    have hp := and_pow v (by omega) (by omega)
    rw [isPow_iff] at hp
    rw [band_eq, ← i64w (v - 1)] at hp
    have hl := log2_lt63 (v := v) (by omega) (by omega)
    by_cases h2 : v.toNat = 2 ^ Nat.log2 v.toNat
    · have h3 : v = ((2 ^ Nat.log2 v.toNat : Nat) : Int) := by omega
      rw [if_pos ⟨by omega, h3⟩, decide_eq_true (hp.2 h2), calc_Log.J6_eq]
      have h5 := calc_Log.lp (G := G) (Nat.log2 v.toNat) 0 (by omega) (by omega)
      rw [← h3] at h5
      simpa using h5
    · rw [if_neg (by rintro ⟨_, h⟩; exact h2 (by omega)), decide_eq_false (fun c => h2 (hp.1 c)), calc_Log.J6_eq]; rfl
theorem calc_Round.sp {v d : Int} (hv : R64 v) (ht : R64 d) : CW calc_Round.id [.c (.int .i64 v), .c (.int .i64 d)] G = some ([.c (.int .i64 (roundS v d).1), .c (.bool (roundS v d).2)], G) := by
  rw [calc_Round.cw]
  unfold calc_Round.f roundS
  have hv' := hv
  unfold R64 at hv ht
  by_cases h1 : v < 0
  · rw [condD_pos h1, if_pos h1, calc_Round.J6_eq]; rfl
  · rw [condD_neg h1, if_neg h1]
    by_cases h2 : d < 1
    · rw [if_pos h2, decide_eq_true h2, calc_Round.J6_eq]; rfl
    · rw [if_neg h2, decide_eq_false h2, calc_Round.J6_eq]
      have e1 : Int.tmod v d = v % d := Int.tmod_eq_emod_of_nonneg (by omega)
      have h3 := Int.emod_nonneg v (b := d) (by omega)
      have h4 := Int.emod_lt_of_pos v (b := d) (by omega)
      rw [binD_rem (by omega), e1]
      by_cases h5 : v % d = 0
      · rw [if_pos h5]; simp only [q_bs, q_I, q_B, q_P, q_S, q_M, q_c, q_a, q_gz, q_gs, q_gk, q_ct, q_cf, q_nt, q_nf, q_xt, q_xf, q_tt, q_ff, q_tf, q_ft, q_at, q_af, decide_eq_true h5]
      · rw [if_neg h5]
        simp only [q_bs, q_I, q_B, q_P, q_S, q_M, q_c, q_a, q_gz, q_gs, q_gk, q_ct, q_cf, q_nt, q_nf, q_xt, q_xf, q_tt, q_ff, q_tf, q_ft, q_at, q_af, decide_eq_false h5]
        rw [i64w, wrap_id (by omega) (by omega), calc_Add.sp hv' (by unfold R64; omega)]
        rfl
theorem hodmanref1_Add.sp {a b : Int} (ha : R64 a) (hb : R64 b) : CW hodmanref1_Add.id [.c (.int .i64 a), .c (.int .i64 b)] G = some ([.c (.int .i64 (addS a b).1), .c (.bool (addS a b).2)], G) := by
  rw [hodmanref1_Add.cw]
  unfold hodmanref1_Add.f addS
  unfold R64 at ha hb
  by_cases h : R64 (a + b)
  · rw [if_pos h]
    have h' := h
    unfold R64 at h
    simp only [i64w, wrap_in h', hodmanref1_Add.J6_eq, Bool.cond_decide, q_bs, q_I, q_B, q_P, q_S, q_M, q_c, q_a, q_gz, q_gs, q_gk, q_ct, q_cf, q_nt, q_nf, q_xt, q_xf, q_tt, q_ff, q_tf, q_ft, q_at, q_af]
    by_cases b0 : b > 0
    · rw [if_pos b0, if_neg (by unfold wrap64; omega), if_neg (by omega)]
    · rw [if_neg b0]
      by_cases b1 : b < 0
      · rw [if_pos b1, if_neg (by unfold wrap64; omega)]
      · rw [if_neg b1]
  · rw [if_neg h]
    unfold R64 at h
    simp only [i64w, hodmanref1_Add.J6_eq, Bool.cond_decide, q_bs, q_I, q_B, q_P, q_S, q_M, q_c, q_a, q_gz, q_gs, q_gk, q_ct, q_cf, q_nt, q_nf, q_xt, q_xf, q_tt, q_ff, q_tf, q_ft, q_at, q_af]
    by_cases b0 : b > 0
    · rw [if_pos b0, if_pos (by unfold wrap64; omega)]
    · rw [if_neg b0]
      by_cases b1 : b < 0
      · rw [if_pos b1, if_pos (by unfold wrap64; omega)]
      · omega
theorem hodmanref1_Round.sp {v d : Int} (hv : R64 v) (ht : R64 d) : CW hodmanref1_Round.id [.c (.int .i64 v), .c (.int .i64 d)] G = some ([.c (.int .i64 (roundS v d).1), .c (.bool (roundS v d).2)], G) := by
  rw [hodmanref1_Round.cw]
  unfold hodmanref1_Round.f roundS
  unfold R64 at hv ht
  by_cases h1 : v < 0
  · rw [condD_pos h1, if_pos h1, hodmanref1_Round.J6_eq]; rfl
  · rw [condD_neg h1, if_neg h1]
    by_cases h2 : d < 1
    · rw [if_pos h2, decide_eq_true h2, hodmanref1_Round.J6_eq]; rfl
    · rw [if_neg h2, decide_eq_false h2, hodmanref1_Round.J6_eq]
      have e1 : Int.tmod v d = v % d := Int.tmod_eq_emod_of_nonneg (by omega)
      have h3 := Int.emod_nonneg v (b := d) (by omega)
      have h4 := Int.emod_lt_of_pos v (b := d) (by omega)
      have h6 : v % d ≤ v := by
        have := Int.mul_ediv_add_emod v d
        have h7 := Int.ediv_nonneg (a := v) (b := d) (by omega) (by omega)
        have h8 := Int.mul_nonneg (show 0 ≤ d by omega) h7
        omega
      simp only [binD_rem (show d ≠ 0 by omega), e1, q_bs, q_I, q_B, q_P, q_S, q_M, q_c, q_a, q_gz, q_gs, q_gk, q_ct, q_cf, q_nt, q_nf, q_xt, q_xf, q_tt, q_ff, q_tf, q_ft, q_at, q_af]
      by_cases h5 : v % d = 0
      · rw [if_pos h5, condD_pos h5]
      · rw [if_neg h5, condD_neg h5]
        rw [i64w, wrap_id (by omega) (by omega), hodmanref1_Add.sp (by unfold R64; omega) (by unfold R64; omega)]
        simp only [q_bs, q_I, q_B, q_P, q_S, q_M, q_c, q_a, q_gz, q_gs, q_gk, q_ct, q_cf, q_nt, q_nf, q_xt, q_xf, q_tt, q_ff, q_tf, q_ft, q_at, q_af, addS, show v - v % d + d = v + (d - v % d) by omega]
theorem hodmanref1_Up.lp (v : Int) (h1 : 1 ≤ v) (h2 : v ≤ 4611686018427387904) (d : Nat) : ∀ (e : Nat), e + d = clog v.toNat →
    hodmanref1_Up.L17 machW CW v ((2 ^ e : Nat) : Int) G = some ([.c (.int .i64 ((2 ^ clog v.toNat : Nat) : Int)), .c (.bool true)], G) := by
  have hc : clog v.toNat ≤ 62 := clog_le (by simp; omega)
  induction d with
  | zero =>
    intro e he
    obtain rfl : e = clog v.toNat := by omega
    have := le_clog v.toNat
    rw [hodmanref1_Up.L17_eq, condD_neg (by omega)]
  | succ d ih =>
    intro e he
    have h3 := lt_clog (n := v.toNat) (e := e) (by omega)
    have h5 := pow62 (e := e + 1) (by omega)
    have e1 : IntKind.i64.wrap (((2 ^ e : Nat) : Int) * 2) = ((2 ^ (e + 1) : Nat) : Int) := by
      rw [i64w, wrap_id] <;> rw [Nat.pow_succ] at * <;> omega
    rw [hodmanref1_Up.L17_eq, condD_pos (by omega), e1]
    exact ih (e + 1) (by omega)
theorem hodmanref1_Up.sp (v : Int) : CW hodmanref1_Up.id [.c (.int .i64 v)] G = some ([.c (.int .i64 (upS v).1), .c (.bool (upS v).2)], G) := by
  rw [hodmanref1_Up.cw]
  unfold hodmanref1_Up.f upS
  by_cases h1 : v < 1
  · rw [if_pos h1, condD_pos h1, hodmanref1_Up.J6_eq]; rfl
  · rw [if_neg h1, condD_neg h1]
    by_cases h2 : v > 4611686018427387904
    · rw [if_pos h2, decide_eq_true h2, hodmanref1_Up.J6_eq]; rfl
    · rw [if_neg h2, decide_eq_false h2, hodmanref1_Up.J6_eq]
      exact hodmanref1_Up.lp v (by omega) (by omega) (clog v.toNat) 0 (by omega)
end Go.Proofs.D.S
/- What the functions of conf, class, admit and of the first reference come to, and what is read out of numbers. -/
set_option linter.unusedVariables false
set_option linter.unusedSimpArgs false
namespace Go.Proofs.D.S
open Go Go.RowKit
variable {G G0 : GH}
theorem Hp.ne {id : Nat} {c : Cell} {cs : List Cell} {L : List (Nat × Obj)} (h : Hp G0 G ((id, .row (c :: cs) false) :: L)) : id ≠ 0 := by
  rcases h.ok _ (List.mem_cons_self ..) with ⟨_, b⟩ | ⟨_, b, _⟩
  · simp at b
  · dsimp only at b; omega
theorem nbeq {n : Nat} (h : n ≠ 0) : (!Nat.beq n 0) = true := by
  cases n with
  | zero => exact absurd rfl h
  | succ n => rfl
theorem guardN {R : Type} {n : Nat} (h : n ≠ 0) (K : Option R) : guardK (!Nat.beq n 0) K = K := guardK_of (nbeq h) K
theorem hodmanref1_Log.lp {v : Int} (hv : R64 v) (d : Nat) : ∀ (n : Nat), n + d = 63 → (∀ m, m < n → v ≠ ((2 ^ m : Nat) : Int)) → n ≤ 62 →
    hodmanref1_Log.L25 machW CW v ((2 ^ n : Nat) : Int) (n : Int) G = some ([.c (.int .i64 (logS v).1), .c (.bool (logS v).2)], G) := by
  induction d with
  | zero => intro n hn _ h; omega
  | succ d ih =>
    intro n hn hm h62
    have hpos := Nat.two_pow_pos n
    have h4 := pow62 (e := n) (by omega)
    rw [hodmanref1_Log.L25_eq, condD_pos (by omega)]
    by_cases h1 : ((2 ^ n : Nat) : Int) = v
    · rw [condD_pos h1]
      have h2 : v.toNat = 2 ^ n := by omega
      unfold logS
      rw [h2, Nat.log2_two_pow, if_pos ⟨by omega, h1.symm⟩]
    · rw [condD_neg h1]
      by_cases h2 : (n : Int) < 62
      · rw [condD_pos h2]
        have h5 := pow62 (e := n + 1) (by omega)
        have e1 : IntKind.i64.wrap (((2 ^ n : Nat) : Int) * 2) = ((2 ^ (n + 1) : Nat) : Int) := by
          rw [Nat.pow_succ] at h5 ⊢; rw [i64w, wrap_id] <;> omega
        have e2 : IntKind.i64.wrap ((n : Int) + 1) = ((n + 1 : Nat) : Int) := by rw [i64w, wrap_id] <;> omega
        rw [e1, hodmanref1_Log.J22_eq, e2]
        refine ih (n + 1) (by omega) ?_ (by omega)
        intro m hmn
        by_cases hme : m = n
        · subst hme; exact fun c => h1 c.symm
        · exact hm m (by omega)
      · rw [condD_neg h2]
        have e2 : IntKind.i64.wrap ((n : Int) + 1) = 63 := by rw [i64w, wrap_id] <;> omega
        rw [hodmanref1_Log.J22_eq, e2, hodmanref1_Log.L25_eq, condD_neg (by omega)]
        unfold logS
        rw [if_neg]
        rintro ⟨h3, h5⟩
        unfold R64 at hv
        have h6 := log2_lt63 (v := v) h3 (by omega)
        by_cases h7 : Nat.log2 v.toNat = n
        · rw [h7] at h5; exact h1 h5.symm
        · exact hm _ (by omega) h5
theorem hodmanref1_Log.sp {v : Int} (hv : R64 v) : CW hodmanref1_Log.id [.c (.int .i64 v)] G = some ([.c (.int .i64 (logS v).1), .c (.bool (logS v).2)], G) := by
  rw [hodmanref1_Log.cw]
  exact hodmanref1_Log.lp hv 63 0 (by omega) (fun m h => by omega) (by omega)
/-- The sizes that Of comes to, one by one. -/
theorem of_steps {r : Rw} (hin : r.In) :
    upS r.g = (((2 ^ eG r.g : Nat) : Int), true) ∧ upS (mx2 r.la ((2 ^ eG r.g : Nat) : Int)) = (((2 ^ eN r.g r.la : Nat) : Int), true) ∧ upS (mx2 r.pa ((2 ^ eG r.g : Nat) : Int)) = (((2 ^ ePg r.g r.pa : Nat) : Int), true) ∧
    (mx2 ((2 ^ eN r.g r.la : Nat) : Int) ((2 ^ ePg r.g r.pa : Nat) : Int)) * 2 = wS r.g r.la r.pa ∧ R64 (wS r.g r.la r.pa) ∧ R64 r.li ∧ roundS r.li (wS r.g r.la r.pa) = (mS r.g r.la r.li r.pa, true) ∧ ((2 ^ eG r.g : Nat) : Int) ≠ 0 ∧
    wrap64 (Int.tdiv ((2 ^ eN r.g r.la : Nat) : Int) ((2 ^ eG r.g : Nat) : Int)) = ((2 ^ (eN r.g r.la - eG r.g) : Nat) : Int) ∧ R64 ((2 ^ (eN r.g r.la - eG r.g) : Nat) : Int) ∧
    0 ≤ mS r.g r.la r.li r.pa ∧ R64 (mS r.g r.la r.li r.pa / 2) ∧ wrap64 (((eN r.g r.la - eG r.g : Nat) : Int) * (mS r.g r.la r.li r.pa / 2)) = lS r.g r.la * (mS r.g r.la r.li r.pa / 2) ∧ wrap64 (mS r.g r.la r.li r.pa + lS r.g r.la * (mS r.g r.la r.li r.pa / 2)) = hS r.g r.la r.li r.pa := by
  obtain ⟨g, la, li, pa, bu, se⟩ := r
  obtain ⟨⟨g1, g2⟩, ⟨l1, l2⟩, ⟨i1, i2⟩, ⟨p1, p2⟩, hb, hs⟩ := hin
  dsimp only at *
  have b0 := eG_le g2
  have b1 := eN_le g2 l2
  have b2 := ePg_le g2 p2
  have q0 := pow16 b0
  have q1 := pow16 b1
  have q2 := pow16 b2
  have z0 := Nat.two_pow_pos (eG g)
  have z1 := Nat.two_pow_pos (eN g la)
  have z2 := Nat.two_pow_pos (ePg g pa)
  have mxi : ∀ a b : Int, mx2 a b = if a < b then b else a := fun a b => by rw [mx2_eq, max_if]
  have eN' : clog (mx2 la ((2 ^ eG g : Nat) : Int)).toNat = eN g la := clog_toMax la (eG g) _ (mxi _ _)
  have eP' : clog (mx2 pa ((2 ^ eG g : Nat) : Int)).toNat = ePg g pa := clog_toMax pa (eG g) _ (mxi _ _)
  have mb : ∀ a : Int, 1 ≤ a → a ≤ 65536 → 1 ≤ mx2 a ((2 ^ eG g : Nat) : Int) ∧ mx2 a ((2 ^ eG g : Nat) : Int) ≤ 65536 := by
    intro a h1 h2
    rw [mx2_eq]; omega
  have m1 := mb la l1 l2
  have m2 := mb pa p1 p2
  obtain ⟨a1, a2, a3, a4, a5⟩ := mS_facts (g := g) (la := la) (pa := pa) i1 i2 g2 l2 p2
  obtain ⟨r1, r2, r3, r4⟩ := hS_range (g := g) (la := la) (pa := pa) i1 i2 g2 l2 p2
  have hge : eG g ≤ eN g la := by unfold eN; omega
  have h5 := pow16 (e := eN g la - eG g) (by omega)
  have h4 := Nat.two_pow_pos (eN g la - eG g)
  refine ⟨upS_in g1 (by omega), by rw [upS_in m1.1 (Int.le_trans m1.2 (by decide)), eN'], by rw [upS_in m2.1 (Int.le_trans m2.2 (by decide)), eP'], ?_, by unfold R64; omega, by unfold R64; omega, round_mS i1 i2 g2 l2 p2, by omega, ?_, by unfold R64; omega, by omega, by unfold R64; omega, ?_, ?_⟩
  · rw [mx2_eq]
    unfold wS
    rcases Nat.le_total (eN g la) (ePg g pa) with h | h
    · have : (2 : Nat) ^ eN g la ≤ 2 ^ ePg g pa := Nat.pow_le_pow_right (by decide) h
      rw [Nat.max_eq_right h, Nat.pow_succ]; omega
    · have : (2 : Nat) ^ ePg g pa ≤ 2 ^ eN g la := Nat.pow_le_pow_right (by decide) h
      rw [Nat.max_eq_left h, Nat.pow_succ]; omega
  · have h1 : (2 : Nat) ^ eN g la = 2 ^ eG g * 2 ^ (eN g la - eG g) := by rw [← Nat.pow_add, show eG g + (eN g la - eG g) = eN g la by omega]
    have h2 : Int.tdiv ((2 ^ eN g la : Nat) : Int) ((2 ^ eG g : Nat) : Int) = ((2 ^ (eN g la - eG g) : Nat) : Int) := by
      rw [h1, Int.natCast_mul, Int.mul_tdiv_cancel_left _ (by omega)]
    rw [h2, wrap_id (by omega) (by omega)]
  · exact wrap_id (by show _ ≤ lS g la * (mS g la li pa / 2); omega) (by show lS g la * (mS g la li pa / 2) ≤ _; omega)
  · exact wrap_id (by show _ ≤ hS g la li pa; omega) (by show hS g la li pa ≤ _; omega)
theorem pow1 : (2 : Int) ^ (min (1 : Int).toNat IntKind.i64.bits) = 2 := by decide
theorem hodmanref1_Of.done {r : Rw} (hin : r.In) : hodmanref1_Of.J27 machW CW false r.g r.la r.li r.pa r.bu r.se 0 0 0 0 0 0 0 0 G = some ([.agg (cfC (ofC r).1), .c (.int .i64 (ofC r).2)], G) := by
  obtain ⟨u0, u1, u2, eW, rw1, rw2, rd, ez, eD, rD, m0, rm, eL, eH⟩ := of_steps hin
  have eM2 : wrap64 (Int.tdiv (mS r.g r.la r.li r.pa) 2) = mS r.g r.la r.li r.pa / 2 := by
    rw [Int.tdiv_eq_ediv_of_nonneg m0, wrap_in rm]
  rw [hodmanref1_Of.J27_eq]
  simp only [q_bs, q_I, q_B, q_P, q_S, q_M, q_c, q_a, q_gz, q_gs, q_gk, q_ct, q_cf, q_nt, q_nf, q_xt, q_xf, q_tt, q_ff, q_tf, q_ft, q_at, q_af, hodmanref1_Up.sp, u0, u1, u2, i64w]
  rw [Int.mul_comm 2, eW, wrap_in rw1, hodmanref1_Round.sp rw2 rw1, rd]
  simp only [q_bs, q_I, q_B, q_P, q_S, q_M, q_c, q_a, q_gz, q_gs, q_gk, q_ct, q_cf, q_nt, q_nf, q_xt, q_xf, q_tt, q_ff, q_tf, q_ft, q_at, q_af, binD_quo ez, i64w, eD]
  rw [hodmanref1_Log.sp rD, logS_pow]
  simp only [q_bs, q_I, q_B, q_P, q_S, q_M, q_c, q_a, q_gz, q_gs, q_gk, q_ct, q_cf, q_nt, q_nf, q_xt, q_xf, q_tt, q_ff, q_tf, q_ft, q_at, q_af, i64w, eM2, eL, eH]
  unfold ofC
  rw [if_pos hin]
  by_cases h6 : hS r.g r.la r.li r.pa > 65536
  · rw [condD_pos h6, if_pos h6]; rfl
  · rw [condD_neg h6, if_neg h6]; rfl
theorem hodmanref1_Of.sp (r : Rw) (w : G.wf) : ∃ G', CW hodmanref1_Of.id [.agg (rwC r)] G = some ([.agg (cfC (ofC r).1), .c (.int .i64 (ofC r).2)], G') ∧ Hp G G' [] := by
  have h := (Hp.refl w).alloc (.row [.int .i64 r.g, .int .i64 r.la, .int .i64 r.li, .int .i64 r.pa] false)
  refine ⟨_, ?_, h.tl⟩
  have ld := fun off => h.ld (off := off) h.ne
  rw [hodmanref1_Of.cw]
  simp only [hodmanref1_Of.f]
  generalize G.alloc _ = G1 at h ld ⊢
  generalize G.next = id at h ld ⊢
  have no : ¬ r.In → some ([V1.agg (cfC (ofC r).1), .c (.int .i64 (ofC r).2)], G1) = some ([.agg [.int .i64 0, .int .i64 0, .int .i64 0, .int .i64 0, .int .i64 0, .int .i64 0, .int .i64 0, .int .i64 0], .c (.int .i64 1)], G1) := fun h => by unfold ofC; rw [if_neg h]; rfl
  have out : ∀ (i : Nat) (x : Int), i < 4 → [Cell.int .i64 r.g, .int .i64 r.la, .int .i64 r.li, .int .i64 r.pa][i]? = some (.int .i64 x) → ¬ (1 ≤ x ∧ x ≤ 65536) → ¬ r.In →
      hodmanref1_Of.L19 machW CW id 0 4 (i : Int) r.g r.la r.li r.pa r.bu r.se 0 0 0 0 0 0 0 0 G1 = some ([.agg (cfC (ofC r).1), .c (.int .i64 (ofC r).2)], G1) := by
    intro i x hi hx hn hno
    rw [no hno, hodmanref1_Of.L19_eq, condD_pos (by omega), guardD_of (by omega), ld, show 0 + Int.toNat (i : Int) * 1 = i by omega, hx]
    simp only [q_bs, q_I, q_B, q_P, q_S, q_M, q_c, q_a, q_gz, q_gs, q_gk, q_ct, q_cf, q_nt, q_nf, q_xt, q_xf, q_tt, q_ff, q_tf, q_ft, q_at, q_af]
    by_cases h1 : x < 1
    · rw [condD_pos h1, hodmanref1_Of.J13_eq]; rfl
    · rw [condD_neg h1, guardD_of (by omega), decide_eq_true (by omega : x > 65536), hodmanref1_Of.J13_eq]; rfl
  have on : ∀ (i : Nat) (x : Int), i < 4 → [Cell.int .i64 r.g, .int .i64 r.la, .int .i64 r.li, .int .i64 r.pa][i]? = some (.int .i64 x) → (1 ≤ x ∧ x ≤ 65536) →
      hodmanref1_Of.L19 machW CW id 0 4 ((i + 1 : Nat) : Int) r.g r.la r.li r.pa r.bu r.se 0 0 0 0 0 0 0 0 G1 = some ([.agg (cfC (ofC r).1), .c (.int .i64 (ofC r).2)], G1) →
      hodmanref1_Of.L19 machW CW id 0 4 (i : Int) r.g r.la r.li r.pa r.bu r.se 0 0 0 0 0 0 0 0 G1 = some ([.agg (cfC (ofC r).1), .c (.int .i64 (ofC r).2)], G1) := by
    intro i x hi hx hn hno
    rw [hodmanref1_Of.L19_eq, condD_pos (by omega), guardD_of (by omega), ld, show 0 + Int.toNat (i : Int) * 1 = i by omega, hx]
    simp only [q_bs, q_I, q_B, q_P, q_S, q_M, q_c, q_a, q_gz, q_gs, q_gk, q_ct, q_cf, q_nt, q_nf, q_xt, q_xf, q_tt, q_ff, q_tf, q_ft, q_at, q_af]
    rw [condD_neg (by omega), guardD_of (by omega), decide_eq_false (by omega : ¬ x > 65536), hodmanref1_Of.J13_eq, i64w, wrap_id (by omega) (by omega)]
    exact hno
  have last : 1 ≤ r.g ∧ r.g ≤ 65536 → 1 ≤ r.la ∧ r.la ≤ 65536 → 1 ≤ r.li ∧ r.li ≤ 65536 → 1 ≤ r.pa ∧ r.pa ≤ 65536 → hodmanref1_Of.L19 machW CW id 0 4 ((4 : Nat) : Int) r.g r.la r.li r.pa r.bu r.se 0 0 0 0 0 0 0 0 G1 = some ([.agg (cfC (ofC r).1), .c (.int .i64 (ofC r).2)], G1) := by
    intro hg hl hi hp
    rw [hodmanref1_Of.L19_eq, condD_neg (by omega)]
    have bad : ¬ r.In → hodmanref1_Of.J27 machW CW true r.g r.la r.li r.pa r.bu r.se 0 0 0 0 0 0 0 0 G1 = some ([.agg (cfC (ofC r).1), .c (.int .i64 (ofC r).2)], G1) := fun h => by rw [no h, hodmanref1_Of.J27_eq]; rfl
    by_cases h1 : r.bu < 0
    · rw [condD_pos h1]; exact bad (by unfold Rw.In InS; omega)
    · rw [condD_neg h1]
      by_cases h2 : r.bu > 65536
      · rw [condD_pos h2]; exact bad (by unfold Rw.In InS; omega)
      · rw [condD_neg h2]
        by_cases h3 : r.se < 0
        · rw [condD_pos h3]; exact bad (by unfold Rw.In InS; omega)
        · rw [condD_neg h3]
          by_cases h4 : r.se > 255
          · rw [decide_eq_true h4]; exact bad (by unfold Rw.In InS; omega)
          · rw [decide_eq_false h4]; exact hodmanref1_Of.done (by unfold Rw.In InS; omega)
  show hodmanref1_Of.L19 machW CW id 0 4 ((0 : Nat) : Int) r.g r.la r.li r.pa r.bu r.se 0 0 0 0 0 0 0 0 G1 = _
  by_cases hg : 1 ≤ r.g ∧ r.g ≤ 65536
  · refine on 0 r.g (by omega) rfl hg ?_
    by_cases hl : 1 ≤ r.la ∧ r.la ≤ 65536
    · refine on 1 r.la (by omega) rfl hl ?_
      by_cases hi : 1 ≤ r.li ∧ r.li ≤ 65536
      · refine on 2 r.li (by omega) rfl hi ?_
        by_cases hp : 1 ≤ r.pa ∧ r.pa ≤ 65536
        · exact on 3 r.pa (by omega) rfl hp (last hg hl hi hp)
        · exact out 3 r.pa (by omega) rfl hp (by unfold Rw.In InS; omega)
      · exact out 2 r.li (by omega) rfl hi (by unfold Rw.In InS; omega)
    · exact out 1 r.la (by omega) rfl hl (by unfold Rw.In InS; omega)
  · exact out 0 r.g (by omega) rfl hg (by unfold Rw.In InS; omega)
theorem conf_within.sp {a b c d : Int} {id : Nat} {L : List (Nat × Obj)} (h : Hp G0 G ((id, .row [.int .i64 a, .int .i64 b, .int .i64 c, .int .i64 d] false) :: L)) :
    CW conf_within.id [.c (.sl 1 id 0 4)] G = some ([.c (.bool (decide ((1 ≤ a ∧ a ≤ 65536) ∧ (1 ≤ b ∧ b ≤ 65536) ∧ (1 ≤ c ∧ c ≤ 65536) ∧ (1 ≤ d ∧ d ≤ 65536))))], G) := by
  have ld := fun off => h.ld (off := off) h.ne
  rw [conf_within.cw]
  simp only [conf_within.f]
  have out : ∀ (i : Nat) (x : Int), i < 4 → [Cell.int .i64 a, .int .i64 b, .int .i64 c, .int .i64 d][i]? = some (.int .i64 x) → ¬ (1 ≤ x ∧ x ≤ 65536) → ¬ ((1 ≤ a ∧ a ≤ 65536) ∧ (1 ≤ b ∧ b ≤ 65536) ∧ (1 ≤ c ∧ c ≤ 65536) ∧ (1 ≤ d ∧ d ≤ 65536)) →
      conf_within.L20 machW CW id 0 4 ((4 : Nat) : Int) (i : Int) G = some ([.c (.bool (decide ((1 ≤ a ∧ a ≤ 65536) ∧ (1 ≤ b ∧ b ≤ 65536) ∧ (1 ≤ c ∧ c ≤ 65536) ∧ (1 ≤ d ∧ d ≤ 65536))))], G) := by
    intro i x hi hx hn hno
    rw [decide_eq_false hno, conf_within.L20_eq, condD_pos (by omega), guardD_of (by omega), ld, show 0 + Int.toNat (i : Int) * 1 = i by omega, hx]
    simp only [q_bs, q_I, q_B, q_P, q_S, q_M, q_c, q_a, q_gz, q_gs, q_gk, q_ct, q_cf, q_nt, q_nf, q_xt, q_xf, q_tt, q_ff, q_tf, q_ft, q_at, q_af]
    by_cases h1 : x < 1
    · rw [condD_pos h1, conf_within.J12_eq]; rfl
    · rw [condD_neg h1, decide_eq_true (by omega : x > 65536), conf_within.J12_eq]; rfl
  have on : ∀ (i : Nat) (x : Int) (R : Option Res), i < 4 → [Cell.int .i64 a, .int .i64 b, .int .i64 c, .int .i64 d][i]? = some (.int .i64 x) → (1 ≤ x ∧ x ≤ 65536) →
      conf_within.L20 machW CW id 0 4 ((4 : Nat) : Int) ((i + 1 : Nat) : Int) G = R → conf_within.L20 machW CW id 0 4 ((4 : Nat) : Int) (i : Int) G = R := by
    intro i x R hi hx hn hno
    rw [conf_within.L20_eq, condD_pos (by omega), guardD_of (by omega), ld, show 0 + Int.toNat (i : Int) * 1 = i by omega, hx]
    simp only [q_bs, q_I, q_B, q_P, q_S, q_M, q_c, q_a, q_gz, q_gs, q_gk, q_ct, q_cf, q_nt, q_nf, q_xt, q_xf, q_tt, q_ff, q_tf, q_ft, q_at, q_af]
    rw [condD_neg (by omega), decide_eq_false (by omega : ¬ x > 65536), conf_within.J12_eq, i64w, wrap_id (by omega) (by omega)]
    exact hno
  show conf_within.L20 machW CW id 0 4 ((4 : Nat) : Int) ((0 : Nat) : Int) G = _
  by_cases hg : 1 ≤ a ∧ a ≤ 65536
  · refine on 0 a _ (by omega) rfl hg ?_
    by_cases hl : 1 ≤ b ∧ b ≤ 65536
    · refine on 1 b _ (by omega) rfl hl ?_
      by_cases hi : 1 ≤ c ∧ c ≤ 65536
      · refine on 2 c _ (by omega) rfl hi ?_
        by_cases hp : 1 ≤ d ∧ d ≤ 65536
        · refine on 3 d _ (by omega) rfl hp ?_
          rw [decide_eq_true ⟨hg, hl, hi, hp⟩, conf_within.L20_eq, condD_neg (by omega)]
        · exact out 3 d (by omega) rfl hp (by omega)
      · exact out 2 c (by omega) rfl hi (by omega)
    · exact out 1 b (by omega) rfl hl (by omega)
  · exact out 0 a (by omega) rfl hg (by omega)
theorem conf_Of.done {r : Rw} (hin : r.In) : conf_Of.J6 machW CW false r.g r.la r.li r.pa r.bu r.se 0 0 0 0 0 0 0 0 G = some ([.agg (cfC (ofC r).1), .c (.int .i64 (ofC r).2)], G) := by
  obtain ⟨u0, u1, u2, eW, rw1, rw2, rd, ez, eD, rD, m0, rm, eL, eH⟩ := of_steps hin
  have eM2 : Int.fdiv (mS r.g r.la r.li r.pa) 2 = mS r.g r.la r.li r.pa / 2 := by
    rw [Int.fdiv_eq_ediv_of_nonneg _ (by omega)]
  rw [conf_Of.J6_eq]
  simp only [q_bs, q_I, q_B, q_P, q_S, q_M, q_c, q_a, q_gz, q_gs, q_gk, q_ct, q_cf, q_nt, q_nf, q_xt, q_xf, q_tt, q_ff, q_tf, q_ft, q_at, q_af, calc_Up.sp, u0, u1, u2, i64w]
  rw [pow1, eW, wrap_in rw1, calc_Round.sp rw2 rw1, rd]
  simp only [q_bs, q_I, q_B, q_P, q_S, q_M, q_c, q_a, q_gz, q_gs, q_gk, q_ct, q_cf, q_nt, q_nf, q_xt, q_xf, q_tt, q_ff, q_tf, q_ft, q_at, q_af, binD_quo ez, i64w, eD]
  rw [calc_Log.sp rD, logS_pow]
  simp only [q_bs, q_I, q_B, q_P, q_S, q_M, q_c, q_a, q_gz, q_gs, q_gk, q_ct, q_cf, q_nt, q_nf, q_xt, q_xf, q_tt, q_ff, q_tf, q_ft, q_at, q_af, i64w, eM2, eL, eH]
  unfold ofC
  rw [if_pos hin]
  by_cases h6 : hS r.g r.la r.li r.pa > 65536
  · rw [condD_pos h6, if_pos h6]; rfl
  · rw [condD_neg h6, if_neg h6]; rfl
theorem conf_Of.sp (r : Rw) (w : G.wf) : ∃ G', CW conf_Of.id [.agg (rwC r)] G = some ([.agg (cfC (ofC r).1), .c (.int .i64 (ofC r).2)], G') ∧ Hp G G' [] := by
  have h := (Hp.refl w).alloc (.row [.int .i64 r.g, .int .i64 r.la, .int .i64 r.li, .int .i64 r.pa] false)
  refine ⟨_, ?_, h.tl⟩
  have sp := conf_within.sp h
  rw [conf_Of.cw]
  simp only [conf_Of.f, sp, q_bs, q_I, q_B, q_P, q_S, q_M, q_c, q_a, q_gz, q_gs, q_gk, q_ct, q_cf, q_nt, q_nf, q_xt, q_xf, q_tt, q_ff, q_tf, q_ft, q_at, q_af]
  generalize G.alloc _ = G1 at h sp ⊢
  have bad : ¬ r.In → conf_Of.J6 machW CW true r.g r.la r.li r.pa r.bu r.se 0 0 0 0 0 0 0 0 G1 = some ([.agg (cfC (ofC r).1), .c (.int .i64 (ofC r).2)], G1) := fun h => by rw [conf_Of.J6_eq]; unfold ofC; rw [if_neg h]; rfl
  by_cases h0 : (1 ≤ r.g ∧ r.g ≤ 65536) ∧ (1 ≤ r.la ∧ r.la ≤ 65536) ∧ (1 ≤ r.li ∧ r.li ≤ 65536) ∧ (1 ≤ r.pa ∧ r.pa ≤ 65536)
  · rw [condN_neg h0]
    by_cases h1 : r.bu < 0
    · rw [condD_pos h1]; exact bad (by unfold Rw.In InS; omega)
    · rw [condD_neg h1]
      by_cases h2 : r.bu > 65536
      · rw [condD_pos h2]; exact bad (by unfold Rw.In InS; omega)
      · rw [condD_neg h2]
        by_cases h3 : r.se < 0
        · rw [condD_pos h3]; exact bad (by unfold Rw.In InS; omega)
        · rw [condD_neg h3]
          by_cases h4 : r.se > 255
          · rw [decide_eq_true h4]; exact bad (by unfold Rw.In InS; omega)
          · rw [decide_eq_false h4]; exact conf_Of.done (by unfold Rw.In InS; omega)
  · rw [condN_pos h0]; exact bad (by unfold Rw.In InS; omega)
theorem conf_Ceil.sp {c : Cf} (h : c.Ok) (k : Int) : CW conf_Ceil.id [.agg (cfC c), .c (.int .i64 k)] G = some ([.c (.int .i64 (c.ceil k))], G) := by
  rw [conf_Ceil.cw]
  unfold conf_Ceil.f
  by_cases h1 : k < 0
  · rw [condD_pos h1, conf_Ceil.J6_eq]; unfold Cf.ceil ceilS; rw [if_pos h1]; rfl
  · rw [condD_neg h1, conf_Ceil.J6_eq]
    by_cases h2 : k > c.L
    · rw [decide_eq_true h2]; unfold Cf.ceil ceilS; rw [if_neg h1, if_pos h2]; rfl
    · rw [decide_eq_false h2]
      simp only [q_bs, q_I, q_B, q_P, q_S, q_M, q_c, q_a, q_gz, q_gs, q_gk, q_ct, q_cf, q_nt, q_nf, q_xt, q_xf, q_tt, q_ff, q_tf, q_ft, q_at, q_af, i64w, pow1, Int.fdiv_eq_ediv_of_nonneg _ (show (0 : Int) ≤ 2 by omega), ceil_wrap h (show 0 ≤ k by omega) (show k ≤ c.L by omega)]
theorem hodmanref1_Ceil.sp {c : Cf} (h : c.Ok) (k : Int) : CW hodmanref1_Ceil.id [.agg (cfC c), .c (.int .i64 k)] G = some ([.c (.int .i64 (c.ceil k))], G) := by
  rw [hodmanref1_Ceil.cw]
  unfold hodmanref1_Ceil.f
  by_cases h1 : k < 0
  · rw [condD_pos h1, hodmanref1_Ceil.J6_eq]; unfold Cf.ceil ceilS; rw [if_pos h1]; rfl
  · rw [condD_neg h1, hodmanref1_Ceil.J6_eq]
    by_cases h2 : k > c.L
    · rw [decide_eq_true h2]; unfold Cf.ceil ceilS; rw [if_neg h1, if_pos h2]; rfl
    · rw [decide_eq_false h2]
      have f := h.facts
      simp only [q_bs, q_I, q_B, q_P, q_S, q_M, q_c, q_a, q_gz, q_gs, q_gk, q_ct, q_cf, q_nt, q_nf, q_xt, q_xf, q_tt, q_ff, q_tf, q_ft, q_at, q_af, i64w, Int.tdiv_eq_ediv_of_nonneg (show 0 ≤ c.M by omega)]
      rw [wrap_id (a := c.M / 2) (by omega) (by omega), ceil_wrap h (by omega) (by omega)]
theorem hodmanref1_Size.lp (g : Nat) (k : Nat) (h : g + k ≤ 60) : ∀ (d i : Nat), i + d = k → hodmanref1_Size.L13 machW CW (k : Int) ((2 ^ (g + i) : Nat) : Int) (i : Int) G = some ([.c (.int .i64 ((2 ^ (g + k) : Nat) : Int))], G)
  | 0, i, hi => by
    obtain rfl : i = k := by omega
    rw [hodmanref1_Size.L13_eq, condD_neg (by omega)]
  | d + 1, i, hi => by
    have h5 := pow62 (e := g + i + 1) (by omega)
    have e1 : IntKind.i64.wrap (((2 ^ (g + i) : Nat) : Int) * 2) = ((2 ^ (g + (i + 1)) : Nat) : Int) := by
      rw [← Nat.add_assoc]; rw [Nat.pow_succ] at h5 ⊢; rw [i64w, wrap_id] <;> omega
    rw [hodmanref1_Size.L13_eq, condD_pos (by omega), e1, i64w, wrap_id (by omega) (by omega)]
    exact hodmanref1_Size.lp g k h d (i + 1) (by omega)
theorem hodmanref1_Size.sp {c : Cf} {g k : Nat} (hg : c.G = ((2 ^ g : Nat) : Int)) (h : g + k ≤ 60) : CW hodmanref1_Size.id [.agg (cfC c), .c (.int .i64 (k : Int))] G = some ([.c (.int .i64 ((2 ^ (g + k) : Nat) : Int))], G) := by
  rw [hodmanref1_Size.cw]
  unfold hodmanref1_Size.f
  rw [hg]
  exact hodmanref1_Size.lp g k h k 0 (by omega)
end Go.Proofs.D.S
/- What the functions of class, admit and the first reference's come to. -/
set_option linter.unusedVariables false
set_option linter.unusedSimpArgs false
namespace Go.Proofs.D.S
open Go Go.RowKit
variable {G G0 : GH}
theorem hodmanref1_Shift.lp {c : Cf} {g l : Nat} (e : c.Ex g l) {ch : Int} (d : Nat) : ∀ (n : Nat), n + d = l + 1 → (∀ m, m < n → ch ≠ ((2 ^ (g + m) : Nat) : Int)) →
    hodmanref1_Shift.L18 machW CW ch (n : Int) c.G c.N c.M c.L c.Pg c.P c.H c.Sd G = some ([.c (.int .i64 (shiftS g l ch).1), .c (.bool (shiftS g l ch).2)], G) := by
  have hL := e.hL
  have hgl := e.hgl
  induction d with
  | zero =>
    intro n h1 h2
    rw [hodmanref1_Shift.L18_eq, condD_neg (by omega), shiftS_none (fun k hk => h2 k (by omega))]
  | succ d ih =>
    intro n h1 h2
    rw [hodmanref1_Shift.L18_eq, condD_pos (by omega), hodmanref1_Size.sp e.hG (by omega)]
    simp only [q_bs, q_I, q_B, q_P, q_S, q_M, q_c, q_a, q_gz, q_gs, q_gk, q_ct, q_cf, q_nt, q_nf, q_xt, q_xf, q_tt, q_ff, q_tf, q_ft, q_at, q_af]
    by_cases h3 : ((2 ^ (g + n) : Nat) : Int) = ch
    · rw [condD_pos h3, ← h3, shiftS_pow (by omega)]
    · rw [condD_neg h3, i64w, wrap_id (by omega) (by omega)]
      refine ih (n + 1) (by omega) ?_
      intro m hm
      by_cases hme : m = n
      · subst hme; exact fun c => h3 c.symm
      · exact h2 m (by omega)
theorem hodmanref1_Shift.sp {c : Cf} {g l : Nat} (e : c.Ex g l) (ch : Int) : CW hodmanref1_Shift.id [.agg (cfC c), .c (.int .i64 ch)] G = some ([.c (.int .i64 (shiftS g l ch).1), .c (.bool (shiftS g l ch).2)], G) := by
  rw [hodmanref1_Shift.cw]
  exact hodmanref1_Shift.lp e (l + 1) 0 (by omega) (fun m h => by omega)
theorem conf_Shift.sp {c : Cf} {g l : Nat} (e : c.Ex g l) {ch : Int} (hc : R64 ch) : CW conf_Shift.id [.agg (cfC c), .c (.int .i64 ch)] G = some ([.c (.int .i64 (shiftS g l ch).1), .c (.bool (shiftS g l ch).2)], G) := by
  have z0 := Nat.two_pow_pos g
  have hG := e.hG
  have hL := e.hL
  rw [conf_Shift.cw]
  unfold conf_Shift.f
  have no : (∀ k, k ≤ l → ch ≠ ((2 ^ (g + k) : Nat) : Int)) → conf_Shift.J6 machW CW ch true c.G c.N c.M c.L c.Pg c.P c.H c.Sd G = some ([.c (.int .i64 (shiftS g l ch).1), .c (.bool (shiftS g l ch).2)], G) := fun h => by
    rw [shiftS_none h, conf_Shift.J6_eq]; rfl
  have ge : ∀ k : Nat, ((2 ^ g : Nat) : Int) ≤ ((2 ^ (g + k) : Nat) : Int) := fun k => by
    have : (2 : Nat) ^ g ≤ 2 ^ (g + k) := Nat.pow_le_pow_right (by decide) (by omega)
    omega
  have dv : ∀ k : Nat, ((2 ^ (g + k) : Nat) : Int) % ((2 ^ g : Nat) : Int) = 0 := fun k => by
    rw [Nat.pow_add, Int.natCast_mul, Int.mul_emod_right]
  rw [condD_neg (by omega)]
  by_cases h1 : ch < c.G
  · rw [condD_pos h1]
    exact no (fun k _ e => by have := ge k; omega)
  · rw [condD_neg h1, binD_rem (by omega), Int.tmod_eq_emod_of_nonneg (show 0 ≤ ch by omega)]
    simp only [q_bs, q_I, q_B, q_P, q_S, q_M, q_c, q_a, q_gz, q_gs, q_gk, q_ct, q_cf, q_nt, q_nf, q_xt, q_xf, q_tt, q_ff, q_tf, q_ft, q_at, q_af]
    by_cases h2 : ch % c.G = 0
    · rw [decide_eq_true h2, Bool.not_true, conf_Shift.J6_eq, binD_quo (by omega)]
      simp only [q_bs, q_I, q_B, q_P, q_S, q_M, q_c, q_a, q_gz, q_gs, q_gk, q_ct, q_cf, q_nt, q_nf, q_xt, q_xf, q_tt, q_ff, q_tf, q_ft, q_at, q_af, i64w]
      have h3 : ch = ((2 ^ g : Nat) : Int) * (ch / ((2 ^ g : Nat) : Int)) := by have := Int.mul_ediv_add_emod ch ((2 ^ g : Nat) : Int); rw [hG] at h2; omega
      have h4 : 1 ≤ ch / ((2 ^ g : Nat) : Int) := by
        rcases Int.lt_or_le (ch / ((2 ^ g : Nat) : Int)) 1 with h | h
        · have h9 : ((2 ^ g : Nat) : Int) * (ch / ((2 ^ g : Nat) : Int)) ≤ 0 := Int.mul_nonpos_of_nonneg_of_nonpos (by omega) (by omega)
          omega
        · exact h
      have h5 : ch / ((2 ^ g : Nat) : Int) ≤ ch := Int.ediv_le_self _ (by omega)
      unfold R64 at hc
      rw [Int.tdiv_eq_ediv_of_nonneg (by omega), hG, wrap_id (by omega) (by omega), calc_Log.sp (by unfold R64; omega)]
      simp only [q_bs, q_I, q_B, q_P, q_S, q_M, q_c, q_a, q_gz, q_gs, q_gk, q_ct, q_cf, q_nt, q_nf, q_xt, q_xf, q_tt, q_ff, q_tf, q_ft, q_at, q_af]
      generalize hq : ch / ((2 ^ g : Nat) : Int) = q at *
      by_cases h6 : q = ((2 ^ Nat.log2 q.toNat : Nat) : Int)
      · have hlog : logS q = (((Nat.log2 q.toNat : Nat) : Int), true) := by unfold logS; rw [if_pos ⟨h4, h6⟩]
        rw [hlog]
        have h7 : ch = ((2 ^ (g + Nat.log2 q.toNat) : Nat) : Int) := by rw [h3, Nat.pow_add, Int.natCast_mul, ← h6]
        simp only [q_bs, q_I, q_B, q_P, q_S, q_M, q_c, q_a, q_gz, q_gs, q_gk, q_ct, q_cf, q_nt, q_nf, q_xt, q_xf, q_tt, q_ff, q_tf, q_ft, q_at, q_af, conf_Shift.J14_eq]
        by_cases h8 : Nat.log2 q.toNat ≤ l
        · rw [condD_neg (by omega), h7, shiftS_pow h8]
        · rw [condD_pos (by omega), shiftS_none]
          intro k hk e
          rw [h7] at e
          have e' : (2 : Nat) ^ (g + Nat.log2 q.toNat) = 2 ^ (g + k) := by omega
          have := congrArg Nat.log2 e'
          rw [Nat.log2_two_pow, Nat.log2_two_pow] at this
          omega
      · have hlog : logS q = (0, false) := by unfold logS; rw [if_neg (fun c => h6 c.2)]
        rw [hlog]
        simp only [q_bs, q_I, q_B, q_P, q_S, q_M, q_c, q_a, q_gz, q_gs, q_gk, q_ct, q_cf, q_nt, q_nf, q_xt, q_xf, q_tt, q_ff, q_tf, q_ft, q_at, q_af, conf_Shift.J14_eq]
        rw [shiftS_none]
        intro k hk e
        apply h6
        have h7 : q = ((2 ^ k : Nat) : Int) := by
          have h8 : ((2 ^ g : Nat) : Int) * q = ((2 ^ g : Nat) : Int) * ((2 ^ k : Nat) : Int) := by rw [← h3, e, Nat.pow_add, Int.natCast_mul]
          exact Int.eq_of_mul_eq_mul_left (by omega) h8
        rw [h7, Int.toNat_natCast, Nat.log2_two_pow]
    · rw [decide_eq_false h2]
      exact no (fun k _ e => h2 (by rw [hG, e]; exact dv k))
end Go.Proofs.D.S
/- What is read out of numbers. -/
set_option linter.unusedVariables false
set_option linter.unusedSimpArgs false
namespace Go.Proofs.D.S
open Go Go.RowKit
variable {G G0 : GH} {L : List (Nat × Obj)}
/-- The numbers, and how far they were read. -/
abbrev pk (pid lid lo n : Nat) (i : Int) : Nat × Obj := (pid, .row [.sl 1 lid lo n, .int .i64 i] false)
/-- What there is of the numbers. -/
structure PkOk (G0 : GH) (L : List (Nat × Obj)) (lid lo n : Nat) (xs : List Int) : Prop where
  rd : Rd G0 L eU8 lid lo xs
  by_ : Bytes xs
  len : n = xs.length
  small : n ≤ 1000000000
theorem PkOk.cons {lid lo n : Nat} {xs : List Int} (h : PkOk G0 L lid lo n xs) (x : Nat × Obj) : PkOk G0 (x :: L) lid lo n xs := ⟨h.rd.cons, h.by_, h.len, h.small⟩
theorem PkOk.sub {lid lo n : Nat} {xs : List Int} {L' : List (Nat × Obj)} (h : PkOk G0 L lid lo n xs) (s : L.Sublist L') : PkOk G0 L' lid lo n xs := ⟨h.rd.sub s, h.by_, h.len, h.small⟩
theorem hodmanplay_Made.sp (h : Hp G0 G L) (lid lo n : Nat) : ∃ pid G', CW hodmanplay_Made.id [.c (.sl 1 lid lo n)] G = some ([.c (.ptr pid 0)], G') ∧ Hp G0 G' (pk pid lid lo n 0 :: L) := by
  refine ⟨_, _, ?_, h.alloc _⟩
  rw [hodmanplay_Made.cw]
  rfl
/-- A choice: below m, and one further on, or none left. -/
theorem hodmanplay_Picks_Num.sp {pid lid lo n : Nat} {i : Int} {xs : List Int} (h : Hp G0 G (pk pid lid lo n i :: L)) (p : PkOk G0 L lid lo n xs) (h0 : 0 ≤ i) (h1 : i ≤ n) (m : Int) :
    ∃ v j G', CW hodmanplay_Picks_Num.id [.c (.ptr pid 0), .c (.int .i64 m)] G = some ([.c (.int .i64 v)], G') ∧ Hp G0 G' (pk pid lid lo n j :: L) ∧ 0 ≤ v ∧ v ≤ 255 ∧ (1 ≤ m → v < m) ∧ i ≤ j ∧ j ≤ n ∧ (m < 1 → v = 0) := by
  have hp := h.ne
  have hl := p.len
  have hs := p.small
  have ld := fun off => h.ld (off := off) hp
  rw [hodmanplay_Picks_Num.cw]
  unfold hodmanplay_Picks_Num.f
  simp only [guardN hp, ld, q_bs, q_I, q_B, q_P, q_S, q_M, q_c, q_a, q_gz, q_gs, q_gk, q_ct, q_cf, q_nt, q_nf, q_xt, q_xf, q_tt, q_ff, q_tf, q_ft, q_at, q_af, Nat.zero_add]
  by_cases a1 : i ≥ (n : Int)
  · rw [condD_pos a1, hodmanplay_Picks_Num.J6_eq]
    exact ⟨0, i, G, rfl, h, by omega, by omega, by omega, by omega, by omega, fun _ => rfl⟩
  · rw [condD_neg a1, hodmanplay_Picks_Num.J6_eq]
    by_cases a2 : m < 1
    · rw [condD_pos a2]
      exact ⟨0, i, G, rfl, h, by omega, by omega, by omega, by omega, by omega, fun _ => rfl⟩
    · rw [condD_neg a2]
      obtain ⟨G1, h2, e⟩ := h.sts (off := 1) (new := [.int .i64 (i + 1)]) hp (by simp)
      have h2 : Hp G0 G1 (pk pid lid lo n (i + 1) :: L) := h2
      have ld2 := fun off => h2.ld (off := off) hp
      have rd := p.rd _ h2.tl
      simp only [ld, q_bs, q_I, q_B, q_P, q_S, q_M, q_c, q_a, q_gz, q_gs, q_gk, q_ct, q_cf, q_nt, q_nf, q_xt, q_xf, q_tt, q_ff, q_tf, q_ft, q_at, q_af, Nat.zero_add, guardN hp, i64w, wrap_id (a := i + 1) (by omega) (by omega), e, ld2, show i + 1 - 1 = i by omega, wrap_id (a := i) (by omega) (by omega)]
      rw [guardD_of (by omega)]
      have hit : i.toNat < xs.length := by omega
      have r := rd.ld i.toNat 0 hit (by omega)
      rw [Nat.add_zero] at r
      rw [r]
      have hb := p.by_ _ (List.getElem_mem hit)
      simp only [q_bs, q_I, q_B, q_P, q_S, q_M, q_c, q_a, q_gz, q_gs, q_gk, q_ct, q_cf, q_nt, q_nf, q_xt, q_xf, q_tt, q_ff, q_tf, q_ft, q_at, q_af, i64w, wrap_id (a := xs[i.toNat]) (by omega) (by omega), binD_rem (show m ≠ 0 by omega), Int.tmod_eq_emod_of_nonneg hb.1]
      have h3 := Int.emod_nonneg xs[i.toNat] (b := m) (by omega)
      have h4 := Int.emod_lt_of_pos xs[i.toNat] (b := m) (by omega)
      have h5 : xs[i.toNat] % m ≤ xs[i.toNat] := by
        have h6 := Int.mul_ediv_add_emod xs[i.toNat] m
        have h7 := Int.mul_nonneg (show 0 ≤ m by omega) (Int.ediv_nonneg (a := xs[i.toNat]) (b := m) (by omega) (by omega))
        omega
      exact ⟨_, _, _, rfl, h2, h3, by omega, by omega, by omega, by omega, by omega⟩
theorem hodmanplay_Picks_Raw.sp {pid lid lo n : Nat} {i : Int} {xs : List Int} (h : Hp G0 G (pk pid lid lo n i :: L)) (p : PkOk G0 L lid lo n xs) (h0 : 0 ≤ i) (h1 : i ≤ n) (b : Bool) :
    ∃ (r : Rw) (j : Int) (G' : GH), CW hodmanplay_Picks_Raw.id [.c (.ptr pid 0), .c (.bool b)] G = some ([.agg (rwC r)], G') ∧ Hp G0 G' (pk pid lid lo n j :: L) ∧ RawOk b r.g r.la r.li r.pa r.bu r.se ∧ i ≤ j ∧ j ≤ n := by
  obtain ⟨v1, j1, G1, e1, k1, a1, b1, c1, d1, f1, _⟩ := hodmanplay_Picks_Num.sp h p h0 h1 9
  obtain ⟨v2, j2, G2, e2, k2, a2, b2, c2, d2, f2, _⟩ := hodmanplay_Picks_Num.sp k1 p (by omega) f1 12
  obtain ⟨v3, j3, G3, e3, k3, a3, b3, c3, d3, f3, _⟩ := hodmanplay_Picks_Num.sp k2 p (by omega) f2 150
  obtain ⟨v4, j4, G4, e4, k4, a4, b4, c4, d4, f4, _⟩ := hodmanplay_Picks_Num.sp k3 p (by omega) f3 30
  obtain ⟨v5, j5, G5, e5, k5, a5, b5, c5, d5, f5, _⟩ := hodmanplay_Picks_Num.sp k4 p (by omega) f4 200
  obtain ⟨v6, j6, G6, e6, k6, a6, b6, c6, d6, f6, _⟩ := hodmanplay_Picks_Num.sp k5 p (by omega) f5 20
  have c1 := c1 (by omega)
  have c2 := c2 (by omega)
  have c3 := c3 (by omega)
  have c4 := c4 (by omega)
  have c5 := c5 (by omega)
  have c6 := c6 (by omega)
  have p1 : 1 + v1 ≤ (1 + v1) * (1 + v2) := by
    have := Int.mul_nonneg (show 0 ≤ 1 + v1 by omega) a2
    rw [Int.mul_add]; omega
  have p2 : (1 + v1) * (1 + v2) ≤ 9 * 12 := Int.mul_le_mul (by omega) (by omega) (by omega) (by omega)
  rw [hodmanplay_Picks_Raw.cw]
  unfold hodmanplay_Picks_Raw.f
  simp only [e1, e2, e3, e4, e5, e6, q_bs, q_I, q_B, q_P, q_S, q_M, q_c, q_a, q_gz, q_gs, q_gk, q_ct, q_cf, q_nt, q_nf, q_xt, q_xf, q_tt, q_ff, q_tf, q_ft, q_at, q_af, i64w, wrap_id (a := 1 + v1) (by omega) (by omega), wrap_id (a := 1 + v2) (by omega) (by omega), wrap_id (a := 1 + v3) (by omega) (by omega), wrap_id (a := 1 + v4) (by omega) (by omega), wrap_id (a := 1 + v6) (by omega) (by omega), wrap_id (a := (1 + v1) * (1 + v2)) (by omega) (by omega), hodmanplay_Picks_Raw.J10_eq]
  cases b with
  | true => exact ⟨⟨1 + v1, (1 + v1) * (1 + v2), 1 + v3, 1 + v4, 5000, v5⟩, _, _, rfl, k6, ⟨by dsimp only; omega, ⟨p1, by dsimp only; omega⟩, by dsimp only; omega, by dsimp only; omega, fun _ => rfl, by simp, by dsimp only; omega⟩, by omega, f6⟩
  | false => exact ⟨⟨1 + v1, (1 + v1) * (1 + v2), 1 + v3, 1 + v4, 1 + v6, v5⟩, _, _, rfl, k6, ⟨by dsimp only; omega, ⟨p1, by dsimp only; omega⟩, by dsimp only; omega, by dsimp only; omega, by simp, fun _ => by dsimp only; omega, by dsimp only; omega⟩, by omega, f6⟩
/-- The configuration that a law reads out of its numbers. -/
theorem conf_of (h : Hp G0 G L) {lid lo n : Nat} {xs : List Int} (p : PkOk G0 L lid lo n xs) (b : Bool) :
    ∃ (pid : Nat) (G1 : GH), CW hodmanplay_Made.id [.c (.sl 1 lid lo n)] G = some ([.c (.ptr pid 0)], G1) ∧ Hp G0 G1 (pk pid lid lo n 0 :: L) := hodmanplay_Made.sp h lid lo n
end Go.Proofs.D.S
/- The laws' own trials. -/
set_option linter.unusedVariables false
namespace Go.Proofs.D.S
open Go Go.RowKit
variable {G : GH}
theorem hodmanlaw2_begun.sp (hG : Beg G) : ∃ G', CW hodmanlaw2_begun.id [] G = some ([.c (.bool true)], G') ∧ From G G' :=
  beg_run 90 (by intro a b c; kernel_rfl) hG
end Go.Proofs.D.S
/- ConfAll: whatever the numbers, the law answers yes. -/
set_option linter.unusedVariables false
set_option linter.unusedSimpArgs false
namespace Go.Proofs.D.S
open Go Go.RowKit
instance : Wide 6 rwC := ⟨fun _ => rfl, by decide⟩
theorem hodmanlaw2_ConfAll.law {G : GH} (hG : Beg G) (w : Rw) {id : Nat} {xs : List Int} (hs : Sl G eU8 id 0 xs) (hb : Bytes xs) {k n : Int} (hk : R64 k) (hn : R64 n) : OkT (CW hodmanlaw2_ConfAll.id [.agg (rwC w), .c (.sl 1 id 0 xs.length), .c (.int .i64 k), .c (.int .i64 n)] G) := by
  obtain ⟨G1, e1, f1⟩ := hodmanlaw2_begun.sp hG
  rw [hodmanlaw2_ConfAll.cw]
  unfold hodmanlaw2_ConfAll.f
  simp only [e1, q_bs, q_I, q_B, q_P, q_S, q_M, q_c, q_a, q_gz, q_gs, q_gk, q_ct, q_cf, q_nt, q_nf, q_xt, q_xf, q_tt, q_ff, q_tf, q_ft, q_at, q_af]
  by_cases h6 : (xs.length : Int) > 6
  · rw [condD_pos h6]; exact ⟨_, rfl⟩
  rw [condD_neg h6]
  have h0 := Hp.refl f1.wf
  have p0 : PkOk G1 [] id 0 xs.length xs := ⟨.old (f1.sl _ _ _ _ hs), hb, rfl, by omega⟩
  obtain ⟨pid, G2, e2, h2⟩ := hodmanplay_Made.sp h0 id 0 xs.length
  obtain ⟨r, j, G3, e3, h3, rok, _, _⟩ := hodmanplay_Picks_Raw.sp h2 p0 (by omega) (by omega) false
  simp only [e2, e3, q_bs, q_I, q_B, q_P, q_S, q_M, q_c, q_a, q_gz, q_gs, q_gk, q_ct, q_cf, q_nt, q_nf, q_xt, q_xf, q_tt, q_ff, q_tf, q_ft, q_at, q_af, List.length_cons, List.length_nil, if_true]
  have h4 := h3.alloc (.row [.int .i64 w.g, .int .i64 w.la, .int .i64 w.li, .int .i64 w.pa, .int .i64 w.bu, .int .i64 w.se, .int .i64 r.g, .int .i64 r.la, .int .i64 r.li, .int .i64 r.pa, .int .i64 r.bu, .int .i64 r.se] false)
  generalize G3.alloc _ = G4 at *
  generalize G3.next = l at *
  have h4 : Hp G1 G4 (rowE rwC l [w, r] :: _) := h4
  have s4 := h4.sl0
  have h4_wf := h4.wf
  clear h4
  have lp : ∀ (d i : Nat) (G5 : GH), i + d = 2 → G5.wf → Sl G5 rwC l 0 [w, r] → OkT (hodmanlaw2_ConfAll.L88 machW CW k n l 0 2 (i : Int) G5) := by
    intro d
    induction d with
    | zero => intro i G5 hi _ _; rw [hodmanlaw2_ConfAll.L88_eq, condD_neg (by omega)]; exact ⟨_, rfl⟩
    | succ d ih =>
      intro i G5 hi w5 s5
      have hi2 : i < [w, r].length := by simp; omega
      have rd : ∀ {G6 : GH}, Sl G6 rwC l 0 [w, r] → ∀ j, j < 6 → G6.ld l (0 + Int.toNat (i : Int) * 6 + j) = (rwC [w, r][i])[j]? := fun s j hj => by rw [Int.toNat_natCast]; exact s.ld i j hi2 hj
      have z : decide (0 ≤ (i : Int) ∧ (i : Int) < ((2 : Nat) : Int)) = true := decide_eq_true (by omega)
      obtain ⟨G6, e6, h6⟩ := conf_Of.sp [w, r][i] w5
      obtain ⟨G7, e7, h7⟩ := hodmanref1_Of.sp [w, r][i] h6.wf
      have s6 := s5.keep h6
      have s7 := s6.keep h7
      rw [hodmanlaw2_ConfAll.L88_eq, condD_pos (by omega)]
      simp only [z, rd s5 0 (by omega), rd s5 1 (by omega), rd s5 2 (by omega), rd s5 3 (by omega), rd s5 4 (by omega), rd s5 5 (by omega), e6, q_bs, q_I, q_B, q_P, q_S, q_M, q_c, q_a, q_gz, q_gs, q_gk, q_ct, q_cf, q_nt, q_nf, q_xt, q_xf, q_tt, q_ff, q_tf, q_ft, q_at, q_af, List.length_cons, List.length_nil, if_true,
        rd s6 0 (by omega), rd s6 1 (by omega), rd s6 2 (by omega), rd s6 3 (by omega), rd s6 4 (by omega), rd s6 5 (by omega), e7, decide_true]
      have next : OkT (hodmanlaw2_ConfAll.J85 machW CW k n l 0 2 (i : Int) G7) := by
        rw [hodmanlaw2_ConfAll.J85_eq, i64w, wrap_id (by omega) (by omega)]
        exact ih (i + 1) G7 (by omega) h7.wf s7
      generalize hC : ofC [w, r][i] = ce at *
      rw [hodmanlaw2_ConfAll.J29_eq, q_cf]
      by_cases he : ce.2 = 0
      · rw [condN_neg he]
        have ok : ce.1.Ok := by rw [← hC] at he ⊢; exact ofC_ok he
        obtain ⟨g, c, ex⟩ := ok.exs
        generalize ce.1 = C at *
        have lp2 : ∀ (d2 : Nat) (q : Int), -1 ≤ q → q + (d2 : Int) = 20 → OkT (hodmanlaw2_ConfAll.L65 machW CW k n l 0 2 (i : Int) q C.G C.N C.M C.L C.Pg C.P C.H C.Sd G7) := by
          intro d2
          induction d2 with
          | zero =>
            intro q _ hq
            rw [hodmanlaw2_ConfAll.L65_eq, condD_neg (by omega), conf_Shift.sp ex hn]
            simp only [q_bs, q_I, q_B, q_P, q_S, q_M, q_c, q_a, q_gz, q_gs, q_gk, q_ct, q_cf, q_nt, q_nf, q_xt, q_xf, q_tt, q_ff, q_tf, q_ft, q_at, q_af]
            rw [hodmanref1_Shift.sp ex]
            have hb : ∀ b : Bool, (b == b) = true := fun b => by cases b <;> rfl
            simp only [q_bs, q_I, q_B, q_P, q_S, q_M, q_c, q_a, q_gz, q_gs, q_gk, q_ct, q_cf, q_nt, q_nf, q_xt, q_xf, q_tt, q_ff, q_tf, q_ft, q_at, q_af, decide_true, hb, hodmanlaw2_ConfAll.J75_eq]
            exact next
          | succ d2 ih2 =>
            intro q hq1 hq
            have body : ∀ x : Int, R64 x → OkT (hodmanlaw2_ConfAll.J58 machW CW k n l 0 2 (i : Int) q x C.G C.N C.M C.L C.Pg C.P C.H C.Sd G7) := by
              intro x hx
              rw [hodmanlaw2_ConfAll.J58_eq, conf_Shift.sp ex hx]
              simp only [q_bs, q_I, q_B, q_P, q_S, q_M, q_c, q_a, q_gz, q_gs, q_gk, q_ct, q_cf, q_nt, q_nf, q_xt, q_xf, q_tt, q_ff, q_tf, q_ft, q_at, q_af]
              rw [hodmanref1_Shift.sp ex]
              simp only [q_bs, q_I, q_B, q_P, q_S, q_M, q_c, q_a, q_gz, q_gs, q_gk, q_ct, q_cf, q_nt, q_nf, q_xt, q_xf, q_tt, q_ff, q_tf, q_ft, q_at, q_af]
              rw [conf_Ceil.sp ok]
              simp only [q_bs, q_I, q_B, q_P, q_S, q_M, q_c, q_a, q_gz, q_gs, q_gk, q_ct, q_cf, q_nt, q_nf, q_xt, q_xf, q_tt, q_ff, q_tf, q_ft, q_at, q_af]
              rw [hodmanref1_Ceil.sp ok]
              have hb : ∀ b : Bool, (b == b) = true := fun b => by cases b <;> rfl
              simp only [q_bs, q_I, q_B, q_P, q_S, q_M, q_c, q_a, q_gz, q_gs, q_gk, q_ct, q_cf, q_nt, q_nf, q_xt, q_xf, q_tt, q_ff, q_tf, q_ft, q_at, q_af, decide_true, hb, hodmanlaw2_ConfAll.J55_eq, i64w, wrap_id (a := q + 1) (by omega) (by omega)]
              exact ih2 (q + 1) (by omega) (by omega)
            rw [hodmanlaw2_ConfAll.L65_eq, condD_pos (by omega)]
            by_cases h0 : q < 0
            · rw [condD_pos h0]; exact body k hk
            · rw [condD_neg h0]; exact body q (by unfold R64; omega)
        exact lp2 21 (-1) (by omega) (by omega)
      · rw [condN_pos he]; exact next
  exact lp 2 0 G4 (by omega) h4_wf s4
end Go.Proofs.D.S
/- A struct of six whole numbers that comes in by value: it reads as six numbers of 64 bits. -/
namespace Go.Proofs.D
open Go Go.Joins Go.ChangeShapes Go.WideShapes Go.RowKit Go.Deep
section
variable {H : Type} {enc : TypeId × Value → H} {P : Program} {w : World} {base : Nat} {spare : Nat → Bool} {held : Bool}

theorem ints6 {r : Reach} {b0 : Nat} {t u : TypeId} {f0 f1 f2 f3 f4 f5 : Field} {v : Value} {d : DataW H} {p : List MemPlace} (hs : P.underlying t = some (.struct #[f0, f1, f2, f3, f4, f5])) (hone : oneCellFields P #[f0, f1, f2, f3, f4, f5] = true) (hC : P.cellsOf t = 6)
    (hu : P.underlying u = some (.int .i64)) (hf0 : f0.type = u) (hf1 : f1.type = u) (hf2 : f2.type = u) (hf3 : f3.type = u) (hf4 : f4.type = u) (hf5 : f5.type = u)
    (hv : Value.okWide P w r b0 t v) (h : DataW.Trod enc P w base spare held t v d p) :
    ∃ (a0 a1 a2 a3 a4 a5 : Int), v = .agg #[.int .i64 a0, .int .i64 a1, .int .i64 a2, .int .i64 a3, .int .i64 a4, .int .i64 a5] ∧
      (Lit.int .i64 a0).wf = true ∧ (Lit.int .i64 a1).wf = true ∧ (Lit.int .i64 a2).wf = true ∧ (Lit.int .i64 a3).wf = true ∧ (Lit.int .i64 a4).wf = true ∧ (Lit.int .i64 a5).wf = true := by
  obtain ⟨cs, rfl, hsz⟩ := okWide_struct hs hv
  obtain ⟨l⟩ := cs
  match l, hsz.trans hC with
  | [c0, c1, c2, c3, c4, c5], _ =>
    obtain ⟨fuel, hf⟩ := h
    obtain ⟨xs, n, _, hx, _, hlen, hg⟩ := DataW.trod_struct hs hf
    obtain ⟨o0, k0⟩ := hone_of hone 0 f0 rfl
    obtain ⟨o1, k1⟩ := hone_of hone 1 f1 rfl
    obtain ⟨o2, k2⟩ := hone_of hone 2 f2 rfl
    obtain ⟨o3, k3⟩ := hone_of hone 3 f3 rfl
    obtain ⟨o4, k4⟩ := hone_of hone 4 f4 rfl
    obtain ⟨o5, k5⟩ := hone_of hone 5 f5 rfl
    match xs, hlen with
    | [y0, y1, y2, y3, y4, y5], _ =>
      have g0 : DataW.trod enc P w base spare held n f0.type [c0] = some y0 := by simpa [Value.cells, o0, k0] using hg 0 f0 rfl
      have g1 : DataW.trod enc P w base spare held n f1.type [c1] = some y1 := by simpa [Value.cells, o1, k1] using hg 1 f1 rfl
      have g2 : DataW.trod enc P w base spare held n f2.type [c2] = some y2 := by simpa [Value.cells, o2, k2] using hg 2 f2 rfl
      have g3 : DataW.trod enc P w base spare held n f3.type [c3] = some y3 := by simpa [Value.cells, o3, k3] using hg 3 f3 rfl
      have g4 : DataW.trod enc P w base spare held n f4.type [c4] = some y4 := by simpa [Value.cells, o4, k4] using hg 4 f4 rfl
      have g5 : DataW.trod enc P w base spare held n f5.type [c5] = some y5 := by simpa [Value.cells, o5, k5] using hg 5 f5 rfl
      obtain ⟨a0, e0, _, w0⟩ := DataW.trod_int (by rw [hf0]; exact hu) g0
      obtain ⟨a1, e1, _, w1⟩ := DataW.trod_int (by rw [hf1]; exact hu) g1
      obtain ⟨a2, e2, _, w2⟩ := DataW.trod_int (by rw [hf2]; exact hu) g2
      obtain ⟨a3, e3, _, w3⟩ := DataW.trod_int (by rw [hf3]; exact hu) g3
      obtain ⟨a4, e4, _, w4⟩ := DataW.trod_int (by rw [hf4]; exact hu) g4
      obtain ⟨a5, e5, _, w5⟩ := DataW.trod_int (by rw [hf5]; exact hu) g5
      simp only [List.cons.injEq, and_true] at e0 e1 e2 e3 e4 e5
      subst e0 e1 e2 e3 e4 e5
      exact ⟨a0, a1, a2, a3, a4, a5, rfl, w0, w1, w2, w3, w4, w5⟩
end
theorem agg6_rel {φ : Phi} {a0 a1 a2 a3 a4 a5 : Int} : V1Rel φ (.agg (S.rwC ⟨a0, a1, a2, a3, a4, a5⟩)) (.agg #[.int .i64 a0, .int .i64 a1, .int .i64 a2, .int .i64 a3, .int .i64 a4, .int .i64 a5]) :=
  ⟨_, rfl, R2.cons rfl (R2.cons rfl (R2.cons rfl (R2.cons rfl (R2.cons rfl (R2.cons rfl R2.nil)))))⟩
end Go.Proofs.D
