/- Texts of the proof (OKT, SpCalc, SpConf, SpClass, SpPicks, BegB, LawAdmitSums); no condition. -/
import Derived.Test.YtefhfajcpefeeaaFb
import Derived.Test.YtefhfajcpefeeaaAdmitSumsd
import Derived.Test.YtefhfajcpefeeaaAdmitSumse
import Derived.Test.YtefhfajcpefeeaaAdmitSumsc
set_option linter.unusedSimpArgs false
set_option linter.unusedVariables false
/- All functions pass the check. -/
set_option maxRecDepth 100000
namespace Go.Proofs.D
open Go
theorem tab_ok : ∀ x ∈ tab, okF Try.prog x.1 x.2.1 x.2.2 = true := by
  unfold tab
  exact List.forall_mem_cons.2 ⟨calc_Log.ok, List.forall_mem_cons.2 ⟨calc_Up.ok, List.forall_mem_cons.2 ⟨class_Charge.ok, List.forall_mem_cons.2 ⟨calc_Mul.ok, List.forall_mem_cons.2 ⟨class_Product.ok, List.forall_mem_cons.2 ⟨hodmanref1_Log.ok, List.forall_mem_cons.2 ⟨hodmanref1_Up.ok, List.forall_mem_cons.2 ⟨hodmanref1_Add.ok, List.forall_mem_cons.2 ⟨hodmanref1_Round.ok, List.forall_mem_cons.2 ⟨hodmanref1_Of.ok, List.forall_mem_cons.2 ⟨hodmanplay_Made.ok, List.forall_mem_cons.2 ⟨hodmanplay_Picks_Num.ok, List.forall_mem_cons.2 ⟨hodmanplay_Picks_Raw.ok, List.forall_mem_cons.2 ⟨hodmanplay_Picks_Conf.ok, List.forall_mem_cons.2 ⟨calc_Add.ok, List.forall_mem_cons.2 ⟨admit_New.ok, List.forall_mem_cons.2 ⟨admit_Many.ok, List.forall_mem_cons.2 ⟨admit_Anew.ok, List.forall_mem_cons.2 ⟨hodmanlaw16_begun.ok, List.forall_mem_cons.2 ⟨hodmanlaw16_AdmitSums.ok, List.forall_mem_nil _⟩⟩⟩⟩⟩⟩⟩⟩⟩⟩⟩⟩⟩⟩⟩⟩⟩⟩⟩⟩
theorem T_ok : ∀ f p d, T f = some (p, d) → okF Try.prog f p d = true := by
  intro f p d h
  unfold T at h
  obtain ⟨x, hx, e⟩ := Option.map_eq_some_iff.1 h
  have h1 := List.mem_of_find?_eq_some hx
  have h2 := List.find?_some hx
  have h3 : x.1 = f := by simpa using h2
  have := tab_ok x h1
  rw [h3, e] at this
  exact this
theorem mixed : Try.prog.follows .mixedOrders = true := by kernel_rfl
end Go.Proofs.D
/- What the functions of calc and of the first reference come to. -/
set_option linter.unusedVariables false
set_option linter.unusedSimpArgs false
namespace Go.Proofs.D.S
open Go Go.RowKit
variable {G : GH}
theorem band_eq (x y : Int) : Go.bits .and .i64 x y = IntKind.i64.wrap (((BitVec.ofInt IntKind.i64.bits x) &&& (BitVec.ofInt IntKind.i64.bits y)).toNat : Int) := rfl
theorem bxor_eq (x y : Int) : Go.bits .xor .i64 x y = IntKind.i64.wrap (((BitVec.ofInt IntKind.i64.bits x) ^^^ (BitVec.ofInt IntKind.i64.bits y)).toNat : Int) := rfl
theorem calc_Add.sp {a b : Int} (ha : R64 a) (hb : R64 b) : CW calc_Add.id [.c (.int .i64 a), .c (.int .i64 b)] G = some ([.c (.int .i64 (addS a b).1), .c (.bool (addS a b).2)], G) := by
  rw [calc_Add.cw]
  have e : IntKind.i64.wrap (IntKind.u64.wrap (IntKind.u64.wrap a + IntKind.u64.wrap b)) = wrap64 (a + b) := by rw [i64w]; exact add_sum a b
  have t := add_test a b ha hb
  rw [band_eq, bxor_eq, bxor_eq] at t
  simp only [calc_Add.f, e, Bool.cond_decide]
  generalize (IntKind.i64.wrap (((BitVec.ofInt IntKind.i64.bits (IntKind.i64.wrap (((BitVec.ofInt IntKind.i64.bits a) ^^^ (BitVec.ofInt IntKind.i64.bits (wrap64 (a + b)))).toNat : Int))) &&& (BitVec.ofInt IntKind.i64.bits (IntKind.i64.wrap (((BitVec.ofInt IntKind.i64.bits b) ^^^ (BitVec.ofInt IntKind.i64.bits (wrap64 (a + b)))).toNat : Int)))).toNat : Int)) = X at t ⊢
  unfold addS
  by_cases h : R64 (a + b)
  · rw [if_neg (fun c => t.1 c h), if_pos h, wrap_in h]
  · rw [if_pos (t.2 h), if_neg h]
theorem calc_Mul.sp {a b : Int} (ha : R64 a) (hb : R64 b) : CW calc_Mul.id [.c (.int .i64 a), .c (.int .i64 b)] G = some ([.c (.int .i64 (mulS a b).1), .c (.bool (mulS a b).2)], G) := by
  rw [calc_Mul.cw]
  have e : IntKind.i64.wrap (IntKind.u64.wrap (IntKind.u64.wrap a * IntKind.u64.wrap b)) = wrap64 (a * b) := by rw [i64w]; exact mul_prod a b
  unfold calc_Mul.f mulS
  by_cases h0 : a = 0
  · subst h0
    have : R64 (0 * b) := by rw [Int.zero_mul]; unfold R64; omega
    rw [if_pos this, condD_pos rfl, calc_Mul.J12_eq, Int.zero_mul]; rfl
  · by_cases hb0 : b = 0
    · subst hb0
      have : R64 (a * 0) := by rw [Int.mul_zero]; unfold R64; omega
      rw [if_pos this, condD_neg h0, decide_eq_true rfl, calc_Mul.J12_eq, Int.mul_zero]; rfl
    · have hmin : ∀ (t : Bool), (t = true ↔ ((a = -1 ∧ b = -9223372036854775808) ∨ (b = -1 ∧ a = -9223372036854775808))) → calc_Mul.J10 machW CW a b t G = some ([.c (.int .i64 (if R64 (a * b) then (a * b, true) else (0, false)).1), .c (.bool (if R64 (a * b) then (a * b, true) else (0, false)).2)], G) := by
        intro t ht
        rw [calc_Mul.J10_eq]
        cases t with
        | true =>
          have : ¬ R64 (a * b) := by rcases ht.1 rfl with ⟨rfl, rfl⟩ | ⟨rfl, rfl⟩ <;> (unfold R64; omega)
          rw [if_neg this]; rfl
        | false =>
          have hn : ¬ ((a = -1 ∧ b = -9223372036854775808) ∨ (b = -1 ∧ a = -9223372036854775808)) := fun c => by have := ht.2 c; simp at this
          have key := mul_back ha hb hb0 (fun c => hn (.inl c)) (fun c => hn (.inr c))
          simp only [e, binD_quo hb0, q_bs, q_I, q_B, q_P, q_S, q_M, q_c, q_a, q_gz, q_gs, q_gk, q_ct, q_cf, q_nt, q_nf, q_xt, q_xf, q_tt, q_ff, q_tf, q_ft, q_at, q_af, i64w]
          by_cases h : R64 (a * b)
          · rw [decide_eq_true (key.2 h), if_pos h, wrap_in h]; rfl
          · rw [decide_eq_false (fun c => h (key.1 c)), if_neg h]; rfl
      simp only [calc_Mul.J12_eq, decide_eq_false h0, decide_eq_false hb0, q_bs, q_I, q_B, q_P, q_S, q_M, q_c, q_a, q_gz, q_gs, q_gk, q_ct, q_cf, q_nt, q_nf, q_xt, q_xf, q_tt, q_ff, q_tf, q_ft, q_at, q_af, Bool.cond_decide]
      by_cases ha1 : a = -1
      · rw [if_pos ha1]
        by_cases hb1 : b = -9223372036854775808
        · rw [if_pos hb1]; exact hmin true ⟨fun _ => .inl ⟨ha1, hb1⟩, fun _ => rfl⟩
        · rw [if_neg hb1]
          by_cases hb2 : b = -1
          · rw [if_pos hb2]; exact hmin _ (by rw [decide_eq_true_iff]; omega)
          · rw [if_neg hb2]; exact hmin false ⟨fun c => by simp at c, fun c => by omega⟩
      · rw [if_neg ha1]
        by_cases hb2 : b = -1
        · rw [if_pos hb2]; exact hmin _ (by rw [decide_eq_true_iff]; omega)
        · rw [if_neg hb2]; exact hmin false ⟨fun c => by simp at c, fun c => by omega⟩
theorem calc_Up.lp (v : Int) (h1 : 1 ≤ v) (h2 : v ≤ 4611686018427387904) (d : Nat) : ∀ (e : Nat), e + d = clog v.toNat →
    calc_Up.L17 machW CW v ((2 ^ e : Nat) : Int) G = some ([.c (.int .i64 ((2 ^ clog v.toNat : Nat) : Int)), .c (.bool true)], G) := by
  have hc : clog v.toNat ≤ 62 := clog_le (by simp; omega)
  induction d with
  | zero =>
    intro e he
    obtain rfl : e = clog v.toNat := by omega
    have := le_clog v.toNat
    rw [calc_Up.L17_eq, condD_neg (by omega)]
  | succ d ih =>
    intro e he
    have h3 := lt_clog (n := v.toNat) (e := e) (by omega)
    have h4 := pow62 (e := e) (by omega)
    have h5 := pow62 (e := e + 1) (by omega)
    have e1 : IntKind.i64.wrap (((2 ^ e : Nat) : Int) * 2 ^ (min (1 : Int).toNat IntKind.i64.bits)) = ((2 ^ (e + 1) : Nat) : Int) := by
      have : (2 : Int) ^ (min (1 : Int).toNat IntKind.i64.bits) = 2 := by decide
      rw [this, i64w, wrap_id] <;> rw [Nat.pow_succ] at * <;> omega
    rw [calc_Up.L17_eq, condD_pos (by omega), e1]
    exact ih (e + 1) (by omega)
theorem calc_Up.sp (v : Int) : CW calc_Up.id [.c (.int .i64 v)] G = some ([.c (.int .i64 (upS v).1), .c (.bool (upS v).2)], G) := by
  rw [calc_Up.cw]
  unfold calc_Up.f upS
  by_cases h1 : v < 1
  · rw [if_pos h1, condD_pos h1, calc_Up.J6_eq]; rfl
  · rw [if_neg h1, condD_neg h1]
    by_cases h2 : v > 4611686018427387904
    · rw [if_pos h2, decide_eq_true h2, calc_Up.J6_eq]; rfl
    · rw [if_neg h2, decide_eq_false h2, calc_Up.J6_eq]
      exact calc_Up.lp v (by omega) (by omega) (clog v.toNat) 0 (by omega)
theorem calc_Log.lp (e : Nat) : ∀ (n : Int), 0 ≤ n → n + e ≤ 100 →
    calc_Log.L18 machW CW ((2 ^ e : Nat) : Int) n G = some ([.c (.int .i64 (n + e)), .c (.bool true)], G) := by
  induction e with
  | zero => intro n h0 h1; rw [calc_Log.L18_eq, condD_neg (by decide)]; simp
  | succ e ih =>
    intro n h0 h1
    have h3 : 0 < 2 ^ e := Nat.two_pow_pos e
    have e1 : Int.fdiv ((2 ^ (e + 1) : Nat) : Int) (2 ^ (min (1 : Int).toNat IntKind.i64.bits)) = ((2 ^ e : Nat) : Int) := by
      have : (2 : Int) ^ (min (1 : Int).toNat IntKind.i64.bits) = 2 := by decide
      rw [this, Int.fdiv_eq_ediv_of_nonneg _ (by omega), Nat.pow_succ]; omega
    rw [calc_Log.L18_eq, condD_pos (by rw [Nat.pow_succ]; omega), e1, i64w, wrap_id (by omega) (by omega), ih (n + 1) (by omega) (by omega)]
    simp; omega
theorem calc_Log.sp {v : Int} (hv : R64 v) : CW calc_Log.id [.c (.int .i64 v)] G = some ([.c (.int .i64 (logS v).1), .c (.bool (logS v).2)], G) := by
  rw [calc_Log.cw]
  unfold calc_Log.f logS
  by_cases h1 : v < 1
  · rw [condD_pos h1, if_neg (by omega), calc_Log.J6_eq]; rfl
  · rw [condD_neg h1]
    unfold R64 at hv
    have hp := and_pow v (by omega) (by omega)
    rw [isPow_iff] at hp
    rw [band_eq, ← i64w (v - 1)] at hp
    have hl := log2_lt63 (v := v) (by omega) (by omega)
    by_cases h2 : v.toNat = 2 ^ Nat.log2 v.toNat
    · have h3 : v = ((2 ^ Nat.log2 v.toNat : Nat) : Int) := by omega
      rw [if_pos ⟨by omega, h3⟩, decide_eq_true (hp.2 h2), calc_Log.J6_eq]
      have h5 := calc_Log.lp (G := G) (Nat.log2 v.toNat) 0 (by omega) (by omega)
      rw [← h3] at h5
      simpa using h5
    · rw [if_neg (by rintro ⟨_, h⟩; exact h2 (by omega)), decide_eq_false (fun c => h2 (hp.1 c)), calc_Log.J6_eq]; rfl
theorem hodmanref1_Add.sp {a b : Int} (ha : R64 a) (hb : R64 b) : CW hodmanref1_Add.id [.c (.int .i64 a), .c (.int .i64 b)] G = some ([.c (.int .i64 (addS a b).1), .c (.bool (addS a b).2)], G) := by
  rw [hodmanref1_Add.cw]
  unfold hodmanref1_Add.f addS
  unfold R64 at ha hb
  by_cases h : R64 (a + b)
  · rw [if_pos h]
    have h' := h
    unfold R64 at h
    simp only [i64w, wrap_in h', hodmanref1_Add.J6_eq, Bool.cond_decide, q_bs, q_I, q_B, q_P, q_S, q_M, q_c, q_a, q_gz, q_gs, q_gk, q_ct, q_cf, q_nt, q_nf, q_xt, q_xf, q_tt, q_ff, q_tf, q_ft, q_at, q_af]
    by_cases b0 : b > 0
    · rw [if_pos b0, if_neg (by unfold wrap64; omega), if_neg (by omega)]
    · rw [if_neg b0]
      by_cases b1 : b < 0
      · rw [if_pos b1, if_neg (by unfold wrap64; omega)]
      · rw [if_neg b1]
  · rw [if_neg h]
    unfold R64 at h
    simp only [i64w, hodmanref1_Add.J6_eq, Bool.cond_decide, q_bs, q_I, q_B, q_P, q_S, q_M, q_c, q_a, q_gz, q_gs, q_gk, q_ct, q_cf, q_nt, q_nf, q_xt, q_xf, q_tt, q_ff, q_tf, q_ft, q_at, q_af]
    by_cases b0 : b > 0
    · rw [if_pos b0, if_pos (by unfold wrap64; omega)]
    · rw [if_neg b0]
      by_cases b1 : b < 0
      · rw [if_pos b1, if_pos (by unfold wrap64; omega)]
      · omega
theorem hodmanref1_Round.sp {v d : Int} (hv : R64 v) (ht : R64 d) : CW hodmanref1_Round.id [.c (.int .i64 v), .c (.int .i64 d)] G = some ([.c (.int .i64 (roundS v d).1), .c (.bool (roundS v d).2)], G) := by
  rw [hodmanref1_Round.cw]
  unfold hodmanref1_Round.f roundS
  unfold R64 at hv ht
  by_cases h1 : v < 0
  · rw [condD_pos h1, if_pos h1, hodmanref1_Round.J6_eq]; rfl
  · rw [condD_neg h1, if_neg h1]
    by_cases h2 : d < 1
    · rw [if_pos h2, decide_eq_true h2, hodmanref1_Round.J6_eq]; rfl
    · rw [if_neg h2, decide_eq_false h2, hodmanref1_Round.J6_eq]
      have e1 : Int.tmod v d = v % d := Int.tmod_eq_emod_of_nonneg (by omega)
      have h3 := Int.emod_nonneg v (b := d) (by omega)
      have h4 := Int.emod_lt_of_pos v (b := d) (by omega)
      have h6 : v % d ≤ v := by
        have := Int.mul_ediv_add_emod v d
        have h7 := Int.ediv_nonneg (a := v) (b := d) (by omega) (by omega)
        have h8 := Int.mul_nonneg (show 0 ≤ d by omega) h7
        omega
      simp only [binD_rem (show d ≠ 0 by omega), e1, q_bs, q_I, q_B, q_P, q_S, q_M, q_c, q_a, q_gz, q_gs, q_gk, q_ct, q_cf, q_nt, q_nf, q_xt, q_xf, q_tt, q_ff, q_tf, q_ft, q_at, q_af]
      by_cases h5 : v % d = 0
      · rw [if_pos h5, condD_pos h5]
      · rw [if_neg h5, condD_neg h5]
        rw [i64w, wrap_id (by omega) (by omega), hodmanref1_Add.sp (by unfold R64; omega) (by unfold R64; omega)]
        simp only [q_bs, q_I, q_B, q_P, q_S, q_M, q_c, q_a, q_gz, q_gs, q_gk, q_ct, q_cf, q_nt, q_nf, q_xt, q_xf, q_tt, q_ff, q_tf, q_ft, q_at, q_af, addS, show v - v % d + d = v + (d - v % d) by omega]
theorem hodmanref1_Up.lp (v : Int) (h1 : 1 ≤ v) (h2 : v ≤ 4611686018427387904) (d : Nat) : ∀ (e : Nat), e + d = clog v.toNat →
    hodmanref1_Up.L17 machW CW v ((2 ^ e : Nat) : Int) G = some ([.c (.int .i64 ((2 ^ clog v.toNat : Nat) : Int)), .c (.bool true)], G) := by
  have hc : clog v.toNat ≤ 62 := clog_le (by simp; omega)
  induction d with
  | zero =>
    intro e he
    obtain rfl : e = clog v.toNat := by omega
    have := le_clog v.toNat
    rw [hodmanref1_Up.L17_eq, condD_neg (by omega)]
  | succ d ih =>
    intro e he
    have h3 := lt_clog (n := v.toNat) (e := e) (by omega)
    have h5 := pow62 (e := e + 1) (by omega)
    have e1 : IntKind.i64.wrap (((2 ^ e : Nat) : Int) * 2) = ((2 ^ (e + 1) : Nat) : Int) := by
      rw [i64w, wrap_id] <;> rw [Nat.pow_succ] at * <;> omega
    rw [hodmanref1_Up.L17_eq, condD_pos (by omega), e1]
    exact ih (e + 1) (by omega)
theorem hodmanref1_Up.sp (v : Int) : CW hodmanref1_Up.id [.c (.int .i64 v)] G = some ([.c (.int .i64 (upS v).1), .c (.bool (upS v).2)], G) := by
  rw [hodmanref1_Up.cw]
  unfold hodmanref1_Up.f upS
  by_cases h1 : v < 1
  · rw [if_pos h1, condD_pos h1, hodmanref1_Up.J6_eq]; rfl
  · rw [if_neg h1, condD_neg h1]
    by_cases h2 : v > 4611686018427387904
    · rw [if_pos h2, decide_eq_true h2, hodmanref1_Up.J6_eq]; rfl
    · rw [if_neg h2, decide_eq_false h2, hodmanref1_Up.J6_eq]
      exact hodmanref1_Up.lp v (by omega) (by omega) (clog v.toNat) 0 (by omega)
end Go.Proofs.D.S
/- What the functions of conf, class, admit and of the first reference come to, and what is read out of numbers. -/
set_option linter.unusedVariables false
set_option linter.unusedSimpArgs false
namespace Go.Proofs.D.S
open Go Go.RowKit
variable {G G0 : GH}
theorem Hp.ne {id : Nat} {c : Cell} {cs : List Cell} {L : List (Nat × Obj)} (h : Hp G0 G ((id, .row (c :: cs) false) :: L)) : id ≠ 0 := by
  rcases h.ok _ (List.mem_cons_self ..) with ⟨_, b⟩ | ⟨_, b, _⟩
  · simp at b
  · dsimp only at b; omega
theorem nbeq {n : Nat} (h : n ≠ 0) : (!Nat.beq n 0) = true := by
  cases n with
  | zero => exact absurd rfl h
  | succ n => rfl
theorem guardN {R : Type} {n : Nat} (h : n ≠ 0) (K : Option R) : guardK (!Nat.beq n 0) K = K := guardK_of (nbeq h) K
theorem hodmanref1_Log.lp {v : Int} (hv : R64 v) (d : Nat) : ∀ (n : Nat), n + d = 63 → (∀ m, m < n → v ≠ ((2 ^ m : Nat) : Int)) → n ≤ 62 →
    hodmanref1_Log.L25 machW CW v ((2 ^ n : Nat) : Int) (n : Int) G = some ([.c (.int .i64 (logS v).1), .c (.bool (logS v).2)], G) := by
  induction d with
  | zero => intro n hn _ h; omega
  | succ d ih =>
    intro n hn hm h62
    have hpos := Nat.two_pow_pos n
    have h4 := pow62 (e := n) (by omega)
    rw [hodmanref1_Log.L25_eq, condD_pos (by omega)]
    by_cases h1 : ((2 ^ n : Nat) : Int) = v
    · rw [condD_pos h1]
      have h2 : v.toNat = 2 ^ n := by omega
      unfold logS
      rw [h2, Nat.log2_two_pow, if_pos ⟨by omega, h1.symm⟩]
    · rw [condD_neg h1]
      by_cases h2 : (n : Int) < 62
      · rw [condD_pos h2]
        have h5 := pow62 (e := n + 1) (by omega)
        have e1 : IntKind.i64.wrap (((2 ^ n : Nat) : Int) * 2) = ((2 ^ (n + 1) : Nat) : Int) := by
          rw [Nat.pow_succ] at h5 ⊢; rw [i64w, wrap_id] <;> omega
        have e2 : IntKind.i64.wrap ((n : Int) + 1) = ((n + 1 : Nat) : Int) := by rw [i64w, wrap_id] <;> omega
        rw [e1, hodmanref1_Log.J22_eq, e2]
        refine ih (n + 1) (by omega) ?_ (by omega)
        intro m hmn
        by_cases hme : m = n
        · subst hme; exact fun c => h1 c.symm
        · exact hm m (by omega)
      · rw [condD_neg h2]
        have e2 : IntKind.i64.wrap ((n : Int) + 1) = 63 := by rw [i64w, wrap_id] <;> omega
        rw [hodmanref1_Log.J22_eq, e2, hodmanref1_Log.L25_eq, condD_neg (by omega)]
        unfold logS
        rw [if_neg]
        rintro ⟨h3, h5⟩
        unfold R64 at hv
        have h6 := log2_lt63 (v := v) h3 (by omega)
        by_cases h7 : Nat.log2 v.toNat = n
        · rw [h7] at h5; exact h1 h5.symm
        · exact hm _ (by omega) h5
theorem hodmanref1_Log.sp {v : Int} (hv : R64 v) : CW hodmanref1_Log.id [.c (.int .i64 v)] G = some ([.c (.int .i64 (logS v).1), .c (.bool (logS v).2)], G) := by
  rw [hodmanref1_Log.cw]
  exact hodmanref1_Log.lp hv 63 0 (by omega) (fun m h => by omega) (by omega)
/-- The sizes that Of comes to, one by one. -/
theorem of_steps {r : Rw} (hin : r.In) :
    upS r.g = (((2 ^ eG r.g : Nat) : Int), true) ∧ upS (mx2 r.la ((2 ^ eG r.g : Nat) : Int)) = (((2 ^ eN r.g r.la : Nat) : Int), true) ∧ upS (mx2 r.pa ((2 ^ eG r.g : Nat) : Int)) = (((2 ^ ePg r.g r.pa : Nat) : Int), true) ∧
    (mx2 ((2 ^ eN r.g r.la : Nat) : Int) ((2 ^ ePg r.g r.pa : Nat) : Int)) * 2 = wS r.g r.la r.pa ∧ R64 (wS r.g r.la r.pa) ∧ R64 r.li ∧ roundS r.li (wS r.g r.la r.pa) = (mS r.g r.la r.li r.pa, true) ∧ ((2 ^ eG r.g : Nat) : Int) ≠ 0 ∧
    wrap64 (Int.tdiv ((2 ^ eN r.g r.la : Nat) : Int) ((2 ^ eG r.g : Nat) : Int)) = ((2 ^ (eN r.g r.la - eG r.g) : Nat) : Int) ∧ R64 ((2 ^ (eN r.g r.la - eG r.g) : Nat) : Int) ∧
    0 ≤ mS r.g r.la r.li r.pa ∧ R64 (mS r.g r.la r.li r.pa / 2) ∧ wrap64 (((eN r.g r.la - eG r.g : Nat) : Int) * (mS r.g r.la r.li r.pa / 2)) = lS r.g r.la * (mS r.g r.la r.li r.pa / 2) ∧ wrap64 (mS r.g r.la r.li r.pa + lS r.g r.la * (mS r.g r.la r.li r.pa / 2)) = hS r.g r.la r.li r.pa := by
  obtain ⟨g, la, li, pa, bu, se⟩ := r
  obtain ⟨⟨g1, g2⟩, ⟨l1, l2⟩, ⟨i1, i2⟩, ⟨p1, p2⟩, hb, hs⟩ := hin
  dsimp only at *
  have b0 := eG_le g2
  have b1 := eN_le g2 l2
  have b2 := ePg_le g2 p2
  have q0 := pow16 b0
  have q1 := pow16 b1
  have q2 := pow16 b2
  have z0 := Nat.two_pow_pos (eG g)
  have z1 := Nat.two_pow_pos (eN g la)
  have z2 := Nat.two_pow_pos (ePg g pa)
  have mxi : ∀ a b : Int, mx2 a b = if a < b then b else a := fun a b => by rw [mx2_eq, max_if]
  have eN' : clog (mx2 la ((2 ^ eG g : Nat) : Int)).toNat = eN g la := clog_toMax la (eG g) _ (mxi _ _)
  have eP' : clog (mx2 pa ((2 ^ eG g : Nat) : Int)).toNat = ePg g pa := clog_toMax pa (eG g) _ (mxi _ _)
  have mb : ∀ a : Int, 1 ≤ a → a ≤ 65536 → 1 ≤ mx2 a ((2 ^ eG g : Nat) : Int) ∧ mx2 a ((2 ^ eG g : Nat) : Int) ≤ 65536 := by
    intro a h1 h2
    rw [mx2_eq]; omega
  have m1 := mb la l1 l2
  have m2 := mb pa p1 p2
  obtain ⟨a1, a2, a3, a4, a5⟩ := mS_facts (g := g) (la := la) (pa := pa) i1 i2 g2 l2 p2
  obtain ⟨r1, r2, r3, r4⟩ := hS_range (g := g) (la := la) (pa := pa) i1 i2 g2 l2 p2
  have hge : eG g ≤ eN g la := by unfold eN; omega
  have h5 := pow16 (e := eN g la - eG g) (by omega)
  have h4 := Nat.two_pow_pos (eN g la - eG g)
  refine ⟨upS_in g1 (by omega), by rw [upS_in m1.1 (Int.le_trans m1.2 (by decide)), eN'], by rw [upS_in m2.1 (Int.le_trans m2.2 (by decide)), eP'], ?_, by unfold R64; omega, by unfold R64; omega, round_mS i1 i2 g2 l2 p2, by omega, ?_, by unfold R64; omega, by omega, by unfold R64; omega, ?_, ?_⟩
  · rw [mx2_eq]
    unfold wS
    rcases Nat.le_total (eN g la) (ePg g pa) with h | h
    · have : (2 : Nat) ^ eN g la ≤ 2 ^ ePg g pa := Nat.pow_le_pow_right (by decide) h
      rw [Nat.max_eq_right h, Nat.pow_succ]; omega
    · have : (2 : Nat) ^ ePg g pa ≤ 2 ^ eN g la := Nat.pow_le_pow_right (by decide) h
      rw [Nat.max_eq_left h, Nat.pow_succ]; omega
  · have h1 : (2 : Nat) ^ eN g la = 2 ^ eG g * 2 ^ (eN g la - eG g) := by rw [← Nat.pow_add, show eG g + (eN g la - eG g) = eN g la by omega]
    have h2 : Int.tdiv ((2 ^ eN g la : Nat) : Int) ((2 ^ eG g : Nat) : Int) = ((2 ^ (eN g la - eG g) : Nat) : Int) := by
      rw [h1, Int.natCast_mul, Int.mul_tdiv_cancel_left _ (by omega)]
    rw [h2, wrap_id (by omega) (by omega)]
  · exact wrap_id (by show _ ≤ lS g la * (mS g la li pa / 2); omega) (by show lS g la * (mS g la li pa / 2) ≤ _; omega)
  · exact wrap_id (by show _ ≤ hS g la li pa; omega) (by show hS g la li pa ≤ _; omega)
theorem pow1 : (2 : Int) ^ (min (1 : Int).toNat IntKind.i64.bits) = 2 := by decide
theorem hodmanref1_Of.done {r : Rw} (hin : r.In) : hodmanref1_Of.J27 machW CW false r.g r.la r.li r.pa r.bu r.se 0 0 0 0 0 0 0 0 G = some ([.agg (cfC (ofC r).1), .c (.int .i64 (ofC r).2)], G) := by
  obtain ⟨u0, u1, u2, eW, rw1, rw2, rd, ez, eD, rD, m0, rm, eL, eH⟩ := of_steps hin
  have eM2 : wrap64 (Int.tdiv (mS r.g r.la r.li r.pa) 2) = mS r.g r.la r.li r.pa / 2 := by
    rw [Int.tdiv_eq_ediv_of_nonneg m0, wrap_in rm]
  rw [hodmanref1_Of.J27_eq]
  simp only [q_bs, q_I, q_B, q_P, q_S, q_M, q_c, q_a, q_gz, q_gs, q_gk, q_ct, q_cf, q_nt, q_nf, q_xt, q_xf, q_tt, q_ff, q_tf, q_ft, q_at, q_af, hodmanref1_Up.sp, u0, u1, u2, i64w]
  rw [Int.mul_comm 2, eW, wrap_in rw1, hodmanref1_Round.sp rw2 rw1, rd]
  simp only [q_bs, q_I, q_B, q_P, q_S, q_M, q_c, q_a, q_gz, q_gs, q_gk, q_ct, q_cf, q_nt, q_nf, q_xt, q_xf, q_tt, q_ff, q_tf, q_ft, q_at, q_af, binD_quo ez, i64w, eD]
  rw [hodmanref1_Log.sp rD, logS_pow]
  simp only [q_bs, q_I, q_B, q_P, q_S, q_M, q_c, q_a, q_gz, q_gs, q_gk, q_ct, q_cf, q_nt, q_nf, q_xt, q_xf, q_tt, q_ff, q_tf, q_ft, q_at, q_af, i64w, eM2, eL, eH]
  unfold ofC
  rw [if_pos hin]
  by_cases h6 : hS r.g r.la r.li r.pa > 65536
  · rw [condD_pos h6, if_pos h6]; rfl
  · rw [condD_neg h6, if_neg h6]; rfl
theorem hodmanref1_Of.sp (r : Rw) (w : G.wf) : ∃ G', CW hodmanref1_Of.id [.agg (rwC r)] G = some ([.agg (cfC (ofC r).1), .c (.int .i64 (ofC r).2)], G') ∧ Hp G G' [] := by
  have h := (Hp.refl w).alloc (.row [.int .i64 r.g, .int .i64 r.la, .int .i64 r.li, .int .i64 r.pa] false)
  refine ⟨_, ?_, h.tl⟩
  have ld := fun off => h.ld (off := off) h.ne
  rw [hodmanref1_Of.cw]
  simp only [hodmanref1_Of.f]
  generalize G.alloc _ = G1 at h ld ⊢
  generalize G.next = id at h ld ⊢
  have no : ¬ r.In → some ([V1.agg (cfC (ofC r).1), .c (.int .i64 (ofC r).2)], G1) = some ([.agg [.int .i64 0, .int .i64 0, .int .i64 0, .int .i64 0, .int .i64 0, .int .i64 0, .int .i64 0, .int .i64 0], .c (.int .i64 1)], G1) := fun h => by unfold ofC; rw [if_neg h]; rfl
  have out : ∀ (i : Nat) (x : Int), i < 4 → [Cell.int .i64 r.g, .int .i64 r.la, .int .i64 r.li, .int .i64 r.pa][i]? = some (.int .i64 x) → ¬ (1 ≤ x ∧ x ≤ 65536) → ¬ r.In →
      hodmanref1_Of.L19 machW CW id 0 4 (i : Int) r.g r.la r.li r.pa r.bu r.se 0 0 0 0 0 0 0 0 G1 = some ([.agg (cfC (ofC r).1), .c (.int .i64 (ofC r).2)], G1) := by
    intro i x hi hx hn hno
    rw [no hno, hodmanref1_Of.L19_eq, condD_pos (by omega), guardD_of (by omega), ld, show 0 + Int.toNat (i : Int) * 1 = i by omega, hx]
    simp only [q_bs, q_I, q_B, q_P, q_S, q_M, q_c, q_a, q_gz, q_gs, q_gk, q_ct, q_cf, q_nt, q_nf, q_xt, q_xf, q_tt, q_ff, q_tf, q_ft, q_at, q_af]
    by_cases h1 : x < 1
    · rw [condD_pos h1, hodmanref1_Of.J13_eq]; rfl
    · rw [condD_neg h1, guardD_of (by omega), decide_eq_true (by omega : x > 65536), hodmanref1_Of.J13_eq]; rfl
  have on : ∀ (i : Nat) (x : Int), i < 4 → [Cell.int .i64 r.g, .int .i64 r.la, .int .i64 r.li, .int .i64 r.pa][i]? = some (.int .i64 x) → (1 ≤ x ∧ x ≤ 65536) →
      hodmanref1_Of.L19 machW CW id 0 4 ((i + 1 : Nat) : Int) r.g r.la r.li r.pa r.bu r.se 0 0 0 0 0 0 0 0 G1 = some ([.agg (cfC (ofC r).1), .c (.int .i64 (ofC r).2)], G1) →
      hodmanref1_Of.L19 machW CW id 0 4 (i : Int) r.g r.la r.li r.pa r.bu r.se 0 0 0 0 0 0 0 0 G1 = some ([.agg (cfC (ofC r).1), .c (.int .i64 (ofC r).2)], G1) := by
    intro i x hi hx hn hno
    rw [hodmanref1_Of.L19_eq, condD_pos (by omega), guardD_of (by omega), ld, show 0 + Int.toNat (i : Int) * 1 = i by omega, hx]
    simp only [q_bs, q_I, q_B, q_P, q_S, q_M, q_c, q_a, q_gz, q_gs, q_gk, q_ct, q_cf, q_nt, q_nf, q_xt, q_xf, q_tt, q_ff, q_tf, q_ft, q_at, q_af]
    rw [condD_neg (by omega), guardD_of (by omega), decide_eq_false (by omega : ¬ x > 65536), hodmanref1_Of.J13_eq, i64w, wrap_id (by omega) (by omega)]
    exact hno
  have last : 1 ≤ r.g ∧ r.g ≤ 65536 → 1 ≤ r.la ∧ r.la ≤ 65536 → 1 ≤ r.li ∧ r.li ≤ 65536 → 1 ≤ r.pa ∧ r.pa ≤ 65536 → hodmanref1_Of.L19 machW CW id 0 4 ((4 : Nat) : Int) r.g r.la r.li r.pa r.bu r.se 0 0 0 0 0 0 0 0 G1 = some ([.agg (cfC (ofC r).1), .c (.int .i64 (ofC r).2)], G1) := by
    intro hg hl hi hp
    rw [hodmanref1_Of.L19_eq, condD_neg (by omega)]
    have bad : ¬ r.In → hodmanref1_Of.J27 machW CW true r.g r.la r.li r.pa r.bu r.se 0 0 0 0 0 0 0 0 G1 = some ([.agg (cfC (ofC r).1), .c (.int .i64 (ofC r).2)], G1) := fun h => by rw [no h, hodmanref1_Of.J27_eq]; rfl
    by_cases h1 : r.bu < 0
    · rw [condD_pos h1]; exact bad (by unfold Rw.In InS; omega)
    · rw [condD_neg h1]
      by_cases h2 : r.bu > 65536
      · rw [condD_pos h2]; exact bad (by unfold Rw.In InS; omega)
      · rw [condD_neg h2]
        by_cases h3 : r.se < 0
        · rw [condD_pos h3]; exact bad (by unfold Rw.In InS; omega)
        · rw [condD_neg h3]
          by_cases h4 : r.se > 255
          · rw [decide_eq_true h4]; exact bad (by unfold Rw.In InS; omega)
          · rw [decide_eq_false h4]; exact hodmanref1_Of.done (by unfold Rw.In InS; omega)
  show hodmanref1_Of.L19 machW CW id 0 4 ((0 : Nat) : Int) r.g r.la r.li r.pa r.bu r.se 0 0 0 0 0 0 0 0 G1 = _
  by_cases hg : 1 ≤ r.g ∧ r.g ≤ 65536
  · refine on 0 r.g (by omega) rfl hg ?_
    by_cases hl : 1 ≤ r.la ∧ r.la ≤ 65536
    · refine on 1 r.la (by omega) rfl hl ?_
      by_cases hi : 1 ≤ r.li ∧ r.li ≤ 65536
      · refine on 2 r.li (by omega) rfl hi ?_
        by_cases hp : 1 ≤ r.pa ∧ r.pa ≤ 65536
        · exact on 3 r.pa (by omega) rfl hp (last hg hl hi hp)
        · exact out 3 r.pa (by omega) rfl hp (by unfold Rw.In InS; omega)
      · exact out 2 r.li (by omega) rfl hi (by unfold Rw.In InS; omega)
    · exact out 1 r.la (by omega) rfl hl (by unfold Rw.In InS; omega)
  · exact out 0 r.g (by omega) rfl hg (by unfold Rw.In InS; omega)
end Go.Proofs.D.S
/- What the functions of class, admit and the first reference's come to. -/
set_option linter.unusedVariables false
set_option linter.unusedSimpArgs false
namespace Go.Proofs.D.S
open Go Go.RowKit
variable {G G0 : GH}
theorem class_Charge.sp {c : Cf} (h : c.Ok) {s a : Int} (ha : R64 a) : CW class_Charge.id [.agg (cfC c), .c (.int .i64 s), .c (.int .i64 a)] G = some ([.c (.int .i64 (c.charge s a).1), .c (.int .i64 (c.charge s a).2)], G) := by
  have f := h.facts
  rw [class_Charge.cw]
  unfold class_Charge.f Cf.charge chargeS
  simp only [calc_Log.sp ha, q_bs, q_I, q_B, q_P, q_S, q_M, q_c, q_a, q_gz, q_gs, q_gk, q_ct, q_cf, q_nt, q_nf, q_xt, q_xf, q_tt, q_ff, q_tf, q_ft, q_at, q_af]
  by_cases h1 : (logS a).2 = true
  · rw [h1]
    simp only [q_bs, q_I, q_B, q_P, q_S, q_M, q_c, q_a, q_gz, q_gs, q_gk, q_ct, q_cf, q_nt, q_nf, q_xt, q_xf, q_tt, q_ff, q_tf, q_ft, q_at, q_af]
    by_cases h2 : a > c.N
    · rw [decide_eq_true h2, if_pos (.inr h2), class_Charge.J7_eq]; rfl
    · rw [decide_eq_false h2, if_neg (by simp only [Bool.true_eq_false, false_or]; exact h2), class_Charge.J7_eq]
      simp only [q_bs, q_I, q_B, q_P, q_S, q_M, q_c, q_a, q_gz, q_gs, q_gk, q_ct, q_cf, q_nt, q_nf, q_xt, q_xf, q_tt, q_ff, q_tf, q_ft, q_at, q_af]
      by_cases h3 : s < 0
      · rw [condD_pos h3, if_pos (show s < 0 ∨ s > c.N from .inl h3), class_Charge.J15_eq]; rfl
      · rw [condD_neg h3]
        by_cases h4 : s > c.N
        · rw [decide_eq_true h4, if_pos (show s < 0 ∨ s > c.N from .inr h4), class_Charge.J15_eq]; rfl
        · rw [decide_eq_false h4, if_neg (show ¬ (s < 0 ∨ s > c.N) by omega), class_Charge.J15_eq]
          simp only [calc_Up.sp, q_bs, q_I, q_B, q_P, q_S, q_M, q_c, q_a, q_gz, q_gs, q_gk, q_ct, q_cf, q_nt, q_nf, q_xt, q_xf, q_tt, q_ff, q_tf, q_ft, q_at, q_af, mx2_eq]
          rw [upS_in (by omega) (by omega)]
  · have h1' : (logS a).2 = false := by simpa using h1
    rw [h1', if_pos (.inl rfl)]
    simp only [q_bs, q_I, q_B, q_P, q_S, q_M, q_c, q_a, q_gz, q_gs, q_gk, q_ct, q_cf, q_nt, q_nf, q_xt, q_xf, q_tt, q_ff, q_tf, q_ft, q_at, q_af, class_Charge.J7_eq]
theorem class_Product.sp {c : Cf} (h : c.Ok) {n s : Int} (hn : R64 n) (hs : R64 s) : CW class_Product.id [.agg (cfC c), .c (.int .i64 n), .c (.int .i64 s)] G = some ([.c (.int .i64 (productS c.N n s).1), .c (.int .i64 (productS c.N n s).2)], G) := by
  have f := h.facts
  rw [class_Product.cw]
  unfold class_Product.f productS
  by_cases h1 : n < 0
  · rw [condD_pos h1, if_pos (.inl h1), class_Product.J6_eq]; rfl
  · rw [condD_neg h1]
    by_cases h2 : s < 0
    · rw [decide_eq_true h2, if_pos (.inr h2), class_Product.J6_eq]; rfl
    · rw [decide_eq_false h2, if_neg (show ¬ (n < 0 ∨ s < 0) by omega), class_Product.J6_eq]
      simp only [calc_Mul.sp hn hs, q_bs, q_I, q_B, q_P, q_S, q_M, q_c, q_a, q_gz, q_gs, q_gk, q_ct, q_cf, q_nt, q_nf, q_xt, q_xf, q_tt, q_ff, q_tf, q_ft, q_at, q_af]
      have hnn : 0 ≤ n * s := Int.mul_nonneg (by omega) (by omega)
      unfold mulS
      by_cases h3 : R64 (n * s)
      · rw [if_pos h3]
        simp only [q_bs, q_I, q_B, q_P, q_S, q_M, q_c, q_a, q_gz, q_gs, q_gk, q_ct, q_cf, q_nt, q_nf, q_xt, q_xf, q_tt, q_ff, q_tf, q_ft, q_at, q_af, class_Product.J14_eq]
        by_cases h4 : n * s > c.N
        · rw [decide_eq_true h4, if_pos h4]; rfl
        · rw [decide_eq_false h4, if_neg h4]; rfl
      · rw [if_neg h3]
        have h4 : n * s > c.N := by unfold R64 at h3; omega
        rw [if_pos h4]
        simp only [q_bs, q_I, q_B, q_P, q_S, q_M, q_c, q_a, q_gz, q_gs, q_gk, q_ct, q_cf, q_nt, q_nf, q_xt, q_xf, q_tt, q_ff, q_tf, q_ft, q_at, q_af, class_Product.J14_eq]
theorem admit_New.sp {c : Cf} (h : c.Ok) {live s a : Int} (ha : R64 a) (hl : -1000000000 ≤ live ∧ live ≤ 1000000000) : CW admit_New.id [.agg (cfC c), .c (.int .i64 live), .c (.int .i64 s), .c (.int .i64 a)] G = some ([.c (.int .i64 (newS c.G c.N c.M live s a).1), .c (.int .i64 (newS c.G c.N c.M live s a).2)], G) := by
  have f := h.facts
  have b := chargeS_range h s a
  rw [admit_New.cw]
  unfold admit_New.f newS
  simp only [class_Charge.sp h ha, q_bs, q_I, q_B, q_P, q_S, q_M, q_c, q_a, q_gz, q_gs, q_gk, q_ct, q_cf, q_nt, q_nf, q_xt, q_xf, q_tt, q_ff, q_tf, q_ft, q_at, q_af]
  unfold Cf.charge at *
  by_cases h1 : (chargeS c.G c.N s a).2 = 0
  · rw [condN_neg h1, if_pos h1, calc_Add.sp (by unfold R64; omega) (by unfold R64; omega)]
    unfold addS
    rw [if_pos (by unfold R64; omega)]
    simp only [q_bs, q_I, q_B, q_P, q_S, q_M, q_c, q_a, q_gz, q_gs, q_gk, q_ct, q_cf, q_nt, q_nf, q_xt, q_xf, q_tt, q_ff, q_tf, q_ft, q_at, q_af, admit_New.J15_eq]
    by_cases h4 : live + (chargeS c.G c.N s a).1 > c.M
    · rw [if_pos h4, condD_pos h4]
    · rw [if_neg h4, condD_neg h4]
  · rw [condN_pos h1, if_neg h1]
theorem admit_Many.sp {c : Cf} (h : c.Ok) {live n s : Int} (hn : R64 n) (hs : R64 s) (hl : -1000000000 ≤ live ∧ live ≤ 1000000000) : CW admit_Many.id [.agg (cfC c), .c (.int .i64 live), .c (.int .i64 n), .c (.int .i64 s)] G = some ([.c (.int .i64 (manyS c.G c.N c.M live n s).1), .c (.int .i64 (manyS c.G c.N c.M live n s).2)], G) := by
  rw [admit_Many.cw]
  unfold admit_Many.f manyS
  simp only [class_Product.sp h hn hs, q_bs, q_I, q_B, q_P, q_S, q_M, q_c, q_a, q_gz, q_gs, q_gk, q_ct, q_cf, q_nt, q_nf, q_xt, q_xf, q_tt, q_ff, q_tf, q_ft, q_at, q_af]
  by_cases h1 : (productS c.N n s).2 = 0
  · rw [condN_neg h1, if_pos h1, admit_New.sp h (by unfold R64; omega) hl]
    rfl
  · rw [condN_pos h1, if_neg h1]
theorem admit_Anew.sp {c : Cf} (h : c.Ok) {live old s : Int} (hl : -1000000000 ≤ live - old ∧ live - old ≤ 1000000000) : CW admit_Anew.id [.agg (cfC c), .c (.int .i64 live), .c (.int .i64 old), .c (.int .i64 s)] G = some ([.c (.int .i64 (newS c.G c.N c.M (live - old) s 1).1), .c (.int .i64 (newS c.G c.N c.M (live - old) s 1).2)], G) := by
  rw [admit_Anew.cw]
  unfold admit_Anew.f
  rw [i64w, wrap_id (by omega) (by omega), admit_New.sp h (by unfold R64; omega) hl]
  rfl
end Go.Proofs.D.S
/- What is read out of numbers. -/
set_option linter.unusedVariables false
set_option linter.unusedSimpArgs false
namespace Go.Proofs.D.S
open Go Go.RowKit
variable {G G0 : GH} {L : List (Nat × Obj)}
/-- The numbers, and how far they were read. -/
abbrev pk (pid lid lo n : Nat) (i : Int) : Nat × Obj := (pid, .row [.sl 1 lid lo n, .int .i64 i] false)
/-- What there is of the numbers. -/
structure PkOk (G0 : GH) (L : List (Nat × Obj)) (lid lo n : Nat) (xs : List Int) : Prop where
  rd : Rd G0 L eU8 lid lo xs
  by_ : Bytes xs
  len : n = xs.length
  small : n ≤ 1000000000
theorem PkOk.cons {lid lo n : Nat} {xs : List Int} (h : PkOk G0 L lid lo n xs) (x : Nat × Obj) : PkOk G0 (x :: L) lid lo n xs := ⟨h.rd.cons, h.by_, h.len, h.small⟩
theorem PkOk.sub {lid lo n : Nat} {xs : List Int} {L' : List (Nat × Obj)} (h : PkOk G0 L lid lo n xs) (s : L.Sublist L') : PkOk G0 L' lid lo n xs := ⟨h.rd.sub s, h.by_, h.len, h.small⟩
theorem hodmanplay_Made.sp (h : Hp G0 G L) (lid lo n : Nat) : ∃ pid G', CW hodmanplay_Made.id [.c (.sl 1 lid lo n)] G = some ([.c (.ptr pid 0)], G') ∧ Hp G0 G' (pk pid lid lo n 0 :: L) := by
  refine ⟨_, _, ?_, h.alloc _⟩
  rw [hodmanplay_Made.cw]
  rfl
/-- A choice: below m, and one further on, or none left. -/
theorem hodmanplay_Picks_Num.sp {pid lid lo n : Nat} {i : Int} {xs : List Int} (h : Hp G0 G (pk pid lid lo n i :: L)) (p : PkOk G0 L lid lo n xs) (h0 : 0 ≤ i) (h1 : i ≤ n) (m : Int) :
    ∃ v j G', CW hodmanplay_Picks_Num.id [.c (.ptr pid 0), .c (.int .i64 m)] G = some ([.c (.int .i64 v)], G') ∧ Hp G0 G' (pk pid lid lo n j :: L) ∧ 0 ≤ v ∧ v ≤ 255 ∧ (1 ≤ m → v < m) ∧ i ≤ j ∧ j ≤ n ∧ (m < 1 → v = 0) := by
  have hp := h.ne
  have hl := p.len
  have hs := p.small
  have ld := fun off => h.ld (off := off) hp
  rw [hodmanplay_Picks_Num.cw]
  unfold hodmanplay_Picks_Num.f
  simp only [guardN hp, ld, q_bs, q_I, q_B, q_P, q_S, q_M, q_c, q_a, q_gz, q_gs, q_gk, q_ct, q_cf, q_nt, q_nf, q_xt, q_xf, q_tt, q_ff, q_tf, q_ft, q_at, q_af, Nat.zero_add]
  by_cases a1 : i ≥ (n : Int)
  · rw [condD_pos a1, hodmanplay_Picks_Num.J6_eq]
    exact ⟨0, i, G, rfl, h, by omega, by omega, by omega, by omega, by omega, fun _ => rfl⟩
  · rw [condD_neg a1, hodmanplay_Picks_Num.J6_eq]
    by_cases a2 : m < 1
    · rw [condD_pos a2]
      exact ⟨0, i, G, rfl, h, by omega, by omega, by omega, by omega, by omega, fun _ => rfl⟩
    · rw [condD_neg a2]
      obtain ⟨G1, h2, e⟩ := h.sts (off := 1) (new := [.int .i64 (i + 1)]) hp (by simp)
      have h2 : Hp G0 G1 (pk pid lid lo n (i + 1) :: L) := h2
      have ld2 := fun off => h2.ld (off := off) hp
      have rd := p.rd _ h2.tl
      simp only [ld, q_bs, q_I, q_B, q_P, q_S, q_M, q_c, q_a, q_gz, q_gs, q_gk, q_ct, q_cf, q_nt, q_nf, q_xt, q_xf, q_tt, q_ff, q_tf, q_ft, q_at, q_af, Nat.zero_add, guardN hp, i64w, wrap_id (a := i + 1) (by omega) (by omega), e, ld2, show i + 1 - 1 = i by omega, wrap_id (a := i) (by omega) (by omega)]
      rw [guardD_of (by omega)]
      have hit : i.toNat < xs.length := by omega
      have r := rd.ld i.toNat 0 hit (by omega)
      rw [Nat.add_zero] at r
      rw [r]
      have hb := p.by_ _ (List.getElem_mem hit)
      simp only [q_bs, q_I, q_B, q_P, q_S, q_M, q_c, q_a, q_gz, q_gs, q_gk, q_ct, q_cf, q_nt, q_nf, q_xt, q_xf, q_tt, q_ff, q_tf, q_ft, q_at, q_af, i64w, wrap_id (a := xs[i.toNat]) (by omega) (by omega), binD_rem (show m ≠ 0 by omega), Int.tmod_eq_emod_of_nonneg hb.1]
      have h3 := Int.emod_nonneg xs[i.toNat] (b := m) (by omega)
      have h4 := Int.emod_lt_of_pos xs[i.toNat] (b := m) (by omega)
      have h5 : xs[i.toNat] % m ≤ xs[i.toNat] := by
        have h6 := Int.mul_ediv_add_emod xs[i.toNat] m
        have h7 := Int.mul_nonneg (show 0 ≤ m by omega) (Int.ediv_nonneg (a := xs[i.toNat]) (b := m) (by omega) (by omega))
        omega
      exact ⟨_, _, _, rfl, h2, h3, by omega, by omega, by omega, by omega, by omega⟩
theorem hodmanplay_Picks_Raw.sp {pid lid lo n : Nat} {i : Int} {xs : List Int} (h : Hp G0 G (pk pid lid lo n i :: L)) (p : PkOk G0 L lid lo n xs) (h0 : 0 ≤ i) (h1 : i ≤ n) (b : Bool) :
    ∃ (r : Rw) (j : Int) (G' : GH), CW hodmanplay_Picks_Raw.id [.c (.ptr pid 0), .c (.bool b)] G = some ([.agg (rwC r)], G') ∧ Hp G0 G' (pk pid lid lo n j :: L) ∧ RawOk b r.g r.la r.li r.pa r.bu r.se ∧ i ≤ j ∧ j ≤ n := by
  obtain ⟨v1, j1, G1, e1, k1, a1, b1, c1, d1, f1, _⟩ := hodmanplay_Picks_Num.sp h p h0 h1 9
  obtain ⟨v2, j2, G2, e2, k2, a2, b2, c2, d2, f2, _⟩ := hodmanplay_Picks_Num.sp k1 p (by omega) f1 12
  obtain ⟨v3, j3, G3, e3, k3, a3, b3, c3, d3, f3, _⟩ := hodmanplay_Picks_Num.sp k2 p (by omega) f2 150
  obtain ⟨v4, j4, G4, e4, k4, a4, b4, c4, d4, f4, _⟩ := hodmanplay_Picks_Num.sp k3 p (by omega) f3 30
  obtain ⟨v5, j5, G5, e5, k5, a5, b5, c5, d5, f5, _⟩ := hodmanplay_Picks_Num.sp k4 p (by omega) f4 200
  obtain ⟨v6, j6, G6, e6, k6, a6, b6, c6, d6, f6, _⟩ := hodmanplay_Picks_Num.sp k5 p (by omega) f5 20
  have c1 := c1 (by omega)
  have c2 := c2 (by omega)
  have c3 := c3 (by omega)
  have c4 := c4 (by omega)
  have c5 := c5 (by omega)
  have c6 := c6 (by omega)
  have p1 : 1 + v1 ≤ (1 + v1) * (1 + v2) := by
    have := Int.mul_nonneg (show 0 ≤ 1 + v1 by omega) a2
    rw [Int.mul_add]; omega
  have p2 : (1 + v1) * (1 + v2) ≤ 9 * 12 := Int.mul_le_mul (by omega) (by omega) (by omega) (by omega)
  rw [hodmanplay_Picks_Raw.cw]
  unfold hodmanplay_Picks_Raw.f
  simp only [e1, e2, e3, e4, e5, e6, q_bs, q_I, q_B, q_P, q_S, q_M, q_c, q_a, q_gz, q_gs, q_gk, q_ct, q_cf, q_nt, q_nf, q_xt, q_xf, q_tt, q_ff, q_tf, q_ft, q_at, q_af, i64w, wrap_id (a := 1 + v1) (by omega) (by omega), wrap_id (a := 1 + v2) (by omega) (by omega), wrap_id (a := 1 + v3) (by omega) (by omega), wrap_id (a := 1 + v4) (by omega) (by omega), wrap_id (a := 1 + v6) (by omega) (by omega), wrap_id (a := (1 + v1) * (1 + v2)) (by omega) (by omega), hodmanplay_Picks_Raw.J10_eq]
  cases b with
  | true => exact ⟨⟨1 + v1, (1 + v1) * (1 + v2), 1 + v3, 1 + v4, 5000, v5⟩, _, _, rfl, k6, ⟨by dsimp only; omega, ⟨p1, by dsimp only; omega⟩, by dsimp only; omega, by dsimp only; omega, fun _ => rfl, by simp, by dsimp only; omega⟩, by omega, f6⟩
  | false => exact ⟨⟨1 + v1, (1 + v1) * (1 + v2), 1 + v3, 1 + v4, 1 + v6, v5⟩, _, _, rfl, k6, ⟨by dsimp only; omega, ⟨p1, by dsimp only; omega⟩, by dsimp only; omega, by dsimp only; omega, by simp, fun _ => by dsimp only; omega, by dsimp only; omega⟩, by omega, f6⟩
theorem hodmanplay_Picks_Conf.sp {pid lid lo n : Nat} {i : Int} {xs : List Int} (h : Hp G0 G (pk pid lid lo n i :: L)) (p : PkOk G0 L lid lo n xs) (h0 : 0 ≤ i) (h1 : i ≤ n) (b : Bool) :
    ∃ (r : Rw) (j : Int) (G' : GH), CW hodmanplay_Picks_Conf.id [.c (.ptr pid 0), .c (.bool b)] G = some ([.agg (cfC (cfOf r)), .agg (rwC r)], G') ∧ Hp G0 G' (pk pid lid lo n j :: L) ∧ RawOk b r.g r.la r.li r.pa r.bu r.se ∧ i ≤ j ∧ j ≤ n := by
  obtain ⟨r, j, G1, e1, k1, ok, a1, b1⟩ := hodmanplay_Picks_Raw.sp h p h0 h1 b
  obtain ⟨G2, e2, k2⟩ := hodmanref1_Of.sp r k1.wf
  rw [ok.ofC] at e2
  refine ⟨r, j, G2, ?_, k1.trans0 k2, ok, a1, b1⟩
  rw [hodmanplay_Picks_Conf.cw]
  unfold hodmanplay_Picks_Conf.f
  simp only [e1, q_bs, q_I, q_B, q_P, q_S, q_M, q_c, q_a, q_gz, q_gs, q_gk, q_ct, q_cf, q_nt, q_nf, q_xt, q_xf, q_tt, q_ff, q_tf, q_ft, q_at, q_af, List.length_cons, List.length_nil, if_true, e2]
/-- The configuration that a law reads out of its numbers. -/
theorem conf_of (h : Hp G0 G L) {lid lo n : Nat} {xs : List Int} (p : PkOk G0 L lid lo n xs) (b : Bool) :
    ∃ (pid : Nat) (G1 : GH), CW hodmanplay_Made.id [.c (.sl 1 lid lo n)] G = some ([.c (.ptr pid 0)], G1) ∧ Hp G0 G1 (pk pid lid lo n 0 :: L) := hodmanplay_Made.sp h lid lo n
end Go.Proofs.D.S
/- The laws' own trials. -/
set_option linter.unusedVariables false
namespace Go.Proofs.D.S
open Go Go.RowKit
variable {G : GH}
theorem hodmanlaw16_begun.sp (hG : Beg G) : ∃ G', CW hodmanlaw16_begun.id [] G = some ([.c (.bool true)], G') ∧ From G G' :=
  beg_run 90 (by intro a b c; kernel_rfl) hG
end Go.Proofs.D.S
/- AdmitSums: whatever the numbers, the law answers yes. -/
set_option linter.unusedVariables false
set_option linter.unusedSimpArgs false
namespace Go.Proofs.D.S
open Go Go.RowKit
theorem hodmanlaw16_AdmitSums.law {G : GH} (hG : Beg G) {id : Nat} {xs : List Int} (hs : Sl G eU8 id 0 xs) (hb : Bytes xs) {v : Int} {o : Int} {s : Int} {a : Int} {n : Int} (hv : 0 ≤ v ∧ v ≤ 65535) (ho : 0 ≤ o ∧ o ≤ 65535) (hs_ : 0 ≤ s ∧ s ≤ 255) (ha : 0 ≤ a ∧ a ≤ 255) (hn : 0 ≤ n ∧ n ≤ 255) : OkT (CW hodmanlaw16_AdmitSums.id [.c (.sl 1 id 0 xs.length), .c (.int .u16 v), .c (.int .u16 o), .c (.int .u8 s), .c (.int .u8 a), .c (.int .u8 n)] G) := by
  obtain ⟨G1, e1, f1⟩ := hodmanlaw16_begun.sp hG
  rw [hodmanlaw16_AdmitSums.cw]
  unfold hodmanlaw16_AdmitSums.f
  simp only [e1, q_bs, q_I, q_B, q_P, q_S, q_M, q_c, q_a, q_gz, q_gs, q_gk, q_ct, q_cf, q_nt, q_nf, q_xt, q_xf, q_tt, q_ff, q_tf, q_ft, q_at, q_af]
  by_cases h6 : (xs.length : Int) > 6
  · rw [condD_pos h6]; exact ⟨_, rfl⟩
  rw [condD_neg h6]
  have h0 := Hp.refl f1.wf
  have p0 : PkOk G1 [] id 0 xs.length xs := ⟨.old (f1.sl _ _ _ _ hs), hb, rfl, by omega⟩
  obtain ⟨pid, G2, e2, h2⟩ := hodmanplay_Made.sp h0 id 0 xs.length
  obtain ⟨r, j, G3, e3, h3, rok, _, _⟩ := hodmanplay_Picks_Conf.sp h2 p0 (by omega) (by omega) false
  simp only [e2, e3, q_bs, q_I, q_B, q_P, q_S, q_M, q_c, q_a, q_gz, q_gs, q_gk, q_ct, q_cf, q_nt, q_nf, q_xt, q_xf, q_tt, q_ff, q_tf, q_ft, q_at, q_af, List.length_cons, List.length_nil, if_true]
  obtain ⟨g, c, p, sm⟩ := rok.cfSmall
  have hw := h3.wf
  clear e1 e2 e3
  generalize cfOf r = C at *
  have ok := sm.ok
  have fs := ok.facts
  have ss := sm.s
  have ex : C.Ex g c := ⟨sm.hG, sm.hN, sm.hL, by have := ss.hl; omega⟩
  rw [condD_neg (show ¬ C.G = 0 by omega)]
  have hN := sm.hN
  have hG := sm.hG
  have zg := Nat.two_pow_pos g
  obtain ⟨e, he⟩ : ∃ e : Nat, Int.tmod a 6 = (e : Int) := ⟨(Int.tmod a 6).toNat, by rw [Int.tmod_eq_emod_of_nonneg (by omega)]; omega⟩
  have he6 : e < 6 := by rw [Int.tmod_eq_emod_of_nonneg (by omega)] at he; omega
  have ze := Nat.two_pow_pos e
  have ye := pow16 (e := e) (by omega)
  have em : Int.tmod n 5 = n % 5 := Int.tmod_eq_emod_of_nonneg (by omega)
  simp only [i64w, he, em, shl_one e (by omega), wrap_id (a := n % 5) (by omega) (by omega), wrap_id (a := v) (by omega) (by omega), wrap_id (a := o) (by omega) (by omega), wrap_id (a := s) (by omega) (by omega), wrap_id (a := C.M + 1) (by omega) (by omega), wrap_id (a := C.N + 2) (by omega) (by omega), binD_rem (show C.M + 1 ≠ 0 by omega), binD_rem (show C.N + 2 ≠ 0 by omega), Int.tmod_eq_emod_of_nonneg (show 0 ≤ v by omega), Int.tmod_eq_emod_of_nonneg (show 0 ≤ s by omega), q_bs, q_I, q_B, q_P, q_S, q_M, q_c, q_a, q_gz, q_gs, q_gk, q_ct, q_cf, q_nt, q_nf, q_xt, q_xf, q_tt, q_ff, q_tf, q_ft, q_at, q_af]
  have n0 := Int.emod_nonneg v (b := C.M + 1) (by omega)
  have n1 := Int.emod_lt_of_pos v (b := C.M + 1) (by omega)
  have s0 := Int.emod_nonneg s (b := C.N + 2) (by omega)
  have s1 := Int.emod_lt_of_pos s (b := C.N + 2) (by omega)
  generalize v % (C.M + 1) = lv at *
  generalize s % (C.N + 2) = sz at *
  simp only [wrap_id (a := lv + 1) (by omega) (by omega), binD_rem (show lv + 1 ≠ 0 by omega), Int.tmod_eq_emod_of_nonneg (show 0 ≤ o by omega), q_bs, q_I, q_B, q_P, q_S, q_M, q_c, q_a, q_gz, q_gs, q_gk, q_ct, q_cf, q_nt, q_nf, q_xt, q_xf, q_tt, q_ff, q_tf, q_ft, q_at, q_af]
  have m0 := Int.emod_nonneg o (b := lv + 1) (by omega)
  have m1 := Int.emod_lt_of_pos o (b := lv + 1) (by omega)
  generalize o % (lv + 1) = od at *
  generalize hn5 : n % 5 = n5 at *
  have n50 : 0 ≤ n5 ∧ n5 ≤ 4 := by omega
  have b0 : 0 ≤ n5 * sz := Int.mul_nonneg n50.1 s0
  have b1 : n5 * sz ≤ 4 * 100000 := Int.mul_le_mul n50.2 (by omega) s0 (by omega)
  have t : ∀ G', OkT (hodmanlaw16_AdmitSums.J33 machW CW lv (lv - od) sz n5 false C.G C.N C.M C.L C.Pg C.P C.H C.Sd G') := by
    intro G'
    have l1 : (logS 1).2 = true := by decide
    have mn : manyS C.G C.N C.M lv n5 sz = newS C.G C.N C.M lv (n5 * sz) 1 := by
      unfold manyS
      by_cases h : n5 * sz > C.N
      · have e1 : productS C.N n5 sz = (0, 4) := by unfold productS; rw [if_neg (show ¬ (n5 < 0 ∨ sz < 0) by omega), if_pos h]
        have e2 : chargeS C.G C.N (n5 * sz) 1 = (0, 4) := by
          unfold chargeS
          rw [if_neg (show ¬ ((logS 1).2 = false ∨ (1 : Int) > C.N) by rw [l1]; simp; omega), if_pos (.inr h)]
        unfold newS
        rw [e1, e2]; rfl
      · have e1 : productS C.N n5 sz = (n5 * sz, 0) := by unfold productS; rw [if_neg (show ¬ (n5 < 0 ∨ sz < 0) by omega), if_neg h]
        rw [e1]; rfl
    rw [hodmanlaw16_AdmitSums.J33_eq]
    simp only [q_bs, q_I, q_B, q_P, q_S, q_M, q_c, q_a, q_gz, q_gs, q_gk, q_ct, q_cf, q_nt, q_nf, q_xt, q_xf, q_tt, q_ff, q_tf, q_ft, q_at, q_af, i64w, wrap_id (a := n5 * sz) (by omega) (by omega), show lv - (lv - od) = od by omega, wrap_id (a := od) (by omega) (by omega)]
    rw [admit_Many.sp ok (by unfold R64; omega) (by unfold R64; omega) (by omega)]
    simp only [q_bs, q_I, q_B, q_P, q_S, q_M, q_c, q_a, q_gz, q_gs, q_gk, q_ct, q_cf, q_nt, q_nf, q_xt, q_xf, q_tt, q_ff, q_tf, q_ft, q_at, q_af]
    rw [admit_New.sp ok (by unfold R64; omega) (by omega)]
    simp only [q_bs, q_I, q_B, q_P, q_S, q_M, q_c, q_a, q_gz, q_gs, q_gk, q_ct, q_cf, q_nt, q_nf, q_xt, q_xf, q_tt, q_ff, q_tf, q_ft, q_at, q_af]
    rw [admit_Anew.sp ok (by omega)]
    simp only [q_bs, q_I, q_B, q_P, q_S, q_M, q_c, q_a, q_gz, q_gs, q_gk, q_ct, q_cf, q_nt, q_nf, q_xt, q_xf, q_tt, q_ff, q_tf, q_ft, q_at, q_af]
    rw [admit_New.sp ok (by unfold R64; omega) (by omega)]
    simp only [q_bs, q_I, q_B, q_P, q_S, q_M, q_c, q_a, q_gz, q_gs, q_gk, q_ct, q_cf, q_nt, q_nf, q_xt, q_xf, q_tt, q_ff, q_tf, q_ft, q_at, q_af, mn, decide_true]
    exact ⟨_, rfl⟩
  simp only [wrap_id (a := lv - od) (by omega) (by omega)]
  rw [admit_New.sp ok (by unfold R64; omega) (by omega)]
  simp only [q_bs, q_I, q_B, q_P, q_S, q_M, q_c, q_a, q_gz, q_gs, q_gk, q_ct, q_cf, q_nt, q_nf, q_xt, q_xf, q_tt, q_ff, q_tf, q_ft, q_at, q_af]
  rw [admit_New.sp ok (by unfold R64; omega) (by omega)]
  simp only [q_bs, q_I, q_B, q_P, q_S, q_M, q_c, q_a, q_gz, q_gs, q_gk, q_ct, q_cf, q_nt, q_nf, q_xt, q_xf, q_tt, q_ff, q_tf, q_ft, q_at, q_af, q_cd, q_cn]
  have ch := chargeS_range ok sz ((2 ^ e : Nat) : Int)
  unfold Cf.charge at ch
  by_cases h1 : (chargeS C.G C.N sz ((2 ^ e : Nat) : Int)).2 = 0
  · obtain ⟨x, hx1, hx2, hx3, _⟩ := chargeS_ok (g := g) (n := g + c) (s := sz) (a := ((2 ^ e : Nat) : Int)) (by rw [← hG, ← hN]; exact h1) (by omega)
    rw [← hG, ← hN] at hx3
    have zx := Nat.two_pow_pos x
    have yx := pow16 (e := x) (by have := ss.hl; omega)
    by_cases h2 : lv + ((2 ^ x : Nat) : Int) > C.M
    · have e1 : newS C.G C.N C.M lv sz ((2 ^ e : Nat) : Int) = (0, 5) := by
        unfold newS; rw [if_pos h1, hx3, if_pos h2]
      by_cases h3 : lv - od + ((2 ^ x : Nat) : Int) > C.M
      · have e2 : newS C.G C.N C.M (lv - od) sz ((2 ^ e : Nat) : Int) = (0, 5) := by
          unfold newS; rw [if_pos h1, hx3, if_pos h3]
        simp only [e1, e2, if_true, if_neg (show ¬ (5 : Int) = 0 by omega)]
        exact t _
      · have e2 : newS C.G C.N C.M (lv - od) sz ((2 ^ e : Nat) : Int) = (((2 ^ x : Nat) : Int), 0) := by
          unfold newS; rw [if_pos h1, hx3, if_neg h3]
        simp only [e1, e2, wrap_id (a := lv + ((2 ^ x : Nat) : Int)) (by omega) (by omega), if_true, if_neg (show ¬ (5 : Int) = 0 by omega), decide_eq_false (show ¬ lv + ((2 ^ x : Nat) : Int) ≤ C.M by omega)]
        exact t _
    · have e1 : newS C.G C.N C.M lv sz ((2 ^ e : Nat) : Int) = (((2 ^ x : Nat) : Int), 0) := by
        unfold newS; rw [if_pos h1, hx3, if_neg h2]
      have e2 : newS C.G C.N C.M (lv - od) sz ((2 ^ e : Nat) : Int) = (((2 ^ x : Nat) : Int), 0) := by
        unfold newS; rw [if_pos h1, hx3, if_neg (by omega)]
      simp only [e1, e2, wrap_id (a := lv + ((2 ^ x : Nat) : Int)) (by omega) (by omega), if_true, if_neg (show ¬ ((2 ^ x : Nat) : Int) < 1 by omega), if_neg (show ¬ lv + ((2 ^ x : Nat) : Int) > C.M by omega), if_neg (show ¬ (0 : Int) = 5 by omega)]
      exact t _
  · have e1 : newS C.G C.N C.M lv sz ((2 ^ e : Nat) : Int) = (0, (chargeS C.G C.N sz ((2 ^ e : Nat) : Int)).2) := by
      unfold newS; rw [if_neg h1]
    have e2 : newS C.G C.N C.M (lv - od) sz ((2 ^ e : Nat) : Int) = (0, (chargeS C.G C.N sz ((2 ^ e : Nat) : Int)).2) := by
      unfold newS; rw [if_neg h1]
    simp only [e1, e2, if_true, if_neg h1]
    by_cases h5 : (chargeS C.G C.N sz ((2 ^ e : Nat) : Int)).2 = 5
    · simp only [if_pos h5]; exact t _
    · simp only [if_neg h5]; exact t _
end Go.Proofs.D.S
