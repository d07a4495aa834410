/- Texts of the proof (OKT, SpCalc, SpConf, SpClass, SpPicks, BegC, DPure, DCeil, DTight, SpCeil, SpLow, DRob, DHp2, DPair, LawCeilHolds); no condition. -/
import Derived.Test.YtbgnjpbcdkegoaaFb
import Derived.Test.YtbgnjpbcdkegoaaCeilHoldse
import Derived.Test.YtbgnjpbcdkegoaaCeilHoldsf
import Derived.Test.YtbgnjpbcdkegoaaCeilHoldsd
import Derived.Deep.Slices
import Derived.OpenShut
set_option linter.unusedSimpArgs false
set_option linter.unusedVariables false
/- All functions pass the check. -/
set_option maxRecDepth 100000
namespace Go.Proofs.D
open Go
theorem tab_ok : ∀ x ∈ tab, okF Try.prog x.1 x.2.1 x.2.2 = true := by
  unfold tab
  exact List.forall_mem_cons.2 ⟨conf_Ceil.ok, List.forall_mem_cons.2 ⟨hodmanref1_Up.ok, List.forall_mem_cons.2 ⟨hodmanref1_Add.ok, List.forall_mem_cons.2 ⟨hodmanref1_Round.ok, List.forall_mem_cons.2 ⟨hodmanref1_Log.ok, List.forall_mem_cons.2 ⟨hodmanref1_Of.ok, List.forall_mem_cons.2 ⟨hodmanplay_Made.ok, List.forall_mem_cons.2 ⟨hodmanplay_Picks_Num.ok, List.forall_mem_cons.2 ⟨hodmanplay_Picks_Raw.ok, List.forall_mem_cons.2 ⟨hodmanplay_Picks_Conf.ok, List.forall_mem_cons.2 ⟨hodmanref1_Size.ok, List.forall_mem_cons.2 ⟨hodmanref8_Over.ok, List.forall_mem_cons.2 ⟨hodmanref17_Lowest.ok, List.forall_mem_cons.2 ⟨hodmanref1_Ceil.ok, List.forall_mem_cons.2 ⟨ceil_of.ok, List.forall_mem_cons.2 ⟨ceil_Least.ok, List.forall_mem_cons.2 ⟨calc_Log.ok, List.forall_mem_cons.2 ⟨conf_Shift.ok, List.forall_mem_cons.2 ⟨ceil_Within.ok, List.forall_mem_cons.2 ⟨hodmanlaw20_begun.ok, List.forall_mem_cons.2 ⟨hodmanlaw20_CeilHolds.ok, List.forall_mem_nil _⟩⟩⟩⟩⟩⟩⟩⟩⟩⟩⟩⟩⟩⟩⟩⟩⟩⟩⟩⟩⟩
theorem T_ok : ∀ f p d, T f = some (p, d) → okF Try.prog f p d = true := by
  intro f p d h
  unfold T at h
  obtain ⟨x, hx, e⟩ := Option.map_eq_some_iff.1 h
  have h1 := List.mem_of_find?_eq_some hx
  have h2 := List.find?_some hx
  have h3 : x.1 = f := by simpa using h2
  have := tab_ok x h1
  rw [h3, e] at this
  exact this
theorem mixed : Try.prog.follows .mixedOrders = true := by kernel_rfl
end Go.Proofs.D
/- What the functions of calc and of the first reference come to. -/
set_option linter.unusedVariables false
set_option linter.unusedSimpArgs false
namespace Go.Proofs.D.S
open Go Go.RowKit
variable {G : GH}
theorem band_eq (x y : Int) : Go.bits .and .i64 x y = IntKind.i64.wrap (((BitVec.ofInt IntKind.i64.bits x) &&& (BitVec.ofInt IntKind.i64.bits y)).toNat : Int) := rfl
theorem bxor_eq (x y : Int) : Go.bits .xor .i64 x y = IntKind.i64.wrap (((BitVec.ofInt IntKind.i64.bits x) ^^^ (BitVec.ofInt IntKind.i64.bits y)).toNat : Int) := rfl
theorem calc_Log.lp (e : Nat) : ∀ (n : Int), 0 ≤ n → n + e ≤ 100 →
    calc_Log.L18 machW CW ((2 ^ e : Nat) : Int) n G = some ([.c (.int .i64 (n + e)), .c (.bool true)], G) := by
  induction e with
  | zero => intro n h0 h1; rw [calc_Log.L18_eq, condD_neg (by decide)]; simp
  | succ e ih =>
    intro n h0 h1
    have h3 : 0 < 2 ^ e := Nat.two_pow_pos e
    have e1 : Int.fdiv ((2 ^ (e + 1) : Nat) : Int) (2 ^ (min (1 : Int).toNat IntKind.i64.bits)) = ((2 ^ e : Nat) : Int) := by
      have : (2 : Int) ^ (min (1 : Int).toNat IntKind.i64.bits) = 2 := by decide
      rw [this, Int.fdiv_eq_ediv_of_nonneg _ (by omega), Nat.pow_succ]; omega
    rw [calc_Log.L18_eq, condD_pos (by rw [Nat.pow_succ]; omega), e1, i64w, wrap_id (by omega) (by omega), ih (n + 1) (by omega) (by omega)]
    simp; omega
theorem calc_Log.sp {v : Int} (hv : R64 v) : CW calc_Log.id [.c (.int .i64 v)] G = some ([.c (.int .i64 (logS v).1), .c (.bool (logS v).2)], G) := by
  rw [calc_Log.cw]
  unfold calc_Log.f logS
  by_cases h1 : v < 1
  · rw [condD_pos h1, if_neg (by omega), calc_Log.J6_eq]; rfl
  · rw [condD_neg h1]
    unfold R64 at hv
    have hp := and_pow v (by omega) (by omega)
    rw [isPow_iff] at hp
    rw [band_eq, ← i64w (v - 1)] at hp
    have hl := log2_lt63 (v := v) (by omega) (by omega)
    by_cases h2 : v.toNat = 2 ^ Nat.log2 v.toNat
    · have h3 : v = ((2 ^ Nat.log2 v.toNat : Nat) : Int) := by omega
      rw [if_pos ⟨by omega, h3⟩, decide_eq_true (hp.2 h2), calc_Log.J6_eq]
      have h5 := calc_Log.lp (G := G) (Nat.log2 v.toNat) 0 (by omega) (by omega)
      rw [← h3] at h5
      simpa using h5
    · rw [if_neg (by rintro ⟨_, h⟩; exact h2 (by omega)), decide_eq_false (fun c => h2 (hp.1 c)), calc_Log.J6_eq]; rfl
theorem hodmanref1_Add.sp {a b : Int} (ha : R64 a) (hb : R64 b) : CW hodmanref1_Add.id [.c (.int .i64 a), .c (.int .i64 b)] G = some ([.c (.int .i64 (addS a b).1), .c (.bool (addS a b).2)], G) := by
  rw [hodmanref1_Add.cw]
  unfold hodmanref1_Add.f addS
  unfold R64 at ha hb
  by_cases h : R64 (a + b)
  · rw [if_pos h]
    have h' := h
    unfold R64 at h
    simp only [i64w, wrap_in h', hodmanref1_Add.J6_eq, Bool.cond_decide, q_bs, q_I, q_B, q_P, q_S, q_M, q_c, q_a, q_gz, q_gs, q_gk, q_ct, q_cf, q_nt, q_nf, q_xt, q_xf, q_tt, q_ff, q_tf, q_ft, q_at, q_af]
    by_cases b0 : b > 0
    · rw [if_pos b0, if_neg (by unfold wrap64; omega), if_neg (by omega)]
    · rw [if_neg b0]
      by_cases b1 : b < 0
      · rw [if_pos b1, if_neg (by unfold wrap64; omega)]
      · rw [if_neg b1]
  · rw [if_neg h]
    unfold R64 at h
    simp only [i64w, hodmanref1_Add.J6_eq, Bool.cond_decide, q_bs, q_I, q_B, q_P, q_S, q_M, q_c, q_a, q_gz, q_gs, q_gk, q_ct, q_cf, q_nt, q_nf, q_xt, q_xf, q_tt, q_ff, q_tf, q_ft, q_at, q_af]
    by_cases b0 : b > 0
    · rw [if_pos b0, if_pos (by unfold wrap64; omega)]
    · rw [if_neg b0]
      by_cases b1 : b < 0
      · rw [if_pos b1, if_pos (by unfold wrap64; omega)]
      · omega
theorem hodmanref1_Round.sp {v d : Int} (hv : R64 v) (ht : R64 d) : CW hodmanref1_Round.id [.c (.int .i64 v), .c (.int .i64 d)] G = some ([.c (.int .i64 (roundS v d).1), .c (.bool (roundS v d).2)], G) := by
  rw [hodmanref1_Round.cw]
  unfold hodmanref1_Round.f roundS
  unfold R64 at hv ht
  by_cases h1 : v < 0
  · rw [condD_pos h1, if_pos h1, hodmanref1_Round.J6_eq]; rfl
  · rw [condD_neg h1, if_neg h1]
    by_cases h2 : d < 1
    · rw [if_pos h2, decide_eq_true h2, hodmanref1_Round.J6_eq]; rfl
    · rw [if_neg h2, decide_eq_false h2, hodmanref1_Round.J6_eq]
      have e1 : Int.tmod v d = v % d := Int.tmod_eq_emod_of_nonneg (by omega)
      have h3 := Int.emod_nonneg v (b := d) (by omega)
      have h4 := Int.emod_lt_of_pos v (b := d) (by omega)
      have h6 : v % d ≤ v := by
        have := Int.mul_ediv_add_emod v d
        have h7 := Int.ediv_nonneg (a := v) (b := d) (by omega) (by omega)
        have h8 := Int.mul_nonneg (show 0 ≤ d by omega) h7
        omega
      simp only [binD_rem (show d ≠ 0 by omega), e1, q_bs, q_I, q_B, q_P, q_S, q_M, q_c, q_a, q_gz, q_gs, q_gk, q_ct, q_cf, q_nt, q_nf, q_xt, q_xf, q_tt, q_ff, q_tf, q_ft, q_at, q_af]
      by_cases h5 : v % d = 0
      · rw [if_pos h5, condD_pos h5]
      · rw [if_neg h5, condD_neg h5]
        rw [i64w, wrap_id (by omega) (by omega), hodmanref1_Add.sp (by unfold R64; omega) (by unfold R64; omega)]
        simp only [q_bs, q_I, q_B, q_P, q_S, q_M, q_c, q_a, q_gz, q_gs, q_gk, q_ct, q_cf, q_nt, q_nf, q_xt, q_xf, q_tt, q_ff, q_tf, q_ft, q_at, q_af, addS, show v - v % d + d = v + (d - v % d) by omega]
theorem hodmanref1_Up.lp (v : Int) (h1 : 1 ≤ v) (h2 : v ≤ 4611686018427387904) (d : Nat) : ∀ (e : Nat), e + d = clog v.toNat →
    hodmanref1_Up.L17 machW CW v ((2 ^ e : Nat) : Int) G = some ([.c (.int .i64 ((2 ^ clog v.toNat : Nat) : Int)), .c (.bool true)], G) := by
  have hc : clog v.toNat ≤ 62 := clog_le (by simp; omega)
  induction d with
  | zero =>
    intro e he
    obtain rfl : e = clog v.toNat := by omega
    have := le_clog v.toNat
    rw [hodmanref1_Up.L17_eq, condD_neg (by omega)]
  | succ d ih =>
    intro e he
    have h3 := lt_clog (n := v.toNat) (e := e) (by omega)
    have h5 := pow62 (e := e + 1) (by omega)
    have e1 : IntKind.i64.wrap (((2 ^ e : Nat) : Int) * 2) = ((2 ^ (e + 1) : Nat) : Int) := by
      rw [i64w, wrap_id] <;> rw [Nat.pow_succ] at * <;> omega
    rw [hodmanref1_Up.L17_eq, condD_pos (by omega), e1]
    exact ih (e + 1) (by omega)
theorem hodmanref1_Up.sp (v : Int) : CW hodmanref1_Up.id [.c (.int .i64 v)] G = some ([.c (.int .i64 (upS v).1), .c (.bool (upS v).2)], G) := by
  rw [hodmanref1_Up.cw]
  unfold hodmanref1_Up.f upS
  by_cases h1 : v < 1
  · rw [if_pos h1, condD_pos h1, hodmanref1_Up.J6_eq]; rfl
  · rw [if_neg h1, condD_neg h1]
    by_cases h2 : v > 4611686018427387904
    · rw [if_pos h2, decide_eq_true h2, hodmanref1_Up.J6_eq]; rfl
    · rw [if_neg h2, decide_eq_false h2, hodmanref1_Up.J6_eq]
      exact hodmanref1_Up.lp v (by omega) (by omega) (clog v.toNat) 0 (by omega)
end Go.Proofs.D.S
/- What the functions of conf, class, admit and of the first reference come to, and what is read out of numbers. -/
set_option linter.unusedVariables false
set_option linter.unusedSimpArgs false
namespace Go.Proofs.D.S
open Go Go.RowKit
variable {G G0 : GH}
theorem Hp.ne {id : Nat} {c : Cell} {cs : List Cell} {L : List (Nat × Obj)} (h : Hp G0 G ((id, .row (c :: cs) false) :: L)) : id ≠ 0 := by
  rcases h.ok _ (List.mem_cons_self ..) with ⟨_, b⟩ | ⟨_, b, _⟩
  · simp at b
  · dsimp only at b; omega
theorem nbeq {n : Nat} (h : n ≠ 0) : (!Nat.beq n 0) = true := by
  cases n with
  | zero => exact absurd rfl h
  | succ n => rfl
theorem guardN {R : Type} {n : Nat} (h : n ≠ 0) (K : Option R) : guardK (!Nat.beq n 0) K = K := guardK_of (nbeq h) K
theorem hodmanref1_Log.lp {v : Int} (hv : R64 v) (d : Nat) : ∀ (n : Nat), n + d = 63 → (∀ m, m < n → v ≠ ((2 ^ m : Nat) : Int)) → n ≤ 62 →
    hodmanref1_Log.L25 machW CW v ((2 ^ n : Nat) : Int) (n : Int) G = some ([.c (.int .i64 (logS v).1), .c (.bool (logS v).2)], G) := by
  induction d with
  | zero => intro n hn _ h; omega
  | succ d ih =>
    intro n hn hm h62
    have hpos := Nat.two_pow_pos n
    have h4 := pow62 (e := n) (by omega)
    rw [hodmanref1_Log.L25_eq, condD_pos (by omega)]
    by_cases h1 : ((2 ^ n : Nat) : Int) = v
    · rw [condD_pos h1]
      have h2 : v.toNat = 2 ^ n := by omega
      unfold logS
      rw [h2, Nat.log2_two_pow, if_pos ⟨by omega, h1.symm⟩]
    · rw [condD_neg h1]
      by_cases h2 : (n : Int) < 62
      · rw [condD_pos h2]
        have h5 := pow62 (e := n + 1) (by omega)
        have e1 : IntKind.i64.wrap (((2 ^ n : Nat) : Int) * 2) = ((2 ^ (n + 1) : Nat) : Int) := by
          rw [Nat.pow_succ] at h5 ⊢; rw [i64w, wrap_id] <;> omega
        have e2 : IntKind.i64.wrap ((n : Int) + 1) = ((n + 1 : Nat) : Int) := by rw [i64w, wrap_id] <;> omega
        rw [e1, hodmanref1_Log.J22_eq, e2]
        refine ih (n + 1) (by omega) ?_ (by omega)
        intro m hmn
        by_cases hme : m = n
        · subst hme; exact fun c => h1 c.symm
        · exact hm m (by omega)
      · rw [condD_neg h2]
        have e2 : IntKind.i64.wrap ((n : Int) + 1) = 63 := by rw [i64w, wrap_id] <;> omega
        rw [hodmanref1_Log.J22_eq, e2, hodmanref1_Log.L25_eq, condD_neg (by omega)]
        unfold logS
        rw [if_neg]
        rintro ⟨h3, h5⟩
        unfold R64 at hv
        have h6 := log2_lt63 (v := v) h3 (by omega)
        by_cases h7 : Nat.log2 v.toNat = n
        · rw [h7] at h5; exact h1 h5.symm
        · exact hm _ (by omega) h5
theorem hodmanref1_Log.sp {v : Int} (hv : R64 v) : CW hodmanref1_Log.id [.c (.int .i64 v)] G = some ([.c (.int .i64 (logS v).1), .c (.bool (logS v).2)], G) := by
  rw [hodmanref1_Log.cw]
  exact hodmanref1_Log.lp hv 63 0 (by omega) (fun m h => by omega) (by omega)
/-- The sizes that Of comes to, one by one. -/
theorem of_steps {r : Rw} (hin : r.In) :
    upS r.g = (((2 ^ eG r.g : Nat) : Int), true) ∧ upS (mx2 r.la ((2 ^ eG r.g : Nat) : Int)) = (((2 ^ eN r.g r.la : Nat) : Int), true) ∧ upS (mx2 r.pa ((2 ^ eG r.g : Nat) : Int)) = (((2 ^ ePg r.g r.pa : Nat) : Int), true) ∧
    (mx2 ((2 ^ eN r.g r.la : Nat) : Int) ((2 ^ ePg r.g r.pa : Nat) : Int)) * 2 = wS r.g r.la r.pa ∧ R64 (wS r.g r.la r.pa) ∧ R64 r.li ∧ roundS r.li (wS r.g r.la r.pa) = (mS r.g r.la r.li r.pa, true) ∧ ((2 ^ eG r.g : Nat) : Int) ≠ 0 ∧
    wrap64 (Int.tdiv ((2 ^ eN r.g r.la : Nat) : Int) ((2 ^ eG r.g : Nat) : Int)) = ((2 ^ (eN r.g r.la - eG r.g) : Nat) : Int) ∧ R64 ((2 ^ (eN r.g r.la - eG r.g) : Nat) : Int) ∧
    0 ≤ mS r.g r.la r.li r.pa ∧ R64 (mS r.g r.la r.li r.pa / 2) ∧ wrap64 (((eN r.g r.la - eG r.g : Nat) : Int) * (mS r.g r.la r.li r.pa / 2)) = lS r.g r.la * (mS r.g r.la r.li r.pa / 2) ∧ wrap64 (mS r.g r.la r.li r.pa + lS r.g r.la * (mS r.g r.la r.li r.pa / 2)) = hS r.g r.la r.li r.pa := by
  obtain ⟨g, la, li, pa, bu, se⟩ := r
  obtain ⟨⟨g1, g2⟩, ⟨l1, l2⟩, ⟨i1, i2⟩, ⟨p1, p2⟩, hb, hs⟩ := hin
  dsimp only at *
  have b0 := eG_le g2
  have b1 := eN_le g2 l2
  have b2 := ePg_le g2 p2
  have q0 := pow16 b0
  have q1 := pow16 b1
  have q2 := pow16 b2
  have z0 := Nat.two_pow_pos (eG g)
  have z1 := Nat.two_pow_pos (eN g la)
  have z2 := Nat.two_pow_pos (ePg g pa)
  have mxi : ∀ a b : Int, mx2 a b = if a < b then b else a := fun a b => by rw [mx2_eq, max_if]
  have eN' : clog (mx2 la ((2 ^ eG g : Nat) : Int)).toNat = eN g la := clog_toMax la (eG g) _ (mxi _ _)
  have eP' : clog (mx2 pa ((2 ^ eG g : Nat) : Int)).toNat = ePg g pa := clog_toMax pa (eG g) _ (mxi _ _)
  have mb : ∀ a : Int, 1 ≤ a → a ≤ 65536 → 1 ≤ mx2 a ((2 ^ eG g : Nat) : Int) ∧ mx2 a ((2 ^ eG g : Nat) : Int) ≤ 65536 := by
    intro a h1 h2
    rw [mx2_eq]; omega
  have m1 := mb la l1 l2
  have m2 := mb pa p1 p2
  obtain ⟨a1, a2, a3, a4, a5⟩ := mS_facts (g := g) (la := la) (pa := pa) i1 i2 g2 l2 p2
  obtain ⟨r1, r2, r3, r4⟩ := hS_range (g := g) (la := la) (pa := pa) i1 i2 g2 l2 p2
  have hge : eG g ≤ eN g la := by unfold eN; omega
  have h5 := pow16 (e := eN g la - eG g) (by omega)
  have h4 := Nat.two_pow_pos (eN g la - eG g)
  refine ⟨upS_in g1 (by omega), by rw [upS_in m1.1 (Int.le_trans m1.2 (by decide)), eN'], by rw [upS_in m2.1 (Int.le_trans m2.2 (by decide)), eP'], ?_, by unfold R64; omega, by unfold R64; omega, round_mS i1 i2 g2 l2 p2, by omega, ?_, by unfold R64; omega, by omega, by unfold R64; omega, ?_, ?_⟩
  · rw [mx2_eq]
    unfold wS
    rcases Nat.le_total (eN g la) (ePg g pa) with h | h
    · have : (2 : Nat) ^ eN g la ≤ 2 ^ ePg g pa := Nat.pow_le_pow_right (by decide) h
      rw [Nat.max_eq_right h, Nat.pow_succ]; omega
    · have : (2 : Nat) ^ ePg g pa ≤ 2 ^ eN g la := Nat.pow_le_pow_right (by decide) h
      rw [Nat.max_eq_left h, Nat.pow_succ]; omega
  · have h1 : (2 : Nat) ^ eN g la = 2 ^ eG g * 2 ^ (eN g la - eG g) := by rw [← Nat.pow_add, show eG g + (eN g la - eG g) = eN g la by omega]
    have h2 : Int.tdiv ((2 ^ eN g la : Nat) : Int) ((2 ^ eG g : Nat) : Int) = ((2 ^ (eN g la - eG g) : Nat) : Int) := by
      rw [h1, Int.natCast_mul, Int.mul_tdiv_cancel_left _ (by omega)]
    rw [h2, wrap_id (by omega) (by omega)]
  · exact wrap_id (by show _ ≤ lS g la * (mS g la li pa / 2); omega) (by show lS g la * (mS g la li pa / 2) ≤ _; omega)
  · exact wrap_id (by show _ ≤ hS g la li pa; omega) (by show hS g la li pa ≤ _; omega)
theorem pow1 : (2 : Int) ^ (min (1 : Int).toNat IntKind.i64.bits) = 2 := by decide
theorem hodmanref1_Of.done {r : Rw} (hin : r.In) : hodmanref1_Of.J27 machW CW false r.g r.la r.li r.pa r.bu r.se 0 0 0 0 0 0 0 0 G = some ([.agg (cfC (ofC r).1), .c (.int .i64 (ofC r).2)], G) := by
  obtain ⟨u0, u1, u2, eW, rw1, rw2, rd, ez, eD, rD, m0, rm, eL, eH⟩ := of_steps hin
  have eM2 : wrap64 (Int.tdiv (mS r.g r.la r.li r.pa) 2) = mS r.g r.la r.li r.pa / 2 := by
    rw [Int.tdiv_eq_ediv_of_nonneg m0, wrap_in rm]
  rw [hodmanref1_Of.J27_eq]
  simp only [q_bs, q_I, q_B, q_P, q_S, q_M, q_c, q_a, q_gz, q_gs, q_gk, q_ct, q_cf, q_nt, q_nf, q_xt, q_xf, q_tt, q_ff, q_tf, q_ft, q_at, q_af, hodmanref1_Up.sp, u0, u1, u2, i64w]
  rw [Int.mul_comm 2, eW, wrap_in rw1, hodmanref1_Round.sp rw2 rw1, rd]
  simp only [q_bs, q_I, q_B, q_P, q_S, q_M, q_c, q_a, q_gz, q_gs, q_gk, q_ct, q_cf, q_nt, q_nf, q_xt, q_xf, q_tt, q_ff, q_tf, q_ft, q_at, q_af, binD_quo ez, i64w, eD]
  rw [hodmanref1_Log.sp rD, logS_pow]
  simp only [q_bs, q_I, q_B, q_P, q_S, q_M, q_c, q_a, q_gz, q_gs, q_gk, q_ct, q_cf, q_nt, q_nf, q_xt, q_xf, q_tt, q_ff, q_tf, q_ft, q_at, q_af, i64w, eM2, eL, eH]
  unfold ofC
  rw [if_pos hin]
  by_cases h6 : hS r.g r.la r.li r.pa > 65536
  · rw [condD_pos h6, if_pos h6]; rfl
  · rw [condD_neg h6, if_neg h6]; rfl
theorem hodmanref1_Of.sp (r : Rw) (w : G.wf) : ∃ G', CW hodmanref1_Of.id [.agg (rwC r)] G = some ([.agg (cfC (ofC r).1), .c (.int .i64 (ofC r).2)], G') ∧ Hp G G' [] := by
  have h := (Hp.refl w).alloc (.row [.int .i64 r.g, .int .i64 r.la, .int .i64 r.li, .int .i64 r.pa] false)
  refine ⟨_, ?_, h.tl⟩
  have ld := fun off => h.ld (off := off) h.ne
  rw [hodmanref1_Of.cw]
  simp only [hodmanref1_Of.f]
  generalize G.alloc _ = G1 at h ld ⊢
  generalize G.next = id at h ld ⊢
  have no : ¬ r.In → some ([V1.agg (cfC (ofC r).1), .c (.int .i64 (ofC r).2)], G1) = some ([.agg [.int .i64 0, .int .i64 0, .int .i64 0, .int .i64 0, .int .i64 0, .int .i64 0, .int .i64 0, .int .i64 0], .c (.int .i64 1)], G1) := fun h => by unfold ofC; rw [if_neg h]; rfl
  have out : ∀ (i : Nat) (x : Int), i < 4 → [Cell.int .i64 r.g, .int .i64 r.la, .int .i64 r.li, .int .i64 r.pa][i]? = some (.int .i64 x) → ¬ (1 ≤ x ∧ x ≤ 65536) → ¬ r.In →
      hodmanref1_Of.L19 machW CW id 0 4 (i : Int) r.g r.la r.li r.pa r.bu r.se 0 0 0 0 0 0 0 0 G1 = some ([.agg (cfC (ofC r).1), .c (.int .i64 (ofC r).2)], G1) := by
    intro i x hi hx hn hno
    rw [no hno, hodmanref1_Of.L19_eq, condD_pos (by omega), guardD_of (by omega), ld, show 0 + Int.toNat (i : Int) * 1 = i by omega, hx]
    simp only [q_bs, q_I, q_B, q_P, q_S, q_M, q_c, q_a, q_gz, q_gs, q_gk, q_ct, q_cf, q_nt, q_nf, q_xt, q_xf, q_tt, q_ff, q_tf, q_ft, q_at, q_af]
    by_cases h1 : x < 1
    · rw [condD_pos h1, hodmanref1_Of.J13_eq]; rfl
    · rw [condD_neg h1, guardD_of (by omega), decide_eq_true (by omega : x > 65536), hodmanref1_Of.J13_eq]; rfl
  have on : ∀ (i : Nat) (x : Int), i < 4 → [Cell.int .i64 r.g, .int .i64 r.la, .int .i64 r.li, .int .i64 r.pa][i]? = some (.int .i64 x) → (1 ≤ x ∧ x ≤ 65536) →
      hodmanref1_Of.L19 machW CW id 0 4 ((i + 1 : Nat) : Int) r.g r.la r.li r.pa r.bu r.se 0 0 0 0 0 0 0 0 G1 = some ([.agg (cfC (ofC r).1), .c (.int .i64 (ofC r).2)], G1) →
      hodmanref1_Of.L19 machW CW id 0 4 (i : Int) r.g r.la r.li r.pa r.bu r.se 0 0 0 0 0 0 0 0 G1 = some ([.agg (cfC (ofC r).1), .c (.int .i64 (ofC r).2)], G1) := by
    intro i x hi hx hn hno
    rw [hodmanref1_Of.L19_eq, condD_pos (by omega), guardD_of (by omega), ld, show 0 + Int.toNat (i : Int) * 1 = i by omega, hx]
    simp only [q_bs, q_I, q_B, q_P, q_S, q_M, q_c, q_a, q_gz, q_gs, q_gk, q_ct, q_cf, q_nt, q_nf, q_xt, q_xf, q_tt, q_ff, q_tf, q_ft, q_at, q_af]
    rw [condD_neg (by omega), guardD_of (by omega), decide_eq_false (by omega : ¬ x > 65536), hodmanref1_Of.J13_eq, i64w, wrap_id (by omega) (by omega)]
    exact hno
  have last : 1 ≤ r.g ∧ r.g ≤ 65536 → 1 ≤ r.la ∧ r.la ≤ 65536 → 1 ≤ r.li ∧ r.li ≤ 65536 → 1 ≤ r.pa ∧ r.pa ≤ 65536 → hodmanref1_Of.L19 machW CW id 0 4 ((4 : Nat) : Int) r.g r.la r.li r.pa r.bu r.se 0 0 0 0 0 0 0 0 G1 = some ([.agg (cfC (ofC r).1), .c (.int .i64 (ofC r).2)], G1) := by
    intro hg hl hi hp
    rw [hodmanref1_Of.L19_eq, condD_neg (by omega)]
    have bad : ¬ r.In → hodmanref1_Of.J27 machW CW true r.g r.la r.li r.pa r.bu r.se 0 0 0 0 0 0 0 0 G1 = some ([.agg (cfC (ofC r).1), .c (.int .i64 (ofC r).2)], G1) := fun h => by rw [no h, hodmanref1_Of.J27_eq]; rfl
    by_cases h1 : r.bu < 0
    · rw [condD_pos h1]; exact bad (by unfold Rw.In InS; omega)
    · rw [condD_neg h1]
      by_cases h2 : r.bu > 65536
      · rw [condD_pos h2]; exact bad (by unfold Rw.In InS; omega)
      · rw [condD_neg h2]
        by_cases h3 : r.se < 0
        · rw [condD_pos h3]; exact bad (by unfold Rw.In InS; omega)
        · rw [condD_neg h3]
          by_cases h4 : r.se > 255
          · rw [decide_eq_true h4]; exact bad (by unfold Rw.In InS; omega)
          · rw [decide_eq_false h4]; exact hodmanref1_Of.done (by unfold Rw.In InS; omega)
  show hodmanref1_Of.L19 machW CW id 0 4 ((0 : Nat) : Int) r.g r.la r.li r.pa r.bu r.se 0 0 0 0 0 0 0 0 G1 = _
  by_cases hg : 1 ≤ r.g ∧ r.g ≤ 65536
  · refine on 0 r.g (by omega) rfl hg ?_
    by_cases hl : 1 ≤ r.la ∧ r.la ≤ 65536
    · refine on 1 r.la (by omega) rfl hl ?_
      by_cases hi : 1 ≤ r.li ∧ r.li ≤ 65536
      · refine on 2 r.li (by omega) rfl hi ?_
        by_cases hp : 1 ≤ r.pa ∧ r.pa ≤ 65536
        · exact on 3 r.pa (by omega) rfl hp (last hg hl hi hp)
        · exact out 3 r.pa (by omega) rfl hp (by unfold Rw.In InS; omega)
      · exact out 2 r.li (by omega) rfl hi (by unfold Rw.In InS; omega)
    · exact out 1 r.la (by omega) rfl hl (by unfold Rw.In InS; omega)
  · exact out 0 r.g (by omega) rfl hg (by unfold Rw.In InS; omega)
theorem conf_Ceil.sp {c : Cf} (h : c.Ok) (k : Int) : CW conf_Ceil.id [.agg (cfC c), .c (.int .i64 k)] G = some ([.c (.int .i64 (c.ceil k))], G) := by
  rw [conf_Ceil.cw]
  unfold conf_Ceil.f
  by_cases h1 : k < 0
  · rw [condD_pos h1, conf_Ceil.J6_eq]; unfold Cf.ceil ceilS; rw [if_pos h1]; rfl
  · rw [condD_neg h1, conf_Ceil.J6_eq]
    by_cases h2 : k > c.L
    · rw [decide_eq_true h2]; unfold Cf.ceil ceilS; rw [if_neg h1, if_pos h2]; rfl
    · rw [decide_eq_false h2]
      simp only [q_bs, q_I, q_B, q_P, q_S, q_M, q_c, q_a, q_gz, q_gs, q_gk, q_ct, q_cf, q_nt, q_nf, q_xt, q_xf, q_tt, q_ff, q_tf, q_ft, q_at, q_af, i64w, pow1, Int.fdiv_eq_ediv_of_nonneg _ (show (0 : Int) ≤ 2 by omega), ceil_wrap h (show 0 ≤ k by omega) (show k ≤ c.L by omega)]
theorem hodmanref1_Ceil.sp {c : Cf} (h : c.Ok) (k : Int) : CW hodmanref1_Ceil.id [.agg (cfC c), .c (.int .i64 k)] G = some ([.c (.int .i64 (c.ceil k))], G) := by
  rw [hodmanref1_Ceil.cw]
  unfold hodmanref1_Ceil.f
  by_cases h1 : k < 0
  · rw [condD_pos h1, hodmanref1_Ceil.J6_eq]; unfold Cf.ceil ceilS; rw [if_pos h1]; rfl
  · rw [condD_neg h1, hodmanref1_Ceil.J6_eq]
    by_cases h2 : k > c.L
    · rw [decide_eq_true h2]; unfold Cf.ceil ceilS; rw [if_neg h1, if_pos h2]; rfl
    · rw [decide_eq_false h2]
      have f := h.facts
      simp only [q_bs, q_I, q_B, q_P, q_S, q_M, q_c, q_a, q_gz, q_gs, q_gk, q_ct, q_cf, q_nt, q_nf, q_xt, q_xf, q_tt, q_ff, q_tf, q_ft, q_at, q_af, i64w, Int.tdiv_eq_ediv_of_nonneg (show 0 ≤ c.M by omega)]
      rw [wrap_id (a := c.M / 2) (by omega) (by omega), ceil_wrap h (by omega) (by omega)]
theorem hodmanref1_Size.lp (g : Nat) (k : Nat) (h : g + k ≤ 60) : ∀ (d i : Nat), i + d = k → hodmanref1_Size.L13 machW CW (k : Int) ((2 ^ (g + i) : Nat) : Int) (i : Int) G = some ([.c (.int .i64 ((2 ^ (g + k) : Nat) : Int))], G)
  | 0, i, hi => by
    obtain rfl : i = k := by omega
    rw [hodmanref1_Size.L13_eq, condD_neg (by omega)]
  | d + 1, i, hi => by
    have h5 := pow62 (e := g + i + 1) (by omega)
    have e1 : IntKind.i64.wrap (((2 ^ (g + i) : Nat) : Int) * 2) = ((2 ^ (g + (i + 1)) : Nat) : Int) := by
      rw [← Nat.add_assoc]; rw [Nat.pow_succ] at h5 ⊢; rw [i64w, wrap_id] <;> omega
    rw [hodmanref1_Size.L13_eq, condD_pos (by omega), e1, i64w, wrap_id (by omega) (by omega)]
    exact hodmanref1_Size.lp g k h d (i + 1) (by omega)
theorem hodmanref1_Size.sp {c : Cf} {g k : Nat} (hg : c.G = ((2 ^ g : Nat) : Int)) (h : g + k ≤ 60) : CW hodmanref1_Size.id [.agg (cfC c), .c (.int .i64 (k : Int))] G = some ([.c (.int .i64 ((2 ^ (g + k) : Nat) : Int))], G) := by
  rw [hodmanref1_Size.cw]
  unfold hodmanref1_Size.f
  rw [hg]
  exact hodmanref1_Size.lp g k h k 0 (by omega)
end Go.Proofs.D.S
/- What the functions of class, admit and the first reference's come to. -/
set_option linter.unusedVariables false
set_option linter.unusedSimpArgs false
namespace Go.Proofs.D.S
open Go Go.RowKit
variable {G G0 : GH}
theorem conf_Shift.sp {c : Cf} {g l : Nat} (e : c.Ex g l) {ch : Int} (hc : R64 ch) : CW conf_Shift.id [.agg (cfC c), .c (.int .i64 ch)] G = some ([.c (.int .i64 (shiftS g l ch).1), .c (.bool (shiftS g l ch).2)], G) := by
  have z0 := Nat.two_pow_pos g
  have hG := e.hG
  have hL := e.hL
  rw [conf_Shift.cw]
  unfold conf_Shift.f
  have no : (∀ k, k ≤ l → ch ≠ ((2 ^ (g + k) : Nat) : Int)) → conf_Shift.J6 machW CW ch true c.G c.N c.M c.L c.Pg c.P c.H c.Sd G = some ([.c (.int .i64 (shiftS g l ch).1), .c (.bool (shiftS g l ch).2)], G) := fun h => by
    rw [shiftS_none h, conf_Shift.J6_eq]; rfl
  have ge : ∀ k : Nat, ((2 ^ g : Nat) : Int) ≤ ((2 ^ (g + k) : Nat) : Int) := fun k => by
    have : (2 : Nat) ^ g ≤ 2 ^ (g + k) := Nat.pow_le_pow_right (by decide) (by omega)
    omega
  have dv : ∀ k : Nat, ((2 ^ (g + k) : Nat) : Int) % ((2 ^ g : Nat) : Int) = 0 := fun k => by
    rw [Nat.pow_add, Int.natCast_mul, Int.mul_emod_right]
  rw [condD_neg (by omega)]
  by_cases h1 : ch < c.G
  · rw [condD_pos h1]
    exact no (fun k _ e => by have := ge k; omega)
  · rw [condD_neg h1, binD_rem (by omega), Int.tmod_eq_emod_of_nonneg (show 0 ≤ ch by omega)]
    simp only [q_bs, q_I, q_B, q_P, q_S, q_M, q_c, q_a, q_gz, q_gs, q_gk, q_ct, q_cf, q_nt, q_nf, q_xt, q_xf, q_tt, q_ff, q_tf, q_ft, q_at, q_af]
    by_cases h2 : ch % c.G = 0
    · rw [decide_eq_true h2, Bool.not_true, conf_Shift.J6_eq, binD_quo (by omega)]
      simp only [q_bs, q_I, q_B, q_P, q_S, q_M, q_c, q_a, q_gz, q_gs, q_gk, q_ct, q_cf, q_nt, q_nf, q_xt, q_xf, q_tt, q_ff, q_tf, q_ft, q_at, q_af, i64w]
      have h3 : ch = ((2 ^ g : Nat) : Int) * (ch / ((2 ^ g : Nat) : Int)) := by have := Int.mul_ediv_add_emod ch ((2 ^ g : Nat) : Int); rw [hG] at h2; omega
      have h4 : 1 ≤ ch / ((2 ^ g : Nat) : Int) := by
        rcases Int.lt_or_le (ch / ((2 ^ g : Nat) : Int)) 1 with h | h
        · have h9 : ((2 ^ g : Nat) : Int) * (ch / ((2 ^ g : Nat) : Int)) ≤ 0 := Int.mul_nonpos_of_nonneg_of_nonpos (by omega) (by omega)
          omega
        · exact h
      have h5 : ch / ((2 ^ g : Nat) : Int) ≤ ch := Int.ediv_le_self _ (by omega)
      unfold R64 at hc
      rw [Int.tdiv_eq_ediv_of_nonneg (by omega), hG, wrap_id (by omega) (by omega), calc_Log.sp (by unfold R64; omega)]
      simp only [q_bs, q_I, q_B, q_P, q_S, q_M, q_c, q_a, q_gz, q_gs, q_gk, q_ct, q_cf, q_nt, q_nf, q_xt, q_xf, q_tt, q_ff, q_tf, q_ft, q_at, q_af]
      generalize hq : ch / ((2 ^ g : Nat) : Int) = q at *
      by_cases h6 : q = ((2 ^ Nat.log2 q.toNat : Nat) : Int)
      · have hlog : logS q = (((Nat.log2 q.toNat : Nat) : Int), true) := by unfold logS; rw [if_pos ⟨h4, h6⟩]
        rw [hlog]
        have h7 : ch = ((2 ^ (g + Nat.log2 q.toNat) : Nat) : Int) := by rw [h3, Nat.pow_add, Int.natCast_mul, ← h6]
        simp only [q_bs, q_I, q_B, q_P, q_S, q_M, q_c, q_a, q_gz, q_gs, q_gk, q_ct, q_cf, q_nt, q_nf, q_xt, q_xf, q_tt, q_ff, q_tf, q_ft, q_at, q_af, conf_Shift.J14_eq]
        by_cases h8 : Nat.log2 q.toNat ≤ l
        · rw [condD_neg (by omega), h7, shiftS_pow h8]
        · rw [condD_pos (by omega), shiftS_none]
          intro k hk e
          rw [h7] at e
          have e' : (2 : Nat) ^ (g + Nat.log2 q.toNat) = 2 ^ (g + k) := by omega
          have := congrArg Nat.log2 e'
          rw [Nat.log2_two_pow, Nat.log2_two_pow] at this
          omega
      · have hlog : logS q = (0, false) := by unfold logS; rw [if_neg (fun c => h6 c.2)]
        rw [hlog]
        simp only [q_bs, q_I, q_B, q_P, q_S, q_M, q_c, q_a, q_gz, q_gs, q_gk, q_ct, q_cf, q_nt, q_nf, q_xt, q_xf, q_tt, q_ff, q_tf, q_ft, q_at, q_af, conf_Shift.J14_eq]
        rw [shiftS_none]
        intro k hk e
        apply h6
        have h7 : q = ((2 ^ k : Nat) : Int) := by
          have h8 : ((2 ^ g : Nat) : Int) * q = ((2 ^ g : Nat) : Int) * ((2 ^ k : Nat) : Int) := by rw [← h3, e, Nat.pow_add, Int.natCast_mul]
          exact Int.eq_of_mul_eq_mul_left (by omega) h8
        rw [h7, Int.toNat_natCast, Nat.log2_two_pow]
    · rw [decide_eq_false h2]
      exact no (fun k _ e => h2 (by rw [hG, e]; exact dv k))
end Go.Proofs.D.S
/- What is read out of numbers. -/
set_option linter.unusedVariables false
set_option linter.unusedSimpArgs false
namespace Go.Proofs.D.S
open Go Go.RowKit
variable {G G0 : GH} {L : List (Nat × Obj)}
/-- The numbers, and how far they were read. -/
abbrev pk (pid lid lo n : Nat) (i : Int) : Nat × Obj := (pid, .row [.sl 1 lid lo n, .int .i64 i] false)
/-- What there is of the numbers. -/
structure PkOk (G0 : GH) (L : List (Nat × Obj)) (lid lo n : Nat) (xs : List Int) : Prop where
  rd : Rd G0 L eU8 lid lo xs
  by_ : Bytes xs
  len : n = xs.length
  small : n ≤ 1000000000
theorem PkOk.cons {lid lo n : Nat} {xs : List Int} (h : PkOk G0 L lid lo n xs) (x : Nat × Obj) : PkOk G0 (x :: L) lid lo n xs := ⟨h.rd.cons, h.by_, h.len, h.small⟩
theorem PkOk.sub {lid lo n : Nat} {xs : List Int} {L' : List (Nat × Obj)} (h : PkOk G0 L lid lo n xs) (s : L.Sublist L') : PkOk G0 L' lid lo n xs := ⟨h.rd.sub s, h.by_, h.len, h.small⟩
theorem hodmanplay_Made.sp (h : Hp G0 G L) (lid lo n : Nat) : ∃ pid G', CW hodmanplay_Made.id [.c (.sl 1 lid lo n)] G = some ([.c (.ptr pid 0)], G') ∧ Hp G0 G' (pk pid lid lo n 0 :: L) := by
  refine ⟨_, _, ?_, h.alloc _⟩
  rw [hodmanplay_Made.cw]
  rfl
/-- A choice: below m, and one further on, or none left. -/
theorem hodmanplay_Picks_Num.sp {pid lid lo n : Nat} {i : Int} {xs : List Int} (h : Hp G0 G (pk pid lid lo n i :: L)) (p : PkOk G0 L lid lo n xs) (h0 : 0 ≤ i) (h1 : i ≤ n) (m : Int) :
    ∃ v j G', CW hodmanplay_Picks_Num.id [.c (.ptr pid 0), .c (.int .i64 m)] G = some ([.c (.int .i64 v)], G') ∧ Hp G0 G' (pk pid lid lo n j :: L) ∧ 0 ≤ v ∧ v ≤ 255 ∧ (1 ≤ m → v < m) ∧ i ≤ j ∧ j ≤ n ∧ (m < 1 → v = 0) := by
  have hp := h.ne
  have hl := p.len
  have hs := p.small
  have ld := fun off => h.ld (off := off) hp
  rw [hodmanplay_Picks_Num.cw]
  unfold hodmanplay_Picks_Num.f
  simp only [guardN hp, ld, q_bs, q_I, q_B, q_P, q_S, q_M, q_c, q_a, q_gz, q_gs, q_gk, q_ct, q_cf, q_nt, q_nf, q_xt, q_xf, q_tt, q_ff, q_tf, q_ft, q_at, q_af, Nat.zero_add]
  by_cases a1 : i ≥ (n : Int)
  · rw [condD_pos a1, hodmanplay_Picks_Num.J6_eq]
    exact ⟨0, i, G, rfl, h, by omega, by omega, by omega, by omega, by omega, fun _ => rfl⟩
  · rw [condD_neg a1, hodmanplay_Picks_Num.J6_eq]
    by_cases a2 : m < 1
    · rw [condD_pos a2]
      exact ⟨0, i, G, rfl, h, by omega, by omega, by omega, by omega, by omega, fun _ => rfl⟩
    · rw [condD_neg a2]
      obtain ⟨G1, h2, e⟩ := h.sts (off := 1) (new := [.int .i64 (i + 1)]) hp (by simp)
      have h2 : Hp G0 G1 (pk pid lid lo n (i + 1) :: L) := h2
      have ld2 := fun off => h2.ld (off := off) hp
      have rd := p.rd _ h2.tl
      simp only [ld, q_bs, q_I, q_B, q_P, q_S, q_M, q_c, q_a, q_gz, q_gs, q_gk, q_ct, q_cf, q_nt, q_nf, q_xt, q_xf, q_tt, q_ff, q_tf, q_ft, q_at, q_af, Nat.zero_add, guardN hp, i64w, wrap_id (a := i + 1) (by omega) (by omega), e, ld2, show i + 1 - 1 = i by omega, wrap_id (a := i) (by omega) (by omega)]
      rw [guardD_of (by omega)]
      have hit : i.toNat < xs.length := by omega
      have r := rd.ld i.toNat 0 hit (by omega)
      rw [Nat.add_zero] at r
      rw [r]
      have hb := p.by_ _ (List.getElem_mem hit)
      simp only [q_bs, q_I, q_B, q_P, q_S, q_M, q_c, q_a, q_gz, q_gs, q_gk, q_ct, q_cf, q_nt, q_nf, q_xt, q_xf, q_tt, q_ff, q_tf, q_ft, q_at, q_af, i64w, wrap_id (a := xs[i.toNat]) (by omega) (by omega), binD_rem (show m ≠ 0 by omega), Int.tmod_eq_emod_of_nonneg hb.1]
      have h3 := Int.emod_nonneg xs[i.toNat] (b := m) (by omega)
      have h4 := Int.emod_lt_of_pos xs[i.toNat] (b := m) (by omega)
      have h5 : xs[i.toNat] % m ≤ xs[i.toNat] := by
        have h6 := Int.mul_ediv_add_emod xs[i.toNat] m
        have h7 := Int.mul_nonneg (show 0 ≤ m by omega) (Int.ediv_nonneg (a := xs[i.toNat]) (b := m) (by omega) (by omega))
        omega
      exact ⟨_, _, _, rfl, h2, h3, by omega, by omega, by omega, by omega, by omega⟩
theorem hodmanplay_Picks_Raw.sp {pid lid lo n : Nat} {i : Int} {xs : List Int} (h : Hp G0 G (pk pid lid lo n i :: L)) (p : PkOk G0 L lid lo n xs) (h0 : 0 ≤ i) (h1 : i ≤ n) (b : Bool) :
    ∃ (r : Rw) (j : Int) (G' : GH), CW hodmanplay_Picks_Raw.id [.c (.ptr pid 0), .c (.bool b)] G = some ([.agg (rwC r)], G') ∧ Hp G0 G' (pk pid lid lo n j :: L) ∧ RawOk b r.g r.la r.li r.pa r.bu r.se ∧ i ≤ j ∧ j ≤ n := by
  obtain ⟨v1, j1, G1, e1, k1, a1, b1, c1, d1, f1, _⟩ := hodmanplay_Picks_Num.sp h p h0 h1 9
  obtain ⟨v2, j2, G2, e2, k2, a2, b2, c2, d2, f2, _⟩ := hodmanplay_Picks_Num.sp k1 p (by omega) f1 12
  obtain ⟨v3, j3, G3, e3, k3, a3, b3, c3, d3, f3, _⟩ := hodmanplay_Picks_Num.sp k2 p (by omega) f2 150
  obtain ⟨v4, j4, G4, e4, k4, a4, b4, c4, d4, f4, _⟩ := hodmanplay_Picks_Num.sp k3 p (by omega) f3 30
  obtain ⟨v5, j5, G5, e5, k5, a5, b5, c5, d5, f5, _⟩ := hodmanplay_Picks_Num.sp k4 p (by omega) f4 200
  obtain ⟨v6, j6, G6, e6, k6, a6, b6, c6, d6, f6, _⟩ := hodmanplay_Picks_Num.sp k5 p (by omega) f5 20
  have c1 := c1 (by omega)
  have c2 := c2 (by omega)
  have c3 := c3 (by omega)
  have c4 := c4 (by omega)
  have c5 := c5 (by omega)
  have c6 := c6 (by omega)
  have p1 : 1 + v1 ≤ (1 + v1) * (1 + v2) := by
    have := Int.mul_nonneg (show 0 ≤ 1 + v1 by omega) a2
    rw [Int.mul_add]; omega
  have p2 : (1 + v1) * (1 + v2) ≤ 9 * 12 := Int.mul_le_mul (by omega) (by omega) (by omega) (by omega)
  rw [hodmanplay_Picks_Raw.cw]
  unfold hodmanplay_Picks_Raw.f
  simp only [e1, e2, e3, e4, e5, e6, q_bs, q_I, q_B, q_P, q_S, q_M, q_c, q_a, q_gz, q_gs, q_gk, q_ct, q_cf, q_nt, q_nf, q_xt, q_xf, q_tt, q_ff, q_tf, q_ft, q_at, q_af, i64w, wrap_id (a := 1 + v1) (by omega) (by omega), wrap_id (a := 1 + v2) (by omega) (by omega), wrap_id (a := 1 + v3) (by omega) (by omega), wrap_id (a := 1 + v4) (by omega) (by omega), wrap_id (a := 1 + v6) (by omega) (by omega), wrap_id (a := (1 + v1) * (1 + v2)) (by omega) (by omega), hodmanplay_Picks_Raw.J10_eq]
  cases b with
  | true => exact ⟨⟨1 + v1, (1 + v1) * (1 + v2), 1 + v3, 1 + v4, 5000, v5⟩, _, _, rfl, k6, ⟨by dsimp only; omega, ⟨p1, by dsimp only; omega⟩, by dsimp only; omega, by dsimp only; omega, fun _ => rfl, by simp, by dsimp only; omega⟩, by omega, f6⟩
  | false => exact ⟨⟨1 + v1, (1 + v1) * (1 + v2), 1 + v3, 1 + v4, 1 + v6, v5⟩, _, _, rfl, k6, ⟨by dsimp only; omega, ⟨p1, by dsimp only; omega⟩, by dsimp only; omega, by dsimp only; omega, by simp, fun _ => by dsimp only; omega, by dsimp only; omega⟩, by omega, f6⟩
theorem hodmanplay_Picks_Conf.sp {pid lid lo n : Nat} {i : Int} {xs : List Int} (h : Hp G0 G (pk pid lid lo n i :: L)) (p : PkOk G0 L lid lo n xs) (h0 : 0 ≤ i) (h1 : i ≤ n) (b : Bool) :
    ∃ (r : Rw) (j : Int) (G' : GH), CW hodmanplay_Picks_Conf.id [.c (.ptr pid 0), .c (.bool b)] G = some ([.agg (cfC (cfOf r)), .agg (rwC r)], G') ∧ Hp G0 G' (pk pid lid lo n j :: L) ∧ RawOk b r.g r.la r.li r.pa r.bu r.se ∧ i ≤ j ∧ j ≤ n := by
  obtain ⟨r, j, G1, e1, k1, ok, a1, b1⟩ := hodmanplay_Picks_Raw.sp h p h0 h1 b
  obtain ⟨G2, e2, k2⟩ := hodmanref1_Of.sp r k1.wf
  rw [ok.ofC] at e2
  refine ⟨r, j, G2, ?_, k1.trans0 k2, ok, a1, b1⟩
  rw [hodmanplay_Picks_Conf.cw]
  unfold hodmanplay_Picks_Conf.f
  simp only [e1, q_bs, q_I, q_B, q_P, q_S, q_M, q_c, q_a, q_gz, q_gs, q_gk, q_ct, q_cf, q_nt, q_nf, q_xt, q_xf, q_tt, q_ff, q_tf, q_ft, q_at, q_af, List.length_cons, List.length_nil, if_true, e2]
end Go.Proofs.D.S
/- The laws' own trials. -/
set_option linter.unusedVariables false
namespace Go.Proofs.D.S
open Go Go.RowKit
variable {G : GH}
theorem hodmanlaw20_begun.sp (hG : Beg G) : ∃ G', CW hodmanlaw20_begun.id [] G = some ([.c (.bool true)], G') ∧ From G G' :=
  beg_run 90 (by intro a b c; kernel_rfl) hG
end Go.Proofs.D.S
/- The plain reference: places, rows of blocks. -/
set_option linter.unusedVariables false
namespace Go.Proofs.D.S
open Go Go.RowKit
/-- Does one lie over the other? -/
def over (a n b m : Int) : Bool := decide (a < b + m) && decide (b < a + n)
/-- Is a place free? -/
def freeB (l : List Blk) (at_ n : Int) : Bool := l.all fun b => !over at_ n b.at_ b.ch
/-- The lowest place of so much, by its number. -/
def lowJ (H : Int) (l : List Blk) (n : Int) : Option Nat := (List.range (H / n).toNat).find? fun j => freeB l ((j : Int) * n) n
/-- Where it goes in. -/
def putB : List Blk → Blk → List Blk
  | [], b => [b]
  | x :: l, b => if x.at_ > b.at_ then b :: x :: l else x :: putB l b
def findB : List Blk → Int → Option Nat
  | [], _ => none
  | x :: l, a => if x.at_ = a then some 0 else (findB l a).map (· + 1)
/-- Blocks within the machine's numbers. -/
def BlkOk (l : List Blk) : Prop := ∀ b ∈ l, 0 ≤ b.at_ ∧ b.at_ ≤ 1099511627776 ∧ 0 ≤ b.ch ∧ b.ch ≤ 1099511627776
theorem putB_len (b : Blk) : ∀ l : List Blk, (putB l b).length = l.length + 1
  | [] => rfl
  | x :: l => by
    unfold putB
    split
    · simp
    · simp [putB_len b l]
theorem putB_mem (b : Blk) : ∀ (l : List Blk) (x : Blk), x ∈ putB l b ↔ x = b ∨ x ∈ l
  | [], x => by simp [putB]
  | y :: l, x => by
    unfold putB
    split
    · simp
    · simp only [List.mem_cons, putB_mem b l x]
      constructor
      · rintro (h | h | h)
        · exact .inr (.inl h)
        · exact .inl h
        · exact .inr (.inr h)
      · rintro (h | h | h)
        · exact .inr (.inl h)
        · exact .inl h
        · exact .inr (.inr h)
/-- As the reference does it: what is copied so far, and whether it is in. -/
theorem putB_take (l : List Blk) (b : Blk) (i : Nat) (h : ∀ j, j < i → ∀ x, l[j]? = some x → ¬ x.at_ > b.at_) (hi : i ≤ l.length) :
    putB l b = l.take i ++ putB (l.drop i) b := by
  induction i generalizing l with
  | zero => simp
  | succ i ih =>
    cases l with
    | nil => simp at hi
    | cons x l =>
      have h0 := h 0 (by omega) x rfl
      have e : putB (x :: l) b = x :: putB l b := by simp only [putB, if_neg h0]
      rw [e, ih l (fun j hj y hy => h (j + 1) (by omega) y (by simpa using hy)) (by simpa using hi)]
      simp only [List.take_succ_cons, List.drop_succ_cons, List.cons_append]
theorem lowJ_some {H n : Int} {l : List Blk} {j : Nat} (hn : 1 ≤ n) (hH : 0 ≤ H) : lowJ H l n = some j ↔ ((j : Int) * n + n ≤ H ∧ freeB l ((j : Int) * n) n = true ∧ ∀ i : Nat, i < j → freeB l ((i : Int) * n) n = false) := by
  have key : ∀ j : Nat, j < (H / n).toNat ↔ (j : Int) * n + n ≤ H := by
    intro j
    have h0 := Int.ediv_nonneg hH (show 0 ≤ n by omega)
    have h1 : ((j : Int) + 1 ≤ H / n) ↔ ((j : Int) + 1) * n ≤ H := Int.le_ediv_iff_mul_le (by omega)
    rw [Int.add_mul, Int.one_mul] at h1
    omega
  unfold lowJ
  rw [List.find?_range_eq_some]
  rw [List.mem_range, key]
  constructor
  · rintro ⟨a, b, c⟩
    exact ⟨b, a, fun i hi => by have := c i hi; simpa using this⟩
  · rintro ⟨a, b, c⟩
    exact ⟨b, a, fun i hi => by have := c i hi; simpa using this⟩
theorem lowJ_none {H n : Int} {l : List Blk} (hn : 1 ≤ n) (hH : 0 ≤ H) : lowJ H l n = none ↔ ∀ i : Nat, (i : Int) * n + n ≤ H → freeB l ((i : Int) * n) n = false := by
  have key : ∀ j : Nat, j < (H / n).toNat ↔ (j : Int) * n + n ≤ H := by
    intro j
    have h0 := Int.ediv_nonneg hH (show 0 ≤ n by omega)
    have h1 : ((j : Int) + 1 ≤ H / n) ↔ ((j : Int) + 1) * n ≤ H := Int.le_ediv_iff_mul_le (by omega)
    rw [Int.add_mul, Int.one_mul] at h1
    omega
  unfold lowJ
  rw [List.find?_range_eq_none]
  constructor
  · intro h i hi; have := h i ((key i).2 hi); simpa using this
  · intro h i hi; have := h i ((key i).1 hi); simpa using this
end Go.Proofs.D.S
/- Plain lemmas on how much must be live at least: sums over the places of a class. -/
set_option linter.unusedVariables false
namespace Go.Proofs.D.S
open Go Go.RowKit

/-- of which class at least a block is that meets the j-th place of class k (t places of it are half of what may be live) -/
def ofP (k t j : Nat) : Nat := min k (j / t - 1)
/-- how much must be live at least if n places are met -/
def leastN (g k t : Nat) : Nat → Nat
  | 0 => 0
  | n + 1 => leastN g k t n + 2 ^ (g + ofP k t n)

theorem leastN_step (g k t n : Nat) : leastN g k t n + 2 ^ g ≤ leastN g k t (n + 1) := by
  have : (2 : Nat) ^ g ≤ 2 ^ (g + ofP k t n) := Nat.pow_le_pow_right (by decide) (by omega)
  simp only [leastN]; omega

theorem leastN_mono (g k t : Nat) {n m : Nat} (h : n ≤ m) : leastN g k t n ≤ leastN g k t m := by
  obtain ⟨d, rfl⟩ := Nat.exists_eq_add_of_le h
  clear h
  induction d with
  | zero => exact Nat.le_refl _
  | succ d ih => have := leastN_step g k t (n + d); have := Nat.two_pow_pos g; rw [← Nat.add_assoc]; omega

theorem leastN_run (g k t e n : Nat) (m : Nat) (h : ∀ j, n ≤ j → j < n + m → ofP k t j = e) : leastN g k t (n + m) = leastN g k t n + m * 2 ^ (g + e) := by
  induction m with
  | zero => simp
  | succ m ih =>
    rw [← Nat.add_assoc]
    simp only [leastN]
    rw [ih (fun j h1 h2 => h j h1 (by omega)), h (n + m) (by omega) (by omega), Nat.succ_mul]
    omega

theorem leastN_seg (g k t : Nat) (ht : 1 ≤ t) (i : Nat) (hi : i ≤ k) : leastN g k t (t * (2 + i)) = t * 2 ^ (g + 1 + i) := by
  induction i with
  | zero =>
    have h := leastN_run g k t 0 0 (t * 2) (by
      intro j _ h
      have : j / t < 2 := (Nat.div_lt_iff_lt_mul (by omega)).2 (by rw [Nat.mul_comm 2 t]; omega)
      unfold ofP; omega)
    rw [Nat.zero_add] at h
    simp only [leastN, Nat.zero_add, Nat.add_zero] at h ⊢
    rw [h, Nat.mul_assoc, Nat.pow_succ, Nat.mul_comm 2]
  | succ i ih =>
    have h := leastN_run g k t (i + 1) (t * (2 + i)) t (by
      intro j h1 h2
      have e : j / t = 2 + i := by
        apply Nat.div_eq_of_lt_le
        · rw [Nat.mul_comm]; exact h1
        · rw [Nat.add_mul, Nat.mul_comm (2 + i) t]; omega
      unfold ofP; omega)
    have e : t * (2 + (i + 1)) = t * (2 + i) + t := by rw [← Nat.add_assoc, Nat.mul_add t (2 + i) 1]; omega
    rw [e, h, ih (by omega), show g + 1 + (i + 1) = (g + 1 + i) + 1 by omega, show g + (i + 1) = g + 1 + i by omega, Nat.pow_succ, ← Nat.mul_assoc]
    omega

/-- all that may be live, at the ceiling -/
theorem leastN_full (g k t : Nat) (ht : 1 ≤ t) : leastN g k t (t * (2 + k)) = t * 2 ^ (g + 1 + k) := leastN_seg g k t ht k (Nat.le_refl _)

/-- how a configuration's sizes hang together: t places of class k are half of what may be live -/
theorem tK {g c k q : Nat} (hk : k ≤ c) : q * 2 ^ (g + c + 1) = 2 * (q * 2 ^ (c - k) * 2 ^ (g + k)) := by
  rw [Nat.mul_assoc q, ← Nat.pow_add, show c - k + (g + k) = g + c by omega, Nat.pow_succ]
  rw [← Nat.mul_assoc, Nat.mul_comm]

/-- the ceiling of class i, in places of class k -/
theorem ceil_places {M : Int} {g c k q i : Nat} (hk : k ≤ c) (hM : M = ((q * 2 ^ (g + c + 1) : Nat) : Int)) : M + (i : Int) * (M / 2) = (((q * 2 ^ (c - k) * (2 + i)) * 2 ^ (g + k) : Nat) : Int) := by
  have h := tK (g := g) (q := q) hk
  have h2 : M / 2 = ((q * 2 ^ (c - k) * 2 ^ (g + k) : Nat) : Int) := by rw [hM, h]; omega
  rw [h2, hM, h]
  have e : (q * 2 ^ (c - k) * (2 + i)) * 2 ^ (g + k) = 2 * (q * 2 ^ (c - k) * 2 ^ (g + k)) + i * (q * 2 ^ (c - k) * 2 ^ (g + k)) := by
    rw [← Nat.add_mul, Nat.mul_assoc, Nat.mul_comm (2 + i), ← Nat.mul_assoc, Nat.mul_comm]
  rw [e, Int.natCast_add, Int.natCast_mul i]

/-- which class it is, of a place -/
theorem ofP_spec {k t j : Nat} (ht : 1 ≤ t) : ofP k t j ≤ k ∧ (∀ i, i < ofP k t j → t * (2 + i) ≤ j) ∧ (ofP k t j < k → j < t * (2 + ofP k t j)) := by
  unfold ofP
  have h1 := Nat.div_add_mod j t
  have h2 := Nat.mod_lt j (show t > 0 by omega)
  refine ⟨by omega, ?_, ?_⟩
  · intro i hi
    have h3 : 2 + i ≤ j / t := by omega
    have := Nat.mul_le_mul_left t h3
    omega
  · intro hlt
    have h3 : j / t + 1 ≤ 2 + min k (j / t - 1) := by omega
    have := Nat.mul_le_mul_left t h3
    rw [Nat.mul_add] at this
    omega

end Go.Proofs.D.S
/- The script that drives a heap high, plainly: which blocks are there behind each stage. -/
set_option linter.unusedVariables false
namespace Go.Proofs.D.S
open Go Go.RowKit
/-- How many places of class k are half of what may be live. -/
def tP (l u k : Nat) : Nat := u * 2 ^ (l - k)
theorem tP_pos {l u k : Nat} (hu : 1 ≤ u) : 1 ≤ tP l u k := by
  have := Nat.two_pow_pos (l - k)
  unfold tP; exact Nat.mul_pos hu this
theorem tP_succ {l u k : Nat} (h : k + 1 ≤ l) : tP l u k = 2 * tP l u (k + 1) := by
  unfold tP
  rw [show l - k = (l - (k + 1)) + 1 by omega, Nat.pow_succ, ← Nat.mul_assoc]; omega
theorem tP_half {g l u k : Nat} (h : k ≤ l) : tP l u k * 2 ^ (g + k) = u * 2 ^ (g + l) := by
  unfold tP
  rw [Nat.mul_assoc, ← Nat.pow_add, show l - k + (g + k) = g + l by omega]
/-- A configuration in exponents. -/
structure Cf.Tp (c : Cf) (g l u : Nat) : Prop where
  ok : c.Ok
  ex : c.Ex g l
  hu : 1 ≤ u
  hM : c.M = ((u * 2 ^ (g + l + 1) : Nat) : Int)
theorem Cf.Ok.tp {c : Cf} (h : c.Ok) : ∃ g l u, c.Tp g l u := by
  have h0 := h
  obtain ⟨⟨g, l, p, q, e1, e2, e3, e4, e5, e6, e7, e8, e9⟩, h1, h2, h3, h4⟩ := h
  refine ⟨g, l, q * 2 ^ (max (g + l) p - (g + l)), h0, ⟨e1, e2, e3, e8⟩, Nat.mul_pos e6 (Nat.two_pow_pos _), ?_⟩
  rw [e7, Nat.mul_assoc, ← Nat.pow_add, show max (g + l) p - (g + l) + (g + l + 1) = max (g + l) p + 1 by omega]
section
variable {c : Cf} {g l u : Nat}
theorem Cf.Tp.half (h : c.Tp g l u) {k : Nat} (hk : k ≤ l) : c.M / 2 = ((tP l u k * 2 ^ (g + k) : Nat) : Int) := by
  have e := tP_half (g := g) (u := u) hk
  rw [h.hM, e]
  have : u * 2 ^ (g + l + 1) = 2 * (u * 2 ^ (g + l)) := by rw [Nat.pow_succ, ← Nat.mul_assoc]; omega
  omega
theorem Cf.Tp.full (h : c.Tp g l u) {k : Nat} (hk : k ≤ l) : c.M = ((2 * (tP l u k * 2 ^ (g + k)) : Nat) : Int) := by
  have e := tP_half (g := g) (u := u) hk
  rw [h.hM, e]
  have : u * 2 ^ (g + l + 1) = 2 * (u * 2 ^ (g + l)) := by rw [Nat.pow_succ, ← Nat.mul_assoc]; omega
  omega
/-- A class's ceiling, in its own places. -/
theorem Cf.Tp.ceil (h : c.Tp g l u) {k : Nat} (hk : k ≤ l) : c.ceil (k : Int) = ((tP l u k * (2 + k) * 2 ^ (g + k) : Nat) : Int) := by
  have hL := h.ex.hL
  obtain ⟨e, _, _⟩ := h.ok.ceil (k := (k : Int)) (by omega) (by omega)
  rw [e, h.half hk, h.full hk]
  have e2 : tP l u k * (2 + k) * 2 ^ (g + k) = 2 * (tP l u k * 2 ^ (g + k)) + k * (tP l u k * 2 ^ (g + k)) := by
    rw [← Nat.add_mul, Nat.mul_assoc, Nat.mul_comm (2 + k), ← Nat.mul_assoc, Nat.mul_comm (2 + k)]
  rw [e2, Int.natCast_add, Int.natCast_mul k]
/-- A class's ceiling, in places of another. -/
theorem Cf.Tp.ceilAt (h : c.Tp g l u) {k i : Nat} (hk : k ≤ l) (hi : i ≤ l) : c.ceil (i : Int) = ((tP l u k * (2 + i) * 2 ^ (g + k) : Nat) : Int) := by
  have hL := h.ex.hL
  obtain ⟨e, _, _⟩ := h.ok.ceil (k := (i : Int)) (by omega) (by omega)
  rw [e, h.half hk, h.full hk]
  have e2 : tP l u k * (2 + i) * 2 ^ (g + k) = 2 * (tP l u k * 2 ^ (g + k)) + i * (tP l u k * 2 ^ (g + k)) := by
    rw [← Nat.add_mul, Nat.mul_assoc, Nat.mul_comm (2 + i), ← Nat.mul_assoc, Nat.mul_comm (2 + i)]
  rw [e2, Int.natCast_add, Int.natCast_mul i]
/-- The ceiling of the class below, in places of this one. -/
theorem Cf.Tp.ceil_below (h : c.Tp g l u) {k : Nat} (hk : k + 1 ≤ l) : c.ceil (k : Int) = ((tP l u (k + 1) * (2 + k) * 2 ^ (g + (k + 1)) : Nat) : Int) := by
  rw [h.ceil (show k ≤ l by omega), tP_succ hk]
  congr 1
  rw [← Nat.add_assoc, Nat.pow_succ]
  rw [Nat.mul_comm 2, Nat.mul_assoc, Nat.mul_assoc, Nat.mul_assoc, Nat.mul_comm 2 ((2 + k) * 2 ^ (g + k)), Nat.mul_assoc (2 + k)]
theorem Cf.Tp.small (h : c.Tp g l u) {k : Nat} (hk : k ≤ l) : tP l u k * (2 + k) * 2 ^ (g + k) ≤ 65536 := by
  have hL := h.ex.hL
  obtain ⟨e, a, b⟩ := h.ok.ceil (k := (k : Int)) (by omega) (by omega)
  have f := h.ok.facts
  rw [h.ceil hk] at a
  omega
end
section
variable (g l u : Nat)
/-- The block at place j of class k. -/
def elN (k j : Nat) : Nat := 2 ^ (g + ofP k (tP l u k) j)
def elB (k j : Nat) : Blk := ⟨((j * 2 ^ (g + k) : Nat) : Int), ((elN g l u k j : Nat) : Int), ((elN g l u k j : Nat) : Int)⟩
def elS (k j : Nat) : SpanV := ⟨((j * 2 ^ (g + k) : Nat) : Int), ((elN g l u k j : Nat) : Int)⟩
def rowB (k n : Nat) : List Blk := (List.range n).map (elB g l u k)
def rowS (k n : Nat) : List SpanV := (List.range n).map (elS g l u k)
/-- Places below the stage's own blocks. -/
def low (k : Nat) : Nat := if k = 0 then 0 else tP l u k * (1 + k)
def own (k : Nat) : Nat := if k = 0 then 2 * tP l u 0 else tP l u k
def atB : Nat → List Blk
  | 0 => []
  | k + 1 => rowB g l u k (tP l u k * (2 + k))
def atS : Nat → List SpanV
  | 0 => []
  | k + 1 => rowS g l u k (tP l u k * (2 + k))
def freeOps (k n : Nat) : List OpV := (List.range n).map fun j => ⟨5, (((2 * j + 1) * 2 ^ (g + (k - 1)) : Nat) : Int), 0, 0, 0, 0⟩
def fillOps (k n : Nat) : List OpV := (List.range n).map fun _ => ⟨1, 0, ((2 ^ (g + k) : Nat) : Int), 0, 0, 0⟩
def opsTo : Nat → List OpV
  | 0 => []
  | k + 1 => opsTo k ++ freeOps g k (low l u k) ++ fillOps g k (own l u k)
def stTo : Nat → List Int
  | 0 => []
  | k + 1 => stTo k ++ [((opsTo g l u (k + 1)).length : Int)]
end
section
variable {g l u : Nat}
theorem low_own {k : Nat} : low l u k + own l u k = tP l u k * (2 + k) := by
  unfold low own
  split
  · rename_i h; subst h; omega
  · rw [← Nat.mul_succ]; congr 1; omega
theorem range_snoc {α : Type} (f : Nat → α) (n : Nat) : (List.range n).map f ++ [f n] = (List.range (n + 1)).map f := by rw [List.range_succ, List.map_append]; rfl
theorem rowB_snoc (k n : Nat) : rowB g l u k n ++ [elB g l u k n] = rowB g l u k (n + 1) := range_snoc _ _
theorem rowS_snoc (k n : Nat) : rowS g l u k n ++ [elS g l u k n] = rowS g l u k (n + 1) := range_snoc _ _
theorem rowB_len (k n : Nat) : (rowB g l u k n).length = n := by simp [rowB]
theorem rowS_len (k n : Nat) : (rowS g l u k n).length = n := by simp [rowS]
theorem rowB_get (k n i : Nat) (h : i < (rowB g l u k n).length) : (rowB g l u k n)[i] = elB g l u k i := by simp [rowB]
theorem rowS_get (k n i : Nat) (h : i < (rowS g l u k n).length) : (rowS g l u k n)[i] = elS g l u k i := by simp [rowS]
/-- What lies in the lower half of a place is what lies at its beginning. -/
theorem elN_even {k j : Nat} (hu : 1 ≤ u) (hk : k + 1 ≤ l) (hj : j < tP l u (k + 1) * (2 + k)) : elN g l u k (2 * j) = elN g l u (k + 1) j := by
  unfold elN ofP
  have ht := tP_pos (l := l) (k := k + 1) hu
  have e : 2 * j / tP l u k = j / tP l u (k + 1) := by
    rw [tP_succ hk, Nat.mul_div_mul_left _ _ (by decide)]
  have h2 : j / tP l u (k + 1) < 2 + k := (Nat.div_lt_iff_lt_mul (by omega)).2 (by rw [Nat.mul_comm]; exact hj)
  rw [e, show min k (j / tP l u (k + 1) - 1) = min (k + 1) (j / tP l u (k + 1) - 1) by omega]
theorem elB_even {k j : Nat} (hu : 1 ≤ u) (hk : k + 1 ≤ l) (hj : j < tP l u (k + 1) * (2 + k)) : elB g l u k (2 * j) = elB g l u (k + 1) j := by
  have e := elN_even (g := g) hu hk hj
  have e2 : 2 * j * 2 ^ (g + k) = j * 2 ^ (g + (k + 1)) := by rw [← Nat.add_assoc, Nat.pow_succ, Nat.mul_comm 2 j, Nat.mul_assoc, Nat.mul_comm 2]
  unfold elB
  rw [e, e2]
theorem elS_even {k j : Nat} (hu : 1 ≤ u) (hk : k + 1 ≤ l) (hj : j < tP l u (k + 1) * (2 + k)) : elS g l u k (2 * j) = elS g l u (k + 1) j := by
  have e := elN_even (g := g) hu hk hj
  have e2 : 2 * j * 2 ^ (g + k) = j * 2 ^ (g + (k + 1)) := by rw [← Nat.add_assoc, Nat.pow_succ, Nat.mul_comm 2 j, Nat.mul_assoc, Nat.mul_comm 2]
  unfold elS
  rw [e, e2]
/-- The stage's own blocks are of its class. -/
theorem elN_own {k j : Nat} (hu : 1 ≤ u) (h1 : low l u k ≤ j) (h2 : j < tP l u k * (2 + k)) : elN g l u k j = 2 ^ (g + k) := by
  unfold elN ofP
  have ht := tP_pos (l := l) (k := k) hu
  have e : k ≤ j / tP l u k - 1 := by
    unfold low at h1
    split at h1
    · omega
    · have : 1 + k ≤ j / tP l u k := (Nat.le_div_iff_mul_le (by omega)).2 (by rw [Nat.mul_comm]; exact h1)
      omega
  rw [Nat.min_eq_left e]
theorem elN_le {k j : Nat} : elN g l u k j ≤ 2 ^ (g + k) := Nat.pow_le_pow_right (by decide) (by unfold ofP; omega)
theorem elN_pos {k j : Nat} : 1 ≤ elN g l u k j := Nat.two_pow_pos _
/-- What all up to a place is charged. -/
theorem sum_low {k : Nat} (hu : 1 ≤ u) (hk : 1 ≤ k) (hl : k ≤ l) : leastN g k (tP l u k) (low l u k) = tP l u k * 2 ^ (g + k) := by
  have h := leastN_seg g k (tP l u k) (tP_pos hu) (k - 1) (by omega)
  unfold low
  rw [if_neg (by omega), show 1 + k = 2 + (k - 1) by omega, h, show g + 1 + (k - 1) = g + k by omega]
theorem leastN_elN (k n : Nat) : leastN g k (tP l u k) (n + 1) = leastN g k (tP l u k) n + elN g l u k n := rfl
/-- The places below are all taken; the next one is free. -/
theorem low_free {k n : Nat} {H : Int} (h : (((n + 1) * 2 ^ (g + k) : Nat) : Int) ≤ H) : lowJ H (rowB g l u k n) ((2 ^ (g + k) : Nat) : Int) = some n := by
  have z := Nat.two_pow_pos (g + k)
  rw [lowJ_some (by omega) (by omega)]
  refine ⟨by rw [Nat.succ_mul] at h; rw [← Int.natCast_mul]; omega, ?_, fun i hi => ?_⟩
  · unfold freeB
    rw [List.all_eq_true]
    intro b hb
    obtain ⟨j, hj, rfl⟩ := List.mem_map.1 hb
    rw [List.mem_range] at hj
    unfold over elB
    have h1 : (j + 1) * 2 ^ (g + k) ≤ n * 2 ^ (g + k) := Nat.mul_le_mul_right _ hj
    have h2 := elN_le (g := g) (l := l) (u := u) (k := k) (j := j)
    rw [Nat.succ_mul] at h1
    rw [← Int.natCast_mul, decide_eq_false (by dsimp only; omega)]
    rfl
  · unfold freeB
    rw [List.all_eq_false]
    refine ⟨elB g l u k i, List.mem_map.2 ⟨i, List.mem_range.2 hi, rfl⟩, ?_⟩
    unfold over elB
    have h2 := elN_pos (g := g) (l := l) (u := u) (k := k) (j := i)
    rw [← Int.natCast_mul, decide_eq_true (by dsimp only; omega), decide_eq_true (by dsimp only; omega)]
    simp
/-- What is placed at the end goes in at the end. -/
theorem putB_end (b : Blk) : ∀ (l : List Blk), (∀ x ∈ l, ¬ x.at_ > b.at_) → putB l b = l ++ [b]
  | [], _ => rfl
  | x :: l, h => by
    have h0 := h x (by simp)
    have e : putB (x :: l) b = x :: putB l b := by simp only [putB, if_neg h0]
    rw [e, putB_end b l fun y hy => h y (by simp [hy])]; rfl
theorem putB_row (k n : Nat) (b : Blk) (hb : b = elB g l u k n) : putB (rowB g l u k n) b = rowB g l u k (n + 1) := by
  rw [putB_end, hb, rowB_snoc]
  intro x hx
  obtain ⟨j, hj, rfl⟩ := List.mem_map.1 hx
  rw [List.mem_range] at hj
  subst hb
  have : j * 2 ^ (g + k) ≤ n * 2 ^ (g + k) := Nat.mul_le_mul_right _ (by omega)
  unfold elB; dsimp only; omega
end
end Go.Proofs.D.S
/- How high blocks go, and how much must be live. -/
set_option linter.unusedVariables false
set_option linter.unusedSimpArgs false
namespace Go.Proofs.D.S
open Go Go.RowKit
variable {G G0 : GH} {L : List (Nat × Obj)} {c : Cf} {g l u : Nat}
theorem ceil_of.lp (ok : c.Ok) {k : Nat} (hk : (k : Int) ≤ c.L) {b : Int} (r : Nat) (hr : r ≤ k) (h1 : ∀ i : Nat, i < r → c.ceil (i : Int) ≤ b) (h2 : r < k → b < c.ceil (r : Int)) (d : Nat) :
    ∀ n : Nat, n + d = r → ceil_of.L9 machW CW (k : Int) b (n : Int) c.G c.N c.M c.L c.Pg c.P c.H c.Sd G = some ([.c (.int .i64 (r : Int))], G) := by
  have f := ok.facts
  induction d with
  | zero =>
    intro n hn
    obtain rfl : n = r := by omega
    rw [ceil_of.L9_eq]
    by_cases h : (n : Int) < (k : Int)
    · have h3 := h2 (by omega)
      rw [condD_pos h, conf_Ceil.sp ok]
      simp only [q_bs, q_I, q_B, q_P, q_S, q_M, q_c, q_a, q_gz, q_gs, q_gk, q_ct, q_cf, q_nt, q_nf, q_xt, q_xf, q_tt, q_ff, q_tf, q_ft, q_at, q_af]
      rw [decide_eq_false (by omega), ceil_of.J4_eq, q_cf]
    · rw [condD_neg h, ceil_of.J4_eq, q_cf]
  | succ d ih =>
    intro n hn
    have h3 := h1 n (by omega)
    rw [ceil_of.L9_eq, condD_pos (by omega), conf_Ceil.sp ok]
    simp only [q_bs, q_I, q_B, q_P, q_S, q_M, q_c, q_a, q_gz, q_gs, q_gk, q_ct, q_cf, q_nt, q_nf, q_xt, q_xf, q_tt, q_ff, q_tf, q_ft, q_at, q_af]
    rw [decide_eq_true h3, ceil_of.J4_eq, q_ct, i64w, wrap_id (by omega) (by omega)]
    exact ih (n + 1) (by omega)
theorem ceil_of.sp (tp : c.Tp g l u) {k : Nat} (hk : k ≤ l) (n : Nat) : CW ceil_of.id [.agg (cfC c), .c (.int .i64 (k : Int)), .c (.int .i64 ((n * 2 ^ (g + k) : Nat) : Int))] G = some ([.c (.int .i64 ((ofP k (tP l u k) n : Nat) : Int))], G) := by
  have hL := tp.ex.hL
  have z := Nat.two_pow_pos (g + k)
  obtain ⟨o1, o2, o3⟩ := ofP_spec (k := k) (t := tP l u k) (j := n) (tP_pos tp.hu)
  rw [ceil_of.cw]
  unfold ceil_of.f
  refine ceil_of.lp tp.ok (by omega) _ o1 ?_ ?_ _ 0 (Nat.zero_add _)
  · intro i hi
    have h5 := Nat.mul_le_mul_right (2 ^ (g + k)) (o2 i hi)
    rw [tp.ceilAt hk (by omega)]; omega
  · intro hlt
    have h5 : (n + 1) * 2 ^ (g + k) ≤ tP l u k * (2 + ofP k (tP l u k) n) * 2 ^ (g + k) := Nat.mul_le_mul_right _ (o3 hlt)
    rw [Nat.succ_mul] at h5
    rw [tp.ceilAt hk (by omega)]; omega
/-- The sum is small. -/
theorem leastN_le (g k t : Nat) (j : Nat) : leastN g k t j ≤ j * 2 ^ (g + k) := by
  induction j with
  | zero => simp [leastN]
  | succ j ih =>
    simp only [leastN]
    have : (2 : Nat) ^ (g + ofP k t j) ≤ 2 ^ (g + k) := Nat.pow_le_pow_right (by decide) (by unfold ofP; omega)
    rw [Nat.succ_mul]; omega
/-- How much must be live at least: the sum over the places that end there or ahead. -/
theorem ceil_Least.sp (tp : c.Tp g l u) {k : Nat} (hk : k ≤ l) (m : Nat) {a : Int} (hm1 : ((m * 2 ^ (g + k) : Nat) : Int) ≤ a) (hm2 : a < (((m + 1) * 2 ^ (g + k) : Nat) : Int)) (ha : a ≤ c.H) :
    CW ceil_Least.id [.agg (cfC c), .c (.int .i64 (k : Int)), .c (.int .i64 a)] G = some ([.c (.int .i64 ((leastN g k (tP l u k) m : Nat) : Int))], G) := by
  have hL := tp.ex.hL
  have hgl := tp.ex.hgl
  have f := tp.ok.facts
  have z := Nat.two_pow_pos (g + k)
  have y := pow16 (e := g + k) (by omega)
  have ku : ∀ q : Nat, q ≤ 16 → IntKind.u64.wrap (q : Int) = (q : Int) := fun q hq => by rw [u64w]; omega
  have sh : ∀ q : Nat, q ≤ l → binD .shl .i64 c.G (q : Int) = some ((2 ^ (g + q) : Nat) : Int) := fun q hq => by rw [tp.ex.hG, shl_pow _ _ (by omega)]
  rw [Nat.succ_mul] at hm2
  have lp : ∀ (d n : Nat), n + d = m → ceil_Least.L27 machW CW (k : Int) a ((leastN g k (tP l u k) n : Nat) : Int) ((2 ^ (g + k) : Nat) : Int) ((n * 2 ^ (g + k) : Nat) : Int) c.G c.N c.M c.L c.Pg c.P c.H c.Sd G = some ([.c (.int .i64 ((leastN g k (tP l u k) m : Nat) : Int))], G) := by
    intro d
    induction d with
    | zero =>
      intro n hn
      obtain rfl : n = m := by omega
      rw [ceil_Least.L27_eq, i64w, wrap_id (by omega) (by omega), condD_neg (by omega)]
    | succ d ih =>
      intro n hn
      have h4 : (n + 1) * 2 ^ (g + k) ≤ m * 2 ^ (g + k) := Nat.mul_le_mul_right _ (by omega)
      have h5 := leastN_le g k (tP l u k) (n + 1)
      have e : leastN g k (tP l u k) (n + 1) = leastN g k (tP l u k) n + 2 ^ (g + ofP k (tP l u k) n) := rfl
      have o1 : ofP k (tP l u k) n ≤ k := by unfold ofP; omega
      have h6 : ((leastN g k (tP l u k) n : Nat) : Int) + ((2 ^ (g + ofP k (tP l u k) n) : Nat) : Int) = ((leastN g k (tP l u k) (n + 1) : Nat) : Int) := by rw [e]; exact (Int.natCast_add _ _).symm
      rw [Nat.succ_mul] at h4 h5
      have h7 : ((n * 2 ^ (g + k) : Nat) : Int) + ((2 ^ (g + k) : Nat) : Int) = (((n + 1) * 2 ^ (g + k) : Nat) : Int) := by rw [Nat.succ_mul]; exact (Int.natCast_add _ _).symm
      rw [ceil_Least.L27_eq, i64w, wrap_id (by omega) (by omega), condD_pos (by omega), ceil_of.sp tp hk n]
      simp only [q_bs, q_I, q_B, q_P, q_S, q_M, q_c, q_a, q_gz, q_gs, q_gk, q_ct, q_cf, q_nt, q_nf, q_xt, q_xf, q_tt, q_ff, q_tf, q_ft, q_at, q_af, ku _ (show ofP k (tP l u k) n ≤ 16 by omega), sh _ (show ofP k (tP l u k) n ≤ l by omega), i64w, h6, h7]
      rw [wrap_id (a := ((leastN g k (tP l u k) (n + 1) : Nat) : Int)) (by omega) (by omega), wrap_id (a := (((n + 1) * 2 ^ (g + k) : Nat) : Int)) (by omega) (by rw [Nat.succ_mul]; omega)]
      exact ih (n + 1) (by omega)
  rw [ceil_Least.cw]
  unfold ceil_Least.f
  rw [condD_neg (by omega), condD_neg (by omega), condD_neg (by omega), condD_neg (by omega), condD_neg (by omega), decide_eq_false (by omega), ceil_Least.J6_eq, q_cf]
  simp only [ku k (by omega), sh k hk, q_bs, q_I, q_B, q_P, q_S, q_M, q_c, q_a, q_gz, q_gs, q_gk, q_ct, q_cf, q_nt, q_nf, q_xt, q_xf, q_tt, q_ff, q_tf, q_ft, q_at, q_af]
  rw [condD_neg (by omega)]
  have := lp m 0 (by omega)
  simpa [leastN] using this
/-- Is a block of a class, below its ceiling? -/
def inC (c : Cf) (g l : Nat) (b : Blk) : Bool := (shiftS g l b.ch).2 && !decide (b.at_ > c.ceil (shiftS g l b.ch).1 - b.ch)
theorem ceil_Within.sp (tp : c.Tp g l u) {li lo : Nat} {bl : List Blk} (s : Sl G eBlk li lo bl) (ok : BlkOk bl) (hl : bl.length ≤ 1000000000) :
    CW ceil_Within.id [.agg (cfC c), .c (.sl 3 li lo bl.length)] G = some ([.c (.bool (bl.all (inC c g l)))], G) := by
  have f := tp.ok.facts
  rw [ceil_Within.cw]
  unfold ceil_Within.f
  have lp : ∀ (d i : Nat), i + d = bl.length → ceil_Within.L22 machW CW li lo bl.length ((bl.length : Nat) : Int) (i : Int) c.G c.N c.M c.L c.Pg c.P c.H c.Sd G = some ([.c (.bool ((bl.drop i).all (inC c g l)))], G) := by
    intro d
    induction d with
    | zero => intro i hi; rw [ceil_Within.L22_eq, condD_neg (by omega), List.drop_of_length_le (by omega)]; rfl
    | succ d ih =>
      intro i hi
      have hil : i < bl.length := by omega
      have e : bl.drop i = bl[i] :: bl.drop (i + 1) := List.drop_eq_getElem_cons hil
      have z : decide (0 ≤ (i : Int) ∧ (i : Int) < ((bl.length : Nat) : Int)) = true := decide_eq_true (by omega)
      have ob := ok _ (List.getElem_mem hil)
      have rest := ih (i + 1) (by omega)
      rw [show ((i + 1 : Nat) : Int) = (i : Int) + 1 by omega] at rest
      rw [ceil_Within.L22_eq, condD_pos (by omega)]
      simp only [z, Int.toNat_natCast, s.ld i 0 hil (by omega), s.ld i 1 hil (by omega), s.ld i 2 hil (by omega), q_bs, q_I, q_B, q_P, q_S, q_M, q_c, q_a, q_gz, q_gs, q_gk, q_ct, q_cf, q_nt, q_nf, q_xt, q_xf, q_tt, q_ff, q_tf, q_ft, q_at, q_af]
      rw [conf_Shift.sp tp.ex (by unfold R64; omega)]
      simp only [q_bs, q_I, q_B, q_P, q_S, q_M, q_c, q_a, q_gz, q_gs, q_gk, q_ct, q_cf, q_nt, q_nf, q_xt, q_xf, q_tt, q_ff, q_tf, q_ft, q_at, q_af]
      have hall : (bl.drop i).all (inC c g l) = (inC c g l bl[i] && (bl.drop (i + 1)).all (inC c g l)) := by rw [e]; rfl
      rw [hall]
      unfold inC
      rcases shiftS_cases g l bl[i].ch with ⟨k, hk, hch, hs⟩ | ⟨_, hs⟩
      · rw [hs]
        simp only [q_bs, q_I, q_B, q_P, q_S, q_M, q_c, q_a, q_gz, q_gs, q_gk, q_ct, q_cf, q_nt, q_nf, q_xt, q_xf, q_tt, q_ff, q_tf, q_ft, q_at, q_af]
        rw [conf_Ceil.sp tp.ok]
        obtain ⟨_, c1, c2⟩ := tp.ok.ceil (k := (k : Int)) (by omega) (by have := tp.ex.hL; omega)
        simp only [q_bs, q_I, q_B, q_P, q_S, q_M, q_c, q_a, q_gz, q_gs, q_gk, q_ct, q_cf, q_nt, q_nf, q_xt, q_xf, q_tt, q_ff, q_tf, q_ft, q_at, q_af, i64w]
        rw [wrap_id (a := c.ceil (k : Int) - bl[i].ch) (by omega) (by omega), ceil_Within.J13_eq]
        by_cases h : bl[i].at_ > c.ceil (k : Int) - bl[i].ch
        · rw [decide_eq_true h, q_ct, q_nt, q_af]
        · rw [decide_eq_false h, q_cf, q_nf, q_at, i64w, wrap_id (by omega) (by omega)]
          exact rest
      · rw [hs]
        simp only [q_bs, q_I, q_B, q_P, q_S, q_M, q_c, q_a, q_gz, q_gs, q_gk, q_ct, q_cf, q_nt, q_nf, q_xt, q_xf, q_tt, q_ff, q_tf, q_ft, q_at, q_af, ceil_Within.J13_eq]
  have := lp bl.length 0 (by omega)
  rw [List.drop_zero] at this
  exact this
end Go.Proofs.D.S
/- Rows of blocks: the reference's Over, Lowest, put, Find. -/
set_option linter.unusedVariables false
set_option linter.unusedSimpArgs false
namespace Go.Proofs.D.S
open Go Go.RowKit
variable {G G0 : GH} {L : List (Nat × Obj)}
/-- A number of memory's size. -/
def Mid (x : Int) : Prop := -4611686018427387904 ≤ x ∧ x ≤ 4611686018427387903
theorem hodmanref8_Over.sp {a n b m : Int} (h1 : Mid a) (h2 : Mid n) (h3 : Mid b) (h4 : Mid m) : CW hodmanref8_Over.id [.agg [.int .i64 a, .int .i64 n], .agg [.int .i64 b, .int .i64 m]] G = some ([.c (.bool (over a n b m))], G) := by
  unfold Mid at *
  rw [hodmanref8_Over.cw]
  unfold hodmanref8_Over.f over
  rw [i64w, i64w, wrap_id (by omega) (by omega), wrap_id (by omega) (by omega)]
  by_cases h : a < b + m
  · rw [condD_pos h, decide_eq_true h, q_at]
  · rw [condD_neg h, decide_eq_false h, q_af]
theorem freeB_cons (x : Blk) (l : List Blk) (a n : Int) : freeB (x :: l) a n = (!over a n x.at_ x.ch && freeB l a n) := rfl
/-- The inner loop: is it free of the blocks from i on? -/
theorem hodmanref17_Lowest.inner {c : Cf} {li lo : Nat} {l : List Blk} (s : Sl G eBlk li lo l) (ok : BlkOk l) {n a : Int} (hn : 1 ≤ n ∧ n ≤ 65536) (ha : 0 ≤ a ∧ a ≤ 65536) (hl : l.length ≤ 1000000000) :
    ∀ (d i : Nat), i + d = l.length → hodmanref17_Lowest.L19 machW CW li lo l.length n a true (i : Int) c.G c.N c.M c.L c.Pg c.P c.H c.Sd G =
      if freeB (l.drop i) a n = true then some ([.c (.int .i64 a), .c (.bool true)], G) else hodmanref17_Lowest.L35 machW CW li lo l.length n (a + n) c.G c.N c.M c.L c.Pg c.P c.H c.Sd G
  | 0, i, hi => by
    rw [hodmanref17_Lowest.L19_eq, condD_neg (by omega), hodmanref17_Lowest.J12_eq, q_cf, q_ct]
    have e : l.drop i = [] := List.drop_of_length_le (by omega)
    rw [e, if_pos (by rfl)]
  | d + 1, i, hi => by
    have hil : i < l.length := by omega
    have ob := ok _ (List.getElem_mem hil)
    have e : l.drop i = l[i] :: l.drop (i + 1) := List.drop_eq_getElem_cons hil
    have z : decide (0 ≤ (i : Int) ∧ (i : Int) < ((l.length : Nat) : Int)) = true := decide_eq_true (by omega)
    have r0 := s.ld i 0 hil (by omega)
    have r1 := s.ld i 1 hil (by omega)
    rw [hodmanref17_Lowest.L19_eq, condD_pos (by omega), hodmanref17_Lowest.J12_eq, q_ct]
    simp only [z, Int.toNat_natCast, r0, r1, q_bs, q_I, q_B, q_P, q_S, q_M, q_c, q_a, q_gz, q_gs, q_gk, q_ct, q_cf, q_nt, q_nf, q_xt, q_xf, q_tt, q_ff, q_tf, q_ft, q_at, q_af]
    rw [hodmanref8_Over.sp (by unfold Mid; omega) (by unfold Mid; omega) (by unfold Mid; omega) (by unfold Mid; omega)]
    simp only [q_bs, q_I, q_B, q_P, q_S, q_M, q_c, q_a, q_gz, q_gs, q_gk, q_ct, q_cf, q_nt, q_nf, q_xt, q_xf, q_tt, q_ff, q_tf, q_ft, q_at, q_af, i64w, wrap_id (a := (i : Int) + 1) (by omega) (by omega)]
    rw [e, freeB_cons]
    cases ho : over a n l[i].at_ l[i].ch with
    | false =>
      rw [q_nf, q_at]
      exact hodmanref17_Lowest.inner s ok hn ha hl d (i + 1) (by omega)
    | true =>
      rw [q_nt, q_af, if_neg (by simp)]
      -- not free: it goes through the rest no more
      rw [hodmanref17_Lowest.L19_eq]
      have out : hodmanref17_Lowest.J12 machW CW li lo l.length n a false ((i : Int) + 1) false c.G c.N c.M c.L c.Pg c.P c.H c.Sd G = hodmanref17_Lowest.L35 machW CW li lo l.length n (a + n) c.G c.N c.M c.L c.Pg c.P c.H c.Sd G := by
        rw [hodmanref17_Lowest.J12_eq, q_cf, q_cf, i64w, wrap_id (by omega) (by omega)]
      rw [out]
      by_cases hh : (i : Int) + 1 < ((l.length : Nat) : Int)
      · rw [condD_pos hh]
      · rw [condD_neg hh]
/-- What Lowest tells: the lowest free place, or none. -/
def lowR (H : Int) (l : List Blk) (n : Int) : Int × Bool := match lowJ H l n with
  | some j => ((j : Int) * n, true)
  | none => (0, false)
theorem hodmanref17_Lowest.sp {c : Cf} {li lo : Nat} {l : List Blk} (s : Sl G eBlk li lo l) (ok : BlkOk l) {n : Int} (hn : 1 ≤ n ∧ n ≤ 65536) (hH : 0 ≤ c.H ∧ c.H ≤ 65536) (hl : l.length ≤ 1000000000) :
    CW hodmanref17_Lowest.id [.agg (cfC c), .c (.sl 3 li lo l.length), .c (.int .i64 n)] G = some ([.c (.int .i64 (lowR c.H l n).1), .c (.bool (lowR c.H l n).2)], G) := by
  rw [hodmanref17_Lowest.cw]
  unfold hodmanref17_Lowest.f
  have lp : ∀ (d j : Nat), (c.H - (j : Int) * n).toNat ≤ d → (j : Int) * n ≤ c.H + n → (∀ i : Nat, i < j → freeB l ((i : Int) * n) n = false) →
      hodmanref17_Lowest.L35 machW CW li lo l.length n ((j : Int) * n) c.G c.N c.M c.L c.Pg c.P c.H c.Sd G = some ([.c (.int .i64 (lowR c.H l n).1), .c (.bool (lowR c.H l n).2)], G) := by
    intro d
    induction d with
    | zero =>
      intro j hd hj hm
      have h0 : 0 ≤ (j : Int) * n := Int.mul_nonneg (by omega) (by omega)
      rw [hodmanref17_Lowest.L35_eq, i64w, wrap_id (by omega) (by omega), condD_neg (by omega)]
      have e : lowJ c.H l n = none := by
        rw [lowJ_none hn.1 hH.1]
        intro i hi
        apply hm
        rcases Nat.lt_or_ge i j with h | h
        · exact h
        · have : (j : Int) * n ≤ (i : Int) * n := Int.mul_le_mul_of_nonneg_right (by omega) (by omega)
          omega
      unfold lowR; rw [e]
    | succ d ih =>
      intro j hd hj hm
      have h0 : 0 ≤ (j : Int) * n := Int.mul_nonneg (by omega) (by omega)
      rw [hodmanref17_Lowest.L35_eq, i64w, wrap_id (by omega) (by omega)]
      by_cases hin : (j : Int) * n + n ≤ c.H
      · rw [condD_pos hin]
        have := hodmanref17_Lowest.inner (c := c) s ok hn (a := (j : Int) * n) (by omega) hl l.length 0 (by omega)
        rw [List.drop_zero] at this
        have this : hodmanref17_Lowest.L19 machW CW li lo l.length n ((j : Int) * n) true 0 c.G c.N c.M c.L c.Pg c.P c.H c.Sd G = _ := this
        rw [this]
        by_cases hf : freeB l ((j : Int) * n) n = true
        · rw [if_pos hf]
          have e : lowJ c.H l n = some j := (lowJ_some hn.1 hH.1).2 ⟨hin, hf, hm⟩
          unfold lowR; rw [e]
        · rw [if_neg hf]
          have e1 : (j : Int) * n + n = ((j + 1 : Nat) : Int) * n := by
            rw [show ((j + 1 : Nat) : Int) = (j : Int) + 1 by omega, Int.add_mul, Int.one_mul]
          rw [e1]
          refine ih (j + 1) (by omega) (by omega) ?_
          intro i hi
          rcases Nat.lt_or_ge i j with h | h
          · exact hm i h
          · rw [show i = j by omega]; simpa using hf
      · rw [condD_neg hin]
        have e : lowJ c.H l n = none := by
          rw [lowJ_none hn.1 hH.1]
          intro i hi
          apply hm
          rcases Nat.lt_or_ge i j with h | h
          · exact h
          · have : (j : Int) * n ≤ (i : Int) * n := Int.mul_le_mul_of_nonneg_right (by omega) (by omega)
            omega
        unfold lowR; rw [e]
  have := lp (c.H.toNat) 0 (by omega) (by simp; omega) (fun i hi => by omega)
  simpa using this
end Go.Proofs.D.S
/- There is always room: the lowest place of a class lies below its ceiling while sums allow. -/
set_option linter.unusedVariables false
namespace Go.Proofs.D.S
open Go Go.RowKit
/-- A block of a class, aligned, below its ceiling. -/
def Bin (g l u : Nat) (b : Blk) : Prop := ∃ k a : Nat, k ≤ l ∧ b.ch = ((2 ^ (g + k) : Nat) : Int) ∧ b.at_ = ((a * 2 ^ (g + k) : Nat) : Int) ∧ a < tP l u k * (2 + k)
def chSum (bl : List Blk) : Int := (bl.map Blk.ch).sum
theorem chSum_cons (b : Blk) (bl : List Blk) : chSum (b :: bl) = b.ch + chSum bl := rfl
/-- Sums over places. -/
def sumTo (f : Nat → Nat) : Nat → Nat
  | 0 => 0
  | m + 1 => sumTo f m + f m
theorem sumTo_mono {f h : Nat → Nat} (m : Nat) (k : ∀ j, j < m → f j ≤ h j) : sumTo f m ≤ sumTo h m := by
  induction m with
  | zero => exact Nat.le_refl _
  | succ m ih => exact Nat.add_le_add (ih fun j hj => k j (by omega)) (k m (by omega))
theorem sumTo_add (f h : Nat → Nat) (m : Nat) : sumTo (fun j => f j + h j) m = sumTo f m + sumTo h m := by
  induction m with
  | zero => rfl
  | succ m ih => simp only [sumTo]; omega
theorem leastN_sum (g k t m : Nat) : leastN g k t m = sumTo (fun j => 2 ^ (g + ofP k t j)) m := by
  induction m with
  | zero => rfl
  | succ m ih => simp only [leastN, sumTo, ih]
/-- A stretch of places. -/
theorem sumTo_run (f : Nat → Nat) (p : Nat → Bool) (lo cnt B m : Nat) (hp : ∀ j, p j = true → lo ≤ j ∧ j < lo + cnt) (hB : ∀ j, p j = true → f j ≤ B) :
    sumTo (fun j => if p j = true then f j else 0) m ≤ (min m (lo + cnt) - lo) * B := by
  induction m with
  | zero => simp [sumTo]
  | succ m ih =>
    simp only [sumTo]
    by_cases h : p m = true
    · obtain ⟨h1, h2⟩ := hp m h
      have h3 := hB m h
      rw [if_pos h]
      rw [Nat.min_eq_left (by omega)] at ih ⊢
      rw [show m + 1 - lo = (m - lo) + 1 by omega, Nat.succ_mul]
      omega
    · rw [if_neg h]
      refine Nat.le_trans ih (Nat.mul_le_mul_right _ ?_)
      omega
/-- Which places a block lies over. -/
def ovB (n : Int) (b : Blk) (j : Nat) : Bool := over ((j : Int) * n) n b.at_ b.ch
section
variable {g l u : Nat}
/-- One block: the places that it lies over need no more than it is. -/
theorem block_sum (hu : 1 ≤ u) {k : Nat} (hk : k ≤ l) {b : Blk} (hb : Bin g l u b) (m : Nat) :
    ((sumTo (fun j => if ovB ((2 ^ (g + k) : Nat) : Int) b j = true then 2 ^ (g + ofP k (tP l u k) j) else 0) m : Nat) : Int) ≤ b.ch := by
  obtain ⟨kb, a, hkb, hch, hat, ha⟩ := hb
  have z := Nat.two_pow_pos (g + k)
  have zb := Nat.two_pow_pos (g + kb)
  have ov : ∀ j, ovB ((2 ^ (g + k) : Nat) : Int) b j = true → j * 2 ^ (g + k) < (a + 1) * 2 ^ (g + kb) ∧ a * 2 ^ (g + kb) < (j + 1) * 2 ^ (g + k) := by
    intro j h
    unfold ovB over at h
    simp only [Bool.and_eq_true, decide_eq_true_eq] at h
    rw [hch, hat, ← Int.natCast_mul] at h
    rw [Nat.succ_mul, Nat.succ_mul]
    omega
  rw [hch]
  apply Int.ofNat_le.2
  rcases Nat.le_total kb k with hle | hle
  · -- it lies in one place
    have e : 2 ^ (g + k) = 2 ^ (k - kb) * 2 ^ (g + kb) := by rw [← Nat.pow_add, show k - kb + (g + kb) = g + k by omega]
    have zr := Nat.two_pow_pos (k - kb)
    have loc : ∀ j, ovB ((2 ^ (g + k) : Nat) : Int) b j = true → j = a / 2 ^ (k - kb) := by
      intro j h
      obtain ⟨h1, h2⟩ := ov j h
      rw [e, ← Nat.mul_assoc] at h1 h2
      have h3 := Nat.lt_of_mul_lt_mul_right h1
      have h4 := Nat.lt_of_mul_lt_mul_right h2
      symm
      apply Nat.div_eq_of_lt_le
      · omega
      · exact h4
    have h := sumTo_run (fun j => 2 ^ (g + ofP k (tP l u k) j)) (ovB ((2 ^ (g + k) : Nat) : Int) b) (a / 2 ^ (k - kb)) 1 (2 ^ (g + kb)) m (fun j hj => by rw [loc j hj]; omega) (fun j hj => by
      obtain ⟨h1, h2⟩ := ov j hj
      obtain ⟨o1, o2, o3⟩ := ofP_spec (k := k) (t := tP l u k) (j := j) (tP_pos hu)
      refine Nat.pow_le_pow_right (by decide) ?_
      rcases Nat.lt_or_ge kb (ofP k (tP l u k) j) with hlt | hge
      · exfalso
        have h5 := o2 kb hlt
        have h6 : tP l u kb * 2 ^ (g + kb) = tP l u k * 2 ^ (g + k) := by rw [tP_half hkb, tP_half hk]
        have h7 : tP l u k * (2 + kb) * 2 ^ (g + k) ≤ j * 2 ^ (g + k) := Nat.mul_le_mul_right _ h5
        have h8 : (a + 1) * 2 ^ (g + kb) ≤ tP l u kb * (2 + kb) * 2 ^ (g + kb) := Nat.mul_le_mul_right _ ha
        have h9 : tP l u kb * (2 + kb) * 2 ^ (g + kb) = tP l u k * (2 + kb) * 2 ^ (g + k) := by
          rw [Nat.mul_assoc, Nat.mul_comm (2 + kb), ← Nat.mul_assoc, h6, Nat.mul_assoc, Nat.mul_comm _ (2 + kb), ← Nat.mul_assoc]
        omega
      · omega)
    refine Nat.le_trans h ?_
    have h2 : min m (a / 2 ^ (k - kb) + 1) - a / 2 ^ (k - kb) ≤ 1 := by omega
    calc _ ≤ 1 * 2 ^ (g + kb) := Nat.mul_le_mul_right _ h2
      _ = 2 ^ (g + kb) := Nat.one_mul _
  · -- it is of whole places
    have e : 2 ^ (g + kb) = 2 ^ (kb - k) * 2 ^ (g + k) := by rw [← Nat.pow_add, show kb - k + (g + k) = g + kb by omega]
    have h := sumTo_run (fun j => 2 ^ (g + ofP k (tP l u k) j)) (ovB ((2 ^ (g + k) : Nat) : Int) b) (a * 2 ^ (kb - k)) (2 ^ (kb - k)) (2 ^ (g + k)) m (fun j hj => by
      obtain ⟨h1, h2⟩ := ov j hj
      rw [e, ← Nat.mul_assoc] at h1 h2
      have h3 := Nat.lt_of_mul_lt_mul_right h1
      have h4 := Nat.lt_of_mul_lt_mul_right h2
      rw [Nat.succ_mul] at h3
      omega) (fun j _ => Nat.pow_le_pow_right (by decide) (by unfold ofP; omega))
    refine Nat.le_trans h ?_
    rw [e]
    have zr := Nat.two_pow_pos (kb - k)
    exact Nat.mul_le_mul_right _ (by omega)
/-- Places that are not free need no more than what is live. -/
theorem places_sum (hu : 1 ≤ u) {k : Nat} (hk : k ≤ l) (m : Nat) : ∀ {bl : List Blk}, (∀ b ∈ bl, Bin g l u b) →
    ((sumTo (fun j => if freeB bl ((j : Int) * ((2 ^ (g + k) : Nat) : Int)) ((2 ^ (g + k) : Nat) : Int) = false then 2 ^ (g + ofP k (tP l u k) j) else 0) m : Nat) : Int) ≤ chSum bl
  | [], _ => by
    have : sumTo (fun j => if freeB [] ((j : Int) * ((2 ^ (g + k) : Nat) : Int)) ((2 ^ (g + k) : Nat) : Int) = false then 2 ^ (g + ofP k (tP l u k) j) else 0) m = 0 := by
      induction m with
      | zero => rfl
      | succ m ih => simp only [sumTo, ih]; simp [freeB]
    rw [this]; simp [chSum]
  | b :: bl, h => by
    have h1 := block_sum hu hk (h b (by simp)) m
    have h2 := places_sum hu hk m (bl := bl) fun x hx => h x (by simp [hx])
    have h3 : sumTo (fun j => if freeB (b :: bl) ((j : Int) * ((2 ^ (g + k) : Nat) : Int)) ((2 ^ (g + k) : Nat) : Int) = false then 2 ^ (g + ofP k (tP l u k) j) else 0) m ≤
        sumTo (fun j => (if ovB ((2 ^ (g + k) : Nat) : Int) b j = true then 2 ^ (g + ofP k (tP l u k) j) else 0) + (if freeB bl ((j : Int) * ((2 ^ (g + k) : Nat) : Int)) ((2 ^ (g + k) : Nat) : Int) = false then 2 ^ (g + ofP k (tP l u k) j) else 0)) m := by
      refine sumTo_mono m fun j _ => ?_
      have e : freeB (b :: bl) ((j : Int) * ((2 ^ (g + k) : Nat) : Int)) ((2 ^ (g + k) : Nat) : Int) = (!ovB ((2 ^ (g + k) : Nat) : Int) b j && freeB bl ((j : Int) * ((2 ^ (g + k) : Nat) : Int)) ((2 ^ (g + k) : Nat) : Int)) := rfl
      rw [e]
      cases ovB ((2 ^ (g + k) : Nat) : Int) b j <;> cases freeB bl ((j : Int) * ((2 ^ (g + k) : Nat) : Int)) ((2 ^ (g + k) : Nat) : Int) <;> simp
    rw [sumTo_add] at h3
    rw [chSum_cons]
    have h4 := Int.ofNat_le.2 h3
    rw [Int.natCast_add] at h4
    omega
theorem low_sum (hu : 1 ≤ u) {k : Nat} (hk : k ≤ l) {m : Nat} {bl : List Blk} (hb : ∀ b ∈ bl, Bin g l u b) (hm : ∀ j : Nat, j < m → freeB bl ((j : Int) * ((2 ^ (g + k) : Nat) : Int)) ((2 ^ (g + k) : Nat) : Int) = false) :
    ((leastN g k (tP l u k) m : Nat) : Int) ≤ chSum bl := by
  have h := places_sum hu hk m hb
  have e : sumTo (fun j => 2 ^ (g + ofP k (tP l u k) j)) m ≤ sumTo (fun j => if freeB bl ((j : Int) * ((2 ^ (g + k) : Nat) : Int)) ((2 ^ (g + k) : Nat) : Int) = false then 2 ^ (g + ofP k (tP l u k) j) else 0) m :=
    sumTo_mono m fun j hj => by rw [if_pos (hm j hj)]; exact Nat.le_refl _
  rw [leastN_sum]
  have := Int.ofNat_le.2 e
  omega
/-- There is room, below the ceiling, and all below it is needed. -/
theorem room {c : Cf} (tp : c.Tp g l u) {k : Nat} (hk : k ≤ l) {bl : List Blk} (hb : ∀ b ∈ bl, Bin g l u b) (hs : chSum bl + ((2 ^ (g + k) : Nat) : Int) ≤ c.M) :
    ∃ j : Nat, lowJ c.H bl ((2 ^ (g + k) : Nat) : Int) = some j ∧ j < tP l u k * (2 + k) ∧ ((leastN g k (tP l u k) j : Nat) : Int) ≤ chSum bl := by
  have z := Nat.two_pow_pos (g + k)
  have hL := tp.ex.hL
  have f := tp.ok.facts
  obtain ⟨_, cH, _⟩ := tp.ok.ceil (k := (k : Int)) (by omega) (by omega)
  rw [tp.ceil hk] at cH
  have hfull := leastN_full g k (tP l u k) (tP_pos tp.hu)
  have hM2 : c.M = ((tP l u k * 2 ^ (g + 1 + k) : Nat) : Int) := by
    rw [tp.full hk, show g + 1 + k = g + k + 1 by omega, Nat.pow_succ, Nat.mul_comm 2, Nat.mul_assoc]
  cases e : lowJ c.H bl ((2 ^ (g + k) : Nat) : Int) with
  | none =>
    exfalso
    have h := (lowJ_none (by omega) (by omega)).1 e
    have h2 := low_sum tp.hu hk (m := tP l u k * (2 + k)) hb fun j hj => h j (by
      have : (j + 1) * 2 ^ (g + k) ≤ tP l u k * (2 + k) * 2 ^ (g + k) := Nat.mul_le_mul_right _ hj
      rw [Nat.succ_mul] at this
      rw [← Int.natCast_mul]; omega)
    rw [hfull, ← hM2] at h2
    omega
  | some j =>
    obtain ⟨h1, h2, h3⟩ := (lowJ_some (by omega) (by omega)).1 e
    have h4 := low_sum tp.hu hk (m := j) hb h3
    refine ⟨j, rfl, ?_, h4⟩
    rcases Nat.lt_or_ge j (tP l u k * (2 + k)) with h5 | h5
    · exact h5
    · exfalso
      have h6 := leastN_mono g k (tP l u k) h5
      rw [hfull] at h6
      have h7 := Int.ofNat_le.2 h6
      rw [← hM2] at h7
      omega
/-- A block that is placed so is one of those again. -/
theorem Bin.new {k j : Nat} (hk : k ≤ l) (hj : j < tP l u k * (2 + k)) (asked : Int) : Bin g l u ⟨(j : Int) * ((2 ^ (g + k) : Nat) : Int), ((2 ^ (g + k) : Nat) : Int), asked⟩ :=
  ⟨k, j, hk, rfl, by rw [Int.natCast_mul], hj⟩
end
end Go.Proofs.D.S
/- More on what is held. -/
set_option linter.unusedVariables false
namespace Go.Proofs.D.S
open Go Go.RowKit
variable {G G0 : GH} {L : List (Nat × Obj)}
theorem Hp.nil0 {α : Type} {k : Nat} {e : α → List Cell} [W : Wide k e] (h : Hp G0 G L) : Hp G0 G (rowE e 0 [] :: L) :=
  ⟨h.wf0, h.wf, h.nx, h.old, fun x hx => by
    rcases List.mem_cons.1 hx with rfl | hx
    · exact .inl ⟨rfl, rfl⟩
    · exact h.ok x hx, List.pairwise_cons.2 ⟨fun b hb => by
      rcases h.ok b hb with ⟨q, _⟩ | ⟨_, q, _⟩
      · exact .inr rfl
      · left; dsimp only; omega, h.nd⟩⟩
theorem tdiv_nat (a b : Nat) : Int.tdiv (a : Int) (b : Int) = ((a / b : Nat) : Int) := by rw [Int.ofNat_tdiv]
/-- The first one, put back to where it was. -/
def bk {α : Type} : Nat → List α → α → List α
  | 0, l, x => x :: l
  | _ + 1, [], x => [x]
  | k + 1, a :: l, x => a :: bk k l x
theorem bk_perm {α : Type} : ∀ (k : Nat) (l : List α) (x : α), (x :: l).Perm (bk k l x)
  | 0, l, x => List.Perm.refl _
  | k + 1, [], x => List.Perm.refl _
  | k + 1, a :: l, x => (List.Perm.swap a x l).trans ((bk_perm k l x).cons a)
theorem Hp.back {x : Nat × Obj} (h : Hp G0 G (x :: L)) (k : Nat) : Hp G0 G (bk k L x) := h.perm (bk_perm k L x)
theorem Hp.ents {id : Nat} {ks : VS} {es : List (V1 × V1)} (h : Hp G0 G ((id, .map ks es) :: L)) : id ≠ 0 ∧ G.ents ks id = some es ∧ G.ents0 ks id = some es := by
  have hid : id ≠ 0 := by
    rcases h.ok _ (List.mem_cons_self ..) with ⟨_, b⟩ | ⟨_, b, _⟩
    · cases b
    · dsimp only at b; omega
  have e : G.ents ks id = some es := by unfold GH.ents; rw [(h.hd hid).2]; simp
  exact ⟨hid, e, by unfold GH.ents0; rw [if_neg hid, e]⟩
theorem mapGet_put (k k' x : V1) : ∀ es : List (V1 × V1), mapGet (mapPut es k x) k' = if k = k' then some x else mapGet es k'
  | [] => by simp [mapPut, mapGet]
  | (a, b) :: es => by
    unfold mapPut
    by_cases h : a = k
    · rw [if_pos h]
      subst h
      simp only [mapGet]
      by_cases h2 : a = k'
      · rw [if_pos h2, if_pos h2]
      · rw [if_neg h2, if_neg h2]; simp [h2]
    · rw [if_neg h]
      simp only [mapGet]
      by_cases h2 : a = k'
      · rw [if_pos h2]
        by_cases h3 : k = k'
        · exact absurd (h2.trans h3.symm) h
        · rw [if_neg h3]; simp [h2]
      · rw [if_neg h2, mapGet_put k k' x es]; simp [h2]
end Go.Proofs.D.S
/- A slice of pairs of bytes that a law is given. -/
set_option linter.unusedVariables false
namespace Go.Proofs.D
open Go Go.ChangeShapes Go.WideShapes Go.RowKit Go.Deep
namespace S
abbrev eP (p : Int × Int) : List Cell := [.int .u8 p.1, .int .u8 p.2]
theorem eP_len : ∀ l : List (Int × Int), (cells eP l).length = l.length * 2
  | [] => rfl
  | p :: l => by show (eP p ++ cells eP l).length = _; rw [List.length_append, eP_len l, List.length_cons]; simp; omega
theorem eP_get : ∀ (l : List (Int × Int)) (i : Nat) (y : Cell), (cells eP l)[i]? = some y → ∃ p, l[i / 2]? = some p ∧ (i % 2 = 0 ∧ y = .int .u8 p.1 ∨ i % 2 = 1 ∧ y = .int .u8 p.2)
  | [], i, y, h => by simp [cells] at h
  | p :: l, 0, y, h => ⟨p, rfl, .inl ⟨rfl, (Option.some.inj h).symm⟩⟩
  | p :: l, 1, y, h => ⟨p, rfl, .inr ⟨rfl, (Option.some.inj h).symm⟩⟩
  | p :: l, i + 2, y, h => by
    obtain ⟨q, h1, h2⟩ := eP_get l i y h
    exact ⟨q, by rw [show (i + 2) / 2 = i / 2 + 1 by omega]; exact h1, by rw [show (i + 2) % 2 = i % 2 by omega]; exact h2⟩
theorem eP_nil {l : List (Int × Int)} (h : cells eP l = []) : l = [] := by
  cases l with
  | nil => rfl
  | cons p l => exact absurd h (by show ¬ (eP p ++ cells eP l) = []; simp)
end S
theorem arg_pairs {H : Type} {enc : TypeId × Value → H} {P : Program} {W : World} {base : Nat} {held : Bool} {t e b : TypeId} {v : Value} {d : DataW H} {p : List MemPlace}
    (ht : P.underlying t = some (.slice e)) (he : P.underlying e = some (.array 2 b)) (hc : P.cellsOf e = 2) (hb : P.underlying b = some (.int .u8)) (hb1 : P.cellsOf b = 1) (hv : Value.okWide P W .any base t v) (h : DataW.Trod enc P W 0 (fun _ => true) held t v d p) :
    ∃ a n cap zs, v = .slice a n cap ∧ IsArg W a n cap 2 (S.cells S.eP zs) ∧ zs.length = n ∧ ∀ x ∈ zs, (0 ≤ x.1 ∧ x.1 ≤ 255) ∧ (0 ≤ x.2 ∧ x.2 ≤ 255) := by
  obtain ⟨a, n, cap, rfl⟩ := okWide_slice ht hv
  have hsp : ∀ x, a = some x → x.spot = none := by
    rintro x rfl
    simp only [Value.okWide, ht, Cell.okWide, Cell.ok] at hv
    exact hv.2.2.2.1
  obtain ⟨fuel, hf⟩ := h
  rcases open_slice ht hf with ⟨hcs, _⟩ | ⟨x, l, c, m, k, D, Pl, hcs, _, hl, _, hm, _, hx⟩
  · simp [Value.cells] at hcs
    obtain ⟨rfl, rfl, rfl⟩ := hcs
    exact ⟨_, _, _, [], rfl, .inl ⟨rfl, rfl, rfl, rfl⟩, rfl, by simp⟩
  · simp [Value.cells] at hcs
    obtain ⟨rfl, rfl, rfl⟩ := hcs
    have hm : m = cap := by simpa using hm
    subst hm
    have each : ∀ i, i < m → ∃ q : Int × Int, W.cell? (x.add (i * 2)) = some (.int .u8 q.1) ∧ W.cell? (x.add (i * 2 + 1)) = some (.int .u8 q.2) ∧ (0 ≤ q.1 ∧ q.1 ≤ 255) ∧ (0 ≤ q.2 ∧ q.2 ≤ 255) := by
      intro i hi
      obtain ⟨cs', h1, h2⟩ := hx i hi
      rw [hc] at h1
      obtain ⟨_, hlen, hcell⟩ := World.cells?_some h1
      obtain ⟨xs, k', _, _, _, hxl, hel⟩ := DataW.trod_array he h2
      rw [hb1] at hel
      match xs, hxl, cs', hlen with
      | [y0, y1], _, [v0, v1], _ =>
        have g0 : DataW.trod enc P W 0 (fun _ => true) held k' b [v0] = some y0 := by simpa using hel 0 (by omega)
        have g1 : DataW.trod enc P W 0 (fun _ => true) held k' b [v1] = some y1 := by simpa using hel 1 (by omega)
        obtain ⟨a0, e0, _, w0⟩ := DataW.trod_int hb g0
        obtain ⟨a1, e1, _, w1⟩ := DataW.trod_int hb g1
        simp only [List.cons.injEq, and_true] at e0 e1
        subst e0 e1
        have c0 := hcell 0 (by omega)
        have c1 := hcell 1 (by omega)
        rw [add_add] at c0 c1
        exact ⟨(a0, a1), by simpa using c0, by simpa using c1, wf8 w0, wf8 w1⟩
    obtain ⟨q, hq⟩ := choose_lt each
    refine ⟨_, _, _, (List.range n).map q, rfl, .inr ⟨x, rfl, hsp x rfl, hl, ?_, fun i hi => ?_, fun i y hy => ?_⟩, by simp, fun y hy => ?_⟩
    · rw [S.eP_len]; simp
    · rcases Nat.mod_two_eq_zero_or_one i with h2 | h2
      · have := (hq (i / 2) (by omega)).1; rw [show i / 2 * 2 = i by omega] at this; exact ⟨_, this⟩
      · have := (hq (i / 2) (by omega)).2.1; rw [show i / 2 * 2 + 1 = i by omega] at this; exact ⟨_, this⟩
    · obtain ⟨z, h1, h2⟩ := S.eP_get _ i y hy
      obtain ⟨j, hj, hz, hji⟩ : ∃ j, j < n ∧ q j = z ∧ j = i / 2 := by
        rw [List.getElem?_map] at h1
        obtain ⟨j, hj, e⟩ := Option.map_eq_some_iff.1 h1
        have := (List.getElem?_eq_some_iff.1 hj).1
        rw [List.length_range] at this
        rw [List.getElem?_range this] at hj
        cases hj
        exact ⟨_, this, e, rfl⟩
      subst hz
      have g := hq j (by omega)
      rcases h2 with ⟨h2, rfl⟩ | ⟨h2, rfl⟩
      · have := g.1; rw [show j * 2 = i by omega] at this; exact ⟨_, this, fun φ => rfl⟩
      · have := g.2.1; rw [show j * 2 + 1 = i by omega] at this; exact ⟨_, this, fun φ => rfl⟩
    · obtain ⟨j, hj, rfl⟩ := List.mem_map.1 hy
      exact (hq j (by have := List.mem_range.1 hj; omega)).2.2
end Go.Proofs.D
/- CeilHolds: whatever the numbers, the law answers yes. -/
set_option linter.unusedVariables false
set_option linter.unusedSimpArgs false
namespace Go.Proofs.D.S
open Go Go.RowKit
instance : Wide 2 eP := ⟨fun _ => rfl, by decide⟩
theorem Bin.in {c : Cf} {g l u : Nat} (tp : c.Tp g l u) {b : Blk} (h : Bin g l u b) : inC c g l b = true := by
  obtain ⟨k, a, hk, hch, hat, ha⟩ := h
  unfold inC
  rw [hch, shiftS_pow hk]
  have e := tp.ceil hk
  have h1 : (a + 1) * 2 ^ (g + k) ≤ tP l u k * (2 + k) * 2 ^ (g + k) := Nat.mul_le_mul_right _ ha
  rw [Nat.succ_mul] at h1
  have h2 : ¬ b.at_ > c.ceil (k : Int) - ((2 ^ (g + k) : Nat) : Int) := by rw [e, hat]; omega
  rw [decide_eq_false h2]; rfl
theorem Bin.ok {c : Cf} {g l u : Nat} (tp : c.Tp g l u) {b : Blk} (h : Bin g l u b) : 0 ≤ b.at_ ∧ b.at_ ≤ 65536 ∧ 1 ≤ b.ch ∧ b.ch ≤ 65536 := by
  obtain ⟨k, a, hk, hch, hat, ha⟩ := h
  have z := Nat.two_pow_pos (g + k)
  have hs := tp.small hk
  have h1 : (a + 1) * 2 ^ (g + k) ≤ tP l u k * (2 + k) * 2 ^ (g + k) := Nat.mul_le_mul_right _ ha
  rw [Nat.succ_mul] at h1
  rw [hch, hat]; omega
theorem Bin.all {c : Cf} {g l u : Nat} (tp : c.Tp g l u) {bl : List Blk} (h : ∀ b ∈ bl, Bin g l u b) : bl.all (inC c g l) = true ∧ BlkOk bl := by
  refine ⟨List.all_eq_true.2 fun b hb => (h b hb).in tp, fun b hb => ?_⟩
  have := (h b hb).ok tp
  omega
theorem chSum_append (a b : List Blk) : chSum (a ++ b) = chSum a + chSum b := by simp [chSum]
theorem emod_place {p n t : Nat} (hn : 0 < n) (ht : 0 < t) : ∃ a : Nat, a < t ∧ ((p * n % (t * n)) / n) = a := ⟨_, (Nat.div_lt_iff_lt_mul hn).2 (Nat.mod_lt _ (Nat.mul_pos ht hn)), rfl⟩
theorem hodmanlaw20_CeilHolds.law {G : GH} (hG : Beg G) {id : Nat} {xs : List Int} (hs : Sl G eU8 id 0 xs) (hb : Bytes xs) {lid : Nat} {ps : List (Int × Int)} (hl : Sl G eP lid 0 ps) (hp : ∀ p ∈ ps, (0 ≤ p.1 ∧ p.1 ≤ 255) ∧ (0 ≤ p.2 ∧ p.2 ≤ 255)) {kk : Int} (hkk : 0 ≤ kk ∧ kk ≤ 255) :
    OkT (CW hodmanlaw20_CeilHolds.id [.c (.sl 1 id 0 xs.length), .c (.sl 2 lid 0 ps.length), .c (.int .u8 kk)] G) := by
  obtain ⟨G1, e1, f1⟩ := hodmanlaw20_begun.sp hG
  rw [hodmanlaw20_CeilHolds.cw]
  unfold hodmanlaw20_CeilHolds.f
  simp only [e1, q_bs, q_I, q_B, q_P, q_S, q_M, q_c, q_a, q_gz, q_gs, q_gk, q_ct, q_cf, q_nt, q_nf, q_xt, q_xf, q_tt, q_ff, q_tf, q_ft, q_at, q_af, hodmanlaw20_CeilHolds.J13_eq]
  by_cases h6 : (xs.length : Int) > 6
  · rw [condD_pos h6]; exact ⟨_, rfl⟩
  rw [condD_neg h6]
  by_cases h40 : (ps.length : Int) > 40
  · rw [condD_pos h40]; exact ⟨_, rfl⟩
  rw [condD_neg h40]
  have h0 := Hp.refl f1.wf
  have p0 : PkOk G1 [] id 0 xs.length xs := ⟨.old (f1.sl _ _ _ _ hs), hb, rfl, by omega⟩
  obtain ⟨pid, G2, e2, h2⟩ := hodmanplay_Made.sp h0 id 0 xs.length
  obtain ⟨r, j, G3, e3, h3, rok, _, _⟩ := hodmanplay_Picks_Conf.sp h2 p0 (by omega) (by omega) false
  simp only [e2, e3, q_bs, q_I, q_B, q_P, q_S, q_M, q_c, q_a, q_gz, q_gs, q_gk, q_ct, q_cf, q_nt, q_nf, q_xt, q_xf, q_tt, q_ff, q_tf, q_ft, q_at, q_af, List.length_cons, List.length_nil, if_true]
  obtain ⟨g0, c0, q0, sm⟩ := rok.cfSmall
  have sl3 : Sl G3 eP lid 0 ps := (f1.sl _ _ _ _ hl).keep h3
  have hw := h3.wf
  have hpl : ps.length ≤ 40 := by omega
  clear e1 e2 e3 h3 h2 p0 h0
  generalize cfOf r = C at *
  have ok := sm.ok
  clear sm rok
  obtain ⟨g, l, u, tp⟩ := ok.tp
  have fs := ok.facts
  have hL := tp.ex.hL
  have hgl := tp.ex.hgl
  rw [condD_neg (show ¬ C.G = 0 by omega)]
  have hmost : (1000 : Nat) ≤ most := by unfold most; decide
  -- the end: one more
  have fin : ∀ (bid : Nat) (bl : List Blk) (G4 : GH), Hp G3 G4 [rowE eBlk bid bl] → (∀ b ∈ bl, Bin g l u b) → bl.length ≤ 40 → chSum bl ≤ C.M →
      OkT (hodmanlaw20_CeilHolds.L63 machW CW lid 0 ps.length kk bid 0 bl.length (chSum bl) ((ps.length : Nat) : Int) C.G C.N C.M C.L C.Pg C.P C.H C.Sd G4) := by
    intro bid bl G4 h hbin hlen hsum
    obtain ⟨hin, hbok⟩ := Bin.all tp hbin
    have s := h.sl0
    have hnn : 0 ≤ chSum bl := by
      have : ∀ (bl : List Blk), (∀ b ∈ bl, Bin g l u b) → 0 ≤ chSum bl := by
        intro bl
        induction bl with
        | nil => intro _; simp [chSum]
        | cons b bl ih => intro hh; have := ih fun x hx => hh x (by simp [hx]); have := (hh b (by simp)).ok tp; rw [chSum_cons]; omega
      exact this bl hbin
    rw [hodmanlaw20_CeilHolds.L63_eq, condD_neg (by omega), ceil_Within.sp tp s hbok (by omega), hin]
    have n0 := Int.emod_nonneg kk (b := C.L + 1) (by omega)
    have n1 := Int.emod_lt_of_pos kk (b := C.L + 1) (by omega)
    simp only [q_bs, q_I, q_B, q_P, q_S, q_M, q_c, q_a, q_gz, q_gs, q_gk, q_ct, q_cf, q_nt, q_nf, q_xt, q_xf, q_tt, q_ff, q_tf, q_ft, q_at, q_af, i64w, wrap_id (a := kk) (by omega) (by omega), wrap_id (a := C.L + 1) (by omega) (by omega), binD_rem (show C.L + 1 ≠ 0 by omega), Int.tmod_eq_emod_of_nonneg hkk.1]
    obtain ⟨k, hk⟩ : ∃ k : Nat, kk % (C.L + 1) = (k : Int) := ⟨_, (Int.toNat_of_nonneg n0).symm⟩
    rw [hk] at n1 ⊢
    have hkl : k ≤ l := by omega
    have z := Nat.two_pow_pos (g + k)
    have y := pow16 (e := g + k) (by omega)
    rw [hodmanref1_Size.sp tp.ex.hG (by omega)]
    simp only [q_bs, q_I, q_B, q_P, q_S, q_M, q_c, q_a, q_gz, q_gs, q_gk, q_ct, q_cf, q_nt, q_nf, q_xt, q_xf, q_tt, q_ff, q_tf, q_ft, q_at, q_af]
    rw [wrap_id (by omega) (by omega)]
    by_cases hfull : chSum bl + ((2 ^ (g + k) : Nat) : Int) > C.M
    · rw [condD_pos hfull]; exact ⟨_, rfl⟩
    rw [condD_neg hfull]
    obtain ⟨j, hj1, hj2, hj3⟩ := room tp hkl hbin (by omega)
    have hlr : lowR C.H bl ((2 ^ (g + k) : Nat) : Int) = (((j * 2 ^ (g + k) : Nat) : Int), true) := by unfold lowR; rw [hj1, Int.natCast_mul]
    have hce := tp.ceil hkl
    obtain ⟨_, cH, _⟩ := tp.ok.ceil (k := (k : Int)) (by omega) (by omega)
    have hjn : (j + 1) * 2 ^ (g + k) ≤ tP l u k * (2 + k) * 2 ^ (g + k) := Nat.mul_le_mul_right _ hj2
    have hjs := hjn
    rw [Nat.succ_mul] at hjs
    rw [hodmanref17_Lowest.sp s hbok (by omega) (by omega) (by omega), hlr]
    simp only [q_bs, q_I, q_B, q_P, q_S, q_M, q_c, q_a, q_gz, q_gs, q_gk, q_ct, q_cf, q_nt, q_nf, q_xt, q_xf, q_tt, q_ff, q_tf, q_ft, q_at, q_af]
    rw [hodmanref1_Ceil.sp tp.ok]
    simp only [q_bs, q_I, q_B, q_P, q_S, q_M, q_c, q_a, q_gz, q_gs, q_gk, q_ct, q_cf, q_nt, q_nf, q_xt, q_xf, q_tt, q_ff, q_tf, q_ft, q_at, q_af]
    rw [wrap_id (by omega) (by omega), condD_pos (by omega), ceil_Least.sp tp hkl j (Int.le_refl _) (by rw [Nat.succ_mul]; omega) (by omega)]
    simp only [q_bs, q_I, q_B, q_P, q_S, q_M, q_c, q_a, q_gz, q_gs, q_gk, q_ct, q_cf, q_nt, q_nf, q_xt, q_xf, q_tt, q_ff, q_tf, q_ft, q_at, q_af]
    rw [condD_pos hj3]
    obtain ⟨b2, G5, h5, e5⟩ := h.app1 (S := Res) (n := bl.length) ⟨((j * 2 ^ (g + k) : Nat) : Int), ((2 ^ (g + k) : Nat) : Int), 0⟩ rfl (by omega)
    rw [e5]
    have hbin2 : ∀ b ∈ bl ++ [⟨((j * 2 ^ (g + k) : Nat) : Int), ((2 ^ (g + k) : Nat) : Int), 0⟩], Bin g l u b := by
      intro b hb
      rcases List.mem_append.1 hb with hb | hb
      · exact hbin b hb
      · simp only [List.mem_singleton] at hb; subst hb; exact ⟨k, j, hkl, rfl, rfl, hj2⟩
    obtain ⟨hin2, hbok2⟩ := Bin.all tp hbin2
    have := ceil_Within.sp tp h5.sl0 hbok2 (by simp; omega)
    rw [List.length_append, List.length_singleton] at this
    dsimp only
    rw [this, hin2]
    exact ⟨_, rfl⟩
  have lp : ∀ (d i : Nat), i + d = ps.length → ∀ (bid : Nat) (bl : List Blk) (G4 : GH), Hp G3 G4 [rowE eBlk bid bl] → (∀ b ∈ bl, Bin g l u b) → bl.length ≤ i → 0 ≤ chSum bl ∧ chSum bl ≤ C.M →
      OkT (hodmanlaw20_CeilHolds.L63 machW CW lid 0 ps.length kk bid 0 bl.length (chSum bl) (i : Int) C.G C.N C.M C.L C.Pg C.P C.H C.Sd G4) := by
    intro d
    induction d with
    | zero =>
      intro i hi bid bl G4 h hbin hlen hsum
      rw [show i = ps.length by omega]
      exact fin bid bl G4 h hbin (by omega) hsum.2
    | succ d ih =>
      intro i hi bid bl G4 h hbin hlen hsum
      have hil : i < ps.length := by omega
      have zz : decide (0 ≤ (i : Int) ∧ (i : Int) < ((ps.length : Nat) : Int)) = true := decide_eq_true (by omega)
      have s4 : Sl G4 eP lid 0 ps := sl3.keep h
      obtain ⟨hp1, hp2⟩ := hp _ (List.getElem_mem hil)
      have r0 := s4.ld i 0 hil (by omega)
      have r1 := s4.ld i 1 hil (by omega)
      have t0 : Int.toNat 0 * 1 = 0 := by decide
      have t1 : Int.toNat 1 * 1 = 1 := by decide
      have n0 := Int.emod_nonneg ps[i].1 (b := C.L + 1) (by omega)
      have n1 := Int.emod_lt_of_pos ps[i].1 (b := C.L + 1) (by omega)
      obtain ⟨k, hk⟩ : ∃ k : Nat, ps[i].1 % (C.L + 1) = (k : Int) := ⟨_, (Int.toNat_of_nonneg n0).symm⟩
      have hkl : k ≤ l := by omega
      have z := Nat.two_pow_pos (g + k)
      have y := pow16 (e := g + k) (by omega)
      have hce := tp.ceil hkl
      have hsm := tp.small hkl
      have ht := tP_pos (l := l) (k := k) tp.hu
      have hT : 0 < tP l u k * (2 + k) := Nat.mul_pos ht (by omega)
      have hTn : 0 < tP l u k * (2 + k) * 2 ^ (g + k) := Nat.mul_pos hT z
      obtain ⟨q, hq⟩ : ∃ q : Nat, ps[i].2 = (q : Int) := ⟨_, (Int.toNat_of_nonneg hp2.1).symm⟩
      have hq2 : q ≤ 255 := by omega
      have hqn : q * 2 ^ (g + k) ≤ 255 * 65536 := Nat.mul_le_mul hq2 y
      have d1 : decide (0 ≤ (0 : Int) ∧ (0 : Int) < ((2 : Nat) : Int)) = true := by decide
      have d2 : decide (0 ≤ (1 : Int) ∧ (1 : Int) < ((2 : Nat) : Int)) = true := by decide
      rw [hodmanlaw20_CeilHolds.L63_eq, condD_pos (by omega)]
      simp only [zz, d1, d2, Int.toNat_natCast, t0, t1, r0, r1, q_bs, q_I, q_B, q_P, q_S, q_M, q_c, q_a, q_gz, q_gs, q_gk, q_ct, q_cf, q_nt, q_nf, q_xt, q_xf, q_tt, q_ff, q_tf, q_ft, q_at, q_af, i64w, wrap_id (a := ps[i].1) (by omega) (by omega), wrap_id (a := C.L + 1) (by omega) (by omega), binD_rem (show C.L + 1 ≠ 0 by omega), Int.tmod_eq_emod_of_nonneg hp1.1, hk]
      rw [hodmanref1_Size.sp tp.ex.hG (by omega)]
      simp only [q_bs, q_I, q_B, q_P, q_S, q_M, q_c, q_a, q_gz, q_gs, q_gk, q_ct, q_cf, q_nt, q_nf, q_xt, q_xf, q_tt, q_ff, q_tf, q_ft, q_at, q_af, r1]
      rw [hodmanref1_Ceil.sp tp.ok, hce]
      have hm : wrap64 (wrap64 ps[i].2 * ((2 ^ (g + k) : Nat) : Int)) = ((q * 2 ^ (g + k) : Nat) : Int) := by
        rw [hq, wrap_id (a := (q : Int)) (by omega) (by omega), ← Int.natCast_mul, wrap_id (by omega) (by omega)]
      obtain ⟨a, ha, hae⟩ := emod_place (p := q) z hT
      have hrem : binD .rem .i64 ((q * 2 ^ (g + k) : Nat) : Int) ((tP l u k * (2 + k) * 2 ^ (g + k) : Nat) : Int) = some ((q * 2 ^ (g + k) % (tP l u k * (2 + k) * 2 ^ (g + k)) : Nat) : Int) := by
        rw [binD_rem (by omega), Int.tmod_eq_emod_of_nonneg (by omega)]; rfl
      have hmodlt := Nat.mod_lt (q * 2 ^ (g + k)) hTn
      have hquo : binD .quo .i64 ((q * 2 ^ (g + k) % (tP l u k * (2 + k) * 2 ^ (g + k)) : Nat) : Int) ((2 ^ (g + k) : Nat) : Int) = some (a : Int) := by
        rw [binD_quo (by omega), tdiv_nat, hae, i64w]
        have : a ≤ q * 2 ^ (g + k) % (tP l u k * (2 + k) * 2 ^ (g + k)) := by rw [← hae]; exact Nat.div_le_self _ _
        rw [wrap_id (by omega) (by omega)]
      have han : (a + 1) * 2 ^ (g + k) ≤ tP l u k * (2 + k) * 2 ^ (g + k) := Nat.mul_le_mul_right _ ha
      have hat : wrap64 ((a : Int) * ((2 ^ (g + k) : Nat) : Int)) = ((a * 2 ^ (g + k) : Nat) : Int) := by
        rw [Nat.succ_mul] at han
        rw [← Int.natCast_mul, wrap_id (by omega) (by omega)]
      simp only [q_bs, q_I, q_B, q_P, q_S, q_M, q_c, q_a, q_gz, q_gs, q_gk, q_ct, q_cf, q_nt, q_nf, q_xt, q_xf, q_tt, q_ff, q_tf, q_ft, q_at, q_af, r1, decide_true, i64w, hm, hrem, hquo, hat]
      rw [wrap_id (a := chSum bl + ((2 ^ (g + k) : Nat) : Int)) (by omega) (by omega)]
      -- what follows: it is put in, or not
      have no : OkT (hodmanlaw20_CeilHolds.J60 machW CW lid 0 ps.length kk bid 0 bl.length (chSum bl) (i : Int) C.G C.N C.M C.L C.Pg C.P C.H C.Sd G4) := by
        rw [hodmanlaw20_CeilHolds.J60_eq, i64w, wrap_id (by omega) (by omega)]
        exact ih (i + 1) (by omega) bid bl G4 h hbin (by omega) hsum
      have yes : chSum bl + ((2 ^ (g + k) : Nat) : Int) ≤ C.M → ∀ (G5 : GH) (x : Option Res), x = hodmanlaw20_CeilHolds.J39 machW CW lid 0 ps.length kk bid 0 bl.length (chSum bl) (i : Int) ((2 ^ (g + k) : Nat) : Int) ((a * 2 ^ (g + k) : Nat) : Int) true (bl.length : Int) false C.G C.N C.M C.L C.Pg C.P C.H C.Sd G4 → OkT x := by
        intro hle G5 x hx
        subst hx
        obtain ⟨b2, G6, h6, e6⟩ := h.app1 (S := Res) (n := bl.length) ⟨((a * 2 ^ (g + k) : Nat) : Int), ((2 ^ (g + k) : Nat) : Int), 0⟩ rfl (by omega)
        rw [hodmanlaw20_CeilHolds.J39_eq, q_cf, q_ct]
        dsimp only
        rw [e6, hodmanlaw20_CeilHolds.J60_eq, i64w, i64w, wrap_id (by omega) (by omega), wrap_id (by omega) (by omega)]
        have e7 : chSum (bl ++ [⟨((a * 2 ^ (g + k) : Nat) : Int), ((2 ^ (g + k) : Nat) : Int), 0⟩]) = chSum bl + ((2 ^ (g + k) : Nat) : Int) := by rw [chSum_append]; simp [chSum]
        have := ih (i + 1) (by omega) b2 _ G6 h6 (fun b hb => by
          rcases List.mem_append.1 hb with hb | hb
          · exact hbin b hb
          · simp only [List.mem_singleton] at hb; subst hb; exact ⟨k, a, hkl, rfl, rfl, ha⟩) (by simp; omega) (by rw [e7]; omega)
        rw [e7, List.length_append, List.length_singleton] at this
        exact this
      have hin : ∀ (d x : Nat) (free : Bool), x + d = bl.length → (free = true → chSum bl + ((2 ^ (g + k) : Nat) : Int) ≤ C.M) →
          OkT (hodmanlaw20_CeilHolds.L46 machW CW lid 0 ps.length kk bid 0 bl.length (chSum bl) (i : Int) ((2 ^ (g + k) : Nat) : Int) ((a * 2 ^ (g + k) : Nat) : Int) free (x : Int) C.G C.N C.M C.L C.Pg C.P C.H C.Sd G4) := by
        intro d
        induction d with
        | zero =>
          intro x free hx hf
          rw [hodmanlaw20_CeilHolds.L46_eq, condD_neg (by omega)]
          cases free with
          | true => exact yes (hf rfl) G4 _ (by rw [show x = bl.length by omega])
          | false => rw [hodmanlaw20_CeilHolds.J39_eq, q_cf, q_cf]; exact no
        | succ d ih2 =>
          intro x free hx hf
          rw [hodmanlaw20_CeilHolds.L46_eq, condD_pos (by omega)]
          cases free with
          | false => rw [hodmanlaw20_CeilHolds.J39_eq, q_cf, q_cf]; exact no
          | true =>
            have hxl : x < bl.length := by omega
            have zx : decide (0 ≤ (x : Int) ∧ (x : Int) < ((bl.length : Nat) : Int)) = true := decide_eq_true (by omega)
            have s5 := h.sl0
            have ob := (hbin _ (List.getElem_mem hxl)).ok tp
            have next : ∀ free, OkT (hodmanlaw20_CeilHolds.J43 machW CW lid 0 ps.length kk bid 0 bl.length (chSum bl) (i : Int) ((2 ^ (g + k) : Nat) : Int) ((a * 2 ^ (g + k) : Nat) : Int) free (x : Int) C.G C.N C.M C.L C.Pg C.P C.H C.Sd G4) := by
              intro free
              rw [hodmanlaw20_CeilHolds.J43_eq, i64w, wrap_id (by omega) (by omega)]
              exact ih2 (x + 1) free (by omega) (fun _ => hf rfl)
            rw [hodmanlaw20_CeilHolds.J39_eq, q_ct]
            simp only [zx, Int.toNat_natCast, s5.ld x 0 hxl (by omega), s5.ld x 1 hxl (by omega), q_bs, q_I, q_B, q_P, q_S, q_M, q_c, q_a, q_gz, q_gs, q_gk, q_ct, q_cf, q_nt, q_nf, q_xt, q_xf, q_tt, q_ff, q_tf, q_ft, q_at, q_af]
            by_cases hc : IntKind.i64.wrap (((a * 2 ^ (g + k) : Nat) : Int) + ((2 ^ (g + k) : Nat) : Int)) ≤ bl[x].at_
            · rw [condD_pos hc]; exact next _
            · rw [condD_neg hc]; exact next _
      exact hin bl.length 0 _ (by omega) (fun hd => by simpa using hd)
  have h00 : Hp G3 G3 [rowE eBlk 0 []] := (Hp.refl hw).nil0 (e := eBlk)
  exact lp ps.length 0 (by omega) 0 [] G3 h00 (fun b hb => by simp at hb) (by simp) (by simp [chSum]; omega)
end Go.Proofs.D.S
