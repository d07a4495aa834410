/- Texts of the proof (OKT, SpCalc, SpConf, SpClass, SpPicks, BegC, DPure, SpLow, DCeil, DTight, SpScript, SpTight, LawTightAll); no condition. -/
import Derived.Test.YtbgnjpbcdkegoaaFb
import Derived.Test.YtbgnjpbcdkegoaaTightAlle
import Derived.Test.YtbgnjpbcdkegoaaTightAllf
import Derived.Test.YtbgnjpbcdkegoaaTightAlld
set_option linter.unusedSimpArgs false
set_option linter.unusedVariables false
/- All functions pass the check. -/
set_option maxRecDepth 100000
namespace Go.Proofs.D
open Go
theorem tab_ok : ∀ x ∈ tab, okF Try.prog x.1 x.2.1 x.2.2 = true := by
  unfold tab
  exact List.forall_mem_cons.2 ⟨tight_may.ok, List.forall_mem_cons.2 ⟨tight_writer_frees.ok, List.forall_mem_cons.2 ⟨conf_Ceil.ok, List.forall_mem_cons.2 ⟨tight_writer_fills.ok, List.forall_mem_cons.2 ⟨tight_all.ok, List.forall_mem_cons.2 ⟨tight_Stages.ok, List.forall_mem_cons.2 ⟨tight_Script.ok, List.forall_mem_cons.2 ⟨hodmanref1_Up.ok, List.forall_mem_cons.2 ⟨hodmanref1_Add.ok, List.forall_mem_cons.2 ⟨hodmanref1_Round.ok, List.forall_mem_cons.2 ⟨hodmanref1_Log.ok, List.forall_mem_cons.2 ⟨hodmanref1_Of.ok, List.forall_mem_cons.2 ⟨hodmanlaw21_begun.ok, List.forall_mem_cons.2 ⟨hodmanplay_Made.ok, List.forall_mem_cons.2 ⟨hodmanplay_Picks_Num.ok, List.forall_mem_cons.2 ⟨hodmanplay_Picks_Raw.ok, List.forall_mem_cons.2 ⟨hodmanplay_Picks_Conf.ok, List.forall_mem_cons.2 ⟨hodmanref1_Size.ok, List.forall_mem_cons.2 ⟨hodmanref8_Over.ok, List.forall_mem_cons.2 ⟨hodmanref17_Lowest.ok, List.forall_mem_cons.2 ⟨hodmanref17_put.ok, List.forall_mem_cons.2 ⟨hodmanref17_Script.ok, List.forall_mem_cons.2 ⟨hodmanref17_SameOps.ok, List.forall_mem_cons.2 ⟨hodmanlaw21_TightAll.ok, List.forall_mem_nil _⟩⟩⟩⟩⟩⟩⟩⟩⟩⟩⟩⟩⟩⟩⟩⟩⟩⟩⟩⟩⟩⟩⟩⟩
theorem T_ok : ∀ f p d, T f = some (p, d) → okF Try.prog f p d = true := by
  intro f p d h
  unfold T at h
  obtain ⟨x, hx, e⟩ := Option.map_eq_some_iff.1 h
  have h1 := List.mem_of_find?_eq_some hx
  have h2 := List.find?_some hx
  have h3 : x.1 = f := by simpa using h2
  have := tab_ok x h1
  rw [h3, e] at this
  exact this
theorem mixed : Try.prog.follows .mixedOrders = true := by kernel_rfl
end Go.Proofs.D
/- What the functions of calc and of the first reference come to. -/
set_option linter.unusedVariables false
set_option linter.unusedSimpArgs false
namespace Go.Proofs.D.S
open Go Go.RowKit
variable {G : GH}
theorem band_eq (x y : Int) : Go.bits .and .i64 x y = IntKind.i64.wrap (((BitVec.ofInt IntKind.i64.bits x) &&& (BitVec.ofInt IntKind.i64.bits y)).toNat : Int) := rfl
theorem bxor_eq (x y : Int) : Go.bits .xor .i64 x y = IntKind.i64.wrap (((BitVec.ofInt IntKind.i64.bits x) ^^^ (BitVec.ofInt IntKind.i64.bits y)).toNat : Int) := rfl
theorem hodmanref1_Add.sp {a b : Int} (ha : R64 a) (hb : R64 b) : CW hodmanref1_Add.id [.c (.int .i64 a), .c (.int .i64 b)] G = some ([.c (.int .i64 (addS a b).1), .c (.bool (addS a b).2)], G) := by
  rw [hodmanref1_Add.cw]
  unfold hodmanref1_Add.f addS
  unfold R64 at ha hb
  by_cases h : R64 (a + b)
  · rw [if_pos h]
    have h' := h
    unfold R64 at h
    simp only [i64w, wrap_in h', hodmanref1_Add.J6_eq, Bool.cond_decide, q_bs, q_I, q_B, q_P, q_S, q_M, q_c, q_a, q_gz, q_gs, q_gk, q_ct, q_cf, q_nt, q_nf, q_xt, q_xf, q_tt, q_ff, q_tf, q_ft, q_at, q_af]
    by_cases b0 : b > 0
    · rw [if_pos b0, if_neg (by unfold wrap64; omega), if_neg (by omega)]
    · rw [if_neg b0]
      by_cases b1 : b < 0
      · rw [if_pos b1, if_neg (by unfold wrap64; omega)]
      · rw [if_neg b1]
  · rw [if_neg h]
    unfold R64 at h
    simp only [i64w, hodmanref1_Add.J6_eq, Bool.cond_decide, q_bs, q_I, q_B, q_P, q_S, q_M, q_c, q_a, q_gz, q_gs, q_gk, q_ct, q_cf, q_nt, q_nf, q_xt, q_xf, q_tt, q_ff, q_tf, q_ft, q_at, q_af]
    by_cases b0 : b > 0
    · rw [if_pos b0, if_pos (by unfold wrap64; omega)]
    · rw [if_neg b0]
      by_cases b1 : b < 0
      · rw [if_pos b1, if_pos (by unfold wrap64; omega)]
      · omega
theorem hodmanref1_Round.sp {v d : Int} (hv : R64 v) (ht : R64 d) : CW hodmanref1_Round.id [.c (.int .i64 v), .c (.int .i64 d)] G = some ([.c (.int .i64 (roundS v d).1), .c (.bool (roundS v d).2)], G) := by
  rw [hodmanref1_Round.cw]
  unfold hodmanref1_Round.f roundS
  unfold R64 at hv ht
  by_cases h1 : v < 0
  · rw [condD_pos h1, if_pos h1, hodmanref1_Round.J6_eq]; rfl
  · rw [condD_neg h1, if_neg h1]
    by_cases h2 : d < 1
    · rw [if_pos h2, decide_eq_true h2, hodmanref1_Round.J6_eq]; rfl
    · rw [if_neg h2, decide_eq_false h2, hodmanref1_Round.J6_eq]
      have e1 : Int.tmod v d = v % d := Int.tmod_eq_emod_of_nonneg (by omega)
      have h3 := Int.emod_nonneg v (b := d) (by omega)
      have h4 := Int.emod_lt_of_pos v (b := d) (by omega)
      have h6 : v % d ≤ v := by
        have := Int.mul_ediv_add_emod v d
        have h7 := Int.ediv_nonneg (a := v) (b := d) (by omega) (by omega)
        have h8 := Int.mul_nonneg (show 0 ≤ d by omega) h7
        omega
      simp only [binD_rem (show d ≠ 0 by omega), e1, q_bs, q_I, q_B, q_P, q_S, q_M, q_c, q_a, q_gz, q_gs, q_gk, q_ct, q_cf, q_nt, q_nf, q_xt, q_xf, q_tt, q_ff, q_tf, q_ft, q_at, q_af]
      by_cases h5 : v % d = 0
      · rw [if_pos h5, condD_pos h5]
      · rw [if_neg h5, condD_neg h5]
        rw [i64w, wrap_id (by omega) (by omega), hodmanref1_Add.sp (by unfold R64; omega) (by unfold R64; omega)]
        simp only [q_bs, q_I, q_B, q_P, q_S, q_M, q_c, q_a, q_gz, q_gs, q_gk, q_ct, q_cf, q_nt, q_nf, q_xt, q_xf, q_tt, q_ff, q_tf, q_ft, q_at, q_af, addS, show v - v % d + d = v + (d - v % d) by omega]
theorem hodmanref1_Up.lp (v : Int) (h1 : 1 ≤ v) (h2 : v ≤ 4611686018427387904) (d : Nat) : ∀ (e : Nat), e + d = clog v.toNat →
    hodmanref1_Up.L17 machW CW v ((2 ^ e : Nat) : Int) G = some ([.c (.int .i64 ((2 ^ clog v.toNat : Nat) : Int)), .c (.bool true)], G) := by
  have hc : clog v.toNat ≤ 62 := clog_le (by simp; omega)
  induction d with
  | zero =>
    intro e he
    obtain rfl : e = clog v.toNat := by omega
    have := le_clog v.toNat
    rw [hodmanref1_Up.L17_eq, condD_neg (by omega)]
  | succ d ih =>
    intro e he
    have h3 := lt_clog (n := v.toNat) (e := e) (by omega)
    have h5 := pow62 (e := e + 1) (by omega)
    have e1 : IntKind.i64.wrap (((2 ^ e : Nat) : Int) * 2) = ((2 ^ (e + 1) : Nat) : Int) := by
      rw [i64w, wrap_id] <;> rw [Nat.pow_succ] at * <;> omega
    rw [hodmanref1_Up.L17_eq, condD_pos (by omega), e1]
    exact ih (e + 1) (by omega)
theorem hodmanref1_Up.sp (v : Int) : CW hodmanref1_Up.id [.c (.int .i64 v)] G = some ([.c (.int .i64 (upS v).1), .c (.bool (upS v).2)], G) := by
  rw [hodmanref1_Up.cw]
  unfold hodmanref1_Up.f upS
  by_cases h1 : v < 1
  · rw [if_pos h1, condD_pos h1, hodmanref1_Up.J6_eq]; rfl
  · rw [if_neg h1, condD_neg h1]
    by_cases h2 : v > 4611686018427387904
    · rw [if_pos h2, decide_eq_true h2, hodmanref1_Up.J6_eq]; rfl
    · rw [if_neg h2, decide_eq_false h2, hodmanref1_Up.J6_eq]
      exact hodmanref1_Up.lp v (by omega) (by omega) (clog v.toNat) 0 (by omega)
end Go.Proofs.D.S
/- What the functions of conf, class, admit and of the first reference come to, and what is read out of numbers. -/
set_option linter.unusedVariables false
set_option linter.unusedSimpArgs false
namespace Go.Proofs.D.S
open Go Go.RowKit
variable {G G0 : GH}
theorem Hp.ne {id : Nat} {c : Cell} {cs : List Cell} {L : List (Nat × Obj)} (h : Hp G0 G ((id, .row (c :: cs) false) :: L)) : id ≠ 0 := by
  rcases h.ok _ (List.mem_cons_self ..) with ⟨_, b⟩ | ⟨_, b, _⟩
  · simp at b
  · dsimp only at b; omega
theorem nbeq {n : Nat} (h : n ≠ 0) : (!Nat.beq n 0) = true := by
  cases n with
  | zero => exact absurd rfl h
  | succ n => rfl
theorem guardN {R : Type} {n : Nat} (h : n ≠ 0) (K : Option R) : guardK (!Nat.beq n 0) K = K := guardK_of (nbeq h) K
theorem hodmanref1_Log.lp {v : Int} (hv : R64 v) (d : Nat) : ∀ (n : Nat), n + d = 63 → (∀ m, m < n → v ≠ ((2 ^ m : Nat) : Int)) → n ≤ 62 →
    hodmanref1_Log.L25 machW CW v ((2 ^ n : Nat) : Int) (n : Int) G = some ([.c (.int .i64 (logS v).1), .c (.bool (logS v).2)], G) := by
  induction d with
  | zero => intro n hn _ h; omega
  | succ d ih =>
    intro n hn hm h62
    have hpos := Nat.two_pow_pos n
    have h4 := pow62 (e := n) (by omega)
    rw [hodmanref1_Log.L25_eq, condD_pos (by omega)]
    by_cases h1 : ((2 ^ n : Nat) : Int) = v
    · rw [condD_pos h1]
      have h2 : v.toNat = 2 ^ n := by omega
      unfold logS
      rw [h2, Nat.log2_two_pow, if_pos ⟨by omega, h1.symm⟩]
    · rw [condD_neg h1]
      by_cases h2 : (n : Int) < 62
      · rw [condD_pos h2]
        have h5 := pow62 (e := n + 1) (by omega)
        have e1 : IntKind.i64.wrap (((2 ^ n : Nat) : Int) * 2) = ((2 ^ (n + 1) : Nat) : Int) := by
          rw [Nat.pow_succ] at h5 ⊢; rw [i64w, wrap_id] <;> omega
        have e2 : IntKind.i64.wrap ((n : Int) + 1) = ((n + 1 : Nat) : Int) := by rw [i64w, wrap_id] <;> omega
        rw [e1, hodmanref1_Log.J22_eq, e2]
        refine ih (n + 1) (by omega) ?_ (by omega)
        intro m hmn
        by_cases hme : m = n
        · subst hme; exact fun c => h1 c.symm
        · exact hm m (by omega)
      · rw [condD_neg h2]
        have e2 : IntKind.i64.wrap ((n : Int) + 1) = 63 := by rw [i64w, wrap_id] <;> omega
        rw [hodmanref1_Log.J22_eq, e2, hodmanref1_Log.L25_eq, condD_neg (by omega)]
        unfold logS
        rw [if_neg]
        rintro ⟨h3, h5⟩
        unfold R64 at hv
        have h6 := log2_lt63 (v := v) h3 (by omega)
        by_cases h7 : Nat.log2 v.toNat = n
        · rw [h7] at h5; exact h1 h5.symm
        · exact hm _ (by omega) h5
theorem hodmanref1_Log.sp {v : Int} (hv : R64 v) : CW hodmanref1_Log.id [.c (.int .i64 v)] G = some ([.c (.int .i64 (logS v).1), .c (.bool (logS v).2)], G) := by
  rw [hodmanref1_Log.cw]
  exact hodmanref1_Log.lp hv 63 0 (by omega) (fun m h => by omega) (by omega)
/-- The sizes that Of comes to, one by one. -/
theorem of_steps {r : Rw} (hin : r.In) :
    upS r.g = (((2 ^ eG r.g : Nat) : Int), true) ∧ upS (mx2 r.la ((2 ^ eG r.g : Nat) : Int)) = (((2 ^ eN r.g r.la : Nat) : Int), true) ∧ upS (mx2 r.pa ((2 ^ eG r.g : Nat) : Int)) = (((2 ^ ePg r.g r.pa : Nat) : Int), true) ∧
    (mx2 ((2 ^ eN r.g r.la : Nat) : Int) ((2 ^ ePg r.g r.pa : Nat) : Int)) * 2 = wS r.g r.la r.pa ∧ R64 (wS r.g r.la r.pa) ∧ R64 r.li ∧ roundS r.li (wS r.g r.la r.pa) = (mS r.g r.la r.li r.pa, true) ∧ ((2 ^ eG r.g : Nat) : Int) ≠ 0 ∧
    wrap64 (Int.tdiv ((2 ^ eN r.g r.la : Nat) : Int) ((2 ^ eG r.g : Nat) : Int)) = ((2 ^ (eN r.g r.la - eG r.g) : Nat) : Int) ∧ R64 ((2 ^ (eN r.g r.la - eG r.g) : Nat) : Int) ∧
    0 ≤ mS r.g r.la r.li r.pa ∧ R64 (mS r.g r.la r.li r.pa / 2) ∧ wrap64 (((eN r.g r.la - eG r.g : Nat) : Int) * (mS r.g r.la r.li r.pa / 2)) = lS r.g r.la * (mS r.g r.la r.li r.pa / 2) ∧ wrap64 (mS r.g r.la r.li r.pa + lS r.g r.la * (mS r.g r.la r.li r.pa / 2)) = hS r.g r.la r.li r.pa := by
  obtain ⟨g, la, li, pa, bu, se⟩ := r
  obtain ⟨⟨g1, g2⟩, ⟨l1, l2⟩, ⟨i1, i2⟩, ⟨p1, p2⟩, hb, hs⟩ := hin
  dsimp only at *
  have b0 := eG_le g2
  have b1 := eN_le g2 l2
  have b2 := ePg_le g2 p2
  have q0 := pow16 b0
  have q1 := pow16 b1
  have q2 := pow16 b2
  have z0 := Nat.two_pow_pos (eG g)
  have z1 := Nat.two_pow_pos (eN g la)
  have z2 := Nat.two_pow_pos (ePg g pa)
  have mxi : ∀ a b : Int, mx2 a b = if a < b then b else a := fun a b => by rw [mx2_eq, max_if]
  have eN' : clog (mx2 la ((2 ^ eG g : Nat) : Int)).toNat = eN g la := clog_toMax la (eG g) _ (mxi _ _)
  have eP' : clog (mx2 pa ((2 ^ eG g : Nat) : Int)).toNat = ePg g pa := clog_toMax pa (eG g) _ (mxi _ _)
  have mb : ∀ a : Int, 1 ≤ a → a ≤ 65536 → 1 ≤ mx2 a ((2 ^ eG g : Nat) : Int) ∧ mx2 a ((2 ^ eG g : Nat) : Int) ≤ 65536 := by
    intro a h1 h2
    rw [mx2_eq]; omega
  have m1 := mb la l1 l2
  have m2 := mb pa p1 p2
  obtain ⟨a1, a2, a3, a4, a5⟩ := mS_facts (g := g) (la := la) (pa := pa) i1 i2 g2 l2 p2
  obtain ⟨r1, r2, r3, r4⟩ := hS_range (g := g) (la := la) (pa := pa) i1 i2 g2 l2 p2
  have hge : eG g ≤ eN g la := by unfold eN; omega
  have h5 := pow16 (e := eN g la - eG g) (by omega)
  have h4 := Nat.two_pow_pos (eN g la - eG g)
  refine ⟨upS_in g1 (by omega), by rw [upS_in m1.1 (Int.le_trans m1.2 (by decide)), eN'], by rw [upS_in m2.1 (Int.le_trans m2.2 (by decide)), eP'], ?_, by unfold R64; omega, by unfold R64; omega, round_mS i1 i2 g2 l2 p2, by omega, ?_, by unfold R64; omega, by omega, by unfold R64; omega, ?_, ?_⟩
  · rw [mx2_eq]
    unfold wS
    rcases Nat.le_total (eN g la) (ePg g pa) with h | h
    · have : (2 : Nat) ^ eN g la ≤ 2 ^ ePg g pa := Nat.pow_le_pow_right (by decide) h
      rw [Nat.max_eq_right h, Nat.pow_succ]; omega
    · have : (2 : Nat) ^ ePg g pa ≤ 2 ^ eN g la := Nat.pow_le_pow_right (by decide) h
      rw [Nat.max_eq_left h, Nat.pow_succ]; omega
  · have h1 : (2 : Nat) ^ eN g la = 2 ^ eG g * 2 ^ (eN g la - eG g) := by rw [← Nat.pow_add, show eG g + (eN g la - eG g) = eN g la by omega]
    have h2 : Int.tdiv ((2 ^ eN g la : Nat) : Int) ((2 ^ eG g : Nat) : Int) = ((2 ^ (eN g la - eG g) : Nat) : Int) := by
      rw [h1, Int.natCast_mul, Int.mul_tdiv_cancel_left _ (by omega)]
    rw [h2, wrap_id (by omega) (by omega)]
  · exact wrap_id (by show _ ≤ lS g la * (mS g la li pa / 2); omega) (by show lS g la * (mS g la li pa / 2) ≤ _; omega)
  · exact wrap_id (by show _ ≤ hS g la li pa; omega) (by show hS g la li pa ≤ _; omega)
theorem pow1 : (2 : Int) ^ (min (1 : Int).toNat IntKind.i64.bits) = 2 := by decide
theorem hodmanref1_Of.done {r : Rw} (hin : r.In) : hodmanref1_Of.J27 machW CW false r.g r.la r.li r.pa r.bu r.se 0 0 0 0 0 0 0 0 G = some ([.agg (cfC (ofC r).1), .c (.int .i64 (ofC r).2)], G) := by
  obtain ⟨u0, u1, u2, eW, rw1, rw2, rd, ez, eD, rD, m0, rm, eL, eH⟩ := of_steps hin
  have eM2 : wrap64 (Int.tdiv (mS r.g r.la r.li r.pa) 2) = mS r.g r.la r.li r.pa / 2 := by
    rw [Int.tdiv_eq_ediv_of_nonneg m0, wrap_in rm]
  rw [hodmanref1_Of.J27_eq]
  simp only [q_bs, q_I, q_B, q_P, q_S, q_M, q_c, q_a, q_gz, q_gs, q_gk, q_ct, q_cf, q_nt, q_nf, q_xt, q_xf, q_tt, q_ff, q_tf, q_ft, q_at, q_af, hodmanref1_Up.sp, u0, u1, u2, i64w]
  rw [Int.mul_comm 2, eW, wrap_in rw1, hodmanref1_Round.sp rw2 rw1, rd]
  simp only [q_bs, q_I, q_B, q_P, q_S, q_M, q_c, q_a, q_gz, q_gs, q_gk, q_ct, q_cf, q_nt, q_nf, q_xt, q_xf, q_tt, q_ff, q_tf, q_ft, q_at, q_af, binD_quo ez, i64w, eD]
  rw [hodmanref1_Log.sp rD, logS_pow]
  simp only [q_bs, q_I, q_B, q_P, q_S, q_M, q_c, q_a, q_gz, q_gs, q_gk, q_ct, q_cf, q_nt, q_nf, q_xt, q_xf, q_tt, q_ff, q_tf, q_ft, q_at, q_af, i64w, eM2, eL, eH]
  unfold ofC
  rw [if_pos hin]
  by_cases h6 : hS r.g r.la r.li r.pa > 65536
  · rw [condD_pos h6, if_pos h6]; rfl
  · rw [condD_neg h6, if_neg h6]; rfl
theorem hodmanref1_Of.sp (r : Rw) (w : G.wf) : ∃ G', CW hodmanref1_Of.id [.agg (rwC r)] G = some ([.agg (cfC (ofC r).1), .c (.int .i64 (ofC r).2)], G') ∧ Hp G G' [] := by
  have h := (Hp.refl w).alloc (.row [.int .i64 r.g, .int .i64 r.la, .int .i64 r.li, .int .i64 r.pa] false)
  refine ⟨_, ?_, h.tl⟩
  have ld := fun off => h.ld (off := off) h.ne
  rw [hodmanref1_Of.cw]
  simp only [hodmanref1_Of.f]
  generalize G.alloc _ = G1 at h ld ⊢
  generalize G.next = id at h ld ⊢
  have no : ¬ r.In → some ([V1.agg (cfC (ofC r).1), .c (.int .i64 (ofC r).2)], G1) = some ([.agg [.int .i64 0, .int .i64 0, .int .i64 0, .int .i64 0, .int .i64 0, .int .i64 0, .int .i64 0, .int .i64 0], .c (.int .i64 1)], G1) := fun h => by unfold ofC; rw [if_neg h]; rfl
  have out : ∀ (i : Nat) (x : Int), i < 4 → [Cell.int .i64 r.g, .int .i64 r.la, .int .i64 r.li, .int .i64 r.pa][i]? = some (.int .i64 x) → ¬ (1 ≤ x ∧ x ≤ 65536) → ¬ r.In →
      hodmanref1_Of.L19 machW CW id 0 4 (i : Int) r.g r.la r.li r.pa r.bu r.se 0 0 0 0 0 0 0 0 G1 = some ([.agg (cfC (ofC r).1), .c (.int .i64 (ofC r).2)], G1) := by
    intro i x hi hx hn hno
    rw [no hno, hodmanref1_Of.L19_eq, condD_pos (by omega), guardD_of (by omega), ld, show 0 + Int.toNat (i : Int) * 1 = i by omega, hx]
    simp only [q_bs, q_I, q_B, q_P, q_S, q_M, q_c, q_a, q_gz, q_gs, q_gk, q_ct, q_cf, q_nt, q_nf, q_xt, q_xf, q_tt, q_ff, q_tf, q_ft, q_at, q_af]
    by_cases h1 : x < 1
    · rw [condD_pos h1, hodmanref1_Of.J13_eq]; rfl
    · rw [condD_neg h1, guardD_of (by omega), decide_eq_true (by omega : x > 65536), hodmanref1_Of.J13_eq]; rfl
  have on : ∀ (i : Nat) (x : Int), i < 4 → [Cell.int .i64 r.g, .int .i64 r.la, .int .i64 r.li, .int .i64 r.pa][i]? = some (.int .i64 x) → (1 ≤ x ∧ x ≤ 65536) →
      hodmanref1_Of.L19 machW CW id 0 4 ((i + 1 : Nat) : Int) r.g r.la r.li r.pa r.bu r.se 0 0 0 0 0 0 0 0 G1 = some ([.agg (cfC (ofC r).1), .c (.int .i64 (ofC r).2)], G1) →
      hodmanref1_Of.L19 machW CW id 0 4 (i : Int) r.g r.la r.li r.pa r.bu r.se 0 0 0 0 0 0 0 0 G1 = some ([.agg (cfC (ofC r).1), .c (.int .i64 (ofC r).2)], G1) := by
    intro i x hi hx hn hno
    rw [hodmanref1_Of.L19_eq, condD_pos (by omega), guardD_of (by omega), ld, show 0 + Int.toNat (i : Int) * 1 = i by omega, hx]
    simp only [q_bs, q_I, q_B, q_P, q_S, q_M, q_c, q_a, q_gz, q_gs, q_gk, q_ct, q_cf, q_nt, q_nf, q_xt, q_xf, q_tt, q_ff, q_tf, q_ft, q_at, q_af]
    rw [condD_neg (by omega), guardD_of (by omega), decide_eq_false (by omega : ¬ x > 65536), hodmanref1_Of.J13_eq, i64w, wrap_id (by omega) (by omega)]
    exact hno
  have last : 1 ≤ r.g ∧ r.g ≤ 65536 → 1 ≤ r.la ∧ r.la ≤ 65536 → 1 ≤ r.li ∧ r.li ≤ 65536 → 1 ≤ r.pa ∧ r.pa ≤ 65536 → hodmanref1_Of.L19 machW CW id 0 4 ((4 : Nat) : Int) r.g r.la r.li r.pa r.bu r.se 0 0 0 0 0 0 0 0 G1 = some ([.agg (cfC (ofC r).1), .c (.int .i64 (ofC r).2)], G1) := by
    intro hg hl hi hp
    rw [hodmanref1_Of.L19_eq, condD_neg (by omega)]
    have bad : ¬ r.In → hodmanref1_Of.J27 machW CW true r.g r.la r.li r.pa r.bu r.se 0 0 0 0 0 0 0 0 G1 = some ([.agg (cfC (ofC r).1), .c (.int .i64 (ofC r).2)], G1) := fun h => by rw [no h, hodmanref1_Of.J27_eq]; rfl
    by_cases h1 : r.bu < 0
    · rw [condD_pos h1]; exact bad (by unfold Rw.In InS; omega)
    · rw [condD_neg h1]
      by_cases h2 : r.bu > 65536
      · rw [condD_pos h2]; exact bad (by unfold Rw.In InS; omega)
      · rw [condD_neg h2]
        by_cases h3 : r.se < 0
        · rw [condD_pos h3]; exact bad (by unfold Rw.In InS; omega)
        · rw [condD_neg h3]
          by_cases h4 : r.se > 255
          · rw [decide_eq_true h4]; exact bad (by unfold Rw.In InS; omega)
          · rw [decide_eq_false h4]; exact hodmanref1_Of.done (by unfold Rw.In InS; omega)
  show hodmanref1_Of.L19 machW CW id 0 4 ((0 : Nat) : Int) r.g r.la r.li r.pa r.bu r.se 0 0 0 0 0 0 0 0 G1 = _
  by_cases hg : 1 ≤ r.g ∧ r.g ≤ 65536
  · refine on 0 r.g (by omega) rfl hg ?_
    by_cases hl : 1 ≤ r.la ∧ r.la ≤ 65536
    · refine on 1 r.la (by omega) rfl hl ?_
      by_cases hi : 1 ≤ r.li ∧ r.li ≤ 65536
      · refine on 2 r.li (by omega) rfl hi ?_
        by_cases hp : 1 ≤ r.pa ∧ r.pa ≤ 65536
        · exact on 3 r.pa (by omega) rfl hp (last hg hl hi hp)
        · exact out 3 r.pa (by omega) rfl hp (by unfold Rw.In InS; omega)
      · exact out 2 r.li (by omega) rfl hi (by unfold Rw.In InS; omega)
    · exact out 1 r.la (by omega) rfl hl (by unfold Rw.In InS; omega)
  · exact out 0 r.g (by omega) rfl hg (by unfold Rw.In InS; omega)
theorem conf_Ceil.sp {c : Cf} (h : c.Ok) (k : Int) : CW conf_Ceil.id [.agg (cfC c), .c (.int .i64 k)] G = some ([.c (.int .i64 (c.ceil k))], G) := by
  rw [conf_Ceil.cw]
  unfold conf_Ceil.f
  by_cases h1 : k < 0
  · rw [condD_pos h1, conf_Ceil.J6_eq]; unfold Cf.ceil ceilS; rw [if_pos h1]; rfl
  · rw [condD_neg h1, conf_Ceil.J6_eq]
    by_cases h2 : k > c.L
    · rw [decide_eq_true h2]; unfold Cf.ceil ceilS; rw [if_neg h1, if_pos h2]; rfl
    · rw [decide_eq_false h2]
      simp only [q_bs, q_I, q_B, q_P, q_S, q_M, q_c, q_a, q_gz, q_gs, q_gk, q_ct, q_cf, q_nt, q_nf, q_xt, q_xf, q_tt, q_ff, q_tf, q_ft, q_at, q_af, i64w, pow1, Int.fdiv_eq_ediv_of_nonneg _ (show (0 : Int) ≤ 2 by omega), ceil_wrap h (show 0 ≤ k by omega) (show k ≤ c.L by omega)]
theorem hodmanref1_Size.lp (g : Nat) (k : Nat) (h : g + k ≤ 60) : ∀ (d i : Nat), i + d = k → hodmanref1_Size.L13 machW CW (k : Int) ((2 ^ (g + i) : Nat) : Int) (i : Int) G = some ([.c (.int .i64 ((2 ^ (g + k) : Nat) : Int))], G)
  | 0, i, hi => by
    obtain rfl : i = k := by omega
    rw [hodmanref1_Size.L13_eq, condD_neg (by omega)]
  | d + 1, i, hi => by
    have h5 := pow62 (e := g + i + 1) (by omega)
    have e1 : IntKind.i64.wrap (((2 ^ (g + i) : Nat) : Int) * 2) = ((2 ^ (g + (i + 1)) : Nat) : Int) := by
      rw [← Nat.add_assoc]; rw [Nat.pow_succ] at h5 ⊢; rw [i64w, wrap_id] <;> omega
    rw [hodmanref1_Size.L13_eq, condD_pos (by omega), e1, i64w, wrap_id (by omega) (by omega)]
    exact hodmanref1_Size.lp g k h d (i + 1) (by omega)
theorem hodmanref1_Size.sp {c : Cf} {g k : Nat} (hg : c.G = ((2 ^ g : Nat) : Int)) (h : g + k ≤ 60) : CW hodmanref1_Size.id [.agg (cfC c), .c (.int .i64 (k : Int))] G = some ([.c (.int .i64 ((2 ^ (g + k) : Nat) : Int))], G) := by
  rw [hodmanref1_Size.cw]
  unfold hodmanref1_Size.f
  rw [hg]
  exact hodmanref1_Size.lp g k h k 0 (by omega)
end Go.Proofs.D.S
/- What the functions of class, admit and the first reference's come to. -/
set_option linter.unusedVariables false
set_option linter.unusedSimpArgs false
namespace Go.Proofs.D.S
open Go Go.RowKit
variable {G G0 : GH}
end Go.Proofs.D.S
/- What is read out of numbers. -/
set_option linter.unusedVariables false
set_option linter.unusedSimpArgs false
namespace Go.Proofs.D.S
open Go Go.RowKit
variable {G G0 : GH} {L : List (Nat × Obj)}
/-- The numbers, and how far they were read. -/
abbrev pk (pid lid lo n : Nat) (i : Int) : Nat × Obj := (pid, .row [.sl 1 lid lo n, .int .i64 i] false)
/-- What there is of the numbers. -/
structure PkOk (G0 : GH) (L : List (Nat × Obj)) (lid lo n : Nat) (xs : List Int) : Prop where
  rd : Rd G0 L eU8 lid lo xs
  by_ : Bytes xs
  len : n = xs.length
  small : n ≤ 1000000000
theorem PkOk.cons {lid lo n : Nat} {xs : List Int} (h : PkOk G0 L lid lo n xs) (x : Nat × Obj) : PkOk G0 (x :: L) lid lo n xs := ⟨h.rd.cons, h.by_, h.len, h.small⟩
theorem PkOk.sub {lid lo n : Nat} {xs : List Int} {L' : List (Nat × Obj)} (h : PkOk G0 L lid lo n xs) (s : L.Sublist L') : PkOk G0 L' lid lo n xs := ⟨h.rd.sub s, h.by_, h.len, h.small⟩
theorem hodmanplay_Made.sp (h : Hp G0 G L) (lid lo n : Nat) : ∃ pid G', CW hodmanplay_Made.id [.c (.sl 1 lid lo n)] G = some ([.c (.ptr pid 0)], G') ∧ Hp G0 G' (pk pid lid lo n 0 :: L) := by
  refine ⟨_, _, ?_, h.alloc _⟩
  rw [hodmanplay_Made.cw]
  rfl
/-- A choice: below m, and one further on, or none left. -/
theorem hodmanplay_Picks_Num.sp {pid lid lo n : Nat} {i : Int} {xs : List Int} (h : Hp G0 G (pk pid lid lo n i :: L)) (p : PkOk G0 L lid lo n xs) (h0 : 0 ≤ i) (h1 : i ≤ n) (m : Int) :
    ∃ v j G', CW hodmanplay_Picks_Num.id [.c (.ptr pid 0), .c (.int .i64 m)] G = some ([.c (.int .i64 v)], G') ∧ Hp G0 G' (pk pid lid lo n j :: L) ∧ 0 ≤ v ∧ v ≤ 255 ∧ (1 ≤ m → v < m) ∧ i ≤ j ∧ j ≤ n ∧ (m < 1 → v = 0) := by
  have hp := h.ne
  have hl := p.len
  have hs := p.small
  have ld := fun off => h.ld (off := off) hp
  rw [hodmanplay_Picks_Num.cw]
  unfold hodmanplay_Picks_Num.f
  simp only [guardN hp, ld, q_bs, q_I, q_B, q_P, q_S, q_M, q_c, q_a, q_gz, q_gs, q_gk, q_ct, q_cf, q_nt, q_nf, q_xt, q_xf, q_tt, q_ff, q_tf, q_ft, q_at, q_af, Nat.zero_add]
  by_cases a1 : i ≥ (n : Int)
  · rw [condD_pos a1, hodmanplay_Picks_Num.J6_eq]
    exact ⟨0, i, G, rfl, h, by omega, by omega, by omega, by omega, by omega, fun _ => rfl⟩
  · rw [condD_neg a1, hodmanplay_Picks_Num.J6_eq]
    by_cases a2 : m < 1
    · rw [condD_pos a2]
      exact ⟨0, i, G, rfl, h, by omega, by omega, by omega, by omega, by omega, fun _ => rfl⟩
    · rw [condD_neg a2]
      obtain ⟨G1, h2, e⟩ := h.sts (off := 1) (new := [.int .i64 (i + 1)]) hp (by simp)
      have h2 : Hp G0 G1 (pk pid lid lo n (i + 1) :: L) := h2
      have ld2 := fun off => h2.ld (off := off) hp
      have rd := p.rd _ h2.tl
      simp only [ld, q_bs, q_I, q_B, q_P, q_S, q_M, q_c, q_a, q_gz, q_gs, q_gk, q_ct, q_cf, q_nt, q_nf, q_xt, q_xf, q_tt, q_ff, q_tf, q_ft, q_at, q_af, Nat.zero_add, guardN hp, i64w, wrap_id (a := i + 1) (by omega) (by omega), e, ld2, show i + 1 - 1 = i by omega, wrap_id (a := i) (by omega) (by omega)]
      rw [guardD_of (by omega)]
      have hit : i.toNat < xs.length := by omega
      have r := rd.ld i.toNat 0 hit (by omega)
      rw [Nat.add_zero] at r
      rw [r]
      have hb := p.by_ _ (List.getElem_mem hit)
      simp only [q_bs, q_I, q_B, q_P, q_S, q_M, q_c, q_a, q_gz, q_gs, q_gk, q_ct, q_cf, q_nt, q_nf, q_xt, q_xf, q_tt, q_ff, q_tf, q_ft, q_at, q_af, i64w, wrap_id (a := xs[i.toNat]) (by omega) (by omega), binD_rem (show m ≠ 0 by omega), Int.tmod_eq_emod_of_nonneg hb.1]
      have h3 := Int.emod_nonneg xs[i.toNat] (b := m) (by omega)
      have h4 := Int.emod_lt_of_pos xs[i.toNat] (b := m) (by omega)
      have h5 : xs[i.toNat] % m ≤ xs[i.toNat] := by
        have h6 := Int.mul_ediv_add_emod xs[i.toNat] m
        have h7 := Int.mul_nonneg (show 0 ≤ m by omega) (Int.ediv_nonneg (a := xs[i.toNat]) (b := m) (by omega) (by omega))
        omega
      exact ⟨_, _, _, rfl, h2, h3, by omega, by omega, by omega, by omega, by omega⟩
theorem hodmanplay_Picks_Raw.sp {pid lid lo n : Nat} {i : Int} {xs : List Int} (h : Hp G0 G (pk pid lid lo n i :: L)) (p : PkOk G0 L lid lo n xs) (h0 : 0 ≤ i) (h1 : i ≤ n) (b : Bool) :
    ∃ (r : Rw) (j : Int) (G' : GH), CW hodmanplay_Picks_Raw.id [.c (.ptr pid 0), .c (.bool b)] G = some ([.agg (rwC r)], G') ∧ Hp G0 G' (pk pid lid lo n j :: L) ∧ RawOk b r.g r.la r.li r.pa r.bu r.se ∧ i ≤ j ∧ j ≤ n := by
  obtain ⟨v1, j1, G1, e1, k1, a1, b1, c1, d1, f1, _⟩ := hodmanplay_Picks_Num.sp h p h0 h1 9
  obtain ⟨v2, j2, G2, e2, k2, a2, b2, c2, d2, f2, _⟩ := hodmanplay_Picks_Num.sp k1 p (by omega) f1 12
  obtain ⟨v3, j3, G3, e3, k3, a3, b3, c3, d3, f3, _⟩ := hodmanplay_Picks_Num.sp k2 p (by omega) f2 150
  obtain ⟨v4, j4, G4, e4, k4, a4, b4, c4, d4, f4, _⟩ := hodmanplay_Picks_Num.sp k3 p (by omega) f3 30
  obtain ⟨v5, j5, G5, e5, k5, a5, b5, c5, d5, f5, _⟩ := hodmanplay_Picks_Num.sp k4 p (by omega) f4 200
  obtain ⟨v6, j6, G6, e6, k6, a6, b6, c6, d6, f6, _⟩ := hodmanplay_Picks_Num.sp k5 p (by omega) f5 20
  have c1 := c1 (by omega)
  have c2 := c2 (by omega)
  have c3 := c3 (by omega)
  have c4 := c4 (by omega)
  have c5 := c5 (by omega)
  have c6 := c6 (by omega)
  have p1 : 1 + v1 ≤ (1 + v1) * (1 + v2) := by
    have := Int.mul_nonneg (show 0 ≤ 1 + v1 by omega) a2
    rw [Int.mul_add]; omega
  have p2 : (1 + v1) * (1 + v2) ≤ 9 * 12 := Int.mul_le_mul (by omega) (by omega) (by omega) (by omega)
  rw [hodmanplay_Picks_Raw.cw]
  unfold hodmanplay_Picks_Raw.f
  simp only [e1, e2, e3, e4, e5, e6, q_bs, q_I, q_B, q_P, q_S, q_M, q_c, q_a, q_gz, q_gs, q_gk, q_ct, q_cf, q_nt, q_nf, q_xt, q_xf, q_tt, q_ff, q_tf, q_ft, q_at, q_af, i64w, wrap_id (a := 1 + v1) (by omega) (by omega), wrap_id (a := 1 + v2) (by omega) (by omega), wrap_id (a := 1 + v3) (by omega) (by omega), wrap_id (a := 1 + v4) (by omega) (by omega), wrap_id (a := 1 + v6) (by omega) (by omega), wrap_id (a := (1 + v1) * (1 + v2)) (by omega) (by omega), hodmanplay_Picks_Raw.J10_eq]
  cases b with
  | true => exact ⟨⟨1 + v1, (1 + v1) * (1 + v2), 1 + v3, 1 + v4, 5000, v5⟩, _, _, rfl, k6, ⟨by dsimp only; omega, ⟨p1, by dsimp only; omega⟩, by dsimp only; omega, by dsimp only; omega, fun _ => rfl, by simp, by dsimp only; omega⟩, by omega, f6⟩
  | false => exact ⟨⟨1 + v1, (1 + v1) * (1 + v2), 1 + v3, 1 + v4, 1 + v6, v5⟩, _, _, rfl, k6, ⟨by dsimp only; omega, ⟨p1, by dsimp only; omega⟩, by dsimp only; omega, by dsimp only; omega, by simp, fun _ => by dsimp only; omega, by dsimp only; omega⟩, by omega, f6⟩
theorem hodmanplay_Picks_Conf.sp {pid lid lo n : Nat} {i : Int} {xs : List Int} (h : Hp G0 G (pk pid lid lo n i :: L)) (p : PkOk G0 L lid lo n xs) (h0 : 0 ≤ i) (h1 : i ≤ n) (b : Bool) :
    ∃ (r : Rw) (j : Int) (G' : GH), CW hodmanplay_Picks_Conf.id [.c (.ptr pid 0), .c (.bool b)] G = some ([.agg (cfC (cfOf r)), .agg (rwC r)], G') ∧ Hp G0 G' (pk pid lid lo n j :: L) ∧ RawOk b r.g r.la r.li r.pa r.bu r.se ∧ i ≤ j ∧ j ≤ n := by
  obtain ⟨r, j, G1, e1, k1, ok, a1, b1⟩ := hodmanplay_Picks_Raw.sp h p h0 h1 b
  obtain ⟨G2, e2, k2⟩ := hodmanref1_Of.sp r k1.wf
  rw [ok.ofC] at e2
  refine ⟨r, j, G2, ?_, k1.trans0 k2, ok, a1, b1⟩
  rw [hodmanplay_Picks_Conf.cw]
  unfold hodmanplay_Picks_Conf.f
  simp only [e1, q_bs, q_I, q_B, q_P, q_S, q_M, q_c, q_a, q_gz, q_gs, q_gk, q_ct, q_cf, q_nt, q_nf, q_xt, q_xf, q_tt, q_ff, q_tf, q_ft, q_at, q_af, List.length_cons, List.length_nil, if_true, e2]
end Go.Proofs.D.S
/- The laws' own trials. -/
set_option linter.unusedVariables false
namespace Go.Proofs.D.S
open Go Go.RowKit
variable {G : GH}
theorem hodmanlaw21_begun.sp (hG : Beg G) : ∃ G', CW hodmanlaw21_begun.id [] G = some ([.c (.bool true)], G') ∧ From G G' :=
  beg_run 90 (by intro a b c; kernel_rfl) hG
end Go.Proofs.D.S
/- The plain reference: places, rows of blocks. -/
set_option linter.unusedVariables false
namespace Go.Proofs.D.S
open Go Go.RowKit
/-- Does one lie over the other? -/
def over (a n b m : Int) : Bool := decide (a < b + m) && decide (b < a + n)
/-- Is a place free? -/
def freeB (l : List Blk) (at_ n : Int) : Bool := l.all fun b => !over at_ n b.at_ b.ch
/-- The lowest place of so much, by its number. -/
def lowJ (H : Int) (l : List Blk) (n : Int) : Option Nat := (List.range (H / n).toNat).find? fun j => freeB l ((j : Int) * n) n
/-- Where it goes in. -/
def putB : List Blk → Blk → List Blk
  | [], b => [b]
  | x :: l, b => if x.at_ > b.at_ then b :: x :: l else x :: putB l b
def findB : List Blk → Int → Option Nat
  | [], _ => none
  | x :: l, a => if x.at_ = a then some 0 else (findB l a).map (· + 1)
/-- Blocks within the machine's numbers. -/
def BlkOk (l : List Blk) : Prop := ∀ b ∈ l, 0 ≤ b.at_ ∧ b.at_ ≤ 1099511627776 ∧ 0 ≤ b.ch ∧ b.ch ≤ 1099511627776
theorem putB_len (b : Blk) : ∀ l : List Blk, (putB l b).length = l.length + 1
  | [] => rfl
  | x :: l => by
    unfold putB
    split
    · simp
    · simp [putB_len b l]
theorem putB_mem (b : Blk) : ∀ (l : List Blk) (x : Blk), x ∈ putB l b ↔ x = b ∨ x ∈ l
  | [], x => by simp [putB]
  | y :: l, x => by
    unfold putB
    split
    · simp
    · simp only [List.mem_cons, putB_mem b l x]
      constructor
      · rintro (h | h | h)
        · exact .inr (.inl h)
        · exact .inl h
        · exact .inr (.inr h)
      · rintro (h | h | h)
        · exact .inr (.inl h)
        · exact .inl h
        · exact .inr (.inr h)
/-- As the reference does it: what is copied so far, and whether it is in. -/
theorem putB_take (l : List Blk) (b : Blk) (i : Nat) (h : ∀ j, j < i → ∀ x, l[j]? = some x → ¬ x.at_ > b.at_) (hi : i ≤ l.length) :
    putB l b = l.take i ++ putB (l.drop i) b := by
  induction i generalizing l with
  | zero => simp
  | succ i ih =>
    cases l with
    | nil => simp at hi
    | cons x l =>
      have h0 := h 0 (by omega) x rfl
      have e : putB (x :: l) b = x :: putB l b := by simp only [putB, if_neg h0]
      rw [e, ih l (fun j hj y hy => h (j + 1) (by omega) y (by simpa using hy)) (by simpa using hi)]
      simp only [List.take_succ_cons, List.drop_succ_cons, List.cons_append]
theorem lowJ_some {H n : Int} {l : List Blk} {j : Nat} (hn : 1 ≤ n) (hH : 0 ≤ H) : lowJ H l n = some j ↔ ((j : Int) * n + n ≤ H ∧ freeB l ((j : Int) * n) n = true ∧ ∀ i : Nat, i < j → freeB l ((i : Int) * n) n = false) := by
  have key : ∀ j : Nat, j < (H / n).toNat ↔ (j : Int) * n + n ≤ H := by
    intro j
    have h0 := Int.ediv_nonneg hH (show 0 ≤ n by omega)
    have h1 : ((j : Int) + 1 ≤ H / n) ↔ ((j : Int) + 1) * n ≤ H := Int.le_ediv_iff_mul_le (by omega)
    rw [Int.add_mul, Int.one_mul] at h1
    omega
  unfold lowJ
  rw [List.find?_range_eq_some]
  rw [List.mem_range, key]
  constructor
  · rintro ⟨a, b, c⟩
    exact ⟨b, a, fun i hi => by have := c i hi; simpa using this⟩
  · rintro ⟨a, b, c⟩
    exact ⟨b, a, fun i hi => by have := c i hi; simpa using this⟩
theorem lowJ_none {H n : Int} {l : List Blk} (hn : 1 ≤ n) (hH : 0 ≤ H) : lowJ H l n = none ↔ ∀ i : Nat, (i : Int) * n + n ≤ H → freeB l ((i : Int) * n) n = false := by
  have key : ∀ j : Nat, j < (H / n).toNat ↔ (j : Int) * n + n ≤ H := by
    intro j
    have h0 := Int.ediv_nonneg hH (show 0 ≤ n by omega)
    have h1 : ((j : Int) + 1 ≤ H / n) ↔ ((j : Int) + 1) * n ≤ H := Int.le_ediv_iff_mul_le (by omega)
    rw [Int.add_mul, Int.one_mul] at h1
    omega
  unfold lowJ
  rw [List.find?_range_eq_none]
  constructor
  · intro h i hi; have := h i ((key i).2 hi); simpa using this
  · intro h i hi; have := h i ((key i).1 hi); simpa using this
end Go.Proofs.D.S
/- Rows of blocks: the reference's Over, Lowest, put, Find. -/
set_option linter.unusedVariables false
set_option linter.unusedSimpArgs false
namespace Go.Proofs.D.S
open Go Go.RowKit
variable {G G0 : GH} {L : List (Nat × Obj)}
/-- A number of memory's size. -/
def Mid (x : Int) : Prop := -4611686018427387904 ≤ x ∧ x ≤ 4611686018427387903
theorem hodmanref8_Over.sp {a n b m : Int} (h1 : Mid a) (h2 : Mid n) (h3 : Mid b) (h4 : Mid m) : CW hodmanref8_Over.id [.agg [.int .i64 a, .int .i64 n], .agg [.int .i64 b, .int .i64 m]] G = some ([.c (.bool (over a n b m))], G) := by
  unfold Mid at *
  rw [hodmanref8_Over.cw]
  unfold hodmanref8_Over.f over
  rw [i64w, i64w, wrap_id (by omega) (by omega), wrap_id (by omega) (by omega)]
  by_cases h : a < b + m
  · rw [condD_pos h, decide_eq_true h, q_at]
  · rw [condD_neg h, decide_eq_false h, q_af]
theorem freeB_cons (x : Blk) (l : List Blk) (a n : Int) : freeB (x :: l) a n = (!over a n x.at_ x.ch && freeB l a n) := rfl
/-- The inner loop: is it free of the blocks from i on? -/
theorem hodmanref17_Lowest.inner {c : Cf} {li lo : Nat} {l : List Blk} (s : Sl G eBlk li lo l) (ok : BlkOk l) {n a : Int} (hn : 1 ≤ n ∧ n ≤ 65536) (ha : 0 ≤ a ∧ a ≤ 65536) (hl : l.length ≤ 1000000000) :
    ∀ (d i : Nat), i + d = l.length → hodmanref17_Lowest.L19 machW CW li lo l.length n a true (i : Int) c.G c.N c.M c.L c.Pg c.P c.H c.Sd G =
      if freeB (l.drop i) a n = true then some ([.c (.int .i64 a), .c (.bool true)], G) else hodmanref17_Lowest.L35 machW CW li lo l.length n (a + n) c.G c.N c.M c.L c.Pg c.P c.H c.Sd G
  | 0, i, hi => by
    rw [hodmanref17_Lowest.L19_eq, condD_neg (by omega), hodmanref17_Lowest.J12_eq, q_cf, q_ct]
    have e : l.drop i = [] := List.drop_of_length_le (by omega)
    rw [e, if_pos (by rfl)]
  | d + 1, i, hi => by
    have hil : i < l.length := by omega
    have ob := ok _ (List.getElem_mem hil)
    have e : l.drop i = l[i] :: l.drop (i + 1) := List.drop_eq_getElem_cons hil
    have z : decide (0 ≤ (i : Int) ∧ (i : Int) < ((l.length : Nat) : Int)) = true := decide_eq_true (by omega)
    have r0 := s.ld i 0 hil (by omega)
    have r1 := s.ld i 1 hil (by omega)
    rw [hodmanref17_Lowest.L19_eq, condD_pos (by omega), hodmanref17_Lowest.J12_eq, q_ct]
    simp only [z, Int.toNat_natCast, r0, r1, q_bs, q_I, q_B, q_P, q_S, q_M, q_c, q_a, q_gz, q_gs, q_gk, q_ct, q_cf, q_nt, q_nf, q_xt, q_xf, q_tt, q_ff, q_tf, q_ft, q_at, q_af]
    rw [hodmanref8_Over.sp (by unfold Mid; omega) (by unfold Mid; omega) (by unfold Mid; omega) (by unfold Mid; omega)]
    simp only [q_bs, q_I, q_B, q_P, q_S, q_M, q_c, q_a, q_gz, q_gs, q_gk, q_ct, q_cf, q_nt, q_nf, q_xt, q_xf, q_tt, q_ff, q_tf, q_ft, q_at, q_af, i64w, wrap_id (a := (i : Int) + 1) (by omega) (by omega)]
    rw [e, freeB_cons]
    cases ho : over a n l[i].at_ l[i].ch with
    | false =>
      rw [q_nf, q_at]
      exact hodmanref17_Lowest.inner s ok hn ha hl d (i + 1) (by omega)
    | true =>
      rw [q_nt, q_af, if_neg (by simp)]
      -- not free: it goes through the rest no more
      rw [hodmanref17_Lowest.L19_eq]
      have out : hodmanref17_Lowest.J12 machW CW li lo l.length n a false ((i : Int) + 1) false c.G c.N c.M c.L c.Pg c.P c.H c.Sd G = hodmanref17_Lowest.L35 machW CW li lo l.length n (a + n) c.G c.N c.M c.L c.Pg c.P c.H c.Sd G := by
        rw [hodmanref17_Lowest.J12_eq, q_cf, q_cf, i64w, wrap_id (by omega) (by omega)]
      rw [out]
      by_cases hh : (i : Int) + 1 < ((l.length : Nat) : Int)
      · rw [condD_pos hh]
      · rw [condD_neg hh]
/-- What Lowest tells: the lowest free place, or none. -/
def lowR (H : Int) (l : List Blk) (n : Int) : Int × Bool := match lowJ H l n with
  | some j => ((j : Int) * n, true)
  | none => (0, false)
theorem hodmanref17_Lowest.sp {c : Cf} {li lo : Nat} {l : List Blk} (s : Sl G eBlk li lo l) (ok : BlkOk l) {n : Int} (hn : 1 ≤ n ∧ n ≤ 65536) (hH : 0 ≤ c.H ∧ c.H ≤ 65536) (hl : l.length ≤ 1000000000) :
    CW hodmanref17_Lowest.id [.agg (cfC c), .c (.sl 3 li lo l.length), .c (.int .i64 n)] G = some ([.c (.int .i64 (lowR c.H l n).1), .c (.bool (lowR c.H l n).2)], G) := by
  rw [hodmanref17_Lowest.cw]
  unfold hodmanref17_Lowest.f
  have lp : ∀ (d j : Nat), (c.H - (j : Int) * n).toNat ≤ d → (j : Int) * n ≤ c.H + n → (∀ i : Nat, i < j → freeB l ((i : Int) * n) n = false) →
      hodmanref17_Lowest.L35 machW CW li lo l.length n ((j : Int) * n) c.G c.N c.M c.L c.Pg c.P c.H c.Sd G = some ([.c (.int .i64 (lowR c.H l n).1), .c (.bool (lowR c.H l n).2)], G) := by
    intro d
    induction d with
    | zero =>
      intro j hd hj hm
      have h0 : 0 ≤ (j : Int) * n := Int.mul_nonneg (by omega) (by omega)
      rw [hodmanref17_Lowest.L35_eq, i64w, wrap_id (by omega) (by omega), condD_neg (by omega)]
      have e : lowJ c.H l n = none := by
        rw [lowJ_none hn.1 hH.1]
        intro i hi
        apply hm
        rcases Nat.lt_or_ge i j with h | h
        · exact h
        · have : (j : Int) * n ≤ (i : Int) * n := Int.mul_le_mul_of_nonneg_right (by omega) (by omega)
          omega
      unfold lowR; rw [e]
    | succ d ih =>
      intro j hd hj hm
      have h0 : 0 ≤ (j : Int) * n := Int.mul_nonneg (by omega) (by omega)
      rw [hodmanref17_Lowest.L35_eq, i64w, wrap_id (by omega) (by omega)]
      by_cases hin : (j : Int) * n + n ≤ c.H
      · rw [condD_pos hin]
        have := hodmanref17_Lowest.inner (c := c) s ok hn (a := (j : Int) * n) (by omega) hl l.length 0 (by omega)
        rw [List.drop_zero] at this
        have this : hodmanref17_Lowest.L19 machW CW li lo l.length n ((j : Int) * n) true 0 c.G c.N c.M c.L c.Pg c.P c.H c.Sd G = _ := this
        rw [this]
        by_cases hf : freeB l ((j : Int) * n) n = true
        · rw [if_pos hf]
          have e : lowJ c.H l n = some j := (lowJ_some hn.1 hH.1).2 ⟨hin, hf, hm⟩
          unfold lowR; rw [e]
        · rw [if_neg hf]
          have e1 : (j : Int) * n + n = ((j + 1 : Nat) : Int) * n := by
            rw [show ((j + 1 : Nat) : Int) = (j : Int) + 1 by omega, Int.add_mul, Int.one_mul]
          rw [e1]
          refine ih (j + 1) (by omega) (by omega) ?_
          intro i hi
          rcases Nat.lt_or_ge i j with h | h
          · exact hm i h
          · rw [show i = j by omega]; simpa using hf
      · rw [condD_neg hin]
        have e : lowJ c.H l n = none := by
          rw [lowJ_none hn.1 hH.1]
          intro i hi
          apply hm
          rcases Nat.lt_or_ge i j with h | h
          · exact h
          · have : (j : Int) * n ≤ (i : Int) * n := Int.mul_le_mul_of_nonneg_right (by omega) (by omega)
            omega
        unfold lowR; rw [e]
  have := lp (c.H.toNat) 0 (by omega) (by simp; omega) (fun i hi => by omega)
  simpa using this
theorem hodmanref17_put.fin {id : Nat} {n : Nat} : hodmanref17_put.J30 machW CW id 0 n G = some ([.c (.sl 3 id 0 n)], G) := by rw [hodmanref17_put.J30_eq]
theorem hodmanref17_put.sp {li lo : Nat} {l : List Blk} (w : G.wf) (s : Sl G eBlk li lo l) (b : Blk) (hl : l.length ≤ 1000000000) :
    ∃ id G', CW hodmanref17_put.id [.c (.sl 3 li lo l.length), .agg (eBlk b)] G = some ([.c (.sl 3 id 0 (putB l b).length)], G') ∧ Hp G G' [rowE eBlk id (putB l b)] := by
  rw [hodmanref17_put.cw]
  unfold hodmanref17_put.f
  have hm : (1000000001 : Nat) ≤ most := by unfold most; decide
  -- behind it: the rest is copied
  have rest : ∀ (d i : Nat) (acc : List Blk) (oid : Nat) (G1 : GH), i + d = l.length → acc.length = i + 1 → Hp G G1 [rowE eBlk oid acc] →
      ∃ id G', hodmanref17_put.L20 machW CW li lo l.length oid 0 acc.length true (i : Int) b.at_ b.ch b.asked G1 = some ([.c (.sl 3 id 0 (acc ++ l.drop i).length)], G') ∧ Hp G G' [rowE eBlk id (acc ++ l.drop i)] := by
    intro d
    induction d with
    | zero =>
      intro i acc oid G1 hi ha h
      rw [hodmanref17_put.L20_eq, condD_neg (by omega), q_nt, q_cf, hodmanref17_put.fin, List.drop_of_length_le (by omega), List.append_nil]
      exact ⟨_, _, rfl, h⟩
    | succ d ih =>
      intro i acc oid G1 hi ha h
      have hil : i < l.length := by omega
      have e : l.drop i = l[i] :: l.drop (i + 1) := List.drop_eq_getElem_cons hil
      have s1 := s.keep h
      have z : decide (0 ≤ (i : Int) ∧ (i : Int) < ((l.length : Nat) : Int)) = true := decide_eq_true (by omega)
      obtain ⟨o2, G2, h2, k2⟩ := h.app1 (S := Res) l[i] rfl (by omega)
      rw [hodmanref17_put.L20_eq, condD_pos (by omega), q_nt, q_cf, hodmanref17_put.J12_eq, q_cf, hodmanref17_put.J14_eq]
      simp only [z, Int.toNat_natCast, s1.ld i 0 hil (by omega), s1.ld i 1 hil (by omega), s1.ld i 2 hil (by omega), q_bs, q_I, q_B, q_P, q_S, q_M, q_c, q_a, q_gz, q_gs, q_gk, q_ct, q_cf, q_nt, q_nf, q_xt, q_xf, q_tt, q_ff, q_tf, q_ft, q_at, q_af, i64w, wrap_id (a := (i : Int) + 1) (by omega) (by omega)]
      rw [k2, e, show acc ++ l[i] :: l.drop (i + 1) = (acc ++ [l[i]]) ++ l.drop (i + 1) by simp]
      have := ih (i + 1) (acc ++ [l[i]]) o2 G2 (by omega) (by simp; omega) h2
      rw [List.length_append, List.length_singleton] at this
      exact this
  -- ahead of it
  have lp : ∀ (d i : Nat) (oid : Nat) (G1 : GH), i + d = l.length → (∀ j, j < i → ∀ x, l[j]? = some x → ¬ x.at_ > b.at_) → Hp G G1 [rowE eBlk oid (l.take i)] →
      ∃ id G', hodmanref17_put.L20 machW CW li lo l.length oid 0 i false (i : Int) b.at_ b.ch b.asked G1 = some ([.c (.sl 3 id 0 (putB l b).length)], G') ∧ Hp G G' [rowE eBlk id (putB l b)] := by
    intro d
    induction d with
    | zero =>
      intro i oid G1 hi hno h
      have hti : (l.take i).length = i := by rw [List.length_take]; omega
      obtain ⟨o2, G2, h2, k2⟩ := h.app1 (S := Res) (n := i) b hti.symm (by omega)
      rw [hodmanref17_put.L20_eq, condD_neg (by omega), q_nf, q_ct]
      dsimp only
      rw [k2, putB_take l b i hno (by omega), List.drop_of_length_le (by omega)]
      refine ⟨o2, G2, ?_, h2⟩
      rw [hodmanref17_put.fin, List.length_append, hti]
      rfl
    | succ d ih =>
      intro i oid G1 hi hno h
      have hti : (l.take i).length = i := by rw [List.length_take]; omega
      have hil : i < l.length := by omega
      have e : l.drop i = l[i] :: l.drop (i + 1) := List.drop_eq_getElem_cons hil
      have s1 := s.keep h
      have z : decide (0 ≤ (i : Int) ∧ (i : Int) < ((l.length : Nat) : Int)) = true := decide_eq_true (by omega)
      rw [hodmanref17_put.L20_eq, condD_pos (by omega), q_nf, q_ct]
      simp only [z, Int.toNat_natCast, s1.ld i 0 hil (by omega), q_bs, q_I, q_B, q_P, q_S, q_M, q_c, q_a, q_gz, q_gs, q_gk, q_ct, q_cf, q_nt, q_nf, q_xt, q_xf, q_tt, q_ff, q_tf, q_ft, q_at, q_af]
      rw [hodmanref17_put.J12_eq]
      by_cases hgt : l[i].at_ > b.at_
      · rw [condD_pos hgt]
        obtain ⟨o2, G2, h2, k2⟩ := h.app1 (S := Res) (n := i) b hti.symm (by omega)
        dsimp only
        rw [k2, hodmanref17_put.J14_eq]
        have s2 := s.keep h2
        obtain ⟨o3, G3, h3, k3⟩ := h2.app1 (S := Res) (n := i + 1) l[i] (by simp [hti]) (by simp [hti]; omega)
        simp only [z, Int.toNat_natCast, s2.ld i 0 hil (by omega), s2.ld i 1 hil (by omega), s2.ld i 2 hil (by omega), q_bs, q_I, q_B, q_P, q_S, q_M, q_c, q_a, q_gz, q_gs, q_gk, q_ct, q_cf, q_nt, q_nf, q_xt, q_xf, q_tt, q_ff, q_tf, q_ft, q_at, q_af, i64w, wrap_id (a := (i : Int) + 1) (by omega) (by omega)]
        rw [k3]
        have hp : putB l b = l.take i ++ [b] ++ [l[i]] ++ l.drop (i + 1) := by
          rw [putB_take l b i hno (by omega), e]
          unfold putB
          rw [if_pos hgt]; simp
        rw [hp]
        have := rest d (i + 1) (l.take i ++ [b] ++ [l[i]]) o3 G3 (by omega) (by simp [hti]) h3
        rw [show (l.take i ++ [b] ++ [l[i]]).length = i + 1 + 1 by simp [hti]] at this
        exact this
      · rw [condD_neg hgt, hodmanref17_put.J14_eq]
        obtain ⟨o2, G2, h2, k2⟩ := h.app1 (S := Res) (n := i) l[i] hti.symm (by omega)
        simp only [z, Int.toNat_natCast, s1.ld i 0 hil (by omega), s1.ld i 1 hil (by omega), s1.ld i 2 hil (by omega), q_bs, q_I, q_B, q_P, q_S, q_M, q_c, q_a, q_gz, q_gs, q_gk, q_ct, q_cf, q_nt, q_nf, q_xt, q_xf, q_tt, q_ff, q_tf, q_ft, q_at, q_af, i64w, wrap_id (a := (i : Int) + 1) (by omega) (by omega)]
        rw [k2]
        have ht : l.take i ++ [l[i]] = l.take (i + 1) := by rw [List.take_add_one, List.getElem?_eq_getElem hil]; rfl
        rw [ht] at h2
        refine ih (i + 1) o2 G2 (by omega) ?_ h2
        intro j hj x hx
        rcases Nat.lt_or_ge j i with h | h
        · exact hno j h x hx
        · rw [show j = i by omega, List.getElem?_eq_getElem hil] at hx
          cases hx; exact hgt
  have h0 : Hp G G [rowE eBlk 0 (l.take 0)] := ⟨w, w, Nat.le_refl _, fun _ _ => rfl, fun e he => by
    simp only [List.mem_singleton] at he; subst he; exact .inl ⟨rfl, rfl⟩, List.pairwise_singleton _ _⟩
  exact lp l.length 0 0 G (by omega) (fun j hj => by omega) h0
theorem hodmanref17_SameOps.sp {ai ao bi bo : Nat} {a b : List OpV} (sa : Sl G eOp ai ao a) (sb : Sl G eOp bi bo b) (hl : a.length ≤ 1000000000) :
    CW hodmanref17_SameOps.id [.c (.sl 6 ai ao a.length), .c (.sl 6 bi bo b.length)] G = some ([.c (.bool (decide (a = b)))], G) := by
  rw [hodmanref17_SameOps.cw]
  unfold hodmanref17_SameOps.f
  by_cases h : a.length = b.length
  · rw [condN_neg (by omega)]
    have lp : ∀ (d i : Nat), i + d = a.length → hodmanref17_SameOps.L25 machW CW ai ao a.length bi bo b.length (i : Int) G = some ([.c (.bool (decide (a.drop i = b.drop i)))], G) := by
      intro d
      induction d with
      | zero =>
        intro i hi
        rw [hodmanref17_SameOps.L25_eq, condD_neg (by omega), List.drop_of_length_le (by omega), List.drop_of_length_le (by omega), decide_eq_true rfl]
      | succ d ih =>
        intro i hi
        have ha : i < a.length := by omega
        have hb : i < b.length := by omega
        have e1 : a.drop i = a[i] :: a.drop (i + 1) := List.drop_eq_getElem_cons ha
        have e2 : b.drop i = b[i] :: b.drop (i + 1) := List.drop_eq_getElem_cons hb
        have z1 : decide (0 ≤ (i : Int) ∧ (i : Int) < ((a.length : Nat) : Int)) = true := decide_eq_true (by omega)
        have z2 : decide (0 ≤ (i : Int) ∧ (i : Int) < ((b.length : Nat) : Int)) = true := decide_eq_true (by omega)
        rw [hodmanref17_SameOps.L25_eq, condD_pos (by omega)]
        simp only [z1, z2, Int.toNat_natCast, sa.ld i 0 ha (by omega), sa.ld i 1 ha (by omega), sa.ld i 2 ha (by omega), sa.ld i 3 ha (by omega), sa.ld i 4 ha (by omega), sa.ld i 5 ha (by omega),
          sb.ld i 0 hb (by omega), sb.ld i 1 hb (by omega), sb.ld i 2 hb (by omega), sb.ld i 3 hb (by omega), sb.ld i 4 hb (by omega), sb.ld i 5 hb (by omega), q_bs, q_I, q_B, q_P, q_S, q_M, q_c, q_a, q_gz, q_gs, q_gk, q_ct, q_cf, q_nt, q_nf, q_xt, q_xf, q_tt, q_ff, q_tf, q_ft, q_at, q_af]
        have e3 : (decide (a[i].k = b[i].k) && (decide (a[i].p = b[i].p) && (decide (a[i].s = b[i].s) && (decide (a[i].a = b[i].a) && (decide (a[i].n = b[i].n) && (decide (a[i].b = b[i].b) && true)))))) = decide (a[i] = b[i]) := by
          rw [Bool.eq_iff_iff]
          simp only [Bool.and_eq_true, decide_eq_true_eq, and_true]
          constructor
          · rintro ⟨x1, x2, x3, x4, x5, x6⟩
            cases ha' : a[i]; cases hb' : b[i]; simp_all
          · intro x; rw [x]; simp
        have e4 : (a.drop i = b.drop i) = (a[i] = b[i] ∧ a.drop (i + 1) = b.drop (i + 1)) := by rw [e1, e2, List.cons.injEq]
        rw [e3]
        by_cases hx : a[i] = b[i]
        · rw [condN_neg hx, i64w, wrap_id (by omega) (by omega)]
          have := ih (i + 1) (by omega)
          rw [show ((i + 1 : Nat) : Int) = (i : Int) + 1 by omega] at this
          rw [this]; simp only [e4, hx, true_and]
        · rw [condN_pos hx, decide_eq_false (by rw [e4]; exact fun y => hx y.1)]
    have := lp a.length 0 (by omega)
    simpa using this
  · rw [condN_pos (by omega), decide_eq_false (fun e => h (by rw [e]))]
end Go.Proofs.D.S
/- Plain lemmas on how much must be live at least: sums over the places of a class. -/
set_option linter.unusedVariables false
namespace Go.Proofs.D.S
open Go Go.RowKit

/-- of which class at least a block is that meets the j-th place of class k (t places of it are half of what may be live) -/
def ofP (k t j : Nat) : Nat := min k (j / t - 1)
/-- how much must be live at least if n places are met -/
def leastN (g k t : Nat) : Nat → Nat
  | 0 => 0
  | n + 1 => leastN g k t n + 2 ^ (g + ofP k t n)

theorem leastN_step (g k t n : Nat) : leastN g k t n + 2 ^ g ≤ leastN g k t (n + 1) := by
  have : (2 : Nat) ^ g ≤ 2 ^ (g + ofP k t n) := Nat.pow_le_pow_right (by decide) (by omega)
  simp only [leastN]; omega

theorem leastN_mono (g k t : Nat) {n m : Nat} (h : n ≤ m) : leastN g k t n ≤ leastN g k t m := by
  obtain ⟨d, rfl⟩ := Nat.exists_eq_add_of_le h
  clear h
  induction d with
  | zero => exact Nat.le_refl _
  | succ d ih => have := leastN_step g k t (n + d); have := Nat.two_pow_pos g; rw [← Nat.add_assoc]; omega

theorem leastN_run (g k t e n : Nat) (m : Nat) (h : ∀ j, n ≤ j → j < n + m → ofP k t j = e) : leastN g k t (n + m) = leastN g k t n + m * 2 ^ (g + e) := by
  induction m with
  | zero => simp
  | succ m ih =>
    rw [← Nat.add_assoc]
    simp only [leastN]
    rw [ih (fun j h1 h2 => h j h1 (by omega)), h (n + m) (by omega) (by omega), Nat.succ_mul]
    omega

theorem leastN_seg (g k t : Nat) (ht : 1 ≤ t) (i : Nat) (hi : i ≤ k) : leastN g k t (t * (2 + i)) = t * 2 ^ (g + 1 + i) := by
  induction i with
  | zero =>
    have h := leastN_run g k t 0 0 (t * 2) (by
      intro j _ h
      have : j / t < 2 := (Nat.div_lt_iff_lt_mul (by omega)).2 (by rw [Nat.mul_comm 2 t]; omega)
      unfold ofP; omega)
    rw [Nat.zero_add] at h
    simp only [leastN, Nat.zero_add, Nat.add_zero] at h ⊢
    rw [h, Nat.mul_assoc, Nat.pow_succ, Nat.mul_comm 2]
  | succ i ih =>
    have h := leastN_run g k t (i + 1) (t * (2 + i)) t (by
      intro j h1 h2
      have e : j / t = 2 + i := by
        apply Nat.div_eq_of_lt_le
        · rw [Nat.mul_comm]; exact h1
        · rw [Nat.add_mul, Nat.mul_comm (2 + i) t]; omega
      unfold ofP; omega)
    have e : t * (2 + (i + 1)) = t * (2 + i) + t := by rw [← Nat.add_assoc, Nat.mul_add t (2 + i) 1]; omega
    rw [e, h, ih (by omega), show g + 1 + (i + 1) = (g + 1 + i) + 1 by omega, show g + (i + 1) = g + 1 + i by omega, Nat.pow_succ, ← Nat.mul_assoc]
    omega

/-- all that may be live, at the ceiling -/
theorem leastN_full (g k t : Nat) (ht : 1 ≤ t) : leastN g k t (t * (2 + k)) = t * 2 ^ (g + 1 + k) := leastN_seg g k t ht k (Nat.le_refl _)

/-- how a configuration's sizes hang together: t places of class k are half of what may be live -/
theorem tK {g c k q : Nat} (hk : k ≤ c) : q * 2 ^ (g + c + 1) = 2 * (q * 2 ^ (c - k) * 2 ^ (g + k)) := by
  rw [Nat.mul_assoc q, ← Nat.pow_add, show c - k + (g + k) = g + c by omega, Nat.pow_succ]
  rw [← Nat.mul_assoc, Nat.mul_comm]

/-- the ceiling of class i, in places of class k -/
theorem ceil_places {M : Int} {g c k q i : Nat} (hk : k ≤ c) (hM : M = ((q * 2 ^ (g + c + 1) : Nat) : Int)) : M + (i : Int) * (M / 2) = (((q * 2 ^ (c - k) * (2 + i)) * 2 ^ (g + k) : Nat) : Int) := by
  have h := tK (g := g) (q := q) hk
  have h2 : M / 2 = ((q * 2 ^ (c - k) * 2 ^ (g + k) : Nat) : Int) := by rw [hM, h]; omega
  rw [h2, hM, h]
  have e : (q * 2 ^ (c - k) * (2 + i)) * 2 ^ (g + k) = 2 * (q * 2 ^ (c - k) * 2 ^ (g + k)) + i * (q * 2 ^ (c - k) * 2 ^ (g + k)) := by
    rw [← Nat.add_mul, Nat.mul_assoc, Nat.mul_comm (2 + i), ← Nat.mul_assoc, Nat.mul_comm]
  rw [e, Int.natCast_add, Int.natCast_mul i]

/-- which class it is, of a place -/
theorem ofP_spec {k t j : Nat} (ht : 1 ≤ t) : ofP k t j ≤ k ∧ (∀ i, i < ofP k t j → t * (2 + i) ≤ j) ∧ (ofP k t j < k → j < t * (2 + ofP k t j)) := by
  unfold ofP
  have h1 := Nat.div_add_mod j t
  have h2 := Nat.mod_lt j (show t > 0 by omega)
  refine ⟨by omega, ?_, ?_⟩
  · intro i hi
    have h3 : 2 + i ≤ j / t := by omega
    have := Nat.mul_le_mul_left t h3
    omega
  · intro hlt
    have h3 : j / t + 1 ≤ 2 + min k (j / t - 1) := by omega
    have := Nat.mul_le_mul_left t h3
    rw [Nat.mul_add] at this
    omega

end Go.Proofs.D.S
/- The script that drives a heap high, plainly: which blocks are there behind each stage. -/
set_option linter.unusedVariables false
namespace Go.Proofs.D.S
open Go Go.RowKit
/-- How many places of class k are half of what may be live. -/
def tP (l u k : Nat) : Nat := u * 2 ^ (l - k)
theorem tP_pos {l u k : Nat} (hu : 1 ≤ u) : 1 ≤ tP l u k := by
  have := Nat.two_pow_pos (l - k)
  unfold tP; exact Nat.mul_pos hu this
theorem tP_succ {l u k : Nat} (h : k + 1 ≤ l) : tP l u k = 2 * tP l u (k + 1) := by
  unfold tP
  rw [show l - k = (l - (k + 1)) + 1 by omega, Nat.pow_succ, ← Nat.mul_assoc]; omega
theorem tP_half {g l u k : Nat} (h : k ≤ l) : tP l u k * 2 ^ (g + k) = u * 2 ^ (g + l) := by
  unfold tP
  rw [Nat.mul_assoc, ← Nat.pow_add, show l - k + (g + k) = g + l by omega]
/-- A configuration in exponents. -/
structure Cf.Tp (c : Cf) (g l u : Nat) : Prop where
  ok : c.Ok
  ex : c.Ex g l
  hu : 1 ≤ u
  hM : c.M = ((u * 2 ^ (g + l + 1) : Nat) : Int)
theorem Cf.Ok.tp {c : Cf} (h : c.Ok) : ∃ g l u, c.Tp g l u := by
  have h0 := h
  obtain ⟨⟨g, l, p, q, e1, e2, e3, e4, e5, e6, e7, e8, e9⟩, h1, h2, h3, h4⟩ := h
  refine ⟨g, l, q * 2 ^ (max (g + l) p - (g + l)), h0, ⟨e1, e2, e3, e8⟩, Nat.mul_pos e6 (Nat.two_pow_pos _), ?_⟩
  rw [e7, Nat.mul_assoc, ← Nat.pow_add, show max (g + l) p - (g + l) + (g + l + 1) = max (g + l) p + 1 by omega]
section
variable {c : Cf} {g l u : Nat}
theorem Cf.Tp.half (h : c.Tp g l u) {k : Nat} (hk : k ≤ l) : c.M / 2 = ((tP l u k * 2 ^ (g + k) : Nat) : Int) := by
  have e := tP_half (g := g) (u := u) hk
  rw [h.hM, e]
  have : u * 2 ^ (g + l + 1) = 2 * (u * 2 ^ (g + l)) := by rw [Nat.pow_succ, ← Nat.mul_assoc]; omega
  omega
theorem Cf.Tp.full (h : c.Tp g l u) {k : Nat} (hk : k ≤ l) : c.M = ((2 * (tP l u k * 2 ^ (g + k)) : Nat) : Int) := by
  have e := tP_half (g := g) (u := u) hk
  rw [h.hM, e]
  have : u * 2 ^ (g + l + 1) = 2 * (u * 2 ^ (g + l)) := by rw [Nat.pow_succ, ← Nat.mul_assoc]; omega
  omega
/-- A class's ceiling, in its own places. -/
theorem Cf.Tp.ceil (h : c.Tp g l u) {k : Nat} (hk : k ≤ l) : c.ceil (k : Int) = ((tP l u k * (2 + k) * 2 ^ (g + k) : Nat) : Int) := by
  have hL := h.ex.hL
  obtain ⟨e, _, _⟩ := h.ok.ceil (k := (k : Int)) (by omega) (by omega)
  rw [e, h.half hk, h.full hk]
  have e2 : tP l u k * (2 + k) * 2 ^ (g + k) = 2 * (tP l u k * 2 ^ (g + k)) + k * (tP l u k * 2 ^ (g + k)) := by
    rw [← Nat.add_mul, Nat.mul_assoc, Nat.mul_comm (2 + k), ← Nat.mul_assoc, Nat.mul_comm (2 + k)]
  rw [e2, Int.natCast_add, Int.natCast_mul k]
/-- A class's ceiling, in places of another. -/
theorem Cf.Tp.ceilAt (h : c.Tp g l u) {k i : Nat} (hk : k ≤ l) (hi : i ≤ l) : c.ceil (i : Int) = ((tP l u k * (2 + i) * 2 ^ (g + k) : Nat) : Int) := by
  have hL := h.ex.hL
  obtain ⟨e, _, _⟩ := h.ok.ceil (k := (i : Int)) (by omega) (by omega)
  rw [e, h.half hk, h.full hk]
  have e2 : tP l u k * (2 + i) * 2 ^ (g + k) = 2 * (tP l u k * 2 ^ (g + k)) + i * (tP l u k * 2 ^ (g + k)) := by
    rw [← Nat.add_mul, Nat.mul_assoc, Nat.mul_comm (2 + i), ← Nat.mul_assoc, Nat.mul_comm (2 + i)]
  rw [e2, Int.natCast_add, Int.natCast_mul i]
/-- The ceiling of the class below, in places of this one. -/
theorem Cf.Tp.ceil_below (h : c.Tp g l u) {k : Nat} (hk : k + 1 ≤ l) : c.ceil (k : Int) = ((tP l u (k + 1) * (2 + k) * 2 ^ (g + (k + 1)) : Nat) : Int) := by
  rw [h.ceil (show k ≤ l by omega), tP_succ hk]
  congr 1
  rw [← Nat.add_assoc, Nat.pow_succ]
  rw [Nat.mul_comm 2, Nat.mul_assoc, Nat.mul_assoc, Nat.mul_assoc, Nat.mul_comm 2 ((2 + k) * 2 ^ (g + k)), Nat.mul_assoc (2 + k)]
theorem Cf.Tp.small (h : c.Tp g l u) {k : Nat} (hk : k ≤ l) : tP l u k * (2 + k) * 2 ^ (g + k) ≤ 65536 := by
  have hL := h.ex.hL
  obtain ⟨e, a, b⟩ := h.ok.ceil (k := (k : Int)) (by omega) (by omega)
  have f := h.ok.facts
  rw [h.ceil hk] at a
  omega
end
section
variable (g l u : Nat)
/-- The block at place j of class k. -/
def elN (k j : Nat) : Nat := 2 ^ (g + ofP k (tP l u k) j)
def elB (k j : Nat) : Blk := ⟨((j * 2 ^ (g + k) : Nat) : Int), ((elN g l u k j : Nat) : Int), ((elN g l u k j : Nat) : Int)⟩
def elS (k j : Nat) : SpanV := ⟨((j * 2 ^ (g + k) : Nat) : Int), ((elN g l u k j : Nat) : Int)⟩
def rowB (k n : Nat) : List Blk := (List.range n).map (elB g l u k)
def rowS (k n : Nat) : List SpanV := (List.range n).map (elS g l u k)
/-- Places below the stage's own blocks. -/
def low (k : Nat) : Nat := if k = 0 then 0 else tP l u k * (1 + k)
def own (k : Nat) : Nat := if k = 0 then 2 * tP l u 0 else tP l u k
def atB : Nat → List Blk
  | 0 => []
  | k + 1 => rowB g l u k (tP l u k * (2 + k))
def atS : Nat → List SpanV
  | 0 => []
  | k + 1 => rowS g l u k (tP l u k * (2 + k))
def freeOps (k n : Nat) : List OpV := (List.range n).map fun j => ⟨5, (((2 * j + 1) * 2 ^ (g + (k - 1)) : Nat) : Int), 0, 0, 0, 0⟩
def fillOps (k n : Nat) : List OpV := (List.range n).map fun _ => ⟨1, 0, ((2 ^ (g + k) : Nat) : Int), 0, 0, 0⟩
def opsTo : Nat → List OpV
  | 0 => []
  | k + 1 => opsTo k ++ freeOps g k (low l u k) ++ fillOps g k (own l u k)
def stTo : Nat → List Int
  | 0 => []
  | k + 1 => stTo k ++ [((opsTo g l u (k + 1)).length : Int)]
end
section
variable {g l u : Nat}
theorem low_own {k : Nat} : low l u k + own l u k = tP l u k * (2 + k) := by
  unfold low own
  split
  · rename_i h; subst h; omega
  · rw [← Nat.mul_succ]; congr 1; omega
theorem range_snoc {α : Type} (f : Nat → α) (n : Nat) : (List.range n).map f ++ [f n] = (List.range (n + 1)).map f := by rw [List.range_succ, List.map_append]; rfl
theorem rowB_snoc (k n : Nat) : rowB g l u k n ++ [elB g l u k n] = rowB g l u k (n + 1) := range_snoc _ _
theorem rowS_snoc (k n : Nat) : rowS g l u k n ++ [elS g l u k n] = rowS g l u k (n + 1) := range_snoc _ _
theorem rowB_len (k n : Nat) : (rowB g l u k n).length = n := by simp [rowB]
theorem rowS_len (k n : Nat) : (rowS g l u k n).length = n := by simp [rowS]
theorem rowB_get (k n i : Nat) (h : i < (rowB g l u k n).length) : (rowB g l u k n)[i] = elB g l u k i := by simp [rowB]
theorem rowS_get (k n i : Nat) (h : i < (rowS g l u k n).length) : (rowS g l u k n)[i] = elS g l u k i := by simp [rowS]
/-- What lies in the lower half of a place is what lies at its beginning. -/
theorem elN_even {k j : Nat} (hu : 1 ≤ u) (hk : k + 1 ≤ l) (hj : j < tP l u (k + 1) * (2 + k)) : elN g l u k (2 * j) = elN g l u (k + 1) j := by
  unfold elN ofP
  have ht := tP_pos (l := l) (k := k + 1) hu
  have e : 2 * j / tP l u k = j / tP l u (k + 1) := by
    rw [tP_succ hk, Nat.mul_div_mul_left _ _ (by decide)]
  have h2 : j / tP l u (k + 1) < 2 + k := (Nat.div_lt_iff_lt_mul (by omega)).2 (by rw [Nat.mul_comm]; exact hj)
  rw [e, show min k (j / tP l u (k + 1) - 1) = min (k + 1) (j / tP l u (k + 1) - 1) by omega]
theorem elB_even {k j : Nat} (hu : 1 ≤ u) (hk : k + 1 ≤ l) (hj : j < tP l u (k + 1) * (2 + k)) : elB g l u k (2 * j) = elB g l u (k + 1) j := by
  have e := elN_even (g := g) hu hk hj
  have e2 : 2 * j * 2 ^ (g + k) = j * 2 ^ (g + (k + 1)) := by rw [← Nat.add_assoc, Nat.pow_succ, Nat.mul_comm 2 j, Nat.mul_assoc, Nat.mul_comm 2]
  unfold elB
  rw [e, e2]
theorem elS_even {k j : Nat} (hu : 1 ≤ u) (hk : k + 1 ≤ l) (hj : j < tP l u (k + 1) * (2 + k)) : elS g l u k (2 * j) = elS g l u (k + 1) j := by
  have e := elN_even (g := g) hu hk hj
  have e2 : 2 * j * 2 ^ (g + k) = j * 2 ^ (g + (k + 1)) := by rw [← Nat.add_assoc, Nat.pow_succ, Nat.mul_comm 2 j, Nat.mul_assoc, Nat.mul_comm 2]
  unfold elS
  rw [e, e2]
/-- The stage's own blocks are of its class. -/
theorem elN_own {k j : Nat} (hu : 1 ≤ u) (h1 : low l u k ≤ j) (h2 : j < tP l u k * (2 + k)) : elN g l u k j = 2 ^ (g + k) := by
  unfold elN ofP
  have ht := tP_pos (l := l) (k := k) hu
  have e : k ≤ j / tP l u k - 1 := by
    unfold low at h1
    split at h1
    · omega
    · have : 1 + k ≤ j / tP l u k := (Nat.le_div_iff_mul_le (by omega)).2 (by rw [Nat.mul_comm]; exact h1)
      omega
  rw [Nat.min_eq_left e]
theorem elN_le {k j : Nat} : elN g l u k j ≤ 2 ^ (g + k) := Nat.pow_le_pow_right (by decide) (by unfold ofP; omega)
theorem elN_pos {k j : Nat} : 1 ≤ elN g l u k j := Nat.two_pow_pos _
/-- What all up to a place is charged. -/
theorem sum_low {k : Nat} (hu : 1 ≤ u) (hk : 1 ≤ k) (hl : k ≤ l) : leastN g k (tP l u k) (low l u k) = tP l u k * 2 ^ (g + k) := by
  have h := leastN_seg g k (tP l u k) (tP_pos hu) (k - 1) (by omega)
  unfold low
  rw [if_neg (by omega), show 1 + k = 2 + (k - 1) by omega, h, show g + 1 + (k - 1) = g + k by omega]
theorem leastN_elN (k n : Nat) : leastN g k (tP l u k) (n + 1) = leastN g k (tP l u k) n + elN g l u k n := rfl
/-- The places below are all taken; the next one is free. -/
theorem low_free {k n : Nat} {H : Int} (h : (((n + 1) * 2 ^ (g + k) : Nat) : Int) ≤ H) : lowJ H (rowB g l u k n) ((2 ^ (g + k) : Nat) : Int) = some n := by
  have z := Nat.two_pow_pos (g + k)
  rw [lowJ_some (by omega) (by omega)]
  refine ⟨by rw [Nat.succ_mul] at h; rw [← Int.natCast_mul]; omega, ?_, fun i hi => ?_⟩
  · unfold freeB
    rw [List.all_eq_true]
    intro b hb
    obtain ⟨j, hj, rfl⟩ := List.mem_map.1 hb
    rw [List.mem_range] at hj
    unfold over elB
    have h1 : (j + 1) * 2 ^ (g + k) ≤ n * 2 ^ (g + k) := Nat.mul_le_mul_right _ hj
    have h2 := elN_le (g := g) (l := l) (u := u) (k := k) (j := j)
    rw [Nat.succ_mul] at h1
    rw [← Int.natCast_mul, decide_eq_false (by dsimp only; omega)]
    rfl
  · unfold freeB
    rw [List.all_eq_false]
    refine ⟨elB g l u k i, List.mem_map.2 ⟨i, List.mem_range.2 hi, rfl⟩, ?_⟩
    unfold over elB
    have h2 := elN_pos (g := g) (l := l) (u := u) (k := k) (j := i)
    rw [← Int.natCast_mul, decide_eq_true (by dsimp only; omega), decide_eq_true (by dsimp only; omega)]
    simp
/-- What is placed at the end goes in at the end. -/
theorem putB_end (b : Blk) : ∀ (l : List Blk), (∀ x ∈ l, ¬ x.at_ > b.at_) → putB l b = l ++ [b]
  | [], _ => rfl
  | x :: l, h => by
    have h0 := h x (by simp)
    have e : putB (x :: l) b = x :: putB l b := by simp only [putB, if_neg h0]
    rw [e, putB_end b l fun y hy => h y (by simp [hy])]; rfl
theorem putB_row (k n : Nat) (b : Blk) (hb : b = elB g l u k n) : putB (rowB g l u k n) b = rowB g l u k (n + 1) := by
  rw [putB_end, hb, rowB_snoc]
  intro x hx
  obtain ⟨j, hj, rfl⟩ := List.mem_map.1 hx
  rw [List.mem_range] at hj
  subst hb
  have : j * 2 ^ (g + k) ≤ n * 2 ^ (g + k) := Nat.mul_le_mul_right _ (by omega)
  unfold elB; dsimp only; omega
end
end Go.Proofs.D.S
/- The reference's script. -/
set_option linter.unusedVariables false
set_option linter.unusedSimpArgs false
namespace Go.Proofs.D.S
open Go Go.RowKit
variable {G G0 : GH} {L : List (Nat × Obj)}
theorem Hp.nil0 {α : Type} {k : Nat} {e : α → List Cell} [W : Wide k e] (h : Hp G0 G L) : Hp G0 G (rowE e 0 [] :: L) :=
  ⟨h.wf0, h.wf, h.nx, h.old, fun x hx => by
    rcases List.mem_cons.1 hx with rfl | hx
    · exact .inl ⟨rfl, rfl⟩
    · exact h.ok x hx, List.pairwise_cons.2 ⟨fun b hb => by
      rcases h.ok b hb with ⟨q, _⟩ | ⟨_, q, _⟩
      · exact .inr rfl
      · left; dsimp only; omega, h.nd⟩⟩
theorem tdiv_nat (a b : Nat) : Int.tdiv (a : Int) (b : Int) = ((a / b : Nat) : Int) := by rw [Int.ofNat_tdiv]
section
variable {c : Cf} {g l u : Nat}
/-- How long a script is. -/
theorem Cf.Tp.bound (h : c.Tp g l u) {k : Nat} (hk : k ≤ l) : tP l u k * (2 + k) ≤ 65536 ∧ 2 ^ (g + k) ≤ 65536 := by
  have h1 := h.small hk
  have z := Nat.two_pow_pos (g + k)
  have h2 : tP l u k * (2 + k) ≤ tP l u k * (2 + k) * 2 ^ (g + k) := Nat.le_mul_of_pos_right _ z
  have h3 : 1 ≤ tP l u k * (2 + k) := Nat.mul_pos (tP_pos h.hu) (by omega)
  have h4 : 2 ^ (g + k) ≤ tP l u k * (2 + k) * 2 ^ (g + k) := Nat.le_mul_of_pos_left _ h3
  omega
theorem opsTo_len (h : c.Tp g l u) : ∀ k, k ≤ l + 1 → (opsTo g l u k).length ≤ k * 131072
  | 0, _ => by simp [opsTo]
  | k + 1, hk => by
    have ih := opsTo_len h k (by omega)
    have b := (h.bound (k := k) (by omega)).1
    have e := low_own (l := l) (u := u) (k := k)
    simp only [opsTo, List.length_append, freeOps, fillOps, List.length_map, List.length_range]
    omega
theorem stTo_len : ∀ k, (stTo g l u k).length = k
  | 0 => rfl
  | k + 1 => by simp [stTo, stTo_len k]
def FinS (G : GH) (ops : List OpV) (st : List Int) (x : Option Res) : Prop := ∃ oi si G', x = some ([.c (.sl 6 oi 0 ops.length), .c (.sl 1 si 0 st.length)], G') ∧ Hp G G' [rowE eOp oi ops, rowE eI si st]
theorem hodmanref17_Script.frees (tp : c.Tp g l u) {k : Nat} (hk : k + 1 ≤ l) {si : Nat} {st : List Int} {A : List OpV} {B : List Int} (hA : (opsTo g l u (k + 1)).length ≤ 100000000)
    (next : ∀ oi ki G2, Hp G G2 [rowE eOp oi (opsTo g l u (k + 1) ++ freeOps g (k + 1) (low l u (k + 1))), rowE eBlk ki (rowB g l u (k + 1) (low l u (k + 1))), rowE eI si st] →
      FinS G A B (hodmanref17_Script.L44 machW CW oi 0 (opsTo g l u (k + 1) ++ freeOps g (k + 1) (low l u (k + 1))).length ki 0 (rowB g l u (k + 1) (low l u (k + 1))).length si 0 st.length ((k + 1 : Nat) : Int) ((2 ^ (g + (k + 1)) : Nat) : Int) 0 0 c.G c.N c.M c.L c.Pg c.P c.H c.Sd G2)) :
    ∀ (d j : Nat), j + d = low l u (k + 1) → ∀ (oi ki li : Nat) (G1 : GH), Hp G G1 [rowE eOp oi (opsTo g l u (k + 1) ++ freeOps g (k + 1) j), rowE eBlk ki (rowB g l u (k + 1) j), rowE eBlk li (atB g l u (k + 1)), rowE eI si st] →
      FinS G A B (hodmanref17_Script.L28 machW CW oi 0 (opsTo g l u (k + 1) ++ freeOps g (k + 1) j).length li 0 (atB g l u (k + 1)).length si 0 st.length ((k + 1 : Nat) : Int) ((2 ^ (g + (k + 1)) : Nat) : Int) ((j : Int) - 1) ki 0 j ((2 * j : Nat) : Int) c.G c.N c.M c.L c.Pg c.P c.H c.Sd G1) := by
  have b1 := tp.bound (k := k) (by omega)
  have b2 := tp.bound hk
  have z := Nat.two_pow_pos (g + k)
  have z2 := Nat.two_pow_pos (g + (k + 1))
  have hlow : low l u (k + 1) = tP l u (k + 1) * (2 + k) := by unfold low; rw [if_neg (by omega)]; congr 1; omega
  have hlb : low l u (k + 1) ≤ 65536 := by rw [hlow]; exact Nat.le_trans (Nat.mul_le_mul_left _ (by omega)) b2.1
  have hat : (atB g l u (k + 1)).length = 2 * low l u (k + 1) := by
    rw [hlow]; show (rowB g l u k _).length = _
    rw [rowB_len, tP_succ hk, Nat.mul_assoc]
  have hm : (1000000000 : Nat) ≤ most := by unfold most; decide
  intro d
  induction d with
  | zero =>
    intro j hj oi ki li G1 h
    obtain rfl : j = low l u (k + 1) := by omega
    rw [hodmanref17_Script.L28_eq, condD_neg (by rw [hat]; omega), hodmanref17_Script.J17_eq, q_cf]
    have := next oi ki G1 (h.sub (by simp))
    rw [rowB_len] at this
    exact this
  | succ d ih =>
    intro j hj oi ki li G1 h
    have hjl : j < tP l u (k + 1) * (2 + k) := by omega
    have i1 : 2 * j < (atB g l u (k + 1)).length := by omega
    have i2 : 2 * j + 1 < (atB g l u (k + 1)).length := by omega
    have hget : ∀ i (hi : i < (atB g l u (k + 1)).length), (atB g l u (k + 1))[i] = elB g l u k i := fun i hi => rowB_get _ _ _ hi
    have hdiv : ∀ i, i < 2 * low l u (k + 1) → wrap64 (Int.tdiv (elB g l u k i).at_ ((2 ^ (g + (k + 1)) : Nat) : Int)) = ((i / 2 : Nat) : Int) := by
      intro i hi
      have e1 : i * 2 ^ (g + k) / 2 ^ (g + (k + 1)) = i / 2 := by
        rw [← Nat.add_assoc, Nat.pow_succ, Nat.mul_comm (2 ^ (g + k)) 2, Nat.mul_div_mul_right _ _ z]
      unfold elB
      rw [tdiv_nat, e1, wrap_id (by omega) (by omega)]
    -- the first of the place is kept
    have s1 : Sl G1 eBlk li 0 (atB g l u (k + 1)) := h.sl (by simp)
    have zz : ∀ i, i < (atB g l u (k + 1)).length → decide (0 ≤ ((i : Nat) : Int) ∧ ((i : Nat) : Int) < (((atB g l u (k + 1)).length : Nat) : Int)) = true := fun i hi => decide_eq_true (by omega)
    have h2 : Hp G G1 [rowE eBlk ki (rowB g l u (k + 1) j), rowE eOp oi (opsTo g l u (k + 1) ++ freeOps g (k + 1) j), rowE eBlk li (atB g l u (k + 1)), rowE eI si st] := h.pick 1
    obtain ⟨k2, G2, h3, e3⟩ := h2.app1 (S := Res) (n := j) (elB g l u k (2 * j)) (by rw [rowB_len]) (by rw [rowB_len]; omega)
    rw [elB_even tp.hu hk hjl, rowB_snoc] at h3
    have s2 : Sl G2 eBlk li 0 (atB g l u (k + 1)) := h3.sl (by simp)
    rw [hodmanref17_Script.L28_eq, condD_pos (by omega), decide_eq_true (show ((k + 1 : Nat) : Int) > 0 by omega), hodmanref17_Script.J17_eq, q_ct]
    simp only [zz _ i1, Int.toNat_natCast, s1.ld (2 * j) 0 i1 (by omega), s1.ld (2 * j) 1 i1 (by omega), s1.ld (2 * j) 2 i1 (by omega), hget (2 * j) i1, q_bs, q_I, q_B, q_P, q_S, q_M, q_c, q_a, q_gz, q_gs, q_gk, q_ct, q_cf, q_nt, q_nf, q_xt, q_xf, q_tt, q_ff, q_tf, q_ft, q_at, q_af, binD_quo (show ((2 ^ (g + (k + 1)) : Nat) : Int) ≠ 0 by omega), i64w, hdiv (2 * j) (by omega)]
    rw [condD_neg (by omega)]
    rw [e3]
    simp only [s2.ld (2 * j) 0 i1 (by omega), hget (2 * j) i1, q_bs, q_I, q_B, q_P, q_S, q_M, q_c, q_a, q_gz, q_gs, q_gk, q_ct, q_cf, q_nt, q_nf, q_xt, q_xf, q_tt, q_ff, q_tf, q_ft, q_at, q_af, decide_true]
    rw [hodmanref17_Script.J25_eq, i64w, wrap_id (by omega) (by omega)]
    -- the second of the place is freed
    have h4 : Hp G G2 [rowE eOp oi (opsTo g l u (k + 1) ++ freeOps g (k + 1) j), rowE eBlk k2 (rowB g l u (k + 1) (j + 1)), rowE eBlk li (atB g l u (k + 1)), rowE eI si st] := h3.pick 1
    have hfl : (opsTo g l u (k + 1) ++ freeOps g (k + 1) j).length = (opsTo g l u (k + 1)).length + j := by rw [List.length_append]; simp [freeOps]
    obtain ⟨o2, G3, h5, e5⟩ := h4.app1 (S := Res) (n := (opsTo g l u (k + 1) ++ freeOps g (k + 1) j).length) ⟨5, (elB g l u k (2 * j + 1)).at_, 0, 0, 0, 0⟩ rfl (by omega)
    have hf : freeOps g (k + 1) j ++ [⟨5, (elB g l u k (2 * j + 1)).at_, 0, 0, 0, 0⟩] = freeOps g (k + 1) (j + 1) := range_snoc (fun j => (⟨5, (((2 * j + 1) * 2 ^ (g + (k + 1 - 1)) : Nat) : Int), 0, 0, 0, 0⟩ : OpV)) j
    rw [List.append_assoc, hf] at h5
    rw [hodmanref17_Script.L28_eq, condD_pos (by omega), decide_eq_true (show ((k + 1 : Nat) : Int) > 0 by omega), hodmanref17_Script.J17_eq, q_ct]
    rw [show ((2 * j : Nat) : Int) + 1 = ((2 * j + 1 : Nat) : Int) by omega]
    simp only [zz _ i2, Int.toNat_natCast, s2.ld (2 * j + 1) 0 i2 (by omega), hget (2 * j + 1) i2, q_bs, q_I, q_B, q_P, q_S, q_M, q_c, q_a, q_gz, q_gs, q_gk, q_ct, q_cf, q_nt, q_nf, q_xt, q_xf, q_tt, q_ff, q_tf, q_ft, q_at, q_af, binD_quo (show ((2 ^ (g + (k + 1)) : Nat) : Int) ≠ 0 by omega), i64w, hdiv (2 * j + 1) (by omega)]
    rw [condD_pos (by omega)]
    rw [e5]
    rw [hodmanref17_Script.J25_eq, i64w, wrap_id (by omega) (by omega)]
    have := ih (j + 1) (by omega) o2 k2 li G3 h5
    rw [show (opsTo g l u (k + 1) ++ freeOps g (k + 1) (j + 1)).length = (opsTo g l u (k + 1) ++ freeOps g (k + 1) j).length + 1 by simp [freeOps]; omega, show ((j + 1 : Nat) : Int) - 1 = ((2 * j / 2 : Nat) : Int) by omega, show ((2 * (j + 1) : Nat) : Int) = ((2 * j + 1 : Nat) : Int) + 1 by omega] at this
    exact this
/-- The sum of what is kept. -/
theorem hodmanref17_Script.sums (tp : c.Tp g l u) {k : Nat} (hk : k ≤ l) {oi on si sn li : Nat} {A : List OpV} {B : List Int} {G1 : GH} {n : Nat} (hn : n ≤ tP l u k * (2 + k)) (s : Sl G1 eBlk li 0 (rowB g l u k n)) {kk nn : Int}
    (next : FinS G A B (hodmanref17_Script.L61 machW CW oi 0 on li 0 n si 0 sn kk nn ((leastN g k (tP l u k) n : Nat) : Int) c.G c.N c.M c.L c.Pg c.P c.H c.Sd G1)) :
    ∀ (d i : Nat), i + d = n → FinS G A B (hodmanref17_Script.L44 machW CW oi 0 on li 0 n si 0 sn kk nn ((leastN g k (tP l u k) i : Nat) : Int) (i : Int) c.G c.N c.M c.L c.Pg c.P c.H c.Sd G1)
  | 0, i, hi => by
    obtain rfl : i = n := by omega
    rw [hodmanref17_Script.L44_eq, condD_neg (by omega)]; exact next
  | d + 1, i, hi => by
    have b := tp.small hk
    have b1 := (tp.bound hk).1
    have hil : i < (rowB g l u k n).length := by rw [rowB_len]; omega
    have e := leastN_elN (g := g) (l := l) (u := u) k i
    have hle : leastN g k (tP l u k) (i + 1) ≤ 65536 := by
      have h1 : ∀ m, leastN g k (tP l u k) m ≤ m * 2 ^ (g + k) := by
        intro m
        induction m with
        | zero => simp [leastN]
        | succ m ih => rw [leastN_elN, Nat.succ_mul]; have := elN_le (g := g) (l := l) (u := u) (k := k) (j := m); omega
      have h2 := h1 (i + 1)
      have h3 : (i + 1) * 2 ^ (g + k) ≤ tP l u k * (2 + k) * 2 ^ (g + k) := Nat.mul_le_mul_right _ (by omega)
      omega
    have z : decide (0 ≤ (i : Int) ∧ (i : Int) < ((n : Nat) : Int)) = true := decide_eq_true (by omega)
    have ch : (elB g l u k i).ch = ((elN g l u k i : Nat) : Int) := rfl
    rw [hodmanref17_Script.L44_eq, condD_pos (by omega)]
    simp only [z, Int.toNat_natCast, s.ld i 1 hil (by omega), rowB_get, q_bs, q_I, q_B, q_P, q_S, q_M, q_c, q_a, q_gz, q_gs, q_gk, q_ct, q_cf, q_nt, q_nf, q_xt, q_xf, q_tt, q_ff, q_tf, q_ft, q_at, q_af, i64w, ch, wrap_id (a := (i : Int) + 1) (by omega) (by omega)]
    rw [show ((leastN g k (tP l u k) i : Nat) : Int) + ((elN g l u k i : Nat) : Int) = ((leastN g k (tP l u k) (i + 1) : Nat) : Int) by rw [e]; exact (Int.natCast_add _ _).symm, wrap_id (a := ((leastN g k (tP l u k) (i + 1) : Nat) : Int)) (by omega) (by omega)]
    exact hodmanref17_Script.sums tp hk hn s next d (i + 1) (by omega)
/-- The stage's own blocks. -/
theorem hodmanref17_Script.fills (tp : c.Tp g l u) {k : Nat} (hk : k ≤ l) {si : Nat} {st : List Int} {A : List OpV} {B : List Int} {F : List OpV} (hF : F.length ≤ 100000000)
    (next : ∀ oi li G2, Hp G G2 [rowE eOp oi (F ++ fillOps g k (own l u k)), rowE eBlk li (rowB g l u k (tP l u k * (2 + k))), rowE eI si st] →
      FinS G A B (hodmanref17_Script.L61 machW CW oi 0 (F ++ fillOps g k (own l u k)).length li 0 (tP l u k * (2 + k)) si 0 st.length (k : Int) ((2 ^ (g + k) : Nat) : Int) c.M c.G c.N c.M c.L c.Pg c.P c.H c.Sd G2)) :
    ∀ (d i : Nat), i + d = own l u k → ∀ (oi li : Nat) (G1 : GH), Hp G G1 [rowE eOp oi (F ++ fillOps g k i), rowE eBlk li (rowB g l u k (low l u k + i)), rowE eI si st] →
      FinS G A B (hodmanref17_Script.L61 machW CW oi 0 (F ++ fillOps g k i).length li 0 (low l u k + i) si 0 st.length (k : Int) ((2 ^ (g + k) : Nat) : Int) (c.M - (((own l u k - i) * 2 ^ (g + k) : Nat) : Int)) c.G c.N c.M c.L c.Pg c.P c.H c.Sd G1) := by
  have b1 := tp.bound hk
  have f := tp.ok.facts
  have z := Nat.two_pow_pos (g + k)
  have hlo := low_own (l := l) (u := u) (k := k)
  have hm : (1000000000 : Nat) ≤ most := by unfold most; decide
  intro d
  induction d with
  | zero =>
    intro i hi oi li G1 h
    obtain rfl : i = own l u k := by omega
    rw [hlo] at h
    have := next oi li G1 h
    rw [show c.M - (((own l u k - own l u k) * 2 ^ (g + k) : Nat) : Int) = c.M by simp, hlo]
    exact this
  | succ d ih =>
    intro i hi oi li G1 h
    have e1 : (own l u k - i) * 2 ^ (g + k) = (own l u k - (i + 1)) * 2 ^ (g + k) + 2 ^ (g + k) := by
      rw [show own l u k - i = (own l u k - (i + 1)) + 1 by omega, Nat.succ_mul]
    have e2 : (own l u k - i) * 2 ^ (g + k) ≤ 65536 := by
      have h1 : (own l u k - i) * 2 ^ (g + k) ≤ tP l u k * (2 + k) * 2 ^ (g + k) := Nat.mul_le_mul_right _ (by omega)
      have h2 := tp.small hk
      omega
    have hd : d = own l u k - (i + 1) := by omega
    rw [hodmanref17_Script.L61_eq, i64w, wrap_id (by omega) (by omega)]
    have e3 : 0 ≤ (((own l u k - (i + 1)) * 2 ^ (g + k) : Nat) : Int) := Int.natCast_nonneg _
    rw [condD_pos (by omega)]
    have h2 : Hp G G1 [rowE eBlk li (rowB g l u k (low l u k + i)), rowE eOp oi (F ++ fillOps g k i), rowE eI si st] := h.pick 1
    have s1 := h2.sl0
    have hbk : BlkOk (rowB g l u k (low l u k + i)) := by
      intro b hb
      obtain ⟨j, hj, rfl⟩ := List.mem_map.1 hb
      rw [List.mem_range] at hj
      have q1 : j * 2 ^ (g + k) ≤ tP l u k * (2 + k) * 2 ^ (g + k) := Nat.mul_le_mul_right _ (by omega)
      have q2 := tp.small hk
      have q3 := elN_le (g := g) (l := l) (u := u) (k := k) (j := j)
      unfold elB; dsimp only; omega
    have hceil := tp.ceil hk
    obtain ⟨_, hcH, _⟩ := tp.ok.ceil (k := (k : Int)) (by omega) (by have := tp.ex.hL; omega)
    have hin : (((low l u k + i + 1) * 2 ^ (g + k) : Nat) : Int) ≤ c.H := by
      have : (low l u k + i + 1) * 2 ^ (g + k) ≤ tP l u k * (2 + k) * 2 ^ (g + k) := Nat.mul_le_mul_right _ (by omega)
      omega
    have lowE := hodmanref17_Lowest.sp (c := c) s1 hbk (n := ((2 ^ (g + k) : Nat) : Int)) (by omega) (by omega) (by rw [rowB_len]; omega)
    rw [rowB_len] at lowE
    have hlr : lowR c.H (rowB g l u k (low l u k + i)) ((2 ^ (g + k) : Nat) : Int) = ((((low l u k + i) * 2 ^ (g + k) : Nat) : Int), true) := by
      unfold lowR; rw [low_free hin]; simp
    rw [lowE, hlr]
    simp only [q_bs, q_I, q_B, q_P, q_S, q_M, q_c, q_a, q_gz, q_gs, q_gk, q_ct, q_cf, q_nt, q_nf, q_xt, q_xf, q_tt, q_ff, q_tf, q_ft, q_at, q_af]
    have hel : (⟨(((low l u k + i) * 2 ^ (g + k) : Nat) : Int), ((2 ^ (g + k) : Nat) : Int), ((2 ^ (g + k) : Nat) : Int)⟩ : Blk) = elB g l u k (low l u k + i) := by
      unfold elB; rw [elN_own tp.hu (by omega) (by omega)]
    obtain ⟨l2, G2, e4, h3⟩ := hodmanref17_put.sp h.wf s1 (elB g l u k (low l u k + i)) (by rw [rowB_len]; omega)
    rw [putB_row _ _ _ rfl, rowB_len, rowB_len, ← hel] at e4
    rw [putB_row _ _ _ rfl] at h3
    rw [e4]
    simp only [q_bs, q_I, q_B, q_P, q_S, q_M, q_c, q_a, q_gz, q_gs, q_gk, q_ct, q_cf, q_nt, q_nf, q_xt, q_xf, q_tt, q_ff, q_tf, q_ft, q_at, q_af]
    have h4 := h.trans h3
    have h5 : Hp G G2 [rowE eOp oi (F ++ fillOps g k i), rowE eBlk l2 (rowB g l u k (low l u k + i + 1)), rowE eBlk li (rowB g l u k (low l u k + i)), rowE eI si st] := h4.pick 1
    have h6 : Hp G G2 [rowE eOp oi (F ++ fillOps g k i), rowE eBlk l2 (rowB g l u k (low l u k + i + 1)), rowE eI si st] := h5.sub (by simp)
    have hfl : (F ++ fillOps g k i).length = F.length + i := by rw [List.length_append]; simp [fillOps]
    obtain ⟨o2, G3, h7, e7⟩ := h6.app1 (S := Res) (n := (F ++ fillOps g k i).length) ⟨1, 0, ((2 ^ (g + k) : Nat) : Int), 0, 0, 0⟩ rfl (by omega)
    have hf : fillOps g k i ++ [⟨1, 0, ((2 ^ (g + k) : Nat) : Int), 0, 0, 0⟩] = fillOps g k (i + 1) := range_snoc (fun _ => (⟨1, 0, ((2 ^ (g + k) : Nat) : Int), 0, 0, 0⟩ : OpV)) i
    rw [List.append_assoc, hf] at h7
    rw [e7]
    have := ih (i + 1) (by omega) o2 l2 G3 h7
    rw [show (F ++ fillOps g k (i + 1)).length = (F ++ fillOps g k i).length + 1 by simp [fillOps]; omega, show c.M - (((own l u k - (i + 1)) * 2 ^ (g + k) : Nat) : Int) = c.M - (((own l u k - i) * 2 ^ (g + k) : Nat) : Int) + ((2 ^ (g + k) : Nat) : Int) by omega] at this
    exact this
theorem hodmanref17_Script.sp (tp : c.Tp g l u) (w : G.wf) : FinS G (opsTo g l u (l + 1)) (stTo g l u (l + 1)) (CW hodmanref17_Script.id [.agg (cfC c)] G) := by
  have hL := tp.ex.hL
  have hgl := tp.ex.hgl
  have hm : (1000000000 : Nat) ≤ most := by unfold most; decide
  rw [hodmanref17_Script.cw]
  unfold hodmanref17_Script.f
  have stage : ∀ (d k : Nat), k + d = l + 1 → ∀ (oi li si : Nat) (G1 : GH), Hp G G1 [rowE eOp oi (opsTo g l u k), rowE eBlk li (atB g l u k), rowE eI si (stTo g l u k)] →
      FinS G (opsTo g l u (l + 1)) (stTo g l u (l + 1)) (hodmanref17_Script.L76 machW CW oi 0 (opsTo g l u k).length li 0 (atB g l u k).length si 0 (stTo g l u k).length (k : Int) c.G c.N c.M c.L c.Pg c.P c.H c.Sd G1) := by
    intro d
    induction d with
    | zero =>
      intro k hk oi li si G1 h
      obtain rfl : k = l + 1 := by omega
      rw [hodmanref17_Script.L76_eq, condD_neg (by omega)]
      exact ⟨oi, si, G1, rfl, (h.pick 1).tl⟩
    | succ d ih =>
      intro k hk oi li si G1 h
      have hkl : k ≤ l := by omega
      have hol := opsTo_len tp k (by omega)
      have hlo := low_own (l := l) (u := u) (k := k)
      have bd := tp.bound hkl
      rw [hodmanref17_Script.L76_eq, condD_pos (by omega), hodmanref1_Size.sp tp.ex.hG (by omega)]
      simp only [q_bs, q_I, q_B, q_P, q_S, q_M, q_c, q_a, q_gz, q_gs, q_gk, q_ct, q_cf, q_nt, q_nf, q_xt, q_xf, q_tt, q_ff, q_tf, q_ft, q_at, q_af]
      -- behind the fills: the stage is noted
      have note : ∀ oi li G2, Hp G G2 [rowE eOp oi (opsTo g l u k ++ freeOps g k (low l u k) ++ fillOps g k (own l u k)), rowE eBlk li (rowB g l u k (tP l u k * (2 + k))), rowE eI si (stTo g l u k)] →
          FinS G (opsTo g l u (l + 1)) (stTo g l u (l + 1)) (hodmanref17_Script.L61 machW CW oi 0 (opsTo g l u k ++ freeOps g k (low l u k) ++ fillOps g k (own l u k)).length li 0 (tP l u k * (2 + k)) si 0 (stTo g l u k).length (k : Int) ((2 ^ (g + k) : Nat) : Int) c.M c.G c.N c.M c.L c.Pg c.P c.H c.Sd G2) := by
        intro oi li G2 h2
        have f := tp.ok.facts
        have z := Nat.two_pow_pos (g + k)
        have y := bd.2
        have h3 : Hp G G2 [rowE eI si (stTo g l u k), rowE eOp oi (opsTo g l u (k + 1)), rowE eBlk li (atB g l u (k + 1))] := h2.pick 2
        obtain ⟨s2, G3, h4, e4⟩ := h3.app1 (S := Res) (n := (stTo g l u k).length) (((opsTo g l u k ++ freeOps g k (low l u k) ++ fillOps g k (own l u k)).length : Nat) : Int) rfl (by rw [stTo_len]; omega)
        rw [hodmanref17_Script.L61_eq, i64w, wrap_id (by omega) (by omega), condD_neg (by omega)]
        dsimp only
        rw [e4]
        rw [i64w, wrap_id (by omega) (by omega)]
        have h5 : Hp G G3 [rowE eOp oi (opsTo g l u (k + 1)), rowE eBlk li (atB g l u (k + 1)), rowE eI s2 (stTo g l u (k + 1))] := (h4.pick 1).perm (List.Perm.cons _ (List.Perm.swap _ _ _))
        have := ih (k + 1) (by omega) oi li s2 G3 h5
        have e5 : (stTo g l u (k + 1)).length = (stTo g l u k).length + 1 := by rw [stTo_len, stTo_len]
        have e6 : (atB g l u (k + 1)).length = tP l u k * (2 + k) := rowB_len _ _
        rw [e5, e6] at this
        exact this
      -- the fills
      have hfo : (opsTo g l u k ++ freeOps g k (low l u k)).length ≤ 100000000 := by
        rw [List.length_append]
        have : (freeOps g k (low l u k)).length = low l u k := by simp [freeOps]
        omega
      have fl := hodmanref17_Script.fills tp hkl (F := opsTo g l u k ++ freeOps g k (low l u k)) hfo note (own l u k) 0 (by omega)
      have fl2 : ∀ oi li G2, Hp G G2 [rowE eOp oi (opsTo g l u k ++ freeOps g k (low l u k)), rowE eBlk li (rowB g l u k (low l u k)), rowE eI si (stTo g l u k)] →
          FinS G (opsTo g l u (l + 1)) (stTo g l u (l + 1)) (hodmanref17_Script.L44 machW CW oi 0 (opsTo g l u k ++ freeOps g k (low l u k)).length li 0 (low l u k) si 0 (stTo g l u k).length (k : Int) ((2 ^ (g + k) : Nat) : Int) 0 0 c.G c.N c.M c.L c.Pg c.P c.H c.Sd G2) := by
        intro oi li G2 h2
        have hs : Sl G2 eBlk li 0 (rowB g l u k (low l u k)) := h2.sl (by simp)
        have hsum : ((leastN g k (tP l u k) (low l u k) : Nat) : Int) = c.M - (((own l u k - 0) * 2 ^ (g + k) : Nat) : Int) := by
          rw [tp.full hkl, Nat.sub_zero]
          rcases Nat.eq_zero_or_pos k with h0 | h0
          · subst h0
            have : leastN g 0 (tP l u 0) (low l u 0) = 0 := rfl
            rw [this]; unfold own; rw [if_pos rfl, Nat.mul_assoc]; omega
          · rw [sum_low tp.hu h0 hkl]; unfold own; rw [if_neg (by omega)]; omega
        refine hodmanref17_Script.sums tp hkl (by omega) hs ?_ (low l u k) 0 (by omega)
        rw [hsum]
        have := fl oi li G2 (by simpa [fillOps] using h2)
        simpa [fillOps] using this
      rcases Nat.eq_zero_or_pos k with h0 | h0
      · -- the first stage frees nothing
        subst h0
        rw [hodmanref17_Script.L28_eq, condD_neg (by show ¬ (0 : Int) < (((atB g l u 0).length : Nat) : Int); simp [atB]), hodmanref17_Script.J17_eq, q_cf]
        have h2 : Hp G G1 [rowE eOp oi (opsTo g l u 0 ++ freeOps g 0 (low l u 0)), rowE eBlk 0 (rowB g l u 0 (low l u 0)), rowE eI si (stTo g l u 0)] := by
          have h3 : Hp G G1 [rowE eOp oi (opsTo g l u 0), rowE eI si (stTo g l u 0)] := h.sub (by simp)
          exact (h3.nil0 (e := eBlk)).perm (List.Perm.swap _ _ _)
        exact fl2 oi 0 G1 h2
      · obtain ⟨k, rfl⟩ : ∃ m, k = m + 1 := ⟨k - 1, by omega⟩
        have fr := hodmanref17_Script.frees tp hkl (si := si) (st := stTo g l u (k + 1)) (A := opsTo g l u (l + 1)) (B := stTo g l u (l + 1)) (by omega) (fun oi ki G2 h2 => by
          have := fl2 oi ki G2 h2
          rw [rowB_len]
          exact this) (low l u (k + 1)) 0 (by omega) oi 0 li G1 (by
            have h3 : Hp G G1 [rowE eBlk 0 (rowB g l u (k + 1) 0), rowE eOp oi (opsTo g l u (k + 1)), rowE eBlk li (atB g l u (k + 1)), rowE eI si (stTo g l u (k + 1))] := h.nil0 (e := eBlk)
            have h4 : Hp G G1 [rowE eOp oi (opsTo g l u (k + 1)), rowE eBlk 0 (rowB g l u (k + 1) 0), rowE eBlk li (atB g l u (k + 1)), rowE eI si (stTo g l u (k + 1))] := h3.pick 1
            have e0 : opsTo g l u (k + 1) ++ freeOps g (k + 1) 0 = opsTo g l u (k + 1) := by simp [freeOps]
            rw [e0]; exact h4)
        simpa [freeOps] using fr
  have h0 : Hp G G [rowE eOp 0 (opsTo g l u 0), rowE eBlk 0 (atB g l u 0), rowE eI 0 (stTo g l u 0)] := (((Hp.refl w).nil0 (e := eI)).nil0 (e := eBlk)).nil0 (e := eOp)
  exact stage (l + 1) 0 (by omega) 0 0 0 G h0
end
end Go.Proofs.D.S
/- Who drives a heap high: the program's own script. -/
set_option linter.unusedVariables false
set_option linter.unusedSimpArgs false
namespace Go.Proofs.D.S
open Go Go.RowKit
variable {G G0 : GH} {L : List (Nat × Obj)}
/-- The first one, put back to where it was. -/
def bk {α : Type} : Nat → List α → α → List α
  | 0, l, x => x :: l
  | _ + 1, [], x => [x]
  | k + 1, a :: l, x => a :: bk k l x
theorem bk_perm {α : Type} : ∀ (k : Nat) (l : List α) (x : α), (x :: l).Perm (bk k l x)
  | 0, l, x => List.Perm.refl _
  | k + 1, [], x => List.Perm.refl _
  | k + 1, a :: l, x => (List.Perm.swap a x l).trans ((bk_perm k l x).cons a)
theorem Hp.back {x : Nat × Obj} (h : Hp G0 G (x :: L)) (k : Nat) : Hp G0 G (bk k L x) := h.perm (bk_perm k L x)
theorem Hp.ents {id : Nat} {ks : VS} {es : List (V1 × V1)} (h : Hp G0 G ((id, .map ks es) :: L)) : id ≠ 0 ∧ G.ents ks id = some es ∧ G.ents0 ks id = some es := by
  have hid : id ≠ 0 := by
    rcases h.ok _ (List.mem_cons_self ..) with ⟨_, b⟩ | ⟨_, b, _⟩
    · cases b
    · dsimp only at b; omega
  have e : G.ents ks id = some es := by unfold GH.ents; rw [(h.hd hid).2]; simp
  exact ⟨hid, e, by unfold GH.ents0; rw [if_neg hid, e]⟩
theorem mapGet_put (k k' x : V1) : ∀ es : List (V1 × V1), mapGet (mapPut es k x) k' = if k = k' then some x else mapGet es k'
  | [] => by simp [mapPut, mapGet]
  | (a, b) :: es => by
    unfold mapPut
    by_cases h : a = k
    · rw [if_pos h]
      subst h
      simp only [mapGet]
      by_cases h2 : a = k'
      · rw [if_pos h2, if_pos h2]
      · rw [if_neg h2, if_neg h2]; simp [h2]
    · rw [if_neg h]
      simp only [mapGet]
      by_cases h2 : a = k'
      · rw [if_pos h2]
        by_cases h3 : k = k'
        · exact absurd (h2.trans h3.symm) h
        · rw [if_neg h3]; simp [h2]
      · rw [if_neg h2, mapGet_put k k' x es]; simp [h2]
section
variable {c : Cf} {g l u : Nat}
abbrev wr (c : Cf) (wid oi on pi pn ti tn : Nat) (live : Int) : Nat × Obj :=
  (wid, .row [.int .i64 c.G, .int .i64 c.N, .int .i64 c.M, .int .i64 c.L, .int .i64 c.Pg, .int .i64 c.P, .int .i64 c.H, .int .i64 c.Sd, .sl 6 oi 0 on, .sl 2 pi 0 pn, .int .i64 live, .sl 1 ti 0 tn] false)
theorem tight_may.sp (h : c.Ok) : CW tight_may.id [.agg (cfC c)] G = some ([.c (.bool true)], G) := by
  have f := h.facts
  rw [tight_may.cw]
  unfold tight_may.f
  rw [condD_pos (by omega), condD_pos (by omega), condD_pos (by omega), condD_pos (by omega), condD_pos (by omega), condD_pos (by omega), decide_eq_true (by omega)]
/-- What is live while places are freed. -/
def liveF (c : Cf) (g l u k j : Nat) : Int := c.M - (((leastN g k (tP l u k) (2 * j) : Nat) : Int) - ((leastN g (k + 1) (tP l u (k + 1)) j : Nat) : Int))
theorem liveF_succ (hu : 1 ≤ u) {k j : Nat} (hk : k + 1 ≤ l) (hj : j < tP l u (k + 1) * (2 + k)) : liveF c g l u k (j + 1) = liveF c g l u k j - ((elN g l u k (2 * j + 1) : Nat) : Int) := by
  unfold liveF
  have e1 : leastN g k (tP l u k) (2 * (j + 1)) = leastN g k (tP l u k) (2 * j) + elN g l u k (2 * j) + elN g l u k (2 * j + 1) := rfl
  have e2 : leastN g (k + 1) (tP l u (k + 1)) (j + 1) = leastN g (k + 1) (tP l u (k + 1)) j + elN g l u (k + 1) j := rfl
  rw [e1, e2, elN_even hu hk hj]
  omega
theorem liveF_zero (k : Nat) : liveF c g l u k 0 = c.M := by unfold liveF; simp [leastN]
theorem liveF_end (tp : c.Tp g l u) {k : Nat} (hk : k + 1 ≤ l) : liveF c g l u k (low l u (k + 1)) = c.M - ((own l u (k + 1) * 2 ^ (g + (k + 1)) : Nat) : Int) := by
  unfold liveF
  rw [sum_low tp.hu (by omega) hk]
  have hlow : low l u (k + 1) = tP l u (k + 1) * (2 + k) := by unfold low; rw [if_neg (by omega)]; congr 1; omega
  have e : 2 * low l u (k + 1) = tP l u k * (2 + k) := by rw [hlow, tP_succ hk, Nat.mul_assoc]
  rw [e, leastN_full g k _ (tP_pos tp.hu)]
  unfold own; rw [if_neg (by omega)]
  have e2 : tP l u k * 2 ^ (g + 1 + k) = 2 * (tP l u (k + 1) * 2 ^ (g + (k + 1))) := by
    rw [tP_succ hk, show g + 1 + k = g + (k + 1) by omega, Nat.mul_assoc]
  rw [e2]; omega
theorem liveF_range (tp : c.Tp g l u) {k : Nat} (hk : k + 1 ≤ l) : ∀ j, j ≤ low l u (k + 1) → 0 ≤ liveF c g l u k j ∧ liveF c g l u k j ≤ c.M := by
  have hlow : low l u (k + 1) = tP l u (k + 1) * (2 + k) := by unfold low; rw [if_neg (by omega)]; congr 1; omega
  have he := liveF_end tp hk
  have h0 : 0 ≤ liveF c g l u k (low l u (k + 1)) := by
    rw [he, tp.full hk]; unfold own; rw [if_neg (by omega)]
    generalize tP l u (k + 1) * 2 ^ (g + (k + 1)) = x
    omega
  have down : ∀ d j, j + d = low l u (k + 1) → 0 ≤ liveF c g l u k j := by
    intro d
    induction d with
    | zero => intro j hj; rw [show j = low l u (k + 1) by omega]; exact h0
    | succ d ih =>
      intro j hj
      have := ih (j + 1) (by omega)
      rw [liveF_succ tp.hu hk (by omega)] at this
      omega
  intro j hj
  refine ⟨down (low l u (k + 1) - j) j (by omega), ?_⟩
  induction j with
  | zero => rw [liveF_zero]; omega
  | succ j ih =>
    have := ih (by omega)
    rw [liveF_succ tp.hu hk (by omega)]; omega
theorem tight_writer_frees.sp (tp : c.Tp g l u) {k : Nat} (hk : k + 1 ≤ l) {wid oi pi ti tn : Nat} {F : List OpV} (hF : F.length ≤ 100000000)
    (h : Hp G0 G (wr c wid oi F.length pi (atS g l u (k + 1)).length ti tn c.M :: rowE eOp oi F :: rowE eSpan pi (atS g l u (k + 1)) :: L)) :
    ∃ oi' ri G', CW tight_writer_frees.id [.c (.ptr wid 0), .c (.int .i64 ((k + 1 : Nat) : Int))] G = some ([], G') ∧
      Hp G0 G' (wr c wid oi' (F ++ freeOps g (k + 1) (low l u (k + 1))).length ri (low l u (k + 1)) ti tn (c.M - ((own l u (k + 1) * 2 ^ (g + (k + 1)) : Nat) : Int)) :: rowE eOp oi' (F ++ freeOps g (k + 1) (low l u (k + 1))) :: rowE eSpan ri (rowS g l u (k + 1) (low l u (k + 1))) :: L) := by
  have b1 := tp.bound (k := k) (by omega)
  have b2 := tp.bound hk
  have f := tp.ok.facts
  have hgl := tp.ex.hgl
  have z := Nat.two_pow_pos (g + k)
  have z2 := Nat.two_pow_pos (g + (k + 1))
  have hlow : low l u (k + 1) = tP l u (k + 1) * (2 + k) := by unfold low; rw [if_neg (by omega)]; congr 1; omega
  have hlb : low l u (k + 1) ≤ 65536 := by rw [hlow]; exact Nat.le_trans (Nat.mul_le_mul_left _ (by omega)) b2.1
  have hat : (atS g l u (k + 1)).length = 2 * low l u (k + 1) := by
    rw [hlow]; show (rowS g l u k _).length = _
    rw [rowS_len, tP_succ hk, Nat.mul_assoc]
  have hm : (1000000000 : Nat) ≤ most := by unfold most; decide
  have hget : ∀ i (hi : i < (atS g l u (k + 1)).length), (atS g l u (k + 1))[i] = elS g l u k i := fun i hi => rowS_get _ _ _ hi
  have hdiv : ∀ i, i < 2 * low l u (k + 1) → wrap64 (Int.tdiv (elS g l u k i).at_ ((2 ^ (g + (k + 1)) : Nat) : Int)) = ((i / 2 : Nat) : Int) := by
    intro i hi
    have e1 : i * 2 ^ (g + k) / 2 ^ (g + (k + 1)) = i / 2 := by
      rw [← Nat.add_assoc, Nat.pow_succ, Nat.mul_comm (2 ^ (g + k)) 2, Nat.mul_div_mul_right _ _ z]
    unfold elS
    rw [tdiv_nat, e1, wrap_id (by omega) (by omega)]
  rw [tight_writer_frees.cw]
  unfold tight_writer_frees.f
  have hw := h.ne
  have h1 := h.alloc (.map (.agg [.int .i64, .int .i64]) [])
  have ku : IntKind.u64.wrap ((k + 1 : Nat) : Int) = ((k + 1 : Nat) : Int) := by rw [u64w]; omega
  have sh : binD .shl .i64 c.G ((k + 1 : Nat) : Int) = some ((2 ^ (g + (k + 1)) : Nat) : Int) := by rw [tp.ex.hG, shl_pow _ _ (by omega)]
  have h2 : Hp G0 (G.alloc (.map (.agg [.int .i64, .int .i64]) [])) (wr c wid oi F.length pi (atS g l u (k + 1)).length ti tn c.M :: (G.next, .map (.agg [.int .i64, .int .i64]) []) :: rowE eOp oi F :: rowE eSpan pi (atS g l u (k + 1)) :: L) := h1.pick 1
  have ld := fun off => h.ld (off := off) hw
  have ld2 := fun off => h2.ld (off := off) hw
  simp only [guardN hw, ld, ld2, q_bs, q_I, q_B, q_P, q_S, q_M, q_c, q_a, q_gz, q_gs, q_gk, q_ct, q_cf, q_nt, q_nf, q_xt, q_xf, q_tt, q_ff, q_tf, q_ft, q_at, q_af, Nat.zero_add, Nat.add_zero, ku, sh]
  generalize G.next = mid at *
  generalize G.alloc _ = Ga at *
  -- the loop
  have lp : ∀ (d j : Nat), j + d = low l u (k + 1) → ∀ (oi ri : Nat) (es : List (V1 × V1)) (G1 : GH),
      (∀ q : Nat, mapGet es (.agg [.int .i64 ((k + 1 : Nat) : Int), .int .i64 (q : Int)]) = if q < j then some (.c (.bool true)) else none) →
      Hp G0 G1 (wr c wid oi (F ++ freeOps g (k + 1) j).length pi (atS g l u (k + 1)).length ti tn (liveF c g l u k j) :: rowE eOp oi (F ++ freeOps g (k + 1) j) :: rowE eSpan ri (rowS g l u (k + 1) j) :: (mid, .map (.agg [.int .i64, .int .i64]) es) :: rowE eSpan pi (atS g l u (k + 1)) :: L) →
      ∃ oi' ri' G', tight_writer_frees.L26 machW CW wid 0 ((k + 1 : Nat) : Int) ((2 ^ (g + (k + 1)) : Nat) : Int) mid ri 0 j pi 0 (atS g l u (k + 1)).length (((atS g l u (k + 1)).length : Nat) : Int) ((2 * j : Nat) : Int) G1 = some ([], G') ∧
        Hp G0 G' (wr c wid oi' (F ++ freeOps g (k + 1) (low l u (k + 1))).length ri' (low l u (k + 1)) ti tn (c.M - ((own l u (k + 1) * 2 ^ (g + (k + 1)) : Nat) : Int)) :: rowE eOp oi' (F ++ freeOps g (k + 1) (low l u (k + 1))) :: rowE eSpan ri' (rowS g l u (k + 1) (low l u (k + 1))) :: L) := by
    intro d
    induction d with
    | zero =>
      intro j hj oi ri es G1 hes h
      obtain rfl : j = low l u (k + 1) := by omega
      obtain ⟨G2, h3, e3⟩ := h.sts (off := 9) (new := [.sl 2 ri 0 (low l u (k + 1))]) h.ne (by simp)
      have h3 : Hp G0 G2 (wr c wid oi (F ++ freeOps g (k + 1) (low l u (k + 1))).length ri (low l u (k + 1)) ti tn (liveF c g l u k (low l u (k + 1))) :: rowE eOp oi (F ++ freeOps g (k + 1) (low l u (k + 1))) :: rowE eSpan ri (rowS g l u (k + 1) (low l u (k + 1))) :: (mid, .map (.agg [.int .i64, .int .i64]) es) :: rowE eSpan pi (atS g l u (k + 1)) :: L) := h3
      rw [liveF_end tp hk] at h3
      rw [tight_writer_frees.L26_eq, condD_neg (by omega), guardN h.ne, Nat.zero_add, e3]
      exact ⟨oi, ri, G2, rfl, h3.sub (((((List.Sublist.refl L).cons _).cons _).cons_cons _).cons_cons _ |>.cons_cons _)⟩
    | succ d ih =>
      intro j hj oi ri es G1 hes h
      have hjl : j < tP l u (k + 1) * (2 + k) := by omega
      have i1 : 2 * j < (atS g l u (k + 1)).length := by omega
      have i2 : 2 * j + 1 < (atS g l u (k + 1)).length := by omega
      have zz : ∀ i, i < (atS g l u (k + 1)).length → decide (0 ≤ ((i : Nat) : Int) ∧ ((i : Nat) : Int) < (((atS g l u (k + 1)).length : Nat) : Int)) = true := fun i hi => decide_eq_true (by omega)
      have s1 : Sl G1 eSpan pi 0 (atS g l u (k + 1)) := h.sl (by simp)
      -- the first of the place: noted, and kept
      obtain ⟨hmid, en1, en0⟩ := (h.pick 3).ents
      have h3 := ((h.pick 3).set (o' := .map (.agg [.int .i64, .int .i64]) (mapPut es (.agg [.int .i64 ((k + 1 : Nat) : Int), .int .i64 (j : Int)]) (.c (.bool true)))) hmid).back 3
      have h3 : Hp G0 (G1.set mid (some (.map (.agg [.int .i64, .int .i64]) (mapPut es (.agg [.int .i64 ((k + 1 : Nat) : Int), .int .i64 (j : Int)]) (.c (.bool true)))))) (wr c wid oi (F ++ freeOps g (k + 1) j).length pi (atS g l u (k + 1)).length ti tn (liveF c g l u k j) :: rowE eOp oi (F ++ freeOps g (k + 1) j) :: rowE eSpan ri (rowS g l u (k + 1) j) :: (mid, .map (.agg [.int .i64, .int .i64]) (mapPut es (.agg [.int .i64 ((k + 1 : Nat) : Int), .int .i64 (j : Int)]) (.c (.bool true)))) :: rowE eSpan pi (atS g l u (k + 1)) :: L) := h3
      have h4 : Hp G0 (G1.set mid (some (.map (.agg [.int .i64, .int .i64]) (mapPut es (.agg [.int .i64 ((k + 1 : Nat) : Int), .int .i64 (j : Int)]) (.c (.bool true)))))) (rowE eSpan ri (rowS g l u (k + 1) j) :: wr c wid oi (F ++ freeOps g (k + 1) j).length pi (atS g l u (k + 1)).length ti tn (liveF c g l u k j) :: rowE eOp oi (F ++ freeOps g (k + 1) j) :: (mid, .map (.agg [.int .i64, .int .i64]) (mapPut es (.agg [.int .i64 ((k + 1 : Nat) : Int), .int .i64 (j : Int)]) (.c (.bool true)))) :: rowE eSpan pi (atS g l u (k + 1)) :: L) := h3.pick 2
      obtain ⟨r2, G2, h5, e5⟩ := h4.app1 (S := Res) (n := j) (elS g l u k (2 * j)) (by rw [rowS_len]) (by rw [rowS_len]; omega)
      rw [elS_even tp.hu hk hjl, rowS_snoc] at h5
      rw [tight_writer_frees.L26_eq, condD_pos (by omega)]
      simp only [zz _ i1, Int.toNat_natCast, s1.ld (2 * j) 0 i1 (by omega), s1.ld (2 * j) 1 i1 (by omega), hget (2 * j) i1, q_bs, q_I, q_B, q_P, q_S, q_M, q_c, q_a, q_gz, q_gs, q_gk, q_ct, q_cf, q_nt, q_nf, q_xt, q_xf, q_tt, q_ff, q_tf, q_ft, q_at, q_af, binD_quo (show ((2 ^ (g + (k + 1)) : Nat) : Int) ≠ 0 by omega), i64w, hdiv (2 * j) (by omega), en0, en1, show 2 * j / 2 = j by omega, hes j, if_neg (Nat.lt_irrefl j), Option.getD_none]
      rw [e5]
      rw [tight_writer_frees.J22_eq, i64w, wrap_id (by omega) (by omega)]
      -- the second: freed
      have h6 : Hp G0 G2 (rowE eOp oi (F ++ freeOps g (k + 1) j) :: wr c wid oi (F ++ freeOps g (k + 1) j).length pi (atS g l u (k + 1)).length ti tn (liveF c g l u k j) :: rowE eSpan r2 (rowS g l u (k + 1) (j + 1)) :: (mid, .map (.agg [.int .i64, .int .i64]) (mapPut es (.agg [.int .i64 ((k + 1 : Nat) : Int), .int .i64 (j : Int)]) (.c (.bool true)))) :: rowE eSpan pi (atS g l u (k + 1)) :: L) := (h5.back 2).pick 1
      have hes2 : ∀ q : Nat, mapGet (mapPut es (.agg [.int .i64 ((k + 1 : Nat) : Int), .int .i64 (j : Int)]) (.c (.bool true))) (.agg [.int .i64 ((k + 1 : Nat) : Int), .int .i64 (q : Int)]) = if q < j + 1 then some (.c (.bool true)) else none := by
        intro q
        rw [mapGet_put, hes q]
        by_cases hq : q = j
        · subst hq; rw [if_pos rfl, if_pos (by omega)]
        · rw [if_neg (by simp; omega)]
          by_cases hq2 : q < j
          · rw [if_pos hq2, if_pos (by omega)]
          · rw [if_neg hq2, if_neg (by omega)]
      generalize mapPut es _ _ = es2 at *
      have hwp : Hp G0 G2 (wr c wid oi (F ++ freeOps g (k + 1) j).length pi (atS g l u (k + 1)).length ti tn (liveF c g l u k j) :: rowE eOp oi (F ++ freeOps g (k + 1) j) :: rowE eSpan r2 (rowS g l u (k + 1) (j + 1)) :: (mid, .map (.agg [.int .i64, .int .i64]) es2) :: rowE eSpan pi (atS g l u (k + 1)) :: L) := h6.pick 1
      have hww := hwp.ne
      have s2 : Sl G2 eSpan pi 0 (atS g l u (k + 1)) := hwp.sl (by simp)
      obtain ⟨_, en3, en4⟩ := (hwp.pick 3).ents
      have ld3 := fun off => hwp.ld (off := off) hww
      have hfl : (F ++ freeOps g (k + 1) j).length = F.length + j := by rw [List.length_append]; simp [freeOps]
      obtain ⟨o2, G3, h7, e7⟩ := h6.app1 (S := Res) (n := (F ++ freeOps g (k + 1) j).length) ⟨5, (elS g l u k (2 * j + 1)).at_, 0, 0, 0, 0⟩ rfl (by omega)
      have hf : freeOps g (k + 1) j ++ [⟨5, (elS g l u k (2 * j + 1)).at_, 0, 0, 0, 0⟩] = freeOps g (k + 1) (j + 1) := range_snoc (fun j => (⟨5, (((2 * j + 1) * 2 ^ (g + (k + 1 - 1)) : Nat) : Int), 0, 0, 0, 0⟩ : OpV)) j
      rw [List.append_assoc, hf] at h7
      have h8 := h7.pick 1
      obtain ⟨G4, h9, e9⟩ := Hp.sts (off := 8) (new := [.sl 6 o2 0 ((F ++ freeOps g (k + 1) j).length + 1)]) h8 hww (by simp)
      have h9 : Hp G0 G4 (wr c wid o2 ((F ++ freeOps g (k + 1) j).length + 1) pi (atS g l u (k + 1)).length ti tn (liveF c g l u k j) :: rowE eOp o2 (F ++ freeOps g (k + 1) (j + 1)) :: rowE eSpan r2 (rowS g l u (k + 1) (j + 1)) :: (mid, .map (.agg [.int .i64, .int .i64]) es2) :: rowE eSpan pi (atS g l u (k + 1)) :: L) := h9
      have ld4 := fun off => h9.ld (off := off) hww
      have rg := liveF_range tp hk (j + 1) (by omega)
      have hls := liveF_succ (c := c) (g := g) tp.hu hk hjl
      obtain ⟨G5, h10, e10⟩ := Hp.sts (off := 10) (new := [.int .i64 (liveF c g l u k (j + 1))]) h9 hww (by simp)
      have h10 : Hp G0 G5 (wr c wid o2 ((F ++ freeOps g (k + 1) j).length + 1) pi (atS g l u (k + 1)).length ti tn (liveF c g l u k (j + 1)) :: rowE eOp o2 (F ++ freeOps g (k + 1) (j + 1)) :: rowE eSpan r2 (rowS g l u (k + 1) (j + 1)) :: (mid, .map (.agg [.int .i64, .int .i64]) es2) :: rowE eSpan pi (atS g l u (k + 1)) :: L) := h10
      rw [tight_writer_frees.L26_eq, condD_pos (by omega), show ((2 * j : Nat) : Int) + 1 = ((2 * j + 1 : Nat) : Int) by omega]
      simp only [zz _ i2, Int.toNat_natCast, s2.ld (2 * j + 1) 0 i2 (by omega), s2.ld (2 * j + 1) 1 i2 (by omega), hget (2 * j + 1) i2, q_bs, q_I, q_B, q_P, q_S, q_M, q_c, q_a, q_gz, q_gs, q_gk, q_ct, q_cf, q_nt, q_nf, q_xt, q_xf, q_tt, q_ff, q_tf, q_ft, q_at, q_af, binD_quo (show ((2 ^ (g + (k + 1)) : Nat) : Int) ≠ 0 by omega), i64w, hdiv (2 * j + 1) (by omega), en4, show (2 * j + 1) / 2 = j by omega, hes2 j, if_pos (Nat.lt_succ_self j), Option.getD_some, guardN hww]
      simp only [Nat.zero_add, ld3, q_bs, q_I, q_B, q_P, q_S, q_M, q_c, q_a, q_gz, q_gs, q_gk, q_ct, q_cf, q_nt, q_nf, q_xt, q_xf, q_tt, q_ff, q_tf, q_ft, q_at, q_af]
      rw [e7]
      have hch : (elS g l u k (2 * j + 1)).n = ((elN g l u k (2 * j + 1) : Nat) : Int) := rfl
      simp only [e9, q_bs, q_I, q_B, q_P, q_S, q_M, q_c, q_a, q_gz, q_gs, q_gk, q_ct, q_cf, q_nt, q_nf, q_xt, q_xf, q_tt, q_ff, q_tf, q_ft, q_at, q_af, ld4, hch, ← hls, wrap_id (a := liveF c g l u k (j + 1)) (by omega) (by omega), e10]
      rw [tight_writer_frees.J22_eq, i64w, wrap_id (by omega) (by omega)]
      have e11 : (F ++ freeOps g (k + 1) (j + 1)).length = (F ++ freeOps g (k + 1) j).length + 1 := by simp [freeOps]; omega
      have := ih (j + 1) (by omega) o2 r2 es2 G5 hes2 (by rw [e11]; exact h10)
      rw [show ((2 * (j + 1) : Nat) : Int) = ((2 * j + 1 : Nat) : Int) + 1 by omega] at this
      exact this
  have h3 : Hp G0 Ga (wr c wid oi (F ++ freeOps g (k + 1) 0).length pi (atS g l u (k + 1)).length ti tn (liveF c g l u k 0) :: rowE eOp oi (F ++ freeOps g (k + 1) 0) :: rowE eSpan 0 (rowS g l u (k + 1) 0) :: (mid, .map (.agg [.int .i64, .int .i64]) []) :: rowE eSpan pi (atS g l u (k + 1)) :: L) := by
    have e0 : F ++ freeOps g (k + 1) 0 = F := by simp [freeOps]
    rw [e0, liveF_zero]
    exact (((h2.pick 2).back 1).nil0 (e := eSpan)).back 2
  exact lp (low l u (k + 1)) 0 (by omega) oi 0 [] Ga (fun q => by rw [if_neg (by omega)]; rfl) h3
theorem tight_writer_fills.sp (tp : c.Tp g l u) {k : Nat} (hk : k ≤ l) {wid oi pi ti : Nat} {F : List OpV} {st : List Int} (hF : F.length ≤ 100000000) (hst : st.length ≤ 100000000)
    (h : Hp G0 G (wr c wid oi F.length pi (low l u k) ti st.length (c.M - ((own l u k * 2 ^ (g + k) : Nat) : Int)) :: rowE eOp oi F :: rowE eSpan pi (rowS g l u k (low l u k)) :: rowE eI ti st :: L)) :
    ∃ oi' ri ti' G', CW tight_writer_fills.id [.c (.ptr wid 0), .c (.int .i64 (k : Int))] G = some ([], G') ∧
      Hp G0 G' (wr c wid oi' (F ++ fillOps g k (own l u k)).length ri (tP l u k * (2 + k)) ti' (st.length + 1) c.M :: rowE eOp oi' (F ++ fillOps g k (own l u k)) :: rowE eSpan ri (rowS g l u k (tP l u k * (2 + k))) :: rowE eI ti' (st ++ [((F ++ fillOps g k (own l u k)).length : Int)]) :: L) := by
  have b1 := tp.bound hk
  have f := tp.ok.facts
  have hgl := tp.ex.hgl
  have hL := tp.ex.hL
  have z := Nat.two_pow_pos (g + k)
  have hlo := low_own (l := l) (u := u) (k := k)
  have hm : (1000000000 : Nat) ≤ most := by unfold most; decide
  have hsm := tp.small hk
  have hw := h.ne
  have ld := fun off => h.ld (off := off) hw
  have ku : IntKind.u64.wrap (k : Int) = (k : Int) := by rw [u64w]; omega
  have sh : binD .shl .i64 c.G (k : Int) = some ((2 ^ (g + k) : Nat) : Int) := by rw [tp.ex.hG, shl_pow _ _ (by omega)]
  -- where it begins
  have hceil : c.ceil ((k : Int) - 1) = ((low l u k * 2 ^ (g + k) : Nat) : Int) := by
    unfold low
    rcases Nat.eq_zero_or_pos k with h0 | h0
    · subst h0
      rw [if_pos rfl]
      unfold Cf.ceil ceilS
      rw [if_pos (by omega)]; simp
    · obtain ⟨k, rfl⟩ : ∃ m, k = m + 1 := ⟨k - 1, by omega⟩
      rw [if_neg (by omega), show ((k + 1 : Nat) : Int) - 1 = (k : Int) by omega, tp.ceil_below hk, show 1 + (k + 1) = 2 + k by omega]
  rw [tight_writer_fills.cw]
  unfold tight_writer_fills.f
  simp only [guardN hw, ld, q_bs, q_I, q_B, q_P, q_S, q_M, q_c, q_a, q_gz, q_gs, q_gk, q_ct, q_cf, q_nt, q_nf, q_xt, q_xf, q_tt, q_ff, q_tf, q_ft, q_at, q_af, Nat.zero_add, Nat.add_zero, ku, sh, i64w, wrap_id (a := (k : Int) - 1) (by omega) (by omega)]
  rw [conf_Ceil.sp tp.ok, hceil]
  simp only [q_bs, q_I, q_B, q_P, q_S, q_M, q_c, q_a, q_gz, q_gs, q_gk, q_ct, q_cf, q_nt, q_nf, q_xt, q_xf, q_tt, q_ff, q_tf, q_ft, q_at, q_af, ld, decide_true]
  -- the loop
  have lp : ∀ (d i : Nat), i + d = own l u k → ∀ (oi ri : Nat) (G1 : GH),
      Hp G0 G1 (wr c wid oi (F ++ fillOps g k i).length ri (low l u k + i) ti st.length (c.M - (((own l u k - i) * 2 ^ (g + k) : Nat) : Int)) :: rowE eOp oi (F ++ fillOps g k i) :: rowE eSpan ri (rowS g l u k (low l u k + i)) :: rowE eI ti st :: L) →
      ∃ oi' ri' ti' G', tight_writer_fills.L13 machW CW wid 0 ((2 ^ (g + k) : Nat) : Int) (((low l u k + i) * 2 ^ (g + k) : Nat) : Int) G1 = some ([], G') ∧
        Hp G0 G' (wr c wid oi' (F ++ fillOps g k (own l u k)).length ri' (tP l u k * (2 + k)) ti' (st.length + 1) c.M :: rowE eOp oi' (F ++ fillOps g k (own l u k)) :: rowE eSpan ri' (rowS g l u k (tP l u k * (2 + k))) :: rowE eI ti' (st ++ [((F ++ fillOps g k (own l u k)).length : Int)]) :: L) := by
    intro d
    induction d with
    | zero =>
      intro i hi oi ri G1 h
      obtain rfl : i = own l u k := by omega
      rw [Nat.sub_self, Nat.zero_mul, hlo] at h
      have h : Hp G0 G1 (wr c wid oi (F ++ fillOps g k (own l u k)).length ri (tP l u k * (2 + k)) ti st.length (c.M - 0) :: rowE eOp oi (F ++ fillOps g k (own l u k)) :: rowE eSpan ri (rowS g l u k (tP l u k * (2 + k))) :: rowE eI ti st :: L) := h
      rw [Int.sub_zero] at h
      have ld := fun off => h.ld (off := off) hw
      have h2 : Hp G0 G1 (rowE eI ti st :: wr c wid oi (F ++ fillOps g k (own l u k)).length ri (tP l u k * (2 + k)) ti st.length c.M :: rowE eOp oi (F ++ fillOps g k (own l u k)) :: rowE eSpan ri (rowS g l u k (tP l u k * (2 + k))) :: L) := h.pick 3
      obtain ⟨t2, G2, h3, e3⟩ := h2.app1 (S := Res) (n := st.length) (((F ++ fillOps g k (own l u k)).length : Nat) : Int) rfl (by omega)
      have h4 := h3.pick 1
      obtain ⟨G3, h5, e5⟩ := Hp.sts (off := 11) (new := [.sl 1 t2 0 (st.length + 1)]) h4 hw (by simp)
      have h5 : Hp G0 G3 (wr c wid oi (F ++ fillOps g k (own l u k)).length ri (tP l u k * (2 + k)) t2 (st.length + 1) c.M :: rowE eI t2 (st ++ [(((F ++ fillOps g k (own l u k)).length : Nat) : Int)]) :: rowE eOp oi (F ++ fillOps g k (own l u k)) :: rowE eSpan ri (rowS g l u k (tP l u k * (2 + k))) :: L) := h5
      rw [tight_writer_fills.L13_eq]
      simp only [guardN hw, Nat.zero_add, Nat.add_zero, ld, q_bs, q_I, q_B, q_P, q_S, q_M, q_c, q_a, q_gz, q_gs, q_gk, q_ct, q_cf, q_nt, q_nf, q_xt, q_xf, q_tt, q_ff, q_tf, q_ft, q_at, q_af, i64w]
      rw [wrap_id (by omega) (by omega), condD_neg (by omega)]
      rw [e3]
      simp only [e5, q_bs, q_I, q_B, q_P, q_S, q_M, q_c, q_a, q_gz, q_gs, q_gk, q_ct, q_cf, q_nt, q_nf, q_xt, q_xf, q_tt, q_ff, q_tf, q_ft, q_at, q_af]
      exact ⟨oi, ri, t2, G3, rfl, ((h5.pick 1).back 3)⟩
    | succ d ih =>
      intro i hi oi ri G1 h
      have e1 : (own l u k - i) * 2 ^ (g + k) = (own l u k - (i + 1)) * 2 ^ (g + k) + 2 ^ (g + k) := by
        rw [show own l u k - i = (own l u k - (i + 1)) + 1 by omega, Nat.succ_mul]
      have e2 : (own l u k - i) * 2 ^ (g + k) ≤ 65536 := by
        have h1 : (own l u k - i) * 2 ^ (g + k) ≤ tP l u k * (2 + k) * 2 ^ (g + k) := Nat.mul_le_mul_right _ (by omega)
        omega
      have e3 : 0 ≤ (((own l u k - (i + 1)) * 2 ^ (g + k) : Nat) : Int) := Int.natCast_nonneg _
      have e4 : (low l u k + (i + 1)) * 2 ^ (g + k) = (low l u k + i) * 2 ^ (g + k) + 2 ^ (g + k) := by rw [← Nat.add_assoc, Nat.succ_mul]
      have e5 : (low l u k + (i + 1)) * 2 ^ (g + k) ≤ 65536 := by
        have : (low l u k + (i + 1)) * 2 ^ (g + k) ≤ tP l u k * (2 + k) * 2 ^ (g + k) := Nat.mul_le_mul_right _ (by omega)
        omega
      have ld := fun off => h.ld (off := off) hw
      have hfl : (F ++ fillOps g k i).length = F.length + i := by rw [List.length_append]; simp [fillOps]
      have h2 : Hp G0 G1 (rowE eOp oi (F ++ fillOps g k i) :: wr c wid oi (F ++ fillOps g k i).length ri (low l u k + i) ti st.length (c.M - (((own l u k - i) * 2 ^ (g + k) : Nat) : Int)) :: rowE eSpan ri (rowS g l u k (low l u k + i)) :: rowE eI ti st :: L) := h.pick 1
      obtain ⟨o2, G2, h3, q3⟩ := h2.app1 (S := Res) (n := (F ++ fillOps g k i).length) ⟨1, 0, ((2 ^ (g + k) : Nat) : Int), 0, 0, 0⟩ rfl (by omega)
      have hf : fillOps g k i ++ [⟨1, 0, ((2 ^ (g + k) : Nat) : Int), 0, 0, 0⟩] = fillOps g k (i + 1) := range_snoc (fun _ => (⟨1, 0, ((2 ^ (g + k) : Nat) : Int), 0, 0, 0⟩ : OpV)) i
      rw [List.append_assoc, hf] at h3
      have h4 := h3.pick 1
      obtain ⟨G3, h5, q5⟩ := Hp.sts (off := 8) (new := [.sl 6 o2 0 ((F ++ fillOps g k i).length + 1)]) h4 hw (by simp)
      have h5 : Hp G0 G3 (wr c wid o2 ((F ++ fillOps g k i).length + 1) ri (low l u k + i) ti st.length (c.M - (((own l u k - i) * 2 ^ (g + k) : Nat) : Int)) :: rowE eOp o2 (F ++ fillOps g k (i + 1)) :: rowE eSpan ri (rowS g l u k (low l u k + i)) :: rowE eI ti st :: L) := h5
      have ld3 := fun off => h5.ld (off := off) hw
      have h6 : Hp G0 G3 (rowE eSpan ri (rowS g l u k (low l u k + i)) :: wr c wid o2 ((F ++ fillOps g k i).length + 1) ri (low l u k + i) ti st.length (c.M - (((own l u k - i) * 2 ^ (g + k) : Nat) : Int)) :: rowE eOp o2 (F ++ fillOps g k (i + 1)) :: rowE eI ti st :: L) := h5.pick 2
      obtain ⟨r2, G4, h7, q7⟩ := h6.app1 (S := Res) (n := low l u k + i) ⟨(((low l u k + i) * 2 ^ (g + k) : Nat) : Int), ((2 ^ (g + k) : Nat) : Int)⟩ (by rw [rowS_len]) (by rw [rowS_len]; omega)
      have hel : (⟨(((low l u k + i) * 2 ^ (g + k) : Nat) : Int), ((2 ^ (g + k) : Nat) : Int)⟩ : SpanV) = elS g l u k (low l u k + i) := by
        unfold elS; rw [elN_own tp.hu (by omega) (by omega)]
      rw [hel, rowS_snoc] at h7
      have h8 := h7.pick 1
      obtain ⟨G5, h9, q9⟩ := Hp.sts (off := 9) (new := [.sl 2 r2 0 (low l u k + i + 1)]) h8 hw (by simp)
      have h9 : Hp G0 G5 (wr c wid o2 ((F ++ fillOps g k i).length + 1) r2 (low l u k + i + 1) ti st.length (c.M - (((own l u k - i) * 2 ^ (g + k) : Nat) : Int)) :: rowE eSpan r2 (rowS g l u k (low l u k + i + 1)) :: rowE eOp o2 (F ++ fillOps g k (i + 1)) :: rowE eI ti st :: L) := h9
      have ld5 := fun off => h9.ld (off := off) hw
      obtain ⟨G6, h10, q10⟩ := Hp.sts (off := 10) (new := [.int .i64 (c.M - (((own l u k - (i + 1)) * 2 ^ (g + k) : Nat) : Int))]) h9 hw (by simp)
      have h10 : Hp G0 G6 (wr c wid o2 ((F ++ fillOps g k i).length + 1) r2 (low l u k + i + 1) ti st.length (c.M - (((own l u k - (i + 1)) * 2 ^ (g + k) : Nat) : Int)) :: rowE eSpan r2 (rowS g l u k (low l u k + i + 1)) :: rowE eOp o2 (F ++ fillOps g k (i + 1)) :: rowE eI ti st :: L) := h10
      rw [tight_writer_fills.L13_eq]
      simp only [guardN hw, Nat.zero_add, Nat.add_zero, ld, q_bs, q_I, q_B, q_P, q_S, q_M, q_c, q_a, q_gz, q_gs, q_gk, q_ct, q_cf, q_nt, q_nf, q_xt, q_xf, q_tt, q_ff, q_tf, q_ft, q_at, q_af, i64w]
      rw [wrap_id (by omega) (by omega), condD_pos (by omega)]
      rw [q3]
      simp only [q5, q_bs, q_I, q_B, q_P, q_S, q_M, q_c, q_a, q_gz, q_gs, q_gk, q_ct, q_cf, q_nt, q_nf, q_xt, q_xf, q_tt, q_ff, q_tf, q_ft, q_at, q_af, ld3]
      rw [q7]
      simp only [q9, q_bs, q_I, q_B, q_P, q_S, q_M, q_c, q_a, q_gz, q_gs, q_gk, q_ct, q_cf, q_nt, q_nf, q_xt, q_xf, q_tt, q_ff, q_tf, q_ft, q_at, q_af, ld5, show c.M - (((own l u k - i) * 2 ^ (g + k) : Nat) : Int) + ((2 ^ (g + k) : Nat) : Int) = c.M - (((own l u k - (i + 1)) * 2 ^ (g + k) : Nat) : Int) by omega, show (((low l u k + i) * 2 ^ (g + k) : Nat) : Int) + ((2 ^ (g + k) : Nat) : Int) = (((low l u k + (i + 1)) * 2 ^ (g + k) : Nat) : Int) by omega]
      rw [wrap_id (a := c.M - (((own l u k - (i + 1)) * 2 ^ (g + k) : Nat) : Int)) (by omega) (by omega), wrap_id (a := (((low l u k + (i + 1)) * 2 ^ (g + k) : Nat) : Int)) (by omega) (by omega), q10]
      simp only [q_bs, q_I, q_B, q_P, q_S, q_M, q_c, q_a, q_gz, q_gs, q_gk, q_ct, q_cf, q_nt, q_nf, q_xt, q_xf, q_tt, q_ff, q_tf, q_ft, q_at, q_af]
      have e11 : (F ++ fillOps g k (i + 1)).length = (F ++ fillOps g k i).length + 1 := by simp [fillOps]; omega
      exact ih (i + 1) (by omega) o2 r2 G6 (by rw [e11]; exact (h10.pick 2).pick 1)
  have e0 : F ++ fillOps g k 0 = F := by simp [fillOps]
  exact lp (own l u k) 0 (by omega) oi pi G (by rw [e0]; exact h)
theorem tight_all.sp (tp : c.Tp g l u) (w : G.wf) : ∃ wid oi pi ti G', CW tight_all.id [.agg (cfC c)] G = some ([.c (.ptr wid 0)], G') ∧
    Hp G G' [wr c wid oi (opsTo g l u (l + 1)).length pi (atS g l u (l + 1)).length ti (stTo g l u (l + 1)).length c.M, rowE eOp oi (opsTo g l u (l + 1)), rowE eSpan pi (atS g l u (l + 1)), rowE eI ti (stTo g l u (l + 1))] := by
  have hL := tp.ex.hL
  have hgl := tp.ex.hgl
  rw [tight_all.cw]
  unfold tight_all.f
  have h0 := (((Hp.refl w).nil0 (e := eI)).nil0 (e := eSpan)).nil0 (e := eOp)
  have h1 := h0.alloc (.row [.int .i64 c.G, .int .i64 c.N, .int .i64 c.M, .int .i64 c.L, .int .i64 c.Pg, .int .i64 c.P, .int .i64 c.H, .int .i64 c.Sd, .sl 6 0 0 0, .sl 2 0 0 0, .int .i64 0, .sl 1 0 0 0] false)
  dsimp only
  generalize G.next = wid at *
  generalize G.alloc _ = Ga at *
  have stage : ∀ (d k : Nat), k + d = l + 1 → ∀ (oi pi ti : Nat) (G1 : GH),
      Hp G G1 [wr c wid oi (opsTo g l u k).length pi (atS g l u k).length ti (stTo g l u k).length (if k = 0 then 0 else c.M), rowE eOp oi (opsTo g l u k), rowE eSpan pi (atS g l u k), rowE eI ti (stTo g l u k)] →
      ∃ oi pi ti G', tight_all.L19 machW CW wid 0 (k : Int) c.G c.N c.M c.L c.Pg c.P c.H c.Sd G1 = some ([.c (.ptr wid 0)], G') ∧
        Hp G G' [wr c wid oi (opsTo g l u (l + 1)).length pi (atS g l u (l + 1)).length ti (stTo g l u (l + 1)).length c.M, rowE eOp oi (opsTo g l u (l + 1)), rowE eSpan pi (atS g l u (l + 1)), rowE eI ti (stTo g l u (l + 1))] := by
    intro d
    induction d with
    | zero =>
      intro k hk oi pi ti G1 h
      obtain rfl : k = l + 1 := by omega
      rw [tight_all.L19_eq, tight_may.sp tp.ok]
      simp only [q_bs, q_I, q_B, q_P, q_S, q_M, q_c, q_a, q_gz, q_gs, q_gk, q_ct, q_cf, q_nt, q_nf, q_xt, q_xf, q_tt, q_ff, q_tf, q_ft, q_at, q_af]
      rw [decide_eq_false (by omega), tight_all.J6_eq, q_cf]
      rw [if_neg (by omega)] at h
      exact ⟨oi, pi, ti, G1, rfl, h⟩
    | succ d ih =>
      intro k hk oi pi ti G1 h
      have hkl : k ≤ l := by omega
      have hol := opsTo_len tp k (by omega)
      have hsl := stTo_len (g := g) (l := l) (u := u) k
      rw [tight_all.L19_eq, tight_may.sp tp.ok]
      simp only [q_bs, q_I, q_B, q_P, q_S, q_M, q_c, q_a, q_gz, q_gs, q_gk, q_ct, q_cf, q_nt, q_nf, q_xt, q_xf, q_tt, q_ff, q_tf, q_ft, q_at, q_af]
      rw [decide_eq_true (by omega), tight_all.J6_eq, q_ct]
      have behind : ∀ (oi pi : Nat) (G2 : GH), Hp G G2 [wr c wid oi (opsTo g l u k ++ freeOps g k (low l u k)).length pi (low l u k) ti (stTo g l u k).length (c.M - ((own l u k * 2 ^ (g + k) : Nat) : Int)), rowE eOp oi (opsTo g l u k ++ freeOps g k (low l u k)), rowE eSpan pi (rowS g l u k (low l u k)), rowE eI ti (stTo g l u k)] →
          ∃ oi pi ti G', tight_all.J13 machW CW wid 0 (k : Int) c.G c.N c.M c.L c.Pg c.P c.H c.Sd G2 = some ([.c (.ptr wid 0)], G') ∧
            Hp G G' [wr c wid oi (opsTo g l u (l + 1)).length pi (atS g l u (l + 1)).length ti (stTo g l u (l + 1)).length c.M, rowE eOp oi (opsTo g l u (l + 1)), rowE eSpan pi (atS g l u (l + 1)), rowE eI ti (stTo g l u (l + 1))] := by
        intro oi pi G2 h2
        have hfo : (opsTo g l u k ++ freeOps g k (low l u k)).length ≤ 100000000 := by
          rw [List.length_append]
          have : (freeOps g k (low l u k)).length = low l u k := by simp [freeOps]
          have := low_own (l := l) (u := u) (k := k)
          have := (tp.bound hkl).1
          omega
        obtain ⟨o3, p3, t3, G3, e3, h3⟩ := tight_writer_fills.sp tp hkl hfo (by omega) h2
        rw [tight_all.J13_eq, e3]
        simp only [q_bs, q_I, q_B, q_P, q_S, q_M, q_c, q_a, q_gz, q_gs, q_gk, q_ct, q_cf, q_nt, q_nf, q_xt, q_xf, q_tt, q_ff, q_tf, q_ft, q_at, q_af, i64w, wrap_id (a := (k : Int) + 1) (by omega) (by omega)]
        have e5 : (stTo g l u (k + 1)).length = (stTo g l u k).length + 1 := by rw [stTo_len, stTo_len]
        have e6 : (atS g l u (k + 1)).length = tP l u k * (2 + k) := rowS_len _ _
        have := ih (k + 1) (by omega) o3 p3 t3 G3 (by rw [if_neg (by omega), e5, e6]; exact h3)
        exact this
      rcases Nat.eq_zero_or_pos k with h0 | h0
      · subst h0
        rw [condD_neg (by omega)]
        refine behind oi pi G1 ?_
        have e1 : c.M - ((own l u 0 * 2 ^ (g + 0) : Nat) : Int) = 0 := by
          rw [tp.full (show 0 ≤ l by omega)]; unfold own; rw [if_pos rfl, Nat.mul_assoc]; omega
        rw [e1]
        simpa [freeOps, low, rowS, opsTo, atS] using h
      · obtain ⟨k, rfl⟩ : ∃ m, k = m + 1 := ⟨k - 1, by omega⟩
        rw [condD_pos (by omega)]
        rw [if_neg (by omega)] at h
        obtain ⟨o2, r2, G2, e2, h2⟩ := tight_writer_frees.sp tp hkl (by omega) h
        rw [e2]
        simp only [q_bs, q_I, q_B, q_P, q_S, q_M, q_c, q_a, q_gz, q_gs, q_gk, q_ct, q_cf, q_nt, q_nf, q_xt, q_xf, q_tt, q_ff, q_tf, q_ft, q_at, q_af]
        exact behind o2 r2 G2 h2
  obtain ⟨oi, pi, ti, G', e, h⟩ := stage (l + 1) 0 (by omega) 0 0 0 Ga h1
  exact ⟨wid, oi, pi, ti, G', e, h⟩
theorem tight_Script.sp (tp : c.Tp g l u) (w : G.wf) : ∃ oi G', CW tight_Script.id [.agg (cfC c)] G = some ([.c (.sl 6 oi 0 (opsTo g l u (l + 1)).length)], G') ∧ Hp G G' [rowE eOp oi (opsTo g l u (l + 1))] := by
  obtain ⟨wid, oi, pi, ti, G', e, h⟩ := tight_all.sp tp w
  have ld := fun off => h.ld (off := off) h.ne
  refine ⟨oi, G', ?_, (h.pick 1).sub (by simp [pick])⟩
  rw [tight_Script.cw]
  unfold tight_Script.f
  simp only [e, q_bs, q_I, q_B, q_P, q_S, q_M, q_c, q_a, q_gz, q_gs, q_gk, q_ct, q_cf, q_nt, q_nf, q_xt, q_xf, q_tt, q_ff, q_tf, q_ft, q_at, q_af, guardN h.ne, Nat.zero_add, ld]
theorem tight_Stages.sp (tp : c.Tp g l u) (w : G.wf) : ∃ ti G', CW tight_Stages.id [.agg (cfC c)] G = some ([.c (.sl 1 ti 0 (stTo g l u (l + 1)).length)], G') ∧ Hp G G' [rowE eI ti (stTo g l u (l + 1))] := by
  obtain ⟨wid, oi, pi, ti, G', e, h⟩ := tight_all.sp tp w
  have ld := fun off => h.ld (off := off) h.ne
  refine ⟨ti, G', ?_, (h.pick 3).sub (by simp [pick])⟩
  rw [tight_Stages.cw]
  unfold tight_Stages.f
  simp only [e, q_bs, q_I, q_B, q_P, q_S, q_M, q_c, q_a, q_gz, q_gs, q_gk, q_ct, q_cf, q_nt, q_nf, q_xt, q_xf, q_tt, q_ff, q_tf, q_ft, q_at, q_af, guardN h.ne, Nat.zero_add, ld]
end
end Go.Proofs.D.S
/- TightAll: whatever the numbers, the law answers yes. -/
set_option linter.unusedVariables false
set_option linter.unusedSimpArgs false
namespace Go.Proofs.D.S
open Go Go.RowKit
theorem hodmanlaw21_TightAll.law {G : GH} (hG : Beg G) {id : Nat} {xs : List Int} (hs : Sl G eU8 id 0 xs) (hb : Bytes xs)   : OkT (CW hodmanlaw21_TightAll.id [.c (.sl 1 id 0 xs.length)] G) := by
  obtain ⟨G1, e1, f1⟩ := hodmanlaw21_begun.sp hG
  rw [hodmanlaw21_TightAll.cw]
  unfold hodmanlaw21_TightAll.f
  simp only [e1, q_bs, q_I, q_B, q_P, q_S, q_M, q_c, q_a, q_gz, q_gs, q_gk, q_ct, q_cf, q_nt, q_nf, q_xt, q_xf, q_tt, q_ff, q_tf, q_ft, q_at, q_af]
  by_cases h6 : (xs.length : Int) > 6
  · rw [condD_pos h6]; exact ⟨_, rfl⟩
  rw [condD_neg h6]
  have h0 := Hp.refl f1.wf
  have p0 : PkOk G1 [] id 0 xs.length xs := ⟨.old (f1.sl _ _ _ _ hs), hb, rfl, by omega⟩
  obtain ⟨pid, G2, e2, h2⟩ := hodmanplay_Made.sp h0 id 0 xs.length
  obtain ⟨r, j, G3, e3, h3, rok, _, _⟩ := hodmanplay_Picks_Conf.sp h2 p0 (by omega) (by omega) true
  simp only [e2, e3, q_bs, q_I, q_B, q_P, q_S, q_M, q_c, q_a, q_gz, q_gs, q_gk, q_ct, q_cf, q_nt, q_nf, q_xt, q_xf, q_tt, q_ff, q_tf, q_ft, q_at, q_af, List.length_cons, List.length_nil, if_true]
  obtain ⟨g, c, p, sm⟩ := rok.cfSmall
  have hw := h3.wf
  clear e1 e2 e3
  generalize cfOf r = C at *
  have ok := sm.ok
  have fs := ok.facts
  have ss := sm.s
  have ex : C.Ex g c := ⟨sm.hG, sm.hN, sm.hL, by have := ss.hl; omega⟩
  rw [condD_neg (show ¬ C.G = 0 by omega)]
  obtain ⟨tg, tl, tu, tp⟩ := ok.tp
  have hol := opsTo_len tp (tl + 1) (by omega)
  have hsl := stTo_len (g := tg) (l := tl) (u := tu) (tl + 1)
  have hgl := tp.ex.hgl
  obtain ⟨oi, si, G4, e4, h4⟩ := hodmanref17_Script.sp tp hw
  obtain ⟨ti, G5, e5, h5⟩ := tight_Stages.sp tp h4.wf
  have s1 : Sl G5 eI si 0 (stTo tg tl tu (tl + 1)) := (h4.sl (by simp)).keep h5
  have s2 : Sl G5 eI ti 0 (stTo tg tl tu (tl + 1)) := h5.sl0
  have s3 : Sl G5 eOp oi 0 (opsTo tg tl tu (tl + 1)) := h4.sl0.keep h5
  have w5 := h5.wf
  simp only [e4, e5, q_bs, q_I, q_B, q_P, q_S, q_M, q_c, q_a, q_gz, q_gs, q_gk, q_ct, q_cf, q_nt, q_nf, q_xt, q_xf, q_tt, q_ff, q_tf, q_ft, q_at, q_af, decide_true]
  generalize stTo tg tl tu (tl + 1) = st at *
  generalize hops : opsTo tg tl tu (tl + 1) = ops at *
  have lp : ∀ (d i : Nat), i + d = st.length → OkT (hodmanlaw21_TightAll.L49 machW CW oi 0 ops.length si 0 st.length ti 0 st.length (i : Int) C.G C.N C.M C.L C.Pg C.P C.H C.Sd G5) := by
    intro d
    induction d with
    | zero =>
      intro i hi
      obtain ⟨o2, G6, e6, h6⟩ := tight_Script.sp tp w5
      rw [hops] at e6 h6
      rw [hodmanlaw21_TightAll.L49_eq, condD_neg (by omega)]
      simp only [e6, q_bs, q_I, q_B, q_P, q_S, q_M, q_c, q_a, q_gz, q_gs, q_gk, q_ct, q_cf, q_nt, q_nf, q_xt, q_xf, q_tt, q_ff, q_tf, q_ft, q_at, q_af]
      rw [hodmanref17_SameOps.sp h6.sl0 (s3.keep h6) (by omega), decide_eq_true rfl]
      exact ⟨_, rfl⟩
    | succ d ih =>
      intro i hi
      have hil : i < st.length := by omega
      have z : decide (0 ≤ (i : Int) ∧ (i : Int) < ((st.length : Nat) : Int)) = true := decide_eq_true (by omega)
      have r1 := s1.ld i 0 hil (by omega)
      have r2 := s2.ld i 0 hil (by omega)
      rw [Nat.add_zero] at r1 r2
      rw [hodmanlaw21_TightAll.L49_eq, condD_pos (by omega)]
      simp only [z, Int.toNat_natCast, r1, r2, q_bs, q_I, q_B, q_P, q_S, q_M, q_c, q_a, q_gz, q_gs, q_gk, q_ct, q_cf, q_nt, q_nf, q_xt, q_xf, q_tt, q_ff, q_tf, q_ft, q_at, q_af, decide_true, i64w, wrap_id (a := (i : Int) + 1) (by omega) (by omega)]
      exact ih (i + 1) (by omega)
  exact lp st.length 0 (by omega)
end Go.Proofs.D.S
